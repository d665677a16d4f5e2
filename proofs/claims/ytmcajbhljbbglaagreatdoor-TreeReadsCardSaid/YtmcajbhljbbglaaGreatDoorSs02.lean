/-
  Contracts of the parser's smallest functions: ahead, isSign, sign, want, end, fail.
  Contracts: lex.IsName, syntax.isName, the parser's name.
  Dates: isLeap, monthDays, yearsDays, Days, Val, Unstamp.
-/
import Derived.Test.YtmcajbhljbbglaaGreatDoorSs01
import Derived.Test.YtmcajbhljbbglaaGreatDoorProg
import Derived.Test.YtmcajbhljbbglaaGreatDoorPlain
set_option linter.all false
set_option linter.unusedVariables false
set_option linter.unusedSimpArgs false
set_option linter.unnecessarySimpa false
set_option linter.constructorNameAsVariable false
set_option linter.deprecated false

namespace Go.Proofs.YtmcajbhljbbglaaGreatDoor
open Go.RowKit

@[go_sem] theorem field_tok0 (x y z : Value) (w : World) : (Instr.field 89 (.agg #[x, y, z]) 0).run Tryz.prog w = .ok x w := by kernel_rfl
@[go_sem] theorem field_tok2 (x y z : Value) (w : World) : (Instr.field 89 (.agg #[x, y, z]) 2).run Tryz.prog w = .ok z w := by kernel_rfl

set_option maxHeartbeats 400000 in
theorem isSign_any (k a : Int) (s t : Bs) (w : World) : Calls Tryz.prog 165 #[.agg #[.int .i64 k, .int .i64 a, str s], str t] w fun e w' => e = .returned (.bool (k == 4 && s == t)) ∧ w.grownBy w' none := by
  by_cases hk : k = 4
  · subst hk
    go_enter Tryz.func165, Tryz.ntmps165
    go_wp2
    go_ret
    exact ⟨by simp, (by repeat (first | (with_reducible exact gb_refl _ _) | (with_reducible assumption) | (with_reducible exact gb_none (by assumption)) | (with_reducible refine gb_alloc ?_ _) | (with_reducible refine gb_drew ?_) | (with_reducible refine gb_drewN ?_ _) | ((with_reducible refine gb_set ?_ _ _ ?h2); case h2 => first | exact .inl rfl | exact .inr (Nat.le_refl _) | exact .inr (by simp <;> omega)) | (with_reducible refine gb_sub ?_ (by assumption)) | (with_reducible refine gb_trans ?_ (by assumption))))⟩
  · have hk' : (k == 4) = false := by simpa using hk
    go_enter Tryz.func165, Tryz.ntmps165
    go_wp2
    go_ret
    exact ⟨by simp [hk'], (by repeat (first | (with_reducible exact gb_refl _ _) | (with_reducible assumption) | (with_reducible exact gb_none (by assumption)) | (with_reducible refine gb_alloc ?_ _) | (with_reducible refine gb_drew ?_) | (with_reducible refine gb_drewN ?_ _) | ((with_reducible refine gb_set ?_ _ _ ?h2); case h2 => first | exact .inl rfl | exact .inr (Nat.le_refl _) | exact .inr (by simp <;> omega)) | (with_reducible refine gb_sub ?_ (by assumption)) | (with_reducible refine gb_trans ?_ (by assumption))))⟩

set_option maxHeartbeats 400000 in
theorem ahead_yes {w : World} {b : Nat} {tv wv : Value} {l : List Tok} {wl : List Bs} {i : Nat} (h : Par w b tv wv l wl i) (k : Nat) (hk : i + k < l.length) (hk2 : k ≤ 4) :
    Calls Tryz.prog 90 #[.pointer (some ⟨b, 0, none⟩), .int .i64 k] w fun e w' => e = .returned (.agg #[.int .i64 (tokAt l (i + k)).kind, .int .i64 (tokAt l (i + k)).pos, str (tokAt l (i + k)).text]) ∧ w.grownBy w' none := by
  obtain ⟨lb, lo, cap, e, hlb, _, t0, t1, t2⟩ := h.tok hk
  have c0 := h.c0
  have c1 := h.c1
  have hb := h.lt
  have hf := h.few
  rw [e] at c0
  have hlt' : decide ((l.length:Int) ≤ (i:Int) + k) = false := by simp; omega
  generalize (tokAt l (i + k)).kind = x at *
  generalize (tokAt l (i + k)).pos = y at *
  generalize (tokAt l (i + k)).text = s at *
  generalize l.length = n at *
  clear e h
  go_enter Tryz.func90, Tryz.ntmps90
  go_wp2
  go_quiet (fail)
  go_wp2
  go_region
  go_wp2
  refine bodyPost_ret (v := .agg #[.int .i64 x, .int .i64 y, str s]) ?_ rfl ⟨rfl, ?_⟩
  · simp [results, Tryz.results90, go_sem]
  · exact (by repeat (first | (with_reducible exact gb_refl _ _) | (with_reducible assumption) | (with_reducible exact gb_none (by assumption)) | (with_reducible refine gb_alloc ?_ _) | (with_reducible refine gb_drew ?_) | (with_reducible refine gb_drewN ?_ _) | ((with_reducible refine gb_set ?_ _ _ ?h2); case h2 => first | exact .inl rfl | exact .inr (Nat.le_refl _) | exact .inr (by simp <;> omega)) | (with_reducible refine gb_sub ?_ (by assumption)) | (with_reducible refine gb_trans ?_ (by assumption))))

set_option maxHeartbeats 400000 in
theorem ahead_no {w : World} {b : Nat} {tv wv : Value} {l : List Tok} {wl : List Bs} {i : Nat} (h : Par w b tv wv l wl i) (k : Nat) (hk : l.length ≤ i + k) (hk2 : k ≤ 4) :
    Calls Tryz.prog 90 #[.pointer (some ⟨b, 0, none⟩), .int .i64 k] w fun e w' => e = .returned (.agg #[.int .i64 (tokAt l (i + k)).kind, .int .i64 (tokAt l (i + k)).pos, str (tokAt l (i + k)).text]) ∧ w.grownBy w' none := by
  have et : tokAt l (i + k) = ⟨-1, 0, []⟩ := by simp [tokAt, List.getElem?_eq_none hk]
  rw [et]
  clear et
  obtain ⟨a, cap, e⟩ := h.tv_eq
  have c0 := h.c0
  have c1 := h.c1
  have hb := h.lt
  have hf := h.few
  have hle := h.le
  rw [e] at c0
  have hlt' : decide ((l.length:Int) ≤ (i:Int) + k) = true := by simp; omega
  generalize l.length = n at *
  clear e h
  go_enter Tryz.func90, Tryz.ntmps90
  go_wp2
  go_quiet (fail)
  go_wp2
  refine bodyPost_ret (v := .agg #[.int .i64 (-1), .int .i64 0, str []]) ?_ rfl ⟨rfl, ?_⟩
  · simp [results, Tryz.results90, go_sem]
  · exact (by repeat (first | (with_reducible exact gb_refl _ _) | (with_reducible assumption) | (with_reducible exact gb_none (by assumption)) | (with_reducible refine gb_alloc ?_ _) | (with_reducible refine gb_drew ?_) | (with_reducible refine gb_drewN ?_ _) | ((with_reducible refine gb_set ?_ _ _ ?h2); case h2 => first | exact .inl rfl | exact .inr (Nat.le_refl _) | exact .inr (by simp <;> omega)) | (with_reducible refine gb_sub ?_ (by assumption)) | (with_reducible refine gb_trans ?_ (by assumption))))

/-- 'ahead': the token some places on; one of no kind behind the last one -/
theorem ahead_any {w : World} {b : Nat} {tv wv : Value} {l : List Tok} {wl : List Bs} {i : Nat} (h : Par w b tv wv l wl i) (k : Nat) (hk2 : k ≤ 4) :
    Calls Tryz.prog 90 #[.pointer (some ⟨b, 0, none⟩), .int .i64 k] w fun e w' => e = .returned (.agg #[.int .i64 (tokAt l (i + k)).kind, .int .i64 (tokAt l (i + k)).pos, str (tokAt l (i + k)).text]) ∧ w.grownBy w' none := by
  by_cases hk : i + k < l.length
  · exact ahead_yes h k hk hk2
  · exact ahead_no h k (by omega) hk2

set_option maxHeartbeats 400000 in
theorem fail_any {w : World} {b : Nat} {i : Nat} (c1 : w.cell? ⟨b, 1, none⟩ = some (.int .i64 i)) :
    Calls Tryz.prog 86 #[.pointer (some ⟨b, 0, none⟩)] w fun e w' => e = .panicked (stopV i) ∧ w' = w := by
  go_enter Tryz.func86, Tryz.ntmps86
  go_wp2
  exact ⟨rfl, rfl, rfl⟩


/-- a token as a value -/
abbrev tokV (t : Tok) : Value := .agg #[.int .i64 t.kind, .int .i64 t.pos, str t.text]
theorem ahead0 {w : World} {b : Nat} {tv wv : Value} {l : List Tok} {wl : List Bs} {i : Nat} (h : Par w b tv wv l wl i) :
    Calls Tryz.prog 90 #[.pointer (some ⟨b, 0, none⟩), .int .i64 0] w fun e w' => e = .returned (tokV (tokAt l i)) ∧ w.grownBy w' none := ahead_any h 0 (by omega)
theorem ahead1 {w : World} {b : Nat} {tv wv : Value} {l : List Tok} {wl : List Bs} {i : Nat} (h : Par w b tv wv l wl i) :
    Calls Tryz.prog 90 #[.pointer (some ⟨b, 0, none⟩), .int .i64 1] w fun e w' => e = .returned (tokV (tokAt l (i + 1))) ∧ w.grownBy w' none := ahead_any h 1 (by omega)

theorem tokAt_lt {l : List Tok} {i : Nat} (h : (tokAt l i).kind ≠ -1) : i < l.length := by
  by_cases hi : i < l.length
  · exact hi
  · exact absurd (by simp [tokAt, List.getElem?_eq_none (Nat.le_of_not_lt hi)]) h
theorem sign_lt {l : List Tok} {i : Nat} {s : Bs} (h : isSignM (tokAt l i) s = true) : i < l.length := by
  apply tokAt_lt
  simp [isSignM] at h
  omega

set_option maxHeartbeats 400000 in
theorem sign_yes {w : World} {b : Nat} {tv wv : Value} {l : List Tok} {wl : List Bs} {i : Nat} (h : Par w b tv wv l wl i) (s : Bs) (hs : isSignM (tokAt l i) s = true) :
    Calls Tryz.prog 117 #[.pointer (some ⟨b, 0, none⟩), str s] w fun e w' => e = .returned (.bool true) ∧ Par w' b tv wv l wl (i + 1) ∧ w.grownBy w' (some b) := by
  have hi := sign_lt hs
  have hs' : ((tokAt l i).kind == 4 && (tokAt l i).text == s) = true := hs
  have hf := h.few
  clear hs
  go_enter Tryz.func117, Tryz.ntmps117
  go_wp2_with fail
  refine (ahead0 h).mono ?_
  rintro e w1 ⟨rfl, g1⟩
  go_wp2_with fail
  refine (isSign_any _ _ _ _ _).mono ?_
  rintro e w2 ⟨rfl, g2⟩
  rw [hs']
  have h2 := (h.gbN g1).gbN g2
  have c1 := h2.c1
  have f1 := h2.f1
  go_wp2
  go_ret
  exact ⟨rfl, h2.goI _ _ (by omega) (by omega), (by repeat (first | (with_reducible exact gb_refl _ _) | (with_reducible assumption) | (with_reducible exact gb_none (by assumption)) | (with_reducible refine gb_alloc ?_ _) | (with_reducible refine gb_drew ?_) | (with_reducible refine gb_drewN ?_ _) | ((with_reducible refine gb_set ?_ _ _ ?h2); case h2 => first | exact .inl rfl | exact .inr (Nat.le_refl _) | exact .inr (by simp <;> omega)) | (with_reducible refine gb_sub ?_ (by assumption)) | (with_reducible refine gb_trans ?_ (by assumption))))⟩

set_option maxHeartbeats 400000 in
theorem sign_no {w : World} {b : Nat} {tv wv : Value} {l : List Tok} {wl : List Bs} {i : Nat} (h : Par w b tv wv l wl i) (s : Bs) (hs : isSignM (tokAt l i) s = false) :
    Calls Tryz.prog 117 #[.pointer (some ⟨b, 0, none⟩), str s] w fun e w' => e = .returned (.bool false) ∧ w.grownBy w' none := by
  have hs' : ((tokAt l i).kind == 4 && (tokAt l i).text == s) = false := hs
  clear hs
  go_enter Tryz.func117, Tryz.ntmps117
  go_wp2_with fail
  refine (ahead0 h).mono ?_
  rintro e w1 ⟨rfl, g1⟩
  go_wp2_with fail
  refine (isSign_any _ _ _ _ _).mono ?_
  rintro e w2 ⟨rfl, g2⟩
  rw [hs']
  go_wp2
  go_ret
  exact ⟨rfl, gb_trans g1 g2⟩

set_option maxHeartbeats 400000 in
theorem want_any {w : World} {b : Nat} {tv wv : Value} {l : List Tok} {wl : List Bs} {i : Nat} (h : Par w b tv wv l wl i) (s : Bs) :
    Calls Tryz.prog 134 #[.pointer (some ⟨b, 0, none⟩), str s] w (Post b tv wv l wl w (fun _ v _ => v = .tuple #[]) (wantM l s i)) := by
  by_cases hs : isSignM (tokAt l i) s = true
  · unfold wantM
    rw [if_pos hs]
    go_enter Tryz.func134, Tryz.ntmps134
    go_wp2_with fail
    refine (sign_yes h s hs).mono ?_
    rintro e w1 ⟨rfl, h1, g1⟩
    go_wp2
    go_end0
    exact ⟨g1, _, rfl, rfl, h1⟩
  · unfold wantM
    rw [if_neg hs]
    have hs' : isSignM (tokAt l i) s = false := by simpa using hs
    clear hs
    go_enter Tryz.func134, Tryz.ntmps134
    go_wp2_with fail
    refine (sign_no h s hs').mono ?_
    rintro e w1 ⟨rfl, g1⟩
    have c1 := (h.gbN g1).c1
    go_wp2_with fail
    refine (fail_any c1).mono ?_
    rintro e w2 ⟨rfl, rfl⟩
    exact ⟨rfl, gb_none g1, rfl⟩

set_option maxHeartbeats 400000 in
theorem end_any {w : World} {b : Nat} {tv wv : Value} {l : List Tok} {wl : List Bs} {i : Nat} (h : Par w b tv wv l wl i) :
    Calls Tryz.prog 57 #[.pointer (some ⟨b, 0, none⟩)] w (Post b tv wv l wl w (fun _ v _ => v = .tuple #[]) (endM l i)) := by
  have hf := h.few
  by_cases hs : (tokAt l i).kind = 5
  · have hi : i < l.length := tokAt_lt (by omega)
    have hs' : ((tokAt l i).kind == 5) = true := by simpa using hs
    unfold endM
    rw [if_pos hs']
    have H := Lib.hid hs
    clear hs hs'
    go_enter Tryz.func57, Tryz.ntmps57
    go_wp2_with fail
    refine (ahead0 h).mono ?_
    rintro e w1 ⟨rfl, g1⟩
    rw [tokV, H.out]
    have h1 := h.gbN g1
    have c1 := h1.c1
    have f1 := h1.f1
    go_wp2
    go_end0
    exact ⟨(by repeat (first | (with_reducible exact gb_refl _ _) | (with_reducible assumption) | (with_reducible exact gb_none (by assumption)) | (with_reducible refine gb_alloc ?_ _) | (with_reducible refine gb_drew ?_) | (with_reducible refine gb_drewN ?_ _) | ((with_reducible refine gb_set ?_ _ _ ?h2); case h2 => first | exact .inl rfl | exact .inr (Nat.le_refl _) | exact .inr (by simp <;> omega)) | (with_reducible refine gb_sub ?_ (by assumption)) | (with_reducible refine gb_trans ?_ (by assumption)))), _, rfl, rfl, h1.goI _ _ (by omega) (by omega)⟩
  · have hs' : ((tokAt l i).kind == 5) = false := by simpa using hs
    unfold endM
    rw [if_neg (by simpa using hs')]
    go_enter Tryz.func57, Tryz.ntmps57
    go_wp2_with fail
    refine (ahead0 h).mono ?_
    rintro e w1 ⟨rfl, g1⟩
    have c1 := (h.gbN g1).c1
    go_wp2_with fail
    refine (fail_any c1).mono ?_
    rintro e w2 ⟨rfl, rfl⟩
    exact ⟨rfl, gb_none g1, rfl⟩

end Go.Proofs.YtmcajbhljbbglaaGreatDoor

namespace Go.Proofs.YtmcajbhljbbglaaGreatDoor
open Go.RowKit

theorem gbB {w w' : World} (h : Below w.heap.size w w') (r : Option Nat) : w.grownBy w' r := ⟨h.os, h.tape, h.output, h.size, fun k hk _ => h.block k hk⟩

/-! ### what strings.Trim leaves -/
theorem trimS_nil (l cs : List UInt8) : (Lib.trimS l cs == []) = l.all (cs.contains ·) := by
  have h1 : ∀ l : List UInt8, (l.dropWhile (cs.contains ·) == []) = l.all (cs.contains ·) := by
    intro l
    induction l with
    | nil => rfl
    | cons a t ih =>
      simp only [List.dropWhile_cons, List.all_cons]
      cases cs.contains a
      · simp
      · simpa using ih
  have h2 : ∀ l : List UInt8, ((l.reverse.dropWhile (cs.contains ·)).reverse).all (cs.contains ·) = l.all (cs.contains ·) := by
    intro l
    have : ∀ m : List UInt8, (m.dropWhile (cs.contains ·)).all (cs.contains ·) = m.all (cs.contains ·) := by
      intro m
      induction m with
      | nil => rfl
      | cons a t ih =>
        simp only [List.dropWhile_cons, List.all_cons]
        cases h : cs.contains a
        · show (a :: t).all _ = _
          rw [List.all_cons, h]
        · simpa using ih
    rw [List.all_reverse, this, List.all_reverse]
  unfold Lib.trimS Lib.trimLeftS
  rw [h1]
  exact h2 l

def nameSet : List UInt8 := [65, 66, 67, 68, 69, 70, 71, 72, 73, 74, 75, 76, 77, 78, 79, 80, 81, 82, 83, 84, 85, 86, 87, 88, 89, 90, 48, 49, 50, 51, 52, 53, 54, 55, 56, 57, 95]
theorem nameSet_eq (b : UInt8) : nameSet.contains b = nameByte b := by
  have h : ∀ n : Fin 256, nameSet.contains (UInt8.ofNat n.val) = nameByte (UInt8.ofNat n.val) := by decide +kernel
  have := h ⟨b.toNat, b.toNat_lt⟩
  simpa using this
theorem trim_name (l : List UInt8) : (Lib.trimS l nameSet == []) = l.all nameByte := by
  rw [trimS_nil]
  congr 1
  funext b
  exact nameSet_eq b

theorem ba_get0 (c : UInt8) (t : List UInt8) (h : 0 < (⟨(c :: t).toArray⟩ : ByteArray).size) : (⟨(c :: t).toArray⟩ : ByteArray)[0]'h = c := rfl

set_option maxRecDepth 20000 in
set_option maxHeartbeats 1000000 in
theorem lexIsName_any (s : Bs) (w : World) (hs : s.length ≤ 1000000) : Calls Tryz.prog 184 #[str s] w fun e w' => e = .returned (.bool (isNameM s)) ∧ w.grownBy w' none := by
  cases s with
  | nil =>
    go_enter Tryz.func184, Tryz.ntmps184
    go_wp2
    go_ret
    exact ⟨rfl, gb_refl _ _⟩
  | cons c t =>
    simp only [List.length_cons] at hs
    have hg := ba_get0 c t
    by_cases h10 : t.length ≤ 9
    · by_cases hd : 48 ≤ c.toNat ∧ c.toNat ≤ 57
      · have hm : isNameM (c :: t) = false := by simp [isNameM, UInt8.le_iff_toNat_le, hd]
        rw [hm]
        clear hm
        obtain ⟨hd1, hd2⟩ := hd
        go_enter Tryz.func184, Tryz.ntmps184
        go_wp2
        go_ret
        exact ⟨rfl, gb_refl _ _⟩
      · have hm : isNameM (c :: t) = (c :: t).all nameByte := by
          have e1 : decide ((c :: t).length ≤ 10) = true := by simp; omega
          have e2 : (decide (48 ≤ c) && decide (c ≤ 57)) = false := by
            rw [Bool.and_eq_false_iff, decide_eq_false_iff_not, decide_eq_false_iff_not, UInt8.le_iff_toNat_le, UInt8.le_iff_toNat_le]
            have : (48 : UInt8).toNat = 48 := rfl
            have : (57 : UInt8).toNat = 57 := rfl
            omega
          simp only [isNameM, e1, e2]
          rfl
        rw [hm, ← trim_name]
        clear hm
        have hc : c.toNat < 48 ∨ 57 < c.toNat := by omega
        rcases hc with hc | hc
        all_goals
          clear hd
          go_enter Tryz.func184, Tryz.ntmps184
          go_wp2_with fail
          refine (Tryz.strings_Trim ⟨(c :: t).toArray⟩ ⟨nameSet.toArray⟩ _ (by simp [ByteArray.size]; omega) (by decide) (ascii_of_all (by decide))).mono ?_
          rintro e w1 ⟨rfl, hb⟩
          have hgb := gbB hb none
          generalize hz : Lib.trimS (c :: t) nameSet = z at *
          have HZ := Lib.hid hz
          clear hz hb
          go_wp2
          go_ret
          refine ⟨?_, hgb⟩
          rw [HZ.out]
          cases z <;> rfl
    · have hm : isNameM (c :: t) = false := by simp [isNameM]; omega
      rw [hm]
      clear hm
      go_enter Tryz.func184, Tryz.ntmps184
      go_wp2
      go_ret
      exact ⟨rfl, gb_refl _ _⟩

theorem isName_any (s : Bs) (w : World) (hs : s.length ≤ 1000000) : Calls Tryz.prog 132 #[str s] w fun e w' => e = .returned (.bool (isNameM s)) ∧ w.grownBy w' none := by
  go_enter Tryz.func132, Tryz.ntmps132
  go_wp2_with fail
  refine (lexIsName_any s w hs).mono ?_
  rintro e w1 ⟨rfl, hb⟩
  go_wp2
  go_ret
  exact ⟨rfl, hb⟩

theorem nameM_lt {l : List Tok} {i : Nat} (h : (tokAt l i).kind = 0) : i < l.length := tokAt_lt (by omega)

/-- what is asked of tokens: no text is longer than a source -/
def Short (l : List Tok) : Prop := ∀ i, (tokAt l i).text.length ≤ 4000

set_option maxRecDepth 20000 in
set_option maxHeartbeats 1000000 in
theorem name_any {w : World} {b : Nat} {tv wv : Value} {l : List Tok} {wl : List Bs} {i : Nat} (h : Par w b tv wv l wl i) (hl : Short l) :
    Calls Tryz.prog 98 #[.pointer (some ⟨b, 0, none⟩)] w (Post b tv wv l wl w (fun _ v x => v = str x) (nameM l i)) := by
  have hb := h.lt
  have hf := h.few
  by_cases hk : (tokAt l i).kind = 0
  · have hi := nameM_lt hk
    have hs := hl i
    cases hn : isNameM (tokAt l i).text with
    | true =>
      have HM := Lib.hid (show nameM l i = .ok (tokAt l i).text (i + 1) by simp [nameM, hk, hn])
      have HK := Lib.hid hk
      have HN := Lib.hid hn
      clear hk hn
      go_enter Tryz.func98, Tryz.ntmps98
      go_wp2_with fail
      refine (ahead0 h).mono ?_
      rintro e w1 ⟨rfl, g1⟩
      rw [tokV, HK.out]
      go_wp2_with fail
      refine (isName_any _ _ (by omega)).mono ?_
      rintro e w2 ⟨rfl, g2⟩
      rw [HN.out]
      have h2 : Par w2 b tv wv l wl i := h.gbN (by repeat (first | (with_reducible exact gb_refl _ _) | (with_reducible assumption) | (with_reducible exact gb_none (by assumption)) | (with_reducible refine gb_alloc ?_ _) | (with_reducible refine gb_drew ?_) | (with_reducible refine gb_drewN ?_ _) | ((with_reducible refine gb_set ?_ _ _ ?h2); case h2 => first | exact .inl rfl | exact .inr (Nat.le_refl _) | exact .inr (by simp <;> omega)) | (with_reducible refine gb_sub ?_ (by assumption)) | (with_reducible refine gb_trans ?_ (by assumption))))
      have c1 := h2.c1
      have f1 := h2.f1
      have ct : w2.cell? ⟨w1.heap.size, 2, none⟩ = some (str (tokAt l i).text) := gb_cellN g2 (by simp)
      have hlt := g1.size
      go_wp2
      go_ret
      exact Post.ok (by repeat (first | (with_reducible exact gb_refl _ _) | (with_reducible assumption) | (with_reducible exact gb_none (by assumption)) | (with_reducible refine gb_alloc ?_ _) | (with_reducible refine gb_drew ?_) | (with_reducible refine gb_drewN ?_ _) | ((with_reducible refine gb_set ?_ _ _ ?h2); case h2 => first | exact .inl rfl | exact .inr (Nat.le_refl _) | exact .inr (by simp <;> omega)) | (with_reducible refine gb_sub ?_ (by assumption)) | (with_reducible refine gb_trans ?_ (by assumption)))) HM.out rfl (h2.goI _ _ (by omega) (by omega))
    | false =>
      have HM := Lib.hid (show nameM l i = .bad i by simp [nameM, hn])
      have HK := Lib.hid hk
      have HN := Lib.hid hn
      clear hk hn
      go_enter Tryz.func98, Tryz.ntmps98
      go_wp2_with fail
      refine (ahead0 h).mono ?_
      rintro e w1 ⟨rfl, g1⟩
      rw [tokV, HK.out]
      go_wp2_with fail
      refine (isName_any _ _ (by omega)).mono ?_
      rintro e w2 ⟨rfl, g2⟩
      rw [HN.out]
      have h2 : Par w2 b tv wv l wl i := h.gbN (by repeat (first | (with_reducible exact gb_refl _ _) | (with_reducible assumption) | (with_reducible exact gb_none (by assumption)) | (with_reducible refine gb_alloc ?_ _) | (with_reducible refine gb_drew ?_) | (with_reducible refine gb_drewN ?_ _) | ((with_reducible refine gb_set ?_ _ _ ?h2); case h2 => first | exact .inl rfl | exact .inr (Nat.le_refl _) | exact .inr (by simp <;> omega)) | (with_reducible refine gb_sub ?_ (by assumption)) | (with_reducible refine gb_trans ?_ (by assumption))))
      go_wp2_with fail
      refine (fail_any h2.c1).mono ?_
      rintro e w3 ⟨rfl, rfl⟩
      exact ⟨rfl, Post.bad (by repeat (first | (with_reducible exact gb_refl _ _) | (with_reducible assumption) | (with_reducible exact gb_none (by assumption)) | (with_reducible refine gb_alloc ?_ _) | (with_reducible refine gb_drew ?_) | (with_reducible refine gb_drewN ?_ _) | ((with_reducible refine gb_set ?_ _ _ ?h2); case h2 => first | exact .inl rfl | exact .inr (Nat.le_refl _) | exact .inr (by simp <;> omega)) | (with_reducible refine gb_sub ?_ (by assumption)) | (with_reducible refine gb_trans ?_ (by assumption)))) HM.out⟩
  · have HM := Lib.hid (show nameM l i = .bad i by simp [nameM, hk])
    have hk' : ((tokAt l i).kind == 0) = false := by simpa using hk
    have hk2 : ((tokAt l i).kind != 0) = true := by simpa using hk
    clear hk
    go_enter Tryz.func98, Tryz.ntmps98
    go_wp2_with fail
    refine (ahead0 h).mono ?_
    rintro e w1 ⟨rfl, g1⟩
    have h1 : ∀ o, Par (w1.alloc o) b tv wv l wl i := fun o => (h.gbN g1).alloc o
    go_wp2_with fail
    refine (fail_any (h1 _).c1).mono ?_
    rintro e w3 ⟨rfl, rfl⟩
    exact ⟨rfl, Post.bad (by repeat (first | (with_reducible exact gb_refl _ _) | (with_reducible assumption) | (with_reducible exact gb_none (by assumption)) | (with_reducible refine gb_alloc ?_ _) | (with_reducible refine gb_drew ?_) | (with_reducible refine gb_drewN ?_ _) | ((with_reducible refine gb_set ?_ _ _ ?h2); case h2 => first | exact .inl rfl | exact .inr (Nat.le_refl _) | exact .inr (by simp <;> omega)) | (with_reducible refine gb_sub ?_ (by assumption)) | (with_reducible refine gb_trans ?_ (by assumption)))) HM.out⟩

end Go.Proofs.YtmcajbhljbbglaaGreatDoor

namespace Go.Proofs.YtmcajbhljbbglaaGreatDoor
open Go.RowKit

def leapM (y : Int) : Bool := (y.tmod 4 == 0) && ((y.tmod 100 != 0) || (y.tmod 400 == 0))
def monthM (y m : Int) : Int := if m == 2 && leapM y then 29 else ([31, 28, 31, 30, 31, 30, 31, 31, 30, 31, 30, 31] : List Int).getD (m - 1).toNat 0
def yearsM (y : Int) : Int := 365 * (y - 1) + (y - 1).tdiv 4 - (y - 1).tdiv 100 + (y - 1).tdiv 400

set_option maxRecDepth 20000 in
theorem isLeap_any (y : Int) (h0 : 0 ≤ y) (h1 : y ≤ 100000) (w : World) : Calls Tryz.prog 284 #[.int .i64 y] w fun e w' => e = .returned (.bool (leapM y)) ∧ w' = w := by
  have b4 := Int.tmod_lt_of_pos y (b := 4) (by decide)
  have b100 := Int.tmod_lt_of_pos y (b := 100) (by decide)
  have b400 := Int.tmod_lt_of_pos y (b := 400) (by decide)
  have c4 := Int.tmod_nonneg (a := y) 4 h0
  have c100 := Int.tmod_nonneg (a := y) 100 h0
  have c400 := Int.tmod_nonneg (a := y) 400 h0
  unfold leapM
  generalize e4 : y.tmod 4 = a at *
  generalize e100 : y.tmod 100 = b at *
  generalize e400 : y.tmod 400 = c at *
  by_cases h4 : a = 0
  · by_cases h100 : b = 0
    · go_enter Tryz.func284, Tryz.ntmps284
      go_wp2
      go_ret
      exact ⟨by simp [h4, h100], rfl⟩
    · go_enter Tryz.func284, Tryz.ntmps284
      go_wp2
      go_ret
      exact ⟨by simp [h4, h100], rfl⟩
  · go_enter Tryz.func284, Tryz.ntmps284
    go_wp2
    go_ret
    exact ⟨by simp [h4], rfl⟩

set_option maxRecDepth 20000 in
theorem yearsDays_any (y : Int) (h0 : 0 ≤ y) (h1 : y ≤ 100000) (w : World) : Calls Tryz.prog 270 #[.int .i64 y] w fun e w' => e = .returned (.int .i64 (yearsM y)) ∧ w' = w := by
  have hb4 : -100000 ≤ (y - 1).tdiv 4 ∧ (y - 1).tdiv 4 ≤ 100000 := by
    rcases Int.lt_or_le y 1 with h | h
    · have : y = 0 := by omega
      subst this; decide
    · rw [Int.tdiv_eq_ediv_of_nonneg (by omega)]; omega
  have hb100 : -100000 ≤ (y - 1).tdiv 100 ∧ (y - 1).tdiv 100 ≤ 100000 := by
    rcases Int.lt_or_le y 1 with h | h
    · have : y = 0 := by omega
      subst this; decide
    · rw [Int.tdiv_eq_ediv_of_nonneg (by omega)]; omega
  have hb400 : -100000 ≤ (y - 1).tdiv 400 ∧ (y - 1).tdiv 400 ≤ 100000 := by
    rcases Int.lt_or_le y 1 with h | h
    · have : y = 0 := by omega
      subst this; decide
    · rw [Int.tdiv_eq_ediv_of_nonneg (by omega)]; omega
  unfold yearsM
  generalize e4 : (y - 1).tdiv 4 = a at *
  generalize e100 : (y - 1).tdiv 100 = b at *
  generalize e400 : (y - 1).tdiv 400 = c at *
  go_enter Tryz.func270, Tryz.ntmps270
  go_wp2
  go_ret
  exact ⟨rfl, rfl⟩

set_option maxRecDepth 20000 in
set_option maxHeartbeats 4000000 in
theorem monthDays_any (y m : Int) (h0 : 0 ≤ y) (h1 : y ≤ 100000) (hm0 : 1 ≤ m) (hm1 : m ≤ 12) (w : World) : Calls Tryz.prog 269 #[.int .i64 y, .int .i64 m] w fun e w' => e = .returned (.int .i64 (monthM y m)) ∧ w.grownBy w' none := by
  have hm : m = 1 ∨ m = 2 ∨ m = 3 ∨ m = 4 ∨ m = 5 ∨ m = 6 ∨ m = 7 ∨ m = 8 ∨ m = 9 ∨ m = 10 ∨ m = 11 ∨ m = 12 := by omega
  rcases hm with rfl | rfl | rfl | rfl | rfl | rfl | rfl | rfl | rfl | rfl | rfl | rfl
  case inr.inl =>
    go_enter Tryz.func269, Tryz.ntmps269
    go_wp2_with fail
    refine (isLeap_any y h0 h1 _).mono ?_
    rintro e w1 ⟨rfl, rfl⟩
    cases hl : leapM y with
    | true =>
      go_wp2
      go_ret
      exact ⟨by simp [monthM, hl], (by repeat (first | (with_reducible exact gb_refl _ _) | (with_reducible assumption) | (with_reducible exact gb_none (by assumption)) | (with_reducible refine gb_alloc ?_ _) | (with_reducible refine gb_drew ?_) | (with_reducible refine gb_drewN ?_ _) | ((with_reducible refine gb_set ?_ _ _ ?h2); case h2 => first | exact .inl rfl | exact .inr (Nat.le_refl _) | exact .inr (by simp <;> omega)) | (with_reducible refine gb_sub ?_ (by assumption)) | (with_reducible refine gb_trans ?_ (by assumption))))⟩
    | false =>
      go_wp2
      go_ret
      exact ⟨by simp [monthM, hl], (by repeat (first | (with_reducible exact gb_refl _ _) | (with_reducible assumption) | (with_reducible exact gb_none (by assumption)) | (with_reducible refine gb_alloc ?_ _) | (with_reducible refine gb_drew ?_) | (with_reducible refine gb_drewN ?_ _) | ((with_reducible refine gb_set ?_ _ _ ?h2); case h2 => first | exact .inl rfl | exact .inr (Nat.le_refl _) | exact .inr (by simp <;> omega)) | (with_reducible refine gb_sub ?_ (by assumption)) | (with_reducible refine gb_trans ?_ (by assumption))))⟩
  all_goals
    go_enter Tryz.func269, Tryz.ntmps269
    go_wp2
    go_ret
    exact ⟨rfl, (by repeat (first | (with_reducible exact gb_refl _ _) | (with_reducible assumption) | (with_reducible exact gb_none (by assumption)) | (with_reducible refine gb_alloc ?_ _) | (with_reducible refine gb_drew ?_) | (with_reducible refine gb_drewN ?_ _) | ((with_reducible refine gb_set ?_ _ _ ?h2); case h2 => first | exact .inl rfl | exact .inr (Nat.le_refl _) | exact .inr (by simp <;> omega)) | (with_reducible refine gb_sub ?_ (by assumption)) | (with_reducible refine gb_trans ?_ (by assumption))))⟩

theorem monthM_le (y m : Int) (hm0 : 1 ≤ m) (hm1 : m ≤ 12) : 0 ≤ monthM y m ∧ monthM y m ≤ 31 := by
  have hm : m = 1 ∨ m = 2 ∨ m = 3 ∨ m = 4 ∨ m = 5 ∨ m = 6 ∨ m = 7 ∨ m = 8 ∨ m = 9 ∨ m = 10 ∨ m = 11 ∨ m = 12 := by omega
  unfold monthM
  rcases hm with rfl | rfl | rfl | rfl | rfl | rfl | rfl | rfl | rfl | rfl | rfl | rfl <;> (try split) <;> decide

/-- days of the months before the one of number k + 1 -/
def beforeM (y : Int) : Nat → Int
  | 0 => 0
  | k + 1 => beforeM y k + monthM y (k + 1)
theorem beforeM_le (y : Int) : ∀ k : Nat, k ≤ 12 → 0 ≤ beforeM y k ∧ beforeM y k ≤ 31 * k := by
  intro k
  induction k with
  | zero => intro _; simp [beforeM]
  | succ k ih =>
    intro hk
    have h1 := ih (by omega)
    have h2 := monthM_le y (k + 1) (by omega) (by omega)
    unfold beforeM
    omega

def badDay (y m d : Int) : Bool := decide (y < 1) || decide (9999 < y) || decide (m < 1) || decide (12 < m) || decide (d < 1) || decide (monthM y m < d)
def daysM (y m d : Int) : Int × Int := if badDay y m d then (0, 1) else (yearsM y + d + beforeM y (m - 1).toNat, 0)

end Go.Proofs.YtmcajbhljbbglaaGreatDoor
