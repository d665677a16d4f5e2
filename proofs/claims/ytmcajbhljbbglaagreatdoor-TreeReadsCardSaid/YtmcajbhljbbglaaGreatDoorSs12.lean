/-
  The lexer: dates.
  The lexer: a token.
  The lexer: a token that is a number.
-/
import Derived.Test.YtmcajbhljbbglaaGreatDoorSs11
set_option linter.all false
set_option linter.unusedVariables false
set_option linter.unusedSimpArgs false
set_option linter.unnecessarySimpa false
set_option linter.constructorNameAsVariable false
set_option linter.deprecated false

namespace Go.Proofs.YtmcajbhljbbglaaGreatDoor
open Go.RowKit

def DatePost (w : World) (t : Bs) (e : Ending) (w' : World) : Prop := w.grownBy w' none ∧ match dateM t with
  | some (d, n) => e = .returned (.tuple #[str d, .int .i64 n, .bool true])
  | none => ∃ d n, e = .returned (.tuple #[str d, .int .i64 n, .bool false])
section
variable {w w' : World} {t d : Bs} {n : Nat} {m : Int}
theorem datePost_some (h : dateM t = some (d, n)) (g : w.grownBy w' none) (hm : m = n) : DatePost w t (.returned (.tuple #[str d, .int .i64 m, .bool true])) w' := by
  subst hm
  unfold DatePost; rw [h]; exact ⟨g, rfl⟩
theorem datePost_none (h : dateM t = none) (g : w.grownBy w' none) : DatePost w t (.returned (.tuple #[str d, .int .i64 m, .bool false])) w' := by
  unfold DatePost; rw [h]; exact ⟨g, d, m, rfl⟩
end

theorem dateM_braces {t : Bs} (h : [123, 125].isPrefixOf t = true) : dateM t = some ([], 2) := if_pos h
theorem dateM_form {t : Bs} (h : [123, 125].isPrefixOf t = false) (hf : dateForm t = false) : dateM t = none := by
  unfold dateM; rw [if_neg (by rw [h]; simp), if_neg (by rw [hf]; simp)]
theorem dateM_yes {t : Bs} (h : [123, 125].isPrefixOf t = false) (hf : dateForm t = true) (h1 : (unstampM (dateDigits t)).2 = true) (h2 : dateDigits t ≠ blanks8) : dateM t = some (dateDigits t, 13) := by
  unfold dateM; rw [if_neg (by rw [h]; simp), if_pos hf, if_pos (by simp [h1, h2])]
theorem dateM_no {t : Bs} (h : [123, 125].isPrefixOf t = false) (hf : dateForm t = true) (h1 : (unstampM (dateDigits t)).2 = false ∨ dateDigits t = blanks8) : dateM t = none := by
  unfold dateM; rw [if_neg (by rw [h]; simp), if_pos hf, if_neg (by rcases h1 with h1 | h1 <;> simp [h1])]

theorem prefix_all (t p : Bs) {r : Bool} (hr : p.isPrefixOf t = r) (w : World) :
    Calls Tryz.prog 111 #[.string ⟨t.toArray⟩, .string ⟨p.toArray⟩] w fun e w' => e = .returned (.bool r) ∧ w = w' := by
  subst hr
  refine (Tryz.strings_HasPrefix _ _ _).mono ?_
  rintro e w' ⟨rfl, rfl⟩
  exact ⟨rfl, rfl⟩

theorem thirteen {t : Bs} (h : 13 ≤ t.length) : ∃ a0 a1 a2 a3 a4 a5 a6 a7 a8 a9 a10 a11 a12 r, t = a0 :: a1 :: a2 :: a3 :: a4 :: a5 :: a6 :: a7 :: a8 :: a9 :: a10 :: a11 :: a12 :: r := by
  match t, h with
  | a0 :: a1 :: a2 :: a3 :: a4 :: a5 :: a6 :: a7 :: a8 :: a9 :: a10 :: a11 :: a12 :: r, _ => exact ⟨_, _, _, _, _, _, _, _, _, _, _, _, _, _, rfl⟩

theorem u8_45 {a : UInt8} {r : Bool} (h : ((a.toNat : Int) != 45) = r) : (a == 45) = !r := by
  subst h
  by_cases e : a = 45
  · subst e; rfl
  · have h1 : a.toNat ≠ 45 := fun h => e (UInt8.toNat_inj.1 h)
    have h2 : ((a.toNat : Int) == 45) = false := by simp; omega
    have h3 : (a == 45) = false := by simpa using e
    simp [bne, h2, h3]
theorem u8_125 {a : UInt8} {r : Bool} (h : ((a.toNat : Int) != 125) = r) : (a == 125) = !r := by
  subst h
  by_cases e : a = 125
  · subst e; rfl
  · have h1 : a.toNat ≠ 125 := fun h => e (UInt8.toNat_inj.1 h)
    have h2 : ((a.toNat : Int) == 125) = false := by simp; omega
    have h3 : (a == 125) = false := by simpa using e
    simp [bne, h2, h3]

set_option maxRecDepth 20000 in
set_option maxHeartbeats 4000000 in
theorem date_any {w : World} {b : Nat} {s : Bs} {i : Nat} {line begun : Bool} {bad : Int} (h : Sc w b s i line begun bad) :
    Calls Tryz.prog 162 #[.pointer (some ⟨b, 0, none⟩)] w (DatePost w (s.drop i)) := by
  have hb := h.lt
  have hf := h.few
  have hi := h.le
  have c0 := h.c0
  have c1 := h.c1
  have hx := ba_tail s i
  have HX := Lib.hid hx
  have hle : decide ((i : Int) ≤ s.length) = true := by simp; omega
  have htl : (s.drop i).length ≤ 4000 := by simp; omega
  clear hx h
  generalize hts : s.drop i = t at *
  clear hts
  cases hp : [123, 125].isPrefixOf t with
  | true =>
    have HM := Lib.hid (dateM_braces hp)
    go_enter Tryz.func162, Tryz.ntmps162
    go_wp2_with fail
    go_quiet (fail)
    rw [HX.out]
    go_wp2_with fail
    refine (prefix_all t [123, 125] hp _).mono ?_
    rintro e w1 ⟨rfl, rfl⟩
    go_wp2
    exact bodyPost_ret (v := .tuple #[str [], .int .i64 2, .bool true]) (by simp [results, Tryz.results162, go_sem]) rfl (datePost_some HM.out (by repeat (first | (with_reducible exact gb_refl _ _) | (with_reducible assumption) | (with_reducible exact gb_none (by assumption)) | (with_reducible refine gb_alloc ?_ _) | (with_reducible refine gb_drew ?_) | (with_reducible refine gb_drewN ?_ _) | ((with_reducible refine gb_set ?_ _ _ ?h2); case h2 => first | exact .inl rfl | exact .inr (Nat.le_refl _) | exact .inr (by simp <;> omega)) | (with_reducible refine gb_sub ?_ (by assumption)) | (with_reducible refine gb_trans ?_ (by assumption)))) rfl)
  | false =>
    by_cases h13 : 13 ≤ t.length
    · obtain ⟨a0, a1, a2, a3, a4, a5, a6, a7, a8, a9, a10, a11, a12, r, ht⟩ := thirteen h13
      have hx1 : (⟨t.toArray⟩ : ByteArray).extract 0 2 = ⟨[a0, a1].toArray⟩ := by rw [ba_extract, ht]; rfl
      have hx2 : (⟨t.toArray⟩ : ByteArray).extract 2 6 = ⟨[a2, a3, a4, a5].toArray⟩ := by rw [ba_extract, ht]; rfl
      have hx3 : (⟨t.toArray⟩ : ByteArray).extract 7 9 = ⟨[a7, a8].toArray⟩ := by rw [ba_extract, ht]; rfl
      have hx4 : (⟨t.toArray⟩ : ByteArray).extract 10 12 = ⟨[a10, a11].toArray⟩ := by rw [ba_extract, ht]; rfl
      have hg6 : ∀ h, (⟨t.toArray⟩ : ByteArray)[6]'h = a6 := by subst ht; intro h; rfl
      have hg9 : ∀ h, (⟨t.toArray⟩ : ByteArray)[9]'h = a9 := by subst ht; intro h; rfl
      have hg12 : ∀ h, (⟨t.toArray⟩ : ByteArray)[12]'h = a12 := by subst ht; intro h; rfl
      have hform : dateForm t = (([a0, a1] == [123, 94]) && a6 == 45 && a9 == 45 && a12 == 125) := by rw [ht]; simp [dateForm, bAt]
      have hdig : dateDigits t = [a2, a3, a4, a5, a7, a8, a10, a11] := by rw [ht]; rfl
      have hl : decide ((t.length : Int) < 13) = false := by simp; omega
      generalize [a0, a1] = p at *
      have HF := Lib.hid (And.intro hform hdig)
      clear hform hdig ht
      cases e1 : (p == [123, 94]) with
      | false =>
        have HM := Lib.hid (dateM_form hp (by rw [HF.out.1, e1]; rfl))
        go_enter Tryz.func162, Tryz.ntmps162
        go_wp2_with fail
        go_quiet (fail)
        rw [HX.out]
        go_wp2_with fail
        refine (prefix_all t [123, 125] hp _).mono ?_
        rintro e w1 ⟨rfl, rfl⟩
        go_wp2
        exact bodyPost_ret (v := .tuple #[str [], .int .i64 0, .bool false]) (by simp [results, Tryz.results162, go_sem]) rfl (datePost_none HM.out (by repeat (first | (with_reducible exact gb_refl _ _) | (with_reducible assumption) | (with_reducible exact gb_none (by assumption)) | (with_reducible refine gb_alloc ?_ _) | (with_reducible refine gb_drew ?_) | (with_reducible refine gb_drewN ?_ _) | ((with_reducible refine gb_set ?_ _ _ ?h2); case h2 => first | exact .inl rfl | exact .inr (Nat.le_refl _) | exact .inr (by simp <;> omega)) | (with_reducible refine gb_sub ?_ (by assumption)) | (with_reducible refine gb_trans ?_ (by assumption)))))
      | true =>
        cases e6 : ((a6.toNat : Int) != 45) with
        | true =>
          have HM := Lib.hid (dateM_form hp (by rw [HF.out.1, u8_45 e6]; simp))
          go_enter Tryz.func162, Tryz.ntmps162
          go_wp2_with fail
          go_quiet (fail)
          rw [HX.out]
          go_wp2_with fail
          refine (prefix_all t [123, 125] hp _).mono ?_
          rintro e w1 ⟨rfl, rfl⟩
          go_wp2
          exact bodyPost_ret (v := .tuple #[str [], .int .i64 0, .bool false]) (by simp [results, Tryz.results162, go_sem]) rfl (datePost_none HM.out (by repeat (first | (with_reducible exact gb_refl _ _) | (with_reducible assumption) | (with_reducible exact gb_none (by assumption)) | (with_reducible refine gb_alloc ?_ _) | (with_reducible refine gb_drew ?_) | (with_reducible refine gb_drewN ?_ _) | ((with_reducible refine gb_set ?_ _ _ ?h2); case h2 => first | exact .inl rfl | exact .inr (Nat.le_refl _) | exact .inr (by simp <;> omega)) | (with_reducible refine gb_sub ?_ (by assumption)) | (with_reducible refine gb_trans ?_ (by assumption)))))
        | false =>
          cases e9 : ((a9.toNat : Int) != 45) with
          | true =>
            have HM := Lib.hid (dateM_form hp (by rw [HF.out.1, u8_45 e9]; simp))
            go_enter Tryz.func162, Tryz.ntmps162
            go_wp2_with fail
            go_quiet (fail)
            rw [HX.out]
            go_wp2_with fail
            refine (prefix_all t [123, 125] hp _).mono ?_
            rintro e w1 ⟨rfl, rfl⟩
            go_wp2
            exact bodyPost_ret (v := .tuple #[str [], .int .i64 0, .bool false]) (by simp [results, Tryz.results162, go_sem]) rfl (datePost_none HM.out (by repeat (first | (with_reducible exact gb_refl _ _) | (with_reducible assumption) | (with_reducible exact gb_none (by assumption)) | (with_reducible refine gb_alloc ?_ _) | (with_reducible refine gb_drew ?_) | (with_reducible refine gb_drewN ?_ _) | ((with_reducible refine gb_set ?_ _ _ ?h2); case h2 => first | exact .inl rfl | exact .inr (Nat.le_refl _) | exact .inr (by simp <;> omega)) | (with_reducible refine gb_sub ?_ (by assumption)) | (with_reducible refine gb_trans ?_ (by assumption)))))
          | false =>
            cases e12 : ((a12.toNat : Int) != 125) with
            | true =>
              have HM := Lib.hid (dateM_form hp (by rw [HF.out.1, u8_125 e12]; simp))
              go_enter Tryz.func162, Tryz.ntmps162
              go_wp2_with fail
              go_quiet (fail)
              rw [HX.out]
              go_wp2_with fail
              refine (prefix_all t [123, 125] hp _).mono ?_
              rintro e w1 ⟨rfl, rfl⟩
              go_wp2
              exact bodyPost_ret (v := .tuple #[str [], .int .i64 0, .bool false]) (by simp [results, Tryz.results162, go_sem]) rfl (datePost_none HM.out (by repeat (first | (with_reducible exact gb_refl _ _) | (with_reducible assumption) | (with_reducible exact gb_none (by assumption)) | (with_reducible refine gb_alloc ?_ _) | (with_reducible refine gb_drew ?_) | (with_reducible refine gb_drewN ?_ _) | ((with_reducible refine gb_set ?_ _ _ ?h2); case h2 => first | exact .inl rfl | exact .inr (Nat.le_refl _) | exact .inr (by simp <;> omega)) | (with_reducible refine gb_sub ?_ (by assumption)) | (with_reducible refine gb_trans ?_ (by assumption)))))
            | false =>
              have hfo : dateForm t = true := by rw [HF.out.1, e1, u8_45 e6, u8_45 e9, u8_125 e12]; rfl
              have hdi := HF.out.2
              have HH := Lib.hid (And.intro hfo hdi)
              clear hfo hdi HF
              go_enter Tryz.func162, Tryz.ntmps162
              go_wp2_with fail
              go_quiet (fail)
              rw [HX.out]
              go_wp2_with fail
              refine (prefix_all t [123, 125] hp _).mono ?_
              rintro e w1 ⟨rfl, rfl⟩
              go_wp2_with fail
              go_quiet (fail)
              have hcat : (({ data := #[a2, a3, a4, a5] } : ByteArray) ++ { data := #[a7, a8] } ++ { data := #[a10, a11] }) = ⟨[a2, a3, a4, a5, a7, a8, a10, a11].toArray⟩ := rfl
              rw [hcat]
              have hul := unstamp_any [a2, a3, a4, a5, a7, a8, a10, a11] (by simp)
              clear hcat hx2 hx3 hx4
              generalize [a2, a3, a4, a5, a7, a8, a10, a11] = D at *
              have HU := Lib.hid hul
              clear hul
              go_wp2_with fail
              refine (HU.out _).mono ?_
              rintro e w1 ⟨rfl, g1⟩
              cases hok : (unstampM D).2 with
              | false =>
                have HM := Lib.hid (dateM_no hp HH.out.1 (.inl (by rw [HH.out.2, hok])))
                generalize (unstampM D).1 = v at *
                go_wp2
                exact bodyPost_ret (v := .tuple #[str D, .int .i64 13, .bool false]) (by simp [results, Tryz.results162, go_sem]) rfl (datePost_none HM.out (gb_sub (gb_drewN (gb_refl _ _) _) g1))
              | true =>
                cases hbl : (D == blanks8) with
                | true =>
                  have HM := Lib.hid (dateM_no hp HH.out.1 (.inr (by rw [HH.out.2]; simpa using hbl)))
                  change (D == [32, 32, 32, 32, 32, 32, 32, 32]) = true at hbl
                  generalize (unstampM D).1 = v at *
                  go_wp2
                  exact bodyPost_ret (v := .tuple #[str D, .int .i64 13, .bool false]) (by simp [results, Tryz.results162, go_sem]) rfl (datePost_none HM.out (gb_sub (gb_drewN (gb_refl _ _) _) g1))
                | false =>
                  have HM := Lib.hid (dateM_yes hp HH.out.1 (by rw [HH.out.2, hok]) (by rw [HH.out.2]; simpa using hbl))
                  have HD := Lib.hid HH.out.2
                  change (D == [32, 32, 32, 32, 32, 32, 32, 32]) = false at hbl
                  generalize (unstampM D).1 = v at *
                  go_wp2
                  exact bodyPost_ret (v := .tuple #[str D, .int .i64 13, .bool true]) (by simp [results, Tryz.results162, go_sem]) rfl (datePost_some (HD.out ▸ HM.out) (gb_sub (gb_drewN (gb_refl _ _) _) g1) rfl)
    · have HM := Lib.hid (dateM_form hp (by simp [dateForm, h13]))
      have hl : decide ((t.length : Int) < 13) = true := by simp; omega
      go_enter Tryz.func162, Tryz.ntmps162
      go_wp2_with fail
      go_quiet (fail)
      rw [HX.out]
      go_wp2_with fail
      refine (prefix_all t [123, 125] hp _).mono ?_
      rintro e w1 ⟨rfl, rfl⟩
      go_wp2
      exact bodyPost_ret (v := .tuple #[str [], .int .i64 0, .bool false]) (by simp [results, Tryz.results162, go_sem]) rfl (datePost_none HM.out (by repeat (first | (with_reducible exact gb_refl _ _) | (with_reducible assumption) | (with_reducible exact gb_none (by assumption)) | (with_reducible refine gb_alloc ?_ _) | (with_reducible refine gb_drew ?_) | (with_reducible refine gb_drewN ?_ _) | ((with_reducible refine gb_set ?_ _ _ ?h2); case h2 => first | exact .inl rfl | exact .inr (Nat.le_refl _) | exact .inr (by simp <;> omega)) | (with_reducible refine gb_sub ?_ (by assumption)) | (with_reducible refine gb_trans ?_ (by assumption)))))

end Go.Proofs.YtmcajbhljbbglaaGreatDoor

namespace Go.Proofs.YtmcajbhljbbglaaGreatDoor
open Go.RowKit

/-- the loops of 'token' -/
structure TkRel (w : World) (b : Nat) (s : Bs) (i k : Nat) (wr : World) : Prop where
  sc : Sc wr b s k true true (-1)
  tok : Blk wr (w.heap.size + 1) [.int .i64 0, .int .i64 i, str []] 89
  res : Blk wr w.heap.size [.int .i64 0, .int .i64 0, str []] 89
  g : w.grownBy wr (some b)
  tabs : Tabs b wr
theorem TkRel.gbN {w : World} {b : Nat} {s : Bs} {i k : Nat} {wr w1 : World} (h : TkRel w b s i k wr) (g : wr.grownBy w1 none) : TkRel w b s i k w1 :=
  ⟨h.sc.gbN g, h.tok.gb g (by simp), h.res.gb g (by simp), gb_sub h.g g, h.tabs.gbN g⟩
theorem TkRel.go {w : World} {b : Nat} {s : Bs} {i k : Nat} {wr : World} (h : TkRel w b s i k wr) (hb : b < w.heap.size) (hk : k < s.length) : TkRel w b s i (k + 1) (wr.setCell ⟨b, 1, none⟩ (.int .i64 ((k : Int) + 1))) :=
  ⟨h.sc.go _ _ (by simp) (by omega), h.tok.set_other _ _ (by simp; omega), h.res.set_other _ _ (by simp; omega), gb_set h.g _ _ (.inl rfl), h.tabs.gb (gb_set (gb_refl _ (some b)) _ _ (.inl rfl)) (by simp)⟩

theorem cls_ascii {c : Int} (hc : c = 1 ∨ c = 2) {b : UInt8} (h : cls c b = true) : b.toNat < 128 := by
  have h1 : classM b.toNat = c := by simpa [cls] using h
  rcases class_cases b.toNat with ⟨h2, h3⟩ | ⟨h2, h3⟩ | ⟨h2, h3⟩ | ⟨h2, h3⟩ | ⟨h2, h3⟩ <;> omega
theorem word_ascii {b : UInt8} (h : wordB b = true) : b.toNat < 128 := by
  simp [wordB] at h
  rcases h with h | h
  · exact cls_ascii (.inl rfl) h
  · exact cls_ascii (.inr rfl) h
theorem slice_run {s : Bs} {p : UInt8 → Bool} {i : Nat} (hi : i ≤ s.length) : ∀ b ∈ sliceM s i (runM s p i), p b = true := by
  intro b hb
  obtain ⟨k, hk, rfl⟩ := List.mem_iff_getElem.1 hb
  rw [sliceM_len (runM_ge _ _ _) (runM_le hi)] at hk
  have h1 := runM_all (p := p) (s := s) (i := i) (j := i + k) (by omega) (by omega)
  have h2 : (sliceM s i (runM s p i))[k]? = s[i + k]? := sliceM_at (by omega)
  rw [List.getElem?_eq_getElem (by rw [sliceM_len (runM_ge _ _ _) (runM_le hi)]; omega), List.getElem?_eq_getElem h1.1] at h2
  rw [Option.some.inj h2, ← bAt_eq h1.1]
  exact h1.2
theorem upper_run {s : Bs} {i : Nat} (hi : i ≤ s.length) : Lib.toUpperD (sliceM s i (runM s wordB i)) = Lib.toUpperA (sliceM s i (runM s wordB i)) :=
  Lib.toUpperD_ascii _ fun b hb => word_ascii (slice_run hi b hb)

/-- at the end of the loops: the token stands in its block -/
structure TkEnd (w : World) (b : Nat) (s : Bs) (i k : Nat) (kind : Int) (t : Bs) (wr : World) : Prop where
  sc : Sc wr b s k true true (-1)
  tok : Blk wr (w.heap.size + 1) [.int .i64 kind, .int .i64 i, str t] 89
  res : Blk wr w.heap.size [.int .i64 0, .int .i64 0, str []] 89
  g : w.grownBy wr (some b)
theorem TkEnd.gbN {w : World} {b : Nat} {s : Bs} {i k : Nat} {kind : Int} {t : Bs} {wr w1 : World} (h : TkEnd w b s i k kind t wr) (g : wr.grownBy w1 none) : TkEnd w b s i k kind t w1 :=
  ⟨h.sc.gbN g, h.tok.gb g (by simp), h.res.gb g (by simp), gb_sub h.g g⟩
theorem exit_world {K : Act → World → Prop} {Q : Exit → Act → World → Prop} {e : Exit} {a : Act} {w : World} (F : World → Prop) (hF : F w) (h : ∀ w', F w' → Exit.then K Q e a w') : Exit.then K Q e a w := h w hF

set_option maxRecDepth 40000 in
set_option maxHeartbeats 4000000 in
theorem token_word {w : World} {b : Nat} {s : Bs} {i : Nat} (h : Sc w b s i true true (-1)) (ht : Tabs b w) (hi : i < s.length) (hc : cls 1 (bAt s i) = true) :
    Calls Tryz.prog 114 #[.pointer (some ⟨b, 0, none⟩)] w (TokPost w b s (tokenM s i)) := by
  have hb := h.lt
  have hf := h.few
  have c1 := h.c1
  have g0 : w.grownBy ((w.alloc (.cells #[.int .i64 0, .int .i64 0, str []] 89 (0, 0))).alloc (.cells #[.int .i64 0, .int .i64 i, str []] 89 (0, 0))) none := gb_alloc (World.grownBy_alloc w _ none) _
  have hA : TkRel w b s i i ((w.alloc (.cells #[.int .i64 0, .int .i64 0, str []] 89 (0, 0))).alloc (.cells #[.int .i64 0, .int .i64 i, str []] 89 (0, 0))) :=
    ⟨h.gbN g0, (Blk.new _ [.int .i64 0, .int .i64 i, str []] _).of_eq (by simp) rfl, (Blk.new _ [.int .i64 0, .int .i64 0, str []] _).alloc _, gb_none g0, ht.gbN g0⟩
  clear h ht g0
  have hr1 : runM s wordB i ≤ s.length := runM_le (by omega)
  have hr2 : i ≤ runM s wordB i := runM_ge _ _ _
  have HT := Lib.hid (show tokenM s i = if 24 < runM s wordB i - i then .bad i else .tok ⟨0, i, Lib.toUpperA (sliceM s i (runM s wordB i))⟩ (runM s wordB i) true from if_pos hc)
  have HC := Lib.hid hc
  clear hc
  go_enter Tryz.func114, Tryz.ntmps114
  go_wp2_with fail
  refine (is_cls hA.sc i 1 (r := true) (by simp [hi, HC.out])).mono ?_
  rintro e w1 ⟨rfl, g1⟩
  have hA1 := hA.gbN g1
  clear hA g1
  go_wp2_with fail
  go_loopg [] (runM s wordB i - i) (fun g wr => ∃ k : Nat, k + g = runM s wordB i ∧ i ≤ k ∧ TkRel w b s i k wr)
  case atStart => exact ⟨i, by omega, Nat.le_refl _, hA1⟩
  case round =>
    obtain ⟨k, hk, hik, hr⟩ := hrel
    clear hA1 c1
    have c1 := hr.sc.c1
    have hb1 := hr.sc.lt
    cases gk with
    | zero =>
      have hke : k = runM s wordB i := by omega
      have hstop : (decide (k < s.length) && cls 1 (bAt s k)) = false ∧ (decide (k < s.length) && cls 2 (bAt s k)) = false := by
        by_cases hkl : k < s.length
        · have := runM_at (s := s) (p := wordB) (i := i) (by omega)
          rw [← hke] at this
          simp [wordB] at this
          simp [this.1, this.2]
        · simp [hkl]
      have HS := Lib.hid hstop
      have hup := upper_run (s := s) (i := i) (by omega)
      rw [← hke] at hup HT
      rw [← hke] at hr1 hr2
      have HUP := Lib.hid hup
      have HL := Lib.hid (show (Lib.toUpperA (sliceM s i k)).length = k - i by unfold Lib.toUpperA; rw [List.length_map, sliceM_len hik (by omega)])
      generalize Lib.toUpperA (sliceM s i k) = T at *
      clear hup hstop hke hk
      go_wp2_with fail
      refine (is_cls hr.sc k 1 (r := false) HS.out.1).mono ?_
      rintro e w2 ⟨rfl, g2⟩
      have hq2 := hr.gbN g2
      have d1 := hq2.sc.c1
      go_wp2_with fail
      refine (is_cls hq2.sc k 2 (r := false) HS.out.2).mono ?_
      rintro e w3 ⟨rfl, g3⟩
      have hq3 := hq2.gbN g3
      have g13 := gb_trans g2 g3
      have e0 := hq3.sc.c0
      have e1 := hq3.sc.c1
      have t0 := hq3.tok.cell 0
      have t1 := hq3.tok.cell 1
      have t2 := hq3.tok.cell 2
      have tf := fun k => hq3.tok.frozen k
      have tl := hq3.tok.lt
      simp only [List.getElem?_cons_zero, List.getElem?_cons_succ] at t0 t1 t2
      have hkI : decide ((k : Int) ≤ s.length) = true := by simp; omega
      have hkI2 : decide (i ≤ k) = true := by simp; omega
      go_wp2_with fail
      have hs3 := hq3.sc
      have hq := Lib.hid hq3
      clear hq3 hs3 hq2 hr g2 g3 d1
      have HU3 := Lib.hid (fun (W : World) (g : w3.grownBy W (some (w.heap.size + 1))) => upper_slice (hq.out.tabs.gb g (by intro k e; cases e; omega)) s i k hf)
      rw [HUP.out] at HU3
      go_region_with (first | (go_at_call 159; refine (HU3.out _ ?gg).mono ?_; (case gg => exact (by repeat (first | (with_reducible exact gb_refl _ _) | (with_reducible assumption) | (with_reducible exact gb_none (by assumption)) | (with_reducible refine gb_alloc ?_ _) | (with_reducible refine gb_drew ?_) | (with_reducible refine gb_drewN ?_ _) | ((with_reducible refine gb_set ?_ _ _ ?h2); case h2 => first | exact .inl rfl | exact .inr (Nat.le_refl _) | exact .inr (by simp <;> omega)) | (with_reducible refine gb_sub ?_ (by assumption)) | (with_reducible refine gb_trans ?_ (by assumption))))); rintro e w5 ⟨rfl, g5⟩; (have hb5 : Blk w5 (w.heap.size + 1) [.int .i64 0, .int .i64 i, str []] 89 := (by first | exact (hq.out.tok.drew).gb g5 (by simp) | exact (((hq.out.tok.drew).set 0 (.int .i64 0)).of_eq rfl rfl).gb g5 (by simp))); (have s0 := hb5.cell 0); (have s2 := hb5.cell 2); (have s1 := hb5.cell 1); (have sf := fun k => hb5.frozen k); (have sl := hb5.lt); (simp only [List.getElem?_cons_zero, List.getElem?_cons_succ] at s0 s1 s2)))
      all_goals
        refine exit_world (fun W => TkEnd w b s i k 0 T W) ?_ ?_
        · first
          | exact ⟨((hq.out.sc.drewN 1).gbN g5).set_other _ _ (by simp; omega) |>.set_other _ _ (by simp; omega), ((hb5.set 0 (.int .i64 0)).set 2 (str T)).of_eq rfl rfl, (((hq.out.res.drewN 1).gb g5 (by simp)).set_other _ _ (by simp)).set_other _ _ (by simp), gb_set (gb_set (gb_sub (gb_drew hq.out.g) g5) _ _ (.inr (by simp))) _ _ (.inr (by simp))⟩
          | exact ⟨(((hq.out.sc.drewN 1).set_other _ _ (by simp; omega)).gbN g5).set_other _ _ (by simp; omega), (hb5.set 2 (str T)).of_eq rfl rfl, (((hq.out.res.drewN 1).set_other _ _ (by simp)).gb g5 (by simp)).set_other _ _ (by simp), gb_set (gb_sub (gb_set (gb_drew hq.out.g) _ _ (.inr (by simp))) g5) _ _ (.inr (by simp))⟩
        clear hb5 g5 s0 s1 s2 sf sl
        intro W hW
        have a0 := hW.tok.cell 0
        have a1 := hW.tok.cell 1
        have a2 := hW.tok.cell 2
        simp only [List.getElem?_cons_zero, List.getElem?_cons_succ] at a0 a1 a2
        have HW := Lib.hid hW
        have HS := Lib.hid (fun (W' : World) (g : W.grownBy W' none) => short_any (hW.gbN g).sc ⟨0, i, T⟩ 24)
        have hWs := hW.g.size
        have hWl := hW.tok.lt
        clear hW
        by_cases hm : 24 < T.length
        · have HM := Lib.hid (show tokenM s i = .bad i by rw [HT.out, ← HL.out, if_pos hm])
          have HP := Lib.hid hm
          clear hm
          go_wp2_with fail
          go_region_with (first | (go_at_call 160; refine (HS.out _ ?gg).mono ?_; (case gg => exact (by repeat (first | (with_reducible exact gb_refl _ _) | (with_reducible assumption) | (with_reducible exact gb_none (by assumption)) | (with_reducible refine gb_alloc ?_ _) | (with_reducible refine gb_drew ?_) | (with_reducible refine gb_drewN ?_ _) | ((with_reducible refine gb_set ?_ _ _ ?h2); case h2 => first | exact .inl rfl | exact .inr (Nat.le_refl _) | exact .inr (by simp <;> omega)) | (with_reducible refine gb_sub ?_ (by assumption)) | (with_reducible refine gb_trans ?_ (by assumption))))); intro e w8 hp8; obtain ⟨g8, hp9⟩ := hp8; rw [if_pos HP.out] at hp9; obtain ⟨rfl, h8⟩ := hp9; (have hr8 := (HW.out.res.drewN 1).gb g8 (by simp; omega)); (have ht8 := (HW.out.tok.drewN 1).gb g8 (by simp; omega)); (have r0 := hr8.cell 0); (have r1 := hr8.cell 1); (have r2 := hr8.cell 2); (have rf := fun k => hr8.frozen k); (have rl := hr8.lt); (have b0 := ht8.cell 0); (have b1 := ht8.cell 1); (have b2 := ht8.cell 2); (simp only [List.getElem?_cons_zero, List.getElem?_cons_succ] at r0 r1 r2 b0 b1 b2)))
          all_goals
            go_wp2
            refine bodyPost_ret (results_tok (t := ⟨0, i, T⟩) (r := false) rfl _ (hr8.set3 _ _ _) rfl rfl) rfl ⟨?_, ?_⟩
            · have g := gb_trans (gb_drew HW.out.g) g8
              exact (by repeat (first | (with_reducible exact gb_refl _ _) | (with_reducible assumption) | (with_reducible exact gb_none (by assumption)) | (with_reducible refine gb_alloc ?_ _) | (with_reducible refine gb_drew ?_) | (with_reducible refine gb_drewN ?_ _) | ((with_reducible refine gb_set ?_ _ _ ?h2); case h2 => first | exact .inl rfl | exact .inr (Nat.le_refl _) | exact .inr (by simp <;> omega)) | (with_reducible refine gb_sub ?_ (by assumption)) | (with_reducible refine gb_trans ?_ (by assumption))))
            · rw [HM.out]
              exact ⟨⟨_, rfl⟩, k, true, (by repeat (first | (with_reducible assumption) | (with_reducible apply Sc.alloc) | (with_reducible apply Sc.drew) | (with_reducible apply Sc.drewN) | (with_reducible apply Sc.setLine) | (with_reducible apply Sc.setBegun) | (with_reducible apply Sc.setBad) | (with_reducible apply Sc.go) | (with_reducible apply Sc.set_other) | omega | (simp <;> omega)))⟩
        · have HM := Lib.hid (show tokenM s i = .tok ⟨0, i, T⟩ k true by rw [HT.out, ← HL.out, if_neg hm])
          have HP := Lib.hid hm
          clear hm
          go_wp2_with fail
          go_region_with (first | (go_at_call 160; refine (HS.out _ ?gg).mono ?_; (case gg => exact (by repeat (first | (with_reducible exact gb_refl _ _) | (with_reducible assumption) | (with_reducible exact gb_none (by assumption)) | (with_reducible refine gb_alloc ?_ _) | (with_reducible refine gb_drew ?_) | (with_reducible refine gb_drewN ?_ _) | ((with_reducible refine gb_set ?_ _ _ ?h2); case h2 => first | exact .inl rfl | exact .inr (Nat.le_refl _) | exact .inr (by simp <;> omega)) | (with_reducible refine gb_sub ?_ (by assumption)) | (with_reducible refine gb_trans ?_ (by assumption))))); intro e w8 hp8; obtain ⟨g8, hp9⟩ := hp8; rw [if_neg HP.out] at hp9; obtain ⟨rfl, h8⟩ := hp9; (have hr8 := (HW.out.res.drewN 1).gb g8 (by simp; omega)); (have ht8 := (HW.out.tok.drewN 1).gb g8 (by simp; omega)); (have r0 := hr8.cell 0); (have r1 := hr8.cell 1); (have r2 := hr8.cell 2); (have rf := fun k => hr8.frozen k); (have rl := hr8.lt); (have b0 := ht8.cell 0); (have b1 := ht8.cell 1); (have b2 := ht8.cell 2); (simp only [List.getElem?_cons_zero, List.getElem?_cons_succ] at r0 r1 r2 b0 b1 b2)))
          all_goals
            go_wp2
            refine bodyPost_ret (results_tok (t := ⟨0, i, T⟩) (r := true) rfl _ (hr8.set3 _ _ _) rfl rfl) rfl ⟨?_, ?_⟩
            · have g := gb_trans (gb_drew HW.out.g) g8
              exact (by repeat (first | (with_reducible exact gb_refl _ _) | (with_reducible assumption) | (with_reducible exact gb_none (by assumption)) | (with_reducible refine gb_alloc ?_ _) | (with_reducible refine gb_drew ?_) | (with_reducible refine gb_drewN ?_ _) | ((with_reducible refine gb_set ?_ _ _ ?h2); case h2 => first | exact .inl rfl | exact .inr (Nat.le_refl _) | exact .inr (by simp <;> omega)) | (with_reducible refine gb_sub ?_ (by assumption)) | (with_reducible refine gb_trans ?_ (by assumption))))
            · rw [HM.out]
              exact ⟨rfl, (by repeat (first | (with_reducible assumption) | (with_reducible apply Sc.alloc) | (with_reducible apply Sc.drew) | (with_reducible apply Sc.drewN) | (with_reducible apply Sc.setLine) | (with_reducible apply Sc.setBegun) | (with_reducible apply Sc.setBad) | (with_reducible apply Sc.go) | (with_reducible apply Sc.set_other) | omega | (simp <;> omega)))⟩
    | succ gk =>
      have h10 := runM_all hik (by omega : k < runM s wordB i)
      have hkl := h10.1
      have HW := Lib.hid h10.2
      clear h10
      cases hc1 : cls 1 (bAt s k) with
      | true =>
        have HC1 := Lib.hid hc1
        clear hc1
        go_wp2_with fail
        refine (is_cls hr.sc k 1 (r := true) (by simp [hkl, HC1.out])).mono ?_
        rintro e w2 ⟨rfl, g2⟩
        have hr2' := hr.gbN g2
        have d1 := hr2'.sc.c1
        have f1 := hr2'.sc.fr 1
        go_wp2
        go_roundg gk
        case measure => omega
        case rel => exact ⟨k + 1, by omega, by omega, hr2'.go hb hkl⟩
      | false =>
        have HC1 := Lib.hid hc1
        have HC2 := Lib.hid (show cls 2 (bAt s k) = true by have := HW.out; simpa [wordB, hc1] using this)
        clear hc1
        go_wp2_with fail
        refine (is_cls hr.sc k 1 (r := false) (by simp [hkl, HC1.out])).mono ?_
        rintro e w2 ⟨rfl, g2⟩
        have hr2' := hr.gbN g2
        have d1 := hr2'.sc.c1
        have f1 := hr2'.sc.fr 1
        go_wp2_with fail
        refine (is_cls hr2'.sc k 2 (r := true) (by simp [hkl, HC2.out])).mono ?_
        rintro e w3 ⟨rfl, g3⟩
        have hr3' := hr2'.gbN g3
        have e1 := hr3'.sc.c1
        have f1 := hr3'.sc.fr 1
        go_wp2
        go_roundg gk
        case measure => omega
        case rel => exact ⟨k + 1, by omega, by omega, hr3'.go hb hkl⟩

end Go.Proofs.YtmcajbhljbbglaaGreatDoor

namespace Go.Proofs.YtmcajbhljbbglaaGreatDoor
open Go.RowKit

set_option maxRecDepth 40000 in
set_option maxHeartbeats 4000000 in
theorem token_num {w : World} {b : Nat} {s : Bs} {i : Nat} (h : Sc w b s i true true (-1)) (ht : Tabs b w) (hi : i < s.length) (hn1 : cls 1 (bAt s i) = false) (hc : cls 2 (bAt s i) = true) :
    Calls Tryz.prog 114 #[.pointer (some ⟨b, 0, none⟩)] w (TokPost w b s (tokenM s i)) := by
  have hb := h.lt
  have hf := h.few
  have c1 := h.c1
  have g0 : w.grownBy ((w.alloc (.cells #[.int .i64 0, .int .i64 0, str []] 89 (0, 0))).alloc (.cells #[.int .i64 0, .int .i64 i, str []] 89 (0, 0))) none := gb_alloc (World.grownBy_alloc w _ none) _
  have hA : TkRel w b s i i ((w.alloc (.cells #[.int .i64 0, .int .i64 0, str []] 89 (0, 0))).alloc (.cells #[.int .i64 0, .int .i64 i, str []] 89 (0, 0))) :=
    ⟨h.gbN g0, (Blk.new _ [.int .i64 0, .int .i64 i, str []] _).of_eq (by simp) rfl, (Blk.new _ [.int .i64 0, .int .i64 0, str []] _).alloc _, gb_none g0, ht.gbN g0⟩
  clear h ht g0
  have hr1 : runM s (cls 2) i ≤ s.length := runM_le (by omega)
  have hr2 : i ≤ runM s (cls 2) i := runM_ge _ _ _
  have HT := Lib.hid (show tokenM s i = if 15 < runM s (cls 2) i - i then .bad i else .tok ⟨1, i, sliceM s i (runM s (cls 2) i)⟩ (runM s (cls 2) i) true from (if_neg (by rw [hn1]; simp)).trans (if_pos hc))
  have HC := Lib.hid (And.intro hn1 hc)
  clear hc hn1
  go_enter Tryz.func114, Tryz.ntmps114
  go_wp2_with fail
  refine (is_cls hA.sc i 1 (r := false) (by simp [HC.out.1])).mono ?_
  rintro e w1 ⟨rfl, g1⟩
  have hA1 := hA.gbN g1
  clear hA g1
  go_wp2_with fail
  refine (is_cls hA1.sc i 2 (r := true) (by simp [hi, HC.out.2])).mono ?_
  rintro e w1' ⟨rfl, g1⟩
  have hA2 := hA1.gbN g1
  clear hA1 g1
  go_wp2_with fail
  go_loopg [] (runM s (cls 2) i - i) (fun g wr => ∃ k : Nat, k + g = runM s (cls 2) i ∧ i ≤ k ∧ TkRel w b s i k wr)
  case atStart => exact ⟨i, by omega, Nat.le_refl _, hA2⟩
  case round =>
    obtain ⟨k, hk, hik, hr⟩ := hrel
    clear hA2 c1
    have c1 := hr.sc.c1
    have hb1 := hr.sc.lt
    cases gk with
    | zero =>
      have hke : k = runM s (cls 2) i := by omega
      have hstop : (decide (k < s.length) && cls 2 (bAt s k)) = false := by
        by_cases hkl : k < s.length
        · have := runM_at (s := s) (p := cls 2) (i := i) (by omega)
          rw [← hke] at this
          simp [this]
        · simp [hkl]
      have HS := Lib.hid hstop
      rw [← hke] at HT hr1 hr2
      have hx := ba_extract s i k
      rw [show (s.drop i).take (k - i) = sliceM s i k from rfl] at hx
      have HX := Lib.hid hx
      have HL := Lib.hid (show (sliceM s i k).length = k - i from sliceM_len hik (by omega))
      generalize sliceM s i k = T at *
      clear hx hstop hke hk
      go_wp2_with fail
      refine (is_cls hr.sc k 2 (r := false) HS.out).mono ?_
      rintro e w3 ⟨rfl, g3⟩
      have hq3 := hr.gbN g3
      have e0 := hq3.sc.c0
      have e1 := hq3.sc.c1
      have t0 := hq3.tok.cell 0
      have t1 := hq3.tok.cell 1
      have t2 := hq3.tok.cell 2
      have tf := fun k => hq3.tok.frozen k
      have tl := hq3.tok.lt
      simp only [List.getElem?_cons_zero, List.getElem?_cons_succ] at t0 t1 t2
      have hkI : decide ((k : Int) ≤ s.length) = true := by simp; omega
      have hkI2 : decide (i ≤ k) = true := by simp; omega
      have hq := Lib.hid hq3
      clear hq3 hr g3
      go_wp2_with fail
      go_region
      rw [HX.out]
      all_goals
        refine exit_world (fun W => TkEnd w b s i k 1 T W) ?_ ?_
        · exact ⟨((hq.out.sc.drewN 1).set_other _ _ (by simp; omega)).set_other _ _ (by simp; omega), (((hq.out.tok.drewN 1).set 0 (.int .i64 1)).set 2 (str T)).of_eq rfl rfl, ((hq.out.res.drewN 1).set_other _ _ (by simp)).set_other _ _ (by simp), gb_set (gb_set (gb_drew hq.out.g) _ _ (.inr (by simp))) _ _ (.inr (by simp))⟩
        intro W hW
        have a0 := hW.tok.cell 0
        have a1 := hW.tok.cell 1
        have a2 := hW.tok.cell 2
        simp only [List.getElem?_cons_zero, List.getElem?_cons_succ] at a0 a1 a2
        have HW := Lib.hid hW
        have HS := Lib.hid (fun (W' : World) (g : W.grownBy W' none) => short_any (hW.gbN g).sc ⟨1, i, T⟩ 15)
        have hWs := hW.g.size
        have hWl := hW.tok.lt
        clear hW
        by_cases hm : 15 < T.length
        · have HM := Lib.hid (show tokenM s i = .bad i by rw [HT.out, ← HL.out, if_pos hm])
          have HP := Lib.hid hm
          clear hm
          go_wp2_with fail
          go_region_with (first | (go_at_call 160; refine (HS.out _ ?gg).mono ?_; (case gg => exact (by repeat (first | (with_reducible exact gb_refl _ _) | (with_reducible assumption) | (with_reducible exact gb_none (by assumption)) | (with_reducible refine gb_alloc ?_ _) | (with_reducible refine gb_drew ?_) | (with_reducible refine gb_drewN ?_ _) | ((with_reducible refine gb_set ?_ _ _ ?h2); case h2 => first | exact .inl rfl | exact .inr (Nat.le_refl _) | exact .inr (by simp <;> omega)) | (with_reducible refine gb_sub ?_ (by assumption)) | (with_reducible refine gb_trans ?_ (by assumption))))); intro e w8 hp8; obtain ⟨g8, hp9⟩ := hp8; rw [if_pos HP.out] at hp9; obtain ⟨rfl, h8⟩ := hp9; (have hr8 := (HW.out.res.drewN 1).gb g8 (by simp; omega)); (have ht8 := (HW.out.tok.drewN 1).gb g8 (by simp; omega)); (have r0 := hr8.cell 0); (have r1 := hr8.cell 1); (have r2 := hr8.cell 2); (have rf := fun k => hr8.frozen k); (have rl := hr8.lt); (have b0 := ht8.cell 0); (have b1 := ht8.cell 1); (have b2 := ht8.cell 2); (simp only [List.getElem?_cons_zero, List.getElem?_cons_succ] at r0 r1 r2 b0 b1 b2)))
          all_goals
            go_wp2
            refine bodyPost_ret (results_tok (t := ⟨1, i, T⟩) (r := false) rfl _ (hr8.set3 _ _ _) rfl rfl) rfl ⟨?_, ?_⟩
            · have g := gb_trans (gb_drew HW.out.g) g8
              exact (by repeat (first | (with_reducible exact gb_refl _ _) | (with_reducible assumption) | (with_reducible exact gb_none (by assumption)) | (with_reducible refine gb_alloc ?_ _) | (with_reducible refine gb_drew ?_) | (with_reducible refine gb_drewN ?_ _) | ((with_reducible refine gb_set ?_ _ _ ?h2); case h2 => first | exact .inl rfl | exact .inr (Nat.le_refl _) | exact .inr (by simp <;> omega)) | (with_reducible refine gb_sub ?_ (by assumption)) | (with_reducible refine gb_trans ?_ (by assumption))))
            · rw [HM.out]
              exact ⟨⟨_, rfl⟩, k, true, (by repeat (first | (with_reducible assumption) | (with_reducible apply Sc.alloc) | (with_reducible apply Sc.drew) | (with_reducible apply Sc.drewN) | (with_reducible apply Sc.setLine) | (with_reducible apply Sc.setBegun) | (with_reducible apply Sc.setBad) | (with_reducible apply Sc.go) | (with_reducible apply Sc.set_other) | omega | (simp <;> omega)))⟩
        · have HM := Lib.hid (show tokenM s i = .tok ⟨1, i, T⟩ k true by rw [HT.out, ← HL.out, if_neg hm])
          have HP := Lib.hid hm
          clear hm
          go_wp2_with fail
          go_region_with (first | (go_at_call 160; refine (HS.out _ ?gg).mono ?_; (case gg => exact (by repeat (first | (with_reducible exact gb_refl _ _) | (with_reducible assumption) | (with_reducible exact gb_none (by assumption)) | (with_reducible refine gb_alloc ?_ _) | (with_reducible refine gb_drew ?_) | (with_reducible refine gb_drewN ?_ _) | ((with_reducible refine gb_set ?_ _ _ ?h2); case h2 => first | exact .inl rfl | exact .inr (Nat.le_refl _) | exact .inr (by simp <;> omega)) | (with_reducible refine gb_sub ?_ (by assumption)) | (with_reducible refine gb_trans ?_ (by assumption))))); intro e w8 hp8; obtain ⟨g8, hp9⟩ := hp8; rw [if_neg HP.out] at hp9; obtain ⟨rfl, h8⟩ := hp9; (have hr8 := (HW.out.res.drewN 1).gb g8 (by simp; omega)); (have ht8 := (HW.out.tok.drewN 1).gb g8 (by simp; omega)); (have r0 := hr8.cell 0); (have r1 := hr8.cell 1); (have r2 := hr8.cell 2); (have rf := fun k => hr8.frozen k); (have rl := hr8.lt); (have b0 := ht8.cell 0); (have b1 := ht8.cell 1); (have b2 := ht8.cell 2); (simp only [List.getElem?_cons_zero, List.getElem?_cons_succ] at r0 r1 r2 b0 b1 b2)))
          all_goals
            go_wp2
            refine bodyPost_ret (results_tok (t := ⟨1, i, T⟩) (r := true) rfl _ (hr8.set3 _ _ _) rfl rfl) rfl ⟨?_, ?_⟩
            · have g := gb_trans (gb_drew HW.out.g) g8
              exact (by repeat (first | (with_reducible exact gb_refl _ _) | (with_reducible assumption) | (with_reducible exact gb_none (by assumption)) | (with_reducible refine gb_alloc ?_ _) | (with_reducible refine gb_drew ?_) | (with_reducible refine gb_drewN ?_ _) | ((with_reducible refine gb_set ?_ _ _ ?h2); case h2 => first | exact .inl rfl | exact .inr (Nat.le_refl _) | exact .inr (by simp <;> omega)) | (with_reducible refine gb_sub ?_ (by assumption)) | (with_reducible refine gb_trans ?_ (by assumption))))
            · rw [HM.out]
              exact ⟨rfl, (by repeat (first | (with_reducible assumption) | (with_reducible apply Sc.alloc) | (with_reducible apply Sc.drew) | (with_reducible apply Sc.drewN) | (with_reducible apply Sc.setLine) | (with_reducible apply Sc.setBegun) | (with_reducible apply Sc.setBad) | (with_reducible apply Sc.go) | (with_reducible apply Sc.set_other) | omega | (simp <;> omega)))⟩
    | succ gk =>
      have h10 := runM_all hik (by omega : k < runM s (cls 2) i)
      have hkl := h10.1
      have HW := Lib.hid h10.2
      clear h10
      go_wp2_with fail
      refine (is_cls hr.sc k 2 (r := true) (by simp [hkl, HW.out])).mono ?_
      rintro e w2 ⟨rfl, g2⟩
      have hr2' := hr.gbN g2
      have d1 := hr2'.sc.c1
      have f1 := hr2'.sc.fr 1
      go_wp2
      go_roundg gk
      case measure => omega
      case rel => exact ⟨k + 1, by omega, by omega, hr2'.go hb hkl⟩

end Go.Proofs.YtmcajbhljbbglaaGreatDoor
