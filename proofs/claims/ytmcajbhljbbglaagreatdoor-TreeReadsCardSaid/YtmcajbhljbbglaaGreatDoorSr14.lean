/-
  The reference's reader: prim.
  The reference's reader: prim at a word, a macro, a sign.
-/
import Derived.Test.YtmcajbhljbbglaaGreatDoorSr13
import Derived.Test.YtmcajbhljbbglaaGreatDoorSr02
set_option linter.all false
set_option linter.unusedVariables false
set_option linter.unusedSimpArgs false
set_option linter.unnecessarySimpa false
set_option linter.constructorNameAsVariable false
set_option linter.deprecated false

namespace Go.Proofs.YtmcajbhljbbglaaGreatDoor
open Go.RowKit

theorem rNum_any (n : Int) (w : World) : Calls Tryz.prog 22 #[.int .i64 n] w fun e w' => e = .returned (.agg #[.int .i64 2, .int .i64 n, str []]) ∧ w.grownBy w' none := by
  go_enter Tryz.func22, Tryz.ntmps22
  go_wp2
  refine bodyPost_ret (v := .agg #[.int .i64 2, .int .i64 n, str []]) (by simp [results, Tryz.results22, go_sem]) rfl ⟨rfl, (by repeat (first | (with_reducible exact gb_refl _ _) | (with_reducible assumption) | (with_reducible exact gb_none (by assumption)) | (with_reducible refine gb_alloc ?_ _) | (with_reducible refine gb_drew ?_) | (with_reducible refine gb_drewN ?_ _) | ((with_reducible refine gb_set ?_ _ _ ?h2); case h2 => first | exact .inl rfl | exact .inr (Nat.le_refl _) | exact .inr (by simp <;> omega)) | (with_reducible refine gb_sub ?_ (by assumption)) | (with_reducible refine gb_trans ?_ (by assumption))))⟩
theorem rDate_any (n : Int) (w : World) : Calls Tryz.prog 292 #[.int .i64 n] w fun e w' => e = .returned (.agg #[.int .i64 3, .int .i64 n, str []]) ∧ w.grownBy w' none := by
  go_enter Tryz.func292, Tryz.ntmps292
  go_wp2
  refine bodyPost_ret (v := .agg #[.int .i64 3, .int .i64 n, str []]) (by simp [results, Tryz.results292, go_sem]) rfl ⟨rfl, (by repeat (first | (with_reducible exact gb_refl _ _) | (with_reducible assumption) | (with_reducible exact gb_none (by assumption)) | (with_reducible refine gb_alloc ?_ _) | (with_reducible refine gb_drew ?_) | (with_reducible refine gb_drewN ?_ _) | ((with_reducible refine gb_set ?_ _ _ ?h2); case h2 => first | exact .inl rfl | exact .inr (Nat.le_refl _) | exact .inr (by simp <;> omega)) | (with_reducible refine gb_sub ?_ (by assumption)) | (with_reducible refine gb_trans ?_ (by assumption))))⟩
theorem rText_any (s : Bs) (w : World) : Calls Tryz.prog 291 #[str s] w fun e w' => e = .returned (.agg #[.int .i64 4, .int .i64 0, str s]) ∧ w.grownBy w' none := by
  go_enter Tryz.func291, Tryz.ntmps291
  go_wp2
  refine bodyPost_ret (v := .agg #[.int .i64 4, .int .i64 0, str s]) (by simp [results, Tryz.results291, go_sem]) rfl ⟨rfl, (by repeat (first | (with_reducible exact gb_refl _ _) | (with_reducible assumption) | (with_reducible exact gb_none (by assumption)) | (with_reducible refine gb_alloc ?_ _) | (with_reducible refine gb_drew ?_) | (with_reducible refine gb_drewN ?_ _) | ((with_reducible refine gb_set ?_ _ _ ?h2); case h2 => first | exact .inl rfl | exact .inr (Nat.le_refl _) | exact .inr (by simp <;> omega)) | (with_reducible refine gb_sub ?_ (by assumption)) | (with_reducible refine gb_trans ?_ (by assumption))))⟩
theorem rTruth_any (q : Bool) (w : World) : Calls Tryz.prog 294 #[.bool q] w fun e w' => e = .returned (.agg #[.int .i64 1, .int .i64 (if q then 1 else 0), str []]) ∧ w.grownBy w' none := by
  cases q with
  | true =>
    go_enter Tryz.func294, Tryz.ntmps294
    go_wp2
    refine bodyPost_ret (v := .agg #[.int .i64 1, .int .i64 1, str []]) (by simp [results, Tryz.results294, go_sem]) rfl ⟨rfl, (by repeat (first | (with_reducible exact gb_refl _ _) | (with_reducible assumption) | (with_reducible exact gb_none (by assumption)) | (with_reducible refine gb_alloc ?_ _) | (with_reducible refine gb_drew ?_) | (with_reducible refine gb_drewN ?_ _) | ((with_reducible refine gb_set ?_ _ _ ?h2); case h2 => first | exact .inl rfl | exact .inr (Nat.le_refl _) | exact .inr (by simp <;> omega)) | (with_reducible refine gb_sub ?_ (by assumption)) | (with_reducible refine gb_trans ?_ (by assumption))))⟩
  | false =>
    go_enter Tryz.func294, Tryz.ntmps294
    go_wp2
    refine bodyPost_ret (v := .agg #[.int .i64 1, .int .i64 0, str []]) (by simp [results, Tryz.results294, go_sem]) rfl ⟨rfl, (by repeat (first | (with_reducible exact gb_refl _ _) | (with_reducible assumption) | (with_reducible exact gb_none (by assumption)) | (with_reducible refine gb_alloc ?_ _) | (with_reducible refine gb_drew ?_) | (with_reducible refine gb_drewN ?_ _) | ((with_reducible refine gb_set ?_ _ _ ?h2); case h2 => first | exact .inl rfl | exact .inr (Nat.le_refl _) | exact .inr (by simp <;> omega)) | (with_reducible refine gb_sub ?_ (by assumption)) | (with_reducible refine gb_trans ?_ (by assumption))))⟩

section
variable {b : Nat} {tv : Value} {l : List Tok}

set_option maxRecDepth 20000 in
set_option maxHeartbeats 4000000 in
theorem rprim_const {E : FR Ex} (hE : CR 28 b tv l E) (n : Nat) (hok : ∀ i, TokOk (tokAt l i)) {w : World} {i : Nat} (h : Rr w b tv l (i, false)) {r : Ex × RS}
    (ho : primR l dayM E n (i, false) = some r) (hk : (tokAt l i).kind = 1 ∨ ((tokAt l i).kind = 2 ∧ (tokAt l i).text.length ≤ 2048) ∨ (tokAt l i).kind = 3) :
    Calls Tryz.prog 277 #[.pointer (some ⟨b, 0, none⟩)] w (RPost b tv l w (VEx w) r) := by
  have hb := h.lt
  have gz : w.grownBy (w.alloc (.cells zeroE.toArray 29 (0, 0))) (some b) := gb_alloc (gb_refl _ _) _
  have hz := Blk.new w zeroE 29
  have h0 := h.alloc (.cells zeroE.toArray 29 (0, 0))
  have c2 := h0.c2
  have hi : i < l.length := by rcases hk with h | h | h <;> exact tokAt_lt (by omega)
  have HT0 := Lib.hid (rtoken0 h0)
  have hOk := hok i
  unfold primR at ho
  simp only [Bool.false_eq_true, if_false] at ho
  have H := Lib.hid (And.intro hE (And.intro hz (And.intro gz h0)))
  simp only at HT0 c2
  generalize htt : tokAt l i = t at *
  clear hE hz gz h0 htt hok
  rcases hk with hk | ⟨hk, hlen⟩ | hk
  · rw [if_pos hk] at ho
    cases ho
    have hn := hOk.num hk
    have HK := Lib.hid hk
    have hk1 : (t.kind == 1) = true := by simpa using hk
    have HV := Lib.hid (fun (W : World) => rVal_any t.text hn.2.2 hn.1 hn.2.1 W)
    clear hn hOk hk
    go_enter Tryz.func277, Tryz.ntmps277
    go_wp2_with fail
    refine HT0.out.mono ?_
    rintro e w1 ⟨rfl, g1⟩
    have hZ1 := (H.out.2.1.gb g1 (by simp)).alloc (.cells #[.int .i64 t.kind, .int .i64 t.pos, str t.text] 89 (0, 0))
    have hR1 := (H.out.2.2.2.gbN g1).alloc (.cells #[.int .i64 t.kind, .int .i64 t.pos, str t.text] 89 (0, 0))
    have hTk := Blk.new w1 [.int .i64 t.kind, .int .i64 t.pos, str t.text] 89
    have G1 := Lib.hid (gb_alloc (gb_sub H.out.2.2.1 g1) (.cells #[.int .i64 t.kind, .int .i64 t.pos, str t.text] 89 (0, 0)))
    have hb1 : b < w1.heap.size := Nat.lt_of_lt_of_le H.out.2.2.2.lt g1.size
    have hw1 : w.heap.size < w1.heap.size := Nat.lt_of_lt_of_le (by simp) g1.size
    clear g1 HT0
    have HN := Lib.hid (rnext_any hR1 (fun _ => hi))
    clear hR1
    go_wp2_with fail
    refine HN.out.mono ?_
    rintro e w2 ⟨g2, v, rfl, rfl, h2⟩
    have hZ := hZ1.gb g2 (by simp; omega)
    have hT2 := hTk.gb g2 (by simp; omega)
    have HR := Lib.hid (And.intro (gb_trans G1.out g2) h2)
    have hlt2 := hZ.lt
    have t2 := hT2.cell 2
    simp only [List.getElem?_cons_zero, List.getElem?_cons_succ] at t2
    clear g2 h2 hZ1 hTk HN
    go_wp2_with fail
    refine (HV.out _).mono ?_
    rintro e w3 ⟨rfl, rfl⟩
    generalize numM t.text = z at *
    go_wp2_with fail
    refine (rNum_any _ _).mono ?_
    rintro e w4 ⟨rfl, g4⟩
    replace hZ := hZ.gb g4 (by simp)
    replace HR := Lib.hid (And.intro (gb_sub HR.out.1 g4) (HR.out.2.gbN g4))
    have hlt4 := hZ.lt
    clear g4
    have cz_0 := hZ.cell 0; have cz_1 := hZ.cell 1; have cz_2 := hZ.cell 2; have cz_3 := hZ.cell 3; have cz_4 := hZ.cell 4; have cz_5 := hZ.cell 5; have cz_6 := hZ.cell 6; simp only [hdC, List.getElem?_cons_zero, List.getElem?_cons_succ] at cz_0 cz_1 cz_2 cz_3 cz_4 cz_5 cz_6; have cz_f := fun i => hZ.frozen i
    go_wp2
    exact bodyPost_ret (results_ex (hd := (constE 2 z [] : Ex).h) (pv := .slice none 0 0) (lv := .slice none 0 0) rfl _ (hZ.set7 _ _ _ _ _ _ _) rfl) rfl (rpe_copy (ok := fun k => w.heap.size < k) (x := constE 2 z []) hb HR.out.1 ⟨none, 0, none, 0, rfl, Cells.nil _ _ _, RepL.nil _ _⟩ (fun k hk => hk) HR.out.2 (gb_set7 _ _ _ _ _ _ _ _ _))
  · have h1 : ¬ t.kind = 1 := by omega
    rw [if_neg h1, if_pos ⟨hk, hlen⟩] at ho
    cases ho
    have hk1 : (t.kind == 1) = false := by simpa using h1
    have hk2 : (t.kind == 2) = true := by simpa using hk
    have hl1 : decide ((t.text.length : Int) ≤ 2048) = true := by simp; omega
    clear hk h1 hOk
    go_enter Tryz.func277, Tryz.ntmps277
    go_wp2_with fail
    refine HT0.out.mono ?_
    rintro e w1 ⟨rfl, g1⟩
    have hZ1 := (H.out.2.1.gb g1 (by simp)).alloc (.cells #[.int .i64 t.kind, .int .i64 t.pos, str t.text] 89 (0, 0))
    have hR1 := (H.out.2.2.2.gbN g1).alloc (.cells #[.int .i64 t.kind, .int .i64 t.pos, str t.text] 89 (0, 0))
    have hTk := Blk.new w1 [.int .i64 t.kind, .int .i64 t.pos, str t.text] 89
    have G1 := Lib.hid (gb_alloc (gb_sub H.out.2.2.1 g1) (.cells #[.int .i64 t.kind, .int .i64 t.pos, str t.text] 89 (0, 0)))
    have hb1 : b < w1.heap.size := Nat.lt_of_lt_of_le H.out.2.2.2.lt g1.size
    have hw1 : w.heap.size < w1.heap.size := Nat.lt_of_lt_of_le (by simp) g1.size
    clear g1 HT0
    have t2 := hTk.cell 2
    simp only [List.getElem?_cons_zero, List.getElem?_cons_succ] at t2
    go_wp2_with fail
    refine (rnext_any hR1 (fun _ => hi)).mono ?_
    rintro e w2 ⟨g2, v, rfl, rfl, h2⟩
    have hZ := hZ1.gb g2 (by simp; omega)
    have hT2 := hTk.gb g2 (by simp; omega)
    have HR := Lib.hid (And.intro (gb_trans G1.out g2) h2)
    have hlt2 := hZ.lt
    have s2 := hT2.cell 2
    simp only [List.getElem?_cons_zero, List.getElem?_cons_succ] at s2
    clear g2 h2 hZ1 hTk t2
    go_wp2_with fail
    refine (rText_any _ _).mono ?_
    rintro e w4 ⟨rfl, g4⟩
    replace hZ := hZ.gb g4 (by simp)
    replace HR := Lib.hid (And.intro (gb_sub HR.out.1 g4) (HR.out.2.gbN g4))
    have hlt4 := hZ.lt
    clear g4 s2
    have cz_0 := hZ.cell 0; have cz_1 := hZ.cell 1; have cz_2 := hZ.cell 2; have cz_3 := hZ.cell 3; have cz_4 := hZ.cell 4; have cz_5 := hZ.cell 5; have cz_6 := hZ.cell 6; simp only [hdC, List.getElem?_cons_zero, List.getElem?_cons_succ] at cz_0 cz_1 cz_2 cz_3 cz_4 cz_5 cz_6; have cz_f := fun i => hZ.frozen i
    go_wp2
    exact bodyPost_ret (results_ex (hd := (constE 4 0 t.text : Ex).h) (pv := .slice none 0 0) (lv := .slice none 0 0) rfl _ (hZ.set7 _ _ _ _ _ _ _) rfl) rfl (rpe_copy (ok := fun k => w.heap.size < k) (x := constE 4 0 t.text) hb HR.out.1 ⟨none, 0, none, 0, rfl, Cells.nil _ _ _, RepL.nil _ _⟩ (fun k hk => hk) HR.out.2 (gb_set7 _ _ _ _ _ _ _ _ _))
  · have h1 : ¬ t.kind = 1 := by omega
    have h2 : ¬ (t.kind = 2 ∧ t.text.length ≤ 2048) := by omega
    rw [if_neg h1, if_neg h2, if_pos hk] at ho
    cases ho
    have hk1 : (t.kind == 1) = false := by simpa using h1
    have hk2 : (t.kind == 2) = false := by simp; omega
    have hk3 : (t.kind == 3) = true := by simpa using hk
    have HV := Lib.hid (fun (W : World) => rUnstamp_any t.text (by have := hOk.short; omega) W)
    clear hk h1 h2 hOk
    go_enter Tryz.func277, Tryz.ntmps277
    go_wp2_with fail
    refine HT0.out.mono ?_
    rintro e w1 ⟨rfl, g1⟩
    have hZ1 := (H.out.2.1.gb g1 (by simp)).alloc (.cells #[.int .i64 t.kind, .int .i64 t.pos, str t.text] 89 (0, 0))
    have hR1 := (H.out.2.2.2.gbN g1).alloc (.cells #[.int .i64 t.kind, .int .i64 t.pos, str t.text] 89 (0, 0))
    have hTk := Blk.new w1 [.int .i64 t.kind, .int .i64 t.pos, str t.text] 89
    have G1 := Lib.hid (gb_alloc (gb_sub H.out.2.2.1 g1) (.cells #[.int .i64 t.kind, .int .i64 t.pos, str t.text] 89 (0, 0)))
    have hb1 : b < w1.heap.size := Nat.lt_of_lt_of_le H.out.2.2.2.lt g1.size
    have hw1 : w.heap.size < w1.heap.size := Nat.lt_of_lt_of_le (by simp) g1.size
    clear g1 HT0
    have HN := Lib.hid (rnext_any hR1 (fun _ => hi))
    clear hR1
    go_wp2_with fail
    refine HN.out.mono ?_
    rintro e w2 ⟨g2, v, rfl, rfl, h2⟩
    have hZ := hZ1.gb g2 (by simp; omega)
    have hT2 := hTk.gb g2 (by simp; omega)
    have HR := Lib.hid (And.intro (gb_trans G1.out g2) h2)
    have hlt2 := hZ.lt
    have t2 := hT2.cell 2
    simp only [List.getElem?_cons_zero, List.getElem?_cons_succ] at t2
    clear g2 h2 hZ1 hTk HN
    go_wp2_with fail
    refine (HV.out _).mono ?_
    rintro e w3 ⟨rfl, g3⟩
    replace hZ := hZ.gb g3 (by simp)
    replace HR := Lib.hid (And.intro (gb_sub HR.out.1 g3) (HR.out.2.gbN g3))
    have hd : (unstampM t.text).1 = dayM t.text := rfl
    rw [hd]
    generalize dayM t.text = z at *
    clear g3 hd
    go_wp2_with fail
    refine (rDate_any _ _).mono ?_
    rintro e w4 ⟨rfl, g4⟩
    replace hZ := hZ.gb g4 (by simp)
    replace HR := Lib.hid (And.intro (gb_sub HR.out.1 g4) (HR.out.2.gbN g4))
    have hlt4 := hZ.lt
    clear g4
    have cz_0 := hZ.cell 0; have cz_1 := hZ.cell 1; have cz_2 := hZ.cell 2; have cz_3 := hZ.cell 3; have cz_4 := hZ.cell 4; have cz_5 := hZ.cell 5; have cz_6 := hZ.cell 6; simp only [hdC, List.getElem?_cons_zero, List.getElem?_cons_succ] at cz_0 cz_1 cz_2 cz_3 cz_4 cz_5 cz_6; have cz_f := fun i => hZ.frozen i
    go_wp2
    exact bodyPost_ret (results_ex (hd := (constE 3 z [] : Ex).h) (pv := .slice none 0 0) (lv := .slice none 0 0) rfl _ (hZ.set7 _ _ _ _ _ _ _) rfl) rfl (rpe_copy (ok := fun k => w.heap.size < k) (x := constE 3 z []) hb HR.out.1 ⟨none, 0, none, 0, rfl, Cells.nil _ _ _, RepL.nil _ _⟩ (fun k hk => hk) HR.out.2 (gb_set7 _ _ _ _ _ _ _ _ _))
end

end Go.Proofs.YtmcajbhljbbglaaGreatDoor

namespace Go.Proofs.YtmcajbhljbbglaaGreatDoor
open Go.RowKit
section
variable {b : Nat} {tv : Value} {l : List Tok}

set_option maxRecDepth 20000 in
set_option maxHeartbeats 4000000 in
theorem rprim_wrong {E : FR Ex} (n : Nat) {w : World} {i : Nat} (h : Rr w b tv l (i, true)) {r : Ex × RS} (ho : primR l dayM E n (i, true) = some r) :
    Calls Tryz.prog 277 #[.pointer (some ⟨b, 0, none⟩)] w (RPost b tv l w (VEx w) r) := by
  have hb := h.lt
  have gz : w.grownBy (w.alloc (.cells zeroE.toArray 29 (0, 0))) (some b) := gb_alloc (gb_refl _ _) _
  have hz := Blk.new w zeroE 29
  have h0 := h.alloc (.cells zeroE.toArray 29 (0, 0))
  have c2 := h0.c2
  have hq : some (zeroEx, ((i, true) : RS)) = some r := ho
  cases hq
  have HR := Lib.hid (And.intro gz (And.intro h0 hz))
  simp only at c2
  clear ho gz h0 hz
  go_enter Tryz.func277, Tryz.ntmps277
  go_wp2
  exact bodyPost_ret (results_ex (hd := hd0 0 []) (pv := .slice none 0 0) (lv := .slice none 0 0) rfl _ HR.out.2.2 rfl) rfl ⟨HR.out.1, _, rfl, ⟨none, 0, none, 0, rfl, Cells.nil _ _ _, RepL.nil _ _⟩, HR.out.2.1⟩

set_option maxRecDepth 20000 in
set_option maxHeartbeats 4000000 in
theorem rprim_word {E : FR Ex} (n : Nat) (hN : CR 293 b tv l (namedR l E n)) {w : World} {i : Nat} (h : Rr w b tv l (i, false)) {r : Ex × RS}
    (ho : primR l dayM E n (i, false) = some r) (hk : (tokAt l i).kind = 0) :
    Calls Tryz.prog 277 #[.pointer (some ⟨b, 0, none⟩)] w (RPost b tv l w (VEx w) r) := by
  have hb := h.lt
  have gz : w.grownBy (w.alloc (.cells zeroE.toArray 29 (0, 0))) (some b) := gb_alloc (gb_refl _ _) _
  have hz := Blk.new w zeroE 29
  have h0 := h.alloc (.cells zeroE.toArray 29 (0, 0))
  have c2 := h0.c2
  have HT0 := Lib.hid (rtoken0 h0)
  unfold primR at ho
  simp only [Bool.false_eq_true, if_false] at ho
  rw [if_neg (by omega), if_neg (by omega), if_neg (by omega), if_pos hk] at ho
  have H := Lib.hid (And.intro hN (And.intro hz (And.intro gz h0)))
  have HO := Lib.hid ho
  simp only at HT0 c2
  generalize htt : tokAt l i = t at *
  have hk1 : (t.kind == 1) = false := by simp; omega
  have hk2 : (t.kind == 2) = false := by simp; omega
  have hk3 : (t.kind == 3) = false := by simp; omega
  have hk0 : (t.kind == 0) = true := by simp; omega
  clear hN hz gz h0 htt ho hk
  go_enter Tryz.func277, Tryz.ntmps277
  go_wp2_with fail
  refine HT0.out.mono ?_
  rintro e w1 ⟨rfl, g1⟩
  have hZ1 := (H.out.2.1.gb g1 (by simp)).alloc (.cells #[.int .i64 t.kind, .int .i64 t.pos, str t.text] 89 (0, 0))
  have hR1 := (H.out.2.2.2.gbN g1).alloc (.cells #[.int .i64 t.kind, .int .i64 t.pos, str t.text] 89 (0, 0))
  have hTk := Blk.new w1 [.int .i64 t.kind, .int .i64 t.pos, str t.text] 89
  have G1 := Lib.hid (gb_alloc (gb_sub H.out.2.2.1 g1) (.cells #[.int .i64 t.kind, .int .i64 t.pos, str t.text] 89 (0, 0)))
  have hb1 : b < w1.heap.size := Nat.lt_of_lt_of_le H.out.2.2.2.lt g1.size
  have hw1 : w.heap.size < w1.heap.size := Nat.lt_of_lt_of_le (by simp) g1.size
  clear g1 HT0
  have G0 := G1
  have hZ := hZ1
  have hltZ := hZ.lt
  have HC := Lib.hid (H.out.1 _ _ _ hR1 HO.out)
  clear hR1 hZ1 G1
  generalize hW : w1.alloc (.cells #[.int .i64 t.kind, .int .i64 t.pos, str t.text] 89 (0, 0)) = W at *
  have d0 := hTk.cell 0
  have d2 := hTk.cell 2
  simp only [List.getElem?_cons_zero, List.getElem?_cons_succ] at d0 d2
  go_wp2_with fail
  refine (HC.out).mono ?_
  rintro e w5 ⟨g5, v, rfl, ⟨pa, pc, la, lc, rfl, rp, rl⟩, h5⟩
  simp only at rp rl h5 ⊢
  have hZ5 := hZ.gb g5 (by simp; omega)
  have HE := Lib.hid (And.intro (gb_trans G0.out g5) (And.intro rp (And.intro rl h5)))
  clear g5 rp rl h5 hZ
  have cz_0 := hZ5.cell 0; have cz_1 := hZ5.cell 1; have cz_2 := hZ5.cell 2; have cz_3 := hZ5.cell 3; have cz_4 := hZ5.cell 4; have cz_5 := hZ5.cell 5; have cz_6 := hZ5.cell 6; simp only [hdC, List.getElem?_cons_zero, List.getElem?_cons_succ] at cz_0 cz_1 cz_2 cz_3 cz_4 cz_5 cz_6; have cz_f := fun i => hZ5.frozen i
  go_wp2
  exact bodyPost_ret (results_ex rfl _ (hZ5.set7 _ _ _ _ _ _ _) rfl) rfl (rpe_copy hb HE.out.1 ⟨_, _, _, _, rfl, HE.out.2.1, HE.out.2.2.1⟩ (by intro k hk; have : (W).heap.size ≤ k := hk; omega) HE.out.2.2.2 (gb_set7 _ _ _ _ _ _ _ _ _))

set_option maxRecDepth 20000 in
set_option maxHeartbeats 4000000 in
theorem rprim_macro {E : FR Ex} (hM : CR 139 b tv l (macroR l E)) (n : Nat) {w : World} {i : Nat} (h : Rr w b tv l (i, false)) {r : Ex × RS}
    (ho : primR l dayM E n (i, false) = some r) (h38 : isSignM (tokAt l i) [38] = true) :
    Calls Tryz.prog 277 #[.pointer (some ⟨b, 0, none⟩)] w (RPost b tv l w (VEx w) r) := by
  have hb := h.lt
  have gz : w.grownBy (w.alloc (.cells zeroE.toArray 29 (0, 0))) (some b) := gb_alloc (gb_refl _ _) _
  have hz := Blk.new w zeroE 29
  have h0 := h.alloc (.cells zeroE.toArray 29 (0, 0))
  have c2 := h0.c2
  have HT0 := Lib.hid (rtoken0 h0)
  have hk : (tokAt l i).kind = 4 := by simp [isSignM] at h38; exact h38.1
  unfold primR at ho
  simp only [Bool.false_eq_true, if_false] at ho
  rw [if_neg (by omega), if_neg (by omega), if_neg (by omega), if_neg (by omega), if_pos h38] at ho
  have H := Lib.hid (And.intro hM (And.intro hz (And.intro gz h0)))
  have HO := Lib.hid ho
  simp only at HT0 c2
  generalize htt : tokAt l i = t at *
  have hk1 : (t.kind == 1) = false := by simp; omega
  have hk2 : (t.kind == 2) = false := by simp; omega
  have hk3 : (t.kind == 3) = false := by simp; omega
  have hk0 : (t.kind == 0) = false := by simp; omega
  clear hM hz gz h0 ho hk
  go_enter Tryz.func277, Tryz.ntmps277
  go_wp2_with fail
  refine HT0.out.mono ?_
  rintro e w1 ⟨rfl, g1⟩
  have hZ1 := (H.out.2.1.gb g1 (by simp)).alloc (.cells #[.int .i64 t.kind, .int .i64 t.pos, str t.text] 89 (0, 0))
  have hR1 := (H.out.2.2.2.gbN g1).alloc (.cells #[.int .i64 t.kind, .int .i64 t.pos, str t.text] 89 (0, 0))
  have hTk := Blk.new w1 [.int .i64 t.kind, .int .i64 t.pos, str t.text] 89
  have G1 := Lib.hid (gb_alloc (gb_sub H.out.2.2.1 g1) (.cells #[.int .i64 t.kind, .int .i64 t.pos, str t.text] 89 (0, 0)))
  have hb1 : b < w1.heap.size := Nat.lt_of_lt_of_le H.out.2.2.2.lt g1.size
  have hw1 : w.heap.size < w1.heap.size := Nat.lt_of_lt_of_le (by simp) g1.size
  clear g1 HT0
  have HI := Lib.hid (risSign_any hR1 0 (by omega) [38])
  rw [Nat.add_zero, htt, h38] at HI
  clear htt
  generalize hW : w1.alloc (.cells #[.int .i64 t.kind, .int .i64 t.pos, str t.text] 89 (0, 0)) = W at *
  have d0 := hTk.cell 0
  have d2 := hTk.cell 2
  simp only [List.getElem?_cons_zero, List.getElem?_cons_succ] at d0 d2
  go_wp2_with fail
  refine HI.out.mono ?_
  rintro e w2 ⟨rfl, g2⟩
  have hR2 := hR1.gbN g2
  have hZ := hZ1.gb g2 (by simp)
  have G0 := Lib.hid (gb_sub G1.out g2)
  have hltZ := hZ.lt
  have hb2 := hR2.lt
  have HC := Lib.hid (H.out.1 _ _ _ hR2 HO.out)
  clear g2 hR2 hR1 hZ1 HI hTk d0 d2
  go_wp2_with fail
  refine (HC.out).mono ?_
  rintro e w5 ⟨g5, v, rfl, ⟨pa, pc, la, lc, rfl, rp, rl⟩, h5⟩
  simp only at rp rl h5 ⊢
  have hZ5 := hZ.gb g5 (by simp; omega)
  have HE := Lib.hid (And.intro (gb_trans G0.out g5) (And.intro rp (And.intro rl h5)))
  clear g5 rp rl h5 hZ
  have cz_0 := hZ5.cell 0; have cz_1 := hZ5.cell 1; have cz_2 := hZ5.cell 2; have cz_3 := hZ5.cell 3; have cz_4 := hZ5.cell 4; have cz_5 := hZ5.cell 5; have cz_6 := hZ5.cell 6; simp only [hdC, List.getElem?_cons_zero, List.getElem?_cons_succ] at cz_0 cz_1 cz_2 cz_3 cz_4 cz_5 cz_6; have cz_f := fun i => hZ5.frozen i
  go_wp2
  exact bodyPost_ret (results_ex rfl _ (hZ5.set7 _ _ _ _ _ _ _) rfl) rfl (rpe_copy hb HE.out.1 ⟨_, _, _, _, rfl, HE.out.2.1, HE.out.2.2.1⟩ (by intro k hk; have : (w2).heap.size ≤ k := hk; omega) HE.out.2.2.2 (gb_set7 _ _ _ _ _ _ _ _ _))

set_option maxRecDepth 20000 in
set_option maxHeartbeats 8000000 in
theorem rprim_sign {E : FR Ex} (hE : CR 28 b tv l E) (n : Nat) (hB : CR 295 b tv l (bracesR l E n)) {w : World} {i : Nat} (h : Rr w b tv l (i, false)) {r : Ex × RS}
    (ho : signedR l E n (i, false) = some r) (h38 : isSignM (tokAt l i) [38] = false) (hk : (tokAt l i).kind ≠ 1 ∧ (tokAt l i).kind ≠ 2 ∧ (tokAt l i).kind ≠ 3 ∧ (tokAt l i).kind ≠ 0) :
    Calls Tryz.prog 277 #[.pointer (some ⟨b, 0, none⟩)] w (RPost b tv l w (VEx w) r) := by
  have hb := h.lt
  have gz : w.grownBy (w.alloc (.cells zeroE.toArray 29 (0, 0))) (some b) := gb_alloc (gb_refl _ _) _
  have hz := Blk.new w zeroE 29
  have h0 := h.alloc (.cells zeroE.toArray 29 (0, 0))
  have c2 := h0.c2
  have HT0 := Lib.hid (rtoken0 h0)
  have H := Lib.hid (And.intro hE (And.intro hz (And.intro gz (show Rr _ b tv l (i, false) from h0))))
  have HB := Lib.hid hB
  have HO := Lib.hid ho
  simp only at HT0 c2
  generalize htt : tokAt l i = t at *
  have hk1 : (t.kind == 1) = false := by simpa using hk.1
  have hk2 : (t.kind == 2) = false := by simpa using hk.2.1
  have hk3 : (t.kind == 3) = false := by simpa using hk.2.2.1
  have hk0 : (t.kind == 0) = false := by simpa using hk.2.2.2
  clear hE hB hz gz h0 ho hk
  go_enter Tryz.func277, Tryz.ntmps277
  go_wp2_with fail
  refine HT0.out.mono ?_
  rintro e w1 ⟨rfl, g1⟩
  have hZ1 := (H.out.2.1.gb g1 (by simp)).alloc (.cells #[.int .i64 t.kind, .int .i64 t.pos, str t.text] 89 (0, 0))
  have hR1 := (H.out.2.2.2.gbN g1).alloc (.cells #[.int .i64 t.kind, .int .i64 t.pos, str t.text] 89 (0, 0))
  have hTk := Blk.new w1 [.int .i64 t.kind, .int .i64 t.pos, str t.text] 89
  have G1 := Lib.hid (gb_alloc (gb_sub H.out.2.2.1 g1) (.cells #[.int .i64 t.kind, .int .i64 t.pos, str t.text] 89 (0, 0)))
  have hb1 : b < w1.heap.size := Nat.lt_of_lt_of_le H.out.2.2.2.lt g1.size
  have hw1 : w.heap.size < w1.heap.size := Nat.lt_of_lt_of_le (by simp) g1.size
  clear g1 HT0
  generalize hW : w1.alloc (.cells #[.int .i64 t.kind, .int .i64 t.pos, str t.text] 89 (0, 0)) = W at *
  have d0 := hTk.cell 0
  have d2 := hTk.cell 2
  simp only [List.getElem?_cons_zero, List.getElem?_cons_succ] at d0 d2
  have HI := Lib.hid (risSign_any hR1 0 (by omega) [38])
  rw [Nat.add_zero, htt, h38] at HI
  clear htt
  go_wp2_with fail
  refine HI.out.mono ?_
  rintro e w2 ⟨rfl, g2⟩
  have hR2 := hR1.gbN g2
  have hZ2 := hZ1.gb g2 (by simp)
  have G2 := Lib.hid (gb_sub G1.out g2)
  have hb2 := hR2.lt
  have HS := Lib.hid (rsign_new hR2 primL (by decide) (by decide) w2.heap.size rfl 6 rfl)
  have hB2 := hZ2.alloc (.cells (primL.map str).toArray 9 (0, 0))
  have hG2 := gb_alloc G2.out (.cells (primL.map str).toArray 9 (0, 0))
  have hltw := hZ2.lt
  clear g2 hR2 hR1 hZ1 HI hTk
  go_wp2_with fail
  refine HS.out.mono ?_
  rintro e w3 ⟨g3, v, rfl, rfl, h3⟩
  have hZ := hB2.gb g3 (by simp; omega)
  have HR := Lib.hid (And.intro (gb_trans hG2 g3) h3)
  have hw3 : w.heap.size < w3.heap.size := hZ.lt
  have hb3 := h3.lt
  clear g3 h3 HS hB2 hG2 hZ2
  clear d0 d2
  have ho := HO.out
  unfold signedR at ho
  rw [show (signR l primL (i, false)).1 = signOf l primL (i, false) from rfl]
  have hin : signOf l primL (i, false) = [] ∨ signOf l primL (i, false) ∈ primL := by
    by_cases he : signOf l primL (i, false) = []
    · exact .inl he
    · exact .inr (signOf_in he)
  try simp only at HR
  generalize (signR l primL (i, false)).2 = st2 at *
  generalize signOf l primL (i, false) = S at *
  have hS : S = [] ∨ S = [46, 84, 46] ∨ S = [46, 70, 46] ∨ S = [46, 78, 85, 76, 76, 46] ∨ S = [40] ∨ S = [123] ∨ S = [64] := by
    rcases hin with h | h
    · exact .inl h
    · right; simpa [primL] using h
  clear hin HO
  rcases hS with rfl | rfl | rfl | rfl | rfl | rfl | rfl
  · have hq : some (zeroEx, ((st2.1, true) : RS)) = some r := ho
    cases hq
    clear ho
    go_wp2_with fail
    refine (rwrong_any HR.out.2).mono ?_
    rintro e w4 ⟨g4, v, rfl, rfl, h4⟩
    replace hZ := hZ.gb g4 (by simp; omega)
    replace HR := Lib.hid (And.intro (gb_trans HR.out.1 g4) h4)
    have hlt4 := hZ.lt
    clear g4 h4
    have cz_0 := hZ.cell 0; have cz_1 := hZ.cell 1; have cz_2 := hZ.cell 2; have cz_3 := hZ.cell 3; have cz_4 := hZ.cell 4; have cz_5 := hZ.cell 5; have cz_6 := hZ.cell 6; simp only [hdC, List.getElem?_cons_zero, List.getElem?_cons_succ] at cz_0 cz_1 cz_2 cz_3 cz_4 cz_5 cz_6; have cz_f := fun i => hZ.frozen i
    go_wp2
    exact bodyPost_ret (results_ex (hd := (zeroEx : Ex).h) (pv := .slice none 0 0) (lv := .slice none 0 0) rfl _ (hZ.set7 _ _ _ _ _ _ _) rfl) rfl (rpe_copy (ok := fun k => w.heap.size < k) (x := zeroEx) hb HR.out.1 ⟨none, 0, none, 0, rfl, Cells.nil _ _ _, RepL.nil _ _⟩ (fun k hk => hk) HR.out.2 (gb_set7 _ _ _ _ _ _ _ _ _))
  · have hq : some (constE 1 1 [], st2) = some r := ho
    cases hq
    clear ho
    go_wp2_with fail
    refine (rTruth_any true _).mono ?_
    rintro e w4 ⟨rfl, g4⟩
    replace hZ := hZ.gb g4 (by simp)
    replace HR := Lib.hid (And.intro (gb_sub HR.out.1 g4) (HR.out.2.gbN g4))
    have hlt4 := hZ.lt
    clear g4
    have cz_0 := hZ.cell 0; have cz_1 := hZ.cell 1; have cz_2 := hZ.cell 2; have cz_3 := hZ.cell 3; have cz_4 := hZ.cell 4; have cz_5 := hZ.cell 5; have cz_6 := hZ.cell 6; simp only [hdC, List.getElem?_cons_zero, List.getElem?_cons_succ] at cz_0 cz_1 cz_2 cz_3 cz_4 cz_5 cz_6; have cz_f := fun i => hZ.frozen i
    go_wp2
    exact bodyPost_ret (results_ex (hd := (constE 1 1 [] : Ex).h) (pv := .slice none 0 0) (lv := .slice none 0 0) rfl _ (hZ.set7 _ _ _ _ _ _ _) rfl) rfl (rpe_copy (ok := fun k => w.heap.size < k) (x := constE 1 1 []) hb HR.out.1 ⟨none, 0, none, 0, rfl, Cells.nil _ _ _, RepL.nil _ _⟩ (fun k hk => hk) HR.out.2 (gb_set7 _ _ _ _ _ _ _ _ _))
  · have hq : some (constE 1 0 [], st2) = some r := ho
    cases hq
    clear ho
    go_wp2_with fail
    refine (rTruth_any false _).mono ?_
    rintro e w4 ⟨rfl, g4⟩
    replace hZ := hZ.gb g4 (by simp)
    replace HR := Lib.hid (And.intro (gb_sub HR.out.1 g4) (HR.out.2.gbN g4))
    have hlt4 := hZ.lt
    clear g4
    have cz_0 := hZ.cell 0; have cz_1 := hZ.cell 1; have cz_2 := hZ.cell 2; have cz_3 := hZ.cell 3; have cz_4 := hZ.cell 4; have cz_5 := hZ.cell 5; have cz_6 := hZ.cell 6; simp only [hdC, List.getElem?_cons_zero, List.getElem?_cons_succ] at cz_0 cz_1 cz_2 cz_3 cz_4 cz_5 cz_6; have cz_f := fun i => hZ.frozen i
    go_wp2
    exact bodyPost_ret (results_ex (hd := (constE 1 0 [] : Ex).h) (pv := .slice none 0 0) (lv := .slice none 0 0) rfl _ (hZ.set7 _ _ _ _ _ _ _) rfl) rfl (rpe_copy (ok := fun k => w.heap.size < k) (x := constE 1 0 []) hb HR.out.1 ⟨none, 0, none, 0, rfl, Cells.nil _ _ _, RepL.nil _ _⟩ (fun k hk => hk) HR.out.2 (gb_set7 _ _ _ _ _ _ _ _ _))
  · have hq : some (zeroEx, st2) = some r := ho
    cases hq
    clear ho
    have cz_0 := hZ.cell 0; have cz_1 := hZ.cell 1; have cz_2 := hZ.cell 2; have cz_3 := hZ.cell 3; have cz_4 := hZ.cell 4; have cz_5 := hZ.cell 5; have cz_6 := hZ.cell 6; simp only [hdC, List.getElem?_cons_zero, List.getElem?_cons_succ] at cz_0 cz_1 cz_2 cz_3 cz_4 cz_5 cz_6; have cz_f := fun i => hZ.frozen i
    go_wp2
    exact bodyPost_ret (results_ex (hd := (zeroEx : Ex).h) (pv := .slice none 0 0) (lv := .slice none 0 0) rfl _ (hZ.set7 _ _ _ _ _ _ _) rfl) rfl (rpe_copy (ok := fun k => w.heap.size < k) (x := zeroEx) hb HR.out.1 ⟨none, 0, none, 0, rfl, Cells.nil _ _ _, RepL.nil _ _⟩ (fun k hk => hk) HR.out.2 (gb_set7 _ _ _ _ _ _ _ _ _))
  · have hq : (E st2).bind (fun r => some (r.1, wantR l [41] r.2)) = some r := ho
    obtain ⟨⟨x, st4⟩, hx, hq⟩ := Option.bind_eq_some_iff.1 hq
    simp only at hq
    cases hq
    have HC := Lib.hid (H.out.1 _ _ _ HR.out.2 hx)
    have HZ := Lib.hid hZ
    clear ho hx hZ
    go_wp2_with fail
    refine HC.out.mono ?_
    rintro e w5 ⟨g5, v, rfl, ⟨pa, pc, la, lc, rfl, rp, rl⟩, h5⟩
    simp only at rp rl h5 ⊢
    have HK := Lib.hid (KpR.new hb HZ.out HR.out.1 hw3 g5 rp rl h5)
    have hb5 := h5.lt
    clear rp rl h5 HC g5 HZ
    go_wp2_with fail
    refine (rwant_any HK.out.rr [41]).mono ?_
    rintro e w6 ⟨g6, v, rfl, rfl, h6⟩
    have HK2 := Lib.hid (HK.out.gb hb g6 h6)
    clear g6 h6 HK
    have hltz := HK2.out.zero.lt
    have hk2 := HK2.out
    have hL := hk2.blk
    have hZ := hk2.zero
    have hwL := hk2.wL
    clear hk2
    have cl_0 := hL.cell 0; have cl_1 := hL.cell 1; have cl_2 := hL.cell 2; have cl_3 := hL.cell 3; have cl_4 := hL.cell 4; have cl_5 := hL.cell 5; have cl_6 := hL.cell 6; simp only [hdC, List.getElem?_cons_zero, List.getElem?_cons_succ] at cl_0 cl_1 cl_2 cl_3 cl_4 cl_5 cl_6; have cl_f := fun i => hL.frozen i
    have cz_0 := hZ.cell 0; have cz_1 := hZ.cell 1; have cz_2 := hZ.cell 2; have cz_3 := hZ.cell 3; have cz_4 := hZ.cell 4; have cz_5 := hZ.cell 5; have cz_6 := hZ.cell 6; simp only [hdC, List.getElem?_cons_zero, List.getElem?_cons_succ] at cz_0 cz_1 cz_2 cz_3 cz_4 cz_5 cz_6; have cz_f := fun i => hZ.frozen i
    go_wp2
    have hk := HK2.out
    have g7 := gb_set7 w6 w.heap.size (.int .i64 x.h.op) (str x.h.s) (.int .i64 x.h.vk) (.int .i64 x.h.vn) (str x.h.vs) (.slice pa x.h.p.length pc) (.slice la x.kids.len lc)
    exact bodyPost_ret (results_ex rfl _ (hZ.set7 _ _ _ _ _ _ _) rfl) rfl (rpe_copy hb hk.gr hk.ve (by intro k hk; exact hk.1) hk.rr g7)
  · have hq : bracesR l E n st2 = some r := ho
    have HC := Lib.hid (HB.out _ _ _ HR.out.2 hq)
    have G0 := Lib.hid HR.out.1
    clear ho hq
    go_wp2_with fail
    refine (HC.out).mono ?_
    rintro e w5 ⟨g5, v, rfl, ⟨pa, pc, la, lc, rfl, rp, rl⟩, h5⟩
    simp only at rp rl h5 ⊢
    have hZ5 := hZ.gb g5 (by simp; omega)
    have HE := Lib.hid (And.intro (gb_trans G0.out g5) (And.intro rp (And.intro rl h5)))
    clear g5 rp rl h5 hZ
    have cz_0 := hZ5.cell 0; have cz_1 := hZ5.cell 1; have cz_2 := hZ5.cell 2; have cz_3 := hZ5.cell 3; have cz_4 := hZ5.cell 4; have cz_5 := hZ5.cell 5; have cz_6 := hZ5.cell 6; simp only [hdC, List.getElem?_cons_zero, List.getElem?_cons_succ] at cz_0 cz_1 cz_2 cz_3 cz_4 cz_5 cz_6; have cz_f := fun i => hZ5.frozen i
    go_wp2
    exact bodyPost_ret (results_ex rfl _ (hZ5.set7 _ _ _ _ _ _ _) rfl) rfl (rpe_copy hb HE.out.1 ⟨_, _, _, _, rfl, HE.out.2.1, HE.out.2.2.1⟩ (by intro k hk; have : (w3).heap.size ≤ k := hk; omega) HE.out.2.2.2 (gb_set7 _ _ _ _ _ _ _ _ _))
  · have hq : some ((⟨hd0 10 (nameR l st2).1, .nil⟩ : Ex), (nameR l st2).2) = some r := ho
    cases hq
    have HC := Lib.hid (rname_any HR.out.2)
    clear ho
    go_wp2_with fail
    refine HC.out.mono ?_
    rintro e w4 ⟨g4, v, rfl, rfl, h4⟩
    replace hZ := hZ.gb g4 (by simp; omega)
    replace HR := Lib.hid (And.intro (gb_trans HR.out.1 g4) h4)
    have hlt4 := hZ.lt
    simp only at HR ⊢
    generalize (nameR l st2).1 = s at *
    generalize (nameR l st2).2 = st3 at *
    clear g4 h4 HC
    have cz_0 := hZ.cell 0; have cz_1 := hZ.cell 1; have cz_2 := hZ.cell 2; have cz_3 := hZ.cell 3; have cz_4 := hZ.cell 4; have cz_5 := hZ.cell 5; have cz_6 := hZ.cell 6; simp only [hdC, List.getElem?_cons_zero, List.getElem?_cons_succ] at cz_0 cz_1 cz_2 cz_3 cz_4 cz_5 cz_6; have cz_f := fun i => hZ.frozen i
    go_wp2
    exact bodyPost_ret (results_ex (hd := ((⟨hd0 10 s, .nil⟩ : Ex) : Ex).h) (pv := .slice none 0 0) (lv := .slice none 0 0) rfl _ (hZ.set7 _ _ _ _ _ _ _) rfl) rfl (rpe_copy (ok := fun k => w.heap.size < k) (x := (⟨hd0 10 s, .nil⟩ : Ex)) hb HR.out.1 ⟨none, 0, none, 0, rfl, Cells.nil _ _ _, RepL.nil _ _⟩ (fun k hk => hk) HR.out.2 (gb_set7 _ _ _ _ _ _ _ _ _))

set_option maxRecDepth 20000 in
set_option maxHeartbeats 8000000 in
theorem rprim_big {E : FR Ex} (n : Nat) {w : World} {i : Nat} (h : Rr w b tv l (i, false)) {r : Ex × RS}
    (ho : primR l dayM E n (i, false) = some r) (hk : (tokAt l i).kind = 2) (hlen : 2048 < (tokAt l i).text.length) :
    Calls Tryz.prog 277 #[.pointer (some ⟨b, 0, none⟩)] w (RPost b tv l w (VEx w) r) := by
  have hb := h.lt
  have gz : w.grownBy (w.alloc (.cells zeroE.toArray 29 (0, 0))) (some b) := gb_alloc (gb_refl _ _) _
  have hz := Blk.new w zeroE 29
  have h0 := h.alloc (.cells zeroE.toArray 29 (0, 0))
  have c2 := h0.c2
  have HT0 := Lib.hid (rtoken0 h0)
  have h38 : ∀ s, isSignM (tokAt l i) s = false := by intro s; simp [isSignM, hk]
  have hs : signOf l primL (i, false) = [] := by
    unfold signOf
    simp only [Bool.false_eq_true, if_false]
    rw [List.find?_eq_none.2 (fun x _ => by rw [h38]; simp)]
    rfl
  have hr : r = (zeroEx, ((i, true) : RS)) := by
    unfold primR at ho
    simp only [Bool.false_eq_true, if_false] at ho
    rw [if_neg (by omega), if_neg (by omega), if_neg (by omega), if_neg (by omega), if_neg (by rw [h38]; simp)] at ho
    unfold signedR at ho
    have e : (signR l primL (i, false)).2 = (i, false) := by unfold signR; rw [hs]; rfl
    rw [hs, e] at ho
    have hq : some (zeroEx, ((i, true) : RS)) = some r := ho
    cases hq
    rfl
  subst hr
  have H := Lib.hid (And.intro True.intro (And.intro hz (And.intro gz (show Rr _ b tv l (i, false) from h0))))
  have h38 := h38 [38]
  have e2 : (signR l primL (i, false)).2 = (i, false) := by unfold signR; rw [hs]; rfl
  have HSN := Lib.hid (And.intro hs e2)
  simp only at HT0 c2
  generalize htt : tokAt l i = t at *
  have hk1 : (t.kind == 1) = false := by simp; omega
  have hk2 : (t.kind == 2) = true := by simpa using hk
  have hk3 : (t.kind == 3) = false := by simp; omega
  have hk0 : (t.kind == 0) = false := by simp; omega
  have hl1 : decide ((t.text.length : Int) ≤ 2048) = false := by simp; omega
  clear hz gz h0 ho hk hs hlen e2
  go_enter Tryz.func277, Tryz.ntmps277
  go_wp2_with fail
  refine HT0.out.mono ?_
  rintro e w1 ⟨rfl, g1⟩
  have hZ1 := (H.out.2.1.gb g1 (by simp)).alloc (.cells #[.int .i64 t.kind, .int .i64 t.pos, str t.text] 89 (0, 0))
  have hR1 := (H.out.2.2.2.gbN g1).alloc (.cells #[.int .i64 t.kind, .int .i64 t.pos, str t.text] 89 (0, 0))
  have hTk := Blk.new w1 [.int .i64 t.kind, .int .i64 t.pos, str t.text] 89
  have G1 := Lib.hid (gb_alloc (gb_sub H.out.2.2.1 g1) (.cells #[.int .i64 t.kind, .int .i64 t.pos, str t.text] 89 (0, 0)))
  have hb1 : b < w1.heap.size := Nat.lt_of_lt_of_le H.out.2.2.2.lt g1.size
  have hw1 : w.heap.size < w1.heap.size := Nat.lt_of_lt_of_le (by simp) g1.size
  clear g1 HT0
  generalize hW : w1.alloc (.cells #[.int .i64 t.kind, .int .i64 t.pos, str t.text] 89 (0, 0)) = W at *
  have d0 := hTk.cell 0
  have d2 := hTk.cell 2
  have hlT := hTk.lt
  simp only [List.getElem?_cons_zero, List.getElem?_cons_succ] at d0 d2
  have HI := Lib.hid (risSign_any hR1 0 (by omega) [38])
  rw [Nat.add_zero, htt, h38] at HI
  clear htt
  go_wp2_with fail
  refine HI.out.mono ?_
  rintro e w2 ⟨rfl, g2⟩
  have hR2 := hR1.gbN g2
  have hZ2 := hZ1.gb g2 (by simp)
  have G2 := Lib.hid (gb_sub G1.out g2)
  have hb2 := hR2.lt
  have HS := Lib.hid (rsign_new hR2 primL (by decide) (by decide) w2.heap.size rfl 6 rfl)
  have hB2 := hZ2.alloc (.cells (primL.map str).toArray 9 (0, 0))
  have hG2 := gb_alloc G2.out (.cells (primL.map str).toArray 9 (0, 0))
  have hltw := hZ2.lt
  clear g2 hR2 hR1 hZ1 HI hTk
  go_wp2_with fail
  refine HS.out.mono ?_
  rintro e w3 ⟨g3, v, rfl, rfl, h3⟩
  have hZ := hB2.gb g3 (by simp; omega)
  have HR := Lib.hid (And.intro (gb_trans hG2 g3) h3)
  have hw3 : w.heap.size < w3.heap.size := hZ.lt
  have hb3 := h3.lt
  clear g3 h3 HS hB2 hG2 hZ2
  clear d0 d2
  rw [show (signR l primL (i, false)).1 = [] from HSN.out.1]
  rw [HSN.out.2] at HR
  go_wp2_with fail
  refine (rwrong_any HR.out.2).mono ?_
  rintro e w4 ⟨g4, v, rfl, rfl, h4⟩
  replace hZ := hZ.gb g4 (by simp; omega)
  replace HR := Lib.hid (And.intro (gb_trans HR.out.1 g4) h4)
  have hlt4 := hZ.lt
  clear g4 h4
  have cz_0 := hZ.cell 0; have cz_1 := hZ.cell 1; have cz_2 := hZ.cell 2; have cz_3 := hZ.cell 3; have cz_4 := hZ.cell 4; have cz_5 := hZ.cell 5; have cz_6 := hZ.cell 6; simp only [hdC, List.getElem?_cons_zero, List.getElem?_cons_succ] at cz_0 cz_1 cz_2 cz_3 cz_4 cz_5 cz_6; have cz_f := fun i => hZ.frozen i
  go_wp2
  exact bodyPost_ret (results_ex (hd := (zeroEx : Ex).h) (pv := .slice none 0 0) (lv := .slice none 0 0) rfl _ (hZ.set7 _ _ _ _ _ _ _) rfl) rfl (rpe_copy (ok := fun k => w.heap.size < k) (x := zeroEx) hb HR.out.1 ⟨none, 0, none, 0, rfl, Cells.nil _ _ _, RepL.nil _ _⟩ (fun k hk => hk) HR.out.2 (gb_set7 _ _ _ _ _ _ _ _ _))

theorem rprim_any {E : FR Ex} (hE : CR 28 b tv l E) (hok : ∀ i, TokOk (tokAt l i)) (n : Nat) (hn : n ≤ 100000) : CR 277 b tv l (primR l dayM E n) := by
  rintro w ⟨i, f⟩ r h ho
  cases f with
  | true => exact rprim_wrong n h ho
  | false =>
    by_cases h0 : (tokAt l i).kind = 0
    · exact rprim_word n (rnamed_any hE n hn) h ho h0
    by_cases h1 : (tokAt l i).kind = 1
    · exact rprim_const hE n hok h ho (.inl h1)
    by_cases h3 : (tokAt l i).kind = 3
    · exact rprim_const hE n hok h ho (.inr (.inr h3))
    by_cases h2 : (tokAt l i).kind = 2
    · by_cases hl : (tokAt l i).text.length ≤ 2048
      · exact rprim_const hE n hok h ho (.inr (.inl ⟨h2, hl⟩))
      · exact rprim_big n h ho h2 (by omega)
    cases h38 : isSignM (tokAt l i) [38] with
    | true => exact rprim_macro (rmacro_any hE) n h ho h38
    | false =>
      refine rprim_sign hE n (rbraces_any hE n hn) h ?_ h38 ⟨h1, h2, h3, h0⟩
      unfold primR at ho
      simp only [Bool.false_eq_true, if_false] at ho
      rw [if_neg h1, if_neg (by omega), if_neg h3, if_neg h0, if_neg (by rw [h38]; simp)] at ho
      exact ho

/-- 'expr' of the reference's reader -/
theorem rexprs_any (hok : ∀ i, TokOk (tokAt l i)) : ∀ n, n ≤ 100000 → CR 28 b tv l (exprR l dayM n) := by
  have step : ∀ (g : FR Ex) (n : Nat), n ≤ 100000 → CR 28 b tv l g → CR 28 b tv l (stepR l dayM g n) := fun g n hn hg =>
    rexpr_step (rand_any (rnot_any (rsum_any (rprod_any (rpow_any (runary_any hg (rprim_any hg hok n hn) n n) n) n) n) n) n) n
  intro n
  induction n with
  | zero => exact fun _ => step _ 1 (by omega) (fun w st r _ ho => by cases ho)
  | succ n ih => exact fun hn => step _ (n + 1) hn (ih (by omega))
end

end Go.Proofs.YtmcajbhljbbglaaGreatDoor
