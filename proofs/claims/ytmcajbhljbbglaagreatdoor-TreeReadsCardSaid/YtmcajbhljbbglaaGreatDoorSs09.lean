/-
  Contracts of the parser: number, truth, signed, named.
  Contracts of the parser: prim; and the whole of expr, by the fuel.
  Plain laws of the grammar: a reading goes on, stays within the tokens, and its fuel suffices.
-/
import Derived.Test.YtmcajbhljbbglaaGreatDoorSs08
import Derived.Lib.SmallJoins
import Derived.Test.YtmcajbhljbbglaaGreatDoorSs01
set_option linter.all false
set_option linter.unusedVariables false
set_option linter.unusedSimpArgs false
set_option linter.unnecessarySimpa false
set_option linter.constructorNameAsVariable false
set_option linter.deprecated false

namespace Go.Proofs.YtmcajbhljbbglaaGreatDoor
open Go.RowKit

set_option maxRecDepth 20000 in
theorem number_any (n : Int) (w : World) : Calls Tryz.prog 273 #[.int .i64 n] w fun e w' => e = .returned (exV (constE 2 n []).h (.slice none 0 0) (.slice none 0 0)) ∧ w.grownBy w' none := by
  go_enter Tryz.func273, Tryz.ntmps273
  go_wp2
  refine bodyPost_ret (v := exV (constE 2 n []).h (.slice none 0 0) (.slice none 0 0)) ?_ rfl ⟨rfl, (by repeat (first | (with_reducible exact gb_refl _ _) | (with_reducible assumption) | (with_reducible exact gb_none (by assumption)) | (with_reducible refine gb_alloc ?_ _) | (with_reducible refine gb_drew ?_) | (with_reducible refine gb_drewN ?_ _) | ((with_reducible refine gb_set ?_ _ _ ?h2); case h2 => first | exact .inl rfl | exact .inr (Nat.le_refl _) | exact .inr (by simp <;> omega)) | (with_reducible refine gb_sub ?_ (by assumption)) | (with_reducible refine gb_trans ?_ (by assumption))))⟩
  simp [results, Tryz.results273, go_sem, constE]
set_option maxRecDepth 20000 in
theorem truth_any (n : Int) (w : World) : Calls Tryz.prog 288 #[.int .i64 n] w fun e w' => e = .returned (exV (constE 1 n []).h (.slice none 0 0) (.slice none 0 0)) ∧ w.grownBy w' none := by
  go_enter Tryz.func288, Tryz.ntmps288
  go_wp2
  refine bodyPost_ret (v := exV (constE 1 n []).h (.slice none 0 0) (.slice none 0 0)) ?_ rfl ⟨rfl, (by repeat (first | (with_reducible exact gb_refl _ _) | (with_reducible assumption) | (with_reducible exact gb_none (by assumption)) | (with_reducible refine gb_alloc ?_ _) | (with_reducible refine gb_drew ?_) | (with_reducible refine gb_drewN ?_ _) | ((with_reducible refine gb_set ?_ _ _ ?h2); case h2 => first | exact .inl rfl | exact .inr (Nat.le_refl _) | exact .inr (by simp <;> omega)) | (with_reducible refine gb_sub ?_ (by assumption)) | (with_reducible refine gb_trans ?_ (by assumption))))⟩
  simp [results, Tryz.results288, go_sem, constE]

section
variable {b : Nat} {tv wv : Value} {l : List Tok} {wl : List Bs}

set_option maxRecDepth 20000 in
set_option maxHeartbeats 4000000 in
theorem signed_any {E : Nat → Res Ex} (hE : CE 56 b tv wv l wl E) (hgo : Goes E) (hl : Short l) (n : Nat) : CE 275 b tv wv l wl (signedM l E n) := by
  intro w i hp ho
  have hb := hp.lt
  have gr : w.grownBy (w.alloc (.cells zeroE.toArray 29 (0, 0))) (some b) := gb_alloc (gb_refl _ _) _
  have hz := Blk.new w zeroE 29
  replace hp := hp.alloc (.cells zeroE.toArray 29 (0, 0))
  have H := Lib.hid (And.intro hE (And.intro hgo (And.intro hl ho)))
  generalize hR : signedM l E n i = R at *
  have HQ := Lib.hid hR
  rw [signedM] at HQ
  clear hE hgo hl ho hR
  go_enter Tryz.func275, Tryz.ntmps275
  go_wp2_with fail
  refine (ahead0 hp).mono ?_
  rintro e w1 ⟨rfl, g⟩
  replace hz := hz.gb g (by simp)
  replace gr := gb_sub gr g
  replace hp := hp.gbN g
  clear g
  have hs0 := hz.lt
  go_wp2_with fail
  refine (isSign_any _ _ _ [38] _).mono ?_
  rintro e w2 ⟨rfl, g⟩
  replace hz := hz.gb g (by simp)
  replace gr := gb_sub gr g
  replace hp := hp.gbN g
  replace hs0 := hz.lt
  clear g
  cases hs : isSignM (tokAt l i) [38] with
  | true =>
    have hs' : ((tokAt l i).kind == 4 && (tokAt l i).text == [38]) = true := hs
    rw [hs']
    have e0 := HQ.out
    rw [if_pos hs] at e0
    replace HQ := Lib.hid e0
    clear e0
    go_wp2_with fail
    refine (macro_any H.out.1 H.out.2.2.1 _ _ hp (fun e => H.out.2.2.2 (by rw [← HQ.out, e]))).mono ?_
    intro e w3 hq
    obtain ⟨g, ⟨q, hr, rfl⟩ | ⟨x, j, v, hr, rfl, ⟨pa, pc, la, lc, rfl, rp, rl⟩, hp⟩⟩ := hq.split
    · exact ⟨rfl, Post.bad (gb_trans gr g) (by rw [← HQ.out, hr])⟩
    replace gr := gb_trans gr g
    have e0 := HQ.out
    rw [hr] at e0
    replace HQ := Lib.hid e0
    clear e0 hr
    replace hz := hz.gb g (by simp; omega)
    have cz_0 := hz.cell 0; have cz_1 := hz.cell 1; have cz_2 := hz.cell 2; have cz_3 := hz.cell 3; have cz_4 := hz.cell 4; have cz_5 := hz.cell 5; have cz_6 := hz.cell 6; simp only [hdC, List.getElem?_cons_zero, List.getElem?_cons_succ] at cz_0 cz_1 cz_2 cz_3 cz_4 cz_5 cz_6; have cz_f := fun i => hz.frozen i
    have HV := Lib.hid (And.intro rp rl)
    clear rp rl g
    go_wp2
    exact bodyPost_ret (results_ex rfl _ (hz.set7 _ _ _ _ _ _ _) rfl) rfl (pe_copy hb HQ.out.symm gr ⟨_, _, _, _, rfl, HV.out.1, HV.out.2⟩ (by intro k hk; have : _ ≤ k := hk; omega) hp (gb_set7 _ _ _ _ _ _ _ _ _))
  | false =>
  have hs' : ((tokAt l i).kind == 4 && (tokAt l i).text == [38]) = false := hs
  rw [hs']
  clear hs'
  have e0 := HQ.out
  rw [if_neg (by rw [hs]; exact Bool.false_ne_true)] at e0
  replace HQ := Lib.hid e0
  clear e0
  go_wp2_with fail
  cases hs : isSignM (tokAt l i) [46, 84, 46] with
  | true =>
    refine (sign_yes hp _ hs).mono ?_
    rintro e w3 ⟨rfl, hp', g⟩
    replace hz := hz.gb g (by simp; omega)
    replace gr := gb_trans gr g
    replace hp := hp'
    have hs0 := hz.lt
    clear g
    have e0 := HQ.out
    rw [if_pos hs] at e0
    replace HQ := Lib.hid e0
    clear e0
    go_wp2_with fail
    refine (truth_any _ _).mono ?_
    rintro e w4 ⟨rfl, g⟩
    replace hz := hz.gb g (by simp)
    replace gr := gb_sub gr g
    replace hp := hp.gbN g
    clear g
    have cz_0 := hz.cell 0; have cz_1 := hz.cell 1; have cz_2 := hz.cell 2; have cz_3 := hz.cell 3; have cz_4 := hz.cell 4; have cz_5 := hz.cell 5; have cz_6 := hz.cell 6; simp only [hdC, List.getElem?_cons_zero, List.getElem?_cons_succ] at cz_0 cz_1 cz_2 cz_3 cz_4 cz_5 cz_6; have cz_f := fun i => hz.frozen i
    go_wp2
    exact bodyPost_ret (results_ex (hd := (constE 1 1 [] : Ex).h) (pv := .slice none 0 0) (lv := .slice none 0 0) rfl _ (hz.set7 _ _ _ _ _ _ _) rfl) rfl (pe_copy (ok := fun k => w.heap.size < k) (x := constE 1 1 []) hb HQ.out.symm gr ⟨none, 0, none, 0, rfl, Cells.nil _ _ _, RepL.nil _ _⟩ (fun k hk => hk) hp (gb_set7 _ _ _ _ _ _ _ _ _))
  | false =>
  refine (sign_no hp _ hs).mono ?_
  rintro e w3 ⟨rfl, g⟩
  replace hz := hz.gb g (by simp)
  replace gr := gb_sub gr g
  replace hp := hp.gbN g
  clear g
  have e0 := HQ.out
  rw [if_neg (by rw [hs]; exact Bool.false_ne_true)] at e0
  replace HQ := Lib.hid e0
  clear e0
  go_wp2_with fail
  cases hs : isSignM (tokAt l i) [46, 70, 46] with
  | true =>
    refine (sign_yes hp _ hs).mono ?_
    rintro e w4 ⟨rfl, hp', g⟩
    replace hz := hz.gb g (by simp; omega)
    replace gr := gb_trans gr g
    replace hp := hp'
    have hs0 := hz.lt
    clear g
    have e0 := HQ.out
    rw [if_pos hs] at e0
    replace HQ := Lib.hid e0
    clear e0
    go_wp2_with fail
    refine (truth_any _ _).mono ?_
    rintro e w5 ⟨rfl, g⟩
    replace hz := hz.gb g (by simp)
    replace gr := gb_sub gr g
    replace hp := hp.gbN g
    clear g
    have cz_0 := hz.cell 0; have cz_1 := hz.cell 1; have cz_2 := hz.cell 2; have cz_3 := hz.cell 3; have cz_4 := hz.cell 4; have cz_5 := hz.cell 5; have cz_6 := hz.cell 6; simp only [hdC, List.getElem?_cons_zero, List.getElem?_cons_succ] at cz_0 cz_1 cz_2 cz_3 cz_4 cz_5 cz_6; have cz_f := fun i => hz.frozen i
    go_wp2
    exact bodyPost_ret (results_ex (hd := (constE 1 0 [] : Ex).h) (pv := .slice none 0 0) (lv := .slice none 0 0) rfl _ (hz.set7 _ _ _ _ _ _ _) rfl) rfl (pe_copy (ok := fun k => w.heap.size < k) (x := constE 1 0 []) hb HQ.out.symm gr ⟨none, 0, none, 0, rfl, Cells.nil _ _ _, RepL.nil _ _⟩ (fun k hk => hk) hp (gb_set7 _ _ _ _ _ _ _ _ _))
  | false =>
  refine (sign_no hp _ hs).mono ?_
  rintro e w4 ⟨rfl, g⟩
  replace hz := hz.gb g (by simp)
  replace gr := gb_sub gr g
  replace hp := hp.gbN g
  clear g
  have e0 := HQ.out
  rw [if_neg (by rw [hs]; exact Bool.false_ne_true)] at e0
  replace HQ := Lib.hid e0
  clear e0
  go_wp2_with fail
  cases hs : isSignM (tokAt l i) [46, 78, 85, 76, 76, 46] with
  | true =>
    refine (sign_yes hp _ hs).mono ?_
    rintro e w5 ⟨rfl, hp', g⟩
    replace hz := hz.gb g (by simp; omega)
    replace gr := gb_trans gr g
    replace hp := hp'
    have hs0 := hz.lt
    clear g
    have e0 := HQ.out
    rw [if_pos hs] at e0
    replace HQ := Lib.hid e0
    clear e0
    have cz_0 := hz.cell 0; have cz_1 := hz.cell 1; have cz_2 := hz.cell 2; have cz_3 := hz.cell 3; have cz_4 := hz.cell 4; have cz_5 := hz.cell 5; have cz_6 := hz.cell 6; simp only [hdC, List.getElem?_cons_zero, List.getElem?_cons_succ] at cz_0 cz_1 cz_2 cz_3 cz_4 cz_5 cz_6; have cz_f := fun i => hz.frozen i
    go_wp2
    exact bodyPost_ret (results_ex (hd := (constE 0 0 [] : Ex).h) (pv := .slice none 0 0) (lv := .slice none 0 0) rfl _ (hz.set7 _ _ _ _ _ _ _) rfl) rfl (pe_copy (ok := fun k => w.heap.size < k) (x := constE 0 0 []) hb HQ.out.symm gr ⟨none, 0, none, 0, rfl, Cells.nil _ _ _, RepL.nil _ _⟩ (fun k hk => hk) hp (gb_set7 _ _ _ _ _ _ _ _ _))
  | false =>
  refine (sign_no hp _ hs).mono ?_
  rintro e w5 ⟨rfl, g⟩
  replace hz := hz.gb g (by simp)
  replace gr := gb_sub gr g
  replace hp := hp.gbN g
  clear g
  have e0 := HQ.out
  rw [if_neg (by rw [hs]; exact Bool.false_ne_true)] at e0
  replace HQ := Lib.hid e0
  clear e0
  go_wp2_with fail
  cases hs : isSignM (tokAt l i) [40] with
  | true =>
    refine (sign_yes hp _ hs).mono ?_
    rintro e w6 ⟨rfl, hp', g⟩
    replace hz := hz.gb g (by simp; omega)
    replace gr := gb_trans gr g
    replace hp := hp'
    have hs0 := hz.lt
    clear g
    have e0 := HQ.out
    rw [if_pos hs] at e0
    replace HQ := Lib.hid e0
    clear e0
    go_wp2_with fail
    refine (H.out.1 _ _ hp (fun e => H.out.2.2.2 (by rw [← HQ.out, e]; rfl))).mono ?_
    intro e w7 hq
    obtain ⟨g, ⟨q, hr, rfl⟩ | ⟨x, j, v, hr, rfl, ⟨pa, pc, la, lc, rfl, rp, rl⟩, hp⟩⟩ := hq.split
    · exact ⟨rfl, Post.bad (gb_trans gr g) (by rw [← HQ.out, hr]; rfl)⟩
    replace gr := gb_trans gr g
    have e0 := HQ.out
    rw [hr, Res.bind_ok] at e0
    replace HQ := Lib.hid e0
    clear e0 hr
    replace hz := hz.gb g (by simp; omega)
    have hk := Kept.new hb gr hz hp (rp.mono fun g hg _ => by have : w6.heap.size ≤ g := hg; show w.heap.size < g; omega) (rl.mono fun g hg _ => by have : w6.heap.size ≤ g := hg; show w.heap.size < g; omega) rfl
    clear rp rl g hz
    go_wp2_with fail
    replace gr := hk.gr
    refine (want_any hk.par [41]).mono ?_
    intro e w8 hq
    obtain ⟨g, ⟨q, hr, rfl⟩ | ⟨_, j2, v, hr, rfl, rfl, hp⟩⟩ := hq.split
    · exact ⟨rfl, Post.bad (gb_trans gr g) (by rw [← HQ.out, hr]; rfl)⟩
    replace gr := gb_trans gr g
    have e0 := HQ.out
    rw [hr, Res.bind_ok] at e0
    replace HQ := Lib.hid e0
    clear e0 hr
    replace hk := hk.gb hb g hp
    clear g
    have hL := hk.blk
    have hZ := hk.zero
    have hwL := hk.wL
    have HK := Lib.hid hk
    clear hk hp
    have cl_0 := hL.cell 0; have cl_1 := hL.cell 1; have cl_2 := hL.cell 2; have cl_3 := hL.cell 3; have cl_4 := hL.cell 4; have cl_5 := hL.cell 5; have cl_6 := hL.cell 6; simp only [hdC, List.getElem?_cons_zero, List.getElem?_cons_succ] at cl_0 cl_1 cl_2 cl_3 cl_4 cl_5 cl_6; have cl_f := fun i => hL.frozen i
    have cz_0 := hZ.cell 0; have cz_1 := hZ.cell 1; have cz_2 := hZ.cell 2; have cz_3 := hZ.cell 3; have cz_4 := hZ.cell 4; have cz_5 := hZ.cell 5; have cz_6 := hZ.cell 6; simp only [hdC, List.getElem?_cons_zero, List.getElem?_cons_succ] at cz_0 cz_1 cz_2 cz_3 cz_4 cz_5 cz_6; have cz_f := fun i => hZ.frozen i
    go_wp2
    have hk := HK.out
    exact bodyPost_ret (results_ex rfl _ (hZ.set7 _ _ _ _ _ _ _) rfl) rfl (pe_copy hb HQ.out.symm hk.gr ⟨_, _, _, _, rfl, hk.rp, hk.rl⟩ (by intro k hk; exact hk.1) hk.par (gb_set7 _ _ _ _ _ _ _ _ _))
  | false =>
  refine (sign_no hp _ hs).mono ?_
  rintro e w6 ⟨rfl, g⟩
  replace hz := hz.gb g (by simp)
  replace gr := gb_sub gr g
  replace hp := hp.gbN g
  clear g
  have e0 := HQ.out
  rw [if_neg (by rw [hs]; exact Bool.false_ne_true)] at e0
  replace HQ := Lib.hid e0
  clear e0
  go_wp2_with fail
  cases hs : isSignM (tokAt l i) [64] with
  | true =>
    refine (sign_yes hp _ hs).mono ?_
    rintro e w7 ⟨rfl, hp', g⟩
    replace hz := hz.gb g (by simp; omega)
    replace gr := gb_trans gr g
    replace hp := hp'
    have hs0 := hz.lt
    clear g
    have e0 := HQ.out
    rw [if_pos hs] at e0
    replace HQ := Lib.hid e0
    clear e0
    go_wp2_with fail
    refine (name_any hp H.out.2.2.1).mono ?_
    intro e w8 hq
    obtain ⟨g, ⟨q, hr, rfl⟩ | ⟨s, j, v, hr, rfl, rfl, hp⟩⟩ := hq.split
    · exact ⟨rfl, Post.bad (gb_trans gr g) (by rw [← HQ.out, hr]; rfl)⟩
    replace gr := gb_trans gr g
    have e0 := HQ.out
    rw [hr, Res.bind_ok] at e0
    replace HQ := Lib.hid e0
    clear e0 hr
    replace hz := hz.gb g (by simp; omega)
    clear g
    have cz_0 := hz.cell 0; have cz_1 := hz.cell 1; have cz_2 := hz.cell 2; have cz_3 := hz.cell 3; have cz_4 := hz.cell 4; have cz_5 := hz.cell 5; have cz_6 := hz.cell 6; simp only [hdC, List.getElem?_cons_zero, List.getElem?_cons_succ] at cz_0 cz_1 cz_2 cz_3 cz_4 cz_5 cz_6; have cz_f := fun i => hz.frozen i
    go_wp2
    exact bodyPost_ret (results_ex (hd := (⟨hd0 10 s, .nil⟩ : Ex).h) (pv := .slice none 0 0) (lv := .slice none 0 0) rfl _ (hz.set7 _ _ _ _ _ _ _) rfl) rfl (pe_copy (ok := fun k => w.heap.size < k) (x := ⟨hd0 10 s, .nil⟩) hb HQ.out.symm gr ⟨none, 0, none, 0, rfl, Cells.nil _ _ _, RepL.nil _ _⟩ (fun k hk => hk) hp (gb_set7 _ _ _ _ _ _ _ _ _))
  | false =>
  refine (sign_no hp _ hs).mono ?_
  rintro e w7 ⟨rfl, g⟩
  replace hz := hz.gb g (by simp)
  replace gr := gb_sub gr g
  replace hp := hp.gbN g
  clear g
  have e0 := HQ.out
  rw [if_neg (by rw [hs]; exact Bool.false_ne_true)] at e0
  replace HQ := Lib.hid e0
  clear e0
  go_wp2_with fail
  cases hs : isSignM (tokAt l i) [123] with
  | true =>
    refine (sign_yes hp _ hs).mono ?_
    rintro e w8 ⟨rfl, hp', g⟩
    replace hz := hz.gb g (by simp; omega)
    replace gr := gb_trans gr g
    replace hp := hp'
    have hs0 := hz.lt
    clear g
    have e0 := HQ.out
    rw [if_pos hs] at e0
    replace HQ := Lib.hid e0
    clear e0
    go_wp2_with fail
    refine (braced_any H.out.1 H.out.2.1 H.out.2.2.1 n _ _ hp (fun e => H.out.2.2.2 (by rw [← HQ.out, e]))).mono ?_
    intro e w9 hq
    obtain ⟨g, ⟨q, hr, rfl⟩ | ⟨x, j, v, hr, rfl, ⟨pa, pc, la, lc, rfl, rp, rl⟩, hp⟩⟩ := hq.split
    · exact ⟨rfl, Post.bad (gb_trans gr g) (by rw [← HQ.out, hr])⟩
    replace gr := gb_trans gr g
    have e0 := HQ.out
    rw [hr] at e0
    replace HQ := Lib.hid e0
    clear e0 hr
    replace hz := hz.gb g (by simp; omega)
    have cz_0 := hz.cell 0; have cz_1 := hz.cell 1; have cz_2 := hz.cell 2; have cz_3 := hz.cell 3; have cz_4 := hz.cell 4; have cz_5 := hz.cell 5; have cz_6 := hz.cell 6; simp only [hdC, List.getElem?_cons_zero, List.getElem?_cons_succ] at cz_0 cz_1 cz_2 cz_3 cz_4 cz_5 cz_6; have cz_f := fun i => hz.frozen i
    have HV := Lib.hid (And.intro rp rl)
    clear rp rl g
    go_wp2
    exact bodyPost_ret (results_ex rfl _ (hz.set7 _ _ _ _ _ _ _) rfl) rfl (pe_copy hb HQ.out.symm gr ⟨_, _, _, _, rfl, HV.out.1, HV.out.2⟩ (by intro k hk; have : _ ≤ k := hk; omega) hp (gb_set7 _ _ _ _ _ _ _ _ _))
  | false =>
  refine (sign_no hp _ hs).mono ?_
  rintro e w8 ⟨rfl, g⟩
  replace hz := hz.gb g (by simp)
  replace gr := gb_sub gr g
  replace hp := hp.gbN g
  clear g
  have e0 := HQ.out
  rw [if_neg (by rw [hs]; exact Bool.false_ne_true)] at e0
  replace HQ := Lib.hid e0
  clear e0
  go_wp2_with fail
  refine (fail_any hp.c1).mono ?_
  rintro e w9 ⟨rfl, rfl⟩
  exact ⟨rfl, Post.bad gr HQ.out.symm⟩

set_option maxRecDepth 20000 in
set_option maxHeartbeats 4000000 in
theorem named_any {E : Nat → Res Ex} (hE : CE 56 b tv wv l wl E) (hgo : Goes E) (hl : Short l) (n : Nat) : CE 274 b tv wv l wl (namedM l E n) := by
  intro w i hp ho
  have hb := hp.lt
  have gr : w.grownBy (w.alloc (.cells zeroE.toArray 29 (0, 0))) (some b) := gb_alloc (gb_refl _ _) _
  have hz := Blk.new w zeroE 29
  replace hp := hp.alloc (.cells zeroE.toArray 29 (0, 0))
  have H := Lib.hid (And.intro hE (And.intro hgo (And.intro hl ho)))
  generalize hR : namedM l E n i = R at *
  have HQ := Lib.hid hR
  rw [namedM] at HQ
  clear hE hgo hl ho hR
  go_enter Tryz.func274, Tryz.ntmps274
  go_wp2_with fail
  refine (ahead1 hp).mono ?_
  rintro e w1 ⟨rfl, g⟩
  replace hz := hz.gb g (by simp)
  replace gr := gb_sub gr g
  replace hp := hp.gbN g
  clear g
  have hs0 := hz.lt
  go_wp2_with fail
  refine (isSign_any _ _ _ [40] _).mono ?_
  rintro e w2 ⟨rfl, g⟩
  replace hz := hz.gb g (by simp)
  replace gr := gb_sub gr g
  replace hp := hp.gbN g
  replace hs0 := hz.lt
  clear g
  cases hs : isSignM (tokAt l (i + 1)) [40] with
  | true =>
    have hs' : ((tokAt l (i + 1)).kind == 4 && (tokAt l (i + 1)).text == [40]) = true := hs
    rw [hs']
    have e0 := HQ.out
    rw [if_pos hs] at e0
    replace HQ := Lib.hid e0
    clear e0
    go_wp2_with fail
    refine (call_any H.out.1 H.out.2.1 H.out.2.2.1 n _ _ hp (fun e => H.out.2.2.2 (by rw [← HQ.out, e]))).mono ?_
    intro e w3 hq
    obtain ⟨g, ⟨q, hr, rfl⟩ | ⟨x, j, v, hr, rfl, ⟨pa, pc, la, lc, rfl, rp, rl⟩, hp⟩⟩ := hq.split
    · exact ⟨rfl, Post.bad (gb_trans gr g) (by rw [← HQ.out, hr])⟩
    replace gr := gb_trans gr g
    have e0 := HQ.out
    rw [hr] at e0
    replace HQ := Lib.hid e0
    clear e0 hr
    replace hz := hz.gb g (by simp; omega)
    have cz_0 := hz.cell 0; have cz_1 := hz.cell 1; have cz_2 := hz.cell 2; have cz_3 := hz.cell 3; have cz_4 := hz.cell 4; have cz_5 := hz.cell 5; have cz_6 := hz.cell 6; simp only [hdC, List.getElem?_cons_zero, List.getElem?_cons_succ] at cz_0 cz_1 cz_2 cz_3 cz_4 cz_5 cz_6; have cz_f := fun i => hz.frozen i
    have HV := Lib.hid (And.intro rp rl)
    clear rp rl g
    go_wp2
    exact bodyPost_ret (results_ex rfl _ (hz.set7 _ _ _ _ _ _ _) rfl) rfl (pe_copy hb HQ.out.symm gr ⟨_, _, _, _, rfl, HV.out.1, HV.out.2⟩ (by intro k hk; have : _ ≤ k := hk; omega) hp (gb_set7 _ _ _ _ _ _ _ _ _))
  | false =>
  have hs' : ((tokAt l (i + 1)).kind == 4 && (tokAt l (i + 1)).text == [40]) = false := hs
  rw [hs']
  clear hs'
  have e0 := HQ.out
  rw [if_neg (by rw [hs]; exact Bool.false_ne_true)] at e0
  replace HQ := Lib.hid e0
  clear e0
  go_wp2_with fail
  refine (variable_any hp H.out.2.2.1).mono ?_
  intro e w3 hq
  obtain ⟨g, ⟨q, hr, rfl⟩ | ⟨s, j, v, hr, rfl, rfl, hp⟩⟩ := hq.split
  · exact ⟨rfl, Post.bad (gb_trans gr g) (by rw [← HQ.out, hr]; rfl)⟩
  replace gr := gb_trans gr g
  have e0 := HQ.out
  rw [hr, Res.bind_ok] at e0
  replace HQ := Lib.hid e0
  clear e0 hr
  replace hz := hz.gb g (by simp; omega)
  clear g
  go_wp2_with fail
  cases hs : isSignM (tokAt l j) [45, 62] with
  | false =>
    refine (sign_no hp _ hs).mono ?_
    rintro e w4 ⟨rfl, g⟩
    replace hz := hz.gb g (by simp)
    replace gr := gb_sub gr g
    replace hp := hp.gbN g
    clear g
    have e0 := HQ.out
    rw [if_neg (by rw [hs]; exact Bool.false_ne_true)] at e0
    replace HQ := Lib.hid e0
    clear e0
    have cz_0 := hz.cell 0; have cz_1 := hz.cell 1; have cz_2 := hz.cell 2; have cz_3 := hz.cell 3; have cz_4 := hz.cell 4; have cz_5 := hz.cell 5; have cz_6 := hz.cell 6; simp only [hdC, List.getElem?_cons_zero, List.getElem?_cons_succ] at cz_0 cz_1 cz_2 cz_3 cz_4 cz_5 cz_6; have cz_f := fun i => hz.frozen i
    go_wp2
    exact bodyPost_ret (results_ex (hd := (nameE s : Ex).h) (pv := .slice none 0 0) (lv := .slice none 0 0) rfl _ (hz.set7 _ _ _ _ _ _ _) rfl) rfl (pe_copy (ok := fun k => w.heap.size < k) (x := nameE s) hb HQ.out.symm gr ⟨none, 0, none, 0, rfl, Cells.nil _ _ _, RepL.nil _ _⟩ (fun k hk => hk) hp (gb_set7 _ _ _ _ _ _ _ _ _))
  | true =>
  refine (sign_yes hp _ hs).mono ?_
  rintro e w4 ⟨rfl, hp', g⟩
  replace hz := hz.gb g (by simp; omega)
  replace gr := gb_trans gr g
  replace hp := hp'
  have hs0 := hz.lt
  clear g
  have e0 := HQ.out
  rw [if_pos hs] at e0
  replace HQ := Lib.hid e0
  clear e0
  go_wp2_with fail
  cases hs : isSignM (tokAt l (j + 1)) [40] with
  | true =>
    refine (sign_yes hp _ hs).mono ?_
    rintro e w5 ⟨rfl, hp', g⟩
    replace hz := hz.gb g (by simp; omega)
    replace gr := gb_trans gr g
    replace hp := hp'
    have hs0 := hz.lt
    clear g
    have e0 := HQ.out
    rw [if_pos hs] at e0
    replace HQ := Lib.hid e0
    clear e0
    go_wp2_with fail
    refine (H.out.1 _ _ hp (fun e => H.out.2.2.2 (by rw [← HQ.out, e]; rfl))).mono ?_
    intro e w6 hq
    obtain ⟨g, ⟨q, hr, rfl⟩ | ⟨x, j2, v, hr, rfl, ⟨pa, pc, la, lc, rfl, rp, rl⟩, hp⟩⟩ := hq.split
    · exact ⟨rfl, Post.bad (gb_trans gr g) (by rw [← HQ.out, hr]; rfl)⟩
    replace gr := gb_trans gr g
    have e0 := HQ.out
    rw [hr, Res.bind_ok] at e0
    replace HQ := Lib.hid e0
    clear e0 hr
    replace hz := hz.gb g (by simp; omega)
    have hk := Kept.new hb gr hz hp (rp.mono fun g hg _ => by have : w5.heap.size ≤ g := hg; show w.heap.size < g; omega) (rl.mono fun g hg _ => by have : w5.heap.size ≤ g := hg; show w.heap.size < g; omega) rfl
    clear rp rl g hz
    go_wp2_with fail
    replace gr := hk.gr
    refine (want_any hk.par [41]).mono ?_
    intro e w7 hq
    obtain ⟨g, ⟨q, hr, rfl⟩ | ⟨_, j3, v, hr, rfl, rfl, hp⟩⟩ := hq.split
    · exact ⟨rfl, Post.bad (gb_trans gr g) (by rw [← HQ.out, hr]; rfl)⟩
    replace gr := gb_trans gr g
    have e0 := HQ.out
    rw [hr, Res.bind_ok] at e0
    replace HQ := Lib.hid e0
    clear e0 hr
    replace hk := hk.gb hb g hp
    clear g
    have hz := hk.zero
    have hL := hk.blk
    have rp := hk.rp.mono (ok' := fun g => w.heap.size < g) (fun g hg _ => hg.1)
    have rl := hk.rl.mono (ok' := fun g => w.heap.size < g) (fun g hg _ => hg.1)
    have hwL := hk.wL
    have hltL := hL.lt
    clear hk
    have cl_0 := hL.cell 0; have cl_1 := hL.cell 1; have cl_2 := hL.cell 2; have cl_3 := hL.cell 3; have cl_4 := hL.cell 4; have cl_5 := hL.cell 5; have cl_6 := hL.cell 6; simp only [hdC, List.getElem?_cons_zero, List.getElem?_cons_succ] at cl_0 cl_1 cl_2 cl_3 cl_4 cl_5 cl_6; have cl_f := fun i => hL.frozen i
    have HV := Lib.hid (And.intro rp rl)
    clear rp rl
    have cz_0 := hz.cell 0; have cz_1 := hz.cell 1; have cz_2 := hz.cell 2; have cz_3 := hz.cell 3; have cz_4 := hz.cell 4; have cz_5 := hz.cell 5; have cz_6 := hz.cell 6; simp only [hdC, List.getElem?_cons_zero, List.getElem?_cons_succ] at cz_0 cz_1 cz_2 cz_3 cz_4 cz_5 cz_6; have cz_f := fun i => hz.frozen i
    have hltz := hz.lt
    go_wp2
    have g7 := gb_set7 w7 w.heap.size (.int .i64 2) (str s) (.int .i64 0) (.int .i64 0) (str []) (.slice none 0 0) (.slice (some ⟨w7.heap.size, 0, none⟩) 1 1)
    have hW := hz.set7 (.int .i64 2) (str s) (.int .i64 0) (.int .i64 0) (str []) (.slice none 0 0) (.slice (some ⟨w7.heap.size, 0, none⟩) 1 1)
    have hsz : (set7 w7 w.heap.size (.int .i64 2) (str s) (.int .i64 0) (.int .i64 0) (str []) (.slice none 0 0) (.slice (some ⟨w7.heap.size, 0, none⟩) 1 1)).heap.size = w7.heap.size := by simp [set7]
    simp only [set7] at hW g7 hsz
    generalize (((((((w7.setCell { block := w.heap.size, off := 0 } (.int .i64 2)).setCell { block := w.heap.size, off := 1 } (str s)).setCell { block := w.heap.size, off := 2 } (.int .i64 0)).setCell { block := w.heap.size, off := 3 } (.int .i64 0)).setCell { block := w.heap.size, off := 4 } (str [])).setCell { block := w.heap.size, off := 5 } (.slice none 0 0)).setCell { block := w.heap.size, off := 6 } (.slice (some ⟨w7.heap.size, 0, none⟩) 1 1)) = W' at *
    exact bodyPost_ret (results_ex (hd := hd0 2 s) (pv := .slice none 0 0) (lv := .slice (some ⟨w7.heap.size, 0, none⟩) 1 1) rfl _ (Blk.alloc hW (Obj.cells #[Value.int IntKind.i64 x.h.op, str x.h.s, Value.int IntKind.i64 x.h.vk, Value.int IntKind.i64 x.h.vn, str x.h.vs, Value.slice pa x.h.p.length pc, Value.slice la x.kids.len lc] 29)) rfl) rfl (pe_one (op := 2) (s := s) hb HQ.out.symm gr HV.out.1 HV.out.2 (fun k hk => hk) hp g7 hsz)
  | false =>
    refine (sign_no hp _ hs).mono ?_
    rintro e w5 ⟨rfl, g⟩
    replace hz := hz.gb g (by simp)
    replace gr := gb_sub gr g
    replace hp := hp.gbN g
    clear g
    have e0 := HQ.out
    rw [if_neg (by rw [hs]; exact Bool.false_ne_true)] at e0
    replace HQ := Lib.hid e0
    clear e0
    go_wp2_with fail
    refine (variable_any hp H.out.2.2.1).mono ?_
    intro e w6 hq
    obtain ⟨g, ⟨q, hr, rfl⟩ | ⟨t, j2, v, hr, rfl, rfl, hp⟩⟩ := hq.split
    · exact ⟨rfl, Post.bad (gb_trans gr g) (by rw [← HQ.out, hr]; rfl)⟩
    replace gr := gb_trans gr g
    have e0 := HQ.out
    rw [hr, Res.bind_ok] at e0
    replace HQ := Lib.hid e0
    clear e0 hr
    replace hz := hz.gb g (by simp; omega)
    clear g
    have rp := Cells.nil w6 1 (fun g => w.heap.size < g)
    have rl := RepL.nil w6 (fun g => w.heap.size < g)
    have HV := Lib.hid (And.intro rp rl)
    clear rp rl
    have cz_0 := hz.cell 0; have cz_1 := hz.cell 1; have cz_2 := hz.cell 2; have cz_3 := hz.cell 3; have cz_4 := hz.cell 4; have cz_5 := hz.cell 5; have cz_6 := hz.cell 6; simp only [hdC, List.getElem?_cons_zero, List.getElem?_cons_succ] at cz_0 cz_1 cz_2 cz_3 cz_4 cz_5 cz_6; have cz_f := fun i => hz.frozen i
    have hltz := hz.lt
    go_wp2
    have g7 := gb_set7 w6 w.heap.size (.int .i64 2) (str s) (.int .i64 0) (.int .i64 0) (str []) (.slice none 0 0) (.slice (some ⟨w6.heap.size, 0, none⟩) 1 1)
    have hW := hz.set7 (.int .i64 2) (str s) (.int .i64 0) (.int .i64 0) (str []) (.slice none 0 0) (.slice (some ⟨w6.heap.size, 0, none⟩) 1 1)
    have hsz : (set7 w6 w.heap.size (.int .i64 2) (str s) (.int .i64 0) (.int .i64 0) (str []) (.slice none 0 0) (.slice (some ⟨w6.heap.size, 0, none⟩) 1 1)).heap.size = w6.heap.size := by simp [set7]
    simp only [set7] at hW g7 hsz
    generalize (((((((w6.setCell { block := w.heap.size, off := 0 } (.int .i64 2)).setCell { block := w.heap.size, off := 1 } (str s)).setCell { block := w.heap.size, off := 2 } (.int .i64 0)).setCell { block := w.heap.size, off := 3 } (.int .i64 0)).setCell { block := w.heap.size, off := 4 } (str [])).setCell { block := w.heap.size, off := 5 } (.slice none 0 0)).setCell { block := w.heap.size, off := 6 } (.slice (some ⟨w6.heap.size, 0, none⟩) 1 1)) = W' at *
    exact bodyPost_ret (results_ex (hd := hd0 2 s) (pv := .slice none 0 0) (lv := .slice (some ⟨w6.heap.size, 0, none⟩) 1 1) rfl _ (Blk.alloc hW (Obj.cells #[Value.int IntKind.i64 (nameE t).h.op, str (nameE t).h.s, Value.int IntKind.i64 (nameE t).h.vk, Value.int IntKind.i64 (nameE t).h.vn, str (nameE t).h.vs, Value.slice none (nameE t).h.p.length 0, Value.slice none (nameE t).kids.len 0] 29)) rfl) rfl (pe_one (op := 2) (s := s) hb HQ.out.symm gr HV.out.1 HV.out.2 (fun k hk => hk) hp g7 hsz)
end

end Go.Proofs.YtmcajbhljbbglaaGreatDoor

namespace Go.Proofs.YtmcajbhljbbglaaGreatDoor
open Go.RowKit
section
variable {b : Nat} {tv wv : Value} {l : List Tok} {wl : List Bs}

/-- what the lexer's rows of tokens have: no token is long; numbers are digits, at most 18; the day of a date's text is 'day' -/
structure Tame (day : Bs → Int) (l : List Tok) : Prop where
  short : Short l
  num : ∀ i, (tokAt l i).kind = 1 → (tokAt l i).text.length ≤ 18 ∧ Lib.atoi (tokAt l i).text = some (numM (tokAt l i).text)
  date : ∀ i, (tokAt l i).kind = 3 → ∀ w, Calls Tryz.prog 209 #[str (tokAt l i).text] w fun e w' => (∃ v, e = .returned (.tuple #[.int .i64 (day (tokAt l i).text), v])) ∧ w.grownBy w' none

theorem Par.goA {w : World} {i : Nat} (h : Par w b tv wv l wl i) (hi : i < l.length) (o : Obj) : Par ((w.setCell ⟨b, 1, none⟩ (.int .i64 (i + 1))).alloc o) b tv wv l wl (i + 1) := (h.goI _ _ (by omega) (by omega)).alloc o

set_option maxRecDepth 20000 in
set_option maxHeartbeats 4000000 in
theorem prim_any {day : Bs → Int} {E : Nat → Res Ex} (hE : CE 56 b tv wv l wl E) (hgo : Goes E) (hl : Tame day l) (n : Nat) : CE 244 b tv wv l wl (primM l day E n) := by
  intro w i hp ho
  have hb := hp.lt
  have gr : w.grownBy (w.alloc (.cells zeroE.toArray 29 (0, 0))) (some b) := gb_alloc (gb_refl _ _) _
  have hz := Blk.new w zeroE 29
  replace hp := hp.alloc (.cells zeroE.toArray 29 (0, 0))
  have H := Lib.hid (And.intro hE (And.intro hgo (And.intro hl ho)))
  generalize hR : primM l day E n i = R at *
  have HQ := Lib.hid hR
  rw [primM] at HQ
  clear hE hgo ho hR
  have hnum := hl.num i
  have hdate := hl.date i
  have hilt := fun h => @tokAt_lt l i h
  go_enter Tryz.func244, Tryz.ntmps244
  go_wp2_with fail
  refine (ahead0 hp).mono ?_
  rintro e w1 ⟨rfl, g⟩
  generalize tokAt l i = t at *
  obtain ⟨kd, ps, tx⟩ := t
  simp only at HQ hnum hdate hilt
  replace hz := hz.gb g (by simp)
  replace gr := gb_sub gr g
  replace hp := hp.gbN g
  clear g hl
  have hs0 := hz.lt
  have hb1 := hp.lt
  have c1 := hp.c1
  have f1 := hp.f1
  have hf := hp.few
  by_cases h1 : kd = 1
  · subst h1
    have hi := hilt (by decide)
    obtain ⟨hn1, hn2⟩ := hnum rfl
    have HN := Lib.hid hn2
    clear hn2 hnum hdate hilt
    simp only [BEq.rfl, if_true] at HQ
    have HP := Lib.hid (hp.goA hi (.cells [.int .i64 1, .int .i64 ps, str tx].toArray 89 (0, 0)))
    go_wp2_with fail
    refine (Tryz.strconv_Atoi ⟨tx.toArray⟩ (numM tx) hn1 HN.out _).mono ?_
    rintro e w2 ⟨rfl, t', e2⟩
    have g2 := gb_of_below (Go.Joins.below_bytesWorld _ ((w1.setCell ⟨b, 1, none⟩ (.int .i64 (i + 1))).alloc (.cells [.int .i64 1, .int .i64 ps, str tx].toArray 89 (0, 0))) 5 t' (Nat.le_refl _))
    replace e2 : w2 = _ := e2
    rw [← e2] at g2
    have g02 : w1.grownBy w2 (some b) := gb_sub (gb_alloc (gb_set (gb_refl _ _) _ _ (.inl rfl)) _) g2
    replace gr := gb_trans gr g02
    replace hz := hz.gb g02 (by simp; omega)
    replace hp := HP.out.gbN g2
    have hs2 := g02.size
    clear e2 g2 g02 HP c1 f1
    go_wp2_with fail
    refine (number_any _ _).mono ?_
    rintro e w3 ⟨rfl, g3⟩
    replace hz := hz.gb g3 (by simp)
    replace gr := gb_sub gr g3
    replace hp := hp.gbN g3
    clear g3
    have cz_0 := hz.cell 0; have cz_1 := hz.cell 1; have cz_2 := hz.cell 2; have cz_3 := hz.cell 3; have cz_4 := hz.cell 4; have cz_5 := hz.cell 5; have cz_6 := hz.cell 6; simp only [hdC, List.getElem?_cons_zero, List.getElem?_cons_succ] at cz_0 cz_1 cz_2 cz_3 cz_4 cz_5 cz_6; have cz_f := fun i => hz.frozen i
    go_wp2
    exact bodyPost_ret (results_ex (hd := (constE 2 (numM tx) [] : Ex).h) (pv := .slice none 0 0) (lv := .slice none 0 0) rfl _ (hz.set7 _ _ _ _ _ _ _) rfl) rfl (pe_copy (ok := fun k => w.heap.size < k) (x := constE 2 (numM tx) []) hb HQ.out.symm gr ⟨none, 0, none, 0, rfl, Cells.nil _ _ _, RepL.nil _ _⟩ (fun k hk => hk) hp (gb_set7 _ _ _ _ _ _ _ _ _))
  by_cases h2 : kd = 2
  · subst h2
    have hi := hilt (by decide)
    clear hnum hdate hilt h1
    simp only [Int.reduceBEq, Bool.false_eq_true, if_false, if_true] at HQ
    by_cases h3 : tx.length > 2048
    · rw [if_pos h3] at HQ
      replace hp := hp.alloc (.cells [.int .i64 2, .int .i64 ps, str tx].toArray 89 (0, 0))
      replace gr := gb_alloc gr (.cells [.int .i64 2, .int .i64 ps, str tx].toArray 89 (0, 0))
      go_wp2_with fail
      refine (fail_any hp.c1).mono ?_
      rintro e w9 ⟨rfl, rfl⟩
      exact ⟨rfl, Post.bad gr HQ.out.symm⟩
    · rw [if_neg h3] at HQ
      have gW := gb_set1 (gb_refl w1 (some b)) 1 (.int .i64 (i + 1))
      have hp1 := hp.goI (i + 1) (i + 1) rfl (by omega)
      have hz1 := hz.gb gW (by simp; omega)
      have cz_0 := hz.cell 0; have cz_1 := hz.cell 1; have cz_2 := hz.cell 2; have cz_3 := hz.cell 3; have cz_4 := hz.cell 4; have cz_5 := hz.cell 5; have cz_6 := hz.cell 6; simp only [hdC, List.getElem?_cons_zero, List.getElem?_cons_succ] at cz_0 cz_1 cz_2 cz_3 cz_4 cz_5 cz_6; have cz_f := fun i => hz.frozen i
      go_wp2
      exact bodyPost_ret (results_ex (hd := (constE 4 0 tx).h) (pv := .slice none 0 0) (lv := .slice none 0 0) rfl _ ((hz1.set7 _ _ _ _ _ _ _).alloc _) rfl) rfl (pe_copy (ok := fun k => w.heap.size < k) (x := constE 4 0 tx) hb HQ.out.symm (gb_trans gr gW) ⟨none, 0, none, 0, rfl, Cells.nil _ _ _, RepL.nil _ _⟩ (fun k hk => hk) hp1 (gb_alloc (gb_set7 _ _ _ _ _ _ _ _ _) _))
  by_cases h3 : kd = 3
  · subst h3
    have hi := hilt (by decide)
    have HD := Lib.hid (hdate rfl)
    clear hnum hdate hilt h1 h2
    simp only [Int.reduceBEq, Bool.false_eq_true, if_false, if_true] at HQ
    have HP := Lib.hid (hp.goA hi (.cells [.int .i64 3, .int .i64 ps, str tx].toArray 89 (0, 0)))
    have g02 : w1.grownBy ((w1.setCell ⟨b, 1, none⟩ (.int .i64 (i + 1))).alloc (.cells [.int .i64 3, .int .i64 ps, str tx].toArray 89 (0, 0))) (some b) := gb_alloc (gb_set (gb_refl _ _) _ _ (.inl rfl)) _
    go_wp2_with fail
    refine (HD.out _).mono ?_
    rintro e w2 ⟨⟨v, rfl⟩, g2⟩
    replace g02 := gb_sub g02 g2
    replace gr := gb_trans gr g02
    replace hz := hz.gb g02 (by simp; omega)
    replace hp := HP.out.gbN g2
    clear g2 g02 HP c1 f1
    have cz_0 := hz.cell 0; have cz_1 := hz.cell 1; have cz_2 := hz.cell 2; have cz_3 := hz.cell 3; have cz_4 := hz.cell 4; have cz_5 := hz.cell 5; have cz_6 := hz.cell 6; simp only [hdC, List.getElem?_cons_zero, List.getElem?_cons_succ] at cz_0 cz_1 cz_2 cz_3 cz_4 cz_5 cz_6; have cz_f := fun i => hz.frozen i
    go_wp2
    exact bodyPost_ret (results_ex (hd := (constE 3 (day tx) [] : Ex).h) (pv := .slice none 0 0) (lv := .slice none 0 0) rfl _ (hz.set7 _ _ _ _ _ _ _) rfl) rfl (pe_copy (ok := fun k => w.heap.size < k) (x := constE 3 (day tx) []) hb HQ.out.symm gr ⟨none, 0, none, 0, rfl, Cells.nil _ _ _, RepL.nil _ _⟩ (fun k hk => hk) hp (gb_set7 _ _ _ _ _ _ _ _ _))
  have hd1 : (kd == 1) = false := by simpa using h1
  have hd2 : (kd == 2) = false := by simpa using h2
  have hd3 : (kd == 3) = false := by simpa using h3
  simp only [hd1, hd2, hd3, Bool.false_eq_true, if_false] at HQ
  replace hp := hp.alloc (.cells [.int .i64 kd, .int .i64 ps, str tx].toArray 89 (0, 0))
  replace gr := gb_alloc gr (.cells [.int .i64 kd, .int .i64 ps, str tx].toArray 89 (0, 0))
  replace hz := hz.alloc (.cells [.int .i64 kd, .int .i64 ps, str tx].toArray 89 (0, 0))
  have hlz := hz.lt
  by_cases h0 : kd = 0
  · subst h0
    simp only [BEq.rfl, if_true] at HQ
    clear hd1 hd2 hd3 h1 h2 h3 hnum hdate hilt
    go_wp2_with fail
    refine (named_any H.out.1 H.out.2.1 H.out.2.2.1.short n _ _ hp (fun e => H.out.2.2.2 (by rw [← HQ.out, e]))).mono ?_
    intro e w3 hq
    obtain ⟨g, ⟨q, hr, rfl⟩ | ⟨x, j, v, hr, rfl, ⟨pa, pc, la, lc, rfl, rp, rl⟩, hp⟩⟩ := hq.split
    · exact ⟨rfl, Post.bad (gb_trans gr g) (by rw [← HQ.out, hr])⟩
    replace gr := gb_trans gr g
    have e0 := HQ.out
    rw [hr] at e0
    replace HQ := Lib.hid e0
    clear e0 hr
    replace hz := hz.gb g (by simp; omega)
    have cz_0 := hz.cell 0; have cz_1 := hz.cell 1; have cz_2 := hz.cell 2; have cz_3 := hz.cell 3; have cz_4 := hz.cell 4; have cz_5 := hz.cell 5; have cz_6 := hz.cell 6; simp only [hdC, List.getElem?_cons_zero, List.getElem?_cons_succ] at cz_0 cz_1 cz_2 cz_3 cz_4 cz_5 cz_6; have cz_f := fun i => hz.frozen i
    have HV := Lib.hid (And.intro rp rl)
    clear rp rl g
    go_wp2
    exact bodyPost_ret (results_ex rfl _ (hz.set7 _ _ _ _ _ _ _) rfl) rfl (pe_copy hb HQ.out.symm gr ⟨_, _, _, _, rfl, HV.out.1, HV.out.2⟩ (by intro k hk; have : _ ≤ k := hk; omega) hp (gb_set7 _ _ _ _ _ _ _ _ _))
  have hd0 : (kd == 0) = false := by simpa using h0
  simp only [hd0, Bool.false_eq_true, if_false] at HQ
  clear hnum hdate hilt
  go_wp2_with fail
  refine (signed_any H.out.1 H.out.2.1 H.out.2.2.1.short n _ _ hp (fun e => H.out.2.2.2 (by rw [← HQ.out, e]))).mono ?_
  intro e w3 hq
  obtain ⟨g, ⟨q, hr, rfl⟩ | ⟨x, j, v, hr, rfl, ⟨pa, pc, la, lc, rfl, rp, rl⟩, hp⟩⟩ := hq.split
  · exact ⟨rfl, Post.bad (gb_trans gr g) (by rw [← HQ.out, hr])⟩
  replace gr := gb_trans gr g
  have e0 := HQ.out
  rw [hr] at e0
  replace HQ := Lib.hid e0
  clear e0 hr
  replace hz := hz.gb g (by simp; omega)
  have cz_0 := hz.cell 0; have cz_1 := hz.cell 1; have cz_2 := hz.cell 2; have cz_3 := hz.cell 3; have cz_4 := hz.cell 4; have cz_5 := hz.cell 5; have cz_6 := hz.cell 6; simp only [hdC, List.getElem?_cons_zero, List.getElem?_cons_succ] at cz_0 cz_1 cz_2 cz_3 cz_4 cz_5 cz_6; have cz_f := fun i => hz.frozen i
  have HV := Lib.hid (And.intro rp rl)
  clear rp rl g
  go_wp2
  exact bodyPost_ret (results_ex rfl _ (hz.set7 _ _ _ _ _ _ _) rfl) rfl (pe_copy hb HQ.out.symm gr ⟨_, _, _, _, rfl, HV.out.1, HV.out.2⟩ (by intro k hk; have : _ ≤ k := hk; omega) hp (gb_set7 _ _ _ _ _ _ _ _ _))
end

end Go.Proofs.YtmcajbhljbbglaaGreatDoor

namespace Go.Proofs.YtmcajbhljbbglaaGreatDoor

/-- a reading that began at i: it goes on, within L tokens; 'o' says that its fuel suffices -/
def Fine {α : Type} (o : Prop) (L i : Nat) : Res α → Prop
  | .ok _ j => i < j ∧ j ≤ L
  | .bad _ => True
  | .out => ¬ o

theorem Fine.bind {α β : Type} {o : Prop} {L i : Nat} {r : Res α} {f : α → Nat → Res β} (h : Fine o L i r) (hf : ∀ a j, r = .ok a j → i < j → j ≤ L → Fine o L i (f a j)) : Fine o L i (r.bind f) := by
  cases r with
  | ok a j => exact hf a j rfl h.1 h.2
  | bad k => trivial
  | out => exact h
theorem Fine.mono {α : Type} {o : Prop} {L i i' : Nat} {r : Res α} (h : Fine o L i' r) (hi : i ≤ i') : Fine o L i r := by
  cases r with
  | ok a j => exact ⟨by have := h.1; omega, h.2⟩
  | bad k => trivial
  | out => exact h
theorem Fine.weak {α : Type} {o o' : Prop} {L i : Nat} {r : Res α} (h : Fine o' L i r) (ho : o → o') : Fine o L i r := by
  cases r with
  | ok a j => exact h
  | bad k => trivial
  | out => exact fun k => h (ho k)
theorem Fine.okk {α : Type} {o : Prop} {L i j : Nat} {a : α} (h1 : i < j) (h2 : j ≤ L) : Fine o L i (.ok a j) := ⟨h1, h2⟩
/-- a bind whose first reading began at i or later -/
theorem Fine.bind' {α β : Type} {o : Prop} {L i i' : Nat} {r : Res α} {f : α → Nat → Res β} (hi : i ≤ i') (h : Fine o L i' r) (hf : ∀ a j, r = .ok a j → i' < j → j ≤ L → Fine o L i (f a j)) : Fine o L i (r.bind f) := by
  cases r with
  | ok a j => exact hf a j rfl h.1 h.2
  | bad k => trivial
  | out => exact h

section
variable {l : List Tok} {o : Prop} {i : Nat}
theorem kind_lt {j : Nat} (h : (tokAt l j).kind ≠ -1) : j < l.length := by
  by_cases hi : j < l.length
  · exact hi
  · exact absurd (by simp [tokAt, List.getElem?_eq_none (Nat.le_of_not_lt hi)]) h
theorem sgn_lt {j : Nat} {s : Bs} (h : isSignM (tokAt l j) s = true) : j < l.length := by
  apply kind_lt
  simp [isSignM] at h
  omega
theorem oper_lt {j k : Nat} (h : (operM l k j).isEmpty ≠ true) : j < l.length := by
  apply kind_lt
  intro e
  apply h
  simp [operM, e]

theorem want_fine (s : Bs) (q : Nat) : Fine o l.length q (wantM l s q) := by
  unfold wantM
  split
  · rename_i h; exact ⟨by omega, sgn_lt h⟩
  · trivial
theorem end_fine (q : Nat) : Fine o l.length q (endM l q) := by
  unfold endM
  split
  · rename_i h; exact ⟨by omega, kind_lt (by simp at h; omega)⟩
  · trivial
theorem name_fine (q : Nat) : Fine o l.length q (nameM l q) := by
  unfold nameM
  split
  · rename_i h; exact ⟨by omega, kind_lt (by simp at h; omega)⟩
  · trivial

theorem joinLoop_fine {k : Nat} {opnd : Nat → Res Ex} (h : ∀ q, i ≤ q → Fine o l.length q (opnd q)) : ∀ n x j, i < j → j ≤ l.length → (o → l.length - j + 1 ≤ n) → Fine o l.length i (joinLoop l k opnd n x j) := by
  intro n
  induction n with
  | zero => intro x j h1 h2 h3 ho; have := h3 ho; omega
  | succ n ih =>
    intro x j h1 h2 h3
    unfold joinLoop
    split
    · exact ⟨h1, h2⟩
    · rename_i he
      have := oper_lt he
      refine Fine.bind' (i' := j + 1) (by omega) (h _ (by omega)) fun y q _ hq hl => ih _ _ (by omega) hl fun ho => by have := h3 ho; omega
theorem joinM_fine {k n : Nat} {opnd : Nat → Res Ex} (h : ∀ q, i ≤ q → Fine o l.length q (opnd q)) (hn : o → l.length - i ≤ n) : ∀ q, i ≤ q → Fine o l.length q (joinM l k n opnd q) := by
  intro q hq
  exact Fine.bind (h q hq) fun x j _ hj hl => (joinLoop_fine (i := q) (fun p hp => h p (by omega)) n x j hj hl fun ho => by have := hn ho; omega)
theorem sumM_fine {n : Nat} {pow : Nat → Res Ex} (h : ∀ q, i ≤ q → Fine o l.length q (pow q)) (hn : o → l.length - i ≤ n) : ∀ q, i ≤ q → Fine o l.length q (sumM l n pow q) :=
  joinM_fine (joinM_fine h hn) hn
theorem powM_fine {un : Nat → Res Ex} (h : ∀ q, i ≤ q → Fine o l.length q (un q)) : ∀ n q, i ≤ q → (o → l.length - q + 1 ≤ n) → Fine o l.length q (powM l un n q) := by
  intro n
  induction n with
  | zero => intro q hq hn ho; have := hn ho; omega
  | succ n ih =>
    intro q hq hn
    unfold powM
    refine Fine.bind (h q hq) fun x j _ hj hl => ?_
    split
    · exact ⟨hj, hl⟩
    · rename_i he
      have := oper_lt he
      exact Fine.bind' (i' := j + 1) (by omega) (ih _ (by omega) fun ho => by have := hn ho; omega) fun y k _ hk hl => ⟨by omega, hl⟩
theorem notM_fine {sum : Nat → Res Ex} (h : ∀ q, i ≤ q → Fine o l.length q (sum q)) : ∀ n q, i ≤ q → (o → l.length - q + 1 ≤ n) → Fine o l.length q (notM l sum n q) := by
  intro n
  induction n with
  | zero => intro q hq hn ho; have := hn ho; omega
  | succ n ih =>
    intro q hq hn
    unfold notM
    split
    · rename_i hs
      have hlt : q < l.length := by
        rw [Bool.or_eq_true] at hs
        rcases hs with h | h
        · exact sgn_lt h
        · exact sgn_lt h
      exact Fine.bind' (i' := q + 1) (by omega) (ih _ (by omega) fun ho => by have := hn ho; omega) fun y k _ hk hl => ⟨by omega, hl⟩
    · refine Fine.bind (h q hq) fun x j _ hj hl => ?_
      split
      · exact ⟨hj, hl⟩
      · rename_i he
        have := oper_lt he
        exact Fine.bind' (i' := j + 1) (by omega) (h _ (by omega)) fun y k _ hk hl => ⟨by omega, hl⟩
theorem idxLoop_fine {E : Nat → Res Ex} (h : i < l.length → ∀ q, i < q → Fine o l.length q (E q)) : ∀ n x j, i < j → j ≤ l.length → (o → l.length - j + 1 ≤ n) → Fine o l.length i (idxLoop l E n x j) := by
  intro n
  induction n with
  | zero => intro x j h1 h2 h3 ho; have := h3 ho; omega
  | succ n ih =>
    intro x j h1 h2 h3
    unfold idxLoop
    split
    · rename_i hs
      have := sgn_lt hs
      refine Fine.bind' (i' := j + 1) (by omega) (h (by omega) _ (by omega)) fun y q _ hq hl => ?_
      refine Fine.bind' (i' := q) (by omega) (want_fine _ _) fun _ k _ hk hl => ih _ _ (by omega) hl fun ho => by have := h3 ho; omega
    · exact ⟨h1, h2⟩
theorem unaryM_fine {E prim : Nat → Res Ex} (hE : i < l.length → ∀ q, i < q → Fine o l.length q (E q)) (hP : ∀ q, i ≤ q → Fine o l.length q (prim q)) : ∀ n q, i ≤ q → (o → l.length - q + 1 ≤ n) → Fine o l.length q (unaryM l E prim n q) := by
  intro n
  induction n with
  | zero => intro q hq hn ho; have := hn ho; omega
  | succ n ih =>
    intro q hq hn
    unfold unaryM
    split
    · rename_i hs
      have := sgn_lt hs
      exact Fine.bind' (i' := q + 1) (by omega) (ih _ (by omega) fun ho => by have := hn ho; omega) fun y k _ hk hl => ⟨by omega, hl⟩
    · refine Fine.bind (hP q hq) fun x j _ hj hl => ?_
      exact idxLoop_fine (i := q) (fun _ p hp => hE (by omega) p (by omega)) n x j hj hl fun ho => by have := hn ho; omega
theorem listLoop_fine {E : Nat → Res Ex} (h : ∀ q, i < q → Fine o l.length q (E q)) : ∀ n f j, i < j → j ≤ l.length → (o → l.length - j + 1 ≤ n) → Fine o l.length i (listLoop l E n f j) := by
  intro n
  induction n with
  | zero => intro x j h1 h2 h3 ho; have := h3 ho; omega
  | succ n ih =>
    intro x j h1 h2 h3
    unfold listLoop
    split
    · rename_i hs
      have := sgn_lt hs
      refine Fine.bind' (i' := j + 1) (by omega) (h _ (by omega)) fun y q _ hq hl => ih _ _ (by omega) hl fun ho => by have := h3 ho; omega
    · exact ⟨h1, h2⟩
theorem listM_fine {E : Nat → Res Ex} {n : Nat} (h : ∀ q, i ≤ q → Fine o l.length q (E q)) (hn : o → l.length - i ≤ n) : Fine o l.length i (listM l E n i) := by
  refine Fine.bind (h i (Nat.le_refl _)) fun x j _ hj hl => listLoop_fine (fun q hq => h q (by omega)) n _ j hj hl fun ho => by have := hn ho; omega
theorem namesLoop_fine : ∀ n f j, i < j → j ≤ l.length → (o → l.length - j + 1 ≤ n) → Fine o l.length i (namesLoop l n f j) := by
  intro n
  induction n with
  | zero => intro x j h1 h2 h3 ho; have := h3 ho; omega
  | succ n ih =>
    intro x j h1 h2 h3
    unfold namesLoop
    split
    · rename_i hs
      have := sgn_lt hs
      refine Fine.bind' (i' := j + 1) (by omega) (name_fine _) fun y q _ hq hl => ih _ _ (by omega) hl fun ho => by have := h3 ho; omega
    · exact ⟨h1, h2⟩
theorem namesM_fine {n : Nat} (hn : o → l.length - i ≤ n) : Fine o l.length i (namesM l n i) :=
  Fine.bind (name_fine _) fun x j _ hj hl => namesLoop_fine n _ j hj hl fun ho => by have := hn ho; omega

theorem callM_fine {E : Nat → Res Ex} {n : Nat} (hE : i < l.length → ∀ q, i < q → Fine o l.length q (E q)) (hn : o → l.length - i ≤ n) : Fine o l.length i (callM l E n i) := by
  unfold callM
  refine Fine.bind (name_fine _) fun s j _ hj hl => Fine.bind' (i' := j) (by omega) (want_fine _ _) fun _ k _ hk hl2 => ?_
  split
  · rename_i hs; have := sgn_lt hs; exact ⟨by omega, this⟩
  · refine Fine.bind' (i' := k) (by omega) (listM_fine (fun q hq => hE (by omega) q (by omega)) fun ho => by have := hn ho; omega) fun f p _ hp hl3 => ?_
    exact Fine.bind' (i' := p) (by omega) (want_fine _ _) fun _ k _ hk hl2 => ⟨by omega, hl2⟩
theorem macroM_fine {E : Nat → Res Ex} (hE : i < l.length → ∀ q, i < q → Fine o l.length q (E q)) : Fine o l.length i (macroM l E i) := by
  unfold macroM
  refine Fine.bind (want_fine _ _) fun s j _ hj hl => ?_
  split
  · rename_i hs
    have := sgn_lt hs
    refine Fine.bind' (i' := j + 1) (by omega) (hE (by omega) _ (by omega)) fun f p _ hp hl3 => ?_
    exact Fine.bind' (i' := p) (by omega) (want_fine _ _) fun _ k _ hk hl2 => ⟨by omega, hl2⟩
  · refine Fine.bind' (i' := j) (by omega) (name_fine _) fun s p _ hp hl3 => ?_
    split
    · rename_i hs; have := sgn_lt hs; exact ⟨by omega, this⟩
    · exact ⟨by omega, hl3⟩
theorem bracedM_fine {E : Nat → Res Ex} {n : Nat} (hE : ∀ q, i ≤ q → Fine o l.length q (E q)) (hn : o → l.length - i ≤ n) : Fine o l.length i (bracedM l E n i) := by
  unfold bracedM
  split
  · rename_i hs
    have hi := sgn_lt hs
    have h1 : Fine o l.length (i + 1) (if isSignM (tokAt l (i + 1)) [124] then (.ok [] (i + 2) : Res (List Bs)) else (namesM l n (i + 1)).bind fun p j => (wantM l [124] j).bind fun _ j => .ok p j) := by
      split
      · rename_i hs2; have := sgn_lt hs2; exact ⟨by omega, this⟩
      · refine Fine.bind (namesM_fine fun ho => by have := hn ho; omega) fun p j _ hj hl => ?_
        exact Fine.bind' (i' := j) (by omega) (want_fine _ _) fun _ k _ hk hl2 => ⟨by omega, hl2⟩
    refine Fine.bind' (i' := i + 1) (by omega) h1 fun p j _ hj hl => ?_
    refine Fine.bind' (i' := j) (by omega) (hE _ (by omega)) fun f p _ hp hl3 => ?_
    exact Fine.bind' (i' := p) (by omega) (want_fine _ _) fun _ k _ hk hl2 => ⟨by omega, hl2⟩
  · refine Fine.bind (listM_fine hE hn) fun f p _ hp hl3 => ?_
    exact Fine.bind' (i' := p) (by omega) (want_fine _ _) fun _ k _ hk hl2 => ⟨by omega, hl2⟩
theorem signedM_fine {E : Nat → Res Ex} {n : Nat} (hE : i < l.length → ∀ q, i < q → Fine o l.length q (E q)) (hn : o → l.length - i ≤ n) : Fine o l.length i (signedM l E n i) := by
  unfold signedM
  split
  · exact macroM_fine hE
  split
  · rename_i hs; have := sgn_lt hs; exact ⟨by omega, this⟩
  split
  · rename_i hs; have := sgn_lt hs; exact ⟨by omega, this⟩
  split
  · rename_i hs; have := sgn_lt hs; exact ⟨by omega, this⟩
  split
  · rename_i hs
    have := sgn_lt hs
    refine Fine.bind' (i' := i + 1) (by omega) (hE (by omega) _ (by omega)) fun f p _ hp hl3 => ?_
    exact Fine.bind' (i' := p) (by omega) (want_fine _ _) fun _ k _ hk hl2 => ⟨by omega, hl2⟩
  split
  · rename_i hs
    have := sgn_lt hs
    exact Fine.bind' (i' := i + 1) (by omega) (name_fine _) fun s p _ hp hl3 => ⟨by omega, hl3⟩
  split
  · rename_i hs
    have := sgn_lt hs
    exact (bracedM_fine (i := i + 1) (fun q hq => hE (by omega) q (by omega)) fun ho => by have := hn ho; omega).mono (by omega)
  · trivial
theorem namedM_fine {E : Nat → Res Ex} {n : Nat} (hE : i < l.length → ∀ q, i < q → Fine o l.length q (E q)) (hn : o → l.length - i ≤ n) : Fine o l.length i (namedM l E n i) := by
  unfold namedM
  split
  · exact callM_fine hE hn
  refine Fine.bind (name_fine _) fun s j _ hj hl => ?_
  split
  · rename_i hs
    have := sgn_lt hs
    split
    · rename_i hs
      have := sgn_lt hs
      refine Fine.bind' (i' := j + 2) (by omega) (hE (by omega) _ (by omega)) fun f p _ hp hl3 => ?_
      exact Fine.bind' (i' := p) (by omega) (want_fine _ _) fun _ k _ hk hl2 => ⟨by omega, hl2⟩
    · exact Fine.bind' (i' := j + 1) (by omega) (name_fine _) fun s p _ hp hl3 => ⟨by omega, hl3⟩
  · exact ⟨hj, hl⟩
theorem primM_fine {day : Bs → Int} {E : Nat → Res Ex} {n : Nat} (hE : i < l.length → ∀ q, i < q → Fine o l.length q (E q)) (hn : o → l.length - i ≤ n) : Fine o l.length i (primM l day E n i) := by
  unfold primM
  have hk : ∀ k : Int, ((tokAt l i).kind == k) = true → k ≠ -1 → i < l.length := fun k h1 h2 => kind_lt (by simp at h1; omega)
  split
  · rename_i h; exact ⟨by omega, hk 1 h (by decide)⟩
  split
  · rename_i h
    split
    · trivial
    · exact ⟨by omega, hk 2 h (by decide)⟩
  split
  · rename_i h; exact ⟨by omega, hk 3 h (by decide)⟩
  split
  · exact namedM_fine hE hn
  · exact signedM_fine hE hn

theorem exprM_fine (day : Bs → Int) : ∀ n q, Fine (l.length - q + 2 ≤ n) l.length q (exprM l day n q) := by
  intro n
  induction n with
  | zero => intro q ho; omega
  | succ n ih =>
    intro q
    have hE : q < l.length → ∀ p, q < p → Fine (l.length - q + 2 ≤ n + 1) l.length p (exprM l day n p) := fun hq p hp => (ih p).weak fun ho => by omega
    have hn : (l.length - q + 2 ≤ n + 1) → l.length - q ≤ n := fun h => by omega
    have h1 : ∀ p, q ≤ p → Fine (l.length - q + 2 ≤ n + 1) l.length p (primM l day (exprM l day n) n p) := fun p hp => primM_fine (fun h r hr => hE (by omega) r (by omega)) fun ho => by have := hn ho; omega
    have h2 : ∀ p, q ≤ p → Fine (l.length - q + 2 ≤ n + 1) l.length p (unaryM l (exprM l day n) (primM l day (exprM l day n) n) n p) := fun p hp => unaryM_fine hE h1 n p hp fun ho => by omega
    have h3 := fun p (hp : q ≤ p) => powM_fine h2 n p hp fun ho => by omega
    have h4 := sumM_fine (n := n) h3 hn
    have h5 := fun p (hp : q ≤ p) => notM_fine h4 n p hp fun ho => by omega
    unfold exprM
    exact joinM_fine (joinM_fine h5 hn) hn q (Nat.le_refl _)
end

end Go.Proofs.YtmcajbhljbbglaaGreatDoor
