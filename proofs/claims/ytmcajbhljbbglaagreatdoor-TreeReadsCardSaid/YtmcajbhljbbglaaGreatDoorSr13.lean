/-
  The reference's reader: braces.
-/
import Derived.Test.YtmcajbhljbbglaaGreatDoorSr12
set_option linter.all false
set_option linter.unusedVariables false
set_option linter.unusedSimpArgs false
set_option linter.unnecessarySimpa false
set_option linter.constructorNameAsVariable false
set_option linter.deprecated false

namespace Go.Proofs.YtmcajbhljbbglaaGreatDoor
open Go.RowKit
section
variable {b : Nat} {tv : Value} {l : List Tok} {w wr : World} {L : Nat} {x z : Ex} {pa la ya ma : Option Addr} {pc lc yc mc : Nat} {st : RS}

/-- the kept expression's names are stored -/
theorem KpR.setP (h : KpR b tv l w L wr x pa pc la lc st) {p : List Bs} (hp : Cells wr (.slice ya p.length yc) 1 p.length (p.map str) (but w L)) :
    KpR b tv l w L (wr.setCell ⟨L, 5, none⟩ (.slice ya p.length yc)) ⟨⟨x.h.op, x.h.s, x.h.vk, x.h.vn, x.h.vs, p⟩, x.kids⟩ ya yc la lc st := by
  have g7 := gb_set1 (gb_refl wr (some L)) 5 (.slice ya p.length yc)
  have hbL := h.bL
  have hwL := h.wL
  have hk : ∀ q, but w L q → q < wr.heap.size → some q ≠ some L := fun q hq _ e => by cases e; exact hq.2 rfl
  exact ⟨h.rr.gb g7 (by intro q e; cases e; exact hbL), (h.blk.set 5 _).of_eq rfl rfl, hp.gb g7 hk, h.rl.gb g7 hk, gb_sub' h.gr g7 (.inr (by omega)), hbL, hwL, h.zero.gb g7 (by simp; omega)⟩
/-- the kept expression's one operand is stored, whose row is new -/
theorem KpR.setL (h : KpR b tv l w L wr x pa pc la lc st) (hb : b < w.heap.size) (zp : Cells wr (.slice ya z.h.p.length yc) 1 z.h.p.length (z.h.p.map str) (but w L)) (zl : RepL (but w L) wr (.slice ma z.kids.len mc) z.kids) :
    KpR b tv l w L ((wr.setCell ⟨L, 6, none⟩ (.slice (some ⟨wr.heap.size, 0, none⟩) 1 1)).alloc (.cells (hdC z.h (.slice ya z.h.p.length yc) (.slice ma z.kids.len mc)).toArray 29 (0, 0))) ⟨x.h, .one z⟩ pa pc (some ⟨wr.heap.size, 0, none⟩) 1 st := by
  have g7 := gb_set1 (gb_refl wr (some L)) 6 (.slice (some ⟨wr.heap.size, 0, none⟩) 1 1)
  have hbL := h.bL
  have hwL := h.wL
  have hlt := h.blk.lt
  have hk : ∀ q, but w L q → q < wr.heap.size → some q ≠ some L := fun q hq _ e => by cases e; exact hq.2 rfl
  have gA := World.grownBy_alloc (wr.setCell ⟨L, 6, none⟩ (.slice (some ⟨wr.heap.size, 0, none⟩) 1 1)) (.cells (hdC z.h (.slice ya z.h.p.length yc) (.slice ma z.kids.len mc)).toArray 29 (0, 0)) none
  refine ⟨(h.rr.gb g7 (by intro q e; cases e; exact hbL)).alloc _, ((h.blk.set 6 _).of_eq rfl rfl).alloc _, (h.rp.gb g7 hk).gb gA (by simp), ?_, gb_alloc (gb_sub' h.gr g7 (.inr (by omega))) _, hbL, hwL, (h.zero.gb g7 (by simp; omega)).alloc _⟩
  exact RepL.one (n := wr.heap.size) (by simp) ⟨by omega, by omega⟩ (zp.gb g7 hk) (zl.gb g7 hk)

set_option maxRecDepth 20000 in
set_option maxHeartbeats 2000000 in
theorem rbraces_any {E : FR Ex} (hE : CR 28 b tv l E) (n : Nat) (hn : n ≤ 100000) : CR 295 b tv l (bracesR l E n) := by
  intro w st r h ho
  have hb := h.lt
  have gz : w.grownBy (w.alloc (.cells zeroE.toArray 29 (0, 0))) (some b) := gb_alloc (gb_refl _ _) _
  have hz := Blk.new w zeroE 29
  have h0 := h.alloc (.cells zeroE.toArray 29 (0, 0))
  unfold bracesR at ho
  have HT := Lib.hid (rtake_any h0 [124])
  have H := Lib.hid (And.intro hE (And.intro hz gz))
  clear hE hz gz h0
  cases hs : hereR l [124] st with
  | false =>
    rw [hs] at HT ho
    have hq : (listR l E n (takeR l [124] st)).bind (fun r => some (⟨hd0 7 [], r.1⟩, wantR l [125] r.2)) = some r := ho
    obtain ⟨⟨f, st1⟩, hf, hq⟩ := Option.bind_eq_some_iff.1 hq
    simp only at hq
    cases hq
    have HF := Lib.hid hf
    clear ho hs hf
    go_enter Tryz.func295, Tryz.ntmps295
    go_wp2_with fail
    refine HT.out.mono ?_
    rintro e w1 ⟨g1, v, rfl, rfl, h1⟩
    have hZ1 := H.out.2.1.gb g1 (by simp; omega)
    have G1 := Lib.hid (gb_trans H.out.2.2 g1)
    have hlt1 := hZ1.lt
    have HL := Lib.hid (rlist_any H.out.1 h1 n hn HF.out)
    clear g1 h1 HT
    go_wp2_with fail
    refine HL.out.mono ?_
    rintro e w2 ⟨g2, v, rfl, ⟨la, lc, rfl, rl⟩, h2⟩
    simp only at rl h2 ⊢
    have hZ2 := hZ1.gb g2 (by simp; omega)
    have G2 := Lib.hid (gb_trans G1.out g2)
    have HRL := Lib.hid rl
    clear g2 rl hZ1 HL
    go_wp2_with fail
    refine (rwant_any h2 [125]).mono ?_
    rintro e w4 ⟨g4, v, rfl, rfl, h4⟩
    have hZ4 := hZ2.gb g4 (by simp; omega)
    have HE := Lib.hid (And.intro (gb_trans G2.out g4) (And.intro (HRL.out.gb g4 (by intro k hk _ e; cases e; have : w1.heap.size ≤ b := hk; omega)) h4))
    clear g4 h4 hZ2 h2
    have cz_0 := hZ4.cell 0; have cz_1 := hZ4.cell 1; have cz_2 := hZ4.cell 2; have cz_3 := hZ4.cell 3; have cz_4 := hZ4.cell 4; have cz_5 := hZ4.cell 5; have cz_6 := hZ4.cell 6; simp only [hdC, List.getElem?_cons_zero, List.getElem?_cons_succ] at cz_0 cz_1 cz_2 cz_3 cz_4 cz_5 cz_6; have cz_f := fun i => hZ4.frozen i
    go_wp2
    have g7 := gb_set7 w4 w.heap.size (.int .i64 7) (str []) (.int .i64 0) (.int .i64 0) (str []) (.slice none 0 0) (.slice la f.len lc)
    exact bodyPost_ret (results_ex (hd := hd0 7 []) (pv := .slice none 0 0) (lv := .slice la f.len lc) rfl _ (hZ4.set7 _ _ _ _ _ _ _) rfl) rfl (rpe_copy (x := ⟨hd0 7 [], f⟩) hb HE.out.1 (VE.node HE.out.2.1) (by intro k hk; have : w1.heap.size ≤ k := hk; omega) HE.out.2.2 g7)
  | true =>
    rw [hs] at HT ho
    simp only [if_true] at ho
    obtain ⟨⟨p, st2⟩, hp, ho⟩ := Option.bind_eq_some_iff.1 ho
    simp only at ho
    obtain ⟨⟨z, st3⟩, hy, ho⟩ := Option.bind_eq_some_iff.1 ho
    simp only at ho
    cases ho
    have HY := Lib.hid hy
    have HP := Lib.hid hp
    clear hs hy hp
    go_enter Tryz.func295, Tryz.ntmps295
    go_wp2_with fail
    refine HT.out.mono ?_
    rintro e w1 ⟨g1, v, rfl, rfl, h1⟩
    have hZ1 := H.out.2.1.gb g1 (by simp; omega)
    have G1 := Lib.hid (gb_trans H.out.2.2 g1)
    have hlt1 := hZ1.lt
    have hb1 := h1.lt
    simp only at h1
    have HK := Lib.hid (KpR.new (x := ⟨hd0 8 [], .nil⟩) (pa := none) (pc := 0) (la := none) (lc := 0) hb hZ1 G1.out hlt1 (gb_refl w1 (some b)) (Cells.nil _ _ _) (RepL.nil _ _) h1)
    have hp := HP.out
    have HT2 := Lib.hid (rtake_any HK.out.rr [124])
    clear g1 h1 HT hZ1 HP
    cases hs2 : hereR l [124] (takeR l [124] st) with
    | true =>
      rw [hs2] at HT2 hp
      have hq : some (([] : List Bs), takeR l [124] (takeR l [124] st)) = some (p, st2) := hp
      cases hq
      clear hp hs2
      go_wp2_with fail
      refine HT2.out.mono ?_
      rintro e w2 ⟨g2, v, rfl, rfl, h2⟩
      have HK2 := Lib.hid (HK.out.gb hb g2 h2)
      clear g2 h2 HK HT2
      have HC := Lib.hid (H.out.1 _ _ _ HK2.out.rr HY.out)
      have hLt := HK2.out.blk.lt
      have hwL := HK2.out.wL
      go_wp2_with fail
      refine HC.out.mono ?_
      rintro e w5 ⟨g5, v, rfl, ⟨za, zc, na, nc, rfl, zp, zl⟩, h5⟩
      simp only at zp zl h5 ⊢
      have hs5 := g5.size
      have hk5 := HK2.out.gb hb g5 h5
      have hL5 := hk5.blk
      have hin : ∀ q, since (w2).heap.size q → but w w1.heap.size q := fun q hq => by have hq : (w2).heap.size ≤ q := hq; exact ⟨by omega, by omega⟩
      have HK5 := Lib.hid (hk5.setL hb (zp.mono fun q hq _ => hin q hq) (zl.mono fun q hq _ => hin q hq))
      have hlt5 := hL5.lt
      have hb5 := h5.lt
      clear hk5 zp zl h5 g5 HC HK2 hin
      have cl_0 := hL5.cell 0; have cl_1 := hL5.cell 1; have cl_2 := hL5.cell 2; have cl_3 := hL5.cell 3; have cl_4 := hL5.cell 4; have cl_5 := hL5.cell 5; have cl_6 := hL5.cell 6; simp only [hdC, List.getElem?_cons_zero, List.getElem?_cons_succ] at cl_0 cl_1 cl_2 cl_3 cl_4 cl_5 cl_6; have cl_f := fun i => hL5.frozen i
      go_wp2_with fail
      refine (rwant_any HK5.out.rr [125]).mono ?_
      rintro e w6 ⟨g6, v, rfl, rfl, h6⟩
      have HK6 := Lib.hid (HK5.out.gb hb g6 h6)
      clear g6 h6 HK5 cl_0 cl_1 cl_2 cl_3 cl_4 cl_5 cl_6 cl_f hL5
      have hk6 := HK6.out
      have hL6 := hk6.blk
      have hZ6 := hk6.zero
      have hltz := hZ6.lt
      have hlt6 := hL6.lt
      clear hk6
      have cl_0 := hL6.cell 0; have cl_1 := hL6.cell 1; have cl_2 := hL6.cell 2; have cl_3 := hL6.cell 3; have cl_4 := hL6.cell 4; have cl_5 := hL6.cell 5; have cl_6 := hL6.cell 6; simp only [hdC, List.getElem?_cons_zero, List.getElem?_cons_succ] at cl_0 cl_1 cl_2 cl_3 cl_4 cl_5 cl_6; have cl_f := fun i => hL6.frozen i
      have cz_0 := hZ6.cell 0; have cz_1 := hZ6.cell 1; have cz_2 := hZ6.cell 2; have cz_3 := hZ6.cell 3; have cz_4 := hZ6.cell 4; have cz_5 := hZ6.cell 5; have cz_6 := hZ6.cell 6; simp only [hdC, List.getElem?_cons_zero, List.getElem?_cons_succ] at cz_0 cz_1 cz_2 cz_3 cz_4 cz_5 cz_6; have cz_f := fun i => hZ6.frozen i
      go_wp2
      have hk := HK6.out
      have g7 := gb_set7 w6 w.heap.size (.int .i64 8) (str []) (.int .i64 0) (.int .i64 0) (str []) (.slice none ([] : List Bs).length 0) (.slice (some ⟨w5.heap.size, 0, none⟩) 1 1)
      exact bodyPost_ret (results_ex (hd := ⟨8, [], 0, 0, [], []⟩) (pv := .slice none ([] : List Bs).length 0) (lv := .slice (some ⟨w5.heap.size, 0, none⟩) 1 1) rfl _ (hZ6.set7 _ _ _ _ _ _ _) rfl) rfl (rpe_copy hb hk.gr hk.ve (by intro k hk; exact hk.1) hk.rr g7)
    | false =>
      rw [hs2] at HT2 hp
      have hq : (namesR l n (takeR l [124] (takeR l [124] st))).bind (fun p => some (p.1, wantR l [124] p.2)) = some (p, st2) := hp
      obtain ⟨⟨p2, st4⟩, hn2, hq⟩ := Option.bind_eq_some_iff.1 hq
      simp only at hq
      cases hq
      have HN2 := Lib.hid hn2
      clear hp hs2 hn2
      go_wp2_with fail
      refine HT2.out.mono ?_
      rintro e w2 ⟨g2, v, rfl, rfl, h2⟩
      have HK2 := Lib.hid (HK.out.gb hb g2 h2)
      have HM := Lib.hid (rnames_any h2 n hn HN2.out)
      have hlt2 := HK2.out.blk.lt
      have hwL2 := HK2.out.wL
      clear g2 h2 HK HT2
      go_wp2_with fail
      refine HM.out.mono ?_
      rintro e w3 ⟨g3, v, rfl, ⟨qa, qc, rfl, hcp⟩, h3⟩
      simp only at hcp h3 ⊢
      have hk3 := HK2.out.gb hb g3 h3
      have hL3 := hk3.blk
      have HK3 := Lib.hid (hk3.setP (hcp.mono fun q hq _ => by have hq : w2.heap.size ≤ q := hq; exact ⟨by omega, by omega⟩))
      have hlt3 := hL3.lt
      clear hk3 hcp h3 g3 HK2 HM
      have cl_0 := hL3.cell 0; have cl_1 := hL3.cell 1; have cl_2 := hL3.cell 2; have cl_3 := hL3.cell 3; have cl_4 := hL3.cell 4; have cl_5 := hL3.cell 5; have cl_6 := hL3.cell 6; simp only [hdC, List.getElem?_cons_zero, List.getElem?_cons_succ] at cl_0 cl_1 cl_2 cl_3 cl_4 cl_5 cl_6; have cl_f := fun i => hL3.frozen i
      go_wp2_with fail
      refine (rwant_any HK3.out.rr [124]).mono ?_
      rintro e w4 ⟨g4, v, rfl, rfl, h4⟩
      have HK2 := Lib.hid (HK3.out.gb hb g4 h4)
      clear g4 h4 HK3 cl_0 cl_1 cl_2 cl_3 cl_4 cl_5 cl_6 cl_f hL3
      have HC := Lib.hid (H.out.1 _ _ _ HK2.out.rr HY.out)
      have hLt := HK2.out.blk.lt
      have hwL := HK2.out.wL
      go_wp2_with fail
      refine HC.out.mono ?_
      rintro e w5 ⟨g5, v, rfl, ⟨za, zc, na, nc, rfl, zp, zl⟩, h5⟩
      simp only at zp zl h5 ⊢
      have hs5 := g5.size
      have hk5 := HK2.out.gb hb g5 h5
      have hL5 := hk5.blk
      have hin : ∀ q, since (w4).heap.size q → but w w1.heap.size q := fun q hq => by have hq : (w4).heap.size ≤ q := hq; exact ⟨by omega, by omega⟩
      have HK5 := Lib.hid (hk5.setL hb (zp.mono fun q hq _ => hin q hq) (zl.mono fun q hq _ => hin q hq))
      have hlt5 := hL5.lt
      have hb5 := h5.lt
      clear hk5 zp zl h5 g5 HC HK2 hin
      have cl_0 := hL5.cell 0; have cl_1 := hL5.cell 1; have cl_2 := hL5.cell 2; have cl_3 := hL5.cell 3; have cl_4 := hL5.cell 4; have cl_5 := hL5.cell 5; have cl_6 := hL5.cell 6; simp only [hdC, List.getElem?_cons_zero, List.getElem?_cons_succ] at cl_0 cl_1 cl_2 cl_3 cl_4 cl_5 cl_6; have cl_f := fun i => hL5.frozen i
      go_wp2_with fail
      refine (rwant_any HK5.out.rr [125]).mono ?_
      rintro e w6 ⟨g6, v, rfl, rfl, h6⟩
      have HK6 := Lib.hid (HK5.out.gb hb g6 h6)
      clear g6 h6 HK5 cl_0 cl_1 cl_2 cl_3 cl_4 cl_5 cl_6 cl_f hL5
      have hk6 := HK6.out
      have hL6 := hk6.blk
      have hZ6 := hk6.zero
      have hltz := hZ6.lt
      have hlt6 := hL6.lt
      clear hk6
      have cl_0 := hL6.cell 0; have cl_1 := hL6.cell 1; have cl_2 := hL6.cell 2; have cl_3 := hL6.cell 3; have cl_4 := hL6.cell 4; have cl_5 := hL6.cell 5; have cl_6 := hL6.cell 6; simp only [hdC, List.getElem?_cons_zero, List.getElem?_cons_succ] at cl_0 cl_1 cl_2 cl_3 cl_4 cl_5 cl_6; have cl_f := fun i => hL6.frozen i
      have cz_0 := hZ6.cell 0; have cz_1 := hZ6.cell 1; have cz_2 := hZ6.cell 2; have cz_3 := hZ6.cell 3; have cz_4 := hZ6.cell 4; have cz_5 := hZ6.cell 5; have cz_6 := hZ6.cell 6; simp only [hdC, List.getElem?_cons_zero, List.getElem?_cons_succ] at cz_0 cz_1 cz_2 cz_3 cz_4 cz_5 cz_6; have cz_f := fun i => hZ6.frozen i
      go_wp2
      have hk := HK6.out
      have g7 := gb_set7 w6 w.heap.size (.int .i64 8) (str []) (.int .i64 0) (.int .i64 0) (str []) (.slice qa (p : List Bs).length qc) (.slice (some ⟨w5.heap.size, 0, none⟩) 1 1)
      exact bodyPost_ret (results_ex (hd := ⟨8, [], 0, 0, [], p⟩) (pv := .slice qa (p : List Bs).length qc) (lv := .slice (some ⟨w5.heap.size, 0, none⟩) 1 1) rfl _ (hZ6.set7 _ _ _ _ _ _ _) rfl) rfl (rpe_copy hb hk.gr hk.ve (by intro k hk; exact hk.1) hk.rr g7)
end

end Go.Proofs.YtmcajbhljbbglaaGreatDoor
