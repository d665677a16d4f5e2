/-
  The reference's lexed; what the reference's reader wants of the tokens.
  The reference's counter of an expression's size.
-/
import Derived.Test.YtmcajbhljbbglaaGreatDoorSr06
import Derived.Test.YtmcajbhljbbglaaGreatDoorSr07
import Derived.Test.YtmcajbhljbbglaaGreatDoorSs16
import Derived.Test.YtmcajbhljbbglaaGreatDoorSs15
import Derived.Test.YtmcajbhljbbglaaGreatDoorSs22
set_option linter.all false
set_option linter.unusedVariables false
set_option linter.unusedSimpArgs false
set_option linter.unnecessarySimpa false
set_option linter.constructorNameAsVariable false
set_option linter.deprecated false

namespace Go.Proofs.YtmcajbhljbbglaaGreatDoor
open Go.RowKit

theorem dig_eq (b : UInt8) : (decide (48 ≤ b) && decide (b ≤ 57)) = isDig b := by
  unfold isDig
  rw [Bool.eq_iff_iff]
  simp only [Bool.and_eq_true, decide_eq_true_eq, UInt8.le_iff_toNat_le]
  exact Iff.rfl

theorem names_of_ok {l : List Tok} (h : ∀ i, TokOk (tokAt l i)) : Names l := by
  intro i hk
  obtain ⟨⟨c, r, e, hc⟩, ha⟩ := (h i).word hk
  rw [e] at ha ⊢
  unfold isNameM
  simp only [dig_eq, hc, ha, List.isEmpty_cons, Bool.not_false, Bool.true_and, Bool.and_true]

def RLexTop (w : World) (s : Bs) (e : Ending) (w' : World) : Prop := w.grownBy w' none ∧
  match lexTop s with
    | .ok l => ∃ v, e = .returned (.tuple #[v, .int .i64 l.length, .int .i64 0]) ∧ TRow w' v l (since w.heap.size) ∧ (∀ i, TokOk (tokAt l i)) ∧ l.length ≤ 1200
    | .error pc => e = .returned (.tuple #[.slice none 0 0, .int .i64 pc.1, .int .i64 pc.2]) ∧ (pc.2 = 2 ∨ pc.2 = 3)

theorem rLexTop_any (w : World) (s : Bs) : Calls Tryz.prog 59 #[str s] w (RLexTop w s) := by
  refine (rLex_any w s).mono ?_
  rintro e w1 ⟨g, h⟩
  refine ⟨g, ?_⟩
  unfold lexTop
  by_cases h4 : 4000 < s.length
  · rw [if_pos h4] at h ⊢
    exact ⟨h, .inr rfl⟩
  rw [if_neg h4] at h ⊢
  cases hl : lexAll s with
  | out => exact absurd hl (lexAll_fine s)
  | bad k => rw [hl] at h; exact ⟨h, .inl rfl⟩
  | ok l =>
    rw [hl] at h
    replace h : ite _ _ _ := h
    simp only []
    by_cases hm : 1200 < l.length
    · rw [if_pos hm] at h ⊢
      exact ⟨h, .inr rfl⟩
    · rw [if_neg hm] at h ⊢
      obtain ⟨v, rfl, ht⟩ := h
      exact ⟨v, rfl, ht, fun i => tokAt_ok (lexM_ok (by omega) _ _ _ _ hl) i, by omega⟩

set_option maxHeartbeats 400000 in
theorem rlexed_any (w : World) (s : Bs) : Calls Tryz.prog 27 #[str s] w (RLexTop w s) := by
  have HL := Lib.hid (rLexTop_any w s)
  go_enter Tryz.func27, Tryz.ntmps27
  go_wp2_with fail
  refine HL.out.mono ?_
  rintro e w1 ⟨g1, h1⟩
  cases hq : lexTop s with
  | error pc =>
    rw [hq] at h1
    obtain ⟨rfl, hc⟩ := h1
    have HQ := Lib.hid (And.intro hq (And.intro hc g1))
    have hc1 : (pc.2 != 0) = true := by simp; omega
    clear hq hc g1
    go_wp2
    refine bodyPost_ret (v := .tuple #[.slice none 0 0, .int .i64 pc.1, .int .i64 pc.2]) (by simp [results, Tryz.results27, go_sem]) rfl ⟨HQ.out.2.2, ?_⟩
    rw [HQ.out.1]
    exact ⟨rfl, HQ.out.2.1⟩
  | ok l =>
    rw [hq] at h1
    obtain ⟨v, rfl, hT, hok, hl⟩ := h1
    obtain ⟨ta, tc, rfl, _⟩ := id hT
    have HQ := Lib.hid (And.intro hq (And.intro hT (And.intro hok (And.intro hl g1))))
    clear hq hT hok hl g1
    go_wp2
    refine bodyPost_ret (v := .tuple #[.slice ta l.length tc, .int .i64 l.length, .int .i64 0]) (by simp [results, Tryz.results27, go_sem]) rfl ⟨HQ.out.2.2.2.2, ?_⟩
    rw [HQ.out.1]
    exact ⟨_, rfl, HQ.out.2.1, HQ.out.2.2.1, HQ.out.2.2.2.1⟩

end Go.Proofs.YtmcajbhljbbglaaGreatDoor

namespace Go.Proofs.YtmcajbhljbbglaaGreatDoor
open Go.RowKit

/-- what the counter holds after a row at level k + 1; it goes on no further once it is too large -/
def cntF : Fo → Nat → Nat × Nat → Nat × Nat
  | .nil, _, s => s
  | .cons _ kids next, k, s => if isLargeM (s.1 + 1) (max s.2 (k + 1)) then (s.1 + 1, max s.2 (k + 1)) else cntF next k (cntF kids (k + 1) (s.1 + 1, max s.2 (k + 1)))

theorem large_mono {n m n' m' : Nat} (h : isLargeM n m = true) (hn : n ≤ n') (hm : m ≤ m') : isLargeM n' m' = true := by
  simp only [isLargeM, Bool.or_eq_true, decide_eq_true_eq] at h ⊢; omega
theorem cnt_ge : ∀ (f : Fo) (k : Nat) (s : Nat × Nat), s.1 ≤ (cntF f k s).1 ∧ s.2 ≤ (cntF f k s).2 := by
  intro f
  induction f with
  | nil => intro k s; exact ⟨Nat.le_refl _, Nat.le_refl _⟩
  | cons h kids next ihk ihn =>
    intro k s
    unfold cntF
    split
    · exact ⟨by simp, by simp; omega⟩
    · have h1 := ihk (k + 1) (s.1 + 1, max s.2 (k + 1))
      have h2 := ihn k (cntF kids (k + 1) (s.1 + 1, max s.2 (k + 1)))
      simp only at h1
      omega
theorem cnt_le : ∀ (f : Fo) (k : Nat) (s : Nat × Nat), (cntF f k s).1 ≤ s.1 + f.nodes := by
  intro f
  induction f with
  | nil => intro k s; exact Nat.le_refl _
  | cons h kids next ihk ihn =>
    intro k s
    unfold cntF
    simp only [Fo.nodes]
    split
    · simp; omega
    · have h1 := ihk (k + 1) (s.1 + 1, max s.2 (k + 1))
      have h2 := ihn k (cntF kids (k + 1) (s.1 + 1, max s.2 (k + 1)))
      simp only at h1
      omega
theorem cnt_is : ∀ (f : Fo) (k : Nat) (s : Nat × Nat), k ≤ s.2 →
    isLargeM (cntF f k s).1 (cntF f k s).2 = isLargeM (s.1 + f.nodes) (max s.2 (k + f.levels)) ∧
    (isLargeM (s.1 + f.nodes) (max s.2 (k + f.levels)) = false → cntF f k s = (s.1 + f.nodes, max s.2 (k + f.levels))) := by
  intro f
  induction f with
  | nil =>
    intro k s hk
    have e : max s.2 (k + Fo.nil.levels) = s.2 := by simp only [Fo.levels]; omega
    rw [e]
    exact ⟨rfl, fun _ => rfl⟩
  | cons h kids next ihk ihn =>
    intro k s hk
    have e1 : s.1 + (Fo.cons h kids next).nodes = s.1 + 1 + kids.nodes + next.nodes := by simp only [Fo.nodes]; omega
    have e2 : max s.2 (k + (Fo.cons h kids next).levels) = max (max (max s.2 (k + 1)) (k + 1 + kids.levels)) (k + next.levels) := by simp only [Fo.levels]; omega
    rw [e1, e2]
    unfold cntF
    cases hL : isLargeM (s.1 + 1) (max s.2 (k + 1)) with
    | true =>
      rw [if_pos rfl]
      have ht := large_mono hL (show s.1 + 1 ≤ s.1 + 1 + kids.nodes + next.nodes by omega) (show max s.2 (k + 1) ≤ max (max (max s.2 (k + 1)) (k + 1 + kids.levels)) (k + next.levels) by omega)
      rw [ht]
      exact ⟨hL, fun h => by cases h⟩
    | false =>
      rw [if_neg (by simp)]
      have h1 := ihk (k + 1) (s.1 + 1, max s.2 (k + 1)) (by simp; omega)
      simp only at h1
      generalize hS : cntF kids (k + 1) (s.1 + 1, max s.2 (k + 1)) = S at *
      cases h2 : isLargeM (s.1 + 1 + kids.nodes) (max (max s.2 (k + 1)) (k + 1 + kids.levels)) with
      | true =>
        rw [h2] at h1
        have hg := cnt_ge next k S
        have ha := large_mono h1.1 hg.1 hg.2
        have hb := large_mono h2 (show s.1 + 1 + kids.nodes ≤ s.1 + 1 + kids.nodes + next.nodes by omega) (show max (max s.2 (k + 1)) (k + 1 + kids.levels) ≤ max (max (max s.2 (k + 1)) (k + 1 + kids.levels)) (k + next.levels) by omega)
        rw [ha, hb]
        exact ⟨rfl, fun h => by cases h⟩
      | false =>
        have hs := h1.2 h2
        subst hs
        exact ihn k _ (by simp; omega)
theorem cnt_top (x : Ex) : isLargeM (cntF (.one x) 0 (0, 0)).1 (cntF (.one x) 0 (0, 0)).2 = isLargeM x.nodes x.levels := by
  rw [(cnt_is (.one x) 0 (0, 0) (Nat.le_refl _)).1]
  congr 1
  · simp [Fo.one, Ex.fo, Fo.nodes, Ex.nodes]
  · simp [Fo.one, Ex.fo, Fo.levels, Ex.levels]

/-- the counter in block b -/
def Cn (w : World) (b : Nat) (s : Nat × Nat) : Prop := Blk w b [.int .i64 s.1, .int .i64 s.2] 66
theorem Cn.gb {w w1 : World} {b : Nat} {s : Nat × Nat} {r : Option Nat} (h : Cn w b s) (g : w.grownBy w1 r) (hr : some b ≠ r) : Cn w1 b s := Blk.gb h g hr

set_option maxHeartbeats 400000 in
theorem clarge_any {w : World} {b n m : Nat} (h : Cn w b (n, m)) :
    Calls Tryz.prog 31 #[.pointer (some ⟨b, 0, none⟩)] w fun e w' => e = .returned (.bool (isLargeM n m)) ∧ w.grownBy w' none := by
  have c0 := Blk.cell h 0
  have c1 := Blk.cell h 1
  have hb := Blk.lt h
  simp only [List.getElem?_cons_zero, List.getElem?_cons_succ] at c0 c1
  clear h
  cases h1 : decide (400 < n) with
  | true =>
    have HM := Lib.hid (show isLargeM n m = true by unfold isLargeM; rw [h1]; rfl)
    have h2 : decide ((400 : Int) < n) = true := by simp at h1 ⊢; omega
    clear h1
    go_enter Tryz.func31, Tryz.ntmps31
    go_wp2
    go_ret
    exact ⟨by rw [HM.out]; rfl, (by repeat (first | (with_reducible exact gb_refl _ _) | (with_reducible assumption) | (with_reducible exact gb_none (by assumption)) | (with_reducible refine gb_alloc ?_ _) | (with_reducible refine gb_drew ?_) | (with_reducible refine gb_drewN ?_ _) | ((with_reducible refine gb_set ?_ _ _ ?h2); case h2 => first | exact .inl rfl | exact .inr (Nat.le_refl _) | exact .inr (by simp <;> omega)) | (with_reducible refine gb_sub ?_ (by assumption)) | (with_reducible refine gb_trans ?_ (by assumption))))⟩
  | false =>
    have HM := Lib.hid (show isLargeM n m = decide ((14 : Int) < m) by unfold isLargeM; rw [h1, Bool.false_or, decide_eq_decide]; omega)
    have h2 : decide ((400 : Int) < n) = false := by simp at h1 ⊢; omega
    clear h1
    go_enter Tryz.func31, Tryz.ntmps31
    go_wp2
    go_ret
    exact ⟨by rw [HM.out]; rfl, (by repeat (first | (with_reducible exact gb_refl _ _) | (with_reducible assumption) | (with_reducible exact gb_none (by assumption)) | (with_reducible refine gb_alloc ?_ _) | (with_reducible refine gb_drew ?_) | (with_reducible refine gb_drewN ?_ _) | ((with_reducible refine gb_set ?_ _ _ ?h2); case h2 => first | exact .inl rfl | exact .inr (Nat.le_refl _) | exact .inr (by simp <;> omega)) | (with_reducible refine gb_sub ?_ (by assumption)) | (with_reducible refine gb_trans ?_ (by assumption))))⟩

set_option maxHeartbeats 400000 in
theorem cat_any {w : World} {b n m : Nat} (h : Cn w b (n, m)) (k : Nat) (hn : n ≤ 1000000) :
    Calls Tryz.prog 65 #[.pointer (some ⟨b, 0, none⟩), .int .i64 k] w fun e w' => e = .returned (.bool (!isLargeM (n + 1) (max m k))) ∧ w.grownBy w' (some b) ∧ Cn w' b (n + 1, max m k) := by
  have c0 := Blk.cell h 0
  have c1 := Blk.cell h 1
  have hf := fun k => Blk.frozen h k
  have hb := Blk.lt h
  simp only [List.getElem?_cons_zero, List.getElem?_cons_succ] at c0 c1
  have h2 : Cn ((w.setCell ⟨b, 0, none⟩ (.int .i64 ((n : Int) + 1))).setCell ⟨b, 1, none⟩ (.int .i64 (max (m : Int) k))) b (n + 1, max m k) :=
    ((Blk.set h 0 (.int .i64 ((n : Int) + 1))).set 1 (.int .i64 (max (m : Int) k))).of_eq rfl (by simp; omega)
  have g2 : w.grownBy ((w.setCell ⟨b, 0, none⟩ (.int .i64 ((n : Int) + 1))).setCell ⟨b, 1, none⟩ (.int .i64 (max (m : Int) k))) (some b) := gb_set (gb_set (gb_refl w _) _ _ (.inl rfl)) _ _ (.inl rfl)
  have HC := Lib.hid (And.intro (clarge_any h2) (And.intro h2 g2))
  clear h h2 g2
  go_enter Tryz.func65, Tryz.ntmps65
  go_wp2_with fail
  refine HC.out.1.mono ?_
  rintro e w1 ⟨rfl, g1⟩
  go_wp2
  go_ret
  exact ⟨rfl, gb_sub HC.out.2.2 g1, HC.out.2.1.gb g1 (by simp)⟩

def CnPost (w : World) (b : Nat) (s : Nat × Nat) (e : Ending) (w' : World) : Prop := e = .returned (.tuple #[]) ∧ w.grownBy w' (some b) ∧ Cn w' b s

set_option maxRecDepth 40000 in
set_option maxHeartbeats 4000000 in
theorem cexprs_N (b : Nat) : ∀ (N : Nat) (f : Fo), f.nodes < N → f.nodes ≤ 100000 → ∀ (la : Option Addr) (lc : Nat) (w : World) (s : Nat × Nat) (k : Nat), s.1 + f.nodes ≤ 1000000 → k + N ≤ 1000000 → RepL (· ≠ b) w (.slice la f.len lc) f → Cn w b s →
    Calls Tryz.prog 30 #[.pointer (some ⟨b, 0, none⟩), .slice la f.len lc, .int .i64 ((k + 1 : Nat) : Int)] w (CnPost w b (cntF f k s)) := by
  intro N
  induction N with
  | zero => intro f hN; omega
  | succ N ih =>
    intro f hN hfn la lc w s k hs hkN hf hC
    obtain ⟨cs, hc1, hr1⟩ := hf
    obtain ⟨_, _, e, hle, hmx, _, hc1⟩ := hc1
    cases e
    have hmax : f.len ≤ maxLen := by omega
    unfold maxLen at hmax
    clear hle hmx
    have HC := Lib.hid (And.intro hc1 ih)
    have HR := Lib.hid (And.intro hr1 hC)
    have hb := Blk.lt hC
    clear hc1 ih hr1 hC
    generalize hT : cntF f k s = T
    go_enter Tryz.func30, Tryz.ntmps30
    go_wp2_with fail
    go_loopg [6] f.len (fun g v6 wr => ∃ rf : Fo, ∃ i : Nat, ∃ t : Nat × Nat, rf.len = g ∧ i + g = f.len ∧ v6 = .int .i64 i ∧ t.1 + rf.nodes ≤ 1000000 ∧ rf.nodes ≤ f.nodes ∧ cntF rf k t = T ∧ RepF (· ≠ b) w rf (cs.drop (i * 7)) ∧ Cn wr b t ∧ w.grownBy wr (some b))
    case atStart => exact ⟨f, 0, s, rfl, by omega, rfl, hs, Nat.le_refl _, hT, by simpa using HR.out.1, HR.out.2, gb_refl _ _⟩
    case round =>
      obtain ⟨rf, i, ⟨n, m⟩, hn, hk, rfl, ht, hrn, hcnt, hrf, hCt, hgr⟩ := hrel
      clear HR hT
      cases rf with
      | nil =>
        have hkI : decide (i < f.len) = false := by simp [Fo.len] at hn; simp; omega
        have HG := Lib.hid (And.intro hgr (And.intro hCt hcnt))
        clear hgr hn hrf hCt hcnt
        go_wp2
        go_end0
        exact ⟨rfl, HG.out.1, by rw [← HG.out.2.2]; exact HG.out.2.1⟩
      | cons h1 k1 n1 =>
        simp only [Fo.len] at hn
        simp only [Fo.nodes] at ht hrn
        subst hn
        have hkI : decide (i < f.len) = true := by simp; omega
        obtain ⟨pa1, pc1, lb1, ld1, hp1, hl1, hx1, ha1⟩ := RepF.elem (n := f.len) (lc := lc) (f := f) HC.out.1 hrf
        have hkf : i + 1 ≤ f.len := by omega
        have HA := Lib.hid (cat_any hCt (k + 1) (by omega))
        unfold cntF at hcnt
        simp only at hcnt
        have i0 : (0 : Int) ≤ (i : Int) := by omega
        have i1 : (i : Int) < (f.len : Int) := by omega
        have i2 : i < f.len := by omega
        have HN := Lib.hid (And.intro hcnt (And.intro hx1 (And.intro hgr hl1)))
        obtain ⟨g1, o1, rfl, hok1, _, z6⟩ : ∃ g1 o1, la = some ⟨g1, o1, none⟩ ∧ g1 ≠ b ∧ True ∧ w.cell? ⟨g1, o1 + (i * 7 + 6), none⟩ = some (.slice lb1 k1.len ld1) := by
          obtain ⟨g, o, e, hg, hc⟩ := ha1 6 _ rfl
          exact ⟨g, o, e, hg, trivial, hc⟩
        have hgl := World.block_lt_of_cell? w _ z6
        clear hcnt hrf hp1 hl1 hx1 ha1 hCt hgr
        go_wp2_with fail
        refine HA.out.mono ?_
        rintro e w2 ⟨rfl, g2, hC2⟩
        have gW := Lib.hid (gb_trans HN.out.2.2.1 g2)
        cases hL : isLargeM (n + 1) (max m (k + 1)) with
        | true =>
          have HF := Lib.hid (And.intro hC2 (show (n + 1, max m (k + 1)) = T by rw [← HN.out.1, hL]; rfl))
          clear hL g2 hC2
          go_wp2
          go_end0
          exact ⟨rfl, gW.out, by rw [← HF.out.2]; exact HF.out.1⟩
        | false =>
          have hF := HN.out.1
          rw [hL, if_neg (by simp)] at hF
          have y6 : w2.cell? ⟨g1, o1 + (i * 7 + 6), none⟩ = some (.slice lb1 k1.len ld1) := gb_cell gW.out z6 (fun e => hok1 (by cases e; rfl))
          have HE := Lib.hid (HC.out.2 k1 (by omega) (by omega) lb1 ld1 w2 (n + 1, max m (k + 1)) (k + 1) (by simp only; omega) (by omega) (HN.out.2.2.2.gb gW.out (by intro q hq _ e; cases e; exact hq rfl)) hC2)
          have hle := cnt_le k1 (k + 1) (n + 1, max m (k + 1))
          have HF := Lib.hid (And.intro hF hle)
          have hlt2 := Blk.lt hC2
          have hgl2 := World.block_lt_of_cell? w2 _ y6
          have hw1 : IntKind.i64.wrap (((k + 1 : Nat) : Int) + 1) = ((k + 1 + 1 : Nat) : Int) := by rw [IntWalk.i64_in _ (by omega)]; push_cast; rfl
          clear hL g2 hC2 hF hle z6
          rw [show o1 + (i * 7 + 6) = o1 + i * 7 + 6 by omega] at y6
          go_wp2_with fail
          refine HE.out.mono ?_
          rintro e w3 ⟨rfl, g3, hC3⟩
          have HG := Lib.hid (And.intro (gb_trans gW.out g3) hC3)
          clear g3 hC3 y6
          go_wp2
          go_roundg n1.len
          case measure => omega
          case rel => exact ⟨n1, i + 1, _, rfl, by omega, by go_num, by have := HF.out.2; omega, by omega, HF.out.1, HN.out.2.1, HG.out.2, HG.out.1⟩

end Go.Proofs.YtmcajbhljbbglaaGreatDoor
