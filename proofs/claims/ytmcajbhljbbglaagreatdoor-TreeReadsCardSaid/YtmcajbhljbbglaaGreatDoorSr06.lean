/-
  The reference's lexer: Lex.
-/
import Derived.Test.YtmcajbhljbbglaaGreatDoorSr05
import Derived.Test.YtmcajbhljbbglaaGreatDoorSs15
set_option linter.all false
set_option linter.unusedVariables false
set_option linter.unusedSimpArgs false
set_option linter.unnecessarySimpa false
set_option linter.constructorNameAsVariable false
set_option linter.deprecated false

namespace Go.Proofs.YtmcajbhljbbglaaGreatDoor
open Go.RowKit

/-- the loop of 'Lex' -/
def LxJ (w : World) (s : Bs) (m : Nat) (wr : World) : Prop := Below w.heap.size w wr ∧
  ((∃ i l ov pre n, Rl wr w.heap.size s i l (-1) ov pre ∧ InvF s i l ∧ pre.length + 2 * (s.length - i) + l.toNat ≤ 2 * s.length ∧ (lexM s n i l).pre pre = lexAll s ∧ 2 * (s.length - i) + l.toNat < n ∧ 2 * (s.length - i) + l.toNat ≤ m) ∨
    ∃ (k : Nat) (j : Nat) (l : Bool) (ov : Value) (pre : List Tok), Rl wr w.heap.size s j l k ov pre ∧ lexAll s = .bad k)

theorem lxJ_start {w W : World} {s : Bs} {ov : Value} (g : Below w.heap.size w W) (h : Rl W w.heap.size s 0 false (-1) ov []) : LxJ w s (2 * s.length) W :=
  ⟨g, .inl ⟨0, false, ov, [], 2 * s.length + 1, h, InvF.start s, by simp, LexR.pre_nil _, by simp, by simp⟩⟩

theorem lxJ_step {w wr w' : World} {s : Bs} {i n m : Nat} {l : Bool} {pre : List Tok} {e : Ending} (g : Below w.heap.size w wr) (hi : i < s.length) (hI : InvF s i l) (hp : pre.length + 2 * (s.length - i) + l.toNat ≤ 2 * s.length)
    (hL : (lexM s n i l).pre pre = lexAll s) (hn : 2 * (s.length - i) + l.toNat < n) (hm : 2 * (s.length - i) + l.toNat ≤ m + 1) (h : RTok wr w.heap.size s (lexStep s i l) pre e w') : LxJ w s m w' := by
  obtain ⟨_, hB, hr⟩ := h
  have hI2 := invF_step hI
  have hgo := lexStep_goes s l (Nat.le_of_lt hi)
  obtain ⟨n, rfl⟩ : ∃ k, n = k + 1 := ⟨n - 1, by omega⟩
  rw [lexM] at hL
  refine ⟨g.trans hB, ?_⟩
  cases hs : lexStep s i l with
  | tok t j l' =>
    rw [hs] at hr hL hI2 hgo
    obtain ⟨ov, hR⟩ := hr
    simp only [LexR.pre_cons] at hL
    obtain ⟨g1, g2, g3⟩ := hgo
    exact .inl ⟨j, l', ov, pre ++ [t], n, hR, hI2, by simp; omega, hL, by omega, by omega⟩
  | again j l' =>
    rw [hs] at hr hL hI2 hgo
    obtain ⟨ov, hR⟩ := hr
    obtain ⟨g1, g2, g3⟩ := hgo
    exact .inl ⟨j, l', ov, pre, n, hR, hI2, by omega, hL, by omega, by omega⟩
  | bad k =>
    rw [hs] at hr hL
    obtain ⟨j, l', ov, pre', hR⟩ := hr
    exact .inr ⟨k, j, l', ov, pre', hR, hL.symm⟩
  | stop => rw [hs] at hr; exact hr.elim

theorem lexM_end {s : Bs} {i n : Nat} {l : Bool} (hi : s.length ≤ i) (hn : l.toNat < n) : lexM s n i l = .ok (if l then [⟨5, i, []⟩] else []) := by
  obtain ⟨n, rfl⟩ : ∃ k, n = k + 1 := ⟨n - 1, by omega⟩
  rw [lexM, step_end hi]
  cases l with
  | false => rfl
  | true =>
    simp only [Bool.toNat_true] at hn
    obtain ⟨n, rfl⟩ : ∃ k, n = k + 1 := ⟨n - 1, by omega⟩
    simp only [if_true]
    rw [lexM, step_end hi]
    rfl

set_option maxRecDepth 20000 in
set_option maxHeartbeats 4000000 in
theorem rLex_any (w : World) (s : Bs) : Calls Tryz.prog 59 #[str s] w (LexPost w s) := by
  by_cases hl : 4000 < s.length
  · have HP := Lib.hid hl
    have hl1 : decide ((4000 : Int) < s.length) = true := by simp; omega
    go_enter Tryz.func59, Tryz.ntmps59
    go_wp2
    exact bodyPost_ret (v := .tuple #[.slice none 0 0, .int .i64 0, .int .i64 3]) (by simp [results, Tryz.results59, go_sem]) rfl ⟨gb_refl _ _, by rw [if_pos HP.out]⟩
  · have HP := Lib.hid hl
    have hl1 : decide ((4000 : Int) < s.length) = false := by simp; omega
    have hs4 : s.length ≤ 4000 := by omega
    have h0 := Blk.new w [str s, .int .i64 0, .bool false, .int .i64 (-1), .slice none 0 0] 122
    have hR : Rl (w.alloc (.cells [str s, .int .i64 0, .bool false, .int .i64 (-1), .slice none 0 0].toArray 122 (0, 0))) w.heap.size s 0 false (-1) (.slice none 0 0) [] :=
      ⟨h0, World.ownsRow_nil _ _ _ _, Nat.zero_le _, hs4⟩
    have HJ := Lib.hid (lxJ_start (gb_below (World.grownBy_alloc w _ none)) hR)
    clear h0 hR hl
    go_enter Tryz.func59, Tryz.ntmps59
    go_wp2_with fail
    go_loopg [] (2 * s.length) (fun g wr => LxJ w s g wr)
    case atStart => exact HJ.out
    case round =>
      obtain ⟨hB, ⟨i, l, ov, pre, n, hr, hI, hp, hL, hn, hm⟩ | ⟨k, j, l, ov, pre, hr, hL⟩⟩ := hrel
      · have c1 := hr.c1
        have c3 := hr.c3
        by_cases hi : i < s.length
        · have hj1 : decide (i < s.length) = true := by simpa using hi
          obtain ⟨gk, rfl⟩ : ∃ g', gk = g' + 1 := ⟨gk - 1, by omega⟩
          have HX := Lib.hid (And.intro hB (And.intro hI (And.intro hp (And.intro hL (And.intro hn hm)))))
          have HS := Lib.hid (rStep_any hr hi hI (by omega))
          clear hB hI hp hL hn hm hr HJ
          go_wp2_with fail
          refine HS.out.mono ?_
          rintro e w1 h1
          obtain ⟨rfl, _⟩ := id h1
          have H1 := Lib.hid h1
          clear h1
          go_wp2
          go_roundg gk
          case measure => omega
          case rel => exact lxJ_step HX.out.1 hi HX.out.2.1 HX.out.2.2.1 HX.out.2.2.2.1 HX.out.2.2.2.2.1 HX.out.2.2.2.2.2 H1.out
        · have hj1 : decide (i < s.length) = false := by simpa using hi
          have hA := lexM_end (s := s) (i := i) (l := l) (n := n) (by omega) (by omega)
          rw [hA] at hL
          have hLa : lexAll s = .ok (if l then pre ++ [⟨5, i, []⟩] else pre) := by
            rw [← hL]
            cases l <;> simp [LexR.pre]
          have HE := Lib.hid (ends_any hr (by omega))
          have HB := Lib.hid hB
          have HL := Lib.hid hLa
          have hlen : (if l then pre ++ [(⟨5, i, []⟩ : Tok)] else pre).length ≤ 100000 := by split <;> (try simp) <;> omega
          clear hB hI hp hL hn hm hr HJ hA hLa
          generalize (if l then pre ++ [(⟨5, i, []⟩ : Tok)] else pre) = T at *
          go_wp2_with fail
          refine HE.out.mono ?_
          rintro e w1 ⟨rfl, hB1, ov1, h1⟩
          have hT := trow_of_owns h1.row
          obtain ⟨a, cap, rfl, _⟩ := id hT
          have d4 := h1.c4
          have hb1 := h1.lt
          have HT := Lib.hid (hT.mono (ok' := since w.heap.size) fun k hk _ => by simp at hk ⊢; omega)
          have HG := Lib.hid (gb_of_below (HB.out.trans hB1))
          clear hT h1 hB1
          by_cases hm : 1200 < T.length
          · have HM := Lib.hid hm
            have hm1 : decide ((1200 : Int) < T.length) = true := by simp; omega
            clear hm
            go_wp2
            exact bodyPost_ret (v := .tuple #[.slice none 0 0, .int .i64 0, .int .i64 3]) (by simp [results, Tryz.results59, go_sem]) rfl ⟨HG.out, by rw [if_neg HP.out, HL.out]; show ite _ _ _; rw [if_pos HM.out]⟩
          · have HM := Lib.hid hm
            have hm1 : decide ((1200 : Int) < T.length) = false := by simp; omega
            clear hm
            go_wp2
            go_quiet (fail)
            go_wp2
            refine bodyPost_ret (v := .tuple #[.slice a T.length cap, .int .i64 T.length, .int .i64 0]) (by simp [results, Tryz.results59, go_sem]) rfl ⟨gb_drewN HG.out _, ?_⟩
            rw [if_neg HP.out, HL.out]
            show ite _ _ _
            rw [if_neg HM.out]
            exact ⟨_, rfl, HT.out.gb (gb_drewN (gb_refl _ none) _) (by simp)⟩
      · have c1 := hr.c1
        have c3 := hr.c3
        have hlt := hr.lt
        have HG := Lib.hid (gb_of_below hB)
        have HL := Lib.hid hL
        have hk0 : decide ((0 : Int) ≤ k) = true := by simp
        have hk1 : decide ((k : Int) < 0) = false := by simp
        clear hr hB hL HJ
        by_cases hj : j < s.length
        · have hj1 : decide (j < s.length) = true := by simpa using hj
          go_wp2
          go_quiet (fail)
          go_wp2
          exact bodyPost_ret (v := .tuple #[.slice none 0 0, .int .i64 k, .int .i64 2]) (by simp [results, Tryz.results59, go_sem]) rfl ⟨gb_drewN HG.out _, by rw [if_neg HP.out, HL.out]⟩
        · have hj1 : decide (j < s.length) = false := by simpa using hj
          go_wp2
          go_quiet (fail)
          go_wp2
          exact bodyPost_ret (v := .tuple #[.slice none 0 0, .int .i64 k, .int .i64 2]) (by simp [results, Tryz.results59, go_sem]) rfl ⟨gb_drewN HG.out _, by rw [if_neg HP.out, HL.out]⟩

end Go.Proofs.YtmcajbhljbbglaaGreatDoor
