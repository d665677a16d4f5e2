/-
  The lexer: a token that is a text, a date or a sign; any token.
  The lexer: the next token.
  The lexer: the iterator over the tokens.
-/
import Derived.Test.YtmcajbhljbbglaaGreatDoorSs12
import Derived.RangeFuncNested
import Derived.RangeFuncBound
import Derived.RangeFuncCalls
import Derived.RangeFuncLeaves
import Derived.RangeFuncBox
import Derived.Shelf.Abstract
import Derived.OwnWalkIn
import Derived.TacticsInMore
import Derived.LoopNIn
import Derived.LoopIn
import Derived.Maps.AppendAt
set_option linter.all false
set_option linter.unusedVariables false
set_option linter.unusedSimpArgs false
set_option linter.unnecessarySimpa false
set_option linter.constructorNameAsVariable false
set_option linter.deprecated false

namespace Go.Proofs.YtmcajbhljbbglaaGreatDoor
open Go.RowKit

/-- what is known behind a token's reading -/
def TokFin (b : Nat) (s : Bs) (r : St) (t : Tok) (ok : Bool) (w : World) : Prop := match r with
  | .tok t' j l => t = t' ∧ ok = true ∧ Sc w b s j l l (-1)
  | .bad k => ok = false ∧ ∃ j l, Sc w b s j l l k
  | _ => False
theorem TokPost.fin {w w' : World} {b : Nat} {s : Bs} {r : St} {e : Ending} (h : TokPost w b s r e w') : w.grownBy w' (some b) ∧ ∃ t ok, e = .returned (.tuple #[tokV t, .bool ok]) ∧ TokFin b s r t ok w' := by
  obtain ⟨g, h⟩ := h
  refine ⟨g, ?_⟩
  cases r with
  | tok t j l => exact ⟨t, true, h.1, rfl, rfl, h.2⟩
  | bad k => obtain ⟨⟨t, e⟩, hs⟩ := h; exact ⟨t, false, e, rfl, hs⟩
  | again j l => exact h.elim
  | stop => exact h.elim
theorem TokFin.post {w w' : World} {b : Nat} {s : Bs} {r : St} {t : Tok} {ok : Bool} (h : TokFin b s r t ok w') (g : w.grownBy w' (some b)) : TokPost w b s r (.returned (.tuple #[tokV t, .bool ok])) w' := by
  refine ⟨g, ?_⟩
  cases r with
  | tok t' j l => obtain ⟨rfl, rfl, hs⟩ := h; exact ⟨rfl, hs⟩
  | bad k => obtain ⟨rfl, hs⟩ := h; exact ⟨⟨t, rfl⟩, hs⟩
  | again j l => exact h.elim
  | stop => exact h.elim
theorem TokFin.set_other {w : World} {b : Nat} {s : Bs} {r : St} {t : Tok} {ok : Bool} (h : TokFin b s r t ok w) (a : Addr) (v : Value) (hne : b ≠ a.block) : TokFin b s r t ok (w.setCell a v) := by
  cases r with
  | tok t' j l => obtain ⟨h1, h2, hs⟩ := h; exact ⟨h1, h2, hs.set_other a v hne⟩
  | bad k => obtain ⟨h1, j, l, hs⟩ := h; exact ⟨h1, j, l, hs.set_other a v hne⟩
  | again j l => exact h.elim
  | stop => exact h.elim

theorem u8_eq {a : UInt8} {n : Nat} {r : Bool} (hn : n < 256) (h : (a == UInt8.ofNat n) = r) : ((a.toNat : Int) == (n : Int)) = r := by
  subst h
  rw [Bool.eq_iff_iff]
  simp only [beq_iff_eq]
  constructor
  · intro h
    have h1 : a.toNat = n := by omega
    apply UInt8.toNat_inj.1
    rw [h1]
    simp [UInt8.toNat_ofNat', Nat.mod_eq_of_lt hn]
  · rintro rfl
    simp [UInt8.toNat_ofNat', Nat.mod_eq_of_lt hn]

set_option maxRecDepth 40000 in
set_option maxHeartbeats 4000000 in
theorem token_rest {w : World} {b : Nat} {s : Bs} {i : Nat} (h : Sc w b s i true true (-1)) (ht : Tabs b w) (hi : i < s.length) (hn1 : cls 1 (bAt s i) = false) (hn2 : cls 2 (bAt s i) = false) (h10 : bAt s i ≠ 10) :
    Calls Tryz.prog 114 #[.pointer (some ⟨b, 0, none⟩)] w (TokPost w b s (tokenM s i)) := by
  have hb := h.lt
  have hf := h.few
  have c1 := h.c1
  have g0 : w.grownBy ((w.alloc (.cells #[.int .i64 0, .int .i64 0, str []] 89 (0, 0))).alloc (.cells #[.int .i64 0, .int .i64 i, str []] 89 (0, 0))) none := gb_alloc (World.grownBy_alloc w _ none) _
  have hA : TkRel w b s i i ((w.alloc (.cells #[.int .i64 0, .int .i64 0, str []] 89 (0, 0))).alloc (.cells #[.int .i64 0, .int .i64 i, str []] 89 (0, 0))) :=
    ⟨h.gbN g0, (Blk.new _ [.int .i64 0, .int .i64 i, str []] _).of_eq (by simp) rfl, (Blk.new _ [.int .i64 0, .int .i64 0, str []] _).alloc _, gb_none g0, ht.gbN g0⟩
  clear h ht g0
  have HC := Lib.hid (And.intro hn1 hn2)
  have HB := Lib.hid h10
  clear hn1 hn2 h10
  go_enter Tryz.func114, Tryz.ntmps114
  go_wp2_with fail
  refine (is_cls hA.sc i 1 (r := false) (by simp [HC.out.1])).mono ?_
  rintro e w1 ⟨rfl, g1⟩
  have hA1 := hA.gbN g1
  clear hA g1
  go_wp2_with fail
  refine (is_cls hA1.sc i 2 (r := false) (by simp [HC.out.2])).mono ?_
  rintro e w2 ⟨rfl, g1⟩
  have hA2 := hA1.gbN g1
  clear hA1 g1 c1
  have c0 := hA2.sc.c0
  have c1 := hA2.sc.c1
  have hg := fun h => ba_at s i h hi
  have gs := hA2.g.size
  have hbl := hA2.sc.lt
  have t0 := hA2.tok.cell 0
  have t1 := hA2.tok.cell 1
  have t2 := hA2.tok.cell 2
  simp only [List.getElem?_cons_zero, List.getElem?_cons_succ] at t0 t1 t2
  cases hq : (bAt s i == 34 || bAt s i == 39) with
  | true =>
    have HT := Lib.hid (show tokenM s i = quoteM s i from (if_neg (by rw [HC.out.1]; simp)).trans ((if_neg (by rw [HC.out.2]; simp)).trans (if_pos (by simpa using hq))))
    have hX := text_tok hA2.sc hi HB.out
    have HX := Lib.hid hX
    clear hX
    cases h34 : bAt s i == 34 with
    | true =>
      have e34 := u8_eq (n := 34) (by decide) h34
      clear hq h34
      simp only [Int.cast_ofNat_Int] at e34
      generalize bAt s i = q at *
      go_wp2_with fail
      refine HX.out.mono ?_
      intro e w3 hp
      obtain ⟨g3, t, ok, rfl, hF⟩ := hp.fin
      have hr3 := hA2.res.gb g3 (by simp; omega)
      have r0 := hr3.cell 0
      have r1 := hr3.cell 1
      have r2 := hr3.cell 2
      have rf := fun k => hr3.frozen k
      have rl := hr3.lt
      simp only [List.getElem?_cons_zero, List.getElem?_cons_succ] at r0 r1 r2
      go_wp2
      refine bodyPost_ret (results_tok (t := t) (r := ok) rfl _ (hr3.set3 _ _ _) rfl rfl) rfl ?_
      rw [HT.out]
      have g := gb_trans hA2.g g3
      exact (((hF.set_other _ _ (by simp; omega)).set_other _ _ (by simp; omega)).set_other _ _ (by simp; omega)).post (by repeat (first | (with_reducible exact gb_refl _ _) | (with_reducible assumption) | (with_reducible exact gb_none (by assumption)) | (with_reducible refine gb_alloc ?_ _) | (with_reducible refine gb_drew ?_) | (with_reducible refine gb_drewN ?_ _) | ((with_reducible refine gb_set ?_ _ _ ?h2); case h2 => first | exact .inl rfl | exact .inr (Nat.le_refl _) | exact .inr (by simp <;> omega)) | (with_reducible refine gb_sub ?_ (by assumption)) | (with_reducible refine gb_trans ?_ (by assumption))))
    | false =>
      have e34 := u8_eq (n := 34) (by decide) h34
      have e39 := u8_eq (n := 39) (r := true) (by decide) (by simpa [h34] using hq)
      clear hq h34
      simp only [Int.cast_ofNat_Int] at e34 e39
      generalize bAt s i = q at *
      go_wp2_with fail
      refine HX.out.mono ?_
      intro e w3 hp
      obtain ⟨g3, t, ok, rfl, hF⟩ := hp.fin
      have hr3 := hA2.res.gb g3 (by simp; omega)
      have r0 := hr3.cell 0
      have r1 := hr3.cell 1
      have r2 := hr3.cell 2
      have rf := fun k => hr3.frozen k
      have rl := hr3.lt
      simp only [List.getElem?_cons_zero, List.getElem?_cons_succ] at r0 r1 r2
      go_wp2
      refine bodyPost_ret (results_tok (t := t) (r := ok) rfl _ (hr3.set3 _ _ _) rfl rfl) rfl ?_
      rw [HT.out]
      have g := gb_trans hA2.g g3
      exact (((hF.set_other _ _ (by simp; omega)).set_other _ _ (by simp; omega)).set_other _ _ (by simp; omega)).post (by repeat (first | (with_reducible exact gb_refl _ _) | (with_reducible assumption) | (with_reducible exact gb_none (by assumption)) | (with_reducible refine gb_alloc ?_ _) | (with_reducible refine gb_drew ?_) | (with_reducible refine gb_drewN ?_ _) | ((with_reducible refine gb_set ?_ _ _ ?h2); case h2 => first | exact .inl rfl | exact .inr (Nat.le_refl _) | exact .inr (by simp <;> omega)) | (with_reducible refine gb_sub ?_ (by assumption)) | (with_reducible refine gb_trans ?_ (by assumption))))
  | false =>
    have h34 : (bAt s i == 34) = false ∧ (bAt s i == 39) = false := by simpa using hq
    have HT0 := Lib.hid (show tokenM s i = (match dateM (s.drop i) with | some (d, n) => St.tok ⟨3, i, d⟩ (i + n) true | none => signSt s i) from (if_neg (by rw [HC.out.1]; simp)).trans ((if_neg (by rw [HC.out.2]; simp)).trans (if_neg (by simpa using h34))))
    have e34 := u8_eq (n := 34) (by decide) h34.1
    have e39 := u8_eq (n := 39) (by decide) h34.2
    have hX := date_any hA2.sc
    have HX0 := Lib.hid hX
    clear hq h34 hX
    simp only [Int.cast_ofNat_Int] at e34 e39
    generalize bAt s i = q at *
    go_wp2_with fail
    refine HX0.out.mono ?_
    rintro e w4 ⟨g4, hp⟩
    have hA4 := hA2.gbN g4
    have gs4 := hA4.g.size
    have hb4 := hA4.sc.lt
    cases hd : dateM (s.drop i) with
    | some p =>
      obtain ⟨d, n⟩ := p
      have hlen := dateM_len hd
      simp only [List.length_drop] at hlen
      rw [hd] at hp HT0
      have HT := Lib.hid HT0.out
      subst hp
      clear hd HT0
      have q1 := hA4.sc.c1
      have f1 := hA4.sc.fr 1
      have r0 := hA4.res.cell 0
      have r1 := hA4.res.cell 1
      have r2 := hA4.res.cell 2
      have rf := fun k => hA4.res.frozen k
      have rl := hA4.res.lt
      simp only [List.getElem?_cons_zero, List.getElem?_cons_succ] at r0 r1 r2
      go_wp2
      refine bodyPost_ret (results_tok (t := ⟨3, i, d⟩) (r := true) rfl _ ((hA4.res.set_other _ _ (by simp; omega)).set3 _ _ _) rfl rfl) rfl ⟨?_, ?_⟩
      · have g := hA4.g
        exact (by repeat (first | (with_reducible exact gb_refl _ _) | (with_reducible assumption) | (with_reducible exact gb_none (by assumption)) | (with_reducible refine gb_alloc ?_ _) | (with_reducible refine gb_drew ?_) | (with_reducible refine gb_drewN ?_ _) | ((with_reducible refine gb_set ?_ _ _ ?h2); case h2 => first | exact .inl rfl | exact .inr (Nat.le_refl _) | exact .inr (by simp <;> omega)) | (with_reducible refine gb_sub ?_ (by assumption)) | (with_reducible refine gb_trans ?_ (by assumption))))
      · rw [HT.out]
        have hs4 := hA4.sc
        exact ⟨rfl, (by repeat (first | (with_reducible assumption) | (with_reducible apply Sc.alloc) | (with_reducible apply Sc.drew) | (with_reducible apply Sc.drewN) | (with_reducible apply Sc.setLine) | (with_reducible apply Sc.setBegun) | (with_reducible apply Sc.setBad) | (with_reducible apply Sc.go) | (with_reducible apply Sc.set_other) | omega | (simp <;> omega)))⟩
    | none =>
      rw [hd] at hp HT0
      have HT := Lib.hid HT0.out
      obtain ⟨d, n, rfl⟩ := hp
      clear hd HT0
      have hX := sign_tok hA4.sc hA4.tabs
      have HX := Lib.hid hX
      clear hX
      have u0 := hA4.tok.cell 0
      have u1 := hA4.tok.cell 1
      have u2 := hA4.tok.cell 2
      simp only [List.getElem?_cons_zero, List.getElem?_cons_succ] at u0 u1 u2
      go_wp2_with fail
      refine HX.out.mono ?_
      intro e w3 hp
      obtain ⟨g3, t, ok, rfl, hF⟩ := hp.fin
      have hr3 := hA4.res.gb g3 (by simp; omega)
      have r0 := hr3.cell 0
      have r1 := hr3.cell 1
      have r2 := hr3.cell 2
      have rf := fun k => hr3.frozen k
      have rl := hr3.lt
      simp only [List.getElem?_cons_zero, List.getElem?_cons_succ] at r0 r1 r2
      go_wp2
      refine bodyPost_ret (results_tok (t := t) (r := ok) rfl _ (hr3.set3 _ _ _) rfl rfl) rfl ?_
      rw [HT.out]
      have g := gb_trans hA4.g g3
      exact (((hF.set_other _ _ (by simp; omega)).set_other _ _ (by simp; omega)).set_other _ _ (by simp; omega)).post (by repeat (first | (with_reducible exact gb_refl _ _) | (with_reducible assumption) | (with_reducible exact gb_none (by assumption)) | (with_reducible refine gb_alloc ?_ _) | (with_reducible refine gb_drew ?_) | (with_reducible refine gb_drewN ?_ _) | ((with_reducible refine gb_set ?_ _ _ ?h2); case h2 => first | exact .inl rfl | exact .inr (Nat.le_refl _) | exact .inr (by simp <;> omega)) | (with_reducible refine gb_sub ?_ (by assumption)) | (with_reducible refine gb_trans ?_ (by assumption))))

/-- 'token': the token that stands here -/
theorem token_any {w : World} {b : Nat} {s : Bs} {i : Nat} (h : Sc w b s i true true (-1)) (ht : Tabs b w) (hi : i < s.length) (h10 : bAt s i ≠ 10) :
    Calls Tryz.prog 114 #[.pointer (some ⟨b, 0, none⟩)] w (TokPost w b s (tokenM s i)) := by
  cases h1 : cls 1 (bAt s i) with
  | true => exact token_word h ht hi h1
  | false =>
    cases h2 : cls 2 (bAt s i) with
    | true => exact token_num h ht hi h1 h2
    | false => exact token_rest h ht hi h1 h2 h10

end Go.Proofs.YtmcajbhljbbglaaGreatDoor

namespace Go.Proofs.YtmcajbhljbbglaaGreatDoor
open Go.RowKit

theorem Sc.drew {w : World} {b : Nat} {s : Bs} {i : Nat} {line begun : Bool} {bad : Int} (h : Sc w b s i line begun bad) : Sc w.drew b s i line begun bad := h.drewN 1

theorem skip_next (s : Bs) (l : Bool) (R : NR) (hR : R ≠ .out) : ∀ (d k m : Nat), s.length - k = d → k ≤ s.length → nextM s m k l = R → ∃ m', 1 ≤ m' ∧ m' ≤ m ∧ nextM s m' (skipM s k) l = R := by
  intro d
  induction d with
  | zero =>
    intro k m hd hk h
    rw [show skipM s k = k from runM_end (by omega)]
    cases m with
    | zero => exact absurd h.symm hR
    | succ m => exact ⟨m + 1, by omega, Nat.le_refl _, h⟩
  | succ d ih =>
    intro k m hd hk h
    have hkl : k < s.length := by omega
    cases m with
    | zero => exact absurd h.symm hR
    | succ m =>
      cases hb : cls 3 (bAt s k) with
      | false =>
        rw [show skipM s k = k from runM_stop hkl hb]
        exact ⟨m + 1, by omega, Nat.le_refl _, h⟩
      | true =>
        rw [show skipM s k = skipM s (k + 1) from runM_step hkl hb]
        have h10 : bAt s k ≠ 10 := by intro e; rw [e] at hb; revert hb; decide
        have hs : lexStep s k l = .again (k + 1) l := by
          unfold lexStep
          rw [if_neg (by omega), if_neg h10, if_pos hb]
        rw [nextM, hs] at h
        obtain ⟨m', h1, h2, h3⟩ := ih (k + 1) m (by omega) (by omega) h
        exact ⟨m', h1, by omega, h3⟩

theorem prefix_q (s : Bs) (k : Nat) (p : Bs) {r : Bool} (hr : p.isPrefixOf (s.drop k) = r) (w : World) :
    Calls Tryz.prog 111 #[.string ((⟨s.toArray⟩ : ByteArray).extract k s.length), .string ⟨p.toArray⟩] w fun e w' => e = .returned (.bool r) ∧ w' = w := (prefix_any s k p hr w).mono fun _ _ h => ⟨h.1, h.2.symm⟩

/-! ### one step, by its cases -/
section
variable {s : Bs} {j : Nat} {l : Bool}
theorem step_end (h : s.length ≤ j) : lexStep s j l = if l then .tok ⟨5, j, []⟩ j false else .stop := if_pos h
theorem step_nl (h : j < s.length) (h10 : bAt s j = 10) : lexStep s j l = if l then .tok ⟨5, j, []⟩ (j + 1) false else .again (j + 1) false := (if_neg (by omega)).trans (if_pos h10)
theorem step_com (h : j < s.length) (h10 : bAt s j ≠ 10) (hb : cls 3 (bAt s j) = false) (hc : ((bAt s j == 42 && !l) || ampAt s j) = true) : lexStep s j l = match commentM s j with
    | some k => .bad k
    | none => .again (lineEndM s j) l := (if_neg (by omega)).trans ((if_neg h10).trans ((if_neg (by rw [hb]; simp)).trans (if_pos hc)))
theorem step_semi (h : j < s.length) (h10 : bAt s j ≠ 10) (hb : cls 3 (bAt s j) = false) (hc : ((bAt s j == 42 && !l) || ampAt s j) = false) (h59 : bAt s j = 59) : lexStep s j l = if goesOn s (skipM s (j + 1)) then
      match commentM s (skipM s (j + 1)) with
      | some k => .bad k
      | none => .again (nextLine s (skipM s (j + 1))) l
    else .bad j := (if_neg (by omega)).trans ((if_neg h10).trans ((if_neg (by rw [hb]; simp)).trans ((if_neg (by rw [hc]; simp)).trans (if_pos h59))))
theorem step_tok (h : j < s.length) (h10 : bAt s j ≠ 10) (hb : cls 3 (bAt s j) = false) (hc : ((bAt s j == 42 && !l) || ampAt s j) = false) (h59 : bAt s j ≠ 59) : lexStep s j l = tokenM s j := (if_neg (by omega)).trans ((if_neg h10).trans ((if_neg (by rw [hb]; simp)).trans ((if_neg (by rw [hc]; simp)).trans (if_neg h59))))
end

theorem lexEnd_yes {w : World} {b : Nat} {s : Bs} {i : Nat} {bad : Int} (h : Sc w b s i true true bad) {j : Nat} (hj : j = if i < s.length then i + 1 else i) :
    Calls Tryz.prog 110 #[.pointer (some ⟨b, 0, none⟩)] w fun e w' => e = .returned (.tuple #[tokV ⟨5, i, []⟩, .bool true]) ∧ w.grownBy w' (some b) ∧ Sc w' b s j false false bad := by
  subst hj
  refine (lexEnd_any h).mono ?_
  rintro e w' ⟨g, hs, he⟩
  exact ⟨by rw [he]; simp, g, hs⟩
theorem lexEnd_no {w : World} {b : Nat} {s : Bs} {i : Nat} {bad : Int} (h : Sc w b s i false false bad) {j : Nat} (hj : j = if i < s.length then i + 1 else i) {r : Bool} (hr : (!decide (i < s.length)) = r) :
    Calls Tryz.prog 110 #[.pointer (some ⟨b, 0, none⟩)] w fun e w' => e = .returned (.tuple #[tok0, .bool r]) ∧ w.grownBy w' (some b) ∧ Sc w' b s j false false bad := by
  subst hj hr
  refine (lexEnd_any h).mono ?_
  rintro e w' ⟨g, hs, he⟩
  exact ⟨by rw [he]; simp, g, hs⟩

/-- how 'next' ends -/
def NextPost (w : World) (b : Nat) (s : Bs) (r : NR) (e : Ending) (w' : World) : Prop :=
  w.grownBy w' (some b) ∧ match r with
    | .tok t j l _ => e = .returned (.tuple #[tokV t, .bool true]) ∧ Sc w' b s j l l (-1)
    | .stop => (∃ t, e = .returned (.tuple #[tokV t, .bool false])) ∧ ∃ j l, Sc w' b s j l l (-1)
    | .bad k => (∃ t, e = .returned (.tuple #[tokV t, .bool false])) ∧ ∃ j l, Sc w' b s j l l k
    | .out => False

theorem fin_next {w w' : World} {b : Nat} {s : Bs} {m j : Nat} {l : Bool} {R : NR} {t : Tok} {ok : Bool} (hF : TokFin b s (tokenM s j) t ok w') (hS : lexStep s j l = tokenM s j) (hM : nextM s (m + 1) j l = R) (g : w.grownBy w' (some b)) :
    NextPost w b s R (.returned (.tuple #[tokV t, .bool ok])) w' := by
  subst hM
  refine ⟨g, ?_⟩
  rw [nextM, hS]
  cases ht : tokenM s j with
  | tok t' j' l' => rw [ht] at hF; obtain ⟨rfl, rfl, hs⟩ := hF; exact ⟨rfl, hs⟩
  | bad k => rw [ht] at hF; obtain ⟨rfl, hs⟩ := hF; exact ⟨⟨t, rfl⟩, hs⟩
  | again j' l' => rw [ht] at hF; exact hF.elim
  | stop => rw [ht] at hF; exact hF.elim

/-- the loop of 'next' -/
structure NxRel (w : World) (b : Nat) (s : Bs) (k : Nat) (l : Bool) (wr : World) : Prop where
  sc : Sc wr b s k l l (-1)
  res : Blk wr w.heap.size [.int .i64 0, .int .i64 0, str []] 89
  g : w.grownBy wr (some b)
  tabs : Tabs b wr

set_option maxRecDepth 40000 in
set_option maxHeartbeats 4000000 in
theorem next_any {w : World} {b : Nat} {s : Bs} {i n : Nat} {line : Bool} (h : Sc w b s i line line (-1)) (ht : Tabs b w) (hn : nextM s n i line ≠ .out) :
    Calls Tryz.prog 84 #[.pointer (some ⟨b, 0, none⟩)] w (NextPost w b s (nextM s n i line)) := by
  have hb := h.lt
  generalize hR : nextM s n i line = R at *
  have hA : NxRel w b s i line (w.alloc (.cells #[.int .i64 0, .int .i64 0, str []] 89 (0, 0))) :=
    ⟨h.alloc _, Blk.new _ [.int .i64 0, .int .i64 0, str []] _, World.grownBy_alloc w _ _, ht.gbN (World.grownBy_alloc w _ none)⟩
  have HR := Lib.hid (And.intro hR hn)
  clear h ht hR hn
  go_enter Tryz.func84, Tryz.ntmps84
  go_wp2_with fail
  go_loopg [] n (fun g wr => ∃ k l, nextM s g k l = R ∧ NxRel w b s k l wr)
  case atStart => exact ⟨i, line, HR.out.1, hA⟩
  case round =>
    obtain ⟨k, l, hk, hr⟩ := hrel
    clear hA
    have hN := skip_next s l R HR.out.2 _ k gk rfl hr.sc.le hk
    have HN := Lib.hid hN
    clear hk hN
    have hb1 := hr.sc.lt
    have gs := hr.g.size
    go_wp2_with fail
    refine (skip_any hr.sc).mono ?_
    rintro e w1 ⟨rfl, hs1, g1⟩
    have hq : NxRel w b s (skipM s k) l w1 := ⟨hs1, hr.res.gb g1 (by simp; omega), gb_trans hr.g g1, hr.tabs.gb g1 (by simp)⟩
    have hbl : skipM s k < s.length → cls 3 (bAt s (skipM s k)) = false := fun h => runM_at h
    obtain ⟨m, hm1, hm2, hm3⟩ := HN.out
    have HM := Lib.hid hm3
    clear HN hs1 hr hm3 hb1 gs
    generalize skipM s k = j at *
    have hb1 := hq.sc.lt
    have gs := hq.g.size
    have hf := hq.sc.few
    have hjl := hq.sc.le
    have c0 := hq.sc.c0
    have c1 := hq.sc.c1
    have c258 := hq.sc.c258
    have c259 := hq.sc.c259
    have r0 := hq.res.cell 0
    have r1 := hq.res.cell 1
    have r2 := hq.res.cell 2
    have rf := fun k => hq.res.frozen k
    have rl := hq.res.lt
    simp only [List.getElem?_cons_zero, List.getElem?_cons_succ] at r0 r1 r2
    obtain ⟨m, rfl⟩ : ∃ q, m = q + 1 := ⟨m - 1, by omega⟩
    by_cases hj : j < s.length
    · have hj1 : ((j : Int) == (s.length : Int)) = false := by simp; omega
      have hg := fun h => ba_at s j h hj
      have hb3 := hbl hj
      by_cases h10 : bAt s j = 10
      · have hS := step_nl (l := l) hj h10
        have e10 : ((bAt s j).toNat : Int) == 10 := by rw [h10]; rfl
        cases l with
        | true =>
          have HQ := Lib.hid (show R = .tok ⟨5, j, []⟩ (j + 1) false m by rw [← HM.out, nextM, hS]; rfl)
          have HE := Lib.hid (fun (W : World) (g : w1.grownBy W none) => lexEnd_yes (hq.sc.gbN g) (j := j + 1) (by rw [if_pos hj]))
          clear hS h10 hbl hb3
          generalize bAt s j = q at *
          go_wp2_with fail
          go_quiet (fail)
          go_wp2_with fail
          refine (HE.out _ (by repeat (first | (with_reducible exact gb_refl _ _) | (with_reducible assumption) | (with_reducible exact gb_none (by assumption)) | (with_reducible refine gb_alloc ?_ _) | (with_reducible refine gb_drew ?_) | (with_reducible refine gb_drewN ?_ _) | ((with_reducible refine gb_set ?_ _ _ ?h2); case h2 => first | exact .inl rfl | exact .inr (Nat.le_refl _) | exact .inr (by simp <;> omega)) | (with_reducible refine gb_sub ?_ (by assumption)) | (with_reducible refine gb_trans ?_ (by assumption))))).mono ?_
          rintro e w2 ⟨rfl, g2, hs2⟩
          have hr2 := (hq.res.drewN nq).gb g2 (by simp; omega)
          have z0 := hr2.cell 0
          have z1 := hr2.cell 1
          have z2 := hr2.cell 2
          have zf := fun k => hr2.frozen k
          have zl := hr2.lt
          simp only [List.getElem?_cons_zero, List.getElem?_cons_succ] at z0 z1 z2
          go_wp2_with fail
          go_region
          go_wp2
          refine bodyPost_ret (results_tok (t := ⟨5, j, []⟩) (r := true) rfl _ (((hr2.set3 _ _ _).alloc _).drew) rfl rfl) rfl ⟨?_, ?_⟩
          · have g := gb_trans (gb_drewN hq.g nq) g2
            exact (by repeat (first | (with_reducible exact gb_refl _ _) | (with_reducible assumption) | (with_reducible exact gb_none (by assumption)) | (with_reducible refine gb_alloc ?_ _) | (with_reducible refine gb_drew ?_) | (with_reducible refine gb_drewN ?_ _) | ((with_reducible refine gb_set ?_ _ _ ?h2); case h2 => first | exact .inl rfl | exact .inr (Nat.le_refl _) | exact .inr (by simp <;> omega)) | (with_reducible refine gb_sub ?_ (by assumption)) | (with_reducible refine gb_trans ?_ (by assumption))))
          · rw [HQ.out]
            exact ⟨rfl, ((((hs2.set_other _ _ (by simp; omega)).set_other _ _ (by simp; omega)).set_other _ _ (by simp; omega)).alloc _).drew⟩
        | false =>
          have HQ := Lib.hid (show nextM s m (j + 1) false = R by rw [← HM.out, nextM, hS]; rfl)
          have HE := Lib.hid (fun (W : World) (g : w1.grownBy W none) => lexEnd_no (hq.sc.gbN g) (j := j + 1) (by rw [if_pos hj]) (r := false) (by simp [hj]))
          clear hS h10 hbl hb3
          generalize bAt s j = q at *
          go_wp2_with fail
          go_quiet (fail)
          go_wp2_with fail
          refine (HE.out _ (by repeat (first | (with_reducible exact gb_refl _ _) | (with_reducible assumption) | (with_reducible exact gb_none (by assumption)) | (with_reducible refine gb_alloc ?_ _) | (with_reducible refine gb_drew ?_) | (with_reducible refine gb_drewN ?_ _) | ((with_reducible refine gb_set ?_ _ _ ?h2); case h2 => first | exact .inl rfl | exact .inr (Nat.le_refl _) | exact .inr (by simp <;> omega)) | (with_reducible refine gb_sub ?_ (by assumption)) | (with_reducible refine gb_trans ?_ (by assumption))))).mono ?_
          rintro e w2 ⟨rfl, g2, hs2⟩
          have hr2 := (hq.res.drewN nq).gb g2 (by simp; omega)
          have gg := gb_trans (gb_drewN hq.g nq) g2
          have ht2 := hq.tabs.gb (gb_trans (gb_drewN (gb_refl _ (some b)) nq) g2) (by simp)
          go_wp2
          go_roundg m
          case measure => omega
          case rel => exact ⟨j + 1, false, HQ.out, hs2.alloc _, hr2.alloc _, gb_alloc gg _, ht2.gbN (World.grownBy_alloc _ _ _)⟩
      · have e10 : (((bAt s j).toNat : Int) == 10) = false := u8_eq (n := 10) (by decide) (by simpa using h10)
        by_cases hstar : bAt s j = 42 ∧ l = false
        · obtain ⟨h42, rfl⟩ := hstar
          have HS := Lib.hid (step_com (l := false) hj h10 hb3 (by simp [h42]))
          have e42 : (((bAt s j).toNat : Int) == 42) = true := u8_eq (n := 42) (by decide) (by simpa using h42)
          clear h10 hbl hb3 h42
          generalize bAt s j = q at *
          go_wp2_with fail
          go_quiet (fail)
          go_wp2_with fail
          go_quiet (fail)
          go_wp2_with fail
          refine (comment_any (hq.sc.gbN (by repeat (first | (with_reducible exact gb_refl _ _) | (with_reducible assumption) | (with_reducible exact gb_none (by assumption)) | (with_reducible refine gb_alloc ?_ _) | (with_reducible refine gb_drew ?_) | (with_reducible refine gb_drewN ?_ _) | ((with_reducible refine gb_set ?_ _ _ ?h2); case h2 => first | exact .inl rfl | exact .inr (Nat.le_refl _) | exact .inr (by simp <;> omega)) | (with_reducible refine gb_sub ?_ (by assumption)) | (with_reducible refine gb_trans ?_ (by assumption)))))).mono ?_
          intro e w2 hp
          obtain ⟨g2, hp⟩ := hp
          have g12 : w1.grownBy w2 (some b) := gb_trans (by repeat (first | (with_reducible exact gb_refl _ _) | (with_reducible assumption) | (with_reducible exact gb_none (by assumption)) | (with_reducible refine gb_alloc ?_ _) | (with_reducible refine gb_drew ?_) | (with_reducible refine gb_drewN ?_ _) | ((with_reducible refine gb_set ?_ _ _ ?h2); case h2 => first | exact .inl rfl | exact .inr (Nat.le_refl _) | exact .inr (by simp <;> omega)) | (with_reducible refine gb_sub ?_ (by assumption)) | (with_reducible refine gb_trans ?_ (by assumption)))) g2
          cases hcm : commentM s j with
          | some k =>
            have HQ := Lib.hid (show R = .bad k by rw [← HM.out, nextM, HS.out, hcm])
            rw [hcm] at hp
            clear hcm
            obtain ⟨rfl, j2, hs2⟩ := hp
            have hr2 := hq.res.gb g12 (by simp; omega)
            have z0 := hr2.cell 0
            have z1 := hr2.cell 1
            have z2 := hr2.cell 2
            have zf := fun k => hr2.frozen k
            have zl := hr2.lt
            simp only [List.getElem?_cons_zero, List.getElem?_cons_succ] at z0 z1 z2
            go_wp2
            refine bodyPost_ret (results_tok (t := ⟨0, 0, []⟩) (r := false) rfl _ (hr2.set3 _ _ _) rfl rfl) rfl ⟨?_, ?_⟩
            · have g := gb_trans hq.g g12
              exact (by repeat (first | (with_reducible exact gb_refl _ _) | (with_reducible assumption) | (with_reducible exact gb_none (by assumption)) | (with_reducible refine gb_alloc ?_ _) | (with_reducible refine gb_drew ?_) | (with_reducible refine gb_drewN ?_ _) | ((with_reducible refine gb_set ?_ _ _ ?h2); case h2 => first | exact .inl rfl | exact .inr (Nat.le_refl _) | exact .inr (by simp <;> omega)) | (with_reducible refine gb_sub ?_ (by assumption)) | (with_reducible refine gb_trans ?_ (by assumption))))
            · rw [HQ.out]
              exact ⟨⟨_, rfl⟩, j2, _, ((hs2.set_other _ _ (by simp; omega)).set_other _ _ (by simp; omega)).set_other _ _ (by simp; omega)⟩
          | none =>
            have HQ := Lib.hid (show nextM s m (lineEndM s j) false = R by rw [← HM.out, nextM, HS.out, hcm])
            rw [hcm] at hp
            clear hcm
            obtain ⟨rfl, hs2⟩ := hp
            have hr2 := hq.res.gb g12 (by simp; omega)
            have ht2 := hq.tabs.gb g12 (by simp)
            have gg := gb_trans hq.g g12
            go_wp2
            go_roundg m
            case measure => omega
            case rel => exact ⟨lineEndM s j, false, HQ.out, hs2, hr2, gg, ht2⟩
        · have hor : ((((bAt s j).toNat : Int) == 42) = false) ∨ ((((bAt s j).toNat : Int) == 42) = true ∧ l = true) := by
            cases h42 : bAt s j == 42 with
            | false => exact .inl (u8_eq (n := 42) (by decide) h42)
            | true => exact .inr ⟨u8_eq (n := 42) (by decide) h42, by cases l with
              | true => rfl
              | false => exact absurd ⟨by simpa using h42, rfl⟩ hstar⟩
          have hs42 : (bAt s j == 42 && !l) = false := by
            cases h42 : bAt s j == 42 with
            | false => rfl
            | true => cases l with
              | true => rfl
              | false => exact absurd ⟨by simpa using h42, rfl⟩ hstar
          have hleI : decide ((j : Int) ≤ s.length) = true := by simp; omega
          cases ha : ampAt s j with
          | true =>
            have HS := Lib.hid (step_com (l := l) hj h10 hb3 (by rw [ha]; simp))
            have HP := Lib.hid (prefix_q s j [38, 38] (r := true) ha)
            clear h10 hbl hb3 hstar hs42 ha
            generalize bAt s j = q at *
            rcases hor with e42 | ⟨e42, rfl⟩
            · go_wp2_with fail
              go_quiet (fail)
              go_wp2_with fail
              go_quiet (fail)
              go_wp2_with fail
              go_quiet ((go_at_call 111; refine (HP.out _).mono ?_; rintro e w9 ⟨rfl, rfl⟩; exact ⟨rfl, _, rfl⟩))
              go_wp2_with fail
              refine (comment_any (hq.sc.gbN (by repeat (first | (with_reducible exact gb_refl _ _) | (with_reducible assumption) | (with_reducible exact gb_none (by assumption)) | (with_reducible refine gb_alloc ?_ _) | (with_reducible refine gb_drew ?_) | (with_reducible refine gb_drewN ?_ _) | ((with_reducible refine gb_set ?_ _ _ ?h2); case h2 => first | exact .inl rfl | exact .inr (Nat.le_refl _) | exact .inr (by simp <;> omega)) | (with_reducible refine gb_sub ?_ (by assumption)) | (with_reducible refine gb_trans ?_ (by assumption)))))).mono ?_
              intro e w2 hp
              obtain ⟨g2, hp⟩ := hp
              have g12 : w1.grownBy w2 (some b) := gb_trans (by repeat (first | (with_reducible exact gb_refl _ _) | (with_reducible assumption) | (with_reducible exact gb_none (by assumption)) | (with_reducible refine gb_alloc ?_ _) | (with_reducible refine gb_drew ?_) | (with_reducible refine gb_drewN ?_ _) | ((with_reducible refine gb_set ?_ _ _ ?h2); case h2 => first | exact .inl rfl | exact .inr (Nat.le_refl _) | exact .inr (by simp <;> omega)) | (with_reducible refine gb_sub ?_ (by assumption)) | (with_reducible refine gb_trans ?_ (by assumption)))) g2
              cases hcm : commentM s j with
              | some k =>
                have HQ := Lib.hid (show R = .bad k by rw [← HM.out, nextM, HS.out, hcm])
                rw [hcm] at hp
                clear hcm
                obtain ⟨rfl, j2, hs2⟩ := hp
                have hr2 := hq.res.gb g12 (by simp; omega)
                have z0 := hr2.cell 0
                have z1 := hr2.cell 1
                have z2 := hr2.cell 2
                have zf := fun k => hr2.frozen k
                have zl := hr2.lt
                simp only [List.getElem?_cons_zero, List.getElem?_cons_succ] at z0 z1 z2
                go_wp2
                refine bodyPost_ret (results_tok (t := ⟨0, 0, []⟩) (r := false) rfl _ (hr2.set3 _ _ _) rfl rfl) rfl ⟨?_, ?_⟩
                · have g := gb_trans hq.g g12
                  exact (by repeat (first | (with_reducible exact gb_refl _ _) | (with_reducible assumption) | (with_reducible exact gb_none (by assumption)) | (with_reducible refine gb_alloc ?_ _) | (with_reducible refine gb_drew ?_) | (with_reducible refine gb_drewN ?_ _) | ((with_reducible refine gb_set ?_ _ _ ?h2); case h2 => first | exact .inl rfl | exact .inr (Nat.le_refl _) | exact .inr (by simp <;> omega)) | (with_reducible refine gb_sub ?_ (by assumption)) | (with_reducible refine gb_trans ?_ (by assumption))))
                · rw [HQ.out]
                  exact ⟨⟨_, rfl⟩, j2, _, ((hs2.set_other _ _ (by simp; omega)).set_other _ _ (by simp; omega)).set_other _ _ (by simp; omega)⟩
              | none =>
                have HQ := Lib.hid (show nextM s m (lineEndM s j) l = R by rw [← HM.out, nextM, HS.out, hcm])
                rw [hcm] at hp
                clear hcm
                obtain ⟨rfl, hs2⟩ := hp
                have hr2 := hq.res.gb g12 (by simp; omega)
                have ht2 := hq.tabs.gb g12 (by simp)
                have gg := gb_trans hq.g g12
                go_wp2
                go_roundg m
                case measure => omega
                case rel => exact ⟨lineEndM s j, l, HQ.out, hs2, hr2, gg, ht2⟩
            · go_wp2_with fail
              go_quiet (fail)
              go_wp2_with fail
              go_quiet (fail)
              go_wp2_with fail
              go_quiet ((go_at_call 111; refine (HP.out _).mono ?_; rintro e w9 ⟨rfl, rfl⟩; exact ⟨rfl, _, rfl⟩))
              go_wp2_with fail
              refine (comment_any (hq.sc.gbN (by repeat (first | (with_reducible exact gb_refl _ _) | (with_reducible assumption) | (with_reducible exact gb_none (by assumption)) | (with_reducible refine gb_alloc ?_ _) | (with_reducible refine gb_drew ?_) | (with_reducible refine gb_drewN ?_ _) | ((with_reducible refine gb_set ?_ _ _ ?h2); case h2 => first | exact .inl rfl | exact .inr (Nat.le_refl _) | exact .inr (by simp <;> omega)) | (with_reducible refine gb_sub ?_ (by assumption)) | (with_reducible refine gb_trans ?_ (by assumption)))))).mono ?_
              intro e w2 hp
              obtain ⟨g2, hp⟩ := hp
              have g12 : w1.grownBy w2 (some b) := gb_trans (by repeat (first | (with_reducible exact gb_refl _ _) | (with_reducible assumption) | (with_reducible exact gb_none (by assumption)) | (with_reducible refine gb_alloc ?_ _) | (with_reducible refine gb_drew ?_) | (with_reducible refine gb_drewN ?_ _) | ((with_reducible refine gb_set ?_ _ _ ?h2); case h2 => first | exact .inl rfl | exact .inr (Nat.le_refl _) | exact .inr (by simp <;> omega)) | (with_reducible refine gb_sub ?_ (by assumption)) | (with_reducible refine gb_trans ?_ (by assumption)))) g2
              cases hcm : commentM s j with
              | some k =>
                have HQ := Lib.hid (show R = .bad k by rw [← HM.out, nextM, HS.out, hcm])
                rw [hcm] at hp
                clear hcm
                obtain ⟨rfl, j2, hs2⟩ := hp
                have hr2 := hq.res.gb g12 (by simp; omega)
                have z0 := hr2.cell 0
                have z1 := hr2.cell 1
                have z2 := hr2.cell 2
                have zf := fun k => hr2.frozen k
                have zl := hr2.lt
                simp only [List.getElem?_cons_zero, List.getElem?_cons_succ] at z0 z1 z2
                go_wp2
                refine bodyPost_ret (results_tok (t := ⟨0, 0, []⟩) (r := false) rfl _ (hr2.set3 _ _ _) rfl rfl) rfl ⟨?_, ?_⟩
                · have g := gb_trans hq.g g12
                  exact (by repeat (first | (with_reducible exact gb_refl _ _) | (with_reducible assumption) | (with_reducible exact gb_none (by assumption)) | (with_reducible refine gb_alloc ?_ _) | (with_reducible refine gb_drew ?_) | (with_reducible refine gb_drewN ?_ _) | ((with_reducible refine gb_set ?_ _ _ ?h2); case h2 => first | exact .inl rfl | exact .inr (Nat.le_refl _) | exact .inr (by simp <;> omega)) | (with_reducible refine gb_sub ?_ (by assumption)) | (with_reducible refine gb_trans ?_ (by assumption))))
                · rw [HQ.out]
                  exact ⟨⟨_, rfl⟩, j2, _, ((hs2.set_other _ _ (by simp; omega)).set_other _ _ (by simp; omega)).set_other _ _ (by simp; omega)⟩
              | none =>
                have HQ := Lib.hid (show nextM s m (lineEndM s j) true = R by rw [← HM.out, nextM, HS.out, hcm])
                rw [hcm] at hp
                clear hcm
                obtain ⟨rfl, hs2⟩ := hp
                have hr2 := hq.res.gb g12 (by simp; omega)
                have ht2 := hq.tabs.gb g12 (by simp)
                have gg := gb_trans hq.g g12
                go_wp2
                go_roundg m
                case measure => omega
                case rel => exact ⟨lineEndM s j, true, HQ.out, hs2, hr2, gg, ht2⟩
          | false =>
            have HP := Lib.hid (prefix_q s j [38, 38] (r := false) ha)
            have hcc : ((bAt s j == 42 && !l) || ampAt s j) = false := by rw [hs42, ha]; rfl
            by_cases h59 : bAt s j = 59
            · have HS := Lib.hid (step_semi (l := l) hj h10 hb3 hcc h59)
              have e59 : (((bAt s j).toNat : Int) == 59) = true := u8_eq (n := 59) (by decide) (by simpa using h59)
              clear h10 hbl hb3 hstar hs42 ha hcc h59
              generalize bAt s j = q at *
              rcases hor with e42 | ⟨e42, rfl⟩
              · skip
                go_wp2_with fail
                go_quiet (fail)
                go_wp2_with fail
                go_quiet (fail)
                go_wp2_with fail
                go_quiet ((go_at_call 111; refine (HP.out _).mono ?_; rintro e w9 ⟨rfl, rfl⟩; exact ⟨rfl, _, rfl⟩))
                go_wp2_with fail
                go_quiet (fail)
                go_wp2_with fail
                refine (continues_any (hq.sc.gbN (by repeat (first | (with_reducible exact gb_refl _ _) | (with_reducible assumption) | (with_reducible exact gb_none (by assumption)) | (with_reducible refine gb_alloc ?_ _) | (with_reducible refine gb_drew ?_) | (with_reducible refine gb_drewN ?_ _) | ((with_reducible refine gb_set ?_ _ _ ?h2); case h2 => first | exact .inl rfl | exact .inr (Nat.le_refl _) | exact .inr (by simp <;> omega)) | (with_reducible refine gb_sub ?_ (by assumption)) | (with_reducible refine gb_trans ?_ (by assumption))))) hj).mono ?_
                intro e w2 hp
                obtain ⟨g2, hp⟩ := hp
                have g12 : w1.grownBy w2 (some b) := gb_trans (by repeat (first | (with_reducible exact gb_refl _ _) | (with_reducible assumption) | (with_reducible exact gb_none (by assumption)) | (with_reducible refine gb_alloc ?_ _) | (with_reducible refine gb_drew ?_) | (with_reducible refine gb_drewN ?_ _) | ((with_reducible refine gb_set ?_ _ _ ?h2); case h2 => first | exact .inl rfl | exact .inr (Nat.le_refl _) | exact .inr (by simp <;> omega)) | (with_reducible refine gb_sub ?_ (by assumption)) | (with_reducible refine gb_trans ?_ (by assumption)))) g2
                have hr2 := hq.res.gb g12 (by simp; omega)
                have z0 := hr2.cell 0
                have z1 := hr2.cell 1
                have z2 := hr2.cell 2
                have zf := fun k => hr2.frozen k
                have zl := hr2.lt
                simp only [List.getElem?_cons_zero, List.getElem?_cons_succ] at z0 z1 z2
                cases hgo : goesOn s (skipM s (j + 1)) with
                | false =>
                  have HQ := Lib.hid (show R = .bad j by rw [← HM.out, nextM, HS.out, if_neg (by rw [hgo]; simp)])
                  rw [if_neg (by rw [hgo]; simp)] at hp
                  obtain ⟨rfl, hs2⟩ := hp
                  clear hgo
                  have d1 := hs2.c1
                  have d260 := hs2.c260
                  have f260 := hs2.fr 260
                  go_wp2
                  refine bodyPost_ret (results_tok (t := ⟨0, 0, []⟩) (r := false) rfl _ ((hr2.set_other _ _ (by simp; omega)).set3 _ _ _) rfl rfl) rfl ⟨?_, ?_⟩
                  · have g := gb_trans hq.g g12
                    exact (by repeat (first | (with_reducible exact gb_refl _ _) | (with_reducible assumption) | (with_reducible exact gb_none (by assumption)) | (with_reducible refine gb_alloc ?_ _) | (with_reducible refine gb_drew ?_) | (with_reducible refine gb_drewN ?_ _) | ((with_reducible refine gb_set ?_ _ _ ?h2); case h2 => first | exact .inl rfl | exact .inr (Nat.le_refl _) | exact .inr (by simp <;> omega)) | (with_reducible refine gb_sub ?_ (by assumption)) | (with_reducible refine gb_trans ?_ (by assumption))))
                  · rw [HQ.out]
                    exact ⟨⟨_, rfl⟩, j, _, (((hs2.setBad _).set_other _ _ (by simp; omega)).set_other _ _ (by simp; omega)).set_other _ _ (by simp; omega)⟩
                | true =>
                  rw [if_pos hgo] at hp
                  cases hcm : commentM s (skipM s (j + 1)) with
                  | some k =>
                    have HQ := Lib.hid (show R = .bad k by rw [← HM.out, nextM, HS.out, if_pos hgo, hcm])
                    rw [hcm] at hp
                    clear hcm hgo
                    obtain ⟨rfl, j2, hs2⟩ := hp
                    go_wp2
                    refine bodyPost_ret (results_tok (t := ⟨0, 0, []⟩) (r := false) rfl _ (hr2.set3 _ _ _) rfl rfl) rfl ⟨?_, ?_⟩
                    · have g := gb_trans hq.g g12
                      exact (by repeat (first | (with_reducible exact gb_refl _ _) | (with_reducible assumption) | (with_reducible exact gb_none (by assumption)) | (with_reducible refine gb_alloc ?_ _) | (with_reducible refine gb_drew ?_) | (with_reducible refine gb_drewN ?_ _) | ((with_reducible refine gb_set ?_ _ _ ?h2); case h2 => first | exact .inl rfl | exact .inr (Nat.le_refl _) | exact .inr (by simp <;> omega)) | (with_reducible refine gb_sub ?_ (by assumption)) | (with_reducible refine gb_trans ?_ (by assumption))))
                    · rw [HQ.out]
                      exact ⟨⟨_, rfl⟩, j2, _, ((hs2.set_other _ _ (by simp; omega)).set_other _ _ (by simp; omega)).set_other _ _ (by simp; omega)⟩
                  | none =>
                    have HQ := Lib.hid (show nextM s m (nextLine s (skipM s (j + 1))) l = R by rw [← HM.out, nextM, HS.out, if_pos hgo, hcm])
                    rw [hcm] at hp
                    clear hcm hgo
                    obtain ⟨rfl, hs2⟩ := hp
                    have ht2 := hq.tabs.gb g12 (by simp)
                    have gg := gb_trans hq.g g12
                    go_wp2
                    go_roundg m
                    case measure => omega
                    case rel => exact ⟨_, l, HQ.out, hs2, hr2, gg, ht2⟩
              · skip
                go_wp2_with fail
                go_quiet (fail)
                go_wp2_with fail
                go_quiet (fail)
                go_wp2_with fail
                go_quiet ((go_at_call 111; refine (HP.out _).mono ?_; rintro e w9 ⟨rfl, rfl⟩; exact ⟨rfl, _, rfl⟩))
                go_wp2_with fail
                go_quiet (fail)
                go_wp2_with fail
                refine (continues_any (hq.sc.gbN (by repeat (first | (with_reducible exact gb_refl _ _) | (with_reducible assumption) | (with_reducible exact gb_none (by assumption)) | (with_reducible refine gb_alloc ?_ _) | (with_reducible refine gb_drew ?_) | (with_reducible refine gb_drewN ?_ _) | ((with_reducible refine gb_set ?_ _ _ ?h2); case h2 => first | exact .inl rfl | exact .inr (Nat.le_refl _) | exact .inr (by simp <;> omega)) | (with_reducible refine gb_sub ?_ (by assumption)) | (with_reducible refine gb_trans ?_ (by assumption))))) hj).mono ?_
                intro e w2 hp
                obtain ⟨g2, hp⟩ := hp
                have g12 : w1.grownBy w2 (some b) := gb_trans (by repeat (first | (with_reducible exact gb_refl _ _) | (with_reducible assumption) | (with_reducible exact gb_none (by assumption)) | (with_reducible refine gb_alloc ?_ _) | (with_reducible refine gb_drew ?_) | (with_reducible refine gb_drewN ?_ _) | ((with_reducible refine gb_set ?_ _ _ ?h2); case h2 => first | exact .inl rfl | exact .inr (Nat.le_refl _) | exact .inr (by simp <;> omega)) | (with_reducible refine gb_sub ?_ (by assumption)) | (with_reducible refine gb_trans ?_ (by assumption)))) g2
                have hr2 := hq.res.gb g12 (by simp; omega)
                have z0 := hr2.cell 0
                have z1 := hr2.cell 1
                have z2 := hr2.cell 2
                have zf := fun k => hr2.frozen k
                have zl := hr2.lt
                simp only [List.getElem?_cons_zero, List.getElem?_cons_succ] at z0 z1 z2
                cases hgo : goesOn s (skipM s (j + 1)) with
                | false =>
                  have HQ := Lib.hid (show R = .bad j by rw [← HM.out, nextM, HS.out, if_neg (by rw [hgo]; simp)])
                  rw [if_neg (by rw [hgo]; simp)] at hp
                  obtain ⟨rfl, hs2⟩ := hp
                  clear hgo
                  have d1 := hs2.c1
                  have d260 := hs2.c260
                  have f260 := hs2.fr 260
                  go_wp2
                  refine bodyPost_ret (results_tok (t := ⟨0, 0, []⟩) (r := false) rfl _ ((hr2.set_other _ _ (by simp; omega)).set3 _ _ _) rfl rfl) rfl ⟨?_, ?_⟩
                  · have g := gb_trans hq.g g12
                    exact (by repeat (first | (with_reducible exact gb_refl _ _) | (with_reducible assumption) | (with_reducible exact gb_none (by assumption)) | (with_reducible refine gb_alloc ?_ _) | (with_reducible refine gb_drew ?_) | (with_reducible refine gb_drewN ?_ _) | ((with_reducible refine gb_set ?_ _ _ ?h2); case h2 => first | exact .inl rfl | exact .inr (Nat.le_refl _) | exact .inr (by simp <;> omega)) | (with_reducible refine gb_sub ?_ (by assumption)) | (with_reducible refine gb_trans ?_ (by assumption))))
                  · rw [HQ.out]
                    exact ⟨⟨_, rfl⟩, j, _, (((hs2.setBad _).set_other _ _ (by simp; omega)).set_other _ _ (by simp; omega)).set_other _ _ (by simp; omega)⟩
                | true =>
                  rw [if_pos hgo] at hp
                  cases hcm : commentM s (skipM s (j + 1)) with
                  | some k =>
                    have HQ := Lib.hid (show R = .bad k by rw [← HM.out, nextM, HS.out, if_pos hgo, hcm])
                    rw [hcm] at hp
                    clear hcm hgo
                    obtain ⟨rfl, j2, hs2⟩ := hp
                    go_wp2
                    refine bodyPost_ret (results_tok (t := ⟨0, 0, []⟩) (r := false) rfl _ (hr2.set3 _ _ _) rfl rfl) rfl ⟨?_, ?_⟩
                    · have g := gb_trans hq.g g12
                      exact (by repeat (first | (with_reducible exact gb_refl _ _) | (with_reducible assumption) | (with_reducible exact gb_none (by assumption)) | (with_reducible refine gb_alloc ?_ _) | (with_reducible refine gb_drew ?_) | (with_reducible refine gb_drewN ?_ _) | ((with_reducible refine gb_set ?_ _ _ ?h2); case h2 => first | exact .inl rfl | exact .inr (Nat.le_refl _) | exact .inr (by simp <;> omega)) | (with_reducible refine gb_sub ?_ (by assumption)) | (with_reducible refine gb_trans ?_ (by assumption))))
                    · rw [HQ.out]
                      exact ⟨⟨_, rfl⟩, j2, _, ((hs2.set_other _ _ (by simp; omega)).set_other _ _ (by simp; omega)).set_other _ _ (by simp; omega)⟩
                  | none =>
                    have HQ := Lib.hid (show nextM s m (nextLine s (skipM s (j + 1))) true = R by rw [← HM.out, nextM, HS.out, if_pos hgo, hcm])
                    rw [hcm] at hp
                    clear hcm hgo
                    obtain ⟨rfl, hs2⟩ := hp
                    have ht2 := hq.tabs.gb g12 (by simp)
                    have gg := gb_trans hq.g g12
                    go_wp2
                    go_roundg m
                    case measure => omega
                    case rel => exact ⟨_, true, HQ.out, hs2, hr2, gg, ht2⟩
            · have HS := Lib.hid (step_tok (l := l) hj h10 hb3 hcc h59)
              have e59 : (((bAt s j).toNat : Int) == 59) = false := u8_eq (n := 59) (by decide) (by simpa using h59)
              have HX := Lib.hid (fun q => token_any (w := ((w1.drewN q).setCell ⟨b, 258, none⟩ (.bool true)).setCell ⟨b, 259, none⟩ (.bool true)) (((hq.sc.drewN q).setLine true).setBegun true) (hq.tabs.gb (gb_set (gb_set (gb_drewN (gb_refl _ (some b)) q) _ _ (.inl rfl)) _ _ (.inl rfl)) (by simp)) hj h10)
              clear h10 hbl hb3 hstar hs42 ha hcc h59
              generalize bAt s j = q at *
              rcases hor with e42 | ⟨e42, rfl⟩
              · skip
                go_wp2_with fail
                go_quiet (fail)
                go_wp2_with fail
                go_quiet (fail)
                go_wp2_with fail
                go_quiet ((go_at_call 111; refine (HP.out _).mono ?_; rintro e w9 ⟨rfl, rfl⟩; exact ⟨rfl, _, rfl⟩))
                go_wp2_with fail
                go_quiet (fail)
                have f258 := hq.sc.fr 258
                have f259 := hq.sc.fr 259
                go_wp2_with fail
                refine (HX.out _).mono ?_
                intro e w3 hp
                obtain ⟨g3, t, ok, rfl, hF⟩ := hp.fin
                have g13 : w1.grownBy w3 (some b) := gb_trans (gb_set1 (gb_set1 (gb_drewN (gb_refl w1 (some b)) _) 258 _) 259 _) g3
                have hr3 := hq.res.gb g13 (by simp; omega)
                have z0 := hr3.cell 0
                have z1 := hr3.cell 1
                have z2 := hr3.cell 2
                have zf := fun k => hr3.frozen k
                have zl := hr3.lt
                simp only [List.getElem?_cons_zero, List.getElem?_cons_succ] at z0 z1 z2
                have HF := Lib.hid hF
                clear hF
                go_wp2
                refine bodyPost_ret (results_tok (t := t) (r := ok) rfl _ (hr3.set3 _ _ _) rfl rfl) rfl ?_
                have g := gb_trans hq.g g13
                exact fin_next (((HF.out.set_other _ _ (by simp; omega)).set_other _ _ (by simp; omega)).set_other _ _ (by simp; omega)) HS.out HM.out (by repeat (first | (with_reducible exact gb_refl _ _) | (with_reducible assumption) | (with_reducible exact gb_none (by assumption)) | (with_reducible refine gb_alloc ?_ _) | (with_reducible refine gb_drew ?_) | (with_reducible refine gb_drewN ?_ _) | ((with_reducible refine gb_set ?_ _ _ ?h2); case h2 => first | exact .inl rfl | exact .inr (Nat.le_refl _) | exact .inr (by simp <;> omega)) | (with_reducible refine gb_sub ?_ (by assumption)) | (with_reducible refine gb_trans ?_ (by assumption))))
              · skip
                go_wp2_with fail
                go_quiet (fail)
                go_wp2_with fail
                go_quiet (fail)
                go_wp2_with fail
                go_quiet ((go_at_call 111; refine (HP.out _).mono ?_; rintro e w9 ⟨rfl, rfl⟩; exact ⟨rfl, _, rfl⟩))
                go_wp2_with fail
                go_quiet (fail)
                have f258 := hq.sc.fr 258
                have f259 := hq.sc.fr 259
                go_wp2_with fail
                refine (HX.out _).mono ?_
                intro e w3 hp
                obtain ⟨g3, t, ok, rfl, hF⟩ := hp.fin
                have g13 : w1.grownBy w3 (some b) := gb_trans (gb_set1 (gb_set1 (gb_drewN (gb_refl w1 (some b)) _) 258 _) 259 _) g3
                have hr3 := hq.res.gb g13 (by simp; omega)
                have z0 := hr3.cell 0
                have z1 := hr3.cell 1
                have z2 := hr3.cell 2
                have zf := fun k => hr3.frozen k
                have zl := hr3.lt
                simp only [List.getElem?_cons_zero, List.getElem?_cons_succ] at z0 z1 z2
                have HF := Lib.hid hF
                clear hF
                go_wp2
                refine bodyPost_ret (results_tok (t := t) (r := ok) rfl _ (hr3.set3 _ _ _) rfl rfl) rfl ?_
                have g := gb_trans hq.g g13
                exact fin_next (((HF.out.set_other _ _ (by simp; omega)).set_other _ _ (by simp; omega)).set_other _ _ (by simp; omega)) HS.out HM.out (by repeat (first | (with_reducible exact gb_refl _ _) | (with_reducible assumption) | (with_reducible exact gb_none (by assumption)) | (with_reducible refine gb_alloc ?_ _) | (with_reducible refine gb_drew ?_) | (with_reducible refine gb_drewN ?_ _) | ((with_reducible refine gb_set ?_ _ _ ?h2); case h2 => first | exact .inl rfl | exact .inr (Nat.le_refl _) | exact .inr (by simp <;> omega)) | (with_reducible refine gb_sub ?_ (by assumption)) | (with_reducible refine gb_trans ?_ (by assumption))))
    · have hj1 : ((j : Int) == (s.length : Int)) = true := by simp; omega
      have hS := step_end (s := s) (j := j) (l := l) (by omega)
      cases l with
      | true =>
        have HQ := Lib.hid (show R = .tok ⟨5, j, []⟩ j false m by rw [← HM.out, nextM, hS]; rfl)
        have HE := Lib.hid (fun (W : World) (g : w1.grownBy W none) => lexEnd_yes (hq.sc.gbN g) (j := j) (by rw [if_neg hj]))
        clear hS
        go_wp2_with fail
        go_quiet (fail)
        go_wp2_with fail
        refine (HE.out _ (by repeat (first | (with_reducible exact gb_refl _ _) | (with_reducible assumption) | (with_reducible exact gb_none (by assumption)) | (with_reducible refine gb_alloc ?_ _) | (with_reducible refine gb_drew ?_) | (with_reducible refine gb_drewN ?_ _) | ((with_reducible refine gb_set ?_ _ _ ?h2); case h2 => first | exact .inl rfl | exact .inr (Nat.le_refl _) | exact .inr (by simp <;> omega)) | (with_reducible refine gb_sub ?_ (by assumption)) | (with_reducible refine gb_trans ?_ (by assumption))))).mono ?_
        rintro e w2 ⟨rfl, g2, hs2⟩
        have hr2 := (hq.res.drewN nq).gb g2 (by simp; omega)
        have z0 := hr2.cell 0
        have z1 := hr2.cell 1
        have z2 := hr2.cell 2
        have zf := fun k => hr2.frozen k
        have zl := hr2.lt
        simp only [List.getElem?_cons_zero, List.getElem?_cons_succ] at z0 z1 z2
        go_wp2_with fail
        go_region
        go_wp2
        refine bodyPost_ret (results_tok (t := ⟨5, j, []⟩) (r := true) rfl _ (((hr2.set3 _ _ _).alloc _).drew) rfl rfl) rfl ⟨?_, ?_⟩
        · have g := gb_trans (gb_drewN hq.g nq) g2
          exact (by repeat (first | (with_reducible exact gb_refl _ _) | (with_reducible assumption) | (with_reducible exact gb_none (by assumption)) | (with_reducible refine gb_alloc ?_ _) | (with_reducible refine gb_drew ?_) | (with_reducible refine gb_drewN ?_ _) | ((with_reducible refine gb_set ?_ _ _ ?h2); case h2 => first | exact .inl rfl | exact .inr (Nat.le_refl _) | exact .inr (by simp <;> omega)) | (with_reducible refine gb_sub ?_ (by assumption)) | (with_reducible refine gb_trans ?_ (by assumption))))
        · rw [HQ.out]
          exact ⟨rfl, ((((hs2.set_other _ _ (by simp; omega)).set_other _ _ (by simp; omega)).set_other _ _ (by simp; omega)).alloc _).drew⟩
      | false =>
        have HQ := Lib.hid (show R = .stop by rw [← HM.out, nextM, hS]; rfl)
        have HE := Lib.hid (fun (W : World) (g : w1.grownBy W none) => lexEnd_no (hq.sc.gbN g) (j := j) (by rw [if_neg hj]) (r := true) (by simp [hj]))
        clear hS
        go_wp2_with fail
        go_quiet (fail)
        go_wp2_with fail
        refine (HE.out _ (by repeat (first | (with_reducible exact gb_refl _ _) | (with_reducible assumption) | (with_reducible exact gb_none (by assumption)) | (with_reducible refine gb_alloc ?_ _) | (with_reducible refine gb_drew ?_) | (with_reducible refine gb_drewN ?_ _) | ((with_reducible refine gb_set ?_ _ _ ?h2); case h2 => first | exact .inl rfl | exact .inr (Nat.le_refl _) | exact .inr (by simp <;> omega)) | (with_reducible refine gb_sub ?_ (by assumption)) | (with_reducible refine gb_trans ?_ (by assumption))))).mono ?_
        rintro e w2 ⟨rfl, g2, hs2⟩
        have hr2 := (hq.res.drewN nq).gb g2 (by simp; omega)
        have z0 := hr2.cell 0
        have z1 := hr2.cell 1
        have z2 := hr2.cell 2
        have zf := fun k => hr2.frozen k
        have zl := hr2.lt
        simp only [List.getElem?_cons_zero, List.getElem?_cons_succ] at z0 z1 z2
        go_wp2_with fail
        go_region
        go_wp2
        refine bodyPost_ret (results_tok (t := ⟨0, 0, []⟩) (r := false) rfl _ (((hr2.set3 _ _ _).alloc _).drew) rfl rfl) rfl ⟨?_, ?_⟩
        · have g := gb_trans (gb_drewN hq.g nq) g2
          exact (by repeat (first | (with_reducible exact gb_refl _ _) | (with_reducible assumption) | (with_reducible exact gb_none (by assumption)) | (with_reducible refine gb_alloc ?_ _) | (with_reducible refine gb_drew ?_) | (with_reducible refine gb_drewN ?_ _) | ((with_reducible refine gb_set ?_ _ _ ?h2); case h2 => first | exact .inl rfl | exact .inr (Nat.le_refl _) | exact .inr (by simp <;> omega)) | (with_reducible refine gb_sub ?_ (by assumption)) | (with_reducible refine gb_trans ?_ (by assumption))))
        · rw [HQ.out]
          exact ⟨⟨_, rfl⟩, j, false, ((((hs2.set_other _ _ (by simp; omega)).set_other _ _ (by simp; omega)).set_other _ _ (by simp; omega)).alloc _).drew⟩

end Go.Proofs.YtmcajbhljbbglaaGreatDoor

namespace Go.Proofs.YtmcajbhljbbglaaGreatDoor
open Go.RowKit Go.Shelf

attribute [local go_sem] Oper.semAt_some

/-- a loop in a fence, by a ghost that each round lowers by one -/
theorem wpIn_loop_ghost {F : Fence} {n : Nat} {P : Program} {c : Code} {Q : Exit → Act → World → Prop} (J : Nat → Act → World → Prop) (h0 : ∀ a w, ¬ J 0 a w) (hJ : ∀ g a w, J (g + 1) a w → c.wpIn F n P (Exit.then (J g) Q) a w) :
    ∀ g a w, J g a w → (Code.loop c).wpIn F n P Q a w := by
  have key : ∀ g a w, J g a w → Code.roundsIn F n P c Q g a w := by
    intro g
    induction g with
    | zero => intro a w h; exact (h0 a w h).elim
    | succ g ih =>
      intro a w h
      rw [roundsIn_succ]
      refine wpIn_mono (hJ g a w h) ?_
      intro e a' w' h'
      cases e with
      | normal => exact ih a' w' h'
      | _ => exact h'
  intro g a w h
  exact wpIn_loop_rounds g (key g a w h)

theorem gb_putObj {w w1 : World} {r : Option Nat} (h : w.grownBy w1 r) (k : Nat) (o : Obj) (hk : w.heap.size ≤ k) : w.grownBy (w1.putObj k o) r := by
  refine ⟨h.os, h.tape, h.output, by simpa [World.putObj] using h.size, fun i hi hr => ?_⟩
  rw [← h.block i hi hr]
  exact World.putObj_heap_other (by omega)

theorem nextM_lt (s : Bs) : ∀ n i line t j l m, nextM s n i line = .tok t j l m → m < n := by
  intro n
  induction n with
  | zero => intro i line t j l m h; cases h
  | succ n ih =>
    intro i line t j l m h
    rw [nextM] at h
    cases hs : lexStep s i line with
    | tok t' j' l' => rw [hs] at h; cases h; omega
    | again j' l' => rw [hs] at h; have := ih _ _ _ _ _ _ h; omega
    | stop => rw [hs] at h; cases h
    | bad k => rw [hs] at h; cases h

/-- what stands when the iterator has ended: J of the tokens that it gave -/
def AllEnd (b : Nat) (s : Bs) (J : List Tok → World → Prop) (R : LexR) (w : World) : Prop := match R with
  | .ok l => J l w ∧ ∃ j l, Sc w b s j l l (-1)
  | .bad k => (∃ l, J l w) ∧ ∃ j l, Sc w b s j l l k
  | .out => False

theorem Sc.below {n₀ : Nat} {w w1 : World} {b : Nat} {s : Bs} {i : Nat} {line begun : Bool} {bad : Int} (h : Sc w b s i line begun bad) (g : Below n₀ w w1) (hb : b < n₀) : Sc w1 b s i line begun bad := ⟨(g.block b hb).trans h.blk, h.le, h.few⟩

set_option maxRecDepth 100000 in
set_option maxHeartbeats 4000000 in
theorem all1_in (m : Nat) (l cb b n₀ : Nat) (s : Bs) (J : List Tok → World → Prop) (hn₀ : b < n₀ ∧ cb < n₀ ∧ b ≠ cb)
    (hJ : ∀ pre A B, J pre A → A.grownBy B (some b) → J pre B)
    (hY : ∀ pre t W, J pre W → pre.length < 100000 → YieldAt Fence.wide m Tryz.prog l #[tokV t] W fun e W' => e = .returned (.bool true) ∧ J (pre ++ [t]) W' ∧ Below n₀ W W')
    (htab : ∀ A B, Tabs b A → Below n₀ A B → Tabs b B)
    (n i : Nat) (line : Bool) (R : LexR) (hR : R ≠ .out) (hl : lexM s n i line = R) (hn : n < 100000)
    (W : World) (hcb : W.cell? ⟨cb, 0, none⟩ = some (.pointer (some ⟨b, 0, none⟩))) (hs : Sc W b s i line line (-1)) (ht : Tabs b W) (h0 : J [] W) :
    CallsIn Fence.wide (m + 1) Tryz.prog 83 #[.func (.yield l) #[] #[], .pointer (some ⟨cb, 0, none⟩)] W fun e W' => (∃ v, e = .returned v) ∧ AllEnd b s J R W' := by
  refine callsIn_of_wp Tryz.func83 rfl trivial ?_ rfl
  simp only [Tryz.ntmps83, List.size_toArray, List.length_cons, List.length_nil, Nat.reduceAdd, Nat.reduceSub, Array.replicate_succ, Array.replicate_zero, List.push_toArray, List.append_toArray, List.nil_append, List.cons_append]
  gi_wp2
  refine wpIn_loop_ghost (fun g a w => ∃ u2 u3 u4 u5 u6 u7 u8 u9 u10 u11 u12 u13 u14 u15 u16 u17, a = { tmps := #[.func (.yield l) #[] #[], .pointer (some ⟨cb, 0, none⟩), u2, u3, u4, u5, u6, u7, u8, u9, u10, u11, u12, u13, u14, u15, u16, u17], defers := [] } ∧
    ∃ pre k q i' line', k < g ∧ pre.length + k < 100000 ∧ q ≤ k ∧ (lexM s q i' line').pre pre = R ∧ w.cell? ⟨cb, 0, none⟩ = some (.pointer (some ⟨b, 0, none⟩)) ∧ Sc w b s i' line' line' (-1) ∧ Tabs b w ∧ J pre w) ?_ ?_ (n + 1) _ _ ?_
  · rintro a w ⟨u2, u3, u4, u5, u6, u7, u8, u9, u10, u11, u12, u13, u14, u15, u16, u17, _, pre, k, q, i', line', h, _⟩
    omega
  · rintro g a w ⟨u2, u3, u4, u5, u6, u7, u8, u9, u10, u11, u12, u13, u14, u15, u16, u17, rfl, pre, k, q, i', line', hk, hlen, hqk, hR', hc, hsc, htb, hj⟩
    have hnx : nextM s q i' line' ≠ .out := by
      intro e
      rw [lexM_next, e] at hR'
      exact hR hR'.symm
    have hlx := lexM_next s q i' line'
    have hN := next_any hsc htb hnx
    have HN := Lib.hid (And.intro hR' (And.intro hlx hN))
    have hlt := nextM_lt s q i' line'
    have HLT := Lib.hid hlt
    clear hN hlx hR' hnx hlt
    have hcl := World.block_lt_of_cell? w _ hc
    have hbl := hsc.lt
    gi_wp2_with fail
    refine ⟨trivial, (callsIn_wide.2 HN.out.2.2).mono ?_⟩
    intro e w1 hp
    obtain ⟨g1, hp⟩ := hp
    have hc1 := gb_cell g1 hc (by simp; omega)
    have ht1 := htb.gb g1 (by simp)
    have hj1 := hJ _ _ _ hj g1
    have hw1 := g1.size
    cases hq : nextM s q i' line' with
    | out => rw [hq] at hp; exact hp.elim
    | stop =>
      rw [hq] at hp
      obtain ⟨⟨t, rfl⟩, j, l', hs1⟩ := hp
      have HR := Lib.hid (show R = .ok pre by rw [← HN.out.1, HN.out.2.1, hq]; simp [LexR.pre])
      clear hq
      gi_wp2
      refine ⟨fun _ h => (by cases h), ?_⟩
      gi_wp2
      refine bodyPost_ret (results_none rfl _ _ _) rfl ⟨⟨_, rfl⟩, ?_⟩
      rw [HR.out]
      exact ⟨hJ _ _ _ hj1 (World.grownBy_alloc w1 _ _), j, l', hs1.alloc _⟩
    | bad k' =>
      rw [hq] at hp
      obtain ⟨⟨t, rfl⟩, j, l', hs1⟩ := hp
      have HR := Lib.hid (show R = .bad k' by rw [← HN.out.1, HN.out.2.1, hq]; simp [LexR.pre])
      clear hq
      gi_wp2
      refine ⟨fun _ h => (by cases h), ?_⟩
      gi_wp2
      refine bodyPost_ret (results_none rfl _ _ _) rfl ⟨⟨_, rfl⟩, ?_⟩
      rw [HR.out]
      exact ⟨⟨_, hJ _ _ _ hj1 (World.grownBy_alloc w1 _ _)⟩, j, l', hs1.alloc _⟩
    | tok t j l' m' =>
      rw [hq] at hp
      obtain ⟨rfl, hs1⟩ := hp
      have HR := Lib.hid (show (lexM s m' j l').pre (pre ++ [t]) = R by rw [← HN.out.1, HN.out.2.1, hq, ← LexR.pre_cons])
      have hm' := HLT.out _ _ _ _ hq
      clear hq
      have gA := World.grownBy_alloc w1 (.cells #[.int .i64 t.kind, .int .i64 t.pos, str t.text] 89 (0, 0)) (some b)
      obtain ⟨fn, tmps, assign, body, hy, hRd⟩ := hY pre t _ (hJ _ _ _ hj1 gA) (by omega)
      gi_wp2_with fail
      refine hRd.mono ?_
      rintro e W3 ⟨rfl, hj3, hb3⟩
      have hc3 := (hb3.cell (p := ⟨cb, 0, none⟩) hn₀.2.1).trans (gb_cell gA hc1 (by simp; omega))
      have hs3 := (hs1.alloc (.cells #[.int .i64 t.kind, .int .i64 t.pos, str t.text] 89 (0, 0))).below hb3 hn₀.1
      have ht3 := htab _ _ (ht1.gb gA (by simp)) hb3
      clear hRd hy
      gi_wp2
      exact ⟨_, _, _, _, _, _, _, _, _, _, _, _, _, _, _, _, rfl, pre ++ [t], k - 1, m', j, l', by omega, by simp; omega, by omega, HR.out, hc3, hs3, ht3, hj3⟩
  · exact ⟨_, _, _, _, _, _, _, _, _, _, _, _, _, _, _, _, rfl, [], n, n, i, line, by omega, by simp; omega, Nat.le_refl _, by rw [LexR.pre_nil]; exact hl, hcb, hs, ht, h0⟩

end Go.Proofs.YtmcajbhljbbglaaGreatDoor
