/-
  The reference's reader of tokens in memory; token, wrong, isSign, next, take, want, end, name, sign.
  The reference's reader: end, name, sign, names.
  The reference's reader: names, list, closed.
-/
import Derived.Test.YtmcajbhljbbglaaGreatDoorSr07
import Derived.Test.YtmcajbhljbbglaaGreatDoorSs07
import Derived.Test.YtmcajbhljbbglaaGreatDoorSs02
set_option linter.all false
set_option linter.unusedVariables false
set_option linter.unusedSimpArgs false
set_option linter.unnecessarySimpa false
set_option linter.constructorNameAsVariable false
set_option linter.deprecated false

namespace Go.Proofs.YtmcajbhljbbglaaGreatDoor
open Go.RowKit

/-- the reader in block b: its tokens, where it is, whether something was wrong -/
structure Rr (w : World) (b : Nat) (tv : Value) (l : List Tok) (st : RS) : Prop where
  blk : Blk w b [tv, .int .i64 st.1, .bool st.2, .slice none 0 0] 62
  toks : TRow w tv l (· < b)
  le : st.1 ≤ l.length
  few : l.length ≤ 4001
section
variable {w w1 : World} {b : Nat} {tv : Value} {l : List Tok} {st : RS}
theorem Rr.lt (h : Rr w b tv l st) : b < w.heap.size := h.blk.lt
theorem Rr.c0 (h : Rr w b tv l st) : w.cell? ⟨b, 0, none⟩ = some tv := h.blk.cell 0
theorem Rr.c1 (h : Rr w b tv l st) : w.cell? ⟨b, 1, none⟩ = some (.int .i64 st.1) := h.blk.cell 1
theorem Rr.c2 (h : Rr w b tv l st) : w.cell? ⟨b, 2, none⟩ = some (.bool st.2) := h.blk.cell 2
theorem Rr.c3 (h : Rr w b tv l st) : w.cell? ⟨b, 3, none⟩ = some (.slice none 0 0) := h.blk.cell 3
theorem Rr.fr (h : Rr w b tv l st) (k : Nat) : w.frozen? ⟨b, k, none⟩ = false := h.blk.frozen k
/-- the blocks that lie beyond the reader's own may be written -/
theorem Rr.gb {r : Option Nat} (h : Rr w b tv l st) (g : w.grownBy w1 r) (hr : ∀ k, r = some k → b < k) : Rr w1 b tv l st :=
  ⟨h.blk.gb g (fun e => by have := hr _ e.symm; omega), h.toks.gb g (fun k hk e => by have := hr _ e.symm; omega), h.le, h.few⟩
theorem Rr.gbN (h : Rr w b tv l st) (g : w.grownBy w1 none) : Rr w1 b tv l st := h.gb g (by simp)
theorem Rr.alloc (h : Rr w b tv l st) (o : Obj) : Rr (w.alloc o) b tv l st := h.gbN (World.grownBy_alloc w o none)
theorem Rr.drewN (h : Rr w b tv l st) (n : Nat) : Rr (w.drewN n) b tv l st := h.gbN (gb_drewN (gb_refl w none) n)
theorem Rr.go (h : Rr w b tv l st) (z : Int) (j : Nat) (hz : z = j) (hj : j ≤ l.length) : Rr (w.setCell ⟨b, 1, none⟩ (.int .i64 z)) b tv l (j, st.2) := by
  subst hz
  have g : w.grownBy (w.setCell ⟨b, 1, none⟩ (.int .i64 j)) (some b) := gb_set (gb_refl w _) _ _ (.inl rfl)
  exact ⟨(h.blk.set 1 (.int .i64 j)).of_eq rfl rfl, h.toks.gb g (by intro k hk; simp; omega), hj, h.few⟩
theorem Rr.fail (h : Rr w b tv l st) : Rr (w.setCell ⟨b, 2, none⟩ (.bool true)) b tv l (st.1, true) := by
  have g : w.grownBy (w.setCell ⟨b, 2, none⟩ (.bool true)) (some b) := gb_set (gb_refl w _) _ _ (.inl rfl)
  exact ⟨(h.blk.set 2 (.bool true)).of_eq rfl rfl, h.toks.gb g (by intro k hk; simp; omega), h.le, h.few⟩
theorem Rr.tok (h : Rr w b tv l st) {j : Nat} (hj : j < l.length) : ∃ lb lo cap, tv = .slice (some ⟨lb, lo, none⟩) l.length cap ∧ lb < w.heap.size ∧ lb ≠ b ∧
    w.cell? ⟨lb, lo + j * 3, none⟩ = some (.int .i64 (tokAt l j).kind) ∧ w.cell? ⟨lb, lo + j * 3 + 1, none⟩ = some (.int .i64 (tokAt l j).pos) ∧
    w.cell? ⟨lb, lo + j * 3 + 2, none⟩ = some (.string ⟨(tokAt l j).text.toArray⟩) := by
  obtain ⟨a, cap, e, _, _, h3⟩ := h.toks
  obtain ⟨lb, lo, ea, ho, c0, c1, c2⟩ := h3 j hj
  subst ea
  exact ⟨lb, lo, cap, e, World.block_lt_of_cell? w _ c0, Nat.ne_of_lt ho, c0, c1, c2⟩
theorem Rr.tv_eq (h : Rr w b tv l st) : ∃ a cap, tv = .slice a l.length cap := by
  obtain ⟨a, cap, e, _⟩ := h.toks
  exact ⟨a, cap, e⟩
theorem Rr.st_eq {st' : RS} (h : Rr w b tv l st) (e : st = st') : Rr w b tv l st' := e ▸ h
end

/-- how a function of the reader ends -/
def RPost (b : Nat) (tv : Value) (l : List Tok) (w : World) {α : Type} (V : World → Value → α → Prop) (r : α × RS) (e : Ending) (w' : World) : Prop :=
  w.grownBy w' (some b) ∧ ∃ v, e = .returned v ∧ V w' v r.1 ∧ Rr w' b tv l r.2
abbrev VB : World → Value → Bool → Prop := fun _ v x => v = .bool x
abbrev VU : World → Value → Unit → Prop := fun _ v _ => v = .tuple #[]
abbrev VStr : World → Value → Bs → Prop := fun _ v x => v = str x

section
variable {w : World} {b : Nat} {tv : Value} {l : List Tok} {st : RS}

set_option maxHeartbeats 400000 in
theorem rtoken_yes (h : Rr w b tv l st) (k : Nat) (hk : st.1 + k < l.length) (hk2 : k ≤ 4) :
    Calls Tryz.prog 63 #[.pointer (some ⟨b, 0, none⟩), .int .i64 k] w fun e w' => e = .returned (tokV (tokAt l (st.1 + k))) ∧ w.grownBy w' none := by
  obtain ⟨lb, lo, cap, e, hlb, _, t0, t1, t2⟩ := h.tok hk
  have c0 := h.c0
  have c1 := h.c1
  have hb := h.lt
  have hf := h.few
  rw [e] at c0
  obtain ⟨i, f⟩ := st
  simp only at hk c1 t0 t1 t2 ⊢
  have hlt' : decide ((i : Int) + k < (l.length : Int)) = true := by simp; omega
  unfold tokV
  generalize (tokAt l (i + k)).kind = x at *
  generalize (tokAt l (i + k)).pos = y at *
  generalize (tokAt l (i + k)).text = s at *
  generalize l.length = n at *
  clear e h
  have hw1 : IntKind.i64.wrap ((i : Int) + k) = (i : Int) + k := IntWalk.i64_in _ (by omega)
  have h1 : (0 : Int) ≤ (i : Int) + k := by omega
  have h2 : (i : Int) + k < n := by omega
  go_enter Tryz.func63, Tryz.ntmps63
  go_wp2
  go_quiet (fail)
  go_wp2
  go_region
  go_wp2
  refine bodyPost_ret (v := .agg #[.int .i64 x, .int .i64 y, str s]) ?_ rfl ⟨rfl, ?_⟩
  · simp [results, Tryz.results63, go_sem]
  · exact (by repeat (first | (with_reducible exact gb_refl _ _) | (with_reducible assumption) | (with_reducible exact gb_none (by assumption)) | (with_reducible refine gb_alloc ?_ _) | (with_reducible refine gb_drew ?_) | (with_reducible refine gb_drewN ?_ _) | ((with_reducible refine gb_set ?_ _ _ ?h2); case h2 => first | exact .inl rfl | exact .inr (Nat.le_refl _) | exact .inr (by simp <;> omega)) | (with_reducible refine gb_sub ?_ (by assumption)) | (with_reducible refine gb_trans ?_ (by assumption))))

set_option maxHeartbeats 400000 in
theorem rtoken_no (h : Rr w b tv l st) (k : Nat) (hk : l.length ≤ st.1 + k) (hk2 : k ≤ 4) :
    Calls Tryz.prog 63 #[.pointer (some ⟨b, 0, none⟩), .int .i64 k] w fun e w' => e = .returned (tokV (tokAt l (st.1 + k))) ∧ w.grownBy w' none := by
  have et : tokAt l (st.1 + k) = ⟨-1, 0, []⟩ := by simp [tokAt, List.getElem?_eq_none hk]
  rw [et]
  clear et
  obtain ⟨a, cap, e⟩ := h.tv_eq
  have c0 := h.c0
  have c1 := h.c1
  have hb := h.lt
  have hf := h.few
  have hle := h.le
  rw [e] at c0
  obtain ⟨i, f⟩ := st
  simp only at hk c1 hle ⊢
  have hlt' : decide ((i : Int) + k < (l.length : Int)) = false := by simp; omega
  have hw1 : IntKind.i64.wrap ((i : Int) + k) = (i : Int) + k := IntWalk.i64_in _ (by omega)
  generalize l.length = n at *
  clear e h
  go_enter Tryz.func63, Tryz.ntmps63
  go_wp2
  go_quiet (fail)
  go_wp2
  refine bodyPost_ret (v := .agg #[.int .i64 (-1), .int .i64 0, str []]) ?_ rfl ⟨rfl, ?_⟩
  · simp [results, Tryz.results63, go_sem]
  · exact (by repeat (first | (with_reducible exact gb_refl _ _) | (with_reducible assumption) | (with_reducible exact gb_none (by assumption)) | (with_reducible refine gb_alloc ?_ _) | (with_reducible refine gb_drew ?_) | (with_reducible refine gb_drewN ?_ _) | ((with_reducible refine gb_set ?_ _ _ ?h2); case h2 => first | exact .inl rfl | exact .inr (Nat.le_refl _) | exact .inr (by simp <;> omega)) | (with_reducible refine gb_sub ?_ (by assumption)) | (with_reducible refine gb_trans ?_ (by assumption))))

theorem rtoken_any (h : Rr w b tv l st) (k : Nat) (hk2 : k ≤ 4) :
    Calls Tryz.prog 63 #[.pointer (some ⟨b, 0, none⟩), .int .i64 k] w fun e w' => e = .returned (tokV (tokAt l (st.1 + k))) ∧ w.grownBy w' none := by
  by_cases hk : st.1 + k < l.length
  · exact rtoken_yes h k hk hk2
  · exact rtoken_no h k (by omega) hk2
theorem rtoken0 (h : Rr w b tv l st) :
    Calls Tryz.prog 63 #[.pointer (some ⟨b, 0, none⟩), .int .i64 0] w fun e w' => e = .returned (tokV (tokAt l st.1)) ∧ w.grownBy w' none := rtoken_any h 0 (by omega)

theorem rwrong_any (h : Rr w b tv l st) :
    Calls Tryz.prog 64 #[.pointer (some ⟨b, 0, none⟩)] w (RPost b tv l w VU ((), (st.1, true))) := by
  have c2 := h.c2
  have f2 := h.fr 2
  go_enter Tryz.func64, Tryz.ntmps64
  go_wp2
  go_end0
  exact ⟨gb_set (gb_refl _ _) _ _ (.inl rfl), _, rfl, rfl, h.fail⟩

set_option maxHeartbeats 400000 in
theorem risSign_any (h : Rr w b tv l st) (k : Nat) (hk2 : k ≤ 4) (s : Bs) :
    Calls Tryz.prog 94 #[.pointer (some ⟨b, 0, none⟩), .int .i64 k, str s] w fun e w' => e = .returned (.bool (isSignM (tokAt l (st.1 + k)) s)) ∧ w.grownBy w' none := by
  have HT := Lib.hid (rtoken_any h k hk2)
  generalize tokAt l (st.1 + k) = t at *
  clear h
  by_cases hk : t.kind = 4
  · have HK := Lib.hid hk
    clear hk
    go_enter Tryz.func94, Tryz.ntmps94
    go_wp2_with fail
    refine HT.out.mono ?_
    rintro e w1 ⟨rfl, g1⟩
    rw [tokV, HK.out]
    go_wp2
    go_ret
    exact ⟨by simp [isSignM, HK.out], (by repeat (first | (with_reducible exact gb_refl _ _) | (with_reducible assumption) | (with_reducible exact gb_none (by assumption)) | (with_reducible refine gb_alloc ?_ _) | (with_reducible refine gb_drew ?_) | (with_reducible refine gb_drewN ?_ _) | ((with_reducible refine gb_set ?_ _ _ ?h2); case h2 => first | exact .inl rfl | exact .inr (Nat.le_refl _) | exact .inr (by simp <;> omega)) | (with_reducible refine gb_sub ?_ (by assumption)) | (with_reducible refine gb_trans ?_ (by assumption))))⟩
  · have HK := Lib.hid hk
    have hk' : (t.kind == 4) = false := by simpa using hk
    clear hk
    go_enter Tryz.func94, Tryz.ntmps94
    go_wp2_with fail
    refine HT.out.mono ?_
    rintro e w1 ⟨rfl, g1⟩
    go_wp2
    go_ret
    exact ⟨by simp [isSignM, hk'], (by repeat (first | (with_reducible exact gb_refl _ _) | (with_reducible assumption) | (with_reducible exact gb_none (by assumption)) | (with_reducible refine gb_alloc ?_ _) | (with_reducible refine gb_drew ?_) | (with_reducible refine gb_drewN ?_ _) | ((with_reducible refine gb_set ?_ _ _ ?h2); case h2 => first | exact .inl rfl | exact .inr (Nat.le_refl _) | exact .inr (by simp <;> omega)) | (with_reducible refine gb_sub ?_ (by assumption)) | (with_reducible refine gb_trans ?_ (by assumption))))⟩

theorem tokAt_kind_lt {l : List Tok} {i : Nat} {k : Int} (h : (tokAt l i).kind = k) (hk : 0 ≤ k) : i < l.length := tokAt_lt (by omega)

/-- 'next' where a token stands here -/
theorem rnext_any (h : Rr w b tv l st) (hi : st.2 = false → st.1 < l.length) :
    Calls Tryz.prog 72 #[.pointer (some ⟨b, 0, none⟩)] w (RPost b tv l w VU ((), nextR st)) := by
  obtain ⟨i, f⟩ := st
  have c1 := h.c1
  have c2 := h.c2
  have f1 := h.fr 1
  have hf := h.few
  have hle := h.le
  simp only at c1 c2 hi hle
  cases f with
  | true =>
    go_enter Tryz.func72, Tryz.ntmps72
    go_wp2
    go_end0
    exact ⟨gb_refl _ _, _, rfl, rfl, h⟩
  | false =>
    have hi := hi rfl
    go_enter Tryz.func72, Tryz.ntmps72
    go_wp2
    go_end0
    exact ⟨gb_set (gb_refl _ _) _ _ (.inl rfl), _, rfl, rfl, h.go _ (i + 1) rfl (by omega)⟩

set_option maxHeartbeats 400000 in
theorem rtake_any (h : Rr w b tv l st) (s : Bs) :
    Calls Tryz.prog 61 #[.pointer (some ⟨b, 0, none⟩), str s] w (RPost b tv l w VB (hereR l s st, takeR l s st)) := by
  obtain ⟨i, f⟩ := st
  have c2 := h.c2
  simp only at c2
  cases f with
  | true =>
    go_enter Tryz.func61, Tryz.ntmps61
    go_wp2
    go_ret
    exact ⟨gb_refl _ _, _, rfl, rfl, h⟩
  | false =>
    have HS := Lib.hid (risSign_any h 0 (by omega) s)
    have hf := h.few
    cases hs : isSignM (tokAt l i) s with
    | true =>
      have hi := sign_lt hs
      have HQ := Lib.hid (And.intro (show hereR l s (i, false) = true by simp [hereR, hs]) (take_yes hs))
      have HK := Lib.hid hs
      clear hs
      go_enter Tryz.func61, Tryz.ntmps61
      go_wp2_with fail
      refine HS.out.mono ?_
      rintro e w1 ⟨rfl, g1⟩
      rw [Nat.add_zero, HK.out]
      have h1 := h.gbN g1
      have c1 := h1.c1
      have f1 := h1.fr 1
      simp only at c1
      go_wp2
      go_ret
      refine ⟨(by repeat (first | (with_reducible exact gb_refl _ _) | (with_reducible assumption) | (with_reducible exact gb_none (by assumption)) | (with_reducible refine gb_alloc ?_ _) | (with_reducible refine gb_drew ?_) | (with_reducible refine gb_drewN ?_ _) | ((with_reducible refine gb_set ?_ _ _ ?h2); case h2 => first | exact .inl rfl | exact .inr (Nat.le_refl _) | exact .inr (by simp <;> omega)) | (with_reducible refine gb_sub ?_ (by assumption)) | (with_reducible refine gb_trans ?_ (by assumption)))), _, rfl, by rw [HQ.out.1]; rfl, ?_⟩
      rw [HQ.out.2]
      exact h1.go _ (i + 1) rfl (by omega)
    | false =>
      have HQ := Lib.hid (And.intro (show hereR l s (i, false) = false by simp [hereR, hs]) (take_no hs))
      have HK := Lib.hid hs
      clear hs
      go_enter Tryz.func61, Tryz.ntmps61
      go_wp2_with fail
      refine HS.out.mono ?_
      rintro e w1 ⟨rfl, g1⟩
      rw [Nat.add_zero, HK.out]
      go_wp2
      go_ret
      refine ⟨gb_none g1, _, rfl, by rw [HQ.out.1]; rfl, ?_⟩
      rw [HQ.out.2]
      exact h.gbN g1

theorem want_eq (l : List Tok) (s : Bs) (st : RS) : wantR l s st = if hereR l s st then takeR l s st else ((takeR l s st).1, true) := by
  unfold wantR takeR
  cases hereR l s st <;> rfl

theorem rwant_any (h : Rr w b tv l st) (s : Bs) :
    Calls Tryz.prog 75 #[.pointer (some ⟨b, 0, none⟩), str s] w (RPost b tv l w VU ((), wantR l s st)) := by
  have HQ := Lib.hid (want_eq l s st)
  have HT := Lib.hid (rtake_any h s)
  clear h
  cases hs : hereR l s st with
  | true =>
    rw [hs] at HT HQ
    clear hs
    go_enter Tryz.func75, Tryz.ntmps75
    go_wp2_with fail
    refine HT.out.mono ?_
    rintro e w1 ⟨g1, v, rfl, rfl, h1⟩
    go_wp2
    go_end0
    exact ⟨g1, _, rfl, rfl, by rw [HQ.out]; exact h1⟩
  | false =>
    rw [hs] at HT HQ
    clear hs
    go_enter Tryz.func75, Tryz.ntmps75
    go_wp2_with fail
    refine HT.out.mono ?_
    rintro e w1 ⟨g1, v, rfl, rfl, h1⟩
    go_wp2_with fail
    refine (rwrong_any h1).mono ?_
    rintro e w2 ⟨g2, v, rfl, rfl, h2⟩
    go_wp2
    go_end0
    exact ⟨gb_trans g1 g2, _, rfl, rfl, by rw [HQ.out]; exact h2⟩
end

end Go.Proofs.YtmcajbhljbbglaaGreatDoor

namespace Go.Proofs.YtmcajbhljbbglaaGreatDoor
open Go.RowKit

section
variable {w : World} {b : Nat} {tv : Value} {l : List Tok} {st : RS}

set_option maxHeartbeats 400000 in
theorem rend_any (h : Rr w b tv l st) :
    Calls Tryz.prog 29 #[.pointer (some ⟨b, 0, none⟩)] w (RPost b tv l w VU ((), endR l st)) := by
  obtain ⟨i, f⟩ := st
  have c2 := h.c2
  simp only at c2
  cases f with
  | true =>
    go_enter Tryz.func29, Tryz.ntmps29
    go_wp2_with fail
    refine (rwrong_any h).mono ?_
    rintro e w1 ⟨g1, v, rfl, rfl, h1⟩
    go_wp2
    go_end0
    exact ⟨g1, _, rfl, rfl, h1⟩
  | false =>
    have hf := h.few
    by_cases hk : (tokAt l i).kind = 5
    · have hi := tokAt_kind_lt hk (by decide)
      have HK := Lib.hid hk
      have HQ := Lib.hid (show endR l (i, false) = (i + 1, false) by simp [endR, hk])
      clear hk
      go_enter Tryz.func29, Tryz.ntmps29
      go_wp2_with fail
      refine (rtoken0 h).mono ?_
      rintro e w1 ⟨rfl, g1⟩
      rw [tokV, HK.out]
      have h1 := h.gbN g1
      have c1 := h1.c1
      have f1 := h1.fr 1
      simp only at c1
      go_wp2
      go_end0
      exact ⟨(by repeat (first | (with_reducible exact gb_refl _ _) | (with_reducible assumption) | (with_reducible exact gb_none (by assumption)) | (with_reducible refine gb_alloc ?_ _) | (with_reducible refine gb_drew ?_) | (with_reducible refine gb_drewN ?_ _) | ((with_reducible refine gb_set ?_ _ _ ?h2); case h2 => first | exact .inl rfl | exact .inr (Nat.le_refl _) | exact .inr (by simp <;> omega)) | (with_reducible refine gb_sub ?_ (by assumption)) | (with_reducible refine gb_trans ?_ (by assumption)))), _, rfl, rfl, by rw [HQ.out]; exact h1.go _ (i + 1) rfl (by omega)⟩
    · have HQ := Lib.hid (show endR l (i, false) = (i, true) by simp [endR, hk])
      have hk' : ((tokAt l i).kind == 5) = false := by simpa using hk
      have hk2 : ((tokAt l i).kind != 5) = true := by simpa using hk
      clear hk
      go_enter Tryz.func29, Tryz.ntmps29
      go_wp2_with fail
      refine (rtoken0 h).mono ?_
      rintro e w1 ⟨rfl, g1⟩
      go_wp2_with fail
      refine (rwrong_any (h.gbN g1)).mono ?_
      rintro e w2 ⟨g2, v, rfl, rfl, h2⟩
      go_wp2
      go_end0
      exact ⟨gb_trans (gb_none g1) g2, _, rfl, rfl, by rw [HQ.out]; exact h2⟩

set_option maxRecDepth 20000 in
set_option maxHeartbeats 1000000 in
theorem rname_any (h : Rr w b tv l st) :
    Calls Tryz.prog 73 #[.pointer (some ⟨b, 0, none⟩)] w (RPost b tv l w VStr (nameR l st)) := by
  have HT := Lib.hid (rtoken0 h)
  have hf := h.few
  have hb := h.lt
  cases hn : isNameR l st with
  | true =>
    obtain ⟨i, f⟩ := st
    simp only [isNameR, Bool.and_eq_true, Bool.not_eq_true', beq_iff_eq, decide_eq_true_eq] at hn
    obtain ⟨rfl, hk, hl⟩ := hn
    have hi := tokAt_kind_lt hk (by decide)
    have HQ := Lib.hid (show nameR l (i, false) = ((tokAt l i).text, (i + 1, false)) by simp [nameR, isNameR, hk, hl])
    have hl1 : decide ((10 : Int) < (tokAt l i).text.length) = false := by simp; omega
    have HK := Lib.hid hk
    clear hk
    simp only at HT
    generalize tokAt l i = t at *
    go_enter Tryz.func73, Tryz.ntmps73
    go_wp2_with fail
    refine HT.out.mono ?_
    rintro e w1 ⟨rfl, g1⟩
    rw [tokV, HK.out]
    have h1 := h.gbN g1
    have c1 := h1.c1
    have c2 := h1.c2
    have f1 := h1.fr 1
    simp only at c1 c2
    have hb1 := h1.lt
    go_wp2
    go_ret
    refine ⟨(by repeat (first | (with_reducible exact gb_refl _ _) | (with_reducible assumption) | (with_reducible exact gb_none (by assumption)) | (with_reducible refine gb_alloc ?_ _) | (with_reducible refine gb_drew ?_) | (with_reducible refine gb_drewN ?_ _) | ((with_reducible refine gb_set ?_ _ _ ?h2); case h2 => first | exact .inl rfl | exact .inr (Nat.le_refl _) | exact .inr (by simp <;> omega)) | (with_reducible refine gb_sub ?_ (by assumption)) | (with_reducible refine gb_trans ?_ (by assumption)))), _, rfl, by rw [HQ.out]; rfl, ?_⟩
    rw [HQ.out]
    exact (h1.go _ (i + 1) rfl (by omega)).alloc _
  | false =>
    have HQ := Lib.hid (show nameR l st = ([], (st.1, true)) by unfold nameR; rw [hn]; rfl)
    obtain ⟨i, f⟩ := st
    have hc : f = true ∨ (f = false ∧ (tokAt l i).kind ≠ 0) ∨ (f = false ∧ (tokAt l i).kind = 0 ∧ 10 < (tokAt l i).text.length) := by
      cases f with
      | true => exact .inl rfl
      | false =>
        by_cases hk : (tokAt l i).kind = 0
        · right; right
          refine ⟨rfl, hk, ?_⟩
          simp [isNameR, hk] at hn
          omega
        · exact .inr (.inl ⟨rfl, hk⟩)
    clear hn
    simp only at HT HQ
    generalize tokAt l i = t at *
    rcases hc with rfl | ⟨rfl, hk⟩ | ⟨rfl, hk, hl⟩
    · go_enter Tryz.func73, Tryz.ntmps73
      go_wp2_with fail
      refine HT.out.mono ?_
      rintro e w1 ⟨rfl, g1⟩
      have h1 := h.gbN g1
      have c2 := h1.c2
      simp only at c2
      have HA := Lib.hid (h1.alloc (.cells #[.int .i64 t.kind, .int .i64 t.pos, str t.text] 89 (0, 0)))
      have HG := Lib.hid (gb_alloc (gb_none g1) (.cells #[.int .i64 t.kind, .int .i64 t.pos, str t.text] 89 (0, 0)) : World.grownBy w _ (some b))
      have hb1 := h1.lt
      go_wp2_with fail
      refine (rwrong_any HA.out).mono ?_
      rintro e w2 ⟨g2, v, rfl, rfl, h2⟩
      go_wp2
      go_ret
      exact ⟨gb_trans HG.out g2, _, rfl, by rw [HQ.out]; rfl, by rw [HQ.out]; exact h2⟩
    · have hk' : (t.kind == 0) = false := by simpa using hk
      have hk2 : (t.kind != 0) = true := by simpa using hk
      clear hk
      go_enter Tryz.func73, Tryz.ntmps73
      go_wp2_with fail
      refine HT.out.mono ?_
      rintro e w1 ⟨rfl, g1⟩
      have h1 := h.gbN g1
      have c2 := h1.c2
      simp only at c2
      have HA := Lib.hid (h1.alloc (.cells #[.int .i64 t.kind, .int .i64 t.pos, str t.text] 89 (0, 0)))
      have HG := Lib.hid (gb_alloc (gb_none g1) (.cells #[.int .i64 t.kind, .int .i64 t.pos, str t.text] 89 (0, 0)) : World.grownBy w _ (some b))
      have hb1 := h1.lt
      go_wp2_with fail
      refine (rwrong_any HA.out).mono ?_
      rintro e w2 ⟨g2, v, rfl, rfl, h2⟩
      go_wp2
      go_ret
      exact ⟨gb_trans HG.out g2, _, rfl, by rw [HQ.out]; rfl, by rw [HQ.out]; exact h2⟩
    · have hl1 : decide ((10 : Int) < t.text.length) = true := by simp; omega
      have HK := Lib.hid hk
      clear hk
      go_enter Tryz.func73, Tryz.ntmps73
      go_wp2_with fail
      refine HT.out.mono ?_
      rintro e w1 ⟨rfl, g1⟩
      rw [tokV, HK.out]
      have h1 := h.gbN g1
      have c2 := h1.c2
      simp only at c2
      have HA := Lib.hid (h1.alloc (.cells #[.int .i64 0, .int .i64 t.pos, str t.text] 89 (0, 0)))
      have HG := Lib.hid (gb_alloc (gb_none g1) (.cells #[.int .i64 0, .int .i64 t.pos, str t.text] 89 (0, 0)) : World.grownBy w _ (some b))
      have hb1 := h1.lt
      go_wp2_with fail
      refine (rwrong_any HA.out).mono ?_
      rintro e w2 ⟨g2, v, rfl, rfl, h2⟩
      go_wp2
      go_ret
      exact ⟨gb_trans HG.out g2, _, rfl, by rw [HQ.out]; rfl, by rw [HQ.out]; exact h2⟩

/-- what is here out of some signs: the first one of them -/
theorem signOf_none {L : List Bs} (h : ∀ k, (hk : k < L.length) → hereR l L[k] st = false) : signOf l L st = [] := by
  unfold signOf
  split
  · rfl
  · rename_i hs
    have : L.find? (isSignM (tokAt l st.1)) = none := by
      rw [List.find?_eq_none]
      intro x hx
      obtain ⟨k, hk, rfl⟩ := List.mem_iff_getElem.1 hx
      have := h k hk
      simpa [hereR, hs] using this
    rw [this]; rfl
theorem signOf_some {L : List Bs} {k : Nat} (hk : k < L.length) (h : ∀ j, (hj : j < k) → hereR l (L[j]'(by omega)) st = false) (hx : hereR l L[k] st = true) : signOf l L st = L[k] := by
  simp only [hereR, Bool.and_eq_true, Bool.not_eq_true'] at hx
  unfold signOf
  rw [if_neg (by rw [hx.1]; simp)]
  have : L.find? (isSignM (tokAt l st.1)) = some L[k] := by
    rw [List.find?_eq_some_iff_getElem]
    exact ⟨hx.2, k, hk, rfl, fun j hj => by have := h j hj; simpa [hereR, hx.1] using this⟩
  rw [this]; rfl

set_option maxRecDepth 20000 in
set_option maxHeartbeats 1000000 in
theorem rsign_any (h : Rr w b tv l st) {L : List Bs} {la : Option Addr} {lc : Nat} {ok : Nat → Prop} (hL : Cells w (.slice la L.length lc) 1 L.length (L.map str) ok) (hok : ∀ k, ok k → k ≠ b) (hne : ∀ s ∈ L, s ≠ []) (hl : L.length ≤ 100) :
    Calls Tryz.prog 126 #[.pointer (some ⟨b, 0, none⟩), .slice la L.length lc] w (RPost b tv l w VStr (signR l L st)) := by
  obtain ⟨_, _, e, _, _, _, hc⟩ := hL
  cases e
  have HC := Lib.hid hc
  clear hc
  go_enter Tryz.func126, Tryz.ntmps126
  go_wp2_with fail
  go_loopg [5] L.length (fun g v5 wr => ∃ k : Nat, k + g = L.length ∧ v5 = .int .i64 k ∧ Rr wr b tv l st ∧ w.grownBy wr (some b) ∧ ∀ j, (hj : j < k) → (hjl : j < L.length) → hereR l L[j] st = false)
  case atStart => exact ⟨0, by omega, rfl, h, gb_refl _ _, fun j hj => by omega⟩
  case round =>
    obtain ⟨k, hk, rfl, hr, gr, hno⟩ := hrel
    cases gk with
    | zero =>
      have hkl : k = L.length := by omega
      have hj1 : decide (k < L.length) = false := by simp; omega
      have HQ := Lib.hid (signOf_none (l := l) (st := st) (fun j hj => hno j (by omega) hj))
      clear hno
      go_wp2
      go_ret
      refine ⟨gr, _, rfl, by simp only [signR, HQ.out]; rfl, ?_⟩
      simp only [signR, HQ.out, stepM_nil]
      exact hr
    | succ gk =>
      have hkl : k < L.length := by omega
      have hj1 : decide (k < L.length) = true := by simpa using hkl
      obtain ⟨g, o, rfl, ho, hc⟩ := HC.out k (str L[k]) (by simp [hkl])
      have hcr := gb_cell gr hc (by have := hok g ho; simp; omega)
      have HT := Lib.hid (rtake_any hr L[k])
      have HN := Lib.hid hno
      have HM := Lib.hid (hne L[k] (List.getElem_mem hkl))
      clear hno
      have hlt := gr.size
      have hg := hok g ho
      have hgl := World.block_lt_of_cell? w _ hc
      simp only at hgl
      cases hh : hereR l L[k] st with
      | true =>
        have HQ := Lib.hid (signOf_some hkl (fun j hj => HN.out j hj (by omega)) hh)
        rw [hh] at HT
        have HT2 := Lib.hid (show takeR l L[k] st = (st.1 + 1, st.2) by unfold takeR; rw [if_pos hh])
        clear hh
        generalize L[k] = x at *
        go_wp2_with fail
        refine HT.out.mono ?_
        rintro e w1 ⟨g1, v, rfl, rfl, h1⟩
        have hc1 := gb_cell g1 hcr (by simp; omega)
        have HR := Lib.hid (And.intro g1 h1)
        clear g1 h1
        go_wp2
        go_ret
        refine ⟨gb_trans gr HR.out.1, _, rfl, by simp only [signR, HQ.out]; rfl, ?_⟩
        simp only [signR, HQ.out, stepM_ne HM.out]
        rw [← HT2.out]
        exact HR.out.2
      | false =>
        have HN2 := Lib.hid (show ∀ j, (hj : j < k + 1) → (hjl : j < L.length) → hereR l L[j] st = false from fun j hj hjl => by
          by_cases e : j = k
          · subst e; exact hh
          · exact HN.out j (by omega) hjl)
        rw [hh] at HT
        have HT2 := Lib.hid (show takeR l L[k] st = st by unfold takeR; rw [if_neg (by rw [hh]; simp)])
        clear hh
        generalize L[k] = x at *
        go_wp2_with fail
        refine HT.out.mono ?_
        rintro e w1 ⟨g1, v, rfl, rfl, h1⟩
        have HR := Lib.hid (And.intro g1 h1)
        clear g1 h1
        go_wp2
        go_roundg gk
        case measure => omega
        case rel => exact ⟨k + 1, by omega, by go_num, HT2.out ▸ HR.out.2, gb_trans gr HR.out.1, HN2.out⟩
end

end Go.Proofs.YtmcajbhljbbglaaGreatDoor

namespace Go.Proofs.YtmcajbhljbbglaaGreatDoor
open Go.RowKit

abbrev VEx (w : World) : World → Value → Ex → Prop := fun w' v x => VE (since w.heap.size) w' v x
abbrev VFo (w : World) : World → Value → Fo → Prop := fun w' v f => VL w.heap.size w' v f
abbrev VNs (w : World) : World → Value → List Bs → Prop := fun w' v p => VS w.heap.size w' v p
/-- function f reads what g says -/
def CR (f : FuncId) (b : Nat) (tv : Value) (l : List Tok) (g : FR Ex) : Prop :=
  ∀ w st r, Rr w b tv l st → g st = some r → Calls Tryz.prog f #[.pointer (some ⟨b, 0, none⟩)] w (RPost b tv l w (VEx w) r)

section
variable {w : World} {b : Nat} {tv : Value} {l : List Tok} {st : RS}

def NamesRR (l : List Tok) (b : Nat) (tv : Value) (n : Nat) (w : World) (r : List Bs × RS) (m : Nat) (v : Value) (wr : World) : Prop :=
  ∃ acc st, wr.ownsRow w.heap.size 9 1 v acc.length (acc.map str) ∧ Rr wr b tv l st ∧ namesMoreR l m acc st = some r ∧ w.grownBy wr (some b) ∧ acc.length + m ≤ n + 1

set_option maxRecDepth 20000 in
set_option maxHeartbeats 1000000 in
theorem rnames_any (h : Rr w b tv l st) (n : Nat) (hn : n ≤ 100000) {r : List Bs × RS} (ho : namesR l n st = some r) :
    Calls Tryz.prog 74 #[.pointer (some ⟨b, 0, none⟩)] w (RPost b tv l w (VNs w) r) := by
  have hb := h.lt
  have H := Lib.hid ho
  clear ho
  go_enter Tryz.func74, Tryz.ntmps74
  go_wp2_with fail
  refine (rname_any h).mono ?_
  rintro e w1 ⟨g1, v, rfl, rfl, h1⟩
  generalize hx : (nameR l st).1 = x at *
  have HR := Lib.hid (show namesMoreR l n [x] (nameR l st).2 = some r by rw [← H.out, namesR, hx])
  clear hx
  have hs1 := g1.size
  have ho1 : (w1.alloc (.cells [str x].toArray 9 (0, 0))).ownsRow w.heap.size 9 1 (.slice (some ⟨w1.heap.size, 0, none⟩) 1 1) 1 [str x] := ownsRow_new rfl hs1 rfl (by decide)
  have h1' := h1.alloc (.cells [str x].toArray 9 (0, 0))
  have g1' := gb_alloc g1 (.cells [str x].toArray 9 (0, 0))
  clear H
  go_wp2_with fail
  go_loopg [3] n (fun m v wr => NamesRR l b tv n w r m v wr)
  case atStart => exact ⟨[x], _, ho1, h1', HR.out, g1', by simp; omega⟩
  case round =>
    obtain ⟨acc, st', hown, hp, hloop, gr, hlen⟩ := hrel
    clear ho1 h1' g1' h1 g1 HR
    cases gk with
    | zero => cases hloop
    | succ m =>
    have HT := Lib.hid (rtake_any hp [44])
    have HO := Lib.hid hown
    rw [namesMoreR] at hloop
    cases hs : hereR l [44] st' with
    | false =>
      rw [hs] at HT hloop
      have HQ := Lib.hid (show some (acc, takeR l [44] st') = some r from hloop)
      clear hloop hown hs
      go_wp2_with fail
      refine HT.out.mono ?_
      rintro e w2 ⟨g2, v, rfl, rfl, h2⟩
      have HE := Lib.hid (And.intro g2 h2)
      clear g2 h2
      go_wp2
      go_ret
      have e1 := HQ.out
      cases e1
      have hpb := hp.lt
      exact ⟨gb_trans gr HE.out.1, _, rfl, VS.of_owns (ownsRow_gb HO.out HE.out.1 (by intro k hk _ e; cases e; omega)), HE.out.2⟩
    | true =>
      rw [hs] at HT hloop
      have HQ := Lib.hid (show namesMoreR l m (acc ++ [(nameR l (takeR l [44] st')).1]) (nameR l (takeR l [44] st')).2 = some r from hloop)
      clear hloop hown hs
      go_wp2_with fail
      refine HT.out.mono ?_
      rintro e w2 ⟨g2, v, rfl, rfl, h2⟩
      have hp2 := h2.lt
      go_wp2_with fail
      refine (rname_any h2).mono ?_
      rintro e w3 ⟨g3, v, rfl, rfl, h3⟩
      generalize (nameR l (takeR l [44] st')).1 = y at *
      have g23 := gb_trans g2 g3
      have hown3 := ownsRow_gb HO.out g23 (by intro k hk _ e; cases e; omega)
      have hown4 := hown3.alloc (.cells [str y].toArray 9 (0, 0))
      have gA := gb_alloc (gb_trans gr g23) (.cells [str y].toArray 9 (0, 0))
      have hA := h3.alloc (.cells [str y].toArray 9 (0, 0))
      have hbs := gA.size
      obtain ⟨i0, hi, hz0, hz1, hz2⟩ := info_parts info_str
      have hnc := new_cells w3 [str y] 9
      have hml : acc.length + 1 ≤ maxLen := by unfold maxLen; omega
      clear hown3
      have HX := Lib.hid (And.intro hi (And.intro hz0 (And.intro hz1 (And.intro hz2 (And.intro hnc (And.intro hml hown4))))))
      clear hi hz0 hz1 hz2 hnc hml hown4
      go_wp2_with (at_builtin; obtain ⟨hi, hz0, hz1, hz2, hnc, hml, hown4⟩ := HX.out; refine wpList_append_x rfl _ _ 26 rfl w.heap.size 9 i0 (str []) 1 16 Tryz.underlying26 hi hz0 hz1 hz2 rfl (by decide) _ _ _ rfl hown4 ⟨w3.heap.size, 0, none⟩ 1 1 [str y] rfl rfl hnc (by simp [Value.oneCell']) hml (by omega) hbs ?_; intro v' w5 hown5 g5 _; clear hi hz0 hz1 hz2 hnc hml hown4)
      have HO5 := Lib.hid hown5
      clear hown5
      go_roundg m
      case measure => omega
      case rel =>
        have hob : ∀ k, u3.ownBlock = some k → b < k := fun k hk => by have := (HO.out.lt k hk).1; omega
        have hob2 : ∀ k, u3.ownBlock = some k → w.heap.size ≤ k := fun k hk => (HO.out.lt k hk).1
        refine ⟨acc ++ [y], _, by simpa using HO5.out, hA.gb g5 hob, HQ.out, ?_, by simp; omega⟩
        have g5' : World.grownBy (w3.alloc _) w5 u3.ownBlock := g5
        cases hv : u3.ownBlock with
        | none => rw [hv] at g5'; exact gb_sub gA g5'
        | some k => rw [hv] at g5'; exact gb_sub' gA g5' (.inr (hob2 k hv))

def ListRR (l : List Tok) (E : FR Ex) (b : Nat) (tv : Value) (n : Nat) (w : World) (r : Fo × RS) (m : Nat) (v : Value) (wr : World) : Prop :=
  ∃ acc st, OwnF wr w.heap.size v acc ∧ Rr wr b tv l st ∧ moreR l E m acc st = some r ∧ w.grownBy wr (some b) ∧ acc.len + m ≤ n + 1

set_option maxRecDepth 20000 in
set_option maxHeartbeats 1000000 in
theorem rlist_any {E : FR Ex} (hE : CR 28 b tv l E) (h : Rr w b tv l st) (n : Nat) (hn : n ≤ 100000) {r : Fo × RS} (ho : listR l E n st = some r) :
    Calls Tryz.prog 137 #[.pointer (some ⟨b, 0, none⟩)] w (RPost b tv l w (VFo w) r) := by
  have hb := h.lt
  unfold listR at ho
  obtain ⟨⟨x, st1⟩, hx, ho⟩ := Option.bind_eq_some_iff.1 ho
  simp only at ho
  have H := Lib.hid (And.intro hE ho)
  have HX := Lib.hid (hE _ _ _ h hx)
  clear hE ho hx
  go_enter Tryz.func137, Tryz.ntmps137
  go_wp2_with fail
  refine HX.out.mono ?_
  rintro e w1 ⟨g1, v, rfl, ⟨pa, pc, la, lc, rfl, rp, rl⟩, h1⟩
  simp only at rp rl h1 ⊢
  have hs1 := g1.size
  have hlt := h1.lt
  have ho1 : OwnF (w1.alloc (.cells (hdC x.h (.slice pa x.h.p.length pc) (.slice la x.kids.len lc)).toArray 29 (0, 0))) w.heap.size (.slice (some ⟨w1.heap.size, 0, none⟩) 1 1) (.one x) := by
    have g := World.grownBy_alloc w1 (.cells (hdC x.h (.slice pa x.h.p.length pc) (.slice la x.kids.len lc)).toArray 29 (0, 0)) none
    refine ⟨_, ownsRow_new rfl hs1 rfl (by decide), RepF.gb g (by simp) (RepF.mono (ok := since w.heap.size) ?_ (VE.rep rp rl))⟩
    intro k hk hk2
    exact ⟨hk, by simp [Value.ownBlock]; omega⟩
  have HO := Lib.hid ho1
  have h1' := h1.alloc (.cells (hdC x.h (.slice pa x.h.p.length pc) (.slice la x.kids.len lc)).toArray 29 (0, 0))
  have g1' := gb_alloc g1 (.cells (hdC x.h (.slice pa x.h.p.length pc) (.slice la x.kids.len lc)).toArray 29 (0, 0))
  clear ho1 rp rl HX
  go_wp2_with fail
  go_loopg [3] n (fun m v wr => ListRR l E b tv n w r m v wr)
  case atStart => exact ⟨.one x, _, HO.out, h1', H.out.2, g1', by simp [Fo.one, Ex.fo, Fo.len]; omega⟩
  case round =>
    obtain ⟨acc, st', hown, hp, hloop, gr, hlen⟩ := hrel
    clear HO h1' g1' h1 g1
    cases gk with
    | zero => cases hloop
    | succ m =>
    have HT := Lib.hid (rtake_any hp [44])
    have HO := Lib.hid hown
    rw [moreR] at hloop
    cases hs : hereR l [44] st' with
    | false =>
      rw [hs] at HT hloop
      have HQ := Lib.hid (show some (acc, takeR l [44] st') = some r from hloop)
      clear hloop hown hs
      go_wp2_with fail
      refine HT.out.mono ?_
      rintro e w2 ⟨g2, v, rfl, rfl, h2⟩
      have HE := Lib.hid (And.intro g2 h2)
      clear g2 h2
      go_wp2
      go_ret
      have e1 := HQ.out
      cases e1
      have hpb := hp.lt
      exact ⟨gb_trans gr HE.out.1, _, rfl, VL.of_owns (HO.out.gb HE.out.1 (by intro k hk _ e; cases e; omega)), HE.out.2⟩
    | true =>
      rw [hs] at HT hloop
      have hq : (E (takeR l [44] st')).bind (fun r => moreR l E m (acc.snoc r.1) r.2) = some r := hloop
      obtain ⟨⟨y, st2⟩, hy, hq⟩ := Option.bind_eq_some_iff.1 hq
      simp only at hq
      have HQ := Lib.hid hq
      have HY := Lib.hid hy
      clear hloop hown hs hq hy
      go_wp2_with fail
      refine HT.out.mono ?_
      rintro e w2 ⟨g2, v, rfl, rfl, h2⟩
      have hp2 := h2.lt
      go_wp2_with fail
      refine (H.out.1 _ _ _ h2 HY.out).mono ?_
      rintro e w3 ⟨g3, v', rfl, ⟨ya, yc, ma, mc, rfl, ry, rm⟩, h3⟩
      simp only at ry rm h3 ⊢
      have g23 := gb_trans g2 g3
      obtain ⟨cs, hown3, hrep3⟩ := HO.out.gb g23 (by intro k hk _ e; cases e; omega)
      have hown4 := hown3.alloc (.cells (hdC y.h (.slice ya y.h.p.length yc) (.slice ma y.kids.len mc)).toArray 29 (0, 0))
      have gB := World.grownBy_alloc w3 (.cells (hdC y.h (.slice ya y.h.p.length yc) (.slice ma y.kids.len mc)).toArray 29 (0, 0)) none
      have gA := gb_alloc (gb_trans gr g23) (.cells (hdC y.h (.slice ya y.h.p.length yc) (.slice ma y.kids.len mc)).toArray 29 (0, 0))
      have hA := h3.alloc (.cells (hdC y.h (.slice ya y.h.p.length yc) (.slice ma y.kids.len mc)).toArray 29 (0, 0))
      have hbs := gA.size
      have hs23 := g2.size
      have hsr := gr.size
      have hol : ∀ k, u3.ownBlock = some k → w.heap.size ≤ k ∧ k < wr.heap.size := fun k hk => by
        obtain ⟨cs0, ho0, _⟩ := HO.out
        exact ho0.lt k hk
      obtain ⟨i0, hi, hz0, hz1, hz2⟩ := info_parts info_ex
      have hnc := new_cells w3 (hdC y.h (.slice ya y.h.p.length yc) (.slice ma y.kids.len mc)) 29
      have hml : acc.len + 1 ≤ maxLen := by unfold maxLen; omega
      have HYY := Lib.hid (And.intro (hrep3.gb gB (by simp)) (And.intro (ry.gb gB (by simp)) (rm.gb gB (by simp))))
      have HX := Lib.hid (And.intro hi (And.intro hz0 (And.intro hz1 (And.intro hz2 (And.intro hnc (And.intro hml (And.intro hown4 hol)))))))
      clear hown3 hrep3 ry rm hi hz0 hz1 hz2 hnc hml hown4 hol
      go_wp2_with (at_builtin; obtain ⟨hi, hz0, hz1, hz2, hnc, hml, hown4, hol⟩ := HX.out; refine wpList_append_x rfl _ _ 27 rfl w.heap.size 29 i0 _ 7 104 Tryz.underlying27 hi hz0 hz1 hz2 rfl (by decide) _ _ _ rfl hown4 ⟨w3.heap.size, 0, none⟩ 1 1 (hdC y.h (.slice ya y.h.p.length yc) (.slice ma y.kids.len mc)) rfl rfl hnc (by simp [hdC, Value.oneCell']) hml (by omega) hbs ?_; intro v' w5 hown5 g5 hn5; clear hi hz0 hz1 hz2 hnc hml hown4 hol)
      have HO5 := Lib.hid (And.intro hown5 hn5)
      clear hown5 hn5
      go_roundg m
      case measure => omega
      case rel =>
        have hol := HX.out.2.2.2.2.2.2.2
        have g5' : World.grownBy (w3.alloc _) w5 u3.ownBlock := g5
        refine ⟨acc.snoc y, st2, ?_, hA.gb g5' (fun k hk => by have := (hol k hk).1; omega), HQ.out, ?_, by rw [Fo.len_snoc]; omega⟩
        · exact OwnF.snoc (v := u3) (okx := since w2.heap.size) HYY.out.1 rfl HYY.out.2.1 HYY.out.2.2 (by intro k hk; have hk : w2.heap.size ≤ k := hk; exact ⟨by omega, fun e => by have := (hol k e).2; omega⟩) HO5.out.1 g5' HO5.out.2
        · cases hv : u3.ownBlock with
          | none => rw [hv] at g5'; exact gb_sub gA g5'
          | some k => rw [hv] at g5'; exact gb_sub' gA g5' (.inr (hol k hv).1)

set_option maxRecDepth 20000 in
set_option maxHeartbeats 1000000 in
theorem rclosed_any {E : FR Ex} (hE : CR 28 b tv l E) (h : Rr w b tv l st) (n : Nat) (hn : n ≤ 100000) (s : Bs) {r : Fo × RS} (ho : closedR l E n s st = some r) :
    Calls Tryz.prog 140 #[.pointer (some ⟨b, 0, none⟩), str s] w (RPost b tv l w (VFo w) r) := by
  have hb := h.lt
  have HT := Lib.hid (rtake_any h s)
  unfold closedR at ho
  cases hs : hereR l s st with
  | true =>
    rw [hs] at HT ho
    have HQ := Lib.hid (show some (Fo.nil, takeR l s st) = some r from ho)
    clear ho hs hE
    go_enter Tryz.func140, Tryz.ntmps140
    go_wp2_with fail
    refine HT.out.mono ?_
    rintro e w1 ⟨g1, v, rfl, rfl, h1⟩
    have HE := Lib.hid (And.intro g1 h1)
    clear g1 h1
    go_wp2
    go_ret
    have e1 := HQ.out
    cases e1
    exact ⟨HE.out.1, _, rfl, ⟨none, 0, rfl, RepL.nil _ _⟩, HE.out.2⟩
  | false =>
    rw [hs] at HT ho
    have hq : (listR l E n (takeR l s st)).bind (fun r => some (r.1, wantR l s r.2)) = some r := ho
    obtain ⟨⟨f, st1⟩, hf, hq⟩ := Option.bind_eq_some_iff.1 hq
    simp only at hq
    cases hq
    have HF := Lib.hid (And.intro hE hf)
    clear ho hs hE hf
    go_enter Tryz.func140, Tryz.ntmps140
    go_wp2_with fail
    refine HT.out.mono ?_
    rintro e w1 ⟨g1, v, rfl, rfl, h1⟩
    have hb1 := h1.lt
    go_wp2_with fail
    refine (rlist_any HF.out.1 h1 n hn HF.out.2).mono ?_
    rintro e w2 ⟨g2, v, rfl, ⟨la, lc, rfl, rl⟩, h2⟩
    simp only at rl h2 ⊢
    have HL := Lib.hid rl
    clear rl
    go_wp2_with fail
    refine (rwant_any h2 s).mono ?_
    rintro e w3 ⟨g3, v, rfl, rfl, h3⟩
    have HE := Lib.hid (And.intro g3 h3)
    have hs1 := g1.size
    clear g3 h3
    go_wp2
    go_ret
    exact ⟨gb_trans (gb_trans g1 g2) HE.out.1, _, rfl, ⟨_, _, rfl, (HL.out.gb HE.out.1 (by intro k hk _ e; cases e; have : w1.heap.size ≤ b := hk; omega)).mono (by intro k hk _; have : w1.heap.size ≤ k := hk; show w.heap.size ≤ k; omega)⟩, HE.out.2⟩
end

end Go.Proofs.YtmcajbhljbbglaaGreatDoor
