/-
  tree.Parse at 'if = 1'; what tree.ParseExpr and tree.Parse give at the two texts of 'known'.
  Equality of texts and expressions: the plain model, and sameTexts of the reference, slices.Equal of the program.
  Equality of expressions: slices.Equal at texts; SameExpr of the reference and of the program, one level.
-/
import Derived.Test.YtmcajbhljbbglaaGreatDoorSs20
import Derived.Test.YtmcajbhljbbglaaGreatDoorSs06
import Derived.Test.YtmcajbhljbbglaaGreatDoorSs07
set_option linter.all false
set_option linter.unusedVariables false
set_option linter.unusedSimpArgs false
set_option linter.unnecessarySimpa false
set_option linter.constructorNameAsVariable false
set_option linter.deprecated false

namespace Go.Proofs.YtmcajbhljbbglaaGreatDoor
open Go.RowKit

def srcIf : Bs := [105, 102, 32, 61, 32, 49]
def srcAb : Bs := [97, 45, 62, 98, 32, 43, 32, 49]
def toksIf : List Tok := [⟨0, 0, [73, 70]⟩, ⟨4, 3, [61]⟩, ⟨1, 5, [49]⟩, ⟨5, 6, []⟩]
theorem lex_if : lexTop srcIf = .ok toksIf := by kernel_rfl
def xAb : Ex := binE [43] ⟨hd0 2 [65], .one (nameE [66])⟩ (constE 2 1 [])
theorem pe_ab : peM srcAb = .ok xAb 6 := by kernel_rfl
def xOne : Ex := constE 2 1 []
theorem tg_if : targetM toksIf (exprM toksIf dayM 10) 0 = .ok (nameE [73, 70]) 1 := by kernel_rfl
theorem ex_if : exprM toksIf dayM 10 2 = .ok xOne 3 := by kernel_rfl
theorem end_if : endM toksIf 3 = .ok () 4 := by kernel_rfl

theorem program_if {w : World} (hg : Glob w) {tv : Value} (ht : TRow w tv toksIf (fun _ => True)) (hl : Tame dayM toksIf) :
    Calls Tryz.prog 34 #[tv] w fun e w' => ∃ v, e = .returned (.tuple #[v, .int .i64 (-1)]) ∧ SetProg w.heap.size w' v (nameE [73, 70]) xOne ∧ w.grownBy w' none :=
  progs_set hg hl ht (by decide) 10 rfl (by decide) tg_if (by decide) ex_if end_if rfl

set_option maxRecDepth 40000 in
set_option maxHeartbeats 1000000 in
theorem parse_if {w : World} (ht : Tabs w.heap.size w) : Calls Tryz.prog 12 #[str srcIf] w fun e w' => ∃ v, e = .returned (.tuple #[v, .int .i64 4, .int .i64 0]) ∧ SetProg w.heap.size w' v (nameE [73, 70]) xOne ∧ w.grownBy w' none := by
  have HL := Lib.hid (lexTop_any ht srcIf (by decide))
  have HT := Lib.hid ht
  clear ht
  generalize hsrc : srcIf = src at *
  go_enter Tryz.func12, Tryz.ntmps12
  go_wp2_with fail
  refine HL.out.mono ?_
  rintro e w1 ⟨g1, h1⟩
  rw [← hsrc, lex_if] at h1
  clear HL hsrc
  obtain ⟨v, rfl, hT, hTame, _⟩ := h1
  obtain ⟨ta, tc, rfl⟩ : ∃ ta tc, v = .slice ta 4 tc := by
    obtain ⟨a, cap, e, _⟩ := hT
    exact ⟨a, cap, e⟩
  have HP := Lib.hid (program_if (HT.out.gbN g1).glob (hT.mono fun _ _ _ => trivial) hTame)
  have HG := Lib.hid g1
  have e4 : ((toksIf.length : Nat) : Int) = 4 := rfl
  rw [e4]
  clear hT hTame g1 e4
  go_wp2_with fail
  refine HP.out.mono ?_
  rintro e w2 ⟨v, rfl, hS, g2⟩
  have HS := Lib.hid (And.intro hS (gb_trans HG.out g2))
  have H1 := Lib.hid (isTwice_set hS)
  obtain ⟨kP, bv, rfl, _⟩ := hS
  clear g2
  go_wp2_with fail
  refine H1.out.mono ?_
  rintro e w3 ⟨rfl, g3⟩
  have H2 := Lib.hid (ofProcs_set (HS.out.1.gb g3 (by simp)) (by decide))
  go_wp2_with fail
  refine H2.out.mono ?_
  rintro e w4 ⟨rfl, g4⟩
  go_wp2_with fail
  refine (isLarge_any _ _ _).mono ?_
  rintro e w5 ⟨rfl, g5⟩
  have hf : isLargeM (1 + (Fo.two (nameE [73, 70]) xOne).nodes) (1 + (Fo.two (nameE [73, 70]) xOne).levels) = false := by decide
  rw [hf]
  have HF := Lib.hid (And.intro (SetProg.mono (((HS.out.1.gb g3 (by simp)).gb g4 (by simp)).gb g5 (by simp)) (by have h1 := HG.out.size; exact h1)) (gb_trans (gb_trans (gb_trans HS.out.2 g3) g4) g5))
  clear g3 g4 g5 hf
  go_wp2
  exact bodyPost_ret (v := .tuple #[.slice (some ⟨kP, 0, none⟩) 1 1, .int .i64 4, .int .i64 0]) (by simp [results, Tryz.results12, go_sem]) rfl ⟨_, rfl, HF.out.1, HF.out.2⟩

end Go.Proofs.YtmcajbhljbbglaaGreatDoor

namespace Go.Proofs.YtmcajbhljbbglaaGreatDoor
open Go.RowKit

def textsEq (l m : List Bs) : Bool := decide (l = m)
def hdEq (h k : Hd) : Bool := decide (h = k)
def sameF : Fo → Fo → Bool
  | .nil, .nil => true
  | .cons h k n, .cons h' k' n' => (hdEq h h' && sameF k k') && sameF n n'
  | _, _ => false
theorem sameF_len : ∀ {f g : Fo}, sameF f g = true → f.len = g.len := by
  intro f
  induction f with
  | nil => intro g h; cases g with | nil => rfl | cons => cases h
  | cons hd kids next ih1 ih2 =>
    intro g h
    cases g with
    | nil => cases h
    | cons h' k' n' =>
      simp only [sameF, Bool.and_eq_true] at h
      simp [Fo.len, ih2 h.2]
theorem sameF_refl : ∀ f : Fo, sameF f f = true := by
  intro f
  induction f with
  | nil => rfl
  | cons hd kids next ih1 ih2 => simp [sameF, hdEq, ih1, ih2]
theorem hdEq_parts (h k : Hd) : hdEq h k = (h.op == k.op && h.s == k.s && ((h.vk == k.vk && h.vn == k.vn) && h.vs == k.vs) && textsEq h.p k.p) := by
  cases h; cases k
  rw [Bool.eq_iff_iff]
  simp [hdEq, textsEq, and_assoc]

theorem Cells.at1 {w : World} {pa : Option Addr} {n pc : Nat} {l : List Bs} {ok : Nat → Prop} (h : Cells w (.slice pa n pc) 1 l.length (l.map str) ok) : n = l.length ∧ ∀ k, k < l.length → ∃ g o, pa = some ⟨g, o, none⟩ ∧ w.cell? ⟨g, o + k, none⟩ = some (str (l.getD k [])) := by
  obtain ⟨a, cap, e, _, _, _, h4⟩ := h
  cases e
  refine ⟨rfl, fun k hk => ?_⟩
  obtain ⟨g, o, e, _, hc⟩ := h4 k (str (l.getD k [])) (by simp [List.getD, List.getElem?_eq_getElem hk])
  exact ⟨g, o, e, hc⟩
theorem textsEq_len {l m : List Bs} (h : l.length ≠ m.length) : textsEq l m = false := by
  unfold textsEq; simp; rintro rfl; exact h rfl
theorem textsEq_at {l m : List Bs} {k : Nat} (h : l.getD k [] ≠ m.getD k []) : textsEq l m = false := by
  unfold textsEq; simp; rintro rfl; exact h rfl
theorem textsEq_all {l m : List Bs} (hn : l.length = m.length) (h : ∀ j, j < l.length → l.getD j [] = m.getD j []) : textsEq l m = true := by
  unfold textsEq; simp
  apply List.ext_getElem hn
  intro j h1 h2
  have := h j h1
  simpa [List.getD, List.getElem?_eq_getElem h1, List.getElem?_eq_getElem h2] using this

set_option maxRecDepth 20000 in
set_option maxHeartbeats 1000000 in
theorem sameTexts_any {w : World} {pa pb : Option Addr} {pc pd : Nat} {l m : List Bs} {ok ok' : Nat → Prop} (h1 : Cells w (.slice pa l.length pc) 1 l.length (l.map str) ok) (h2 : Cells w (.slice pb m.length pd) 1 m.length (m.map str) ok') :
    Calls Tryz.prog 32 #[.slice pa l.length pc, .slice pb m.length pd] w fun e w' => e = .returned (.bool (textsEq l m)) ∧ w.grownBy w' none := by
  have hc1 := h1.at1.2
  have hc2 := h2.at1.2
  have hl : l.length ≤ maxLen := by obtain ⟨_, _, e, h3, h4, _⟩ := h1; omega
  unfold maxLen at hl
  clear h1 h2
  by_cases hn : l.length = m.length
  · have HC := Lib.hid (And.intro hc1 hc2)
    clear hc1 hc2
    have hnI : ((l.length : Int) != (m.length : Int)) = false := by simp; omega
    have hnI2 : ((l.length : Int) == (m.length : Int)) = true := by simp; omega
    have HN := Lib.hid hn
    clear hn
    go_enter Tryz.func32, Tryz.ntmps32
    go_wp2_with fail
    go_loopg [5] l.length (fun g v5 wr => ∃ k : Nat, k + g = l.length ∧ v5 = .int .i64 k ∧ (∀ j, j < k → l.getD j [] = m.getD j []) ∧ w.grownBy wr none)
    case atStart => exact ⟨0, by omega, rfl, fun j hj => by omega, gb_refl _ _⟩
    case round =>
      obtain ⟨k, hg, rfl, hp, hgr⟩ := hrel
      by_cases hk : k < l.length
      · obtain ⟨g1, o1, rfl, c1⟩ := HC.out.1 k hk
        obtain ⟨g2, o2, rfl, c2⟩ := HC.out.2 k (by have := HN.out; omega)
        have d1 := gb_cellN hgr c1
        have d2 := gb_cellN hgr c2
        have hkm : k < m.length := by have := HN.out; omega
        have hkI : decide (k < l.length) = true := by simpa using hk
        have HP := Lib.hid hp
        have HG := Lib.hid hgr
        clear hp hgr c1 c2
        generalize hs1 : l.getD k [] = s at *
        generalize hs2 : m.getD k [] = t at *
        by_cases he : s = t
        · have HE := Lib.hid (show l.getD k [] = m.getD k [] by rw [hs1, hs2, he])
          have he1 : (s == t) = true := by simpa using he
          have he2 : (s != t) = false := by simpa using he
          clear he hs1 hs2
          go_wp2_with fail
          go_quiet (fail)
          go_wp2
          go_roundg (l.length - (k + 1))
          case measure => omega
          case rel => exact ⟨k + 1, by omega, by go_num, fun j hj => by rcases Nat.lt_succ_iff_lt_or_eq.1 hj with h | rfl; exact HP.out j h; exact HE.out, gb_drewN HG.out _⟩
        · have HE := Lib.hid (textsEq_at (l := l) (m := m) (k := k) (by rw [hs1, hs2]; exact he))
          have he1 : (s == t) = false := by simpa using he
          have he2 : (s != t) = true := by simpa using he
          clear he hs1 hs2
          go_wp2_with fail
          go_quiet (fail)
          go_wp2
          go_ret
          exact ⟨by rw [HE.out]; rfl, gb_drewN HG.out _⟩
      · have hkI : decide (k < l.length) = false := by simpa using hk
        have HE := Lib.hid (textsEq_all HN.out (fun j hj => hp j (by omega)))
        have HG := Lib.hid hgr
        clear hp hgr
        go_wp2
        go_ret
        exact ⟨by rw [HE.out]; rfl, HG.out⟩
  · have hnI : ((l.length : Int) != (m.length : Int)) = true := by simp; omega
    have hnI2 : ((l.length : Int) == (m.length : Int)) = false := by simp; omega
    have HN := Lib.hid (textsEq_len hn)
    clear hn hc1 hc2
    go_enter Tryz.func32, Tryz.ntmps32
    go_wp2
    go_ret
    exact ⟨by rw [HN.out]; rfl, (by repeat (first | (with_reducible exact gb_refl _ _) | (with_reducible assumption) | (with_reducible exact gb_none (by assumption)) | (with_reducible refine gb_alloc ?_ _) | (with_reducible refine gb_drew ?_) | (with_reducible refine gb_drewN ?_ _) | ((with_reducible refine gb_set ?_ _ _ ?h2); case h2 => first | exact .inl rfl | exact .inr (Nat.le_refl _) | exact .inr (by simp <;> omega)) | (with_reducible refine gb_sub ?_ (by assumption)) | (with_reducible refine gb_trans ?_ (by assumption))))⟩

end Go.Proofs.YtmcajbhljbbglaaGreatDoor

namespace Go.Proofs.YtmcajbhljbbglaaGreatDoor
open Go.RowKit

set_option maxRecDepth 20000 in
set_option maxHeartbeats 1000000 in
theorem equalTexts_any {w : World} {pa pb : Option Addr} {pc pd : Nat} {l m : List Bs} {ok ok' : Nat → Prop} (h1 : Cells w (.slice pa l.length pc) 1 l.length (l.map str) ok) (h2 : Cells w (.slice pb m.length pd) 1 m.length (m.map str) ok') :
    Calls Tryz.prog 42 #[.slice pa l.length pc, .slice pb m.length pd] w fun e w' => e = .returned (.bool (textsEq l m)) ∧ w.grownBy w' none := by
  have hc1 := h1.at1.2
  have hc2 := h2.at1.2
  have hl : l.length ≤ maxLen := by obtain ⟨_, _, e, h3, h4, _⟩ := h1; omega
  unfold maxLen at hl
  clear h1 h2
  by_cases hn : l.length = m.length
  · have HC := Lib.hid (And.intro hc1 hc2)
    clear hc1 hc2
    have hnI : ((l.length : Int) != (m.length : Int)) = false := by simp; omega
    have hnI2 : ((l.length : Int) == (m.length : Int)) = true := by simp; omega
    have HN := Lib.hid hn
    clear hn
    go_enter Tryz.func42, Tryz.ntmps42
    go_wp2_with fail
    go_loopg [13] l.length (fun g v13 wr => ∃ k : Nat, k + g = l.length ∧ v13 = .int .i64 k ∧ (∀ j, j < k → l.getD j [] = m.getD j []) ∧ w.grownBy wr none)
    case atStart => exact ⟨0, by omega, rfl, fun j hj => by omega, gb_refl _ _⟩
    case round =>
      obtain ⟨k, hg, rfl, hp, hgr⟩ := hrel
      by_cases hk : k < l.length
      · obtain ⟨g1, o1, rfl, c1⟩ := HC.out.1 k hk
        obtain ⟨g2, o2, rfl, c2⟩ := HC.out.2 k (by have := HN.out; omega)
        have d1 := gb_cellN hgr c1
        have d2 := gb_cellN hgr c2
        have hkm : k < m.length := by have := HN.out; omega
        have hkI : decide (k < l.length) = true := by simpa using hk
        have HP := Lib.hid hp
        have HG := Lib.hid hgr
        clear hp hgr c1 c2
        generalize hs1 : l.getD k [] = s at *
        generalize hs2 : m.getD k [] = t at *
        by_cases he : s = t
        · have HE := Lib.hid (show l.getD k [] = m.getD k [] by rw [hs1, hs2, he])
          have he1 : (s == t) = true := by simpa using he
          have he2 : (s != t) = false := by simpa using he
          clear he hs1 hs2
          go_wp2_with fail
          go_quiet (fail)
          go_wp2
          go_roundg (l.length - (k + 1))
          case measure => omega
          case rel => exact ⟨k + 1, by omega, by go_num, fun j hj => by rcases Nat.lt_succ_iff_lt_or_eq.1 hj with h | rfl; exact HP.out j h; exact HE.out, gb_drewN HG.out _⟩
        · have HE := Lib.hid (textsEq_at (l := l) (m := m) (k := k) (by rw [hs1, hs2]; exact he))
          have he1 : (s == t) = false := by simpa using he
          have he2 : (s != t) = true := by simpa using he
          clear he hs1 hs2
          go_wp2_with fail
          go_quiet (fail)
          go_wp2
          go_ret
          exact ⟨by rw [HE.out]; rfl, gb_drewN HG.out _⟩
      · have hkI : decide (k < l.length) = false := by simpa using hk
        have HE := Lib.hid (textsEq_all HN.out (fun j hj => hp j (by omega)))
        have HG := Lib.hid hgr
        clear hp hgr
        go_wp2
        go_ret
        exact ⟨by rw [HE.out]; rfl, HG.out⟩
  · have hnI : ((l.length : Int) != (m.length : Int)) = true := by simp; omega
    have hnI2 : ((l.length : Int) == (m.length : Int)) = false := by simp; omega
    have HN := Lib.hid (textsEq_len hn)
    clear hn hc1 hc2
    go_enter Tryz.func42, Tryz.ntmps42
    go_wp2
    go_ret
    exact ⟨by rw [HN.out]; rfl, (by repeat (first | (with_reducible exact gb_refl _ _) | (with_reducible assumption) | (with_reducible exact gb_none (by assumption)) | (with_reducible refine gb_alloc ?_ _) | (with_reducible refine gb_drew ?_) | (with_reducible refine gb_drewN ?_ _) | ((with_reducible refine gb_set ?_ _ _ ?h2); case h2 => first | exact .inl rfl | exact .inr (Nat.le_refl _) | exact .inr (by simp <;> omega)) | (with_reducible refine gb_sub ?_ (by assumption)) | (with_reducible refine gb_trans ?_ (by assumption))))⟩

set_option maxRecDepth 20000 in
set_option maxHeartbeats 1000000 in
theorem refSameExpr_step {w : World} {h h' : Hd} {pa pb la lb : Option Addr} {pc pd ln lc lm ld : Nat} {ok ok' : Nat → Prop} {b : Bool} (h1 : Cells w (.slice pa h.p.length pc) 1 h.p.length (h.p.map str) ok) (h2 : Cells w (.slice pb h'.p.length pd) 1 h'.p.length (h'.p.map str) ok')
    (HL : ∀ W, w.grownBy W none → Calls Tryz.prog 33 #[.slice la ln lc, .slice lb lm ld] W fun e w' => e = .returned (.bool b) ∧ W.grownBy w' none) :
    Calls Tryz.prog 11 #[exV h (.slice pa h.p.length pc) (.slice la ln lc), exV h' (.slice pb h'.p.length pd) (.slice lb lm ld)] w fun e w' => e = .returned (.bool (hdEq h h' && b)) ∧ w.grownBy w' none := by
  have HH := Lib.hid (hdEq_parts h h')
  have HT := Lib.hid (fun (W : World) (g : w.grownBy W none) => sameTexts_any (h1.gb g (by simp)) (h2.gb g (by simp)))
  have HL' := Lib.hid HL
  clear HL h1 h2
  obtain ⟨op, s, vk, vn, vs, p⟩ := h
  obtain ⟨op', s', vk', vn', vs', p'⟩ := h'
  simp only at HH HT ⊢
  cases c1 : (op == op') with
  | false =>
    have HF := Lib.hid (show (hdEq ⟨op, s, vk, vn, vs, p⟩ ⟨op', s', vk', vn', vs', p'⟩ && b) = false by rw [HH.out, c1]; simp)
    go_enter Tryz.func11, Tryz.ntmps11
    go_wp2
    go_ret
    exact ⟨by rw [HF.out]; rfl, (by repeat (first | (with_reducible exact gb_refl _ _) | (with_reducible assumption) | (with_reducible exact gb_none (by assumption)) | (with_reducible refine gb_alloc ?_ _) | (with_reducible refine gb_drew ?_) | (with_reducible refine gb_drewN ?_ _) | ((with_reducible refine gb_set ?_ _ _ ?h2); case h2 => first | exact .inl rfl | exact .inr (Nat.le_refl _) | exact .inr (by simp <;> omega)) | (with_reducible refine gb_sub ?_ (by assumption)) | (with_reducible refine gb_trans ?_ (by assumption))))⟩
  | true =>
    cases c2 : (s == s') with
    | false =>
      have HF := Lib.hid (show (hdEq ⟨op, s, vk, vn, vs, p⟩ ⟨op', s', vk', vn', vs', p'⟩ && b) = false by rw [HH.out, c1, c2]; simp)
      go_enter Tryz.func11, Tryz.ntmps11
      go_wp2
      go_ret
      exact ⟨by rw [HF.out]; rfl, (by repeat (first | (with_reducible exact gb_refl _ _) | (with_reducible assumption) | (with_reducible exact gb_none (by assumption)) | (with_reducible refine gb_alloc ?_ _) | (with_reducible refine gb_drew ?_) | (with_reducible refine gb_drewN ?_ _) | ((with_reducible refine gb_set ?_ _ _ ?h2); case h2 => first | exact .inl rfl | exact .inr (Nat.le_refl _) | exact .inr (by simp <;> omega)) | (with_reducible refine gb_sub ?_ (by assumption)) | (with_reducible refine gb_trans ?_ (by assumption))))⟩
    | true =>
      by_cases hk : vk = vk'
      · subst hk
        by_cases hn : vn = vn'
        · subst hn
          by_cases hs : vs = vs'
          · subst hs
            have HF := Lib.hid (show (hdEq ⟨op, s, vk, vn, vs, p⟩ ⟨op', s', vk, vn, vs, p'⟩ && b) = (textsEq p p' && b) by rw [HH.out, c1, c2]; simp)
            rw [HF.out]
            clear HH HF
            cases c4 : textsEq p p' with
            | false =>
              have HB := Lib.hid c4
              rw [c4] at HT
              clear c4
              go_enter Tryz.func11, Tryz.ntmps11
              go_wp2_with fail
              refine (HT.out _ ?gg).mono ?_
              case gg => exact (by repeat (first | (with_reducible exact gb_refl _ _) | (with_reducible assumption) | (with_reducible exact gb_none (by assumption)) | (with_reducible refine gb_alloc ?_ _) | (with_reducible refine gb_drew ?_) | (with_reducible refine gb_drewN ?_ _) | ((with_reducible refine gb_set ?_ _ _ ?h2); case h2 => first | exact .inl rfl | exact .inr (Nat.le_refl _) | exact .inr (by simp <;> omega)) | (with_reducible refine gb_sub ?_ (by assumption)) | (with_reducible refine gb_trans ?_ (by assumption))))
              rintro e w1 ⟨rfl, g1⟩
              have gw : w.grownBy w1 none := gb_trans (gb_alloc (World.grownBy_alloc w _ none) _) g1
              go_wp2
              go_ret
              exact ⟨rfl, gw⟩
            | true =>
              have HB := Lib.hid c4
              rw [c4] at HT
              clear c4
              go_enter Tryz.func11, Tryz.ntmps11
              go_wp2_with fail
              refine (HT.out _ ?gg).mono ?_
              case gg => exact (by repeat (first | (with_reducible exact gb_refl _ _) | (with_reducible assumption) | (with_reducible exact gb_none (by assumption)) | (with_reducible refine gb_alloc ?_ _) | (with_reducible refine gb_drew ?_) | (with_reducible refine gb_drewN ?_ _) | ((with_reducible refine gb_set ?_ _ _ ?h2); case h2 => first | exact .inl rfl | exact .inr (Nat.le_refl _) | exact .inr (by simp <;> omega)) | (with_reducible refine gb_sub ?_ (by assumption)) | (with_reducible refine gb_trans ?_ (by assumption))))
              rintro e w1 ⟨rfl, g1⟩
              have gw : w.grownBy w1 none := gb_trans (gb_alloc (World.grownBy_alloc w _ none) _) g1
              have x6 := (((Blk.new w [.int .i64 op, str s, .int .i64 vk, .int .i64 vn, str vs, .slice pa p.length pc, .slice la ln lc] 29).alloc _).gb g1 (by simp)).cell 6
              have y6 := (show Blk w1 (w.heap.size + 1) [.int .i64 op', str s', .int .i64 vk, .int .i64 vn, str vs, .slice pb p'.length pd, .slice lb lm ld] 29 from ((Blk.new _ _ _).of_eq (by simp) rfl).gb g1 (by simp)).cell 6
              simp only [List.getElem?_cons_zero, List.getElem?_cons_succ] at x6 y6
              go_wp2_with fail
              refine (HL'.out _ gw).mono ?_
              rintro e w2 ⟨rfl, g2⟩
              go_wp2
              go_ret
              exact ⟨rfl, gb_trans gw g2⟩
          · have HF := Lib.hid (show (hdEq ⟨op, s, vk, vn, vs, p⟩ ⟨op', s', vk, vn, vs', p'⟩ && b) = false by rw [HH.out, c1, c2]; simp [hs])
            go_enter Tryz.func11, Tryz.ntmps11
            go_wp2
            go_ret
            exact ⟨by rw [HF.out]; rfl, (by repeat (first | (with_reducible exact gb_refl _ _) | (with_reducible assumption) | (with_reducible exact gb_none (by assumption)) | (with_reducible refine gb_alloc ?_ _) | (with_reducible refine gb_drew ?_) | (with_reducible refine gb_drewN ?_ _) | ((with_reducible refine gb_set ?_ _ _ ?h2); case h2 => first | exact .inl rfl | exact .inr (Nat.le_refl _) | exact .inr (by simp <;> omega)) | (with_reducible refine gb_sub ?_ (by assumption)) | (with_reducible refine gb_trans ?_ (by assumption))))⟩
        · have HF := Lib.hid (show (hdEq ⟨op, s, vk, vn, vs, p⟩ ⟨op', s', vk, vn', vs', p'⟩ && b) = false by rw [HH.out, c1, c2]; simp [hn])
          go_enter Tryz.func11, Tryz.ntmps11
          go_wp2
          go_ret
          exact ⟨by rw [HF.out]; rfl, (by repeat (first | (with_reducible exact gb_refl _ _) | (with_reducible assumption) | (with_reducible exact gb_none (by assumption)) | (with_reducible refine gb_alloc ?_ _) | (with_reducible refine gb_drew ?_) | (with_reducible refine gb_drewN ?_ _) | ((with_reducible refine gb_set ?_ _ _ ?h2); case h2 => first | exact .inl rfl | exact .inr (Nat.le_refl _) | exact .inr (by simp <;> omega)) | (with_reducible refine gb_sub ?_ (by assumption)) | (with_reducible refine gb_trans ?_ (by assumption))))⟩
      · have HF := Lib.hid (show (hdEq ⟨op, s, vk, vn, vs, p⟩ ⟨op', s', vk', vn', vs', p'⟩ && b) = false by rw [HH.out, c1, c2]; simp [hk])
        go_enter Tryz.func11, Tryz.ntmps11
        go_wp2
        go_ret
        exact ⟨by rw [HF.out]; rfl, (by repeat (first | (with_reducible exact gb_refl _ _) | (with_reducible assumption) | (with_reducible exact gb_none (by assumption)) | (with_reducible refine gb_alloc ?_ _) | (with_reducible refine gb_drew ?_) | (with_reducible refine gb_drewN ?_ _) | ((with_reducible refine gb_set ?_ _ _ ?h2); case h2 => first | exact .inl rfl | exact .inr (Nat.le_refl _) | exact .inr (by simp <;> omega)) | (with_reducible refine gb_sub ?_ (by assumption)) | (with_reducible refine gb_trans ?_ (by assumption))))⟩

set_option maxRecDepth 20000 in
set_option maxHeartbeats 1000000 in
theorem sameExpr_step {w : World} {h h' : Hd} {pa pb la lb : Option Addr} {pc pd ln lc lm ld : Nat} {ok ok' : Nat → Prop} {b : Bool} (h1 : Cells w (.slice pa h.p.length pc) 1 h.p.length (h.p.map str) ok) (h2 : Cells w (.slice pb h'.p.length pd) 1 h'.p.length (h'.p.map str) ok')
    (HL : ∀ W, w.grownBy W none → Calls Tryz.prog 43 #[.slice la ln lc, .slice lb lm ld] W fun e w' => e = .returned (.bool b) ∧ W.grownBy w' none) :
    Calls Tryz.prog 16 #[exV h (.slice pa h.p.length pc) (.slice la ln lc), exV h' (.slice pb h'.p.length pd) (.slice lb lm ld)] w fun e w' => e = .returned (.bool (hdEq h h' && b)) ∧ w.grownBy w' none := by
  have HH := Lib.hid (hdEq_parts h h')
  have HT := Lib.hid (fun (W : World) (g : w.grownBy W none) => equalTexts_any (h1.gb g (by simp)) (h2.gb g (by simp)))
  have HL' := Lib.hid HL
  clear HL h1 h2
  obtain ⟨op, s, vk, vn, vs, p⟩ := h
  obtain ⟨op', s', vk', vn', vs', p'⟩ := h'
  simp only at HH HT ⊢
  cases c1 : (op == op') with
  | false =>
    have HF := Lib.hid (show (hdEq ⟨op, s, vk, vn, vs, p⟩ ⟨op', s', vk', vn', vs', p'⟩ && b) = false by rw [HH.out, c1]; simp)
    go_enter Tryz.func16, Tryz.ntmps16
    go_wp2
    go_ret
    exact ⟨by rw [HF.out]; rfl, (by repeat (first | (with_reducible exact gb_refl _ _) | (with_reducible assumption) | (with_reducible exact gb_none (by assumption)) | (with_reducible refine gb_alloc ?_ _) | (with_reducible refine gb_drew ?_) | (with_reducible refine gb_drewN ?_ _) | ((with_reducible refine gb_set ?_ _ _ ?h2); case h2 => first | exact .inl rfl | exact .inr (Nat.le_refl _) | exact .inr (by simp <;> omega)) | (with_reducible refine gb_sub ?_ (by assumption)) | (with_reducible refine gb_trans ?_ (by assumption))))⟩
  | true =>
    cases c2 : (s == s') with
    | false =>
      have HF := Lib.hid (show (hdEq ⟨op, s, vk, vn, vs, p⟩ ⟨op', s', vk', vn', vs', p'⟩ && b) = false by rw [HH.out, c1, c2]; simp)
      go_enter Tryz.func16, Tryz.ntmps16
      go_wp2
      go_ret
      exact ⟨by rw [HF.out]; rfl, (by repeat (first | (with_reducible exact gb_refl _ _) | (with_reducible assumption) | (with_reducible exact gb_none (by assumption)) | (with_reducible refine gb_alloc ?_ _) | (with_reducible refine gb_drew ?_) | (with_reducible refine gb_drewN ?_ _) | ((with_reducible refine gb_set ?_ _ _ ?h2); case h2 => first | exact .inl rfl | exact .inr (Nat.le_refl _) | exact .inr (by simp <;> omega)) | (with_reducible refine gb_sub ?_ (by assumption)) | (with_reducible refine gb_trans ?_ (by assumption))))⟩
    | true =>
      by_cases hk : vk = vk'
      · subst hk
        by_cases hn : vn = vn'
        · subst hn
          by_cases hs : vs = vs'
          · subst hs
            have HF := Lib.hid (show (hdEq ⟨op, s, vk, vn, vs, p⟩ ⟨op', s', vk, vn, vs, p'⟩ && b) = (textsEq p p' && b) by rw [HH.out, c1, c2]; simp)
            rw [HF.out]
            clear HH HF
            cases c4 : textsEq p p' with
            | false =>
              have HB := Lib.hid c4
              rw [c4] at HT
              clear c4
              go_enter Tryz.func16, Tryz.ntmps16
              go_wp2_with fail
              refine (HT.out _ ?gg).mono ?_
              case gg => exact (by repeat (first | (with_reducible exact gb_refl _ _) | (with_reducible assumption) | (with_reducible exact gb_none (by assumption)) | (with_reducible refine gb_alloc ?_ _) | (with_reducible refine gb_drew ?_) | (with_reducible refine gb_drewN ?_ _) | ((with_reducible refine gb_set ?_ _ _ ?h2); case h2 => first | exact .inl rfl | exact .inr (Nat.le_refl _) | exact .inr (by simp <;> omega)) | (with_reducible refine gb_sub ?_ (by assumption)) | (with_reducible refine gb_trans ?_ (by assumption))))
              rintro e w1 ⟨rfl, g1⟩
              have gw : w.grownBy w1 none := gb_trans (gb_alloc (World.grownBy_alloc w _ none) _) g1
              go_wp2
              go_ret
              exact ⟨rfl, gw⟩
            | true =>
              have HB := Lib.hid c4
              rw [c4] at HT
              clear c4
              go_enter Tryz.func16, Tryz.ntmps16
              go_wp2_with fail
              refine (HT.out _ ?gg).mono ?_
              case gg => exact (by repeat (first | (with_reducible exact gb_refl _ _) | (with_reducible assumption) | (with_reducible exact gb_none (by assumption)) | (with_reducible refine gb_alloc ?_ _) | (with_reducible refine gb_drew ?_) | (with_reducible refine gb_drewN ?_ _) | ((with_reducible refine gb_set ?_ _ _ ?h2); case h2 => first | exact .inl rfl | exact .inr (Nat.le_refl _) | exact .inr (by simp <;> omega)) | (with_reducible refine gb_sub ?_ (by assumption)) | (with_reducible refine gb_trans ?_ (by assumption))))
              rintro e w1 ⟨rfl, g1⟩
              have gw : w.grownBy w1 none := gb_trans (gb_alloc (World.grownBy_alloc w _ none) _) g1
              have x6 := (((Blk.new w [.int .i64 op, str s, .int .i64 vk, .int .i64 vn, str vs, .slice pa p.length pc, .slice la ln lc] 29).alloc _).gb g1 (by simp)).cell 6
              have y6 := (show Blk w1 (w.heap.size + 1) [.int .i64 op', str s', .int .i64 vk, .int .i64 vn, str vs, .slice pb p'.length pd, .slice lb lm ld] 29 from ((Blk.new _ _ _).of_eq (by simp) rfl).gb g1 (by simp)).cell 6
              simp only [List.getElem?_cons_zero, List.getElem?_cons_succ] at x6 y6
              go_wp2_with fail
              refine (HL'.out _ gw).mono ?_
              rintro e w2 ⟨rfl, g2⟩
              go_wp2
              go_ret
              exact ⟨rfl, gb_trans gw g2⟩
          · have HF := Lib.hid (show (hdEq ⟨op, s, vk, vn, vs, p⟩ ⟨op', s', vk, vn, vs', p'⟩ && b) = false by rw [HH.out, c1, c2]; simp [hs])
            go_enter Tryz.func16, Tryz.ntmps16
            go_wp2
            go_ret
            exact ⟨by rw [HF.out]; rfl, (by repeat (first | (with_reducible exact gb_refl _ _) | (with_reducible assumption) | (with_reducible exact gb_none (by assumption)) | (with_reducible refine gb_alloc ?_ _) | (with_reducible refine gb_drew ?_) | (with_reducible refine gb_drewN ?_ _) | ((with_reducible refine gb_set ?_ _ _ ?h2); case h2 => first | exact .inl rfl | exact .inr (Nat.le_refl _) | exact .inr (by simp <;> omega)) | (with_reducible refine gb_sub ?_ (by assumption)) | (with_reducible refine gb_trans ?_ (by assumption))))⟩
        · have HF := Lib.hid (show (hdEq ⟨op, s, vk, vn, vs, p⟩ ⟨op', s', vk, vn', vs', p'⟩ && b) = false by rw [HH.out, c1, c2]; simp [hn])
          go_enter Tryz.func16, Tryz.ntmps16
          go_wp2
          go_ret
          exact ⟨by rw [HF.out]; rfl, (by repeat (first | (with_reducible exact gb_refl _ _) | (with_reducible assumption) | (with_reducible exact gb_none (by assumption)) | (with_reducible refine gb_alloc ?_ _) | (with_reducible refine gb_drew ?_) | (with_reducible refine gb_drewN ?_ _) | ((with_reducible refine gb_set ?_ _ _ ?h2); case h2 => first | exact .inl rfl | exact .inr (Nat.le_refl _) | exact .inr (by simp <;> omega)) | (with_reducible refine gb_sub ?_ (by assumption)) | (with_reducible refine gb_trans ?_ (by assumption))))⟩
      · have HF := Lib.hid (show (hdEq ⟨op, s, vk, vn, vs, p⟩ ⟨op', s', vk', vn', vs', p'⟩ && b) = false by rw [HH.out, c1, c2]; simp [hk])
        go_enter Tryz.func16, Tryz.ntmps16
        go_wp2
        go_ret
        exact ⟨by rw [HF.out]; rfl, (by repeat (first | (with_reducible exact gb_refl _ _) | (with_reducible assumption) | (with_reducible exact gb_none (by assumption)) | (with_reducible refine gb_alloc ?_ _) | (with_reducible refine gb_drew ?_) | (with_reducible refine gb_drewN ?_ _) | ((with_reducible refine gb_set ?_ _ _ ?h2); case h2 => first | exact .inl rfl | exact .inr (Nat.le_refl _) | exact .inr (by simp <;> omega)) | (with_reducible refine gb_sub ?_ (by assumption)) | (with_reducible refine gb_trans ?_ (by assumption))))⟩

end Go.Proofs.YtmcajbhljbbglaaGreatDoor
