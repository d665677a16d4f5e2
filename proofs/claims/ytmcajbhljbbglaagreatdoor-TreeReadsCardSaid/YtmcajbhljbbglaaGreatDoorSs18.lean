/-
  Contracts of the statement parser: a block of one statement that sets a value.
  Contracts of the statement parser: a program of one statement that sets a value.
  syntax.Program at a program of one statement that sets a value.
-/
import Derived.Test.YtmcajbhljbbglaaGreatDoorSs17
set_option linter.all false
set_option linter.unusedVariables false
set_option linter.unusedSimpArgs false
set_option linter.unnecessarySimpa false
set_option linter.constructorNameAsVariable false
set_option linter.deprecated false

namespace Go.Proofs.YtmcajbhljbbglaaGreatDoor
open Go.RowKit
section
variable {b : Nat} {tv wv : Value} {l : List Tok} {wl : List Bs}

theorem info_st : (Tryz.prog.info? 50).map (fun i => (i.zero, i.size, i.bytes)) = some (some (.agg (stC 0 (.slice none 0 0)).toArray), 10, 192) := by kernel_rfl
theorem ending_no : isEndingM [] = false := by decide +kernel

/-- v is a row of one statement that sets a value -/
def SetRow (B : Nat) (w : World) (v : Value) (t x : Ex) : Prop := ∃ la lc, w.ownsRow B 50 10 v 1 (stC 0 (.slice la 2 lc)) ∧ RepL (since B) w (.slice la 2 lc) (.two t x)

theorem SetRow.gb {B : Nat} {w w1 : World} {v : Value} {t x : Ex} {r : Option Nat} (h : SetRow B w v t x) (g : w.grownBy w1 r) (hr : ∀ q, r = some q → q < B) : SetRow B w1 v t x := by
  obtain ⟨la, lc, ho, hl⟩ := h
  exact ⟨la, lc, ownsRow_gb ho g (by intro k hk _ e; have := hr k e.symm; omega), hl.gb g (by intro k hk _ e; have := hr k e.symm; have : B ≤ k := hk; omega)⟩

def BlkR (b : Nat) (tv wv : Value) (l : List Tok) (wl : List Bs) (w : World) (t x : Ex) (g : Nat) (v : Value) (wr : World) : Prop :=
  match g with
  | 0 => SetRow w.heap.size wr v t x ∧ Par wr b tv wv l wl l.length ∧ w.grownBy wr (some b)
  | _ => v = .slice none 0 0 ∧ wr = w

set_option maxRecDepth 20000 in
set_option maxHeartbeats 1000000 in
theorem block_set {E : Nat → Res Ex} (hE : CE 56 b tv wv l wl E) (hl : Short l) {w : World} (hg : Glob w) (hgb : 0 < b) {i : Nat} (hp : Par w b tv wv l wl i) (hk : (tokAt l i).kind = 0) (hs : isSignM (tokAt l (i + 1)) [61] = true)
    {t x : Ex} {j k : Nat} (ht : targetM l E i = .ok t j) (hs2 : isSignM (tokAt l j) [61] = true) (he : E (j + 1) = .ok x k) (hend : endM l k = .ok () (k + 1)) (hlen : k + 1 = l.length) (hi : i < l.length) :
    Calls Tryz.prog 95 #[.pointer (some ⟨b, 0, none⟩)] w fun e w' => ∃ v, e = .returned v ∧ SetRow w.heap.size w' v t x ∧ Par w' b tv wv l wl l.length ∧ w.grownBy w' (some b) := by
  have hb := hp.lt
  have hf := hp.few
  have HST : ∀ w1, Par w1 b tv wv l wl i → Calls Tryz.prog 130 #[.pointer (some ⟨b, 0, none⟩)] w1 (SetPost b tv wv l wl w1 t x l.length) := fun w1 h => by rw [← hlen]; exact stmt_set hE hl h hk hs ht hs2 he hend
  have HS := Lib.hid (And.intro HST (And.intro hs hg))
  obtain ⟨ta, tc, rfl⟩ := hp.tv_eq
  clear HST hE hk hs ht hs2 he hend hg hl
  go_enter Tryz.func95, Tryz.ntmps95
  go_wp2_with fail
  go_loopg [3] 1 (fun g v wr => BlkR b (.slice ta l.length tc) wv l wl w t x g v wr)
  case atStart => exact ⟨rfl, rfl⟩
  case round =>
    cases gk with
    | zero =>
      obtain ⟨hR, hpe, gr⟩ := hrel
      have HR := Lib.hid (And.intro hR (And.intro hpe gr))
      clear hR
      have c0 := hpe.c0
      have c1 := hpe.c1
      clear hp hpe gr
      have hd : decide ((l.length : Int) < (l.length : Int)) = false := by simp
      go_wp2_with fail
      go_quiet (fail)
      go_wp2
      go_ret
      exact ⟨_, rfl, HR.out.1.gb (gb_drewN (gb_refl _ none) _) (by simp), HR.out.2.1.drewN _, gb_drewN HR.out.2.2 _⟩
    | succ gk =>
      obtain ⟨rfl, rfl⟩ := hrel
      have c0 := hp.c0
      have c1 := hp.c1
      have hd : decide ((i : Int) < (l.length : Int)) = true := by simp; omega
      go_wp2_with fail
      go_region_with (first | (go_at_call 129; refine (keyword_set (hp.gbN (gb_drew (gb_refl wr none))) HS.out.2.1).mono ?_; rintro e w1 ⟨rfl, g1⟩) | (go_at_call 128; refine (isEnding_any [] ((HS.out.2.2.gb (gb_drew (gb_refl wr none)) (by simp)).gb g1 (by simp))).mono ?_; rintro e w2 ⟨rfl, g2⟩; rw [ending_no]))
      all_goals
        have gA : wr.grownBy w2 none := gb_trans (gb_trans (gb_drew (gb_refl wr none)) g1) g2
        clear g1 g2
        go_wp2_with fail
        refine (HS.out.1 _ (hp.gbN gA)).mono ?_
        rintro e w3 ⟨la, lc, rfl, hrep, hpar, g3⟩
        have hsA := gA.size
        have hs3 := g3.size
        have hpl := hpar.lt
        have hown4 : (w3.alloc (.cells (stC 0 (.slice la 2 lc)).toArray 50 (0, 0))).ownsRow wr.heap.size 50 10 (.slice none 0 0) 0 [] := ⟨rfl, .inl ⟨rfl, rfl⟩⟩
        have gB := World.grownBy_alloc w3 (.cells (stC 0 (.slice la 2 lc)).toArray 50 (0, 0)) none
        have hbs : wr.heap.size ≤ (w3.alloc (.cells (stC 0 (.slice la 2 lc)).toArray 50 (0, 0))).heap.size := by simp; omega
        obtain ⟨i0, hi0, hz0, hz1, hz2⟩ := info_parts info_st
        have hnc := new_cells w3 (stC 0 (.slice la 2 lc)) 50
        have HX := Lib.hid (And.intro hi0 (And.intro hz0 (And.intro hz1 (And.intro hz2 (And.intro hnc hown4)))))
        clear hi0 hz0 hz1 hz2 hnc hown4
        go_wp2_with (at_builtin; obtain ⟨hi0, hz0, hz1, hz2, hnc, hown4⟩ := HX.out; refine wpList_append_x rfl _ _ 43 rfl wr.heap.size 50 i0 _ 10 192 Tryz.underlying43 hi0 hz0 hz1 hz2 rfl (by decide) _ _ _ rfl hown4 ⟨w3.heap.size, 0, none⟩ 1 1 (stC 0 (.slice la 2 lc)) rfl rfl hnc (by simp [Value.oneCell']) (by decide) (by omega) hbs ?_; intro v' w5 hown5 g5 hn5; clear hi0 hz0 hz1 hz2 hnc hown4)
        have g5' : (w3.alloc (.cells (stC 0 (.slice la 2 lc)).toArray 50 (0, 0))).grownBy w5 none := g5
        have gC := gb_trans gB g5'
        go_roundg 0
        case measure => omega
        case rel => exact ⟨⟨la, lc, hown5, (hrep.gb gC (by simp)).mono (by intro q hq _; have : w2.heap.size ≤ q := hq; show wr.heap.size ≤ q; omega)⟩, hpar.gbN gC, gb_sub (gb_trans (gb_none gA) g3) gC⟩
end

end Go.Proofs.YtmcajbhljbbglaaGreatDoor

namespace Go.Proofs.YtmcajbhljbbglaaGreatDoor
open Go.RowKit
section
variable {b : Nat} {tv wv : Value} {l : List Tok} {wl : List Bs}

abbrev mainL : Bs := [77, 65, 73, 78]
/-- v is a program of one procedure, MAIN, of one statement that sets a value -/
def SetProg (B : Nat) (w : World) (v : Value) (t x : Ex) : Prop := ∃ kP bv, v = .slice (some ⟨kP, 0, none⟩) 1 1 ∧ B ≤ kP ∧ Blk w kP [str mainL, .bool false, .slice none 0 0, bv] 45 ∧ SetRow B w bv t x
theorem SetProg.gb {B : Nat} {w w1 : World} {v : Value} {t x : Ex} {r : Option Nat} (h : SetProg B w v t x) (g : w.grownBy w1 r) (hr : ∀ q, r = some q → q < B) : SetProg B w1 v t x := by
  obtain ⟨kP, bv, e, hB, hb, hs⟩ := h
  exact ⟨kP, bv, e, hB, hb.gb g (fun e => by have := hr _ e.symm; omega), hs.gb g hr⟩

set_option maxRecDepth 20000 in
set_option maxHeartbeats 1000000 in
theorem program_set {w : World} {i : Nat} {t x : Ex} (hp : Par w b tv wv l wl i)
    (hB : Calls Tryz.prog 95 #[.pointer (some ⟨b, 0, none⟩)] w fun e w' => ∃ v, e = .returned v ∧ SetRow w.heap.size w' v t x ∧ Par w' b tv wv l wl l.length ∧ w.grownBy w' (some b)) :
    Calls Tryz.prog 67 #[.pointer (some ⟨b, 0, none⟩)] w fun e w' => ∃ v, e = .returned v ∧ SetProg w.heap.size w' v t x ∧ Par w' b tv wv l wl l.length ∧ w.grownBy w' (some b) := by
  have hb := hp.lt
  have HB := Lib.hid hB
  obtain ⟨ta, tc, rfl⟩ := hp.tv_eq
  clear hB
  go_enter Tryz.func67, Tryz.ntmps67
  go_wp2_with fail
  refine HB.out.mono ?_
  rintro e w1 ⟨bv, rfl, hS, hpar, g1⟩
  obtain ⟨a0, n0, c0, rfl⟩ : ∃ a n c, bv = .slice a n c := by
    obtain ⟨la, lc, ⟨_, h | ⟨g, cap, cur, rfl, _⟩⟩, _⟩ := hS
    · exact absurd h.2 (by decide)
    · exact ⟨_, _, _, rfl⟩
  have gN := World.grownBy_alloc w1 (.cells #[str mainL, .bool false, .slice none 0 0, .slice a0 n0 c0] 45 (0, 0)) none
  have hS2 := hS.gb gN (by simp)
  have hBk := Blk.new w1 [str mainL, .bool false, .slice none 0 0, .slice a0 n0 c0] 45
  have hs1 := g1.size
  have hpar2 := hpar.gbN gN
  have d0 := hpar2.c0
  have d1 := hpar2.c1
  have HF := Lib.hid (And.intro (show SetProg w.heap.size _ (.slice (some ⟨w1.heap.size, 0, none⟩) 1 1) t x from ⟨_, _, rfl, hs1, hBk, hS2⟩) (And.intro hpar2 (gb_sub g1 gN)))
  clear hS hS2 hBk gN hpar hpar2 hp
  have hd : decide ((l.length : Int) < (l.length : Int)) = false := by simp
  go_wp2_with fail
  go_loopg [3] 1 (fun _ v wr => v = .slice (some ⟨w1.heap.size, 0, none⟩) 1 1 ∧ wr = (w1.alloc (.cells #[str mainL, .bool false, .slice none 0 0, .slice a0 n0 c0] 45 (0, 0))))
  case atStart => exact ⟨rfl, rfl⟩
  case round =>
    obtain ⟨rfl, rfl⟩ := hrel
    go_wp2_with fail
    go_quiet (fail)
    go_wp2
    go_ret
    exact ⟨_, rfl, HF.out.1.gb (gb_drewN (gb_refl _ none) _) (by simp), HF.out.2.1.drewN _, gb_drewN HF.out.2.2 _⟩

def SomeP (k : Nat) (w : World) : Prop := ∃ a n c, Blk w k [.slice a n c] 34
def HoldsP (k : Nat) (B : Nat) (w : World) (tx : Ex × Ex) : Prop := ∃ v, Blk w k [v] 34 ∧ SetProg B w v tx.1 tx.2

set_option maxRecDepth 20000 in
set_option maxHeartbeats 1000000 in
theorem program1_set {w : World} {k : Nat} {t x : Ex} (hp : Par w b tv wv l wl 0) (hk : Blk w k [.slice none 0 0] 34) (hkb : k < b) (ht : TRow w tv l (· < k)) (hs : SRow w wv wl (fun g => k < g ∧ g < b))
    (hB : Calls Tryz.prog 67 #[.pointer (some ⟨b, 0, none⟩)] w fun e w' => ∃ v, e = .returned v ∧ SetProg w.heap.size w' v t x ∧ Par w' b tv wv l wl l.length ∧ w.grownBy w' (some b)) :
    Calls Tryz.prog 66 #[.pointer (some ⟨b, 0, none⟩), .pointer (some ⟨k, 0, none⟩)] w (RulePost b k w (SomeP k) (HoldsP k) (.ok (t, x) l.length)) := by
  have hb := hp.lt
  have HB := Lib.hid hB
  clear hB
  go_enter Tryz.func66, Tryz.ntmps66
  go_wp2_with fail
  refine HB.out.mono ?_
  rintro e w1 ⟨v, rfl, ⟨kP, bv, rfl, hP⟩, hpar, g1⟩
  have hk1 := hk.gb g1 (by simp; omega)
  have k0 := hk1.cell 0
  have kf := hk1.frozen 0
  simp only [List.getElem?_cons_zero] at k0
  have hs1 := g1.size
  have HF := Lib.hid (And.intro hP (And.intro hpar hk1))
  clear hP hpar hk1
  go_wp2
  have gS : w1.grownBy (w1.setCell ⟨k, 0, none⟩ (.slice (some ⟨kP, 0, none⟩) 1 1)) (some k) := gb_set (gb_refl _ _) _ _ (.inl rfl)
  have hk2 := HF.out.2.2.set 0 (.slice (some ⟨kP, 0, none⟩) 1 1)
  refine ⟨rfl, .tuple #[], by simp [results, Tryz.results66, go_sem], (Grown2.of g1 (.inr (.inl rfl))).trans (Grown2.of gS (.inr (.inr rfl))), ⟨_, _, _, hk2⟩, rfl, ⟨_, hk2, ?_⟩, ?_⟩
  · exact SetProg.gb (w := w1) (r := some k) ⟨kP, bv, rfl, HF.out.1⟩ gS (by intro q e; cases e; omega)
  · exact gb_cell gS HF.out.2.1.c1 (by simp; omega)
end

end Go.Proofs.YtmcajbhljbbglaaGreatDoor

namespace Go.Proofs.YtmcajbhljbbglaaGreatDoor
open Go.RowKit

theorem SetProg.mono {B B' : Nat} {w : World} {v : Value} {t x : Ex} (h : SetProg B w v t x) (hB : B' ≤ B) : SetProg B' w v t x := by
  obtain ⟨kP, bv, e, hk, hb, la, lc, ⟨hn, ho⟩, hl⟩ := h
  refine ⟨kP, bv, e, by omega, hb, la, lc, ⟨hn, ?_⟩, hl.mono fun q hq _ => Nat.le_trans hB hq⟩
  rcases ho with h | ⟨g, cap, cur, h1, h2, h3⟩
  · exact .inl h
  · exact .inr ⟨g, cap, cur, h1, by omega, h3⟩
theorem cf_prog1 (k : Nat) (v : Value) (w : World) : (callFunc 66 (#[v] ++ #[.pointer (some ⟨k, 0, none⟩)])).run Tryz.prog w = .ok (.enter 66 (#[v] ++ #[.pointer (some ⟨k, 0, none⟩)])) w := by kernel_rfl

set_option maxRecDepth 20000 in
set_option maxHeartbeats 2000000 in
theorem progs_set {w : World} (hg : Glob w) {tv : Value} {l : List Tok} {day : Bs → Int} (hl : Tame day l) (ht : TRow w tv l (fun _ => True)) (hlen : l.length ≤ 4001) (n : Nat)
    (hk : (tokAt l 0).kind = 0) (hs : isSignM (tokAt l 1) [61] = true) {t x : Ex} {j k : Nat} (htg : targetM l (exprM l day n) 0 = .ok t j) (hs2 : isSignM (tokAt l j) [61] = true) (he : exprM l day n (j + 1) = .ok x k) (hend : endM l k = .ok () (k + 1)) (hle : k + 1 = l.length) :
    Calls Tryz.prog 34 #[tv] w fun e w' => ∃ v, e = .returned (.tuple #[v, .int .i64 (-1)]) ∧ SetProg w.heap.size w' v t x ∧ w.grownBy w' none := by
  have hmf : ∀ (fn : Fn) (first cap : Array Value) (w : World), (Instr.makeFunc fn first cap).run Tryz.prog w = .ok (.func fn first cap) w := fun _ _ _ _ => rfl
  have hK := Blk.new w [.slice none 0 0] 34
  have g0 := World.grownBy_alloc w (.cells [.slice none 0 0].toArray 34 (0, 0)) none
  have ht0 := (ht.mono (ok' := fun g => g < w.heap.size) (fun k _ h => h)).gb g0 (by simp)
  have hg0 := hg.gb g0 (by simp)
  have hK0 := hK.lt
  have hw0 : 0 < w.heap.size := by
    unfold Glob Lib.TabIs World.var? at hg
    simp only [glob_at, Option.bind_some] at hg
    rcases Nat.lt_or_ge 0 w.heap.size with h' | h'
    · exact h'
    · rw [Array.getElem?_eq_none h'] at hg; simp at hg
  have hBL : ∀ w1 b wv, Glob w1 → 0 < b → Par w1 b tv wv l wordsL 0 → Calls Tryz.prog 95 #[.pointer (some ⟨b, 0, none⟩)] w1 fun e w' => ∃ v, e = .returned v ∧ SetRow w1.heap.size w' v t x ∧ Par w' b tv wv l wordsL l.length ∧ w1.grownBy w' (some b) :=
    fun w1 b wv hg1 hb1 hp1 => block_set (exprs_any hl n) hl.short hg1 hb1 hp1 hk hs htg hs2 he hend hle (by omega)
  have H := Lib.hid hBL
  clear hBL hk hs htg hs2 he hend hg hl
  go_enter Tryz.func34, Tryz.ntmps34
  go_wp2_with fail
  refine (run_any (k := w.heap.size) hg0 (ht0.mono (fun _ _ _ => trivial)) hlen 66 #[.pointer (some ⟨w.heap.size, 0, none⟩)] (cf_prog1 _) (.ok (t, x) l.length) hK0 (SomeP w.heap.size) ?_ (HoldsP w.heap.size) ?_ ?_).mono ?_
  · rintro w2 w3 r ⟨a, n, c, h⟩ g hr
    exact ⟨a, n, c, h.gb g (by simp at hr ⊢; omega)⟩
  · rintro B w2 w3 a r ⟨v, hb, hv⟩ g hr hB
    exact ⟨v, hb.gb g (by simp at hr ⊢; omega), hv.gb g (by intro q e; cases e; exact hB)⟩
  · intro w1 b wv g1 hb1 hp hs
    simp at hb1
    exact program1_set hp (hK.gb g1 (by simp)) (by omega) ((ht0.gb g1 (by simp)).mono (fun q hq _ => hq)) (hs.mono (fun q hq _ => ⟨by have := hq.1; simp at this; omega, hq.2⟩)) (program_set hp (H.out _ _ _ (hg0.gb g1 (by simp)) (by omega) hp))
  rintro e w1 ⟨rfl, g1, _, hV⟩
  obtain ⟨B, hB, v, hb, hv⟩ := hV _ _ rfl
  obtain ⟨kP, bv, rfl, hP⟩ := hv
  have k0 := hb.cell 0
  simp only [List.getElem?_cons_zero] at k0
  have hla : lineAt l (.ok (t, x) l.length : Res (Ex × Ex)) = -1 := by simp [lineAt]
  have HF := Lib.hid (And.intro hP hB)
  rw [hla]
  clear hP hV
  go_wp2
  exact bodyPost_ret (v := .tuple #[.slice (some ⟨kP, 0, none⟩) 1 1, .int .i64 (-1)]) (by simp [results, Tryz.results34, go_sem]) rfl ⟨_, rfl, SetProg.mono ⟨kP, bv, rfl, HF.out.1⟩ (by have := HF.out.2; simp at this; omega), gb_sub' g0 g1 (.inr (Nat.le_refl _))⟩

end Go.Proofs.YtmcajbhljbbglaaGreatDoor
