/-
  Contracts of the statement parser: isEnding, keyword where a value is set.
  Contracts of the statement parser: a statement that sets a value.
  Contracts of the statement parser: a statement that sets a value.
-/
import Derived.Test.YtmcajbhljbbglaaGreatDoorSs16
set_option linter.all false
set_option linter.unusedVariables false
set_option linter.unusedSimpArgs false
set_option linter.unnecessarySimpa false
set_option linter.constructorNameAsVariable false
set_option linter.deprecated false

namespace Go.Proofs.YtmcajbhljbbglaaGreatDoor
open Go.RowKit
section
variable {b : Nat} {tv wv : Value} {l : List Tok} {wl : List Bs}

def endsText : Bs := [69, 76, 83, 69, 73, 70, 32, 69, 76, 83, 69, 32, 69, 78, 68, 73, 70, 32, 67, 65, 83, 69, 32, 79, 84, 72, 69, 82, 87, 73, 83, 69, 32, 69, 78, 68, 67, 65, 83, 69, 32, 69, 78, 68, 68, 79, 32, 78, 69, 88, 84, 32, 82, 69, 67, 79, 86, 69, 82, 32, 69, 78, 68, 32, 80, 82, 79, 67, 69, 68, 85, 82, 69, 32, 70, 85, 78, 67, 84, 73, 79, 78]
theorem ends_ascii : endsText.all (fun b => decide (b.toNat < 128)) = true := by decide +kernel
def endsL : List Bs := [[69, 76, 83, 69, 73, 70], [69, 76, 83, 69], [69, 78, 68, 73, 70], [67, 65, 83, 69], [79, 84, 72, 69, 82, 87, 73, 83, 69], [69, 78, 68, 67, 65, 83, 69], [69, 78, 68, 68, 79], [78, 69, 88, 84], [82, 69, 67, 79, 86, 69, 82], [69, 78, 68], [80, 82, 79, 67, 69, 68, 85, 82, 69], [70, 85, 78, 67, 84, 73, 79, 78]]
theorem ends_fields : Lib.fields endsText = endsL := by decide +kernel
def isEndingM (s : Bs) : Bool := Lib.containsS (endsL.map fun x => ⟨x.toArray⟩) ⟨s.toArray⟩

set_option maxRecDepth 20000 in
theorem isEnding_any (s : Bs) {w : World} (hg : Glob w) : Calls Tryz.prog 128 #[str s] w fun e w' => e = .returned (.bool (isEndingM s)) ∧ w.grownBy w' none := by
  have HG := Lib.hid hg
  clear hg
  go_enter Tryz.func128, Tryz.ntmps128
  go_wp2_with fail
  refine (Tryz.strings_Fields ⟨endsText.toArray⟩ w (by decide +kernel) ?_ HG.out).mono ?_
  · intro j b hb
    have hb : endsText[j]? = some b := hb
    have h2 := List.all_eq_true.1 ends_ascii b (List.mem_of_getElem? hb)
    simpa using h2
  rintro e w1 ⟨rfl, rfl⟩
  rw [show (Lib.fields (ByteArray.mk endsText.toArray).data.toList) = endsL from ends_fields]
  have hn : endsL.length = 12 := rfl
  have HN := Lib.hid hn
  clear hn
  generalize hE : endsL = E at *
  go_wp2_with fail
  refine (Tryz.slices_Contains_string w.heap.size 0 E.length E.length (E.map fun x => ⟨x.toArray⟩) ⟨s.toArray⟩ _ (by simp) (by have := HN.out; omega) ?_).mono ?_
  · intro j hj
    simp at hj
    simp [List.getD, hj]
  rintro e w2 ⟨rfl, rfl⟩
  go_wp2
  go_ret
  exact ⟨by rw [List.take_of_length_le (by simp), isEndingM, hE]; rfl, World.grownBy_alloc w _ none⟩

set_option maxRecDepth 20000 in
set_option maxHeartbeats 1000000 in
theorem keyword_set {w : World} {i : Nat} (h : Par w b tv wv l wl i) (hs : isSignM (tokAt l (i + 1)) [61] = true) :
    Calls Tryz.prog 129 #[.pointer (some ⟨b, 0, none⟩)] w fun e w' => e = .returned (str []) ∧ w.grownBy w' none := by
  have hs' : ((tokAt l (i + 1)).kind == 4 && (tokAt l (i + 1)).text == [61]) = true := hs
  have HS := Lib.hid hs'
  clear hs hs'
  go_enter Tryz.func129, Tryz.ntmps129
  go_wp2_with fail
  refine (ahead1 h).mono ?_
  rintro e w1 ⟨rfl, g⟩
  go_wp2_with fail
  go_loopg [10] 1 (fun g v10 wr => v10 = .int .i64 0 ∧ wr = ((w1.alloc (.cells #[.int .i64 (tokAt l (i + 1)).kind, .int .i64 (tokAt l (i + 1)).pos, str (tokAt l (i + 1)).text] 89 (0, 0))).alloc (.cells #[str [61], str [58, 61], str [91], str [45, 62]] 9 (0, 0))))
  case atStart => exact ⟨rfl, rfl⟩
  case round =>
    obtain ⟨rfl, rfl⟩ := hrel
    go_wp2_with fail
    refine (isSign_any _ _ _ [61] _).mono ?_
    rintro e w2 ⟨rfl, g2⟩
    rw [HS.out]
    go_wp2
    go_ret
    exact ⟨rfl, (by repeat (first | (with_reducible exact gb_refl _ _) | (with_reducible assumption) | (with_reducible exact gb_none (by assumption)) | (with_reducible refine gb_alloc ?_ _) | (with_reducible refine gb_drew ?_) | (with_reducible refine gb_drewN ?_ _) | ((with_reducible refine gb_set ?_ _ _ ?h2); case h2 => first | exact .inl rfl | exact .inr (Nat.le_refl _) | exact .inr (by simp <;> omega)) | (with_reducible refine gb_sub ?_ (by assumption)) | (with_reducible refine gb_trans ?_ (by assumption))))⟩
end

end Go.Proofs.YtmcajbhljbbglaaGreatDoor

namespace Go.Proofs.YtmcajbhljbbglaaGreatDoor
open Go.RowKit

def set10 (w : World) (k : Nat) (v0 v1 v2 v3 v4 v5 v6 v7 v8 v9 : Value) : World :=
  (((set7 w k v0 v1 v2 v3 v4 v5 v6).setCell ⟨k, 7, none⟩ v7).setCell ⟨k, 8, none⟩ v8).setCell ⟨k, 9, none⟩ v9
theorem Blk.set10 {w : World} {k : Nat} {a0 a1 a2 a3 a4 a5 a6 a7 a8 a9 : Value} {t : TypeId} (h : Blk w k [a0, a1, a2, a3, a4, a5, a6, a7, a8, a9] t) (v0 v1 v2 v3 v4 v5 v6 v7 v8 v9 : Value) : Blk (set10 w k v0 v1 v2 v3 v4 v5 v6 v7 v8 v9) k [v0, v1, v2, v3, v4, v5, v6, v7, v8, v9] t :=
  ((((((((((h.set 0 v0).set 1 v1).set 2 v2).set 3 v3).set 4 v4).set 5 v5).set 6 v6).set 7 v7).set 8 v8).set 9 v9).of_eq rfl rfl
theorem gb_set10 (w : World) (k : Nat) (v0 v1 v2 v3 v4 v5 v6 v7 v8 v9 : Value) : w.grownBy (set10 w k v0 v1 v2 v3 v4 v5 v6 v7 v8 v9) (some k) :=
  gb_set1 (gb_set1 (gb_set1 (gb_set7 w k v0 v1 v2 v3 v4 v5 v6) 7 v7) 8 v8) 9 v9

theorem st_struct : (match (Tryz.prog.underlying 50) with | some (.struct _) => true | _ => false) = true := by kernel_rfl
theorem results_st {fn : Func} {p : Tmp} (h : fn.results = #[.cell p 50]) (tmps : Array Value) {w : World} {k : Nat} {cs : List Value} (hb : Blk w k cs 50) (hn : cs.length = 10) (hp : tmps.getD p undef = .pointer (some ⟨k, 0, none⟩)) :
    (results fn tmps).run Tryz.prog w = .ok (.agg cs.toArray) w := by
  have hs := st_struct
  cases hu : Tryz.prog.underlying 50 with
  | none => rw [hu] at hs; cases hs
  | some d =>
    rw [hu] at hs
    exact results_cell_row h tmps w k 50 cs.toArray (0, 0) d hp hb hu (by cases d <;> simp_all) (by rw [List.size_toArray, hn]; show (Tryz.prog.info? 50).map (·.size) = some 10; kernel_rfl)

/-- the cells of a statement that has an operation and expressions alone -/
abbrev stC (op : Int) (xv : Value) : List Value := [.int .i64 op, str [], str [], .slice none 0 0, xv, .slice none 0 0, .int .i64 0, .slice none 0 0, .slice none 0 0, .slice none 0 0]
section
variable {b : Nat} {tv wv : Value} {l : List Tok} {wl : List Bs}

def SetPost (b : Nat) (tv wv : Value) (l : List Tok) (wl : List Bs) (w : World) (t x : Ex) (k : Nat) (e : Ending) (w' : World) : Prop :=
  ∃ la lc, e = .returned (.agg (stC 0 (.slice la 2 lc)).toArray) ∧ RepL (since w.heap.size) w' (.slice la 2 lc) (.two t x) ∧ Par w' b tv wv l wl k ∧ w.grownBy w' (some b)

/-- before the row of two expressions and the statement are made -/
structure SetPre (b : Nat) (tv wv : Value) (l : List Tok) (wl : List Bs) (w : World) (t x : Ex) (pa la pa2 la2 : Option Addr) (pc lc pc2 lc2 k : Nat) (ok : Nat → Prop) (W : World) : Prop where
  par : Par W b tv wv l wl k
  tp : Cells W (.slice pa t.h.p.length pc) 1 t.h.p.length (t.h.p.map str) ok
  tl : RepL ok W (.slice la t.kids.len lc) t.kids
  xp : Cells W (.slice pa2 x.h.p.length pc2) 1 x.h.p.length (x.h.p.map str) ok
  xl : RepL ok W (.slice la2 x.kids.len lc2) x.kids
  gr : w.grownBy W (some b)
  zero : Blk W w.heap.size (stC 0 (.slice none 0 0)) 50
  lt : b < w.heap.size
  hok : ∀ q, ok q → w.heap.size < q
/-- behind it: the statement in block kS, the row in block kR -/
structure SetW (b : Nat) (tv wv : Value) (l : List Tok) (wl : List Bs) (w : World) (t x : Ex) (k kS kR : Nat) (W : World) : Prop where
  par : Par W b tv wv l wl k
  row : RepL (fun q => w.heap.size < q) W (.slice (some ⟨kR, 0, none⟩) 2 2) (.two t x)
  st : Blk W kS (stC 0 (.slice (some ⟨kR, 0, none⟩) 2 2)) 50
  gr : w.grownBy W (some b)
  zero : Blk W w.heap.size (stC 0 (.slice none 0 0)) 50
  ne : w.heap.size < kS
  lt : b < w.heap.size

section
variable {w W : World} {t x : Ex} {pa la pa2 la2 : Option Addr} {pc lc pc2 lc2 k : Nat}
abbrev rowO (t x : Ex) (pa la pa2 la2 : Option Addr) (pc lc pc2 lc2 : Nat) : Obj := .cells (hdC t.h (.slice pa t.h.p.length pc) (.slice la t.kids.len lc) ++ hdC x.h (.slice pa2 x.h.p.length pc2) (.slice la2 x.kids.len lc2)).toArray 29 (0, 0)
abbrev stO (kR : Nat) : Obj := .cells (stC 0 (.slice (some ⟨kR, 0, none⟩) 2 2)).toArray 50 (0, 0)
theorem SetPre.A {ok : Nat → Prop} (h : SetPre b tv wv l wl w t x pa la pa2 la2 pc lc pc2 lc2 k ok W) : SetW b tv wv l wl w t x k (W.heap.size + 1) W.heap.size ((W.alloc (rowO t x pa la pa2 la2 pc lc pc2 lc2)).alloc (stO W.heap.size)) := by
  have hs := h.gr.size
  have hz := h.zero.lt
  have ho : ∀ q, ok q → q < W.heap.size → w.heap.size < q := fun q hq _ => h.hok q hq
  have g2 := World.grownBy_alloc (W.alloc (rowO t x pa la pa2 la2 pc lc pc2 lc2)) (stO W.heap.size) none
  exact ⟨(h.par.alloc _).alloc _, (RepL.two (ok := fun q => w.heap.size < q) rfl hz (h.tp.mono ho) (h.tl.mono ho) (h.xp.mono ho) (h.xl.mono ho)).gb g2 (by simp), (Blk.new _ _ _).of_eq (by simp) rfl, gb_alloc (gb_alloc h.gr _) _, (h.zero.alloc _).alloc _, by omega, h.lt⟩
theorem SetPre.B {ok : Nat → Prop} (h : SetPre b tv wv l wl w t x pa la pa2 la2 pc lc pc2 lc2 k ok W) : SetW b tv wv l wl w t x k W.heap.size (W.heap.size + 1) ((W.alloc (stO (W.heap.size + 1))).alloc (rowO t x pa la pa2 la2 pc lc pc2 lc2)) := by
  have hs := h.gr.size
  have hz := h.zero.lt
  have ho : ∀ q, ok q → q < W.heap.size → w.heap.size < q := fun q hq _ => h.hok q hq
  have g1 := World.grownBy_alloc W (stO (W.heap.size + 1)) none
  exact ⟨(h.par.alloc _).alloc _, RepL.two (ok := fun q => w.heap.size < q) (by simp) (by show w.heap.size < _; omega) ((h.tp.mono ho).gb g1 (by simp)) ((h.tl.mono ho).gb g1 (by simp)) ((h.xp.mono ho).gb g1 (by simp)) ((h.xl.mono ho).gb g1 (by simp)), (Blk.new _ _ _).alloc _, gb_alloc (gb_alloc h.gr _) _, (h.zero.alloc _).alloc _, hz, h.lt⟩
theorem SetPre.C {ok : Nat → Prop} (h : SetPre b tv wv l wl w t x pa la pa2 la2 pc lc pc2 lc2 k ok W) {kS : Nat} (hS : Blk W kS (stC 0 (.slice none 0 0)) 50) (h8 : w.heap.size < kS) (hk : ∀ q, ok q → q ≠ kS) :
    SetW b tv wv l wl w t x k kS W.heap.size ((set10 W kS (.int .i64 0) (str []) (str []) (.slice none 0 0) (.slice (some ⟨W.heap.size, 0, none⟩) 2 2) (.slice none 0 0) (.int .i64 0) (.slice none 0 0) (.slice none 0 0) (.slice none 0 0)).alloc (rowO t x pa la pa2 la2 pc lc pc2 lc2)) := by
  have hs := h.gr.size
  have hz := h.zero.lt
  have hb := h.lt
  have g1 := gb_set10 W kS (.int .i64 0) (str []) (str []) (.slice none 0 0) (.slice (some ⟨W.heap.size, 0, none⟩) 2 2) (.slice none 0 0) (.int .i64 0) (.slice none 0 0) (.slice none 0 0) (.slice none 0 0)
  have hsz : (set10 W kS (.int .i64 0) (str []) (str []) (.slice none 0 0) (.slice (some ⟨W.heap.size, 0, none⟩) 2 2) (.slice none 0 0) (.int .i64 0) (.slice none 0 0) (.slice none 0 0) (.slice none 0 0)).heap.size = W.heap.size := by simp [set10, set7]
  have ho : ∀ q, ok q → q < (set10 W kS (.int .i64 0) (str []) (str []) (.slice none 0 0) (.slice (some ⟨W.heap.size, 0, none⟩) 2 2) (.slice none 0 0) (.int .i64 0) (.slice none 0 0) (.slice none 0 0) (.slice none 0 0)).heap.size → w.heap.size < q := fun q hq _ => h.hok q hq
  have hn : ∀ q, ok q → q < W.heap.size → some q ≠ some kS := fun q hq _ e => by cases e; exact hk _ hq rfl
  exact ⟨(h.par.gb g1 (by intro q e; cases e; omega)).alloc _, RepL.two (ok := fun q => w.heap.size < q) hsz.symm (by show w.heap.size < _; omega) ((h.tp.gb g1 hn).mono ho) ((h.tl.gb g1 hn).mono ho) ((h.xp.gb g1 hn).mono ho) ((h.xl.gb g1 hn).mono ho), (hS.set10 _ _ _ _ _ _ _ _ _ _).alloc _, gb_alloc (gb_sub' h.gr g1 (.inr (by omega))) _, (h.zero.gb g1 (by simp; omega)).alloc _, h8, h.lt⟩
end

end
end Go.Proofs.YtmcajbhljbbglaaGreatDoor

namespace Go.Proofs.YtmcajbhljbbglaaGreatDoor
open Go.RowKit
section
variable {b : Nat} {tv wv : Value} {l : List Tok} {wl : List Bs}

set_option maxRecDepth 20000 in
set_option maxHeartbeats 1000000 in
theorem stmt_set {E : Nat → Res Ex} (hE : CE 56 b tv wv l wl E) (hl : Short l) {w : World} {i : Nat} (hp : Par w b tv wv l wl i) (hk : (tokAt l i).kind = 0) (hs : isSignM (tokAt l (i + 1)) [61] = true)
    {t x : Ex} {j k : Nat} (ht : targetM l E i = .ok t j) (hs2 : isSignM (tokAt l j) [61] = true) (he : E (j + 1) = .ok x k) (hend : endM l k = .ok () (k + 1)) :
    Calls Tryz.prog 130 #[.pointer (some ⟨b, 0, none⟩)] w (SetPost b tv wv l wl w t x (k + 1)) := by
  have hb := hp.lt
  have hq : isSignM (tokAt l i) [63] = false := by simp [isSignM, hk]
  have hpar : isSignM (tokAt l (i + 1)) [40] = false := by
    simp [isSignM] at hs ⊢
    intro _ h; rw [hs.2] at h; exact absurd h (by decide)
  have H := Lib.hid (And.intro hE (And.intro hl (And.intro hs (And.intro ht (And.intro hs2 (And.intro he (And.intro hend (And.intro hq hpar))))))))
  have HK := Lib.hid hk
  clear hE hl hk hs ht hs2 he hend hq hpar
  have gr : w.grownBy (w.alloc (.cells (stC 0 (.slice none 0 0)).toArray 50 (0, 0))) (some b) := gb_alloc (gb_refl _ _) _
  have hz := Blk.new w (stC 0 (.slice none 0 0)) 50
  replace hp := hp.alloc (.cells (stC 0 (.slice none 0 0)).toArray 50 (0, 0))
  go_enter Tryz.func130, Tryz.ntmps130
  go_wp2_with fail
  refine (ahead0 hp).mono ?_
  rintro e w1 ⟨rfl, g⟩
  have gA := gb_alloc g (.cells #[.int .i64 (tokAt l i).kind, .int .i64 (tokAt l i).pos, str (tokAt l i).text] 89 (0, 0))
  have hT := Blk.new w1 [.int .i64 (tokAt l i).kind, .int .i64 (tokAt l i).pos, str (tokAt l i).text] 89
  have hbs := g.size
  simp at hbs
  replace hz := hz.gb gA (by simp)
  replace gr := gb_sub gr gA
  replace hp := hp.gbN gA
  clear g gA
  go_wp2_with fail
  refine (keyword_set hp H.out.2.2.1).mono ?_
  rintro e w2 ⟨rfl, g⟩
  replace hz := hz.gb g (by simp)
  replace gr := gb_sub gr g
  replace hp := hp.gbN g
  replace hT := hT.gb g (by simp)
  clear g
  go_wp2_with fail
  refine (sign_no hp [63] H.out.2.2.2.2.2.2.2.1).mono ?_
  rintro e w3 ⟨rfl, g⟩
  replace hz := hz.gb g (by simp)
  replace gr := gb_sub gr g
  replace hp := hp.gbN g
  replace hT := hT.gb g (by simp)
  have t0 := hT.cell 0
  simp only [List.getElem?_cons_zero] at t0
  rw [HK.out] at t0
  have hTl := hT.lt
  clear g
  go_wp2_with fail
  refine (ahead1 hp).mono ?_
  rintro e w4 ⟨rfl, g⟩
  replace hz := hz.gb g (by simp)
  replace gr := gb_sub gr g
  replace hp := hp.gbN g
  clear g
  go_wp2_with fail
  refine (isSign_any _ _ _ [40] _).mono ?_
  rintro e w5 ⟨rfl, g⟩
  replace hz := hz.gb g (by simp)
  replace gr := gb_sub gr g
  replace hp := hp.gbN g
  clear g t0 hTl hT
  rw [show ((tokAt l (i + 1)).kind == 4 && (tokAt l (i + 1)).text == [40]) = false from H.out.2.2.2.2.2.2.2.2]
  go_wp2_with fail
  refine (target_any H.out.1 H.out.2.1 _ _ hp (by rw [H.out.2.2.2.1]; simp)).mono ?_
  rintro e w6 ⟨g, h6⟩
  rw [H.out.2.2.2.1] at h6
  obtain ⟨v, rfl, ⟨pa, pc, la, lc, rfl, rp, rl⟩, hp6⟩ := h6
  have hbs6 := g.size
  have hbs5 := gr.size
  have hL := Blk.new w6 (hdC t.h (.slice pa t.h.p.length pc) (.slice la t.kids.len lc)) 29
  have hzl5 := hz.lt
  have hsince : ∀ q, since w5.heap.size q → q < w6.heap.size → w.heap.size < q := fun q hq _ => by have : w5.heap.size ≤ q := hq; omega
  have gN := World.grownBy_alloc w6 (.cells (hdC t.h (.slice pa t.h.p.length pc) (.slice la t.kids.len lc)).toArray 29 (0, 0)) none
  have HX := Lib.hid (And.intro (((rp.mono (ok' := fun q => w.heap.size < q) hsince)).gb gN (by simp)) (((rl.mono (ok' := fun q => w.heap.size < q) hsince)).gb gN (by simp)))
  replace gr := gb_sub (gb_trans gr g) gN
  have hp7 := hp6.gbN gN
  replace hz := (hz.gb g (by simp; omega)).gb gN (by simp)
  have hzlt := hz.lt
  clear rp rl g gN hp6 hp hsince
  go_wp2_with fail
  refine (sign_yes hp7 [61] H.out.2.2.2.2.1).mono ?_
  rintro e w8 ⟨rfl, hp8, g8⟩
  have hL8 := hL.gb g8 (by simp; omega)
  replace hz := hz.gb g8 (by simp; omega)
  replace gr := gb_trans gr g8
  have hok : ∀ q, w.heap.size < q → some q ≠ some b := fun q hq e => by cases e; omega
  have HX8 := Lib.hid (And.intro (HX.out.1.gb g8 (fun q hq _ => hok q hq)) (HX.out.2.gb g8 (fun q hq _ => hok q hq)))
  have hLb := hL8.lt
  have hzlt2 : w.heap.size < w8.heap.size := by have := hz.lt; omega
  have cl_0 := hL8.cell 0; have cl_1 := hL8.cell 1; have cl_2 := hL8.cell 2; have cl_3 := hL8.cell 3; have cl_4 := hL8.cell 4; have cl_5 := hL8.cell 5; have cl_6 := hL8.cell 6; simp only [hdC, List.getElem?_cons_zero, List.getElem?_cons_succ] at cl_0 cl_1 cl_2 cl_3 cl_4 cl_5 cl_6; have cl_f := fun i => hL8.frozen i
  clear HX g8 hL hp7
  go_wp2_with fail
  go_region_with (first | (go_at_call 56; refine (H.out.1 _ _ (hp8.gbN (gb_drew (gb_refl w8 none))) (by rw [H.out.2.2.2.2.2.1]; simp)).mono ?_; rintro e w9 ⟨g9, h9⟩; rw [H.out.2.2.2.2.2.1] at h9; obtain ⟨v, rfl, ⟨pa2, pc2, la2, lc2, rfl, rp2, rl2⟩, hp9⟩ := h9;  have gD := gb_trans (gb_drew (gb_refl w8 (some b))) g9; have hL9 := hL8.gb gD (by simp; omega); have hL9t := hL9.lt; have dl_0 := hL9.cell 0; have dl_1 := hL9.cell 1; have dl_2 := hL9.cell 2; have dl_3 := hL9.cell 3; have dl_4 := hL9.cell 4; have dl_5 := hL9.cell 5; have dl_6 := hL9.cell 6; simp only [hdC, List.getElem?_cons_zero, List.getElem?_cons_succ] at dl_0 dl_1 dl_2 dl_3 dl_4 dl_5 dl_6; have dl_f := fun i => hL9.frozen i; have HY := Lib.hid (And.intro rp2 rl2); clear rp2 rl2) | (go_at_call 56; refine (H.out.1 _ _ ((hp8.alloc (.cells (stC 0 (.slice none 0 0)).toArray 50 (0, 0))).gbN (gb_drew (gb_refl _ none))) (by rw [H.out.2.2.2.2.2.1]; simp)).mono ?_; rintro e w9 ⟨g9, h9⟩; rw [H.out.2.2.2.2.2.1] at h9; obtain ⟨v, rfl, ⟨pa2, pc2, la2, lc2, rfl, rp2, rl2⟩, hp9⟩ := h9; have gD := gb_trans (gb_drew (gb_alloc (gb_refl w8 (some b)) (.cells (stC 0 (.slice none 0 0)).toArray 50 (0, 0)))) g9; have hL9 := hL8.gb gD (by simp; omega); have hL9t := hL9.lt; have dl_0 := hL9.cell 0; have dl_1 := hL9.cell 1; have dl_2 := hL9.cell 2; have dl_3 := hL9.cell 3; have dl_4 := hL9.cell 4; have dl_5 := hL9.cell 5; have dl_6 := hL9.cell 6; simp only [hdC, List.getElem?_cons_zero, List.getElem?_cons_succ] at dl_0 dl_1 dl_2 dl_3 dl_4 dl_5 dl_6; have dl_f := fun i => hL9.frozen i; have HY := Lib.hid (And.intro rp2 rl2); clear rp2 rl2; have hS9 := ((Blk.new w8 (stC 0 (.slice none 0 0)) 50).drew).gb g9 (by have := hp8.lt; simp; omega); have sl_0 := hS9.cell 0; have sl_1 := hS9.cell 1; have sl_2 := hS9.cell 2; have sl_3 := hS9.cell 3; have sl_4 := hS9.cell 4; have sl_5 := hS9.cell 5; have sl_6 := hS9.cell 6; have sl_7 := hS9.cell 7; have sl_8 := hS9.cell 8; have sl_9 := hS9.cell 9; simp only [List.getElem?_cons_zero, List.getElem?_cons_succ] at sl_0 sl_1 sl_2 sl_3 sl_4 sl_5 sl_6 sl_7 sl_8 sl_9; have sl_f := fun i => hS9.frozen i; have hS9t := hS9.lt))
  all_goals
    have hzD := hz.gb gD (by simp; omega)
    have grD := gb_trans gr gD
    have hs89 := gD.size
    first
    | have hP : SetPre b tv wv l wl w t x pa la pa2 la2 pc lc pc2 lc2 k (fun q => w.heap.size < q ∧ q ≠ w8.heap.size) w9 := ⟨hp9, (HX8.out.1.mono (ok' := fun q => w.heap.size < q ∧ q ≠ w8.heap.size) (fun q hq h => ⟨hq, by omega⟩)).gb gD (by intro q hq _ e; cases e; have := hq.1; omega), (HX8.out.2.mono (ok' := fun q => w.heap.size < q ∧ q ≠ w8.heap.size) (fun q hq h => ⟨hq, by omega⟩)).gb gD (by intro q hq _ e; cases e; have := hq.1; omega), HY.out.1.mono (fun q hq _ => by simp at hq; exact ⟨by omega, by omega⟩), HY.out.2.mono (fun q hq _ => by simp at hq; exact ⟨by omega, by omega⟩), grD, hzD, hb, fun q hq => hq.1⟩
      refine exit_world (SetW b tv wv l wl w t x k w8.heap.size w9.heap.size) (hP.C hS9 hzlt2 (fun q hq => hq.2)) ?_
      clear hP hS9 sl_0 sl_1 sl_2 sl_3 sl_4 sl_5 sl_6 sl_7 sl_8 sl_9 sl_f
    | have hP : SetPre b tv wv l wl w t x pa la pa2 la2 pc lc pc2 lc2 k (fun q => w.heap.size < q) w9 := ⟨hp9, HX8.out.1.gb gD (fun q hq _ => hok q hq), HX8.out.2.gb gD (fun q hq _ => hok q hq), HY.out.1.mono (fun q hq _ => by simp at hq; omega), HY.out.2.mono (fun q hq _ => by simp at hq; omega), grD, hzD, hb, fun q hq => hq⟩
      first
      | refine exit_world (SetW b tv wv l wl w t x k (w9.heap.size + 1) w9.heap.size) hP.A ?_
      | refine exit_world (SetW b tv wv l wl w t x k w9.heap.size (w9.heap.size + 1)) hP.B ?_
      clear hP
    clear hzD grD hp9 g9 gD hL9 HY dl_0 dl_1 dl_2 dl_3 dl_4 dl_5 dl_6 dl_f cl_0 cl_1 cl_2 cl_3 cl_4 cl_5 cl_6 cl_f hL8 HX8 hz gr hp8
    intro W hW
    have hne := hW.ne
    go_wp2_with fail
    refine (end_any hW.par).mono ?_
    rintro e w10 ⟨g, h10⟩
    rw [H.out.2.2.2.2.2.2.1] at h10
    obtain ⟨v, rfl, rfl, hp10⟩ := h10
    have hS := hW.st.gb g (by simp; omega)
    have hZ := hW.zero.gb g (by simp; omega)
    have HF := Lib.hid (And.intro hp10 (And.intro (gb_trans hW.gr g) (hW.row.gb g (fun q hq _ => hok q hq))))
    clear hp10 hW g
    have sl_0 := hS.cell 0; have sl_1 := hS.cell 1; have sl_2 := hS.cell 2; have sl_3 := hS.cell 3; have sl_4 := hS.cell 4; have sl_5 := hS.cell 5; have sl_6 := hS.cell 6; have sl_7 := hS.cell 7; have sl_8 := hS.cell 8; have sl_9 := hS.cell 9; simp only [List.getElem?_cons_zero, List.getElem?_cons_succ] at sl_0 sl_1 sl_2 sl_3 sl_4 sl_5 sl_6 sl_7 sl_8 sl_9; have sl_f := fun i => hS.frozen i
    have zl_0 := hZ.cell 0; have zl_1 := hZ.cell 1; have zl_2 := hZ.cell 2; have zl_3 := hZ.cell 3; have zl_4 := hZ.cell 4; have zl_5 := hZ.cell 5; have zl_6 := hZ.cell 6; have zl_7 := hZ.cell 7; have zl_8 := hZ.cell 8; have zl_9 := hZ.cell 9; simp only [List.getElem?_cons_zero, List.getElem?_cons_succ] at zl_0 zl_1 zl_2 zl_3 zl_4 zl_5 zl_6 zl_7 zl_8 zl_9; have zl_f := fun i => hZ.frozen i
    have hSl := hS.lt
    have HZ := Lib.hid hZ
    clear hZ hS
    go_wp2
    refine bodyPost_ret (results_st rfl _ (HZ.out.set10 _ _ _ _ _ _ _ _ _ _) rfl rfl) rfl ⟨_, _, rfl, (HF.out.2.2.gb (gb_set10 _ _ _ _ _ _ _ _ _ _ _ _) (fun q hq _ e => by cases e; omega)).mono (fun q hq _ => Nat.le_of_lt hq), HF.out.1.gb (gb_set10 _ _ _ _ _ _ _ _ _ _ _ _) (by intro q e; cases e; exact hb), gb_sub' HF.out.2.1 (gb_set10 _ _ _ _ _ _ _ _ _ _ _ _) (.inr (Nat.le_refl _))⟩
end

end Go.Proofs.YtmcajbhljbbglaaGreatDoor
