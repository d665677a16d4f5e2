/-
  The reference's reader: bin; an expression that is kept in a block.
-/
import Derived.Test.YtmcajbhljbbglaaGreatDoorSr09
import Derived.Test.YtmcajbhljbbglaaGreatDoorSs08
set_option linter.all false
set_option linter.unusedVariables false
set_option linter.unusedSimpArgs false
set_option linter.unnecessarySimpa false
set_option linter.constructorNameAsVariable false
set_option linter.deprecated false

namespace Go.Proofs.YtmcajbhljbbglaaGreatDoor
open Go.RowKit

set_option maxRecDepth 20000 in
set_option maxHeartbeats 1000000 in
theorem rbin_any (s : Bs) (x y : Ex) {xv yv : Value} (w : World) (ok : Nat → Prop) (hok : ∀ k, w.heap.size ≤ k → ok k) (hx : VE ok w xv x) (hy : VE ok w yv y) :
    Calls Tryz.prog 62 #[str s, xv, yv] w fun e w' => ∃ v, e = .returned v ∧ VE ok w' v (binE s x y) ∧ w.grownBy w' none := by
  obtain ⟨pxa, pxc, lxa, lxc, rfl, hx, hx'⟩ := hx
  obtain ⟨pya, pyc, lya, lyc, rfl, hy, hy'⟩ := hy
  have H := Lib.hid (And.intro hok (And.intro hx (And.intro hx' (And.intro hy hy'))))
  clear hok hx hx' hy hy'
  go_enter Tryz.func62, Tryz.ntmps62
  go_wp2
  obtain ⟨hok, hx, hx', hy, hy'⟩ := H.out
  refine bodyPost_ret (v := exV (hd0 5 s) (.slice none 0 0) (.slice (some ⟨w.heap.size + 1 + 1 + 1, 0, none⟩) 2 2)) ?_ rfl ⟨_, rfl, VE.node (f := .two x y) ?_, ?_⟩
  · simp [results, Tryz.results62, go_sem, hd0]
  · have g : ∀ a b c, w.grownBy (((w.alloc a).alloc b).alloc c) none := fun a b c => (by repeat (first | (with_reducible exact gb_refl _ _) | (with_reducible assumption) | (with_reducible exact gb_none (by assumption)) | (with_reducible refine gb_alloc ?_ _) | (with_reducible refine gb_drew ?_) | (with_reducible refine gb_drewN ?_ _) | ((with_reducible refine gb_set ?_ _ _ ?h2); case h2 => first | exact .inl rfl | exact .inr (Nat.le_refl _) | exact .inr (by simp <;> omega)) | (with_reducible refine gb_sub ?_ (by assumption)) | (with_reducible refine gb_trans ?_ (by assumption))))
    exact RepL.two (by simp) (hok _ (by omega)) (hx.gb (g _ _ _) (by simp)) (hx'.gb (g _ _ _) (by simp)) (hy.gb (g _ _ _) (by simp)) (hy'.gb (g _ _ _) (by simp))
  · exact (by repeat (first | (with_reducible exact gb_refl _ _) | (with_reducible assumption) | (with_reducible exact gb_none (by assumption)) | (with_reducible refine gb_alloc ?_ _) | (with_reducible refine gb_drew ?_) | (with_reducible refine gb_drewN ?_ _) | ((with_reducible refine gb_set ?_ _ _ ?h2); case h2 => first | exact .inl rfl | exact .inr (Nat.le_refl _) | exact .inr (by simp <;> omega)) | (with_reducible refine gb_sub ?_ (by assumption)) | (with_reducible refine gb_trans ?_ (by assumption))))

/-- what holds of the block L of a call that keeps an expression there; the result's block is w.heap.size -/
structure KpR (b : Nat) (tv : Value) (l : List Tok) (w : World) (L : Nat) (wr : World) (x : Ex) (pa : Option Addr) (pc : Nat) (la : Option Addr) (lc : Nat) (st : RS) : Prop where
  rr : Rr wr b tv l st
  blk : Blk wr L (hdC x.h (.slice pa x.h.p.length pc) (.slice la x.kids.len lc)) 29
  rp : Cells wr (.slice pa x.h.p.length pc) 1 x.h.p.length (x.h.p.map str) (but w L)
  rl : RepL (but w L) wr (.slice la x.kids.len lc) x.kids
  gr : w.grownBy wr (some b)
  bL : b < L
  wL : w.heap.size < L
  zero : Blk wr w.heap.size zeroE 29

section
variable {b : Nat} {tv : Value} {l : List Tok} {w wr w1 : World} {L : Nat} {x y z : Ex} {pa la ya ma : Option Addr} {pc lc yc mc : Nat} {st st' : RS}
theorem KpR.gb (h : KpR b tv l w L wr x pa pc la lc st) (hb : b < w.heap.size) (g : wr.grownBy w1 (some b)) (hp : Rr w1 b tv l st') : KpR b tv l w L w1 x pa pc la lc st' :=
  ⟨hp, h.blk.gb g (by have := h.bL; simp; omega), h.rp.gb g (by intro q hq _ e; cases e; have := hq.1; omega), h.rl.gb g (by intro q hq _ e; cases e; have := hq.1; omega), gb_trans h.gr g, h.bL, h.wL, h.zero.gb g (by simp; omega)⟩
theorem KpR.gbN (h : KpR b tv l w L wr x pa pc la lc st) (hb : b < w.heap.size) (g : wr.grownBy w1 none) : KpR b tv l w L w1 x pa pc la lc st :=
  h.gb hb (gb_none g) (h.rr.gbN g)
/-- another expression is stored into the block -/
theorem KpR.store (h : KpR b tv l w L wr x pa pc la lc st) (hb : b < w.heap.size) (zp : Cells wr (.slice ya z.h.p.length yc) 1 z.h.p.length (z.h.p.map str) (but w L)) (zl : RepL (but w L) wr (.slice ma z.kids.len mc) z.kids) :
    KpR b tv l w L (set7 wr L (.int .i64 z.h.op) (str z.h.s) (.int .i64 z.h.vk) (.int .i64 z.h.vn) (str z.h.vs) (.slice ya z.h.p.length yc) (.slice ma z.kids.len mc)) z ya yc ma mc st := by
  have g7 := gb_set7 wr L (.int .i64 z.h.op) (str z.h.s) (.int .i64 z.h.vk) (.int .i64 z.h.vn) (str z.h.vs) (.slice ya z.h.p.length yc) (.slice ma z.kids.len mc)
  have hbL := h.bL
  have hwL := h.wL
  have hk : ∀ q, but w L q → q < wr.heap.size → some q ≠ some L := fun q hq _ e => by cases e; exact hq.2 rfl
  exact ⟨h.rr.gb g7 (by intro q e; cases e; exact hbL), (h.blk.set7 _ _ _ _ _ _ _).of_eq rfl rfl, zp.gb g7 hk, zl.gb g7 hk, gb_sub' h.gr g7 (.inr (by omega)), hbL, hwL, h.zero.gb g7 (by simp; omega)⟩
/-- a call's value is laid into a new block -/
theorem KpR.new {w0 : World} (h0 : b < w.heap.size) (hz : Blk w0 w.heap.size zeroE 29) (g0 : w.grownBy w0 (some b)) (hw0 : w.heap.size < w0.heap.size) (g1 : w0.grownBy w1 (some b))
    (rp : Cells w1 (.slice pa x.h.p.length pc) 1 x.h.p.length (x.h.p.map str) (since w0.heap.size)) (rl : RepL (since w0.heap.size) w1 (.slice la x.kids.len lc) x.kids) (h1 : Rr w1 b tv l st) :
    KpR b tv l w w1.heap.size (w1.alloc (.cells (hdC x.h (.slice pa x.h.p.length pc) (.slice la x.kids.len lc)).toArray 29 (0, 0))) x pa pc la lc st := by
  have hs1 := g1.size
  have hb1 := h1.lt
  have g := World.grownBy_alloc w1 (.cells (hdC x.h (.slice pa x.h.p.length pc) (.slice la x.kids.len lc)).toArray 29 (0, 0)) none
  refine ⟨h1.alloc _, Blk.new w1 _ _, (rp.mono ?_).gb g (by simp), (rl.mono ?_).gb g (by simp), gb_alloc (gb_trans g0 g1) _, hb1, by omega, (hz.gb g1 (by simp; omega)).alloc _⟩
  all_goals
    intro q hq hq2
    have : w0.heap.size ≤ q := hq
    exact ⟨by omega, by omega⟩
/-- the kept expression's node of two operands, whose row is new, is stored -/
theorem KpR.two (h : KpR b tv l w L wr x pa pc la lc st) (hb : b < w.heap.size) (op : Int) (s : Bs) (zp : Cells wr (.slice ya z.h.p.length yc) 1 z.h.p.length (z.h.p.map str) (but w L)) (zl : RepL (but w L) wr (.slice ma z.kids.len mc) z.kids) :
    KpR b tv l w L ((set7 wr L (.int .i64 op) (str s) (.int .i64 0) (.int .i64 0) (str []) (.slice none 0 0) (.slice (some ⟨wr.heap.size, 0, none⟩) 2 2)).alloc (.cells (hdC x.h (.slice pa x.h.p.length pc) (.slice la x.kids.len lc) ++ hdC z.h (.slice ya z.h.p.length yc) (.slice ma z.kids.len mc)).toArray 29 (0, 0)))
      ⟨hd0 op s, .two x z⟩ none 0 (some ⟨wr.heap.size, 0, none⟩) 2 st := by
  have g7 := gb_set7 wr L (.int .i64 op) (str s) (.int .i64 0) (.int .i64 0) (str []) (.slice none 0 0) (.slice (some ⟨wr.heap.size, 0, none⟩) 2 2)
  have hsz : (set7 wr L (.int .i64 op) (str s) (.int .i64 0) (.int .i64 0) (str []) (.slice none 0 0) (.slice (some ⟨wr.heap.size, 0, none⟩) 2 2)).heap.size = wr.heap.size := by simp [set7]
  have hbL := h.bL
  have hwL := h.wL
  have hlt := h.blk.lt
  have hk : ∀ q, but w L q → q < wr.heap.size → some q ≠ some L := fun q hq _ e => by cases e; exact hq.2 rfl
  refine ⟨(h.rr.gb g7 (by intro q e; cases e; exact hbL)).alloc _, ((h.blk.set7 _ _ _ _ _ _ _).of_eq rfl rfl).alloc _, Cells.nil _ 1 _, ?_, gb_alloc (gb_sub' h.gr g7 (.inr (by omega))) _, hbL, hwL, ?_⟩
  · exact RepL.two hsz.symm ⟨by omega, by omega⟩ (h.rp.gb g7 hk) (h.rl.gb g7 hk) (zp.gb g7 hk) (zl.gb g7 hk)
  · exact (h.zero.gb g7 (by simp; omega)).alloc _
theorem KpR.ve (h : KpR b tv l w L wr x pa pc la lc st) : VE (but w L) wr (exV x.h (.slice pa x.h.p.length pc) (.slice la x.kids.len lc)) x := ⟨_, _, _, _, rfl, h.rp, h.rl⟩

theorem rpe_copy {w2 : World} {ok : Nat → Prop} (h0 : b < w.heap.size) (g : w.grownBy w1 (some b)) {v : Value} (hv : VE ok w1 v x) (hok : ∀ k, ok k → w.heap.size < k) (hp : Rr w1 b tv l st) (g2 : w1.grownBy w2 (some w.heap.size)) : RPost b tv l w (VEx w) (x, st) (.returned v) w2 :=
  ⟨gb_sub' g g2 (.inr (Nat.le_refl _)), v, rfl, (hv.gb g2 (by intro q hq _ e; have := hok q hq; cases e; omega)).mono (by intro q hq _; have := hok q hq; show w.heap.size ≤ q; omega), hp.gb g2 (by intro q e; cases e; omega)⟩
theorem rpe_one {W : World} {op : Int} {s : Bs} {ok : Nat → Prop} (h0 : b < w.heap.size) (g : w.grownBy w1 (some b))
    (rp : Cells w1 (.slice pa x.h.p.length pc) 1 x.h.p.length (x.h.p.map str) ok) (rl : RepL ok w1 (.slice la x.kids.len lc) x.kids) (hok : ∀ k, ok k → w.heap.size < k) (hp : Rr w1 b tv l st) (g7 : w1.grownBy W (some w.heap.size)) (hsz : W.heap.size = w1.heap.size) :
    RPost b tv l w (VEx w) (⟨hd0 op s, .one x⟩, st) (.returned (exV (hd0 op s) (.slice none 0 0) (.slice (some ⟨w1.heap.size, 0, none⟩) 1 1))) (W.alloc (Obj.cells #[Value.int IntKind.i64 x.h.op, str x.h.s, Value.int IntKind.i64 x.h.vk, Value.int IntKind.i64 x.h.vn, str x.h.vs, Value.slice pa x.h.p.length pc, Value.slice la x.kids.len lc] 29)) := by
  have hlt := g.size
  have rp' := rp.gb g7 (by intro q hq _ e; have := hok q hq; cases e; omega)
  have rl' := rl.gb g7 (by intro q hq _ e; have := hok q hq; cases e; omega)
  have hV : VE (since w.heap.size) (W.alloc (Obj.cells #[Value.int IntKind.i64 x.h.op, str x.h.s, Value.int IntKind.i64 x.h.vk, Value.int IntKind.i64 x.h.vn, str x.h.vs, Value.slice pa x.h.p.length pc, Value.slice la x.kids.len lc] 29)) (exV (hd0 op s) (.slice none 0 0) (.slice (some ⟨w1.heap.size, 0, none⟩) 1 1)) ⟨hd0 op s, .one x⟩ :=
    VE.node (f := .one x) (RepL.one (ok := since w.heap.size) (n := w1.heap.size) hsz.symm (by show w.heap.size ≤ _; omega) (rp'.mono (by intro q hq _; have := hok q hq; show w.heap.size ≤ q; omega)) (rl'.mono (by intro q hq _; have := hok q hq; show w.heap.size ≤ q; omega)))
  exact ⟨gb_alloc (gb_sub' g g7 (.inr (Nat.le_refl _))) _, _, rfl, hV, (hp.gb g7 (by intro q e; cases e; omega)).alloc _⟩
end

theorem signOf_one (l : List Tok) {s : Bs} (hs : s ≠ []) (st : RS) : signOf l [s] st = if hereR l s st then s else [] := by
  unfold signOf hereR
  cases st.2 with
  | true => simp
  | false =>
    simp only [Bool.false_eq_true, if_false, Bool.not_false, Bool.true_and, List.find?_cons, List.find?_nil]
    cases isSignM (tokAt l st.1) s <;> simp
theorem loopR_take {l : List Tok} {s : Bs} (hs : s ≠ []) (opnd : FR Ex) (n : Nat) (x : Ex) (st : RS) :
    loopR l [s] opnd (n + 1) x st = if hereR l s st then (opnd (takeR l s st)).bind fun r => loopR l [s] opnd n (binE s x r.1) r.2 else some (x, takeR l s st) := by
  rw [loopR]
  unfold signR
  rw [signOf_one l hs]
  unfold takeR
  cases hereR l s st with
  | true => simp [hs, stepM_ne hs]
  | false => simp [stepM_nil]

end Go.Proofs.YtmcajbhljbbglaaGreatDoor
