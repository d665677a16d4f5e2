/-
  Statements as plain trees, how they lie in memory, and when they are equal.
  sameBlock of the reference: rows of statements.
  sameStmt of the program, one level.
-/
import Derived.Test.YtmcajbhljbbglaaGreatDoorSs22
import Derived.Deep.DeepCutAuto
set_option linter.all false
set_option linter.unusedVariables false
set_option linter.unusedSimpArgs false
set_option linter.unnecessarySimpa false
set_option linter.constructorNameAsVariable false
set_option linter.deprecated false

namespace Go.Proofs.YtmcajbhljbbglaaGreatDoor
open Go.RowKit

/-- what a statement has beside its blocks -/
structure Sd where
  op : Int
  s : Bs
  t : Bs
  p : List Bs
  x : Fo
  kind : Int
  n : Fo
  f : Fo
  w : Fo

/-- a row of statements (st), or a row of blocks (bl) -/
inductive Bl where
  | nil
  | st (h : Sd) (b : Bl) (next : Bl)
  | bl (b : Bl) (next : Bl)

def Bl.len : Bl → Nat
  | .nil => 0
  | .st _ _ n => n.len + 1
  | .bl _ n => n.len + 1
/-- how many statements and blocks there are, and in each other -/
def Bl.wt : Bl → Nat
  | .nil => 0
  | .st _ b n => 1 + b.wt + n.wt
  | .bl b n => 1 + b.wt + n.wt

def sdEq1 (h k : Sd) : Bool := h.op == k.op && h.s == k.s && h.t == k.t && textsEq h.p k.p && sameF h.x k.x
def sdEq2 (h k : Sd) : Bool := h.kind == k.kind && sameF h.n k.n && sameF h.f k.f && sameF h.w k.w
def sdEq (h k : Sd) : Bool := sdEq1 h k && sdEq2 h k
def sameB : Bl → Bl → Bool
  | .nil, .nil => true
  | .st h b n, .st h' b' n' => (sdEq h h' && sameB b b') && sameB n n'
  | .bl b n, .bl b' n' => sameB b b' && sameB n n'
  | _, _ => false
theorem sdEq_refl (h : Sd) : sdEq h h = true := by simp [sdEq, sdEq1, sdEq2, sameF_refl, textsEq]
theorem sameB_refl : ∀ b : Bl, sameB b b = true := by
  intro b
  induction b with
  | nil => rfl
  | st h b n ih1 ih2 => simp [sameB, sdEq_refl, ih1, ih2]
  | bl b n ih1 ih2 => simp [sameB, ih1, ih2]
theorem sameB_len : ∀ {a b : Bl}, sameB a b = true → a.len = b.len := by
  intro a
  induction a with
  | nil => intro b h; cases b <;> first | rfl | cases h
  | st h k n ih1 ih2 =>
    intro b hb
    cases b with
    | st h' k' n' =>
      simp only [sameB, Bool.and_eq_true] at hb
      simp [Bl.len, ih2 hb.2]
    | _ => cases hb
  | bl k n ih1 ih2 =>
    intro b hb
    cases b with
    | bl k' n' =>
      simp only [sameB, Bool.and_eq_true] at hb
      simp [Bl.len, ih2 hb.2]
    | _ => cases hb

/-- the ten cells of a statement -/
def sdC (h : Sd) (pv xv bv nv fv wv : Value) : List Value := [.int .i64 h.op, str h.s, str h.t, pv, xv, bv, .int .i64 h.kind, nv, fv, wv]

/-- what a statement's six slices are -/
structure SdRep (ok : Nat → Prop) (w : World) (h : Sd) (pa xa na fa wa : Option Addr) (pc xc nc fc wc : Nat) : Prop where
  p : Cells w (.slice pa h.p.length pc) 1 h.p.length (h.p.map str) ok
  x : RepL ok w (.slice xa h.x.len xc) h.x
  n : RepL ok w (.slice na h.n.len nc) h.n
  f : RepL ok w (.slice fa h.f.len fc) h.f
  w : RepL ok w (.slice wa h.w.len wc) h.w
theorem SdRep.gb {w w1 : World} {ok : Nat → Prop} {h : Sd} {pa xa na fa wa : Option Addr} {pc xc nc fc wc : Nat} {r : Option Nat} (k : SdRep ok w h pa xa na fa wa pc xc nc fc wc) (g : w.grownBy w1 r) (hk : ∀ k, ok k → k < w.heap.size → some k ≠ r) : SdRep ok w1 h pa xa na fa wa pc xc nc fc wc :=
  ⟨k.p.gb g hk, k.x.gb g hk, k.n.gb g hk, k.f.gb g hk, k.w.gb g hk⟩

/-- the cells of a row: of statements (false), of blocks (true) -/
def RepT (ok : Nat → Prop) (w : World) : Bl → Bool → List Value → Prop
  | .nil, _, cs => cs = []
  | .st h b next, false, cs => ∃ pa xa na fa wa ba, ∃ pc xc nc fc wc bc, ∃ kcs rest, cs = sdC h (.slice pa h.p.length pc) (.slice xa h.x.len xc) (.slice ba b.len bc) (.slice na h.n.len nc) (.slice fa h.f.len fc) (.slice wa h.w.len wc) ++ rest ∧
      SdRep ok w h pa xa na fa wa pc xc nc fc wc ∧ Cells w (.slice ba b.len bc) 1 b.len kcs ok ∧ RepT ok w b true kcs ∧ RepT ok w next false rest
  | .bl b next, true, cs => ∃ ba bc, ∃ kcs rest, cs = .slice ba b.len bc :: rest ∧ Cells w (.slice ba b.len bc) 10 b.len kcs ok ∧ RepT ok w b false kcs ∧ RepT ok w next true rest
  | _, _, _ => False

abbrev szT (k : Bool) : Nat := if k then 1 else 10
/-- v is a slice that holds the row -/
def RepV (ok : Nat → Prop) (w : World) (k : Bool) (v : Value) (b : Bl) : Prop := ∃ cs, Cells w v (szT k) b.len cs ok ∧ RepT ok w b k cs

theorem RepT.gb {w w1 : World} {ok : Nat → Prop} {r : Option Nat} (g : w.grownBy w1 r) (hk : ∀ k, ok k → k < w.heap.size → some k ≠ r) : ∀ {b : Bl} {k : Bool} {cs : List Value}, RepT ok w b k cs → RepT ok w1 b k cs := by
  intro b
  induction b with
  | nil => intro k cs h; exact h
  | st h b n ih1 ih2 =>
    intro k cs hr
    cases k with
    | true => exact hr
    | false =>
      obtain ⟨pa, xa, na, fa, wa, ba, pc, xc, nc, fc, wc, bc, kcs, rest, e, h1, h2, h3, h4⟩ := hr
      exact ⟨pa, xa, na, fa, wa, ba, pc, xc, nc, fc, wc, bc, kcs, rest, e, h1.gb g hk, h2.gb g hk, ih1 h3, ih2 h4⟩
  | bl b n ih1 ih2 =>
    intro k cs hr
    cases k with
    | false => exact hr
    | true =>
      obtain ⟨ba, bc, kcs, rest, e, h2, h3, h4⟩ := hr
      exact ⟨ba, bc, kcs, rest, e, h2.gb g hk, ih1 h3, ih2 h4⟩
theorem RepV.gb {w w1 : World} {ok : Nat → Prop} {r : Option Nat} {k : Bool} {v : Value} {b : Bl} (h : RepV ok w k v b) (g : w.grownBy w1 r) (hk : ∀ k, ok k → k < w.heap.size → some k ≠ r) : RepV ok w1 k v b := by
  obtain ⟨cs, h1, h2⟩ := h
  exact ⟨cs, h1.gb g hk, h2.gb g hk⟩

theorem drop_next {cs rest a : List Value} {k n : Nat} (hn : a.length = n) (h : cs.drop (k * n) = a ++ rest) : cs.drop ((k + 1) * n) = rest := by
  rw [show (k + 1) * n = k * n + n by rw [Nat.succ_mul], ← List.drop_drop, h]
  exact List.drop_left' hn
theorem get_drop {cs rest a : List Value} {m : Nat} (h : cs.drop m = a ++ rest) {i : Nat} {u : Value} (hu : a[i]? = some u) : cs[m + i]? = some u := by
  have : cs[m + i]? = (cs.drop m)[i]? := by simp
  rw [this, h, List.getElem?_append_left (by have := (List.getElem?_eq_some_iff.1 hu).1; exact this)]
  exact hu

/-- a statement in a row -/
theorem RepT.elem {ok : Nat → Prop} {w : World} {la : Option Addr} {cs : List Value} {h : Sd} {b next : Bl} {k : Nat} (hc : ∀ j u, cs[j]? = some u → ∃ g o, la = some ⟨g, o, none⟩ ∧ ok g ∧ w.cell? ⟨g, o + j, none⟩ = some u)
    (hr : RepT ok w (.st h b next) false (cs.drop (k * 10))) : ∃ pa xa na fa wa ba, ∃ pc xc nc fc wc bc, SdRep ok w h pa xa na fa wa pc xc nc fc wc ∧ RepV ok w true (.slice ba b.len bc) b ∧ RepT ok w next false (cs.drop ((k + 1) * 10)) ∧
      ∀ i u, (sdC h (.slice pa h.p.length pc) (.slice xa h.x.len xc) (.slice ba b.len bc) (.slice na h.n.len nc) (.slice fa h.f.len fc) (.slice wa h.w.len wc))[i]? = some u → ∃ g o, la = some ⟨g, o, none⟩ ∧ ok g ∧ w.cell? ⟨g, o + (k * 10 + i), none⟩ = some u := by
  obtain ⟨pa, xa, na, fa, wa, ba, pc, xc, nc, fc, wc, bc, kcs, rest, e, h1, h2, h3, h4⟩ := hr
  exact ⟨pa, xa, na, fa, wa, ba, pc, xc, nc, fc, wc, bc, h1, ⟨kcs, h2, h3⟩, (drop_next (n := 10) rfl e) ▸ h4, fun i u hu => hc _ u (get_drop e hu)⟩
/-- a block in a row -/
theorem RepT.elemB {ok : Nat → Prop} {w : World} {la : Option Addr} {cs : List Value} {b next : Bl} {k : Nat} (hc : ∀ j u, cs[j]? = some u → ∃ g o, la = some ⟨g, o, none⟩ ∧ ok g ∧ w.cell? ⟨g, o + j, none⟩ = some u)
    (hr : RepT ok w (.bl b next) true (cs.drop k)) : ∃ ba bc, RepV ok w false (.slice ba b.len bc) b ∧ RepT ok w next true (cs.drop (k + 1)) ∧ ∃ g o, la = some ⟨g, o, none⟩ ∧ ok g ∧ w.cell? ⟨g, o + k, none⟩ = some (.slice ba b.len bc) := by
  obtain ⟨ba, bc, kcs, rest, e, h2, h3, h4⟩ := hr
  refine ⟨ba, bc, ⟨kcs, h2, h3⟩, ?_, ?_⟩
  · have := drop_next (k := k) (n := 1) (a := [.slice ba b.len bc]) rfl (by simpa using e)
    rw [Nat.mul_one] at this
    rw [this]; exact h4
  · have := hc _ _ (get_drop (m := k) (a := [.slice ba b.len bc]) (rest := rest) (by simpa using e) (i := 0) rfl)
    simpa using this

end Go.Proofs.YtmcajbhljbbglaaGreatDoor

namespace Go.Proofs.YtmcajbhljbbglaaGreatDoor
open Go.RowKit

/-- two new blocks -/
structure Pair (t : TypeId) (w : World) (kx ky : Nat) (xs ys : List Value) (W : World) : Prop where
  x : Blk W kx xs t
  y : Blk W ky ys t
  g : w.grownBy W none
theorem Pair.one {t : TypeId} {w : World} {xs ys : List Value} : Pair t w w.heap.size (w.heap.size + 1) xs ys ((w.alloc (.cells xs.toArray t (0, 0))).alloc (.cells ys.toArray t (0, 0))).drew :=
  ⟨((Blk.new w xs t).alloc _).drew, ((Blk.new _ ys t).of_eq (by simp) rfl).drew, gb_drew (gb_alloc (World.grownBy_alloc _ _ _) _)⟩
theorem Pair.two {t : TypeId} {w : World} {xs ys : List Value} : Pair t w (w.heap.size + 1) w.heap.size xs ys ((w.alloc (.cells ys.toArray t (0, 0))).alloc (.cells xs.toArray t (0, 0))).drew :=
  ⟨((Blk.new _ xs t).of_eq (by simp) rfl).drew, ((Blk.new w ys t).alloc _).drew, gb_drew (gb_alloc (World.grownBy_alloc _ _ _) _)⟩
theorem Pair.gb {t : TypeId} {w W W1 : World} {kx ky : Nat} {xs ys : List Value} (h : Pair t w kx ky xs ys W) (g : W.grownBy W1 none) : Pair t w kx ky xs ys W1 :=
  ⟨h.x.gb g (by simp), h.y.gb g (by simp), gb_trans h.g g⟩
theorem szT_f : szT false = 10 := rfl
theorem szT_t : szT true = 1 := rfl

set_option maxRecDepth 40000 in
set_option maxHeartbeats 8000000 in
theorem sameBlock_N : ∀ (N : Nat) (a b : Bl), a.wt < N → ∀ (ok ok' : Nat → Prop) (la lb : Option Addr) (lc ld : Nat) (w : World), RepV ok w false (.slice la a.len lc) a → RepV ok' w false (.slice lb b.len ld) b →
    Calls Tryz.prog 40 #[.slice la a.len lc, .slice lb b.len ld] w fun e w' => e = .returned (.bool (sameB a b)) ∧ w.grownBy w' none := by
  intro N
  induction N with
  | zero => intro a b hN; omega
  | succ N ih =>
    intro a b hN ok ok' la lb lc ld w ha hb
    by_cases hlen : a.len = b.len
    · obtain ⟨cs, hc1, hr1⟩ := ha
      obtain ⟨ds, hc2, hr2⟩ := hb
      obtain ⟨_, _, e, hle, hmx, _, hc1⟩ := hc1
      cases e
      obtain ⟨_, _, e, _, _, _, hc2⟩ := hc2
      cases e
      have hmax : a.len ≤ maxLen := by omega
      unfold maxLen at hmax
      clear hle hmx
      have hnI : ((a.len : Int) != (b.len : Int)) = false := by simp; omega
      have hnI2 : ((a.len : Int) == (b.len : Int)) = true := by simp; omega
      have HC := Lib.hid (And.intro hc1 (And.intro hc2 (And.intro ih hlen)))
      have HR := Lib.hid (And.intro hr1 hr2)
      clear hc1 hc2 ih hlen hr1 hr2
      go_enter Tryz.func40, Tryz.ntmps40
      go_wp2_with fail
      go_loopg [5] a.len (fun n v5 wr => ∃ ra rb : Bl, ∃ k : Nat, ra.len = n ∧ k + n = a.len ∧ ra.len = rb.len ∧ v5 = .int .i64 k ∧ ra.wt ≤ a.wt ∧ sameB a b = sameB ra rb ∧ RepT ok w ra false (cs.drop (k * 10)) ∧ RepT ok' w rb false (ds.drop (k * 10)) ∧ w.grownBy wr none)
      case atStart => exact ⟨a, b, 0, rfl, by omega, HC.out.2.2.2, rfl, Nat.le_refl _, rfl, by simpa using HR.out.1, by simpa using HR.out.2, gb_refl _ _⟩
      case round =>
        obtain ⟨ra, rb, k, hn, hk, hl, rfl, hno, hs, hra, hrb, hgr⟩ := hrel
        clear HR
        cases ra with
        | bl _ _ => exact hra.elim
        | nil =>
          cases rb with
          | st _ _ _ => simp [Bl.len] at hl
          | bl _ _ => exact hrb.elim
          | nil =>
            have hkI : decide (k < a.len) = false := by simp [Bl.len] at hn; simp; omega
            have HS := Lib.hid (show sameB a b = true by rw [hs]; rfl)
            have HG := Lib.hid hgr
            clear hs hgr hn hl hra hrb
            go_wp2
            go_ret
            exact ⟨by rw [HS.out]; rfl, HG.out⟩
        | st h1 b1 n1 =>
          cases rb with
          | nil => simp [Bl.len] at hl
          | bl _ _ => exact hrb.elim
          | st h2 b2 n2 =>
            simp only [Bl.len] at hn hl
            simp only [Bl.wt] at hno
            subst hn
            obtain ⟨pa1, xa1, na1, fa1, wa1, ba1, pc1, xc1, nc1, fc1, wc1, bc1, hp1, hB1, hx1, ha1⟩ := RepT.elem HC.out.1 hra
            obtain ⟨pa2, xa2, na2, fa2, wa2, ba2, pc2, xc2, nc2, fc2, wc2, bc2, hp2, hB2, hx2, ha2⟩ := RepT.elem HC.out.2.1 hrb
            have hkI : decide (k < a.len) = true := by simp; omega
            have hkg : k < b.len := by have := HC.out.2.2.2; omega
            have hkf : k + 1 ≤ a.len := by omega
            have HS := Lib.hid (And.intro (show sameB a b = ((sdEq h1 h2 && sameB b1 b2) && sameB n1 n2) from hs) (show n1.len = n2.len by omega))
            have HN := Lib.hid (And.intro (show n1.wt ≤ a.wt ∧ b1.wt < N by omega) (And.intro hx1 (And.intro hx2 (And.intro hgr (And.intro hp1 (And.intro hp2 (And.intro hB1 hB2)))))))
            clear hs hl hno hra hrb hp1 hp2 hB1 hB2 hx1 hx2
            obtain ⟨g1, o1, rfl, hokz, y0⟩ := ha1 0 _ rfl
            obtain ⟨_, _, e1, _, y1⟩ := ha1 1 _ rfl
            cases e1
            obtain ⟨_, _, e1, _, y2⟩ := ha1 2 _ rfl
            cases e1
            obtain ⟨_, _, e1, _, y3⟩ := ha1 3 _ rfl
            cases e1
            obtain ⟨_, _, e1, _, y4⟩ := ha1 4 _ rfl
            cases e1
            obtain ⟨_, _, e1, _, y5⟩ := ha1 5 _ rfl
            cases e1
            obtain ⟨_, _, e1, _, y6⟩ := ha1 6 _ rfl
            cases e1
            obtain ⟨_, _, e1, _, y7⟩ := ha1 7 _ rfl
            cases e1
            obtain ⟨_, _, e1, _, y8⟩ := ha1 8 _ rfl
            cases e1
            obtain ⟨_, _, e1, _, y9⟩ := ha1 9 _ rfl
            cases e1
            have hglz := World.block_lt_of_cell? w _ y0
            have z0 := gb_cellN hgr y0
            have z1 := gb_cellN hgr y1
            have z2 := gb_cellN hgr y2
            have z3 := gb_cellN hgr y3
            have z4 := gb_cellN hgr y4
            have z5 := gb_cellN hgr y5
            have z6 := gb_cellN hgr y6
            have z7 := gb_cellN hgr y7
            have z8 := gb_cellN hgr y8
            have z9 := gb_cellN hgr y9
            simp only [Nat.add_zero, ← Nat.add_assoc] at z0 z1 z2 z3 z4 z5 z6 z7 z8 z9
            clear y0 y1 y2 y3 y4 y5 y6 y7 y8 y9
            obtain ⟨g2, o2, rfl, hokt, y0⟩ := ha2 0 _ rfl
            obtain ⟨_, _, e1, _, y1⟩ := ha2 1 _ rfl
            cases e1
            obtain ⟨_, _, e1, _, y2⟩ := ha2 2 _ rfl
            cases e1
            obtain ⟨_, _, e1, _, y3⟩ := ha2 3 _ rfl
            cases e1
            obtain ⟨_, _, e1, _, y4⟩ := ha2 4 _ rfl
            cases e1
            obtain ⟨_, _, e1, _, y5⟩ := ha2 5 _ rfl
            cases e1
            obtain ⟨_, _, e1, _, y6⟩ := ha2 6 _ rfl
            cases e1
            obtain ⟨_, _, e1, _, y7⟩ := ha2 7 _ rfl
            cases e1
            obtain ⟨_, _, e1, _, y8⟩ := ha2 8 _ rfl
            cases e1
            obtain ⟨_, _, e1, _, y9⟩ := ha2 9 _ rfl
            cases e1
            have hglt := World.block_lt_of_cell? w _ y0
            have t0 := gb_cellN hgr y0
            have t1 := gb_cellN hgr y1
            have t2 := gb_cellN hgr y2
            have t3 := gb_cellN hgr y3
            have t4 := gb_cellN hgr y4
            have t5 := gb_cellN hgr y5
            have t6 := gb_cellN hgr y6
            have t7 := gb_cellN hgr y7
            have t8 := gb_cellN hgr y8
            have t9 := gb_cellN hgr y9
            simp only [Nat.add_zero, ← Nat.add_assoc] at t0 t1 t2 t3 t4 t5 t6 t7 t8 t9
            clear y0 y1 y2 y3 y4 y5 y6 y7 y8 y9
            clear ha1 ha2
            have hws := hgr.size
            have hq1 : g1 < wr.heap.size := Nat.lt_of_lt_of_le hglz hws
            have i0 : (0 : Int) ≤ (k : Int) := by omega
            have i1 : (k : Int) < (a.len : Int) := by omega
            have i2 : k < a.len := by omega
            have i3 : (k : Int) < (b.len : Int) := by omega
            have hq2 : g2 < wr.heap.size := Nat.lt_of_lt_of_le hglt hws
            have HK := Lib.hid (fun (W : World) (g : wr.grownBy W none) => (show (W.cell? ⟨g1, o1 + k * 10, none⟩ = some (.int .i64 h1.op) ∧ W.cell? ⟨g1, o1 + k * 10 + 1, none⟩ = some (str h1.s) ∧ W.cell? ⟨g1, o1 + k * 10 + 2, none⟩ = some (str h1.t) ∧ W.cell? ⟨g1, o1 + k * 10 + 3, none⟩ = some (.slice pa1 h1.p.length pc1) ∧ W.cell? ⟨g1, o1 + k * 10 + 4, none⟩ = some (.slice xa1 h1.x.len xc1) ∧ W.cell? ⟨g1, o1 + k * 10 + 5, none⟩ = some (.slice ba1 b1.len bc1) ∧ W.cell? ⟨g1, o1 + k * 10 + 6, none⟩ = some (.int .i64 h1.kind) ∧ W.cell? ⟨g1, o1 + k * 10 + 7, none⟩ = some (.slice na1 h1.n.len nc1) ∧ W.cell? ⟨g1, o1 + k * 10 + 8, none⟩ = some (.slice fa1 h1.f.len fc1) ∧ W.cell? ⟨g1, o1 + k * 10 + 9, none⟩ = some (.slice wa1 h1.w.len wc1)) ∧ (W.cell? ⟨g2, o2 + k * 10, none⟩ = some (.int .i64 h2.op) ∧ W.cell? ⟨g2, o2 + k * 10 + 1, none⟩ = some (str h2.s) ∧ W.cell? ⟨g2, o2 + k * 10 + 2, none⟩ = some (str h2.t) ∧ W.cell? ⟨g2, o2 + k * 10 + 3, none⟩ = some (.slice pa2 h2.p.length pc2) ∧ W.cell? ⟨g2, o2 + k * 10 + 4, none⟩ = some (.slice xa2 h2.x.len xc2) ∧ W.cell? ⟨g2, o2 + k * 10 + 5, none⟩ = some (.slice ba2 b2.len bc2) ∧ W.cell? ⟨g2, o2 + k * 10 + 6, none⟩ = some (.int .i64 h2.kind) ∧ W.cell? ⟨g2, o2 + k * 10 + 7, none⟩ = some (.slice na2 h2.n.len nc2) ∧ W.cell? ⟨g2, o2 + k * 10 + 8, none⟩ = some (.slice fa2 h2.f.len fc2) ∧ W.cell? ⟨g2, o2 + k * 10 + 9, none⟩ = some (.slice wa2 h2.w.len wc2)) ∧ wr.grownBy W none from ⟨⟨gb_cellN g z0, gb_cellN g z1, gb_cellN g z2, gb_cellN g z3, gb_cellN g z4, gb_cellN g z5, gb_cellN g z6, gb_cellN g z7, gb_cellN g z8, gb_cellN g z9⟩, ⟨gb_cellN g t0, gb_cellN g t1, gb_cellN g t2, gb_cellN g t3, gb_cellN g t4, gb_cellN g t5, gb_cellN g t6, gb_cellN g t7, gb_cellN g t8, gb_cellN g t9⟩, g⟩))
            clear hgr z0 z1 z2 z3 z4 z5 z6 z7 z8 z9 t0 t1 t2 t3 t4 t5 t6 t7 t8 t9
            go_upto_region 6 with fail
            go_cut [6, 7] (fun v6 v7 wx => ∃ kx ky : Nat, v6 = .pointer (some ⟨kx, 0, none⟩) ∧ v7 = .pointer (some ⟨ky, 0, none⟩) ∧ Pair 50 wr kx ky (sdC h1 (.slice pa1 h1.p.length pc1) (.slice xa1 h1.x.len xc1) (.slice ba1 b1.len bc1) (.slice na1 h1.n.len nc1) (.slice fa1 h1.f.len fc1) (.slice wa1 h1.w.len wc1)) (sdC h2 (.slice pa2 h2.p.length pc2) (.slice xa2 h2.x.len xc2) (.slice ba2 b2.len bc2) (.slice na2 h2.n.len nc2) (.slice fa2 h2.f.len fc2) (.slice wa2 h2.w.len wc2)) wx)
            case first =>
              go_region_held3 (fun W => (W.cell? ⟨g1, o1 + k * 10, none⟩ = some (.int .i64 h1.op) ∧ W.cell? ⟨g1, o1 + k * 10 + 1, none⟩ = some (str h1.s) ∧ W.cell? ⟨g1, o1 + k * 10 + 2, none⟩ = some (str h1.t) ∧ W.cell? ⟨g1, o1 + k * 10 + 3, none⟩ = some (.slice pa1 h1.p.length pc1) ∧ W.cell? ⟨g1, o1 + k * 10 + 4, none⟩ = some (.slice xa1 h1.x.len xc1) ∧ W.cell? ⟨g1, o1 + k * 10 + 5, none⟩ = some (.slice ba1 b1.len bc1) ∧ W.cell? ⟨g1, o1 + k * 10 + 6, none⟩ = some (.int .i64 h1.kind) ∧ W.cell? ⟨g1, o1 + k * 10 + 7, none⟩ = some (.slice na1 h1.n.len nc1) ∧ W.cell? ⟨g1, o1 + k * 10 + 8, none⟩ = some (.slice fa1 h1.f.len fc1) ∧ W.cell? ⟨g1, o1 + k * 10 + 9, none⟩ = some (.slice wa1 h1.w.len wc1)) ∧ (W.cell? ⟨g2, o2 + k * 10, none⟩ = some (.int .i64 h2.op) ∧ W.cell? ⟨g2, o2 + k * 10 + 1, none⟩ = some (str h2.s) ∧ W.cell? ⟨g2, o2 + k * 10 + 2, none⟩ = some (str h2.t) ∧ W.cell? ⟨g2, o2 + k * 10 + 3, none⟩ = some (.slice pa2 h2.p.length pc2) ∧ W.cell? ⟨g2, o2 + k * 10 + 4, none⟩ = some (.slice xa2 h2.x.len xc2) ∧ W.cell? ⟨g2, o2 + k * 10 + 5, none⟩ = some (.slice ba2 b2.len bc2) ∧ W.cell? ⟨g2, o2 + k * 10 + 6, none⟩ = some (.int .i64 h2.kind) ∧ W.cell? ⟨g2, o2 + k * 10 + 7, none⟩ = some (.slice na2 h2.n.len nc2) ∧ W.cell? ⟨g2, o2 + k * 10 + 8, none⟩ = some (.slice fa2 h2.f.len fc2) ∧ W.cell? ⟨g2, o2 + k * 10 + 9, none⟩ = some (.slice wa2 h2.w.len wc2)) ∧ wr.grownBy W none) (exact HK.out _ (by repeat (first | (with_reducible exact gb_refl _ _) | (with_reducible assumption) | (with_reducible exact gb_none (by assumption)) | (with_reducible refine gb_alloc ?_ _) | (with_reducible refine gb_drew ?_) | (with_reducible refine gb_drewN ?_ _) | ((with_reducible refine gb_set ?_ _ _ ?h2); case h2 => first | exact .inl rfl | exact .inr (Nat.le_refl _) | exact .inr (by simp <;> omega)) | (with_reducible refine gb_sub ?_ (by assumption)) | (with_reducible refine gb_trans ?_ (by assumption))))) (first | fail)
              all_goals (go_wp2_with fail; go_meet; first | exact ⟨_, _, rfl, rfl, Pair.one⟩ | exact ⟨_, _, rfl, rfl, Pair.two⟩)
            case rest =>
              obtain ⟨kx, ky, rfl, rfl, hP⟩ := hcut
              have HP := Lib.hid hP
              have HT := Lib.hid (fun (W : World) (g : w.grownBy W none) => And.intro (sameTexts_any (HN.out.2.2.2.2.1.p.gb g (by simp)) (HN.out.2.2.2.2.2.1.p.gb g (by simp))) (And.intro (refSameExprs_N _ h1.x h2.x (Nat.lt_succ_self _) _ _ _ _ _ _ W (HN.out.2.2.2.2.1.x.gb g (by simp)) (HN.out.2.2.2.2.2.1.x.gb g (by simp)))
                (And.intro (refSameExprs_N _ h1.n h2.n (Nat.lt_succ_self _) _ _ _ _ _ _ W (HN.out.2.2.2.2.1.n.gb g (by simp)) (HN.out.2.2.2.2.2.1.n.gb g (by simp))) (And.intro (refSameExprs_N _ h1.f h2.f (Nat.lt_succ_self _) _ _ _ _ _ _ W (HN.out.2.2.2.2.1.f.gb g (by simp)) (HN.out.2.2.2.2.2.1.f.gb g (by simp))) (refSameExprs_N _ h1.w h2.w (Nat.lt_succ_self _) _ _ _ _ _ _ W (HN.out.2.2.2.2.1.w.gb g (by simp)) (HN.out.2.2.2.2.2.1.w.gb g (by simp)))))))
              have HG := Lib.hid (gb_trans HN.out.2.2.2.1 hP.g)
              have x_0 := hP.x.cell' 0 rfl
              have y_0 := hP.y.cell' 0 rfl
              have x_1 := hP.x.cell' 1 rfl
              have y_1 := hP.y.cell' 1 rfl
              have x_2 := hP.x.cell' 2 rfl
              have y_2 := hP.y.cell' 2 rfl
              have x_3 := hP.x.cell' 3 rfl
              have y_3 := hP.y.cell' 3 rfl
              have x_4 := hP.x.cell' 4 rfl
              have y_4 := hP.y.cell' 4 rfl
              clear hP
              cases c_op : (h1.op == h2.op) with
              | false =>
                have d_op : (h1.op != h2.op) = true := by simp [bne, c_op]
                have HF := Lib.hid (show sameB a b = false by rw [HS.out.1]; simp [sdEq, sdEq1, sdEq2, c_op])
                go_wp2
                go_ret
                exact ⟨by rw [HF.out]; rfl, HG.out⟩
              | true =>
                have d_op : (h1.op != h2.op) = false := by simp [bne, c_op]
                cases c_s : (h1.s == h2.s) with
                | false =>
                  have d_s : (h1.s != h2.s) = true := by simp [bne, c_s]
                  have HF := Lib.hid (show sameB a b = false by rw [HS.out.1]; simp [sdEq, sdEq1, sdEq2, c_op, c_s])
                  go_wp2
                  go_ret
                  exact ⟨by rw [HF.out]; rfl, HG.out⟩
                | true =>
                  have d_s : (h1.s != h2.s) = false := by simp [bne, c_s]
                  cases c_t : (h1.t == h2.t) with
                  | false =>
                    have d_t : (h1.t != h2.t) = true := by simp [bne, c_t]
                    have HF := Lib.hid (show sameB a b = false by rw [HS.out.1]; simp [sdEq, sdEq1, sdEq2, c_op, c_s, c_t])
                    go_wp2
                    go_ret
                    exact ⟨by rw [HF.out]; rfl, HG.out⟩
                  | true =>
                    have d_t : (h1.t != h2.t) = false := by simp [bne, c_t]
                    go_wp2_with fail
                    refine ((HT.out _ HG.out).1).mono ?_
                    rintro e w5 ⟨rfl, g55⟩
                    have HP5 := Lib.hid (HP.out.gb g55)
                    replace HG := Lib.hid (gb_trans HG.out g55)
                    clear g55 x_0 y_0 x_1 y_1 x_2 y_2 x_3 y_3 x_4 y_4
                    cases c_p : textsEq h1.p h2.p with
                    | false =>
                      have HC_p := Lib.hid c_p
                      have HF := Lib.hid (show sameB a b = false by rw [HS.out.1]; simp [sdEq, sdEq1, sdEq2, c_p])
                      clear c_p
                      go_wp2
                      go_ret
                      exact ⟨by rw [HF.out]; rfl, HG.out⟩
                    | true =>
                      have HC_p := Lib.hid c_p
                      clear c_p
                      have x_4 := HP5.out.x.cell' 4 rfl
                      have y_4 := HP5.out.y.cell' 4 rfl
                      go_wp2_with fail
                      refine ((HT.out _ HG.out).2.1).mono ?_
                      rintro e w6 ⟨rfl, g65⟩
                      have HP6 := Lib.hid (HP5.out.gb g65)
                      replace HG := Lib.hid (gb_trans HG.out g65)
                      clear g65 x_4 y_4
                      cases c_x : sameF h1.x h2.x with
                      | false =>
                        have HC_x := Lib.hid c_x
                        have HF := Lib.hid (show sameB a b = false by rw [HS.out.1]; simp [sdEq, sdEq1, sdEq2, c_x])
                        clear c_x
                        go_wp2
                        go_ret
                        exact ⟨by rw [HF.out]; rfl, HG.out⟩
                      | true =>
                        have HC_x := Lib.hid c_x
                        clear c_x
                        have x_5 := HP6.out.x.cell' 5 rfl
                        have y_5 := HP6.out.y.cell' 5 rfl
                        have x_6 := HP6.out.x.cell' 6 rfl
                        have y_6 := HP6.out.y.cell' 6 rfl
                        have x_7 := HP6.out.x.cell' 7 rfl
                        have y_7 := HP6.out.y.cell' 7 rfl
                        by_cases hbl : b1.len = b2.len
                        case neg =>
                          have d1 : ((b1.len : Int) != (b2.len : Int)) = true := by simp; omega
                          have d2 : ((b1.len : Int) == (b2.len : Int)) = false := by simp; omega
                          have HF := Lib.hid (show sameB a b = false by rw [HS.out.1]; cases hh : sameB b1 b2 with | false => simp | true => exact absurd (sameB_len hh) hbl)
                          clear hbl
                          go_wp2
                          go_ret
                          exact ⟨by rw [HF.out]; rfl, HG.out⟩
                        case pos =>
                          have d1 : ((b1.len : Int) != (b2.len : Int)) = false := by simp; omega
                          have d2 : ((b1.len : Int) == (b2.len : Int)) = true := by simp; omega
                          have HBL := Lib.hid hbl
                          clear hbl
                          cases c_kind : (h1.kind == h2.kind) with
                          | false =>
                            have d_kind : (h1.kind != h2.kind) = true := by simp [bne, c_kind]
                            have HF := Lib.hid (show sameB a b = false by rw [HS.out.1]; simp [sdEq, sdEq1, sdEq2, c_kind])
                            go_wp2
                            go_ret
                            exact ⟨by rw [HF.out]; rfl, HG.out⟩
                          | true =>
                            have d_kind : (h1.kind != h2.kind) = false := by simp [bne, c_kind]
                            go_wp2_with fail
                            refine ((HT.out _ HG.out).2.2.1).mono ?_
                            rintro e w7 ⟨rfl, g75⟩
                            have HP7 := Lib.hid (HP6.out.gb g75)
                            replace HG := Lib.hid (gb_trans HG.out g75)
                            clear g75 x_5 y_5 x_6 y_6 x_7 y_7
                            cases c_n : sameF h1.n h2.n with
                            | false =>
                              have HC_n := Lib.hid c_n
                              have HF := Lib.hid (show sameB a b = false by rw [HS.out.1]; simp [sdEq, sdEq1, sdEq2, c_n])
                              clear c_n
                              go_wp2
                              go_ret
                              exact ⟨by rw [HF.out]; rfl, HG.out⟩
                            | true =>
                              have HC_n := Lib.hid c_n
                              clear c_n
                              have x_8 := HP7.out.x.cell' 8 rfl
                              have y_8 := HP7.out.y.cell' 8 rfl
                              go_wp2_with fail
                              refine ((HT.out _ HG.out).2.2.2.1).mono ?_
                              rintro e w8 ⟨rfl, g85⟩
                              have HP8 := Lib.hid (HP7.out.gb g85)
                              replace HG := Lib.hid (gb_trans HG.out g85)
                              clear g85 x_8 y_8
                              cases c_f : sameF h1.f h2.f with
                              | false =>
                                have HC_f := Lib.hid c_f
                                have HF := Lib.hid (show sameB a b = false by rw [HS.out.1]; simp [sdEq, sdEq1, sdEq2, c_f])
                                clear c_f
                                go_wp2
                                go_ret
                                exact ⟨by rw [HF.out]; rfl, HG.out⟩
                              | true =>
                                have HC_f := Lib.hid c_f
                                clear c_f
                                have x_9 := HP8.out.x.cell' 9 rfl
                                have y_9 := HP8.out.y.cell' 9 rfl
                                go_wp2_with fail
                                refine ((HT.out _ HG.out).2.2.2.2).mono ?_
                                rintro e w9 ⟨rfl, g95⟩
                                have HP9 := Lib.hid (HP8.out.gb g95)
                                replace HG := Lib.hid (gb_trans HG.out g95)
                                clear g95 x_9 y_9
                                cases c_w : sameF h1.w h2.w with
                                | false =>
                                  have HC_w := Lib.hid c_w
                                  have HF := Lib.hid (show sameB a b = false by rw [HS.out.1]; simp [sdEq, sdEq1, sdEq2, c_w])
                                  clear c_w
                                  go_wp2
                                  go_ret
                                  exact ⟨by rw [HF.out]; rfl, HG.out⟩
                                | true =>
                                  have HC_w := Lib.hid c_w
                                  clear c_w
                                  have x_5 := HP9.out.x.cell' 5 rfl
                                  have y_5 := HP9.out.y.cell' 5 rfl
                                  have HD := Lib.hid (show sameB a b = (sameB b1 b2 && sameB n1 n2) by rw [HS.out.1]; simp [sdEq, sdEq1, sdEq2, c_op, c_s, c_t, c_kind, HC_p.out, HC_x.out, HC_n.out, HC_f.out, HC_w.out])
                                  clear c_op c_s c_t c_kind d_op d_s d_t d_kind d1 d2
                                  obtain ⟨kcs, hkc, hkr⟩ := HN.out.2.2.2.2.2.2.1
                                  obtain ⟨kds, hdc, hdr⟩ := HN.out.2.2.2.2.2.2.2
                                  obtain ⟨_, _, e, hle2, hmx2, _, hkc⟩ := hkc
                                  cases e
                                  obtain ⟨_, _, e, _, _, _, hdc⟩ := hdc
                                  cases e
                                  have hm2 : b1.len ≤ maxLen := by omega
                                  unfold maxLen at hm2
                                  have HK2 := Lib.hid (And.intro hkc (And.intro hdc (And.intro hkr hdr)))
                                  clear hle2 hmx2 hkc hdc hkr hdr
                                  go_wp2_with fail
                                  go_loopg [8] b1.len (fun n v8 w2 => ∃ sa sb : Bl, ∃ k2 : Nat, sa.len = n ∧ k2 + n = b1.len ∧ sa.len = sb.len ∧ v8 = .int .i64 k2 ∧ sa.wt ≤ b1.wt ∧ sameB b1 b2 = sameB sa sb ∧ RepT ok w sa true (kcs.drop k2) ∧ RepT ok' w sb true (kds.drop k2) ∧ Pair 50 wr kx ky (sdC h1 (.slice pa1 h1.p.length pc1) (.slice xa1 h1.x.len xc1) (.slice ba1 b1.len bc1) (.slice na1 h1.n.len nc1) (.slice fa1 h1.f.len fc1) (.slice wa1 h1.w.len wc1)) (sdC h2 (.slice pa2 h2.p.length pc2) (.slice xa2 h2.x.len xc2) (.slice ba2 b2.len bc2) (.slice na2 h2.n.len nc2) (.slice fa2 h2.f.len fc2) (.slice wa2 h2.w.len wc2)) w2)
                                  case atStart => exact ⟨b1, b2, 0, rfl, by omega, HBL.out, rfl, Nat.le_refl _, rfl, by simpa using HK2.out.2.2.1, by simpa using HK2.out.2.2.2, HP9.out⟩
                                  case round =>
                                    obtain ⟨sa, sb, k2, hn2, hk2, hl2, rfl, hno2, hs2, hra2, hrb2, hP2⟩ := hrel
                                    have x_5 := hP2.x.cell' 5 rfl
                                    have y_5 := hP2.y.cell' 5 rfl
                                    have gw2 := gb_trans HN.out.2.2.2.1 hP2.g
                                    cases sa with
                                    | st _ _ _ => exact hra2.elim
                                    | nil =>
                                      cases sb with
                                      | st _ _ _ => exact hrb2.elim
                                      | bl _ _ => simp [Bl.len] at hl2
                                      | nil =>
                                        have hkI2 : decide (k2 < b1.len) = false := by simp [Bl.len] at hn2; simp; omega
                                        have HE := Lib.hid (show sameB a b = sameB n1 n2 by rw [HD.out, hs2]; rfl)
                                        have HG2 := Lib.hid gw2
                                        clear hs2 gw2 hP2 hn2 hl2 hra2 hrb2
                                        go_wp2
                                        go_roundg n1.len
                                        case measure => omega
                                        case rel => exact ⟨n1, n2, k + 1, rfl, by omega, HS.out.2, by go_num, HN.out.1.1, HE.out, HN.out.2.1, HN.out.2.2.1, HG2.out⟩
                                    | bl q1 r1 =>
                                      cases sb with
                                      | nil => simp [Bl.len] at hl2
                                      | st _ _ _ => exact hrb2.elim
                                      | bl q2 r2 =>
                                        simp only [Bl.len] at hn2 hl2
                                        simp only [Bl.wt] at hno2
                                        subst hn2
                                        obtain ⟨qa1, qc1, hq1', hr1', u1, v1, e, _, hc1'⟩ := RepT.elemB HK2.out.1 hra2
                                        cases e
                                        obtain ⟨qa2, qc2, hq2', hr2', u2, v2, e, _, hc2'⟩ := RepT.elemB HK2.out.2.1 hrb2
                                        cases e
                                        have hkI2 : decide (k2 < b1.len) = true := by simp; omega
                                        have hkg2 : k2 < b2.len := by have := HBL.out; omega
                                        have hkf2 : k2 + 1 ≤ b1.len := by omega
                                        have z1 := gb_cellN gw2 hc1'
                                        have z2 := gb_cellN gw2 hc2'
                                        have HE := Lib.hid (fun (W : World) (gW : wr.grownBy W none) => HC.out.2.2.1 q1 q2 (by have := HN.out.1.2; omega) ok ok' qa1 qa2 qc1 qc2 W (hq1'.gb (gb_trans gw2 gW) (by simp)) (hq2'.gb (gb_trans gw2 gW) (by simp)))
                                        have HQ := Lib.hid (And.intro (show r1.wt ≤ b1.wt by omega) (And.intro hr1' (And.intro hr2' (And.intro hP2 (And.intro gw2 (And.intro (show sameB b1 b2 = (sameB q1 q2 && sameB r1 r2) from hs2) (show r1.len = r2.len by omega)))))))
                                        clear hno2 hra2 hrb2 hq1' hr1' hc1' hq2' hr2' hc2' hP2 gw2 hs2 hl2
                                        cases hb : sameB q1 q2 with
                                        | true =>
                                          rw [hb] at HE
                                          have HB := Lib.hid (show sameB b1 b2 = sameB r1 r2 by rw [HQ.out.2.2.2.2.2.1, hb]; rfl)
                                          clear hb
                                          go_wp2_with fail
                                          go_region_with (go_at_call 40; refine (HE.out _ ?gg).mono ?_; (case gg => exact (by repeat (first | (with_reducible exact gb_refl _ _) | (with_reducible assumption) | (with_reducible exact gb_none (by assumption)) | (with_reducible refine gb_alloc ?_ _) | (with_reducible refine gb_drew ?_) | (with_reducible refine gb_drewN ?_ _) | ((with_reducible refine gb_set ?_ _ _ ?h2); case h2 => first | exact .inl rfl | exact .inr (Nat.le_refl _) | exact .inr (by simp <;> omega)) | (with_reducible refine gb_sub ?_ (by assumption)) | (with_reducible refine gb_trans ?_ (by assumption))))); rintro e w5 ⟨rfl, g5⟩)
                                          all_goals
                                            go_wp2
                                            go_roundg r1.len
                                            case measure => omega
                                            case rel => exact ⟨r1, r2, k2 + 1, rfl, by omega, HQ.out.2.2.2.2.2.2, by go_num, HQ.out.1, HB.out, HQ.out.2.1, HQ.out.2.2.1, HQ.out.2.2.2.1.gb (gb_trans (gb_drewN (gb_refl _ none) 1) g5)⟩
                                        | false =>
                                          rw [hb] at HE
                                          have HB := Lib.hid (show sameB a b = false by rw [HD.out, HQ.out.2.2.2.2.2.1, hb]; rfl)
                                          clear hb
                                          go_wp2_with fail
                                          go_region_with (go_at_call 40; refine (HE.out _ ?gg).mono ?_; (case gg => exact (by repeat (first | (with_reducible exact gb_refl _ _) | (with_reducible assumption) | (with_reducible exact gb_none (by assumption)) | (with_reducible refine gb_alloc ?_ _) | (with_reducible refine gb_drew ?_) | (with_reducible refine gb_drewN ?_ _) | ((with_reducible refine gb_set ?_ _ _ ?h2); case h2 => first | exact .inl rfl | exact .inr (Nat.le_refl _) | exact .inr (by simp <;> omega)) | (with_reducible refine gb_sub ?_ (by assumption)) | (with_reducible refine gb_trans ?_ (by assumption))))); rintro e w5 ⟨rfl, g5⟩)
                                          all_goals
                                            go_wp2
                                            go_ret
                                            exact ⟨by rw [HB.out]; rfl, gb_trans (gb_drewN HQ.out.2.2.2.2.1 1) g5⟩
    · have hnI : ((a.len : Int) != (b.len : Int)) = true := by simp; omega
      have hnI2 : ((a.len : Int) == (b.len : Int)) = false := by simp; omega
      have HN := Lib.hid (show sameB a b = false by cases h : sameB a b with | false => rfl | true => exact absurd (sameB_len h) hlen)
      clear hlen ha hb ih
      go_enter Tryz.func40, Tryz.ntmps40
      go_wp2
      go_ret
      exact ⟨by rw [HN.out]; rfl, (by repeat (first | (with_reducible exact gb_refl _ _) | (with_reducible assumption) | (with_reducible exact gb_none (by assumption)) | (with_reducible refine gb_alloc ?_ _) | (with_reducible refine gb_drew ?_) | (with_reducible refine gb_drewN ?_ _) | ((with_reducible refine gb_set ?_ _ _ ?h2); case h2 => first | exact .inl rfl | exact .inr (Nat.le_refl _) | exact .inr (by simp <;> omega)) | (with_reducible refine gb_sub ?_ (by assumption)) | (with_reducible refine gb_trans ?_ (by assumption))))⟩

end Go.Proofs.YtmcajbhljbbglaaGreatDoor

namespace Go.Proofs.YtmcajbhljbbglaaGreatDoor
open Go.RowKit

theorem Pair.start {t : TypeId} {w : World} {xs ys : List Value} : Pair t w w.heap.size (w.heap.size + 1) xs ys ((w.alloc (.cells xs.toArray t (0, 0))).alloc (.cells ys.toArray t (0, 0))) :=
  ⟨(Blk.new w xs t).alloc _, (Blk.new _ ys t).of_eq (by simp) rfl, gb_alloc (World.grownBy_alloc _ _ _) _⟩

set_option maxRecDepth 40000 in
set_option maxHeartbeats 8000000 in
theorem sameStmt_step {w : World} {ok ok' : Nat → Prop} {h1 h2 : Sd} {pa1 xa1 na1 fa1 wa1 ba1 pa2 xa2 na2 fa2 wa2 ba2 : Option Addr} {pc1 xc1 nc1 fc1 wc1 bc1 bl1 pc2 xc2 nc2 fc2 wc2 bc2 bl2 : Nat} {b : Bool} (hp1 : SdRep ok w h1 pa1 xa1 na1 fa1 wa1 pc1 xc1 nc1 fc1 wc1) (hp2 : SdRep ok' w h2 pa2 xa2 na2 fa2 wa2 pc2 xc2 nc2 fc2 wc2)
    (HL : ∀ W, w.grownBy W none → Calls Tryz.prog 78 #[.slice ba1 bl1 bc1, .slice ba2 bl2 bc2, .func (.func 79) #[] #[]] W fun e w' => e = .returned (.bool b) ∧ W.grownBy w' none) :
    Calls Tryz.prog 48 #[.agg (sdC h1 (.slice pa1 h1.p.length pc1) (.slice xa1 h1.x.len xc1) (.slice ba1 bl1 bc1) (.slice na1 h1.n.len nc1) (.slice fa1 h1.f.len fc1) (.slice wa1 h1.w.len wc1)).toArray, .agg (sdC h2 (.slice pa2 h2.p.length pc2) (.slice xa2 h2.x.len xc2) (.slice ba2 bl2 bc2) (.slice na2 h2.n.len nc2) (.slice fa2 h2.f.len fc2) (.slice wa2 h2.w.len wc2)).toArray] w fun e w' => e = .returned (.bool (sdEq h1 h2 && b)) ∧ w.grownBy w' none := by
  have HT := Lib.hid (fun (W : World) (g : w.grownBy W none) => And.intro (equalTexts_any (hp1.p.gb g (by simp)) (hp2.p.gb g (by simp))) (And.intro (sameExprs_N _ h1.x h2.x (Nat.lt_succ_self _) _ _ _ _ _ _ W (hp1.x.gb g (by simp)) (hp2.x.gb g (by simp)))
    (And.intro (sameExprs_N _ h1.n h2.n (Nat.lt_succ_self _) _ _ _ _ _ _ W (hp1.n.gb g (by simp)) (hp2.n.gb g (by simp))) (And.intro (sameExprs_N _ h1.f h2.f (Nat.lt_succ_self _) _ _ _ _ _ _ W (hp1.f.gb g (by simp)) (hp2.f.gb g (by simp))) (sameExprs_N _ h1.w h2.w (Nat.lt_succ_self _) _ _ _ _ _ _ W (hp1.w.gb g (by simp)) (hp2.w.gb g (by simp)))))))
  have HB := Lib.hid HL
  have HP := Lib.hid (Pair.start (t := 50) (w := w) (xs := (sdC h1 (.slice pa1 h1.p.length pc1) (.slice xa1 h1.x.len xc1) (.slice ba1 bl1 bc1) (.slice na1 h1.n.len nc1) (.slice fa1 h1.f.len fc1) (.slice wa1 h1.w.len wc1))) (ys := (sdC h2 (.slice pa2 h2.p.length pc2) (.slice xa2 h2.x.len xc2) (.slice ba2 bl2 bc2) (.slice na2 h2.n.len nc2) (.slice fa2 h2.f.len fc2) (.slice wa2 h2.w.len wc2))))
  have hsdef : ∀ q : Bool, sdEq h1 h2 = q → (sdEq h1 h2 && b) = (q && b) := fun q h => by rw [h]
  have HS := Lib.hid hsdef
  clear HL hp1 hp2 hsdef
  simp only [sdC]
  cases c_op : (h1.op == h2.op) with
  | false =>
    have d_op : (h1.op != h2.op) = true := by simp [bne, c_op]
    have HF := Lib.hid (show (sdEq h1 h2 && b) = false by simp [sdEq, sdEq1, sdEq2, c_op])
    go_enter Tryz.func48, Tryz.ntmps48
    go_wp2
    go_ret
    exact ⟨by rw [HF.out]; rfl, (by repeat (first | (with_reducible exact gb_refl _ _) | (with_reducible assumption) | (with_reducible exact gb_none (by assumption)) | (with_reducible refine gb_alloc ?_ _) | (with_reducible refine gb_drew ?_) | (with_reducible refine gb_drewN ?_ _) | ((with_reducible refine gb_set ?_ _ _ ?h2); case h2 => first | exact .inl rfl | exact .inr (Nat.le_refl _) | exact .inr (by simp <;> omega)) | (with_reducible refine gb_sub ?_ (by assumption)) | (with_reducible refine gb_trans ?_ (by assumption))))⟩
  | true =>
    have d_op : (h1.op != h2.op) = false := by simp [bne, c_op]
    cases c_s : (h1.s == h2.s) with
    | false =>
      have d_s : (h1.s != h2.s) = true := by simp [bne, c_s]
      have HF := Lib.hid (show (sdEq h1 h2 && b) = false by simp [sdEq, sdEq1, sdEq2, c_s])
      go_enter Tryz.func48, Tryz.ntmps48
      go_wp2
      go_ret
      exact ⟨by rw [HF.out]; rfl, (by repeat (first | (with_reducible exact gb_refl _ _) | (with_reducible assumption) | (with_reducible exact gb_none (by assumption)) | (with_reducible refine gb_alloc ?_ _) | (with_reducible refine gb_drew ?_) | (with_reducible refine gb_drewN ?_ _) | ((with_reducible refine gb_set ?_ _ _ ?h2); case h2 => first | exact .inl rfl | exact .inr (Nat.le_refl _) | exact .inr (by simp <;> omega)) | (with_reducible refine gb_sub ?_ (by assumption)) | (with_reducible refine gb_trans ?_ (by assumption))))⟩
    | true =>
      have d_s : (h1.s != h2.s) = false := by simp [bne, c_s]
      cases c_t : (h1.t == h2.t) with
      | false =>
        have d_t : (h1.t != h2.t) = true := by simp [bne, c_t]
        have HF := Lib.hid (show (sdEq h1 h2 && b) = false by simp [sdEq, sdEq1, sdEq2, c_t])
        go_enter Tryz.func48, Tryz.ntmps48
        go_wp2
        go_ret
        exact ⟨by rw [HF.out]; rfl, (by repeat (first | (with_reducible exact gb_refl _ _) | (with_reducible assumption) | (with_reducible exact gb_none (by assumption)) | (with_reducible refine gb_alloc ?_ _) | (with_reducible refine gb_drew ?_) | (with_reducible refine gb_drewN ?_ _) | ((with_reducible refine gb_set ?_ _ _ ?h2); case h2 => first | exact .inl rfl | exact .inr (Nat.le_refl _) | exact .inr (by simp <;> omega)) | (with_reducible refine gb_sub ?_ (by assumption)) | (with_reducible refine gb_trans ?_ (by assumption))))⟩
      | true =>
        have d_t : (h1.t != h2.t) = false := by simp [bne, c_t]
        go_enter Tryz.func48, Tryz.ntmps48
        go_wp2_with fail
        refine ((HT.out _ HP.out.g).1).mono ?_
        rintro e w5 ⟨rfl, g55⟩
        have HP5 := Lib.hid (HP.out.gb g55)
        have HG5 := Lib.hid (gb_trans HP.out.g g55)
        clear g55
        cases c_p : textsEq h1.p h2.p with
        | false =>
          have HF := Lib.hid (show (sdEq h1 h2 && b) = false by simp [sdEq, sdEq1, sdEq2, c_p])
          clear c_p
          go_wp2
          go_ret
          exact ⟨by rw [HF.out]; rfl, HG5.out⟩
        | true =>
          have HC_p := Lib.hid c_p
          clear c_p
          have x_4 := HP5.out.x.cell' 4 rfl
          have y_4 := HP5.out.y.cell' 4 rfl
          go_wp2_with fail
          refine ((HT.out _ HG5.out).2.1).mono ?_
          rintro e w6 ⟨rfl, g65⟩
          have HP6 := Lib.hid (HP5.out.gb g65)
          have HG6 := Lib.hid (gb_trans HG5.out g65)
          clear g65 x_4 y_4
          cases c_x : sameF h1.x h2.x with
          | false =>
            have HF := Lib.hid (show (sdEq h1 h2 && b) = false by simp [sdEq, sdEq1, sdEq2, c_x])
            clear c_x
            go_wp2
            go_ret
            exact ⟨by rw [HF.out]; rfl, HG6.out⟩
          | true =>
            have HC_x := Lib.hid c_x
            clear c_x
            have x_6 := HP6.out.x.cell' 6 rfl
            have y_6 := HP6.out.y.cell' 6 rfl
            have x_7 := HP6.out.x.cell' 7 rfl
            have y_7 := HP6.out.y.cell' 7 rfl
            have x_8 := HP6.out.x.cell' 8 rfl
            have y_8 := HP6.out.y.cell' 8 rfl
            have x_9 := HP6.out.x.cell' 9 rfl
            have y_9 := HP6.out.y.cell' 9 rfl
            have hbx := HP6.out.x.lt
            have hby := HP6.out.y.lt
            have HK := Lib.hid (fun (W : World) (g : w6.grownBy W none) => (show W.cell? ⟨w.heap.size, 6, none⟩ = some (.int .i64 h1.kind) ∧ W.cell? ⟨w.heap.size, 7, none⟩ = some (.slice na1 h1.n.len nc1) ∧ W.cell? ⟨w.heap.size, 8, none⟩ = some (.slice fa1 h1.f.len fc1) ∧ W.cell? ⟨w.heap.size, 9, none⟩ = some (.slice wa1 h1.w.len wc1) ∧ W.cell? ⟨w.heap.size + 1, 6, none⟩ = some (.int .i64 h2.kind) ∧ W.cell? ⟨w.heap.size + 1, 7, none⟩ = some (.slice na2 h2.n.len nc2) ∧ W.cell? ⟨w.heap.size + 1, 8, none⟩ = some (.slice fa2 h2.f.len fc2) ∧ W.cell? ⟨w.heap.size + 1, 9, none⟩ = some (.slice wa2 h2.w.len wc2) ∧ w6.grownBy W none from ⟨gb_cellN g x_6, gb_cellN g x_7, gb_cellN g x_8, gb_cellN g x_9, gb_cellN g y_6, gb_cellN g y_7, gb_cellN g y_8, gb_cellN g y_9, g⟩))
            clear x_6 x_7 x_8 x_9 y_6 y_7 y_8 y_9
            go_upto_region 3 with fail
            go_cut [5, 6] (fun v5 v6 wx => ∃ kx ky : Nat, v5 = .pointer (some ⟨kx, 0, none⟩) ∧ v6 = .pointer (some ⟨ky, 0, none⟩) ∧ Pair 48 w6 kx ky [.int .i64 h1.kind, .slice na1 h1.n.len nc1, .slice fa1 h1.f.len fc1, .slice wa1 h1.w.len wc1] [.int .i64 h2.kind, .slice na2 h2.n.len nc2, .slice fa2 h2.f.len fc2, .slice wa2 h2.w.len wc2] wx)
            case first =>
              go_region_held3 (fun W => W.cell? ⟨w.heap.size, 6, none⟩ = some (.int .i64 h1.kind) ∧ W.cell? ⟨w.heap.size, 7, none⟩ = some (.slice na1 h1.n.len nc1) ∧ W.cell? ⟨w.heap.size, 8, none⟩ = some (.slice fa1 h1.f.len fc1) ∧ W.cell? ⟨w.heap.size, 9, none⟩ = some (.slice wa1 h1.w.len wc1) ∧ W.cell? ⟨w.heap.size + 1, 6, none⟩ = some (.int .i64 h2.kind) ∧ W.cell? ⟨w.heap.size + 1, 7, none⟩ = some (.slice na2 h2.n.len nc2) ∧ W.cell? ⟨w.heap.size + 1, 8, none⟩ = some (.slice fa2 h2.f.len fc2) ∧ W.cell? ⟨w.heap.size + 1, 9, none⟩ = some (.slice wa2 h2.w.len wc2) ∧ w6.grownBy W none) (exact HK.out _ (by repeat (first | (with_reducible exact gb_refl _ _) | (with_reducible assumption) | (with_reducible exact gb_none (by assumption)) | (with_reducible refine gb_alloc ?_ _) | (with_reducible refine gb_drew ?_) | (with_reducible refine gb_drewN ?_ _) | ((with_reducible refine gb_set ?_ _ _ ?h2); case h2 => first | exact .inl rfl | exact .inr (Nat.le_refl _) | exact .inr (by simp <;> omega)) | (with_reducible refine gb_sub ?_ (by assumption)) | (with_reducible refine gb_trans ?_ (by assumption))))) (first | fail)
              all_goals (go_wp2_with fail; go_meet; first | exact ⟨_, _, rfl, rfl, Pair.one⟩ | exact ⟨_, _, rfl, rfl, Pair.two⟩)
            case rest =>
              obtain ⟨kx, ky, rfl, rfl, hQ⟩ := hcut
              have HQ6 := Lib.hid hQ
              have HG6b := Lib.hid (gb_trans HG6.out hQ.g)
              have HP6b := Lib.hid (HP6.out.gb hQ.g)
              have x_0 := hQ.x.cell' 0 rfl
              have y_0 := hQ.y.cell' 0 rfl
              have x_1 := hQ.x.cell' 1 rfl
              have y_1 := hQ.y.cell' 1 rfl
              clear hQ
              cases c_kind : (h1.kind == h2.kind) with
              | false =>
                have d_kind : (h1.kind != h2.kind) = true := by simp [bne, c_kind]
                have HF := Lib.hid (show (sdEq h1 h2 && b) = false by simp [sdEq, sdEq1, sdEq2, c_kind])
                go_wp2
                go_ret
                exact ⟨by rw [HF.out]; rfl, HG6b.out⟩
              | true =>
                have d_kind : (h1.kind != h2.kind) = false := by simp [bne, c_kind]
                go_wp2_with fail
                refine ((HT.out _ HG6b.out).2.2.1).mono ?_
                rintro e w7 ⟨rfl, g75⟩
                have HQ7 := Lib.hid (HQ6.out.gb g75)
                have HP7 := Lib.hid (HP6b.out.gb g75)
                have HG7 := Lib.hid (gb_trans HG6b.out g75)
                clear g75 x_0 y_0 x_1 y_1
                cases c_n : sameF h1.n h2.n with
                | false =>
                  have HF := Lib.hid (show (sdEq h1 h2 && b) = false by simp [sdEq, sdEq1, sdEq2, c_n])
                  clear c_n
                  go_wp2
                  go_ret
                  exact ⟨by rw [HF.out]; rfl, HG7.out⟩
                | true =>
                  have HC_n := Lib.hid c_n
                  clear c_n
                  have x_2 := HQ7.out.x.cell' 2 rfl
                  have y_2 := HQ7.out.y.cell' 2 rfl
                  go_wp2_with fail
                  refine ((HT.out _ HG7.out).2.2.2.1).mono ?_
                  rintro e w8 ⟨rfl, g85⟩
                  have HQ8 := Lib.hid (HQ7.out.gb g85)
                  have HP8 := Lib.hid (HP7.out.gb g85)
                  have HG8 := Lib.hid (gb_trans HG7.out g85)
                  clear g85 x_2 y_2
                  cases c_f : sameF h1.f h2.f with
                  | false =>
                    have HF := Lib.hid (show (sdEq h1 h2 && b) = false by simp [sdEq, sdEq1, sdEq2, c_f])
                    clear c_f
                    go_wp2
                    go_ret
                    exact ⟨by rw [HF.out]; rfl, HG8.out⟩
                  | true =>
                    have HC_f := Lib.hid c_f
                    clear c_f
                    have x_3 := HQ8.out.x.cell' 3 rfl
                    have y_3 := HQ8.out.y.cell' 3 rfl
                    go_wp2_with fail
                    refine ((HT.out _ HG8.out).2.2.2.2).mono ?_
                    rintro e w9 ⟨rfl, g95⟩
                    have HQ9 := Lib.hid (HQ8.out.gb g95)
                    have HP9 := Lib.hid (HP8.out.gb g95)
                    have HG9 := Lib.hid (gb_trans HG8.out g95)
                    clear g95 x_3 y_3
                    cases c_w : sameF h1.w h2.w with
                    | false =>
                      have HF := Lib.hid (show (sdEq h1 h2 && b) = false by simp [sdEq, sdEq1, sdEq2, c_w])
                      clear c_w
                      go_wp2
                      go_ret
                      exact ⟨by rw [HF.out]; rfl, HG9.out⟩
                    | true =>
                      have HC_w := Lib.hid c_w
                      clear c_w
                      have x_5 := HP9.out.x.cell' 5 rfl
                      have y_5 := HP9.out.y.cell' 5 rfl
                      have HE := Lib.hid (show (sdEq h1 h2 && b) = b by simp [sdEq, sdEq1, sdEq2, c_op, c_s, c_t, c_kind, HC_p.out, HC_x.out, HC_n.out, HC_f.out, HC_w.out])
                      go_wp2_with fail
                      refine (HB.out _ HG9.out).mono ?_
                      rintro e w10 ⟨rfl, g10⟩
                      have gF := gb_trans HG9.out g10
                      clear g10
                      go_wp2
                      go_ret
                      exact ⟨by rw [HE.out]; rfl, gF⟩

end Go.Proofs.YtmcajbhljbbglaaGreatDoor
