/-
  What is read as an expression is one: from the form's reading of an argument to 'VE'.
  What is read as a row of procedures is one: from the form's reading of an argument to 'RepQ'.
  What is read as a row of procedures is one: the recursion.
-/
import Derived.Test.YtmcajbhljbbglaaGreatDoorSs04
import Derived.OpenShut
import Derived.SliceStrings
import Derived.Test.YtmcajbhljbbglaaGreatDoorSs25
set_option linter.all false
set_option linter.unusedVariables false
set_option linter.unusedSimpArgs false
set_option linter.unnecessarySimpa false
set_option linter.constructorNameAsVariable false
set_option linter.deprecated false

namespace Go.Proofs.YtmcajbhljbbglaaGreatDoor
open Go.RowKit Go.ChangeShapes

theorem co29 : Tryz.prog.cellsOf 29 = 7 := by kernel_rfl
theorem co3 : Tryz.prog.cellsOf 3 = 1 := by kernel_rfl
theorem co9 : Tryz.prog.cellsOf 9 = 1 := by kernel_rfl
theorem co25 : Tryz.prog.cellsOf 25 = 3 := by kernel_rfl
theorem co26 : Tryz.prog.cellsOf 26 = 1 := by kernel_rfl
theorem co27 : Tryz.prog.cellsOf 27 = 1 := by kernel_rfl

theorem str_of (s : ByteArray) : Value.string s = str s.data.toList := by cases s; simp [str]

section
variable {H : Type} {enc : TypeId × Value → H} {W : World} {base : Nat} {sp : Nat → Bool} {held : Bool}

/-- cells behind an address of which at least one can be read -/
theorem row_cells {a : Addr} {len cap size : Nat} {cs : List Value} (h1 : len ≤ cap) (h2 : cap ≤ maxLen) (hl : cs.length = len * size) (hc : ∀ j u, cs[j]? = some u → W.cell? (a.add j) = some u) :
    Cells W (.slice (some a) len cap) size len cs (fun _ => True) := by
  refine ⟨_, _, rfl, h1, h2, hl, fun j u hj => ?_⟩
  have h0 : ∃ v, cs[0]? = some v := by
    cases cs with
    | nil => simp at hj
    | cons v r => exact ⟨v, rfl⟩
  obtain ⟨v, hv⟩ := h0
  have hs := World.cell?_spot (hc 0 v hv)
  have ha : a.add 0 = a := by unfold Addr.add; simp
  rw [ha] at hs
  obtain ⟨g, o, spot⟩ := a
  simp only at hs
  subst hs
  refine ⟨g, o, rfl, trivial, ?_⟩
  have := hc j u hj
  rwa [Addr.add_lit] at this

theorem texts_of {fuel : Nat} {cs : List Value} {x : DataW H × List MemPlace} (h : DataW.trod enc Tryz.prog W base sp held fuel 26 cs = some x) :
    ∃ pa pc, ∃ p : List Bs, cs = [.slice pa p.length pc] ∧ Cells W (.slice pa p.length pc) 1 p.length (p.map str) (fun _ => True) := by
  rcases open_strings Tryz.underlying26 Tryz.underlying9 co9 h with ⟨rfl, _⟩ | ⟨a, len, cap, ss, rfl, _, h1, h2, h3, _, hc, _⟩
  · exact ⟨none, 0, [], rfl, Cells.nil _ _ _⟩
  · have hle : len ≤ ss.length := by rw [h3]; split <;> omega
    have hpl : ((ss.take len).map fun s => s.data.toList).length = len := by simp; omega
    refine ⟨some a, cap, (ss.take len).map fun s => s.data.toList, by rw [hpl], ?_⟩
    rw [hpl]
    refine row_cells h1 h2 (by simp; omega) ?_
    intro j u hj
    simp only [List.map_map, List.getElem?_map, Option.map_eq_some_iff] at hj
    obtain ⟨s, hs, rfl⟩ := hj
    have hjl : j < ss.length := by
      have := (List.getElem?_eq_some_iff.1 hs).1
      simp at this; omega
    have := hc j hjl
    rw [this]
    have e : ss.getD j ByteArray.empty = s := by
      have h5 := (List.getElem?_eq_some_iff.1 hs)
      simp only [List.getElem_take] at h5
      obtain ⟨_, h6⟩ := h5
      simp [List.getD, List.getElem?_eq_getElem hjl, h6]
    rw [e, str_of]
    rfl

def ExprOf (W : World) (cs : List Value) : Prop := ∃ (h : Hd) (pa la : Option Addr) (pc lc : Nat) (f : Fo), cs = hdC h (.slice pa h.p.length pc) (.slice la f.len lc) ∧ Cells W (.slice pa h.p.length pc) 1 h.p.length (h.p.map str) (fun _ => True) ∧ RepL (fun _ => True) W (.slice la f.len lc) f

theorem rows_of {n : Nat} (ih : ∀ (cs : List Value) (x : DataW H × List MemPlace), DataW.trod enc Tryz.prog W base sp held n 29 cs = some x → ExprOf W cs) {a : Addr} {len : Nat}
    (he : ∀ i, i < len → ∃ x, (W.cells? base (a.add (i * 7)) 7).bind (DataW.trod enc Tryz.prog W base sp held n 29) = some x) :
    ∀ k j, j + k = len → ∃ (f : Fo) (cs : List Value), f.len = k ∧ cs.length = k * 7 ∧ RepF (fun _ => True) W f cs ∧ ∀ i u, cs[i]? = some u → W.cell? (a.add (j * 7 + i)) = some u := by
  intro k
  induction k with
  | zero => intro j _; exact ⟨.nil, [], rfl, rfl, rfl, fun i u h => by simp at h⟩
  | succ k ihk =>
    intro j hj
    obtain ⟨f, ds, hf, hds, hF, hc⟩ := ihk (j + 1) (by omega)
    obtain ⟨x, hx⟩ := he j (by omega)
    obtain ⟨cs', h1, h2⟩ := Option.bind_eq_some_iff.1 hx
    obtain ⟨h, pa, la, pc, lc, kids, rfl, hp, hl⟩ := ih cs' x h2
    obtain ⟨_, _, hget⟩ := World.cells?_some h1
    obtain ⟨kcs, hk1, hk2⟩ := hl
    refine ⟨.cons h kids f, hdC h (.slice pa h.p.length pc) (.slice la kids.len lc) ++ ds, by simp [Fo.len, hf], by simp [hdC, hds]; omega, ⟨_, _, kcs, ds, rfl, hp, hk1, hk2, hF⟩, ?_⟩
    intro i u hi
    by_cases h7 : i < 7
    · rw [List.getElem?_append_left (by simp [hdC]; omega)] at hi
      have := hget i h7
      rw [Addr.add_add] at this
      rw [this, hi]
    · rw [List.getElem?_append_right (by simp [hdC]; omega)] at hi
      have := hc _ u hi
      rw [show (j + 1) * 7 + (i - (hdC h (.slice pa h.p.length pc) (.slice la kids.len lc)).length) = j * 7 + i by simp [hdC]; omega] at this
      exact this

theorem exprs_of {n : Nat} (ih : ∀ m, m < n → ∀ (cs : List Value) (x : DataW H × List MemPlace), DataW.trod enc Tryz.prog W base sp held m 29 cs = some x → ExprOf W cs) {cs : List Value} {x : DataW H × List MemPlace}
    (h : DataW.trod enc Tryz.prog W base sp held n 27 cs = some x) : ∃ (la : Option Addr) (lc : Nat) (f : Fo), cs = [.slice la f.len lc] ∧ RepL (fun _ => True) W (.slice la f.len lc) f := by
  rcases DataW.trod_slice Tryz.underlying27 h with ⟨rfl, _⟩ | ⟨a, len, cap, elems, rest, m, rfl, rfl, _, _, h1, h2, hlen, hel, _⟩
  · exact ⟨none, 0, .nil, rfl, RepL.nil _ _⟩
  · rw [co29] at hel
    obtain ⟨f, ds, hf, hds, hF, hc⟩ := rows_of (ih m (Nat.lt_succ_self _)) (a := a) (len := len) (fun i hi => ⟨_, (hel i hi).trans (List.getElem?_eq_getElem (by omega))⟩) len 0 (by omega)
    refine ⟨some a, cap, f, by rw [hf], ds, ?_, hF⟩
    rw [hf]
    exact row_cells h1 h2 hds (fun j u hj => by have := hc j u hj; simpa using this)

set_option maxRecDepth 20000 in
theorem expr_of : ∀ (n : Nat) (cs : List Value) (x : DataW H × List MemPlace), DataW.trod enc Tryz.prog W base sp held n 29 cs = some x → ExprOf W cs := by
  intro n
  induction n using Nat.strongRecOn with
  | ind n ih =>
    intro cs x h
    obtain ⟨xs, m, rfl, _, hl, hxl, hf⟩ := DataW.trod_struct Tryz.underlying29 h
    rw [co29] at hl
    match cs, hl with
    | [c0, c1, c2, c3, c4, c5, c6], _ =>
      have some_at : ∀ i, i < 5 → ∃ y, xs[i]? = some y := fun i hi => ⟨_, List.getElem?_eq_getElem (by rw [hxl]; exact hi)⟩
      obtain ⟨y0, e0⟩ := some_at 0 (by decide)
      obtain ⟨y1, e1⟩ := some_at 1 (by decide)
      obtain ⟨y2, e2⟩ := some_at 2 (by decide)
      obtain ⟨y3, e3⟩ := some_at 3 (by decide)
      obtain ⟨y4, e4⟩ := some_at 4 (by decide)
      have f0 : DataW.trod enc Tryz.prog W base sp held m 3 (([c0, c1, c2, c3, c4, c5, c6].drop 0).take (Tryz.prog.cellsOf 3)) = some y0 := (hf 0 _ rfl).trans e0
      have f1 : DataW.trod enc Tryz.prog W base sp held m 9 (([c0, c1, c2, c3, c4, c5, c6].drop 1).take (Tryz.prog.cellsOf 9)) = some y1 := (hf 1 _ rfl).trans e1
      have f2 : DataW.trod enc Tryz.prog W base sp held m 25 (([c0, c1, c2, c3, c4, c5, c6].drop 2).take (Tryz.prog.cellsOf 25)) = some y2 := (hf 2 _ rfl).trans e2
      have f3 : DataW.trod enc Tryz.prog W base sp held m 26 (([c0, c1, c2, c3, c4, c5, c6].drop 5).take (Tryz.prog.cellsOf 26)) = some y3 := (hf 3 _ rfl).trans e3
      have f4 : DataW.trod enc Tryz.prog W base sp held m 27 (([c0, c1, c2, c3, c4, c5, c6].drop 6).take (Tryz.prog.cellsOf 27)) = some y4 := (hf 4 _ rfl).trans e4
      rw [co3] at f0
      rw [co9] at f1
      rw [co25] at f2
      rw [co26] at f3
      rw [co27] at f4
      simp only [List.drop_zero, List.drop_succ_cons, List.take_succ_cons, List.take_zero] at f0 f1 f2 f3 f4
      obtain ⟨op, h0, _⟩ := DataW.trod_int Tryz.underlying3 f0
      obtain ⟨s, h1, _⟩ := DataW.trod_string Tryz.underlying9 f1
      obtain ⟨zs, q, _, _, _, hzl, hg⟩ := DataW.trod_struct Tryz.underlying25 f2
      have some_at2 : ∀ i, i < 3 → ∃ y, zs[i]? = some y := fun i hi => ⟨_, List.getElem?_eq_getElem (by rw [hzl]; exact hi)⟩
      obtain ⟨z0, k0⟩ := some_at2 0 (by decide)
      obtain ⟨z1, k1⟩ := some_at2 1 (by decide)
      obtain ⟨z2, k2⟩ := some_at2 2 (by decide)
      have g0 : DataW.trod enc Tryz.prog W base sp held q 3 (([c2, c3, c4].drop 0).take (Tryz.prog.cellsOf 3)) = some z0 := (hg 0 _ rfl).trans k0
      have g1 : DataW.trod enc Tryz.prog W base sp held q 3 (([c2, c3, c4].drop 1).take (Tryz.prog.cellsOf 3)) = some z1 := (hg 1 _ rfl).trans k1
      have g2 : DataW.trod enc Tryz.prog W base sp held q 9 (([c2, c3, c4].drop 2).take (Tryz.prog.cellsOf 9)) = some z2 := (hg 2 _ rfl).trans k2

      rw [co3] at g0 g1
      rw [co9] at g2
      simp only [List.drop_zero, List.drop_succ_cons, List.take_succ_cons, List.take_zero] at g0 g1 g2
      obtain ⟨vk, h2, _⟩ := DataW.trod_int Tryz.underlying3 g0
      obtain ⟨vn, h3, _⟩ := DataW.trod_int Tryz.underlying3 g1
      obtain ⟨vs, h4, _⟩ := DataW.trod_string Tryz.underlying9 g2
      obtain ⟨pa, pc, p, h5, hp⟩ := texts_of f3
      obtain ⟨la, lc, f, h6, hl⟩ := exprs_of (fun k hk => ih k (by omega)) f4
      simp only [List.cons.injEq, and_true] at h0 h1 h2 h3 h4 h5 h6
      subst h0 h1 h2 h3 h4 h5 h6
      exact ⟨⟨op, s.data.toList, vk, vn, vs.data.toList, p⟩, pa, la, pc, lc, f, by simp [hdC, str_of], hp, hl⟩

set_option maxRecDepth 20000 in
/-- an argument that is read as an expression is one -/
theorem ve_of {r : Reach} {b0 : Nat} {v : Value} {d : DataW H} {ps : List MemPlace} (hv : Value.okWide Tryz.prog W r b0 29 v) (h : DataW.Trod enc Tryz.prog W base sp held 29 v d ps) : ∃ x, VE (fun _ => True) W v x := by
  unfold Value.okWide at hv
  rw [Tryz.underlying29] at hv
  obtain ⟨cs, rfl, _⟩ := hv
  obtain ⟨fuel, hf⟩ := h
  obtain ⟨h, pa, la, pc, lc, f, e, hp, hl⟩ := expr_of fuel _ _ hf
  refine ⟨⟨h, f⟩, pa, pc, la, lc, ?_, hp, hl⟩
  cases cs
  simp only [Value.cells] at e
  subst e
  rfl
end

end Go.Proofs.YtmcajbhljbbglaaGreatDoor

namespace Go.Proofs.YtmcajbhljbbglaaGreatDoor
open Go.RowKit Go.ChangeShapes

theorem co50 : Tryz.prog.cellsOf 50 = 10 := by kernel_rfl
theorem co48 : Tryz.prog.cellsOf 48 = 4 := by kernel_rfl
theorem co43 : Tryz.prog.cellsOf 43 = 1 := by kernel_rfl
theorem co46 : Tryz.prog.cellsOf 46 = 1 := by kernel_rfl
theorem co45 : Tryz.prog.cellsOf 45 = 4 := by kernel_rfl
theorem co4 : Tryz.prog.cellsOf 4 = 1 := by kernel_rfl

section
variable {H : Type} {enc : TypeId × Value → H} {W : World} {base : Nat} {sp : Nat → Bool} {held : Bool}

def StmtOf (W : World) (cs : List Value) : Prop := ∃ (h : Sd) (b : Bl) (pa xa na fa wa ba : Option Addr) (pc xc nc fc wc bc : Nat), cs = sdC h (.slice pa h.p.length pc) (.slice xa h.x.len xc) (.slice ba b.len bc) (.slice na h.n.len nc) (.slice fa h.f.len fc) (.slice wa h.w.len wc) ∧
  SdRep (fun _ => True) W h pa xa na fa wa pc xc nc fc wc ∧ RepV (fun _ => True) W true (.slice ba b.len bc) b

theorem exprs_all {n : Nat} {cs : List Value} {x : DataW H × List MemPlace} (h : DataW.trod enc Tryz.prog W base sp held n 27 cs = some x) : ∃ (la : Option Addr) (lc : Nat) (f : Fo), cs = [.slice la f.len lc] ∧ RepL (fun _ => True) W (.slice la f.len lc) f :=
  exprs_of (fun m _ cs x h => expr_of m cs x h) h

/-- rows out of elements: statements (false), blocks (true) -/
theorem stmts_row {n : Nat} (ih : ∀ (cs : List Value) (x : DataW H × List MemPlace), DataW.trod enc Tryz.prog W base sp held n 50 cs = some x → StmtOf W cs) {a : Addr} {len : Nat}
    (he : ∀ i, i < len → ∃ x, (W.cells? base (a.add (i * 10)) 10).bind (DataW.trod enc Tryz.prog W base sp held n 50) = some x) :
    ∀ k j, j + k = len → ∃ (b : Bl) (cs : List Value), b.len = k ∧ cs.length = k * 10 ∧ RepT (fun _ => True) W b false cs ∧ ∀ i u, cs[i]? = some u → W.cell? (a.add (j * 10 + i)) = some u := by
  intro k
  induction k with
  | zero => intro j _; exact ⟨.nil, [], rfl, rfl, rfl, fun i u h => by simp at h⟩
  | succ k ihk =>
    intro j hj
    obtain ⟨f, ds, hf, hds, hF, hc⟩ := ihk (j + 1) (by omega)
    obtain ⟨x, hx⟩ := he j (by omega)
    obtain ⟨cs', h1, h2⟩ := Option.bind_eq_some_iff.1 hx
    obtain ⟨h, b, pa, xa, na, fa, wa, ba, pc, xc, nc, fc, wc, bc, rfl, hp, hl⟩ := ih cs' x h2
    obtain ⟨_, _, hget⟩ := World.cells?_some h1
    obtain ⟨kcs, hk1, hk2⟩ := hl
    refine ⟨.st h b f, sdC h (.slice pa h.p.length pc) (.slice xa h.x.len xc) (.slice ba b.len bc) (.slice na h.n.len nc) (.slice fa h.f.len fc) (.slice wa h.w.len wc) ++ ds, by simp [Bl.len, hf], by simp [sdC, hds]; omega, ⟨_, _, _, _, _, _, _, _, _, _, _, _, kcs, ds, rfl, hp, hk1, hk2, hF⟩, ?_⟩
    intro i u hi
    by_cases h7 : i < 10
    · rw [List.getElem?_append_left (by simp [sdC]; omega)] at hi
      have := hget i h7
      rw [Addr.add_add] at this
      rw [this, hi]
    · rw [List.getElem?_append_right (by simp [sdC]; omega)] at hi
      have := hc _ u hi
      rw [show (j + 1) * 10 + (i - (sdC h (.slice pa h.p.length pc) (.slice xa h.x.len xc) (.slice ba b.len bc) (.slice na h.n.len nc) (.slice fa h.f.len fc) (.slice wa h.w.len wc)).length) = j * 10 + i by simp [sdC]; omega] at this
      exact this

theorem blocks_row {n : Nat} (ih : ∀ (cs : List Value) (x : DataW H × List MemPlace), DataW.trod enc Tryz.prog W base sp held n 43 cs = some x → ∃ (ba : Option Addr) (bc : Nat) (b : Bl), cs = [.slice ba b.len bc] ∧ RepV (fun _ => True) W false (.slice ba b.len bc) b) {a : Addr} {len : Nat}
    (he : ∀ i, i < len → ∃ x, (W.cells? base (a.add (i * 1)) 1).bind (DataW.trod enc Tryz.prog W base sp held n 43) = some x) :
    ∀ k j, j + k = len → ∃ (b : Bl) (cs : List Value), b.len = k ∧ cs.length = k ∧ RepT (fun _ => True) W b true cs ∧ ∀ i u, cs[i]? = some u → W.cell? (a.add (j + i)) = some u := by
  intro k
  induction k with
  | zero => intro j _; exact ⟨.nil, [], rfl, rfl, rfl, fun i u h => by simp at h⟩
  | succ k ihk =>
    intro j hj
    obtain ⟨f, ds, hf, hds, hF, hc⟩ := ihk (j + 1) (by omega)
    obtain ⟨x, hx⟩ := he j (by omega)
    obtain ⟨cs', h1, h2⟩ := Option.bind_eq_some_iff.1 hx
    obtain ⟨ba, bc, b, rfl, hl⟩ := ih cs' x h2
    obtain ⟨_, _, hget⟩ := World.cells?_some h1
    obtain ⟨kcs, hk1, hk2⟩ := hl
    refine ⟨.bl b f, .slice ba b.len bc :: ds, by simp [Bl.len, hf], by simp [hds], ⟨ba, bc, kcs, ds, rfl, hk1, hk2, hF⟩, ?_⟩
    intro i u hi
    cases i with
    | zero =>
      have := hget 0 (by omega)
      rw [Addr.add_add] at this
      simp at hi this
      rw [← hi]
      simpa using this
    | succ i =>
      simp at hi
      have := hc i u hi
      rw [show j + (i + 1) = j + 1 + i by omega]
      exact this

end
end Go.Proofs.YtmcajbhljbbglaaGreatDoor

namespace Go.Proofs.YtmcajbhljbbglaaGreatDoor
open Go.RowKit Go.ChangeShapes

section
variable {H : Type} {enc : TypeId × Value → H} {W : World} {base : Nat} {sp : Nat → Bool} {held : Bool}

theorem stmts_of {n : Nat} (ih : ∀ m, m < n → ∀ (cs : List Value) (x : DataW H × List MemPlace), DataW.trod enc Tryz.prog W base sp held m 50 cs = some x → StmtOf W cs) {cs : List Value} {x : DataW H × List MemPlace}
    (h : DataW.trod enc Tryz.prog W base sp held n 43 cs = some x) : ∃ (ba : Option Addr) (bc : Nat) (b : Bl), cs = [.slice ba b.len bc] ∧ RepV (fun _ => True) W false (.slice ba b.len bc) b := by
  rcases DataW.trod_slice Tryz.underlying43 h with ⟨rfl, _⟩ | ⟨a, len, cap, elems, rest, m, rfl, rfl, _, _, h1, h2, hlen, hel, _⟩
  · exact ⟨none, 0, .nil, rfl, [], Cells.nil _ _ _, rfl⟩
  · rw [co50] at hel
    obtain ⟨f, ds, hf, hds, hF, hc⟩ := stmts_row (ih m (Nat.lt_succ_self _)) (a := a) (len := len) (fun i hi => ⟨_, (hel i hi).trans (List.getElem?_eq_getElem (by omega))⟩) len 0 (by omega)
    refine ⟨some a, cap, f, by rw [hf], ds, ?_, hF⟩
    rw [hf]
    exact row_cells h1 h2 hds (fun j u hj => by have := hc j u hj; simpa using this)

theorem blocks_of {n : Nat} (ih : ∀ m, m < n → ∀ (cs : List Value) (x : DataW H × List MemPlace), DataW.trod enc Tryz.prog W base sp held m 50 cs = some x → StmtOf W cs) {cs : List Value} {x : DataW H × List MemPlace}
    (h : DataW.trod enc Tryz.prog W base sp held n 46 cs = some x) : ∃ (ba : Option Addr) (bc : Nat) (b : Bl), cs = [.slice ba b.len bc] ∧ RepV (fun _ => True) W true (.slice ba b.len bc) b := by
  rcases DataW.trod_slice Tryz.underlying46 h with ⟨rfl, _⟩ | ⟨a, len, cap, elems, rest, m, rfl, rfl, _, _, h1, h2, hlen, hel, _⟩
  · exact ⟨none, 0, .nil, rfl, [], Cells.nil _ _ _, rfl⟩
  · rw [co43] at hel
    obtain ⟨f, ds, hf, hds, hF, hc⟩ := blocks_row (n := m) (fun cs x h => stmts_of (fun q hq => ih q (by omega)) h) (a := a) (len := len) (fun i hi => ⟨_, (hel i hi).trans (List.getElem?_eq_getElem (by omega))⟩) len 0 (by omega)
    refine ⟨some a, cap, f, by rw [hf], ds, ?_, hF⟩
    rw [hf]
    exact row_cells h1 h2 (by rw [hds]; show len = len * 1; omega) (fun j u hj => by have := hc j u hj; simpa using this)

set_option maxRecDepth 20000 in
theorem stmt_of : ∀ (n : Nat) (cs : List Value) (x : DataW H × List MemPlace), DataW.trod enc Tryz.prog W base sp held n 50 cs = some x → StmtOf W cs := by
  intro n
  induction n using Nat.strongRecOn with
  | ind n ih =>
    intro cs x h
    obtain ⟨xs, m, rfl, _, hl, hxl, hf⟩ := DataW.trod_struct Tryz.underlying50 h
    rw [co50] at hl
    match cs, hl with
    | [c0, c1, c2, c3, c4, c5, c6, c7, c8, c9], _ =>
      have some_at : ∀ i, i < 7 → ∃ y, xs[i]? = some y := fun i hi => ⟨_, List.getElem?_eq_getElem (by rw [hxl]; exact hi)⟩
      obtain ⟨y0, e0⟩ := some_at 0 (by decide)
      obtain ⟨y1, e1⟩ := some_at 1 (by decide)
      obtain ⟨y2, e2⟩ := some_at 2 (by decide)
      obtain ⟨y3, e3⟩ := some_at 3 (by decide)
      obtain ⟨y4, e4⟩ := some_at 4 (by decide)
      obtain ⟨y5, e5⟩ := some_at 5 (by decide)
      obtain ⟨y6, e6⟩ := some_at 6 (by decide)
      have f0 : DataW.trod enc Tryz.prog W base sp held m 3 (([c0, c1, c2, c3, c4, c5, c6, c7, c8, c9].drop 0).take (Tryz.prog.cellsOf 3)) = some y0 := (hf 0 _ rfl).trans e0
      have f1 : DataW.trod enc Tryz.prog W base sp held m 9 (([c0, c1, c2, c3, c4, c5, c6, c7, c8, c9].drop 1).take (Tryz.prog.cellsOf 9)) = some y1 := (hf 1 _ rfl).trans e1
      have f2 : DataW.trod enc Tryz.prog W base sp held m 9 (([c0, c1, c2, c3, c4, c5, c6, c7, c8, c9].drop 2).take (Tryz.prog.cellsOf 9)) = some y2 := (hf 2 _ rfl).trans e2
      have f3 : DataW.trod enc Tryz.prog W base sp held m 26 (([c0, c1, c2, c3, c4, c5, c6, c7, c8, c9].drop 3).take (Tryz.prog.cellsOf 26)) = some y3 := (hf 3 _ rfl).trans e3
      have f4 : DataW.trod enc Tryz.prog W base sp held m 27 (([c0, c1, c2, c3, c4, c5, c6, c7, c8, c9].drop 4).take (Tryz.prog.cellsOf 27)) = some y4 := (hf 4 _ rfl).trans e4
      have f5 : DataW.trod enc Tryz.prog W base sp held m 46 (([c0, c1, c2, c3, c4, c5, c6, c7, c8, c9].drop 5).take (Tryz.prog.cellsOf 46)) = some y5 := (hf 5 _ rfl).trans e5
      have f6 : DataW.trod enc Tryz.prog W base sp held m 48 (([c0, c1, c2, c3, c4, c5, c6, c7, c8, c9].drop 6).take (Tryz.prog.cellsOf 48)) = some y6 := (hf 6 _ rfl).trans e6
      rw [co3] at f0
      rw [co9] at f1 f2
      rw [co26] at f3
      rw [co27] at f4
      rw [co46] at f5
      rw [co48] at f6
      simp only [List.drop_zero, List.drop_succ_cons, List.take_succ_cons, List.take_zero] at f0 f1 f2 f3 f4 f5 f6
      obtain ⟨op, h0, _⟩ := DataW.trod_int Tryz.underlying3 f0
      obtain ⟨s, h1, _⟩ := DataW.trod_string Tryz.underlying9 f1
      obtain ⟨t, h2, _⟩ := DataW.trod_string Tryz.underlying9 f2
      obtain ⟨pa, pc, p, h3, hp⟩ := texts_of f3
      obtain ⟨xa, xc, xf, h4, hx⟩ := exprs_all f4
      obtain ⟨ba, bc, b, h5, hb⟩ := blocks_of (fun q hq => ih q (by omega)) f5
      obtain ⟨zs, q, _, _, _, hzl, hg⟩ := DataW.trod_struct Tryz.underlying48 f6
      have some_at2 : ∀ i, i < 4 → ∃ y, zs[i]? = some y := fun i hi => ⟨_, List.getElem?_eq_getElem (by rw [hzl]; exact hi)⟩
      obtain ⟨z0, k0⟩ := some_at2 0 (by decide)
      obtain ⟨z1, k1⟩ := some_at2 1 (by decide)
      obtain ⟨z2, k2⟩ := some_at2 2 (by decide)
      obtain ⟨z3, k3⟩ := some_at2 3 (by decide)
      have g0 : DataW.trod enc Tryz.prog W base sp held q 3 (([c6, c7, c8, c9].drop 0).take (Tryz.prog.cellsOf 3)) = some z0 := (hg 0 _ rfl).trans k0
      have g1 : DataW.trod enc Tryz.prog W base sp held q 27 (([c6, c7, c8, c9].drop 1).take (Tryz.prog.cellsOf 27)) = some z1 := (hg 1 _ rfl).trans k1
      have g2 : DataW.trod enc Tryz.prog W base sp held q 27 (([c6, c7, c8, c9].drop 2).take (Tryz.prog.cellsOf 27)) = some z2 := (hg 2 _ rfl).trans k2
      have g3 : DataW.trod enc Tryz.prog W base sp held q 27 (([c6, c7, c8, c9].drop 3).take (Tryz.prog.cellsOf 27)) = some z3 := (hg 3 _ rfl).trans k3
      rw [co3] at g0
      rw [co27] at g1 g2 g3
      simp only [List.drop_zero, List.drop_succ_cons, List.take_succ_cons, List.take_zero] at g0 g1 g2 g3
      obtain ⟨kind, h6, _⟩ := DataW.trod_int Tryz.underlying3 g0
      obtain ⟨na, nc, nf, h7, hn⟩ := exprs_all g1
      obtain ⟨fa, fc, ff, h8, hff⟩ := exprs_all g2
      obtain ⟨wa, wc, wf, h9, hw⟩ := exprs_all g3
      simp only [List.cons.injEq, and_true] at h0 h1 h2 h3 h4 h5 h6 h7 h8 h9
      subst h0 h1 h2 h3 h4 h5 h6 h7 h8 h9
      exact ⟨⟨op, s.data.toList, t.data.toList, p, xf, kind, nf, ff, wf⟩, b, pa, xa, na, fa, wa, ba, pc, xc, nc, fc, wc, bc, by simp [sdC, str_of], ⟨hp, hx, hn, hff, hw⟩, hb⟩

theorem stmts_all {n : Nat} {cs : List Value} {x : DataW H × List MemPlace} (h : DataW.trod enc Tryz.prog W base sp held n 43 cs = some x) : ∃ (ba : Option Addr) (bc : Nat) (b : Bl), cs = [.slice ba b.len bc] ∧ RepV (fun _ => True) W false (.slice ba b.len bc) b :=
  stmts_of (fun m _ cs x h => stmt_of m cs x h) h

end
end Go.Proofs.YtmcajbhljbbglaaGreatDoor
