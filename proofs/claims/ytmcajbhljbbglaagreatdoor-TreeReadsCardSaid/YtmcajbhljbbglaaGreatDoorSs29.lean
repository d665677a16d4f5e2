/-
  What is read as a row of procedures is one: procedures.
  The library's tables, out of what the row lists.
-/
import Derived.Test.YtmcajbhljbbglaaGreatDoorSs28
import Derived.Test.YtmcajbhljbbglaaGreatDoorSs11
import Derived.Lib.LaidU8
import Derived.Lib.LaidCase
import Derived.Lib.LaidTab
import Derived.PinnedBridge
set_option linter.all false
set_option linter.unusedVariables false
set_option linter.unusedSimpArgs false
set_option linter.unnecessarySimpa false
set_option linter.constructorNameAsVariable false
set_option linter.deprecated false

namespace Go.Proofs.YtmcajbhljbbglaaGreatDoor
open Go.RowKit Go.ChangeShapes

section
variable {H : Type} {enc : TypeId × Value → H} {W : World} {base : Nat} {sp : Nat → Bool} {held : Bool}

def ProcOf (W : World) (cs : List Value) : Prop := ∃ (h : Pd) (pa ba : Option Addr) (pc bc : Nat), cs = pdC h (.slice pa h.p.length pc) (.slice ba h.body.len bc) ∧ Cells W (.slice pa h.p.length pc) 1 h.p.length (h.p.map str) (fun _ => True) ∧ RepV (fun _ => True) W false (.slice ba h.body.len bc) h.body

set_option maxRecDepth 20000 in
theorem proc_of {n : Nat} {cs : List Value} {x : DataW H × List MemPlace} (h : DataW.trod enc Tryz.prog W base sp held n 45 cs = some x) : ProcOf W cs := by
  obtain ⟨xs, m, rfl, _, hl, hxl, hf⟩ := DataW.trod_struct Tryz.underlying45 h
  rw [co45] at hl
  match cs, hl with
  | [c0, c1, c2, c3], _ =>
    have some_at : ∀ i, i < 4 → ∃ y, xs[i]? = some y := fun i hi => ⟨_, List.getElem?_eq_getElem (by rw [hxl]; exact hi)⟩
    obtain ⟨y0, e0⟩ := some_at 0 (by decide)
    obtain ⟨y1, e1⟩ := some_at 1 (by decide)
    obtain ⟨y2, e2⟩ := some_at 2 (by decide)
    obtain ⟨y3, e3⟩ := some_at 3 (by decide)
    have f0 : DataW.trod enc Tryz.prog W base sp held m 9 (([c0, c1, c2, c3].drop 0).take (Tryz.prog.cellsOf 9)) = some y0 := (hf 0 _ rfl).trans e0
    have f1 : DataW.trod enc Tryz.prog W base sp held m 4 (([c0, c1, c2, c3].drop 1).take (Tryz.prog.cellsOf 4)) = some y1 := (hf 1 _ rfl).trans e1
    have f2 : DataW.trod enc Tryz.prog W base sp held m 26 (([c0, c1, c2, c3].drop 2).take (Tryz.prog.cellsOf 26)) = some y2 := (hf 2 _ rfl).trans e2
    have f3 : DataW.trod enc Tryz.prog W base sp held m 43 (([c0, c1, c2, c3].drop 3).take (Tryz.prog.cellsOf 43)) = some y3 := (hf 3 _ rfl).trans e3
    rw [co9] at f0
    rw [co4] at f1
    rw [co26] at f2
    rw [co43] at f3
    simp only [List.drop_zero, List.drop_succ_cons, List.take_succ_cons, List.take_zero] at f0 f1 f2 f3
    obtain ⟨s, h0, _⟩ := DataW.trod_string Tryz.underlying9 f0
    obtain ⟨fn, h1, _⟩ := DataW.trod_bool Tryz.underlying4 f1
    obtain ⟨pa, pc, p, h2, hp⟩ := texts_of f2
    obtain ⟨ba, bc, b, h3, hb⟩ := stmts_all f3
    simp only [List.cons.injEq, and_true] at h0 h1 h2 h3
    subst h0 h1 h2 h3
    exact ⟨⟨s.data.toList, fn, p, b⟩, pa, ba, pc, bc, by simp [pdC, str_of], hp, hb⟩

theorem procs_row {n : Nat} {a : Addr} {len : Nat}
    (he : ∀ i, i < len → ∃ x, (W.cells? base (a.add (i * 4)) 4).bind (DataW.trod enc Tryz.prog W base sp held n 45) = some x) :
    ∀ k j, j + k = len → ∃ (l : List Pd) (cs : List Value), l.length = k ∧ cs.length = k * 4 ∧ RepP (fun _ => True) W l cs ∧ ∀ i u, cs[i]? = some u → W.cell? (a.add (j * 4 + i)) = some u := by
  intro k
  induction k with
  | zero => intro j _; exact ⟨[], [], rfl, rfl, rfl, fun i u h => by simp at h⟩
  | succ k ihk =>
    intro j hj
    obtain ⟨f, ds, hf, hds, hF, hc⟩ := ihk (j + 1) (by omega)
    obtain ⟨x, hx⟩ := he j (by omega)
    obtain ⟨cs', h1, h2⟩ := Option.bind_eq_some_iff.1 hx
    obtain ⟨h, pa, ba, pc, bc, rfl, hp, hl⟩ := proc_of h2
    obtain ⟨_, _, hget⟩ := World.cells?_some h1
    refine ⟨h :: f, pdC h (.slice pa h.p.length pc) (.slice ba h.body.len bc) ++ ds, by simp [hf], by simp [pdC, hds]; omega, ⟨_, _, _, _, ds, rfl, hp, hl, hF⟩, ?_⟩
    intro i u hi
    by_cases h7 : i < 4
    · rw [List.getElem?_append_left (by simp [pdC]; omega)] at hi
      have := hget i h7
      rw [Addr.add_add] at this
      rw [this, hi]
    · rw [List.getElem?_append_right (by simp [pdC]; omega)] at hi
      have := hc _ u hi
      rw [show (j + 1) * 4 + (i - (pdC h (.slice pa h.p.length pc) (.slice ba h.body.len bc)).length) = j * 4 + i by simp [pdC]; omega] at this
      exact this

/-- an argument that is read as a row of procedures is one -/
theorem procs_of {v : Value} {d : DataW H} {ps : List MemPlace} (h : DataW.Trod enc Tryz.prog W base sp held 34 v d ps) : ∃ (la : Option Addr) (lc : Nat) (l : List Pd), v.cells.toList = [.slice la l.length lc] ∧ RepQ (fun _ => True) W (.slice la l.length lc) l := by
  obtain ⟨fuel, hf⟩ := h
  rcases DataW.trod_slice Tryz.underlying34 hf with ⟨e, _⟩ | ⟨a, len, cap, elems, rest, m, rfl, e, _, _, h1, h2, hlen, hel, _⟩
  · exact ⟨none, 0, [], e, [], Cells.nil _ _ _, rfl⟩
  · rw [co45] at hel
    obtain ⟨f, ds, hf, hds, hF, hc⟩ := procs_row (n := m) (a := a) (len := len) (fun i hi => ⟨_, (hel i hi).trans (List.getElem?_eq_getElem (by omega))⟩) len 0 (by omega)
    refine ⟨some a, cap, f, by rw [hf]; exact e, ds, ?_, hF⟩
    rw [hf]
    exact row_cells h1 h2 hds (fun j u hj => by have := hc j u hj; simpa using this)

end
end Go.Proofs.YtmcajbhljbbglaaGreatDoor

namespace Go.Proofs.YtmcajbhljbbglaaGreatDoor
open Go.RowKit Go.Lib

theorem u8x : U8Extra Tryz.prog Tryz.lays260_ren := ⟨by kernel_rfl, by kernel_rfl, by kernel_rfl, by kernel_rfl, by kernel_rfl, by kernel_rfl, by kernel_rfl⟩
theorem casex : CaseExtra Tryz.prog Tryz.lays203_ren := ⟨by kernel_rfl, by kernel_rfl, by kernel_rfl, by kernel_rfl, by kernel_rfl, by kernel_rfl⟩
theorem tabIs_of_reads {P : Program} {W : World} {name : String} {k : IntKind} {zs : List Int} {g : Nat} {t e : TypeId} {n : Nat}
    (hg : P.globalNamed name = some g) (hty : (P.globals[g]?).map (·.type) = some t) (ht : P.underlying t = some (.array n e)) (he : P.underlying e = some (.int k)) (hce : P.cellsOf e = 1) (hct : P.cellsOf t = n)
    (h : VarReads P W name (tabData k zs)) : TabIs P W name k zs := by
  obtain ⟨g', t', cs, fuel, p, hg', ht', hvar, hd⟩ := h
  obtain rfl := Option.some.inj (hg.symm.trans hg')
  obtain rfl := Option.some.inj (hty.symm.trans ht')
  unfold TabIs
  rw [hvar, ← cells_of_tab ht he hce hct hd]

theorem varReads_lt {P : Program} {W : World} {name : String} {d : DataW Unit} {g : Nat} (hg : P.globalNamed name = some g) (h : VarReads P W name d) : g < W.heap.size := by
  obtain ⟨g', t', cs, fuel, p, hg', ht', hvar, hd⟩ := h
  obtain rfl := Option.some.inj (hg.symm.trans hg')
  unfold World.var? at hvar
  rw [hg] at hvar
  simp only [Option.bind_some] at hvar
  rcases Nat.lt_or_ge g W.heap.size with h | h
  · exact h
  · rw [Array.getElem?_eq_none h] at hvar; simp at hvar

set_option maxRecDepth 20000 in
theorem tabs_of_laid {W : World} {laid : List (String × DataW Unit)} (h : laidMet Tryz.prog laid W) {d : DataW Unit} (h1 : ("unicode/utf8.first", firstData) ∈ laid) (h2 : ("unicode/utf8.acceptRanges", acceptData) ∈ laid)
    (h3 : ("unicode.CaseRanges", caseData) ∈ laid) (h4 : ("strings.asciiSpace", tabData .u8 asciiSpaceTab) ∈ laid) (h5 : ("math/bits.deBruijn64tab", d) ∈ laid) : Tabs W.heap.size W := by
  have hu := utf8Tabs_of_reads Tryz.lays260 u8x (laidMet.reads h h1) (laidMet.reads h h2)
  have hc := caseVar_of_reads { Tryz.lays203 with } Tryz.lays203.t206 casex (laidMet.reads h h3)
  have hg := varReads_lt (g := 10) (by kernel_rfl) (laidMet.reads h h5)
  have e13 : Tryz.lays203_ren.g 13 = 2 := by kernel_rfl
  rw [e13] at hc
  obtain ⟨R, oR, cap, hcell, hT⟩ := hc
  have hR := World.block_lt_of_cell? W _ (hT 0 (by decide +kernel)).1
  exact ⟨hu, hg, ⟨R, oR, cap, hR, hcell, hT⟩, tabIs_of_reads glob_at (t := 83) (e := 5) (n := 256) (by kernel_rfl) Tryz.underlying83 Tryz.underlying5 (by kernel_rfl) (by kernel_rfl) (laidMet.reads h h4)⟩

end Go.Proofs.YtmcajbhljbbglaaGreatDoor
