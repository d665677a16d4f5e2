/-
  It is proved that the law TreeSames answers true for all values and leaves them as they were, where the listed variables of Go's library hold what the program's text lays; and the tied card.
-/
import Derived.Test.YtmcajbhljbbglaaGreatDoorSs27
import Derived.Test.YtmcajbhljbbglaaGreatDoorSs29
import Derived.Test.YtmcajbhljbbglaaGreatDoorSs28
import Derived.Test.YtmcajbhljbbglaaGreatDoorSs30
import Derived.Test.YtmcajbhljbbglaaGreatDoorCards
import Derived.Test.YtmcajbhljbbglaaGreatDoorTie
import Derived.ProofKit
import Derived.OpenShut
import Derived.Carry
import Derived.Lay
import Derived.LaidOnce
import Derived.SevenTiedAt
set_option linter.all false
set_option linter.unusedVariables false
set_option linter.unusedSimpArgs false
set_option linter.unnecessarySimpa false
set_option linter.constructorNameAsVariable false
set_option linter.deprecated false

namespace Go.Proofs.YtmcajbhljbbglaaGreatDoor
open Go.ChangeShapes Go.WideShapes Go.ChangeAt Go.RowKit Go.Lib

theorem own : ownKnob Tryz.prog.godebug = none := by kernel_rfl
theorem laidOut : laidOutB Tryz.prog = true := by kernel_rfl
theorem tabs_of_row {W : World} (h : laidMet Tryz.prog Rows.treeSamesRow.laid W) : Tabs W.heap.size W := by
  have e1 : Rows.laid_unicode_utf8_first = firstData := Pinned.utf8First_eq
  have e2 : Rows.laid_unicode_utf8_acceptRanges (H := Unit) = acceptData := by kernel_rfl
  have e3 : Rows.laid_unicode_CaseRanges = caseData := Pinned.caseRanges_eq
  have e4 : Rows.laid_strings_asciiSpace (H := Unit) = Lib.tabData .u8 Lib.asciiSpaceTab := by kernel_rfl
  refine tabs_of_laid h (d := Rows.laid_math_bits_deBruijn64tab) (e1 ▸ ?_) (e2 ▸ ?_) (e3 ▸ ?_) (e4 ▸ ?_) ?_
  · exact .tail _ (.tail _ (.tail _ (.tail _ (.tail _ (.tail _ (.tail _ (.tail _ (.tail _ (.head _)))))))))
  · exact .tail _ (.tail _ (.tail _ (.head _)))
  · exact .tail _ (.tail _ (.tail _ (.tail _ (.tail _ (.tail _ (.tail _ (.tail _ (.head _))))))))
  · exact .tail _ (.tail _ (.tail _ (.tail _ (.tail _ (.tail _ (.tail _ (.head _)))))))
  · exact .tail _ (.head _)

set_option maxRecDepth 100000 in
theorem slice_cells {W : World} {r : Reach} {b0 : Nat} {v u : Value} (hv : Value.okWide Tryz.prog W r b0 34 v) (h : v.cells.toList = [u]) : v = u := by
  cases v with
  | agg cs =>
    unfold Value.okWide at hv
    rw [Tryz.underlying34] at hv
    simp [Cell.okWide, Cell.ok, Tryz.underlying34] at hv
  | _ => simpa [Value.cells] using h

set_option maxRecDepth 100000 in
theorem psames_contract (H : Type) (enc : TypeId × Value → H) (W : World) (base : Nat) (args : Array Value) (ds gs : List (DataW H)) (before : List MemPlace)
    (hval0 : ∀ (j : Nat) t v, Tryz.f6.params[j]? = some t → args[j]? = some v → Value.okWide Tryz.prog W .any base t v)
    (hW : DataW.Whole enc Tryz.prog Tryz.f6.params.toList Rows.treeSamesSpec.vars false W args.toList ds gs before) (hL : laidMetH Tryz.prog Rows.treeSamesRow.laid W) :
    Calls Tryz.prog 6 args W fun e W' => ∃ v, e = .returned v ∧ Rows.treeSamesSpec.post enc Tryz.prog Tryz.f6 false true false false W args v W' := by
  have hlt : ∀ p ∈ before, p.block < W.heap.size := fun p hp => hW.lt p hp
  have hW' := hW
  obtain ⟨p, q, hA0, hV, rfl, _, _⟩ := hW
  have hA : DataW.TrodAll enc Tryz.prog W 0 (fun _ => true) true Tryz.f6.params.toList args.toList ds p := hA0
  rw [Tryz.params6] at hA hval0
  obtain ⟨v0, vs0, d0, ds0, p0, q0, hargs, rfl, rfl, h0, r0⟩ := trodAll_cons hA
  obtain ⟨v1, vs1, d1, ds1, p1, q1, rfl, rfl, rfl, h1, r1⟩ := trodAll_cons r0
  obtain ⟨rfl, rfl, rfl⟩ := trodAll_nil r1
  obtain rfl : args = #[v0, v1] := by cases args; simp_all
  obtain ⟨rfl, rfl⟩ := trodVars_none hV
  rw [MakeChecks.laidMetH_plain _ _ _ (by kernel_rfl)] at hL
  obtain ⟨la, lc, l, e0, hx⟩ := procs_of h0
  obtain ⟨lb, ld, m, e1, hy⟩ := procs_of h1
  obtain rfl := slice_cells (hval0 0 34 v0 rfl rfl) e0
  obtain rfl := slice_cells (hval0 1 34 v1 rfl rfl) e1
  simp only [List.append_nil] at hW' hlt
  refine (treeSames_walk (tabs_of_row hL) hx hy).mono fun e W' ⟨he, hg⟩ => ?_
  subst he
  have hb : Below W.heap.size W W' := gb_below hg
  have hl0 : ∀ z ∈ p0, z.block < W.heap.size := fun z hz => hlt z (List.mem_append_left _ hz)
  have hl1 : ∀ z ∈ p1, z.block < W.heap.size := fun z hz => hlt z (List.mem_append_right _ hz)
  exact ⟨_, rfl, _, _, _, [], _, [], hW', trodAll_mk1 (shut_bool Tryz.underlying4 _),
    trodAll_cons_mk (Below.trod laidOut (by kernel_rfl) (of_decide_eq_true (by kernel_rfl)) h0 hb hl0) (trodAll_cons_mk (Below.trod laidOut (by kernel_rfl) (of_decide_eq_true (by kernel_rfl)) h1 hb hl1) trodAll_mk0), rfl, hb.frame _, fun h => by cases h⟩

abbrev wit1 : Value := .slice none 0 0
set_option maxRecDepth 100000 in
theorem psames_lifted (os : Os) (started : os.Started) (H : Type) (enc : TypeId × Value → H) :
    ReturnsInHanded {} Tryz.checked os 6 .any (fun w args => (Rows.treeSamesSpec.pre enc Tryz.prog Tryz.f6 [] false w args ∧ laidMetH Tryz.prog Rows.treeSamesRow.laid w) ∧ sizedMet enc Tryz.prog Tryz.f6 (OpenSpec.ofChange Rows.treeSamesSpec) false w args)
      (Rows.treeSamesSpec.post enc Tryz.prog Tryz.f6 false true false false) := by
  refine returnsInHanded_of_change_and (C := Tryz.checked) (X := fun w _ => laidMetH Tryz.prog Rows.treeSamesRow.laid w) (fun _ _ _ hh h => h.of_heap hh) own started (by kernel_rfl) Tryz.func6
    (ChangeSpec.witness_shaped (enc := enc) (C := Tryz.checked) (os := os) (X := fun w _ => laidMetH Tryz.prog Rows.treeSamesRow.laid w) false (World.laidAll Tryz.prog os Rows.treeSamesRow.laid) #[wit1, wit1] 8 (World.laidAll_os _ _ _)
      (World.shaped_of_ZipB (by kernel_rfl) (by kernel_rfl)) (by kernel_rfl) (by kernel_rfl) (by kernel_rfl)
      (by rw [MakeChecks.laidMetH_plain _ _ _ (by kernel_rfl)]; exact laidMet_laidAll _ (by kernel_rfl) (by kernel_rfl))) ?_
  intro W base args ds gs before hval0 hW _ _ hL _
  exact psames_contract H enc W base args ds gs before hval0 hW hL

theorem psames_said : Rows.TreeSamesSaid :=
  OpenClaim.holds_of_wide 6 Tryz.f6 rfl rfl rfl rfl rfl rfl rfl ⟨rfl, rfl, rfl, rfl, rfl⟩ rfl rfl rfl rfl rfl (by kernel_rfl) Tryz.func6 psames_facts
    (of_decide_eq_true (by kernel_rfl)) (by unfold Func.isWrapper; first | (rw [if_pos (by decide +kernel)]; kernel_rfl) | (rw [if_neg (by decide +kernel)]; exact ⟨rfl, rfl⟩))
    (fun os started H enc _ => psames_lifted os started H enc)

theorem psames_plain (f : FuncId) (fn : Func) (hf : Tryz.pinned.checked.prog.funcNamed "cabinetry/cabinetrylaw06.TreeSames" = some f) (hfn : Tryz.pinned.checked.prog.funcs[f]? = some fn) :
    true = Tryz.pinned.checked.prog.looks [] ∧ ∀ (j : Nat) t, fn.params[j]? = some t → Tryz.pinned.checked.prog.wantsStandIn t = false := by
  obtain rfl : f = 6 := Option.some.inj ((show Tryz.prog.funcNamed "cabinetry/cabinetrylaw06.TreeSames" = some 6 by kernel_rfl).symm.trans hf) |>.symm
  obtain rfl : fn = Tryz.f6 := (Option.some.inj (Tryz.func6.symm.trans hfn)).symm
  refine ⟨by kernel_rfl, fun j t ht => ?_⟩
  rw [Tryz.params6] at ht
  have hm : t ∈ [34, 34] := by simpa using Array.mem_of_getElem? ht
  have hall : ([34, 34].all fun u => !Tryz.prog.wantsStandIn u) = true := by kernel_rfl
  exact (show Tryz.prog.wantsStandIn t = false by simpa using List.all_eq_true.1 hall t hm)

/-- TreeSames: the tied card -/
theorem treeSames_card : Rows.TreeSamesCardSaid :=
  Claim7.holds_tied_plain_at .later [] _ _ _ _ psames_said (fun _ h => by cases h) (by kernel_rfl) (fun _ h => by cases h) treeSames_row_tie rfl ⟨rfl, rfl⟩ (by kernel_rfl) rfl psames_plain (by kernel_rfl)
#print axioms treeSames_card
end Go.Proofs.YtmcajbhljbbglaaGreatDoor
