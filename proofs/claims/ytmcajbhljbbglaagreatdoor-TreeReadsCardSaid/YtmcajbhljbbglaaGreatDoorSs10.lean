/-
  The whole of expr, by the fuel.
  run: a rule of the grammar under a deferred recover.
  The words of statements; the package variables that the program reads.
-/
import Derived.Test.YtmcajbhljbbglaaGreatDoorSs09
import Derived.Defers
import Derived.Recover
import Derived.Lib.ItoaMem
set_option linter.all false
set_option linter.unusedVariables false
set_option linter.unusedSimpArgs false
set_option linter.unnecessarySimpa false
set_option linter.constructorNameAsVariable false
set_option linter.deprecated false

namespace Go.Proofs.YtmcajbhljbbglaaGreatDoor
open Go.RowKit

theorem goes_expr (l : List Tok) (day : Bs → Int) (n : Nat) : Goes (exprM l day n) := by
  intro i x j h
  have := exprM_fine (l := l) day n i
  rw [h] at this
  exact this.1

theorem exprs_any {b : Nat} {tv wv : Value} {l : List Tok} {wl : List Bs} {day : Bs → Int} (hl : Tame day l) : ∀ n, CE 56 b tv wv l wl (exprM l day n) := by
  intro n
  induction n with
  | zero => intro w i h ho; exact absurd rfl ho
  | succ n ih =>
    have hp := prim_any ih (goes_expr l day n) hl n
    have hu := unary_any ih hp n
    have hw := pow_any hu n
    exact expr_any (not_any (sumf := sumM l n _) (sum_any hw n) n) n

end Go.Proofs.YtmcajbhljbbglaaGreatDoor

namespace Go.Proofs.YtmcajbhljbbglaaGreatDoor
open Go.RowKit

theorem neq_nil_stop (i : Int) (w : World) : (binOp .neq 20 (.iface 115 (.agg #[.int .i64 i])) .nilIface).run Tryz.prog w = .ok (.bool true) w := by kernel_rfl
theorem neq_nil_nil' (w : World) : (binOp .neq 20 .nilIface .nilIface).run Tryz.prog w = .ok (.bool false) w := by kernel_rfl

theorem catch_idle (p : Addr) (w : World) :
    CallsD Tryz.prog 85 #[.pointer (some p)] .returning w fun e u' w' => e = .returned (.tuple #[]) ∧ u' = .returning ∧ w' = w := by
  have hnn := neq_nil_nil'
  refine callsD_of_wpS Tryz.func85 rfl fun c₀ cs hu => ?_
  apply wpS_seq
  apply wpS_region
  simp [wpOpsS, go_sem, recoverD, hu, hnn, Tryz.ntmps85, Exit.thenS]
  apply wpS_seq
  apply wpS_region
  simp [wpOpsS, go_sem, hnn, Exit.thenS]
  refine wpS_cond (t := false) (by simp [Act.eval, Array.replicate]) ?_
  simp only [Bool.false_eq_true, if_false]
  refine wpS_of_wp (wp_skip ?_)
  cases c₀
  simp_all [bodyPostS, results, Tryz.results85]

theorem assert_stop (i : Int) (w : World) : (Instr.typeAssert (.iface 115 (.agg #[.int .i64 i])) 20 115 true).run Tryz.prog w = .ok (.tuple #[.agg #[.int .i64 i], .bool true]) w := by kernel_rfl

set_option maxRecDepth 20000 in
theorem catch_stop {k : Nat} {i : Int} {x : Value} {w : World} (hc : w.cell? ⟨k, 0, none⟩ = some x) (hz : w.frozen? ⟨k, 0, none⟩ = false) :
    CallsD Tryz.prog 85 #[.pointer (some ⟨k, 0, none⟩)] (.panicking [{ v := .iface 115 (.agg #[.int .i64 i]), recovered := false }]) w fun e u' w' =>
      e = .returned (.tuple #[]) ∧ u' = .panicking [{ v := .iface 115 (.agg #[.int .i64 i]), recovered := true }] ∧ w' = (w.setCell ⟨k, 0, none⟩ (.int .i64 i)).alloc (.cells #[.int .i64 i] 115 (0, 0)) := by
  have hnn := neq_nil_stop i
  have hk := World.block_lt_of_cell? w _ hc
  refine callsD_of_wpS Tryz.func85 rfl fun c₀ cs hu => ?_
  simp only [Tryz.ntmps85, List.size_toArray, List.length_cons, List.length_nil, Nat.reduceAdd, Nat.reduceSub, Array.replicate_succ, Array.replicate_zero, List.push_toArray, List.append_toArray, List.nil_append, List.cons_append]
  apply wpS_seq
  apply wpS_region
  simp [wpOpsS, go_sem, recoverD, hu, hnn, Tryz.ntmps85, Exit.thenS]
  apply wpS_seq
  apply wpS_region
  simp [wpOpsS, go_sem, hnn, Exit.thenS]
  refine wpS_cond (t := true) (by simp [Act.eval, Array.replicate]) ?_
  simp only [if_true]
  refine wpS_of_wp ?_
  have hta := assert_stop i
  go_wp2
  exact ⟨rfl, _, rfl, _, by simp [results, Tryz.results85, go_sem], rfl, rfl, rfl⟩

end Go.Proofs.YtmcajbhljbbglaaGreatDoor

namespace Go.Proofs.YtmcajbhljbbglaaGreatDoor
open Go.RowKit Go.Sort

/-- the constant text of Words -/
def wordsText : Bs := [80, 82, 79, 67, 69, 68, 85, 82, 69, 32, 70, 85, 78, 67, 84, 73, 79, 78, 32, 76, 79, 67, 65, 76, 32, 80, 82, 73, 86, 65, 84, 69, 32, 80, 85, 66, 76, 73, 67, 32, 83, 84, 65, 84, 73, 67, 32, 73, 70, 32, 69, 76, 83, 69, 73, 70, 32, 69, 76, 83, 69, 32, 69, 78, 68, 73, 70, 32, 68, 79, 32, 67, 65, 83, 69, 32, 79, 84, 72, 69, 82, 87, 73, 83, 69, 32, 69, 78, 68, 67, 65, 83, 69, 32, 87, 72, 73, 76, 69, 32, 69, 78, 68, 68, 79, 32, 70, 79, 82, 32, 84, 79, 32, 83, 84, 69, 80, 32, 78, 69, 88, 84, 32, 76, 79, 79, 80, 32, 69, 88, 73, 84, 32, 82, 69, 84, 85, 82, 78, 32, 87, 73, 84, 72, 32, 66, 82, 69, 65, 75, 32, 66, 69, 71, 73, 78, 32, 83, 69, 81, 85, 69, 78, 67, 69, 32, 82, 69, 67, 79, 86, 69, 82, 32, 85, 83, 73, 78, 71, 32, 69, 78, 68, 32, 83, 69, 76, 69, 67, 84, 32, 85, 83, 69, 32, 65, 76, 73, 65, 83, 32, 71, 79, 32, 84, 79, 80, 32, 66, 79, 84, 84, 79, 77, 32, 83, 75, 73, 80, 32, 83, 69, 69, 75, 32, 76, 79, 67, 65, 84, 69, 32, 67, 79, 78, 84, 73, 78, 85, 69, 32, 82, 69, 80, 76, 65, 67, 69, 32, 68, 69, 76, 69, 84, 69, 32, 82, 69, 67, 65, 76, 76, 32, 65, 80, 80, 69, 78, 68, 32, 66, 76, 65, 78, 75, 32, 80, 65, 67, 75, 32, 90, 65, 80, 32, 67, 79, 85, 78, 84, 32, 83, 85, 77, 32, 73, 78, 68, 69, 88, 32, 79, 78, 32, 84, 65, 71, 32, 85, 78, 73, 81, 85, 69, 32, 67, 65, 78, 68, 73, 68, 65, 84, 69, 32, 68, 69, 83, 67, 69, 78, 68, 73, 78, 71, 32, 83, 69, 84, 32, 79, 82, 68, 69, 82, 32, 70, 73, 76, 84, 69, 82, 32, 82, 69, 76, 65, 84, 73, 79, 78, 32, 73, 78, 84, 79, 32, 69, 88, 65, 67, 84, 32, 68, 69, 76, 69, 84, 69, 68, 32, 79, 70, 70, 32, 65, 76, 76, 32, 82, 69, 83, 84, 32, 82, 69, 67, 79, 82, 68]
def wordsRaw : List Bs := [[80, 82, 79, 67, 69, 68, 85, 82, 69], [70, 85, 78, 67, 84, 73, 79, 78], [76, 79, 67, 65, 76], [80, 82, 73, 86, 65, 84, 69], [80, 85, 66, 76, 73, 67], [83, 84, 65, 84, 73, 67], [73, 70], [69, 76, 83, 69, 73, 70], [69, 76, 83, 69], [69, 78, 68, 73, 70], [68, 79], [67, 65, 83, 69], [79, 84, 72, 69, 82, 87, 73, 83, 69], [69, 78, 68, 67, 65, 83, 69], [87, 72, 73, 76, 69], [69, 78, 68, 68, 79], [70, 79, 82], [84, 79], [83, 84, 69, 80], [78, 69, 88, 84], [76, 79, 79, 80], [69, 88, 73, 84], [82, 69, 84, 85, 82, 78], [87, 73, 84, 72], [66, 82, 69, 65, 75], [66, 69, 71, 73, 78], [83, 69, 81, 85, 69, 78, 67, 69], [82, 69, 67, 79, 86, 69, 82], [85, 83, 73, 78, 71], [69, 78, 68], [83, 69, 76, 69, 67, 84], [85, 83, 69], [65, 76, 73, 65, 83], [71, 79], [84, 79, 80], [66, 79, 84, 84, 79, 77], [83, 75, 73, 80], [83, 69, 69, 75], [76, 79, 67, 65, 84, 69], [67, 79, 78, 84, 73, 78, 85, 69], [82, 69, 80, 76, 65, 67, 69], [68, 69, 76, 69, 84, 69], [82, 69, 67, 65, 76, 76], [65, 80, 80, 69, 78, 68], [66, 76, 65, 78, 75], [80, 65, 67, 75], [90, 65, 80], [67, 79, 85, 78, 84], [83, 85, 77], [73, 78, 68, 69, 88], [79, 78], [84, 65, 71], [85, 78, 73, 81, 85, 69], [67, 65, 78, 68, 73, 68, 65, 84, 69], [68, 69, 83, 67, 69, 78, 68, 73, 78, 71], [83, 69, 84], [79, 82, 68, 69, 82], [70, 73, 76, 84, 69, 82], [82, 69, 76, 65, 84, 73, 79, 78], [73, 78, 84, 79], [69, 88, 65, 67, 84], [68, 69, 76, 69, 84, 69, 68], [79, 70, 70], [65, 76, 76], [82, 69, 83, 84], [82, 69, 67, 79, 82, 68]]
/-- the words, sorted -/
def wordsL : List Bs := [[65, 76, 73, 65, 83], [65, 76, 76], [65, 80, 80, 69, 78, 68], [66, 69, 71, 73, 78], [66, 76, 65, 78, 75], [66, 79, 84, 84, 79, 77], [66, 82, 69, 65, 75], [67, 65, 78, 68, 73, 68, 65, 84, 69], [67, 65, 83, 69], [67, 79, 78, 84, 73, 78, 85, 69], [67, 79, 85, 78, 84], [68, 69, 76, 69, 84, 69], [68, 69, 76, 69, 84, 69, 68], [68, 69, 83, 67, 69, 78, 68, 73, 78, 71], [68, 79], [69, 76, 83, 69], [69, 76, 83, 69, 73, 70], [69, 78, 68], [69, 78, 68, 67, 65, 83, 69], [69, 78, 68, 68, 79], [69, 78, 68, 73, 70], [69, 88, 65, 67, 84], [69, 88, 73, 84], [70, 73, 76, 84, 69, 82], [70, 79, 82], [70, 85, 78, 67, 84, 73, 79, 78], [71, 79], [73, 70], [73, 78, 68, 69, 88], [73, 78, 84, 79], [76, 79, 67, 65, 76], [76, 79, 67, 65, 84, 69], [76, 79, 79, 80], [78, 69, 88, 84], [79, 70, 70], [79, 78], [79, 82, 68, 69, 82], [79, 84, 72, 69, 82, 87, 73, 83, 69], [80, 65, 67, 75], [80, 82, 73, 86, 65, 84, 69], [80, 82, 79, 67, 69, 68, 85, 82, 69], [80, 85, 66, 76, 73, 67], [82, 69, 67, 65, 76, 76], [82, 69, 67, 79, 82, 68], [82, 69, 67, 79, 86, 69, 82], [82, 69, 76, 65, 84, 73, 79, 78], [82, 69, 80, 76, 65, 67, 69], [82, 69, 83, 84], [82, 69, 84, 85, 82, 78], [83, 69, 69, 75], [83, 69, 76, 69, 67, 84], [83, 69, 81, 85, 69, 78, 67, 69], [83, 69, 84], [83, 75, 73, 80], [83, 84, 65, 84, 73, 67], [83, 84, 69, 80], [83, 85, 77], [84, 65, 71], [84, 79], [84, 79, 80], [85, 78, 73, 81, 85, 69], [85, 83, 69], [85, 83, 73, 78, 71], [87, 72, 73, 76, 69], [87, 73, 84, 72], [90, 65, 80]]

theorem words_fields : Lib.fields wordsText = wordsRaw := by decide +kernel
theorem words_sorted : (wordsRaw.mergeSort fun x y => decide (x ≤ y)) = wordsL := by
  refine List.Perm.eq_of_pairwise (le := fun x y => decide (x ≤ y) = true) ?_ (List.pairwise_mergeSort ?_ ?_ _) ?_ ((List.mergeSort_perm _ _).trans ?_)
  · intro a b _ _ h1 h2
    exact List.le_antisymm (by simpa using h1) (by simpa using h2)
  · intro a b c h1 h2
    simp only [decide_eq_true_eq] at *
    exact List.le_trans h1 h2
  · intro a b
    simp only [Bool.or_eq_true, decide_eq_true_eq]
    exact List.le_total a b
  · decide +kernel
  · exact List.isPerm_iff.1 (by decide +kernel)
theorem words_ascii : wordsText.all (fun b => decide (b.toNat < 128)) = true := by decide +kernel

/-- the package variables -/
def Glob (w : World) : Prop := Lib.TabIs Tryz.prog w "strings.asciiSpace" .u8 Lib.asciiSpaceTab
theorem glob_at : Tryz.prog.globalNamed "strings.asciiSpace" = some 0 := by kernel_rfl
theorem Glob.gb {w w1 : World} {r : Option Nat} (h : Glob w) (g : w.grownBy w1 r) (hr : some 0 ≠ r) : Glob w1 := by
  unfold Glob Lib.TabIs World.var? at *
  simp only [glob_at, Option.bind_some] at h ⊢
  have hlt : 0 < w.heap.size := by
    rcases Nat.lt_or_ge 0 w.heap.size with h' | h'
    · exact h'
    · rw [Array.getElem?_eq_none h'] at h; simp at h
  rw [g.block _ hlt hr]
  exact h

theorem holds_words (w : World) : Holds encStr (w.alloc (.cells (wordsRaw.map fun l => Value.string ⟨l.toArray⟩).toArray 9 (0, 0))) w.heap.size 0 wordsRaw.toArray := by
  intro j hj
  have hB := Blk.new w (wordsRaw.map fun l => Value.string ⟨l.toArray⟩) 9
  refine ⟨?_, hB.frozen _⟩
  rw [hB.cell]
  simp at hj
  simp [encStr, hj]

theorem holds_ahead (w : World) (n : Nat) : Holds encStr (Sort.ahead (w.alloc (.cells (wordsRaw.map fun (l : Bs) => Value.string ⟨l.toArray⟩).toArray 9 (0, 0))) n) w.heap.size 0 wordsRaw.toArray := holds_words w

theorem sorted_gb {w : World} {g n : Nat} {os : Array Obj} (d : Array (List UInt8)) : w.grownBy (grow (putRow encStr (Sort.ahead w n) g 0 d) os) (some g) := by
  refine ⟨rfl, rfl, rfl, by simp, fun k hk hne => ?_⟩
  rw [heap_grow_old _ _ (by simpa using hk)]
  have : g ≠ k := fun e => hne (by rw [e])
  simp [putRow, mapBlock, Sort.ahead, Array.getElem?_modify, this]

set_option maxRecDepth 20000 in
theorem words_any {w : World} (hg : Glob w) : Calls Tryz.prog 49 #[] w fun e w' => ∃ wv, e = .returned wv ∧ SRow w' wv wordsL (since w.heap.size) ∧ w.grownBy w' none := by
  go_enter Tryz.func49, Tryz.ntmps49
  go_wp2_with fail
  refine (Tryz.strings_Fields ⟨wordsText.toArray⟩ w (by decide +kernel) ?_ hg).mono ?_
  · intro j b hb
    have := List.all_eq_true.1 words_ascii b (by
      have : wordsText[j]? = some b := hb
      exact List.mem_of_getElem? this)
    simpa using this
  rintro e w1 ⟨rfl, rfl⟩
  rw [show (Lib.fields (ByteArray.mk wordsText.toArray).data.toList) = wordsRaw from words_fields]
  go_wp2_with fail
  refine (Tryz.slices_Sort_string w.heap.size 0 wordsRaw.length wordsRaw _ (holds_words w) (by simp) (by decide +kernel)).mono ?_
  rintro e w2 ⟨rfl, n, os, rfl⟩
  rw [words_sorted]
  go_wp2
  go_ret
  have hA := World.grownBy_alloc w (.cells (wordsRaw.map fun l => Value.string ⟨l.toArray⟩).toArray 9 (0, 0)) none
  have hS := sorted_gb (os := os) (n := n) (w := w.alloc (.cells (wordsRaw.map fun l => Value.string ⟨l.toArray⟩).toArray 9 (0, 0))) (g := w.heap.size) wordsL.toArray
  refine ⟨_, rfl, ⟨_, _, rfl, Nat.le_refl _, by decide, fun j hj => ⟨w.heap.size, 0, rfl, Nat.le_refl _, ?_⟩⟩, ?_⟩
  · have hc := cell?_putRow encStr _ w.heap.size 0 wordsRaw.toArray wordsL.toArray (holds_ahead w n) (by decide) j (by simpa using hj)
    have hlt := World.block_lt_of_cell? _ _ hc
    have hb : ∀ (W : World) os (k : Nat) a, k < W.heap.size → (grow W os).cell? ⟨k, a, none⟩ = W.cell? ⟨k, a, none⟩ := fun W os k a h => by
      unfold World.cell?; rw [heap_grow_old _ _ h]
    rw [hb _ _ _ _ hlt, hc]
    simp [encStr, List.getD_eq_getElem?_getD, hj]
  · refine ⟨hS.os.trans hA.os, hS.tape.trans hA.tape, hS.output.trans hA.output, Nat.le_trans hA.size hS.size, fun k hk _ => ?_⟩
    rw [hS.block k (by simp; omega) (by simp; omega)]
    exact hA.block k hk (by simp)

end Go.Proofs.YtmcajbhljbbglaaGreatDoor
