/-
  The lexer: the tables that ToUpper reads; signs, sign.
  The lexer: texts between quotes.
  The lexer: classes of bytes.
-/
import Derived.IntWalk
import Derived.Test.YtmcajbhljbbglaaGreatDoorSs05
import Derived.Test.YtmcajbhljbbglaaGreatDoorSs10
import Derived.Test.YtmcajbhljbbglaaGreatDoorSs04
import Derived.Laws.Rows
set_option linter.all false
set_option linter.unusedVariables false
set_option linter.unusedSimpArgs false
set_option linter.unnecessarySimpa false
set_option linter.constructorNameAsVariable false
set_option linter.deprecated false

namespace Go.Proofs.YtmcajbhljbbglaaGreatDoor
open Go.RowKit

/-- the tables of the library that the program reads, in blocks below B -/
structure Tabs (B : Nat) (w : World) : Prop where
  utf8 : Lib.Utf8Tabs 4 5 w
  low : 11 ≤ B
  case : ∃ R oR cap, R < B ∧ w.cell? ⟨2, 0, none⟩ = some (.slice (some ⟨R, oR, none⟩) Lib.caseA.size cap) ∧ Lib.CaseTab R oR Lib.caseA w
  glob : Glob w
theorem Tabs.gb {B : Nat} {w w1 : World} {r : Option Nat} (h : Tabs B w) (g : w.grownBy w1 r) (hr : ∀ k, r = some k → B ≤ k) : Tabs B w1 := by
  have hlow := h.low
  have hne : ∀ k, k < B → some k ≠ r := fun k hk e => by have := hr k e.symm; omega
  refine ⟨⟨fun c hc => gb_cell g (h.utf8.1 c hc) (hne _ (by omega)), fun i hi => ⟨gb_cell g (h.utf8.2 i hi).1 (hne _ (by omega)), gb_cell g (h.utf8.2 i hi).2 (hne _ (by omega))⟩⟩, hlow, ?_, h.glob.gb g (hne 0 (by omega))⟩
  obtain ⟨R, oR, cap, hR, hc, ht⟩ := h.case
  refine ⟨R, oR, cap, hR, gb_cell g hc (hne _ (by omega)), fun i hi => ?_⟩
  have := ht i hi
  exact ⟨gb_cell g this.1 (hne _ hR), gb_cell g this.2.1 (hne _ hR), gb_cell g this.2.2.1 (hne _ hR), gb_cell g this.2.2.2.1 (hne _ hR), gb_cell g this.2.2.2.2 (hne _ hR)⟩
theorem Tabs.gbN {B : Nat} {w w1 : World} (h : Tabs B w) (g : w.grownBy w1 none) : Tabs B w1 := h.gb g (by simp)
theorem Tabs.caseV {B : Nat} {w : World} (h : Tabs B w) : Lib.CaseVar 2 Lib.caseA w := by
  obtain ⟨R, oR, cap, _, hc, ht⟩ := h.case
  exact ⟨R, oR, cap, hc, ht⟩

theorem upper_any {B : Nat} {w : World} (h : Tabs B w) (s : Bs) (hs : s.length ≤ 1000000) :
    Calls Tryz.prog 159 #[.string ⟨s.toArray⟩] w fun e w' => e = .returned (str (Lib.toUpperD s)) ∧ w.grownBy w' none := by
  refine (Tryz.strings_ToUpper_any ⟨s.toArray⟩ w (by simp [ByteArray.size]; omega) h.caseV h.utf8).mono ?_
  rintro e w' ⟨rfl, hb⟩
  exact ⟨rfl, gbB hb none⟩

theorem upper_slice {B : Nat} {w : World} (h : Tabs B w) (s : Bs) (i j : Nat) (hs : s.length ≤ 4000) :
    Calls Tryz.prog 159 #[.string ((⟨s.toArray⟩ : ByteArray).extract i j)] w fun e w' => e = .returned (str (Lib.toUpperD (sliceM s i j))) ∧ w.grownBy w' none := by
  rw [ba_extract]
  exact upper_any h _ (by simp; omega)

set_option maxRecDepth 20000 in
theorem signs_any (w : World) : Calls Tryz.prog 210 #[] w fun e w' => e = .returned (.slice (some ⟨w.heap.size, 0, none⟩) 38 38) ∧ w' = w.alloc (.cells (signsL.map str).toArray 9 (0, 0)) := by
  go_enter Tryz.func210, Tryz.ntmps210
  go_wp2
  go_ret
  exact ⟨rfl, rfl⟩

/-- how the reading of a token ends -/
def TokPost (w : World) (b : Nat) (s : Bs) (r : St) (e : Ending) (w' : World) : Prop :=
  w.grownBy w' (some b) ∧ match r with
    | .tok t j l => e = .returned (.tuple #[tokV t, .bool true]) ∧ Sc w' b s j l l (-1)
    | .bad k => (∃ t, e = .returned (.tuple #[tokV t, .bool false])) ∧ ∃ j l, Sc w' b s j l l k
    | _ => False

theorem Blk.set3 {w : World} {k : Nat} {a0 a1 a2 : Value} {t : TypeId} (h : Blk w k [a0, a1, a2] t) (v0 v1 v2 : Value) : Blk (((w.setCell ⟨k, 0, none⟩ v0).setCell ⟨k, 1, none⟩ v1).setCell ⟨k, 2, none⟩ v2) k [v0, v1, v2] t :=
  (((h.set 0 v0).set 1 v1).set 2 v2).of_eq rfl rfl
/-- the results of a function whose first result is a block that holds a token, and whose second one is a truth -/
theorem results_tok {fn : Func} {p q : Tmp} (h : fn.results = #[.cell p 89, .tmp q]) (tmps : Array Value) {w : World} {k : Nat} {t : Tok} {r : Bool} (hb : Blk w k [.int .i64 t.kind, .int .i64 t.pos, str t.text] 89)
    (hp : tmps.getD p undef = .pointer (some ⟨k, 0, none⟩)) (hq : tmps.getD q undef = .bool r) : (results fn tmps).run Tryz.prog w = .ok (.tuple #[tokV t, .bool r]) w := by
  have c0 := hb.cell 0
  have c1 := hb.cell 1
  have c2 := hb.cell 2
  have hp' : tmps[p]?.getD undef = .pointer (some ⟨k, 0, none⟩) := by simpa using hp
  have hq' : tmps[q]?.getD undef = .bool r := by simpa using hq
  simp only [List.getElem?_cons_zero, List.getElem?_cons_succ] at c0 c1 c2
  simp [results, h, hp', hq', go_sem, c0, c1, c2]
def signSt (s : Bs) (i : Nat) : St := match signM s i with
  | some x => .tok ⟨4, i, x⟩ (i + x.length) true
  | none => .bad i
theorem signM_none {s : Bs} {i : Nat} (h : ∀ j, (hj : j < signsL.length) → signHere s i signsL[j] = false) : signM s i = none := by
  rw [signM, List.find?_eq_none]
  intro x hx
  obtain ⟨j, hj, rfl⟩ := List.mem_iff_getElem.1 hx
  rw [h j hj]; simp
theorem signM_some {s : Bs} {i k : Nat} (hk : k < signsL.length) (h : ∀ j, (hj : j < k) → signHere s i (signsL[j]'(by omega)) = false) (hx : signHere s i signsL[k] = true) : signM s i = some signsL[k] := by
  rw [signM, List.find?_eq_some_iff_getElem]
  exact ⟨hx, k, hk, rfl, fun j hj => by rw [h j hj]; simp⟩

theorem signsL_ascii {w : Bs} (h : w ∈ signsL) : ∀ b ∈ w, b.toNat < 128 := by
  have h0 : signsL.all (fun w => w.all fun b => decide (b.toNat < 128)) = true := by decide
  have h1 := List.all_eq_true.1 h0 w h
  intro b hb
  simpa using List.all_eq_true.1 h1 b hb
theorem signHere_upper {s : Bs} {i k : Nat} (hk : k < signsL.length) (he : i + signsL[k].length ≤ s.length) {r : Bool} (h : signHere s i signsL[k] = r) : (Lib.toUpperD (sliceM s i (i + signsL[k].length)) == signsL[k]) = r := by
  have h1 : signHere s i signsL[k] = (Lib.toUpperA (sliceM s i (i + signsL[k].length)) == signsL[k]) := by simp [signHere, he]
  rw [upper_word _ _ (by rw [sliceM_len (by omega) he]; omega) (signsL_ascii (List.getElem_mem hk)), ← h1, h]
/-- the loop of 'sign' at its k-th round -/
structure SignRel (w : World) (b : Nat) (s : Bs) (i : Nat) (k : Nat) (wr : World) : Prop where
  sc : Sc wr b s i true true (-1)
  tok : Blk wr w.heap.size [.int .i64 4, .int .i64 i, str []] 89
  res : Blk wr (w.heap.size + 1) [.int .i64 0, .int .i64 0, str []] 89
  row : Blk wr (w.heap.size + 2) (signsL.map str) 9
  no : ∀ j, (hj : j < k) → (hl : j < signsL.length) → signHere s i signsL[j] = false
  g : w.grownBy wr none
  tabs : Tabs b wr
theorem SignRel.go {w : World} {b : Nat} {s : Bs} {i k : Nat} {wr w1 : World} (h : SignRel w b s i k wr) (hk : k < signsL.length) (hx : signHere s i signsL[k] = false) (g : wr.grownBy w1 none) : SignRel w b s i (k + 1) w1 :=
  ⟨h.sc.gbN g, h.tok.gb g (by simp), h.res.gb g (by simp), h.row.gb g (by simp), fun j hj hl => by
    by_cases e : j = k
    · subst e; exact hx
    · exact h.no j (by omega) hl, gb_sub h.g g, h.tabs.gbN g⟩

set_option maxRecDepth 20000 in
set_option maxHeartbeats 4000000 in
theorem sign_tok {w : World} {b : Nat} {s : Bs} {i : Nat} (h : Sc w b s i true true (-1)) (ht : Tabs b w) :
    Calls Tryz.prog 163 #[.pointer (some ⟨b, 0, none⟩), tokV ⟨0, i, []⟩] w (TokPost w b s (signSt s i)) := by
  have hb := h.lt
  have hA : SignRel w b s i 0 (((w.alloc (.cells #[.int .i64 4, .int .i64 i, str []] 89 (0, 0))).alloc (.cells #[.int .i64 0, .int .i64 0, str []] 89 (0, 0))).alloc (.cells (signsL.map str).toArray 9 (0, 0))) := by
    have g : w.grownBy (((w.alloc (.cells #[.int .i64 4, .int .i64 i, str []] 89 (0, 0))).alloc (.cells #[.int .i64 0, .int .i64 0, str []] 89 (0, 0))).alloc (.cells (signsL.map str).toArray 9 (0, 0))) none := gb_alloc (gb_alloc (World.grownBy_alloc w _ none) _) _
    exact ⟨h.gbN g, ((Blk.new w _ _).alloc _).alloc _, ((Blk.new _ [.int .i64 0, .int .i64 0, str []] _).of_eq (by simp) rfl).alloc _, (Blk.new _ (signsL.map str) _).of_eq (by simp) rfl, fun j hj => by omega, g, ht.gbN g⟩
  go_enter Tryz.func163, Tryz.ntmps163
  go_wp2_with fail
  refine (signs_any _).mono ?_
  rintro e w1 ⟨rfl, rfl⟩
  go_wp2_with fail
  go_loopg [7, 8, 12] 38 (fun g v7 v8 v12 wr => ∃ k : Nat, k + g = 38 ∧ v12 = .int .i64 k ∧ SignRel w b s i k wr)
  case atStart => exact ⟨0, rfl, rfl, hA⟩
  case round =>
    obtain ⟨k, hk, rfl, hr⟩ := hrel
    clear hA h ht
    have hsc := hr.sc
    have c0 := hsc.c0
    have c1 := hsc.c1
    have hb1 := hsc.lt
    have hf := hsc.few
    have hi := hsc.le
    have gw := hr.g.size
    have hlt := hr.row.lt
    cases gk with
    | zero =>
      have e : k = 38 := by omega
      subst e
      have HM := Lib.hid (signM_none (s := s) (i := i) (fun j hj => hr.no j hj hj))
      have t0 := hr.tok.cell 0
      have t1 := hr.tok.cell 1
      have t2 := hr.tok.cell 2
      have r0 := hr.res.cell 0
      have r1 := hr.res.cell 1
      have r2 := hr.res.cell 2
      have rf := fun k => hr.res.frozen k
      have f260 := hsc.fr 260
      have c260 := hsc.c260
      simp only [List.getElem?_cons_zero, List.getElem?_cons_succ] at t0 t1 t2 r0 r1 r2
      have hs1 := hsc.setBad (i : Int)
      go_wp2
      refine bodyPost_ret (results_tok (t := ⟨4, i, []⟩) (r := false) rfl _ ((hr.res.set_other _ _ (by simp; omega)).set3 _ _ _) rfl rfl) rfl ⟨?_, ?_⟩
      · have g := gb_none (r := some b) hr.g
        clear hs1
        exact (by repeat (first | (with_reducible exact gb_refl _ _) | (with_reducible assumption) | (with_reducible exact gb_none (by assumption)) | (with_reducible refine gb_alloc ?_ _) | (with_reducible refine gb_drew ?_) | (with_reducible refine gb_drewN ?_ _) | ((with_reducible refine gb_set ?_ _ _ ?h2); case h2 => first | exact .inl rfl | exact .inr (Nat.le_refl _) | exact .inr (by simp <;> omega)) | (with_reducible refine gb_sub ?_ (by assumption)) | (with_reducible refine gb_trans ?_ (by assumption))))
      · unfold signSt
        rw [HM.out]
        exact ⟨⟨_, rfl⟩, i, true, (by repeat (first | (with_reducible assumption) | (with_reducible apply Sc.alloc) | (with_reducible apply Sc.drew) | (with_reducible apply Sc.drewN) | (with_reducible apply Sc.setLine) | (with_reducible apply Sc.setBegun) | (with_reducible apply Sc.setBad) | (with_reducible apply Sc.go) | (with_reducible apply Sc.set_other) | omega | (simp <;> omega)))⟩
    | succ gk =>
      have hkl : k < signsL.length := by show k < 38; omega
      have ck := (hr.row.cell k).trans (show (signsL.map str)[k]? = some (str signsL[k]) by simp [hkl])
      have hx6 := signsL_len (List.getElem_mem hkl)
      have hkI : decide ((k : Int) < 38) = true := by simp; omega
      have HN := Lib.hid (fun hx => hr.go hkl (w1 := wr) hx (gb_refl _ _))
      cases hh : signHere s i signsL[k] with
      | false =>
        have HR := Lib.hid (fun w1 g => hr.go hkl (w1 := w1) hh g)
        by_cases hend : i + signsL[k].length ≤ s.length
        · have hz := signHere_upper hkl hend hh
          have HU := Lib.hid (fun (W : World) (g : wr.grownBy W none) => upper_slice (hr.tabs.gbN g) s i (i + signsL[k].length) hf)
          clear hh
          generalize Lib.toUpperD (sliceM s i (i + signsL[k].length)) = z at *
          generalize signsL[k] = x at *
          have he1 : decide ((i : Int) + x.length ≤ s.length) = true := by simp; omega
          have he2 : decide ((i : Int) ≤ i + x.length) = true := by simp; omega
          have hw1 : IntKind.i64.wrap ((i : Int) + (x.length : Int)) = (i : Int) + x.length := IntWalk.i64_in _ (by omega)
          have hw2 : (0 : Int) ≤ (i : Int) + x.length := by omega
          have hw3 : (i : Int) + x.length ≤ s.length := by omega
          have hw4 : ((i : Int) + x.length).toNat = i + x.length := by omega
          have hw5 : (i : Int) ≤ (i : Int) + x.length := by omega
          clear hw1
          go_wp2_with fail
          go_region_held3 (fun W => W.cell? ⟨b, 0, none⟩ = some (str s) ∧ W.cell? ⟨b, 1, none⟩ = some (.int .i64 i) ∧ wr.grownBy W none) (first | exact ⟨c0, c1, gb_drew (gb_refl wr none)⟩ | exact ⟨gb_cellN g5 c0, gb_cellN g5 c1, gb_sub (gb_drew (gb_refl wr none)) g5⟩) (first | (go_at_call 159; refine (HU.out _ ?_).mono ?_; (simp [*]); rintro e w5 ⟨rfl, g5⟩))
          go_wp2
          go_roundg gk
          case measure => omega
          case rel => exact ⟨k + 1, by omega, by simp, HR.out w5 (gb_sub (gb_drew (gb_refl wr none)) g5)⟩
        · clear hh
          generalize signsL[k] = x at *
          have he1 : decide ((i : Int) + x.length ≤ s.length) = false := by simp; omega
          go_wp2_with fail
          go_quiet (fail)
          go_wp2
          go_roundg gk
          case measure => omega
          case rel => exact ⟨k + 1, by omega, by simp, HR.out _ (gb_drewN (gb_refl wr none) _)⟩
      | true =>
        have hend : i + signsL[k].length ≤ s.length := by simp [signHere] at hh; exact hh.1
        have hz := signHere_upper hkl hend hh
        have HU := Lib.hid (fun (W : World) (g : wr.grownBy W none) => upper_slice (hr.tabs.gbN g) s i (i + signsL[k].length) hf)
        have HM := Lib.hid (signM_some hkl (fun j hj => hr.no j hj (by omega)) hh)
        clear hh
        generalize Lib.toUpperD (sliceM s i (i + signsL[k].length)) = z at *
        generalize signsL[k] = x at *
        have he1 : decide ((i : Int) + x.length ≤ s.length) = true := by simp; omega
        have he2 : decide ((i : Int) ≤ i + x.length) = true := by simp; omega
        have hw1 : IntKind.i64.wrap ((i : Int) + (x.length : Int)) = (i : Int) + x.length := IntWalk.i64_in _ (by omega)
        have hw2 : (0 : Int) ≤ (i : Int) + x.length := by omega
        have hw3 : (i : Int) + x.length ≤ s.length := by omega
        have hw4 : ((i : Int) + x.length).toNat = i + x.length := by omega
        have hw5 : (i : Int) ≤ (i : Int) + x.length := by omega
        clear hw1
        go_wp2_with fail
        go_region_held3 (fun W => W.cell? ⟨b, 0, none⟩ = some (str s) ∧ W.cell? ⟨b, 1, none⟩ = some (.int .i64 i) ∧ wr.grownBy W none) (first | exact ⟨c0, c1, gb_drew (gb_refl wr none)⟩ | exact ⟨gb_cellN g5 c0, gb_cellN g5 c1, gb_sub (gb_drew (gb_refl wr none)) g5⟩) (first | (go_at_call 159; refine (HU.out _ ?_).mono ?_; (simp [*]); rintro e w5 ⟨rfl, g5⟩))
        have gA : wr.grownBy w5 none := gb_sub (gb_drew (gb_refl wr none)) g5
        have hs5 := hsc.gbN gA
        have ht5 := hr.tok.gb gA (by simp)
        have hr5 := hr.res.gb gA (by simp)
        have d1 := hs5.c1
        have d0 := hs5.c0
        have t0 := ht5.cell 0
        have t1 := ht5.cell 1
        have t2 := ht5.cell 2
        have tf := fun k => ht5.frozen k
        have r0 := hr5.cell 0
        have r1 := hr5.cell 1
        have r2 := hr5.cell 2
        have rf := fun k => hr5.frozen k
        have f1 := hs5.fr 1
        have h5 := hr5.lt
        simp only [List.getElem?_cons_zero, List.getElem?_cons_succ] at t0 t1 t2 r0 r1 r2
        go_wp2
        refine bodyPost_ret (results_tok (t := ⟨4, i, x⟩) (r := true) rfl _ (((hr5.set_other _ _ (by simp)).set_other _ _ (by simp; omega)).set3 _ _ _) rfl rfl) rfl ⟨?_, ?_⟩
        · have g := gb_none (r := some b) (gb_sub hr.g gA)
          exact (by repeat (first | (with_reducible exact gb_refl _ _) | (with_reducible assumption) | (with_reducible exact gb_none (by assumption)) | (with_reducible refine gb_alloc ?_ _) | (with_reducible refine gb_drew ?_) | (with_reducible refine gb_drewN ?_ _) | ((with_reducible refine gb_set ?_ _ _ ?h2); case h2 => first | exact .inl rfl | exact .inr (Nat.le_refl _) | exact .inr (by simp <;> omega)) | (with_reducible refine gb_sub ?_ (by assumption)) | (with_reducible refine gb_trans ?_ (by assumption))))
        · unfold signSt
          rw [HM.out]
          exact ⟨rfl, (by repeat (first | (with_reducible assumption) | (with_reducible apply Sc.alloc) | (with_reducible apply Sc.drew) | (with_reducible apply Sc.drewN) | (with_reducible apply Sc.setLine) | (with_reducible apply Sc.setBegun) | (with_reducible apply Sc.setBad) | (with_reducible apply Sc.go) | (with_reducible apply Sc.set_other) | omega | (simp <;> omega)))⟩

end Go.Proofs.YtmcajbhljbbglaaGreatDoor

namespace Go.Proofs.YtmcajbhljbbglaaGreatDoor
open Go.RowKit

theorem sliceM_cons {s : Bs} {j e : Nat} (h : j < e) (he : e ≤ s.length) : sliceM s j e = bAt s j :: sliceM s (j + 1) e := by
  unfold sliceM
  rw [drop_cons (by omega), show e - j = (e - (j + 1)) + 1 by omega, List.take_succ_cons]
theorem sliceM_self (s : Bs) (j : Nat) : sliceM s j j = [] := by simp [sliceM]
/-- where a quote is found in the rest of a line -/
theorem idx_quote (s : Bs) (c : UInt8) (j : Nat) (hj : j ≤ s.length) : Lib.indexByte (sliceM s j (lineEndM s j)) c =
    if runM s (fun b => b != 10 && b != c) j < s.length ∧ bAt s (runM s (fun b => b != 10 && b != c) j) ≠ 10 then ((runM s (fun b => b != 10 && b != c) j - j : Nat) : Int) else -1 := by
  induction hn : s.length - j generalizing j with
  | zero =>
    have e : j = s.length := by omega
    have h1 : lineEndM s j = j := runM_end (by omega)
    rw [h1, sliceM_self, runM_end (by omega), if_neg (by omega)]
    rfl
  | succ n ih =>
    have hk : j < s.length := by omega
    have hle : lineEndM s (j + 1) ≤ s.length := runM_le (by omega)
    have hge : j + 1 ≤ lineEndM s (j + 1) := runM_ge _ _ _
    by_cases h10 : bAt s j = 10
    · have h1 : lineEndM s j = j := runM_stop hk (by simp [h10])
      rw [h1, sliceM_self, runM_stop hk (by simp [h10]), if_neg (by simp [h10])]
      rfl
    · have h1 : lineEndM s j = lineEndM s (j + 1) := runM_step hk (by simpa using h10)
      rw [h1, sliceM_cons (by omega) hle, Lib.indexByte]
      cases hb : (bAt s j == c) with
      | true =>
        rw [runM_stop hk (by simp; intro _; simpa using hb)]
        simp [hk, h10]
      | false =>
        rw [runM_step hk (by simp at hb; simp [h10, hb]), ih (j + 1) (by omega) (by omega)]
        have h2 := runM_ge s (fun b => b != 10 && b != c) (j + 1)
        simp only [Bool.false_eq_true, if_false]
        by_cases h3 : runM s (fun b => b != 10 && b != c) (j + 1) < s.length ∧ bAt s (runM s (fun b => b != 10 && b != c) (j + 1)) ≠ 10
        · simp only [if_pos h3]
          rw [if_neg (by simp; try omega)]
          omega
        · simp [h3]

/-- where the quote is that ends a text which begins at i -/
def quoteEnd (s : Bs) (i : Nat) : Nat := runM s (fun b => b != 10 && b != bAt s i) (i + 1)
/-- the first wrong byte of a text, or its end -/
def badIn (t : Bs) : Nat := runM t (fun b => !cls 4 b) 0
theorem quoteM_no {s : Bs} {i : Nat} (h : ¬ (quoteEnd s i < s.length ∧ bAt s (quoteEnd s i) ≠ 10)) : quoteM s i = .bad i := if_neg h
theorem quoteM_bad {s : Bs} {i : Nat} (h : quoteEnd s i < s.length ∧ bAt s (quoteEnd s i) ≠ 10) (hb : badIn (sliceM s (i + 1) (quoteEnd s i)) < quoteEnd s i - (i + 1)) : quoteM s i = .bad (i + 1 + badIn (sliceM s (i + 1) (quoteEnd s i))) :=
  (if_pos h).trans (if_pos hb)
theorem quoteM_ok {s : Bs} {i : Nat} (h : quoteEnd s i < s.length ∧ bAt s (quoteEnd s i) ≠ 10) (hb : ¬ badIn (sliceM s (i + 1) (quoteEnd s i)) < quoteEnd s i - (i + 1)) : quoteM s i = .tok ⟨2, i, sliceM s (i + 1) (quoteEnd s i)⟩ (quoteEnd s i + 1) true :=
  (if_pos h).trans (if_neg hb)
theorem quote_lt (s : Bs) (i : Nat) : quoteEnd s i ≤ lineEndM s (i + 1) := runM_mono (by intro b hb; simp at hb ⊢; exact hb.1) _

theorem toNat_u8 (c : UInt8) : ((c.toNat : Int)).toNat.toUInt8 = c := by simp

/-- 'IndexByte' of a part of a source -/
theorem index_part (s : Bs) (i j : Nat) (c : UInt8) {z : Int} (hz : Lib.indexByte (sliceM s i j) c = z) (w : World) :
    Calls Tryz.prog 202 #[.string ((⟨s.toArray⟩ : ByteArray).extract i j), .int .u8 c.toNat] w fun e w' => e = .returned (.int .i64 z) ∧ w' = w := by
  subst hz
  refine (Tryz.strings_IndexByte _ _ _).mono ?_
  rintro e w' ⟨rfl, rfl⟩
  rw [ba_extract, toNat_u8]
  exact ⟨rfl, rfl⟩

/-- the loop of 'text' at its k-th round -/
structure TextRel (w : World) (b : Nat) (s : Bs) (i : Nat) (t : Bs) (k : Nat) (wr : World) : Prop where
  sc : Sc wr b s i true true (-1)
  tok : Blk wr w.heap.size [.int .i64 2, .int .i64 i, str t] 89
  res : Blk wr (w.heap.size + 1) [.int .i64 0, .int .i64 0, str []] 89
  no : badIn t = runM t (fun b => !cls 4 b) k
  g : w.grownBy wr none
theorem TextRel.go {w : World} {b : Nat} {s : Bs} {i : Nat} {t : Bs} {k : Nat} {wr w1 : World} (h : TextRel w b s i t k wr) (hk : k < t.length) (hx : cls 4 (bAt t k) = false) (g : wr.grownBy w1 none) : TextRel w b s i t (k + 1) w1 :=
  ⟨h.sc.gbN g, h.tok.gb g (by simp), h.res.gb g (by simp), by rw [h.no]; exact runM_step hk (by simp [hx]), gb_sub h.g g⟩

set_option maxRecDepth 20000 in
set_option maxHeartbeats 4000000 in
theorem text_tok {w : World} {b : Nat} {s : Bs} {i : Nat} (h : Sc w b s i true true (-1)) (hi : i < s.length) (hq : bAt s i ≠ 10) :
    Calls Tryz.prog 161 #[.pointer (some ⟨b, 0, none⟩), tokV ⟨0, i, []⟩] w (TokPost w b s (quoteM s i)) := by
  have hb := h.lt
  have hf := h.few
  have c0 := h.c0
  have c1 := h.c1
  have hz := idx_quote s (bAt s i) (i + 1) (by omega)
  have hline : lineEndM s i = lineEndM s (i + 1) := runM_step hi (by simpa using hq)
  have hle : lineEndM s i ≤ s.length := runM_le (by omega)
  have hge : i + 1 ≤ lineEndM s i := by rw [hline]; exact runM_ge _ _ _
  have hgQ : i + 1 ≤ quoteEnd s i := runM_ge _ _ _
  rw [← hline] at hz
  have hg := fun h => ba_at s i h hi
  change _ = if quoteEnd s i < s.length ∧ bAt s (quoteEnd s i) ≠ 10 then ((quoteEnd s i - (i + 1) : Nat) : Int) else -1 at hz
  have HE := Lib.hid hline
  clear hline
  by_cases hq2 : quoteEnd s i < s.length ∧ bAt s (quoteEnd s i) ≠ 10
  · rw [if_pos hq2] at hz
    have hQl := quote_lt s i
    rw [← HE.out] at hQl
    have hQs := hq2.1
    have hO := Lib.hid (quoteM_ok hq2)
    have hB := Lib.hid (quoteM_bad hq2)
    have hTl : (sliceM s (i + 1) (quoteEnd s i)).length = quoteEnd s i - (i + 1) := sliceM_len hgQ (by omega)
    have hl := lineEnd_any (h.alloc (.cells #[.int .i64 0, .int .i64 i, str []] 89 (0, 0)) |>.alloc (.cells #[.int .i64 0, .int .i64 0, str []] 89 (0, 0))) i (by omega)
    obtain ⟨d, hd⟩ : ∃ d, quoteEnd s i = i + 1 + d := ⟨quoteEnd s i - (i + 1), by omega⟩
    rw [hd] at hO hB hTl hQl hz hQs
    rw [show i + 1 + d - (i + 1) = d by omega] at hO hB hTl hz
    clear hd hq2 hgQ
    generalize lineEndM s i = e at *
    have HI := Lib.hid (index_part s (i + 1) e (bAt s i) hz)
    have HL := Lib.hid hl
    clear hz hl
    generalize bAt s i = q at *
    have hx : ({ data := s.toArray } : ByteArray).extract (i + 1) (i + 1 + d) = ⟨(sliceM s (i + 1) (i + 1 + d)).toArray⟩ := ba_extract _ _ _
    have HX := Lib.hid hx
    clear hx
    have HT := Lib.hid hTl
    have he2 : decide ((i : Int) + 1 + d ≤ s.length) = true := by simp; omega
    go_enter Tryz.func161, Tryz.ntmps161
    go_wp2_with fail
    refine HL.out.mono ?_
    rintro e w1 ⟨rfl, rfl⟩
    go_wp2_with fail
    go_quiet ((go_at_call 202; exact Calls.quiet_of_same (HI.out _)))
    go_wp2_with fail
    go_region
    rw [HX.out]
    generalize hts : sliceM s (i + 1) (i + 1 + d) = t at *
    have HS := Lib.hid hts
    clear hts hTl
    have g0 : w.grownBy ((w.alloc (.cells #[.int .i64 0, .int .i64 i, str []] 89 (0, 0))).alloc (.cells #[.int .i64 0, .int .i64 0, str []] 89 (0, 0))) none := gb_alloc (World.grownBy_alloc w _ none) _
    have hA : TextRel w b s i t 0 (((((w.alloc (.cells #[.int .i64 0, .int .i64 i, str []] 89 (0, 0))).alloc (.cells #[.int .i64 0, .int .i64 0, str []] 89 (0, 0))).drewN (nq + 1)).setCell ⟨w.heap.size, 0, none⟩ (.int .i64 2)).setCell ⟨w.heap.size, 2, none⟩ (str t)) :=
      ⟨(by repeat (first | (with_reducible assumption) | (with_reducible apply Sc.alloc) | (with_reducible apply Sc.drew) | (with_reducible apply Sc.drewN) | (with_reducible apply Sc.setLine) | (with_reducible apply Sc.setBegun) | (with_reducible apply Sc.setBad) | (with_reducible apply Sc.go) | (with_reducible apply Sc.set_other) | omega | (simp <;> omega))), (((((Blk.new w [.int .i64 0, .int .i64 i, str []] 89).alloc _).drewN _).set 0 _).set 2 _).of_eq rfl rfl, (((((Blk.new (w.alloc _) [.int .i64 0, .int .i64 0, str []] 89).of_eq (by simp) rfl).drewN _).set_other _ _ (by simp)).set_other _ _ (by simp)), rfl,
        gb_set (gb_set (gb_drewN g0 _) _ _ (.inr (Nat.le_refl _))) _ _ (.inr (Nat.le_refl _))⟩
    have t0 := hA.tok.cell 2
    simp only [List.getElem?_cons_zero, List.getElem?_cons_succ] at t0
    generalize (((((w.alloc (.cells #[.int .i64 0, .int .i64 i, str []] 89 (0, 0))).alloc (.cells #[.int .i64 0, .int .i64 0, str []] 89 (0, 0))).drewN (nq + 1)).setCell ⟨w.heap.size, 0, none⟩ (.int .i64 2)).setCell ⟨w.heap.size, 2, none⟩ (str t)) = W at *
    have HA := Lib.hid hA
    clear hA g0 h c0 c1 hg
    have hTl2 : t.length ≤ 4000 := by rw [HT.out]; omega
    go_wp2_with fail
    go_loopg [8, 68] t.length (fun g v8 v68 wr => ∃ k : Nat, k + g = t.length ∧ v68 = .int .i64 k ∧ TextRel w b s i t k wr)
    case atStart => exact ⟨0, by omega, rfl, HA.out⟩
    case round =>
      obtain ⟨k, hk, rfl, hr⟩ := hrel
      have hsc := hr.sc
      have d0 := hsc.c0
      have d1 := hsc.c1
      have hb1 := hsc.lt
      have gw := hr.g.size
      have hrl := hr.res.lt
      have u0 := hr.tok.cell 0
      have u1 := hr.tok.cell 1
      have u2 := hr.tok.cell 2
      have r0 := hr.res.cell 0
      have r1 := hr.res.cell 1
      have r2 := hr.res.cell 2
      have rf := fun k => hr.res.frozen k
      simp only [List.getElem?_cons_zero, List.getElem?_cons_succ] at u0 u1 u2 r0 r1 r2
      cases gk with
      | zero =>
        have hkt : k = t.length := by omega
        have HQ := Lib.hid (hO.out (by rw [hr.no, runM_end (by omega), HT.out] at *; omega))
        have f1 := hsc.fr 1
        have hlt : decide (k < t.length) = false := by simp; omega
        clear hk hkt
        go_wp2
        refine bodyPost_ret (results_tok (t := ⟨2, i, t⟩) (r := true) rfl _ ((hr.res.set_other _ _ (by simp; omega)).set3 _ _ _) rfl rfl) rfl ⟨?_, ?_⟩
        · have g := gb_none (r := some b) hr.g
          exact (by repeat (first | (with_reducible exact gb_refl _ _) | (with_reducible assumption) | (with_reducible exact gb_none (by assumption)) | (with_reducible refine gb_alloc ?_ _) | (with_reducible refine gb_drew ?_) | (with_reducible refine gb_drewN ?_ _) | ((with_reducible refine gb_set ?_ _ _ ?h2); case h2 => first | exact .inl rfl | exact .inr (Nat.le_refl _) | exact .inr (by simp <;> omega)) | (with_reducible refine gb_sub ?_ (by assumption)) | (with_reducible refine gb_trans ?_ (by assumption))))
        · rw [HQ.out]
          exact ⟨rfl, (by repeat (first | (with_reducible assumption) | (with_reducible apply Sc.alloc) | (with_reducible apply Sc.drew) | (with_reducible apply Sc.drewN) | (with_reducible apply Sc.setLine) | (with_reducible apply Sc.setBegun) | (with_reducible apply Sc.setBad) | (with_reducible apply Sc.go) | (with_reducible apply Sc.set_other) | omega | (simp <;> omega)))⟩
      | succ gk =>
        have hkl : k < t.length := by omega
        have hlt : decide (k < t.length) = true := by simp; omega
        have hcl := hsc.cls (bAt t k)
        have hgt := fun h => ba_at t k h hkl
        have hx := cls_lt (bAt t k)
        cases hc : cls 4 (bAt t k) with
        | true =>
          have HC := Lib.hid hc
          have hbi : badIn t = k := by rw [hr.no]; exact runM_stop hkl (by rw [hc]; rfl)
          have HQ := Lib.hid (hB.out (by rw [hbi]; have := HT.out; omega))
          have HK := Lib.hid hbi
          have f260 := hsc.fr 260
          have c260 := hsc.c260
          clear hbi hk
          change (classM (bAt t k).toNat == 4) = true at hc
          generalize bAt t k = x at *
          go_wp2_with fail
          go_quiet (fail)
          go_wp2
          refine bodyPost_ret (results_tok (t := ⟨2, i, t⟩) (r := false) rfl _ (((hr.res.drewN _).set_other _ _ (by simp; omega)).set3 _ _ _) rfl rfl) rfl ⟨?_, ?_⟩
          · have g := gb_none (r := some b) hr.g
            exact (by repeat (first | (with_reducible exact gb_refl _ _) | (with_reducible assumption) | (with_reducible exact gb_none (by assumption)) | (with_reducible refine gb_alloc ?_ _) | (with_reducible refine gb_drew ?_) | (with_reducible refine gb_drewN ?_ _) | ((with_reducible refine gb_set ?_ _ _ ?h2); case h2 => first | exact .inl rfl | exact .inr (Nat.le_refl _) | exact .inr (by simp <;> omega)) | (with_reducible refine gb_sub ?_ (by assumption)) | (with_reducible refine gb_trans ?_ (by assumption))))
          · rw [HQ.out, HK.out]
            exact ⟨⟨_, rfl⟩, i, true, by push_cast; exact (by repeat (first | (with_reducible assumption) | (with_reducible apply Sc.alloc) | (with_reducible apply Sc.drew) | (with_reducible apply Sc.drewN) | (with_reducible apply Sc.setLine) | (with_reducible apply Sc.setBegun) | (with_reducible apply Sc.setBad) | (with_reducible apply Sc.go) | (with_reducible apply Sc.set_other) | omega | (simp <;> omega)))⟩
        | false =>
          have HR := Lib.hid (fun w1 g => hr.go hkl (w1 := w1) hc g)
          change (classM (bAt t k).toNat == 4) = false at hc
          generalize bAt t k = x at *
          go_wp2_with fail
          go_quiet (fail)
          go_wp2
          go_roundg gk
          case measure => omega
          case rel => exact ⟨k + 1, by omega, by simp, HR.out _ (gb_drewN (gb_refl wr none) _)⟩
  · rw [if_neg hq2] at hz
    have HQ := Lib.hid (quoteM_no hq2)
    have hl := lineEnd_any (h.alloc (.cells #[.int .i64 0, .int .i64 i, str []] 89 (0, 0)) |>.alloc (.cells #[.int .i64 0, .int .i64 0, str []] 89 (0, 0))) i (by omega)
    generalize lineEndM s i = e at *
    have HI := Lib.hid (index_part s (i + 1) e (bAt s i) hz)
    have HL := Lib.hid hl
    clear hz hl
    generalize bAt s i = q at *
    have f260 := h.fr 260
    have c260 := h.c260
    go_enter Tryz.func161, Tryz.ntmps161
    go_wp2_with fail
    refine HL.out.mono ?_
    rintro e w1 ⟨rfl, rfl⟩
    go_wp2_with fail
    go_quiet ((go_at_call 202; exact Calls.quiet_of_same (HI.out _)))
    go_wp2
    refine bodyPost_ret (results_tok (t := ⟨0, i, []⟩) (r := false) rfl _ (((((Blk.new (w.alloc _) [.int .i64 0, .int .i64 0, str []] 89).of_eq (by simp) rfl).drewN nq).set_other _ _ (by simp; omega)).set3 _ _ _) rfl rfl) rfl ⟨(by repeat (first | (with_reducible exact gb_refl _ _) | (with_reducible assumption) | (with_reducible exact gb_none (by assumption)) | (with_reducible refine gb_alloc ?_ _) | (with_reducible refine gb_drew ?_) | (with_reducible refine gb_drewN ?_ _) | ((with_reducible refine gb_set ?_ _ _ ?h2); case h2 => first | exact .inl rfl | exact .inr (Nat.le_refl _) | exact .inr (by simp <;> omega)) | (with_reducible refine gb_sub ?_ (by assumption)) | (with_reducible refine gb_trans ?_ (by assumption)))), ?_⟩
    rw [HQ.out]
    exact ⟨⟨_, rfl⟩, i, true, (by repeat (first | (with_reducible assumption) | (with_reducible apply Sc.alloc) | (with_reducible apply Sc.drew) | (with_reducible apply Sc.drewN) | (with_reducible apply Sc.setLine) | (with_reducible apply Sc.setBegun) | (with_reducible apply Sc.setBad) | (with_reducible apply Sc.go) | (with_reducible apply Sc.set_other) | omega | (simp <;> omega)))⟩

end Go.Proofs.YtmcajbhljbbglaaGreatDoor

namespace Go.Proofs.YtmcajbhljbbglaaGreatDoor
open Go.RowKit

theorem classRow_set (k : Nat) (hk : k < 256) : (classRow k).set k (.int .u8 (classM k)) = classRow (k + 1) := by
  apply List.ext_getElem?
  intro j
  by_cases hj : j < 256
  · rw [List.getElem?_set]
    rw [classRow_at _ _ hj]
    by_cases e : k = j
    · subst e; simp [classRow, hk]
    · rw [if_neg e, classRow_at _ _ hj]
      have : (j < k + 1) = (j < k) := by apply propext; omega
      simp [this]
  · rw [List.getElem?_eq_none (by simp [classRow]; omega), List.getElem?_eq_none (by simp [classRow]; omega)]
theorem classRow_same (k : Nat) (hk : k < 256) (h0 : classM k = 0) : classRow k = classRow (k + 1) := by
  rw [← classRow_set k hk, h0]
  apply List.ext_getElem?
  intro j
  rw [List.getElem?_set]
  by_cases e : k = j
  · subst e; simp [classRow, hk]
  · simp [e]

theorem info_classes : (Tryz.prog.info? 83).map (fun i => (i.size, i.bytes)) = some (256, 256) := by kernel_rfl

theorem gb_setRow {w w1 : World} {r : Option Nat} (h : w.grownBy w1 r) (k : Nat) (cs : Array Value) (hk : w.heap.size ≤ k) : w.grownBy (w1.setRow k cs) r := by
  refine ⟨h.os, h.tape, h.output, by simpa using h.size, fun i hi hr => ?_⟩
  rw [← h.block i hi hr]
  have hne : k ≠ i := by omega
  simp [World.setRow, Array.getElem?_modify, hne]
theorem arr_under : ∃ n e, Tryz.prog.underlying 83 = some (.array n e) := by
  have h : (match (Tryz.prog.underlying 83) with | some (.array _ _) => true | _ => false) = true := by kernel_rfl
  cases hu : Tryz.prog.underlying 83 with
  | none => rw [hu] at h; cases h
  | some d =>
    rw [hu] at h
    cases d with
    | array n e => exact ⟨n, e, rfl⟩
    | _ => cases h
theorem arr_size : (Tryz.prog.info? 83).map (·.size) = some (classRow 256).toArray.size := by
  have h1 := info_classes
  cases hq : Tryz.prog.info? 83 with
  | none => rw [hq] at h1; simp at h1
  | some i => rw [hq] at h1; simp at h1; simp [classRow, h1.1]
theorem class_cases (k : Nat) : (classM k = 3 ∧ (k = 9 ∨ k = 32)) ∨ (classM k = 1 ∧ (k = 95 ∨ (97 ≤ k ∧ k ≤ 122) ∨ (65 ≤ k ∧ k ≤ 90))) ∨ (classM k = 2 ∧ 48 ≤ k ∧ k ≤ 57) ∨ (classM k = 4 ∧ (k < 9 ∨ (10 < k ∧ k < 32) ∨ 126 < k)) ∨
    (classM k = 0 ∧ (k = 10 ∨ (32 < k ∧ k < 48) ∨ (57 < k ∧ k < 65) ∨ (90 < k ∧ k < 95) ∨ k = 96 ∨ (122 < k ∧ k ≤ 126))) := by
  unfold classM
  (repeat' split) <;> simp <;> omega

/-- the loop of 'classes' at its k-th round -/
def ClsRel (w : World) (g : Nat) (v4 : Value) (wr : World) : Prop := ∃ k : Nat, k + g = 256 ∧ v4 = .int .i64 k ∧ Blk wr (w.heap.size + 1) (classRow k) 83 ∧ Blk wr w.heap.size (classRow 0) 83 ∧ w.grownBy wr none
theorem clsRel_set {w wr : World} {k g : Nat} {c : Int} (hk : k + (g + 1) = 256) (hc : classM k = c) (hL : Blk wr (w.heap.size + 1) (classRow k) 83) (hZ : Blk wr w.heap.size (classRow 0) 83) (gr : w.grownBy wr none) :
    ClsRel w g (.int .i64 ((k : Int) + 1)) (wr.setCell ⟨w.heap.size + 1, k, none⟩ (.int .u8 c)) :=
  ⟨k + 1, by omega, by simp, (hL.set k _).of_eq rfl (by rw [← hc]; exact classRow_set k (by omega)), hZ.set_other _ _ (by simp), gb_set gr _ _ (.inr (by simp))⟩
theorem clsRel_zero {w wr : World} {k g : Nat} (hk : k + (g + 1) = 256) (hc : classM k = 0) (hL : Blk wr (w.heap.size + 1) (classRow k) 83) (hZ : Blk wr w.heap.size (classRow 0) 83) (gr : w.grownBy wr none) :
    ClsRel w g (.int .i64 ((k : Int) + 1)) wr :=
  ⟨k + 1, by omega, by simp, hL.of_eq rfl (classRow_same k (by omega) hc), hZ, gr⟩

set_option maxRecDepth 40000 in
set_option maxHeartbeats 4000000 in
theorem classes_any (w : World) : Calls Tryz.prog 51 #[] w fun e w' => e = .returned (.agg (classRow 256).toArray) ∧ w.grownBy w' none := by
  go_enter Tryz.func51, Tryz.ntmps51
  go_wp2_with fail
  have hz : Tryz.zeroCells83 = (classRow 0).toArray := by kernel_rfl
  have hA : Blk ((w.alloc (.cells (classRow 0).toArray 83 (0, 0))).alloc (.cells (classRow 0).toArray 83 (0, 0))) (w.heap.size + 1) (classRow 0) 83 := (Blk.new _ _ _).of_eq (by simp) rfl
  have hB : Blk ((w.alloc (.cells (classRow 0).toArray 83 (0, 0))).alloc (.cells (classRow 0).toArray 83 (0, 0))) w.heap.size (classRow 0) 83 := (Blk.new _ _ _).alloc _
  have g0 : w.grownBy ((w.alloc (.cells (classRow 0).toArray 83 (0, 0))).alloc (.cells (classRow 0).toArray 83 (0, 0))) none := gb_alloc (World.grownBy_alloc _ _ _) _
  rw [hz]
  go_loopg [2, 3, 4] 256 (fun g v2 v3 v4 wr => ClsRel w g v4 wr)
  case atStart => exact ⟨0, rfl, rfl, hA, hB, g0⟩
  case round =>
    obtain ⟨k, hk, rfl, hL, hZ, gr⟩ := hrel
    clear hA hB g0
    cases gk with
    | zero =>
      have e : k = 256 := by omega
      subst e
      obtain ⟨an, ae, H⟩ := arr_under
      have H := Lib.hid H
      go_wp2_with fail
      refine wp_load_row 83 (.tmp 1) rfl (w.heap.size + 1) rfl 83 (classRow 256).toArray (0, 0) (.array an ae) hL H.out rfl arr_size ?_
      have HS := Lib.hid arr_size
      have HL := Lib.hid (And.intro hL hZ)
      have h1 : ((classRow 256).toArray.all (·.oneCell')) = true := by simp [classRow, Value.oneCell']
      have HO := Lib.hid h1
      have hzs : (classRow 0).toArray.size = (classRow 256).toArray.size := by simp [classRow]
      have HZ := Lib.hid hzs
      have HR := Lib.hid (setRow_heap wr w.heap.size (classRow 0).toArray (classRow 256).toArray 83 (0, 0) hZ)
      clear hL hZ h1 hzs
      generalize hcc : (classRow 256).toArray = cc at *
      have HC := Lib.hid hcc
      clear hcc
      go_wp2_with (refine wpList_store_row rfl 83 (.tmp 0) (.tmp 62) rfl w.heap.size cc rfl rfl 83 (classRow 0).toArray HL.out.2 HS.out HZ.out HO.out ?_)
      refine bodyPost_ret (v := .agg (classRow 256).toArray) ?_ rfl ⟨rfl, gb_setRow gr _ _ (Nat.le_refl _)⟩
      rw [HC.out]
      exact results_cell_row rfl _ _ w.heap.size 83 cc (0, 0) (.array an ae) rfl HR.out H.out rfl HS.out
    | succ gk =>
      have ck := (hL.cell k).trans (classRow_at k k (by omega))
      have fk := hL.frozen k
      have HL := Lib.hid (And.intro hL (And.intro hZ gr))
      have HK := Lib.hid hk
      have hk2 : k < 256 := by omega
      have hwr : w.heap.size + 1 < wr.heap.size := hL.lt
      clear hL hZ gr hk
      rcases class_cases k with ⟨hc, h⟩ | ⟨hc, h⟩ | ⟨hc, h⟩ | ⟨hc, h⟩ | ⟨hc, h⟩
      · have HR := Lib.hid (clsRel_set HK.out hc HL.out.1 HL.out.2.1 HL.out.2.2)
        clear hc HK HL
        rcases h with rfl | rfl
        all_goals
          go_wp2_with fail
          go_roundg gk
          case measure => omega
          case rel => exact HR.out
      · have HR := Lib.hid (clsRel_set HK.out hc HL.out.1 HL.out.2.1 HL.out.2.2)
        clear hc HK HL
        rcases h with rfl | ⟨h, h'⟩ | ⟨h, h'⟩
        rotate_left 1
        all_goals try
          have e9 : ((k : Int) == 9) = false := by simp; omega
          have e32 : ((k : Int) == 32) = false := by simp; omega
          have e95 : ((k : Int) == 95) = false := by simp; omega
          have i1 := Int.ofNat_le.2 h
          have i2 := Int.ofNat_le.2 h'
          simp only [Int.cast_ofNat_Int] at i1 i2
          clear h h'
        all_goals
          go_wp2_with fail
          go_roundg gk
          case measure => omega
          case rel => exact HR.out
      · have HR := Lib.hid (clsRel_set HK.out hc HL.out.1 HL.out.2.1 HL.out.2.2)
        clear hc HK HL
        obtain ⟨h, h'⟩ := h
        have e9 : ((k : Int) == 9) = false := by simp; omega
        have e32 : ((k : Int) == 32) = false := by simp; omega
        have e95 : ((k : Int) == 95) = false := by simp; omega
        have i1 := Int.ofNat_le.2 h
        have i2 := Int.ofNat_le.2 h'
        simp only [Int.cast_ofNat_Int] at i1 i2
        clear h h'
        go_wp2_with fail
        go_roundg gk
        case measure => omega
        case rel => exact HR.out
      · have HR := Lib.hid (clsRel_set HK.out hc HL.out.1 HL.out.2.1 HL.out.2.2)
        clear hc HK HL
        have e9 : ((k : Int) == 9) = false := by simp; omega
        have e32 : ((k : Int) == 32) = false := by simp; omega
        have e95 : ((k : Int) == 95) = false := by simp; omega
        have e10 : ((k : Int) != 10) = true := by simp; omega
        rcases h with h | ⟨h, h'⟩ | h
        all_goals
          have i1 := Int.ofNat_lt.2 h
          try have i2 := Int.ofNat_lt.2 h'
          simp only [Int.cast_ofNat_Int] at i1
          try simp only [Int.cast_ofNat_Int] at i2
          clear h
          go_wp2_with fail
          go_roundg gk
          case measure => omega
          case rel => exact HR.out
      · have HR := Lib.hid (clsRel_zero HK.out hc HL.out.1 HL.out.2.1 HL.out.2.2)
        clear hc HK HL
        rcases h with rfl | ⟨h, h'⟩ | ⟨h, h'⟩ | ⟨h, h'⟩ | rfl | ⟨h, h'⟩
        all_goals try
          have e9 : ((k : Int) == 9) = false := by simp; omega
          have e32 : ((k : Int) == 32) = false := by simp; omega
          have e95 : ((k : Int) == 95) = false := by simp; omega
          have e10 : ((k : Int) != 10) = true := by simp; omega
          have i1 := Int.ofNat_lt.2 h
          have i2 : (k : Int) < 127 ∧ (k : Int) ≤ 126 := by omega
          obtain ⟨i2, i3⟩ := i2
          simp only [Int.cast_ofNat_Int] at i1
        all_goals
          go_wp2_with fail
          go_roundg gk
          case measure => omega
          case rel => exact HR.out

end Go.Proofs.YtmcajbhljbbglaaGreatDoor
