/-
  The reference's lexer: Capitals, signs, signAt.
  The reference's lexer: signAt, quoted.
-/
import Derived.Test.YtmcajbhljbbglaaGreatDoorSr03
import Derived.Laws.IdiomStrings
import Derived.Test.YtmcajbhljbbglaaGreatDoorSr02
set_option linter.all false
set_option linter.unusedVariables false
set_option linter.unusedSimpArgs false
set_option linter.unnecessarySimpa false
set_option linter.constructorNameAsVariable false
set_option linter.deprecated false

namespace Go.Proofs.YtmcajbhljbbglaaGreatDoor
open Go.RowKit

/-- how far a text's capitals are laid -/
def capsAt (s : Bs) (k j : Nat) : UInt8 := if j < k then Lib.upperB (bAt s j) else bAt s j
theorem caps_len (s : Bs) : (Lib.toUpperA s).length = s.length := by simp [Lib.toUpperA]
theorem caps_get (s : Bs) (j : Nat) (hj : j < (Lib.toUpperA s).length) : (Lib.toUpperA s)[j] = Lib.upperB (bAt s j) := by
  have hj' : j < s.length := by rwa [caps_len] at hj
  simp [Lib.toUpperA, bAt_eq hj']

/-- the bytes' block at the loop's k-th round -/
structure CapR (w : World) (s : Bs) (H k : Nat) (wr : World) : Prop where
  cell : ∀ j, j < s.length → wr.cell? ⟨H, j, none⟩ = some (.int .u8 (capsAt s k j).toNat)
  fr : ∀ j, j < s.length → wr.frozen? ⟨H, j, none⟩ = false
  lt : H < wr.heap.size
  g : w.grownBy wr none
theorem CapR.step {w wr : World} {s : Bs} {H k : Nat} (h : CapR w s H k wr) (hH : w.heap.size ≤ H) (hk : k < s.length) : CapR w s H (k + 1) (wr.setCell ⟨H, k, none⟩ (.int .u8 (Lib.upperB (bAt s k)).toNat)) := by
  refine ⟨fun j hj => ?_, fun j hj => by rw [World.frozen?_setCell]; exact h.fr j hj, by simpa using h.lt, gb_set h.g _ _ (.inr hH)⟩
  by_cases e : j = k
  · subst e
    rw [World.cell?_setCell_same _ _ _ (h.cell j hj)]
    simp [capsAt]
  · rw [World.cell?_setCell_other _ _ _ _ (by simp [e]), h.cell j hj]
    have : (j < k + 1) = (j < k) := by apply propext; omega
    simp [capsAt, this]

set_option maxRecDepth 20000 in
set_option maxHeartbeats 1600000 in
theorem rCapitals_any (s : Bs) (hs : s.length ≤ 1000000) (w : World) : Calls Tryz.prog 141 #[str s] w fun e w' => e = .returned (str (Lib.toUpperA s)) ∧ w.grownBy w' none := by
  have hconv := run_bytes_of_string (P := Tryz.prog) w 9 182 5 ⟨s.toArray⟩ Tryz.underlying9 Tryz.underlying182 Tryz.underlying5
  have hsz : (⟨s.toArray⟩ : ByteArray).size = s.length := by simp [ByteArray.size]
  rw [hsz] at hconv
  generalize hcap : grownCap w s.length 0 5 = cap at *
  have h0 : CapR w s w.heap.size 0 (w.drew.alloc (.cells (bytesRow ⟨s.toArray⟩ cap) 5 ((bytesRow ⟨s.toArray⟩ cap).size, (bytesRow ⟨s.toArray⟩ cap).size + 1))) := by
    refine ⟨fun j hj => ?_, fun j hj => ?_, by simp, gb_alloc (gb_drew (gb_refl _ _)) _⟩
    · show (w.drew.alloc _).cell? ⟨w.drew.heap.size, j, none⟩ = _
      rw [World.cell?_alloc_mark, bytesRow_at _ _ _ (by simpa using hj)]
      simp [capsAt, bAt_eq hj]
    · show (w.drew.alloc _).frozen? ⟨w.drew.heap.size, j, none⟩ = _
      rw [World.frozen?_alloc_mark]
      have : s.length ≤ (bytesRow ⟨s.toArray⟩ cap).size := by simp [bytesRow]
      simp
      omega
  have H0 := Lib.hid h0
  clear h0 hsz hcap
  generalize (w.drew.alloc (.cells (bytesRow ⟨s.toArray⟩ cap) 5 ((bytesRow ⟨s.toArray⟩ cap).size, (bytesRow ⟨s.toArray⟩ cap).size + 1))) = W at *
  go_enter Tryz.func141, Tryz.ntmps141
  go_wp2_with fail
  go_loopg [4] s.length (fun g v4 wr => ∃ k : Nat, k + g = s.length ∧ v4 = .int .i64 k ∧ CapR w s w.heap.size k wr)
  case atStart => exact ⟨0, by omega, rfl, H0.out⟩
  case round =>
    obtain ⟨k, hk, rfl, hr⟩ := hrel
    clear H0 hconv
    cases gk with
    | zero =>
      have hkl : k = s.length := by omega
      have hj1 : decide (k < s.length) = false := by simp; omega
      have hback := run_convert_bytes_back (P := Tryz.prog) wr 182 9 5 ⟨w.heap.size, 0, none⟩ cap (Lib.toUpperA s) Tryz.underlying182 Tryz.underlying5 Tryz.underlying9 (by
        intro j hj
        have hj' : j < s.length := by rwa [caps_len] at hj
        have e : (⟨w.heap.size, 0, none⟩ : Addr).add j = ⟨w.heap.size, j, none⟩ := by unfold Addr.add; split <;> simp_all
        rw [e, hr.cell j hj', caps_get]
        simp [capsAt, hkl, hj'])
      rw [caps_len] at hback
      have HG := Lib.hid hr.g
      clear hr
      go_wp2
      go_ret
      exact ⟨rfl, HG.out⟩
    | succ gk =>
      have hkl : k < s.length := by omega
      have hj1 : decide (k < s.length) = true := by simp; omega
      have ck := hr.cell k hkl
      have fk := hr.fr k hkl
      have hlt := hr.lt
      have ek : capsAt s k k = bAt s k := by simp [capsAt]
      rw [ek] at ck
      have HR := Lib.hid (hr.step (Nat.le_refl _) hkl)
      clear hr ek
      go_wp2_with fail
      refine (rCapital_any _ _).mono ?_
      rintro e w1 ⟨rfl, rfl⟩
      go_wp2
      go_roundg gk
      case measure => omega
      case rel => exact ⟨k + 1, by omega, by go_num, HR.out⟩

set_option maxRecDepth 20000 in
theorem rSigns_any (w : World) : Calls Tryz.prog 213 #[] w fun e w' => e = .returned (.slice (some ⟨w.heap.size, 0, none⟩) 38 38) ∧ w' = w.alloc (.cells (signsL.map str).toArray 9 (0, 0)) := by
  go_enter Tryz.func213, Tryz.ntmps213
  go_wp2
  go_ret
  exact ⟨rfl, rfl⟩

end Go.Proofs.YtmcajbhljbbglaaGreatDoor

namespace Go.Proofs.YtmcajbhljbbglaaGreatDoor
open Go.RowKit

/-- the loop of 'signAt' at its k-th round -/
structure SgR (w : World) (s : Bs) (i k : Nat) (wr : World) : Prop where
  row : Blk wr w.heap.size (signsL.map str) 9
  no : ∀ j, (hj : j < k) → (hl : j < signsL.length) → signHere s i signsL[j] = false
  g : w.grownBy wr none
theorem SgR.go {w : World} {s : Bs} {i k : Nat} {wr w1 : World} (h : SgR w s i k wr) (hk : k < signsL.length) (hx : signHere s i signsL[k] = false) (g : wr.grownBy w1 none) : SgR w s i (k + 1) w1 :=
  ⟨h.row.gb g (by simp), fun j hj hl => by
    by_cases e : j = k
    · subst e; exact hx
    · exact h.no j (by omega) hl, gb_sub h.g g⟩

theorem caps_part (s : Bs) (hs : s.length ≤ 4000) (i j : Nat) (w : World) :
    Calls Tryz.prog 141 #[.string ((⟨s.toArray⟩ : ByteArray).extract i j)] w fun e w' => e = .returned (str (Lib.toUpperA (sliceM s i j))) ∧ w.grownBy w' none := by
  rw [ba_extract]
  exact rCapitals_any _ (by simp; omega) w
theorem signHere_caps {s : Bs} {i k : Nat} (hk : k < signsL.length) (he : i + signsL[k].length ≤ s.length) {r : Bool} (h : signHere s i signsL[k] = r) : (Lib.toUpperA (sliceM s i (i + signsL[k].length)) == signsL[k]) = r := by
  rw [← h]; simp [signHere, he]

set_option maxRecDepth 20000 in
set_option maxHeartbeats 4000000 in
theorem signAt_any (s : Bs) (hf : s.length ≤ 4000) (i : Nat) (hi : i ≤ s.length) (w : World) :
    Calls Tryz.prog 176 #[str s, .int .i64 i] w fun e w' => e = .returned (str ((signM s i).getD [])) ∧ w.grownBy w' none := by
  have hA : SgR w s i 0 (w.alloc (.cells (signsL.map str).toArray 9 (0, 0))) :=
    ⟨Blk.new w _ _, fun j hj => by omega, World.grownBy_alloc w _ none⟩
  go_enter Tryz.func176, Tryz.ntmps176
  go_wp2_with fail
  refine (rSigns_any _).mono ?_
  rintro e w1 ⟨rfl, rfl⟩
  go_wp2_with fail
  go_loopg [6, 7] 38 (fun g v6 v7 wr => ∃ k : Nat, k + g = 38 ∧ v6 = .int .i64 k ∧ SgR w s i k wr)
  case atStart => exact ⟨0, rfl, rfl, hA⟩
  case round =>
    obtain ⟨k, hk, rfl, hr⟩ := hrel
    clear hA
    have gw := hr.g.size
    have hlt := hr.row.lt
    cases gk with
    | zero =>
      have e : k = 38 := by omega
      subst e
      have HM := Lib.hid (signM_none (s := s) (i := i) (fun j hj => hr.no j hj hj))
      have HG := Lib.hid hr.g
      clear hr
      go_wp2
      go_ret
      exact ⟨by rw [HM.out]; rfl, HG.out⟩
    | succ gk =>
      have hkl : k < signsL.length := by show k < 38; omega
      have ck := (hr.row.cell k).trans (show (signsL.map str)[k]? = some (str signsL[k]) by simp [hkl])
      have hx6 := signsL_len (List.getElem_mem hkl)
      have hkI : decide ((k : Int) < 38) = true := by simp; omega
      have hk0 : (0 : Int) ≤ (k : Int) := by omega
      have hk1 : (k : Int) < 38 := by omega
      cases hh : signHere s i signsL[k] with
      | false =>
        have HR := Lib.hid (fun w1 g => hr.go hkl (w1 := w1) hh g)
        by_cases hend : i + signsL[k].length ≤ s.length
        · have hz := signHere_caps hkl hend hh
          have HU := Lib.hid (fun (W : World) => caps_part s hf i (i + signsL[k].length) W)
          clear hh hr
          generalize Lib.toUpperA (sliceM s i (i + signsL[k].length)) = z at *
          generalize signsL[k] = x at *
          have he1 : decide ((i : Int) + x.length ≤ s.length) = true := by simp; omega
          have he2 : decide ((i : Int) ≤ i + x.length) = true := by simp; omega
          have hw2 : (0 : Int) ≤ (i : Int) + x.length := by omega
          have hw3 : (i : Int) + x.length ≤ s.length := by omega
          have hw4 : ((i : Int) + x.length).toNat = i + x.length := by omega
          have hw5 : (i : Int) ≤ (i : Int) + x.length := by omega
          go_wp2_with fail
          go_region_held3 (fun W => W.cell? ⟨w.heap.size, k, none⟩ = some (str x) ∧ wr.grownBy W none) (first | exact ⟨ck, gb_drew (gb_refl wr none)⟩ | exact ⟨gb_cellN g5 ck, gb_sub (gb_drew (gb_refl wr none)) g5⟩) (first | (go_at_call 141; refine (HU.out _).mono ?_; rintro e w5 ⟨rfl, g5⟩))
          go_wp2
          go_roundg gk
          case measure => omega
          case rel => exact ⟨k + 1, by omega, by simp, HR.out w5 (gb_sub (gb_drew (gb_refl wr none)) g5)⟩
        · clear hh hr
          generalize signsL[k] = x at *
          have he1 : decide ((i : Int) + x.length ≤ s.length) = false := by simp; omega
          go_wp2_with fail
          go_quiet (fail)
          go_wp2
          go_roundg gk
          case measure => omega
          case rel => exact ⟨k + 1, by omega, by simp, HR.out _ (gb_drewN (gb_refl wr none) _)⟩
      | true =>
        have hend : i + signsL[k].length ≤ s.length := by simp [signHere] at hh; exact hh.1
        have hz := signHere_caps hkl hend hh
        have HU := Lib.hid (fun (W : World) => caps_part s hf i (i + signsL[k].length) W)
        have HM := Lib.hid (signM_some hkl (fun j hj => hr.no j hj (by omega)) hh)
        have HG := Lib.hid hr.g
        clear hh hr
        generalize Lib.toUpperA (sliceM s i (i + signsL[k].length)) = z at *
        generalize signsL[k] = x at *
        have he1 : decide ((i : Int) + x.length ≤ s.length) = true := by simp; omega
        have he2 : decide ((i : Int) ≤ i + x.length) = true := by simp; omega
        have hw2 : (0 : Int) ≤ (i : Int) + x.length := by omega
        have hw3 : (i : Int) + x.length ≤ s.length := by omega
        have hw4 : ((i : Int) + x.length).toNat = i + x.length := by omega
        have hw5 : (i : Int) ≤ (i : Int) + x.length := by omega
        go_wp2_with fail
        go_region_held3 (fun W => W.cell? ⟨w.heap.size, k, none⟩ = some (str x) ∧ wr.grownBy W none) (first | exact ⟨ck, gb_drew (gb_refl wr none)⟩ | exact ⟨gb_cellN g5 ck, gb_sub (gb_drew (gb_refl wr none)) g5⟩) (first | (go_at_call 141; refine (HU.out _).mono ?_; rintro e w5 ⟨rfl, g5⟩))
        have gA : wr.grownBy w5 none := gb_sub (gb_drew (gb_refl wr none)) g5
        have c5 := gb_cellN gA ck
        go_wp2
        go_ret
        exact ⟨by rw [HM.out]; rfl, gb_sub HG.out gA⟩

/-- how the reading of a token ends -/
def RTok (w : World) (b : Nat) (s : Bs) (r : St) (pre : List Tok) (e : Ending) (w' : World) : Prop :=
  e = .returned (.tuple #[]) ∧ Below b w w' ∧ match r with
    | .tok t j l => ∃ ov, Rl w' b s j l (-1) ov (pre ++ [t])
    | .again j l => ∃ ov, Rl w' b s j l (-1) ov pre
    | .bad k => ∃ j l ov pre', Rl w' b s j l k ov pre'
    | .stop => False
section
variable {w w' : World} {b : Nat} {s : Bs} {pre pre' : List Tok} {r : St} {t : Tok} {j k : Nat} {l : Bool} {ov : Value}
theorem rTok_tok (hr : r = .tok t j l) (g : Below b w w') (h : Rl w' b s j l (-1) ov (pre ++ [t])) : RTok w b s r pre (.returned (.tuple #[])) w' := by subst hr; exact ⟨rfl, g, _, h⟩
theorem rTok_again (hr : r = .again j l) (g : Below b w w') (h : Rl w' b s j l (-1) ov pre) : RTok w b s r pre (.returned (.tuple #[])) w' := by subst hr; exact ⟨rfl, g, _, h⟩
theorem rTok_bad (hr : r = .bad k) (g : Below b w w') (h : Rl w' b s j l k ov pre') : RTok w b s r pre (.returned (.tuple #[])) w' := by subst hr; exact ⟨rfl, g, _, _, _, _, h⟩
end

/-- the first wrong byte from i on, before k -/
def badOf (s : Bs) (i k : Nat) : Int := if runM s (fun b => !cls 4 b) i < k then runM s (fun b => !cls 4 b) i else -1
theorem quote_res {s : Bs} {i : Nat} (hi : i < s.length) (hq : bAt s i = 34 ∨ bAt s i = 39) (hn : quoteEnd s i < s.length) (h10 : bAt s (quoteEnd s i) ≠ 10) :
    (badOf s i (quoteEnd s i) = -1 ∧ quoteM s i = .tok ⟨2, i, sliceM s (i + 1) (quoteEnd s i)⟩ (quoteEnd s i + 1) true) ∨ ∃ k : Nat, badOf s i (quoteEnd s i) = k ∧ quoteM s i = .bad k := by
  have hle : i + 1 ≤ quoteEnd s i := runM_ge _ _ _
  have h4 : cls 4 (bAt s i) = false := by rcases hq with h | h <;> rw [h] <;> decide
  have hB : runM s (fun b => !cls 4 b) i = runM s (fun b => !cls 4 b) (i + 1) := runM_step hi (by simp [h4])
  have hge := runM_ge s (fun b => !cls 4 b) (i + 1)
  have hp := run_part (s := s) (p := fun b => !cls 4 b) hle (Nat.le_of_lt hn)
  unfold badOf
  rw [hB]
  by_cases h : runM s (fun b => !cls 4 b) (i + 1) < quoteEnd s i
  · right
    refine ⟨runM s (fun b => !cls 4 b) (i + 1), by rw [if_pos h], ?_⟩
    have hb : badIn (sliceM s (i + 1) (quoteEnd s i)) = runM s (fun b => !cls 4 b) (i + 1) - (i + 1) := by unfold badIn; rw [hp]; omega
    rw [quoteM_bad ⟨hn, h10⟩ (by rw [hb]; omega), hb]
    congr 1
    omega
  · left
    refine ⟨by rw [if_neg h], ?_⟩
    have hb : badIn (sliceM s (i + 1) (quoteEnd s i)) = quoteEnd s i - (i + 1) := by unfold badIn; rw [hp]; omega
    rw [quoteM_ok ⟨hn, h10⟩ (by rw [hb]; omega)]
theorem badOf_step {s : Bs} {i k : Nat} (hk : k < s.length) (hc : cls 4 (bAt s k) = false) : badOf s i (k + 1) = badOf s i k := by
  unfold badOf
  by_cases h2 : runM s (fun b => !cls 4 b) i < k
  · rw [if_pos h2, if_pos (by omega)]
  · rw [if_neg h2, if_neg]
    intro h3
    have e : runM s (fun b => !cls 4 b) i = k := by omega
    have := runM_at (s := s) (p := fun b => !cls 4 b) (i := i) (by omega)
    rw [e] at this
    simp [hc] at this
theorem badOf_hit {s : Bs} {i k : Nat} (hik : i ≤ k) (hc : cls 4 (bAt s k) = true) : (badOf s i k = -1 ∧ badOf s i (k + 1) = k) ∨ ∃ q : Nat, q ≤ k ∧ badOf s i k = q ∧ badOf s i (k + 1) = q := by
  have hle : runM s (fun b => !cls 4 b) i ≤ k := by
    by_cases h2 : k < runM s (fun b => !cls 4 b) i
    · have := (runM_all (p := fun b => !cls 4 b) hik h2).2
      simp [hc] at this
    · omega
  unfold badOf
  by_cases h : runM s (fun b => !cls 4 b) i < k
  · right
    exact ⟨_, hle, by rw [if_pos h], by rw [if_pos (by omega)]⟩
  · left
    exact ⟨by rw [if_neg h], by rw [if_pos (by omega)]; congr 1; omega⟩

end Go.Proofs.YtmcajbhljbbglaaGreatDoor
