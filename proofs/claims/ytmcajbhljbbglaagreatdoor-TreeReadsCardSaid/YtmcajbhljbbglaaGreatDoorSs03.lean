/-
  Dates: Days.
  Dates: Val of digits.
  Dates: Unstamp.
-/
import Derived.Test.YtmcajbhljbbglaaGreatDoorSs02
import Derived.Deep.LoopGhost
import Derived.Test.YtmcajbhljbbglaaGreatDoorSs01
set_option linter.all false
set_option linter.unusedVariables false
set_option linter.unusedSimpArgs false
set_option linter.unnecessarySimpa false
set_option linter.constructorNameAsVariable false
set_option linter.deprecated false

namespace Go.Proofs.YtmcajbhljbbglaaGreatDoor
open Go.RowKit

set_option maxRecDepth 20000 in
set_option maxHeartbeats 4000000 in
theorem days_any (y m d : Int) (hy0 : 0 ≤ y) (hy1 : y ≤ 9999) (hm0 : 0 ≤ m) (hm1 : m ≤ 99) (hd0 : 0 ≤ d) (hd1 : d ≤ 99) (w : World) :
    Calls Tryz.prog 242 #[.int .i64 y, .int .i64 m, .int .i64 d] w fun e w' => e = .returned (.tuple #[.int .i64 (daysM y m d).1, .int .i64 (daysM y m d).2]) ∧ w.grownBy w' none := by
  by_cases h1 : y < 1
  · have hB : daysM y m d = (0, 1) := by simp [daysM, badDay, h1]
    rw [hB]
    go_enter Tryz.func242, Tryz.ntmps242
    go_wp2
    exact bodyPost_ret (v := .tuple #[_, _]) (by simp [results, Tryz.results242, go_sem]; try (congr 1; omega)) rfl ⟨rfl, gb_refl _ _⟩
  by_cases h2 : m < 1
  · have hB : daysM y m d = (0, 1) := by simp [daysM, badDay, h2]
    rw [hB]
    go_enter Tryz.func242, Tryz.ntmps242
    go_wp2
    exact bodyPost_ret (v := .tuple #[_, _]) (by simp [results, Tryz.results242, go_sem]; try (congr 1; omega)) rfl ⟨rfl, gb_refl _ _⟩
  by_cases h3 : 12 < m
  · have hB : daysM y m d = (0, 1) := by simp [daysM, badDay, h3]
    rw [hB]
    go_enter Tryz.func242, Tryz.ntmps242
    go_wp2
    exact bodyPost_ret (v := .tuple #[_, _]) (by simp [results, Tryz.results242, go_sem]; try (congr 1; omega)) rfl ⟨rfl, gb_refl _ _⟩
  by_cases h4 : d < 1
  · have hB : daysM y m d = (0, 1) := by simp [daysM, badDay, h4]
    rw [hB]
    go_enter Tryz.func242, Tryz.ntmps242
    go_wp2
    exact bodyPost_ret (v := .tuple #[_, _]) (by simp [results, Tryz.results242, go_sem]; try (congr 1; omega)) rfl ⟨rfl, gb_refl _ _⟩
  have hml := monthM_le y m (by omega) (by omega)
  have hyl : 0 ≤ yearsM y ∧ yearsM y ≤ 4000000 := by
    unfold yearsM
    rw [Int.tdiv_eq_ediv_of_nonneg (by omega), Int.tdiv_eq_ediv_of_nonneg (by omega), Int.tdiv_eq_ediv_of_nonneg (by omega)]
    omega
  by_cases h5 : monthM y m < d
  · have hB : daysM y m d = (0, 1) := by simp [daysM, badDay, h5]
    rw [hB]
    go_enter Tryz.func242, Tryz.ntmps242
    go_wp2_with fail
    refine (monthDays_any y m (by omega) (by omega) (by omega) (by omega) _).mono ?_
    rintro e w1 ⟨rfl, g1⟩
    go_wp2
    exact bodyPost_ret (v := .tuple #[_, _]) (by simp [results, Tryz.results242, go_sem]; try (congr 1; omega)) rfl ⟨rfl, g1⟩
  have hB : daysM y m d = (yearsM y + d + beforeM y (m - 1).toNat, 0) := by simp [daysM, badDay, h1, h2, h3, h4, h5]; omega
  rw [hB]
  clear hB
  go_enter Tryz.func242, Tryz.ntmps242
  go_wp2_with fail
  refine (monthDays_any y m (by omega) (by omega) (by omega) (by omega) _).mono ?_
  rintro e w1 ⟨rfl, g1⟩
  go_wp2_with fail
  refine (yearsDays_any y (by omega) (by omega) _).mono ?_
  rintro e w2 ⟨rfl, rfl⟩
  go_wp2_with fail
  generalize hM : (m - 1).toNat = M at *
  go_loopg [8, 9, 41] M (fun g v8 v9 v41 wr => ∃ k : Nat, k + g = M ∧ v8 = .int .i64 (yearsM y + d + beforeM y k) ∧ v41 = .int .i64 k ∧ w.grownBy wr none)
  case atStart => exact ⟨0, by omega, by simp [beforeM], rfl, g1⟩
  case round =>
    obtain ⟨k, hk, rfl, rfl, gr⟩ := hrel
    have hbl := beforeM_le y k (by omega)
    cases gk with
    | zero =>
      have hkM : k = M := by omega
      subst hkM
      go_wp2
      exact bodyPost_ret (v := .tuple #[_, _]) (by simp [results, Tryz.results242, go_sem]; try (congr 1; omega)) rfl ⟨rfl, gr⟩
    | succ gk =>
      go_wp2_with fail
      refine (monthDays_any y (k + 1) (by omega) (by omega) (by omega) (by omega) _).mono ?_
      rintro e w3 ⟨rfl, g3⟩
      have hm2 := monthM_le y (k + 1) (by omega) (by omega)
      go_wp2_with fail
      go_roundg gk
      case measure => omega
      case rel => exact ⟨k + 1, by omega, by simp [beforeM]; omega, by simp, gb_trans gr g3⟩

end Go.Proofs.YtmcajbhljbbglaaGreatDoor

namespace Go.Proofs.YtmcajbhljbbglaaGreatDoor
open Go.RowKit

def isDig (b : UInt8) : Bool := decide (48 ≤ b.toNat) && decide (b.toNat ≤ 57)
theorem ba_get (s : Bs) (k : Nat) (h : k < (⟨s.toArray⟩ : ByteArray).size) (h2 : k < s.length) : (⟨s.toArray⟩ : ByteArray)[k]'h = s[k] := rfl

theorem numM_take (s : Bs) (k : Nat) (h : k < s.length) : numM (s.take (k + 1)) = 10 * numM (s.take k) + ((s[k].toNat : Int) - 48) := by
  unfold numM
  rw [List.take_succ_eq_append_getElem h, List.foldl_append]
  rfl
theorem numM_le (s : Bs) (hd : s.all isDig = true) : ∀ k, k ≤ s.length → 0 ≤ numM (s.take k) ∧ numM (s.take k) < 10 ^ k := by
  intro k
  induction k with
  | zero => intro _; simp [numM]
  | succ k ih =>
    intro hk
    have h1 := ih (by omega)
    have h2 := List.all_eq_true.1 hd s[k] (List.getElem_mem _)
    simp [isDig] at h2
    rw [numM_take s k (by omega), Int.pow_succ]
    omega

theorem trimLeft_dig (s : Bs) (hd : s.all isDig = true) : Lib.trimLeftS s [32] = s := by
  cases s with
  | nil => rfl
  | cons c t =>
    simp [isDig] at hd
    have : c ≠ 32 := by rintro rfl; simp at hd
    simp [Lib.trimLeftS, this]

set_option maxRecDepth 20000 in
set_option maxHeartbeats 4000000 in
theorem val_any (s : Bs) (hd : s.all isDig = true) (h0 : 1 ≤ s.length) (h8 : s.length ≤ 8) (w : World) :
    Calls Tryz.prog 243 #[str s] w fun e w' => e = .returned (.int .i64 (numM s)) ∧ w.grownBy w' none := by
  cases s with
  | nil => simp at h0
  | cons c t =>
  have hc := List.all_eq_true.1 hd c (by simp)
  have hg := ba_get0 c t
  simp [isDig] at hc
  obtain ⟨hc1, hc2⟩ := hc
  have h45 : ((c.toNat : Int) == 45) = false := by simp; omega
  have h43 : ((c.toNat : Int) == 43) = false := by simp; omega
  have H := Lib.hid hd
  have h8' : t.length ≤ 7 := by simpa using h8
  go_enter Tryz.func243, Tryz.ntmps243
  go_wp2_with fail
  refine (Tryz.strings_TrimLeft ⟨(c :: t).toArray⟩ ⟨#[32]⟩ _ (by decide) (ascii_of_all (by decide))).mono ?_
  rintro e w1 ⟨rfl, hb⟩
  have gr := gbB hb none
  rw [show Lib.trimLeftS (ByteArray.mk (c :: t).toArray).data.toList (ByteArray.mk #[32]).data.toList = c :: t from trimLeft_dig _ H.out]
  clear hb
  go_wp2_with fail
  go_loopg [4, 5, 27] (c :: t).length (fun g v4 v5 v27 wr => ∃ k : Nat, k + g = (c :: t).length ∧ v4 = .int .i64 (numM ((c :: t).take k)) ∧ v27 = .int .i64 k ∧ w.grownBy wr none)
  case atStart => exact ⟨0, by omega, by simp [numM], rfl, gr⟩
  case round =>
    obtain ⟨k, hk, rfl, rfl, g⟩ := hrel
    have hnl : 0 ≤ numM ((c :: t).take k) ∧ numM ((c :: t).take k) < 100000000 := by
      have h1 := numM_le (c :: t) H.out k (by omega)
      have h2 : (10 : Int) ^ k ≤ 10 ^ 8 := by exact_mod_cast Nat.pow_le_pow_right (n := 10) (by decide) (by simp only [List.length_cons] at hk; omega : k ≤ 8)
      have h3 : (10 : Int) ^ 8 = 100000000 := by decide
      omega
    cases gk with
    | zero =>
      have hkM : k = t.length + 1 := by simpa using hk
      rw [List.take_of_length_le (by simp; omega)] at *
      generalize hzz : numM (c :: t) = z at *
      have HZ := Lib.hid hzz
      clear hzz
      have hnlt : ((k : Int) < (t.length : Int) + 1) = False := by simp; omega
      clear hk hkM
      go_wp2
      go_ret
      exact ⟨by rw [HZ.out]; rfl, g⟩
    | succ gk =>
      have hlt : k < (c :: t).length := by omega
      have hx := List.all_eq_true.1 H.out (c :: t)[k] (List.getElem_mem _)
      simp only [isDig, Bool.and_eq_true, decide_eq_true_eq] at hx
      obtain ⟨hx1, hx2⟩ := hx
      have hgk := fun h => ba_get (c :: t) k h hlt
      have hn1 := numM_take (c :: t) k hlt
      have hkl : (k : Int) < t.length + 1 := by simp only [List.length_cons] at hlt; omega
      generalize hz : numM ((c :: t).take k) = z at *
      generalize hq : (c :: t)[k] = q at *
      go_wp2_with fail
      go_roundg gk
      case measure => omega
      case rel => exact ⟨k + 1, by omega, by rw [hn1]; congr 1; omega, by simp, g⟩

end Go.Proofs.YtmcajbhljbbglaaGreatDoor

namespace Go.Proofs.YtmcajbhljbbglaaGreatDoor
open Go.RowKit

def blanks8 : Bs := [32, 32, 32, 32, 32, 32, 32, 32]
def unstampM (s : Bs) : Int × Bool :=
  if s = blanks8 then (0, true)
  else if s.length ≠ 8 ∨ s.all isDig = false then (0, false)
  else ((daysM (numM (s.take 4)) (numM ((s.drop 4).take 2)) (numM (s.drop 6))).1, (daysM (numM (s.take 4)) (numM ((s.drop 4).take 2)) (numM (s.drop 6))).2 == 0)

def digSet : Bs := [48, 49, 50, 51, 52, 53, 54, 55, 56, 57]
theorem digSet_eq (b : UInt8) : digSet.contains b = isDig b := by
  rw [Bool.eq_iff_iff]
  constructor
  · intro h
    simp [digSet] at h
    rcases h with h | h | h | h | h | h | h | h | h | h <;> subst h <;> decide
  · intro h
    simp [isDig] at h
    have : b.toNat = 48 ∨ b.toNat = 49 ∨ b.toNat = 50 ∨ b.toNat = 51 ∨ b.toNat = 52 ∨ b.toNat = 53 ∨ b.toNat = 54 ∨ b.toNat = 55 ∨ b.toNat = 56 ∨ b.toNat = 57 := by omega
    rcases this with h | h | h | h | h | h | h | h | h | h <;> (have e : b = UInt8.ofNat b.toNat := (by simp); rw [h] at e; rw [e]; decide)
theorem trim_dig (l : List UInt8) : (Lib.trimS l digSet == []) = l.all isDig := by
  rw [trimS_nil]
  congr 1
  funext b
  exact digSet_eq b

set_option maxRecDepth 20000 in
set_option maxHeartbeats 800000 in
theorem unstamp_any (s : Bs) (hs : s.length ≤ 1000000) (w : World) :
    Calls Tryz.prog 209 #[str s] w fun e w' => e = .returned (.tuple #[.int .i64 (unstampM s).1, .bool (unstampM s).2]) ∧ w.grownBy w' none := by
  by_cases hb : s = blanks8
  · subst hb
    go_enter Tryz.func209, Tryz.ntmps209
    go_wp2
    exact bodyPost_ret (v := .tuple #[.int .i64 0, .bool true]) (by simp [results, Tryz.results209, go_sem]) rfl ⟨rfl, gb_refl _ _⟩
  have hb' : (s == [32, 32, 32, 32, 32, 32, 32, 32]) = false := by simpa [blanks8] using hb
  by_cases h8 : s.length = 8
  · have h8n : ((s.length : Int) == 8) = true := by simp; omega
    have h8m : ((s.length : Int) != 8) = false := by simp; omega
    cases hd : s.all isDig with
    | false =>
      have hm : unstampM s = (0, false) := by simp only [unstampM, hb, if_false, hd]; simp
      rw [hm]
      rw [← trim_dig] at hd
      go_enter Tryz.func209, Tryz.ntmps209
      go_wp2_with fail
      refine (Tryz.strings_Trim ⟨s.toArray⟩ ⟨digSet.toArray⟩ _ (by simp [ByteArray.size]; omega) (by decide) (ascii_of_all (by decide))).mono ?_
      rintro e w1 ⟨rfl, hbe⟩
      have hgb := gbB hbe none
      change (Lib.trimS s digSet == []) = false at hd
      rw [show Lib.trimS (ByteArray.mk s.toArray).data.toList (ByteArray.mk digSet.toArray).data.toList = Lib.trimS s digSet from rfl]
      generalize Lib.trimS s digSet = z at *
      clear hbe
      go_wp2
      exact bodyPost_ret (v := .tuple #[.int .i64 0, .bool false]) (by simp [results, Tryz.results209, go_sem]) rfl ⟨rfl, hgb⟩
    | true =>
      have hm : unstampM s = ((daysM (numM (s.take 4)) (numM ((s.drop 4).take 2)) (numM (s.drop 6))).1, (daysM (numM (s.take 4)) (numM ((s.drop 4).take 2)) (numM (s.drop 6))).2 == 0) := by
        simp only [unstampM, hb, if_false, hd, h8]; simp
      rw [hm]
      clear hm
      obtain ⟨a0, a1, a2, a3, a4, a5, a6, a7, rfl⟩ : ∃ a0 a1 a2 a3 a4 a5 a6 a7, s = [a0, a1, a2, a3, a4, a5, a6, a7] := by
        match s, h8 with
        | [a0, a1, a2, a3, a4, a5, a6, a7], _ => exact ⟨_, _, _, _, _, _, _, _, rfl⟩
      have hd4 : [a0, a1, a2, a3].all isDig = true ∧ [a4, a5].all isDig = true ∧ [a6, a7].all isDig = true := by
        simp at hd ⊢
        simp [hd]
      have HD := Lib.hid hd4
      clear hd4
      rw [← trim_dig] at hd
      go_enter Tryz.func209, Tryz.ntmps209
      go_wp2_with fail
      refine (Tryz.strings_Trim ⟨[a0, a1, a2, a3, a4, a5, a6, a7].toArray⟩ ⟨digSet.toArray⟩ _ (by simp [ByteArray.size]) (by decide) (ascii_of_all (by decide))).mono ?_
      rintro e w1 ⟨rfl, hbe⟩
      have hgb := gbB hbe none
      change (Lib.trimS [a0, a1, a2, a3, a4, a5, a6, a7] digSet == []) = true at hd
      rw [show Lib.trimS (ByteArray.mk [a0, a1, a2, a3, a4, a5, a6, a7].toArray).data.toList (ByteArray.mk digSet.toArray).data.toList = Lib.trimS [a0, a1, a2, a3, a4, a5, a6, a7] digSet from rfl]
      generalize Lib.trimS [a0, a1, a2, a3, a4, a5, a6, a7] digSet = z at *
      clear hbe
      go_wp2_with fail
      have hy := numM_le _ HD.out.1 4 (by simp)
      have hm := numM_le _ HD.out.2.1 2 (by simp)
      have hd' := numM_le _ HD.out.2.2 2 (by simp)
      simp only [List.take_succ_cons, List.take_zero, List.drop_succ_cons, List.drop_zero, List.take_nil] at *
      generalize hY : numM [a0, a1, a2, a3] = Y at *
      generalize hMM : numM [a4, a5] = M at *
      generalize hDD : numM [a6, a7] = D at *
      have HN := Lib.hid (And.intro hY (And.intro hMM hDD))
      clear hY hMM hDD
      have hx1 : ({ data := #[a0, a1, a2, a3, a4, a5, a6, a7] } : ByteArray).extract 0 4 = { data := #[a0, a1, a2, a3] } := rfl
      have hx2 : ({ data := #[a0, a1, a2, a3, a4, a5, a6, a7] } : ByteArray).extract 4 6 = { data := #[a4, a5] } := rfl
      have hx3 : ({ data := #[a0, a1, a2, a3, a4, a5, a6, a7] } : ByteArray).extract 6 8 = { data := #[a6, a7] } := rfl
      have hda := days_any Y M D (by omega) (by omega) (by omega) (by omega) (by omega) (by omega)
      have hv1 : ∀ w, Calls Tryz.prog 243 #[.string ⟨#[a0, a1, a2, a3]⟩] w fun e w' => e = .returned (.int .i64 Y) ∧ w.grownBy w' none := fun w => by rw [← HN.out.1]; exact val_any [a0, a1, a2, a3] HD.out.1 (by simp) (by simp) w
      have hv2 : ∀ w, Calls Tryz.prog 243 #[.string ⟨#[a4, a5]⟩] w fun e w' => e = .returned (.int .i64 M) ∧ w.grownBy w' none := fun w => by rw [← HN.out.2.1]; exact val_any [a4, a5] HD.out.2.1 (by simp) (by simp) w
      have hv3 : ∀ w, Calls Tryz.prog 243 #[.string ⟨#[a6, a7]⟩] w fun e w' => e = .returned (.int .i64 D) ∧ w.grownBy w' none := fun w => by rw [← HN.out.2.2]; exact val_any [a6, a7] HD.out.2.2 (by simp) (by simp) w
      have HV := Lib.hid (And.intro hda (And.intro hv1 (And.intro hv2 hv3)))
      clear hda hv1 hv2 hv3
      go_region_with (first | (go_at_call 242; with_reducible refine (HV.out.1 _).mono ?_; rintro e w5 ⟨rfl, g5⟩) | (with_reducible refine (HV.out.2.1 _).mono ?_; rintro e w2 ⟨rfl, g2⟩) | (with_reducible refine (HV.out.2.2.1 _).mono ?_; rintro e w3 ⟨rfl, g3⟩) | (with_reducible refine (HV.out.2.2.2 _).mono ?_; rintro e w4 ⟨rfl, g4⟩))
      all_goals
        go_wp2
        exact bodyPost_ret (v := .tuple #[.int .i64 (daysM Y M D).1, .bool ((daysM Y M D).2 == 0)]) (by simp [results, Tryz.results209, go_sem]) rfl ⟨by rw [← HN.out.1, ← HN.out.2.1, ← HN.out.2.2]; rfl, gb_trans (gb_trans (gb_trans (gb_trans (gb_drew hgb) g2) g3) g4) g5⟩
  · have hm : unstampM s = (0, false) := by simp [unstampM, hb, h8]
    rw [hm]
    have h8n : ((s.length : Int) == 8) = false := by simp; omega
    have h8m : ((s.length : Int) != 8) = true := by simp; omega
    go_enter Tryz.func209, Tryz.ntmps209
    go_wp2
    exact bodyPost_ret (v := .tuple #[.int .i64 0, .bool false]) (by simp [results, Tryz.results209, go_sem]) rfl ⟨rfl, gb_refl _ _⟩

end Go.Proofs.YtmcajbhljbbglaaGreatDoor
