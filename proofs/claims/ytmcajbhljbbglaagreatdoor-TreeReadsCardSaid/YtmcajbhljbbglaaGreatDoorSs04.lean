/-
  Plain laws: a source and its tokens. The lexer of the program and that of the reference both answer as 'lexM'.
  How expressions lie in memory: a row of expressions is a slice of seven cells each; their names and operands lie in blocks that 'ok' lets by.
  The lexer's scanner in memory; is, skip, lineEnd.
-/
import Derived.Test.YtmcajbhljbbglaaGreatDoorSs03
import Derived.Lib.Case
import Derived.Test.YtmcajbhljbbglaaGreatDoorSs01
import Derived.Test.YtmcajbhljbbglaaGreatDoorProg
import Derived.KernelRfl
import Derived.Test.YtmcajbhljbbglaaGreatDoorPlain
set_option linter.all false
set_option linter.unusedVariables false
set_option linter.unusedSimpArgs false
set_option linter.unnecessarySimpa false
set_option linter.constructorNameAsVariable false
set_option linter.deprecated false

namespace Go.Proofs.YtmcajbhljbbglaaGreatDoor

/-! ### classes of bytes -/
/-- the class of a byte: blank 3, letter 1, digit 2, wrong 4, other 0 -/
def classM (b : Nat) : Int :=
  if b = 9 ∨ b = 32 then 3 else if b = 95 ∨ (97 ≤ b ∧ b ≤ 122) ∨ (65 ≤ b ∧ b ≤ 90) then 1 else if 48 ≤ b ∧ b ≤ 57 then 2 else if b ≠ 10 ∧ (b < 32 ∨ 126 < b) then 4 else 0
def cls (c : Int) (b : UInt8) : Bool := classM b.toNat == c
def wordB (b : UInt8) : Bool := cls 1 b || cls 2 b

/-! ### runs of bytes -/
/-- the byte at a place; 0 behind the end -/
def bAt (s : Bs) (i : Nat) : UInt8 := (s[i]?).getD 0
theorem bAt_eq {s : Bs} {i : Nat} (h : i < s.length) : bAt s i = s[i] := by simp [bAt, h]
/-- the first place from i on that does not hold a byte of a kind -/
def runM (s : Bs) (p : UInt8 → Bool) (i : Nat) : Nat := i + ((s.drop i).takeWhile p).length
theorem drop_cons {s : Bs} {i : Nat} (h : i < s.length) : s.drop i = bAt s i :: s.drop (i + 1) := by rw [bAt_eq h]; exact List.drop_eq_getElem_cons h
theorem runM_end {s : Bs} {p : UInt8 → Bool} {i : Nat} (h : s.length ≤ i) : runM s p i = i := by simp [runM, List.drop_eq_nil_of_le h]
theorem runM_stop {s : Bs} {p : UInt8 → Bool} {i : Nat} (h : i < s.length) (hp : p (bAt s i) = false) : runM s p i = i := by
  simp [runM, drop_cons h, hp]
theorem runM_step {s : Bs} {p : UInt8 → Bool} {i : Nat} (h : i < s.length) (hp : p (bAt s i) = true) : runM s p i = runM s p (i + 1) := by
  simp [runM, drop_cons h, hp]; omega
theorem runM_ge (s : Bs) (p : UInt8 → Bool) (i : Nat) : i ≤ runM s p i := Nat.le_add_right _ _
theorem runM_le {s : Bs} {p : UInt8 → Bool} {i : Nat} (h : i ≤ s.length) : runM s p i ≤ s.length := by
  have h1 : ((s.drop i).takeWhile p).length ≤ (s.drop i).length := (List.takeWhile_sublist p).length_le
  simp at h1
  unfold runM
  omega
theorem runM_at {s : Bs} {p : UInt8 → Bool} {i : Nat} (h : runM s p i < s.length) : p (bAt s (runM s p i)) = false := by
  induction hn : s.length - i generalizing i with
  | zero => have := runM_ge s p i; omega
  | succ n ih =>
    have hi : i < s.length := by omega
    cases hp : p (bAt s i) with
    | false => rw [runM_stop hi hp]; exact hp
    | true =>
      rw [runM_step hi hp] at h ⊢
      exact ih h (by omega)
theorem runM_all {s : Bs} {p : UInt8 → Bool} {i j : Nat} (h1 : i ≤ j) (h2 : j < runM s p i) : j < s.length ∧ p (bAt s j) = true := by
  induction hn : s.length - i generalizing i with
  | zero => rw [runM_end (by omega)] at h2; omega
  | succ n ih =>
    have hi : i < s.length := by omega
    cases hp : p (bAt s i) with
    | false => rw [runM_stop hi hp] at h2; omega
    | true =>
      by_cases e : i = j
      · subst e; exact ⟨hi, hp⟩
      · rw [runM_step hi hp] at h2
        exact ih (by omega) h2 (by omega)
/-- a run goes on from every place in it -/
theorem runM_from {s : Bs} {p : UInt8 → Bool} {i j : Nat} (h1 : i ≤ j) (h2 : j ≤ runM s p i) : runM s p j = runM s p i := by
  induction hn : j - i generalizing i with
  | zero => have : i = j := by omega
            subst this; rfl
  | succ n ih =>
    have h3 := runM_all (Nat.le_refl i) (by omega : i < runM s p i)
    have h4 := runM_step h3.1 h3.2
    rw [h4]
    exact ih (by omega) (by omega) (by omega)
theorem runM_mono {s : Bs} {p q : UInt8 → Bool} (h : ∀ b, p b = true → q b = true) (i : Nat) : runM s p i ≤ runM s q i := by
  induction hn : s.length - i generalizing i with
  | zero => rw [runM_end (by omega), runM_end (by omega)]; exact Nat.le_refl _
  | succ n ih =>
    have hi : i < s.length := by omega
    cases hp : p (bAt s i) with
    | false => rw [runM_stop hi hp]; exact runM_ge _ _ _
    | true =>
      rw [runM_step hi hp, runM_step hi (h _ hp)]
      exact ih _ (by omega)

def sliceM (s : Bs) (i j : Nat) : Bs := (s.drop i).take (j - i)
theorem sliceM_len {s : Bs} {i j : Nat} (h1 : i ≤ j) (h2 : j ≤ s.length) : (sliceM s i j).length = j - i := by simp [sliceM]; omega
theorem sliceM_at {s : Bs} {i j k : Nat} (h : k < j - i) : (sliceM s i j)[k]? = s[i + k]? := by
  simp [sliceM, h]

def skipM (s : Bs) (i : Nat) : Nat := runM s (cls 3) i
def lineEndM (s : Bs) (i : Nat) : Nat := runM s (fun b => b != 10) i
/-- the first wrong byte of the line, or its end -/
def cleanM (s : Bs) (i : Nat) : Nat := runM s (fun b => b != 10 && !cls 4 b) i
theorem clean_le (s : Bs) (i : Nat) : cleanM s i ≤ lineEndM s i := runM_mono (by intro b hb; simp at hb ⊢; exact hb.1) i
/-- two ampersands stand here -/
def ampAt (s : Bs) (i : Nat) : Bool := [38, 38].isPrefixOf (s.drop i)

/-! ### signs -/
def signsL : List Bs := [[46, 78, 85, 76, 76, 46], [46, 65, 78, 68, 46], [46, 78, 79, 84, 46], [46, 79, 82, 46], [46, 84, 46], [46, 70, 46], [58, 61], [61, 61], [60, 62], [33, 61], [60, 61], [62, 61], [45, 62], [40], [41], [91], [93], [123], [125], [44], [124], [58], [46], [61], [35], [60], [62], [43], [45], [42], [47], [37], [94], [36], [38], [63], [64], [33]]
def signHere (s : Bs) (i : Nat) (w : Bs) : Bool := decide (i + w.length ≤ s.length) && Lib.toUpperA (sliceM s i (i + w.length)) == w
def signM (s : Bs) (i : Nat) : Option Bs := signsL.find? (signHere s i)

/-! ### dates -/
def dateDigits (t : Bs) : Bs := sliceM t 2 6 ++ sliceM t 7 9 ++ sliceM t 10 12
def dateForm (t : Bs) : Bool := decide (13 ≤ t.length) && t.take 2 == [123, 94] && bAt t 6 == 45 && bAt t 9 == 45 && bAt t 12 == 125
/-- the digits of a date that begins here, and its length -/
def dateM (t : Bs) : Option (Bs × Nat) :=
  if [123, 125].isPrefixOf t then some ([], 2)
  else if dateForm t then (if (unstampM (dateDigits t)).2 && dateDigits t != blanks8 then some (dateDigits t, 13) else none)
  else none

/-! ### one step -/
inductive St where
  | tok (t : Tok) (at' : Nat) (line : Bool)
  | again (at' : Nat) (line : Bool)
  | stop
  | bad (k : Nat)

def quoteM (s : Bs) (i : Nat) : St :=
  let q := runM s (fun b => b != 10 && b != bAt s i) (i + 1)
  if q < s.length ∧ bAt s q ≠ 10 then
    (if runM (sliceM s (i + 1) q) (fun b => !cls 4 b) 0 < q - (i + 1) then .bad (i + 1 + runM (sliceM s (i + 1) q) (fun b => !cls 4 b) 0) else .tok ⟨2, i, sliceM s (i + 1) q⟩ (q + 1) true)
  else .bad i

def tokenM (s : Bs) (i : Nat) : St :=
  if cls 1 (bAt s i) then (if 24 < runM s wordB i - i then .bad i else .tok ⟨0, i, Lib.toUpperA (sliceM s i (runM s wordB i))⟩ (runM s wordB i) true)
  else if cls 2 (bAt s i) then (if 15 < runM s (cls 2) i - i then .bad i else .tok ⟨1, i, sliceM s i (runM s (cls 2) i)⟩ (runM s (cls 2) i) true)
  else if bAt s i = 34 ∨ bAt s i = 39 then quoteM s i
  else match dateM (s.drop i) with
    | some (d, n) => .tok ⟨3, i, d⟩ (i + n) true
    | none => match signM s i with
      | some w => .tok ⟨4, i, w⟩ (i + w.length) true
      | none => .bad i

def commentM (s : Bs) (i : Nat) : Option Nat := if cleanM s i < lineEndM s i then some (cleanM s i) else none
def nextLine (s : Bs) (i : Nat) : Nat := if lineEndM s i < s.length then lineEndM s i + 1 else lineEndM s i
/-- a semicolon before this place lets the line go on -/
def goesOn (s : Bs) (k : Nat) : Bool := decide (s.length ≤ k) || bAt s k == 10 || ampAt s k

def lexStep (s : Bs) (i : Nat) (line : Bool) : St :=
  if s.length ≤ i then (if line then .tok ⟨5, i, []⟩ i false else .stop)
  else if bAt s i = 10 then (if line then .tok ⟨5, i, []⟩ (i + 1) false else .again (i + 1) false)
  else if cls 3 (bAt s i) then .again (i + 1) line
  else if (bAt s i == 42 && !line) || ampAt s i then
    match commentM s i with
    | some k => .bad k
    | none => .again (lineEndM s i) line
  else if bAt s i = 59 then
    (if goesOn s (skipM s (i + 1)) then
      match commentM s (skipM s (i + 1)) with
      | some k => .bad k
      | none => .again (nextLine s (skipM s (i + 1))) line
    else .bad i)
  else tokenM s i

/-! ### the next token; all tokens -/
inductive NR where
  | tok (t : Tok) (at' : Nat) (line : Bool) (n : Nat)
  | stop
  | bad (k : Nat)
  | out

def nextM (s : Bs) : Nat → Nat → Bool → NR
  | 0, _, _ => .out
  | n + 1, i, line => match lexStep s i line with
    | .tok t j l => .tok t j l n
    | .again j l => nextM s n j l
    | .stop => .stop
    | .bad k => .bad k

inductive LexR where
  | ok (l : List Tok)
  | bad (k : Nat)
  | out
def LexR.cons (t : Tok) : LexR → LexR
  | .ok l => .ok (t :: l)
  | .bad k => .bad k
  | .out => .out
def LexR.pre (p : List Tok) : LexR → LexR
  | .ok l => .ok (p ++ l)
  | .bad k => .bad k
  | .out => .out
theorem LexR.pre_nil (r : LexR) : r.pre [] = r := by cases r <;> rfl
theorem LexR.pre_cons (p : List Tok) (t : Tok) (r : LexR) : (r.cons t).pre p = r.pre (p ++ [t]) := by cases r <;> simp [LexR.cons, LexR.pre]

def lexM (s : Bs) : Nat → Nat → Bool → LexR
  | 0, _, _ => .out
  | n + 1, i, line => match lexStep s i line with
    | .tok t j l => (lexM s n j l).cons t
    | .again j l => lexM s n j l
    | .stop => .ok []
    | .bad k => .bad k

theorem lexM_next (s : Bs) : ∀ n i line, lexM s n i line = match nextM s n i line with
    | .tok t j l m => (lexM s m j l).cons t
    | .stop => .ok []
    | .bad k => .bad k
    | .out => .out := by
  intro n
  induction n with
  | zero => intro i line; rfl
  | succ n ih =>
    intro i line
    rw [lexM, nextM]
    cases lexStep s i line with
    | tok t j l => rfl
    | again j l => exact ih j l
    | stop => rfl
    | bad k => rfl

/-! ### steps go on -/
theorem dateM_len {t : Bs} {d : Bs} {n : Nat} (h : dateM t = some (d, n)) : 2 ≤ n ∧ n ≤ t.length := by
  unfold dateM at h
  split at h
  · rename_i h1
    have := (List.isPrefixOf_iff_prefix.1 h1).length_le
    simp at h this
    omega
  · split at h
    · rename_i h2
      simp [dateForm] at h2
      split at h
      · simp at h; omega
      · simp at h
    · simp at h
theorem signsL_len {w : Bs} (h : w ∈ signsL) : 1 ≤ w.length ∧ w.length ≤ 6 := by
  have : signsL.all (fun w => decide (1 ≤ w.length) && decide (w.length ≤ 6)) = true := by decide
  have := List.all_eq_true.1 this w h
  simpa using this
theorem signM_len {s : Bs} {i : Nat} {w : Bs} (h : signM s i = some w) : w ∈ signsL ∧ i + w.length ≤ s.length ∧ Lib.toUpperA (sliceM s i (i + w.length)) = w := by
  have h1 := List.mem_of_find?_eq_some h
  have h2 := List.find?_some h
  simp [signHere] at h2
  exact ⟨h1, h2.1, h2.2⟩

theorem lineEnd_gt {s : Bs} {i : Nat} (h : i < s.length) (h10 : bAt s i ≠ 10) : i < lineEndM s i := by
  unfold lineEndM
  rw [runM_step h (by simpa using h10)]
  exact runM_ge _ _ _
theorem nextLine_ge (s : Bs) (i : Nat) : i ≤ nextLine s i := by
  unfold nextLine
  have := runM_ge s (fun b => b != 10) i
  change i ≤ lineEndM s i at this
  split <;> omega
theorem nextLine_le {s : Bs} {i : Nat} (h : i ≤ s.length) : nextLine s i ≤ s.length := by
  unfold nextLine
  have : lineEndM s i ≤ s.length := runM_le h
  split <;> omega

/-- where a step leads -/
def Goes1 (s : Bs) (i : Nat) (line : Bool) : St → Prop
  | .tok _ j l => i ≤ j ∧ j ≤ s.length ∧ 2 * (s.length - j) + l.toNat < 2 * (s.length - i) + line.toNat
  | .again j l => i < j ∧ j ≤ s.length ∧ 2 * (s.length - j) + l.toNat < 2 * (s.length - i) + line.toNat
  | .stop => i = s.length ∧ line = false
  | .bad k => k < s.length

theorem quoteM_goes {s : Bs} {i : Nat} {line : Bool} (h : i < s.length) : Goes1 s i line (quoteM s i) := by
  unfold quoteM
  have h1 := runM_ge s (fun b => b != 10 && b != bAt s i) (i + 1)
  simp only []
  split
  · rename_i h2
    split
    · rename_i h3
      show _ < s.length
      omega
    · refine ⟨by omega, by omega, ?_⟩
      simp only [Bool.toNat_true]
      omega
  · exact h
theorem tokenM_goes {s : Bs} {i : Nat} {line : Bool} (h : i < s.length) : Goes1 s i line (tokenM s i) := by
  unfold tokenM
  split
  · rename_i h1
    have h2 := runM_step (p := wordB) h (by simp [wordB, h1])
    have h3 := runM_ge s wordB (i + 1)
    have h4 := runM_le (p := wordB) (Nat.le_of_lt h)
    split
    · exact h
    · refine ⟨by omega, by omega, ?_⟩
      simp only [Bool.toNat_true]
      omega
  · split
    · rename_i h1
      have h2 := runM_step (p := cls 2) h h1
      have h3 := runM_ge s (cls 2) (i + 1)
      have h4 := runM_le (p := cls 2) (Nat.le_of_lt h)
      split
      · exact h
      · refine ⟨by omega, by omega, ?_⟩
        simp only [Bool.toNat_true]
        omega
    · split
      · exact quoteM_goes h
      · cases hd : dateM (s.drop i) with
        | some p =>
          obtain ⟨d, n⟩ := p
          have := dateM_len hd
          simp at this
          refine ⟨by omega, by omega, ?_⟩
          simp only [Bool.toNat_true]
          omega
        | none =>
          cases hs : signM s i with
          | none => exact h
          | some w =>
            obtain ⟨h1, h2, _⟩ := signM_len hs
            have := signsL_len h1
            refine ⟨by omega, by omega, ?_⟩
            simp only [Bool.toNat_true]
            omega
theorem comment_goes {s : Bs} {i k : Nat} (h : i ≤ s.length) (hc : commentM s i = some k) : k < s.length := by
  unfold commentM at hc
  have : lineEndM s i ≤ s.length := runM_le h
  split at hc
  · simp at hc; omega
  · simp at hc
theorem lexStep_goes (s : Bs) {i : Nat} (line : Bool) (h : i ≤ s.length) : Goes1 s i line (lexStep s i line) := by
  unfold lexStep
  split
  · have e : i = s.length := by omega
    cases line with
    | true => exact ⟨by omega, by omega, by simp⟩
    | false => exact ⟨e, rfl⟩
  · rename_i hi
    split
    · cases line with
      | true => exact ⟨by omega, by omega, by simp; omega⟩
      | false => exact ⟨by omega, by omega, by simp; omega⟩
    · rename_i h10
      split
      · exact ⟨by omega, by omega, by omega⟩
      · split
        · cases hc : commentM s i with
          | some k => exact comment_goes h hc
          | none =>
            have h1 := lineEnd_gt (by omega) h10
            have h2 : lineEndM s i ≤ s.length := runM_le h
            exact ⟨by omega, by omega, by omega⟩
        · split
          · have h1 : i + 1 ≤ skipM s (i + 1) := runM_ge _ _ _
            have h2 : skipM s (i + 1) ≤ s.length := runM_le (by omega)
            split
            · cases hc : commentM s (skipM s (i + 1)) with
              | some k => exact comment_goes h2 hc
              | none =>
                have h3 := nextLine_ge s (skipM s (i + 1))
                have h4 := nextLine_le h2
                exact ⟨by omega, by omega, by omega⟩
            · show _ < _; omega
          · exact tokenM_goes (by omega)

/-- so much fuel suffices -/
theorem nextM_fine (s : Bs) : ∀ n i line, i ≤ s.length → 2 * (s.length - i) + line.toNat < n → match nextM s n i line with
    | .tok _ j l m => j ≤ s.length ∧ 2 * (s.length - j) + l.toNat < m
    | .stop => True
    | .bad k => k < s.length
    | .out => False := by
  intro n
  induction n with
  | zero => intro i line _ h; omega
  | succ n ih =>
    intro i line hi hn
    have hg := lexStep_goes s line hi
    unfold nextM
    cases hs : lexStep s i line with
    | tok t j l => rw [hs] at hg; exact ⟨hg.2.1, by have := hg.2.2; omega⟩
    | again j l => rw [hs] at hg; exact ih j l hg.2.1 (by have := hg.2.2; omega)
    | stop => trivial
    | bad k => rw [hs] at hg; exact hg

end Go.Proofs.YtmcajbhljbbglaaGreatDoor

namespace Go.Proofs.YtmcajbhljbbglaaGreatDoor
open Go.RowKit

/-- v is a slice of n elements of so many cells each, which hold cs -/
def Cells (w : World) (v : Value) (size n : Nat) (cs : List Value) (ok : Nat → Prop) : Prop :=
  ∃ a cap, v = .slice a n cap ∧ n ≤ cap ∧ cap ≤ maxLen ∧ cs.length = n * size ∧ ∀ j u, cs[j]? = some u → ∃ g o, a = some ⟨g, o, none⟩ ∧ ok g ∧ w.cell? ⟨g, o + j, none⟩ = some u

def hdC (h : Hd) (pv lv : Value) : List Value := [.int .i64 h.op, str h.s, .int .i64 h.vk, .int .i64 h.vn, str h.vs, pv, lv]
/-- an expression as a value -/
abbrev exV (h : Hd) (pv lv : Value) : Value := .agg #[.int .i64 h.op, str h.s, .int .i64 h.vk, .int .i64 h.vn, str h.vs, pv, lv]

def RepF (ok : Nat → Prop) (w : World) : Fo → List Value → Prop
  | .nil, cs => cs = []
  | .cons h kids next, cs => ∃ pv lv kcs rest, cs = hdC h pv lv ++ rest ∧ Cells w pv 1 h.p.length (h.p.map str) ok ∧ Cells w lv 7 kids.len kcs ok ∧ RepF ok w kids kcs ∧ RepF ok w next rest

/-- v is a slice of the expressions f -/
def RepL (ok : Nat → Prop) (w : World) (v : Value) (f : Fo) : Prop := ∃ cs, Cells w v 7 f.len cs ok ∧ RepF ok w f cs

/-- v is the expression x -/
def VE (ok : Nat → Prop) (w : World) (v : Value) (x : Ex) : Prop := ∃ pa pc la lc, v = exV x.h (.slice pa x.h.p.length pc) (.slice la x.kids.len lc) ∧ Cells w (.slice pa x.h.p.length pc) 1 x.h.p.length (x.h.p.map str) ok ∧ RepL ok w (.slice la x.kids.len lc) x.kids

theorem Cells.gb {w w1 : World} {v : Value} {size n : Nat} {cs : List Value} {ok : Nat → Prop} {r : Option Nat} (h : Cells w v size n cs ok) (g : w.grownBy w1 r) (hk : ∀ k, ok k → k < w.heap.size → some k ≠ r) : Cells w1 v size n cs ok := by
  obtain ⟨a, cap, e, h1, h2, h3, h4⟩ := h
  refine ⟨a, cap, e, h1, h2, h3, fun j u hj => ?_⟩
  obtain ⟨gg, o, ea, ho, hc⟩ := h4 j u hj
  exact ⟨gg, o, ea, ho, gb_cell g hc (hk _ ho (World.block_lt_of_cell? w _ hc))⟩
theorem Cells.mono {w : World} {v : Value} {size n : Nat} {cs : List Value} {ok ok' : Nat → Prop} (h : Cells w v size n cs ok) (hk : ∀ k, ok k → k < w.heap.size → ok' k) : Cells w v size n cs ok' := by
  obtain ⟨a, cap, e, h1, h2, h3, h4⟩ := h
  refine ⟨a, cap, e, h1, h2, h3, fun j u hj => ?_⟩
  obtain ⟨gg, o, ea, ho, hc⟩ := h4 j u hj
  exact ⟨gg, o, ea, hk _ ho (World.block_lt_of_cell? w _ hc), hc⟩
theorem Cells.nil (w : World) (size : Nat) (ok : Nat → Prop) : Cells w (.slice none 0 0) size 0 [] ok := ⟨none, 0, rfl, Nat.le_refl _, Nat.zero_le _, by simp, fun j u h => by simp at h⟩
theorem RepF.gb {w w1 : World} {ok : Nat → Prop} {r : Option Nat} (g : w.grownBy w1 r) (hk : ∀ k, ok k → k < w.heap.size → some k ≠ r) : ∀ {f : Fo} {cs : List Value}, RepF ok w f cs → RepF ok w1 f cs := by
  intro f
  induction f with
  | nil => intro cs h; exact h
  | cons hd kids next ih1 ih2 =>
    rintro cs ⟨pv, lv, kcs, rest, e, h1, h2, h3, h4⟩
    exact ⟨pv, lv, kcs, rest, e, h1.gb g hk, h2.gb g hk, ih1 h3, ih2 h4⟩
theorem RepF.mono {w : World} {ok ok' : Nat → Prop} (hk : ∀ k, ok k → k < w.heap.size → ok' k) : ∀ {f : Fo} {cs : List Value}, RepF ok w f cs → RepF ok' w f cs := by
  intro f
  induction f with
  | nil => intro cs h; exact h
  | cons hd kids next ih1 ih2 =>
    rintro cs ⟨pv, lv, kcs, rest, e, h1, h2, h3, h4⟩
    exact ⟨pv, lv, kcs, rest, e, h1.mono hk, h2.mono hk, ih1 h3, ih2 h4⟩
theorem RepL.gb {w w1 : World} {v : Value} {ok : Nat → Prop} {r : Option Nat} {f : Fo} (h : RepL ok w v f) (g : w.grownBy w1 r) (hk : ∀ k, ok k → k < w.heap.size → some k ≠ r) : RepL ok w1 v f := by
  obtain ⟨cs, h1, h2⟩ := h
  exact ⟨cs, h1.gb g hk, h2.gb g hk⟩
theorem RepL.mono {w : World} {v : Value} {ok ok' : Nat → Prop} {f : Fo} (h : RepL ok w v f) (hk : ∀ k, ok k → k < w.heap.size → ok' k) : RepL ok' w v f := by
  obtain ⟨cs, h1, h2⟩ := h
  exact ⟨cs, h1.mono hk, h2.mono hk⟩
theorem RepL.nil (w : World) (ok : Nat → Prop) : RepL ok w (.slice none 0 0) .nil := ⟨[], Cells.nil w 7 ok, rfl⟩
theorem VE.gb {w w1 : World} {v : Value} {ok : Nat → Prop} {r : Option Nat} {x : Ex} (h : VE ok w v x) (g : w.grownBy w1 r) (hk : ∀ k, ok k → k < w.heap.size → some k ≠ r) : VE ok w1 v x := by
  obtain ⟨pa, pc, la, lc, e, h1, h2⟩ := h
  exact ⟨pa, pc, la, lc, e, h1.gb g hk, h2.gb g hk⟩
theorem VE.mono {w : World} {v : Value} {ok ok' : Nat → Prop} {x : Ex} (h : VE ok w v x) (hk : ∀ k, ok k → k < w.heap.size → ok' k) : VE ok' w v x := by
  obtain ⟨pa, pc, la, lc, e, h1, h2⟩ := h
  exact ⟨pa, pc, la, lc, e, h1.mono hk, h2.mono hk⟩
theorem RepF.len {ok : Nat → Prop} {w : World} : ∀ {f : Fo} {cs : List Value}, RepF ok w f cs → cs.length = f.len * 7 := by
  intro f
  induction f with
  | nil => intro cs h; subst h; rfl
  | cons hd kids next ih1 ih2 =>
    rintro cs ⟨pv, lv, kcs, rest, rfl, h1, h2, h3, h4⟩
    simp [hdC, Fo.len, ih2 h4]; omega
theorem RepF.app {ok : Nat → Prop} {w : World} : ∀ {f g : Fo} {cs ds : List Value}, RepF ok w f cs → RepF ok w g ds → RepF ok w (f.app g) (cs ++ ds) := by
  intro f
  induction f with
  | nil => intro g cs ds h k; subst h; exact k
  | cons hd kids next ih1 ih2 =>
    rintro g cs ds ⟨pv, lv, kcs, rest, rfl, h1, h2, h3, h4⟩ k
    exact ⟨pv, lv, kcs, rest ++ ds, by simp, h1, h2, h3, ih2 h4 k⟩
/-- one expression as a row -/
theorem VE.rep {ok : Nat → Prop} {w : World} {pv lv : Value} {x : Ex} (h1 : Cells w pv 1 x.h.p.length (x.h.p.map str) ok) (h2 : RepL ok w lv x.kids) : RepF ok w (.one x) (hdC x.h pv lv) := by
  obtain ⟨cs, h3, h4⟩ := h2
  exact ⟨pv, lv, cs, [], by simp, h1, h3, h4, rfl⟩

/-- what is new since a world in which there were B blocks -/
abbrev since (B : Nat) : Nat → Prop := fun g => B ≤ g

/-- a new block that holds just these cells, as a slice -/
theorem Cells.new (w : World) (cs : List Value) (t : TypeId) (size n : Nat) (h : cs.length = n * size) (hn : n ≤ maxLen) {B : Nat} (hB : B ≤ w.heap.size) :
    Cells (w.alloc (.cells cs.toArray t (0, 0))) (.slice (some ⟨w.heap.size, 0, none⟩) n n) size n cs (since B) := by
  refine ⟨_, _, rfl, Nat.le_refl _, hn, h, fun j u hj => ⟨w.heap.size, 0, rfl, hB, ?_⟩⟩
  rw [Nat.zero_add]
  exact (Blk.new w cs t).cell' j hj

/-! ### a slice of expressions that a call builds up -/
def OwnF (w : World) (B : Nat) (v : Value) (f : Fo) : Prop := ∃ cs, w.ownsRow B 29 7 v f.len cs ∧ RepF (fun g => B ≤ g ∧ v.ownBlock ≠ some g) w f cs

theorem ownsRow_gb {w w1 : World} {B e size n : Nat} {v : Value} {xs : List Value} {r : Option Nat} (h : w.ownsRow B e size v n xs) (g : w.grownBy w1 r) (hk : ∀ k, B ≤ k → k < w.heap.size → some k ≠ r) : w1.ownsRow B e size v n xs := by
  refine h.kept g ?_
  cases hv : v.ownBlock with
  | none => exact .inl rfl
  | some k => exact .inr (hk k (h.lt k hv).1 (h.lt k hv).2)
theorem OwnF.gb {w w1 : World} {B : Nat} {v : Value} {f : Fo} {r : Option Nat} (h : OwnF w B v f) (g : w.grownBy w1 r) (hk : ∀ k, B ≤ k → k < w.heap.size → some k ≠ r) : OwnF w1 B v f := by
  obtain ⟨cs, h1, h2⟩ := h
  exact ⟨cs, ownsRow_gb h1 g hk, h2.gb g fun k hk1 hk2 => hk k hk1.1 hk2⟩
theorem ownsRow_cells {w : World} {B e size n : Nat} {v : Value} {xs : List Value} (h : w.ownsRow B e size v n xs) : Cells w v size n xs (since B) := by
  rcases h.2 with ⟨rfl, rfl⟩ | ⟨g, cap, cur, rfl, hb, hg, hnc, hcm, hcs, htake⟩
  · exact ⟨none, 0, rfl, Nat.le_refl _, Nat.zero_le _, h.1, fun j u hj => by
      have : xs = [] := List.eq_nil_of_length_eq_zero (by simpa using h.1)
      subst this; simp at hj⟩
  · refine ⟨_, _, rfl, hnc, hcm, h.1, fun j u hj => ⟨g, 0, rfl, hb, ?_⟩⟩
    have := h.cells (g := g) rfl j u hj
    rw [Nat.zero_add]
    unfold Addr.add at this
    split at this
    · rename_i h0; subst h0; exact this
    · simpa using this
theorem OwnF.rep {w : World} {B : Nat} {v : Value} {f : Fo} (h : OwnF w B v f) : RepL (since B) w v f := by
  obtain ⟨cs, h1, h2⟩ := h
  exact ⟨cs, ownsRow_cells h1, h2.mono fun k hk _ => hk.1⟩

/-! ### a whole expression is stored into a block -/
abbrev set7 (w : World) (k : Nat) (v0 v1 v2 v3 v4 v5 v6 : Value) : World :=
  ((((((w.setCell ⟨k, 0, none⟩ v0).setCell ⟨k, 1, none⟩ v1).setCell ⟨k, 2, none⟩ v2).setCell ⟨k, 3, none⟩ v3).setCell ⟨k, 4, none⟩ v4).setCell ⟨k, 5, none⟩ v5).setCell ⟨k, 6, none⟩ v6
theorem Blk.set7 {w : World} {k : Nat} {a0 a1 a2 a3 a4 a5 a6 : Value} {t : TypeId} (h : Blk w k [a0, a1, a2, a3, a4, a5, a6] t) (v0 v1 v2 v3 v4 v5 v6 : Value) : Blk (set7 w k v0 v1 v2 v3 v4 v5 v6) k [v0, v1, v2, v3, v4, v5, v6] t :=
  (((((((h.set 0 v0).set 1 v1).set 2 v2).set 3 v3).set 4 v4).set 5 v5).set 6 v6).of_eq rfl rfl
theorem gb_set1 {w w1 : World} {k : Nat} (h : w.grownBy w1 (some k)) (i : Nat) (v : Value) : w.grownBy (w1.setCell ⟨k, i, none⟩ v) (some k) := gb_set h ⟨k, i, none⟩ v (.inl rfl)
theorem gb_set7 (w : World) (k : Nat) (v0 v1 v2 v3 v4 v5 v6 : Value) : w.grownBy (set7 w k v0 v1 v2 v3 v4 v5 v6) (some k) := by
  have h0 := gb_set1 (gb_refl w (some k)) 0 v0
  have h1 := gb_set1 h0 1 v1
  have h2 := gb_set1 h1 2 v2
  have h3 := gb_set1 h2 3 v3
  have h4 := gb_set1 h3 4 v4
  have h5 := gb_set1 h4 5 v5
  exact gb_set1 h5 6 v6

theorem ex_struct : (match (Tryz.prog.underlying 29) with | some (.struct _) => true | _ => false) = true := by kernel_rfl
/-- the result of a function whose result variable is a block that holds an expression -/
theorem results_ex {fn : Func} {p : Tmp} (h : fn.results = #[.cell p 29]) (tmps : Array Value) {w : World} {k : Nat} {hd : Hd} {pv lv : Value} (hb : Blk w k (hdC hd pv lv) 29) (hp : tmps.getD p undef = .pointer (some ⟨k, 0, none⟩)) :
    (results fn tmps).run Tryz.prog w = .ok (exV hd pv lv) w := by
  have hs := ex_struct
  cases hu : Tryz.prog.underlying 29 with
  | none => rw [hu] at hs; cases hs
  | some d =>
    rw [hu] at hs
    exact results_cell_row h tmps w k 29 (hdC hd pv lv).toArray (0, 0) d hp hb hu (by cases d <;> simp_all) (by show (Tryz.prog.info? 29).map (·.size) = some 7; kernel_rfl)

end Go.Proofs.YtmcajbhljbbglaaGreatDoor

namespace Go.Proofs.YtmcajbhljbbglaaGreatDoor
open Go.RowKit

/-- the classes of the first k bytes, then zeros -/
def classRow (k : Nat) : List Value := (List.range 256).map fun j => .int .u8 (if j < k then classM j else 0)
theorem classRow_at (k j : Nat) (hj : j < 256) : (classRow k)[j]? = some (.int .u8 (if j < k then classM j else 0)) := by simp [classRow, hj]
theorem classRow_len (k : Nat) : (classRow k).length = 256 := by simp [classRow]

/-- the scanner's cells -/
def scRow (s : Bs) (i : Int) (line begun : Bool) (bad : Int) : List Value := str s :: .int .i64 i :: (classRow 256 ++ [.bool line, .bool begun, .int .i64 bad])
theorem scRow_class (s : Bs) (i : Int) (line begun : Bool) (bad : Int) (j : Nat) (hj : j < 256) : (scRow s i line begun bad)[2 + j]? = some (.int .u8 (classM j)) := by
  rw [show 2 + j = j + 1 + 1 by omega]
  simp only [scRow, List.getElem?_cons_succ]
  rw [List.getElem?_append_left (by rw [classRow_len]; exact hj), classRow_at _ _ hj]
  simp [hj]
theorem scRow_hi (s : Bs) (i : Int) (line begun : Bool) (bad : Int) (j : Nat) : (scRow s i line begun bad)[258 + j]? = [.bool line, .bool begun, .int .i64 bad][j]? := by
  rw [show 258 + j = 256 + j + 1 + 1 by omega]
  simp only [scRow, List.getElem?_cons_succ]
  rw [List.getElem?_append_right (by rw [classRow_len]; omega), classRow_len, show 256 + j - 256 = j by omega]
theorem scRow_set1 (s : Bs) (i j : Int) (line begun : Bool) (bad : Int) : (scRow s i line begun bad).set 1 (.int .i64 j) = scRow s j line begun bad := rfl
theorem scRow_setHi (s : Bs) (i : Int) (line begun : Bool) (bad : Int) (j : Nat) (v : Value) : (scRow s i line begun bad).set (258 + j) v = str s :: .int .i64 i :: (classRow 256 ++ [.bool line, .bool begun, .int .i64 bad].set j v) := by
  rw [show 258 + j = 256 + j + 1 + 1 by omega]
  simp only [scRow, List.set_cons_succ]
  rw [List.set_append_right _ _ (by rw [classRow_len]; omega), classRow_len, show 256 + j - 256 = j by omega]

/-- the scanner in block b -/
structure Sc (w : World) (b : Nat) (s : Bs) (i : Nat) (line begun : Bool) (bad : Int) : Prop where
  blk : Blk w b (scRow s i line begun bad) 86
  le : i ≤ s.length
  few : s.length ≤ 4000
section
variable {w w1 : World} {b : Nat} {s : Bs} {i : Nat} {line begun : Bool} {bad : Int}
theorem Sc.lt (h : Sc w b s i line begun bad) : b < w.heap.size := h.blk.lt
theorem Sc.c0 (h : Sc w b s i line begun bad) : w.cell? ⟨b, 0, none⟩ = some (str s) := h.blk.cell 0
theorem Sc.c1 (h : Sc w b s i line begun bad) : w.cell? ⟨b, 1, none⟩ = some (.int .i64 i) := h.blk.cell 1
theorem Sc.cls (h : Sc w b s i line begun bad) (x : UInt8) : w.cell? ⟨b, 2 + x.toNat, none⟩ = some (.int .u8 (classM x.toNat)) := (h.blk.cell _).trans (scRow_class _ _ _ _ _ _ x.toNat_lt)
theorem Sc.c258 (h : Sc w b s i line begun bad) : w.cell? ⟨b, 258, none⟩ = some (.bool line) := (h.blk.cell _).trans (scRow_hi _ _ _ _ _ 0)
theorem Sc.c259 (h : Sc w b s i line begun bad) : w.cell? ⟨b, 259, none⟩ = some (.bool begun) := (h.blk.cell _).trans (scRow_hi _ _ _ _ _ 1)
theorem Sc.c260 (h : Sc w b s i line begun bad) : w.cell? ⟨b, 260, none⟩ = some (.int .i64 bad) := (h.blk.cell _).trans (scRow_hi _ _ _ _ _ 2)
theorem Sc.fr (h : Sc w b s i line begun bad) (k : Nat) : w.frozen? ⟨b, k, none⟩ = false := h.blk.frozen k
theorem Sc.gb {r : Option Nat} (h : Sc w b s i line begun bad) (g : w.grownBy w1 r) (hr : some b ≠ r) : Sc w1 b s i line begun bad := ⟨h.blk.gb g hr, h.le, h.few⟩
theorem Sc.gbN (h : Sc w b s i line begun bad) (g : w.grownBy w1 none) : Sc w1 b s i line begun bad := h.gb g (by simp)
theorem Sc.alloc (h : Sc w b s i line begun bad) (o : Obj) : Sc (w.alloc o) b s i line begun bad := h.gbN (World.grownBy_alloc w o none)
theorem Sc.drewN (h : Sc w b s i line begun bad) (n : Nat) : Sc (w.drewN n) b s i line begun bad := h.gbN (gb_drewN (gb_refl w none) n)
theorem Sc.go (h : Sc w b s i line begun bad) (z : Int) (j : Nat) (hz : z = j) (hj : j ≤ s.length) : Sc (w.setCell ⟨b, 1, none⟩ (.int .i64 z)) b s j line begun bad := by
  subst hz; exact ⟨(h.blk.set 1 _).of_eq rfl (scRow_set1 _ _ _ _ _ _), hj, h.few⟩
theorem Sc.at_eq {j : Nat} (h : Sc w b s i line begun bad) (e : i = j) : Sc w b s j line begun bad := e ▸ h
theorem Sc.setLine (h : Sc w b s i line begun bad) (l : Bool) : Sc (w.setCell ⟨b, 258, none⟩ (.bool l)) b s i l begun bad := ⟨(h.blk.set 258 _).of_eq rfl (scRow_setHi _ _ _ _ _ 0 _), h.le, h.few⟩
theorem Sc.setBegun (h : Sc w b s i line begun bad) (l : Bool) : Sc (w.setCell ⟨b, 259, none⟩ (.bool l)) b s i line l bad := ⟨(h.blk.set 259 _).of_eq rfl (scRow_setHi _ _ _ _ _ 1 _), h.le, h.few⟩
theorem Sc.setBad (h : Sc w b s i line begun bad) (k : Int) : Sc (w.setCell ⟨b, 260, none⟩ (.int .i64 k)) b s i line begun k := ⟨(h.blk.set 260 _).of_eq rfl (scRow_setHi _ _ _ _ _ 2 _), h.le, h.few⟩
theorem Sc.set_other (h : Sc w b s i line begun bad) (a : Addr) (v : Value) (hne : b ≠ a.block) : Sc (w.setCell a v) b s i line begun bad := ⟨h.blk.set_other a v hne, h.le, h.few⟩
end

/-- the byte behind an index of the walk's -/
theorem ba_at (s : Bs) (k : Nat) (h : k < (⟨s.toArray⟩ : ByteArray).size) (h2 : k < s.length) : (⟨s.toArray⟩ : ByteArray)[k]'h = bAt s k := by rw [bAt_eq h2]; rfl
theorem cls_lt (x : UInt8) : x.toNat < 256 := x.toNat_lt

set_option maxHeartbeats 800000 in
theorem is_any {w : World} {b : Nat} {s : Bs} {i : Nat} {line begun : Bool} {bad : Int} (h : Sc w b s i line begun bad) (k : Nat) (c : Int) :
    Calls Tryz.prog 156 #[.pointer (some ⟨b, 0, none⟩), .int .i64 k, .int .u8 c] w fun e w' => e = .returned (.bool (decide (k < s.length) && (classM (bAt s k).toNat == c))) ∧ w.grownBy w' none := by
  have c0 := h.c0
  have hb := h.lt
  have hf := h.few
  by_cases hk : k < s.length
  · have cc := h.cls (bAt s k)
    have hg := fun h => ba_at s k h hk
    have hx := cls_lt (bAt s k)
    generalize bAt s k = x at *
    have hk1 : decide ((k : Int) < s.length) = true := by simp; omega
    generalize hn : s.length = n at *
    clear h
    go_enter Tryz.func156, Tryz.ntmps156
    go_wp2
    go_quiet (fail)
    go_wp2
    go_ret
    exact ⟨by simp [hk], (by repeat (first | (with_reducible exact gb_refl _ _) | (with_reducible assumption) | (with_reducible exact gb_none (by assumption)) | (with_reducible refine gb_alloc ?_ _) | (with_reducible refine gb_drew ?_) | (with_reducible refine gb_drewN ?_ _) | ((with_reducible refine gb_set ?_ _ _ ?h2); case h2 => first | exact .inl rfl | exact .inr (Nat.le_refl _) | exact .inr (by simp <;> omega)) | (with_reducible refine gb_sub ?_ (by assumption)) | (with_reducible refine gb_trans ?_ (by assumption))))⟩
  · have hk1 : decide ((k : Int) < s.length) = false := by simp; omega
    generalize hn : s.length = n at *
    clear h
    go_enter Tryz.func156, Tryz.ntmps156
    go_wp2
    go_quiet (fail)
    go_wp2
    go_ret
    exact ⟨by simp [hk], (by repeat (first | (with_reducible exact gb_refl _ _) | (with_reducible assumption) | (with_reducible exact gb_none (by assumption)) | (with_reducible refine gb_alloc ?_ _) | (with_reducible refine gb_drew ?_) | (with_reducible refine gb_drewN ?_ _) | ((with_reducible refine gb_set ?_ _ _ ?h2); case h2 => first | exact .inl rfl | exact .inr (Nat.le_refl _) | exact .inr (by simp <;> omega)) | (with_reducible refine gb_sub ?_ (by assumption)) | (with_reducible refine gb_trans ?_ (by assumption))))⟩

/-- 'is' at a class of bytes -/
theorem is_cls {w : World} {b : Nat} {s : Bs} {i : Nat} {line begun : Bool} {bad : Int} (h : Sc w b s i line begun bad) (k : Nat) (c : Int) {r : Bool} (hr : (decide (k < s.length) && cls c (bAt s k)) = r) :
    Calls Tryz.prog 156 #[.pointer (some ⟨b, 0, none⟩), .int .i64 k, .int .u8 c] w fun e w' => e = .returned (.bool r) ∧ w.grownBy w' none := by
  subst hr; exact is_any h k c

set_option maxHeartbeats 800000 in
theorem skip_any {w : World} {b : Nat} {s : Bs} {i : Nat} {line begun : Bool} {bad : Int} (h : Sc w b s i line begun bad) :
    Calls Tryz.prog 109 #[.pointer (some ⟨b, 0, none⟩)] w fun e w' => e = .returned (.tuple #[]) ∧ Sc w' b s (skipM s i) line begun bad ∧ w.grownBy w' (some b) := by
  go_enter Tryz.func109, Tryz.ntmps109
  go_wp2_with fail
  have hi := h.le
  go_loopg [] (s.length - i) (fun g wr => ∃ k : Nat, k + g = s.length ∧ Sc wr b s k line begun bad ∧ skipM s k = skipM s i ∧ w.grownBy wr (some b))
  case atStart => exact ⟨i, by omega, h, rfl, gb_refl _ _⟩
  case round =>
    obtain ⟨k, hk, hs, hq, g⟩ := hrel
    have HQ := Lib.hid hq
    clear hq h hi
    have hc1 := hs.c1
    have hb := hs.lt
    cases hc : (decide (k < s.length) && cls 3 (bAt s k)) with
    | true =>
      simp only [Bool.and_eq_true, decide_eq_true_eq] at hc
      cases gk with
      | zero => omega
      | succ gk =>
      have HC := Lib.hid hc.2
      have hkl := hc.1
      clear hc
      go_wp2_with fail
      refine (is_cls hs k 3 (r := true) (by simp [hkl, HC.out])).mono ?_
      rintro e w1 ⟨rfl, g1⟩
      have hs1 := hs.gbN g1
      have c1 := hs1.c1
      have f1 := hs1.fr 1
      have hf := hs.few
      go_wp2
      go_roundg gk
      case measure => omega
      case rel => exact ⟨k + 1, by omega, hs1.go _ (k + 1) (by omega) (by omega), by rw [← HQ.out]; exact (runM_step hkl HC.out).symm, gb_set (gb_sub g g1) _ _ (.inl rfl)⟩
    | false =>
      have HC := Lib.hid hc
      go_wp2_with fail
      refine (is_cls hs k 3 (r := false) HC.out).mono ?_
      rintro e w1 ⟨rfl, g1⟩
      have hs1 := hs.gbN g1
      have hk2 : skipM s k = k := by
        have h2 := HC.out
        by_cases hkl : k < s.length
        · exact runM_stop hkl (by simpa [hkl] using h2)
        · exact runM_end (by omega)
      have HK := Lib.hid (hk2.symm.trans HQ.out)
      clear hk2
      go_wp2
      go_end0
      exact ⟨rfl, hs1.at_eq HK.out, gb_sub g g1⟩

/-! ### strings -/
theorem ba_extract (s : Bs) (i j : Nat) : (⟨s.toArray⟩ : ByteArray).extract i j = ⟨((s.drop i).take (j - i)).toArray⟩ := by
  apply ByteArray.ext
  apply Array.ext'
  rw [Lib.extract_data]
theorem ba_tail (s : Bs) (i : Nat) : (⟨s.toArray⟩ : ByteArray).extract i s.length = ⟨(s.drop i).toArray⟩ := by
  rw [ba_extract, List.take_of_length_le (by simp)]
theorem idx_run (s : Bs) (c : UInt8) (k : Nat) : Lib.indexByte (s.drop k) c = if runM s (fun b => b != c) k < s.length then ((runM s (fun b => b != c) k - k : Nat) : Int) else -1 := by
  induction hn : s.length - k generalizing k with
  | zero => rw [runM_end (by omega), List.drop_eq_nil_of_le (by omega), if_neg (by omega)]; rfl
  | succ n ih =>
    have hk : k < s.length := by omega
    rw [drop_cons hk, Lib.indexByte]
    cases hc : (bAt s k == c) with
    | true =>
      rw [runM_stop hk (by simpa using hc)]
      simp [hk]
    | false =>
      rw [runM_step hk (by simpa using hc), ih (k + 1) (by omega)]
      have h1 := runM_ge s (fun b => b != c) (k + 1)
      by_cases h2 : runM s (fun b => b != c) (k + 1) < s.length
      · simp only [if_pos h2]
        simp only [Bool.false_eq_true, if_false]
        rw [if_neg (by simp; try omega)]
        omega
      · simp [h2]

set_option maxHeartbeats 800000 in
theorem lineEnd_any {w : World} {b : Nat} {s : Bs} {i : Nat} {line begun : Bool} {bad : Int} (h : Sc w b s i line begun bad) (k : Nat) (hk : k ≤ s.length) :
    Calls Tryz.prog 158 #[.pointer (some ⟨b, 0, none⟩), .int .i64 k] w fun e w' => e = .returned (.int .i64 (lineEndM s k)) ∧ w = w' := by
  have c0 := h.c0
  have hb := h.lt
  have hf := h.few
  have H0 := idx_run s 10 k
  have hr := runM_ge s (fun b => b != 10) k
  have hr2 := runM_le (p := fun b => b != 10) hk
  have hkI : decide ((k : Int) ≤ s.length) = true := by simp; omega
  rw [show runM s (fun b => b != 10) k = lineEndM s k from rfl] at *
  by_cases hl : lineEndM s k < s.length
  · rw [if_pos hl] at H0
    obtain ⟨d, hd⟩ : ∃ d, lineEndM s k = k + d := ⟨lineEndM s k - k, by omega⟩
    rw [hd] at H0 ⊢
    rw [show k + d - k = d by omega] at H0
    rw [hd] at hl hr2
    have H := Lib.hid H0
    clear H0 hd
    go_enter Tryz.func158, Tryz.ntmps158
    go_wp2_with fail
    refine (Tryz.strings_IndexByte _ _ _).mono ?_
    rintro e w1 ⟨rfl, rfl⟩
    rw [ba_tail]
    rw [show Lib.indexByte (ByteArray.mk (List.drop k s).toArray).data.toList ((10 : Int).toNat.toUInt8) = _ from H.out]
    go_wp2
    go_ret
    exact ⟨by simp, rfl⟩
  · have he : lineEndM s k = s.length := by omega
    rw [if_neg hl] at H0
    rw [he]
    have H := Lib.hid H0
    clear H0 he
    go_enter Tryz.func158, Tryz.ntmps158
    go_wp2_with fail
    refine (Tryz.strings_IndexByte _ _ _).mono ?_
    rintro e w1 ⟨rfl, rfl⟩
    rw [ba_tail]
    rw [show Lib.indexByte (ByteArray.mk (List.drop k s).toArray).data.toList ((10 : Int).toNat.toUInt8) = _ from H.out]
    go_wp2
    go_ret
    exact ⟨rfl, rfl⟩

def CommentPost (w : World) (b : Nat) (s : Bs) (i : Nat) (line begun : Bool) (bad : Int) (e : Ending) (w' : World) : Prop := w.grownBy w' (some b) ∧ match commentM s i with
      | some k => e = .returned (.bool false) ∧ ∃ j, Sc w' b s j line begun k
      | none => e = .returned (.bool true) ∧ Sc w' b s (lineEndM s i) line begun bad

set_option maxHeartbeats 1600000 in
theorem comment_any {w : World} {b : Nat} {s : Bs} {i : Nat} {line begun : Bool} {bad : Int} (h : Sc w b s i line begun bad) :
    Calls Tryz.prog 112 #[.pointer (some ⟨b, 0, none⟩)] w (CommentPost w b s i line begun bad) := by
  have hi := h.le
  have c1 := h.c1
  have hle : lineEndM s i ≤ s.length := runM_le hi
  have hge : i ≤ lineEndM s i := runM_ge _ _ _
  go_enter Tryz.func112, Tryz.ntmps112
  go_wp2_with fail
  refine (lineEnd_any h i hi).mono ?_
  rintro e w1 ⟨rfl, rfl⟩
  go_wp2_with fail
  go_loopg [] (lineEndM s i - i) (fun g wr => ∃ k : Nat, k + g = lineEndM s i ∧ i ≤ k ∧ Sc wr b s k line begun bad ∧ cleanM s k = cleanM s i ∧ w.grownBy wr (some b))
  case atStart => exact ⟨i, by omega, Nat.le_refl _, h, rfl, gb_refl _ _⟩
  case round =>
    obtain ⟨k, hk, hik, hs, hq, g⟩ := hrel
    have HQ := Lib.hid hq
    have HL := Lib.hid hle
    clear hq h hi c1 hle
    have c1 := hs.c1
    have hf := hs.few
    have hb := hs.lt
    cases gk with
    | zero =>
      have HM := Lib.hid (show commentM s i = none by unfold commentM; rw [if_neg (by have h1 := clean_le s i; have h2 := runM_ge s (fun b => b != 10 && !cls 4 b) k; change k ≤ cleanM s k at h2; rw [HQ.out] at h2; omega)])
      have hs' := hs.at_eq (show k = lineEndM s i by omega)
      have hkI : (k : Int) = lineEndM s i := by omega
      have hkI2 : decide (k < lineEndM s i) = false := by simp; omega
      clear hk hkI
      go_wp2
      go_ret
      exact ⟨g, by rw [HM.out]; exact ⟨rfl, hs'⟩⟩
    | succ gk =>
      have hlt : k < lineEndM s i := by omega
      have h10 := runM_all hik hlt
      have HT := Lib.hid h10
      have hkl := h10.1
      have hltI : decide ((k : Int) < lineEndM s i) = true := by simp; omega
      clear h10
      cases hc : cls 4 (bAt s k) with
      | true =>
        have HC := Lib.hid hc
        have HM := Lib.hid (show commentM s i = some k by
          have h2 : cleanM s k = k := runM_stop hkl (by simp [HC.out])
          rw [HQ.out] at h2
          unfold commentM; rw [h2, if_pos hlt])
        clear hc
        go_wp2_with fail
        refine (is_cls hs k 4 (r := true) (by simp [hkl, HC.out])).mono ?_
        rintro e w1 ⟨rfl, g1⟩
        have hs1 := hs.gbN g1
        have d1 := hs1.c1
        have f1 := hs1.fr 260
        have c260 := hs1.c260
        go_wp2
        go_ret
        exact ⟨gb_set (gb_sub g g1) _ _ (.inl rfl), by rw [HM.out]; exact ⟨rfl, k, hs1.setBad k⟩⟩
      | false =>
        have HC := Lib.hid hc
        clear hc
        go_wp2_with fail
        refine (is_cls hs k 4 (r := false) (by simp [hkl, HC.out])).mono ?_
        rintro e w1 ⟨rfl, g1⟩
        have hs1 := hs.gbN g1
        have d1 := hs1.c1
        have f1 := hs1.fr 1
        go_wp2
        go_roundg gk
        case measure => omega
        case rel => exact ⟨k + 1, by omega, by omega, hs1.go _ (k + 1) (by omega) (by omega), by rw [← HQ.out]; exact (runM_step hkl (by simp [HC.out]; simpa using HT.out.2)).symm, gb_set (gb_sub g g1) _ _ (.inl rfl)⟩

end Go.Proofs.YtmcajbhljbbglaaGreatDoor
