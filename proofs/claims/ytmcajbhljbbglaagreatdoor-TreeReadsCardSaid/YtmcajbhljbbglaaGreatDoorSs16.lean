/-
  A reading's expression has no more nodes than the tokens read.
  tree.ParseExpr.
  Contracts of the statement parser: target, isEnding.
-/
import Derived.Test.YtmcajbhljbbglaaGreatDoorSs15
set_option linter.all false
set_option linter.unusedVariables false
set_option linter.unusedSimpArgs false
set_option linter.unnecessarySimpa false
set_option linter.constructorNameAsVariable false
set_option linter.deprecated false

namespace Go.Proofs.YtmcajbhljbbglaaGreatDoor

def Big {α : Type} (m : α → Nat) (i : Nat) : Res α → Prop
  | .ok a j => m a + i ≤ j
  | _ => True

theorem Big.bind {α β : Type} {m : α → Nat} {m' : β → Nat} {i i' : Nat} {r : Res α} {f : α → Nat → Res β} (h : Big m i' r) (hf : ∀ a j, m a + i' ≤ j → Big m' i (f a j)) : Big m' i (r.bind f) := by
  cases r with
  | ok a j => exact hf a j h
  | bad k => trivial
  | out => trivial

theorem Fo.nodes_app (f g : Fo) : (f.app g).nodes = f.nodes + g.nodes := by
  induction f with
  | nil => simp [Fo.app, Fo.nodes]
  | cons h k n _ ih => simp [Fo.app, Fo.nodes, ih]; omega
theorem Fo.nodes_snoc (f : Fo) (x : Ex) : (f.snoc x).nodes = f.nodes + x.nodes := by simp [Fo.snoc, Fo.nodes_app, Ex.fo, Fo.nodes, Ex.nodes]
theorem Fo.nodes_one (x : Ex) : (Fo.one x).nodes = x.nodes := by simp [Fo.one, Ex.fo, Fo.nodes, Ex.nodes]
theorem Fo.nodes_two (x y : Ex) : (Fo.two x y).nodes = x.nodes + y.nodes := by simp [Fo.two, Ex.fo, Fo.nodes, Ex.nodes]

abbrev one1 {α : Type} : α → Nat := fun _ => 1

section
variable {l : List Tok} {i : Nat}
theorem want_big (s : Bs) (q : Nat) : Big one1 q (wantM l s q) := by
  unfold wantM; split
  · show 1 + q ≤ q + 1; omega
  · trivial
theorem end_big (q : Nat) : Big one1 q (endM l q) := by
  unfold endM; split
  · show 1 + q ≤ q + 1; omega
  · trivial
theorem name_big (q : Nat) : Big one1 q (nameM l q) := by
  unfold nameM; split
  · show 1 + q ≤ q + 1; omega
  · trivial

theorem joinLoop_big {k : Nat} {opnd : Nat → Res Ex} (h : ∀ q, Big Ex.nodes q (opnd q)) : ∀ n x j, x.nodes + i ≤ j → Big Ex.nodes i (joinLoop l k opnd n x j) := by
  intro n
  induction n with
  | zero => intro x j _; trivial
  | succ n ih =>
    intro x j h1
    unfold joinLoop
    split
    · exact h1
    · refine Big.bind (h _) fun y q hq => ih _ _ ?_
      simp only [binE, Ex.nodes, Fo.nodes_two] at hq h1 ⊢; omega
theorem joinM_big {k n : Nat} {opnd : Nat → Res Ex} (h : ∀ q, Big Ex.nodes q (opnd q)) (q : Nat) : Big Ex.nodes q (joinM l k n opnd q) :=
  Big.bind (h q) fun x j hj => joinLoop_big h n x j hj
theorem powM_big {un : Nat → Res Ex} (h : ∀ q, Big Ex.nodes q (un q)) : ∀ n q, Big Ex.nodes q (powM l un n q) := by
  intro n
  induction n with
  | zero => intro q; trivial
  | succ n ih =>
    intro q
    unfold powM
    refine Big.bind (h q) fun x j hj => ?_
    split
    · exact hj
    · refine Big.bind (ih _) fun y k hk => ?_
      simp only [Big, binE, Ex.nodes, Fo.nodes_two] at hj hk ⊢; omega
theorem notM_big {sum : Nat → Res Ex} (h : ∀ q, Big Ex.nodes q (sum q)) : ∀ n q, Big Ex.nodes q (notM l sum n q) := by
  intro n
  induction n with
  | zero => intro q; trivial
  | succ n ih =>
    intro q
    unfold notM
    split
    · refine Big.bind (ih _) fun y k hk => ?_
      simp only [Big, unE, Ex.nodes, Fo.nodes_one] at hk ⊢; omega
    · refine Big.bind (h q) fun x j hj => ?_
      split
      · exact hj
      · refine Big.bind (h _) fun y k hk => ?_
        simp only [Big, binE, Ex.nodes, Fo.nodes_two] at hj hk ⊢; omega
theorem idxLoop_big {E : Nat → Res Ex} (h : ∀ q, Big Ex.nodes q (E q)) : ∀ n x j, x.nodes + i ≤ j → Big Ex.nodes i (idxLoop l E n x j) := by
  intro n
  induction n with
  | zero => intro x j _; trivial
  | succ n ih =>
    intro x j h1
    unfold idxLoop
    split
    · refine Big.bind (h _) fun y q hq => Big.bind (want_big _ _) fun _ k hk => ih _ _ ?_
      simp only [one1, indexE, Ex.nodes, Fo.nodes_two] at hq hk h1 ⊢; omega
    · exact h1
theorem unaryM_big {E prim : Nat → Res Ex} (hE : ∀ q, Big Ex.nodes q (E q)) (hP : ∀ q, Big Ex.nodes q (prim q)) : ∀ n q, Big Ex.nodes q (unaryM l E prim n q) := by
  intro n
  induction n with
  | zero => intro q; trivial
  | succ n ih =>
    intro q
    unfold unaryM
    split
    · refine Big.bind (ih _) fun y k hk => ?_
      simp only [Big, unE, Ex.nodes, Fo.nodes_one] at hk ⊢; omega
    · exact Big.bind (hP q) fun x j hj => idxLoop_big hE n x j hj
theorem listLoop_big {E : Nat → Res Ex} (h : ∀ q, Big Ex.nodes q (E q)) : ∀ n f j, f.nodes + i ≤ j → Big Fo.nodes i (listLoop l E n f j) := by
  intro n
  induction n with
  | zero => intro x j _; trivial
  | succ n ih =>
    intro x j h1
    unfold listLoop
    split
    · refine Big.bind (h _) fun y q hq => ih _ _ ?_
      rw [Fo.nodes_snoc]; omega
    · exact h1
theorem listM_big {E : Nat → Res Ex} {n : Nat} (h : ∀ q, Big Ex.nodes q (E q)) (q : Nat) : Big Fo.nodes q (listM l E n q) :=
  Big.bind (h q) fun x j hj => listLoop_big h n _ j (by rw [Fo.nodes_one]; exact hj)
theorem namesLoop_big : ∀ n f j, 1 + i ≤ j → Big one1 i (namesLoop l n f j) := by
  intro n
  induction n with
  | zero => intro x j _; trivial
  | succ n ih =>
    intro x j h1
    unfold namesLoop
    split
    · exact Big.bind (name_big _) fun y q hq => ih _ _ (by simp only [one1] at hq; omega)
    · exact h1
theorem namesM_big {n : Nat} (q : Nat) : Big one1 q (namesM l n q) :=
  Big.bind (name_big _) fun x j hj => namesLoop_big n _ j hj

theorem callM_big {E : Nat → Res Ex} {n : Nat} (hE : ∀ q, Big Ex.nodes q (E q)) (q : Nat) : Big Ex.nodes q (callM l E n q) := by
  unfold callM
  refine Big.bind (name_big _) fun s j hj => Big.bind (want_big _ _) fun _ k hk => ?_
  split
  · simp only [Big, one1, Ex.nodes, Fo.nodes] at hj hk ⊢; omega
  · refine Big.bind (listM_big hE _) fun f p hp => Big.bind (want_big _ _) fun _ r hr => ?_
    simp only [Big, one1, Ex.nodes, Fo.nodes] at hj hk hp hr ⊢; omega
theorem macroM_big {E : Nat → Res Ex} (hE : ∀ q, Big Ex.nodes q (E q)) (q : Nat) : Big Ex.nodes q (macroM l E q) := by
  unfold macroM
  refine Big.bind (want_big _ _) fun s j hj => ?_
  split
  · refine Big.bind (hE _) fun f p hp => Big.bind (want_big _ _) fun _ k hk => ?_
    simp only [Big, one1, Ex.nodes, Fo.nodes_one] at hj hk hp ⊢; omega
  · refine Big.bind (name_big _) fun s p hp => ?_
    simp only [Big, one1, Ex.nodes, Fo.nodes] at hj hp ⊢
    split <;> omega
theorem bracedM_big {E : Nat → Res Ex} {n : Nat} (hE : ∀ q, Big Ex.nodes q (E q)) (q : Nat) : Big Ex.nodes q (bracedM l E n q) := by
  unfold bracedM
  split
  · have h1 : Big one1 (q + 1) (if isSignM (tokAt l (q + 1)) [124] then (.ok [] (q + 2) : Res (List Bs)) else (namesM l n (q + 1)).bind fun p j => (wantM l [124] j).bind fun _ j => .ok p j) := by
      split
      · show 1 + (q + 1) ≤ q + 2; omega
      · refine Big.bind (namesM_big _) fun p j hj => Big.bind (want_big _ _) fun _ k hk => ?_
        simp only [Big, one1] at hj hk ⊢; omega
    refine Big.bind h1 fun p j hj => Big.bind (hE _) fun f p hp => Big.bind (want_big _ _) fun _ k hk => ?_
    simp only [Big, one1, Ex.nodes, Fo.nodes_one] at hj hk hp ⊢; omega
  · refine Big.bind (listM_big hE _) fun f p hp => Big.bind (want_big _ _) fun _ k hk => ?_
    simp only [Big, one1, Ex.nodes] at hk hp ⊢; omega
theorem signedM_big {E : Nat → Res Ex} {n : Nat} (hE : ∀ q, Big Ex.nodes q (E q)) (q : Nat) : Big Ex.nodes q (signedM l E n q) := by
  unfold signedM
  split
  · exact macroM_big hE q
  split
  · simp only [Big, constE, Ex.nodes, Fo.nodes]; omega
  split
  · simp only [Big, constE, Ex.nodes, Fo.nodes]; omega
  split
  · simp only [Big, constE, Ex.nodes, Fo.nodes]; omega
  split
  · refine Big.bind (hE _) fun f p hp => Big.bind (want_big _ _) fun _ k hk => ?_
    simp only [Big, one1] at hk hp ⊢; omega
  split
  · refine Big.bind (name_big _) fun s p hp => ?_
    simp only [Big, one1, Ex.nodes, Fo.nodes] at hp ⊢; omega
  split
  · have h := bracedM_big (n := n) hE (l := l) (q + 1)
    revert h
    generalize bracedM l E n (q + 1) = r
    intro h
    cases r with
    | ok a j => simp only [Big] at h ⊢; omega
    | bad k => trivial
    | out => trivial
  · trivial
theorem namedM_big {E : Nat → Res Ex} {n : Nat} (hE : ∀ q, Big Ex.nodes q (E q)) (q : Nat) : Big Ex.nodes q (namedM l E n q) := by
  unfold namedM
  split
  · exact callM_big hE q
  refine Big.bind (name_big _) fun s j hj => ?_
  split
  · split
    · refine Big.bind (hE _) fun f p hp => Big.bind (want_big _ _) fun _ k hk => ?_
      simp only [Big, one1, Ex.nodes, Fo.nodes_one] at hj hk hp ⊢; omega
    · refine Big.bind (name_big _) fun s p hp => ?_
      simp only [Big, one1, nameE, Ex.nodes, Fo.nodes_one, Fo.nodes] at hj hp ⊢; omega
  · simp only [Big, one1, nameE, Ex.nodes, Fo.nodes] at hj ⊢; omega
theorem primM_big {day : Bs → Int} {E : Nat → Res Ex} {n : Nat} (hE : ∀ q, Big Ex.nodes q (E q)) (q : Nat) : Big Ex.nodes q (primM l day E n q) := by
  have hc : ∀ a b c, Big Ex.nodes q (.ok (constE a b c) (q + 1)) := by
    intro a b c; simp only [Big, constE, Ex.nodes, Fo.nodes]; omega
  unfold primM
  split
  · exact hc _ _ _
  split
  · split
    · trivial
    · exact hc _ _ _
  split
  · exact hc _ _ _
  split
  · exact namedM_big hE q
  · exact signedM_big hE q

theorem exprM_big (day : Bs → Int) : ∀ n q, Big Ex.nodes q (exprM l day n q) := by
  intro n
  induction n with
  | zero => intro q; trivial
  | succ n ih =>
    intro q
    unfold exprM
    exact joinM_big (joinM_big fun p => notM_big (fun p => joinM_big (joinM_big fun p => powM_big (fun p => unaryM_big ih (fun p => primM_big ih p) n p) n p) p) n p) q
theorem lineM_big (day : Bs → Int) (n : Nat) {x : Ex} {j : Nat} (h : lineM l day n = .ok x j) : x.nodes + 1 ≤ l.length := by
  have h1 := exprM_big (l := l) day n 0
  unfold lineM at h
  cases hr : exprM l day n 0 with
  | ok y i =>
    rw [hr, Res.bind_ok] at h
    rw [hr] at h1
    have h2 := end_fine (l := l) (o := True) i
    cases he : endM l i with
    | ok u k =>
      rw [he, Res.bind_ok] at h
      rw [he] at h2
      cases h
      have := h2.2
      have := h2.1
      simp only [Big] at h1
      omega
    | bad k => rw [he] at h; cases h
    | out => rw [he] at h; cases h
  | bad k => rw [hr] at h; cases h
  | out => rw [hr] at h; cases h
theorem lineM_fine (day : Bs → Int) (n : Nat) (hn : l.length + 2 ≤ n) : lineM l day n ≠ .out := by
  have h := exprM_fine (l := l) day n 0
  unfold lineM
  cases hr : exprM l day n 0 with
  | ok y i =>
    rw [Res.bind_ok]
    unfold endM
    split <;> simp [Res.bind]
  | bad k => simp [Res.bind]
  | out => rw [hr] at h; exact absurd (by omega) h
end

end Go.Proofs.YtmcajbhljbbglaaGreatDoor

namespace Go.Proofs.YtmcajbhljbbglaaGreatDoor
open Go.RowKit

/-- Lex with its bounds: tokens, or a place and a code -/
def lexTop (s : Bs) : Except (Int × Int) (List Tok) :=
  if 4000 < s.length then .error (0, 3) else match lexAll s with
    | .ok l => if 1200 < l.length then .error (0, 3) else .ok l
    | .bad k => .error (k, 2)
    | .out => .error (0, 2)

def LexTopPost (w : World) (s : Bs) (e : Ending) (w' : World) : Prop := w.grownBy w' none ∧
  match lexTop s with
    | .ok l => ∃ v, e = .returned (.tuple #[v, .int .i64 l.length, .int .i64 0]) ∧ TRow w' v l (since w.heap.size) ∧ Tame dayM l ∧ l.length ≤ 1200
    | .error pc => e = .returned (.tuple #[.slice none 0 0, .int .i64 pc.1, .int .i64 pc.2]) ∧ (pc.2 = 2 ∨ pc.2 = 3)

theorem lexTop_any {w : World} (ht : Tabs w.heap.size w) (s : Bs) (hs : s.length ≤ 1000000) : Calls Tryz.prog 23 #[str s] w (LexTopPost w s) := by
  refine (lex_any ht s hs).mono ?_
  rintro e w1 ⟨g, h⟩
  refine ⟨g, ?_⟩
  unfold lexTop
  by_cases h4 : 4000 < s.length
  · rw [if_pos h4] at h ⊢
    exact ⟨h, .inr rfl⟩
  rw [if_neg h4] at h ⊢
  cases hl : lexAll s with
  | out => exact absurd hl (lexAll_fine s)
  | bad k => rw [hl] at h; exact ⟨h, .inl rfl⟩
  | ok l =>
    rw [hl] at h
    replace h : ite _ _ _ := h
    simp only []
    by_cases hm : 1200 < l.length
    · rw [if_pos hm] at h ⊢
      exact ⟨h, .inr rfl⟩
    · rw [if_neg hm] at h ⊢
      obtain ⟨v, rfl, ht⟩ := h
      exact ⟨v, rfl, ht, lexAll_tame (by omega) hl, by omega⟩

/-- how a reading of a text ends: with something and the count of tokens, or with a place and a code -/
inductive PeR (α : Type) where
  | ok (x : α) (n : Nat)
  | no (p c : Int)
def exprAll (l : List Tok) : Res Ex := lineM l dayM (l.length + 2)
def peTok (l : List Tok) : PeR Ex :=
  match exprAll l with
  | .ok x j => if j < l.length then .no j 2 else if isLargeM x.nodes x.levels then .no 0 3 else .ok x l.length
  | .bad q => .no q 2
  | .out => .no 0 2
def peM (s : Bs) : PeR Ex := match lexTop s with
  | .ok l => peTok l
  | .error pc => .no pc.1 pc.2

abbrev exV0 : Value := .agg zeroE.toArray
def PePost (w : World) (s : Bs) (e : Ending) (w' : World) : Prop := w.grownBy w' none ∧
  match peM s with
    | .ok x n => ∃ v, e = .returned (.tuple #[v, .int .i64 n, .int .i64 0]) ∧ VE (since w.heap.size) w' v x
    | .no p c => e = .returned (.tuple #[exV0, .int .i64 p, .int .i64 c])

theorem results_pe {fn : Func} {p i j : Tmp} (h : fn.results = #[.cell p 29, .tmp i, .tmp j]) (tmps : Array Value) {w : World} {k : Nat} {a0 a1 a2 a3 a4 a5 a6 u v : Value} (hb : Blk w k [a0, a1, a2, a3, a4, a5, a6] 29)
    (hp : tmps.getD p undef = .pointer (some ⟨k, 0, none⟩)) (hi : tmps.getD i undef = u) (hj : tmps.getD j undef = v) : (results fn tmps).run Tryz.prog w = .ok (.tuple #[.agg #[a0, a1, a2, a3, a4, a5, a6], u, v]) w := by
  have c0 := hb.cell 0
  have c1 := hb.cell 1
  have c2 := hb.cell 2
  have c3 := hb.cell 3
  have c4 := hb.cell 4
  have c5 := hb.cell 5
  have c6 := hb.cell 6
  have hp' : tmps[p]?.getD undef = .pointer (some ⟨k, 0, none⟩) := by simpa using hp
  have hi' : tmps[i]?.getD undef = u := by simpa using hi
  have hj' : tmps[j]?.getD undef = v := by simpa using hj
  simp only [List.getElem?_cons_zero, List.getElem?_cons_succ] at c0 c1 c2 c3 c4 c5 c6
  simp [results, h, hp', hi', hj', go_sem, c0, c1, c2, c3, c4, c5, c6]

theorem peTok_no {l : List Tok} {q : Nat} (hq : lineAt l (lineM l dayM (l.length + 2)) = q) : peTok l = .no q 2 := by
  have hex := lineM_fine (l := l) dayM (l.length + 2) (Nat.le_refl _)
  unfold peTok exprAll
  cases hr : lineM l dayM (l.length + 2) with
  | ok x j =>
    rw [hr] at hq
    simp only [lineAt] at hq ⊢
    by_cases hj : j < l.length
    · rw [if_pos hj] at hq ⊢; rw [hq]
    · rw [if_neg hj] at hq; omega
  | bad k => rw [hr] at hq; simp only [lineAt] at hq ⊢; rw [hq]
  | out => exact absurd hr hex
theorem lineAt_cases {α : Type} (R : Res α) (l : List Tok) : lineAt l R = -1 ∨ ∃ q : Nat, lineAt l R = q := by
  cases R with
  | ok x j =>
    simp only [lineAt]
    split
    · exact .inr ⟨j, rfl⟩
    · exact .inl rfl
  | bad k => exact .inr ⟨k, rfl⟩
  | out => exact .inr ⟨0, rfl⟩
theorem peTok_yes {l : List Tok} (hq : lineAt l (lineM l dayM (l.length + 2)) = -1) : ∃ x j, lineM l dayM (l.length + 2) = .ok x j ∧ peTok l = if isLargeM x.nodes x.levels then .no 0 3 else .ok x l.length := by
  have hex := lineM_fine (l := l) dayM (l.length + 2) (Nat.le_refl _)
  unfold peTok exprAll
  cases hr : lineM l dayM (l.length + 2) with
  | ok x j =>
    rw [hr] at hq
    refine ⟨x, j, rfl, ?_⟩
    simp only [lineAt] at hq ⊢
    by_cases hj : j < l.length
    · rw [if_pos hj] at hq; omega
    · rw [if_neg hj]
  | bad k => rw [hr] at hq; simp only [lineAt] at hq; omega
  | out => exact absurd hr hex

set_option maxRecDepth 40000 in
set_option maxHeartbeats 1000000 in
theorem parseExpr_any {w : World} (ht : Tabs w.heap.size w) (s : Bs) (hs : s.length ≤ 1000000) : Calls Tryz.prog 9 #[str s] w (PePost w s) := by
  have g0 := World.grownBy_alloc w (.cells zeroE.toArray 29 (0, 0)) none
  have hB := Blk.new w zeroE 29
  have ht0 := (ht.gbN g0).mono g0.size
  go_enter Tryz.func9, Tryz.ntmps9
  go_wp2_with fail
  refine (lexTop_any ht0 s hs).mono ?_
  rintro e w1 ⟨g1, h1⟩
  have hB1 := hB.gb g1 (by simp)
  have gA := Lib.hid (gb_trans g0 g1)
  have HT0 := Lib.hid (ht0.gbN g1).glob
  have hPM : ∀ l, lexTop s = .ok l → peM s = peTok l := fun l h => by unfold peM; rw [h]
  have hlt := hB1.lt
  clear ht0 g0 hB ht hs g1
  cases hq : lexTop s with
  | error pc =>
    rw [hq] at h1
    obtain ⟨rfl, hc⟩ := h1
    have HQ := Lib.hid (show peM s = .no pc.1 pc.2 by unfold peM; rw [hq])
    have hc1 : decide (pc.2 = 0) = false := by simp; omega
    clear hq hPM
    have cb_0 := hB1.cell 0; have cb_1 := hB1.cell 1; have cb_2 := hB1.cell 2; have cb_3 := hB1.cell 3; have cb_4 := hB1.cell 4; have cb_5 := hB1.cell 5; have cb_6 := hB1.cell 6; simp only [hdC, List.getElem?_cons_zero, List.getElem?_cons_succ] at cb_0 cb_1 cb_2 cb_3 cb_4 cb_5 cb_6; have cb_f := fun i => hB1.frozen i
    have HB := Lib.hid hB1
    clear hB1
    go_wp2
    exact bodyPost_ret (results_pe rfl _ (HB.out.set7 (.int .i64 0) (str []) (.int .i64 0) (.int .i64 0) (str []) (.slice none 0 0) (.slice none 0 0)) rfl rfl rfl) rfl ⟨gb_sub' gA.out (gb_set7 w1 w.heap.size (.int .i64 0) (str []) (.int .i64 0) (.int .i64 0) (str []) (.slice none 0 0) (.slice none 0 0)) (.inr (Nat.le_refl _)), by rw [HQ.out]; rfl⟩
  | ok l =>
    rw [hq] at h1
    obtain ⟨v, rfl, hT, hTame, hl⟩ := h1
    have hex := lineM_fine (l := l) dayM (l.length + 2) (Nat.le_refl _)
    obtain ⟨ta, tc, rfl, _⟩ := id hT
    have HL := line_any HT0.out hTame (hT.mono fun _ _ _ => trivial) (by omega) (l.length + 2) hex
    have HQ := Lib.hid (hPM l hq)
    have HB := Lib.hid hB1
    have HLL := Lib.hid HL
    clear hPM hq hTame hT HL hex hB1
    go_wp2_with fail
    refine HLL.out.mono ?_
    rintro e w2 ⟨h, pa, pn, pc, la, ln, lc, rfl, g2, hV⟩
    have hB2 := HB.out.gb g2 (by simp)
    have gB := Lib.hid (gb_trans gA.out g2)
    have hs2 := g2.size
    have hlt2 : w.heap.size < w2.heap.size := by omega
    have hno := fun q => peTok_no (l := l) (q := q)
    have hgo := peTok_yes (l := l)
    have hyes := lineAt_cases (lineM l dayM (l.length + 2)) l
    clear HLL HT0
    rcases hyes with hy | ⟨q, hy⟩
    · obtain ⟨x, j, hr, hP⟩ := hgo hy
      have hX := hV x j hr
      have hxn := lineM_big dayM _ hr
      rw [hy]
      clear hgo hno hV hr hy
      have HX := Lib.hid hX
      obtain ⟨pa', pc', la', lc', e1, rp, rl⟩ := hX
      rw [e1] at HX ⊢
      have HPP := Lib.hid (hP ▸ HQ.out)
      have HR := Lib.hid (And.intro rp rl)
      clear rp rl e1 hP
      have hc1 : decide ((0 : Int) ≤ -1) = false := by decide
      have cb_0 := hB2.cell 0; have cb_1 := hB2.cell 1; have cb_2 := hB2.cell 2; have cb_3 := hB2.cell 3; have cb_4 := hB2.cell 4; have cb_5 := hB2.cell 5; have cb_6 := hB2.cell 6; simp only [hdC, List.getElem?_cons_zero, List.getElem?_cons_succ] at cb_0 cb_1 cb_2 cb_3 cb_4 cb_5 cb_6; have cb_f := fun i => hB2.frozen i
      have HB2 := Lib.hid hB2
      clear hB2
      have gK := World.grownBy_alloc w2 (.cells (hdC x.h (.slice pa' x.h.p.length pc') (.slice la' x.kids.len lc')).toArray 29 (0, 0)) none
      have hE := Blk.new w2 (hdC x.h (.slice pa' x.h.p.length pc') (.slice la' x.kids.len lc')) 29
      have HS := Lib.hid (ofExpr_any (HX.out.gb gK (by simp)) (by unfold Ex.nodes at hxn; omega))
      have HE := Lib.hid (And.intro gK hE)
      clear gK hE
      go_wp2_with fail
      refine HS.out.mono ?_
      rintro e w3 ⟨rfl, g3⟩
      go_wp2_with fail
      refine (isLarge_any _ _ _).mono ?_
      rintro e w4 ⟨rfl, g4⟩
      have gM := gb_trans (gb_trans HE.out.1 g3) g4
      have hE4 := (HE.out.2.gb g3 (by simp)).gb g4 (by simp)
      have hR4 := HB2.out.gb gM (by simp)
      have hX4 := HX.out.gb gM (by simp)
      have gT := Lib.hid (And.intro (gb_trans gB.out gM) hX4)
      have hlt4 := gM.size
      clear cb_0 cb_1 cb_2 cb_3 cb_4 cb_5 cb_6 cb_f gM hX4
      have ce_0 := hE4.cell 0; have ce_1 := hE4.cell 1; have ce_2 := hE4.cell 2; have ce_3 := hE4.cell 3; have ce_4 := hE4.cell 4; have ce_5 := hE4.cell 5; have ce_6 := hE4.cell 6; simp only [hdC, List.getElem?_cons_zero, List.getElem?_cons_succ] at ce_0 ce_1 ce_2 ce_3 ce_4 ce_5 ce_6; have ce_f := fun i => hE4.frozen i
      have cb_0 := hR4.cell 0; have cb_1 := hR4.cell 1; have cb_2 := hR4.cell 2; have cb_3 := hR4.cell 3; have cb_4 := hR4.cell 4; have cb_5 := hR4.cell 5; have cb_6 := hR4.cell 6; simp only [hdC, List.getElem?_cons_zero, List.getElem?_cons_succ] at cb_0 cb_1 cb_2 cb_3 cb_4 cb_5 cb_6; have cb_f := fun i => hR4.frozen i
      have HR4 := Lib.hid hR4
      have hltE := hE4.lt
      clear hE4 hR4 g3 g4
      cases hLL : isLargeM x.nodes x.levels with
      | true =>
        have HF := Lib.hid (show peM s = .no 0 3 by rw [HPP.out]; rw [hLL]; rfl)
        clear hLL
        go_wp2
        exact bodyPost_ret (results_pe rfl _ (HR4.out.set7 (.int .i64 0) (str []) (.int .i64 0) (.int .i64 0) (str []) (.slice none 0 0) (.slice none 0 0)) rfl rfl rfl) rfl ⟨gb_sub' gT.out.1 (gb_set7 w4 w.heap.size (.int .i64 0) (str []) (.int .i64 0) (.int .i64 0) (str []) (.slice none 0 0) (.slice none 0 0)) (.inr (Nat.le_refl _)), by rw [HF.out]; rfl⟩
      | false =>
        have HF := Lib.hid (show peM s = .ok x l.length by rw [HPP.out]; rw [hLL]; rfl)
        clear hLL
        go_wp2
        have g7 := gb_set7 w4 w.heap.size (.int .i64 x.h.op) (str x.h.s) (.int .i64 x.h.vk) (.int .i64 x.h.vn) (str x.h.vs) (.slice pa' x.h.p.length pc') (.slice la' x.kids.len lc')
        refine bodyPost_ret (results_pe rfl _ (HR4.out.set7 (.int .i64 x.h.op) (str x.h.s) (.int .i64 x.h.vk) (.int .i64 x.h.vn) (str x.h.vs) (.slice pa' x.h.p.length pc') (.slice la' x.kids.len lc')) rfl rfl rfl) rfl ⟨gb_sub' gT.out.1 g7 (.inr (Nat.le_refl _)), ?_⟩
        rw [HF.out]
        exact ⟨_, rfl, (gT.out.2.gb g7 (by intro q hq _ e; cases e; simp at hq; omega)).mono (by intro q hq _; simp at hq ⊢; omega)⟩
    · rw [hy]
      have HQ2 := Lib.hid (show peM s = .no q 2 by rw [HQ.out, hno q hy])
      clear hgo hno hV
      have hc1 : decide ((0 : Int) ≤ (q : Int)) = true := by simp
      have cb_0 := hB2.cell 0; have cb_1 := hB2.cell 1; have cb_2 := hB2.cell 2; have cb_3 := hB2.cell 3; have cb_4 := hB2.cell 4; have cb_5 := hB2.cell 5; have cb_6 := hB2.cell 6; simp only [hdC, List.getElem?_cons_zero, List.getElem?_cons_succ] at cb_0 cb_1 cb_2 cb_3 cb_4 cb_5 cb_6; have cb_f := fun i => hB2.frozen i
      have HB2 := Lib.hid hB2
      clear hB2
      go_wp2
      have hBA := (HB2.out.set7 (.int .i64 0) (str []) (.int .i64 0) (.int .i64 0) (str []) (.slice none 0 0) (.slice none 0 0)).alloc (.cells (hdC h (.slice pa pn pc) (.slice la ln lc)).toArray 29 (0, 0))
      have gBA := gb_alloc (gb_sub' gB.out (gb_set7 w2 w.heap.size (.int .i64 0) (str []) (.int .i64 0) (.int .i64 0) (str []) (.slice none 0 0) (.slice none 0 0)) (.inr (Nat.le_refl _))) (.cells (hdC h (.slice pa pn pc) (.slice la ln lc)).toArray 29 (0, 0))
      exact bodyPost_ret (results_pe rfl _ hBA rfl rfl rfl) rfl ⟨gBA, by rw [HQ2.out]; rfl⟩

end Go.Proofs.YtmcajbhljbbglaaGreatDoor

namespace Go.Proofs.YtmcajbhljbbglaaGreatDoor
open Go.RowKit
section
variable {b : Nat} {tv wv : Value} {l : List Tok} {wl : List Bs}

def targetM (l : List Tok) (expr : Nat → Res Ex) (i : Nat) : Res Ex :=
  if isSignM (tokAt l i) [38] then macroM l expr i
  else (nameM l i).bind fun s j =>
    if isSignM (tokAt l j) [91] then (expr (j + 1)).bind fun x k => (wantM l [93] k).bind fun _ k => .ok (indexE (nameE s) x) k
    else if isSignM (tokAt l j) [45, 62] then (nameM l (j + 1)).bind fun t k => .ok ⟨hd0 2 s, .one (nameE t)⟩ k
    else .ok (nameE s) j

theorem pe_two1 {b : Nat} {tv wv : Value} {l : List Tok} {wl : List Bs} {w w1 w2 : World} {op : Int} {s t : Bs} {x : Ex} {pa la : Option Addr} {pc lc j : Nat} {r : Res Ex} {ok : Nat → Prop} (hb : b < w.heap.size)
    (hr : r = .ok ⟨hd0 op s, .two (nameE t) x⟩ j) (gr : w.grownBy w1 (some b)) (rp : Cells w1 (.slice pa x.h.p.length pc) 1 x.h.p.length (x.h.p.map str) ok) (rl : RepL ok w1 (.slice la x.kids.len lc) x.kids) (hok : ∀ k, ok k → w.heap.size < k)
    (hp : Par w1 b tv wv l wl j) (g7 : w1.grownBy w2 (some w.heap.size)) (hsz : w2.heap.size = w1.heap.size) :
    PE b tv wv l wl w r (.returned (exV (hd0 op s) (.slice none 0 0) (.slice (some ⟨w1.heap.size, 0, none⟩) 2 2))) (w2.alloc (.cells (hdC (nameE t).h (.slice none 0 0) (.slice none 0 0) ++ hdC x.h (.slice pa x.h.p.length pc) (.slice la x.kids.len lc)).toArray 29 (0, 0))) := by
  have hlt := gr.size
  have rp' := rp.gb g7 (by intro q hq _ e; have := hok q hq; cases e; omega)
  have rl' := rl.gb g7 (by intro q hq _ e; have := hok q hq; cases e; omega)
  have hV : VE (since w.heap.size) (w2.alloc (.cells (hdC (nameE t).h (.slice none 0 0) (.slice none 0 0) ++ hdC x.h (.slice pa x.h.p.length pc) (.slice la x.kids.len lc)).toArray 29 (0, 0))) (exV (hd0 op s) (.slice none 0 0) (.slice (some ⟨w1.heap.size, 0, none⟩) 2 2)) ⟨hd0 op s, .two (nameE t) x⟩ :=
    VE.node (f := .two (nameE t) x) (RepL.two (ok := since w.heap.size) (n := w1.heap.size) hsz.symm (by show w.heap.size ≤ _; omega) (Cells.nil _ _ _) (RepL.nil _ _) (rp'.mono (by intro q hq _; have := hok q hq; show w.heap.size ≤ q; omega)) (rl'.mono (by intro q hq _; have := hok q hq; show w.heap.size ≤ q; omega)))
  exact Post.ok (gb_alloc (gb_sub' gr g7 (.inr (Nat.le_refl _))) _) hr hV ((hp.gb g7 (by intro q e; cases e; omega)).alloc _)

set_option maxRecDepth 20000 in
set_option maxHeartbeats 4000000 in
theorem target_any {E : Nat → Res Ex} (hE : CE 56 b tv wv l wl E) (hl : Short l) : CE 182 b tv wv l wl (targetM l E) := by
  intro w i hp ho
  have hb := hp.lt
  have gr : w.grownBy (w.alloc (.cells zeroE.toArray 29 (0, 0))) (some b) := gb_alloc (gb_refl _ _) _
  have hz := Blk.new w zeroE 29
  replace hp := hp.alloc (.cells zeroE.toArray 29 (0, 0))
  have H := Lib.hid (And.intro hE (And.intro hl ho))
  generalize hR : targetM l E i = R at *
  have HQ := Lib.hid hR
  rw [targetM] at HQ
  clear hE hl ho hR
  go_enter Tryz.func182, Tryz.ntmps182
  go_wp2_with fail
  refine (ahead0 hp).mono ?_
  rintro e w1 ⟨rfl, g⟩
  replace hz := hz.gb g (by simp)
  replace gr := gb_sub gr g
  replace hp := hp.gbN g
  clear g
  have hs0 := hz.lt
  go_wp2_with fail
  refine (isSign_any _ _ _ [38] _).mono ?_
  rintro e w2 ⟨rfl, g⟩
  replace hz := hz.gb g (by simp)
  replace gr := gb_sub gr g
  replace hp := hp.gbN g
  replace hs0 := hz.lt
  clear g
  cases hs : isSignM (tokAt l i) [38] with
  | true =>
    have hs' : ((tokAt l i).kind == 4 && (tokAt l i).text == [38]) = true := hs
    rw [hs']
    have e0 := HQ.out
    rw [if_pos hs] at e0
    replace HQ := Lib.hid e0
    clear e0
    go_wp2_with fail
    refine (macro_any H.out.1 H.out.2.1 _ _ hp (fun e => H.out.2.2 (by rw [← HQ.out, e]))).mono ?_
    intro e w3 hq
    obtain ⟨g, ⟨q, hr, rfl⟩ | ⟨x, j, v, hr, rfl, ⟨pa, pc, la, lc, rfl, rp, rl⟩, hp⟩⟩ := hq.split
    · exact ⟨rfl, Post.bad (gb_trans gr g) (by rw [← HQ.out, hr])⟩
    replace gr := gb_trans gr g
    have e0 := HQ.out
    rw [hr] at e0
    replace HQ := Lib.hid e0
    clear e0 hr
    replace hz := hz.gb g (by simp; omega)
    have cz_0 := hz.cell 0; have cz_1 := hz.cell 1; have cz_2 := hz.cell 2; have cz_3 := hz.cell 3; have cz_4 := hz.cell 4; have cz_5 := hz.cell 5; have cz_6 := hz.cell 6; simp only [hdC, List.getElem?_cons_zero, List.getElem?_cons_succ] at cz_0 cz_1 cz_2 cz_3 cz_4 cz_5 cz_6; have cz_f := fun i => hz.frozen i
    have HV := Lib.hid (And.intro rp rl)
    clear rp rl g
    go_wp2
    exact bodyPost_ret (results_ex rfl _ (hz.set7 _ _ _ _ _ _ _) rfl) rfl (pe_copy hb HQ.out.symm gr ⟨_, _, _, _, rfl, HV.out.1, HV.out.2⟩ (by intro k hk; have : _ ≤ k := hk; omega) hp (gb_set7 _ _ _ _ _ _ _ _ _))
  | false =>
  have hs' : ((tokAt l i).kind == 4 && (tokAt l i).text == [38]) = false := hs
  rw [hs']
  clear hs'
  have e0 := HQ.out
  rw [if_neg (by rw [hs]; exact Bool.false_ne_true)] at e0
  replace HQ := Lib.hid e0
  clear e0
  go_wp2_with fail
  refine (name_any hp H.out.2.1).mono ?_
  intro e w3 hq
  obtain ⟨g, ⟨q, hr, rfl⟩ | ⟨s, j, v, hr, rfl, rfl, hp⟩⟩ := hq.split
  · exact ⟨rfl, Post.bad (gb_trans gr g) (by rw [← HQ.out, hr]; rfl)⟩
  replace gr := gb_trans gr g
  have e0 := HQ.out
  rw [hr, Res.bind_ok] at e0
  replace HQ := Lib.hid e0
  clear e0 hr
  replace hz := hz.gb g (by simp; omega)
  clear g
  go_wp2_with fail
  cases hs : isSignM (tokAt l j) [91] with
  | true =>
    refine (sign_yes hp _ hs).mono ?_
    rintro e w4 ⟨rfl, hp', g⟩
    replace hz := hz.gb g (by simp; omega)
    replace gr := gb_trans gr g
    replace hp := hp'
    have hs0 := hz.lt
    clear g
    have e0 := HQ.out
    rw [if_pos hs] at e0
    replace HQ := Lib.hid e0
    clear e0
    go_wp2_with fail
    refine (H.out.1 _ _ hp (fun e => H.out.2.2 (by rw [← HQ.out, e]; rfl))).mono ?_
    intro e w6 hq
    obtain ⟨g, ⟨q, hr, rfl⟩ | ⟨x, j2, v, hr, rfl, ⟨pa, pc, la, lc, rfl, rp, rl⟩, hp⟩⟩ := hq.split
    · exact ⟨rfl, Post.bad (gb_trans gr g) (by rw [← HQ.out, hr]; rfl)⟩
    replace gr := gb_trans gr g
    have e0 := HQ.out
    rw [hr, Res.bind_ok] at e0
    replace HQ := Lib.hid e0
    clear e0 hr
    replace hz := hz.gb g (by simp; omega)
    have hk := Kept.new hb gr hz hp (rp.mono fun g hg _ => by have : w4.heap.size ≤ g := hg; show w.heap.size < g; omega) (rl.mono fun g hg _ => by have : w4.heap.size ≤ g := hg; show w.heap.size < g; omega) rfl
    clear rp rl g hz
    go_wp2_with fail
    replace gr := hk.gr
    refine (want_any hk.par [93]).mono ?_
    intro e w7 hq
    obtain ⟨g, ⟨q, hr, rfl⟩ | ⟨_, j3, v, hr, rfl, rfl, hp⟩⟩ := hq.split
    · exact ⟨rfl, Post.bad (gb_trans gr g) (by rw [← HQ.out, hr]; rfl)⟩
    replace gr := gb_trans gr g
    have e0 := HQ.out
    rw [hr, Res.bind_ok] at e0
    replace HQ := Lib.hid e0
    clear e0 hr
    replace hk := hk.gb hb g hp
    clear g
    have hz := hk.zero
    have hL := hk.blk
    have rp := hk.rp.mono (ok' := fun g => w.heap.size < g) (fun g hg _ => hg.1)
    have rl := hk.rl.mono (ok' := fun g => w.heap.size < g) (fun g hg _ => hg.1)
    have hwL := hk.wL
    have hltL := hL.lt
    clear hk
    have cl_0 := hL.cell 0; have cl_1 := hL.cell 1; have cl_2 := hL.cell 2; have cl_3 := hL.cell 3; have cl_4 := hL.cell 4; have cl_5 := hL.cell 5; have cl_6 := hL.cell 6; simp only [hdC, List.getElem?_cons_zero, List.getElem?_cons_succ] at cl_0 cl_1 cl_2 cl_3 cl_4 cl_5 cl_6; have cl_f := fun i => hL.frozen i
    have HV := Lib.hid (And.intro rp rl)
    clear rp rl
    have cz_0 := hz.cell 0; have cz_1 := hz.cell 1; have cz_2 := hz.cell 2; have cz_3 := hz.cell 3; have cz_4 := hz.cell 4; have cz_5 := hz.cell 5; have cz_6 := hz.cell 6; simp only [hdC, List.getElem?_cons_zero, List.getElem?_cons_succ] at cz_0 cz_1 cz_2 cz_3 cz_4 cz_5 cz_6; have cz_f := fun i => hz.frozen i
    have hltz := hz.lt
    go_wp2
    have g7 := gb_set7 w7 w.heap.size (.int .i64 6) (str []) (.int .i64 0) (.int .i64 0) (str []) (.slice none 0 0) (.slice (some ⟨w7.heap.size, 0, none⟩) 2 2)
    have hW := hz.set7 (.int .i64 6) (str []) (.int .i64 0) (.int .i64 0) (str []) (.slice none 0 0) (.slice (some ⟨w7.heap.size, 0, none⟩) 2 2)
    have hsz : (set7 w7 w.heap.size (.int .i64 6) (str []) (.int .i64 0) (.int .i64 0) (str []) (.slice none 0 0) (.slice (some ⟨w7.heap.size, 0, none⟩) 2 2)).heap.size = w7.heap.size := by simp [set7]
    simp only [set7] at hW g7 hsz
    generalize (((((((w7.setCell { block := w.heap.size, off := 0 } (.int .i64 6)).setCell { block := w.heap.size, off := 1 } (str [])).setCell { block := w.heap.size, off := 2 } (.int .i64 0)).setCell { block := w.heap.size, off := 3 } (.int .i64 0)).setCell { block := w.heap.size, off := 4 } (str [])).setCell { block := w.heap.size, off := 5 } (.slice none 0 0)).setCell { block := w.heap.size, off := 6 } (.slice (some ⟨w7.heap.size, 0, none⟩) 2 2)) = W' at *
    exact bodyPost_ret (results_ex (hd := hd0 6 []) (pv := .slice none 0 0) (lv := .slice (some ⟨w7.heap.size, 0, none⟩) 2 2) rfl _ (Blk.alloc hW (.cells (hdC (nameE s).h (.slice none 0 0) (.slice none 0 0) ++ hdC x.h (.slice pa x.h.p.length pc) (.slice la x.kids.len lc)).toArray 29 (0, 0))) rfl) rfl (pe_two1 (op := 6) (s := []) (t := s) hb HQ.out.symm gr HV.out.1 HV.out.2 (fun k hk => hk) hp g7 hsz)
  | false =>
    refine (sign_no hp _ hs).mono ?_
    rintro e w4 ⟨rfl, g⟩
    replace hz := hz.gb g (by simp)
    replace gr := gb_sub gr g
    replace hp := hp.gbN g
    clear g
    have e0 := HQ.out
    rw [if_neg (by rw [hs]; exact Bool.false_ne_true)] at e0
    replace HQ := Lib.hid e0
    clear e0
    go_wp2_with fail
    cases hs : isSignM (tokAt l j) [45, 62] with
    | false =>
      refine (sign_no hp _ hs).mono ?_
      rintro e w5 ⟨rfl, g⟩
      replace hz := hz.gb g (by simp)
      replace gr := gb_sub gr g
      replace hp := hp.gbN g
      clear g
      have e0 := HQ.out
      rw [if_neg (by rw [hs]; exact Bool.false_ne_true)] at e0
      replace HQ := Lib.hid e0
      clear e0
      have cz_0 := hz.cell 0; have cz_1 := hz.cell 1; have cz_2 := hz.cell 2; have cz_3 := hz.cell 3; have cz_4 := hz.cell 4; have cz_5 := hz.cell 5; have cz_6 := hz.cell 6; simp only [hdC, List.getElem?_cons_zero, List.getElem?_cons_succ] at cz_0 cz_1 cz_2 cz_3 cz_4 cz_5 cz_6; have cz_f := fun i => hz.frozen i
      go_wp2
      exact bodyPost_ret (results_ex (hd := (nameE s : Ex).h) (pv := .slice none 0 0) (lv := .slice none 0 0) rfl _ (hz.set7 _ _ _ _ _ _ _) rfl) rfl (pe_copy (ok := fun k => w.heap.size < k) (x := nameE s) hb HQ.out.symm gr ⟨none, 0, none, 0, rfl, Cells.nil _ _ _, RepL.nil _ _⟩ (fun k hk => hk) hp (gb_set7 _ _ _ _ _ _ _ _ _))
    | true =>
    refine (sign_yes hp _ hs).mono ?_
    rintro e w5 ⟨rfl, hp', g⟩
    replace hz := hz.gb g (by simp; omega)
    replace gr := gb_trans gr g
    replace hp := hp'
    have hs0 := hz.lt
    clear g
    have e0 := HQ.out
    rw [if_pos hs] at e0
    replace HQ := Lib.hid e0
    clear e0
    go_wp2_with fail
    refine (name_any hp H.out.2.1).mono ?_
    intro e w6 hq
    obtain ⟨g, ⟨q, hr, rfl⟩ | ⟨t, j2, v, hr, rfl, rfl, hp⟩⟩ := hq.split
    · exact ⟨rfl, Post.bad (gb_trans gr g) (by rw [← HQ.out, hr]; rfl)⟩
    replace gr := gb_trans gr g
    have e0 := HQ.out
    rw [hr, Res.bind_ok] at e0
    replace HQ := Lib.hid e0
    clear e0 hr
    replace hz := hz.gb g (by simp; omega)
    clear g
    have rp := Cells.nil w6 1 (fun g => w.heap.size < g)
    have rl := RepL.nil w6 (fun g => w.heap.size < g)
    have HV := Lib.hid (And.intro rp rl)
    clear rp rl
    have cz_0 := hz.cell 0; have cz_1 := hz.cell 1; have cz_2 := hz.cell 2; have cz_3 := hz.cell 3; have cz_4 := hz.cell 4; have cz_5 := hz.cell 5; have cz_6 := hz.cell 6; simp only [hdC, List.getElem?_cons_zero, List.getElem?_cons_succ] at cz_0 cz_1 cz_2 cz_3 cz_4 cz_5 cz_6; have cz_f := fun i => hz.frozen i
    have hltz := hz.lt
    go_wp2
    have g7 := gb_set7 w6 w.heap.size (.int .i64 2) (str s) (.int .i64 0) (.int .i64 0) (str []) (.slice none 0 0) (.slice (some ⟨w6.heap.size, 0, none⟩) 1 1)
    have hW := hz.set7 (.int .i64 2) (str s) (.int .i64 0) (.int .i64 0) (str []) (.slice none 0 0) (.slice (some ⟨w6.heap.size, 0, none⟩) 1 1)
    have hsz : (set7 w6 w.heap.size (.int .i64 2) (str s) (.int .i64 0) (.int .i64 0) (str []) (.slice none 0 0) (.slice (some ⟨w6.heap.size, 0, none⟩) 1 1)).heap.size = w6.heap.size := by simp [set7]
    simp only [set7] at hW g7 hsz
    generalize (((((((w6.setCell { block := w.heap.size, off := 0 } (.int .i64 2)).setCell { block := w.heap.size, off := 1 } (str s)).setCell { block := w.heap.size, off := 2 } (.int .i64 0)).setCell { block := w.heap.size, off := 3 } (.int .i64 0)).setCell { block := w.heap.size, off := 4 } (str [])).setCell { block := w.heap.size, off := 5 } (.slice none 0 0)).setCell { block := w.heap.size, off := 6 } (.slice (some ⟨w6.heap.size, 0, none⟩) 1 1)) = W' at *
    exact bodyPost_ret (results_ex (hd := hd0 2 s) (pv := .slice none 0 0) (lv := .slice (some ⟨w6.heap.size, 0, none⟩) 1 1) rfl _ (Blk.alloc hW (Obj.cells #[Value.int IntKind.i64 (nameE t).h.op, str (nameE t).h.s, Value.int IntKind.i64 (nameE t).h.vk, Value.int IntKind.i64 (nameE t).h.vn, str (nameE t).h.vs, Value.slice none (nameE t).h.p.length 0, Value.slice none (nameE t).kids.len 0] 29)) rfl) rfl (pe_one (op := 2) (s := s) hb HQ.out.symm gr HV.out.1 HV.out.2 (fun k hk => hk) hp g7 hsz)
end

end Go.Proofs.YtmcajbhljbbglaaGreatDoor
