/-
  Plain laws: the reference's reader of expressions as a function of its state (the place, and whether something was wrong), with fuel; it answers as the grammar 'exprM' does.
-/
import Derived.Test.YtmcajbhljbbglaaGreatDoorSs01
set_option linter.all false
set_option linter.unusedVariables false
set_option linter.unusedSimpArgs false
set_option linter.unnecessarySimpa false
set_option linter.constructorNameAsVariable false
set_option linter.deprecated false

namespace Go.Proofs.YtmcajbhljbbglaaGreatDoor

/-- the state of the reference's reader: the place, and whether a token did not fit -/
abbrev RS := Nat × Bool

def hereR (l : List Tok) (s : Bs) (st : RS) : Bool := !st.2 && isSignM (tokAt l st.1) s
def takeR (l : List Tok) (s : Bs) (st : RS) : RS := if hereR l s st then (st.1 + 1, st.2) else st
def wantR (l : List Tok) (s : Bs) (st : RS) : RS := if hereR l s st then (st.1 + 1, st.2) else (st.1, true)
def endR (l : List Tok) (st : RS) : RS := if !st.2 && (tokAt l st.1).kind == 5 then (st.1 + 1, st.2) else (st.1, true)
def nextR (st : RS) : RS := if st.2 then st else (st.1 + 1, st.2)
def isNameR (l : List Tok) (st : RS) : Bool := !st.2 && ((tokAt l st.1).kind == 0 && decide ((tokAt l st.1).text.length ≤ 10))
def nameR (l : List Tok) (st : RS) : Bs × RS := if isNameR l st then ((tokAt l st.1).text, (st.1 + 1, st.2)) else ([], (st.1, true))
/-- the first one of some signs that is here -/
def signOf (l : List Tok) (L : List Bs) (st : RS) : Bs := if st.2 then [] else (L.find? (isSignM (tokAt l st.1))).getD []
def signR (l : List Tok) (L : List Bs) (st : RS) : Bs × RS := (signOf l L st, (stepM (signOf l L st) st.1, st.2))

abbrev OR (α : Type) := Option (α × RS)
abbrev FR (α : Type) := RS → OR α

def zeroEx : Ex := ⟨hd0 0 [], .nil⟩

/-- operands with one of some signs between -/
def loopR (l : List Tok) (L : List Bs) (opnd : FR Ex) : Nat → Ex → FR Ex
  | 0, _, _ => none
  | n + 1, x, st => if (signOf l L st).isEmpty then some (x, (signR l L st).2) else (opnd (signR l L st).2).bind fun r => loopR l L opnd n (binE (signOf l L st) x r.1) r.2
def chainR (l : List Tok) (L : List Bs) (n : Nat) (opnd : FR Ex) : FR Ex := fun st => (opnd st).bind fun r => loopR l L opnd n r.1 r.2

def orL : List Bs := [[46, 79, 82, 46]]
def andL : List Bs := [[46, 65, 78, 68, 46]]
def notL : List Bs := [[46, 78, 79, 84, 46], [33]]
def cmpL : List Bs := [[61], [61, 61], [60, 62], [35], [33, 61], [60], [62], [60, 61], [62, 61], [36]]
def sumL : List Bs := [[43], [45]]
def prodL : List Bs := [[42], [47], [37]]
def primL : List Bs := [[46, 84, 46], [46, 70, 46], [46, 78, 85, 76, 76, 46], [40], [123], [64]]

/-- two signs for unlike -/
def cmpS (s : Bs) : Bs := if s = [35] ∨ s = [33, 61] then [60, 62] else s

def notR (l : List Tok) (sum : FR Ex) : Nat → FR Ex
  | 0, _ => none
  | n + 1, st =>
    if (signOf l notL st).isEmpty then (sum (signR l notL st).2).bind fun r =>
      if (signOf l cmpL r.2).isEmpty then some (r.1, (signR l cmpL r.2).2) else (sum (signR l cmpL r.2).2).bind fun q => some (binE (cmpS (signOf l cmpL r.2)) r.1 q.1, q.2)
    else (notR l sum n (signR l notL st).2).bind fun r => some (unE [46, 78, 79, 84, 46] r.1, r.2)

def powR (l : List Tok) (un : FR Ex) : Nat → FR Ex
  | 0, _ => none
  | n + 1, st => (un st).bind fun r => if hereR l [94] r.2 then (powR l un n (takeR l [94] r.2)).bind fun q => some (binE [94] r.1 q.1, q.2) else some (r.1, takeR l [94] r.2)

def idxR (l : List Tok) (expr : FR Ex) : Nat → Ex → FR Ex
  | 0, _, _ => none
  | n + 1, x, st => if hereR l [91] st then (expr (takeR l [91] st)).bind fun r => idxR l expr n (indexE x r.1) (wantR l [93] r.2) else some (x, takeR l [91] st)

def unaryR (l : List Tok) (expr prim : FR Ex) (N : Nat) : Nat → FR Ex
  | 0, _ => none
  | n + 1, st => if hereR l [45] st then (unaryR l expr prim N n (takeR l [45] st)).bind fun r => some (unE [45] r.1, r.2) else (prim (takeR l [45] st)).bind fun r => idxR l expr N r.1 r.2

def moreR (l : List Tok) (expr : FR Ex) : Nat → Fo → FR Fo
  | 0, _, _ => none
  | n + 1, acc, st => if hereR l [44] st then (expr (takeR l [44] st)).bind fun r => moreR l expr n (acc.snoc r.1) r.2 else some (acc, takeR l [44] st)
def listR (l : List Tok) (expr : FR Ex) (n : Nat) : FR Fo := fun st => (expr st).bind fun r => moreR l expr n (.one r.1) r.2
def closedR (l : List Tok) (expr : FR Ex) (n : Nat) (s : Bs) : FR Fo := fun st =>
  if hereR l s st then some (.nil, takeR l s st) else (listR l expr n (takeR l s st)).bind fun r => some (r.1, wantR l s r.2)

def namesMoreR (l : List Tok) : Nat → List Bs → FR (List Bs)
  | 0, _, _ => none
  | n + 1, acc, st => if hereR l [44] st then namesMoreR l n (acc ++ [(nameR l (takeR l [44] st)).1]) (nameR l (takeR l [44] st)).2 else some (acc, takeR l [44] st)
def namesR (l : List Tok) (n : Nat) : FR (List Bs) := fun st => namesMoreR l n [(nameR l st).1] (nameR l st).2

def macroR (l : List Tok) (expr : FR Ex) : FR Ex := fun st =>
  if hereR l [40] (wantR l [38] st) then (expr (takeR l [40] (wantR l [38] st))).bind fun r => some (⟨hd0 9 [], .one r.1⟩, wantR l [41] r.2)
  else some (⟨hd0 9 (nameR l (takeR l [40] (wantR l [38] st))).1, .nil⟩, takeR l [46] (nameR l (takeR l [40] (wantR l [38] st))).2)

def namedR (l : List Tok) (expr : FR Ex) (n : Nat) : FR Ex := fun st =>
  if isSignM (tokAt l (st.1 + 1)) [40] then (closedR l expr n [41] (wantR l [40] (nameR l st).2)).bind fun r => some (⟨hd0 3 (nameR l st).1, r.1⟩, r.2)
  else
    if hereR l [45, 62] (nameR l st).2 then
      if hereR l [40] (takeR l [45, 62] (nameR l st).2) then (expr (takeR l [40] (takeR l [45, 62] (nameR l st).2))).bind fun r => some (⟨hd0 2 (nameR l st).1, .one r.1⟩, wantR l [41] r.2)
      else some (⟨hd0 2 (nameR l st).1, .one (nameE (nameR l (takeR l [40] (takeR l [45, 62] (nameR l st).2))).1)⟩, (nameR l (takeR l [40] (takeR l [45, 62] (nameR l st).2))).2)
    else some (nameE (nameR l st).1, takeR l [45, 62] (nameR l st).2)

def bracesR (l : List Tok) (expr : FR Ex) (n : Nat) : FR Ex := fun st =>
  if hereR l [124] st then
    (if hereR l [124] (takeR l [124] st) then some ([], takeR l [124] (takeR l [124] st)) else (namesR l n (takeR l [124] (takeR l [124] st))).bind fun p => some (p.1, wantR l [124] p.2)).bind fun p =>
      (expr p.2).bind fun r => some (⟨⟨8, [], 0, 0, [], p.1⟩, .one r.1⟩, wantR l [125] r.2)
  else (listR l expr n (takeR l [124] st)).bind fun r => some (⟨hd0 7 [], r.1⟩, wantR l [125] r.2)

/-- what begins with a sign -/
def signedR (l : List Tok) (expr : FR Ex) (n : Nat) : FR Ex := fun st =>
  if signOf l primL st = [46, 84, 46] then some (constE 1 1 [], (signR l primL st).2)
  else if signOf l primL st = [46, 70, 46] then some (constE 1 0 [], (signR l primL st).2)
  else if signOf l primL st = [46, 78, 85, 76, 76, 46] then some (zeroEx, (signR l primL st).2)
  else if signOf l primL st = [40] then (expr (signR l primL st).2).bind fun r => some (r.1, wantR l [41] r.2)
  else if signOf l primL st = [123] then bracesR l expr n (signR l primL st).2
  else if signOf l primL st = [64] then some (⟨hd0 10 (nameR l (signR l primL st).2).1, .nil⟩, (nameR l (signR l primL st).2).2)
  else some (zeroEx, ((signR l primL st).2.1, true))

def primR (l : List Tok) (day : Bs → Int) (expr : FR Ex) (n : Nat) : FR Ex := fun st =>
  if st.2 then some (zeroEx, st)
  else if (tokAt l st.1).kind = 1 then some (constE 2 (numM (tokAt l st.1).text) [], nextR st)
  else if (tokAt l st.1).kind = 2 ∧ (tokAt l st.1).text.length ≤ 2048 then some (constE 4 0 (tokAt l st.1).text, nextR st)
  else if (tokAt l st.1).kind = 3 then some (constE 3 (day (tokAt l st.1).text) [], nextR st)
  else if (tokAt l st.1).kind = 0 then namedR l expr n st
  else if isSignM (tokAt l st.1) [38] then macroR l expr st
  else signedR l expr n st

def sumR (l : List Tok) (n : Nat) (pow : FR Ex) : FR Ex := chainR l sumL n (chainR l prodL n pow)

/-- one level of an expression -/
def stepR (l : List Tok) (day : Bs → Int) (g : FR Ex) (n : Nat) : FR Ex := chainR l orL n (chainR l andL n (notR l (sumR l n (powR l (unaryR l g (primR l day g n) n n) n)) n))
def exprR (l : List Tok) (day : Bs → Int) : Nat → FR Ex
  | 0 => stepR l day (fun _ => none) 1
  | n + 1 => stepR l day (exprR l day n) (n + 1)

/-! ### the grammar's answers are the reader's -/
def SimGo {α : Type} : Res α → OR α → Prop
  | .ok x j, o => o = some (x, (j, false))
  | .bad k, o => ∃ x, o = some (x, (k, true))
  | .out, _ => True
theorem simGo_ok {α : Type} (x : α) (j : Nat) (o : OR α) : SimGo (.ok x j) o = (o = some (x, (j, false))) := rfl
theorem simGo_bad {α : Type} (k : Nat) (o : OR α) : SimGo (.bad k) o = ∃ x, o = some (x, (k, true)) := rfl
/-- a reading of the grammar, and that of the reference's reader: with something wrong before it, it reads nothing -/
structure Sim {α : Type} (f : Nat → Res α) (g : FR α) : Prop where
  go : ∀ i, SimGo (f i) (g (i, false))
  stop : ∀ i, ∃ x, g (i, true) = some (x, (i, true))

theorem here_wrong (l : List Tok) (s : Bs) (i : Nat) : hereR l s (i, true) = false := rfl
theorem here_right (l : List Tok) (s : Bs) (i : Nat) : hereR l s (i, false) = isSignM (tokAt l i) s := rfl
theorem take_wrong (l : List Tok) (s : Bs) (i : Nat) : takeR l s (i, true) = (i, true) := rfl
theorem want_wrong (l : List Tok) (s : Bs) (i : Nat) : wantR l s (i, true) = (i, true) := rfl
theorem name_wrong (l : List Tok) (i : Nat) : nameR l (i, true) = ([], (i, true)) := rfl
theorem signOf_wrong (l : List Tok) (L : List Bs) (i : Nat) : signOf l L (i, true) = [] := rfl
theorem signR_wrong (l : List Tok) (L : List Bs) (i : Nat) : signR l L (i, true) = ([], (i, true)) := rfl
theorem take_yes {l : List Tok} {s : Bs} {i : Nat} (h : isSignM (tokAt l i) s = true) : takeR l s (i, false) = (i + 1, false) := by simp [takeR, hereR, h]
theorem take_no {l : List Tok} {s : Bs} {i : Nat} (h : isSignM (tokAt l i) s = false) : takeR l s (i, false) = (i, false) := by simp [takeR, hereR, h]
theorem want_yes {l : List Tok} {s : Bs} {i : Nat} (h : isSignM (tokAt l i) s = true) : wantR l s (i, false) = (i + 1, false) := by simp [wantR, hereR, h]
theorem want_no {l : List Tok} {s : Bs} {i : Nat} (h : isSignM (tokAt l i) s = false) : wantR l s (i, false) = (i, true) := by simp [wantR, hereR, h]

theorem lookup_find (m : Bs → Bs) : ∀ (T : List (Bs × Bs)), (∀ p ∈ T, m p.1 = p.2) → ∀ t, T.lookup t = ((T.map Prod.fst).find? (fun s => t == s)).map m := by
  intro T
  induction T with
  | nil => intro _ t; rfl
  | cons p T ih =>
    intro h t
    obtain ⟨a, b⟩ := p
    have h0 := h (a, b) List.mem_cons_self
    rw [List.lookup_cons, List.map_cons, List.find?_cons]
    cases hc : t == a with
    | true => simp only [Option.map_some]; exact congrArg some h0.symm
    | false => exact ih (fun p hp => h p (List.mem_cons_of_mem _ hp)) t

/-- the operators of a level are the signs of a list, each with its meaning -/
theorem oper_sign (l : List Tok) (i : Nat) (k : Nat) (L : List Bs) (m : Bs → Bs) (hL : (lvl k).map Prod.fst = L) (hT : ∀ p ∈ lvl k, m p.1 = p.2) (hm : ∀ s ∈ L, s ≠ [] ∧ m s ≠ []) :
    (signOf l L (i, false) = [] ∧ operM l k i = []) ∨ (signOf l L (i, false) ≠ [] ∧ operM l k i = m (signOf l L (i, false)) ∧ operM l k i ≠ []) := by
  unfold operM signOf isSignM
  simp only [Bool.false_eq_true, if_false]
  cases hk : (tokAt l i).kind == 4 with
  | false =>
    left
    have e : L.find? (fun _ => false) = none := by rw [List.find?_eq_none]; simp
    simp [e]
  | true =>
    simp only [Bool.true_and, if_true]
    have ho : opOf k (tokAt l i).text = ((L.find? (fun s => (tokAt l i).text == s)).map m).getD [] := by
      unfold opOf; rw [lookup_find m (lvl k) hT, hL]
    rw [ho]
    cases hf : L.find? (fun s => (tokAt l i).text == s) with
    | none => left; exact ⟨rfl, rfl⟩
    | some s =>
      right
      have hs := hm s (List.mem_of_find?_eq_some hf)
      exact ⟨hs.1, rfl, hs.2⟩

theorem Sim.bind {α β : Type} {f : Nat → Res α} {g : FR α} {f2 : α → Nat → Res β} {g2 : α → FR β} (h : Sim f g) (h2 : ∀ x, Sim (f2 x) (g2 x)) : Sim (fun i => (f i).bind f2) (fun st => (g st).bind fun r => g2 r.1 r.2) := by
  constructor
  · intro i
    have h0 := h.go i
    cases hf : f i with
    | out => trivial
    | bad k =>
      rw [hf] at h0
      obtain ⟨x, hx⟩ := h0
      obtain ⟨y, hy⟩ := (h2 x).stop k
      refine ⟨y, ?_⟩
      simp only [hx, Option.bind_some]
      exact hy
    | ok x j =>
      rw [hf, simGo_ok] at h0
      have h3 := (h2 x).go j
      simp only [Res.bind_ok, h0, Option.bind_some]
      exact h3
  · intro i
    obtain ⟨x, hx⟩ := h.stop i
    obtain ⟨y, hy⟩ := (h2 x).stop i
    exact ⟨y, by simp only [hx, Option.bind_some]; exact hy⟩
theorem Sim.pure {α : Type} (a : α) : Sim (fun i => Res.ok a i) (fun st => some (a, st)) := ⟨fun _ => rfl, fun _ => ⟨a, rfl⟩⟩
theorem Sim.want (l : List Tok) (s : Bs) {α : Type} (a : α) : Sim (fun i => (wantM l s i).bind fun _ j => .ok a j) (fun st => some (a, wantR l s st)) := by
  constructor
  · intro i
    unfold wantM
    cases h : isSignM (tokAt l i) s with
    | true => rw [if_pos rfl]; simp only [Res.bind_ok]; rw [want_yes h]; rfl
    | false => rw [if_neg (by simp)]; simp only [Res.bind_bad]; exact ⟨a, by rw [want_no h]⟩
  · intro i; exact ⟨a, rfl⟩
/-- behind a sign that must be here -/
theorem Sim.wants {β : Type} (l : List Tok) (s : Bs) {f : Nat → Res β} {g : FR β} (h : Sim f g) : Sim (fun i => (wantM l s i).bind fun _ j => f j) (fun st => g (wantR l s st)) := by
  constructor
  · intro i
    unfold wantM
    cases hs : isSignM (tokAt l i) s with
    | true => rw [if_pos rfl]; simp only [Res.bind_ok]; rw [want_yes hs]; exact h.go (i + 1)
    | false =>
      rw [if_neg (by simp)]; simp only [Res.bind_bad]
      rw [want_no hs]
      exact h.stop i
  · intro i; rw [want_wrong]; exact h.stop i
theorem Sim.ifs {β : Type} (l : List Tok) (s : Bs) {f f' : Nat → Res β} {g g' : FR β} (h : Sim f g) (h' : Sim f' g') :
    Sim (fun i => if isSignM (tokAt l i) s then f (i + 1) else f' i) (fun st => if hereR l s st then g (takeR l s st) else g' (takeR l s st)) := by
  constructor
  · intro i
    cases hs : isSignM (tokAt l i) s with
    | true => simp only [here_right, hs, if_true, take_yes hs]; exact h.go (i + 1)
    | false => simp only [here_right, hs, take_no hs, Bool.false_eq_true, if_false]; exact h'.go i
  · intro i
    simp only [here_wrong, take_wrong, Bool.false_eq_true, if_false]
    exact h'.stop i
/-- names: those of the tokens are right if they are short -/
def Names (l : List Tok) : Prop := ∀ i, (tokAt l i).kind = 0 → isNameM (tokAt l i).text = decide ((tokAt l i).text.length ≤ 10)
theorem Sim.name {l : List Tok} (hn : Names l) {β : Type} {f : Bs → Nat → Res β} {g : Bs → FR β} (h : ∀ s, Sim (f s) (g s)) : Sim (fun i => (nameM l i).bind f) (fun st => g (nameR l st).1 (nameR l st).2) := by
  have hE : ∀ i, ((tokAt l i).kind == 0 && isNameM (tokAt l i).text) = isNameR l (i, false) := by
    intro i
    simp only [isNameR, Bool.not_false, Bool.true_and]
    by_cases hk : (tokAt l i).kind = 0
    · rw [hn i hk]
    · have hk' : ((tokAt l i).kind == 0) = false := by simpa using hk
      rw [hk']; rfl
  constructor
  · intro i
    show SimGo ((nameM l i).bind f) (g (nameR l (i, false)).1 (nameR l (i, false)).2)
    simp only [nameM, nameR, hE]
    cases hs : isNameR l (i, false) with
    | true => simp only [if_true, Res.bind_ok]; exact (h _).go (i + 1)
    | false => simp only [Bool.false_eq_true, if_false, Res.bind_bad]; exact (h _).stop i
  · intro i; simp only [name_wrong]; exact (h _).stop i
theorem Sim.oper (l : List Tok) (k : Nat) (L : List Bs) (m : Bs → Bs) (hL : (lvl k).map Prod.fst = L) (hT : ∀ p ∈ lvl k, m p.1 = p.2) (hm : ∀ s ∈ L, s ≠ [] ∧ m s ≠ []) {β : Type} {f : Nat → Res β} {g : FR β} {f' : Bs → Nat → Res β} {g' : Bs → FR β}
    (h : Sim f g) (h' : ∀ s, Sim (f' s) (g' s)) : Sim (fun i => if (operM l k i).isEmpty then f i else f' (operM l k i) (i + 1)) (fun st => if (signOf l L st).isEmpty then g (signR l L st).2 else g' (m (signOf l L st)) (signR l L st).2) := by
  constructor
  · intro i
    rcases oper_sign l i k L m hL hT hm with ⟨h1, h2⟩ | ⟨h1, h2, h3⟩
    · simp only [h1, h2, List.isEmpty_nil, if_true, signR, stepM_nil]
      exact h.go i
    · have e1 : (operM l k i).isEmpty = false := by simpa using h3
      have e2 : (signOf l L (i, false)).isEmpty = false := by simpa using h1
      simp only [e1, e2, Bool.false_eq_true, if_false, signR, stepM_ne h1]
      rw [← h2]
      exact (h' _).go (i + 1)
  · intro i
    simp only [signOf_wrong, signR_wrong, List.isEmpty_nil, if_true]
    exact h.stop i

theorem sim_loop {l : List Tok} {k : Nat} {L : List Bs} (hL : (lvl k).map Prod.fst = L) (hT : ∀ p ∈ lvl k, p.1 = p.2) (hm : ∀ s ∈ L, s ≠ []) {f : Nat → Res Ex} {g : FR Ex} (h : Sim f g) : ∀ n x, Sim (joinLoop l k f n x) (loopR l L g (n + 1) x) := by
  intro n
  induction n with
  | zero =>
    intro x
    refine ⟨fun i => trivial, fun i => ⟨x, ?_⟩⟩
    simp [loopR, signOf_wrong, signR_wrong]
  | succ n ih =>
    intro x
    have h1 := Sim.oper l k L id hL (by simpa using hT) (fun s hs => ⟨hm s hs, hm s hs⟩) (Sim.pure x) (fun s => h.bind fun y => ih (binE s x y))
    exact h1
theorem sim_join {l : List Tok} {k : Nat} {L : List Bs} (hL : (lvl k).map Prod.fst = L) (hT : ∀ p ∈ lvl k, p.1 = p.2) (hm : ∀ s ∈ L, s ≠ []) {f : Nat → Res Ex} {g : FR Ex} (h : Sim f g) (n : Nat) : Sim (joinM l k n f) (chainR l L (n + 1) g) :=
  h.bind fun x => sim_loop hL hT hm h n x

theorem notL_sign (l : List Tok) (i : Nat) : (signOf l notL (i, false)).isEmpty = !(isSignM (tokAt l i) [46, 78, 79, 84, 46] || isSignM (tokAt l i) [33]) := by
  unfold signOf notL
  simp only [Bool.false_eq_true, if_false, List.find?_cons, List.find?_nil]
  cases isSignM (tokAt l i) [46, 78, 79, 84, 46] <;> cases isSignM (tokAt l i) [33] <;> rfl
theorem sim_not {l : List Tok} {f : Nat → Res Ex} {g : FR Ex} (h : Sim f g) : ∀ n, Sim (notM l f n) (notR l g (n + 1)) := by
  have hz : Sim (fun i => (f i).bind fun x j => if (operM l 2 j).isEmpty then .ok x j else (f (j + 1)).bind fun y k => .ok (binE (operM l 2 j) x y) k)
      (fun st => (g st).bind fun r => if (signOf l cmpL r.2).isEmpty then some (r.1, (signR l cmpL r.2).2) else (g (signR l cmpL r.2).2).bind fun q => some (binE (cmpS (signOf l cmpL r.2)) r.1 q.1, q.2)) :=
    h.bind fun x => Sim.oper l 2 cmpL cmpS (by decide) (by decide) (by decide) (β := Ex) (Sim.pure x) (fun s => h.bind fun y => Sim.pure (binE s x y))
  intro n
  induction n with
  | zero =>
    refine ⟨fun i => trivial, fun i => ?_⟩
    obtain ⟨x, hx⟩ := hz.stop i
    exact ⟨x, by simpa [notR, signOf_wrong, signR_wrong] using hx⟩
  | succ n ih =>
    constructor
    · intro i
      rw [notM, notR, notL_sign]
      cases hc : isSignM (tokAt l i) [46, 78, 79, 84, 46] || isSignM (tokAt l i) [33] with
      | true =>
        have he : signOf l notL (i, false) ≠ [] := by
          have := notL_sign l i; rw [hc] at this; intro e; rw [e] at this; simp at this
        simp only [if_true, Bool.not_true, Bool.false_eq_true, if_false, signR, stepM_ne he]
        exact (ih.bind fun x => Sim.pure (unE [46, 78, 79, 84, 46] x)).go (i + 1)
      | false =>
        have he : signOf l notL (i, false) = [] := by
          have := notL_sign l i; rw [hc] at this; simpa using this
        simp only [if_true, Bool.not_false, Bool.false_eq_true, if_false, signR, he, stepM_nil]
        exact hz.go i
    · intro i
      obtain ⟨x, hx⟩ := hz.stop i
      exact ⟨x, by simpa [notR, signOf_wrong, signR_wrong] using hx⟩

theorem oper5 (l : List Tok) (i : Nat) : operM l 5 i = if isSignM (tokAt l i) [94] then [94] else [] := by
  unfold operM isSignM opOf lvl
  cases (tokAt l i).kind == 4 with
  | false => simp
  | true =>
    simp only [if_true, Bool.true_and, List.lookup]
    cases (tokAt l i).text == [94] <;> rfl
theorem sim_pow {l : List Tok} {f : Nat → Res Ex} {g : FR Ex} (h : Sim f g) : ∀ n, Sim (powM l f n) (powR l g (n + 1)) := by
  intro n
  induction n with
  | zero =>
    refine ⟨fun i => trivial, fun i => ?_⟩
    obtain ⟨x, hx⟩ := h.stop i
    exact ⟨x, by simp [powR, hx, here_wrong, take_wrong]⟩
  | succ n ih =>
    have h1 := h.bind fun x => Sim.ifs l [94] (ih.bind fun y => Sim.pure (binE [94] x y)) (Sim.pure x)
    refine ⟨fun i => ?_, h1.stop⟩
    have h2 := h1.go i
    have e : (f i).bind (fun x j => if isSignM (tokAt l j) [94] then (powM l f n (j + 1)).bind fun y k => .ok (binE [94] x y) k else .ok x j) = powM l f (n + 1) i := by
      rw [powM]
      congr 1
      funext x j
      rw [oper5]
      cases isSignM (tokAt l j) [94] <;> simp
    rw [← e]
    exact h2

theorem sim_idx {l : List Tok} {f : Nat → Res Ex} {g : FR Ex} (h : Sim f g) : ∀ n N x, n < N → Sim (idxLoop l f n x) (idxR l g N x) := by
  intro n
  induction n with
  | zero =>
    intro N x hN
    obtain ⟨M, rfl⟩ : ∃ M, N = M + 1 := ⟨N - 1, by omega⟩
    exact ⟨fun i => trivial, fun i => ⟨x, by simp [idxR, here_wrong, take_wrong]⟩⟩
  | succ n ih =>
    intro N x hN
    obtain ⟨M, rfl⟩ : ∃ M, N = M + 1 := ⟨N - 1, by omega⟩
    exact Sim.ifs l [91] (h.bind fun y => Sim.wants l [93] (ih M (indexE x y) (by omega))) (Sim.pure x)
theorem sim_unary {l : List Tok} {f p : Nat → Res Ex} {g q : FR Ex} (h : Sim f g) (hp : Sim p q) (N : Nat) : ∀ n, n < N → Sim (unaryM l f p n) (unaryR l g q N (n + 1)) := by
  intro n
  induction n with
  | zero =>
    intro hN
    refine ⟨fun i => trivial, fun i => ?_⟩
    obtain ⟨x, hx⟩ := hp.stop i
    obtain ⟨M, rfl⟩ : ∃ M, N = M + 1 := ⟨N - 1, by omega⟩
    exact ⟨x, by simp [unaryR, idxR, hx, here_wrong, take_wrong]⟩
  | succ n ih =>
    intro hN
    exact Sim.ifs l [45] ((ih (by omega)).bind fun x => Sim.pure (unE [45] x)) (hp.bind fun x => sim_idx h n N x (by omega))

theorem sim_more {l : List Tok} {f : Nat → Res Ex} {g : FR Ex} (h : Sim f g) : ∀ n x, Sim (listLoop l f n x) (moreR l g (n + 1) x) := by
  intro n
  induction n with
  | zero => exact fun x => ⟨fun i => trivial, fun i => ⟨x, by simp [moreR, here_wrong, take_wrong]⟩⟩
  | succ n ih => exact fun x => Sim.ifs l [44] (h.bind fun y => ih (x.snoc y)) (Sim.pure x)
theorem sim_list {l : List Tok} {f : Nat → Res Ex} {g : FR Ex} (h : Sim f g) (n : Nat) : Sim (listM l f n) (listR l g (n + 1)) := h.bind fun x => sim_more h n _
theorem sim_namesMore {l : List Tok} (hn : Names l) : ∀ n x, Sim (namesLoop l n x) (namesMoreR l (n + 1) x) := by
  intro n
  induction n with
  | zero => exact fun x => ⟨fun i => trivial, fun i => ⟨x, by simp [namesMoreR, here_wrong, take_wrong]⟩⟩
  | succ n ih => exact fun x => Sim.ifs l [44] (Sim.name hn fun s => ih (x ++ [s])) (Sim.pure x)
theorem sim_names {l : List Tok} (hn : Names l) (n : Nat) : Sim (namesM l n) (namesR l (n + 1)) := Sim.name hn fun s => sim_namesMore hn n [s]

theorem sim_call {l : List Tok} (hn : Names l) {f : Nat → Res Ex} {g : FR Ex} (h : Sim f g) (n : Nat) :
    Sim (callM l f n) (fun st => (closedR l g (n + 1) [41] (wantR l [40] (nameR l st).2)).bind fun r => some (⟨hd0 3 (nameR l st).1, r.1⟩, r.2)) := by
  have h1 : ∀ s, Sim (fun j => if isSignM (tokAt l j) [41] then Res.ok (⟨hd0 3 s, .nil⟩ : Ex) (j + 1) else (listM l f n j).bind fun f k => (wantM l [41] k).bind fun _ k => .ok ⟨hd0 3 s, f⟩ k)
      (fun st => (closedR l g (n + 1) [41] st).bind fun r => some ((⟨hd0 3 s, r.1⟩ : Ex), r.2)) := by
    intro s
    have h2 := Sim.ifs l [41] (Sim.pure (⟨hd0 3 s, .nil⟩ : Ex)) ((sim_list (l := l) h n).bind fun f => Sim.want l [41] (⟨hd0 3 s, f⟩ : Ex))
    have e : (fun st => (closedR l g (n + 1) [41] st).bind fun r => some ((⟨hd0 3 s, r.1⟩ : Ex), r.2)) =
        (fun st => if hereR l [41] st then some ((⟨hd0 3 s, .nil⟩ : Ex), takeR l [41] st) else (listR l g (n + 1) (takeR l [41] st)).bind fun r => some ((⟨hd0 3 s, r.1⟩ : Ex), wantR l [41] r.2)) := by
      funext st
      unfold closedR
      cases hereR l [41] st with
      | true => rfl
      | false => simp only [Bool.false_eq_true, if_false]; rw [Option.bind_assoc]; rfl
    rw [e]
    exact h2
  exact Sim.name hn fun s => Sim.wants l [40] (h1 s)

theorem sim_macro {l : List Tok} (hn : Names l) {f : Nat → Res Ex} {g : FR Ex} (h : Sim f g) : Sim (macroM l f) (macroR l g) := by
  have h1 := Sim.wants l [38] (Sim.ifs l [40] (h.bind fun x => Sim.want l [41] (⟨hd0 9 [], .one x⟩ : Ex)) (Sim.name hn (f := fun s j => Res.ok (⟨hd0 9 s, .nil⟩ : Ex) (if isSignM (tokAt l j) [46] then j + 1 else j)) (g := fun s st => some (⟨hd0 9 s, .nil⟩, takeR l [46] st)) (fun s => ?_)))
  · exact h1
  · constructor
    · intro i
      cases hs : isSignM (tokAt l i) [46] with
      | true => simp only [if_true]; rw [take_yes hs]; rfl
      | false => simp only [Bool.false_eq_true, if_false]; rw [take_no hs]; rfl
    · exact fun i => ⟨_, rfl⟩

theorem sim_named {l : List Tok} (hn : Names l) {f : Nat → Res Ex} {g : FR Ex} (h : Sim f g) (n : Nat) : Sim (namedM l f n) (namedR l g (n + 1)) := by
  have hc := sim_call hn h n
  have hv := Sim.name hn fun s => Sim.ifs l [45, 62] (Sim.ifs l [40] (h.bind fun x => Sim.want l [41] (⟨hd0 2 s, .one x⟩ : Ex)) (Sim.name hn fun t => Sim.pure (⟨hd0 2 s, .one (nameE t)⟩ : Ex))) (Sim.pure (nameE s))
  constructor
  · intro i
    unfold namedM namedR
    cases hs : isSignM (tokAt l (i + 1)) [40] with
    | true => simp only [if_true]; exact hc.go i
    | false => simp only [Bool.false_eq_true, if_false]; exact hv.go i
  · intro i
    unfold namedR
    cases hs : isSignM (tokAt l (i + 1)) [40] with
    | true => simp only [if_true]; exact hc.stop i
    | false => simp only [hs, Bool.false_eq_true, if_false]; exact hv.stop i

theorem sim_braced {l : List Tok} (hn : Names l) {f : Nat → Res Ex} {g : FR Ex} (h : Sim f g) (n : Nat) : Sim (bracedM l f n) (bracesR l g (n + 1)) := by
  have hp := Sim.ifs l [124] (Sim.pure ([] : List Bs)) ((sim_names hn n).bind fun p => Sim.want l [124] p)
  have hb := Sim.ifs l [124] (hp.bind fun p => h.bind fun x => Sim.want l [125] (⟨⟨8, [], 0, 0, [], p⟩, .one x⟩ : Ex)) ((sim_list (l := l) h n).bind fun f => Sim.want l [125] (⟨hd0 7 [], f⟩ : Ex))
  exact hb

theorem signOf_mem {l : List Tok} {L : List Bs} {i : Nat} {s : Bs} (hs : s ∈ L) (hne : s ≠ []) : isSignM (tokAt l i) s = decide (signOf l L (i, false) = s) := by
  unfold signOf
  simp only [Bool.false_eq_true, if_false]
  cases hf : L.find? (isSignM (tokAt l i)) with
  | none =>
    rw [List.find?_eq_none] at hf
    have := hf s hs
    simp only [Option.getD_none]
    simp [Bool.eq_false_iff.2 this, hne.symm]
  | some t =>
    have h1 := List.find?_some hf
    simp only [Option.getD_some]
    simp only [isSignM, Bool.and_eq_true, beq_iff_eq] at h1
    by_cases e : t = s
    · subst e; simp [isSignM, h1.1, h1.2]
    · simp [isSignM, h1.2, e]

theorem sim_signed {l : List Tok} (hn : Names l) {f : Nat → Res Ex} {g : FR Ex} (h : Sim f g) (n i : Nat) (h38 : isSignM (tokAt l i) [38] = false) : SimGo (signedM l f n i) (signedR l g (n + 1) (i, false)) := by
  unfold signedM signedR
  rw [h38, signOf_mem (L := primL) (s := [46, 84, 46]) (by decide) (by decide), signOf_mem (L := primL) (s := [46, 70, 46]) (by decide) (by decide), signOf_mem (L := primL) (s := [46, 78, 85, 76, 76, 46]) (by decide) (by decide),
    signOf_mem (L := primL) (s := [40]) (by decide) (by decide), signOf_mem (L := primL) (s := [64]) (by decide) (by decide), signOf_mem (L := primL) (s := [123]) (by decide) (by decide)]
  have hstep : signOf l primL (i, false) ≠ [] → (signR l primL (i, false)).2 = (i + 1, false) := fun hne => by simp only [signR, stepM_ne hne]
  have hstop : signOf l primL (i, false) = [] → (signR l primL (i, false)).2 = (i, false) := fun hne => by simp only [signR, hne, stepM_nil]
  have hin : signOf l primL (i, false) = [] ∨ signOf l primL (i, false) ∈ primL := by
    unfold signOf
    simp only [Bool.false_eq_true, if_false]
    cases hf : primL.find? (isSignM (tokAt l i)) with
    | none => left; rfl
    | some t => right; exact List.mem_of_find?_eq_some hf
  simp only [Bool.false_eq_true, if_false, decide_eq_true_eq]
  generalize signOf l primL (i, false) = S at *
  have hS : S = [] ∨ S = [46, 84, 46] ∨ S = [46, 70, 46] ∨ S = [46, 78, 85, 76, 76, 46] ∨ S = [40] ∨ S = [123] ∨ S = [64] := by
    rcases hin with h | h
    · exact .inl h
    · right; simpa [primL] using h
  rcases hS with rfl | rfl | rfl | rfl | rfl | rfl | rfl
  · rw [hstop rfl]
    simp [simGo_bad]
  · rw [hstep (by decide)]; simp [simGo_ok]
  · rw [hstep (by decide)]; simp [simGo_ok]
  · rw [hstep (by decide)]; simp [simGo_ok, zeroEx, constE, hd0]
  · rw [hstep (by decide)]
    simp only [show (([40] : Bs) = [46, 84, 46]) = False by decide +kernel, show (([40] : Bs) = [46, 70, 46]) = False by decide +kernel, show (([40] : Bs) = [46, 78, 85, 76, 76, 46]) = False by decide +kernel, if_false, if_true]
    exact (h.bind fun x => Sim.want l [41] x).go (i + 1)
  · rw [hstep (by decide)]
    simp only [show (([123] : Bs) = [46, 84, 46]) = False by decide +kernel, show (([123] : Bs) = [46, 70, 46]) = False by decide +kernel, show (([123] : Bs) = [46, 78, 85, 76, 76, 46]) = False by decide +kernel, show (([123] : Bs) = [40]) = False by decide +kernel, show (([123] : Bs) = [64]) = False by decide +kernel, if_false, if_true]
    exact (sim_braced hn h n).go (i + 1)
  · rw [hstep (by decide)]
    simp only [show (([64] : Bs) = [46, 84, 46]) = False by decide +kernel, show (([64] : Bs) = [46, 70, 46]) = False by decide +kernel, show (([64] : Bs) = [46, 78, 85, 76, 76, 46]) = False by decide +kernel, show (([64] : Bs) = [40]) = False by decide +kernel, show (([64] : Bs) = [123]) = False by decide +kernel, if_false, if_true]
    exact (Sim.name hn fun s => Sim.pure (⟨hd0 10 s, .nil⟩ : Ex)).go (i + 1)

theorem sim_prim {l : List Tok} (hn : Names l) (day : Bs → Int) {f : Nat → Res Ex} {g : FR Ex} (h : Sim f g) (n : Nat) : Sim (primM l day f n) (primR l day g (n + 1)) := by
  constructor
  · intro i
    unfold primM primR
    simp only [Bool.false_eq_true, if_false, beq_iff_eq]
    by_cases h1 : (tokAt l i).kind = 1
    · simp [h1, nextR, simGo_ok]
    by_cases h2 : (tokAt l i).kind = 2
    · simp only [h2, show ((2 : Int) = 1) = False by decide +kernel, show ((2 : Int) = 3) = False by decide +kernel, show ((2 : Int) = 0) = False by decide +kernel, if_false, if_true, true_and]
      by_cases hl : (tokAt l i).text.length ≤ 2048
      · rw [if_neg (by omega), if_pos hl]
        simp [nextR, simGo_ok]
      · rw [if_pos (by omega), if_neg hl]
        have h38 : ∀ s, isSignM (tokAt l i) s = false := by intro s; simp [isSignM, h2]
        rw [h38]
        simp only [Bool.false_eq_true, if_false]
        have hs : signOf l primL (i, false) = [] := by
          unfold signOf
          simp only [Bool.false_eq_true, if_false]
          rw [List.find?_eq_none.2 (fun x _ => by rw [h38]; simp)]
          rfl
        exact ⟨zeroEx, by simp [signedR, signR, hs, stepM_nil]⟩
    by_cases h3 : (tokAt l i).kind = 3
    · simp [h3, nextR, simGo_ok]
    by_cases h0 : (tokAt l i).kind = 0
    · simp only [h0, show ((0 : Int) = 1) = False by decide +kernel, show ((0 : Int) = 2) = False by decide +kernel, show ((0 : Int) = 3) = False by decide +kernel, if_false, if_true, false_and]
      exact (sim_named hn h n).go i
    simp only [h1, h2, h3, h0, if_false, false_and]
    cases h38 : isSignM (tokAt l i) [38] with
    | true =>
      have : signedM l f n i = macroM l f i := by unfold signedM; rw [h38, if_pos rfl]
      rw [this]
      simp only [if_true]
      exact (sim_macro hn h).go i
    | false =>
      simp only [Bool.false_eq_true, if_false]
      exact sim_signed hn h n i h38
  · intro i
    exact ⟨zeroEx, by simp [primR]⟩

theorem stepR_stop (l : List Tok) (day : Bs → Int) (g : FR Ex) (i : Nat) : stepR l day g 1 (i, true) = some (zeroEx, (i, true)) := by
  simp [stepR, chainR, loopR, notR, sumR, powR, unaryR, idxR, primR, signOf_wrong, signR_wrong, here_wrong, take_wrong]
theorem sim_expr {l : List Tok} (hn : Names l) (day : Bs → Int) : ∀ n, Sim (exprM l day n) (exprR l day n) := by
  intro n
  induction n with
  | zero => exact ⟨fun i => trivial, fun i => ⟨zeroEx, stepR_stop _ _ _ _⟩⟩
  | succ n ih =>
    exact sim_join (k := 0) (by decide) (by decide) (by decide) (sim_join (k := 1) (by decide) (by decide) (by decide) (sim_not (sim_join (k := 3) (by decide) (by decide) (by decide) (sim_join (k := 4) (by decide) (by decide) (by decide) (sim_pow (sim_unary ih (sim_prim hn day ih n) (n + 1) n (by omega)) n) n) n) n) n) n

end Go.Proofs.YtmcajbhljbbglaaGreatDoor
