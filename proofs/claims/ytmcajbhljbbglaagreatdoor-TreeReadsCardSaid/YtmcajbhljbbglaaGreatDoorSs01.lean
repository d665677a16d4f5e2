/-
  Plain laws of my own over the model's worlds: a world that has grown ('grownBy'), and what cells read behind it. No program.
  Plain laws: tokens, expressions as trees, and the grammar of expressions as plain functions over lists of tokens. No program, no world.
  What the memory of the parser holds: a row of tokens, a row of texts, the parser's own block; and how a call of the parser ends.
-/
import Derived.WalkKit
import Derived.BigQuiet
import Derived.Deep.QuietTactic
import Derived.WalkSpells
import Derived.StillTailTactics
import Derived.WalkLawsBesides
import Derived.Lib.Hide
import Derived.Deep.RegionWith
import Derived.Deep.RegionHeld3
set_option linter.all false
set_option linter.unusedVariables false
set_option linter.unusedSimpArgs false
set_option linter.unnecessarySimpa false
set_option linter.constructorNameAsVariable false
set_option linter.deprecated false

namespace Go.Proofs.YtmcajbhljbbglaaGreatDoor
open Go.RowKit

/-! ### grownBy -/
theorem gb_refl (w : World) (r : Option Nat) : w.grownBy w r := ⟨rfl, rfl, rfl, Nat.le_refl _, fun _ _ _ => rfl⟩
theorem gb_trans {w w1 w2 : World} {r : Option Nat} (h : w.grownBy w1 r) (k : w1.grownBy w2 r) : w.grownBy w2 r :=
  ⟨k.os.trans h.os, k.tape.trans h.tape, k.output.trans h.output, Nat.le_trans h.size k.size, fun i hi hr => (k.block i (Nat.lt_of_lt_of_le hi h.size) hr).trans (h.block i hi hr)⟩
theorem gb_none {w w1 : World} {r : Option Nat} (h : w.grownBy w1 none) : w.grownBy w1 r :=
  ⟨h.os, h.tape, h.output, h.size, fun i hi _ => h.block i hi (by simp)⟩
theorem gb_alloc {w w1 : World} {r : Option Nat} (h : w.grownBy w1 r) (o : Obj) : w.grownBy (w1.alloc o) r :=
  gb_trans h (World.grownBy_alloc w1 o r)
theorem gb_drew {w w1 : World} {r : Option Nat} (h : w.grownBy w1 r) : w.grownBy w1.drew r := ⟨h.os, h.tape, h.output, h.size, h.block⟩
theorem gb_drewN {w w1 : World} {r : Option Nat} (h : w.grownBy w1 r) (n : Nat) : w.grownBy (w1.drewN n) r := ⟨h.os, h.tape, h.output, h.size, h.block⟩
theorem gb_set {w w1 : World} {r : Option Nat} (h : w.grownBy w1 r) (a : Addr) (v : Value) (ha : some a.block = r ∨ w.heap.size ≤ a.block) : w.grownBy (w1.setCell a v) r := by
  refine ⟨h.os, h.tape, h.output, ?_, fun i hi hr => ?_⟩
  · simp [World.setCell]; exact h.size
  · have hne : i ≠ a.block := by
      rintro rfl
      rcases ha with ha | ha
      · exact hr ha
      · omega
    rw [Below.heap_setCell _ _ _ _ hne]
    exact h.block i hi hr
theorem gb_sub {w w1 w2 : World} {r : Option Nat} (h : w.grownBy w1 r) (k : w1.grownBy w2 none) : w.grownBy w2 r := gb_trans h (gb_none k)
/-- a block that lies beyond w may be written -/
theorem gb_sub' {w w1 w2 : World} {r : Option Nat} {b : Nat} (h : w.grownBy w1 r) (k : w1.grownBy w2 (some b)) (hb : some b = r ∨ w.heap.size ≤ b) : w.grownBy w2 r :=
  ⟨k.os.trans h.os, k.tape.trans h.tape, k.output.trans h.output, Nat.le_trans h.size k.size, fun i hi hr => (k.block i (Nat.lt_of_lt_of_le hi h.size) (by
    intro e
    rcases hb with hb | hb
    · exact hr (e.trans hb)
    · cases e; omega)).trans (h.block i hi hr)⟩
theorem gb_cell {w w1 : World} {r : Option Nat} (h : w.grownBy w1 r) {k i : Nat} {v : Value} (c : w.cell? ⟨k, i, none⟩ = some v) (hk : some k ≠ r) : w1.cell? ⟨k, i, none⟩ = some v := h.cell c hk
theorem gb_cellN {w w1 : World} (h : w.grownBy w1 none) {k i : Nat} {v : Value} (c : w.cell? ⟨k, i, none⟩ = some v) : w1.cell? ⟨k, i, none⟩ = some v := h.cell c (by simp)
theorem gb_frozen {w w1 : World} {r : Option Nat} (h : w.grownBy w1 r) {k i : Nat} (hk : some k ≠ r) (hl : k < w.heap.size) : w1.frozen? ⟨k, i, none⟩ = w.frozen? ⟨k, i, none⟩ :=
  World.frozen?_of_block (h.block k hl hk)
theorem gb_block {w w1 : World} {r : Option Nat} (h : w.grownBy w1 r) {k : Nat} {o : Obj} (c : w.heap[k]? = some o) (hk : some k ≠ r) : w1.heap[k]? = some o :=
  (h.block k (Array.getElem?_eq_some_iff.1 c).1 hk).trans c
theorem gb_below {w w1 : World} (h : w.grownBy w1 none) : Below w.heap.size w w1 := ⟨h.os, h.tape, h.output, h.size, fun k hk => h.block k hk (by simp)⟩
theorem gb_of_below {w w1 : World} (h : Below w.heap.size w w1) : w.grownBy w1 none := ⟨h.os, h.tape, h.output, h.size, fun k hk _ => h.block k hk⟩

/-! ### whole blocks -/
/-- block k of w holds just these cells, none frozen -/
def Blk (w : World) (k : Nat) (cs : List Value) (t : TypeId) : Prop := w.heap[k]? = some (.cells cs.toArray t (0, 0))
theorem Blk.lt {w : World} {k : Nat} {cs : List Value} {t : TypeId} (h : Blk w k cs t) : k < w.heap.size := (Array.getElem?_eq_some_iff.1 h).1
theorem Blk.cell {w : World} {k : Nat} {cs : List Value} {t : TypeId} (h : Blk w k cs t) (i : Nat) : w.cell? ⟨k, i, none⟩ = cs[i]? := by
  simp only [World.cell?, show w.heap[k]? = some (.cells cs.toArray t (0, 0)) from h]; simp
theorem Blk.cell' {w : World} {k : Nat} {cs : List Value} {t : TypeId} (h : Blk w k cs t) (i : Nat) {v : Value} (e : cs[i]? = some v) : w.cell? ⟨k, i, none⟩ = some v := (h.cell i).trans e
theorem Blk.frozen {w : World} {k : Nat} {cs : List Value} {t : TypeId} (h : Blk w k cs t) (i : Nat) : w.frozen? ⟨k, i, none⟩ = false := by
  simp only [World.frozen?, show w.heap[k]? = some (.cells cs.toArray t (0, 0)) from h]; simp
theorem Blk.alloc {w : World} {k : Nat} {cs : List Value} {t : TypeId} (h : Blk w k cs t) (o : Obj) : Blk (w.alloc o) k cs t :=
  (Below.heap_alloc w o k h.lt).trans h
theorem Blk.new (w : World) (cs : List Value) (t : TypeId) : Blk (w.alloc (.cells cs.toArray t (0, 0))) w.heap.size cs t := heap_alloc_new w _
theorem Blk.drew {w : World} {k : Nat} {cs : List Value} {t : TypeId} (h : Blk w k cs t) : Blk w.drew k cs t := h
theorem Blk.drewN {w : World} {k : Nat} {cs : List Value} {t : TypeId} (h : Blk w k cs t) (n : Nat) : Blk (w.drewN n) k cs t := h
theorem Blk.set {w : World} {k : Nat} {cs : List Value} {t : TypeId} (h : Blk w k cs t) (i : Nat) (v : Value) : Blk (w.setCell ⟨k, i, none⟩ v) k (cs.set i v) t := by
  have h' : w.heap[k]? = some (.cells cs.toArray t (0, 0)) := h
  simp [Blk, World.setCell, Array.getElem?_modify, h']
theorem Blk.set_other {w : World} {k : Nat} {cs : List Value} {t : TypeId} (h : Blk w k cs t) (a : Addr) (v : Value) (hne : k ≠ a.block) : Blk (w.setCell a v) k cs t :=
  (Below.heap_setCell w a v k hne).trans h
theorem Blk.gb {w w1 : World} {r : Option Nat} {k : Nat} {cs : List Value} {t : TypeId} (h : Blk w k cs t) (g : w.grownBy w1 r) (hk : some k ≠ r) : Blk w1 k cs t := gb_block g h hk
theorem Blk.of_eq {w : World} {k k' : Nat} {cs cs' : List Value} {t : TypeId} (h : Blk w k cs t) (e : k = k') (e' : cs = cs') : Blk w k' cs' t := e ▸ e' ▸ h

/-- for 'go_region_with', which wants one goal left behind a call: a call that panics ends the region; what is left is an empty region -/
theorem dummyAny {P : Program} {G : Prop} (h : G) (a : Act) (w : World) : wpAny P .any #[] (fun _ _ _ => True) 0 #[] a w → G := fun _ => h

end Go.Proofs.YtmcajbhljbbglaaGreatDoor

namespace Go.Proofs.YtmcajbhljbbglaaGreatDoor

abbrev Bs := List UInt8

structure Tok where
  kind : Int
  pos : Int
  text : Bs
  deriving DecidableEq

/-- what an expression's node has beside its operands -/
structure Hd where
  op : Int
  s : Bs
  vk : Int
  vn : Int
  vs : Bs
  p : List Bs
  deriving DecidableEq

/-- a row of expressions: the first one's head, its operands, and the row's rest -/
inductive Fo where
  | nil
  | cons (h : Hd) (kids next : Fo)

structure Ex where
  h : Hd
  kids : Fo

def Fo.len : Fo → Nat
  | .nil => 0
  | .cons _ _ next => next.len + 1
def Fo.app : Fo → Fo → Fo
  | .nil, g => g
  | .cons h k n, g => .cons h k (n.app g)
def Ex.fo (x : Ex) (next : Fo) : Fo := .cons x.h x.kids next
def Fo.snoc (f : Fo) (x : Ex) : Fo := f.app (x.fo .nil)
def Fo.one (x : Ex) : Fo := x.fo .nil
def Fo.two (x y : Ex) : Fo := x.fo (y.fo .nil)

theorem Fo.len_app (f g : Fo) : (f.app g).len = f.len + g.len := by
  induction f with
  | nil => simp [Fo.app, Fo.len]
  | cons h k n _ ih => simp [Fo.app, Fo.len, ih]; omega
theorem Fo.len_snoc (f : Fo) (x : Ex) : (f.snoc x).len = f.len + 1 := by simp [Fo.snoc, Fo.len_app, Ex.fo, Fo.len]

/-- how a reading of tokens ends: with something, and the next token's number; at a token that does not fit; or the fuel is used up -/
inductive Res (α : Type) where
  | ok (a : α) (i : Nat)
  | bad (k : Nat)
  | out

def Res.bind {α β : Type} : Res α → (α → Nat → Res β) → Res β
  | .ok a i, f => f a i
  | .bad k, _ => .bad k
  | .out, _ => .out

theorem Res.bind_ok {α β : Type} (a : α) (i : Nat) (f : α → Nat → Res β) : (Res.ok a i).bind f = f a i := rfl
theorem Res.bind_bad {α β : Type} (k : Nat) (f : α → Nat → Res β) : (Res.bad k).bind f = .bad k := rfl
theorem Res.bind_out {α β : Type} (f : α → Nat → Res β) : (Res.out).bind f = .out := rfl

def tokAt (l : List Tok) (i : Nat) : Tok := (l[i]?).getD ⟨-1, 0, []⟩
def isSignM (t : Tok) (s : Bs) : Bool := t.kind == 4 && t.text == s

/-- a byte of a name -/
def nameByte (b : UInt8) : Bool := (65 ≤ b && b ≤ 90) || (48 ≤ b && b ≤ 57) || b == 95
def isNameM (s : Bs) : Bool := !s.isEmpty && decide (s.length ≤ 10) && !(match s with | b :: _ => (48 ≤ b && b ≤ 57) | [] => false) && s.all nameByte

def wantM (l : List Tok) (s : Bs) (i : Nat) : Res Unit := if isSignM (tokAt l i) s then .ok () (i + 1) else .bad i
def endM (l : List Tok) (i : Nat) : Res Unit := if (tokAt l i).kind == 5 then .ok () (i + 1) else .bad i
def nameM (l : List Tok) (i : Nat) : Res Bs := if (tokAt l i).kind == 0 && isNameM (tokAt l i).text then .ok (tokAt l i).text (i + 1) else .bad i

/-! ### nodes -/
def hd0 (op : Int) (s : Bs) : Hd := ⟨op, s, 0, 0, [], []⟩
def constE (vk vn : Int) (vs : Bs) : Ex := ⟨⟨0, [], vk, vn, vs, []⟩, .nil⟩
def nameE (s : Bs) : Ex := ⟨hd0 1 s, .nil⟩
def binE (s : Bs) (a b : Ex) : Ex := ⟨hd0 5 s, .two a b⟩
def unE (s : Bs) (a : Ex) : Ex := ⟨hd0 4 s, .one a⟩
def indexE (a b : Ex) : Ex := ⟨hd0 6 [], .two a b⟩

/-! ### operators of a level, by their signs; [] for none -/
def lvl (k : Nat) : List (Bs × Bs) :=
  match k with
  | 0 => [([46, 79, 82, 46], [46, 79, 82, 46])]
  | 1 => [([46, 65, 78, 68, 46], [46, 65, 78, 68, 46])]
  | 2 => [([61], [61]), ([61, 61], [61, 61]), ([60, 62], [60, 62]), ([35], [60, 62]), ([33, 61], [60, 62]), ([60], [60]), ([62], [62]), ([60, 61], [60, 61]), ([62, 61], [62, 61]), ([36], [36])]
  | 3 => [([43], [43]), ([45], [45])]
  | 4 => [([42], [42]), ([47], [47]), ([37], [37])]
  | _ => [([94], [94])]
def opOf (k : Nat) (s : Bs) : Bs := ((lvl k).lookup s).getD []
/-- the place behind an operator, if there was one -/
def stepM (s : Bs) (i : Nat) : Nat := if s.isEmpty then i else i + 1
theorem stepM_nil (i : Nat) : stepM [] i = i := rfl
theorem stepM_ne {s : Bs} (h : s ≠ []) (i : Nat) : stepM s i = i + 1 := by unfold stepM; rw [if_neg (by simpa using h)]
def operM (l : List Tok) (level i : Nat) : Bs := if (tokAt l i).kind == 4 then opOf level (tokAt l i).text else []

/-! ### the grammar, with fuel -/
def joinLoop (l : List Tok) (level : Nat) (opnd : Nat → Res Ex) : Nat → Ex → Nat → Res Ex
  | 0, _, _ => .out
  | n + 1, x, i => if (operM l level i).isEmpty then .ok x i else (opnd (i + 1)).bind fun y j => joinLoop l level opnd n (binE (operM l level i) x y) j
def joinM (l : List Tok) (level n : Nat) (opnd : Nat → Res Ex) (i : Nat) : Res Ex := (opnd i).bind fun x j => joinLoop l level opnd n x j

def notM (l : List Tok) (sum : Nat → Res Ex) : Nat → Nat → Res Ex
  | 0, _ => .out
  | n + 1, i =>
    if isSignM (tokAt l i) [46, 78, 79, 84, 46] || isSignM (tokAt l i) [33] then (notM l sum n (i + 1)).bind fun x j => .ok (unE [46, 78, 79, 84, 46] x) j
    else (sum i).bind fun x j => if (operM l 2 j).isEmpty then .ok x j else (sum (j + 1)).bind fun y k => .ok (binE (operM l 2 j) x y) k

def powM (l : List Tok) (un : Nat → Res Ex) : Nat → Nat → Res Ex
  | 0, _ => .out
  | n + 1, i => (un i).bind fun x j => if (operM l 5 j).isEmpty then .ok x j else (powM l un n (j + 1)).bind fun y k => .ok (binE (operM l 5 j) x y) k

def idxLoop (l : List Tok) (expr : Nat → Res Ex) : Nat → Ex → Nat → Res Ex
  | 0, _, _ => .out
  | n + 1, x, i => if isSignM (tokAt l i) [91] then (expr (i + 1)).bind fun y j => (wantM l [93] j).bind fun _ k => idxLoop l expr n (indexE x y) k else .ok x i

def unaryM (l : List Tok) (expr prim : Nat → Res Ex) : Nat → Nat → Res Ex
  | 0, _ => .out
  | n + 1, i => if isSignM (tokAt l i) [45] then (unaryM l expr prim n (i + 1)).bind fun x j => .ok (unE [45] x) j else (prim i).bind fun x j => idxLoop l expr n x j

/-- more expressions behind commas, and those that stand before them -/
def listLoop (l : List Tok) (expr : Nat → Res Ex) : Nat → Fo → Nat → Res Fo
  | 0, _, _ => .out
  | n + 1, acc, i => if isSignM (tokAt l i) [44] then (expr (i + 1)).bind fun y j => listLoop l expr n (acc.snoc y) j else .ok acc i
def listM (l : List Tok) (expr : Nat → Res Ex) (n i : Nat) : Res Fo := (expr i).bind fun x j => listLoop l expr n (.one x) j

def namesLoop (l : List Tok) : Nat → List Bs → Nat → Res (List Bs)
  | 0, _, _ => .out
  | n + 1, acc, i => if isSignM (tokAt l i) [44] then (nameM l (i + 1)).bind fun y j => namesLoop l n (acc ++ [y]) j else .ok acc i
def namesM (l : List Tok) (n i : Nat) : Res (List Bs) := (nameM l i).bind fun x j => namesLoop l n [x] j

def callM (l : List Tok) (expr : Nat → Res Ex) (n i : Nat) : Res Ex :=
  (nameM l i).bind fun s j => (wantM l [40] j).bind fun _ j =>
    if isSignM (tokAt l j) [41] then .ok ⟨hd0 3 s, .nil⟩ (j + 1) else (listM l expr n j).bind fun f k => (wantM l [41] k).bind fun _ k => .ok ⟨hd0 3 s, f⟩ k

def macroM (l : List Tok) (expr : Nat → Res Ex) (i : Nat) : Res Ex :=
  (wantM l [38] i).bind fun _ i =>
    if isSignM (tokAt l i) [40] then (expr (i + 1)).bind fun x j => (wantM l [41] j).bind fun _ j => .ok ⟨hd0 9 [], .one x⟩ j
    else (nameM l i).bind fun s j => .ok ⟨hd0 9 s, .nil⟩ (if isSignM (tokAt l j) [46] then j + 1 else j)

def bracedM (l : List Tok) (expr : Nat → Res Ex) (n i : Nat) : Res Ex :=
  if isSignM (tokAt l i) [124] then
    (if isSignM (tokAt l (i + 1)) [124] then .ok [] (i + 2) else (namesM l n (i + 1)).bind fun p j => (wantM l [124] j).bind fun _ j => .ok p j).bind fun p j =>
      (expr j).bind fun x j => (wantM l [125] j).bind fun _ j => .ok ⟨⟨8, [], 0, 0, [], p⟩, .one x⟩ j
  else (listM l expr n i).bind fun f j => (wantM l [125] j).bind fun _ j => .ok ⟨hd0 7 [], f⟩ j

def signedM (l : List Tok) (expr : Nat → Res Ex) (n i : Nat) : Res Ex :=
  if isSignM (tokAt l i) [38] then macroM l expr i
  else if isSignM (tokAt l i) [46, 84, 46] then .ok (constE 1 1 []) (i + 1)
  else if isSignM (tokAt l i) [46, 70, 46] then .ok (constE 1 0 []) (i + 1)
  else if isSignM (tokAt l i) [46, 78, 85, 76, 76, 46] then .ok (constE 0 0 []) (i + 1)
  else if isSignM (tokAt l i) [40] then (expr (i + 1)).bind fun x j => (wantM l [41] j).bind fun _ j => .ok x j
  else if isSignM (tokAt l i) [64] then (nameM l (i + 1)).bind fun s j => .ok ⟨hd0 10 s, .nil⟩ j
  else if isSignM (tokAt l i) [123] then bracedM l expr n (i + 1)
  else .bad i

def namedM (l : List Tok) (expr : Nat → Res Ex) (n i : Nat) : Res Ex :=
  if isSignM (tokAt l (i + 1)) [40] then callM l expr n i
  else (nameM l i).bind fun s j =>
    if isSignM (tokAt l j) [45, 62] then
      if isSignM (tokAt l (j + 1)) [40] then (expr (j + 2)).bind fun x k => (wantM l [41] k).bind fun _ k => .ok ⟨hd0 2 s, .one x⟩ k
      else (nameM l (j + 1)).bind fun t k => .ok ⟨hd0 2 s, .one (nameE t)⟩ k
    else .ok (nameE s) j

/-- the number of a row of digits -/
def numM (s : Bs) : Int := s.foldl (fun n b => 10 * n + ((b.toNat : Int) - 48)) 0

def primM (l : List Tok) (day : Bs → Int) (expr : Nat → Res Ex) (n i : Nat) : Res Ex :=
  if (tokAt l i).kind == 1 then .ok (constE 2 (numM (tokAt l i).text) []) (i + 1)
  else if (tokAt l i).kind == 2 then (if (tokAt l i).text.length > 2048 then .bad i else .ok (constE 4 0 (tokAt l i).text) (i + 1))
  else if (tokAt l i).kind == 3 then .ok (constE 3 (day (tokAt l i).text) []) (i + 1)
  else if (tokAt l i).kind == 0 then namedM l expr n i
  else signedM l expr n i

def sumM (l : List Tok) (n : Nat) (pow : Nat → Res Ex) (i : Nat) : Res Ex := joinM l 3 n (joinM l 4 n pow) i

def exprM (l : List Tok) (day : Bs → Int) : Nat → Nat → Res Ex
  | 0, _ => .out
  | n + 1, i => joinM l 0 n (joinM l 1 n (notM l (sumM l n (powM l (unaryM l (exprM l day n) (primM l day (exprM l day n) n) n) n)) n)) i

end Go.Proofs.YtmcajbhljbbglaaGreatDoor

namespace Go.Proofs.YtmcajbhljbbglaaGreatDoor
open Go.RowKit

abbrev str (l : Bs) : Value := .string ⟨l.toArray⟩

/-- v is a slice of the tokens l, in blocks that 'ok' lets by -/
def TRow (w : World) (v : Value) (l : List Tok) (ok : Nat → Prop) : Prop :=
  ∃ a cap, v = .slice a l.length cap ∧ l.length ≤ cap ∧ cap ≤ maxLen ∧ ∀ j, j < l.length → ∃ lb lo, a = some ⟨lb, lo, none⟩ ∧ ok lb ∧
    w.cell? ⟨lb, lo + j * 3, none⟩ = some (.int .i64 (tokAt l j).kind) ∧ w.cell? ⟨lb, lo + j * 3 + 1, none⟩ = some (.int .i64 (tokAt l j).pos) ∧
    w.cell? ⟨lb, lo + j * 3 + 2, none⟩ = some (.string ⟨(tokAt l j).text.toArray⟩)

/-- v is a slice of the texts l -/
def SRow (w : World) (v : Value) (l : List Bs) (ok : Nat → Prop) : Prop :=
  ∃ a cap, v = .slice a l.length cap ∧ l.length ≤ cap ∧ cap ≤ maxLen ∧ ∀ j, j < l.length → ∃ lb lo, a = some ⟨lb, lo, none⟩ ∧ ok lb ∧
    w.cell? ⟨lb, lo + j, none⟩ = some (.string ⟨(l.getD j []).toArray⟩)

theorem TRow.gb {w w1 : World} {v : Value} {l : List Tok} {ok : Nat → Prop} {r : Option Nat} (h : TRow w v l ok) (g : w.grownBy w1 r) (hk : ∀ k, ok k → some k ≠ r) : TRow w1 v l ok := by
  obtain ⟨a, cap, e, h1, h2, h3⟩ := h
  refine ⟨a, cap, e, h1, h2, fun j hj => ?_⟩
  obtain ⟨lb, lo, ea, ho, c0, c1, c2⟩ := h3 j hj
  exact ⟨lb, lo, ea, ho, gb_cell g c0 (hk _ ho), gb_cell g c1 (hk _ ho), gb_cell g c2 (hk _ ho)⟩
theorem SRow.gb {w w1 : World} {v : Value} {l : List Bs} {ok : Nat → Prop} {r : Option Nat} (h : SRow w v l ok) (g : w.grownBy w1 r) (hk : ∀ k, ok k → some k ≠ r) : SRow w1 v l ok := by
  obtain ⟨a, cap, e, h1, h2, h3⟩ := h
  refine ⟨a, cap, e, h1, h2, fun j hj => ?_⟩
  obtain ⟨lb, lo, ea, ho, c0⟩ := h3 j hj
  exact ⟨lb, lo, ea, ho, gb_cell g c0 (hk _ ho)⟩

/-- the parser in block b: its tokens, where it is, the words of the grammar -/
structure Par (w : World) (b : Nat) (tv wv : Value) (l : List Tok) (wl : List Bs) (i : Nat) : Prop where
  blk : Blk w b [tv, .int .i64 i, wv, .slice none 0 0] 118
  toks : TRow w tv l (· < b)
  words : SRow w wv wl (· < b)
  le : i ≤ l.length
  few : l.length ≤ 4001

section
variable {w w1 : World} {b : Nat} {tv wv : Value} {l : List Tok} {wl : List Bs} {i : Nat}
theorem Par.lt (h : Par w b tv wv l wl i) : b < w.heap.size := h.blk.lt
theorem Par.c0 (h : Par w b tv wv l wl i) : w.cell? ⟨b, 0, none⟩ = some tv := h.blk.cell 0
theorem Par.c1 (h : Par w b tv wv l wl i) : w.cell? ⟨b, 1, none⟩ = some (.int .i64 i) := h.blk.cell 1
theorem Par.c2 (h : Par w b tv wv l wl i) : w.cell? ⟨b, 2, none⟩ = some wv := h.blk.cell 2
theorem Par.c3 (h : Par w b tv wv l wl i) : w.cell? ⟨b, 3, none⟩ = some (.slice none 0 0) := h.blk.cell 3
theorem Par.f1 (h : Par w b tv wv l wl i) : w.frozen? ⟨b, 1, none⟩ = false := h.blk.frozen 1
/-- the blocks that lie beyond the parser's own may be written -/
theorem Par.gb {r : Option Nat} (h : Par w b tv wv l wl i) (g : w.grownBy w1 r) (hr : ∀ k, r = some k → b < k) : Par w1 b tv wv l wl i :=
  ⟨h.blk.gb g (fun e => by have := hr _ e.symm; omega), h.toks.gb g (fun k hk e => by have := hr _ e.symm; omega), h.words.gb g (fun k hk e => by have := hr _ e.symm; omega), h.le, h.few⟩
theorem Par.gbN (h : Par w b tv wv l wl i) (g : w.grownBy w1 none) : Par w1 b tv wv l wl i := h.gb g (by simp)
theorem Par.alloc (h : Par w b tv wv l wl i) (o : Obj) : Par (w.alloc o) b tv wv l wl i := h.gbN (World.grownBy_alloc w o none)
theorem Par.drewN (h : Par w b tv wv l wl i) (n : Nat) : Par (w.drewN n) b tv wv l wl i := h.gbN (gb_drewN (gb_refl w none) n)
/-- the parser has gone to another token -/
theorem Par.go (h : Par w b tv wv l wl i) (j : Nat) (hj : j ≤ l.length) : Par (w.setCell ⟨b, 1, none⟩ (.int .i64 j)) b tv wv l wl j := by
  have g : w.grownBy (w.setCell ⟨b, 1, none⟩ (.int .i64 j)) (some b) := gb_set (gb_refl w _) _ _ (.inl rfl)
  exact ⟨(h.blk.set 1 (.int .i64 j)).of_eq rfl rfl, h.toks.gb g (by intro k hk; simp; omega), h.words.gb g (by intro k hk; simp; omega), hj, h.few⟩
theorem Par.goI (h : Par w b tv wv l wl i) (z : Int) (j : Nat) (hz : z = j) (hj : j ≤ l.length) : Par (w.setCell ⟨b, 1, none⟩ (.int .i64 z)) b tv wv l wl j := by
  subst hz; exact h.go j hj
theorem Par.tok (h : Par w b tv wv l wl i) {j : Nat} (hj : j < l.length) : ∃ lb lo cap, tv = .slice (some ⟨lb, lo, none⟩) l.length cap ∧ lb < w.heap.size ∧ lb ≠ b ∧
    w.cell? ⟨lb, lo + j * 3, none⟩ = some (.int .i64 (tokAt l j).kind) ∧ w.cell? ⟨lb, lo + j * 3 + 1, none⟩ = some (.int .i64 (tokAt l j).pos) ∧
    w.cell? ⟨lb, lo + j * 3 + 2, none⟩ = some (.string ⟨(tokAt l j).text.toArray⟩) := by
  obtain ⟨a, cap, e, _, _, h3⟩ := h.toks
  obtain ⟨lb, lo, ea, ho, c0, c1, c2⟩ := h3 j hj
  subst ea
  exact ⟨lb, lo, cap, e, World.block_lt_of_cell? w _ c0, Nat.ne_of_lt ho, c0, c1, c2⟩
theorem Par.tv_eq (h : Par w b tv wv l wl i) : ∃ a cap, tv = .slice a l.length cap := by
  obtain ⟨a, cap, e, _⟩ := h.toks
  exact ⟨a, cap, e⟩
end

/-- the value that 'fail' panics with -/
def stopV (i : Nat) : List PanicEntry := [{ v := .iface 115 (.agg #[.int .i64 i]), recovered := false }]

/-- how a reading ends: 'V' says of the value (in the new world) that it is what was read -/
def Post (b : Nat) (tv wv : Value) (l : List Tok) (wl : List Bs) (w : World) {α : Type} (V : World → Value → α → Prop) (r : Res α) (e : Ending) (w' : World) : Prop :=
  w.grownBy w' (some b) ∧ match r with
    | .ok a i => ∃ v, e = .returned v ∧ V w' v a ∧ Par w' b tv wv l wl i
    | .bad k => e = .panicked (stopV k)
    | .out => False

theorem Post.bad {b : Nat} {tv wv : Value} {l : List Tok} {wl : List Bs} {w w' : World} {α : Type} {V : World → Value → α → Prop} {r : Res α} {k : Nat} (g : w.grownBy w' (some b)) (hr : r = .bad k) : Post b tv wv l wl w V r (.panicked (stopV k)) w' := by
  subst hr; exact ⟨g, rfl⟩
theorem Post.ok {b : Nat} {tv wv : Value} {l : List Tok} {wl : List Bs} {w w' : World} {α : Type} {V : World → Value → α → Prop} {r : Res α} {a : α} {i : Nat} {v : Value} (g : w.grownBy w' (some b)) (hr : r = .ok a i) (hv : V w' v a) (hp : Par w' b tv wv l wl i) : Post b tv wv l wl w V r (.returned v) w' := by
  subst hr; exact ⟨g, v, rfl, hv, hp⟩

end Go.Proofs.YtmcajbhljbbglaaGreatDoor
