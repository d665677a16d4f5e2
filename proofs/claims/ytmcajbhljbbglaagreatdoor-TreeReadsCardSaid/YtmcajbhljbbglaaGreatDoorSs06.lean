/-
  Contracts of the parser: binary, joined.
  Contracts of the parser: expr, not, sum, pow.
  Contracts of the parser: pow, not.
-/
import Derived.Test.YtmcajbhljbbglaaGreatDoorSs05
import Derived.Test.YtmcajbhljbbglaaGreatDoorSs04
import Derived.Deep.LoopGhost
set_option linter.all false
set_option linter.unusedVariables false
set_option linter.unusedSimpArgs false
set_option linter.unnecessarySimpa false
set_option linter.constructorNameAsVariable false
set_option linter.deprecated false

namespace Go.Proofs.YtmcajbhljbbglaaGreatDoor
open Go.RowKit

theorem hd0_p (op : Int) (s : Bs) : (hd0 op s).p = [] := rfl

/-- a node without names: its operands alone matter -/
theorem VE.node {ok : Nat → Prop} {w : World} {op : Int} {s : Bs} {la : Option Addr} {lc : Nat} {f : Fo} (h : RepL ok w (.slice la f.len lc) f) : VE ok w (exV (hd0 op s) (.slice none 0 0) (.slice la f.len lc)) ⟨hd0 op s, f⟩ :=
  ⟨none, 0, la, lc, rfl, Cells.nil w 1 ok, h⟩

theorem Cells.new' {w : World} {cs : List Value} {t : TypeId} {size n m : Nat} {ok : Nat → Prop} (hm : m = w.heap.size) (h : cs.length = n * size) (hn : n ≤ maxLen) (hok : ok m) :
    Cells (w.alloc (.cells cs.toArray t (0, 0))) (.slice (some ⟨m, 0, none⟩) n n) size n cs ok := by
  subst hm
  refine ⟨_, _, rfl, Nat.le_refl _, hn, h, fun j u hj => ⟨w.heap.size, 0, rfl, hok, ?_⟩⟩
  rw [Nat.zero_add]
  exact (Blk.new w cs t).cell' j hj

/-- two expressions in a new block are a row of two -/
theorem RepL.two {w : World} {n : Nat} {ok : Nat → Prop} {x y : Ex} {px lx py ly : Value} (hn : n = w.heap.size) (hok : ok n) (px' : Cells w px 1 x.h.p.length (x.h.p.map str) ok) (lx' : RepL ok w lx x.kids) (py' : Cells w py 1 y.h.p.length (y.h.p.map str) ok) (ly' : RepL ok w ly y.kids) :
    RepL ok (w.alloc (.cells (hdC x.h px lx ++ hdC y.h py ly).toArray 29 (0, 0))) (.slice (some ⟨n, 0, none⟩) 2 2) (.two x y) := by
  have g := World.grownBy_alloc w (.cells (hdC x.h px lx ++ hdC y.h py ly).toArray 29 (0, 0)) none
  exact ⟨_, Cells.new' (size := 7) hn rfl (by decide) hok, ((VE.rep px' lx').app (VE.rep py' ly')).gb g (by simp)⟩
theorem RepL.one {w : World} {n : Nat} {ok : Nat → Prop} {x : Ex} {px lx : Value} (hn : n = w.heap.size) (hok : ok n) (px' : Cells w px 1 x.h.p.length (x.h.p.map str) ok) (lx' : RepL ok w lx x.kids) :
    RepL ok (w.alloc (.cells (hdC x.h px lx).toArray 29 (0, 0))) (.slice (some ⟨n, 0, none⟩) 1 1) (.one x) := by
  have g := World.grownBy_alloc w (.cells (hdC x.h px lx).toArray 29 (0, 0)) none
  exact ⟨_, Cells.new' (size := 7) hn rfl (by decide) hok, (VE.rep px' lx').gb g (by simp)⟩

set_option maxRecDepth 20000 in
set_option maxHeartbeats 1000000 in
theorem binary_any (s : Bs) (x y : Ex) {xv yv : Value} (w : World) (ok : Nat → Prop) (hok : ∀ k, w.heap.size ≤ k → ok k) (hx : VE ok w xv x) (hy : VE ok w yv y) :
    Calls Tryz.prog 116 #[str s, xv, yv] w fun e w' => ∃ v, e = .returned v ∧ VE ok w' v (binE s x y) ∧ w.grownBy w' none := by
  obtain ⟨pxa, pxc, lxa, lxc, rfl, hx, hx'⟩ := hx
  obtain ⟨pya, pyc, lya, lyc, rfl, hy, hy'⟩ := hy
  have H := Lib.hid (And.intro hok (And.intro hx (And.intro hx' (And.intro hy hy'))))
  clear hok hx hx' hy hy'
  go_enter Tryz.func116, Tryz.ntmps116
  go_wp2
  obtain ⟨hok, hx, hx', hy, hy'⟩ := H.out
  refine bodyPost_ret (v := exV (hd0 5 s) (.slice none 0 0) (.slice (some ⟨w.heap.size + 1 + 1 + 1, 0, none⟩) 2 2)) ?_ rfl ⟨_, rfl, VE.node (f := .two x y) ?_, ?_⟩
  · simp [results, Tryz.results116, go_sem, hd0]
  · have g : ∀ a b c, w.grownBy (((w.alloc a).alloc b).alloc c) none := fun a b c => (by repeat (first | (with_reducible exact gb_refl _ _) | (with_reducible assumption) | (with_reducible exact gb_none (by assumption)) | (with_reducible refine gb_alloc ?_ _) | (with_reducible refine gb_drew ?_) | (with_reducible refine gb_drewN ?_ _) | ((with_reducible refine gb_set ?_ _ _ ?h2); case h2 => first | exact .inl rfl | exact .inr (Nat.le_refl _) | exact .inr (by simp <;> omega)) | (with_reducible refine gb_sub ?_ (by assumption)) | (with_reducible refine gb_trans ?_ (by assumption))))
    exact RepL.two (by simp) (hok _ (by omega)) (hx.gb (g _ _ _) (by simp)) (hx'.gb (g _ _ _) (by simp)) (hy.gb (g _ _ _) (by simp)) (hy'.gb (g _ _ _) (by simp))
  · exact (by repeat (first | (with_reducible exact gb_refl _ _) | (with_reducible assumption) | (with_reducible exact gb_none (by assumption)) | (with_reducible refine gb_alloc ?_ _) | (with_reducible refine gb_drew ?_) | (with_reducible refine gb_drewN ?_ _) | ((with_reducible refine gb_set ?_ _ _ ?h2); case h2 => first | exact .inl rfl | exact .inr (Nat.le_refl _) | exact .inr (by simp <;> omega)) | (with_reducible refine gb_sub ?_ (by assumption)) | (with_reducible refine gb_trans ?_ (by assumption))))

/-- how a reading of an expression ends -/
abbrev PE (b : Nat) (tv wv : Value) (l : List Tok) (wl : List Bs) (w : World) (r : Res Ex) : Ending → World → Prop := Post b tv wv l wl w (VE (since w.heap.size)) r

/-- the cells of an empty expression -/
abbrev zeroE : List Value := [.int .i64 0, str [], .int .i64 0, .int .i64 0, str [], .slice none 0 0, .slice none 0 0]

/-- at the head of joined's loop -/
def JoinR (l : List Tok) (wl : List Bs) (k : Nat) (opnd : Nat → Res Ex) (b : Nat) (tv wv : Value) (w : World) (L : Nat) (r : Res Ex) (m : Nat) (s : Value) (wr : World) : Prop :=
  ∃ x pa pc la lc j, s = str (operM l k j) ∧ Par wr b tv wv l wl (stepM (operM l k j) j) ∧ Blk wr L (hdC x.h (.slice pa x.h.p.length pc) (.slice la x.kids.len lc)) 29 ∧
    VE (fun g => w.heap.size < g ∧ g ≠ L) wr (exV x.h (.slice pa x.h.p.length pc) (.slice la x.kids.len lc)) x ∧ joinLoop l k opnd m x j = r ∧ w.grownBy wr (some b) ∧ b < L ∧ w.heap.size < L ∧ Blk wr w.heap.size zeroE 29

set_option maxRecDepth 20000 in
set_option maxHeartbeats 1000000 in
theorem joined_any {w : World} {b : Nat} {tv wv : Value} {l : List Tok} {wl : List Bs} {i : Nat} (h : Par w b tv wv l wl i) (k : Nat) (hk : k < 6) (n g : Nat) (first captured : Array Value) (opnd : Nat → Res Ex) (hcf : ∀ w, (callFunc g (first ++ captured)).run Tryz.prog w = .ok (.enter g (first ++ captured)) w)
    (hop : ∀ w1 j, w.grownBy w1 (some b) → Par w1 b tv wv l wl j → opnd j ≠ .out → Calls Tryz.prog g (first ++ captured) w1 (PE b tv wv l wl w1 (opnd j)))
    (hn : joinM l k n opnd i ≠ .out) :
    Calls Tryz.prog 87 #[.pointer (some ⟨b, 0, none⟩), .int .i64 k, .func (.func g) first captured] w (PE b tv wv l wl w (joinM l k n opnd i)) := by
  have HOP := Lib.hid hop
  have HN := Lib.hid hn
  clear hop hn
  go_enter Tryz.func87, Tryz.ntmps87
  go_wp2_with fail
  have g0 : w.grownBy (w.alloc (Obj.cells #[Value.int IntKind.i64 0, Value.string { data := #[] }, Value.int IntKind.i64 0, Value.int IntKind.i64 0, Value.string { data := #[] }, Value.slice none 0 0, Value.slice none 0 0] 29)) (some b) := (by repeat (first | (with_reducible exact gb_refl _ _) | (with_reducible assumption) | (with_reducible exact gb_none (by assumption)) | (with_reducible refine gb_alloc ?_ _) | (with_reducible refine gb_drew ?_) | (with_reducible refine gb_drewN ?_ _) | ((with_reducible refine gb_set ?_ _ _ ?h2); case h2 => first | exact .inl rfl | exact .inr (Nat.le_refl _) | exact .inr (by simp <;> omega)) | (with_reducible refine gb_sub ?_ (by assumption)) | (with_reducible refine gb_trans ?_ (by assumption))))
  have h0 := h.alloc (Obj.cells #[Value.int IntKind.i64 0, Value.string { data := #[] }, Value.int IntKind.i64 0, Value.int IntKind.i64 0, Value.string { data := #[] }, Value.slice none 0 0, Value.slice none 0 0] 29)
  refine (HOP.out _ _ g0 h0 ?_).mono ?_
  · intro e; exact HN.out (by simp [joinM, e, Res.bind])
  have HCF := Lib.hid hcf
  clear hcf
  rintro e w1 ⟨g1, h1⟩
  cases ho : opnd i with
  | out => rw [ho] at h1; exact h1.elim
  | bad q =>
    rw [ho] at h1
    subst h1
    exact ⟨rfl, Post.bad (gb_trans g0 g1) (by simp [joinM, ho, Res.bind])⟩
  | ok x j =>
    rw [ho] at h1
    obtain ⟨v, rfl, ⟨pa, pc, la, lc, rfl, rp, rl⟩, h1⟩ := h1
    have hR : joinM l k n opnd i = joinLoop l k opnd n x j := by simp [joinM, ho, Res.bind]
    rw [hR] at HN
    have HJ := Lib.hid hR
    clear hR ho
    have HV := Lib.hid (And.intro rp rl)
    clear rp rl
    have gA : w.grownBy (w1.alloc (.cells (hdC x.h (.slice pa x.h.p.length pc) (.slice la x.kids.len lc)).toArray 29 (0, 0))) (some b) := gb_alloc (gb_trans g0 g1) _
    have hA : Par (w1.alloc (.cells (hdC x.h (.slice pa x.h.p.length pc) (.slice la x.kids.len lc)).toArray 29 (0, 0))) b tv wv l wl j := h1.alloc _
    have hB : Blk (w1.alloc (.cells (hdC x.h (.slice pa x.h.p.length pc) (.slice la x.kids.len lc)).toArray 29 (0, 0))) w1.heap.size (hdC x.h (.slice pa x.h.p.length pc) (.slice la x.kids.len lc)) 29 := Blk.new w1 _ _
    go_wp2_with fail
    refine (operator_any hA k hk).mono ?_
    rintro e w2 ⟨rfl, g2, h2⟩
    have hb1 : b < w1.heap.size := h1.lt
    go_wp2_with fail
    go_loopg [8] n (fun m s wr => JoinR l wl k opnd b tv wv w w1.heap.size (joinLoop l k opnd n x j) m s wr)
    case atStart =>
      obtain ⟨rp, rl⟩ := HV.out
      have g3 : w1.grownBy w2 (some b) := gb_trans (gb_alloc (gb_refl _ _) _) g2
      refine ⟨x, pa, pc, la, lc, j, rfl, h2, hB.gb g2 (by simp; omega), ?_, rfl, gb_trans gA g2, hb1, ?_, ?_⟩
      · refine VE.gb (VE.mono (ok := since _) ⟨_, _, _, _, rfl, rp, rl⟩ ?_) g3 ?_
        · intro q hq1 hq2
          have := g0.size
          simp at hq1
          exact ⟨by omega, by omega⟩
        · intro q hq1 hq2 e
          have := h.lt
          simp at e
          omega
      · have := g1.size
        simp at this
        omega
      · exact Blk.gb (Blk.gb (Blk.new w zeroE _) g1 (by have := h.lt; simp; omega)) g3 (by have := h.lt; simp; omega)
    case round =>
      obtain ⟨y, ya, yc, ma, mc, j2, rfl, h3, hL, hV, hR, gr, hbL, hwL, hZ⟩ := hrel
      rw [← HJ.out] at hR HN
      cases gk with
      | zero => exact absurd hR.symm HN.out
      | succ m =>
      have hb0 := h.lt
      by_cases he : operM l k j2 = []
      · rw [he, stepM_nil] at h3
        have HR := Lib.hid (show joinM l k n opnd i = .ok y j2 by rw [← hR]; simp [joinLoop, he])
        have HV2 := Lib.hid hV
        rw [he]
        clear hR hV HV he hA hB gA h1
        have cl_0 := hL.cell 0; have cl_1 := hL.cell 1; have cl_2 := hL.cell 2; have cl_3 := hL.cell 3; have cl_4 := hL.cell 4; have cl_5 := hL.cell 5; have cl_6 := hL.cell 6; simp only [hdC, List.getElem?_cons_zero, List.getElem?_cons_succ] at cl_0 cl_1 cl_2 cl_3 cl_4 cl_5 cl_6; have cl_f := fun i => hL.frozen i
        have cz_0 := hZ.cell 0; have cz_1 := hZ.cell 1; have cz_2 := hZ.cell 2; have cz_3 := hZ.cell 3; have cz_4 := hZ.cell 4; have cz_5 := hZ.cell 5; have cz_6 := hZ.cell 6; simp only [hdC, List.getElem?_cons_zero, List.getElem?_cons_succ] at cz_0 cz_1 cz_2 cz_3 cz_4 cz_5 cz_6; have cz_f := fun i => hZ.frozen i
        go_wp2
        have g7 := gb_set7 wr w.heap.size (.int .i64 y.h.op) (str y.h.s) (.int .i64 y.h.vk) (.int .i64 y.h.vn) (str y.h.vs) (.slice ya y.h.p.length yc) (.slice ma y.kids.len mc)
        refine bodyPost_ret (results_ex rfl _ (hZ.set7 _ _ _ _ _ _ _) rfl) rfl ?_
        refine Post.ok (gb_sub' gr g7 (.inr (Nat.le_refl _))) HR.out (VE.mono (HV2.out.gb g7 ?_) ?_) (h3.gb g7 (by intro q e; cases e; omega))
        · intro q hq _ e
          simp at e; omega
        · intro q hq _
          simp; omega
      · rw [stepM_ne he] at h3
        have hR' : (opnd (j2 + 1)).bind (fun z q => joinLoop l k opnd m (binE (operM l k j2) y z) q) = joinM l k n opnd i := by
          rw [← hR]; simp [joinLoop, he]
        have HR := Lib.hid hR'
        have HV2 := Lib.hid hV
        have hs0 : (operM l k j2 == []) = false := by simpa using he
        have hs1 : (operM l k j2).isEmpty = false := by simpa using he
        have HE := Lib.hid he
        clear hR hR' hV HV hA hB gA h1 he
        generalize hO : operM l k j2 = o at *
        have HO := Lib.hid hO
        clear hO
        have cl_0 := hL.cell 0; have cl_1 := hL.cell 1; have cl_2 := hL.cell 2; have cl_3 := hL.cell 3; have cl_4 := hL.cell 4; have cl_5 := hL.cell 5; have cl_6 := hL.cell 6; simp only [hdC, List.getElem?_cons_zero, List.getElem?_cons_succ] at cl_0 cl_1 cl_2 cl_3 cl_4 cl_5 cl_6; have cl_f := fun i => hL.frozen i
        have hLb := hL.lt
        have hcf := HCF.out
        cases ho2 : opnd (j2 + 1) with
        | out => exact absurd (by rw [← HR.out, ho2]; rfl) HN.out
        | bad q =>
          go_wp2_with fail
          go_region_with (refine (HOP.out _ _ (gb_drew gr) (h3.gbN (gb_drew (gb_refl _ _))) (by rw [ho2]; simp)).mono ?_; rintro e w4 ⟨g4, h4⟩; rw [ho2] at h4; subst h4; refine dummyAny (P := Tryz.prog) ⟨rfl, Post.bad (gb_trans (gb_drew gr) g4) (by rw [← HR.out, ho2]; rfl)⟩ ⟨#[], []⟩ w4 ?_)
          all_goals trivial
        | ok z q =>
          have hwr := gr.size
          go_wp2_with fail
          go_region_with (first | ((with_reducible refine (HOP.out _ _ (gb_drew gr) (h3.gbN (gb_drew (gb_refl _ _))) (by rw [ho2]; simp)).mono ?_); rintro e w4 ⟨g4, h4⟩; rw [ho2] at h4; obtain ⟨v, rfl, hv, h4⟩ := h4; have hg4 := gb_trans (gb_drew (gb_refl wr (some b))) g4; have hL4 := hL.gb hg4 (by simp; omega); have dl_0 := hL4.cell 0; have dl_1 := hL4.cell 1; have dl_2 := hL4.cell 2; have dl_3 := hL4.cell 3; have dl_4 := hL4.cell 4; have dl_5 := hL4.cell 5; have dl_6 := hL4.cell 6; simp only [hdC, List.getElem?_cons_zero, List.getElem?_cons_succ] at dl_0 dl_1 dl_2 dl_3 dl_4 dl_5 dl_6; have dl_f := fun i => hL4.frozen i; have hok : ∀ q, w4.heap.size ≤ q → w.heap.size < q ∧ q ≠ w1.heap.size := (fun q hq => by have := hL4.lt; exact ⟨by omega, by omega⟩); have hy : VE (fun g => w.heap.size < g ∧ g ≠ w1.heap.size) w4 _ y := HV2.out.gb hg4 (fun q hq _ e => by cases e; omega); have hz : VE (fun g => w.heap.size < g ∧ g ≠ w1.heap.size) w4 v z := hv.mono (fun q hq _ => ⟨by have : wr.heap.size ≤ q := hq; omega, by have : wr.heap.size ≤ q := hq; omega⟩)) | (go_at_call 116; refine (binary_any o y z _ _ hok hy hz).mono ?_; rintro e w5 ⟨u, rfl, hu, g5⟩; obtain ⟨ua, uc, va, vc, rfl, ru, rv⟩ := hu; have hL5 := hL4.gb g5 (by simp); have el_0 := hL5.cell 0; have el_1 := hL5.cell 1; have el_2 := hL5.cell 2; have el_3 := hL5.cell 3; have el_4 := hL5.cell 4; have el_5 := hL5.cell 5; have el_6 := hL5.cell 6; simp only [hdC, List.getElem?_cons_zero, List.getElem?_cons_succ] at el_0 el_1 el_2 el_3 el_4 el_5 el_6; have el_f := fun i => hL5.frozen i))
          all_goals
            have g7 := gb_set7 w5 w1.heap.size (.int .i64 (binE o y z).h.op) (str (binE o y z).h.s) (.int .i64 (binE o y z).h.vk) (.int .i64 (binE o y z).h.vn) (str (binE o y z).h.vs) (.slice ua (binE o y z).h.p.length uc) (.slice va (binE o y z).kids.len vc)
            have hL7 := hL5.set7 (.int .i64 (binE o y z).h.op) (str (binE o y z).h.s) (.int .i64 (binE o y z).h.vk) (.int .i64 (binE o y z).h.vn) (str (binE o y z).h.vs) (.slice ua (binE o y z).h.p.length uc) (.slice va (binE o y z).kids.len vc)
            have h7 := (h4.gbN g5).gb g7 (by intro q e; cases e; omega)
            have hV7 : VE (fun g => w.heap.size < g ∧ g ≠ w1.heap.size) _ _ (binE o y z) := VE.gb ⟨_, _, _, _, rfl, ru, rv⟩ g7 (by intro q hq _ e; cases e; exact hq.2 rfl)
            have gW := gb_sub' (gb_sub (gb_trans (gb_drew gr) g4) g5) g7 (.inr (by have := g0.size; have := g1.size; simp at *; omega))
            have hZ7 := Blk.gb (Blk.gb (hZ.gb hg4 (by simp; omega)) g5 (by simp)) g7 (by simp; omega)
            go_wp2_with fail
            refine (operator_any h7 k hk).mono ?_
            rintro e w6 ⟨rfl, g6, h6⟩
            go_wp2_with fail
            go_roundg m
            case measure => omega
            case rel =>
              exact ⟨binE o y z, ua, uc, va, vc, q, rfl, h6, hL7.gb g6 (by simp; omega), hV7.gb g6 (by intro q hq _ e; cases e; omega), by rw [← HJ.out, ← HR.out, ho2]; rfl, gb_trans gW g6, hbL, hwL, hZ7.gb g6 (by simp; omega)⟩

end Go.Proofs.YtmcajbhljbbglaaGreatDoor

namespace Go.Proofs.YtmcajbhljbbglaaGreatDoor
open Go.RowKit

/-- function f reads, from a place on, what M says -/
def CE (f : FuncId) (b : Nat) (tv wv : Value) (l : List Tok) (wl : List Bs) (M : Nat → Res Ex) : Prop :=
  ∀ w i, Par w b tv wv l wl i → M i ≠ .out → Calls Tryz.prog f #[.pointer (some ⟨b, 0, none⟩)] w (PE b tv wv l wl w (M i))

section
variable {b : Nat} {tv wv : Value} {l : List Tok} {wl : List Bs}

theorem cf_not (w : World) : (callFunc 89 (#[.pointer (some ⟨b, 0, none⟩)] ++ #[])).run Tryz.prog w = .ok (.enter 89 (#[.pointer (some ⟨b, 0, none⟩)] ++ #[])) w := by kernel_rfl
theorem cf_pow (w : World) : (callFunc 167 (#[.pointer (some ⟨b, 0, none⟩)] ++ #[])).run Tryz.prog w = .ok (.enter 167 (#[.pointer (some ⟨b, 0, none⟩)] ++ #[])) w := by kernel_rfl
theorem cf_expr1 (k : Nat) (w : World) : (callFunc 88 (#[] ++ #[.pointer (some ⟨k, 0, none⟩)])).run Tryz.prog w = .ok (.enter 88 (#[] ++ #[.pointer (some ⟨k, 0, none⟩)])) w := by kernel_rfl
theorem cf_sum1 (k : Nat) (w : World) : (callFunc 166 (#[] ++ #[.pointer (some ⟨k, 0, none⟩)])).run Tryz.prog w = .ok (.enter 166 (#[] ++ #[.pointer (some ⟨k, 0, none⟩)])) w := by kernel_rfl

/-- a result that lies in a block of its own: how the functions end that hand on what another one has read -/
theorem pe_pass {w w0 w1 : World} {r : Res Ex} {i : Nat} {x : Ex} (hb : b < w.heap.size) (g0 : w.grownBy w0 (some b)) (hr : r = .ok x i) (g1 : w0.grownBy w1 (some b)) {v : Value} (hv : VE (since w0.heap.size) w1 v x) (hp : Par w1 b tv wv l wl i)
    {k : Nat} (hk : w.heap.size ≤ k) (hk2 : k < w0.heap.size) {w2 : World} (g2 : w1.grownBy w2 (some k)) : PE b tv wv l wl w r (.returned v) w2 :=
  Post.ok (gb_sub' (gb_trans g0 g1) g2 (.inr hk)) hr ((hv.gb g2 (by intro q hq _ e; have : w0.heap.size ≤ q := hq; cases e; omega)).mono (by intro q hq _; have : w0.heap.size ≤ q := hq; have := g0.size; show w.heap.size ≤ q; omega)) (hp.gb g2 (by intro q' e; cases e; omega))

set_option maxRecDepth 20000 in
set_option maxHeartbeats 1000000 in
theorem expr1_any {notf : Nat → Res Ex} (hnot : CE 89 b tv wv l wl notf) (n : Nat) {w : World} {i k : Nat} (h : Par w b tv wv l wl i) (hk : w.cell? ⟨k, 0, none⟩ = some (.pointer (some ⟨b, 0, none⟩))) (ho : joinM l 1 n notf i ≠ .out) :
    Calls Tryz.prog 88 #[.pointer (some ⟨k, 0, none⟩)] w (PE b tv wv l wl w (joinM l 1 n notf i)) := by
  have hkl := World.block_lt_of_cell? w _ hk
  have hb := h.lt
  simp only at hkl
  have g0 : w.grownBy (w.alloc (.cells zeroE.toArray 29 (0, 0))) (some b) := gb_alloc (gb_refl _ _) _
  have hB := Blk.new w zeroE 29
  have H := Lib.hid (And.intro hnot ho)
  clear hnot ho
  go_enter Tryz.func88, Tryz.ntmps88
  go_wp2_with fail
  refine (joined_any (h.alloc _) 1 (by decide) n 89 #[.pointer (some ⟨b, 0, none⟩)] #[] notf cf_not (fun w1 j _ hp hn => H.out.1 w1 j hp hn) H.out.2).mono ?_
  rintro e w1 ⟨g1, h1⟩
  generalize hr : joinM l 1 n notf i = r at *
  cases r with
  | out => exact h1.elim
  | bad q =>
    subst h1
    exact ⟨rfl, Post.bad (gb_trans g0 g1) rfl⟩
  | ok x j =>
    obtain ⟨v, rfl, hv, h1⟩ := h1
    have HV := Lib.hid hv
    obtain ⟨pa, pc, la, lc, rfl, -, -⟩ := hv
    have hZ := (hB).gb g1 (by simp; omega)
    have cz_0 := hZ.cell 0; have cz_1 := hZ.cell 1; have cz_2 := hZ.cell 2; have cz_3 := hZ.cell 3; have cz_4 := hZ.cell 4; have cz_5 := hZ.cell 5; have cz_6 := hZ.cell 6; simp only [hdC, List.getElem?_cons_zero, List.getElem?_cons_succ] at cz_0 cz_1 cz_2 cz_3 cz_4 cz_5 cz_6; have cz_f := fun i => hZ.frozen i
    have HR := Lib.hid hr
    clear hr
    go_wp2
    have g7 := gb_set7 w1 w.heap.size (.int .i64 x.h.op) (str x.h.s) (.int .i64 x.h.vk) (.int .i64 x.h.vn) (str x.h.vs) (.slice pa x.h.p.length pc) (.slice la x.kids.len lc)
    exact bodyPost_ret (results_ex rfl _ (hZ.set7 _ _ _ _ _ _ _) rfl) rfl (pe_pass h.lt g0 rfl g1 HV.out h1 (by simp) (by simp) g7)

set_option maxRecDepth 20000 in
set_option maxHeartbeats 1000000 in
theorem expr_any {notf : Nat → Res Ex} (hnot : CE 89 b tv wv l wl notf) (n : Nat) : CE 56 b tv wv l wl (joinM l 0 n (joinM l 1 n notf)) := by
  intro w i h ho
  have hb := h.lt
  have g0 : w.grownBy ((w.alloc (.cells #[.pointer (some ⟨b, 0, none⟩)] 94 (0, 0))).alloc (.cells zeroE.toArray 29 (0, 0))) (some b) := gb_alloc (gb_alloc (gb_refl _ _) _) _
  have hB := Blk.new (w.alloc (.cells #[.pointer (some ⟨b, 0, none⟩)] 94 (0, 0))) zeroE 29
  have hk : ((w.alloc (.cells #[.pointer (some ⟨b, 0, none⟩)] 94 (0, 0))).alloc (.cells zeroE.toArray 29 (0, 0))).cell? ⟨w.heap.size, 0, none⟩ = some (.pointer (some ⟨b, 0, none⟩)) := by simp
  rw [World.size_alloc] at hB
  have H := Lib.hid (And.intro hnot (And.intro ho hk))
  clear hnot ho hk
  go_enter Tryz.func56, Tryz.ntmps56
  go_wp2_with fail
  refine (joined_any ((h.alloc _).alloc _) 0 (by decide) n 88 #[] #[.pointer (some ⟨w.heap.size, 0, none⟩)] (joinM l 1 n notf) (cf_expr1 _) (fun w1 j g hp hn => expr1_any H.out.1 n hp (gb_cell g H.out.2.2 (by simp; omega)) hn) H.out.2.1).mono ?_
  rintro e w1 ⟨g1, h1⟩
  generalize hr : joinM l 0 n (joinM l 1 n notf) i = r at *
  cases r with
  | out => exact h1.elim
  | bad q =>
    subst h1
    exact ⟨rfl, Post.bad (gb_trans g0 g1) rfl⟩
  | ok x j =>
    obtain ⟨v, rfl, hv, h1⟩ := h1
    have HV := Lib.hid hv
    obtain ⟨pa, pc, la, lc, rfl, -, -⟩ := hv
    have hZ := (hB).gb g1 (by simp; omega)
    have cz_0 := hZ.cell 0; have cz_1 := hZ.cell 1; have cz_2 := hZ.cell 2; have cz_3 := hZ.cell 3; have cz_4 := hZ.cell 4; have cz_5 := hZ.cell 5; have cz_6 := hZ.cell 6; simp only [hdC, List.getElem?_cons_zero, List.getElem?_cons_succ] at cz_0 cz_1 cz_2 cz_3 cz_4 cz_5 cz_6; have cz_f := fun i => hZ.frozen i
    have HR := Lib.hid hr
    clear hr
    go_wp2
    have g7 := gb_set7 w1 (w.heap.size + 1) (.int .i64 x.h.op) (str x.h.s) (.int .i64 x.h.vk) (.int .i64 x.h.vn) (str x.h.vs) (.slice pa x.h.p.length pc) (.slice la x.kids.len lc)
    exact bodyPost_ret (results_ex rfl _ (hZ.set7 _ _ _ _ _ _ _) rfl) rfl (pe_pass h.lt g0 rfl g1 HV.out h1 (by simp) (by simp) g7)
set_option maxRecDepth 20000 in
set_option maxHeartbeats 1000000 in
theorem sum1_any {powf : Nat → Res Ex} (hpow : CE 167 b tv wv l wl powf) (n : Nat) {w : World} {i k : Nat} (h : Par w b tv wv l wl i) (hk : w.cell? ⟨k, 0, none⟩ = some (.pointer (some ⟨b, 0, none⟩))) (ho : joinM l 4 n powf i ≠ .out) :
    Calls Tryz.prog 166 #[.pointer (some ⟨k, 0, none⟩)] w (PE b tv wv l wl w (joinM l 4 n powf i)) := by
  have hkl := World.block_lt_of_cell? w _ hk
  have hb := h.lt
  simp only at hkl
  have g0 : w.grownBy (w.alloc (.cells zeroE.toArray 29 (0, 0))) (some b) := gb_alloc (gb_refl _ _) _
  have hB := Blk.new w zeroE 29
  have H := Lib.hid (And.intro hpow ho)
  clear hpow ho
  go_enter Tryz.func166, Tryz.ntmps166
  go_wp2_with fail
  refine (joined_any (h.alloc _) 4 (by decide) n 167 #[.pointer (some ⟨b, 0, none⟩)] #[] powf cf_pow (fun w1 j _ hp hn => H.out.1 w1 j hp hn) H.out.2).mono ?_
  rintro e w1 ⟨g1, h1⟩
  generalize hr : joinM l 4 n powf i = r at *
  cases r with
  | out => exact h1.elim
  | bad q =>
    subst h1
    exact ⟨rfl, Post.bad (gb_trans g0 g1) rfl⟩
  | ok x j =>
    obtain ⟨v, rfl, hv, h1⟩ := h1
    have HV := Lib.hid hv
    obtain ⟨pa, pc, la, lc, rfl, -, -⟩ := hv
    have hZ := (hB).gb g1 (by simp; omega)
    have cz_0 := hZ.cell 0; have cz_1 := hZ.cell 1; have cz_2 := hZ.cell 2; have cz_3 := hZ.cell 3; have cz_4 := hZ.cell 4; have cz_5 := hZ.cell 5; have cz_6 := hZ.cell 6; simp only [hdC, List.getElem?_cons_zero, List.getElem?_cons_succ] at cz_0 cz_1 cz_2 cz_3 cz_4 cz_5 cz_6; have cz_f := fun i => hZ.frozen i
    have HR := Lib.hid hr
    clear hr
    go_wp2
    have g7 := gb_set7 w1 w.heap.size (.int .i64 x.h.op) (str x.h.s) (.int .i64 x.h.vk) (.int .i64 x.h.vn) (str x.h.vs) (.slice pa x.h.p.length pc) (.slice la x.kids.len lc)
    exact bodyPost_ret (results_ex rfl _ (hZ.set7 _ _ _ _ _ _ _) rfl) rfl (pe_pass h.lt g0 rfl g1 HV.out h1 (by simp) (by simp) g7)

set_option maxRecDepth 20000 in
set_option maxHeartbeats 1000000 in
theorem sum_any {powf : Nat → Res Ex} (hpow : CE 167 b tv wv l wl powf) (n : Nat) : CE 118 b tv wv l wl (joinM l 3 n (joinM l 4 n powf)) := by
  intro w i h ho
  have hb := h.lt
  have g0 : w.grownBy ((w.alloc (.cells #[.pointer (some ⟨b, 0, none⟩)] 94 (0, 0))).alloc (.cells zeroE.toArray 29 (0, 0))) (some b) := gb_alloc (gb_alloc (gb_refl _ _) _) _
  have hB := Blk.new (w.alloc (.cells #[.pointer (some ⟨b, 0, none⟩)] 94 (0, 0))) zeroE 29
  have hk : ((w.alloc (.cells #[.pointer (some ⟨b, 0, none⟩)] 94 (0, 0))).alloc (.cells zeroE.toArray 29 (0, 0))).cell? ⟨w.heap.size, 0, none⟩ = some (.pointer (some ⟨b, 0, none⟩)) := by simp
  rw [World.size_alloc] at hB
  have H := Lib.hid (And.intro hpow (And.intro ho hk))
  clear hpow ho hk
  go_enter Tryz.func118, Tryz.ntmps118
  go_wp2_with fail
  refine (joined_any ((h.alloc _).alloc _) 3 (by decide) n 166 #[] #[.pointer (some ⟨w.heap.size, 0, none⟩)] (joinM l 4 n powf) (cf_sum1 _) (fun w1 j g hp hn => sum1_any H.out.1 n hp (gb_cell g H.out.2.2 (by simp; omega)) hn) H.out.2.1).mono ?_
  rintro e w1 ⟨g1, h1⟩
  generalize hr : joinM l 3 n (joinM l 4 n powf) i = r at *
  cases r with
  | out => exact h1.elim
  | bad q =>
    subst h1
    exact ⟨rfl, Post.bad (gb_trans g0 g1) rfl⟩
  | ok x j =>
    obtain ⟨v, rfl, hv, h1⟩ := h1
    have HV := Lib.hid hv
    obtain ⟨pa, pc, la, lc, rfl, -, -⟩ := hv
    have hZ := (hB).gb g1 (by simp; omega)
    have cz_0 := hZ.cell 0; have cz_1 := hZ.cell 1; have cz_2 := hZ.cell 2; have cz_3 := hZ.cell 3; have cz_4 := hZ.cell 4; have cz_5 := hZ.cell 5; have cz_6 := hZ.cell 6; simp only [hdC, List.getElem?_cons_zero, List.getElem?_cons_succ] at cz_0 cz_1 cz_2 cz_3 cz_4 cz_5 cz_6; have cz_f := fun i => hZ.frozen i
    have HR := Lib.hid hr
    clear hr
    go_wp2
    have g7 := gb_set7 w1 (w.heap.size + 1) (.int .i64 x.h.op) (str x.h.s) (.int .i64 x.h.vk) (.int .i64 x.h.vn) (str x.h.vs) (.slice pa x.h.p.length pc) (.slice la x.kids.len lc)
    exact bodyPost_ret (results_ex rfl _ (hZ.set7 _ _ _ _ _ _ _) rfl) rfl (pe_pass h.lt g0 rfl g1 HV.out h1 (by simp) (by simp) g7)
end

end Go.Proofs.YtmcajbhljbbglaaGreatDoor

namespace Go.Proofs.YtmcajbhljbbglaaGreatDoor
open Go.RowKit
section
variable {b : Nat} {tv wv : Value} {l : List Tok} {wl : List Bs}

/-- a result that was read, kept in one block and handed on in another one -/
theorem pe_copy {w w1 w2 : World} {r : Res Ex} {i : Nat} {x : Ex} {ok : Nat → Prop} (h0 : b < w.heap.size) (hr : r = .ok x i) (g : w.grownBy w1 (some b)) {v : Value} (hv : VE ok w1 v x) (hok : ∀ k, ok k → w.heap.size < k) (hp : Par w1 b tv wv l wl i)
    (g2 : w1.grownBy w2 (some w.heap.size)) : PE b tv wv l wl w r (.returned v) w2 :=
  Post.ok (gb_sub' g g2 (.inr (Nat.le_refl _))) hr ((hv.gb g2 (by intro q hq _ e; have := hok q hq; cases e; omega)).mono (by intro q hq _; have := hok q hq; show w.heap.size ≤ q; omega)) (hp.gb g2 (by intro q e; cases e; omega))

/-- a node of one operand, whose row is new: the result's block has been written, then the row was laid -/
theorem pe_one {w w1 W : World} {r : Res Ex} {i : Nat} {x : Ex} {op : Int} {s : Bs} {ok : Nat → Prop} {pa la : Option Addr} {pc lc : Nat} (h0 : b < w.heap.size) (hr : r = .ok ⟨hd0 op s, .one x⟩ i) (g : w.grownBy w1 (some b))
    (rp : Cells w1 (.slice pa x.h.p.length pc) 1 x.h.p.length (x.h.p.map str) ok) (rl : RepL ok w1 (.slice la x.kids.len lc) x.kids) (hok : ∀ k, ok k → w.heap.size < k) (hp : Par w1 b tv wv l wl i) (g7 : w1.grownBy W (some w.heap.size)) (hsz : W.heap.size = w1.heap.size) :
    PE b tv wv l wl w r (.returned (exV (hd0 op s) (.slice none 0 0) (.slice (some ⟨w1.heap.size, 0, none⟩) 1 1))) (W.alloc (Obj.cells #[Value.int IntKind.i64 x.h.op, str x.h.s, Value.int IntKind.i64 x.h.vk, Value.int IntKind.i64 x.h.vn, str x.h.vs, Value.slice pa x.h.p.length pc, Value.slice la x.kids.len lc] 29)) := by
  have hlt := g.size
  have rp' := rp.gb g7 (by intro q hq _ e; have := hok q hq; cases e; omega)
  have rl' := rl.gb g7 (by intro q hq _ e; have := hok q hq; cases e; omega)
  have hV : VE (since w.heap.size) (W.alloc (Obj.cells #[Value.int IntKind.i64 x.h.op, str x.h.s, Value.int IntKind.i64 x.h.vk, Value.int IntKind.i64 x.h.vn, str x.h.vs, Value.slice pa x.h.p.length pc, Value.slice la x.kids.len lc] 29)) (exV (hd0 op s) (.slice none 0 0) (.slice (some ⟨w1.heap.size, 0, none⟩) 1 1)) ⟨hd0 op s, .one x⟩ :=
    VE.node (f := .one x) (RepL.one (ok := since w.heap.size) (n := w1.heap.size) hsz.symm (by show w.heap.size ≤ _; omega) (rp'.mono (by intro q hq _; have := hok q hq; show w.heap.size ≤ q; omega)) (rl'.mono (by intro q hq _; have := hok q hq; show w.heap.size ≤ q; omega)))
  exact Post.ok (gb_alloc (gb_sub' g g7 (.inr (Nat.le_refl _))) _) hr hV ((hp.gb g7 (by intro q e; cases e; omega)).alloc _)

set_option maxRecDepth 20000 in
set_option maxHeartbeats 1000000 in
theorem pow_any {unf : Nat → Res Ex} (hun : CE 211 b tv wv l wl unf) : ∀ m, CE 167 b tv wv l wl (powM l unf m) := by
  intro m
  induction m with
  | zero => intro w i h ho; exact absurd rfl ho
  | succ m ih =>
  intro w i h ho
  have hb := h.lt
  have g0 : w.grownBy (w.alloc (.cells zeroE.toArray 29 (0, 0))) (some b) := gb_alloc (gb_refl _ _) _
  have hB := Blk.new w zeroE 29
  have h0 := h.alloc (.cells zeroE.toArray 29 (0, 0))
  have H := Lib.hid (And.intro hun (And.intro ih ho))
  clear hun ih ho
  generalize hR : powM l unf (m + 1) i = R at *
  have hR' : (unf i).bind (fun x j => if (operM l 5 j).isEmpty then .ok x j else (powM l unf m (j + 1)).bind fun y k => .ok (binE (operM l 5 j) x y) k) = R := by rw [← hR]; rfl
  have HR := Lib.hid hR'
  clear hR hR'
  go_enter Tryz.func167, Tryz.ntmps167
  go_wp2_with fail
  have hw0 : w.heap.size < (w.alloc (.cells zeroE.toArray 29 (0, 0))).heap.size := by simp
  refine (H.out.1 _ _ h0 (fun e => H.out.2.2 (by rw [← HR.out, e]; rfl))).mono ?_
  rintro e w1 ⟨g1, h1⟩
  cases ho : unf i with
  | out => rw [ho] at h1; exact h1.elim
  | bad q =>
    rw [ho] at h1
    subst h1
    exact ⟨rfl, Post.bad (gb_trans g0 g1) (by rw [← HR.out, ho]; rfl)⟩
  | ok x j =>
    rw [ho] at h1
    obtain ⟨v, rfl, ⟨pa, pc, la, lc, rfl, rp, rl⟩, h1⟩ := h1
    have hb1 := h1.lt
    have hs1 := g1.size
    have HV := Lib.hid (VE.mono (ok' := fun g => w.heap.size < g ∧ g ≠ w1.heap.size) (⟨_, _, _, _, rfl, rp, rl⟩ : VE (since _) w1 _ x) (by intro q hq hq2; have : (w.alloc (.cells zeroE.toArray 29 (0, 0))).heap.size ≤ q := hq; exact ⟨by omega, by omega⟩))
    clear rp rl
    have hZ := hB.gb g1 (by simp; omega)
    have gA := gb_alloc (gb_trans g0 g1) (.cells (hdC x.h (.slice pa x.h.p.length pc) (.slice la x.kids.len lc)).toArray 29 (0, 0))
    have hA := h1.alloc (.cells (hdC x.h (.slice pa x.h.p.length pc) (.slice la x.kids.len lc)).toArray 29 (0, 0))
    have hL := Blk.new w1 (hdC x.h (.slice pa x.h.p.length pc) (.slice la x.kids.len lc)) 29
    go_wp2_with fail
    refine (operator_any hA 5 (by decide)).mono ?_
    rintro e wr ⟨rfl, g2, h2⟩
    have g12 : w1.grownBy wr (some b) := gb_trans (gb_alloc (gb_refl _ _) _) g2
    have gr := gb_trans gA g2
    have hL2 := hL.gb g2 (by simp; omega)
    have hZ2 := (hZ.gb g12 (by simp; omega))
    have HV2 := Lib.hid (HV.out.gb g12 (by intro q hq _ e; cases e; omega))
    have hwr := gr.size
    have hLb := hL2.lt
    clear gA hA hL g2 hB hZ g0 h0 HV
    have cl_0 := hL2.cell 0; have cl_1 := hL2.cell 1; have cl_2 := hL2.cell 2; have cl_3 := hL2.cell 3; have cl_4 := hL2.cell 4; have cl_5 := hL2.cell 5; have cl_6 := hL2.cell 6; simp only [hdC, List.getElem?_cons_zero, List.getElem?_cons_succ] at cl_0 cl_1 cl_2 cl_3 cl_4 cl_5 cl_6; have cl_f := fun i => hL2.frozen i
    by_cases he : operM l 5 j = []
    · rw [he, stepM_nil] at h2
      have HQ := Lib.hid (show R = .ok x j by rw [← HR.out, ho]; simp [Res.bind, he])
      rw [he]
      clear he
      have cz_0 := hZ2.cell 0; have cz_1 := hZ2.cell 1; have cz_2 := hZ2.cell 2; have cz_3 := hZ2.cell 3; have cz_4 := hZ2.cell 4; have cz_5 := hZ2.cell 5; have cz_6 := hZ2.cell 6; simp only [hdC, List.getElem?_cons_zero, List.getElem?_cons_succ] at cz_0 cz_1 cz_2 cz_3 cz_4 cz_5 cz_6; have cz_f := fun i => hZ2.frozen i
      go_wp2
      have g7 := gb_set7 wr w.heap.size (.int .i64 x.h.op) (str x.h.s) (.int .i64 x.h.vk) (.int .i64 x.h.vn) (str x.h.vs) (.slice pa x.h.p.length pc) (.slice la x.kids.len lc)
      exact bodyPost_ret (results_ex rfl _ (hZ2.set7 _ _ _ _ _ _ _) rfl) rfl (pe_copy hb HQ.out gr HV2.out (by intro k hk; exact hk.1) h2 g7)
    · rw [stepM_ne he] at h2
      have hs0 : (operM l 5 j == []) = false := by simpa using he
      have hs2 : (operM l 5 j).isEmpty = false := by simpa using he
      have HQ := Lib.hid (show (powM l unf m (j + 1)).bind (fun y k => .ok (binE (operM l 5 j) x y) k) = R by rw [← HR.out, ho]; simp [Res.bind, he])
      clear he
      generalize hO : operM l 5 j = o at *
      clear hO
      cases ho2 : powM l unf m (j + 1) with
      | out => exact absurd (show R = .out by rw [← HQ.out, ho2]; rfl) H.out.2.2
      | bad q =>
        go_wp2_with fail
        go_region_with (go_at_call 167; refine (H.out.2.1 _ _ (h2.gbN (gb_drew (gb_refl _ _))) (by rw [ho2]; simp)).mono ?_; rintro e w4 ⟨g4, h4⟩; rw [ho2] at h4; subst h4; refine dummyAny (P := Tryz.prog) ⟨rfl, Post.bad (gb_trans (gb_drew gr) g4) (by rw [← HQ.out, ho2]; rfl)⟩ ⟨#[], []⟩ w4 ?_)
        all_goals trivial
      | ok z q =>
        go_wp2_with fail
        go_region_with (first | (go_at_call 167; refine (H.out.2.1 _ _ (h2.gbN (gb_drew (gb_refl _ _))) (by rw [ho2]; simp)).mono ?_; rintro e w4 ⟨g4, h4⟩; rw [ho2] at h4; obtain ⟨v, rfl, hv, h4⟩ := h4; have hg4 := gb_trans (gb_drew (gb_refl wr (some b))) g4; have hL4 := hL2.gb hg4 (by simp; omega); have dl_0 := hL4.cell 0; have dl_1 := hL4.cell 1; have dl_2 := hL4.cell 2; have dl_3 := hL4.cell 3; have dl_4 := hL4.cell 4; have dl_5 := hL4.cell 5; have dl_6 := hL4.cell 6; simp only [hdC, List.getElem?_cons_zero, List.getElem?_cons_succ] at dl_0 dl_1 dl_2 dl_3 dl_4 dl_5 dl_6; have dl_f := fun i => hL4.frozen i; have hok : ∀ q, w4.heap.size ≤ q → w.heap.size < q ∧ q ≠ w1.heap.size := (fun q hq => by have := hL4.lt; exact ⟨by omega, by omega⟩); have hy : VE (fun g => w.heap.size < g ∧ g ≠ w1.heap.size) w4 _ x := HV2.out.gb hg4 (fun q hq _ e => by cases e; omega); have hz : VE (fun g => w.heap.size < g ∧ g ≠ w1.heap.size) w4 v z := hv.mono (fun q hq _ => ⟨by have : wr.heap.size ≤ q := hq; omega, by have : wr.heap.size ≤ q := hq; omega⟩)) | (go_at_call 116; refine (binary_any o x z _ _ hok hy hz).mono ?_; rintro e w5 ⟨u, rfl, hu, g5⟩; obtain ⟨ua, uc, va, vc, rfl, ru, rv⟩ := hu; have hL5 := hL4.gb g5 (by simp); have el_0 := hL5.cell 0; have el_1 := hL5.cell 1; have el_2 := hL5.cell 2; have el_3 := hL5.cell 3; have el_4 := hL5.cell 4; have el_5 := hL5.cell 5; have el_6 := hL5.cell 6; simp only [hdC, List.getElem?_cons_zero, List.getElem?_cons_succ] at el_0 el_1 el_2 el_3 el_4 el_5 el_6; have el_f := fun i => hL5.frozen i))
        all_goals
          generalize hbe : binE o x z = bz at *
          have HBE := Lib.hid hbe
          have g7 := gb_set7 w5 w1.heap.size (.int .i64 bz.h.op) (str bz.h.s) (.int .i64 bz.h.vk) (.int .i64 bz.h.vn) (str bz.h.vs) (.slice ua bz.h.p.length uc) (.slice va bz.kids.len vc)
          have hL7 := hL5.set7 (.int .i64 bz.h.op) (str bz.h.s) (.int .i64 bz.h.vk) (.int .i64 bz.h.vn) (str bz.h.vs) (.slice ua bz.h.p.length uc) (.slice va bz.kids.len vc)
          have h7 := (h4.gbN g5).gb g7 (by intro q e; cases e; omega)
          have hV7 : VE (fun g => w.heap.size < g ∧ g ≠ w1.heap.size) _ _ bz := VE.gb ⟨_, _, _, _, rfl, ru, rv⟩ g7 (by intro q hq _ e; cases e; exact hq.2 rfl)
          have gW := gb_sub' (gb_sub (gb_trans (gb_drew gr) g4) g5) g7 (.inr (by omega))
          have hZ7 := Blk.gb (Blk.gb (hZ2.gb hg4 (by simp; omega)) g5 (by simp)) g7 (by simp; omega)
          have hQ : R = .ok bz q := by rw [← HQ.out, ho2, ← hbe]; rfl
          simp only [set7] at hL7 h7 hV7 gW hZ7
          clear g7 ru rv hy hz hok hbe cl_0 cl_1 cl_2 cl_3 cl_4 cl_5 cl_6 cl_f dl_0 dl_1 dl_2 dl_3 dl_4 dl_5 dl_6 dl_f el_0 el_1 el_2 el_3 el_4 el_5 el_6 el_f hL4 hL5 hL2 hZ2 hs0 hs2
          generalize (((((((w5.setCell { block := w1.heap.size, off := 0 } (.int .i64 bz.h.op)).setCell { block := w1.heap.size, off := 1 } (.string { data := List.toArray bz.h.s })).setCell { block := w1.heap.size, off := 2 } (.int .i64 bz.h.vk)).setCell { block := w1.heap.size, off := 3 } (.int .i64 bz.h.vn)).setCell { block := w1.heap.size, off := 4 } (.string { data := List.toArray bz.h.vs })).setCell { block := w1.heap.size, off := 5 } (.slice ua bz.h.p.length uc)).setCell { block := w1.heap.size, off := 6 } (.slice va bz.kids.len vc)) = W at *
          have HF := Lib.hid (And.intro h7 (And.intro hV7 (And.intro gW hQ)))
          clear h7 hV7 gW hQ
          have cl_0 := hL7.cell 0; have cl_1 := hL7.cell 1; have cl_2 := hL7.cell 2; have cl_3 := hL7.cell 3; have cl_4 := hL7.cell 4; have cl_5 := hL7.cell 5; have cl_6 := hL7.cell 6; simp only [hdC, List.getElem?_cons_zero, List.getElem?_cons_succ] at cl_0 cl_1 cl_2 cl_3 cl_4 cl_5 cl_6; have cl_f := fun i => hL7.frozen i
          have cz_0 := hZ7.cell 0; have cz_1 := hZ7.cell 1; have cz_2 := hZ7.cell 2; have cz_3 := hZ7.cell 3; have cz_4 := hZ7.cell 4; have cz_5 := hZ7.cell 5; have cz_6 := hZ7.cell 6; simp only [hdC, List.getElem?_cons_zero, List.getElem?_cons_succ] at cz_0 cz_1 cz_2 cz_3 cz_4 cz_5 cz_6; have cz_f := fun i => hZ7.frozen i
          go_wp2
          have g7 := gb_set7 W w.heap.size (.int .i64 bz.h.op) (str bz.h.s) (.int .i64 bz.h.vk) (.int .i64 bz.h.vn) (str bz.h.vs) (.slice ua bz.h.p.length uc) (.slice va bz.kids.len vc)
          obtain ⟨h7, hV7, gW, hQ⟩ := HF.out
          exact bodyPost_ret (results_ex rfl _ (hZ7.set7 _ _ _ _ _ _ _) rfl) rfl (pe_copy hb hQ gW hV7 (by intro k hk; exact hk.1) h7 g7)

set_option maxRecDepth 20000 in
set_option maxHeartbeats 2000000 in
theorem not_any {sumf : Nat → Res Ex} (hsum : CE 118 b tv wv l wl sumf) : ∀ m, CE 89 b tv wv l wl (notM l sumf m) := by
  intro m
  induction m with
  | zero => intro w i h ho; exact absurd rfl ho
  | succ m ih =>
  intro w i h ho
  have hb := h.lt
  have gz : w.grownBy (w.alloc (.cells zeroE.toArray 29 (0, 0))) (some b) := gb_alloc (gb_refl _ _) _
  have hz := Blk.new w zeroE 29
  have hp := h.alloc (.cells zeroE.toArray 29 (0, 0))
  by_cases hn1 : isSignM (tokAt l i) [46, 78, 79, 84, 46] = true
  · have H := Lib.hid (And.intro ih ho)
    have HN := Lib.hid (And.intro True.intro hn1)
    generalize hR : notM l sumf (m + 1) i = R at *
    have hR' : (notM l sumf m (i + 1)).bind (fun x j => .ok (unE [46, 78, 79, 84, 46] x) j) = R := by rw [← hR]; simp [notM, hn1]
    have HR := Lib.hid hR'
    clear hR hR' hn1 hsum ih ho 
    go_enter Tryz.func89, Tryz.ntmps89
    go_wp2_with fail
    refine (sign_yes hp _ HN.out.2).mono ?_
    rintro e wb ⟨rfl, h0, gb⟩
    have g0 : w.grownBy wb (some b) := gb_trans gz gb
    have hB := Blk.gb hz gb (by simp; omega)
    have hw0 : w.heap.size < wb.heap.size := by have := gb.size; simp at *; omega
    clear hz hp gb gz
    go_wp2_with fail
    refine (H.out.1 _ _ h0 (fun e => H.out.2 (by rw [← HR.out, e]; rfl))).mono ?_
    rintro e w1 ⟨g1, h1⟩
    cases ho : notM l sumf m (i + 1) with
    | out => rw [ho] at h1; exact h1.elim
    | bad q =>
      rw [ho] at h1
      subst h1
      exact ⟨rfl, Post.bad (gb_trans g0 g1) (by rw [← HR.out, ho]; rfl)⟩
    | ok x j =>
      rw [ho] at h1
      obtain ⟨v, rfl, ⟨pa, pc, la, lc, rfl, rp, rl⟩, h1⟩ := h1
      have hs1 := g1.size
      have hb1 := h1.lt
      have hlt1 : w.heap.size < w1.heap.size := by omega
      have hZ := hB.gb g1 (by simp; omega)
      have hQ : R = .ok (unE [46, 78, 79, 84, 46] x) j := by rw [← HR.out, ho]; rfl
      have H2 := Lib.hid (And.intro rp (And.intro rl hQ))
      clear rp rl hQ hB h0
      have cz_0 := hZ.cell 0; have cz_1 := hZ.cell 1; have cz_2 := hZ.cell 2; have cz_3 := hZ.cell 3; have cz_4 := hZ.cell 4; have cz_5 := hZ.cell 5; have cz_6 := hZ.cell 6; simp only [hdC, List.getElem?_cons_zero, List.getElem?_cons_succ] at cz_0 cz_1 cz_2 cz_3 cz_4 cz_5 cz_6; have cz_f := fun i => hZ.frozen i
      go_wp2
      obtain ⟨rp, rl, hQ⟩ := H2.out
      have g7 := gb_set7 w1 w.heap.size (.int .i64 4) (str [46, 78, 79, 84, 46]) (.int .i64 0) (.int .i64 0) (str []) (.slice none 0 0) (.slice (some ⟨w1.heap.size, 0, none⟩) 1 1)
      have hW := hZ.set7 (.int .i64 4) (str [46, 78, 79, 84, 46]) (.int .i64 0) (.int .i64 0) (str []) (.slice none 0 0) (.slice (some ⟨w1.heap.size, 0, none⟩) 1 1)
      have hsz : (set7 w1 w.heap.size (.int .i64 4) (str [46, 78, 79, 84, 46]) (.int .i64 0) (.int .i64 0) (str []) (.slice none 0 0) (.slice (some ⟨w1.heap.size, 0, none⟩) 1 1)).heap.size = w1.heap.size := by simp [set7]
      simp only [set7] at hW g7 hsz
      generalize (((((((w1.setCell { block := w.heap.size, off := 0 } (.int .i64 4)).setCell { block := w.heap.size, off := 1 } (str [46, 78, 79, 84, 46])).setCell { block := w.heap.size, off := 2 } (.int .i64 0)).setCell { block := w.heap.size, off := 3 } (.int .i64 0)).setCell { block := w.heap.size, off := 4 } (str [])).setCell { block := w.heap.size, off := 5 } (.slice none 0 0)).setCell { block := w.heap.size, off := 6 } (.slice (some ⟨w1.heap.size, 0, none⟩) 1 1)) = W at *
      exact bodyPost_ret (results_ex (hd := hd0 4 [46, 78, 79, 84, 46]) (pv := .slice none 0 0) (lv := .slice (some ⟨w1.heap.size, 0, none⟩) 1 1) rfl _ (Blk.alloc hW (Obj.cells #[Value.int IntKind.i64 x.h.op, str x.h.s, Value.int IntKind.i64 x.h.vk, Value.int IntKind.i64 x.h.vn, str x.h.vs, Value.slice pa x.h.p.length pc, Value.slice la x.kids.len lc] 29)) rfl) rfl (pe_one (op := 4) (s := [46, 78, 79, 84, 46]) hb hQ (gb_trans g0 g1) rp rl (by intro q hq; have : (wb).heap.size ≤ q := hq; omega) h1 g7 hsz)
  have hn1' : isSignM (tokAt l i) [46, 78, 79, 84, 46] = false := by simpa using hn1
  by_cases hn2 : isSignM (tokAt l i) [33] = true
  · have H := Lib.hid (And.intro ih ho)
    have HN := Lib.hid (And.intro hn1' hn2)
    generalize hR : notM l sumf (m + 1) i = R at *
    have hR' : (notM l sumf m (i + 1)).bind (fun x j => .ok (unE [46, 78, 79, 84, 46] x) j) = R := by rw [← hR]; simp [notM, hn2]
    have HR := Lib.hid hR'
    clear hR hR' hn2 hsum ih ho hn1 hn1'
    go_enter Tryz.func89, Tryz.ntmps89
    go_wp2_with fail
    refine (sign_no hp _ HN.out.1).mono ?_
    rintro e wa ⟨rfl, ga⟩
    have hpa := hp.gbN ga
    go_wp2_with fail
    refine (sign_yes hpa _ HN.out.2).mono ?_
    rintro e wb ⟨rfl, h0, gb⟩
    have g0 : w.grownBy wb (some b) := gb_trans (gb_sub gz ga) gb
    have hB := Blk.gb (hz.gb ga (by simp)) gb (by simp; omega)
    have hw0 : w.heap.size < wb.heap.size := by have := ga.size; have := gb.size; simp at *; omega
    clear hz hp hpa ga gb gz
    go_wp2_with fail
    refine (H.out.1 _ _ h0 (fun e => H.out.2 (by rw [← HR.out, e]; rfl))).mono ?_
    rintro e w1 ⟨g1, h1⟩
    cases ho : notM l sumf m (i + 1) with
    | out => rw [ho] at h1; exact h1.elim
    | bad q =>
      rw [ho] at h1
      subst h1
      exact ⟨rfl, Post.bad (gb_trans g0 g1) (by rw [← HR.out, ho]; rfl)⟩
    | ok x j =>
      rw [ho] at h1
      obtain ⟨v, rfl, ⟨pa, pc, la, lc, rfl, rp, rl⟩, h1⟩ := h1
      have hs1 := g1.size
      have hb1 := h1.lt
      have hlt1 : w.heap.size < w1.heap.size := by omega
      have hZ := hB.gb g1 (by simp; omega)
      have hQ : R = .ok (unE [46, 78, 79, 84, 46] x) j := by rw [← HR.out, ho]; rfl
      have H2 := Lib.hid (And.intro rp (And.intro rl hQ))
      clear rp rl hQ hB h0
      have cz_0 := hZ.cell 0; have cz_1 := hZ.cell 1; have cz_2 := hZ.cell 2; have cz_3 := hZ.cell 3; have cz_4 := hZ.cell 4; have cz_5 := hZ.cell 5; have cz_6 := hZ.cell 6; simp only [hdC, List.getElem?_cons_zero, List.getElem?_cons_succ] at cz_0 cz_1 cz_2 cz_3 cz_4 cz_5 cz_6; have cz_f := fun i => hZ.frozen i
      go_wp2
      obtain ⟨rp, rl, hQ⟩ := H2.out
      have g7 := gb_set7 w1 w.heap.size (.int .i64 4) (str [46, 78, 79, 84, 46]) (.int .i64 0) (.int .i64 0) (str []) (.slice none 0 0) (.slice (some ⟨w1.heap.size, 0, none⟩) 1 1)
      have hW := hZ.set7 (.int .i64 4) (str [46, 78, 79, 84, 46]) (.int .i64 0) (.int .i64 0) (str []) (.slice none 0 0) (.slice (some ⟨w1.heap.size, 0, none⟩) 1 1)
      have hsz : (set7 w1 w.heap.size (.int .i64 4) (str [46, 78, 79, 84, 46]) (.int .i64 0) (.int .i64 0) (str []) (.slice none 0 0) (.slice (some ⟨w1.heap.size, 0, none⟩) 1 1)).heap.size = w1.heap.size := by simp [set7]
      simp only [set7] at hW g7 hsz
      generalize (((((((w1.setCell { block := w.heap.size, off := 0 } (.int .i64 4)).setCell { block := w.heap.size, off := 1 } (str [46, 78, 79, 84, 46])).setCell { block := w.heap.size, off := 2 } (.int .i64 0)).setCell { block := w.heap.size, off := 3 } (.int .i64 0)).setCell { block := w.heap.size, off := 4 } (str [])).setCell { block := w.heap.size, off := 5 } (.slice none 0 0)).setCell { block := w.heap.size, off := 6 } (.slice (some ⟨w1.heap.size, 0, none⟩) 1 1)) = W at *
      exact bodyPost_ret (results_ex (hd := hd0 4 [46, 78, 79, 84, 46]) (pv := .slice none 0 0) (lv := .slice (some ⟨w1.heap.size, 0, none⟩) 1 1) rfl _ (Blk.alloc hW (Obj.cells #[Value.int IntKind.i64 x.h.op, str x.h.s, Value.int IntKind.i64 x.h.vk, Value.int IntKind.i64 x.h.vn, str x.h.vs, Value.slice pa x.h.p.length pc, Value.slice la x.kids.len lc] 29)) rfl) rfl (pe_one (op := 4) (s := [46, 78, 79, 84, 46]) hb hQ (gb_trans g0 g1) rp rl (by intro q hq; have : (wb).heap.size ≤ q := hq; omega) h1 g7 hsz)
  have hn2' : isSignM (tokAt l i) [33] = false := by simpa using hn2
  have H := Lib.hid (And.intro hsum (And.intro hsum ho))
  have HN := Lib.hid (And.intro hn1' hn2')
  generalize hR : notM l sumf (m + 1) i = R at *
  have hR' : (sumf i).bind (fun x j => if (operM l 2 j).isEmpty then .ok x j else (sumf (j + 1)).bind fun y k => .ok (binE (operM l 2 j) x y) k) = R := by rw [← hR]; simp [notM, hn1', hn2']
  have HR := Lib.hid hR'
  clear hR hR' hn1 hn2 hn1' hn2' hsum ih ho
  go_enter Tryz.func89, Tryz.ntmps89
  go_wp2_with fail
  refine (sign_no hp _ HN.out.1).mono ?_
  rintro e wa ⟨rfl, ga⟩
  have hpa := hp.gbN ga
  go_wp2_with fail
  refine (sign_no hpa _ HN.out.2).mono ?_
  rintro e wb ⟨rfl, gb⟩
  have h0 := hpa.gbN gb
  have g0 : w.grownBy wb (some b) := gb_sub (gb_sub gz ga) gb
  have hB := Blk.gb (hz.gb ga (by simp)) gb (by simp)
  have hw0 : w.heap.size < wb.heap.size := by have := ga.size; have := gb.size; simp at *; omega
  clear hz hp hpa ga gb gz
  go_wp2_with fail
  refine (H.out.1 _ _ h0 (fun e => H.out.2.2 (by rw [← HR.out, e]; rfl))).mono ?_
  rintro e w1 ⟨g1, h1⟩
  cases ho : sumf i with
  | out => rw [ho] at h1; exact h1.elim
  | bad q =>
    rw [ho] at h1
    subst h1
    exact ⟨rfl, Post.bad (gb_trans g0 g1) (by rw [← HR.out, ho]; rfl)⟩
  | ok x j =>
    rw [ho] at h1
    obtain ⟨v, rfl, ⟨pa, pc, la, lc, rfl, rp, rl⟩, h1⟩ := h1
    have hb1 := h1.lt
    have hs1 := g1.size
    have HV := Lib.hid (VE.mono (ok' := fun g => w.heap.size < g ∧ g ≠ w1.heap.size) (⟨_, _, _, _, rfl, rp, rl⟩ : VE (since _) w1 _ x) (by intro q hq hq2; have : (wb).heap.size ≤ q := hq; exact ⟨by omega, by omega⟩))
    clear rp rl
    have hZ := hB.gb g1 (by simp; omega)
    have gA := gb_alloc (gb_trans g0 g1) (.cells (hdC x.h (.slice pa x.h.p.length pc) (.slice la x.kids.len lc)).toArray 29 (0, 0))
    have hA := h1.alloc (.cells (hdC x.h (.slice pa x.h.p.length pc) (.slice la x.kids.len lc)).toArray 29 (0, 0))
    have hL := Blk.new w1 (hdC x.h (.slice pa x.h.p.length pc) (.slice la x.kids.len lc)) 29
    go_wp2_with fail
    refine (operator_any hA 2 (by decide)).mono ?_
    rintro e wr ⟨rfl, g2, h2⟩
    have g12 : w1.grownBy wr (some b) := gb_trans (gb_alloc (gb_refl _ _) _) g2
    have gr := gb_trans gA g2
    have hL2 := hL.gb g2 (by simp; omega)
    have hZ2 := (hZ.gb g12 (by simp; omega))
    have HV2 := Lib.hid (HV.out.gb g12 (by intro q hq _ e; cases e; omega))
    have hwr := gr.size
    have hLb := hL2.lt
    clear gA hA hL g2 hB hZ g0 h0 HV
    have cl_0 := hL2.cell 0; have cl_1 := hL2.cell 1; have cl_2 := hL2.cell 2; have cl_3 := hL2.cell 3; have cl_4 := hL2.cell 4; have cl_5 := hL2.cell 5; have cl_6 := hL2.cell 6; simp only [hdC, List.getElem?_cons_zero, List.getElem?_cons_succ] at cl_0 cl_1 cl_2 cl_3 cl_4 cl_5 cl_6; have cl_f := fun i => hL2.frozen i
    by_cases he : operM l 2 j = []
    · rw [he, stepM_nil] at h2
      have HQ := Lib.hid (show R = .ok x j by rw [← HR.out, ho]; simp [Res.bind, he])
      rw [he]
      clear he
      have cz_0 := hZ2.cell 0; have cz_1 := hZ2.cell 1; have cz_2 := hZ2.cell 2; have cz_3 := hZ2.cell 3; have cz_4 := hZ2.cell 4; have cz_5 := hZ2.cell 5; have cz_6 := hZ2.cell 6; simp only [hdC, List.getElem?_cons_zero, List.getElem?_cons_succ] at cz_0 cz_1 cz_2 cz_3 cz_4 cz_5 cz_6; have cz_f := fun i => hZ2.frozen i
      go_wp2
      have g7 := gb_set7 wr w.heap.size (.int .i64 x.h.op) (str x.h.s) (.int .i64 x.h.vk) (.int .i64 x.h.vn) (str x.h.vs) (.slice pa x.h.p.length pc) (.slice la x.kids.len lc)
      exact bodyPost_ret (results_ex rfl _ (hZ2.set7 _ _ _ _ _ _ _) rfl) rfl (pe_copy hb HQ.out gr HV2.out (by intro k hk; exact hk.1) h2 g7)
    · rw [stepM_ne he] at h2
      have hs0 : (operM l 2 j == []) = false := by simpa using he
      have hs2 : (operM l 2 j).isEmpty = false := by simpa using he
      have HQ := Lib.hid (show (sumf (j + 1)).bind (fun y k => .ok (binE (operM l 2 j) x y) k) = R by rw [← HR.out, ho]; simp [Res.bind, he])
      clear he
      generalize hO : operM l 2 j = o at *
      clear hO
      cases ho2 : sumf (j + 1) with
      | out => exact absurd (show R = .out by rw [← HQ.out, ho2]; rfl) H.out.2.2
      | bad q =>
        go_wp2_with fail
        go_region_with (go_at_call 118; refine (H.out.2.1 _ _ (h2.gbN (gb_drew (gb_refl _ _))) (by rw [ho2]; simp)).mono ?_; rintro e w4 ⟨g4, h4⟩; rw [ho2] at h4; subst h4; refine dummyAny (P := Tryz.prog) ⟨rfl, Post.bad (gb_trans (gb_drew gr) g4) (by rw [← HQ.out, ho2]; rfl)⟩ ⟨#[], []⟩ w4 ?_)
        all_goals trivial
      | ok z q =>
        go_wp2_with fail
        go_region_with (first | (go_at_call 118; refine (H.out.2.1 _ _ (h2.gbN (gb_drew (gb_refl _ _))) (by rw [ho2]; simp)).mono ?_; rintro e w4 ⟨g4, h4⟩; rw [ho2] at h4; obtain ⟨v, rfl, hv, h4⟩ := h4; have hg4 := gb_trans (gb_drew (gb_refl wr (some b))) g4; have hL4 := hL2.gb hg4 (by simp; omega); have dl_0 := hL4.cell 0; have dl_1 := hL4.cell 1; have dl_2 := hL4.cell 2; have dl_3 := hL4.cell 3; have dl_4 := hL4.cell 4; have dl_5 := hL4.cell 5; have dl_6 := hL4.cell 6; simp only [hdC, List.getElem?_cons_zero, List.getElem?_cons_succ] at dl_0 dl_1 dl_2 dl_3 dl_4 dl_5 dl_6; have dl_f := fun i => hL4.frozen i; have hok : ∀ q, w4.heap.size ≤ q → w.heap.size < q ∧ q ≠ w1.heap.size := (fun q hq => by have := hL4.lt; exact ⟨by omega, by omega⟩); have hy : VE (fun g => w.heap.size < g ∧ g ≠ w1.heap.size) w4 _ x := HV2.out.gb hg4 (fun q hq _ e => by cases e; omega); have hz : VE (fun g => w.heap.size < g ∧ g ≠ w1.heap.size) w4 v z := hv.mono (fun q hq _ => ⟨by have : wr.heap.size ≤ q := hq; omega, by have : wr.heap.size ≤ q := hq; omega⟩)) | (go_at_call 116; refine (binary_any o x z _ _ hok hy hz).mono ?_; rintro e w5 ⟨u, rfl, hu, g5⟩; obtain ⟨ua, uc, va, vc, rfl, ru, rv⟩ := hu; have hL5 := hL4.gb g5 (by simp); have el_0 := hL5.cell 0; have el_1 := hL5.cell 1; have el_2 := hL5.cell 2; have el_3 := hL5.cell 3; have el_4 := hL5.cell 4; have el_5 := hL5.cell 5; have el_6 := hL5.cell 6; simp only [hdC, List.getElem?_cons_zero, List.getElem?_cons_succ] at el_0 el_1 el_2 el_3 el_4 el_5 el_6; have el_f := fun i => hL5.frozen i))
        all_goals
          generalize hbe : binE o x z = bz at *
          have HBE := Lib.hid hbe
          have g7 := gb_set7 w5 w1.heap.size (.int .i64 bz.h.op) (str bz.h.s) (.int .i64 bz.h.vk) (.int .i64 bz.h.vn) (str bz.h.vs) (.slice ua bz.h.p.length uc) (.slice va bz.kids.len vc)
          have hL7 := hL5.set7 (.int .i64 bz.h.op) (str bz.h.s) (.int .i64 bz.h.vk) (.int .i64 bz.h.vn) (str bz.h.vs) (.slice ua bz.h.p.length uc) (.slice va bz.kids.len vc)
          have h7 := (h4.gbN g5).gb g7 (by intro q e; cases e; omega)
          have hV7 : VE (fun g => w.heap.size < g ∧ g ≠ w1.heap.size) _ _ bz := VE.gb ⟨_, _, _, _, rfl, ru, rv⟩ g7 (by intro q hq _ e; cases e; exact hq.2 rfl)
          have gW := gb_sub' (gb_sub (gb_trans (gb_drew gr) g4) g5) g7 (.inr (by omega))
          have hZ7 := Blk.gb (Blk.gb (hZ2.gb hg4 (by simp; omega)) g5 (by simp)) g7 (by simp; omega)
          have hQ : R = .ok bz q := by rw [← HQ.out, ho2, ← hbe]; rfl
          simp only [set7] at hL7 h7 hV7 gW hZ7
          clear g7 ru rv hy hz hok hbe cl_0 cl_1 cl_2 cl_3 cl_4 cl_5 cl_6 cl_f dl_0 dl_1 dl_2 dl_3 dl_4 dl_5 dl_6 dl_f el_0 el_1 el_2 el_3 el_4 el_5 el_6 el_f hL4 hL5 hL2 hZ2 hs0 hs2
          generalize (((((((w5.setCell { block := w1.heap.size, off := 0 } (.int .i64 bz.h.op)).setCell { block := w1.heap.size, off := 1 } (.string { data := List.toArray bz.h.s })).setCell { block := w1.heap.size, off := 2 } (.int .i64 bz.h.vk)).setCell { block := w1.heap.size, off := 3 } (.int .i64 bz.h.vn)).setCell { block := w1.heap.size, off := 4 } (.string { data := List.toArray bz.h.vs })).setCell { block := w1.heap.size, off := 5 } (.slice ua bz.h.p.length uc)).setCell { block := w1.heap.size, off := 6 } (.slice va bz.kids.len vc)) = W at *
          have HF := Lib.hid (And.intro h7 (And.intro hV7 (And.intro gW hQ)))
          clear h7 hV7 gW hQ
          have cl_0 := hL7.cell 0; have cl_1 := hL7.cell 1; have cl_2 := hL7.cell 2; have cl_3 := hL7.cell 3; have cl_4 := hL7.cell 4; have cl_5 := hL7.cell 5; have cl_6 := hL7.cell 6; simp only [hdC, List.getElem?_cons_zero, List.getElem?_cons_succ] at cl_0 cl_1 cl_2 cl_3 cl_4 cl_5 cl_6; have cl_f := fun i => hL7.frozen i
          have cz_0 := hZ7.cell 0; have cz_1 := hZ7.cell 1; have cz_2 := hZ7.cell 2; have cz_3 := hZ7.cell 3; have cz_4 := hZ7.cell 4; have cz_5 := hZ7.cell 5; have cz_6 := hZ7.cell 6; simp only [hdC, List.getElem?_cons_zero, List.getElem?_cons_succ] at cz_0 cz_1 cz_2 cz_3 cz_4 cz_5 cz_6; have cz_f := fun i => hZ7.frozen i
          go_wp2
          have g7 := gb_set7 W w.heap.size (.int .i64 bz.h.op) (str bz.h.s) (.int .i64 bz.h.vk) (.int .i64 bz.h.vn) (str bz.h.vs) (.slice ua bz.h.p.length uc) (.slice va bz.kids.len vc)
          obtain ⟨h7, hV7, gW, hQ⟩ := HF.out
          exact bodyPost_ret (results_ex rfl _ (hZ7.set7 _ _ _ _ _ _ _) rfl) rfl (pe_copy hb hQ gW hV7 (by intro k hk; exact hk.1) h7 g7)
end

end Go.Proofs.YtmcajbhljbbglaaGreatDoor
