/-
  append onto a slice that the call has made, with one thing more than the kit's law says: the row stays, or is new.
  Contracts of the parser: variable, names, unary, list.
  Contracts of the parser: list, unary.
-/
import Derived.Test.YtmcajbhljbbglaaGreatDoorSs04
import Derived.Test.YtmcajbhljbbglaaGreatDoorSs06
import Derived.Test.YtmcajbhljbbglaaGreatDoorSs02
set_option linter.all false
set_option linter.unusedVariables false
set_option linter.unusedSimpArgs false
set_option linter.unnecessarySimpa false
set_option linter.constructorNameAsVariable false
set_option linter.deprecated false

namespace Go.Proofs.YtmcajbhljbbglaaGreatDoor
open Go.RowKit

/-- the kit's 'run_append_own', and: the new slice's block is the old one or a new one -/
theorem run_append_x {P : Program} (w : World) (base : Nat) (t ty e : TypeId) (i : TypeInfo) (z : Value) (size bytes : Nat) (ht : P.underlying t = some (.slice e)) (hi : P.info? e = some i) (hz : i.zero = some z)
    (hsize : i.size = size) (hby : i.bytes = bytes) (hzs : z.cells.size = size) (hsz : 0 < size)
    (v : Value) (n : Nat) (xs : List Value) (hown : w.ownsRow base e size v n xs)
    (a : Addr) (m c : Nat) (news : List Value) (hl : news.length = m * size) (hnews : ∀ j u, news[j]? = some u → w.cell? (a.add j) = some u) (h1 : ∀ u ∈ news, u.oneCell' = true)
    (h63 : n + m ≤ maxLen) (hbytes : (n + m) * bytes ≤ 140737488355328) (hbase : base ≤ w.heap.size) :
    ∃ v' w', (Builtin.append_ #[t, t] ty #[v, .slice (some a) m c]).run P w = .ok v' w' ∧ w'.ownsRow base e size v' (n + m) (xs ++ news) ∧ w.grownBy w' v.ownBlock ∧
      (∀ k, v'.ownBlock = some k → v.ownBlock = some k ∨ w.heap.size ≤ k) := by
  obtain ⟨v1, w1, hr1, ho1, hg1, _⟩ := run_append_own (P := P) w base t ty e i z size bytes ht hi hz hsize hby hzs hsz v n xs hown a m c news hl hnews h1 h63 hbytes hbase
  refine ⟨v1, w1, hr1, ho1, hg1, fun k hk => ?_⟩
  rcases hown.2 with ⟨rfl, rfl⟩ | ⟨g, cap, cur, rfl, hbg, hg, hnc, hcm, hcs, htake⟩
  · obtain ⟨v2, w2, hr2, ho2, _, _⟩ := run_append_own (P := P) w w.heap.size t ty e i z size bytes ht hi hz hsize hby hzs hsz _ 0 xs ⟨hown.1, .inl ⟨rfl, rfl⟩⟩ a m c news hl hnews h1 h63 hbytes (Nat.le_refl _)
    rw [hr1] at hr2
    cases hr2
    exact .inr (ho2.lt k hk).1
  · by_cases hroom : n + m ≤ cap
    · have hfit : n * i.size + news.length ≤ cur.size := by rw [hl, hcs, hsize, ← Nat.add_mul]; exact Nat.mul_le_mul_right _ hroom
      have hr := run_append_room (P := P) w t ty e i ht hi g n cap cur hg a m c news (by rw [hsize]; exact hl) hnews h1 hroom hfit
      rw [hr1] at hr
      cases hr
      left; simpa [Value.ownBlock] using hk
    · have holds : ∀ j u, xs[j]? = some u → w.cell? ((⟨g, 0, none⟩ : Addr).add j) = some u := hown.cells (g := g) rfl
      have hr := run_append_grow (P := P) w t ty e i z ht hi hz ⟨g, 0, none⟩ n cap xs (by rw [hsize]; exact hown.1) holds a m c news (by rw [hsize]; exact hl) hnews (by omega) (by unfold maxLen at h63; omega) (by rw [hby]; exact growslice_fits (by unfold maxLen at h63; omega) hbytes)
      rw [hr1] at hr
      cases hr
      right
      simp [Value.ownBlock] at hk
      omega

/-- 's = append(s, x..)' in a walk -/
theorem wpList_append_x {P : Program} {w : World} {ops : Array Oper} {rest : List Oper} {o : Oper} {a : Act} {Q : Exit → Act → World → Prop} (hgd : o.guard = none) (s x : Operand) (t : TypeId)
    (ho : o.op = .call { callee := .builtin .append, args := #[s, x], argTypes := #[t, t] })
    (base : Nat) (e : TypeId) (i : TypeInfo) (z : Value) (size bytes : Nat) (ht : P.underlying t = some (.slice e)) (hi : P.info? e = some i) (hz : i.zero = some z)
    (hsize : i.size = size) (hby : i.bytes = bytes) (hzs : z.cells.size = size) (hsz : 0 < size)
    (v : Value) (n : Nat) (xs : List Value) (hs : a.eval s = v) (hown : w.ownsRow base e size v n xs)
    (ad : Addr) (m c : Nat) (news : List Value) (hx : a.eval x = .slice (some ad) m c) (hl : news.length = m * size) (hnews : ∀ j u, news[j]? = some u → w.cell? (ad.add j) = some u) (h1 : ∀ u ∈ news, u.oneCell' = true)
    (h63 : n + m ≤ maxLen) (hbytes : (n + m) * bytes ≤ 140737488355328) (hbase : base ≤ w.heap.size)
    (h : ∀ v' w', w'.ownsRow base e size v' (n + m) (xs ++ news) → w.grownBy w' v.ownBlock → (∀ k, v'.ownBlock = some k → v.ownBlock = some k ∨ w.heap.size ≤ k) → wpList P ops Q rest (a.put o.dst v') w') : wpList P ops Q (o :: rest) a w := by
  refine wpList_plain hgd fun K hK => ?_
  obtain ⟨v', w', hr, h2, h3, h4⟩ := run_append_x (P := P) w base t o.type e i z size bytes ht hi hz hsize hby hzs hsz v n xs hown ad m c news hl hnews h1 h63 hbytes hbase
  unfold Oper.wp execOp
  simp only [ho, resolve, invoke, builtin, Sem.run_bind, Sem.run_pure, Result.andThen_ok, List.map_toArray, List.map_cons, List.map_nil, hs, hx, hr]
  exact hK _ _ (h v' w' h2 h3 h4)

/-- the last expression's cells as a new block's -/
theorem new_cells (w : World) (cs : List Value) (t : TypeId) : ∀ j u, cs[j]? = some u → (w.alloc (.cells cs.toArray t (0, 0))).cell? ((⟨w.heap.size, 0, none⟩ : Addr).add j) = some u := by
  intro j u h
  have e : (⟨w.heap.size, 0, none⟩ : Addr).add j = ⟨w.heap.size, j, none⟩ := by unfold Addr.add; split <;> simp_all
  rw [e]
  exact (Blk.new w cs t).cell' j h

/-- an expression is appended to a row that the call owns -/
theorem OwnF.snoc {w w1 : World} {B n : Nat} {v v' : Value} {f : Fo} {x : Ex} {cs : List Value} {pa la : Option Addr} {pc lc : Nat} {okx : Nat → Prop}
    (hf : RepF (fun g => B ≤ g ∧ v.ownBlock ≠ some g) w f cs) (hn : n = f.len)
    (rp : Cells w (.slice pa x.h.p.length pc) 1 x.h.p.length (x.h.p.map str) okx) (rl : RepL okx w (.slice la x.kids.len lc) x.kids) (hokx : ∀ k, okx k → B ≤ k ∧ v.ownBlock ≠ some k)
    (ho : w1.ownsRow B 29 7 v' (n + 1) (cs ++ hdC x.h (.slice pa x.h.p.length pc) (.slice la x.kids.len lc))) (hg : w.grownBy w1 v.ownBlock) (hnew : ∀ k, v'.ownBlock = some k → v.ownBlock = some k ∨ w.heap.size ≤ k) :
    OwnF w1 B v' (f.snoc x) := by
  subst hn
  refine ⟨_, by rw [Fo.len_snoc]; exact ho, ?_⟩
  have h1 : RepF (fun g => B ≤ g ∧ v.ownBlock ≠ some g) w (f.snoc x) (cs ++ hdC x.h (.slice pa x.h.p.length pc) (.slice la x.kids.len lc)) :=
    hf.app (VE.rep (rp.mono fun k hk _ => hokx k hk) (rl.mono fun k hk _ => hokx k hk))
  have h2 := RepF.mono (ok' := fun g => B ≤ g ∧ v.ownBlock ≠ some g ∧ v'.ownBlock ≠ some g) (fun k hk hlt => ⟨hk.1, hk.2, fun e => by
    rcases hnew k e with h | h
    · exact hk.2 h
    · omega⟩) h1
  exact (h2.gb hg fun k hk _ e => hk.2.1 e.symm).mono fun k hk _ => ⟨hk.1, hk.2.2⟩

theorem info_ex : (Tryz.prog.info? 29).map (fun i => (i.zero, i.size, i.bytes)) = some (some (.agg #[.int .i64 0, str [], .int .i64 0, .int .i64 0, str [], .slice none 0 0, .slice none 0 0]), 7, 104) := by kernel_rfl
theorem info_str : (Tryz.prog.info? 9).map (fun i => (i.zero, i.size, i.bytes)) = some (some (str []), 1, 16) := by kernel_rfl
theorem info_tok : (Tryz.prog.info? 89).map (fun i => (i.zero, i.size, i.bytes)) = some (some (.agg #[.int .i64 0, .int .i64 0, str []]), 3, 32) := by kernel_rfl

end Go.Proofs.YtmcajbhljbbglaaGreatDoor

namespace Go.Proofs.YtmcajbhljbbglaaGreatDoor
open Go.RowKit
section
variable {b : Nat} {tv wv : Value} {l : List Tok} {wl : List Bs}

set_option maxRecDepth 20000 in
set_option maxHeartbeats 1000000 in
theorem variable_any {w : World} {i : Nat} (h : Par w b tv wv l wl i) (hl : Short l) :
    Calls Tryz.prog 287 #[.pointer (some ⟨b, 0, none⟩)] w (Post b tv wv l wl w (fun _ v x => v = str x) (nameM l i)) := by
  have hb := h.lt
  have c3 := h.c3
  have HL := Lib.hid hl
  clear hl
  go_enter Tryz.func287, Tryz.ntmps287
  go_wp2_with fail
  go_region_with (first | (go_at_call 90; refine (ahead0 (h.gbN (gb_drew (gb_refl _ _)))).mono ?_; rintro e w1 ⟨rfl, g1⟩; have h1 := h.gbN (gb_trans (gb_drew (gb_refl _ _)) g1); have d3 := h1.c3) | (go_at_call 178; refine (Tryz.slices_Contains_string_empty _ _ _ _).mono ?_; rintro e w2 ⟨rfl, rfl⟩))
  all_goals
    have gA := gb_trans (gb_drew (gb_refl w none)) g1
    go_wp2_with fail
    refine (name_any h1 HL.out).mono ?_
    rintro e w2 ⟨g2, h2⟩
    cases hr : nameM l i with
    | out => rw [hr] at h2; exact h2.elim
    | bad q =>
      rw [hr] at h2
      subst h2
      exact ⟨rfl, Post.bad (gb_trans (gb_none gA) g2) hr⟩
    | ok x j =>
      rw [hr] at h2
      obtain ⟨v, rfl, rfl, h2⟩ := h2
      have HR := Lib.hid hr
      clear hr
      go_wp2
      go_ret
      exact Post.ok (gb_trans (gb_none gA) g2) HR.out rfl h2

/-- a new row that holds all that it has room for -/
theorem ownsRow_new {w : World} {base e size n m : Nat} {cs : List Value} (hm : m = w.heap.size) (hb : base ≤ w.heap.size) (h : cs.length = n * size) (hn : n ≤ maxLen) : (w.alloc (.cells cs.toArray e (0, 0))).ownsRow base e size (.slice (some ⟨m, 0, none⟩) n n) n cs := by
  subst hm
  exact ⟨h, .inr ⟨_, _, cs.toArray, rfl, hb, heap_alloc_new w _, Nat.le_refl _, hn, by simpa using h, by simp [← h]⟩⟩

/-- v is a slice of the texts p -/
def VS (B : Nat) (w : World) (v : Value) (p : List Bs) : Prop := ∃ pa pc, v = .slice pa p.length pc ∧ Cells w v 1 p.length (p.map str) (since B)
theorem VS.of_owns {w : World} {B : Nat} {v : Value} {p : List Bs} (h : w.ownsRow B 9 1 v p.length (p.map str)) : VS B w v p := by
  have hc := ownsRow_cells h
  obtain ⟨a, cap, e, _⟩ := id hc
  exact ⟨a, cap, e, hc⟩

def NamesR (l : List Tok) (wl : List Bs) (b : Nat) (tv wv : Value) (w : World) (r : Res (List Bs)) (m : Nat) (v : Value) (wr : World) : Prop :=
  ∃ acc j, wr.ownsRow w.heap.size 9 1 v acc.length (acc.map str) ∧ Par wr b tv wv l wl j ∧ namesLoop l m acc j = r ∧ w.grownBy wr (some b) ∧ acc.length ≤ j ∧ acc ≠ []

set_option maxRecDepth 20000 in
set_option maxHeartbeats 1000000 in
theorem names_any {w : World} {i : Nat} (h : Par w b tv wv l wl i) (hl : Short l) (n : Nat) (ho : namesM l n i ≠ .out) :
    Calls Tryz.prog 133 #[.pointer (some ⟨b, 0, none⟩)] w (Post b tv wv l wl w (VS w.heap.size) (namesM l n i)) := by
  have hb := h.lt
  have hf := h.few
  generalize hR : namesM l n i = R at *
  have H := Lib.hid (And.intro hl (And.intro ho hR))
  clear hl ho hR
  go_enter Tryz.func133, Tryz.ntmps133
  go_wp2_with fail
  refine (name_any h H.out.1).mono ?_
  rintro e w1 ⟨g1, h1⟩
  cases hr : nameM l i with
  | out => rw [hr] at h1; exact h1.elim
  | bad q =>
    rw [hr] at h1
    subst h1
    exact ⟨rfl, Post.bad g1 (by rw [← H.out.2.2, namesM, hr]; rfl)⟩
  | ok x j =>
    rw [hr] at h1
    obtain ⟨v, rfl, rfl, h1⟩ := h1
    have HR := Lib.hid (show namesLoop l n [x] j = R by rw [← H.out.2.2, namesM, hr]; rfl)
    have hj : 1 ≤ j := by
      unfold nameM at hr
      split at hr
      · cases hr; omega
      · cases hr
    have hs1 := g1.size
    have ho1 : (w1.alloc (.cells [str x].toArray 9 (0, 0))).ownsRow w.heap.size 9 1 (.slice (some ⟨w1.heap.size, 0, none⟩) 1 1) 1 [str x] := ownsRow_new rfl hs1 rfl (by decide)
    have h1' := h1.alloc (.cells [str x].toArray 9 (0, 0))
    have g1' := gb_alloc g1 (.cells [str x].toArray 9 (0, 0))
    clear hr
    go_wp2_with fail
    go_loopg [3] n (fun m v wr => NamesR l wl b tv wv w R m v wr)
    case atStart => exact ⟨[x], j, ho1, h1', HR.out, g1', hj, by simp⟩
    case round =>
      obtain ⟨acc, q, hown, hp, hloop, gr, hlen, hne⟩ := hrel
      clear ho1 h1' g1' h1 g1
      have hj2 := hp.le
      cases gk with
      | zero => exact absurd hloop.symm H.out.2.1
      | succ m =>
      cases hs : isSignM (tokAt l q) [44] with
      | false =>
        have HQ := Lib.hid (show R = .ok acc q by rw [← hloop]; simp [namesLoop, hs])
        have HO := Lib.hid hown
        have HS := Lib.hid hs
        clear hloop hs hown
        go_wp2_with fail
        refine (sign_no hp _ HS.out).mono ?_
        rintro e w2 ⟨rfl, g2⟩
        have h2 := hp.gbN g2
        go_wp2
        go_ret
        exact Post.ok (gb_sub gr g2) HQ.out (VS.of_owns (ownsRow_gb HO.out g2 (by simp))) h2
      | true =>
        have HQ := Lib.hid (show (nameM l (q + 1)).bind (fun y j => namesLoop l m (acc ++ [y]) j) = R by rw [← hloop]; simp [namesLoop, hs])
        have HO := Lib.hid hown
        have HS := Lib.hid hs
        clear hloop hs hown
        go_wp2_with fail
        refine (sign_yes hp _ HS.out).mono ?_
        rintro e w2 ⟨rfl, h2, g2⟩
        go_wp2_with fail
        refine (name_any h2 H.out.1).mono ?_
        rintro e w3 ⟨g3, h3⟩
        cases hr2 : nameM l (q + 1) with
        | out => rw [hr2] at h3; exact h3.elim
        | bad z =>
          rw [hr2] at h3
          subst h3
          exact ⟨rfl, Post.bad (gb_trans (gb_trans gr g2) g3) (by rw [← HQ.out, hr2]; rfl)⟩
        | ok y z =>
          rw [hr2] at h3
          obtain ⟨v', rfl, rfl, h3⟩ := h3
          have hz : q + 2 ≤ z := by
            unfold nameM at hr2
            split at hr2
            · cases hr2; omega
            · cases hr2
          have HQ2 := Lib.hid (show namesLoop l m (acc ++ [y]) z = R by rw [← HQ.out, hr2]; rfl)
          have g23 := gb_trans g2 g3
          have hown3 := ownsRow_gb HO.out g23 (by intro k hk _ e; cases e; omega)
          have hown4 := hown3.alloc (.cells [str y].toArray 9 (0, 0))
          have hlen2 := h3.le
          have gA := gb_alloc (gb_trans gr g23) (.cells [str y].toArray 9 (0, 0))
          have hA := h3.alloc (.cells [str y].toArray 9 (0, 0))
          have hbs := gA.size
          obtain ⟨i0, hi, hz0, hz1, hz2⟩ := info_parts info_str
          have hnc := new_cells w3 [str y] 9
          have hml : acc.length + 1 ≤ maxLen := by unfold maxLen; omega
          clear hr2 hown3
          have HX := Lib.hid (And.intro hi (And.intro hz0 (And.intro hz1 (And.intro hz2 (And.intro hnc (And.intro hml hown4))))))
          clear hi hz0 hz1 hz2 hnc hml hown4
          go_wp2_with (at_builtin; obtain ⟨hi, hz0, hz1, hz2, hnc, hml, hown4⟩ := HX.out; refine wpList_append_x rfl _ _ 26 rfl w.heap.size 9 i0 (str []) 1 16 Tryz.underlying26 hi hz0 hz1 hz2 rfl (by decide) _ _ _ rfl hown4 ⟨w3.heap.size, 0, none⟩ 1 1 [str y] rfl rfl hnc (by simp [Value.oneCell']) hml (by omega) hbs ?_; intro v' w5 hown5 g5 _; clear hi hz0 hz1 hz2 hnc hml hown4)
          have HO5 := Lib.hid hown5
          clear hown5
          go_roundg m
          case measure => omega
          case rel =>
            have hob : ∀ k, u3.ownBlock = some k → b < k := fun k hk => by have := (HO.out.lt k hk).1; omega
            have hob2 : ∀ k, u3.ownBlock = some k → w.heap.size ≤ k := fun k hk => (HO.out.lt k hk).1
            refine ⟨acc ++ [y], z, by simpa using HO5.out, hA.gb g5 hob, HQ2.out, ?_, by simp; omega, by simp⟩
            have g5' : World.grownBy (w3.alloc _) w5 u3.ownBlock := g5
            cases hv : u3.ownBlock with
            | none => rw [hv] at g5'; exact gb_sub gA g5'
            | some k => rw [hv] at g5'; exact gb_sub' gA g5' (.inr (hob2 k hv))
end

end Go.Proofs.YtmcajbhljbbglaaGreatDoor

namespace Go.Proofs.YtmcajbhljbbglaaGreatDoor
open Go.RowKit
section
variable {b : Nat} {tv wv : Value} {l : List Tok} {wl : List Bs}

/-- v is a slice of the expressions f, new since B -/
def VL (B : Nat) (w : World) (v : Value) (f : Fo) : Prop := ∃ la lc, v = .slice la f.len lc ∧ RepL (since B) w v f
theorem VL.of_owns {w : World} {B : Nat} {v : Value} {f : Fo} (h : OwnF w B v f) : VL B w v f := by
  obtain ⟨cs, h1, h2⟩ := id h
  obtain ⟨a, cap, e, _⟩ := ownsRow_cells h1
  exact ⟨a, cap, e, h.rep⟩

def ListR (l : List Tok) (wl : List Bs) (E : Nat → Res Ex) (b : Nat) (tv wv : Value) (w : World) (r : Res Fo) (m : Nat) (v : Value) (wr : World) : Prop :=
  ∃ acc j, OwnF wr w.heap.size v acc ∧ Par wr b tv wv l wl j ∧ listLoop l E m acc j = r ∧ w.grownBy wr (some b) ∧ acc.len ≤ j

/-- a reading goes on -/
def Goes (E : Nat → Res Ex) : Prop := ∀ i x j, E i = .ok x j → i < j

set_option maxRecDepth 20000 in
set_option maxHeartbeats 1000000 in
theorem list_any {E : Nat → Res Ex} (hE : CE 56 b tv wv l wl E) (hgo : Goes E) {w : World} {i : Nat} (h : Par w b tv wv l wl i) (n : Nat) (ho : listM l E n i ≠ .out) :
    Calls Tryz.prog 180 #[.pointer (some ⟨b, 0, none⟩)] w (Post b tv wv l wl w (VL w.heap.size) (listM l E n i)) := by
  have hb := h.lt
  have hf := h.few
  generalize hR : listM l E n i = R at *
  have H := Lib.hid (And.intro hE (And.intro ho (And.intro hR hgo)))
  clear hE ho hR hgo
  go_enter Tryz.func180, Tryz.ntmps180
  go_wp2_with fail
  refine (H.out.1 _ _ h (fun e => H.out.2.1 (by rw [← H.out.2.2.1, listM, e]; rfl))).mono ?_
  rintro e w1 ⟨g1, h1⟩
  cases hr : E i with
  | out => rw [hr] at h1; exact h1.elim
  | bad q =>
    rw [hr] at h1
    subst h1
    exact ⟨rfl, Post.bad g1 (by rw [← H.out.2.2.1, listM, hr]; rfl)⟩
  | ok x j =>
    rw [hr] at h1
    obtain ⟨v, rfl, ⟨pa, pc, la, lc, rfl, rp, rl⟩, h1⟩ := h1
    have HR := Lib.hid (show listLoop l E n (.one x) j = R by rw [← H.out.2.2.1, listM, hr]; rfl)
    have hj : 1 ≤ j := by have := H.out.2.2.2 _ _ _ hr; omega
    have hs1 := g1.size
    have hlt := h1.lt
    have ho1 : OwnF (w1.alloc (.cells (hdC x.h (.slice pa x.h.p.length pc) (.slice la x.kids.len lc)).toArray 29 (0, 0))) w.heap.size (.slice (some ⟨w1.heap.size, 0, none⟩) 1 1) (.one x) := by
      have g := World.grownBy_alloc w1 (.cells (hdC x.h (.slice pa x.h.p.length pc) (.slice la x.kids.len lc)).toArray 29 (0, 0)) none
      refine ⟨_, ownsRow_new rfl hs1 rfl (by decide), RepF.gb g (by simp) (RepF.mono (ok := since w.heap.size) ?_ (VE.rep rp rl))⟩
      intro k hk hk2
      exact ⟨hk, by simp [Value.ownBlock]; omega⟩
    have HO := Lib.hid ho1
    have h1' := h1.alloc (.cells (hdC x.h (.slice pa x.h.p.length pc) (.slice la x.kids.len lc)).toArray 29 (0, 0))
    have g1' := gb_alloc g1 (.cells (hdC x.h (.slice pa x.h.p.length pc) (.slice la x.kids.len lc)).toArray 29 (0, 0))
    clear hr ho1 rp rl
    go_wp2_with fail
    go_loopg [3] n (fun m v wr => ListR l wl E b tv wv w R m v wr)
    case atStart => exact ⟨.one x, j, HO.out, h1', HR.out, g1', hj⟩
    case round =>
      obtain ⟨acc, q, hown, hp, hloop, gr, hlen⟩ := hrel
      clear HO h1' g1' h1 g1
      have hj2 := hp.le
      cases gk with
      | zero => exact absurd hloop.symm H.out.2.1
      | succ m =>
      cases hs : isSignM (tokAt l q) [44] with
      | false =>
        have HQ := Lib.hid (show R = .ok acc q by rw [← hloop]; simp [listLoop, hs])
        have HO := Lib.hid hown
        have HS := Lib.hid hs
        clear hloop hs hown
        go_wp2_with fail
        refine (sign_no hp _ HS.out).mono ?_
        rintro e w2 ⟨rfl, g2⟩
        have h2 := hp.gbN g2
        go_wp2
        go_ret
        exact Post.ok (gb_sub gr g2) HQ.out (VL.of_owns (HO.out.gb g2 (by simp))) h2
      | true =>
        have HQ := Lib.hid (show (E (q + 1)).bind (fun y j => listLoop l E m (acc.snoc y) j) = R by rw [← hloop]; simp [listLoop, hs])
        have HO := Lib.hid hown
        have HS := Lib.hid hs
        clear hloop hs hown
        go_wp2_with fail
        refine (sign_yes hp _ HS.out).mono ?_
        rintro e w2 ⟨rfl, h2, g2⟩
        go_wp2_with fail
        refine (H.out.1 _ _ h2 (fun e => H.out.2.1 (by rw [← HQ.out, e]; rfl))).mono ?_
        rintro e w3 ⟨g3, h3⟩
        cases hr2 : E (q + 1) with
        | out => rw [hr2] at h3; exact h3.elim
        | bad z =>
          rw [hr2] at h3
          subst h3
          exact ⟨rfl, Post.bad (gb_trans (gb_trans gr g2) g3) (by rw [← HQ.out, hr2]; rfl)⟩
        | ok y z =>
          rw [hr2] at h3
          obtain ⟨v', rfl, ⟨ya, yc, ma, mc, rfl, ry, rm⟩, h3⟩ := h3
          have hz : q + 1 < z := H.out.2.2.2 _ _ _ hr2
          have HQ2 := Lib.hid (show listLoop l E m (acc.snoc y) z = R by rw [← HQ.out, hr2]; rfl)
          have g23 := gb_trans g2 g3
          obtain ⟨cs, hown3, hrep3⟩ := HO.out.gb g23 (by intro k hk _ e; cases e; omega)
          have hown4 := hown3.alloc (.cells (hdC y.h (.slice ya y.h.p.length yc) (.slice ma y.kids.len mc)).toArray 29 (0, 0))
          have hlen2 := h3.le
          have gB := World.grownBy_alloc w3 (.cells (hdC y.h (.slice ya y.h.p.length yc) (.slice ma y.kids.len mc)).toArray 29 (0, 0)) none
          have gA := gb_alloc (gb_trans gr g23) (.cells (hdC y.h (.slice ya y.h.p.length yc) (.slice ma y.kids.len mc)).toArray 29 (0, 0))
          have hA := h3.alloc (.cells (hdC y.h (.slice ya y.h.p.length yc) (.slice ma y.kids.len mc)).toArray 29 (0, 0))
          have hbs := gA.size
          have hs23 := g2.size
          have hsr := gr.size
          have hol : ∀ k, u3.ownBlock = some k → w.heap.size ≤ k ∧ k < wr.heap.size := fun k hk => by
            obtain ⟨cs0, ho0, _⟩ := HO.out
            exact ho0.lt k hk
          obtain ⟨i0, hi, hz0, hz1, hz2⟩ := info_parts info_ex
          have hnc := new_cells w3 (hdC y.h (.slice ya y.h.p.length yc) (.slice ma y.kids.len mc)) 29
          have hml : acc.len + 1 ≤ maxLen := by unfold maxLen; omega
          have HY := Lib.hid (And.intro (hrep3.gb gB (by simp)) (And.intro (ry.gb gB (by simp)) (rm.gb gB (by simp))))
          have HX := Lib.hid (And.intro hi (And.intro hz0 (And.intro hz1 (And.intro hz2 (And.intro hnc (And.intro hml (And.intro hown4 hol)))))))
          clear hr2 hown3 hrep3 ry rm hi hz0 hz1 hz2 hnc hml hown4 hol
          go_wp2_with (at_builtin; obtain ⟨hi, hz0, hz1, hz2, hnc, hml, hown4, hol⟩ := HX.out; refine wpList_append_x rfl _ _ 27 rfl w.heap.size 29 i0 _ 7 104 Tryz.underlying27 hi hz0 hz1 hz2 rfl (by decide) _ _ _ rfl hown4 ⟨w3.heap.size, 0, none⟩ 1 1 (hdC y.h (.slice ya y.h.p.length yc) (.slice ma y.kids.len mc)) rfl rfl hnc (by simp [hdC, Value.oneCell']) hml (by omega) hbs ?_; intro v' w5 hown5 g5 hn5; clear hi hz0 hz1 hz2 hnc hml hown4 hol)
          have HO5 := Lib.hid (And.intro hown5 hn5)
          clear hown5 hn5
          go_roundg m
          case measure => omega
          case rel =>
            have hol := HX.out.2.2.2.2.2.2.2
            have g5' : World.grownBy (w3.alloc _) w5 u3.ownBlock := g5
            refine ⟨acc.snoc y, z, ?_, hA.gb g5' (fun k hk => by have := (hol k hk).1; omega), HQ2.out, ?_, by rw [Fo.len_snoc]; omega⟩
            · exact OwnF.snoc (v := u3) (okx := since w2.heap.size) HY.out.1 rfl HY.out.2.1 HY.out.2.2 (by intro k hk; have hk : w2.heap.size ≤ k := hk; exact ⟨by omega, fun e => by have := (hol k e).2; omega⟩) HO5.out.1 g5' HO5.out.2
            · cases hv : u3.ownBlock with
              | none => rw [hv] at g5'; exact gb_sub gA g5'
              | some k => rw [hv] at g5'; exact gb_sub' gA g5' (.inr (hol k hv).1)
end

end Go.Proofs.YtmcajbhljbbglaaGreatDoor
