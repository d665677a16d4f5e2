/-
  Plain laws of the grammar: a reading goes on, stays within the tokens, and its fuel suffices. The whole of expr, by the fuel. run: a rule of the grammar under a deferred recover. The words of statemen
-/
import Derived.Test.YtgjdhajcnechdaaGreatDoorSb01
import Derived.Test.YtgjdhajcnechdaaGreatDoorSb07
import Derived.Defers
import Derived.Recover
import Derived.Lib.ItoaMem
import Derived.Test.YtgjdhajcnechdaaGreatDoorSb06
import Derived.Test.YtgjdhajcnechdaaGreatDoorSb04
import Derived.Maps.RangeWalk
set_option linter.all false
set_option maxRecDepth 100000
set_option maxHeartbeats 8000000
namespace Go.Proofs.YtgjdhajcnechdaaGreatDoor
open Go.Proofs.Tryz
def Fine{α:Type}(o:Prop)(L i:Nat):Res α→Prop
 | .ok _ j=>i<j∧j≤L
 | .bad _=>True
 | .out=>¬o
theorem Fine.bind{α β:Type}{o:Prop}{L i:Nat}{r:Res α}{f:α→Nat→Res β}(h:Fine o L i r)(hf:∀a j,r= .ok a j→i<j→j≤L→Fine o L i (f a j)):Fine o L i (r.bind f):=by
 cases r with
 |ok a j=>exact hf a j rfl h.1 h.2
 |bad k=>trivial
 |out=>exact h
theorem Fine.mono{α:Type}{o:Prop}{L i i':Nat}{r:Res α}(h:Fine o L i' r)(hi:i≤i'):Fine o L i r:=by
 cases r with
 |ok a j=>exact⟨by have:=h.1;omega,h.2⟩
 |bad k=>trivial
 |out=>exact h
theorem Fine.weak{α:Type}{o o':Prop}{L i:Nat}{r:Res α}(h:Fine o' L i r)(ho:o→o'):Fine o L i r:=by
 cases r with
 |ok a j=>exact h
 |bad k=>trivial
 |out=>exact fun k=>h (ho k)
theorem Fine.bind'{α β:Type}{o:Prop}{L i i':Nat}{r:Res α}{f:α→Nat→Res β}(hi:i≤i')(h:Fine o L i' r)(hf:∀a j,r= .ok a j→i'<j→j≤L→Fine o L i (f a j)):Fine o L i (r.bind f):=by
 cases r with
 |ok a j=>exact hf a j rfl h.1 h.2
 |bad k=>trivial
 |out=>exact h
section
variable {l:List Tok}{o:Prop}{i:Nat}
theorem Dz{j:Nat}(h:(Z l j).kind ≠ -1):j<l.length:=by
 by_cases hi:j<l.length
 ·exact hi
 ·exact absurd (by simp[Z,List.getElem?_eq_none (Nat.le_of_not_lt hi)]) h
theorem Bv{j:Nat}{s:Bs}(h:Ad (Z l j) s=true):j<l.length:=by
 apply Dz;simp[Ad]at h;omega
theorem EM{j k:Nat}(h:(As l k j).isEmpty≠true):j<l.length:=by
 apply Dz;intro e;apply h;simp[As,e]
theorem Ct(s:Bs)(q:Nat):Fine o l.length q (A8 l s q):=by
 unfold A8;split
 ·rename_i h;exact⟨by omega,Bv h⟩
 ·trivial
theorem Mk(q:Nat):Fine o l.length q (BZ l q):=by
 unfold BZ;split
 ·rename_i h;exact⟨by omega,Dz (by simp at h;omega)⟩
 ·trivial
theorem CK(q:Nat):Fine o l.length q (AM l q):=by
 unfold AM;split
 ·rename_i h;exact⟨by omega,Dz (by simp at h;omega)⟩
 ·trivial
theorem Hk{k:Nat}{opnd:Nat→Res Ex}(h:∀q,i≤q→Fine o l.length q (opnd q)):∀n x j,i<j→j≤l.length→(o→l.length-j+1≤n)→Fine o l.length i (joinLoop l k opnd n x j):=by
 intro n;induction n with
 |zero=>intro x j h1 h2 h3 ho;have:=h3 ho;omega
 | succ n ih=>
   intro x j h1 h2 h3;unfold joinLoop;split
   ·exact⟨h1,h2⟩
   ·rename_i he;have:=EM he;refine Fine.bind' (i':=j+1) (by omega) (h _ (by omega)) fun y q _ hq hl=>ih _ _ (by omega) hl fun ho=>by have:=h3 ho;omega
theorem DE{k n:Nat}{opnd:Nat→Res Ex}(h:∀q,i≤q→Fine o l.length q (opnd q))(hn:o→l.length-i≤n):∀q,i≤q→Fine o l.length q (A0 l k n opnd q):=by
 intro q hq;exact Fine.bind (h q hq) fun x j _ hj hl=>(Hk (i:=q) (fun p hp=>h p (by omega)) n x j hj hl fun ho=>by have:=hn ho;omega)
theorem KM{n:Nat}{pow:Nat→Res Ex}(h:∀q,i≤q→Fine o l.length q (pow q))(hn:o→l.length-i≤n):∀q,i≤q→Fine o l.length q (BF l n pow q):=
 DE (DE h hn) hn
theorem Lw{un:Nat→Res Ex}(h:∀q,i≤q→Fine o l.length q (un q)):∀n q,i≤q→(o→l.length-q+1≤n)→Fine o l.length q (AI l un n q):=by
 intro n;induction n with
 |zero=>intro q hq hn ho;have:=hn ho;omega
 | succ n ih=>
   intro q hq hn;unfold AI;refine Fine.bind (h q hq) fun x j _ hj hl=>?_;split
   ·exact⟨hj,hl⟩
   ·rename_i he;have:=EM he;exact Fine.bind' (i':=j+1) (by omega) (ih _ (by omega) fun ho=>by have:=hn ho;omega) fun y k _ hk hl=>⟨by omega,hl⟩
theorem Lr{sum:Nat→Res Ex}(h:∀q,i≤q→Fine o l.length q (sum q)):∀n q,i≤q→(o→l.length-q+1≤n)→Fine o l.length q (AL l sum n q):=by
 intro n;induction n with
 |zero=>intro q hq hn ho;have:=hn ho;omega
 | succ n ih=>
   intro q hq hn;unfold AL;split
   ·rename_i hs;have hlt:q<l.length:=by
     rw[Bool.or_eq_true]at hs;rcases hs with h|h
     ·exact Bv h
     ·exact Bv h
    exact Fine.bind' (i':=q+1) (by omega) (ih _ (by omega) fun ho=>by have:=hn ho;omega) fun y k _ hk hl=>⟨by omega,hl⟩
   ·refine Fine.bind (h q hq) fun x j _ hj hl=>?_;split
    ·exact⟨hj,hl⟩
    ·rename_i he;have:=EM he;exact Fine.bind' (i':=j+1) (by omega) (h _ (by omega)) fun y k _ hk hl=>⟨by omega,hl⟩
theorem Iv{E:Nat→Res Ex}(h:i<l.length→∀q,i<q→Fine o l.length q (E q)):∀n x j,i<j→j≤l.length→(o→l.length-j+1≤n)→Fine o l.length i (Br l E n x j):=by
 intro n;induction n with
 |zero=>intro x j h1 h2 h3 ho;have:=h3 ho;omega
 | succ n ih=>
   intro x j h1 h2 h3;unfold Br;split
   ·rename_i hs;have:=Bv hs;refine Fine.bind' (i':=j+1) (by omega) (h (by omega) _ (by omega)) fun y q _ hq hl=>?_;refine Fine.bind' (i':=q) (by omega) (Ct _ _) fun _ k _ hk hl=>ih _ _ (by omega) hl fun ho=>by have:=h3 ho;omega
   ·exact⟨h1,h2⟩
theorem IN{E prim:Nat→Res Ex}(hE:i<l.length→∀q,i<q→Fine o l.length q (E q))(hP:∀q,i≤q→Fine o l.length q (prim q)):∀n q,i≤q→(o→l.length-q+1≤n)→Fine o l.length q (AQ l E prim n q):=by
 intro n;induction n with
 |zero=>intro q hq hn ho;have:=hn ho;omega
 | succ n ih=>
   intro q hq hn;unfold AQ;split
   ·rename_i hs;have:=Bv hs;exact Fine.bind' (i':=q+1) (by omega) (ih _ (by omega) fun ho=>by have:=hn ho;omega) fun y k _ hk hl=>⟨by omega,hl⟩
   ·refine Fine.bind (hP q hq) fun x j _ hj hl=>?_;exact Iv (i:=q) (fun _ p hp=>hE (by omega) p (by omega)) n x j hj hl fun ho=>by have:=hn ho;omega
theorem Hl{E:Nat→Res Ex}(h:∀q,i<q→Fine o l.length q (E q)):∀n f j,i<j→j≤l.length→(o→l.length-j+1≤n)→Fine o l.length i (listLoop l E n f j):=by
 intro n;induction n with
 |zero=>intro x j h1 h2 h3 ho;have:=h3 ho;omega
 | succ n ih=>
   intro x j h1 h2 h3;unfold listLoop;split
   ·rename_i hs;have:=Bv hs;refine Fine.bind' (i':=j+1) (by omega) (h _ (by omega)) fun y q _ hq hl=>ih _ _ (by omega) hl fun ho=>by have:=h3 ho;omega
   ·exact⟨h1,h2⟩
theorem FL{E:Nat→Res Ex}{n:Nat}(h:∀q,i≤q→Fine o l.length q (E q))(hn:o→l.length-i≤n):Fine o l.length i (BN l E n i):=by
 refine Fine.bind (h i (Nat.le_refl _)) fun x j _ hj hl=>Hl (fun q hq=>h q (by omega)) n _ j hj hl fun ho=>by have:=hn ho;omega
theorem Hw:∀n f j,i<j→j≤l.length→(o→l.length-j+1≤n)→Fine o l.length i (namesLoop l n f j):=by
 intro n;induction n with
 |zero=>intro x j h1 h2 h3 ho;have:=h3 ho;omega
 | succ n ih=>
   intro x j h1 h2 h3;unfold namesLoop;split
   ·rename_i hs;have:=Bv hs;refine Fine.bind' (i':=j+1) (by omega) (CK _) fun y q _ hq hl=>ih _ _ (by omega) hl fun ho=>by have:=h3 ho;omega
   ·exact⟨h1,h2⟩
theorem I8{n:Nat}(hn:o→l.length-i≤n):Fine o l.length i (B7 l n i):=
 Fine.bind (CK _) fun x j _ hj hl=>Hw n _ j hj hl fun ho=>by have:=hn ho;omega
theorem JU{E:Nat→Res Ex}{n:Nat}(hE:i<l.length→∀q,i<q→Fine o l.length q (E q))(hn:o→l.length-i≤n):Fine o l.length i (BT l E n i):=by
 unfold BT;refine Fine.bind (CK _) fun s j _ hj hl=>Fine.bind' (i':=j) (by omega) (Ct _ _) fun _ k _ hk hl2=>?_;split
 ·rename_i hs;have:=Bv hs;exact⟨by omega,this⟩
 ·refine Fine.bind' (i':=k) (by omega) (FL (fun q hq=>hE (by omega) q (by omega)) fun ho=>by have:=hn ho;omega) fun f p _ hp hl3=>?_;exact Fine.bind' (i':=p) (by omega) (Ct _ _) fun _ k _ hk hl2=>⟨by omega,hl2⟩
theorem I6{E:Nat→Res Ex}(hE:i<l.length→∀q,i<q→Fine o l.length q (E q)):Fine o l.length i (BO l E i):=by
 unfold BO;refine Fine.bind (Ct _ _) fun s j _ hj hl=>?_;split
 ·rename_i hs;have:=Bv hs;refine Fine.bind' (i':=j+1) (by omega) (hE (by omega) _ (by omega)) fun f p _ hp hl3=>?_;exact Fine.bind' (i':=p) (by omega) (Ct _ _) fun _ k _ hk hl2=>⟨by omega,hl2⟩
 ·refine Fine.bind' (i':=j) (by omega) (CK _) fun s p _ hp hl3=>?_;split
  ·rename_i hs;have:=Bv hs;exact⟨by omega,this⟩
  ·exact⟨by omega,hl3⟩
theorem Is{E:Nat→Res Ex}{n:Nat}(hE:∀q,i≤q→Fine o l.length q (E q))(hn:o→l.length-i≤n):Fine o l.length i (BJ l E n i):=by
 unfold BJ;split
 ·rename_i hs;have hi:=Bv hs;have h1:Fine o l.length (i+1) (if Ad (Z l (i+1)) [124]then(.ok [] (i+2):Res (List Bs))else(B7 l n (i+1)).bind fun p j=>(A8 l [124] j).bind fun _ j=> .ok p j):=by
   split
   ·rename_i hs2;have:=Bv hs2;exact⟨by omega,this⟩
   ·refine Fine.bind (I8 fun ho=>by have:=hn ho;omega) fun p j _ hj hl=>?_;exact Fine.bind' (i':=j) (by omega) (Ct _ _) fun _ k _ hk hl2=>⟨by omega,hl2⟩
  refine Fine.bind' (i':=i+1) (by omega) h1 fun p j _ hj hl=>?_;refine Fine.bind' (i':=j) (by omega) (hE _ (by omega)) fun f p _ hp hl3=>?_;exact Fine.bind' (i':=p) (by omega) (Ct _ _) fun _ k _ hk hl2=>⟨by omega,hl2⟩
 ·refine Fine.bind (FL hE hn) fun f p _ hp hl3=>?_;exact Fine.bind' (i':=p) (by omega) (Ct _ _) fun _ k _ hk hl2=>⟨by omega,hl2⟩
theorem If{E:Nat→Res Ex}{n:Nat}(hE:i<l.length→∀q,i<q→Fine o l.length q (E q))(hn:o→l.length-i≤n):Fine o l.length i (By l E n i):=by
 unfold By;split
 ·exact I6 hE
 split
 ·rename_i hs;have:=Bv hs;exact⟨by omega,this⟩
 split
 ·rename_i hs;have:=Bv hs;exact⟨by omega,this⟩
 split
 ·rename_i hs;have:=Bv hs;exact⟨by omega,this⟩
 split
 ·rename_i hs;have:=Bv hs;refine Fine.bind' (i':=i+1) (by omega) (hE (by omega) _ (by omega)) fun f p _ hp hl3=>?_;exact Fine.bind' (i':=p) (by omega) (Ct _ _) fun _ k _ hk hl2=>⟨by omega,hl2⟩
 split
 ·rename_i hs;have:=Bv hs;exact Fine.bind' (i':=i+1) (by omega) (CK _) fun s p _ hp hl3=>⟨by omega,hl3⟩
 split
 ·rename_i hs;have:=Bv hs;exact(Is (i:=i+1) (fun q hq=>hE (by omega) q (by omega)) fun ho=>by have:=hn ho;omega).mono (by omega)
 ·trivial
theorem I7{E:Nat→Res Ex}{n:Nat}(hE:i<l.length→∀q,i<q→Fine o l.length q (E q))(hn:o→l.length-i≤n):Fine o l.length i (B6 l E n i):=by
 unfold B6;split
 ·exact JU hE hn
 refine Fine.bind (CK _) fun s j _ hj hl=>?_;split
 ·rename_i hs;have:=Bv hs;split
  ·rename_i hs;have:=Bv hs;refine Fine.bind' (i':=j+2) (by omega) (hE (by omega) _ (by omega)) fun f p _ hp hl3=>?_;exact Fine.bind' (i':=p) (by omega) (Ct _ _) fun _ k _ hk hl2=>⟨by omega,hl2⟩
  ·exact Fine.bind' (i':=j+1) (by omega) (CK _) fun s p _ hp hl3=>⟨by omega,hl3⟩
 ·exact⟨hj,hl⟩
theorem JL{day:Bs→Int}{E:Nat→Res Ex}{n:Nat}(hE:i<l.length→∀q,i<q→Fine o l.length q (E q))(hn:o→l.length-i≤n):Fine o l.length i (AG l day E n i):=by
 unfold AG;have hk:∀k:Int,((Z l i).kind==k)=true→k ≠ -1→i<l.length:=fun k h1 h2=>Dz (by simp at h1;omega);split
 ·rename_i h;exact⟨by omega,hk 1 h (by decide)⟩
 split
 ·rename_i h;split
  ·trivial
  ·exact⟨by omega,hk 2 h (by decide)⟩
 split
 ·rename_i h;exact⟨by omega,hk 3 h (by decide)⟩
 split
 ·exact I7 hE hn
 ·exact If hE hn
theorem FE(day:Bs→Int):∀n q,Fine (l.length-q+2≤n) l.length q (Ap l day n q):=by
 intro n;induction n with
 |zero=>intro q ho;omega
 | succ n ih=>
   intro q;have hE:q<l.length→∀p,q<p→Fine (l.length-q+2≤n+1) l.length p (Ap l day n p):=fun hq p hp=>(ih p).weak fun ho=>by omega
   have hn:(l.length-q+2≤n+1)→l.length-q≤n:=fun h=>by omega
   have h1:∀p,q≤p→Fine (l.length-q+2≤n+1) l.length p (AG l day (Ap l day n) n p):=fun p hp=>JL (fun h r hr=>hE (by omega) r (by omega)) fun ho=>by have:=hn ho;omega
   have h2:∀p,q≤p→Fine (l.length-q+2≤n+1) l.length p (AQ l (Ap l day n) (AG l day (Ap l day n) n) n p):=fun p hp=>IN hE h1 n p hp fun ho=>by omega
   have h3:=fun p (hp:q≤p)=>Lw h2 n p hp fun ho=>by omega
   have h4:=KM (n:=n) h3 hn;have h5:=fun p (hp:q≤p)=>Lr h4 n p hp fun ho=>by omega
   unfold Ap;exact DE (DE h5 hn) hn q (Nat.le_refl _)
end
open Go.RowKit
theorem Kk(l:List Tok)(day:Bs→Int)(n:Nat):CW (Ap l day n):=by
 intro i x j h;have:=FE (l:=l) day n i;rw[h]at this;exact this.1
theorem Gn{b:Nat}{tv wv:Value}{l:List Tok}{wl:List Bs}{day:Bs→Int}(hl:C2 day l):∀n,CE 67 b tv wv l wl (Ap l day n):=by
 intro n;induction n with
 |zero=>intro w i h ho;exact absurd rfl ho
 | succ n ih=>
   have hp:=LI ih (Kk l day n) hl n;have hu:=KU ih hp n;have hw:=MM hu n;exact Ml (MG (sumf:=BF l n _) (MR hw n) n) n
theorem H8(i:Int)(w:World):(binOp .neq 20 (.iface 148 (.agg #[.int .i64 i])) .nilIface).run Tryz.prog w= .ok (.bool true) w:=by kernel_rfl
theorem H7(w:World):(binOp .neq 20 .nilIface .nilIface).run Tryz.prog w= .ok (.bool false) w:=by kernel_rfl
theorem JV(p:Addr)(w:World):
 CallsD Tryz.prog 105 #[.pointer (some p)] .returning w fun e u' w'=>e= .returned (.tuple #[])∧u'= .returning∧w'=w:=by
 have hnn:=H7;refine callsD_of_wpS func105 rfl fun c₀ cs hu=>?_;apply wpS_seq;apply wpS_region;simp[wpOpsS,go_sem,recoverD,hu,hnn,ntmps105,Exit.thenS];apply wpS_seq;apply wpS_region;simp[wpOpsS,go_sem,hnn,Exit.thenS];refine wpS_cond (t:=false) (by simp[Act.eval,Array.replicate]) ?_;simp only[Bool.false_eq_true,if_false];refine wpS_of_wp (wp_skip ?_);cases c₀;simp_all [bodyPostS,results,results105]
theorem IT(i:Int)(w:World):(Instr.typeAssert (.iface 148 (.agg #[.int .i64 i])) 20 148 true).run Tryz.prog w= .ok (.tuple #[.agg #[.int .i64 i],.bool true]) w:=by kernel_rfl
theorem FD{k:Nat}{i:Int}{x:Value}{w:World}(hc:w.cell? ⟨k,0,none⟩=some x)(hz:w.frozen? ⟨k,0,none⟩=false):
 CallsD Tryz.prog 105 #[.pointer (some ⟨k,0,none⟩)] (.panicking [{v:= .iface 148 (.agg #[.int .i64 i]),recovered:=false}]) w fun e u' w'=>
  e= .returned (.tuple #[])∧u'= .panicking [{v:= .iface 148 (.agg #[.int .i64 i]),recovered:=true}]∧w'=(w.setCell ⟨k,0,none⟩ (.int .i64 i)).alloc (.cells #[.int .i64 i] 148 (0,0)):=by
 have hnn:=H8 i;have hk:=World.block_lt_of_cell? w _ hc;refine callsD_of_wpS func105 rfl fun c₀ cs hu=>?_;simp only[ntmps105,List.size_toArray,List.length_cons,List.length_nil,Nat.reduceAdd,Nat.reduceSub,Array.replicate_succ,Array.replicate_zero,List.push_toArray,List.append_toArray,List.nil_append,List.cons_append];apply wpS_seq;apply wpS_region;simp[wpOpsS,go_sem,recoverD,hu,hnn,ntmps105,Exit.thenS];apply wpS_seq;apply wpS_region;simp[wpOpsS,go_sem,hnn,Exit.thenS];refine wpS_cond (t:=true) (by simp[Act.eval,Array.replicate]) ?_;simp only[if_true];refine wpS_of_wp ?_;have hta:=IT i;go_wp2;exact⟨rfl,_,rfl,_,by simp[results,results105,go_sem],rfl,rfl,rfl⟩
open Go.Sort
def wordsText:Bs:=[80,82,79,67,69,68,85,82,69,32,70,85,78,67,84,73,79,78,32,76,79,67,65,76,32,80,82,73,86,65,84,69,32,80,85,66,76,73,67,32,83,84,65,84,73,67,32,73,70,32,69,76,83,69,73,70,32,69,76,83,69,32,69,78,68,73,70,32,68,79,32,67,65,83,69,32,79,84,72,69,82,87,73,83,69,32,69,78,68,67,65,83,69,32,87,72,73,76,69,32,69,78,68,68,79,32,70,79,82,32,84,79,32,83,84,69,80,32,78,69,88,84,32,76,79,79,80,32,69,88,73,84,32,82,69,84,85,82,78,32,87,73,84,72,32,66,82,69,65,75,32,66,69,71,73,78,32,83,69,81,85,69,78,67,69,32,82,69,67,79,86,69,82,32,85,83,73,78,71,32,69,78,68,32,83,69,76,69,67,84,32,85,83,69,32,65,76,73,65,83,32,71,79,32,84,79,80,32,66,79,84,84,79,77,32,83,75,73,80,32,83,69,69,75,32,76,79,67,65,84,69,32,67,79,78,84,73,78,85,69,32,82,69,80,76,65,67,69,32,68,69,76,69,84,69,32,82,69,67,65,76,76,32,65,80,80,69,78,68,32,66,76,65,78,75,32,80,65,67,75,32,90,65,80,32,67,79,85,78,84,32,83,85,77,32,73,78,68,69,88,32,79,78,32,84,65,71,32,85,78,73,81,85,69,32,67,65,78,68,73,68,65,84,69,32,68,69,83,67,69,78,68,73,78,71,32,83,69,84,32,79,82,68,69,82,32,70,73,76,84,69,82,32,82,69,76,65,84,73,79,78,32,73,78,84,79,32,69,88,65,67,84,32,68,69,76,69,84,69,68,32,79,70,70,32,65,76,76,32,82,69,83,84,32,82,69,67,79,82,68]
def wordsRaw:List Bs:=[[80,82,79,67,69,68,85,82,69],[70,85,78,67,84,73,79,78],[76,79,67,65,76],[80,82,73,86,65,84,69],[80,85,66,76,73,67],[83,84,65,84,73,67],[73,70],[69,76,83,69,73,70],[69,76,83,69],[69,78,68,73,70],[68,79],[67,65,83,69],[79,84,72,69,82,87,73,83,69],[69,78,68,67,65,83,69],[87,72,73,76,69],[69,78,68,68,79],[70,79,82],[84,79],[83,84,69,80],[78,69,88,84],[76,79,79,80],[69,88,73,84],[82,69,84,85,82,78],[87,73,84,72],[66,82,69,65,75],[66,69,71,73,78],[83,69,81,85,69,78,67,69],[82,69,67,79,86,69,82],[85,83,73,78,71],[69,78,68],[83,69,76,69,67,84],[85,83,69],[65,76,73,65,83],[71,79],[84,79,80],[66,79,84,84,79,77],[83,75,73,80],[83,69,69,75],[76,79,67,65,84,69],[67,79,78,84,73,78,85,69],[82,69,80,76,65,67,69],[68,69,76,69,84,69],[82,69,67,65,76,76],[65,80,80,69,78,68],[66,76,65,78,75],[80,65,67,75],[90,65,80],[67,79,85,78,84],[83,85,77],[73,78,68,69,88],[79,78],[84,65,71],[85,78,73,81,85,69],[67,65,78,68,73,68,65,84,69],[68,69,83,67,69,78,68,73,78,71],[83,69,84],[79,82,68,69,82],[70,73,76,84,69,82],[82,69,76,65,84,73,79,78],[73,78,84,79],[69,88,65,67,84],[68,69,76,69,84,69,68],[79,70,70],[65,76,76],[82,69,83,84],[82,69,67,79,82,68]]
def wordsL:List Bs:=[[65,76,73,65,83],[65,76,76],[65,80,80,69,78,68],[66,69,71,73,78],[66,76,65,78,75],[66,79,84,84,79,77],[66,82,69,65,75],[67,65,78,68,73,68,65,84,69],[67,65,83,69],[67,79,78,84,73,78,85,69],[67,79,85,78,84],[68,69,76,69,84,69],[68,69,76,69,84,69,68],[68,69,83,67,69,78,68,73,78,71],[68,79],[69,76,83,69],[69,76,83,69,73,70],[69,78,68],[69,78,68,67,65,83,69],[69,78,68,68,79],[69,78,68,73,70],[69,88,65,67,84],[69,88,73,84],[70,73,76,84,69,82],[70,79,82],[70,85,78,67,84,73,79,78],[71,79],[73,70],[73,78,68,69,88],[73,78,84,79],[76,79,67,65,76],[76,79,67,65,84,69],[76,79,79,80],[78,69,88,84],[79,70,70],[79,78],[79,82,68,69,82],[79,84,72,69,82,87,73,83,69],[80,65,67,75],[80,82,73,86,65,84,69],[80,82,79,67,69,68,85,82,69],[80,85,66,76,73,67],[82,69,67,65,76,76],[82,69,67,79,82,68],[82,69,67,79,86,69,82],[82,69,76,65,84,73,79,78],[82,69,80,76,65,67,69],[82,69,83,84],[82,69,84,85,82,78],[83,69,69,75],[83,69,76,69,67,84],[83,69,81,85,69,78,67,69],[83,69,84],[83,75,73,80],[83,84,65,84,73,67],[83,84,69,80],[83,85,77],[84,65,71],[84,79],[84,79,80],[85,78,73,81,85,69],[85,83,69],[85,83,73,78,71],[87,72,73,76,69],[87,73,84,72],[90,65,80]]
theorem Il:Lib.fields wordsText=wordsRaw:=by decide+kernel
theorem Im:(wordsRaw.mergeSort fun x y=>decide (x≤y))=wordsL:=by
 refine List.Perm.eq_of_pairwise (le:=fun x y=>decide (x≤y)=true) ?_ (List.pairwise_mergeSort ?_ ?_ _) ?_ ((List.mergeSort_perm _ _).trans ?_)
 ·intro a b _ _ h1 h2;exact List.le_antisymm (by simpa using h1) (by simpa using h2)
 ·intro a b c h1 h2;simp only[decide_eq_true_eq]at*;exact List.le_trans h1 h2
 ·intro a b;simp only[Bool.or_eq_true,decide_eq_true_eq];exact List.le_total a b
 ·decide+kernel
 ·exact List.isPerm_iff.1 (by decide+kernel)
theorem IR:wordsText.all (fun b=>decide (b.toNat<128))=true:=by decide+kernel
def Glob (w : World) : Prop := Lib.TabIs Tryz.prog w "strings.asciiSpace" .u8 Lib.asciiSpaceTab
theorem Dy : Tryz.prog.globalNamed "strings.asciiSpace" = some 0 := by kernel_rfl
theorem Glob.gb{w w1:World}{r:Option Nat}(h:Glob w)(g:w.grownBy w1 r)(hr:some 0≠r):Glob w1:=by
 unfold Glob Lib.TabIs World.var? at*;simp only[Dy,Option.bind_some]at h ⊢;have hlt:0<w.heap.size:=by
  rcases Nat.lt_or_ge 0 w.heap.size with h' |h'
  ·exact h'
  ·rw[Array.getElem?_eq_none h']at h;simp at h
 rw[g.block _ hlt hr];exact h
theorem Fs(w:World):Holds encStr (w.alloc (.cells (wordsRaw.map fun l=>Value.string ⟨l.toArray⟩).toArray 9 (0,0))) w.heap.size 0 wordsRaw.toArray:=by
 intro j hj;have hB:=Blk.new w (wordsRaw.map fun l=>Value.string ⟨l.toArray⟩) 9;refine⟨?_,hB.frozen _⟩;rw[hB.cell];simp at hj;simp[encStr,hj]
theorem Jj(w:World)(n:Nat):Holds encStr (Sort.ahead (w.alloc (.cells (wordsRaw.map fun(l:Bs)=>Value.string ⟨l.toArray⟩).toArray 9 (0,0))) n) w.heap.size 0 wordsRaw.toArray:=Fs w
theorem KF{w:World}{g n:Nat}{os:Array Obj}(d:Array (List UInt8)):w.grownBy (grow (putRow encStr (Sort.ahead w n) g 0 d) os) (some g):=by
 refine⟨rfl,rfl,rfl,by simp,fun k hk hne=>?_⟩;rw[heap_grow_old _ _ (by simpa using hk)];have:g≠k:=fun e=>hne (by rw[e]);simp[putRow,mapBlock,Sort.ahead,Array.getElem?_modify,this]
theorem KY{w:World}(hg:Glob w):Calls Tryz.prog 106 #[] w fun e w'=>∃wv,e= .returned wv∧SRow w' wv wordsL (AD w.heap.size)∧w.grownBy w' none:=by
 go_enter func106,ntmps106;go_wp2_with fail;refine(strings_Fields ⟨wordsText.toArray⟩ w (by decide+kernel) ?_ hg).mono ?_
 ·intro j b hb;have:=List.all_eq_true.1 IR b (by
   have:wordsText[j]? =some b:=hb;exact List.mem_of_getElem? this)
  simpa using this
 rintro e w1 ⟨rfl,rfl⟩;rw[show(Lib.fields (ByteArray.mk wordsText.toArray).data.toList)=wordsRaw from Il];go_wp2_with fail;refine(slices_Sort_string w.heap.size 0 wordsRaw.length wordsRaw _ (Fs w) (by simp) (by decide+kernel)).mono ?_;rintro e w2 ⟨rfl,n,os,rfl⟩;rw[Im];go_wp2;go_ret;have hA:=World.grownBy_alloc w (.cells (wordsRaw.map fun l=>Value.string ⟨l.toArray⟩).toArray 9 (0,0)) none;have hS:=KF (os:=os) (n:=n) (w:=w.alloc (.cells (wordsRaw.map fun l=>Value.string ⟨l.toArray⟩).toArray 9 (0,0))) (g:=w.heap.size) wordsL.toArray;refine⟨_,rfl,⟨_,_,rfl,Nat.le_refl _,by decide,fun j hj=>⟨w.heap.size,0,rfl,Nat.le_refl _,?_⟩⟩,?_⟩
 ·have hc:=cell?_putRow encStr _ w.heap.size 0 wordsRaw.toArray wordsL.toArray (Jj w n) (by decide) j (by simpa using hj);have hlt:=World.block_lt_of_cell? _ _ hc;have hb:∀(W:World) os (k:Nat) a,k<W.heap.size→(grow W os).cell? ⟨k,a,none⟩=W.cell? ⟨k,a,none⟩:=fun W os k a h=>by
   unfold World.cell?;rw[heap_grow_old _ _ h]
  rw[hb _ _ _ _ hlt,hc];simp[encStr,List.getD_eq_getElem?_getD,hj]
 ·refine⟨hS.os.trans hA.os,hS.tape.trans hA.tape,hS.output.trans hA.output,Nat.le_trans hA.size hS.size,fun k hk _=>?_⟩;rw[hS.block k (by simp;omega) (by simp;omega)];exact hA.block k hk (by simp)
def Iter(w:World)(r b:Nat)(l:List (Bs×Bs))(left:List Nat):Prop:=
 w.heap[b]? =some (Bu l)∧∃seen:Array Nat,w.heap[r]? =some (.mapIter (some b) l.length seen l.length)∧left.Nodup∧∀i,i∈left↔i<l.length∧seen.contains i=false
theorem E5(l:List (Bs×Bs)):∀n i:Nat,(AB l n)[i]? =(l[i]?).map fun p=>({key:=str p.1,val:=str p.2,born:=n+i}:MapEntry):=by
 induction l with
 |nil=>intro n i;simp[AB]
 | cons x l ih=>
   intro n i;obtain⟨a,b⟩:=x;cases i with
   |zero=>simp[AB]
   |succ i=>simp[AB,ih];congr 1;funext p;congr 1;omega
theorem FT{l:List (Bs×Bs)}{e:MapEntry}(h:e∈(AB l 0)):∃i,i<l.length∧e.born=i∧e.key=str (l.getD i ([],[])).1∧e.val=str (l.getD i ([],[])).2:=by
 obtain⟨i,hi,rfl⟩:=List.getElem_of_mem h;have hil:i<l.length:=by simpa[H6]using hi
 refine⟨i,hil,?_⟩;have:=E5 l 0 i;rw[List.getElem?_eq_getElem hi,List.getElem?_eq_getElem hil]at this;simp only[Option.map_some,Option.some.injEq,Nat.zero_add]at this;rw[this,List.getD_eq_getElem?_getD,List.getElem?_eq_getElem hil];exact⟨rfl,rfl,rfl⟩
theorem JB(l:List (Bs×Bs)):((AB l 0).map (·.born))=List.range l.length:=by
 apply List.ext_getElem?;intro i;rw[List.getElem?_map,E5];by_cases h:i<l.length
 ·simp[List.getElem?_eq_getElem h,h]
 ·simp[List.getElem?_eq_none (Nat.le_of_not_lt h),h]
section
variable {P:Program}
theorem Hz{w:World}{t k e:TypeId}{b:Nat}{l:List (Bs×Bs)}(ht:P.underlying t=some (.map k e))(hb:w.heap[b]? =some (Bu l)):
 (Instr.range t (.map (some b))).run P w= .ok (.pointer (some ⟨w.heap.size,0,none⟩)) (w.alloc (.mapIter (some b) l.length #[] l.length)):=
 run_range_map w t k e b (AB l 0).toArray l.length ht hb
theorem Iter.start{w:World}{b:Nat}{l:List (Bs×Bs)}(hb:w.heap[b]? =some (Bu l)):Iter (w.alloc (.mapIter (some b) l.length #[] l.length)) w.heap.size b l (List.range l.length):=
 ⟨CY _ _ _ _ hb,#[],CI _ _ _ rfl,List.nodup_range,fun i=>by simp⟩
theorem Iter.gb{w w1:World}{r b:Nat}{l:List (Bs×Bs)}{left:List Nat}{q:Option Nat}(h:Iter w r b l left)(g:w.grownBy w1 q)(h1:some b≠q)(h2:some r≠q):Iter w1 r b l left:=by
 obtain⟨hb,seen,hr,hn,hi⟩:=h;exact⟨C9 g hb h1,seen,C9 g hr h2,hn,hi⟩
theorem Iter.next{w:World}{r b:Nat}{l:List (Bs×Bs)}{left:List Nat}(h:Iter w r b l left)(ty:TypeId):
 (left=[]∧(Instr.next (.pointer (some ⟨r,0,none⟩)) false ty).run P w= .ok (.tuple #[.bool false]) w)∨
 ∃i∈left,∃w1:World,(Instr.next (.pointer (some ⟨r,0,none⟩)) false ty).run P w= .ok (.tuple #[.bool true,str (l.getD i ([],[])).1,str (l.getD i ([],[])).2]) w1∧Iter w1 r b l (left.erase i)∧w.grownBy w1 (some r)∧
  (Instr.entry (.pointer (some ⟨r,0,none⟩))).run P w1= .ok (.tuple #[str (l.getD i ([],[])).1,str (l.getD i ([],[])).2]) w1:=by
 obtain⟨hb,seen,hr,hnd,hi⟩:=h;have hb':w.heap[b]? =some (.map (AB l 0).toArray l.length):=hb;have hold:∀x∈(AB l 0).toArray.toList,x.born<l.length:=fun x hx=>by
  obtain⟨i,h1,h2,_⟩:=FT (by simpa using hx);omega
 have hlt:r<w.heap.size:=(Array.getElem?_eq_some_iff.1 hr).1;simp only[Instr.next,getObj,Sem.run_bind,Sem.run,hr,hb',Result.andThen,next_test_false seen _ l.length l.length hold (Nat.le_refl _),Bool.false_eq_true,if_false];have hmem:∀x∈(Array.filter (fun e=>!seen.contains e.born) (AB l 0).toArray).toList,x.born<l.length:=fun x hx=>hold x (by simp at hx ⊢;exact hx.1);have hL:∀x∈(Array.filter (fun e=>!seen.contains e.born) (AB l 0).toArray).toList,x.born∈left∧x.key=str (l.getD x.born ([],[])).1∧x.val=str (l.getD x.born ([],[])).2∧x∈AB l 0:=fun x hx=>by
  have hx':x∈AB l 0∧seen.contains x.born=false:=by simpa using hx
  obtain⟨i,h1,h2,h3,h4⟩:=FT hx'.1;subst h2;exact⟨(hi _).2 ⟨h1,hx'.2⟩,h3,h4,hx'.1⟩
 have hE:Array.filter (fun e=>!seen.contains e.born) (AB l 0).toArray=#[]→left=[]:=fun he=>by
  rcases List.eq_nil_or_concat left with h| ⟨_,i,h⟩
  ·exact h
  ·exfalso;obtain⟨h1,h2⟩:=(hi i).1 (by rw[h];simp);rw[Array.filter_eq_empty_iff]at he;have hm:(AB l 0)[i]? =some {key:=str l[i].1,val:=str l[i].2,born:=0+i}:=by rw[E5,List.getElem?_eq_getElem h1];rfl
   refine he _ (by simpa using List.mem_of_getElem? hm) ?_;simpa using h2
 generalize Array.filter (fun e=>!seen.contains e.born) (AB l 0).toArray=L at hmem hL hE ⊢;have e1:L.filter (fun x=>decide (x.born<l.length))=L:=Array.filter_eq_self.2 (fun x hx=>by simpa using hmem x (by simpa using hx));have e2:L.filter (fun x=>decide (x.born≥l.length))=#[]:=by
  rw[Array.filter_eq_empty_iff];intro x hx;have:=hmem x (by simpa using hx);simp;omega
 simp only[e1,e2,Array.append_empty];by_cases h0:L.size=0
 ·left;have:L=#[]:=Array.eq_empty_of_size_eq_zero h0;subst this;refine⟨hE rfl,?_⟩;simp[choose,Sem.run,Question.forced]
 ·right;have hne:L.isEmpty=false:=by simp[Array.isEmpty,h0]
  simp only[hne,Bool.false_eq_true,if_false,Array.empty_append,Array.size_map];have hch:∃(j:Nat)(w1:World),j<L.size∧w1.Alike w∧w.grownBy w1 none∧(choose (Question.mapNext L.size)).run P w= .ok j w1:=by
   by_cases hf:L.size≤1
   ·exact⟨0,w,by omega,⟨rfl,rfl,rfl⟩,Ac _ _,by simp[choose,Sem.run,Question.forced,hf]⟩
   ·exact ⟨_, w.drew, Nat.mod_lt _ (by omega), ⟨rfl, rfl, rfl⟩, Aj (Ac _ _), by
     simp only[choose,Sem.run,Question.forced,decide_eq_true_eq,hf,if_false,Question.cut];rfl⟩
  obtain⟨j,w1,hj,hal,g1,hrun⟩:=hch;obtain⟨k1,k2,k3,k4⟩:=hL L[j] (by simp);have hr1:w1.heap[r]? =some (.mapIter (some b) l.length seen l.length):=by rw[hal.1];exact hr
  have hb1:w1.heap[b]? =some (.map (AB l 0).toArray l.length):=by rw[hal.1];exact hb'
  have hlt1:r<w1.heap.size:=by rw[hal.1];exact hlt
  have hne:b≠r:=by
   rintro rfl;rw[hr]at hb';cases hb'
  have hw2:∃w2:World,w2={w1 with heap:=w1.heap.setIfInBounds r (.mapIter (some b) l.length (seen.push L[j].born) l.length)}:=⟨_,rfl⟩;obtain⟨w2,hw2⟩:=hw2;have hr2:w2.heap[r]? =some (.mapIter (some b) l.length (seen.push L[j].born) l.length):=by rw[hw2];simp[hlt1]
  have hb2:w2.heap[b]? =some (.map (AB l 0).toArray l.length):=by
   rw[hw2];show(w1.heap.setIfInBounds r _)[b]? =_;rw[Array.getElem?_setIfInBounds_ne (fun e=>hne e.symm)];exact hb1
  have hs2:(setObj r (.mapIter (some b) l.length (seen.push L[j].born) l.length)).run P w1= .ok () w2:=by
   simp only[setObj,Sem.run,hr1];rw[hw2]
  refine⟨L[j].born,k1,w2,?_,⟨hb2,_,hr2,hnd.erase _,fun i=>?_⟩,?_,?_⟩
  ·simp only[hrun,Array.getElem?_map,Array.getElem?_eq_getElem hj,Option.map_some,Sem.run_bind,hs2,Result.andThen,k2,k3];rfl
  ·rw[hnd.mem_erase_iff,hi];have:(seen.push L[j].born).contains i=(seen.contains i||i==L[j].born):=by
    rw[Bool.eq_iff_iff];simp
   rw[this];constructor
   ·rintro⟨a1,a2,a3⟩;exact⟨a2,by rw[a3];simpa using a1⟩
   ·rintro⟨a1,a2⟩;simp only[Bool.or_eq_false_iff,beq_eq_false_iff_ne]at a2;exact⟨a2.2,a1,a2.1⟩
  ·refine O (AW g1) ?_;rw[hw2];refine⟨rfl,rfl,rfl,by simp,fun i _ hir=>?_⟩;show(w1.heap.setIfInBounds r _)[i]? =_;exact Array.getElem?_setIfInBounds_ne (fun e=>hir (by rw[e]))
  ·have hf : (AB l 0).toArray.find? (·.born == L[j].born) = some L[j] := by
    rw[←Array.find?_toList];refine find_born L[j] _ ?_ k4;show((AB l 0).map (·.born)).Nodup;rw[JB];exact List.nodup_range
   simp only[Instr.entry,getObj,Sem.run_bind,Sem.run,hr2,hb2,Result.andThen,Array.back?_push,bne_self_eq_false,Bool.false_eq_true,if_false,hf,k2,k3];rfl
variable {w:World}{ops:Array Oper}{rest:List Oper}{o:Oper}{a:Act}{Q:Exit→Act→World→Prop}
theorem Hc(hg:o.guard=none)(it:Operand)(hop:o.op=Op.next it false){r b:Nat}{l:List (Bs×Bs)}{left:List Nat}(hit:a.eval it= .pointer (some ⟨r,0,none⟩))(h:Iter w r b l left)
 (hDone:left=[]→wpList P ops Q rest (a.put o.dst (.tuple #[.bool false])) w)
 (hMore:∀(i:Nat)(w':World),i∈left→Iter w' r b l (left.erase i)→w.grownBy w' (some r)→(Instr.entry (.pointer (some ⟨r,0,none⟩))).run P w'= .ok (.tuple #[str (l.getD i ([],[])).1,str (l.getD i ([],[])).2]) w'→
  wpList P ops Q rest (a.put o.dst (.tuple #[.bool true,str (l.getD i ([],[])).1,str (l.getD i ([],[])).2])) w'):
 wpList P ops Q (o::rest) a w:=by
 refine wpList_plain hg fun K' hK'=>?_;unfold Oper.wp;rcases h.next (P:=P) o.type with⟨hl,hrun⟩| ⟨i,hi,w1,hrun,h1,hgr,hen⟩
 ·simp[execOp,hop,hit,hrun,Result.andThen];exact hK' _ _ (hDone hl)
 ·simp[execOp,hop,hit,hrun,Result.andThen];exact hK' _ _ (hMore i w1 hi h1 hgr hen)
end
theorem L8{k:Nat}{i:Nat}(h:i<(lvl k).length):((lvl k).getD i ([],[])).2∈(lvl k).map (·.2):=by
 rw[List.getD_eq_getElem?_getD,List.getElem?_eq_getElem h];exact List.mem_map.2 ⟨_,List.getElem_mem h,rfl⟩
theorem MI(s:Bs):(∃k,k<6∧s∈(lvl k).map (·.2))↔s∈opsL:=by
 have h1:∀k,k<6→∀s∈(lvl k).map (·.2),s∈opsL:=by decide
 have h2:∀s∈opsL,∃k,k<6∧s∈(lvl k).map (·.2):=by decide
 exact⟨fun⟨k,hk,h⟩=>h1 k hk s h,h2 s⟩
def Coll(xs:List Bs)(k:Nat)(left:List Nat):Prop:=(∀s,s∈xs↔(∃j,j<k∧s∈(lvl j).map (·.2))∨∃i,i<(lvl k).length∧i ∉ left∧((lvl k).getD i ([],[])).2=s)
theorem Coll.start:Coll [] 0 (List.range (lvl 0).length):=fun s=>by
 constructor
 ·intro h;cases h
 ·rintro(⟨j,h,_⟩| ⟨i,h1,h2,_⟩)
  ·omega
  ·exact absurd (List.mem_range.2 h1) h2
theorem Coll.step{xs:List Bs}{k i:Nat}{left:List Nat}(h:Coll xs k left)(hn:left.Nodup)(hi:i∈left)(hl:i<(lvl k).length):Coll (xs++[((lvl k).getD i ([],[])).2]) k (left.erase i):=fun s=>by
 rw[List.mem_append,h s,List.mem_singleton]
 constructor
 ·rintro((h| ⟨j,h1,h2,h3⟩)|rfl)
  ·exact .inl h
  ·exact .inr ⟨j,h1,fun e=>h2 (List.mem_of_mem_erase e),h3⟩
  ·exact .inr ⟨i,hl,fun e=>by rw[hn.mem_erase_iff]at e;exact e.1 rfl,rfl⟩
 ·rintro(h| ⟨j,h1,h2,h3⟩)
  ·exact .inl (.inl h)
  ·by_cases hj:j=i
   ·subst hj;exact .inr h3.symm
   ·exact .inl (.inr ⟨j,h1,fun e=>h2 ((hn.mem_erase_iff).2 ⟨hj,e⟩),h3⟩)
theorem Coll.next{xs:List Bs}{k:Nat}(h:Coll xs k []):Coll xs (k+1) (List.range (lvl (k+1)).length):=fun s=>by
 rw[h s]
 constructor
 ·rintro(⟨j,h1,h2⟩| ⟨i,h1,_,h3⟩)
  ·exact .inl ⟨j,by omega,h2⟩
  ·exact .inl ⟨k,by omega,by rw[←h3];exact L8 h1⟩
 ·rintro(⟨j,h1,h2⟩| ⟨i,h1,h2,_⟩)
  ·by_cases hj:j=k
   ·subst hj
    obtain⟨p,hp,rfl⟩:=List.mem_map.1 h2
    obtain⟨i,hi,rfl⟩:=List.getElem_of_mem hp
    exact .inr ⟨i,hi,by simp,by rw[List.getD_eq_getElem?_getD,List.getElem?_eq_getElem hi];rfl⟩
   ·exact .inl ⟨j,by omega,h2⟩
  ·exact absurd (List.mem_range.2 h1) h2
theorem Coll.done{xs:List Bs}(h:Coll xs 6 (List.range (lvl 6).length))(s:Bs):s∈xs↔s∈opsL:=by
 rw[h s,←MI];constructor
 ·rintro(h| ⟨i,h1,h2,_⟩)
  ·exact h
  ·exact absurd (List.mem_range.2 h1) h2
 ·exact fun h=> .inl h
end Go.Proofs.YtgjdhajcnechdaaGreatDoor
