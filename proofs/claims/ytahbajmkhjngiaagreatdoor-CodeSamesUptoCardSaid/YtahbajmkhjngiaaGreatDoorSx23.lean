/-
  Code: clones of rows of numbers and of instructions.
-/
import Derived.Test.YtahbajmkhjngiaaGreatDoorSx19
import Derived.Test.YtahbajmkhjngiaaGreatDoorSx08
import Derived.Lib.SliceRun
set_option linter.all false
set_option maxRecDepth 100000
set_option maxHeartbeats 8000000
namespace Go.Proofs.YtahbajmkhjngiaaGreatDoor
open Go.Proofs.Tryz
open Go.RowKit
theorem Be:(Tryz.prog.info? 35).map (fun i=>(i.zero,i.size,i.bytes))=some (some (.agg #[.int .i64 0,.int .i64 0,.int .i64 0,str []]),4,40):=by kernel_rfl
theorem AX(w:World)(t:TypeId)(k:Nat):(w.alloc (.cells #[] t (0,0))).ownsRow w.heap.size t k (.slice (some ⟨w.heap.size,0,none⟩) 0 0) 0 []:=
 ⟨by simp,.inr ⟨w.heap.size,0,#[],rfl,Nat.le_refl _,heap_alloc_new _ _,Nat.le_refl _,by decide,by simp,by simp⟩⟩
theorem Dc{w:World}{v:Value}{l:List Int}{ok:Nat→Prop}(h:Cells w v 1 l.length (V l) ok)(hl:l.length≤100000000):
 Calls Tryz.prog 19 #[v] w fun e w'=>∃r,e= .returned r∧w'.ownsRow w.heap.size 3 1 r l.length (V l)∧w.grownBy w' none:=by
 obtain⟨i0,hi0,hz0,hz1,hz2⟩:=info_parts B6;have HI:=D (I hi0 (I hz0 (I hz1 hz2)));have HC:=D h;obtain⟨a,cap,rfl,hle,hmx,hcl,hat⟩:=h;have HN:=D (fun(e:a=none)=>show l=[]from by
  cases l with
  |nil=>rfl
  |cons x r=>obtain⟨g,o,ea,_⟩:=hat 0 (.int .i64 x) rfl;rw[e]at ea;cases ea)
 clear hi0 hz0 hz1 hz2 hat hcl;have hnil:=Lib.run_eql_slice_nil (P:=Tryz.prog) w 30 3 a l.length cap 0 0 underlying30;cases a with
 | none=>
   have e:=HN.out rfl;subst e;simp only[List.length_nil]at hnil ⊢;go_enter func19,ntmps19;go_wp2;go_ret;exact⟨_,rfl,At _ _ _ _,N _ _⟩
 | some a=>
   clear HN;go_enter func19,ntmps19;go_wp2_with (at_builtin;go_loud(refine AY rfl _ _ 30 rfl w.heap.size 3 i0 (.int .i64 0) 1 8 underlying30 HI.out.1 HI.out.2.1 HI.out.2.2.1 HI.out.2.2.2 rfl (by decide) _ 0 [] rfl (AX w 3 1) _ l.length (V l) ok rfl (HC.out.gb (World.grownBy_alloc _ _ none) (by simp)) (by intro u hu;simp[V]at hu;obtain⟨z,_,rfl⟩:=hu;rfl) (by unfold maxLen;omega) (by omega) (by simp) ?_;intro v6 w6 hown hgrow;(have HX:=D (I hown hgrow));clear hown hgrow));go_ret;exact⟨_,rfl,by simpa using HX.out.1,Ad (World.grownBy_alloc _ _ _) HX.out.2 (fun q hq=>((AX w 3 1).lt q hq).1)⟩
theorem B4(l:List Cd):∀u∈O l,u.oneCell'=true:=by
 induction l with
 |nil=>intro u h;simp[O]at h
 | cons c r ih=>
   intro u h;rw[O,List.mem_append]at h;rcases h with h|h
   ·simp[cdC]at h;rcases h with rfl|rfl|rfl|rfl<;>rfl
   ·exact ih u h
theorem CX{w:World}{v:Value}{l:List Cd}{ok:Nat→Prop}(h:Cells w v 4 l.length (O l) ok)(hl:l.length≤100000000):
 Calls Tryz.prog 20 #[v] w fun e w'=>∃r,e= .returned r∧w'.ownsRow w.heap.size 35 4 r l.length (O l)∧w.grownBy w' none:=by
 obtain⟨i0,hi0,hz0,hz1,hz2⟩:=info_parts Be;have HI:=D (I hi0 (I hz0 (I hz1 hz2)));have HC:=D h;obtain⟨a,cap,rfl,hle,hmx,hcl,hat⟩:=h;have HN:=D (fun(e:a=none)=>show l=[]from by
  cases l with
  |nil=>rfl
  |cons x r=>obtain⟨g,o,ea,_⟩:=hat 0 (.int .i64 x.op) rfl;rw[e]at ea;cases ea)
 clear hi0 hz0 hz1 hz2 hat hcl;have hnil:=Lib.run_eql_slice_nil (P:=Tryz.prog) w 31 35 a l.length cap 0 0 underlying31;cases a with
 | none=>
   have e:=HN.out rfl;subst e;simp only[List.length_nil]at hnil ⊢;go_enter func20,ntmps20;go_wp2;go_ret;exact⟨_,rfl,At _ _ _ _,N _ _⟩
 | some a=>
   clear HN;go_enter func20,ntmps20;go_wp2_with (at_builtin;go_loud(refine AY rfl _ _ 31 rfl w.heap.size 35 i0 (.agg #[.int .i64 0,.int .i64 0,.int .i64 0,str []]) 4 40 underlying31 HI.out.1 HI.out.2.1 HI.out.2.2.1 HI.out.2.2.2 rfl (by decide) _ 0 [] rfl (AX w 35 4) _ l.length (O l) ok rfl (HC.out.gb (World.grownBy_alloc _ _ none) (by simp)) (B4 l) (by unfold maxLen;omega) (by omega) (by simp) ?_;intro v6 w6 hown hgrow;(have HX:=D (I hown hgrow));clear hown hgrow));go_ret;exact⟨_,rfl,by simpa using HX.out.1,Ad (World.grownBy_alloc _ _ _) HX.out.2 (fun q hq=>((AX w 35 4).lt q hq).1)⟩
end Go.Proofs.YtahbajmkhjngiaaGreatDoor
