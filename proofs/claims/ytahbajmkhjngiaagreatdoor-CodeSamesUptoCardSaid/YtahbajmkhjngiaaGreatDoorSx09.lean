/-
  A strings.Builder of the call's own, with a frame that reaches above it: every block but its own two stands as it stood.
-/
import Derived.Test.YtahbajmkhjngiaaGreatDoorSx05
import Derived.Test.YtahbajmkhjngiaaGreatDoorPlain
import Derived.Lib.Builder
import Derived.Lib.AppendStr
import Derived.Laws.Externs
set_option linter.all false
set_option maxRecDepth 100000
set_option maxHeartbeats 8000000
namespace Go.Proofs.YtahbajmkhjngiaaGreatDoor
open Go.Proofs.Tryz
open Go.RowKit
theorem AJ:(Tryz.prog.info? 5).map (fun i=>(i.zero,i.size,i.bytes))=some (some (.int .u8 0),1,1):=by kernel_rfl
def U(l:Bs):List Value:=l.map fun b=> .int .u8 b.toNat
theorem BH(l:Bs):(U l).length=l.length:=by simp[U]
structure Bld(w:World)(b:Nat)(p v:Value)(l:Bs):Prop where
 blk:Blk w b [p,v] 61
 par:p= .pointer none∨p= .pointer (some ⟨b,0,none⟩)
 row:w.ownsRow (b+1) 5 1 v l.length (U l)
structure FR(w w':World)(b:Nat)(v:Value):Prop where
 os:w'.os=w.os
 tape:w'.tape=w.tape
 output:w'.output=w.output
 size:w.heap.size≤w'.heap.size
 block:∀k,k<w.heap.size→k≠b→v.ownBlock≠some k→w'.heap[k]? =w.heap[k]?
section
variable {w w1 w2:World}{b:Nat}{p v v1:Value}{l:Bs}
theorem Bld.own(h:Bld w b p v l):∀k,v.ownBlock=some k→b<k∧k<w.heap.size:=fun k e=>by have:=h.row.lt k e;omega
theorem Bld.lt(h:Bld w b p v l):b<w.heap.size:=h.blk.lt
theorem Bld.gbN(h:Bld w b p v l)(g:w.grownBy w1 none):Bld w1 b p v l:=
 ⟨h.blk.gb g (by simp),h.par,h.row.kept g (by cases v.ownBlock with|none=>exact .inl rfl|some _=>exact .inr (by simp))⟩
theorem Bld.new(w:World):Bld (w.alloc (.cells [.pointer none,.slice none 0 0].toArray 61 (0,0))) w.heap.size (.pointer none) (.slice none 0 0) []:=
 ⟨Blk.new _ _ _,.inl rfl,At _ _ _ _⟩
theorem FR.below(h:FR w w1 b v)(hv:∀k,v.ownBlock=some k→b<k){B:Nat}(hB:B≤b){w0:World}(h0:w0.heap.size=B)(g:w0.grownBy w none):w0.grownBy w1 none:=
 ⟨h.os.trans g.os,h.tape.trans g.tape,h.output.trans g.output,Nat.le_trans g.size h.size,fun k hk hn=>(h.block k (Nat.lt_of_lt_of_le hk g.size) (by omega) (fun e=>by have:=hv k e;omega)).trans (g.block k hk hn)⟩
theorem Bld.ne_bytes(h:Bld w b p v l){H:Nat}{cs:Array Value}{t:TypeId}{m:Nat}(hH:w.heap[H]? =some (.cells cs t (m,m+1))):v.ownBlock≠some H:=by
 intro e;rcases h.row.2 with⟨rfl,_⟩| ⟨g,cap,cur,rfl,_,hg,_⟩
 ·simp[Value.ownBlock]at e
 ·simp only[Value.ownBlock,Option.some.injEq]at e;subst e;rw[hg]at hH;simp only[Option.some.injEq,Obj.cells.injEq,Prod.mk.injEq]at hH;omega
theorem BD:(Tryz.prog.info? 61).map (·.size)=some 2:=by kernel_rfl
theorem BX:liesAt Tryz.prog Tryz.prog.depth 61 (2/Tryz.prog.cellsOf 61) 0 61 1=true:=by kernel_rfl
theorem Dq(c0:w.cell? ⟨b,0,none⟩=some (.pointer none))(hsh:w.shape? b=some (61,2))(hfz:w.frozen? ⟨b,0,none⟩=false):
 Calls Tryz.prog 56 #[.pointer (some ⟨b,0,none⟩)] w fun e w'=>e= .returned (.tuple #[])∧w'=w.setCell ⟨b,0,none⟩ (.pointer (some ⟨b,0,none⟩)):=by
 obtain⟨j,hj,hjs⟩:=Option.map_eq_some_iff.1 BD;go_enter func56,ntmps56;go_wp2;rw[Lib.run_to_unsafe w ⟨b,0,none⟩ underlying59 underlying114 hj (by rw[hjs];decide) hsh (Nat.zero_lt_succ 1)];simp only[Result.andThen];rw[Oper.upon_value];go_wp2;rw[run_callFunc_extern func75 (by kernel_rfl) (by kernel_rfl) (by kernel_rfl) (e:=Extern.AbiNoEscape.same) (by kernel_rfl)];rw[Lib.run_noEscape];simp only[Result.andThen];rw[Oper.upon_value];go_wp2;rw[Lib.run_from_unsafe w ⟨b,0,none⟩ underlying114 underlying59 hj hsh BX];simp only[Result.andThen];rw[Oper.upon_value];go_wp2;go_end0;exact⟨rfl,rfl⟩
theorem Db(c0:w.cell? ⟨b,0,none⟩=some (.pointer (some ⟨b,0,none⟩))):
 Calls Tryz.prog 56 #[.pointer (some ⟨b,0,none⟩)] w fun e w'=>e= .returned (.tuple #[])∧w'=w:=by
 obtain⟨j,hj,hjs⟩:=Option.map_eq_some_iff.1 BD;go_enter func56,ntmps56;go_wp2;rw[Lib.run_neq_ptr_same w _ underlying59 hj];go_wp2;go_end0;exact⟨rfl,rfl⟩
theorem BO(h:Bld w b p v l):Calls Tryz.prog 56 #[.pointer (some ⟨b,0,none⟩)] w fun e w'=>e= .returned (.tuple #[])∧Bld w' b (.pointer (some ⟨b,0,none⟩)) v l∧w.grownBy w' (some b)∧w'.heap.size=w.heap.size:=by
 rcases h.par with e|e
 ·have c0:w.cell? ⟨b,0,none⟩=some (.pointer none):=by rw[h.blk.cell' 0 (v:=p) rfl,e]
  refine(Dq c0 (by simp[World.shape?,show w.heap[b]? =_ from h.blk]) (h.blk.frozen 0)).mono ?_;rintro e w' ⟨rfl,rfl⟩;have gs:w.grownBy (w.setCell ⟨b,0,none⟩ (.pointer (some ⟨b,0,none⟩))) (some b):=A2 (N _ _) 0 _;refine⟨rfl,⟨(h.blk.set 0 _).of_eq rfl rfl,.inr rfl,h.row.kept gs ?_⟩,gs,by simp[World.setCell]⟩;cases hv:v.ownBlock with
  |none=>exact .inl rfl
  |some q=>exact .inr (by have:=(h.own q hv).1;intro e;cases e;omega)
 ·subst e;have c0:w.cell? ⟨b,0,none⟩=some (.pointer (some ⟨b,0,none⟩)):=h.blk.cell' 0 rfl;refine(Db c0).mono ?_;rintro e w' ⟨rfl,rfl⟩;exact⟨rfl,h,N _ _,rfl⟩
theorem FR.of(g1:w.grownBy w1 (some b))(g2:w1.grownBy w2 v.ownBlock){w3:World}(g3:w2.grownBy w3 (some b)):FR w w3 b v:=
 ⟨g3.os.trans (g2.os.trans g1.os),g3.tape.trans (g2.tape.trans g1.tape),g3.output.trans (g2.output.trans g1.output),Nat.le_trans g1.size (Nat.le_trans g2.size g3.size),
  fun k hk h1 h2=>(g3.block k (Nat.lt_of_lt_of_le hk (Nat.le_trans g1.size g2.size)) (by simpa using h1)).trans ((g2.block k (Nat.lt_of_lt_of_le hk g1.size) (fun e=>h2 e.symm)).trans (g1.block k hk (by simpa using h1)))⟩
theorem Bld.put{v2:Value}{l2:Bs}(hb:Blk w b [.pointer (some ⟨b,0,none⟩),v] 61)(ho:w.ownsRow (b+1) 5 1 v2 l2.length (U l2)):Bld (w.setCell ⟨b,1,none⟩ v2) b (.pointer (some ⟨b,0,none⟩)) v2 l2:=by
 have gs:w.grownBy (w.setCell ⟨b,1,none⟩ v2) (some b):=A2 (N _ _) 1 _;refine⟨(hb.set 1 _).of_eq rfl rfl,.inr rfl,ho.kept gs ?_⟩;cases hv:v2.ownBlock with
 |none=>exact .inl rfl
 |some q=>exact .inr (by have:=(ho.lt q hv).1;intro e;cases e;omega)
theorem Ba(h:Bld w b p v l)(hl:l.length≤100000000000)(c:UInt8):
 Calls Tryz.prog 38 #[.pointer (some ⟨b,0,none⟩),.int .u8 c.toNat] w fun e w'=>e= .returned .nilIface∧∃p' v',Bld w' b p' v' (l++[c])∧FR w w' b v:=by
 have HC:=D (BO h);obtain⟨i0,hi0,hz0,hz1,hz2⟩:=info_parts AJ;have HI:=D (I hi0 (I hz0 (I hz1 hz2)));clear h hi0 hz0 hz1 hz2;go_enter func38,ntmps38;go_wp2_with fail;refine HC.out.mono ?_;rintro e w1 ⟨rfl,h1,g1,hs1⟩;have c1:w1.cell? ⟨b,1,none⟩=some v:=h1.blk.cell' 1 rfl;have hlt:=h1.lt;have HH:=D (I h1 g1);have HO:=D h1.own;clear h1 g1 hs1 HC;go_wp2_with (at_builtin;go_loud(refine wpList_append_lies _ rfl _ _ 58 rfl (b+1) 5 i0 (.int .u8 0) 1 1 underlying58 HI.out.1 HI.out.2.1 HI.out.2.2.1 HI.out.2.2.2 rfl (by decide) v l.length (U l) rfl (Ap HH.out.1.row (World.grownBy_alloc _ _ none) (by simp)) ⟨w1.heap.size,0,none⟩ 1 1 [.int .u8 c.toNat] rfl rfl (Az _ _ _) (by simp[Value.oneCell']) (by decide) (by unfold maxLen;omega) (by omega) (by simp;omega) _ rfl ?_;intro g cap w6 hown hgrow hat hlt6;(have hb7:=(HH.out.1.blk.alloc (.cells [.int .u8 (c.toNat:Int)].toArray 5 (0,0))).gb hgrow (fun e=>by have:=HO.out _ e.symm;omega));(have d1:=hb7.cell 1);(have f1:=hb7.frozen 1);(have l7:=hb7.lt);(have HE:=D (I hown (I hgrow hb7)));clear hown hgrow hat hb7));go_ret;exact⟨rfl,_,_,Bld.put HE.out.2.2 (by simpa[U]using HE.out.1),FR.of HH.out.2 (M (World.grownBy_alloc _ _ _) HE.out.2.1) (A2 (N _ _) 1 _)⟩
theorem AZ(h:Bld w b p v l)(s:Bs)(hl:l.length+s.length≤100000000000):
 Calls Tryz.prog 35 #[.pointer (some ⟨b,0,none⟩),str s] w fun e w'=>e= .returned (.tuple #[.int .i64 s.length,.nilIface])∧∃p' v',Bld w' b p' v' (l++s)∧FR w w' b v:=by
 have HC:=D (BO h);obtain⟨i0,hi0,hz0,hz1,hz2⟩:=info_parts AJ;have HI:=D (I hi0 (I hz0 (I hz1 hz2)));have hsz:(⟨s.toArray⟩:ByteArray).size=s.length:=by simp[ByteArray.size]
 have HS:=D (show Lib.strCells ⟨s.toArray⟩=U s by simp[Lib.strCells,U]);clear h hi0 hz0 hz1 hz2;go_enter func35,ntmps35;go_wp2_with fail;refine HC.out.mono ?_;rintro e w1 ⟨rfl,h1,g1,hs1⟩;have c1:w1.cell? ⟨b,1,none⟩=some v:=h1.blk.cell' 1 rfl;have hlt:=h1.lt;have HH:=D (I h1 g1);have HO:=D h1.own;clear h1 g1 hs1 HC;go_wp2_with (at_builtin;go_loud(refine Lib.wpList_append_own_string _ rfl _ _ 58 9 rfl (b+1) 5 i0 underlying58 underlying9 HI.out.1 HI.out.2.1 HI.out.2.2.1 HI.out.2.2.2 v l.length (U l) rfl HH.out.1.row ⟨s.toArray⟩ rfl (by rw[hsz];unfold maxLen;omega) (by rw[hsz];omega) (by omega) ?_;intro v6 w6 hown hgrow hx6;obtain⟨a6,n6,c6,rfl⟩:∃ao n' cap,v6= .slice ao n' cap:=(by rcases hown.2 with⟨hv,_⟩| ⟨g,cap,cur,hv,_⟩;exact⟨_,_,_,hv⟩;exact⟨_,_,_,hv⟩);(have hb7:=HH.out.1.blk.gb hgrow (fun e=>by have:=HO.out _ e.symm;omega));(have d1:=hb7.cell 1);(have f1:=hb7.frozen 1);(have l7:=hb7.lt);(have HE:=D (I hown (I hgrow hb7)));clear hown hgrow hx6 hb7));exact bodyPost_ret (v:= .tuple #[.int .i64 s.length,.nilIface]) (by simp[results,results35,go_sem]) rfl ⟨rfl,_,_,Bld.put HE.out.2.2 (by have h9:=HE.out.1;rw[HS.out,hsz]at h9;simpa[U]using h9),FR.of HH.out.2 HE.out.2.1 (A2 (N _ _) 1 _)⟩
theorem CE(h:Bld w b p v l)(h0:l≠[]):
 Calls Tryz.prog 39 #[.pointer (some ⟨b,0,none⟩)] w fun e w'=>e= .returned (str l)∧∀w0:World,w0.grownBy w none→w0.heap.size≤b→w0.grownBy w' none:=by
 have hb:Lib.IsBuilder 61 5 b b (Lib.byteCells l) w:=by
  have hr:w.ownsRow b 5 1 v (Lib.byteCells l).length (Lib.byteCells l):=by
   have e:Lib.byteCells l=U l:=rfl;rw[e,BH];obtain⟨h1,h2⟩:=h.row;refine⟨h1,?_⟩;rcases h2 with h2| ⟨g,cap,cur,e1,hbg,hrest⟩
   ·exact .inl h2
   ·exact .inr ⟨g,cap,cur,e1,by omega,hrest⟩
  have hne:v.ownBlock≠some b:=fun e=>by have:=(h.own b e).1;omega
  rcases h.par with e|e
  ·exact .inl ⟨Nat.le_refl _,v,by rw[←e];exact h.blk,hr,hne⟩
  ·exact .inr ⟨Nat.le_refl _,v,by rw[←e];exact h.blk,hr,hne⟩
 refine(Builder_String b b l w hb h0).mono ?_;rintro e w' ⟨rfl,k⟩;exact⟨rfl,fun w0 g hb=>⟨k.os.trans g.os,k.tape.trans g.tape,k.output.trans g.output,Nat.le_trans g.size k.size,fun i hi hn=>(k.block i (by omega)).trans (g.block i hi hn)⟩⟩
end
end Go.Proofs.YtahbajmkhjngiaaGreatDoor
