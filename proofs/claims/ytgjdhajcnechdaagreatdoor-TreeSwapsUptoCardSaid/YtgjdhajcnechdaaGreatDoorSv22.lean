/-
  Line. Operators: what the library's sort and Compact leave of what was collected. heavy and overExpr: they return, and leave what was there.
-/
import Derived.Test.YtgjdhajcnechdaaGreatDoorSv19
import Derived.Test.YtgjdhajcnechdaaGreatDoorSv20
import Derived.Sort.OwnSorted
import Derived.Lib.SlicesCompact
import Derived.Test.YtgjdhajcnechdaaGreatDoorSv13
set_option linter.all false
set_option maxRecDepth 100000
set_option maxHeartbeats 8000000
namespace Go.Proofs.YtgjdhajcnechdaaGreatDoor
open Go.Proofs.Tryz
open Go.RowKit
theorem PO(k:Nat)(v:Value)(w:World):(callFunc 66 (#[v]++#[.pointer (some ⟨k,0,none⟩)])).run Tryz.prog w= .ok (.enter 66 (#[v]++#[.pointer (some ⟨k,0,none⟩)])) w:=by kernel_rfl
def PI(l:List Tok)(w:World)(M:Res Ex)(e:Ending)(w':World):Prop:=
 ∃h pa pn pc la ln lc,e= .returned (.tuple #[exV h (.slice pa pn pc) (.slice la ln lc),.int .i64 (BU l M)])∧w.grownBy w' none∧
  ∀x j,M= .ok x j→VE (AA w.heap.size) w' (exV h (.slice pa pn pc) (.slice la ln lc)) x
theorem Pu{w:World}(hg:Glob w){tv:Value}{l:List Tok}{day:Bs→Int}(hl:Dg day l)(ht:TRow w tv l (fun _=>True))(hlen:l.length≤4001)(n:Nat)(ho:B9 l day n ≠ .out):
 Calls Tryz.prog 37 #[tv] w (PI l w (B9 l day n)):=by
 have hmf:∀(fn:Fn)(first cap:Array Value)(w:World),(Instr.makeFunc fn first cap).run Tryz.prog w= .ok (.func fn first cap) w:=fun _ _ _ _=>rfl;have g0:w.grownBy ((w.alloc (.cells zeroE.toArray 27 (0,0))).alloc (.cells zeroE.toArray 27 (0,0))) none:=Ad (World.grownBy_alloc w _ none) _;have hz:=(Blk.new w zeroE 27).alloc (.cells zeroE.toArray 27 (0,0));have hk:=Blk.new (w.alloc (.cells zeroE.toArray 27 (0,0))) zeroE 27;replace hk:=hk.of_eq (k':=w.heap.size+1) (by simp) rfl;have ht0:=(ht.mono (ok':=fun g=>g<w.heap.size) (fun k _ h=>h)).gb g0 (by simp);have hg0:=hg.gb g0 (by simp);have hk0:=hk.lt;have hw0:0<w.heap.size:=by
  unfold Glob Lib.TabIs World.var? at hg;simp only[ED,Option.bind_some]at hg;rcases Nat.lt_or_ge 0 w.heap.size with h' |h'
  ·exact h'
  ·rw[Array.getElem?_eq_none h']at hg;simp at hg
 have H:=O (Z hl ho);clear hl ho hg;go_enter func37,ntmps37;go_wp2_with fail;refine(J5 (k:=w.heap.size+1) hg0 (ht0.mono (fun _ _ _=>trivial)) hlen 66 #[.pointer (some ⟨w.heap.size+1,0,none⟩)] (PO _) (B9 l day n) hk0 (SomeE (w.heap.size+1)) ?_ (HoldsE (w.heap.size+1)) ?_ ?_).mono ?_
 ·intro w2 w3 r h g hr;exact h.gb g (by simp;simp at hr;omega)
 ·intro B w2 w3 a r h g hr hB;exact h.gb g (by simp;simp at hr;omega) (by intro q e;cases e;exact hB)
 ·intro w1 b wv g1 hb1 hp hs;refine N8 H.out.1 n hp (hk.gb g1 (by simp)) (by simp at hb1;omega) ((ht0.gb g1 (by simp)).mono (fun q hq _=>by have:q<w.heap.size:=hq;omega)) (hs.mono (fun q hq _=>⟨by have:=hq.1;simp at this;omega,hq.2⟩)) H.out.2
 rintro e w1 ⟨rfl,g1,⟨h,pa,pn,pc,la,ln,lc,hB⟩,hV⟩;have hz1:=hz.gb g1 (by simp);obtain⟨cl_0,cl_1,cl_2,cl_3,cl_4,cl_5,cl_6,cl_f⟩:=(hB).c7;obtain⟨cz_0,cz_1,cz_2,cz_3,cz_4,cz_5,cz_6,cz_f⟩:=(hz1).c7;have hltz:=hz1.lt;go_wp2;have g7:=Ag w1 w.heap.size (.int .i64 h.op) (str h.s) (.int .i64 h.vk) (.int .i64 h.vn) (str h.vs) (.slice pa pn pc) (.slice la ln lc);have hW:=hz1.set7 (.int .i64 h.op) (str h.s) (.int .i64 h.vk) (.int .i64 h.vn) (str h.vs) (.slice pa pn pc) (.slice la ln lc);simp only[set7]at hW g7;generalize(((((((w1.setCell {block:=w.heap.size,off:=0} (.int .i64 h.op)).setCell {block:=w.heap.size,off:=1} (str h.s)).setCell {block:=w.heap.size,off:=2} (.int .i64 h.vk)).setCell {block:=w.heap.size,off:=3} (.int .i64 h.vn)).setCell {block:=w.heap.size,off:=4} (str h.vs)).setCell {block:=w.heap.size,off:=5} (.slice pa pn pc)).setCell {block:=w.heap.size,off:=6} (.slice la ln lc))=W at*;obtain⟨dl_0,dl_1,dl_2,dl_3,dl_4,dl_5,dl_6,dl_f⟩:=(hW).c7;refine bodyPost_ret (v:= .tuple #[exV h (.slice pa pn pc) (.slice la ln lc),.int .i64 (BU l (B9 l day n))]) ?_ rfl ⟨h,pa,pn,pc,la,ln,lc,rfl,?_,?_⟩
 ·simp[results,results37,go_sem,dl_0,dl_1,dl_2,dl_3,dl_4,dl_5,dl_6]
 ·exact Ar (Ar g0 g1 (.inr (by omega))) g7 (.inr (Nat.le_refl _))
 ·intro x j e;obtain⟨B,hB',pa',pc',la',lc',hb',rp,rl⟩:=hV x j e;have hok:∀q,AA B q→q<w1.heap.size→some q≠some w.heap.size:=fun q hq _ e=>by simp at hB' hq;cases e;omega
  have hok2:∀q,AA B q→q<W.heap.size→AA w.heap.size q:=fun q hq _=>by simp at hB' hq ⊢;omega
  have e1:(hdC x.h (.slice pa' x.h.p.length pc') (.slice la' x.kids.len lc')).toArray=(hdC h (.slice pa pn pc) (.slice la ln lc)).toArray:=by
   have e2:=hb'.symm.trans hB;injection e2 with e2
   injection e2
  have e3:exV h (.slice pa pn pc) (.slice la ln lc)=exV x.h (.slice pa' x.h.p.length pc') (.slice la' x.kids.len lc'):=by rw[show exV h _ _= .agg (hdC h (.slice pa pn pc) (.slice la ln lc)).toArray from rfl,←e1];rfl
  rw[e3];exact⟨pa',pc',la',lc',rfl,(rp.gb g7 hok).mono hok2,(rl.gb g7 hok).mono hok2⟩
open Go.Sort Go.Lib
theorem KT(zs:List Bs)(s:Bs):s∈Lib.compact zs↔s∈zs:=by
 unfold Lib.compact compactUpTo;simp only[List.mem_map,List.mem_filter,List.mem_range];have hg:∀j,j<zs.length→(zs.toArray[j]!: Bs)=zs.getD j []:=fun j hj=>by simp[hj]
 constructor
 ·rintro⟨j,⟨hj,_⟩,rfl⟩;rw[hg j hj,List.getD_eq_getElem?_getD,List.getElem?_eq_getElem hj];exact List.getElem_mem hj
 ·intro h;obtain⟨j,hj,hs⟩:=List.getElem_of_mem h;have:∀j,j<zs.length→zs.getD j []=s→∃a,(a<zs.length∧keeps zs.toArray a=true)∧zs.toArray[a]! =s:=by
   intro j;induction j with
   |zero=>intro hj hs;exact⟨0,⟨hj,by simp[keeps]⟩,by rw[hg 0 hj,hs]⟩
   | succ j ih=>
     intro hj hs;by_cases hk:keeps zs.toArray (j+1)=true
     ·exact⟨j+1,⟨hj,hk⟩,by rw[hg _ hj,hs]⟩
     ·refine ih (by omega) ?_;rw[←hs,←hg _ hj,←hg j (by omega)];unfold keeps at hk;rw[decide_eq_true_eq]at hk;exact(Classical.not_not.1 fun e=>hk (.inr e)).symm
  exact this j hj (by rw[List.getD_eq_getElem?_getD,List.getElem?_eq_getElem hj];exact hs)
theorem KS(zs:List Bs):(Lib.compact zs).length≤zs.length:=by
 unfold Lib.compact compactUpTo;rw[List.length_map];exact Nat.le_trans (List.length_filter_le _ _) (by simp)
theorem K9(w:World):Calls Tryz.prog 127 #[] w fun e w'=>(∃(g cap:Nat)(zs:List Bs),e= .returned (.slice (some ⟨g,0,none⟩) zs.length cap)∧zs.length≤100∧(∀j,j<zs.length→w'.cell? ⟨g,j,none⟩=some (str (zs.getD j [])))∧∀s,s∈zs↔s∈opsL)∧w.grownBy w' none:=by
 go_enter func127,ntmps127;go_wp2_with fail;refine(FX _).mono ?_;rintro e w1 ⟨m,rfl,hm,g1⟩;have HM:=O (Z hm g1);clear hm g1;go_wp2_with fail;go_loopg [1,7] 6 (fun g v1 v7 wr=>∃(k:Nat)(xs:List Bs),k+g=6∧v7= .int .i64 k∧wr.ownsRow w1.heap.size 9 1 v1 xs.length (xs.map str)∧Coll xs k (List.range (lvl k).length)∧xs.length≤10*k∧w1.grownBy wr none)
 case atStart=>exact⟨0,[],rfl,rfl,World.ownsRow_nil _ _ _ _,Coll.start,by simp,Ac _ _⟩
 case round=>
  obtain⟨k,xs,hg,rfl,hown,hcoll,hlen,gr⟩:=hrel;by_cases hk:k<6
  ·have hkI:decide ((k:Int)<6)=true:=by simp;omega
   have hix:=Js m k hk;have hmk:=Dl gr (HM.out.1 k hk) (by simp);have hrg:=Kn (P:=Tryz.prog) underlying187 hmk;have HX:=O (Z hown (Z hcoll (Z hlen (Z gr hmk))));clear hown hcoll hlen gr hmk;have HL:=O (show(lvl k).length≤10 by match k,hk with| 0,_ | 1,_ | 2,_ | 3,_ | 4,_ | 5,_=>decide);go_wp2_with fail;go_loopg [1] (lvl k).length (fun g v1 wq=>∃(xs:List Bs)(left:List Nat),left.length=g∧wq.ownsRow w1.heap.size 9 1 v1 xs.length (xs.map str)∧Coll xs k left∧xs.length+g≤10*k+10∧Iter wq wr.heap.size (m+k) (lvl k) left∧v1.ownBlock≠some wr.heap.size∧w1.grownBy wq none)
   case atStart=>
    refine⟨xs,List.range (lvl k).length,by simp,HX.out.1.alloc _,HX.out.2.1,by have:=HX.out.2.2.1;have:=HL.out;omega,Iter.start HX.out.2.2.2.2,?_,Ad HX.out.2.2.2.1 _⟩;intro e;have:=(HX.out.1.lt _ e).2;omega
   case round=>
    obtain⟨ys,left,hleft,hown,hcoll,hlen,hit,hne,gq⟩:=hrel;have hr0:=HX.out.2.2.2.1.size;have HY:=O (Z hown (Z hcoll (Z hlen (Z hne (Z gq hit)))));clear hown hcoll hlen hne gq hrg hix;subst hleft;go_wp2_with (at_next;refine JV rfl _ rfl rfl hit ?_ ?_)
    ·intro hl;subst hl;clear hit;go_wp2;go_roundg (gk-1)
     case measure=>omega
     case rel=>exact⟨k+1,ys,by omega,by go_num,HY.out.1,HY.out.2.1.next,by have:=HY.out.2.2.1;simp only[List.length_nil]at this;omega,HY.out.2.2.2.2.1⟩
    ·intro i wp hi hit2 gp hen;have hil:i<(lvl k).length:=by
      obtain⟨_,_,_,_,h⟩:=hit;exact((h i).1 hi).1
     have hnd:left.Nodup:=by
      obtain⟨_,_,_,h,_⟩:=hit;exact h
     have hst:=HY.out.2.1.step hnd hi hil;have hle:=List.length_erase_of_mem hi;have hpos:0<left.length:=List.length_pos_of_mem hi;have hown2:=HY.out.1.kept gp (.inr HY.out.2.2.2.1);rw[List.getD_eq_getElem?_getD]at hst;generalize((lvl k)[i]?.getD ([],[])).1=s0 at*;generalize((lvl k)[i]?.getD ([],[])).2=s at*;have hown4:=hown2.alloc (.cells [str s].toArray 9 (0,0));have gq2:=Ar HY.out.2.2.2.2.1 gp (.inr hr0);have gA:=Ad gq2 (.cells [str s].toArray 9 (0,0));have hbs:=gA.size;obtain⟨i0,hi0,hz0,hz1,hz2⟩:=info_parts Eh;have hnc:=Ce wp [str s] 9;have hl3:=HY.out.2.2.1;have hml:ys.length+1≤maxLen:=by unfold maxLen;omega
     have hyb:(ys.length+1)*16≤140737488355328:=by omega
     have HZ:=O (Z hi0 (Z hz0 (Z hz1 (Z hz2 (Z hnc (Z hml hown4))))));have HW:=O (Z hst (Z hle (Z hpos (Z gA (Z (hit2.gb (World.grownBy_alloc wp (.cells [str s].toArray 9 (0,0)) none) (by simp) (by simp)) gp.size)))));clear hi0 hz0 hz1 hz2 hnc hml hown4 hown2 hst hle hpos gA hit hit2 gq2 gp hi hil hnd hl3;go_wp2_with (at_builtin;obtain⟨hi0,hz0,hz1,hz2,hnc,hml,hown4⟩:=HZ.out;refine DE rfl _ _ 24 rfl w1.heap.size 9 i0 (str []) 1 16 underlying24 hi0 hz0 hz1 hz2 rfl (by decide) _ _ _ rfl hown4 ⟨wp.heap.size,0,none⟩ 1 1 [str s] rfl rfl hnc (by simp[Value.oneCell']) hml hyb hbs ?_;intro v' w5 hown5 g5 hnb;clear hi0 hz0 hz1 hz2 hnc hml hown4);have HO5:=O (Z hown5 (Z g5 hnb));clear hown5 g5 hnb hen;go_roundg (left.erase i).length
     case measure=>have:=HW.out.2.1;have:=HW.out.2.2.1;omega
     case rel=>
      have hob:∀q,u1.ownBlock=some q→w1.heap.size≤q:=fun q hq=>(HY.out.1.lt q hq).1;have hmlt:m+k<w1.heap.size:=(Array.getElem?_eq_some_iff.1 (HM.out.1 k hk)).1;have g5':World.grownBy (wp.alloc _) w5 u1.ownBlock:=HO5.out.2.1;refine⟨ys++[s],left.erase i,rfl,by simpa using HO5.out.1,HW.out.1,by have:=HW.out.2.1;have:=HY.out.2.2.1;rw[List.length_append,List.length_singleton];have:=HW.out.2.2.1;omega,HW.out.2.2.2.2.1.gb g5' (fun e=>by have:=hob _ e.symm;omega) (fun e=>HY.out.2.2.2.1 e.symm),?_,?_⟩
      ·intro e;rcases HO5.out.2.2 _ e with h|h
       ·exact HY.out.2.2.2.1 h
       ·have h6:=HW.out.2.2.2.2.2;have h7:=HY.out.2.2.2.2.2;obtain⟨_,_,h8,_⟩:=h7;have h9:=(Array.getElem?_eq_some_iff.1 h8).1;simp at h;omega
      ·cases hv:u1.ownBlock with
       |none=>rw[hv]at g5';exact Ah HW.out.2.2.2.1 g5'
       |some q=>rw[hv]at g5';exact Ar HW.out.2.2.2.1 g5' (.inr (hob q hv))
  ·have hkI:decide ((k:Int)<6)=false:=by simp;omega
   obtain rfl:k=6:=by omega
   have hmem:=hcoll.done;obtain⟨_,⟨_,h0⟩| ⟨g,cap,cur,rfl,hb,hblk,hnc,hcm,hcs,htake⟩⟩:=hown
   ·exfalso;have:([43]:Bs)∈xs:=(hmem _).2 (by decide);rw[List.eq_nil_of_length_eq_zero h0]at this;cases this
   have hlt:=(Array.getElem?_eq_some_iff.1 hblk).1;have hH:Holds encStr wr g 0 xs.toArray:=holds_of_block hblk (by rw[Nat.mul_one]at htake;exact htake);have HS:=O (slices_Sort_string g 0 cap xs wr hH hlt (by omega));have hperm:=List.mergeSort_perm xs (fun x y=>decide (x≤y));have hzl:xs.length=(xs.mergeSort fun x y=>decide (x≤y)).length:=hperm.length_eq.symm;have hzm:∀s,s∈(xs.mergeSort fun x y=>decide (x≤y))↔s∈opsL:=fun s=>by rw[hperm.mem_iff,hmem s]
   generalize(xs.mergeSort fun x y=>decide (x≤y))=zs at*;have HY:=O (Z hmem (Z hb (Z hlt (Z hH (Z hzm (Z hzl (Z hnc gr)))))));clear hcoll gr hmem hb hblk hnc hcm hcs htake hH hperm hzm hzl hlt;go_wp2_with fail;refine HS.out.mono ?_;rintro e w2 ⟨rfl,n,os,hw2⟩;have g2:wr.grownBy w2 (some g):=by rw[hw2];exact grownBy_sorted _
   have hH2:Holds encStr w2 g 0 zs.toArray:=by
    rw[hw2];refine holds_grow _ _ _ _ _ _ (by simpa using HY.out.2.2.1) (holds_putRow _ _ _ _ xs.toArray _ (show Holds encStr (Sort.ahead wr n) g 0 xs.toArray from HY.out.2.2.2.1) ?_);have:=HY.out.2.2.2.2.2.1;simp;omega
   have hlt2:g<w2.heap.size:=by have:=g2.size;have:=HY.out.2.2.1;omega
   have HC:∀L,L=zs.length→Calls Tryz.prog 43 #[.slice (some ⟨g,0,none⟩) L cap] w2 fun e w'=>e= .returned (.slice (some ⟨g,0,none⟩) (Lib.compact zs).length cap)∧∃q,w'=putRow encStr (Sort.ahead w2 q) g 0 (Lib.compact zs++List.replicate (zs.length-(Lib.compact zs).length) []).toArray:=by
    rintro _ rfl;exact slices_Compact_string g 0 cap zs w2 hH2 (by have:=HY.out.2.2.2.2.2.1;omega) (by have:=HY.out.2.2.2.2.2.1;have:=HY.out.2.2.2.2.2.2.1;omega)
   replace HC:=HC xs.length HY.out.2.2.2.2.2.1;have HC2:=O HC;have HH:=O (Z hH2 g2);clear HC hw2 hH2 g2;go_wp2_with fail;refine HC2.out.mono ?_;rintro e w3 ⟨rfl,q,hw3⟩;have HW:=O hw3;clear hw3 HS HC2;go_wp2;go_ret;have hcl:=KS zs;have hzl:=HY.out.2.2.2.2.2.1;refine⟨⟨g,cap,Lib.compact zs,rfl,by omega,fun j hj=>?_,fun s=>by rw[KT];exact HY.out.2.2.2.2.1 s⟩,?_⟩
   ·rw[HW.out];have:=cell?_putRow encStr (Sort.ahead w2 q) g 0 zs.toArray (Lib.compact zs++List.replicate (zs.length-(Lib.compact zs).length) []).toArray (show Holds encStr (Sort.ahead w2 q) g 0 zs.toArray from HH.out.1) (by simp;omega) j (by simp;omega);rw[Nat.zero_add]at this;rw[this];simp[encStr,hj,List.getElem_append_left hj,List.getElem?_append_left hj]
   ·have g3 : w2.grownBy w3 (some g) := by
     rw[HW.out];have:=grownBy_sorted (w:=w2) (g:=g) (n:=q) (os:=#[]) (Lib.compact zs++List.replicate (zs.length-(Lib.compact zs).length) []).toArray;rw[grow_empty]at this;exact this
    have ga:=Ar HY.out.2.2.2.2.2.2.2 HH.out.2 (.inr HY.out.2.1);have gb:=Ar ga g3 (.inr HY.out.2.1);exact Aa HM.out.2 gb
theorem Kj(s:Bs)(w:World):Calls Tryz.prog 76 #[str s] w fun e w'=>e= .returned (.bool (opsL.contains s))∧w.grownBy w' none:=by
 generalize hb0:opsL.contains s=b;have HB:=O hb0;clear hb0;go_enter func76,ntmps76;go_wp2_with fail;refine(K9 _).mono ?_;rintro e w1 ⟨⟨g,cap,zs,rfl,hl,hc,hm⟩,g1⟩;have HC:=O (slices_Contains_string g 0 zs.length cap (zs.map fun z=>⟨z.toArray⟩) ⟨s.toArray⟩ w1 (by simp) (by omega) (fun j hj=>by
  have hj':j<zs.length:=by simpa using hj
  have:=hc j hj';rw[Nat.zero_add,this];simp[List.getD_eq_getElem?_getD,hj']))
 have hb:Lib.containsS ((zs.map fun z=>(⟨z.toArray⟩:ByteArray)).take zs.length) ⟨s.toArray⟩=opsL.contains s:=by
  rw[Bool.eq_iff_iff,containsS_iff,List.take_of_length_le (by simp),List.contains_iff_mem,←hm s,List.mem_map];constructor
  ·rintro⟨z,hz,e⟩;have:z=s:=by
    have:=congrArg (fun b:ByteArray=>b.data.toList) e;simpa using this
   exact this ▸ hz
  ·exact fun h=>⟨s,h,rfl⟩
 rw[hb,HB.out]at HC;clear hb hc hm;go_wp2_with fail;refine HC.out.mono ?_;rintro e w2 ⟨rfl,rfl⟩;go_wp2;go_ret;exact⟨rfl,g1⟩
def JM(w:World)(e:Ending)(w':World):Prop:=∃n:Int,e= .returned (.int .i64 n)∧w.grownBy w' none
def SomeB(w:World)(e:Ending)(w':World):Prop:=∃b:Bool,e= .returned (.bool b)∧w.grownBy w' none
theorem Rp:∀(N:Nat)(f:Fo),f.wt<N→∀(ok:Nat→Prop)(la:Option Addr)(lc:Nat)(w:World),RepL ok w (.slice la f.len lc) f→
 Calls Tryz.prog 21 #[.slice la f.len lc] w (JM w):=by
 intro N;induction N with
 |zero=>intro f hN;omega
 | succ N ih=>
   intro f hN ok la lc w hf;obtain⟨cs,hc1,hr1⟩:=hf;obtain⟨_,_,e,hle,hmx,_,hc1⟩:=hc1;cases e;have hmax:f.len≤maxLen:=by omega
   unfold maxLen at hmax;clear hle hmx;have HC:=O (Z hc1 ih);have HR:=O hr1;clear hc1 ih hr1;go_enter func21,ntmps21;go_wp2_with fail;go_loopg [3,4] f.len (fun g v3 v4 wr=>∃rf:Fo,∃k:Nat,∃n:Int,rf.len=g∧k+g=f.len∧v3= .int .i64 n∧v4= .int .i64 k∧rf.wt≤f.wt∧RepF ok w rf (cs.drop (k*7))∧w.grownBy wr none)
   case atStart=>exact⟨f,0,_,rfl,by omega,rfl,rfl,Nat.le_refl _,by simpa using HR.out,Ac _ _⟩
   case round=>
    obtain⟨rf,k,n,hn,hk,rfl,rfl,hno,hrf,hgr⟩:=hrel;clear HR;cases rf with
    | nil=>
      have hkI:decide (k<f.len)=false:=by simp[Fo.len]at hn;simp;omega
      have HG:=O hgr;clear hgr hn hrf;go_wp2;go_ret;exact⟨_,rfl,HG.out⟩
    | cons h1 k1 n1=>
      simp only[Fo.len]at hn;simp only[Fo.wt]at hno;subst hn;have hkI:decide (k<f.len)=true:=by simp;omega
      by_cases hlim:n<65536
      ·have hnI:decide (n<65536)=true:=by simpa using hlim
       obtain⟨pa1,pc1,lb1,ld1,hp1,hl1,hx1,ha1⟩:=RepF.elem (n:=f.len) (lc:=lc) (f:=f) HC.out.1 hrf;have hkf:k+1≤f.len:=by omega
       have HE:=O (fun(W:World)(gW:wr.grownBy W none)=>HC.out.2 k1 (by omega) ok lb1 ld1 W (hl1.gb (Aa hgr gW) (by simp)));have hpm:h1.p.length≤maxLen:=by obtain⟨_,_,e,h3,h4,_⟩:=hp1;omega
       unfold maxLen at hpm;have HN:=O (Z (show n1.wt≤f.wt by omega) (Z hx1 (Z hgr hp1.at1.2)));clear hno hrf hp1 hl1 hx1;obtain⟨g1,o1,rfl,hokz,y0⟩:=ha1 0 _ rfl;obtain⟨_,_,e1,_,y1⟩:=ha1 1 _ rfl;cases e1;obtain⟨_,_,e1,_,y2⟩:=ha1 2 _ rfl;cases e1;obtain⟨_,_,e1,_,y3⟩:=ha1 3 _ rfl;cases e1;obtain⟨_,_,e1,_,y4⟩:=ha1 4 _ rfl;cases e1;obtain⟨_,_,e1,_,y5⟩:=ha1 5 _ rfl;cases e1;obtain⟨_,_,e1,_,y6⟩:=ha1 6 _ rfl;cases e1;have hglz:=World.block_lt_of_cell? w _ y0;have z0:=Af hgr y0;have z1:=Af hgr y1;have z2:=Af hgr y2;have z3:=Af hgr y3;have z4:=Af hgr y4;have z5:=Af hgr y5;have z6:=Af hgr y6;simp only[Nat.add_zero,←Nat.add_assoc]at z0 z1 z2 z3 z4 z5 z6;clear y0 y1 y2 y3 y4 y5 y6;clear ha1 hgr;have hws:=HN.out.2.2.1.size;have HZ5:=O z5;have i0:(0:Int)≤(k:Int):=by omega
       have i1:(k:Int)<(f.len:Int):=by omega
       have i2:k<f.len:=by omega
       clear z0 z2 z3 z5;go_wp2_with fail;go_region_held3 (fun W=>W.cell? ⟨g1,o1+k*7+1,none⟩=some (str h1.s)∧W.cell? ⟨g1,o1+k*7+4,none⟩=some (str h1.vs)∧W.cell? ⟨g1,o1+k*7+6,none⟩=some (.slice lb1 k1.len ld1)∧wr.grownBy W none) (first|exact⟨z1,z4,z6,Am (Ac wr none)⟩|exact⟨Af g5 z1,Af g5 z4,Af g5 z6,Ah (Am (Ac wr none)) g5⟩) (first| (go_at_call 21;refine(HE.out _ ?_).mono ?_;(simp[*]);rintro e w5 ⟨n5,rfl,g5⟩));all_goals
        have gA:wr.grownBy w5 none:=Ah (Am (Ac wr none)) g5;have HZ:=O (Z gA HZ5.out);clear gA g5;go_wp2_with fail;go_loopg [3,5] h1.p.length (fun g v3 v5 w2=>∃j:Nat,∃n:Int,j+g=h1.p.length∧v3= .int .i64 n∧v5= .int .i64 j∧wr.grownBy w2 none)
        case atStart=>exact⟨0,_,by omega,rfl,rfl,HZ.out.1⟩
        case round=>
         obtain⟨j,n2,hj,rfl,rfl,hg2⟩:=hrel;have y5:=Af hg2 HZ.out.2;by_cases hjl:j<h1.p.length
         ·have hjI:decide (j<h1.p.length)=true:=by simpa using hjl
          obtain⟨gp,op,rfl,hcp⟩:=HN.out.2.2.2 j hjl;have t0:=Af (Aa HN.out.2.2.1 hg2) hcp;have HG:=O hg2;clear hcp hg2;generalize h1.p.getD j []=s at*;go_wp2;go_roundg (h1.p.length-(j+1))
          case measure=>omega
          case rel=>exact⟨j+1,_,by omega,rfl,by go_num,HG.out⟩
         ·have hjI:decide (j<h1.p.length)=false:=by simpa using hjl
          have HG:=O (Aa HN.out.2.2.1 hg2);clear hg2;go_wp2;go_roundg n1.len
          case measure=>omega
          case rel=>exact⟨n1,k+1,_,rfl,by omega,rfl,by go_num,HN.out.1,HN.out.2.1,HG.out⟩
      ·have hnI:decide (n<65536)=false:=by simpa using hlim
       have HG:=O hgr;clear hgr hrf;go_wp2;go_ret;exact⟨_,rfl,HG.out⟩
end Go.Proofs.YtgjdhajcnechdaaGreatDoor
