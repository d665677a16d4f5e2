/-
  Operators: what the library's sort and Compact leave of what was collected. Rows of names that are looked through: slices.IndexFunc, slices.ContainsFunc, areNames. Dates: isLeap, monthDays, yearsDays,
-/
import Derived.Test.YtgjdhajcnechdaaGreatDoorSb08
import Derived.Sort.OwnSorted
import Derived.Lib.SlicesCompact
import Derived.Test.YtgjdhajcnechdaaGreatDoorSb04
import Derived.Test.YtgjdhajcnechdaaGreatDoorSb05
import Derived.Lib.ItoaMem
set_option linter.all false
set_option maxRecDepth 100000
set_option maxHeartbeats 8000000
namespace Go.Proofs.YtgjdhajcnechdaaGreatDoor
open Go.Proofs.Tryz
open Go.RowKit Go.Sort Go.Lib
theorem Ja(zs:List Bs)(s:Bs):s∈Lib.compact zs↔s∈zs:=by
 unfold Lib.compact compactUpTo;simp only[List.mem_map,List.mem_filter,List.mem_range];have hg:∀j,j<zs.length→(zs.toArray[j]!: Bs)=zs.getD j []:=fun j hj=>by simp[hj]
 constructor
 ·rintro⟨j,⟨hj,_⟩,rfl⟩;rw[hg j hj,List.getD_eq_getElem?_getD,List.getElem?_eq_getElem hj];exact List.getElem_mem hj
 ·intro h;obtain⟨j,hj,hs⟩:=List.getElem_of_mem h;have:∀j,j<zs.length→zs.getD j []=s→∃a,(a<zs.length∧keeps zs.toArray a=true)∧zs.toArray[a]! =s:=by
   intro j;induction j with
   |zero=>intro hj hs;exact⟨0,⟨hj,by simp[keeps]⟩,by rw[hg 0 hj,hs]⟩
   | succ j ih=>
     intro hj hs;by_cases hk:keeps zs.toArray (j+1)=true
     ·exact⟨j+1,⟨hj,hk⟩,by rw[hg _ hj,hs]⟩
     ·refine ih (by omega) ?_;rw[←hs,←hg _ hj,←hg j (by omega)];unfold keeps at hk;rw[decide_eq_true_eq]at hk;exact(Classical.not_not.1 fun e=>hk (.inr e)).symm
  exact this j hj (by rw[List.getD_eq_getElem?_getD,List.getElem?_eq_getElem hj];exact hs)
theorem IZ(zs:List Bs):(Lib.compact zs).length≤zs.length:=by
 unfold Lib.compact compactUpTo;rw[List.length_map];exact Nat.le_trans (List.length_filter_le _ _) (by simp)
theorem Hn(w:World):Calls Tryz.prog 127 #[] w fun e w'=>(∃(g cap:Nat)(zs:List Bs),e= .returned (.slice (some ⟨g,0,none⟩) zs.length cap)∧zs.length≤100∧(∀j,j<zs.length→w'.cell? ⟨g,j,none⟩=some (str (zs.getD j [])))∧∀s,s∈zs↔s∈opsL)∧w.grownBy w' none:=by
 go_enter func127,ntmps127;go_wp2_with fail;refine(Ei _).mono ?_;rintro e w1 ⟨m,rfl,hm,g1⟩;have HM:=I (X hm g1);clear hm g1;go_wp2_with fail;go_loopg [1,7] 6 (fun g v1 v7 wr=>∃(k:Nat)(xs:List Bs),k+g=6∧v7= .int .i64 k∧wr.ownsRow w1.heap.size 9 1 v1 xs.length (xs.map str)∧Coll xs k (List.range (lvl k).length)∧xs.length≤10*k∧w1.grownBy wr none)
 case atStart=>exact⟨0,[],rfl,rfl,World.ownsRow_nil _ _ _ _,Coll.start,by simp,Ac _ _⟩
 case round=>
  obtain⟨k,xs,hg,rfl,hown,hcoll,hlen,gr⟩:=hrel;by_cases hk:k<6
  ·have hkI:decide ((k:Int)<6)=true:=by simp;omega
   have hix:=GD m k hk;have hmk:=C9 gr (HM.out.1 k hk) (by simp);have hrg:=Hz (P:=Tryz.prog) underlying187 hmk;have HX:=I (X hown (X hcoll (X hlen (X gr hmk))));clear hown hcoll hlen gr hmk;have HL:=I (show(lvl k).length≤10 by match k,hk with| 0,_ | 1,_ | 2,_ | 3,_ | 4,_ | 5,_=>decide);go_wp2_with fail;go_loopg [1] (lvl k).length (fun g v1 wq=>∃(xs:List Bs)(left:List Nat),left.length=g∧wq.ownsRow w1.heap.size 9 1 v1 xs.length (xs.map str)∧Coll xs k left∧xs.length+g≤10*k+10∧Iter wq wr.heap.size (m+k) (lvl k) left∧v1.ownBlock≠some wr.heap.size∧w1.grownBy wq none)
   case atStart=>
    refine⟨xs,List.range (lvl k).length,by simp,HX.out.1.alloc _,HX.out.2.1,by have:=HX.out.2.2.1;have:=HL.out;omega,Iter.start HX.out.2.2.2.2,?_,Aa HX.out.2.2.2.1 _⟩;intro e;have:=(HX.out.1.lt _ e).2;omega
   case round=>
    obtain⟨ys,left,hleft,hown,hcoll,hlen,hit,hne,gq⟩:=hrel;have hr0:=HX.out.2.2.2.1.size;have HY:=I (X hown (X hcoll (X hlen (X hne (X gq hit)))));clear hown hcoll hlen hne gq hrg hix;subst hleft;go_wp2_with (at_next;refine Hc rfl _ rfl rfl hit ?_ ?_)
    ·intro hl;subst hl;clear hit;go_wp2;go_roundg (gk-1)
     case measure=>omega
     case rel=>exact⟨k+1,ys,by omega,by go_num,HY.out.1,HY.out.2.1.next,by have:=HY.out.2.2.1;simp only[List.length_nil]at this;omega,HY.out.2.2.2.2.1⟩
    ·intro i wp hi hit2 gp hen;have hil:i<(lvl k).length:=by
      obtain⟨_,_,_,_,h⟩:=hit;exact((h i).1 hi).1
     have hnd:left.Nodup:=by
      obtain⟨_,_,_,h,_⟩:=hit;exact h
     have hst:=HY.out.2.1.step hnd hi hil;have hle:=List.length_erase_of_mem hi;have hpos:0<left.length:=List.length_pos_of_mem hi;have hown2:=HY.out.1.kept gp (.inr HY.out.2.2.2.1);rw[List.getD_eq_getElem?_getD]at hst;generalize((lvl k)[i]?.getD ([],[])).1=s0 at*;generalize((lvl k)[i]?.getD ([],[])).2=s at*;have hown4:=hown2.alloc (.cells [str s].toArray 9 (0,0));have gq2:=AN HY.out.2.2.2.2.1 gp (.inr hr0);have gA:=Aa gq2 (.cells [str s].toArray 9 (0,0));have hbs:=gA.size;obtain⟨i0,hi0,hz0,hz1,hz2⟩:=info_parts ED;have hnc:=Db wp [str s] 9;have hl3:=HY.out.2.2.1;have hml:ys.length+1≤maxLen:=by unfold maxLen;omega
     have hyb:(ys.length+1)*16≤140737488355328:=by omega
     have HZ:=I (X hi0 (X hz0 (X hz1 (X hz2 (X hnc (X hml hown4))))));have HW:=I (X hst (X hle (X hpos (X gA (X (hit2.gb (World.grownBy_alloc wp (.cells [str s].toArray 9 (0,0)) none) (by simp) (by simp)) gp.size)))));clear hi0 hz0 hz1 hz2 hnc hml hown4 hown2 hst hle hpos gA hit hit2 gq2 gp hi hil hnd hl3;go_wp2_with (at_builtin;obtain⟨hi0,hz0,hz1,hz2,hnc,hml,hown4⟩:=HZ.out;refine Dg rfl _ _ 24 rfl w1.heap.size 9 i0 (str []) 1 16 underlying24 hi0 hz0 hz1 hz2 rfl (by decide) _ _ _ rfl hown4 ⟨wp.heap.size,0,none⟩ 1 1 [str s] rfl rfl hnc (by simp[Value.oneCell']) hml hyb hbs ?_;intro v' w5 hown5 g5 hnb;clear hi0 hz0 hz1 hz2 hnc hml hown4);have HO5:=I (X hown5 (X g5 hnb));clear hown5 g5 hnb hen;go_roundg (left.erase i).length
     case measure=>have:=HW.out.2.1;have:=HW.out.2.2.1;omega
     case rel=>
      have hob:∀q,u1.ownBlock=some q→w1.heap.size≤q:=fun q hq=>(HY.out.1.lt q hq).1;have hmlt:m+k<w1.heap.size:=(Array.getElem?_eq_some_iff.1 (HM.out.1 k hk)).1;have g5':World.grownBy (wp.alloc _) w5 u1.ownBlock:=HO5.out.2.1;refine⟨ys++[s],left.erase i,rfl,by simpa using HO5.out.1,HW.out.1,by have:=HW.out.2.1;have:=HY.out.2.2.1;rw[List.length_append,List.length_singleton];have:=HW.out.2.2.1;omega,HW.out.2.2.2.2.1.gb g5' (fun e=>by have:=hob _ e.symm;omega) (fun e=>HY.out.2.2.2.1 e.symm),?_,?_⟩
      ·intro e;rcases HO5.out.2.2 _ e with h|h
       ·exact HY.out.2.2.2.1 h
       ·have h6:=HW.out.2.2.2.2.2;have h7:=HY.out.2.2.2.2.2;obtain⟨_,_,h8,_⟩:=h7;have h9:=(Array.getElem?_eq_some_iff.1 h8).1;simp at h;omega
      ·cases hv:u1.ownBlock with
       |none=>rw[hv]at g5';exact Ae HW.out.2.2.2.1 g5'
       |some q=>rw[hv]at g5';exact AN HW.out.2.2.2.1 g5' (.inr (hob q hv))
  ·have hkI:decide ((k:Int)<6)=false:=by simp;omega
   obtain rfl:k=6:=by omega
   have hmem:=hcoll.done;obtain⟨_,⟨_,h0⟩| ⟨g,cap,cur,rfl,hb,hblk,hnc,hcm,hcs,htake⟩⟩:=hown
   ·exfalso;have:([43]:Bs)∈xs:=(hmem _).2 (by decide);rw[List.eq_nil_of_length_eq_zero h0]at this;cases this
   have hlt:=(Array.getElem?_eq_some_iff.1 hblk).1;have hH:Holds encStr wr g 0 xs.toArray:=holds_of_block hblk (by rw[Nat.mul_one]at htake;exact htake);have HS:=I (slices_Sort_string g 0 cap xs wr hH hlt (by omega));have hperm:=List.mergeSort_perm xs (fun x y=>decide (x≤y));have hzl:xs.length=(xs.mergeSort fun x y=>decide (x≤y)).length:=hperm.length_eq.symm;have hzm:∀s,s∈(xs.mergeSort fun x y=>decide (x≤y))↔s∈opsL:=fun s=>by rw[hperm.mem_iff,hmem s]
   generalize(xs.mergeSort fun x y=>decide (x≤y))=zs at*;have HY:=I (X hmem (X hb (X hlt (X hH (X hzm (X hzl (X hnc gr)))))));clear hcoll gr hmem hb hblk hnc hcm hcs htake hH hperm hzm hzl hlt;go_wp2_with fail;refine HS.out.mono ?_;rintro e w2 ⟨rfl,n,os,hw2⟩;have g2:wr.grownBy w2 (some g):=by rw[hw2];exact grownBy_sorted _
   have hH2:Holds encStr w2 g 0 zs.toArray:=by
    rw[hw2];refine holds_grow _ _ _ _ _ _ (by simpa using HY.out.2.2.1) (holds_putRow _ _ _ _ xs.toArray _ (show Holds encStr (Sort.ahead wr n) g 0 xs.toArray from HY.out.2.2.2.1) ?_);have:=HY.out.2.2.2.2.2.1;simp;omega
   have hlt2:g<w2.heap.size:=by have:=g2.size;have:=HY.out.2.2.1;omega
   have HC:∀L,L=zs.length→Calls Tryz.prog 43 #[.slice (some ⟨g,0,none⟩) L cap] w2 fun e w'=>e= .returned (.slice (some ⟨g,0,none⟩) (Lib.compact zs).length cap)∧∃q,w'=putRow encStr (Sort.ahead w2 q) g 0 (Lib.compact zs++List.replicate (zs.length-(Lib.compact zs).length) []).toArray:=by
    rintro _ rfl;exact slices_Compact_string g 0 cap zs w2 hH2 (by have:=HY.out.2.2.2.2.2.1;omega) (by have:=HY.out.2.2.2.2.2.1;have:=HY.out.2.2.2.2.2.2.1;omega)
   replace HC:=HC xs.length HY.out.2.2.2.2.2.1;have HC2:=I HC;have HH:=I (X hH2 g2);clear HC hw2 hH2 g2;go_wp2_with fail;refine HC2.out.mono ?_;rintro e w3 ⟨rfl,q,hw3⟩;have HW:=I hw3;clear hw3 HS HC2;go_wp2;go_ret;have hcl:=IZ zs;have hzl:=HY.out.2.2.2.2.2.1;refine⟨⟨g,cap,Lib.compact zs,rfl,by omega,fun j hj=>?_,fun s=>by rw[Ja];exact HY.out.2.2.2.2.1 s⟩,?_⟩
   ·rw[HW.out];have:=cell?_putRow encStr (Sort.ahead w2 q) g 0 zs.toArray (Lib.compact zs++List.replicate (zs.length-(Lib.compact zs).length) []).toArray (show Holds encStr (Sort.ahead w2 q) g 0 zs.toArray from HH.out.1) (by simp;omega) j (by simp;omega);rw[Nat.zero_add]at this;rw[this];simp[encStr,hj,List.getElem_append_left hj,List.getElem?_append_left hj]
   ·have g3 : w2.grownBy w3 (some g) := by
     rw[HW.out];have:=grownBy_sorted (w:=w2) (g:=g) (n:=q) (os:=#[]) (Lib.compact zs++List.replicate (zs.length-(Lib.compact zs).length) []).toArray;rw[grow_empty]at this;exact this
    have ga:=AN HY.out.2.2.2.2.2.2.2 HH.out.2 (.inr HY.out.2.1);have gb:=AN ga g3 (.inr HY.out.2.1);exact O HM.out.2 gb
theorem Hu(s:Bs)(w:World):Calls Tryz.prog 76 #[str s] w fun e w'=>e= .returned (.bool (opsL.contains s))∧w.grownBy w' none:=by
 generalize hb0:opsL.contains s=b;have HB:=I hb0;clear hb0;go_enter func76,ntmps76;go_wp2_with fail;refine(Hn _).mono ?_;rintro e w1 ⟨⟨g,cap,zs,rfl,hl,hc,hm⟩,g1⟩;have HC:=I (slices_Contains_string g 0 zs.length cap (zs.map fun z=>⟨z.toArray⟩) ⟨s.toArray⟩ w1 (by simp) (by omega) (fun j hj=>by
  have hj':j<zs.length:=by simpa using hj
  have:=hc j hj';rw[Nat.zero_add,this];simp[List.getD_eq_getElem?_getD,hj']))
 have hb:Lib.containsS ((zs.map fun z=>(⟨z.toArray⟩:ByteArray)).take zs.length) ⟨s.toArray⟩=opsL.contains s:=by
  rw[Bool.eq_iff_iff,containsS_iff,List.take_of_length_le (by simp),List.contains_iff_mem,←hm s,List.mem_map];constructor
  ·rintro⟨z,hz,e⟩;have:z=s:=by
    have:=congrArg (fun b:ByteArray=>b.data.toList) e;simpa using this
   exact this ▸ hz
  ·exact fun h=>⟨s,h,rfl⟩
 rw[hb,HB.out]at HC;clear hb hc hm;go_wp2_with fail;refine HC.out.mono ?_;rintro e w2 ⟨rfl,rfl⟩;go_wp2;go_ret;exact⟨rfl,g1⟩
theorem Fp(s:Bs)(w:World)(hs:s.length≤4000000):Calls Tryz.prog 75 #[str s] w fun e w'=>e= .returned (.bool (Ak s))∧w.grownBy w' none:=by
 go_enter func75,ntmps75;go_wp2_with fail;refine(Fh s w hs).mono ?_;rintro e w1 ⟨rfl,hb⟩;go_wp2;go_ret;exact⟨rfl,hb⟩
theorem FP(s:Bs)(w:World)(hs:s.length≤4000000):Calls Tryz.prog 129 #[str s] w fun e w'=>e= .returned (.bool (!Ak s))∧w.grownBy w' none:=by
 go_enter func129,ntmps129;go_wp2_with fail;refine(Fp s w hs).mono ?_;rintro e w1 ⟨rfl,hb⟩;go_wp2;go_ret;exact⟨rfl,hb⟩
theorem G8{α:Type}{p:α→Bool}{l:List α}{k:Nat}{d:α}(hk:k<l.length)(h:p (l.getD k d)=false):l.all p=false:=by
 rw[List.all_eq_false];refine⟨l.getD k d,?_,by intro e;rw[h]at e;cases e⟩;rw[List.getD_eq_getElem?_getD,List.getElem?_eq_getElem hk];exact List.getElem_mem hk
theorem G9{α:Type}{p:α→Bool}{l:List α}{d:α}(h:∀j,j<l.length→p (l.getD j d)=true):l.all p=true:=by
 rw[List.all_eq_true];intro x hx;obtain⟨j,hj,rfl⟩:=List.getElem_of_mem hx;have:=h j hj;rwa[List.getD_eq_getElem?_getD,List.getElem?_eq_getElem hj]at this
theorem Ht{w:World}{pa:Option Addr}{pc:Nat}{l:List Bs}{ok:Nat→Prop}(h1:Cells w (.slice pa l.length pc) 1 l.length (l.map str) ok)(hf:∀s∈l,s.length≤2000000):
 Calls Tryz.prog 172 #[.slice pa l.length pc,.func (.func 129) #[] #[]] w fun e w'=>(∃n:Int,e= .returned (.int .i64 n)∧decide (0≤n)= !l.all Ak)∧w.grownBy w' none:=by
 have hc1:=h1.at1.2;have hl:l.length≤maxLen:=by obtain⟨_,_,e,h3,h4,_⟩:=h1;omega
 unfold maxLen at hl;clear h1;have HF:=I hf;have HC:=I hc1;clear hc1 hf;go_enter func172,ntmps172;go_wp2_with fail;go_loopg [8] l.length (fun g v8 wr=>∃k:Nat,k+g=l.length∧v8= .int .i64 k∧(∀j,j<k→Ak (l.getD j [])=true)∧w.grownBy wr none)
 case atStart=>exact⟨0,by omega,rfl,fun j hj=>by omega,Ac _ _⟩
 case round=>
  obtain⟨k,hg,rfl,hp,hgr⟩:=hrel;by_cases hk:k<l.length
  ·obtain⟨g1,o1,rfl,c1⟩:=HC.out k hk;have d1:=Ab hgr c1;have hkI:decide (k<l.length)=true:=by simpa using hk
   have hmem:l.getD k []∈l:=by
    rw[List.getD_eq_getElem?_getD,List.getElem?_eq_getElem hk];exact List.getElem_mem hk
   have HL:=I (HF.out _ hmem);have HP:=I hp;have HG:=I hgr;clear hp hgr c1 hmem;generalize hs1:l.getD k []=s at*;cases hb:Ak s with
   | true=>
     have HN:=I (X hb hs1);clear hb hs1;go_wp2_with fail;refine(FP s _ (by have:=HL.out;omega)).mono ?_;rintro e w1 ⟨rfl,g1⟩;rw[HN.out.1];go_wp2;go_roundg (l.length-(k+1))
     case measure=>omega
     case rel=>exact⟨k+1,by omega,by go_num,fun j hj=>by rcases Nat.lt_succ_iff_lt_or_eq.1 hj with h|rfl;exact HP.out j h;rw[HN.out.2];exact HN.out.1,O HG.out (O (by repeat(first| (with_reducible exact Ac _ _)| (with_reducible assumption)| (with_reducible exact AW (by assumption))| (with_reducible refine Aa ?_ _)| (with_reducible refine Aj ?_)| (with_reducible refine AH ?_ _)| ((with_reducible refine Ax ?_ _ _ ?h2);case h2=>first|exact .inl rfl|exact .inr (Nat.le_refl _)|exact .inr (by simp<;>omega))| (with_reducible refine Ae ?_ (by assumption))| (with_reducible refine O ?_ (by assumption)))) g1)⟩
   | false=>
     have HN:=I (X hb (G8 (p:=Ak) (l:=l) (d:=[]) hk (by rw[hs1];exact hb)));clear hb hs1;go_wp2_with fail;refine(FP s _ (by have:=HL.out;omega)).mono ?_;rintro e w1 ⟨rfl,g1⟩;rw[HN.out.1];go_wp2;go_ret;exact⟨⟨_,rfl,by rw[HN.out.2];simp⟩,O HG.out (O (by repeat(first| (with_reducible exact Ac _ _)| (with_reducible assumption)| (with_reducible exact AW (by assumption))| (with_reducible refine Aa ?_ _)| (with_reducible refine Aj ?_)| (with_reducible refine AH ?_ _)| ((with_reducible refine Ax ?_ _ _ ?h2);case h2=>first|exact .inl rfl|exact .inr (Nat.le_refl _)|exact .inr (by simp<;>omega))| (with_reducible refine Ae ?_ (by assumption))| (with_reducible refine O ?_ (by assumption)))) g1)⟩
  ·have hkI:decide (k<l.length)=false:=by simpa using hk
   have HE:=I (G9 (p:=Ak) (l:=l) (d:=[]) (fun j hj=>hp j (by omega)));have HG:=I hgr;clear hp hgr;go_wp2;go_ret;exact⟨⟨_,rfl,by rw[HE.out];simp⟩,HG.out⟩
theorem GX{w:World}{pa:Option Addr}{pc:Nat}{l:List Bs}{ok:Nat→Prop}(h1:Cells w (.slice pa l.length pc) 1 l.length (l.map str) ok)(hf:∀s∈l,s.length≤2000000):
 Calls Tryz.prog 128 #[.slice pa l.length pc,.func (.func 129) #[] #[]] w fun e w'=>e= .returned (.bool (!l.all Ak))∧w.grownBy w' none:=by
 have H:=I (Ht h1 hf);clear h1 hf;go_enter func128,ntmps128;go_wp2_with fail;refine H.out.mono ?_;rintro e w1 ⟨⟨n,rfl,hn⟩,hb⟩;have HN:=I hn;clear hn;go_wp2;go_ret;exact⟨by rw[←HN.out];rfl,hb⟩
theorem Iq{w:World}{pa:Option Addr}{pc:Nat}{l:List Bs}{ok:Nat→Prop}(h1:Cells w (.slice pa l.length pc) 1 l.length (l.map str) ok)(hf:∀s∈l,s.length≤2000000):
 Calls Tryz.prog 77 #[.slice pa l.length pc] w fun e w'=>e= .returned (.bool (l.all Ak))∧w.grownBy w' none:=by
 have H:=I (GX h1 hf);clear h1 hf;go_enter func77,ntmps77;go_wp2_with fail;refine H.out.mono ?_;rintro e w1 ⟨rfl,hb⟩;go_wp2;go_ret;exact⟨rfl,hb⟩
def Cv(y:Int):Bool:=(y.tmod 4==0)&&((y.tmod 100 !=0)||(y.tmod 400==0))
def AE(y m:Int):Int:=if m==2&&Cv y then 29 else([31,28,31,30,31,30,31,31,30,31,30,31]:List Int).getD (m-1).toNat 0
def Am(y:Int):Int:=365*(y-1)+(y-1).tdiv 4-(y-1).tdiv 100+(y-1).tdiv 400
theorem J3(y:Int)(h0:0≤y)(h1:y≤100000)(w:World):Calls Tryz.prog 265 #[.int .i64 y] w fun e w'=>e= .returned (.bool (Cv y))∧w'=w:=by
 have b4:=Int.tmod_lt_of_pos y (b:=4) (by decide);have b100:=Int.tmod_lt_of_pos y (b:=100) (by decide);have b400:=Int.tmod_lt_of_pos y (b:=400) (by decide);have c4:=Int.tmod_nonneg (a:=y) 4 h0;have c100:=Int.tmod_nonneg (a:=y) 100 h0;have c400:=Int.tmod_nonneg (a:=y) 400 h0;unfold Cv;generalize e4:y.tmod 4=a at*;generalize e100:y.tmod 100=b at*;generalize e400:y.tmod 400=c at*;by_cases h4:a=0
 ·by_cases h100:b=0
  ·go_enter func265,ntmps265;go_wp2;go_ret;exact⟨by simp[h4,h100],rfl⟩
  ·go_enter func265,ntmps265;go_wp2;go_ret;exact⟨by simp[h4,h100],rfl⟩
 ·go_enter func265,ntmps265;go_wp2;go_ret;exact⟨by simp[h4],rfl⟩
theorem Ev(y:Int)(h0:0≤y)(h1:y≤100000)(w:World):Calls Tryz.prog 229 #[.int .i64 y] w fun e w'=>e= .returned (.int .i64 (Am y))∧w'=w:=by
 have hb4: -100000≤(y-1).tdiv 4∧(y-1).tdiv 4≤100000:=by
  rcases Int.lt_or_le y 1 with h|h
  ·have:y=0:=by omega
   subst this;decide
  ·rw[Int.tdiv_eq_ediv_of_nonneg (by omega)];omega
 have hb100: -100000≤(y-1).tdiv 100∧(y-1).tdiv 100≤100000:=by
  rcases Int.lt_or_le y 1 with h|h
  ·have:y=0:=by omega
   subst this;decide
  ·rw[Int.tdiv_eq_ediv_of_nonneg (by omega)];omega
 have hb400: -100000≤(y-1).tdiv 400∧(y-1).tdiv 400≤100000:=by
  rcases Int.lt_or_le y 1 with h|h
  ·have:y=0:=by omega
   subst this;decide
  ·rw[Int.tdiv_eq_ediv_of_nonneg (by omega)];omega
 unfold Am;generalize e4:(y-1).tdiv 4=a at*;generalize e100:(y-1).tdiv 100=b at*;generalize e400:(y-1).tdiv 400=c at*;go_enter func229,ntmps229;go_wp2;go_ret;exact⟨rfl,rfl⟩
theorem DM(y m:Int)(h0:0≤y)(h1:y≤100000)(hm0:1≤m)(hm1:m≤12)(w:World):Calls Tryz.prog 230 #[.int .i64 y,.int .i64 m] w fun e w'=>e= .returned (.int .i64 (AE y m))∧w.grownBy w' none:=by
 have hm:m=1∨m=2∨m=3∨m=4∨m=5∨m=6∨m=7∨m=8∨m=9∨m=10∨m=11∨m=12:=by omega
 rcases hm with rfl|rfl|rfl|rfl|rfl|rfl|rfl|rfl|rfl|rfl|rfl|rfl
 case inr.inl=>
  go_enter func230,ntmps230;go_wp2_with fail;refine(J3 y h0 h1 _).mono ?_;rintro e w1 ⟨rfl,rfl⟩;cases hl:Cv y with
  | true=>
    go_wp2;go_ret;exact⟨by simp[AE,hl],(by repeat(first| (with_reducible exact Ac _ _)| (with_reducible assumption)| (with_reducible exact AW (by assumption))| (with_reducible refine Aa ?_ _)| (with_reducible refine Aj ?_)| (with_reducible refine AH ?_ _)| ((with_reducible refine Ax ?_ _ _ ?h2);case h2=>first|exact .inl rfl|exact .inr (Nat.le_refl _)|exact .inr (by simp<;>omega))| (with_reducible refine Ae ?_ (by assumption))| (with_reducible refine O ?_ (by assumption))))⟩
  | false=>
    go_wp2;go_ret;exact⟨by simp[AE,hl],(by repeat(first| (with_reducible exact Ac _ _)| (with_reducible assumption)| (with_reducible exact AW (by assumption))| (with_reducible refine Aa ?_ _)| (with_reducible refine Aj ?_)| (with_reducible refine AH ?_ _)| ((with_reducible refine Ax ?_ _ _ ?h2);case h2=>first|exact .inl rfl|exact .inr (Nat.le_refl _)|exact .inr (by simp<;>omega))| (with_reducible refine Ae ?_ (by assumption))| (with_reducible refine O ?_ (by assumption))))⟩
 all_goals
  go_enter func230,ntmps230;go_wp2;go_ret;exact⟨rfl,(by repeat(first| (with_reducible exact Ac _ _)| (with_reducible assumption)| (with_reducible exact AW (by assumption))| (with_reducible refine Aa ?_ _)| (with_reducible refine Aj ?_)| (with_reducible refine AH ?_ _)| ((with_reducible refine Ax ?_ _ _ ?h2);case h2=>first|exact .inl rfl|exact .inr (Nat.le_refl _)|exact .inr (by simp<;>omega))| (with_reducible refine Ae ?_ (by assumption))| (with_reducible refine O ?_ (by assumption))))⟩
theorem E6(y m:Int)(hm0:1≤m)(hm1:m≤12):0≤AE y m∧AE y m≤31:=by
 have hm:m=1∨m=2∨m=3∨m=4∨m=5∨m=6∨m=7∨m=8∨m=9∨m=10∨m=11∨m=12:=by omega
 unfold AE;rcases hm with rfl|rfl|rfl|rfl|rfl|rfl|rfl|rfl|rfl|rfl|rfl|rfl<;>(try split)<;>decide
def Al(y:Int):Nat→Int
 | 0=>0
 |k+1=>Al y k+AE y (k+1)
theorem FC(y:Int):∀k:Nat,k≤12→0≤Al y k∧Al y k≤31*k:=by
 intro k;induction k with
 |zero=>intro _;simp[Al]
 | succ k ih=>
   intro hk;have h1:=ih (by omega);have h2:=E6 y (k+1) (by omega) (by omega);unfold Al;omega
def CD(y m d:Int):Bool:=decide (y<1)||decide (9999<y)||decide (m<1)||decide (12<m)||decide (d<1)||decide (AE y m<d)
def Bk(y m d:Int):Int×Int:=if CD y m d then(0,1)else(Am y+d+Al y (m-1).toNat,0)
theorem KB:Am 10000=3652059:=by decide
theorem IS{n:Int}(h0:0<n)(h1:n≤3652059):1≤n.tdiv 366+1∧n.tdiv 366+1≤9999∧Am (n.tdiv 366+1)<n:=by
 rw[Int.tdiv_eq_ediv_of_nonneg (by omega)];refine⟨by omega,by omega,?_⟩;unfold Am;rw[show n/366+1-1=n/366 by omega,Int.tdiv_eq_ediv_of_nonneg (by omega),Int.tdiv_eq_ediv_of_nonneg (by omega),Int.tdiv_eq_ediv_of_nonneg (by omega)];omega
theorem Gq(n:Int)(h0:0<n)(h1:n≤3652059)(w:World):Calls Tryz.prog 147 #[.int .i64 n] w fun e w'=>e= .returned (.bool true)∧w'=w:=by
 go_enter func147,ntmps147;go_wp2;go_ret;exact⟨rfl,rfl⟩
theorem Gg{y:Int}(h0:1≤y)(h1:y≤10000):0≤Am y∧Am y≤3652059:=by
 unfold Am;rw[Int.tdiv_eq_ediv_of_nonneg (by omega),Int.tdiv_eq_ediv_of_nonneg (by omega),Int.tdiv_eq_ediv_of_nonneg (by omega)];omega
theorem FU{y m:Int}(h0:1≤m)(h1:m≤12):28≤AE y m∧AE y m≤31:=by
 unfold AE;split
 ·omega
 ·have h:∀k:Nat,k<12→28≤([31,28,31,30,31,30,31,31,30,31,30,31]:List Int).getD k 0∧([31,28,31,30,31,30,31,31,30,31,30,31]:List Int).getD k 0≤31:=by decide
  exact h _ (by omega)
theorem IU(y:Int)(m:Nat)(h:1≤m):Al y m=Al y (m-1)+AE y m:=by
 obtain⟨k,rfl⟩:∃k,m=k+1:=⟨m-1,by omega⟩;rfl
theorem KZ{y n:Int}(h0:1≤y)(h:n≤Am (y+1)):n-Am y≤Al y 12:=by
 have e:Am (y+1)=Am y+Al y 12:=by
  have hl:Al y 12=if Cv y then 366 else 365:=by
   simp only[Al,AE];cases Cv y<;>rfl
  rw[hl];unfold Am Cv;rw[show y+1-1=y by omega];have e1:∀b:Int,0<b→y.tdiv b=y/b:=fun b hb=>Int.tdiv_eq_ediv_of_nonneg (by omega);have e2:∀b:Int,0<b→(y-1).tdiv b=(y-1)/b:=fun b hb=>Int.tdiv_eq_ediv_of_nonneg (by omega);have e3:∀b:Int,0<b→y.tmod b=y%b:=fun b hb=>Int.tmod_eq_emod_of_nonneg (by omega);rw[e1 4 (by omega),e1 100 (by omega),e1 400 (by omega),e2 4 (by omega),e2 100 (by omega),e2 400 (by omega),e3 4 (by omega),e3 100 (by omega),e3 400 (by omega)];simp only[Bool.and_eq_true,Bool.or_eq_true,beq_iff_eq,bne_iff_ne,ne_eq];split<;>omega
 omega
theorem KG(n:Int)(h0:0<n)(h1:n≤3652059)(w:World):Calls Tryz.prog 189 #[.int .i64 n] w fun e w'=>
 (∃y m q:Nat,e= .returned (.tuple #[.int .i64 y,.int .i64 m,.int .i64 q,.int .i64 0])∧1≤y∧y≤9999∧1≤m∧m≤12∧1≤q∧(q:Int)≤AE y m∧Am y+Al y (m-1)+q=n)∧w.grownBy w' none:=by
 obtain⟨a1,a2,a3⟩:=IS h0 h1;have hz:(n==0)=false:=by simp;omega
 rw[Int.tdiv_eq_ediv_of_nonneg (by omega)]at a1 a2 a3;have HA:=I (X a1 (X a2 a3));have HN:=I (X h0 h1);clear a3;go_enter func189,ntmps189;go_wp2_with fail;refine(Gq n h0 h1 _).mono ?_;rintro e w1 ⟨rfl,rfl⟩;go_wp2_with fail;go_loopg [6] 10000 (fun g v6 wr=>∃y:Int,v6= .int .i64 y∧1≤y∧y≤9999∧10000≤y+g∧Am y<n∧wr=w1)
 case atStart=>exact⟨_,rfl,HA.out.1,HA.out.2.1,by have:=HA.out.1;omega,HA.out.2.2,rfl⟩
 case round=>
  obtain⟨y,rfl,b1,b2,b3,b4,rfl⟩:=hrel;clear a1 a2;have hy1:=Gg (y:=y+1) (by omega) (by omega);have hy0:=Gg (y:=y) (by omega) (by omega);have HY:=I (Ev (y+1) (by omega) (by omega) wr);have HY0:=I (Ev y (by omega) (by omega) wr);by_cases hc:Am (y+1)<n
  ·have hcI:decide (Am (y+1)<n)=true:=by simpa using hc
   have hy9:y+1≤9999:=by
    rcases Int.lt_or_le 9998 y with h|h
    ·obtain rfl:y=9999:=by omega
     have:=KB;rw[show(9999:Int)+1=10000 from rfl]at hc;omega
    ·omega
   have HC:=I hc;clear hc b4;generalize hz1:Am (y+1)=z at*;have HZ:=I hz1;clear hz1;go_wp2_with fail;refine HY.out.mono ?_;rintro e w2 ⟨rfl,rfl⟩;go_wp2;go_roundg (gk-1)
   case measure=>omega
   case rel=>exact⟨y+1,by go_num,by omega,hy9,by omega,by rw[HZ.out];exact HC.out,rfl⟩
  ·have hcI:decide (Am (y+1)<n)=false:=by simpa using hc
   have hd:=KZ b1 (Int.not_lt.1 hc);have HD:=I (X hd b4);generalize hz1:Am (y+1)=z at*;generalize hz0:Am y=z0 at*;clear hc hd hz1;go_wp2_with fail;refine HY.out.mono ?_;rintro e w2 ⟨rfl,rfl⟩;go_wp2_with fail;refine HY0.out.mono ?_;rintro e w2 ⟨rfl,rfl⟩;go_wp2_with fail;go_loopg [7,8] 13 (fun g v7 v8 wr=>∃m:Nat,v7= .int .i64 (n-z0-Al y (m-1))∧v8= .int .i64 m∧1≤m∧m≤12∧13≤m+g∧0<n-z0-Al y (m-1)∧w2.grownBy wr none)
   case atStart=>exact⟨1,by simp[Al],rfl,by omega,by omega,by omega,by simp[Al];omega,Ac _ _⟩
   case round=>
    obtain⟨m,rfl,rfl,c1,c2,c3,c4,gr⟩:=hrel;have hm:=FU (y:=y) (m:=m) (by omega) (by omega);have hbf:=FC y (m-1) (by omega);have HM:=I (fun W=>DM y m (by omega) (by omega) (by omega) (by omega) W);have hnx:=IU y m c1;have h12:m=12→n-z0-Al y (m-1)≤AE y m:=by
     rintro rfl;have:=HD.out.1;omega
    have hyz:0≤z0∧z0≤3652059:=hy0;by_cases hc:AE y m<n-z0-Al y (m-1)
    ·have hcI:decide (AE y m<n-z0-Al y (m-1))=true:=by simpa using hc
     have hm12:m≤11:=by
      rcases Nat.lt_or_ge 11 m with h|h
      ·have:=h12 (by omega);omega
      ·exact h
     have HX:=I (show n-z0-Al y (m-1)-AE y m=n-z0-Al y (m+1-1)by rw[Nat.add_sub_cancel,hnx];omega);have HC:=I (show 0<n-z0-Al y (m+1-1)by rw[←HX.out];omega);clear hnx h12 hc;generalize hd:n-z0-Al y (m-1)=d at*;generalize hmm:AE y m=mm at*;have hdb:d≤3652059:=by omega
     clear hd hmm;go_wp2_with fail;refine(HM.out _).mono ?_;rintro e w3 ⟨rfl,g3⟩;go_wp2_with fail;refine(HM.out _).mono ?_;rintro e w4 ⟨rfl,g4⟩;go_wp2;go_roundg (gk-1)
     case measure=>omega
     case rel=>exact⟨m+1,by rw[←HX.out],by go_num,by omega,by omega,by omega,HC.out,O (O gr g3) g4⟩
    ·have hcI:decide (AE y m<n-z0-Al y (m-1))=false:=by simpa using hc
     have HX:=I (show(∃y' m' q':Nat,((y:Int),(m:Int),n-z0-Al y (m-1))=((y':Int),(m':Int),(q':Int))∧1≤y'∧y'≤9999∧1≤m'∧m'≤12∧1≤q'∧(q':Int)≤AE y' m'∧Am y'+Al y' (m'-1)+q'=n)by
      obtain⟨y',rfl⟩:∃y':Nat,y=y':=⟨y.toNat,by omega⟩;obtain⟨q',hq'⟩:∃q':Nat,n-z0-Al y' (m-1)=q':=⟨(n-z0-Al y' (m-1)).toNat,by omega⟩;exact⟨y',m,q',by rw[hq'],by omega,by omega,c1,c2,by omega,by omega,by rw[hz0];omega⟩)
     clear hnx h12 hc;generalize hd:n-z0-Al y (m-1)=d at*;generalize hmm:AE y m=mm at*;have hdb:d≤3652059:=by omega
     clear hd hmm;go_wp2_with fail;refine(HM.out _).mono ?_;rintro e w3 ⟨rfl,g3⟩;go_wp2;obtain⟨y',m',q',e,hh⟩:=HX.out;simp only[Prod.mk.injEq]at e;refine bodyPost_ret (v:= .tuple #[.int .i64 y,.int .i64 m,.int .i64 d,.int .i64 0]) (by simp[results,results189,go_sem]) rfl ⟨⟨y',m',q',by rw[←e.1,←e.2.1,←e.2.2],hh⟩,O gr g3⟩
theorem Gl:∀k:Nat,k<10→(⟨#[48,49,50,51,52,53,54,55,56,57]⟩:ByteArray).extract k (k+1)=⟨#[UInt8.ofNat (48+k)]⟩:=by
 intro k hk;match k,hk with
 | 0,_ | 1,_ | 2,_ | 3,_ | 4,_ | 5,_ | 6,_ | 7,_ | 8,_ | 9,_=>rfl
theorem EP(x y:Bs):Value.string (⟨x.toArray⟩++⟨y.toArray⟩)=str (x++y):=by rw[ByteArray.mk_append_mk]
theorem Hv{u:Nat}(h:u≤1000000):nDigits u≤7:=by
 by_cases h0:u<10
 ·rw[nDigits_small h0];omega
 rw[nDigits_big h0];by_cases h1:u/10<10
 ·rw[nDigits_small h1];omega
 rw[nDigits_big h1];by_cases h2:u/10/10<10
 ·rw[nDigits_small h2];omega
 rw[nDigits_big h2];by_cases h3:u/10/10/10<10
 ·rw[nDigits_small h3];omega
 rw[nDigits_big h3];by_cases h4:u/10/10/10/10<10
 ·rw[nDigits_small h4];omega
 rw[nDigits_big h4];by_cases h5:u/10/10/10/10/10<10
 ·rw[nDigits_small h5];omega
 rw[nDigits_big h5,nDigits_small (by omega)];omega
theorem Jc:∀(N u:Nat),u<N→u≤1000000→∀(w:World),Calls Tryz.prog 231 #[.int .i64 u] w fun e w'=>e= .returned (str (decDigits u))∧w.grownBy w' none:=by
 intro N;induction N with
 |zero=>intro u h;omega
 | succ N ih=>
   intro u hN hu w;have hneg:decide ((u:Int)<0)=false:=by simp
   by_cases h:u<10
   ·have hI:decide ((u:Int)<10)=true:=by simp;omega
    have HD:=I (show decDigits u=[UInt8.ofNat (48+u)]by rw[decDigits];exact if_pos h);have HC:=I (Gl u h);clear ih;go_enter func231,ntmps231;go_wp2;go_ret;refine⟨?_,Ac _ _⟩;rw[HD.out];exact congrArg (fun b=>Ending.returned (Value.string b)) HC.out
   ·have hI:decide ((u:Int)<10)=false:=by simp;omega
    have HD:=I (show decDigits u=decDigits (u/10)++[UInt8.ofNat (48+u%10)]by rw[decDigits];exact if_neg h);have HC:=I (Gl (u%10) (by omega));have H:=I (fun W=>ih (u/10) (by omega) (by omega) W);have e1:(u:Int)/10=((u/10:Nat):Int):=by omega
    have e2:(u:Int)%10=((u%10:Nat):Int):=by omega
    have e3:(u:Int).tdiv 10=((u/10:Nat):Int):=by rw[Int.tdiv_eq_ediv_of_nonneg (by omega)];omega
    have e4:(u:Int).tmod 10=((u%10:Nat):Int):=by rw[Int.tmod_eq_emod_of_nonneg (by omega)];omega
    have h10:u%10<10:=by omega
    have hq0:u/10≤1000000:=by omega
    generalize u/10=q at*;generalize u%10=r at*;have r0:(0:Int)≤(r:Int):=by omega
    have r1:(r:Int)≤(r:Int)+1:=by omega
    have r2:(r:Int)+1≤10:=by omega
    have w1:IntKind.i64.wrap (q:Int)=q:=IntWalk.i64_in _ (by omega);have w2:IntKind.i64.wrap ((r:Int)+1)=(r:Int)+1:=IntWalk.i64_in _ (by omega);clear ih h;go_enter func231,ntmps231;go_wp2_with fail;have hl:(decDigits q).length≤7:=by rw[decDigits_length];exact Hv hq0
    generalize decDigits q=ds at*;have HC':=HC.out;have hcl:¬(9223372036854775807<ds.length+1):=by omega
    go_region_held3 (fun W=>w.grownBy W none) (first|exact Aj (Ac _ _)|exact O (Aj (Ac w none)) g5) (first| (go_at_call 231;refine(H.out _).mono ?_;rintro e w5 ⟨rfl,g5⟩));rename_i hH;have HG:=I hH;clear hH;go_wp2;go_ret;refine⟨?_,HG.out⟩;have e:UInt8.ofNat (48+r)=48+UInt8.ofNat r:=UInt8.ofNat_add 48 r;rw[HD.out,←EP,e];rfl
theorem IG(c:Nat):Lib.repeatL [48] c=List.replicate c (48:UInt8):=by
 induction c with
 |zero=>rfl
 |succ c ih=>rw[List.replicate_succ,←ih];rfl
theorem El(u k:Nat)(hu:u≤9999)(hl:(decDigits u).length≤k)(hk:k≤4)(w:World):Calls Tryz.prog 190 #[.int .i64 u,.int .i64 k] w fun e w'=>e= .returned (str (List.replicate (k-(decDigits u).length) 48++decDigits u))∧w.grownBy w' none:=by
 have H:=I (Jc (u+1) u (Nat.lt_succ_self _) (by omega) w);generalize decDigits u=ds at*;obtain⟨c,hc⟩:∃c,k=ds.length+c:=⟨k-ds.length,by omega⟩;subst hc;rw[Nat.add_sub_cancel_left];have e1:((ds.length+c:Nat):Int)-(ds.length:Int)=(c:Int):=by omega
 have e2:((ds.length:Int)+(c:Int))-(ds.length:Int)=(c:Int):=by omega
 have hz0:(List.replicate c (48:UInt8)).length=c:=List.length_replicate;have hz1:=IG c;generalize List.replicate c (48:UInt8)=z at*;have HZ:=I hz1;have hcl:¬(9223372036854775807<z.length+ds.length):=by omega
 clear hz1 hz0;go_enter func190,ntmps190;go_wp2_with fail;refine H.out.mono ?_;rintro e w1 ⟨rfl,g1⟩;go_wp2_with fail;refine(strings_Repeat ⟨[48].toArray⟩ c _ (by omega) (by simp[ByteArray.size];omega)).mono ?_;rintro e w2 ⟨rfl,hb⟩;rw[show(⟨[(48:UInt8)].toArray⟩:ByteArray).data.toList=[48]from rfl,HZ.out];have HG:=I (O g1 (gbB hb none));clear hb g1;go_wp2;go_ret;exact⟨by rw[←EP];rfl,HG.out⟩
def Di(c:Tok):Prop:=c.kind=4→c.text ∉ ([[40],[45,62],[46]]:List Bs)
theorem StopP.q{c:Tok}(h:StopP c):Di c:=fun k m=>h k (by simp[D4]at m ⊢;rcases m with h|h|h<;>simp[h])
theorem Cs{s:Bs}(h:s ∉ D4++EY):StopE (sg s):=fun _=>h
theorem LX{s:Bs}(h:s ∉ ([[40],[45,62],[46]]:List Bs)):Di (sg s):=fun _=>h
def EX(day:Bs→Int)(x:Ex)(t:List Tok):Prop:=
 ∀l n i,t.length+1<n→At l i t→StopE (Z l (i+t.length))→Ap l day n i= .ok x (i+t.length)
def ReadsU(day:Bs→Int)(x:Ex)(t:List Tok):Prop:=
 ∀l N n i,t.length+1≤N→t.length≤n→At l i t→Di (Z l (i+t.length))→
  ∃m,n≤m+t.length∧AQ l (Ap l day N) (AG l day (Ap l day N) N) n i=Br l (Ap l day N) m x (i+t.length)
theorem Fst.pos{L:List Bs}{t:List Tok}(h:Fst L t):0<t.length:=by
 obtain⟨c,r,rfl,_⟩:=h;simp
theorem Fst.sign{L:List Bs}{t:List Tok}(h:Fst L t){l:List Tok}{i:Nat}(ha:At l i t){s:Bs}(hs:s∈L):Ad (Z l i) s=false:=by
 obtain⟨c,r,rfl,hc⟩:=h;rw[ha.head];exact DB hc hs
theorem Fst.app{L:List Bs}{t:List Tok}(h:Fst L t)(r:List Tok):Fst L (t++r):=by
 obtain⟨c,q,rfl,hc⟩:=h;exact⟨c,q++r,rfl,hc⟩
theorem Fst.weak{t:List Tok}(h:Fst noO t):Fst noE t:=by
 obtain⟨c,q,rfl,hc⟩:=h;exact⟨c,q,rfl,fun k m=>hc k (by simp at m ⊢;rcases m with m|m<;>simp[m])⟩
structure Good(day:Bs→Int)(h:Hd)(k:Fo)(w:OW):Prop where
 ex:∃t s,w=some (t,s)∧Fst noE t∧EX day ⟨h,k⟩ t∧(h.op≠4∧h.op≠5→Fst noO t∧ReadsU day ⟨h,k⟩ t)
section
variable {day:Bs→Int}
theorem ReadsU.ok{x:Ex}{t:List Tok}(h:ReadsU day x t){l:List Tok}{N n i:Nat}(hN:t.length+1≤N)(hn:t.length<n)(ha:At l i t)(hs:StopP (Z l (i+t.length))):
 AQ l (Ap l day N) (AG l day (Ap l day N) N) n i= .ok x (i+t.length):=by
 obtain⟨m,hm,e⟩:=h l N n i hN (by omega) ha hs.q;obtain⟨m,rfl⟩:∃q,m=q+1:=⟨m-1,by omega⟩;rw[e];unfold Br;rw[if_neg (by rw[DB hs (by decide)];simp)]
theorem ReadsU.e{x:Ex}{t:List Tok}(h:ReadsU day x t)(hf:Fst noO t):EX day x t:=by
 intro l n i hn ha hs;obtain⟨n,rfl⟩:∃q,n=q+1:=⟨n-1,by omega⟩;rw[DR];have hp:=hf.pos;exact DY (a:=0) (b:=6) (by omega) (by omega) (by omega) (h.ok (by omega) (by omega) ha hs.p) (fun k _ hk=>Cy hk hs) ⟨hf.sign ha (by decide),hf.sign ha (by decide)⟩
theorem Es{x:Ex}{t:List Tok}(hf:Fst noO t)(h:∀l N i,t.length+1≤N→At l i t→Di (Z l (i+t.length))→AG l day (Ap l day N) N i= .ok x (i+t.length)):ReadsU day x t:=by
 intro l N n i hN hn ha hs;have hp:=hf.pos;obtain⟨n,rfl⟩:∃q,n=q+1:=⟨n-1,by omega⟩;refine⟨n,by omega,?_⟩;unfold AQ;rw[if_neg (by rw[hf.sign ha (by decide)];simp),h l N i hN ha hs,Res.bind_ok]
theorem Good.prim{h:Hd}{k:Fo}{t:List Tok}{s:Bs}(hf:Fst noO t)(hr:∀l N i,t.length+1≤N→At l i t→Di (Z l (i+t.length))→AG l day (Ap l day N) N i= .ok ⟨h,k⟩ (i+t.length)):Good day h k (some (t,s)):=
 ⟨t,s,rfl,hf.weak,(Es hf hr).e hf,fun _=>⟨hf,Es hf hr⟩⟩
theorem C7{l:List Tok}{E:Nat→Res Ex}{n i:Nat}{s:Bs}(h:Z l i=sg s):AG l day E n i=By l E n i:=by
 unfold AG;rw[h];rfl
theorem Ho{x:Ex}{t:List Tok}(h:EX day x t):ReadsU day x (sg [40]::(t++[sg [41]])):=by
 refine Es ⟨_,_,rfl,by simp[sg]⟩ ?_;intro l N i hN ha hs;simp only[List.length_cons,List.length_append,List.length_nil]at hN hs ⊢;have h2:Z l (i+1+t.length)=sg [41]:=ha.tail.right.head;rw[C7 ha.head];unfold By;rw[ha.head];simp only[AU];rw[if_neg (by decide),if_neg (by decide),if_neg (by decide),if_neg (by decide),if_pos (by decide)];rw[h l N (i+1) (by omega) ha.tail.left (by rw[h2];exact Cs (by decide)),Res.bind_ok];unfold A8;rw[h2,AU,if_pos (by decide),Res.bind_ok];congr 1;omega
theorem Good.opd{h:Hd}{k:Fo}{w:OW}(g:Good day h k w):∃t s,Bo (h,w)=some (t,s)∧Fst noO t∧ReadsU day ⟨h,k⟩ t:=by
 obtain⟨t,s,rfl,hf,hr,hu⟩:=g.ex;unfold Bo;by_cases ho:h.op≠4∧h.op≠5
 ·rw[if_pos ho];exact⟨t,s,rfl,(hu ho).1,(hu ho).2⟩
 ·rw[if_neg ho];refine⟨sg [40]::(t++[sg [41]]),[40]++(s++[41]),?_,⟨_,_,rfl,by simp[sg]⟩,Ho hr⟩;simp[BU,Af,A9,sgn]
def CT(day:Bs→Int)(d:Wd):Fo→Prop
 | .nil=>True
 | .cons h k n=>Good day h k (A6 d h (Ai d k))∧CT day d n
theorem Np:∀f:Fo,f.app .nil=f:=by
 intro f;induction f with
 |nil=>rfl
 |cons h k n _ ih=>simp[Fo.app,ih]
theorem LS(f:Fo)(h:Hd)(k n:Fo):(f.snoc ⟨h,k⟩).app n=f.app (.cons h k n):=by
 induction f with
 |nil=>rfl
 | cons h' k' n' _ ih=>
   show Fo.cons h' k' ((n'.snoc ⟨h,k⟩).app n)=Fo.cons h' k' (n'.app (.cons h k n));rw[ih]
def GU(c:Tok):Prop:=StopE c∧Ad c [44]=false
theorem K0(d:Wd):∀f:Fo,CT day d f→∃t s,Cl ((Ai d f).map (·.2))=some (t,s)∧(t=[]∨∃r,t=sg [44]::r)∧
 ∀l N n acc i,t.length+1<N→t.length<n→At l i t→GU (Z l (i+t.length))→listLoop l (Ap l day N) n acc i= .ok (acc.app f) (i+t.length):=by
 intro f;induction f with
 | nil=>
   intro _;refine⟨[],[],rfl,.inl rfl,?_⟩;intro l N n acc i hN hn ha hs;obtain⟨n,rfl⟩:∃q,n=q+1:=⟨n-1,by simp at hn;omega⟩;unfold listLoop;have h2:Ad (Z l i) [44]=false:=hs.2;rw[if_neg (by rw[h2];simp),Np];rfl
 | cons h k n _ ih=>
   intro hg;obtain⟨t1,s1,e1,hf1,hr1,_⟩:=hg.1.ex;obtain⟨t2,s2,e2,hc2,hr2⟩:=ih hg.2;refine⟨sg [44]::(t1++t2),[44]++([32]++(s1++s2)),?_,.inr ⟨_,rfl⟩,?_⟩
   ·simp[Ai,Cl,e1,e2,Af,A9,sgn,AY]
   ·intro l N m acc i hN hn ha hs;simp only[List.length_cons,List.length_append]at hN hn hs ⊢;obtain⟨m,rfl⟩:∃q,m=q+1:=⟨m-1,by omega⟩;unfold listLoop;rw[ha.head,AU,if_pos (by decide)];have hst:StopE (Z l (i+1+t1.length)):=by
     rcases hc2 with rfl| ⟨r,rfl⟩
     ·have:=hs.1;simp only[List.length_nil]at this;rwa[show i+1+t1.length=i+(t1.length+0+1)by omega]
     ·rw[ha.tail.right.head];exact Cs (by decide)
    rw[hr1 l N (i+1) (by omega) ha.tail.left hst,Res.bind_ok];rw[hr2 l N m (acc.snoc ⟨h,k⟩) (i+1+t1.length) (by omega) (by omega) ha.tail.right (by rwa[show i+1+t1.length+t2.length=i+(t1.length+t2.length+1)by omega])];rw[LS];congr 1;omega
theorem FM(d:Wd){h:Hd}{k n:Fo}(hg:CT day d (.cons h k n)):∃t s,Bi ((Ai d (.cons h k n)).map (·.2))=some (t,s)∧Fst noE t∧
 ∀l N m i,t.length+1<N→t.length<m→At l i t→GU (Z l (i+t.length))→BN l (Ap l day N) m i= .ok (.cons h k n) (i+t.length):=by
 obtain⟨t1,s1,e1,hf1,hr1,_⟩:=hg.1.ex;obtain⟨t2,s2,e2,hc2,hr2⟩:=K0 d n hg.2;refine⟨t1++t2,s1++s2,?_,hf1.app _,?_⟩
 ·simp only[Ai,List.map_cons,Bi,e1,e2,A9,Option.bind_some,Option.map_some]
 ·intro l N m i hN hm ha hs;rw[List.length_append]at hN hm hs ⊢;unfold BN;have hst:StopE (Z l (i+t1.length)):=by
   rcases hc2 with rfl| ⟨r,rfl⟩
   ·have:=hs.1;simpa using this
   ·rw[ha.right.head];exact Cs (by decide)
  rw[hr1 l N i (by omega) ha.left hst,Res.bind_ok];rw[hr2 l N m (.one ⟨h,k⟩) (i+t1.length) (by omega) (by omega) ha.right (by rwa[show i+t1.length+t2.length=i+(t1.length+t2.length)by omega])];show Res.ok (Fo.cons h k n) _=_;congr 1;omega
theorem Cp{l:List Tok}{i:Nat}{s:Bs}(h:Z l i=wd s)(hs:Ak s=true):AM l i= .ok s (i+1):=by
 unfold AM;rw[h];simp[wd,hs]
theorem JH:∀p:List Bs,p.all Ak=true→∃t s,Cl (p.map nmW)=some (t,s)∧(t=[]∨∃r,t=sg [44]::r)∧
 ∀l n acc i,t.length<n→At l i t→Ad (Z l (i+t.length)) [44]=false→namesLoop l n acc i= .ok (acc++p) (i+t.length):=by
 intro p;induction p with
 | nil=>
   intro _;refine⟨[],[],rfl,.inl rfl,?_⟩;intro l n acc i hn ha hs;obtain⟨n,rfl⟩:∃q,n=q+1:=⟨n-1,by simp at hn;omega⟩;unfold namesLoop;have h2:Ad (Z l i) [44]=false:=hs;rw[if_neg (by rw[h2];simp),List.append_nil];rfl
 | cons a p ih=>
   intro hp;rw[List.all_cons,Bool.and_eq_true]at hp;obtain⟨t2,s2,e2,hc2,hr2⟩:=ih hp.2;refine⟨sg [44]::wd a::t2,[44]++([32]++(a++s2)),?_,.inr ⟨_,rfl⟩,?_⟩
   ·simp[Cl,nmW,hp.1,e2,Af,A9,sgn,AY]
   ·intro l n acc i hn ha hs;simp only[List.length_cons]at hn hs ⊢;obtain⟨n,rfl⟩:∃q,n=q+1:=⟨n-1,by omega⟩;unfold namesLoop;rw[ha.head,AU,if_pos (by decide),Cp ha.tail.head hp.1,Res.bind_ok];rw[hr2 l n (acc++[a]) (i+1+1) (by omega) ha.tail.tail (by rwa[show i+1+1+t2.length=i+(t2.length+1+1)by omega])];simp;omega
theorem I9{a:Bs}{p:List Bs}(hp:(a::p).all Ak=true):∃t s,Bi ((a::p).map nmW)=some (wd a::t,s)∧
 ∀l n i,t.length+1<n→At l i (wd a::t)→Ad (Z l (i+(wd a::t).length)) [44]=false→B7 l n i= .ok (a::p) (i+(wd a::t).length):=by
 rw[List.all_cons,Bool.and_eq_true]at hp;obtain⟨t2,s2,e2,hc2,hr2⟩:=JH p hp.2;refine⟨t2,a++s2,?_,?_⟩
 ·simp[Bi,nmW,hp.1,e2,A9]
 ·intro l n i hn ha hs;simp only[List.length_cons]at hs ⊢;unfold B7;rw[Cp ha.head hp.1,Res.bind_ok,hr2 l n [a] (i+1) (by omega) ha.tail (by rwa[show i+1+t2.length=i+(t2.length+1)by omega])];simp;omega
end
end Go.Proofs.YtgjdhajcnechdaaGreatDoor
