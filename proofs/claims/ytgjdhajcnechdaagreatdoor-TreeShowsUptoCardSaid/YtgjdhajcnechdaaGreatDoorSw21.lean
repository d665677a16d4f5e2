/-
  The reference: digits, letters, days. Operators: what the library's sort and Compact leave of what was collected. The reference's reader: expr, and. The reference's reader: sum, prod.
-/
import Derived.Test.YtgjdhajcnechdaaGreatDoorSw16
import Derived.Test.YtgjdhajcnechdaaGreatDoorSw08
import Derived.Test.YtgjdhajcnechdaaGreatDoorSw17
import Derived.Sort.OwnSorted
import Derived.Lib.SlicesCompact
import Derived.Test.YtgjdhajcnechdaaGreatDoorSw19
set_option linter.all false
set_option maxRecDepth 100000
set_option maxHeartbeats 8000000
namespace Go.Proofs.YtgjdhajcnechdaaGreatDoor
open Go.Proofs.Tryz
open Go.RowKit
theorem Es(b:UInt8)(w:World):Calls Tryz.prog 217 #[.int .u8 b.toNat] w fun e w'=>e= .returned (.bool (cls 2 b))∧w=w':=by
 unfold cls;rcases EI b.toNat with⟨hc,h⟩| ⟨hc,h⟩| ⟨hc,h⟩| ⟨hc,h⟩| ⟨hc,h⟩
 all_goals rw[hc]
 ·rcases h with h|h
  all_goals
   rw[h];go_enter func217,ntmps217;go_wp2;go_ret;exact⟨by first|rfl| (simp;done)| (simp;omega),rfl⟩
 ·rcases h with h| ⟨h,h'⟩| ⟨h,h'⟩
  ·rw[h];go_enter func217,ntmps217;go_wp2;go_ret;exact⟨by first|rfl| (simp;done)| (simp;omega),rfl⟩
  all_goals
   go_enter func217,ntmps217;go_wp2;go_ret;exact⟨by first|rfl| (simp;done)| (simp;omega),rfl⟩
 ·obtain⟨h,h'⟩:=h;go_enter func217,ntmps217;go_wp2;go_ret;exact⟨by first|rfl| (simp;done)| (simp;omega),rfl⟩
 ·rcases h with h| ⟨h,h'⟩|h
  all_goals
   go_enter func217,ntmps217;go_wp2;go_ret;exact⟨by first|rfl| (simp;done)| (simp;omega),rfl⟩
 ·rcases h with h| ⟨h,h'⟩| ⟨h,h'⟩| ⟨h,h'⟩|h| ⟨h,h'⟩
  all_goals
   try rw[h]
   go_enter func217,ntmps217;go_wp2;go_ret;exact⟨by first|rfl| (simp;done)| (simp;omega),rfl⟩
theorem Ev(b:UInt8)(w:World):Calls Tryz.prog 216 #[.int .u8 b.toNat] w fun e w'=>e= .returned (.bool (cls 1 b))∧w=w':=by
 unfold cls;rcases EI b.toNat with⟨hc,h⟩| ⟨hc,h⟩| ⟨hc,h⟩| ⟨hc,h⟩| ⟨hc,h⟩
 all_goals rw[hc]
 ·rcases h with h|h
  all_goals
   rw[h];go_enter func216,ntmps216;go_wp2;go_ret;exact⟨by first|rfl| (simp;done)| (simp;omega),rfl⟩
 ·rcases h with h| ⟨h,h'⟩| ⟨h,h'⟩
  ·rw[h];go_enter func216,ntmps216;go_wp2;go_ret;exact⟨by first|rfl| (simp;done)| (simp;omega),rfl⟩
  all_goals
   go_enter func216,ntmps216;go_wp2;go_ret;exact⟨by first|rfl| (simp;done)| (simp;omega),rfl⟩
 ·obtain⟨h,h'⟩:=h;go_enter func216,ntmps216;go_wp2;go_ret;exact⟨by first|rfl| (simp;done)| (simp;omega),rfl⟩
 ·rcases h with h| ⟨h,h'⟩|h
  all_goals
   go_enter func216,ntmps216;go_wp2;go_ret;exact⟨by first|rfl| (simp;done)| (simp;omega),rfl⟩
 ·rcases h with h| ⟨h,h'⟩| ⟨h,h'⟩| ⟨h,h'⟩|h| ⟨h,h'⟩
  all_goals
   try rw[h]
   go_enter func216,ntmps216;go_wp2;go_ret;exact⟨by first|rfl| (simp;done)| (simp;omega),rfl⟩
theorem OF(y:Int)(h0:0≤y)(h1:y≤100000)(w:World):Calls Tryz.prog 282 #[.int .i64 y] w fun e w'=>e= .returned (.bool (Cw y))∧w'=w:=by
 have b4:=Int.tmod_lt_of_pos y (b:=4) (by decide);have b100:=Int.tmod_lt_of_pos y (b:=100) (by decide);have b400:=Int.tmod_lt_of_pos y (b:=400) (by decide);have c4:=Int.tmod_nonneg (a:=y) 4 h0;have c100:=Int.tmod_nonneg (a:=y) 100 h0;have c400:=Int.tmod_nonneg (a:=y) 400 h0;have hl:Cw y=((y.tmod 4==0)&&(y.tmod 100 !=0)||(y.tmod 400==0)):=by
  unfold Cw;by_cases h:y.tmod 400=0
  ·have h4 : y.tmod 4 = 0 := by
    have e:y=400*(y.tdiv 400)+y.tmod 400:=(Int.mul_tdiv_add_tmod y 400).symm;rw[h]at e;rw[e,Int.tmod_eq_emod_of_nonneg (by omega)];omega
   simp[h,h4]
  ·have hf:(y.tmod 400==0)=false:=by simpa using h
   rw[hf];simp
 rw[hl];generalize e4:y.tmod 4=a at*;generalize e100:y.tmod 100=b at*;generalize e400:y.tmod 400=c at*;clear hl;by_cases h4:a=0
 ·by_cases h100:b=0
  ·go_enter func282,ntmps282;go_wp2;go_ret;exact⟨by simp[h4,h100],rfl⟩
  ·go_enter func282,ntmps282;go_wp2;go_ret;exact⟨by simp[h4,h100],rfl⟩
 ·go_enter func282,ntmps282;go_wp2;go_ret;exact⟨by simp[h4],rfl⟩
theorem Gd(y m:Int)(h0:0≤y)(h1:y≤100000)(hm0:1≤m)(hm1:m≤12)(w:World):Calls Tryz.prog 249 #[.int .i64 y,.int .i64 m] w fun e w'=>e= .returned (.int .i64 (AK y m))∧w'=w:=by
 have hm:m=1∨m=2∨m=3∨m=4∨m=5∨m=6∨m=7∨m=8∨m=9∨m=10∨m=11∨m=12:=by omega
 rcases hm with rfl|rfl|rfl|rfl|rfl|rfl|rfl|rfl|rfl|rfl|rfl|rfl
 case inr.inl=>
  go_enter func249,ntmps249;go_wp2_with fail;refine(OF y h0 h1 _).mono ?_;rintro e w1 ⟨rfl,rfl⟩;cases hl:Cw y with
  | true=>
    go_wp2;go_ret;exact⟨by simp[AK,hl],rfl⟩
  | false=>
    go_wp2;go_ret;exact⟨by simp[AK,hl],rfl⟩
 all_goals
  go_enter func249,ntmps249;go_wp2;go_ret;exact⟨rfl,rfl⟩
theorem FH(y m d:Int)(hy0:0≤y)(hy1:y≤9999)(hm0:0≤m)(hm1:m≤99)(hd0:0≤d)(hd1:d≤99)(w:World):
 Calls Tryz.prog 215 #[.int .i64 y,.int .i64 m,.int .i64 d] w fun e w'=>e= .returned (.tuple #[.int .i64 (AM y m d).1,.int .i64 (AM y m d).2])∧w'=w:=by
 by_cases h1:y<1
 ·have hB:AM y m d=(0,1):=by simp[AM,Cm,h1]
  rw[hB];go_enter func215,ntmps215;go_wp2;exact bodyPost_ret (v:= .tuple #[_,_]) (by simp[results,results215,go_sem];try(congr 1;omega)) rfl ⟨rfl,rfl⟩
 by_cases h2:m<1
 ·have hB:AM y m d=(0,1):=by simp[AM,Cm,h2]
  rw[hB];go_enter func215,ntmps215;go_wp2;exact bodyPost_ret (v:= .tuple #[_,_]) (by simp[results,results215,go_sem];try(congr 1;omega)) rfl ⟨rfl,rfl⟩
 by_cases h3:12<m
 ·have hB:AM y m d=(0,1):=by simp[AM,Cm,h3]
  rw[hB];go_enter func215,ntmps215;go_wp2;exact bodyPost_ret (v:= .tuple #[_,_]) (by simp[results,results215,go_sem];try(congr 1;omega)) rfl ⟨rfl,rfl⟩
 by_cases h4:d<1
 ·have hB:AM y m d=(0,1):=by simp[AM,Cm,h4]
  rw[hB];go_enter func215,ntmps215;go_wp2;exact bodyPost_ret (v:= .tuple #[_,_]) (by simp[results,results215,go_sem];try(congr 1;omega)) rfl ⟨rfl,rfl⟩
 have hml:=ES y m (by omega) (by omega);by_cases h5:AK y m<d
 ·have hB:AM y m d=(0,1):=by simp[AM,Cm,h5]
  rw[hB];go_enter func215,ntmps215;go_wp2_with fail;refine(Gd y m (by omega) (by omega) (by omega) (by omega) _).mono ?_;rintro e w1 ⟨rfl,rfl⟩;go_wp2;exact bodyPost_ret (v:= .tuple #[_,_]) (by simp[results,results215,go_sem];try(congr 1;omega)) rfl ⟨rfl,rfl⟩
 have hB:AM y m d=(Ai y+d+Aj y (m-1).toNat,0):=by simp[AM,Cm,h1,h2,h3,h4,h5];omega
 rw[hB];clear hB;have b4:(y-1).tdiv 4=(y-1)/4:=Int.tdiv_eq_ediv_of_nonneg (by omega);have b100:(y-1).tdiv 100=(y-1)/100:=Int.tdiv_eq_ediv_of_nonneg (by omega);have b400:(y-1).tdiv 400=(y-1)/400:=Int.tdiv_eq_ediv_of_nonneg (by omega);have hY:Ai y=365*(y-1)+(y-1).tdiv 4-(y-1).tdiv 100+(y-1).tdiv 400:=rfl;have q4:0≤(y-1).tdiv 4∧(y-1).tdiv 4≤9999:=by omega
 have q100:0≤(y-1).tdiv 100∧(y-1).tdiv 100≤9999:=by omega
 have q400:0≤(y-1).tdiv 400∧(y-1).tdiv 400≤9999:=by omega
 rw[b4,b100,b400]at hY;have HY:=O hY;clear hY b4 b100 b400 q4 q100 q400;go_enter func215,ntmps215;go_wp2_with fail;refine(Gd y m (by omega) (by omega) (by omega) (by omega) _).mono ?_;rintro e w1 ⟨rfl,rfl⟩;go_wp2_with fail;generalize hM:(m-1).toNat=M at*;go_loopg [8,9] M (fun g v8 v9 wr=>∃k:Nat,k+g=M∧v8= .int .i64 (d+Aj y k)∧v9= .int .i64 (k+1)∧wr=w1)
 case atStart=>exact⟨0,by omega,by simp[Aj],rfl,rfl⟩
 case round=>
  obtain⟨k,hk,rfl,rfl,rfl⟩:=hrel;have hbl:=EL y k (by omega);cases gk with
  | zero=>
    have hkM:k=M:=by omega
    subst hkM;have HB:=O (show Aj y (m.toNat-1)=Aj y k by congr 1;omega);go_wp2;exact bodyPost_ret (v:= .tuple #[_,_]) (by simp[results,results215,go_sem];rw[HY.out,HB.out];omega) rfl ⟨rfl,rfl⟩
  | succ gk=>
    go_wp2_with fail;refine(Gd y (k+1) (by omega) (by omega) (by omega) (by omega) _).mono ?_;rintro e w3 ⟨rfl,rfl⟩;have hm2:=ES y (k+1) (by omega) (by omega);go_wp2_with fail;go_roundg gk
    case measure=>omega
    case rel=>exact⟨k+1,by omega,by simp[Aj];omega,by simp,rfl⟩
open Go.Sort Go.Lib
theorem Ml(zs:List Bs)(s:Bs):s∈Lib.compact zs↔s∈zs:=by
 unfold Lib.compact compactUpTo;simp only[List.mem_map,List.mem_filter,List.mem_range];have hg:∀j,j<zs.length→(zs.toArray[j]!: Bs)=zs.getD j []:=fun j hj=>by simp[hj]
 constructor
 ·rintro⟨j,⟨hj,_⟩,rfl⟩;rw[hg j hj,List.getD_eq_getElem?_getD,List.getElem?_eq_getElem hj];exact List.getElem_mem hj
 ·intro h;obtain⟨j,hj,hs⟩:=List.getElem_of_mem h;have:∀j,j<zs.length→zs.getD j []=s→∃a,(a<zs.length∧keeps zs.toArray a=true)∧zs.toArray[a]! =s:=by
   intro j;induction j with
   |zero=>intro hj hs;exact⟨0,⟨hj,by simp[keeps]⟩,by rw[hg 0 hj,hs]⟩
   | succ j ih=>
     intro hj hs;by_cases hk:keeps zs.toArray (j+1)=true
     ·exact⟨j+1,⟨hj,hk⟩,by rw[hg _ hj,hs]⟩
     ·refine ih (by omega) ?_;rw[←hs,←hg _ hj,←hg j (by omega)];unfold keeps at hk;rw[decide_eq_true_eq]at hk;exact(Classical.not_not.1 fun e=>hk (.inr e)).symm
  exact this j hj (by rw[List.getD_eq_getElem?_getD,List.getElem?_eq_getElem hj];exact hs)
theorem Iq(zs:List Bs):(Lib.compact zs).length≤zs.length:=by
 unfold Lib.compact compactUpTo;rw[List.length_map];exact Nat.le_trans (List.length_filter_le _ _) (by simp)
theorem KP(w:World):Calls Tryz.prog 127 #[] w fun e w'=>(∃(g cap:Nat)(zs:List Bs),e= .returned (.slice (some ⟨g,0,none⟩) zs.length cap)∧zs.length≤100∧(∀j,j<zs.length→w'.cell? ⟨g,j,none⟩=some (str (zs.getD j [])))∧∀s,s∈zs↔s∈opsL)∧w.grownBy w' none:=by
 go_enter func127,ntmps127;go_wp2_with fail;refine(Gu _).mono ?_;rintro e w1 ⟨m,rfl,hm,g1⟩;have HM:=O (Z hm g1);clear hm g1;go_wp2_with fail;go_loopg [1,7] 6 (fun g v1 v7 wr=>∃(k:Nat)(xs:List Bs),k+g=6∧v7= .int .i64 k∧wr.ownsRow w1.heap.size 9 1 v1 xs.length (xs.map str)∧Coll xs k (List.range (lvl k).length)∧xs.length≤10*k∧w1.grownBy wr none)
 case atStart=>exact⟨0,[],rfl,rfl,World.ownsRow_nil _ _ _ _,Coll.start,by simp,Ac _ _⟩
 case round=>
  obtain⟨k,xs,hg,rfl,hown,hcoll,hlen,gr⟩:=hrel;by_cases hk:k<6
  ·have hkI:decide ((k:Int)<6)=true:=by simp;omega
   have hix:=Kc m k hk;have hmk:=Dy gr (HM.out.1 k hk) (by simp);have hrg:=KH (P:=Tryz.prog) underlying187 hmk;have HX:=O (Z hown (Z hcoll (Z hlen (Z gr hmk))));clear hown hcoll hlen gr hmk;have HL:=O (show(lvl k).length≤10 by match k,hk with| 0,_ | 1,_ | 2,_ | 3,_ | 4,_ | 5,_=>decide);go_wp2_with fail;go_loopg [1] (lvl k).length (fun g v1 wq=>∃(xs:List Bs)(left:List Nat),left.length=g∧wq.ownsRow w1.heap.size 9 1 v1 xs.length (xs.map str)∧Coll xs k left∧xs.length+g≤10*k+10∧Iter wq wr.heap.size (m+k) (lvl k) left∧v1.ownBlock≠some wr.heap.size∧w1.grownBy wq none)
   case atStart=>
    refine⟨xs,List.range (lvl k).length,by simp,HX.out.1.alloc _,HX.out.2.1,by have:=HX.out.2.2.1;have:=HL.out;omega,Iter.start HX.out.2.2.2.2,?_,Ad HX.out.2.2.2.1 _⟩;intro e;have:=(HX.out.1.lt _ e).2;omega
   case round=>
    obtain⟨ys,left,hleft,hown,hcoll,hlen,hit,hne,gq⟩:=hrel;have hr0:=HX.out.2.2.2.1.size;have HY:=O (Z hown (Z hcoll (Z hlen (Z hne (Z gq hit)))));clear hown hcoll hlen hne gq hrg hix;subst hleft;go_wp2_with (at_next;refine K4 rfl _ rfl rfl hit ?_ ?_)
    ·intro hl;subst hl;clear hit;go_wp2;go_roundg (gk-1)
     case measure=>omega
     case rel=>exact⟨k+1,ys,by omega,by go_num,HY.out.1,HY.out.2.1.next,by have:=HY.out.2.2.1;simp only[List.length_nil]at this;omega,HY.out.2.2.2.2.1⟩
    ·intro i wp hi hit2 gp hen;have hil:i<(lvl k).length:=by
      obtain⟨_,_,_,_,h⟩:=hit;exact((h i).1 hi).1
     have hnd:left.Nodup:=by
      obtain⟨_,_,_,h,_⟩:=hit;exact h
     have hst:=HY.out.2.1.step hnd hi hil;have hle:=List.length_erase_of_mem hi;have hpos:0<left.length:=List.length_pos_of_mem hi;have hown2:=HY.out.1.kept gp (.inr HY.out.2.2.2.1);rw[List.getD_eq_getElem?_getD]at hst;generalize((lvl k)[i]?.getD ([],[])).1=s0 at*;generalize((lvl k)[i]?.getD ([],[])).2=s at*;have hown4:=hown2.alloc (.cells [str s].toArray 9 (0,0));have gq2:=A9 HY.out.2.2.2.2.1 gp (.inr hr0);have gA:=Ad gq2 (.cells [str s].toArray 9 (0,0));have hbs:=gA.size;obtain⟨i0,hi0,hz0,hz1,hz2⟩:=info_parts C0;have hnc:=BZ wp [str s] 9;have hl3:=HY.out.2.2.1;have hml:ys.length+1≤maxLen:=by unfold maxLen;omega
     have hyb:(ys.length+1)*16≤140737488355328:=by omega
     have HZ:=O (Z hi0 (Z hz0 (Z hz1 (Z hz2 (Z hnc (Z hml hown4))))));have HW:=O (Z hst (Z hle (Z hpos (Z gA (Z (hit2.gb (World.grownBy_alloc wp (.cells [str s].toArray 9 (0,0)) none) (by simp) (by simp)) gp.size)))));clear hi0 hz0 hz1 hz2 hnc hml hown4 hown2 hst hle hpos gA hit hit2 gq2 gp hi hil hnd hl3;go_wp2_with (at_builtin;obtain⟨hi0,hz0,hz1,hz2,hnc,hml,hown4⟩:=HZ.out;refine D7 rfl _ _ 24 rfl w1.heap.size 9 i0 (str []) 1 16 underlying24 hi0 hz0 hz1 hz2 rfl (by decide) _ _ _ rfl hown4 ⟨wp.heap.size,0,none⟩ 1 1 [str s] rfl rfl hnc (by simp[Value.oneCell']) hml hyb hbs ?_;intro v' w5 hown5 g5 hnb;clear hi0 hz0 hz1 hz2 hnc hml hown4);have HO5:=O (Z hown5 (Z g5 hnb));clear hown5 g5 hnb hen;go_roundg (left.erase i).length
     case measure=>have:=HW.out.2.1;have:=HW.out.2.2.1;omega
     case rel=>
      have hob:∀q,u1.ownBlock=some q→w1.heap.size≤q:=fun q hq=>(HY.out.1.lt q hq).1;have hmlt:m+k<w1.heap.size:=(Array.getElem?_eq_some_iff.1 (HM.out.1 k hk)).1;have g5':World.grownBy (wp.alloc _) w5 u1.ownBlock:=HO5.out.2.1;refine⟨ys++[s],left.erase i,rfl,by simpa using HO5.out.1,HW.out.1,by have:=HW.out.2.1;have:=HY.out.2.2.1;rw[List.length_append,List.length_singleton];have:=HW.out.2.2.1;omega,HW.out.2.2.2.2.1.gb g5' (fun e=>by have:=hob _ e.symm;omega) (fun e=>HY.out.2.2.2.1 e.symm),?_,?_⟩
      ·intro e;rcases HO5.out.2.2 _ e with h|h
       ·exact HY.out.2.2.2.1 h
       ·have h6:=HW.out.2.2.2.2.2;have h7:=HY.out.2.2.2.2.2;obtain⟨_,_,h8,_⟩:=h7;have h9:=(Array.getElem?_eq_some_iff.1 h8).1;simp at h;omega
      ·cases hv:u1.ownBlock with
       |none=>rw[hv]at g5';exact Ag HW.out.2.2.2.1 g5'
       |some q=>rw[hv]at g5';exact A9 HW.out.2.2.2.1 g5' (.inr (hob q hv))
  ·have hkI:decide ((k:Int)<6)=false:=by simp;omega
   obtain rfl:k=6:=by omega
   have hmem:=hcoll.done;obtain⟨_,⟨_,h0⟩| ⟨g,cap,cur,rfl,hb,hblk,hnc,hcm,hcs,htake⟩⟩:=hown
   ·exfalso;have:([43]:Bs)∈xs:=(hmem _).2 (by decide);rw[List.eq_nil_of_length_eq_zero h0]at this;cases this
   have hlt:=(Array.getElem?_eq_some_iff.1 hblk).1;have hH:Holds encStr wr g 0 xs.toArray:=holds_of_block hblk (by rw[Nat.mul_one]at htake;exact htake);have HS:=O (slices_Sort_string g 0 cap xs wr hH hlt (by omega));have hperm:=List.mergeSort_perm xs (fun x y=>decide (x≤y));have hzl:xs.length=(xs.mergeSort fun x y=>decide (x≤y)).length:=hperm.length_eq.symm;have hzm:∀s,s∈(xs.mergeSort fun x y=>decide (x≤y))↔s∈opsL:=fun s=>by rw[hperm.mem_iff,hmem s]
   generalize(xs.mergeSort fun x y=>decide (x≤y))=zs at*;have HY:=O (Z hmem (Z hb (Z hlt (Z hH (Z hzm (Z hzl (Z hnc gr)))))));clear hcoll gr hmem hb hblk hnc hcm hcs htake hH hperm hzm hzl hlt;go_wp2_with fail;refine HS.out.mono ?_;rintro e w2 ⟨rfl,n,os,hw2⟩;have g2:wr.grownBy w2 (some g):=by rw[hw2];exact grownBy_sorted _
   have hH2:Holds encStr w2 g 0 zs.toArray:=by
    rw[hw2];refine holds_grow _ _ _ _ _ _ (by simpa using HY.out.2.2.1) (holds_putRow _ _ _ _ xs.toArray _ (show Holds encStr (Sort.ahead wr n) g 0 xs.toArray from HY.out.2.2.2.1) ?_);have:=HY.out.2.2.2.2.2.1;simp;omega
   have hlt2:g<w2.heap.size:=by have:=g2.size;have:=HY.out.2.2.1;omega
   have HC:∀L,L=zs.length→Calls Tryz.prog 43 #[.slice (some ⟨g,0,none⟩) L cap] w2 fun e w'=>e= .returned (.slice (some ⟨g,0,none⟩) (Lib.compact zs).length cap)∧∃q,w'=putRow encStr (Sort.ahead w2 q) g 0 (Lib.compact zs++List.replicate (zs.length-(Lib.compact zs).length) []).toArray:=by
    rintro _ rfl;exact slices_Compact_string g 0 cap zs w2 hH2 (by have:=HY.out.2.2.2.2.2.1;omega) (by have:=HY.out.2.2.2.2.2.1;have:=HY.out.2.2.2.2.2.2.1;omega)
   replace HC:=HC xs.length HY.out.2.2.2.2.2.1;have HC2:=O HC;have HH:=O (Z hH2 g2);clear HC hw2 hH2 g2;go_wp2_with fail;refine HC2.out.mono ?_;rintro e w3 ⟨rfl,q,hw3⟩;have HW:=O hw3;clear hw3 HS HC2;go_wp2;go_ret;have hcl:=Iq zs;have hzl:=HY.out.2.2.2.2.2.1;refine⟨⟨g,cap,Lib.compact zs,rfl,by omega,fun j hj=>?_,fun s=>by rw[Ml];exact HY.out.2.2.2.2.1 s⟩,?_⟩
   ·rw[HW.out];have:=cell?_putRow encStr (Sort.ahead w2 q) g 0 zs.toArray (Lib.compact zs++List.replicate (zs.length-(Lib.compact zs).length) []).toArray (show Holds encStr (Sort.ahead w2 q) g 0 zs.toArray from HH.out.1) (by simp;omega) j (by simp;omega);rw[Nat.zero_add]at this;rw[this];simp[encStr,hj,List.getElem_append_left hj,List.getElem?_append_left hj]
   ·have g3 : w2.grownBy w3 (some g) := by
     rw[HW.out];have:=grownBy_sorted (w:=w2) (g:=g) (n:=q) (os:=#[]) (Lib.compact zs++List.replicate (zs.length-(Lib.compact zs).length) []).toArray;rw[grow_empty]at this;exact this
    have ga:=A9 HY.out.2.2.2.2.2.2.2 HH.out.2 (.inr HY.out.2.1);have gb:=A9 ga g3 (.inr HY.out.2.1);exact Aa HM.out.2 gb
theorem KC(s:Bs)(w:World):Calls Tryz.prog 76 #[str s] w fun e w'=>e= .returned (.bool (opsL.contains s))∧w.grownBy w' none:=by
 generalize hb0:opsL.contains s=b;have HB:=O hb0;clear hb0;go_enter func76,ntmps76;go_wp2_with fail;refine(KP _).mono ?_;rintro e w1 ⟨⟨g,cap,zs,rfl,hl,hc,hm⟩,g1⟩;have HC:=O (slices_Contains_string g 0 zs.length cap (zs.map fun z=>⟨z.toArray⟩) ⟨s.toArray⟩ w1 (by simp) (by omega) (fun j hj=>by
  have hj':j<zs.length:=by simpa using hj
  have:=hc j hj';rw[Nat.zero_add,this];simp[List.getD_eq_getElem?_getD,hj']))
 have hb:Lib.containsS ((zs.map fun z=>(⟨z.toArray⟩:ByteArray)).take zs.length) ⟨s.toArray⟩=opsL.contains s:=by
  rw[Bool.eq_iff_iff,containsS_iff,List.take_of_length_le (by simp),List.contains_iff_mem,←hm s,List.mem_map];constructor
  ·rintro⟨z,hz,e⟩;have:z=s:=by
    have:=congrArg (fun b:ByteArray=>b.data.toList) e;simpa using this
   exact this ▸ hz
  ·exact fun h=>⟨s,h,rfl⟩
 rw[hb,HB.out]at HC;clear hb hc hm;go_wp2_with fail;refine HC.out.mono ?_;rintro e w2 ⟨rfl,rfl⟩;go_wp2;go_ret;exact⟨rfl,g1⟩
section
variable {b:Nat}{tv:Value}{l:List Tok}
theorem Ni{opnd:FR Ex}(hop:CR 87 b tv l opnd)(n:Nat):CR 48 b tv l (BL l orL n opnd):=by
 show CR 48 b tv l (BL l [[46,79,82,46]] n opnd);intro w st r h ho;have hb:=h.lt;unfold BL at ho;obtain⟨⟨x,st1⟩,hx,ho⟩:=Option.bind_eq_some_iff.1 ho;simp only at ho;have gz:w.grownBy (w.alloc (.cells zeroE.toArray 27 (0,0))) (some b):=Ad (Ac _ _) _;have hz:=Blk.new w zeroE 27;have h0:=h.alloc (.cells zeroE.toArray 27 (0,0));have hw0:w.heap.size<(w.alloc (.cells zeroE.toArray 27 (0,0))).heap.size:=by simp
 have HX:=O (hop _ _ _ h0 hx);have H:=O (Z hop (Z ho (Z hz (Z gz hw0))));clear hop ho hx hz gz h0 hw0;go_enter func48,ntmps48;go_wp2_with fail;refine HX.out.mono ?_;rintro e w1 ⟨g1,v,rfl,⟨pa,pc,la,lc,rfl,rp,rl⟩,h1⟩;simp only at rp rl h1 ⊢;have HK:=O (KpR.new hb H.out.2.2.1 H.out.2.2.2.1 H.out.2.2.2.2 g1 rp rl h1);have hb1:=h1.lt;clear rp rl h1 HX g1;go_wp2_with fail;go_loopg [] n (fun m wr=>∃x pa pc la lc st,KpR b tv l w w1.heap.size wr x pa pc la lc st∧BV l [[46,79,82,46]] opnd m x st=some r)
 case atStart=>exact⟨x,pa,pc,la,lc,_,HK.out,H.out.2.1⟩
 case round=>
  obtain⟨x,pa,pc,la,lc,st2,hk,hloop⟩:=hrel;clear HK;cases gk with
  |zero=>cases hloop
  |succ m=>
  rw[IG (by decide)]at hloop;have HT:=O (Cg hk.rr [46,79,82,46]);have HK:=O hk;cases hs:A4 l [46,79,82,46] st2 with
  | false=>
    rw[hs]at HT hloop;have HQ:=O (show some (x,Ak l [46,79,82,46] st2)=some r from hloop);clear hloop hs hk;go_wp2_with fail;refine HT.out.mono ?_;rintro e w2 ⟨g2,v,rfl,rfl,h2⟩;have hk2:=HK.out.gb hb g2 h2;have hL:=hk2.blk;have hZ:=hk2.zero;have hwL:=hk2.wL;have HK2:=O hk2;clear hk2 g2 h2;obtain⟨cl_0,cl_1,cl_2,cl_3,cl_4,cl_5,cl_6,cl_f⟩:=(hL).c7;obtain⟨cz_0,cz_1,cz_2,cz_3,cz_4,cz_5,cz_6,cz_f⟩:=(hZ).c7;go_wp2;have hk:=HK2.out;have g7:=Ah w2 w.heap.size (.int .i64 x.h.op) (str x.h.s) (.int .i64 x.h.vk) (.int .i64 x.h.vn) (str x.h.vs) (.slice pa x.h.p.length pc) (.slice la x.kids.len lc);have e1:=HQ.out;cases e1;exact bodyPost_ret (Al rfl _ (hZ.set7 _ _ _ _ _ _ _) rfl) rfl (Bh hb hk.gr hk.ve (by intro k hk;exact hk.1) hk.rr g7)
  | true=>
    rw[hs]at HT hloop;have hq:(opnd (Ak l [46,79,82,46] st2)).bind (fun r=>BV l [[46,79,82,46]] opnd m (Ax [46,79,82,46] x r.1) r.2)=some r:=hloop;obtain⟨⟨z,st3⟩,hy,hq⟩:=Option.bind_eq_some_iff.1 hq;simp only at hq;have HQ:=O hq;have HY:=O hy;clear hloop hs hk hq hy;go_wp2_with fail;refine HT.out.mono ?_;rintro e w2 ⟨g2,v,rfl,rfl,h2⟩;have hk2:=HK.out.gb hb g2 h2;have hL:=hk2.blk;have hwL:=hk2.wL;have hbL:=hk2.bL;have HK2:=O hk2;clear hk2 g2 h2;obtain⟨cl_0,cl_1,cl_2,cl_3,cl_4,cl_5,cl_6,cl_f⟩:=(hL).c7;have hLb:=hL.lt;go_wp2_with fail;go_region_with(first| (go_at_call 87;refine(H.out.1 _ _ _ (HK2.out.rr.drewN 1) HY.out).mono ?_;rintro e w4 ⟨g4,v,rfl,hv,h4⟩;have hk4:=HK2.out.gb hb (Aa (Am (Ac w2 (some b))) g4) h4;have hL4:=hk4.blk;obtain⟨dl_0,dl_1,dl_2,dl_3,dl_4,dl_5,dl_6,dl_f⟩:=(hL4).c7;have hok:∀q,w4.heap.size≤q→but w w1.heap.size q:=(fun q hq=>by have:=hL4.lt;exact⟨by omega,by omega⟩);have hz:VE (but w w1.heap.size) w4 v z:=hv.mono (fun q hq _=>by have hq:w2.heap.size≤q:=hq;exact⟨by omega,by omega⟩);have HZ4:=O (Z hk4 (Z hok hz));clear hk4 hok hz hv h4)| (go_at_call 89;refine(D0 [46,79,82,46] x z _ _ HZ4.out.2.1 HZ4.out.1.ve HZ4.out.2.2).mono ?_;rintro e w5 ⟨u,rfl,hu,g5⟩;obtain⟨ua,uc,va,vc,rfl,ru,rv⟩:=hu;have hL5:=hL4.gb g5 (by simp);obtain⟨el_0,el_1,el_2,el_3,el_4,el_5,el_6,el_f⟩:=(hL5).c7;have HU:=O (Z g5 (Z ru rv));clear g5 ru rv));all_goals
     have hK7:=(HZ4.out.1.gbN hb HU.out.1).store (z:=Ax [46,79,82,46] x z) hb HU.out.2.1 HU.out.2.2;have HK7:=O hK7;clear hK7;go_wp2_with fail;go_roundg m
     case measure=>omega
     case rel=>exact⟨Ax [46,79,82,46] x z,ua,uc,va,vc,_,HK7.out,HQ.out⟩
theorem Qs{opnd:FR Ex}(hop:CR 138 b tv l opnd)(n:Nat):CR 87 b tv l (BL l andL n opnd):=by
 show CR 87 b tv l (BL l [[46,65,78,68,46]] n opnd);intro w st r h ho;have hb:=h.lt;unfold BL at ho;obtain⟨⟨x,st1⟩,hx,ho⟩:=Option.bind_eq_some_iff.1 ho;simp only at ho;have gz:w.grownBy (w.alloc (.cells zeroE.toArray 27 (0,0))) (some b):=Ad (Ac _ _) _;have hz:=Blk.new w zeroE 27;have h0:=h.alloc (.cells zeroE.toArray 27 (0,0));have hw0:w.heap.size<(w.alloc (.cells zeroE.toArray 27 (0,0))).heap.size:=by simp
 have HX:=O (hop _ _ _ h0 hx);have H:=O (Z hop (Z ho (Z hz (Z gz hw0))));clear hop ho hx hz gz h0 hw0;go_enter func87,ntmps87;go_wp2_with fail;refine HX.out.mono ?_;rintro e w1 ⟨g1,v,rfl,⟨pa,pc,la,lc,rfl,rp,rl⟩,h1⟩;simp only at rp rl h1 ⊢;have HK:=O (KpR.new hb H.out.2.2.1 H.out.2.2.2.1 H.out.2.2.2.2 g1 rp rl h1);have hb1:=h1.lt;clear rp rl h1 HX g1;go_wp2_with fail;go_loopg [] n (fun m wr=>∃x pa pc la lc st,KpR b tv l w w1.heap.size wr x pa pc la lc st∧BV l [[46,65,78,68,46]] opnd m x st=some r)
 case atStart=>exact⟨x,pa,pc,la,lc,_,HK.out,H.out.2.1⟩
 case round=>
  obtain⟨x,pa,pc,la,lc,st2,hk,hloop⟩:=hrel;clear HK;cases gk with
  |zero=>cases hloop
  |succ m=>
  rw[IG (by decide)]at hloop;have HT:=O (Cg hk.rr [46,65,78,68,46]);have HK:=O hk;cases hs:A4 l [46,65,78,68,46] st2 with
  | false=>
    rw[hs]at HT hloop;have HQ:=O (show some (x,Ak l [46,65,78,68,46] st2)=some r from hloop);clear hloop hs hk;go_wp2_with fail;refine HT.out.mono ?_;rintro e w2 ⟨g2,v,rfl,rfl,h2⟩;have hk2:=HK.out.gb hb g2 h2;have hL:=hk2.blk;have hZ:=hk2.zero;have hwL:=hk2.wL;have HK2:=O hk2;clear hk2 g2 h2;obtain⟨cl_0,cl_1,cl_2,cl_3,cl_4,cl_5,cl_6,cl_f⟩:=(hL).c7;obtain⟨cz_0,cz_1,cz_2,cz_3,cz_4,cz_5,cz_6,cz_f⟩:=(hZ).c7;go_wp2;have hk:=HK2.out;have g7:=Ah w2 w.heap.size (.int .i64 x.h.op) (str x.h.s) (.int .i64 x.h.vk) (.int .i64 x.h.vn) (str x.h.vs) (.slice pa x.h.p.length pc) (.slice la x.kids.len lc);have e1:=HQ.out;cases e1;exact bodyPost_ret (Al rfl _ (hZ.set7 _ _ _ _ _ _ _) rfl) rfl (Bh hb hk.gr hk.ve (by intro k hk;exact hk.1) hk.rr g7)
  | true=>
    rw[hs]at HT hloop;have hq:(opnd (Ak l [46,65,78,68,46] st2)).bind (fun r=>BV l [[46,65,78,68,46]] opnd m (Ax [46,65,78,68,46] x r.1) r.2)=some r:=hloop;obtain⟨⟨z,st3⟩,hy,hq⟩:=Option.bind_eq_some_iff.1 hq;simp only at hq;have HQ:=O hq;have HY:=O hy;clear hloop hs hk hq hy;go_wp2_with fail;refine HT.out.mono ?_;rintro e w2 ⟨g2,v,rfl,rfl,h2⟩;have hk2:=HK.out.gb hb g2 h2;have hL:=hk2.blk;have hwL:=hk2.wL;have hbL:=hk2.bL;have HK2:=O hk2;clear hk2 g2 h2;obtain⟨cl_0,cl_1,cl_2,cl_3,cl_4,cl_5,cl_6,cl_f⟩:=(hL).c7;have hLb:=hL.lt;go_wp2_with fail;go_region_with(first| (go_at_call 138;refine(H.out.1 _ _ _ (HK2.out.rr.drewN 1) HY.out).mono ?_;rintro e w4 ⟨g4,v,rfl,hv,h4⟩;have hk4:=HK2.out.gb hb (Aa (Am (Ac w2 (some b))) g4) h4;have hL4:=hk4.blk;obtain⟨dl_0,dl_1,dl_2,dl_3,dl_4,dl_5,dl_6,dl_f⟩:=(hL4).c7;have hok:∀q,w4.heap.size≤q→but w w1.heap.size q:=(fun q hq=>by have:=hL4.lt;exact⟨by omega,by omega⟩);have hz:VE (but w w1.heap.size) w4 v z:=hv.mono (fun q hq _=>by have hq:w2.heap.size≤q:=hq;exact⟨by omega,by omega⟩);have HZ4:=O (Z hk4 (Z hok hz));clear hk4 hok hz hv h4)| (go_at_call 89;refine(D0 [46,65,78,68,46] x z _ _ HZ4.out.2.1 HZ4.out.1.ve HZ4.out.2.2).mono ?_;rintro e w5 ⟨u,rfl,hu,g5⟩;obtain⟨ua,uc,va,vc,rfl,ru,rv⟩:=hu;have hL5:=hL4.gb g5 (by simp);obtain⟨el_0,el_1,el_2,el_3,el_4,el_5,el_6,el_f⟩:=(hL5).c7;have HU:=O (Z g5 (Z ru rv));clear g5 ru rv));all_goals
     have hK7:=(HZ4.out.1.gbN hb HU.out.1).store (z:=Ax [46,65,78,68,46] x z) hb HU.out.2.1 HU.out.2.2;have HK7:=O hK7;clear hK7;go_wp2_with fail;go_roundg m
     case measure=>omega
     case rel=>exact⟨Ax [46,65,78,68,46] x z,ua,uc,va,vc,_,HK7.out,HQ.out⟩
end
section
variable {b:Nat}{tv:Value}{l:List Tok}
theorem D3{W:World}{st:RS}(h:Rr W b tv l st)(L:List Bs)(hne:∀s∈L,s≠[])(hl:L.length≤100)(n:Nat)(hn:n=W.heap.size)(m:Nat)(hm:L.length=m):
 Calls Tryz.prog 177 #[.pointer (some ⟨b,0,none⟩),.slice (some ⟨n,0,none⟩) m m] (W.alloc (.cells (L.map str).toArray 9 (0,0))) (B9 b tv l (W.alloc (.cells (L.map str).toArray 9 (0,0))) VStr (A6 l L st)):=by
 subst hm;exact OK (h.alloc _) (ok:=fun k=>k=n) (Cells.new' hn (by simp) (by unfold maxLen;omega) rfl) (by intro k hk;have:=h.lt;omega) hne hl
theorem Qw{opnd:FR Ex}(hop:CR 218 b tv l opnd)(n:Nat):CR 178 b tv l (BL l sumL n opnd):=by
 show CR 178 b tv l (BL l [[43],[45]] n opnd);intro w st r h ho;have hb:=h.lt;unfold BL at ho;obtain⟨⟨x,st1⟩,hx,ho⟩:=Option.bind_eq_some_iff.1 ho;simp only at ho;have gz:w.grownBy (w.alloc (.cells zeroE.toArray 27 (0,0))) (some b):=Ad (Ac _ _) _;have hz:=Blk.new w zeroE 27;have h0:=h.alloc (.cells zeroE.toArray 27 (0,0));have hw0:w.heap.size<(w.alloc (.cells zeroE.toArray 27 (0,0))).heap.size:=by simp
 have HX:=O (hop _ _ _ h0 hx);have H:=O (Z hop (Z ho (Z hz (Z gz hw0))));clear hop ho hx hz gz h0 hw0;go_enter func178,ntmps178;go_wp2_with fail;refine HX.out.mono ?_;rintro e w1 ⟨g1,v,rfl,⟨pa,pc,la,lc,rfl,rp,rl⟩,h1⟩;simp only at rp rl h1 ⊢;have hK:=KpR.new hb H.out.2.2.1 H.out.2.2.2.1 H.out.2.2.2.2 g1 rp rl h1;have hb1:=h1.lt;have HS:=O (D3 hK.rr [[43],[45]] (by decide) (by decide) (w1.heap.size+1) (by simp) 2 rfl);have HK:=O hK;clear rp rl h1 HX g1 hK;go_wp2_with fail;refine HS.out.mono ?_;rintro e w2 ⟨g2,v,rfl,rfl,h2⟩;have HK2:=O ((HK.out.gbN hb (World.grownBy_alloc _ _ none)).gb hb g2 h2);clear HS HK g2 h2;go_wp2_with fail;go_loopg [4] n (fun m v4 wr=>∃x pa pc la lc st,v4=str (Au l [[43],[45]] st)∧KpR b tv l w w1.heap.size wr x pa pc la lc (A6 l [[43],[45]] st).2∧BV l [[43],[45]] opnd m x st=some r)
 case atStart=>exact⟨x,pa,pc,la,lc,st1,rfl,HK2.out,H.out.2.1⟩
 case round=>
  obtain⟨x,pa,pc,la,lc,st2,rfl,hk,hloop⟩:=hrel;clear HK2;cases gk with
  |zero=>cases hloop
  |succ m=>
  rw[BV]at hloop;generalize hso:Au l [[43],[45]] st2=o at*;by_cases he:o=[]
  ·subst he;have HQ:=O (show some (x,(A6 l [[43],[45]] st2).2)=some r from hloop);have hL:=hk.blk;have hZ:=hk.zero;have hwL:=hk.wL;have HK2:=O hk;clear hk hloop;obtain⟨cl_0,cl_1,cl_2,cl_3,cl_4,cl_5,cl_6,cl_f⟩:=(hL).c7;obtain⟨cz_0,cz_1,cz_2,cz_3,cz_4,cz_5,cz_6,cz_f⟩:=(hZ).c7;go_wp2;have hk:=HK2.out;have g7:=Ah wr w.heap.size (.int .i64 x.h.op) (str x.h.s) (.int .i64 x.h.vk) (.int .i64 x.h.vn) (str x.h.vs) (.slice pa x.h.p.length pc) (.slice la x.kids.len lc);have e1:=HQ.out;cases e1;exact bodyPost_ret (Al rfl _ (hZ.set7 _ _ _ _ _ _ _) rfl) rfl (Bh hb hk.gr hk.ve (by intro k hk;exact hk.1) hk.rr g7)
  ·have hs0:(o==[])=false:=by simpa using he
   have hs2:o.isEmpty=false:=by simpa using he
   rw[hs2]at hloop;have hq:(opnd (A6 l [[43],[45]] st2).2).bind (fun r=>BV l [[43],[45]] opnd m (Ax o x r.1) r.2)=some r:=hloop;obtain⟨⟨z,st3⟩,hy,hq⟩:=Option.bind_eq_some_iff.1 hq;simp only at hq;have HQ:=O hq;have HY:=O hy;have hL:=hk.blk;have hwL:=hk.wL;have hbL:=hk.bL;have HK2:=O hk;clear hloop hk hq hy hs2 he hso;obtain⟨cl_0,cl_1,cl_2,cl_3,cl_4,cl_5,cl_6,cl_f⟩:=(hL).c7;have hLb:=hL.lt;go_wp2_with fail;go_region_with(first| (go_at_call 218;refine(H.out.1 _ _ _ (HK2.out.rr.drewN 1) HY.out).mono ?_;rintro e w4 ⟨g4,v,rfl,hv,h4⟩;have hk4:=HK2.out.gb hb (Aa (Am (Ac wr (some b))) g4) h4;have hL4:=hk4.blk;obtain⟨dl_0,dl_1,dl_2,dl_3,dl_4,dl_5,dl_6,dl_f⟩:=(hL4).c7;have hok:∀q,w4.heap.size≤q→but w w1.heap.size q:=(fun q hq=>by have:=hL4.lt;exact⟨by omega,by omega⟩);have hz:VE (but w w1.heap.size) w4 v z:=hv.mono (fun q hq _=>by have hq:wr.heap.size≤q:=hq;exact⟨by omega,by omega⟩);have HZ4:=O (Z hk4 (Z hok hz));clear hk4 hok hz hv h4)| (go_at_call 89;refine(D0 o x z _ _ HZ4.out.2.1 HZ4.out.1.ve HZ4.out.2.2).mono ?_;rintro e w5 ⟨u,rfl,hu,g5⟩;obtain⟨ua,uc,va,vc,rfl,ru,rv⟩:=hu;have hL5:=hL4.gb g5 (by simp);obtain⟨el_0,el_1,el_2,el_3,el_4,el_5,el_6,el_f⟩:=(hL5).c7;have HU:=O (Z g5 (Z ru rv));clear g5 ru rv));all_goals
    have hK7:=(HZ4.out.1.gbN hb HU.out.1).store (z:=Ax o x z) hb HU.out.2.1 HU.out.2.2;simp only[set7]at hK7;clear cl_0 cl_1 cl_2 cl_3 cl_4 cl_5 cl_6 cl_f dl_0 dl_1 dl_2 dl_3 dl_4 dl_5 dl_6 dl_f el_0 el_1 el_2 el_3 el_4 el_5 el_6 el_f hL4 hL5 hL;generalize hbe:Ax o x z=bz at*;generalize(((((((w5.setCell {block:=w1.heap.size,off:=0} (.int .i64 bz.h.op)).setCell {block:=w1.heap.size,off:=1} (.string {data:=List.toArray bz.h.s})).setCell {block:=w1.heap.size,off:=2} (.int .i64 bz.h.vk)).setCell {block:=w1.heap.size,off:=3} (.int .i64 bz.h.vn)).setCell {block:=w1.heap.size,off:=4} (.string {data:=List.toArray bz.h.vs})).setCell {block:=w1.heap.size,off:=5} (.slice ua bz.h.p.length uc)).setCell {block:=w1.heap.size,off:=6} (.slice va bz.kids.len vc))=W at*;have HS:=O (D3 hK7.rr [[43],[45]] (by decide) (by decide) W.heap.size rfl 2 rfl);have HK7:=O hK7;have hbW:=hK7.rr.lt;clear hK7;go_wp2_with fail;refine HS.out.mono ?_;rintro e w8 ⟨g8,v,rfl,rfl,h8⟩;have HK8:=O ((HK7.out.gbN hb (World.grownBy_alloc _ _ none)).gb hb g8 h8);clear HS HK7 g8 h8;go_wp2_with fail;go_roundg m
    case measure=>omega
    case rel=>exact⟨bz,ua,uc,va,vc,st3,rfl,HK8.out,HQ.out⟩
theorem OJ{opnd:FR Ex}(hop:CR 250 b tv l opnd)(n:Nat):CR 218 b tv l (BL l Kx n opnd):=by
 show CR 218 b tv l (BL l [[42],[47],[37]] n opnd);intro w st r h ho;have hb:=h.lt;unfold BL at ho;obtain⟨⟨x,st1⟩,hx,ho⟩:=Option.bind_eq_some_iff.1 ho;simp only at ho;have gz:w.grownBy (w.alloc (.cells zeroE.toArray 27 (0,0))) (some b):=Ad (Ac _ _) _;have hz:=Blk.new w zeroE 27;have h0:=h.alloc (.cells zeroE.toArray 27 (0,0));have hw0:w.heap.size<(w.alloc (.cells zeroE.toArray 27 (0,0))).heap.size:=by simp
 have HX:=O (hop _ _ _ h0 hx);have H:=O (Z hop (Z ho (Z hz (Z gz hw0))));clear hop ho hx hz gz h0 hw0;go_enter func218,ntmps218;go_wp2_with fail;refine HX.out.mono ?_;rintro e w1 ⟨g1,v,rfl,⟨pa,pc,la,lc,rfl,rp,rl⟩,h1⟩;simp only at rp rl h1 ⊢;have hK:=KpR.new hb H.out.2.2.1 H.out.2.2.2.1 H.out.2.2.2.2 g1 rp rl h1;have hb1:=h1.lt;have HS:=O (D3 hK.rr [[42],[47],[37]] (by decide) (by decide) (w1.heap.size+1) (by simp) 3 rfl);have HK:=O hK;clear rp rl h1 HX g1 hK;go_wp2_with fail;refine HS.out.mono ?_;rintro e w2 ⟨g2,v,rfl,rfl,h2⟩;have HK2:=O ((HK.out.gbN hb (World.grownBy_alloc _ _ none)).gb hb g2 h2);clear HS HK g2 h2;go_wp2_with fail;go_loopg [4] n (fun m v4 wr=>∃x pa pc la lc st,v4=str (Au l [[42],[47],[37]] st)∧KpR b tv l w w1.heap.size wr x pa pc la lc (A6 l [[42],[47],[37]] st).2∧BV l [[42],[47],[37]] opnd m x st=some r)
 case atStart=>exact⟨x,pa,pc,la,lc,st1,rfl,HK2.out,H.out.2.1⟩
 case round=>
  obtain⟨x,pa,pc,la,lc,st2,rfl,hk,hloop⟩:=hrel;clear HK2;cases gk with
  |zero=>cases hloop
  |succ m=>
  rw[BV]at hloop;generalize hso:Au l [[42],[47],[37]] st2=o at*;by_cases he:o=[]
  ·subst he;have HQ:=O (show some (x,(A6 l [[42],[47],[37]] st2).2)=some r from hloop);have hL:=hk.blk;have hZ:=hk.zero;have hwL:=hk.wL;have HK2:=O hk;clear hk hloop;obtain⟨cl_0,cl_1,cl_2,cl_3,cl_4,cl_5,cl_6,cl_f⟩:=(hL).c7;obtain⟨cz_0,cz_1,cz_2,cz_3,cz_4,cz_5,cz_6,cz_f⟩:=(hZ).c7;go_wp2;have hk:=HK2.out;have g7:=Ah wr w.heap.size (.int .i64 x.h.op) (str x.h.s) (.int .i64 x.h.vk) (.int .i64 x.h.vn) (str x.h.vs) (.slice pa x.h.p.length pc) (.slice la x.kids.len lc);have e1:=HQ.out;cases e1;exact bodyPost_ret (Al rfl _ (hZ.set7 _ _ _ _ _ _ _) rfl) rfl (Bh hb hk.gr hk.ve (by intro k hk;exact hk.1) hk.rr g7)
  ·have hs0:(o==[])=false:=by simpa using he
   have hs2:o.isEmpty=false:=by simpa using he
   rw[hs2]at hloop;have hq:(opnd (A6 l [[42],[47],[37]] st2).2).bind (fun r=>BV l [[42],[47],[37]] opnd m (Ax o x r.1) r.2)=some r:=hloop;obtain⟨⟨z,st3⟩,hy,hq⟩:=Option.bind_eq_some_iff.1 hq;simp only at hq;have HQ:=O hq;have HY:=O hy;have hL:=hk.blk;have hwL:=hk.wL;have hbL:=hk.bL;have HK2:=O hk;clear hloop hk hq hy hs2 he hso;obtain⟨cl_0,cl_1,cl_2,cl_3,cl_4,cl_5,cl_6,cl_f⟩:=(hL).c7;have hLb:=hL.lt;go_wp2_with fail;go_region_with(first| (go_at_call 250;refine(H.out.1 _ _ _ (HK2.out.rr.drewN 1) HY.out).mono ?_;rintro e w4 ⟨g4,v,rfl,hv,h4⟩;have hk4:=HK2.out.gb hb (Aa (Am (Ac wr (some b))) g4) h4;have hL4:=hk4.blk;obtain⟨dl_0,dl_1,dl_2,dl_3,dl_4,dl_5,dl_6,dl_f⟩:=(hL4).c7;have hok:∀q,w4.heap.size≤q→but w w1.heap.size q:=(fun q hq=>by have:=hL4.lt;exact⟨by omega,by omega⟩);have hz:VE (but w w1.heap.size) w4 v z:=hv.mono (fun q hq _=>by have hq:wr.heap.size≤q:=hq;exact⟨by omega,by omega⟩);have HZ4:=O (Z hk4 (Z hok hz));clear hk4 hok hz hv h4)| (go_at_call 89;refine(D0 o x z _ _ HZ4.out.2.1 HZ4.out.1.ve HZ4.out.2.2).mono ?_;rintro e w5 ⟨u,rfl,hu,g5⟩;obtain⟨ua,uc,va,vc,rfl,ru,rv⟩:=hu;have hL5:=hL4.gb g5 (by simp);obtain⟨el_0,el_1,el_2,el_3,el_4,el_5,el_6,el_f⟩:=(hL5).c7;have HU:=O (Z g5 (Z ru rv));clear g5 ru rv));all_goals
    have hK7:=(HZ4.out.1.gbN hb HU.out.1).store (z:=Ax o x z) hb HU.out.2.1 HU.out.2.2;simp only[set7]at hK7;clear cl_0 cl_1 cl_2 cl_3 cl_4 cl_5 cl_6 cl_f dl_0 dl_1 dl_2 dl_3 dl_4 dl_5 dl_6 dl_f el_0 el_1 el_2 el_3 el_4 el_5 el_6 el_f hL4 hL5 hL;generalize hbe:Ax o x z=bz at*;generalize(((((((w5.setCell {block:=w1.heap.size,off:=0} (.int .i64 bz.h.op)).setCell {block:=w1.heap.size,off:=1} (.string {data:=List.toArray bz.h.s})).setCell {block:=w1.heap.size,off:=2} (.int .i64 bz.h.vk)).setCell {block:=w1.heap.size,off:=3} (.int .i64 bz.h.vn)).setCell {block:=w1.heap.size,off:=4} (.string {data:=List.toArray bz.h.vs})).setCell {block:=w1.heap.size,off:=5} (.slice ua bz.h.p.length uc)).setCell {block:=w1.heap.size,off:=6} (.slice va bz.kids.len vc))=W at*;have HS:=O (D3 hK7.rr [[42],[47],[37]] (by decide) (by decide) W.heap.size rfl 3 rfl);have HK7:=O hK7;have hbW:=hK7.rr.lt;clear hK7;go_wp2_with fail;refine HS.out.mono ?_;rintro e w8 ⟨g8,v,rfl,rfl,h8⟩;have HK8:=O ((HK7.out.gbN hb (World.grownBy_alloc _ _ none)).gb hb g8 h8);clear HS HK7 g8 h8;go_wp2_with fail;go_roundg m
    case measure=>omega
    case rel=>exact⟨bz,ua,uc,va,vc,st3,rfl,HK8.out,HQ.out⟩
end
end Go.Proofs.YtgjdhajcnechdaaGreatDoor
