/-
  slices.Concat of two rows of texts. copied: an expression in new memory: the state on the way. copied: the walk.
-/
import Derived.Test.YtgjdhajcnechdaaGreatDoorSw30
import Derived.Test.YtgjdhajcnechdaaGreatDoorSw43
import Derived.Test.YtgjdhajcnechdaaGreatDoorPlain
import Derived.Shelf.Spec.SlicesGrow
set_option linter.all false
set_option maxRecDepth 100000
set_option maxHeartbeats 8000000
namespace Go.Proofs.YtgjdhajcnechdaaGreatDoor
open Go.Proofs.Tryz
open Go.RowKit
theorem Pe(n:Nat)(hn:n≤16000000)(w:World):Calls Tryz.prog 95 #[.slice none 0 0,.int .i64 n] w fun e w'=>∃v,e= .returned v∧w'.ownsRow w.heap.size 9 1 v 0 []∧w.grownBy w' none:=by
 rcases Nat.eq_zero_or_pos n with rfl|h0
 ·refine(Any8.slices_Grow_room growStr none 0 0 0 w (by omega) (by omega) (by omega) (by omega)).mono ?_;rintro e w' ⟨rfl,rfl⟩;exact⟨_,rfl,World.ownsRow_nil _ _ _ _,Ac _ _⟩
 obtain⟨i0,hi,hz0,hz1,hz2⟩:=info_parts C0;refine(Any8.slices_Grow_grow growStr i0 _ hi hz0 (by rw[hz1];decide) none 0 0 n [] w (Nat.le_refl _) (by omega) (by rw[hz2];omega) (by omega) (by simp) (fun _=>rfl) (by simp)).mono ?_;rintro e w' ⟨rfl,rfl⟩;refine⟨_,rfl,?_,?_⟩
 ·refine⟨rfl,.inr ⟨w.heap.size,_,_,rfl,Nat.le_refl _,heap_alloc_new _ _,Nat.zero_le _,?_,?_,?_⟩⟩
  ·exact grownCap_le_maxLen _ _ _ _ (by unfold maxLen;omega)
  ·have hge:=grownCap_ge w (0+n) 0 (Tryz.growStr_ren.t 25);generalize grownCap w (0+n) 0 (Tryz.growStr_ren.t 25)=c at*;rw[Array.size_append,Array.size_append,size_zeroCells,size_zeroCells];have e1:(str []).cells.size=1:=rfl;rw[e1];simp;omega
  ·simp
 ·exact Ad (Am (Ac _ _)) _
def accM(p r:List Bs)(k:Nat):List Bs:=if k=0 then []else if k=1 then p else r
section
variable {w:World}{p q r:List Bs}{R:Nat}{pa ba:Option Addr}{pc bc:Nat}{ok:Nat→Prop}
theorem L9(h0:w.cell? ⟨R,0,none⟩=some (.slice ba p.length bc))(h1:w.cell? ⟨R,1,none⟩=some (.slice pa q.length pc))(hb:Cells w (.slice ba p.length bc) 1 p.length (p.map str) ok)(hp:Cells w (.slice pa q.length pc) 1 q.length (q.map str) ok)
 (hl:p.length+q.length≤8000000) (hre:r=p++q):
 Calls Tryz.prog 53 #[.slice (some ⟨R,0,none⟩) 2 2] w fun e w'=>∃v,e= .returned v∧w'.ownsRow w.heap.size 9 1 v r.length (r.map str)∧w.grownBy w' none:=by
 have HC:=O (Z h0 (Z h1 (Z hb (Z hp (Z hl hre)))));have hw1:IntKind.i64.wrap ((p.length:Int)+(q.length:Int))=(p.length:Int)+(q.length:Int):=IntWalk.i64_in _ (by omega);have hw2:IntKind.i64.wrap ((0:Int)+(p.length:Int))=(p.length:Int):=by rw[Int.zero_add];exact IntWalk.i64_in _ (by omega)
 have hw3:IntKind.i64.wrap (p.length:Int)=(p.length:Int):=IntWalk.i64_in _ (by omega);have n1:decide ((p.length:Int)<0)=false:=by simp
 have n2:decide ((p.length:Int)+(q.length:Int)<0)=false:=by simp;omega
 have hRl:=World.block_lt_of_cell? _ _ h0;clear hb hp hre;go_enter func53,ntmps53;go_wp2_with fail;go_loopg [3,11] 3 (fun g v3 v11 wr=>∃k:Nat,k+g=3∧k≤2∧v11= .int .i64 k∧v3= .int .i64 (if k=0 then 0 else if k=1 then(p.length:Int)else(p.length:Int)+(q.length:Int))∧wr=w)
 case atStart=>exact⟨0,rfl,by omega,rfl,rfl,rfl⟩
 case round=>
  obtain⟨k,hg,hk,rfl,rfl,hw⟩:=hrel;have hw':=hw.symm;clear hw;subst hw';have hcases:k=0∨k=1∨k=2:=by omega
  rcases hcases with rfl|rfl|rfl
  ·go_wp2_with fail;go_roundg 2
   case measure=>omega
   case rel=>exact⟨1,by omega,by omega,rfl,by simp,rfl⟩
  ·go_wp2_with fail;go_roundg 1
   case measure=>omega
   case rel=>exact⟨2,by omega,by omega,rfl,by simp,rfl⟩
  ·go_wp2_with fail;have hGr:=Pe (p.length+q.length) (by omega) w;rw[show((p.length+q.length:Nat):Int)=(p.length:Int)+(q.length:Int)by simp]at hGr;refine hGr.mono ?_;rintro e w1 ⟨v,rfl,hO,g1⟩;have HO1:=O (Z hO g1);obtain⟨va,vc,rfl,_⟩:=AU hO;have d0:=Af g1 HC.out.1;have d1:=Af g1 HC.out.2.1;clear hO g1 h0 h1 hGr hl;go_wp2_with fail;clear d0 d1;go_loopg [6,27] 3 (fun g v6 v27 wr=>∃k:Nat,k+g=3∧k≤2∧v27= .int .i64 k∧wr.ownsRow w.heap.size 9 1 v6 (accM p r k).length ((accM p r k).map str)∧w.grownBy wr none)
   case atStart=>exact⟨0,rfl,by omega,rfl,HO1.out.1,HO1.out.2⟩
   case round=>
    obtain⟨k,hg2,hk2,rfl,hown,hgr⟩:=hrel;clear HO1;have hcases:k=0∨k=1∨k=2:=by omega
    rcases hcases with rfl|rfl|rfl
    ·have hb0:=HC.out.2.2.1.gb hgr (by simp);have d0:=Af hgr HC.out.1;have d1:=Af hgr HC.out.2.1;have hRl2:=World.block_lt_of_cell? _ _ d0;obtain⟨i0,hi0,hz0,hz1,hz2⟩:=info_parts C0;have HZ:=O (Z hi0 (Z hz0 (Z hz1 (Z hz2 (Z hb0 (Z hown (Z hgr hgr.size)))))));clear hb0 hi0 hz0 hz1 hz2 hown hgr;go_wp2_with (at_builtin;refine Fu rfl _ _ 24 rfl w.heap.size 9 i0 (str []) 1 16 underlying24 HZ.out.1 HZ.out.2.1 HZ.out.2.2.1 HZ.out.2.2.2.1 rfl (by decide) _ (([]:List Bs)).length ((([]:List Bs)).map str) rfl HZ.out.2.2.2.2.2.1 (.slice ba p.length bc) p.length (p.map str) _ rfl HZ.out.2.2.2.2.1 (by intro u hu;obtain⟨c,_,rfl⟩:=List.mem_map.1 hu;rfl) (by have:=HC.out.2.2.2.2.1;(try simp only[List.length_nil]);unfold maxLen;omega) (by have:=HC.out.2.2.2.2.1;(try simp only[List.length_nil]);omega) HZ.out.2.2.2.2.2.2.2 ?_;intro v' w6 hown5 g7;have HO:=O (Z hown5 g7);clear hown5 g7);go_roundg 2
     case measure=>omega
     case rel=>exact⟨1,by omega,by omega,rfl,by have:=HO.out.1;rw[List.length_nil,Nat.zero_add,List.map_nil,List.nil_append]at this;exact this,Dq HZ.out.2.2.2.2.2.1 HZ.out.2.2.2.2.2.2.1 HO.out.2 (Nat.le_refl _)⟩
    ·have hb0:=HC.out.2.2.2.1.gb hgr (by simp);have d0:=Af hgr HC.out.1;have d1:=Af hgr HC.out.2.1;have hRl2:=World.block_lt_of_cell? _ _ d0;obtain⟨i0,hi0,hz0,hz1,hz2⟩:=info_parts C0;have HZ:=O (Z hi0 (Z hz0 (Z hz1 (Z hz2 (Z hb0 (Z hown (Z hgr hgr.size)))))));clear hb0 hi0 hz0 hz1 hz2 hown hgr;go_wp2_with (at_builtin;refine Fu rfl _ _ 24 rfl w.heap.size 9 i0 (str []) 1 16 underlying24 HZ.out.1 HZ.out.2.1 HZ.out.2.2.1 HZ.out.2.2.2.1 rfl (by decide) _ (p).length ((p).map str) rfl HZ.out.2.2.2.2.2.1 (.slice pa q.length pc) q.length (q.map str) _ rfl HZ.out.2.2.2.2.1 (by intro u hu;obtain⟨c,_,rfl⟩:=List.mem_map.1 hu;rfl) (by have:=HC.out.2.2.2.2.1;(try simp only[List.length_nil]);unfold maxLen;omega) (by have:=HC.out.2.2.2.2.1;(try simp only[List.length_nil]);omega) HZ.out.2.2.2.2.2.2.2 ?_;intro v' w6 hown5 g7;have HO:=O (Z hown5 g7);clear hown5 g7);go_roundg 1
     case measure=>omega
     case rel=>exact⟨2,by omega,by omega,rfl,by have:=HO.out.1;rw[←List.length_append,←List.map_append,←HC.out.2.2.2.2.2]at this;exact this,Dq HZ.out.2.2.2.2.2.1 HZ.out.2.2.2.2.2.2.1 HO.out.2 (Nat.le_refl _)⟩
    ·have hown:wr.ownsRow w.heap.size 9 1 u6 r.length (r.map str):=hown;have HX:=O (Z hown hgr);obtain⟨ua,uc,rfl,_⟩:=AU hown;clear hown hgr;go_wp2;go_ret;exact⟨_,rfl,HX.out.1,HX.out.2⟩
end
def frN(B:Nat)(lv:Value)(q:Nat):Prop:=B≤q∧lv.ownBlock≠some q
structure CK(B b:Nat)(h:Hd)(pv lv:Value)(acc:Fo)(wr:World):Prop where
 blk:Blk wr b (hdC h pv lv) 27
 hp:Cells wr pv 1 h.p.length (h.p.map str) (frN B lv)
 row:∃cs,wr.ownsRow B 27 7 lv acc.len cs∧RepF (frN B lv) wr acc cs
 lo:b<B
section
variable {B b j cap:Nat}{h:Hd}{pv lv px lx:Value}{acc:Fo}{wr w1:World}{x:Ex}{cs:List Value}
theorem CK.gb(c:CK B b h pv lv acc wr)(g:wr.grownBy w1 none):CK B b h pv lv acc w1:=by
 refine⟨c.blk.gb g (by simp),c.hp.gb g (by simp),?_,c.lo⟩;obtain⟨cs,h1,h2⟩:=c.row;exact⟨cs,h1.kept g (by cases lv.ownBlock with|none=>exact .inl rfl|some _=>exact .inr (by simp)),RepF.gb g (by simp) h2⟩
theorem CK.shape(c:CK B b h pv lv acc wr):∃a n,lv= .slice a acc.len n:=by
 obtain⟨cs,h1,_⟩:=c.row;obtain⟨a,n,e,_⟩:=AU h1;exact⟨a,n,e⟩
theorem CK.own(c:CK B b h pv lv acc wr):∀q,lv.ownBlock=some q→B≤q∧q<wr.heap.size:=by
 obtain⟨cs,h1,_⟩:=c.row;exact fun q e=>h1.lt q e
theorem CK.append(c:CK B b h pv lv acc wr)(hrep:RepF (frN B lv) wr acc cs)(hx1:Cells wr px 1 x.h.p.length (x.h.p.map str) (frN B lv))(hx2:RepL (frN B lv) wr lx x.kids)
 (hown:w1.ownsRow B 27 7 (.slice (some ⟨j,0,none⟩) (acc.len+1) cap) (acc.len+1) (cs++hdC x.h px lx)) (hg:wr.grownBy w1 lv.ownBlock) (hat:lv.ownBlock=some j∨j=wr.heap.size):
 CK B b h pv (.slice (some ⟨j,0,none⟩) (acc.len+1) cap) (acc.snoc x) (w1.setCell ⟨b,6,none⟩ (.slice (some ⟨j,0,none⟩) (acc.len+1) cap)):=by
 have hlo:=c.lo;have hB:B≤j:=by
  have:=hown.lt j rfl;omega
 have hf:∀q,frN B lv q→q<wr.heap.size→frN B (.slice (some ⟨j,0,none⟩) (acc.len+1) cap) q:=fun q hq hl=>⟨hq.1,fun e=>by
  simp[Value.ownBlock]at e;subst e;rcases hat with h1|h1
  ·exact hq.2 h1
  ·omega⟩
 have hne:∀q,(frN B lv q∧frN B (.slice (some ⟨j,0,none⟩) (acc.len+1) cap) q)→some q≠lv.ownBlock:=fun q hq e=>hq.1.2 e.symm;have gs:w1.grownBy (w1.setCell ⟨b,6,none⟩ (.slice (some ⟨j,0,none⟩) (acc.len+1) cap)) (some b):=AH (Ac w1 (some b)) 6 _;have hnb:∀q,frN B (.slice (some ⟨j,0,none⟩) (acc.len+1) cap) q→some q≠some b:=fun q hq e=>by cases e;have:=hq.1;omega
 have mv:∀{v:Value}{size n:Nat}{ds:List Value},Cells wr v size n ds (frN B lv)→Cells (w1.setCell ⟨b,6,none⟩ (.slice (some ⟨j,0,none⟩) (acc.len+1) cap)) v size n ds (frN B (.slice (some ⟨j,0,none⟩) (acc.len+1) cap)):=fun hc=>
  (((hc.mono (ok':=fun q=>frN B lv q∧frN B (.slice (some ⟨j,0,none⟩) (acc.len+1) cap) q) (fun q hq hl=>⟨hq,hf q hq hl⟩)).gb hg (fun q hq _=>hne q hq)).mono (fun q hq _=>hq.2)).gb gs (fun q hq _=>hnb q hq)
 have mr:∀{f:Fo}{ds:List Value},RepF (frN B lv) wr f ds→RepF (frN B (.slice (some ⟨j,0,none⟩) (acc.len+1) cap)) (w1.setCell ⟨b,6,none⟩ (.slice (some ⟨j,0,none⟩) (acc.len+1) cap)) f ds:=by
  intro f;induction f with
  |nil=>intro ds hr;exact hr
  | cons a k n ih1 ih2=>
    rintro ds ⟨pv1,lv1,kcs,rest,e,h1,h2,h3,h4⟩;exact⟨pv1,lv1,kcs,rest,e,mv h1,mv h2,ih1 h3,ih2 h4⟩
 refine⟨((c.blk.gb hg (fun e=>by have:=c.own b e.symm;omega)).set 6 _).of_eq rfl rfl,mv c.hp,⟨cs++hdC x.h px lx,?_,?_⟩,hlo⟩
 ·rw[Fo.len_snoc];exact C2 hown gs (by intro q hq _ e;cases e;omega)
 ·obtain⟨kcs,k1,k2⟩:=hx2;exact RepF.app (mr hrep) (VE.rep (mv hx1) ⟨kcs,mv k1,mr k2⟩)
end
theorem CK.ve{B B' b c:Nat}{h:Hd}{pa la:Option Addr}{pc lc:Nat}{acc:Fo}{wr w1:World}(k:CK B b h (.slice pa h.p.length pc) (.slice la acc.len lc) acc wr)(g:wr.grownBy w1 (some c))(hc:c<B)(hB:B'≤B):VE (A8 B') w1 (exV h (.slice pa h.p.length pc) (.slice la acc.len lc)) ⟨h,acc⟩:=by
 have hi:∀q,frN B (.slice la acc.len lc) q→q<wr.heap.size→A8 B' q:=fun q hq _=>Nat.le_trans hB hq.1;have hs:∀q,B≤q→q<wr.heap.size→some q≠some c:=fun q hq _ e=>by cases e;omega
 obtain⟨cs,h1,h2⟩:=k.row;refine⟨pa,pc,la,lc,rfl,((k.hp.gb g (fun q hq hl=>hs q hq.1 hl)).mono fun q hq _=>Nat.le_trans hB hq.1),cs,(((AU h1).gb g (fun q hq hl=>hs q hq hl)).mono fun q hq _=>Nat.le_trans hB hq),?_⟩;exact(RepF.gb g (fun q hq hl=>hs q hq.1 hl) h2).mono fun q hq _=>Nat.le_trans hB hq.1
def CpC(h:Hd)(k:Fo):Prop:=∀(W:World)(pa la:Option Addr)(pc lc:Nat),Cells W (.slice pa h.p.length pc) 1 h.p.length (h.p.map str) (fun _=>True)→RepL (fun _=>True) W (.slice la k.len lc) k→
 Calls Tryz.prog 26 #[exV h (.slice pa h.p.length pc) (.slice la k.len lc)] W fun e w'=>∃v,e= .returned v∧VE (A8 W.heap.size) w' v ⟨h,k⟩∧W.grownBy w' none
section
variable {w:World}{h:Hd}{k:Fo}{pa la:Option Addr}{pc lc:Nat}
theorem LB(hp:Cells w (.slice pa h.p.length pc) 1 h.p.length (h.p.map str) (fun _=>True))(hr:RepL (fun _=>True) w (.slice la k.len lc) k)(hl:h.p.length≤8000000)(hn:k.len≤1000000)
 (E:∀a k2,k2.wt<k.wt→a.fit→k2.fit→k2.nodes≤k.nodes→CpC a k2) (hf:k.fit):
 Calls Tryz.prog 26 #[exV h (.slice pa h.p.length pc) (.slice la k.len lc)] w fun e w'=>∃v,e= .returned v∧VE (A8 w.heap.size) w' v ⟨h,k⟩∧w.grownBy w' none:=by
 have HC:=O (fun(W:World)(g:w.grownBy W none)=>Fv (hp.gb g (by simp)) hl);have H0:=O (Z hr (Z E hf));have HX:=O (Blk.new w (hdC h (.slice pa h.p.length pc) (.slice la k.len lc)) 27);have HY:=O ((Blk.new (w.alloc (.cells (hdC h (.slice pa h.p.length pc) (.slice la k.len lc)).toArray 27 (0,0))) zeroE 27).of_eq (show _=w.heap.size+1 by simp) rfl);have hX:=HX.out;obtain⟨x_0,x_1,x_2,x_3,x_4,x_5,x_6,x_f⟩:=(hX).c7;clear hp hr E hf hX;go_enter func26,ntmps26;go_wp2_with fail;refine(HC.out _ (by repeat(first| (with_reducible exact Ac _ _)| (with_reducible assumption)| (with_reducible exact AX (by assumption))| (with_reducible refine Ad ?_ _)| (with_reducible refine Am ?_)| (with_reducible refine Ay ?_ _)| ((with_reducible refine Az ?_ _ _ ?h2);case h2=>first|exact .inl rfl|exact .inr (Nat.le_refl _)|exact .inr (by simp<;>omega))| (with_reducible refine Ag ?_ (by assumption))| (with_reducible refine Aa ?_ (by assumption))))).mono ?_;rintro e w1 ⟨v,rfl,hv,g1⟩;obtain⟨va,vc,rfl,_⟩:=id (AU hv);have hx1:=(Blk.alloc HX.out (.cells zeroE.toArray 27 (0,0))).gb g1 (by simp);have hy1:=HY.out.gb g1 (by simp);have g01:w.grownBy w1 none:=Aa (by repeat(first| (with_reducible exact Ac _ _)| (with_reducible assumption)| (with_reducible exact AX (by assumption))| (with_reducible refine Ad ?_ _)| (with_reducible refine Am ?_)| (with_reducible refine Ay ?_ _)| ((with_reducible refine Az ?_ _ _ ?h2);case h2=>first|exact .inl rfl|exact .inr (Nat.le_refl _)|exact .inr (by simp<;>omega))| (with_reducible refine Ag ?_ (by assumption))| (with_reducible refine Aa ?_ (by assumption)))) g1;have hsz:=g1.size;have hsz2:w.heap.size+2≤w1.heap.size:=by simpa using hsz
 have gs5:w1.grownBy (w1.setCell ⟨w.heap.size,5,none⟩ (.slice va h.p.length vc)) (some w.heap.size):=AH (Ac w1 (some w.heap.size)) 5 _;have gs6:(w1.setCell ⟨w.heap.size,5,none⟩ (.slice va h.p.length vc)).grownBy ((w1.setCell ⟨w.heap.size,5,none⟩ (.slice va h.p.length vc)).setCell ⟨w.heap.size,6,none⟩ (.slice none 0 0)) (some w.heap.size):=AH (Ac _ (some w.heap.size)) 6 _;have gs:=Aa gs5 gs6;have gW2:w.grownBy ((w1.setCell ⟨w.heap.size,5,none⟩ (.slice va h.p.length vc)).setCell ⟨w.heap.size,6,none⟩ (.slice none 0 0)) none:=A9 g01 gs (.inr (Nat.le_refl _));have HCK:=O (show CK (w.heap.size+2) w.heap.size h (.slice va h.p.length vc) (.slice none 0 0) .nil ((w1.setCell ⟨w.heap.size,5,none⟩ (.slice va h.p.length vc)).setCell ⟨w.heap.size,6,none⟩ (.slice none 0 0))from
  ⟨((hx1.set 5 _).set 6 _).of_eq rfl rfl,((AU hv).mono (ok':=frN (w.heap.size+2) (.slice none 0 0)) (fun q hq _=>⟨by simpa using hq,by simp[Value.ownBlock]⟩)).gb gs (fun q hq _ e=>by cases e;have:=hq.1;omega),⟨[],World.ownsRow_nil _ _ _ _,rfl⟩,by omega⟩)
 have HYB:=O (hy1.gb gs (by simp));have HG:=O gW2;obtain⟨cs,hcs,hrf⟩:=H0.out.1;obtain⟨_,_,e,_,hmx,_,hcc⟩:=hcs;cases e;have HR:=O hrf;have HCC:=O hcc;have hbl1:=hx1.lt;clear hv g01 gs5 gs6 gs gW2 hy1 x_0 x_1 x_2 x_3 x_4 x_5 x_6 x_f hrf hcc HX HY HC;obtain⟨y_0,y_1,y_2,y_3,y_4,y_5,y_6,y_f⟩:=(hx1).c7;clear hx1 g1;go_wp2_with fail;go_loopg [15] k.len (fun n v15 wr=>∃(i:Nat)(acc rf:Fo)(lv:Value),rf.len=n∧i+n=k.len∧v15= .int .i64 i∧acc.app rf=k∧acc.len=i∧CK (w.heap.size+2) w.heap.size h (.slice va h.p.length vc) lv acc wr∧Blk wr (w.heap.size+1) zeroE 27∧rf.wt≤k.wt∧rf.nodes≤k.nodes∧rf.fit∧RepF (fun _=>True) w rf (cs.drop (i*7))∧w.grownBy wr none)
 case atStart=>exact⟨0,.nil,k,.slice none 0 0,rfl,by omega,rfl,rfl,rfl,HCK.out,HYB.out,Nat.le_refl _,Nat.le_refl _,H0.out.2.2,by simpa using HR.out,HG.out⟩
 case round=>
  obtain⟨i,acc,rf,lv,hni,hk,rfl,hacc,hal,hck,hyb,hwt,hnd,hft,hrf,hgr⟩:=hrel;subst hal;obtain⟨aq,nq,rfl⟩:=hck.shape;have hb:=hck.blk;have hbl:=hb.lt;obtain⟨x_0,x_1,x_2,x_3,x_4,x_5,x_6,x_f⟩:=(hb).c7;clear hb HCK HYB HG HR y_0 y_1 y_2 y_3 y_4 y_5 y_6 y_f;cases rf with
  | nil=>
    have hkI:decide (acc.len<k.len)=false:=by simp[Fo.len]at hni;simp;omega
    have hak:k=acc:=by rw[EV]at hacc;exact hacc.symm
    subst hak;have hbz:=hyb.lt;have hyb2:=hyb;obtain⟨z0,z1,z2,z3,z4,z5,z6,zf⟩:=Blk.c7 hyb2;have HX:=O (Z hck (Z hyb hgr));clear hck hyb hyb2 hgr hrf hacc hni;go_wp2;have g7:=Ah wr (w.heap.size+1) (.int .i64 (Ex.mk h k).h.op) (str (Ex.mk h k).h.s) (.int .i64 (Ex.mk h k).h.vk) (.int .i64 (Ex.mk h k).h.vn) (str (Ex.mk h k).h.vs) (.slice va (Ex.mk h k).h.p.length vc) (.slice aq (Ex.mk h k).kids.len nq);exact bodyPost_ret (Al (hd:=h) (pv:= .slice va h.p.length vc) (lv:= .slice aq k.len nq) rfl _ (HX.out.2.1.set7 (.int .i64 (Ex.mk h k).h.op) (str (Ex.mk h k).h.s) (.int .i64 (Ex.mk h k).h.vk) (.int .i64 (Ex.mk h k).h.vn) (str (Ex.mk h k).h.vs) (.slice va (Ex.mk h k).h.p.length vc) (.slice aq (Ex.mk h k).kids.len nq)) rfl) rfl ⟨_,rfl,HX.out.1.ve g7 (by omega) (by omega),A9 HX.out.2.2 g7 (.inr (by omega))⟩
  | cons h1 k1 n1=>
    simp only[Fo.len]at hni;simp only[Fo.wt]at hwt;simp only[Fo.nodes]at hnd;subst hni;have hkI:decide (acc.len<k.len)=true:=by simp;omega
    have hkf:acc.len+1≤k.len:=by omega
    obtain⟨g1,o1,pa1,pc1,lb1,ld1,rfl,hp1,hl1,hx1,hkid⟩:=C6 (k:=acc.len) (n:=k.len) (lc:=lc) HCC.out hrf;have HE1:=O (fun(W:World)(g:wr.grownBy W none)=>H0.out.2.1 h1 k1 (by omega) hft.1 hft.2.1 (by omega) W pa1 lb1 pc1 ld1 (hp1.gb (Aa hgr g) (by simp)) (hl1.gb (Aa hgr g) (by simp)));have hkid2:=hkid.gb' hgr;have hgl:=hkid2.1;obtain⟨z0,z1,z2,z3,z4,z5,z6⟩:=hkid2.c7;have hown0:=hck.own;have hacc2:(acc.snoc ⟨h1,k1⟩).app n1=k:=by rw[EW];exact hacc
    obtain⟨i0,hi0,hz0,hz1,hz2⟩:=info_parts CM;have HI:=O (Z hi0 (Z hz0 (Z hz1 hz2)));have HN:=O (Z hck (Z hyb (Z hgr (Z hacc2 (Z hft.2.2 (Z hx1 hown0))))));have hws:=hgr.size;clear hck hyb hgr hacc2 hacc hft hx1 hp1 hl1 hkid hkid2 hrf hown0 hi0 hz0 hz1 hz2;go_wp2_with fail;go_region_law(first
     | (refine step_append_lies _ (by rfl) _ _ 25 (by rfl) (w.heap.size+2) 27 i0 _ 7 104 underlying25 HI.out.1 HI.out.2.1 HI.out.2.2.1 HI.out.2.2.2 rfl (by decide) (.slice aq acc.len nq) acc.len cs5 (by rfl) HA.out.2.1 ⟨w5.heap.size,0,none⟩ 1 1 (hdC h1 (.slice pa5 h1.p.length pc5) (.slice la5 k1.len lc5)) (by rfl) rfl (BZ _ _ _) (by simp[hdC,Value.oneCell']) (by decide) (by unfold maxLen;omega) (by omega) (by have:=HA.out.2.2.2.2.2;simp;omega) _ rfl ?_;intro j cap w7 hown hgrow hat hlt;(have hck7:=HA.out.1.append (x:=⟨h1,k1⟩) HA.out.2.2.1 HA.out.2.2.2.1 HA.out.2.2.2.2.1 hown hgrow hat);(have hb7:=HA.out.1.blk.gb hgrow (fun e=>by have:=HA.out.1.own _ e.symm;omega));(have l7:=hb7.lt);obtain⟨s_0,s_1,s_2,s_3,s_4,s_5,s_6,s_f⟩:=(hb7).c7;(have HO:=O (Z hck7 (Z hown hgrow)));clear hck7 hb7 hown hgrow hat)
     | (go_simp;go_at_call 26;refine(HE1.out _ (by repeat(first| (with_reducible exact Ac _ _)| (with_reducible assumption)| (with_reducible exact AX (by assumption))| (with_reducible refine Ad ?_ _)| (with_reducible refine Am ?_)| (with_reducible refine Ay ?_ _)| ((with_reducible refine Az ?_ _ _ ?h2);case h2=>first|exact .inl rfl|exact .inr (Nat.le_refl _)|exact .inr (by simp<;>omega))| (with_reducible refine Ag ?_ (by assumption))| (with_reducible refine Aa ?_ (by assumption))))).mono ?_;rintro e w5 ⟨v5,rfl,⟨pa5,pc5,la5,lc5,rfl,q1,q2⟩,g5⟩;(have g5':wr.grownBy w5 none:=Aa (by repeat(first| (with_reducible exact Ac _ _)| (with_reducible assumption)| (with_reducible exact AX (by assumption))| (with_reducible refine Ad ?_ _)| (with_reducible refine Am ?_)| (with_reducible refine Ay ?_ _)| ((with_reducible refine Az ?_ _ _ ?h2);case h2=>first|exact .inl rfl|exact .inr (Nat.le_refl _)|exact .inr (by simp<;>omega))| (with_reducible refine Ag ?_ (by assumption))| (with_reducible refine Aa ?_ (by assumption)))) g5);(have hck5:=HN.out.1.gb g5');(have hb5:=hck5.blk);(have hbl5:=hb5.lt);(have gA:=World.grownBy_alloc w5 (.cells (hdC h1 (.slice pa5 h1.p.length pc5) (.slice la5 k1.len lc5)).toArray 27 (0,0)) none);(have hck6:=hck5.gb gA);(obtain⟨cs5,ho5,hr5⟩:=hck6.row);(have hfr:∀q,wr.heap.size≤q→frN (w.heap.size+2) (.slice aq acc.len nq) q:=fun q hq=>⟨by have:=(HN.out.2.1).lt;omega,fun e=>by have:=(HN.out.2.2.2.2.2.2 q e).2;omega⟩);(have HA:=O (Z hck6 (Z ho5 (Z hr5 (Z ((q1.mono (ok':=frN (w.heap.size+2) (.slice aq acc.len nq)) (fun q hq _=>hfr q (by have:wr.heap.size+1≤q:=(by simpa using hq);omega))).gb gA (by simp)) (Z ((q2.mono (ok':=frN (w.heap.size+2) (.slice aq acc.len nq)) (fun q hq _=>hfr q (by have:wr.heap.size+1≤q:=(by simpa using hq);omega))).gb gA (by simp)) g5'.size))))));(have HG5:=O (Aa g5' gA));obtain⟨u_0,u_1,u_2,u_3,u_4,u_5,u_6,u_f⟩:=(hb5).c7;clear hck5 hb5 gA hck6 ho5 hr5 hfr q1 q2 g5 g5'))
    all_goals
     go_wp2;go_roundg n1.len
     case measure=>omega
     case rel=>
      have hl9:=(HN.out.2.1).lt;have gs:w7.grownBy (w7.setCell ⟨w.heap.size,6,none⟩ (.slice (some ⟨j,0,none⟩) (acc.len+1) cap)) (some w.heap.size):=AH (Ac w7 (some w.heap.size)) 6 _;have gr7:=Dq HA.out.2.1 (Aa HN.out.2.2.1 HG5.out) HO.out.2.2 (by omega);exact⟨acc.len+1,acc.snoc ⟨h1,k1⟩,n1,(.slice (some ⟨j,0,none⟩) (acc.len+1) cap),rfl,by omega,by go_num,HN.out.2.2.2.1,by rw[Fo.len_snoc],HO.out.1,(JZ HA.out.2.1 (HN.out.2.1.gb HG5.out (by simp)) HO.out.2.2 (by omega)).gb gs (by simp),by omega,by omega,HN.out.2.2.2.2.1,HN.out.2.2.2.2.2.1,A9 gr7 gs (.inr (Nat.le_refl _))⟩
end
theorem Fq:∀f:Fo,f.len≤f.nodes:=by
 intro f;induction f with
 |nil=>exact Nat.le_refl _
 |cons h k n _ ih=>simp only[Fo.len,Fo.nodes];omega
theorem PA:∀(N:Nat)(h:Hd)(k:Fo),k.wt<N→h.fit→k.fit→k.nodes≤1000000→CpC h k:=by
 intro N;induction N with
 |zero=>intro h k hN;omega
 | succ N ih=>
   intro h k hN h1 h2 hn W pa la pc lc hp hr;have:=Fq k;have h3:=h1.2.2.1;exact LB hp hr (by omega) (by omega) (fun a k2 hw ha hk hnk=>ih a k2 (by omega) ha hk (by omega)) h2
theorem Ns{w:World}{v:Value}{x:Ex}{ok:Nat→Prop}(hx:VE ok w v x)(h1:x.h.fit)(h2:x.kids.fit)(hn:x.kids.nodes≤1000000):
 Calls Tryz.prog 26 #[v] w fun e w'=>∃u,e= .returned u∧VE (A8 w.heap.size) w' u x∧w.grownBy w' none:=by
 obtain⟨pa,pc,la,lc,rfl,hp,hl⟩:=hx;exact PA _ x.h x.kids (Nat.lt_succ_self _) h1 h2 hn w pa la pc lc (hp.mono fun _ _ _=>trivial) (hl.mono fun _ _ _=>trivial)
end Go.Proofs.YtgjdhajcnechdaaGreatDoor
