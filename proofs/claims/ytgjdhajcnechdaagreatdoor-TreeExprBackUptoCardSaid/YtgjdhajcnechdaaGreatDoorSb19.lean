/-
  Contracts of the statement parser: a program of one statement that sets a value. syntax.Program at a program of one statement that sets a value. slices.Grow at rows of expressions: the shelf's law lai
-/
import Derived.Test.YtgjdhajcnechdaaGreatDoorSb18
import Derived.Test.YtgjdhajcnechdaaGreatDoorPlain
import Derived.Shelf.Spec.SlicesGrow
import Derived.Laws.AppendOwnNone
import Derived.Lib.MapLaws
set_option linter.all false
set_option maxRecDepth 100000
set_option maxHeartbeats 8000000
namespace Go.Proofs.YtgjdhajcnechdaaGreatDoor
open Go.Proofs.Tryz
open Go.RowKit
section
variable {b:Nat}{tv wv:Value}{l:List Tok}{wl:List Bs}
abbrev mainL:Bs:=[77,65,73,78]
def SetProg(B:Nat)(w:World)(v:Value)(t x:Ex):Prop:=∃kP bv,v= .slice (some ⟨kP,0,none⟩) 1 1∧B≤kP∧Blk w kP [str mainL,.bool false,.slice none 0 0,bv] 51∧SetRow B w bv t x
theorem SetProg.gb{B:Nat}{w w1:World}{v:Value}{t x:Ex}{r:Option Nat}(h:SetProg B w v t x)(g:w.grownBy w1 r)(hr:∀q,r=some q→q<B):SetProg B w1 v t x:=by
 obtain⟨kP,bv,e,hB,hb,hs⟩:=h;exact⟨kP,bv,e,hB,hb.gb g (fun e=>by have:=hr _ e.symm;omega),hs.gb g hr⟩
theorem IE{w:World}{i:Nat}{t x:Ex}(hp:Par w b tv wv l wl i)
 (hB:Calls Tryz.prog 140 #[.pointer (some ⟨b,0,none⟩)] w fun e w'=>∃v,e= .returned v∧SetRow w.heap.size w' v t x∧Par w' b tv wv l wl l.length∧w.grownBy w' (some b)):
 Calls Tryz.prog 91 #[.pointer (some ⟨b,0,none⟩)] w fun e w'=>∃v,e= .returned v∧SetProg w.heap.size w' v t x∧Par w' b tv wv l wl l.length∧w.grownBy w' (some b):=by
 have hb:=hp.lt;have HB:=I hB;obtain⟨ta,tc,rfl⟩:=hp.tv_eq;clear hB;go_enter func91,ntmps91;go_wp2_with fail;refine HB.out.mono ?_;rintro e w1 ⟨bv,rfl,hS,hpar,g1⟩;obtain⟨a0,n0,c0,rfl⟩:∃a n c,bv= .slice a n c:=by
  obtain⟨la,lc,⟨_,h| ⟨g,cap,cur,rfl,_⟩⟩,_⟩:=hS
  ·exact absurd h.2 (by decide)
  ·exact⟨_,_,_,rfl⟩
 have gN:=World.grownBy_alloc w1 (.cells #[str mainL,.bool false,.slice none 0 0,.slice a0 n0 c0] 51 (0,0)) none;have hS2:=hS.gb gN (by simp);have hBk:=Blk.new w1 [str mainL,.bool false,.slice none 0 0,.slice a0 n0 c0] 51;have hs1:=g1.size;have hpar2:=hpar.gbN gN;have d0:=hpar2.c0;have d1:=hpar2.c1;have HF:=I (X (show SetProg w.heap.size _ (.slice (some ⟨w1.heap.size,0,none⟩) 1 1) t x from⟨_,_,rfl,hs1,hBk,hS2⟩) (X hpar2 (Ae g1 gN)));clear hS hS2 hBk gN hpar hpar2 hp;have hd:decide ((l.length:Int)<(l.length:Int))=false:=by simp
 go_wp2_with fail;go_loopg [3] 1 (fun _ v wr=>v= .slice (some ⟨w1.heap.size,0,none⟩) 1 1∧wr=(w1.alloc (.cells #[str mainL,.bool false,.slice none 0 0,.slice a0 n0 c0] 51 (0,0))))
 case atStart=>exact⟨rfl,rfl⟩
 case round=>
  obtain⟨rfl,rfl⟩:=hrel;go_wp2_with fail;go_quiet(fail);go_wp2;go_ret;exact⟨_,rfl,HF.out.1.gb (AH (Ac _ none) _) (by simp),HF.out.2.1.drewN _,AH HF.out.2.2 _⟩
def GT(k:Nat)(w:World):Prop:=∃a n c,Blk w k [.slice a n c] 46
def GL(k:Nat)(B:Nat)(w:World)(tx:Ex×Ex):Prop:=∃v,Blk w k [v] 46∧SetProg B w v tx.1 tx.2
theorem Ia{w:World}{k:Nat}{t x:Ex}(hp:Par w b tv wv l wl 0)(hk:Blk w k [.slice none 0 0] 46)(hkb:k<b)(ht:TRow w tv l (· < k))(hs:SRow w wv wl (fun g=>k<g∧g<b))
 (hB:Calls Tryz.prog 91 #[.pointer (some ⟨b,0,none⟩)] w fun e w'=>∃v,e= .returned v∧SetProg w.heap.size w' v t x∧Par w' b tv wv l wl l.length∧w.grownBy w' (some b)):
 Calls Tryz.prog 90 #[.pointer (some ⟨b,0,none⟩),.pointer (some ⟨k,0,none⟩)] w (EC b k w (GT k) (GL k) (.ok (t,x) l.length)):=by
 have hb:=hp.lt;have HB:=I hB;clear hB;go_enter func90,ntmps90;go_wp2_with fail;refine HB.out.mono ?_;rintro e w1 ⟨v,rfl,⟨kP,bv,rfl,hP⟩,hpar,g1⟩;have hk1:=hk.gb g1 (by simp;omega);have k0:=hk1.cell 0;have kf:=hk1.frozen 0;simp only[List.getElem?_cons_zero]at k0;have hs1:=g1.size;have HF:=I (X hP (X hpar hk1));clear hP hpar hk1;go_wp2;have gS:w1.grownBy (w1.setCell ⟨k,0,none⟩ (.slice (some ⟨kP,0,none⟩) 1 1)) (some k):=Ax (Ac _ _) _ _ (.inl rfl);have hk2:=HF.out.2.2.set 0 (.slice (some ⟨kP,0,none⟩) 1 1);refine⟨rfl,.tuple #[],by simp[results,results90,go_sem],(Grown2.of g1 (.inr (.inl rfl))).trans (Grown2.of gS (.inr (.inr rfl))),⟨_,_,_,hk2⟩,rfl,⟨_,hk2,?_⟩,?_⟩
 ·exact SetProg.gb (w:=w1) (r:=some k) ⟨kP,bv,rfl,HF.out.1⟩ gS (by intro q e;cases e;omega)
 ·exact Bw gS HF.out.2.1.c1 (by simp;omega)
end
theorem SetProg.mono{B B':Nat}{w:World}{v:Value}{t x:Ex}(h:SetProg B w v t x)(hB:B'≤B):SetProg B' w v t x:=by
 obtain⟨kP,bv,e,hk,hb,la,lc,⟨hn,ho⟩,hl⟩:=h;refine⟨kP,bv,e,by omega,hb,la,lc,⟨hn,?_⟩,hl.mono fun q hq _=>Nat.le_trans hB hq⟩;rcases ho with h| ⟨g,cap,cur,h1,h2,h3⟩
 ·exact .inl h
 ·exact .inr ⟨g,cap,cur,h1,by omega,h3⟩
theorem Lg(k:Nat)(v:Value)(w:World):(callFunc 90 (#[v]++#[.pointer (some ⟨k,0,none⟩)])).run Tryz.prog w= .ok (.enter 90 (#[v]++#[.pointer (some ⟨k,0,none⟩)])) w:=by kernel_rfl
theorem Lz{w:World}(hg:Glob w){tv:Value}{l:List Tok}{day:Bs→Int}(hl:C2 day l)(ht:TRow w tv l (fun _=>True))(hlen:l.length≤4001)(n:Nat)
 (hk:(Z l 0).kind=0) (hs:Ad (Z l 1) [61]=true) {t x:Ex} {j k:Nat} (htg:CG l (Ap l day n) 0= .ok t j) (hs2:Ad (Z l j) [61]=true) (he:Ap l day n (j+1)= .ok x k) (hend:BZ l k= .ok () (k+1)) (hle:k+1=l.length):
 Calls Tryz.prog 49 #[tv] w fun e w'=>∃v,e= .returned (.tuple #[v,.int .i64 (-1)])∧SetProg w.heap.size w' v t x∧w.grownBy w' none:=by
 have hmf:∀(fn:Fn)(first cap:Array Value)(w:World),(Instr.makeFunc fn first cap).run Tryz.prog w= .ok (.func fn first cap) w:=fun _ _ _ _=>rfl;have hK:=Blk.new w [.slice none 0 0] 46;have g0:=World.grownBy_alloc w (.cells [.slice none 0 0].toArray 46 (0,0)) none;have ht0:=(ht.mono (ok':=fun g=>g<w.heap.size) (fun k _ h=>h)).gb g0 (by simp);have hg0:=hg.gb g0 (by simp);have hK0:=hK.lt;have hw0:0<w.heap.size:=by
  unfold Glob Lib.TabIs World.var? at hg;simp only[Dy,Option.bind_some]at hg;rcases Nat.lt_or_ge 0 w.heap.size with h' |h'
  ·exact h'
  ·rw[Array.getElem?_eq_none h']at hg;simp at hg
 have hBL:∀w1 b wv,Glob w1→0<b→Par w1 b tv wv l wordsL 0→Calls Tryz.prog 140 #[.pointer (some ⟨b,0,none⟩)] w1 fun e w'=>∃v,e= .returned v∧SetRow w1.heap.size w' v t x∧Par w' b tv wv l wordsL l.length∧w1.grownBy w' (some b):=
  fun w1 b wv hg1 hb1 hp1=>JZ (Gn hl n) hl.short hg1 hb1 hp1 hk hs htg hs2 he hend hle (by omega)
 have H:=I hBL;clear hBL hk hs htg hs2 he hend hg hl;go_enter func49,ntmps49;go_wp2_with fail;refine(GK (k:=w.heap.size) hg0 (ht0.mono (fun _ _ _=>trivial)) hlen 90 #[.pointer (some ⟨w.heap.size,0,none⟩)] (Lg _) (.ok (t,x) l.length) hK0 (GT w.heap.size) ?_ (GL w.heap.size) ?_ ?_).mono ?_
 ·rintro w2 w3 r ⟨a,n,c,h⟩ g hr;exact⟨a,n,c,h.gb g (by simp at hr ⊢;omega)⟩
 ·rintro B w2 w3 a r ⟨v,hb,hv⟩ g hr hB;exact⟨v,hb.gb g (by simp at hr ⊢;omega),hv.gb g (by intro q e;cases e;exact hB)⟩
 ·intro w1 b wv g1 hb1 hp hs;simp at hb1;exact Ia hp (hK.gb g1 (by simp)) (by omega) ((ht0.gb g1 (by simp)).mono (fun q hq _=>hq)) (hs.mono (fun q hq _=>⟨by have:=hq.1;simp at this;omega,hq.2⟩)) (IE hp (H.out _ _ _ (hg0.gb g1 (by simp)) (by omega) hp))
 rintro e w1 ⟨rfl,g1,_,hV⟩;obtain⟨B,hB,v,hb,hv⟩:=hV _ _ rfl;obtain⟨kP,bv,rfl,hP⟩:=hv;have k0:=hb.cell 0;simp only[List.getElem?_cons_zero]at k0;have hla:BC l (.ok (t,x) l.length:Res (Ex×Ex))= -1:=by simp[BC]
 have HF:=I (X hP hB);rw[hla];clear hP hV;go_wp2;exact bodyPost_ret (v:= .tuple #[.slice (some ⟨kP,0,none⟩) 1 1,.int .i64 (-1)]) (by simp[results,results49,go_sem]) rfl ⟨_,rfl,SetProg.mono ⟨kP,bv,rfl,HF.out.1⟩ (by have:=HF.out.2;simp at this;omega),AN g0 g1 (.inr (Nat.le_refl _))⟩
theorem Ms(n:Nat)(h0:0<n)(hn:n≤1000000)(w:World):Calls Tryz.prog 224 #[.slice none 0 0,.int .i64 n] w fun e w'=>∃v,e= .returned v∧w'.ownsRow w.heap.size 27 7 v 0 []∧w.grownBy w' none:=by
 obtain⟨i0,hi,hz0,hz1,hz2⟩:=info_parts CX;refine(Any8.slices_Grow_grow growExpr i0 _ hi hz0 (by rw[hz1];decide) none 0 0 n [] w (Nat.le_refl _) (by omega) (by rw[hz2];omega) (by omega) (by simp) (fun _=>rfl) (by simp)).mono ?_;rintro e w' ⟨rfl,rfl⟩;refine⟨_,rfl,?_,?_⟩
 ·refine⟨rfl,.inr ⟨w.heap.size,_,_,rfl,Nat.le_refl _,heap_alloc_new _ _,Nat.zero_le _,?_,?_,?_⟩⟩
  ·exact grownCap_le_maxLen _ _ _ _ (by unfold maxLen;omega)
  ·have hge:=grownCap_ge w (0+n) 0 (Tryz.growExpr_ren.t 25);generalize grownCap w (0+n) 0 (Tryz.growExpr_ren.t 25)=c at*;rw[Array.size_append,Array.size_append,size_zeroCells,size_zeroCells];have e7:(Value.agg #[Value.int .i64 0,str [],Value.int .i64 0,Value.int .i64 0,str [],Value.slice none 0 0,Value.slice none 0 0]).cells.size=7:=rfl;rw[e7];simp;omega
  ·simp
 ·exact Aa (Aj (Ac _ _)) _
theorem RepF.one{ok:Nat→Prop}{w:World}:∀{f:Fo}{cs:List Value},RepF ok w f cs→cs.length=f.len*7∧∀u∈cs,u.oneCell'=true:=by
 intro f;induction f with
 |nil=>rintro cs rfl;simp[Fo.len]
 | cons hd kids next ih1 ih2=>
   rintro cs ⟨pv,lv,kcs,rest,rfl,h1,h2,h3,h4⟩;obtain⟨pa,pc,rfl,_⟩:=h1;obtain⟨la,lc,rfl,_⟩:=h2;have:=ih2 h4;refine⟨by simp[hdC,Fo.len,this.1];omega,?_⟩;intro u hu;rcases List.mem_append.1 hu with h|h
   ·simp[hdC]at h;rcases h with rfl|rfl|rfl|rfl|rfl|rfl|rfl<;>rfl
   ·exact this.2 u h
theorem RepL.open{ok:Nat→Prop}{w:World}{la:Option Addr}{n lc:Nat}{f:Fo}(h:RepL ok w (.slice la n lc) f)(hf:0<f.len):
 ∃g o cs,la=some ⟨g,o,none⟩∧RepF ok w f cs∧cs.length=f.len*7∧(∀u∈cs,u.oneCell'=true)∧∀j u,cs[j]? =some u→w.cell? ⟨g,o+j,none⟩=some u:=by
 obtain⟨cs,⟨la',lc',e,_,_,hl,hc⟩,hF⟩:=h;cases e;have h1:=hF.one;cases cs with
 |nil=>simp at h1;omega
 | cons c0 cs'=>
   obtain⟨g,o,e,_,_⟩:=hc 0 c0 rfl;subst e;refine⟨g,o,_,rfl,hF,h1.1,h1.2,fun j u hj=>?_⟩;obtain⟨g',o',e',_,hcell⟩:=hc j u hj;cases e';exact hcell
theorem Jp{w:World}{R lc:Nat}{la:Option Addr}{ok:Nat→Prop}{f:Fo}(h0:w.cell? ⟨R,0,none⟩=some (.slice la 2 lc))(h1:w.cell? ⟨R,1,none⟩=some (.slice none 0 0))(h2:w.cell? ⟨R,2,none⟩=some (.slice none 0 0))(h3:w.cell? ⟨R,3,none⟩=some (.slice none 0 0))
 (hf:f.len=2) (hrep:RepL ok w (.slice la 2 lc) f):
 Calls Tryz.prog 187 #[.slice (some ⟨R,0,none⟩) 4 4] w fun e w'=>∃v cs,e= .returned v∧w'.ownsRow w.heap.size 27 7 v 2 cs∧RepF ok w' f cs∧w.grownBy w' none:=by
 obtain⟨G,o,cs,rfl,hF,hlen,hone,hat⟩:=hrep.open (by omega);rw[hf]at hlen;have HC:=I (X h0 (X h1 (X h2 h3)));have HR:=I (X hF (X hlen (X hone hat)));clear hf hrep hF hlen hone hat;go_enter func187,ntmps187;go_wp2_with fail;go_loopg [3,11] 5 (fun g v3 v11 wr=>∃k:Nat,k+g=5∧k≤4∧v11= .int .i64 k∧v3= .int .i64 (if k=0 then 0 else 2)∧wr=w)
 case atStart=>exact⟨0,rfl,by omega,rfl,rfl,rfl⟩
 case round=>
  obtain⟨k,hg,hk,rfl,rfl,hw⟩:=hrel;have hw':=hw.symm;clear hw;subst hw';have hcases:k=0∨k=1∨k=2∨k=3∨k=4:=by omega
  rcases hcases with rfl|rfl|rfl|rfl|rfl
  ·go_wp2_with fail;go_roundg 4
   case measure=>omega
   case rel=>exact⟨1,by omega,by omega,rfl,rfl,rfl⟩
  ·go_wp2_with fail;go_roundg 3
   case measure=>omega
   case rel=>exact⟨2,by omega,by omega,rfl,rfl,rfl⟩
  ·go_wp2_with fail;go_roundg 2
   case measure=>omega
   case rel=>exact⟨3,by omega,by omega,rfl,rfl,rfl⟩
  ·go_wp2_with fail;go_roundg 1
   case measure=>omega
   case rel=>exact⟨4,by omega,by omega,rfl,rfl,rfl⟩
  ·go_wp2_with fail;refine(Ms 2 (by decide) (by decide) _).mono ?_;rintro e w1 ⟨v,rfl,hO,g1⟩;have d0:=Ab g1 h0;have d1:=Ab g1 h1;have d2:=Ab g1 h2;have d3:=Ab g1 h3;have hs1:=g1.size;have HO:=I (X hO g1);clear hO g1 h0 h1 h2 h3;go_wp2_with fail;go_loopg [6,27] 5 (fun g v6 v27 w2=>∃k:Nat,k+g=5∧k≤4∧v27= .int .i64 k∧((k=0∧v6=v∧w2=w1)∨(k≠0∧∃cs,w2.ownsRow w.heap.size 27 7 v6 2 cs∧RepF ok w2 f cs∧w.grownBy w2 none)))
   case atStart=>exact⟨0,rfl,by omega,rfl,.inl ⟨rfl,rfl,rfl⟩⟩
   case round=>
    obtain⟨k,hg2,hk2,rfl,hc⟩:=hrel;have hcases:k=0∨k=1∨k=2∨k=3∨k=4:=by omega
    rcases hcases with rfl|rfl|rfl|rfl|rfl
    ·rcases hc with⟨_,rfl,rfl⟩| ⟨h,_⟩
     ·obtain⟨i0,hi0,hz0,hz1,hz2⟩:=info_parts CX;have HI:=I (X hi0 (X hz0 (X hz1 hz2)));clear hi0 hz0 hz1 hz2;have hat1:∀j u,cs[j]? =some u→wr.cell? ((⟨G,o,none⟩:Addr).add j)=some u:=by
       intro j u hj;have e:(⟨G,o,none⟩:Addr).add j=⟨G,o+j,none⟩:=by unfold Addr.add;split<;>simp_all
       rw[e];exact Ab HO.out.2 (HR.out.2.2.2 j u hj)
      have HA:=I hat1;clear hat1;go_wp2_with (at_builtin;obtain⟨hi0,hz0,hz1,hz2⟩:=HI.out;have hown:=HO.out.1;refine Dg rfl _ _ 25 rfl w.heap.size 27 i0 _ 7 104 underlying25 hi0 hz0 hz1 hz2 rfl (by decide) _ _ _ rfl hown ⟨G,o,none⟩ 2 lc cs rfl HR.out.2.1 HA.out HR.out.2.2.1 (by decide) (by decide) hs1 ?_;intro v' w5 hown5 g5 hn5;clear hi0 hz0 hz1 hz2 hown);have gW:w.grownBy w5 none:=by
       have hlt:=HO.out.1.lt;cases hv:u6.ownBlock with
       | none=>
         have g5':World.grownBy wr w5 u6.ownBlock:=g5;rw[hv]at g5';exact O HO.out.2 g5'
       | some k=>
         have g5':World.grownBy wr w5 u6.ownBlock:=g5;rw[hv]at g5';exact AN HO.out.2 g5' (.inr (hlt k hv).1)
      have HO5:=I (X hown5 (X (RepF.gb gW (by simp) HR.out.1) gW));clear hown5 gW;go_roundg 4
      case measure=>omega
      case rel=>exact⟨1,by omega,by omega,rfl,.inr ⟨by decide,cs,HO5.out.1,HO5.out.2.1,HO5.out.2.2⟩⟩
     ·exact absurd rfl h
    ·rcases hc with⟨h,_⟩| ⟨_,cs2,hO2,hF2,g2⟩
     ·exact absurd h (by decide)
     have HO2:=I (X hO2 (X hF2 g2));have e0:=Ab g2 HC.out.1;have e1:=Ab g2 HC.out.2.1;have e2:=Ab g2 HC.out.2.2.1;have e3:=Ab g2 HC.out.2.2.2;clear hO2 hF2 g2;obtain⟨i0,hi0,hz0,hz1,hz2⟩:=info_parts CX;have HI:=I hi0;clear hi0 hz0 hz1 hz2;go_wp2_with (at_builtin;have hi0:=HI.out;have hown:=HO2.out.1;refine wpList_append_own_none rfl _ _ 25 rfl w.heap.size 27 i0 7 underlying25 hi0 _ _ _ rfl hown rfl ?_;clear hi0 hown);go_roundg 3
     case measure=>omega
     case rel=>exact⟨2,by omega,by omega,rfl,.inr ⟨by decide,cs2,HO2.out.1,HO2.out.2.1,HO2.out.2.2⟩⟩
    ·rcases hc with⟨h,_⟩| ⟨_,cs2,hO2,hF2,g2⟩
     ·exact absurd h (by decide)
     have HO2:=I (X hO2 (X hF2 g2));have e0:=Ab g2 HC.out.1;have e1:=Ab g2 HC.out.2.1;have e2:=Ab g2 HC.out.2.2.1;have e3:=Ab g2 HC.out.2.2.2;clear hO2 hF2 g2;obtain⟨i0,hi0,hz0,hz1,hz2⟩:=info_parts CX;have HI:=I hi0;clear hi0 hz0 hz1 hz2;go_wp2_with (at_builtin;have hi0:=HI.out;have hown:=HO2.out.1;refine wpList_append_own_none rfl _ _ 25 rfl w.heap.size 27 i0 7 underlying25 hi0 _ _ _ rfl hown rfl ?_;clear hi0 hown);go_roundg 2
     case measure=>omega
     case rel=>exact⟨3,by omega,by omega,rfl,.inr ⟨by decide,cs2,HO2.out.1,HO2.out.2.1,HO2.out.2.2⟩⟩
    ·rcases hc with⟨h,_⟩| ⟨_,cs2,hO2,hF2,g2⟩
     ·exact absurd h (by decide)
     have HO2:=I (X hO2 (X hF2 g2));have e0:=Ab g2 HC.out.1;have e1:=Ab g2 HC.out.2.1;have e2:=Ab g2 HC.out.2.2.1;have e3:=Ab g2 HC.out.2.2.2;clear hO2 hF2 g2;obtain⟨i0,hi0,hz0,hz1,hz2⟩:=info_parts CX;have HI:=I hi0;clear hi0 hz0 hz1 hz2;go_wp2_with (at_builtin;have hi0:=HI.out;have hown:=HO2.out.1;refine wpList_append_own_none rfl _ _ 25 rfl w.heap.size 27 i0 7 underlying25 hi0 _ _ _ rfl hown rfl ?_;clear hi0 hown);go_roundg 1
     case measure=>omega
     case rel=>exact⟨4,by omega,by omega,rfl,.inr ⟨by decide,cs2,HO2.out.1,HO2.out.2.1,HO2.out.2.2⟩⟩
    ·rcases hc with⟨h,_⟩| ⟨_,cs2,hO2,hF2,g2⟩
     ·exact absurd h (by decide)
     have HO2:=I (X hO2 (X hF2 g2));clear hO2 hF2 g2;go_wp2;go_ret;exact⟨_,cs2,rfl,HO2.out.1,HO2.out.2.1,HO2.out.2.2⟩
structure SzS(ok:Nat→Prop)(w v:World)(la:Option Addr)(lc:Nat)(f rest:Fo)(cs:List Value)(k n m:Nat)(wr:World):Prop where
 len:f.len=k+rest.len
 row:RepF ok v rest (cs.drop (k*7))
 nodes:n+rest.nodes=1+f.nodes
 levels:max m (1+rest.levels)=1+f.levels
 pos:1≤m∧1≤n
 st:Blk wr w.heap.size (stC 0 (.slice la 2 lc)) 56
 acc:Blk wr (w.heap.size+2) [.int .i64 n,.int .i64 m] 61
 res:Blk wr (w.heap.size+1) [.int .i64 0,.int .i64 0] 61
 g:w.grownBy wr none
 gv:v.grownBy wr (some (w.heap.size+2))
theorem SzS.next{ok:Nat→Prop}{w v:World}{la:Option Addr}{lc:Nat}{f kids next:Fo}{h':Hd}{cs:List Value}{k n m:Nat}{wr w1:World}(h:SzS ok w v la lc f (.cons h' kids next) cs k n m wr)
 (hst:Blk w1 w.heap.size (stC 0 (.slice la 2 lc)) 56) (hacc:Blk w1 (w.heap.size+2) [.int .i64 ((n+(1+kids.nodes):Nat):Int),.int .i64 ((max m (1+kids.levels+1):Nat):Int)] 61) (hres:Blk w1 (w.heap.size+1) [.int .i64 0,.int .i64 0] 61) (g:w.grownBy w1 none) (gv:v.grownBy w1 (some (w.heap.size+2))):
 SzS ok w v la lc f next cs (k+1) (n+(1+kids.nodes)) (max m (1+kids.levels+1)) w1:=by
 have h1:=h.len;have h3:=h.nodes;have h4:=h.levels;have h5:=h.pos;simp only[Fo.len,Fo.nodes,Fo.levels]at h1 h3 h4;refine⟨by omega,?_,by omega,by omega,⟨by omega,by omega⟩,hst,hacc,hres,g,gv⟩;obtain⟨pv,lv,kcs,rcs,hcs,_,_,_,hn⟩:=h.row;have e:cs.drop ((k+1)*7)=rcs:=by
  rw[show(k+1)*7=k*7+7 by omega,←List.drop_drop,hcs];exact List.drop_left' rfl
 rw[e];exact hn
abbrev Ef(w:World)(la:Option Addr)(lc:Nat):World:=(((w.alloc (.cells (stC 0 (.slice la 2 lc)).toArray 56 (0,0))).alloc (.cells #[.int .i64 0,.int .i64 0] 61 (0,0))).alloc (.cells #[.int .i64 1,.int .i64 1] 61 (0,0))).alloc (.cells #[.slice la 2 lc,.slice none 0 0,.slice none 0 0,.slice none 0 0] 25 (0,0))
theorem stmtW_blk{w:World}{la:Option Addr}{lc:Nat}:Blk (Ef w la lc) (w.heap.size+1+1+1) [.slice la 2 lc,.slice none 0 0,.slice none 0 0,.slice none 0 0] 25:=
 (Blk.new _ [.slice la 2 lc,.slice none 0 0,.slice none 0 0,.slice none 0 0] _).of_eq (by simp) rfl
theorem LV(w:World)(la:Option Addr)(lc:Nat):w.grownBy (Ef w la lc) none:=Aa (Aa (Aa (World.grownBy_alloc w _ none) _) _) _
theorem JK{ok:Nat→Prop}{w:World}{la:Option Addr}{lc:Nat}{f:Fo}(hf:f.len=2)(hn:f.nodes≤1000000)(hrep:RepL ok w (.slice la 2 lc) f):
 Calls Tryz.prog 145 #[.agg (stC 0 (.slice la 2 lc)).toArray] w fun e w'=>e= .returned (szV ((1+f.nodes:Nat):Int) ((1+f.levels:Nat):Int))∧w.grownBy w' none:=by
 replace hrep:=hrep.mono (ok':=fun q=>q<w.heap.size) (fun _ _ h=>h);clear ok;have gW:=LV w la lc;have HC:=I (Jp (w:=Ef w la lc) (R:=w.heap.size+1+1+1) (la:=la) (lc:=lc) (ok:=fun q=>q<w.heap.size) (f:=f) (stmtW_blk.cell 0) (stmtW_blk.cell 1) (stmtW_blk.cell 2) (stmtW_blk.cell 3) hf (hrep.gb gW (by simp)));have HR:=I (X hf (X hn (X hrep gW)));clear gW;clear hf hn hrep;go_enter func145,ntmps145;go_wp2_with fail;refine HC.out.mono ?_;rintro e w1 ⟨v,cs,rfl,hO,hF,g1⟩;have g0:w.grownBy w1 none:=O HR.out.2.2.2 g1;have hA:SzS (fun q=>q<w.heap.size) w w1 la lc f f cs 0 1 1 w1:=by
  refine⟨by simp,by simpa using hF,rfl,by omega,⟨Nat.le_refl _,Nat.le_refl _⟩,?_,?_,?_,g0,Ac _ _⟩
  ·exact((((Blk.new w (stC 0 (.slice la 2 lc)) 56).alloc _).alloc _).alloc _).gb g1 (by simp)
  ·exact Blk.gb (((Blk.new _ [.int .i64 1,.int .i64 1] _).of_eq (by simp) rfl).alloc _) g1 (by simp)
  ·exact Blk.gb ((((Blk.new _ [.int .i64 0,.int .i64 0] _).of_eq (by simp) rfl).alloc _).alloc _) g1 (by simp)
 obtain⟨G,cap,rfl,hGb,hat0⟩:∃G cap,v= .slice (some ⟨G,0,none⟩) 2 cap∧w.heap.size+3<G∧∀j u,cs[j]? =some u→w1.cell? ⟨G,j,none⟩=some u:=by
  rcases id hO.2 with h| ⟨G,cap,cur,rfl,hGb,_⟩
  ·exact absurd h.2 (by decide)
  ·refine⟨G,cap,rfl,by simp[Ef]at hGb;omega,fun j u hj=>?_⟩;have h1:=hO.cells (g:=G) rfl j u hj;have e:(⟨G,0,none⟩:Addr).add j=⟨G,j,none⟩:=by unfold Addr.add;split<;>simp_all
   rw[e]at h1;exact h1
 have HO:=I (X hat0 hF);have HA:=I hA;clear hO hF g1 g0 hat0 hA;go_wp2_with fail;go_loopg [23] 2 (fun g v23 wr=>∃rest:Fo,∃k n m:Nat,rest.len=g∧v23= .int .i64 k∧SzS (fun q=>q<w.heap.size) w w1 la lc f rest cs k n m wr)
 case atStart=>exact⟨f,0,1,1,HR.out.1,rfl,HA.out⟩
 case round=>
  obtain⟨rest,k,n,m,hg,rfl,hr⟩:=hrel;clear HA;have a0:=hr.acc.cell 0;have a1:=hr.acc.cell 1;have r0:=hr.res.cell 0;have r1:=hr.res.cell 1;have rf:=fun k=>hr.res.frozen k;have af:=fun k=>hr.acc.frozen k;have al:=hr.acc.lt;have s5:=hr.st.cell 5;simp only[List.getElem?_cons_zero,List.getElem?_cons_succ]at a0 a1 r0 r1 s5;cases rest with
  | nil=>
    have hlen:=hr.len;have hk:k=2:=by have:=HR.out.1;simp[Fo.len]at hlen;omega
    subst hk;have hnm:n=1+f.nodes∧m=1+f.levels:=by
     have h1:=hr.nodes;have h2:=hr.levels;have h3:=hr.pos;simp[Fo.nodes,Fo.levels]at h1 h2;omega
    have HN:=I hnm;clear hnm hlen hg;go_wp2_with fail;go_loopg [35] 1 (fun g v35 w2=>v35= .int .i64 0∧w2=wr)
    case atStart=>exact⟨rfl,rfl⟩
    case round=>
     obtain⟨rfl,rfl⟩:=hrel;go_wp2;refine bodyPost_ret (DH rfl _ (hr.res.set2 _ _) rfl) rfl ⟨by rw[HN.out.1,HN.out.2],?_⟩;have g:=hr.g;exact (by repeat(first| (with_reducible exact Ac _ _)| (with_reducible assumption)| (with_reducible exact AW (by assumption))| (with_reducible refine Aa ?_ _)| (with_reducible refine Aj ?_)| (with_reducible refine AH ?_ _)| ((with_reducible refine Ax ?_ _ _ ?h2);case h2=>first|exact .inl rfl|exact .inr (Nat.le_refl _)|exact .inr (by simp<;>omega))| (with_reducible refine Ae ?_ (by assumption))| (with_reducible refine O ?_ (by assumption))))
  | cons h' kids next=>
    simp only[Fo.len]at hg;subst hg;have hlen:=hr.len;simp only[Fo.len]at hlen;have hkI:decide (k<f.len)=true:=by simp;omega
    have hf2:=HR.out.1;have hfn:=HR.out.2.1;have hkI2:decide (k<2)=true:=by simp;omega
    obtain⟨pv',lv',kcs,rcs,hcs,hp,hl,hkids,hnext⟩:=hr.row;obtain⟨pa',pc',rfl,_⟩:=hp;have hL:RepL (fun q=>q<w.heap.size) w1 lv' kids:=⟨kcs,hl,hkids⟩;obtain⟨la2,lc2,rfl,_⟩:=hl;have hat:∀i u,(hdC h' (.slice pa' h'.p.length pc') (.slice la2 kids.len lc2))[i]? =some u→wr.cell? ⟨G,k*7+i,none⟩=some u:=by
     intro i u hu;have:cs[k*7+i]? =(cs.drop (k*7))[i]?:=by simp
     refine Bw hr.gv (HO.out.1 (k*7+i) u ?_) (by simp;omega);rw[this,hcs,List.getElem?_append_left (by have:=(List.getElem?_eq_some_iff.1 hu).1;exact this)];exact hu
    have z0:=hat 0 _ rfl;have z1:=hat 1 _ rfl;have z2:=hat 2 _ rfl;have z3:=hat 3 _ rfl;have z4:=hat 4 _ rfl;have z5:=hat 5 _ rfl;have z6:=hat 6 _ rfl;simp only[Nat.add_zero]at z0;have hgl:=World.block_lt_of_cell? wr _ z0;clear hat;have hno:=hr.nodes;simp only[Fo.nodes]at hno;have hmo:=hr.levels;simp only[Fo.levels]at hmo;have hkl:=kids.len_nodes;have hpo:=hr.pos;have hfll:=f.len_nodes;have HL:=I (fun(W:World)(gW:wr.grownBy W none)=>G4 (kids.nodes+1) kids (by omega) (by omega) (fun q=>q<w.heap.size) h' pa' h'.p.length pc' la2 lc2 W ((hL.gb hr.gv (by intro q hq _ e;cases e;omega)).gb gW (by simp)));have HI:=I (fun(W:World)=>F8 n m (1+kids.nodes) (1+kids.levels) (by omega) (by omega) (by omega) W);have HK:=I hr;have hkl2:k+1≤2:=by omega
    clear hL hnext hkids hcs hr hno hmo hlen hpo;have hy:=Blk.new wr (hdC h' (.slice pa' h'.p.length pc') (.slice la2 kids.len lc2)) 27;have hac:=HK.out.acc.alloc (.cells (hdC h' (.slice pa' h'.p.length pc') (.slice la2 kids.len lc2)).toArray 27 (0,0));have HY:=I (X hy hac);clear hy hac;have hws:=HK.out.g.size;go_wp2_with fail;go_region_with(first
     | (go_at_call 28;refine(HL.out _ ?gg).mono ?_;(case gg=>exact (by repeat(first| (with_reducible exact Ac _ _)| (with_reducible assumption)| (with_reducible exact AW (by assumption))| (with_reducible refine Aa ?_ _)| (with_reducible refine Aj ?_)| (with_reducible refine AH ?_ _)| ((with_reducible refine Ax ?_ _ _ ?h2);case h2=>first|exact .inl rfl|exact .inr (Nat.le_refl _)|exact .inr (by simp<;>omega))| (with_reducible refine Ae ?_ (by assumption))| (with_reducible refine O ?_ (by assumption)))));rintro e w5 ⟨rfl,g5⟩;(have y5:=(HY.out.1.drewN 1).gb g5 (by simp));(have ac5:=(HY.out.2.drewN 1).gb g5 (by simp));(have b0:=y5.cell 0);(have b1:=y5.cell 1);(have b2:=y5.cell 2);(have b3:=y5.cell 3);(have b4:=y5.cell 4);(have b5:=y5.cell 5);(have b6:=y5.cell 6);(have d0:=ac5.cell 0);(have d1:=ac5.cell 1);(have df:=fun k=>ac5.frozen k);(have dl:=ac5.lt);(simp only[hdC,List.getElem?_cons_zero,List.getElem?_cons_succ]at b0 b1 b2 b3 b4 b5 b6 d0 d1))
     | (go_at_call 55;refine(HI.out _).mono ?_;rintro e w6 ⟨rfl,g6⟩;(have ac6:=ac5.gb g6 (by simp));(have m0:=ac6.cell 0);(have m1:=ac6.cell 1);(have mf:=fun k=>ac6.frozen k);(have ml:=ac6.lt);(simp only[List.getElem?_cons_zero,List.getElem?_cons_succ]at m0 m1)))
    all_goals
     have hre:=((((HK.out.res.alloc (.cells (hdC h' (.slice pa' h'.p.length pc') (.slice la2 kids.len lc2)).toArray 27 (0,0))).drewN 1).gb g5 (by simp)).gb g6 (by simp));have gg:=Ae (Ae (Aj (Aa HK.out.g (.cells (hdC h' (.slice pa' h'.p.length pc') (.slice la2 kids.len lc2)).toArray 27 (0,0)))) g5) g6;have hst6:=(((HK.out.st.alloc (.cells (hdC h' (.slice pa' h'.p.length pc') (.slice la2 kids.len lc2)).toArray 27 (0,0))).drewN 1).gb g5 (by simp)).gb g6 (by simp);have gv6:=Ae (Ae (Aj (Aa HK.out.gv (.cells (hdC h' (.slice pa' h'.p.length pc') (.slice la2 kids.len lc2)).toArray 27 (0,0)))) g5) g6;have HX:=I (X ac6 (X hre (X gg (X hst6 gv6))));clear hre gg hst6 gv6;go_wp2;go_roundg next.len
     case measure=>omega
     case rel=>
      refine⟨next,k+1,n+(1+kids.nodes),max m (1+kids.levels+1),rfl,by simp,HK.out.next ((HX.out.2.2.2.1.set_other _ _ (by simp<;>omega)).set_other _ _ (by simp<;>omega)) ((HX.out.1.set2 _ _).of_eq (by omega) (by push_cast;rfl)) ((HX.out.2.1.set_other _ _ (by simp)).set_other _ _ (by simp)) (Ax (Ax HX.out.2.2.1 _ _ (.inr (by simp;omega))) _ _ (.inr (by simp;omega))) (Ax (Ax HX.out.2.2.2.2 _ _ (.inl rfl)) _ _ (.inl rfl))⟩
theorem SetRow.open{B:Nat}{w:World}{bv:Value}{t x:Ex}(h:SetRow B w bv t x):∃G cap la lc,bv= .slice (some ⟨G,0,none⟩) 1 cap∧B≤G∧RepL (AD B) w (.slice la 2 lc) (.two t x)∧∀i u,(stC 0 (.slice la 2 lc))[i]? =some u→w.cell? ⟨G,i,none⟩=some u:=by
 obtain⟨la,lc,ho,hl⟩:=h;rcases id ho.2 with h| ⟨G,cap,cur,rfl,hb,_⟩
 ·exact absurd h.2 (by decide)
 ·refine⟨G,cap,la,lc,rfl,hb,hl,fun j u hj=>?_⟩;have h1:=ho.cells (g:=G) rfl j u hj;have e:(⟨G,0,none⟩:Addr).add j=⟨G,j,none⟩:=by unfold Addr.add;split<;>simp_all
  rw[e]at h1;exact h1
structure Acc1(w:World)(n m:Int)(wr:World):Prop where
 res:Blk wr w.heap.size [.int .i64 0,.int .i64 0] 61
 acc:Blk wr (w.heap.size+1) [.int .i64 n,.int .i64 m] 61
 g:w.grownBy wr none
theorem Acc1.start(w:World):Acc1 w 0 0 ((w.alloc (.cells #[.int .i64 0,.int .i64 0] 61 (0,0))).alloc (.cells #[.int .i64 0,.int .i64 0] 61 (0,0))):=
 ⟨(Blk.new w [.int .i64 0,.int .i64 0] _).alloc _,(Blk.new _ [.int .i64 0,.int .i64 0] _).of_eq (by simp) rfl,Aa (World.grownBy_alloc w _ none) _⟩
theorem ID{B:Nat}{w:World}{bv:Value}{t x:Ex}(h:SetRow B w bv t x)(hn:(Fo.two t x).nodes≤1000000):
 Calls Tryz.prog 93 #[bv] w fun e w'=>e= .returned (szV ((1+(Fo.two t x).nodes:Nat):Int) ((1+(Fo.two t x).levels:Nat):Int))∧w.grownBy w' none:=by
 obtain⟨G,cap,la,lc,rfl,hB,hl,hat⟩:=h.open;have hll:=(Fo.two t x).len_nodes;have HS:=I (fun(W:World)(g:w.grownBy W none)=>JK (la:=la) (lc:=lc) (f:= .two t x) rfl hn (hl.gb g (by simp)));have HI:=I (fun(W:World)=>Fl 0 0 (1+(Fo.two t x).nodes) (1+(Fo.two t x).levels) (by omega) (by omega) (by omega) W);have HZ:=I hat;clear h hat hl hB;generalize(Fo.two t x).nodes=NN at*;generalize(Fo.two t x).levels=LL at*;simp only[Nat.zero_add,Nat.zero_max]at HI;have HA:=I (Acc1.start w);go_enter func93,ntmps93;go_wp2_with fail;go_loopg [8] 1 (fun g v8 wr=>∃n m:Int,Acc1 w n m wr∧((g=1∧v8= .int .i64 0∧n=0∧m=0)∨(g=0∧v8= .int .i64 1∧n=((1+NN:Nat):Int)∧m=((1+LL:Nat):Int))))
 case atStart=>exact⟨0,0,HA.out,.inl ⟨rfl,rfl,rfl,rfl⟩⟩
 case round=>
  obtain⟨n,m,hA,hq|hq⟩:=hrel
  ·obtain⟨rfl,rfl,rfl,rfl⟩:=hq;have z0:=Ab hA.g (HZ.out 0 _ rfl);have z1:=Ab hA.g (HZ.out 1 _ rfl);have z2:=Ab hA.g (HZ.out 2 _ rfl);have z3:=Ab hA.g (HZ.out 3 _ rfl);have z4:=Ab hA.g (HZ.out 4 _ rfl);have z5:=Ab hA.g (HZ.out 5 _ rfl);have z6:=Ab hA.g (HZ.out 6 _ rfl);have z7:=Ab hA.g (HZ.out 7 _ rfl);have z8:=Ab hA.g (HZ.out 8 _ rfl);have z9:=Ab hA.g (HZ.out 9 _ rfl);have hgl:=World.block_lt_of_cell? wr _ z0;have a0:=hA.acc.cell 0;have a1:=hA.acc.cell 1;have af:=fun k=>hA.acc.frozen k;have al:=hA.acc.lt;simp only[List.getElem?_cons_zero,List.getElem?_cons_succ]at a0 a1;have hgw:=hA.g;have HL:=I (fun(W:World)(g:wr.grownBy W none)=>HS.out W (O hgw g));have HG:=I hA;have hy:=Blk.new wr (stC 0 (.slice la 2 lc)) 56;have hac:=HG.out.acc.alloc (.cells (stC 0 (.slice la 2 lc)).toArray 56 (0,0));have HY:=I (X hy hac);clear hy hac hA hgw;have hws:=HG.out.g.size;go_wp2_with fail;go_region_with(first
    | (go_at_call 145;refine(HL.out _ ?gg).mono ?_;(case gg=>exact (by repeat(first| (with_reducible exact Ac _ _)| (with_reducible assumption)| (with_reducible exact AW (by assumption))| (with_reducible refine Aa ?_ _)| (with_reducible refine Aj ?_)| (with_reducible refine AH ?_ _)| ((with_reducible refine Ax ?_ _ _ ?h2);case h2=>first|exact .inl rfl|exact .inr (Nat.le_refl _)|exact .inr (by simp<;>omega))| (with_reducible refine Ae ?_ (by assumption))| (with_reducible refine O ?_ (by assumption)))));rintro e w5 ⟨rfl,g5⟩;(have y5:=(HY.out.1.drewN 1).gb g5 (by simp));(have ac5:=(HY.out.2.drewN 1).gb g5 (by simp));obtain⟨b_0,b_1,b_2,b_3,b_4,b_5,b_6,b_7,b_8,b_9,b_f⟩:=(y5).c10;(have d0:=ac5.cell 0);(have d1:=ac5.cell 1);(have df:=fun k=>ac5.frozen k);(have dl:=ac5.lt);(simp only[List.getElem?_cons_zero,List.getElem?_cons_succ]at d0 d1))
    | (go_at_call 92;refine(HI.out _).mono ?_;rintro e w6 ⟨rfl,g6⟩;(have ac6:=ac5.gb g6 (by simp));(have m0:=ac6.cell 0);(have m1:=ac6.cell 1);(have mf:=fun k=>ac6.frozen k);(have ml:=ac6.lt);(simp only[List.getElem?_cons_zero,List.getElem?_cons_succ]at m0 m1)))
   all_goals
    have hre:=((((HG.out.res.alloc (.cells (stC 0 (.slice la 2 lc)).toArray 56 (0,0))).drewN 1).gb g5 (by simp)).gb g6 (by simp));have gg:=Ae (Ae (Aj (Aa HG.out.g (.cells (stC 0 (.slice la 2 lc)).toArray 56 (0,0)))) g5) g6;have HX:=I (X ac6 (X hre gg));clear hre gg;go_wp2;go_roundg 0
    case measure=>omega
    case rel=>exact⟨_,_,⟨(HX.out.2.1.set_other _ _ (by simp)).set_other _ _ (by simp),HX.out.1.set2 _ _,Ax (Ax HX.out.2.2 _ _ (.inr (by simp))) _ _ (.inr (by simp))⟩,.inr ⟨rfl,rfl,rfl,rfl⟩⟩
  ·obtain⟨rfl,rfl,rfl,rfl⟩:=hq;have HG:=I hA;have a0:=hA.acc.cell 0;have a1:=hA.acc.cell 1;have r0:=hA.res.cell 0;have r1:=hA.res.cell 1;have rf:=fun k=>hA.res.frozen k;have rl:=hA.res.lt;simp only[List.getElem?_cons_zero,List.getElem?_cons_succ]at a0 a1 r0 r1;clear hA;go_wp2;refine bodyPost_ret (DH rfl _ (HG.out.res.set2 _ _) rfl) rfl ⟨rfl,?_⟩;have g:=HG.out.g;exact (by repeat(first| (with_reducible exact Ac _ _)| (with_reducible assumption)| (with_reducible exact AW (by assumption))| (with_reducible refine Aa ?_ _)| (with_reducible refine Aj ?_)| (with_reducible refine AH ?_ _)| ((with_reducible refine Ax ?_ _ _ ?h2);case h2=>first|exact .inl rfl|exact .inr (Nat.le_refl _)|exact .inr (by simp<;>omega))| (with_reducible refine Ae ?_ (by assumption))| (with_reducible refine O ?_ (by assumption))))
theorem IC{B:Nat}{w:World}{v:Value}{t x:Ex}(h:SetProg B w v t x)(hn:(Fo.two t x).nodes≤1000000):
 Calls Tryz.prog 51 #[v] w fun e w'=>e= .returned (szV ((1+(Fo.two t x).nodes:Nat):Int) ((1+(Fo.two t x).levels:Nat):Int))∧w.grownBy w' none:=by
 obtain⟨kP,bv,rfl,hB,hblk,hrow⟩:=h;obtain⟨G,cap,la,lc,e,_⟩:=hrow.open;subst e;have hll:=(Fo.two t x).len_nodes;have HS:=I (fun(W:World)(g:w.grownBy W none)=>ID (hrow.gb g (by simp)) hn);have HI:=I (fun(W:World)=>Fl 0 0 (1+(Fo.two t x).nodes) (1+(Fo.two t x).levels) (by omega) (by omega) (by omega) W);have HZ:=I hblk;clear hblk hrow hB;generalize(Fo.two t x).nodes=NN at*;generalize(Fo.two t x).levels=LL at*;simp only[Nat.zero_add,Nat.zero_max]at HI;have HA:=I (Acc1.start w);go_enter func51,ntmps51;go_wp2_with fail;go_loopg [8] 1 (fun g v8 wr=>∃n m:Int,Acc1 w n m wr∧((g=1∧v8= .int .i64 0∧n=0∧m=0)∨(g=0∧v8= .int .i64 1∧n=((1+NN:Nat):Int)∧m=((1+LL:Nat):Int))))
 case atStart=>exact⟨0,0,HA.out,.inl ⟨rfl,rfl,rfl,rfl⟩⟩
 case round=>
  obtain⟨n,m,hA,hq|hq⟩:=hrel
  ·obtain⟨rfl,rfl,rfl,rfl⟩:=hq;have hbk:=HZ.out.gb hA.g (by simp);have z0:=hbk.cell 0;have z1:=hbk.cell 1;have z2:=hbk.cell 2;have z3:=hbk.cell 3;simp only[List.getElem?_cons_zero,List.getElem?_cons_succ]at z0 z1 z2 z3;have hgl:=hbk.lt;clear hbk;have a0:=hA.acc.cell 0;have a1:=hA.acc.cell 1;have af:=fun k=>hA.acc.frozen k;have al:=hA.acc.lt;simp only[List.getElem?_cons_zero,List.getElem?_cons_succ]at a0 a1;have hgw:=hA.g;have HL:=I (fun(W:World)(g:wr.grownBy W none)=>HS.out W (O hgw g));have HG:=I hA;have hy:=Blk.new wr [str mainL,.bool false,.slice none 0 0,.slice (some ⟨G,0,none⟩) 1 cap] 51;have hac:=HG.out.acc.alloc (.cells #[str mainL,.bool false,.slice none 0 0,.slice (some ⟨G,0,none⟩) 1 cap] 51 (0,0));have HY:=I (X hy hac);clear hy hac hA hgw;have hws:=HG.out.g.size;go_wp2_with fail;go_region_with(first
    | (go_at_call 93;refine(HL.out _ ?gg).mono ?_;(case gg=>exact (by repeat(first| (with_reducible exact Ac _ _)| (with_reducible assumption)| (with_reducible exact AW (by assumption))| (with_reducible refine Aa ?_ _)| (with_reducible refine Aj ?_)| (with_reducible refine AH ?_ _)| ((with_reducible refine Ax ?_ _ _ ?h2);case h2=>first|exact .inl rfl|exact .inr (Nat.le_refl _)|exact .inr (by simp<;>omega))| (with_reducible refine Ae ?_ (by assumption))| (with_reducible refine O ?_ (by assumption)))));rintro e w5 ⟨rfl,g5⟩;(have y5:=(HY.out.1.drewN 1).gb g5 (by simp));(have ac5:=(HY.out.2.drewN 1).gb g5 (by simp));(have b0:=y5.cell 0);(have b1:=y5.cell 1);(have b2:=y5.cell 2);(have b3:=y5.cell 3);(have d0:=ac5.cell 0);(have d1:=ac5.cell 1);(have df:=fun k=>ac5.frozen k);(have dl:=ac5.lt);(simp only[List.getElem?_cons_zero,List.getElem?_cons_succ]at d0 d1 b0 b1 b2 b3))
    | (go_at_call 92;refine(HI.out _).mono ?_;rintro e w6 ⟨rfl,g6⟩;(have ac6:=ac5.gb g6 (by simp));(have m0:=ac6.cell 0);(have m1:=ac6.cell 1);(have mf:=fun k=>ac6.frozen k);(have ml:=ac6.lt);(simp only[List.getElem?_cons_zero,List.getElem?_cons_succ]at m0 m1)))
   all_goals
    have hre:=((((HG.out.res.alloc (.cells #[str mainL,.bool false,.slice none 0 0,.slice (some ⟨G,0,none⟩) 1 cap] 51 (0,0))).drewN 1).gb g5 (by simp)).gb g6 (by simp));have gg:=Ae (Ae (Aj (Aa HG.out.g (.cells #[str mainL,.bool false,.slice none 0 0,.slice (some ⟨G,0,none⟩) 1 cap] 51 (0,0)))) g5) g6;have HX:=I (X ac6 (X hre gg));clear hre gg;go_wp2;go_roundg 0
    case measure=>omega
    case rel=>exact⟨_,_,⟨(HX.out.2.1.set_other _ _ (by simp)).set_other _ _ (by simp),HX.out.1.set2 _ _,Ax (Ax HX.out.2.2 _ _ (.inr (by simp))) _ _ (.inr (by simp))⟩,.inr ⟨rfl,rfl,rfl,rfl⟩⟩
  ·obtain⟨rfl,rfl,rfl,rfl⟩:=hq;have HG:=I hA;have a0:=hA.acc.cell 0;have a1:=hA.acc.cell 1;have r0:=hA.res.cell 0;have r1:=hA.res.cell 1;have rf:=fun k=>hA.res.frozen k;have rl:=hA.res.lt;simp only[List.getElem?_cons_zero,List.getElem?_cons_succ]at a0 a1 r0 r1;clear hA;go_wp2;refine bodyPost_ret (DH rfl _ (HG.out.res.set2 _ _) rfl) rfl ⟨rfl,?_⟩;have g:=HG.out.g;exact (by repeat(first| (with_reducible exact Ac _ _)| (with_reducible assumption)| (with_reducible exact AW (by assumption))| (with_reducible refine Aa ?_ _)| (with_reducible refine Aj ?_)| (with_reducible refine AH ?_ _)| ((with_reducible refine Ax ?_ _ _ ?h2);case h2=>first|exact .inl rfl|exact .inr (Nat.le_refl _)|exact .inr (by simp<;>omega))| (with_reducible refine Ae ?_ (by assumption))| (with_reducible refine O ?_ (by assumption))))
end Go.Proofs.YtgjdhajcnechdaaGreatDoor
