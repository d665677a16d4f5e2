/-
  Code: Same, the program's.
-/
import Derived.Test.YtahbajmkhjngiaaGreatDoorSx16
set_option linter.all false
set_option maxRecDepth 100000
set_option maxHeartbeats 8000000
namespace Go.Proofs.YtahbajmkhjngiaaGreatDoor
open Go.Proofs.Tryz
open Go.RowKit
abbrev unV(n:Bs)(rv cv:Value):Value:= .agg #[str n,rv,cv]
theorem Cy{w:World}{u v:Un}{ra ca rb cb:Option Addr}{rc cc rd cd:Nat}{ok ok':Nat→Prop}
 (h1:Cells w (.slice ra u.row.length rc) 1 u.row.length (V u.row) ok) (h2:Cells w (.slice ca u.code.length cc) 4 u.code.length (O u.code) ok)
 (k1:Cells w (.slice rb v.row.length rd) 1 v.row.length (V v.row) ok') (k2:Cells w (.slice cb v.code.length cd) 4 v.code.length (O v.code) ok'):
 Calls Tryz.prog 22 #[unV u.name (.slice ra u.row.length rc) (.slice ca u.code.length cc),unV v.name (.slice rb v.row.length rd) (.slice cb v.code.length cd)] w fun e w'=>e= .returned (.bool (decide (u=v)))∧w.grownBy w' none:=by
 have HI:=D (fun(W:World)(g:w.grownBy W none)=>BK (h1.gb g (by simp)) (k1.gb g (by simp)));have HC:=D (fun(W:World)(g:w.grownBy W none)=>CR (h2.gb g (by simp)) (k2.gb g (by simp)));clear h1 h2 k1 k2;obtain⟨n1,r1,c1⟩:=u;obtain⟨n2,r2,c2⟩:=v;have B1:=D ((Blk.new w [str n1,.slice ra r1.length rc,.slice ca c1.length cc] 33).alloc (.cells [str n2,.slice rb r2.length rd,.slice cb c2.length cd].toArray 33 (0,0)));have B2:=D ((Blk.new (w.alloc (.cells [str n1,.slice ra r1.length rc,.slice ca c1.length cc].toArray 33 (0,0))) [str n2,.slice rb r2.length rd,.slice cb c2.length cd] 33).of_eq (show _=w.heap.size+1 by simp) rfl);have GA:=D (M (World.grownBy_alloc w (.cells [str n1,.slice ra r1.length rc,.slice ca c1.length cc].toArray 33 (0,0)) none) (World.grownBy_alloc _ (.cells [str n2,.slice rb r2.length rd,.slice cb c2.length cd].toArray 33 (0,0)) none));by_cases hn:n1=n2
 ·subst hn;have j0:(n1==n1)=true:=by simp
  by_cases hr:r1=r2
  ·have HD:=D (show decide ((⟨n1,r1,c1⟩:Un)=⟨n1,r2,c2⟩)=decide (c1=c2)by rw[hr];simp);simp only[decide_eq_true hr]at HI;clear hr;go_enter func22,ntmps22;go_wp2_with fail;refine(HI.out _ (by repeat(first| (with_reducible exact N _ _)| (with_reducible assumption)| (with_reducible exact AQ (by assumption))| (with_reducible refine Y ?_ _)| (with_reducible refine Ae ?_)| (with_reducible refine Af ?_ _)| ((with_reducible refine Am ?_ _ _ ?h2);case h2=>first|exact .inl rfl|exact .inr (Nat.le_refl _)|exact .inr (by simp<;>omega))| (with_reducible refine AO ?_ (by assumption))| (with_reducible refine M ?_ (by assumption))))).mono ?_;rintro e w1 ⟨rfl,g1⟩;have d1:=(B1.out.gb g1 (by simp)).cell 2;have d2:=(B2.out.gb g1 (by simp)).cell 2;have HG:=D (M GA.out g1);clear g1;go_wp2_with fail;refine(HC.out _ HG.out).mono ?_;rintro e w2 ⟨rfl,g2⟩;have HG2:=D (M HG.out g2);clear g2;go_wp2;go_ret;exact⟨by rw[HD.out];rfl,HG2.out⟩
  ·have HD:=D (show decide ((⟨n1,r1,c1⟩:Un)=⟨n1,r2,c2⟩)=false by simp[hr]);simp only[decide_eq_false hr]at HI;clear hr;go_enter func22,ntmps22;go_wp2_with fail;refine(HI.out _ (by repeat(first| (with_reducible exact N _ _)| (with_reducible assumption)| (with_reducible exact AQ (by assumption))| (with_reducible refine Y ?_ _)| (with_reducible refine Ae ?_)| (with_reducible refine Af ?_ _)| ((with_reducible refine Am ?_ _ _ ?h2);case h2=>first|exact .inl rfl|exact .inr (Nat.le_refl _)|exact .inr (by simp<;>omega))| (with_reducible refine AO ?_ (by assumption))| (with_reducible refine M ?_ (by assumption))))).mono ?_;rintro e w1 ⟨rfl,g1⟩;have HG:=D (M GA.out g1);clear g1;go_wp2;go_ret;exact⟨by rw[HD.out];rfl,HG.out⟩
 ·have j0:(n1==n2)=false:=by simpa using hn
  have HD:=D (show decide ((⟨n1,r1,c1⟩:Un)=⟨n2,r2,c2⟩)=false by simp[hn]);have HN:=D hn;clear hn;go_enter func22,ntmps22;go_wp2;go_ret;exact⟨by have hn:=HN.out;simp[hn],GA.out⟩
theorem Dd{w:World}{va vb:Value}{us vs:List Un}{ok ok':Nat→Prop}(h:VU ok w va us)(k0:VU ok' w vb vs):
 Calls Tryz.prog 21 #[va,vb,.func (.func 22) #[] #[]] w fun e w'=>e= .returned (.bool (decide (us=vs)))∧w.grownBy w' none:=by
 obtain⟨a,cap,rfl,hle,hmx,hat⟩:=h.open;obtain⟨b,capb,rfl,hleb,hmxb,hatb⟩:=k0.open;have hlm:us.length≤9223372036854775807:=by unfold maxLen at hmx;omega
 have hmm:vs.length≤9223372036854775807:=by unfold maxLen at hmxb;omega
 have HA:=D (I hat hatb);clear hat hatb hle hmx hleb hmxb h k0;by_cases hl:us.length=vs.length
 ·have HL:=D hl;have i0:((us.length:Int) !=(vs.length:Int))=false:=by simp;omega
  have i1:((us.length:Int)==(vs.length:Int))=true:=by simp;omega
  clear hl;go_enter func21,ntmps21;go_wp2_with fail;go_loopg [7,8,9,17] us.length (fun g v7 v8 v9 v17 wr=>∃k:Nat,k+g=us.length∧v17= .int .i64 k∧us.take k=vs.take k∧w.grownBy wr none)
  case atStart=>exact⟨0,by omega,rfl,rfl,N _ _⟩
  case round=>
   obtain⟨k,hk,rfl,ht,hG⟩:=hrel;cases gk with
   | zero=>
     have hkl:k=us.length:=by omega
     have hj1:decide (k<us.length)=false:=by simp;omega
     have HE:=D (I (AC HL.out (by rw[←hkl];exact ht)) hG);clear ht hG;subst hkl;go_wp2;go_ret;exact⟨by rw[decide_eq_true HE.out.1];rfl,HE.out.2⟩
   | succ gk=>
     have hkl:k<us.length:=by omega
     have hkm:k<vs.length:=by have:=HL.out;omega
     have hj1:decide (k<us.length)=true:=by simp;omega
     obtain⟨u,hx⟩:∃x,us[k]? =some x:=⟨_,X hkl⟩;obtain⟨v,hy⟩:∃y,vs[k]? =some y:=⟨_,X hkm⟩;obtain⟨ga,oa,ra,rc,ca,cc,rfl,_,la,a0,a1,a2,a3,a4⟩:=HA.out.1 k u hx;obtain⟨gb,ob,rb,rd,cb,cd,rfl,_,lb,b0,b1,b2,b3,b4⟩:=HA.out.2 k v hy;have d0:=J hG a0;have d1:=J hG a1;have d2:=J hG a2;have e0:=J hG b0;have e1:=J hG b1;have e2:=J hG b2;have hsz:=hG.size;have la2:ga<wr.heap.size:=by omega
     have lb2:gb<wr.heap.size:=by omega
     have HS:=D (fun(W:World)(g:wr.grownBy W none)=>Cy (a3.gb (M hG g) (by simp)) (a4.gb (M hG g) (by simp)) (b3.gb (M hG g) (by simp)) (b4.gb (M hG g) (by simp)));have HT:=D (I ht (I hG (I hx hy)));clear a0 a1 a2 a3 a4 b0 b1 b2 b3 b4 ht hG hx hy;go_wp2_with fail;refine(HS.out _ (by repeat(first| (with_reducible exact N _ _)| (with_reducible assumption)| (with_reducible exact AQ (by assumption))| (with_reducible refine Y ?_ _)| (with_reducible refine Ae ?_)| (with_reducible refine Af ?_ _)| ((with_reducible refine Am ?_ _ _ ?h2);case h2=>first|exact .inl rfl|exact .inr (Nat.le_refl _)|exact .inr (by simp<;>omega))| (with_reducible refine AO ?_ (by assumption))| (with_reducible refine M ?_ (by assumption))))).mono ?_;rintro e w2 ⟨rfl,g2⟩;have g3:wr.grownBy w2 none:=M (M (World.grownBy_alloc _ _ _) (World.grownBy_alloc _ _ _)) g2;by_cases huv:u=v
     ·have HE:=D (I (AG HT.out.1 HT.out.2.2.1 (by rw[huv];exact HT.out.2.2.2)) (M HT.out.2.1 g3));simp only[decide_eq_true huv];clear g2 g3 huv;go_wp2;go_roundg gk
      case measure=>omega
      case rel=>exact⟨k+1,by omega,by go_num,HE.out.1,HE.out.2⟩
     ·have HE:=D (I (Ax HT.out.2.2.1 HT.out.2.2.2 huv) (M HT.out.2.1 g3));simp only[decide_eq_false huv];clear g2 g3 huv;go_wp2;go_ret;exact⟨by rw[decide_eq_false HE.out.1];rfl,HE.out.2⟩
 ·have HE:=D (show us≠vs by rintro rfl;exact hl rfl);have i0:((us.length:Int) !=(vs.length:Int))=true:=by simp;omega
  have i1:((us.length:Int)==(vs.length:Int))=false:=by simp;omega
  go_enter func21,ntmps21;go_wp2;go_ret;exact⟨by rw[decide_eq_false HE.out];rfl,N _ _⟩
theorem BC{w:World}{va vb:Value}{us vs:List Un}{ok ok':Nat→Prop}(h:VU ok w va us)(k:VU ok' w vb vs):
 Calls Tryz.prog 8 #[va,vb] w fun e w'=>e= .returned (.bool (decide (us=vs)))∧w.grownBy w' none:=by
 have HE:=D (Dd h k);generalize decide (us=vs)=d at*;clear h k;go_enter func8,ntmps8;go_wp2_with fail;refine HE.out.mono ?_;rintro e w1 ⟨rfl,g1⟩;go_wp2;go_ret;exact⟨rfl,g1⟩
end Go.Proofs.YtahbajmkhjngiaaGreatDoor
