/-
  Code: a text between quotes, the reference's.
-/
import Derived.Test.YtahbajmkhjngiaaGreatDoorSx14
import Derived.Test.YtahbajmkhjngiaaGreatDoorSx18
import Derived.IntWalk
set_option linter.all false
set_option maxRecDepth 100000
set_option maxHeartbeats 8000000
namespace Go.Proofs.YtahbajmkhjngiaaGreatDoor
open Go.Proofs.Tryz
open Go.RowKit
theorem Dt(w:World)(cs:List Value)(t:TypeId)(n:Nat)(hn:cs.length=n)(hm:n≤maxLen):(w.alloc (.cells cs.toArray t (0,0))).ownsRow w.heap.size t 1 (.slice (some ⟨w.heap.size,0,none⟩) n n) n cs:=
 ⟨by omega,.inr ⟨w.heap.size,n,cs.toArray,rfl,Nat.le_refl _,heap_alloc_new _ _,Nat.le_refl _,hm,by simp[hn],by simp[←hn]⟩⟩
theorem A5(n:Nat)(hn:n<16)(h:n<(⟨#[48,49,50,51,52,53,54,55,56,57,97,98,99,100,101,102]⟩:ByteArray).size):(⟨#[48,49,50,51,52,53,54,55,56,57,97,98,99,100,101,102]⟩:ByteArray)[n]'h=T n:=by
 have hh:n=0∨n=1∨n=2∨n=3∨n=4∨n=5∨n=6∨n=7∨n=8∨n=9∨n=10∨n=11∨n=12∨n=13∨n=14∨n=15:=by omega
 rcases hh with rfl|rfl|rfl|rfl|rfl|rfl|rfl|rfl|rfl|rfl|rfl|rfl|rfl|rfl|rfl|rfl<;>rfl
theorem BJ{w:World}{B g n:Nat}{l:Bs}(cap:Nat)(h:w.ownsRow B 5 1 (.slice (some ⟨g,0,none⟩) n cap) l.length (U l)):
 (convert 58 9 (.slice (some ⟨g,0,none⟩) n cap)).run Tryz.prog w= .ok (str l) w:=by
 have hn:n=l.length:=by
  rcases h.2 with⟨h1,_⟩| ⟨g',cap',cur,h1,_⟩
  ·cases h1
  ·cases h1;rfl
 subst hn;have hb:=run_convert_bytes_back (P:=Tryz.prog) w 58 9 5 ⟨g,0,none⟩ cap l underlying58 underlying5 underlying9 (by
  intro j hj;have:=h.cells (g:=g) rfl j (.int .u8 l[j].toNat) (by simp[U,hj]);exact this)
 exact hb
theorem BN(s:Bs)(hs:s.length≤1000000000)(w:World):
 Calls Tryz.prog 40 #[str s] w fun e w'=>e= .returned (str (qtM s))∧w.grownBy w' none:=by
 have hsz:(⟨s.toArray⟩:ByteArray).size=s.length:=by simp[ByteArray.size]
 obtain⟨i0,hi0,hz0,hz1,hz2⟩:=info_parts AJ;have HI:=D (I hi0 (I hz0 (I hz1 hz2)));have H0:=D (I (Dt w [.int .u8 34] 5 1 rfl (by decide)) (World.grownBy_alloc w (.cells [.int .u8 34].toArray 5 (0,0)) none));clear hi0 hz0 hz1 hz2;go_enter func40,ntmps40;go_wp2_with fail;go_loopg [3,4,5] s.length (fun g v3 v4 v5 wr=>∃k:Nat,k+g=s.length∧v4= .int .i64 k∧wr.ownsRow w.heap.size 5 1 v3 (Aa s k).length (U (Aa s k))∧w.grownBy wr none)
 case atStart=>exact⟨0,by omega,rfl,H0.out.1,H0.out.2⟩
 case round=>
  obtain⟨k,hk,rfl,hO,hG⟩:=hrel;clear H0;have hql:=Bj s k;have hgs:=hG.size;cases gk with
  | zero=>
    have hkl:k=s.length:=by omega
    have hj1:decide (k<s.length)=false:=by simp;omega
    subst hkl;have HO:=D (I hO hG);clear hO hG;go_wp2_with (at_builtin;go_loud(refine wpList_append_lies _ rfl _ _ 58 rfl w.heap.size 5 i0 (.int .u8 0) 1 1 underlying58 HI.out.1 HI.out.2.1 HI.out.2.2.1 HI.out.2.2.2 rfl (by decide) u3 (Aa s s.length).length (U (Aa s s.length)) rfl (Ap HO.out.1 (World.grownBy_alloc _ _ none) (by simp)) ⟨wr.heap.size,0,none⟩ 1 1 [.int .u8 34] rfl rfl (Az _ _ _) (by simp[Value.oneCell']) (by decide) (by unfold maxLen;omega) (by omega) (by simp;omega) _ rfl ?_;intro g cap w6 hown hgrow hat hlt;(have HX:=D (I hown hgrow));(have hback:=BJ cap (show w6.ownsRow w.heap.size 5 1 (.slice (some ⟨g,0,none⟩) ((Aa s s.length).length+1) cap) (qtM s).length (U (qtM s))by simpa[U,qtM]using hown));clear hown hgrow hat));go_ret;exact⟨rfl,Ad (M HO.out.2 (World.grownBy_alloc _ _ _)) HX.out.2 (fun x hx=>(HO.out.1.lt x hx).1)⟩
  | succ gk=>
    have hkl:k<s.length:=by omega
    have hj1:decide (k<s.length)=true:=by simp;omega
    have hgk:=fun h=>Bu s k h hkl;have hc256:=s[k].toNat_lt;have HO:=D (I hO hG);clear hO hG;have HQ:=D (show Aa s (k+1)=Aa s k++qtB s[k]by rw[Aa,Bc hkl]);generalize s[k]=c at*;by_cases h3:c.toNat=34
    ·have i4:((c.toNat:Int)==34)=true:=by simp;omega
     have HE:=D (show qtB c=[37,T (c.toNat/16),T (c.toNat%16)]by rw[qtB,if_pos (by simp[Ah,h3])]);clear h3;have hw1:IntKind.u8.wrap ((c.toNat:Int)/16)=((c.toNat/16:Nat):Int):=by
      rw[IntWalk.u8_in _ (by omega)];omega
     have hw2:((c.toNat:Int)).tmod 16=((c.toNat%16:Nat):Int):=by
      rw[Int.tmod_eq_emod_of_nonneg (by omega)];omega
     have hy1:c.toNat/16<16:=Ak.1;have hy2:c.toNat%16<16:=Ak.2;generalize c.toNat/16=q at*;generalize c.toNat%16=r at*;have hx1:=fun h=>A5 q hy1 h;have hx2:=fun h=>A5 r hy2 h;have hz1:(q:Int)<16:=by omega
     have hz2:(r:Int)<16:=by omega
     go_wp2_with fail;go_region_law((refine step_append_lies _ (by rfl) _ _ 58 (by rfl) w.heap.size 5 i0 (.int .u8 0) 1 1 underlying58 HI.out.1 HI.out.2.1 HI.out.2.2.1 HI.out.2.2.2 rfl (by decide) u3 (Aa s k).length (U (Aa s k)) (by rfl) (Ap HO.out.1 (Y (Ae (N _ none)) _) (by simp)) ⟨wr.heap.size,0,none⟩ 3 3 [.int .u8 37,.int .u8 (T q).toNat,.int .u8 (T r).toNat] (by rfl) rfl (World.news_of_block (heap_alloc_new _ _)) (by simp[Value.oneCell']) (by decide) (by unfold maxLen;omega) (by omega) (by simp;omega) _ rfl ?_;intro g cap w6 hown hgrow hat hlt;(have HX:=D (I hown hgrow));clear hown hgrow hat));all_goals
      go_wp2;go_roundg gk
      case measure=>omega
      case rel=>exact⟨k+1,by omega,by go_num,by rw[HQ.out,HE.out,List.length_append];simpa[U]using HX.out.1,Ad (M HO.out.2 (Y (Ae (N _ _)) _)) HX.out.2 (fun x hx=>(HO.out.1.lt x hx).1)⟩
    by_cases h4:c.toNat=37
    ·have i4:((c.toNat:Int)==34)=false:=by simp;omega
     have i5:((c.toNat:Int)==37)=true:=by simp;omega
     have HE:=D (show qtB c=[37,T (c.toNat/16),T (c.toNat%16)]by rw[qtB,if_pos (by simp[Ah,h4])]);clear h4;have hw1:IntKind.u8.wrap ((c.toNat:Int)/16)=((c.toNat/16:Nat):Int):=by
      rw[IntWalk.u8_in _ (by omega)];omega
     have hw2:((c.toNat:Int)).tmod 16=((c.toNat%16:Nat):Int):=by
      rw[Int.tmod_eq_emod_of_nonneg (by omega)];omega
     have hy1:c.toNat/16<16:=Ak.1;have hy2:c.toNat%16<16:=Ak.2;generalize c.toNat/16=q at*;generalize c.toNat%16=r at*;have hx1:=fun h=>A5 q hy1 h;have hx2:=fun h=>A5 r hy2 h;have hz1:(q:Int)<16:=by omega
     have hz2:(r:Int)<16:=by omega
     go_wp2_with fail;go_region_law((refine step_append_lies _ (by rfl) _ _ 58 (by rfl) w.heap.size 5 i0 (.int .u8 0) 1 1 underlying58 HI.out.1 HI.out.2.1 HI.out.2.2.1 HI.out.2.2.2 rfl (by decide) u3 (Aa s k).length (U (Aa s k)) (by rfl) (Ap HO.out.1 (Y (Ae (N _ none)) _) (by simp)) ⟨wr.heap.size,0,none⟩ 3 3 [.int .u8 37,.int .u8 (T q).toNat,.int .u8 (T r).toNat] (by rfl) rfl (World.news_of_block (heap_alloc_new _ _)) (by simp[Value.oneCell']) (by decide) (by unfold maxLen;omega) (by omega) (by simp;omega) _ rfl ?_;intro g cap w6 hown hgrow hat hlt;(have HX:=D (I hown hgrow));clear hown hgrow hat));all_goals
      go_wp2;go_roundg gk
      case measure=>omega
      case rel=>exact⟨k+1,by omega,by go_num,by rw[HQ.out,HE.out,List.length_append];simpa[U]using HX.out.1,Ad (M HO.out.2 (Y (Ae (N _ _)) _)) HX.out.2 (fun x hx=>(HO.out.1.lt x hx).1)⟩
    by_cases h1:c.toNat<32
    ·have i4:((c.toNat:Int)==34)=false:=by simp;omega
     have i5:((c.toNat:Int)==37)=false:=by simp;omega
     have i1:(c.toNat:Int)<32:=by omega
     have HE:=D (show qtB c=[37,T (c.toNat/16),T (c.toNat%16)]by rw[qtB,if_pos (by simp[Ah,h1])]);have hw1:IntKind.u8.wrap ((c.toNat:Int)/16)=((c.toNat/16:Nat):Int):=by
      rw[IntWalk.u8_in _ (by omega)];omega
     have hw2:((c.toNat:Int)).tmod 16=((c.toNat%16:Nat):Int):=by
      rw[Int.tmod_eq_emod_of_nonneg (by omega)];omega
     have hy1:c.toNat/16<16:=Ak.1;have hy2:c.toNat%16<16:=Ak.2;generalize c.toNat/16=q at*;generalize c.toNat%16=r at*;have hx1:=fun h=>A5 q hy1 h;have hx2:=fun h=>A5 r hy2 h;have hz1:(q:Int)<16:=by omega
     have hz2:(r:Int)<16:=by omega
     go_wp2_with fail;go_region_law((refine step_append_lies _ (by rfl) _ _ 58 (by rfl) w.heap.size 5 i0 (.int .u8 0) 1 1 underlying58 HI.out.1 HI.out.2.1 HI.out.2.2.1 HI.out.2.2.2 rfl (by decide) u3 (Aa s k).length (U (Aa s k)) (by rfl) (Ap HO.out.1 (Y (Ae (N _ none)) _) (by simp)) ⟨wr.heap.size,0,none⟩ 3 3 [.int .u8 37,.int .u8 (T q).toNat,.int .u8 (T r).toNat] (by rfl) rfl (World.news_of_block (heap_alloc_new _ _)) (by simp[Value.oneCell']) (by decide) (by unfold maxLen;omega) (by omega) (by simp;omega) _ rfl ?_;intro g cap w6 hown hgrow hat hlt;(have HX:=D (I hown hgrow));clear hown hgrow hat));all_goals
      go_wp2;go_roundg gk
      case measure=>omega
      case rel=>exact⟨k+1,by omega,by go_num,by rw[HQ.out,HE.out,List.length_append];simpa[U]using HX.out.1,Ad (M HO.out.2 (Y (Ae (N _ _)) _)) HX.out.2 (fun x hx=>(HO.out.1.lt x hx).1)⟩
    by_cases h2:126<c.toNat
    ·have i4:((c.toNat:Int)==34)=false:=by simp;omega
     have i5:((c.toNat:Int)==37)=false:=by simp;omega
     have i1:¬(c.toNat:Int)<32:=by omega
     have i2:126<(c.toNat:Int):=by omega
     have HE:=D (show qtB c=[37,T (c.toNat/16),T (c.toNat%16)]by rw[qtB,if_pos (by simp[Ah,h2])]);have hw1:IntKind.u8.wrap ((c.toNat:Int)/16)=((c.toNat/16:Nat):Int):=by
      rw[IntWalk.u8_in _ (by omega)];omega
     have hw2:((c.toNat:Int)).tmod 16=((c.toNat%16:Nat):Int):=by
      rw[Int.tmod_eq_emod_of_nonneg (by omega)];omega
     have hy1:c.toNat/16<16:=Ak.1;have hy2:c.toNat%16<16:=Ak.2;generalize c.toNat/16=q at*;generalize c.toNat%16=r at*;have hx1:=fun h=>A5 q hy1 h;have hx2:=fun h=>A5 r hy2 h;have hz1:(q:Int)<16:=by omega
     have hz2:(r:Int)<16:=by omega
     go_wp2_with fail;go_region_law((refine step_append_lies _ (by rfl) _ _ 58 (by rfl) w.heap.size 5 i0 (.int .u8 0) 1 1 underlying58 HI.out.1 HI.out.2.1 HI.out.2.2.1 HI.out.2.2.2 rfl (by decide) u3 (Aa s k).length (U (Aa s k)) (by rfl) (Ap HO.out.1 (Y (Ae (N _ none)) _) (by simp)) ⟨wr.heap.size,0,none⟩ 3 3 [.int .u8 37,.int .u8 (T q).toNat,.int .u8 (T r).toNat] (by rfl) rfl (World.news_of_block (heap_alloc_new _ _)) (by simp[Value.oneCell']) (by decide) (by unfold maxLen;omega) (by omega) (by simp;omega) _ rfl ?_;intro g cap w6 hown hgrow hat hlt;(have HX:=D (I hown hgrow));clear hown hgrow hat));all_goals
      go_wp2;go_roundg gk
      case measure=>omega
      case rel=>exact⟨k+1,by omega,by go_num,by rw[HQ.out,HE.out,List.length_append];simpa[U]using HX.out.1,Ad (M HO.out.2 (Y (Ae (N _ _)) _)) HX.out.2 (fun x hx=>(HO.out.1.lt x hx).1)⟩
    have i4:((c.toNat:Int)==34)=false:=by simp;omega
    have i5:((c.toNat:Int)==37)=false:=by simp;omega
    have i1:¬(c.toNat:Int)<32:=by omega
    have i2:¬126<(c.toNat:Int):=by omega
    have HE:=D (show qtB c=[c]by rw[qtB,if_neg (by simp[Ah,h1,h2,h3,h4])]);go_wp2_with (at_builtin;go_loud(refine wpList_append_lies _ rfl _ _ 58 rfl w.heap.size 5 i0 (.int .u8 0) 1 1 underlying58 HI.out.1 HI.out.2.1 HI.out.2.2.1 HI.out.2.2.2 rfl (by decide) u3 (Aa s k).length (U (Aa s k)) rfl (Ap HO.out.1 (World.grownBy_alloc _ _ none) (by simp)) ⟨wr.heap.size,0,none⟩ 1 1 [.int .u8 c.toNat] rfl rfl (Az _ _ _) (by simp[Value.oneCell']) (by decide) (by unfold maxLen;omega) (by omega) (by simp;omega) _ rfl ?_;intro g cap w6 hown hgrow hat hlt;(have HX:=D (I hown hgrow));clear hown hgrow hat));go_roundg gk
    case measure=>omega
    case rel=>exact⟨k+1,by omega,by go_num,by rw[HQ.out,HE.out,List.length_append];simpa[U]using HX.out.1,Ad (M HO.out.2 (World.grownBy_alloc _ _ _)) HX.out.2 (fun x hx=>(HO.out.1.lt x hx).1)⟩
end Go.Proofs.YtahbajmkhjngiaaGreatDoor
