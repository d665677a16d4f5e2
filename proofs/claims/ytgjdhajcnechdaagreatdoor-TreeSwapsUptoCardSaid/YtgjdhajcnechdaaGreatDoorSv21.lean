/-
  The lexer: a token. The lexer: a token that is a number. The lexer: a token that is a text, a date or a sign; any token.
-/
import Derived.Test.YtgjdhajcnechdaaGreatDoorSv18
set_option linter.all false
set_option maxRecDepth 100000
set_option maxHeartbeats 8000000
namespace Go.Proofs.YtgjdhajcnechdaaGreatDoor
open Go.Proofs.Tryz
open Go.RowKit
structure TkRel(w:World)(b:Nat)(s:Bs)(i k:Nat)(wr:World):Prop where
 sc:Sc wr b s k true true (-1)
 tok:Blk wr (w.heap.size+1) [.int .i64 0,.int .i64 i,str []] 105
 res:Blk wr w.heap.size [.int .i64 0,.int .i64 0,str []] 105
 g:w.grownBy wr (some b)
 tabs:Tabs b wr
theorem TkRel.gbN{w:World}{b:Nat}{s:Bs}{i k:Nat}{wr w1:World}(h:TkRel w b s i k wr)(g:wr.grownBy w1 none):TkRel w b s i k w1:=
 ⟨h.sc.gbN g,h.tok.gb g (by simp),h.res.gb g (by simp),Ah h.g g,h.tabs.gbN g⟩
theorem TkRel.go{w:World}{b:Nat}{s:Bs}{i k:Nat}{wr:World}(h:TkRel w b s i k wr)(hb:b<w.heap.size)(hk:k<s.length):TkRel w b s i (k+1) (wr.setCell ⟨b,1,none⟩ (.int .i64 ((k:Int)+1))):=
 ⟨h.sc.go _ _ (by simp) (by omega),h.tok.set_other _ _ (by simp;omega),h.res.set_other _ _ (by simp;omega),Ay h.g _ _ (.inl rfl),h.tabs.gb (Ay (Ac _ (some b)) _ _ (.inl rfl)) (by simp)⟩
theorem Iu{c:Int}(hc:c=1∨c=2){b:UInt8}(h:cls c b=true):b.toNat<128:=by
 have h1:BA b.toNat=c:=by simpa[cls]using h
 rcases E7 b.toNat with⟨h2,h3⟩| ⟨h2,h3⟩| ⟨h2,h3⟩| ⟨h2,h3⟩| ⟨h2,h3⟩<;>omega
theorem MU{b:UInt8}(h:Bb b=true):b.toNat<128:=by
 simp[Bb]at h;rcases h with h|h
 ·exact Iu (.inl rfl) h
 ·exact Iu (.inr rfl) h
theorem Gk{s:Bs}{p:UInt8→Bool}{i:Nat}(hi:i≤s.length):∀b∈A9 s i (Ao s p i),p b=true:=by
 intro b hb;obtain⟨k,hk,rfl⟩:=List.mem_iff_getElem.1 hb;rw[Dv (Bz _ _ _) (BV hi)]at hk;have h1:=Fv (p:=p) (s:=s) (i:=i) (j:=i+k) (by omega) (by omega);have h2:(A9 s i (Ao s p i))[k]? =s[i+k]?:=Pd (by omega);rw[List.getElem?_eq_getElem (by rw[Dv (Bz _ _ _) (BV hi)];omega),List.getElem?_eq_getElem h1.1]at h2;rw[Option.some.inj h2,←CZ h1.1];exact h1.2
theorem OC{s:Bs}{i:Nat}(hi:i≤s.length):Lib.toUpperD (A9 s i (Ao s Bb i))=Lib.toUpperA (A9 s i (Ao s Bb i)):=
 Lib.toUpperD_ascii _ fun b hb=>MU (Gk hi b hb)
structure TkEnd(w:World)(b:Nat)(s:Bs)(i k:Nat)(kind:Int)(t:Bs)(wr:World):Prop where
 sc:Sc wr b s k true true (-1)
 tok:Blk wr (w.heap.size+1) [.int .i64 kind,.int .i64 i,str t] 105
 res:Blk wr w.heap.size [.int .i64 0,.int .i64 0,str []] 105
 g:w.grownBy wr (some b)
theorem TkEnd.gbN{w:World}{b:Nat}{s:Bs}{i k:Nat}{kind:Int}{t:Bs}{wr w1:World}(h:TkEnd w b s i k kind t wr)(g:wr.grownBy w1 none):TkEnd w b s i k kind t w1:=
 ⟨h.sc.gbN g,h.tok.gb g (by simp),h.res.gb g (by simp),Ah h.g g⟩
theorem Ez{K:Act→World→Prop}{Q:Exit→Act→World→Prop}{e:Exit}{a:Act}{w:World}(F:World→Prop)(hF:F w)(h:∀w',F w'→Exit.then K Q e a w'):Exit.then K Q e a w:=h w hF
theorem MP{w:World}{b:Nat}{s:Bs}{i:Nat}(h:Sc w b s i true true (-1))(ht:Tabs b w)(hi:i<s.length)(hc:cls 1 (bAt s i)=true):
 Calls Tryz.prog 157 #[.pointer (some ⟨b,0,none⟩)] w (TokPost w b s (B3 s i)):=by
 have hb:=h.lt;have hf:=h.few;have c1:=h.c1;have g0:w.grownBy ((w.alloc (.cells #[.int .i64 0,.int .i64 0,str []] 105 (0,0))).alloc (.cells #[.int .i64 0,.int .i64 i,str []] 105 (0,0))) none:=Ad (World.grownBy_alloc w _ none) _;have hA:TkRel w b s i i ((w.alloc (.cells #[.int .i64 0,.int .i64 0,str []] 105 (0,0))).alloc (.cells #[.int .i64 0,.int .i64 i,str []] 105 (0,0))):=
  ⟨h.gbN g0,(Blk.new _ [.int .i64 0,.int .i64 i,str []] _).of_eq (by simp) rfl,(Blk.new _ [.int .i64 0,.int .i64 0,str []] _).alloc _,AU g0,ht.gbN g0⟩
 clear h ht g0;have hr1:Ao s Bb i≤s.length:=BV (by omega);have hr2:i≤Ao s Bb i:=Bz _ _ _;have HT:=O (show B3 s i=if 24<Ao s Bb i-i then .bad i else .tok ⟨0,i,Lib.toUpperA (A9 s i (Ao s Bb i))⟩ (Ao s Bb i) true from if_pos hc);have HC:=O hc;clear hc;go_enter func157,ntmps157;go_wp2_with fail;refine(BG hA.sc i 1 (r:=true) (by simp[hi,HC.out])).mono ?_;rintro e w1 ⟨rfl,g1⟩;have hA1:=hA.gbN g1;clear hA g1;go_wp2_with fail;go_loopg [] (Ao s Bb i-i) (fun g wr=>∃k:Nat,k+g=Ao s Bb i∧i≤k∧TkRel w b s i k wr)
 case atStart=>exact⟨i,by omega,Nat.le_refl _,hA1⟩
 case round=>
  obtain⟨k,hk,hik,hr⟩:=hrel;clear hA1 c1;have c1:=hr.sc.c1;have hb1:=hr.sc.lt;cases gk with
  | zero=>
    have hke:k=Ao s Bb i:=by omega
    have hstop:(decide (k<s.length)&&cls 1 (bAt s k))=false∧(decide (k<s.length)&&cls 2 (bAt s k))=false:=by
     by_cases hkl:k<s.length
     ·have:=GC (s:=s) (p:=Bb) (i:=i) (by omega);rw[←hke]at this;simp[Bb]at this;simp[this.1,this.2]
     ·simp[hkl]
    have HS:=O hstop;have hup:=OC (s:=s) (i:=i) (by omega);rw[←hke]at hup HT;rw[←hke]at hr1 hr2;have HUP:=O hup;have HL:=O (show(Lib.toUpperA (A9 s i k)).length=k-i by unfold Lib.toUpperA;rw[List.length_map,Dv hik (by omega)]);generalize Lib.toUpperA (A9 s i k)=T at*;clear hup hstop hke hk;go_wp2_with fail;refine(BG hr.sc k 1 (r:=false) HS.out.1).mono ?_;rintro e w2 ⟨rfl,g2⟩;have hq2:=hr.gbN g2;have d1:=hq2.sc.c1;go_wp2_with fail;refine(BG hq2.sc k 2 (r:=false) HS.out.2).mono ?_;rintro e w3 ⟨rfl,g3⟩;have hq3:=hq2.gbN g3;have g13:=Aa g2 g3;have e0:=hq3.sc.c0;have e1:=hq3.sc.c1;have t0:=hq3.tok.cell 0;have t1:=hq3.tok.cell 1;have t2:=hq3.tok.cell 2;have tf:=fun k=>hq3.tok.frozen k;have tl:=hq3.tok.lt;simp only[List.getElem?_cons_zero,List.getElem?_cons_succ]at t0 t1 t2;have hkI:decide ((k:Int)≤s.length)=true:=by simp;omega
    have hkI2:decide (i≤k)=true:=by simp;omega
    go_wp2_with fail;have hs3:=hq3.sc;have hq:=O hq3;clear hq3 hs3 hq2 hr g2 g3 d1;have HU3:=O (fun(W:World)(g:w3.grownBy W (some (w.heap.size+1)))=>FE (hq.out.tabs.gb g (by intro k e;cases e;omega)) s i k hf);rw[HUP.out]at HU3;go_region_with(first| (go_at_call 197;refine(HU3.out _ ?gg).mono ?_;(case gg=>exact (by repeat(first| (with_reducible exact Ac _ _)| (with_reducible assumption)| (with_reducible exact AU (by assumption))| (with_reducible refine Ad ?_ _)| (with_reducible refine Am ?_)| (with_reducible refine A3 ?_ _)| ((with_reducible refine Ay ?_ _ _ ?h2);case h2=>first|exact .inl rfl|exact .inr (Nat.le_refl _)|exact .inr (by simp<;>omega))| (with_reducible refine Ah ?_ (by assumption))| (with_reducible refine Aa ?_ (by assumption)))));rintro e w5 ⟨rfl,g5⟩;(have hb5:Blk w5 (w.heap.size+1) [.int .i64 0,.int .i64 i,str []] 105:=(by first|exact(hq.out.tok.drew).gb g5 (by simp)|exact(((hq.out.tok.drew).set 0 (.int .i64 0)).of_eq rfl rfl).gb g5 (by simp)));(have s0:=hb5.cell 0);(have s2:=hb5.cell 2);(have s1:=hb5.cell 1);(have sf:=fun k=>hb5.frozen k);(have sl:=hb5.lt);(simp only[List.getElem?_cons_zero,List.getElem?_cons_succ]at s0 s1 s2)));all_goals
     refine Ez (fun W=>TkEnd w b s i k 0 T W) ?_ ?_
     ·first
      |exact⟨((hq.out.sc.drewN 1).gbN g5).set_other _ _ (by simp;omega)|>.set_other _ _ (by simp;omega),((hb5.set 0 (.int .i64 0)).set 2 (str T)).of_eq rfl rfl,(((hq.out.res.drewN 1).gb g5 (by simp)).set_other _ _ (by simp)).set_other _ _ (by simp),Ay (Ay (Ah (Am hq.out.g) g5) _ _ (.inr (by simp))) _ _ (.inr (by simp))⟩
      |exact⟨(((hq.out.sc.drewN 1).set_other _ _ (by simp;omega)).gbN g5).set_other _ _ (by simp;omega),(hb5.set 2 (str T)).of_eq rfl rfl,(((hq.out.res.drewN 1).set_other _ _ (by simp)).gb g5 (by simp)).set_other _ _ (by simp),Ay (Ah (Ay (Am hq.out.g) _ _ (.inr (by simp))) g5) _ _ (.inr (by simp))⟩
     clear hb5 g5 s0 s1 s2 sf sl;intro W hW;have a0:=hW.tok.cell 0;have a1:=hW.tok.cell 1;have a2:=hW.tok.cell 2;simp only[List.getElem?_cons_zero,List.getElem?_cons_succ]at a0 a1 a2;have HW:=O hW;have HS:=O (fun(W':World)(g:W.grownBy W' none)=>IH (hW.gbN g).sc ⟨0,i,T⟩ 24);have hWs:=hW.g.size;have hWl:=hW.tok.lt;clear hW;by_cases hm:24<T.length
     ·have HM:=O (show B3 s i= .bad i by rw[HT.out,←HL.out,if_pos hm]);have HP:=O hm;clear hm;go_wp2_with fail;go_region_with(first| (go_at_call 198;refine(HS.out _ ?gg).mono ?_;(case gg=>exact (by repeat(first| (with_reducible exact Ac _ _)| (with_reducible assumption)| (with_reducible exact AU (by assumption))| (with_reducible refine Ad ?_ _)| (with_reducible refine Am ?_)| (with_reducible refine A3 ?_ _)| ((with_reducible refine Ay ?_ _ _ ?h2);case h2=>first|exact .inl rfl|exact .inr (Nat.le_refl _)|exact .inr (by simp<;>omega))| (with_reducible refine Ah ?_ (by assumption))| (with_reducible refine Aa ?_ (by assumption)))));intro e w8 hp8;obtain⟨g8,hp9⟩:=hp8;rw[if_pos HP.out]at hp9;obtain⟨rfl,h8⟩:=hp9;(have hr8:=(HW.out.res.drewN 1).gb g8 (by simp;omega));(have ht8:=(HW.out.tok.drewN 1).gb g8 (by simp;omega));(have r0:=hr8.cell 0);(have r1:=hr8.cell 1);(have r2:=hr8.cell 2);(have rf:=fun k=>hr8.frozen k);(have rl:=hr8.lt);(have b0:=ht8.cell 0);(have b1:=ht8.cell 1);(have b2:=ht8.cell 2);(simp only[List.getElem?_cons_zero,List.getElem?_cons_succ]at r0 r1 r2 b0 b1 b2)));all_goals
       go_wp2;refine bodyPost_ret (Bn (t:=⟨0,i,T⟩) (r:=false) rfl _ (hr8.set3 _ _ _) rfl rfl) rfl ⟨?_,?_⟩
       ·have g:=Aa (Am HW.out.g) g8;exact (by repeat(first| (with_reducible exact Ac _ _)| (with_reducible assumption)| (with_reducible exact AU (by assumption))| (with_reducible refine Ad ?_ _)| (with_reducible refine Am ?_)| (with_reducible refine A3 ?_ _)| ((with_reducible refine Ay ?_ _ _ ?h2);case h2=>first|exact .inl rfl|exact .inr (Nat.le_refl _)|exact .inr (by simp<;>omega))| (with_reducible refine Ah ?_ (by assumption))| (with_reducible refine Aa ?_ (by assumption))))
       ·rw[HM.out];exact⟨⟨_,rfl⟩,k,true,(by repeat(first| (with_reducible assumption)| (with_reducible apply Sc.alloc)| (with_reducible apply Sc.drew)| (with_reducible apply Sc.drewN)| (with_reducible apply Sc.setLine)| (with_reducible apply Sc.setBegun)| (with_reducible apply Sc.setBad)| (with_reducible apply Sc.go)| (with_reducible apply Sc.set_other)|omega| (simp<;>omega)))⟩
     ·have HM:=O (show B3 s i= .tok ⟨0,i,T⟩ k true by rw[HT.out,←HL.out,if_neg hm]);have HP:=O hm;clear hm;go_wp2_with fail;go_region_with(first| (go_at_call 198;refine(HS.out _ ?gg).mono ?_;(case gg=>exact (by repeat(first| (with_reducible exact Ac _ _)| (with_reducible assumption)| (with_reducible exact AU (by assumption))| (with_reducible refine Ad ?_ _)| (with_reducible refine Am ?_)| (with_reducible refine A3 ?_ _)| ((with_reducible refine Ay ?_ _ _ ?h2);case h2=>first|exact .inl rfl|exact .inr (Nat.le_refl _)|exact .inr (by simp<;>omega))| (with_reducible refine Ah ?_ (by assumption))| (with_reducible refine Aa ?_ (by assumption)))));intro e w8 hp8;obtain⟨g8,hp9⟩:=hp8;rw[if_neg HP.out]at hp9;obtain⟨rfl,h8⟩:=hp9;(have hr8:=(HW.out.res.drewN 1).gb g8 (by simp;omega));(have ht8:=(HW.out.tok.drewN 1).gb g8 (by simp;omega));(have r0:=hr8.cell 0);(have r1:=hr8.cell 1);(have r2:=hr8.cell 2);(have rf:=fun k=>hr8.frozen k);(have rl:=hr8.lt);(have b0:=ht8.cell 0);(have b1:=ht8.cell 1);(have b2:=ht8.cell 2);(simp only[List.getElem?_cons_zero,List.getElem?_cons_succ]at r0 r1 r2 b0 b1 b2)));all_goals
       go_wp2;refine bodyPost_ret (Bn (t:=⟨0,i,T⟩) (r:=true) rfl _ (hr8.set3 _ _ _) rfl rfl) rfl ⟨?_,?_⟩
       ·have g:=Aa (Am HW.out.g) g8;exact (by repeat(first| (with_reducible exact Ac _ _)| (with_reducible assumption)| (with_reducible exact AU (by assumption))| (with_reducible refine Ad ?_ _)| (with_reducible refine Am ?_)| (with_reducible refine A3 ?_ _)| ((with_reducible refine Ay ?_ _ _ ?h2);case h2=>first|exact .inl rfl|exact .inr (Nat.le_refl _)|exact .inr (by simp<;>omega))| (with_reducible refine Ah ?_ (by assumption))| (with_reducible refine Aa ?_ (by assumption))))
       ·rw[HM.out];exact⟨rfl,(by repeat(first| (with_reducible assumption)| (with_reducible apply Sc.alloc)| (with_reducible apply Sc.drew)| (with_reducible apply Sc.drewN)| (with_reducible apply Sc.setLine)| (with_reducible apply Sc.setBegun)| (with_reducible apply Sc.setBad)| (with_reducible apply Sc.go)| (with_reducible apply Sc.set_other)|omega| (simp<;>omega)))⟩
  | succ gk=>
    have h10:=Fv hik (by omega:k<Ao s Bb i);have hkl:=h10.1;have HW:=O h10.2;clear h10;cases hc1:cls 1 (bAt s k)with
    | true=>
      have HC1:=O hc1;clear hc1;go_wp2_with fail;refine(BG hr.sc k 1 (r:=true) (by simp[hkl,HC1.out])).mono ?_;rintro e w2 ⟨rfl,g2⟩;have hr2':=hr.gbN g2;have d1:=hr2'.sc.c1;have f1:=hr2'.sc.fr 1;go_wp2;go_roundg gk
      case measure=>omega
      case rel=>exact⟨k+1,by omega,by omega,hr2'.go hb hkl⟩
    | false=>
      have HC1:=O hc1;have HC2:=O (show cls 2 (bAt s k)=true by have:=HW.out;simpa[Bb,hc1]using this);clear hc1;go_wp2_with fail;refine(BG hr.sc k 1 (r:=false) (by simp[hkl,HC1.out])).mono ?_;rintro e w2 ⟨rfl,g2⟩;have hr2':=hr.gbN g2;have d1:=hr2'.sc.c1;have f1:=hr2'.sc.fr 1;go_wp2_with fail;refine(BG hr2'.sc k 2 (r:=true) (by simp[hkl,HC2.out])).mono ?_;rintro e w3 ⟨rfl,g3⟩;have hr3':=hr2'.gbN g3;have e1:=hr3'.sc.c1;have f1:=hr3'.sc.fr 1;go_wp2;go_roundg gk
      case measure=>omega
      case rel=>exact⟨k+1,by omega,by omega,hr3'.go hb hkl⟩
theorem O7{w:World}{b:Nat}{s:Bs}{i:Nat}(h:Sc w b s i true true (-1))(ht:Tabs b w)(hi:i<s.length)(hn1:cls 1 (bAt s i)=false)(hc:cls 2 (bAt s i)=true):
 Calls Tryz.prog 157 #[.pointer (some ⟨b,0,none⟩)] w (TokPost w b s (B3 s i)):=by
 have hb:=h.lt;have hf:=h.few;have c1:=h.c1;have g0:w.grownBy ((w.alloc (.cells #[.int .i64 0,.int .i64 0,str []] 105 (0,0))).alloc (.cells #[.int .i64 0,.int .i64 i,str []] 105 (0,0))) none:=Ad (World.grownBy_alloc w _ none) _;have hA:TkRel w b s i i ((w.alloc (.cells #[.int .i64 0,.int .i64 0,str []] 105 (0,0))).alloc (.cells #[.int .i64 0,.int .i64 i,str []] 105 (0,0))):=
  ⟨h.gbN g0,(Blk.new _ [.int .i64 0,.int .i64 i,str []] _).of_eq (by simp) rfl,(Blk.new _ [.int .i64 0,.int .i64 0,str []] _).alloc _,AU g0,ht.gbN g0⟩
 clear h ht g0;have hr1:Ao s (cls 2) i≤s.length:=BV (by omega);have hr2:i≤Ao s (cls 2) i:=Bz _ _ _;have HT:=O (show B3 s i=if 15<Ao s (cls 2) i-i then .bad i else .tok ⟨1,i,A9 s i (Ao s (cls 2) i)⟩ (Ao s (cls 2) i) true from(if_neg (by rw[hn1];simp)).trans (if_pos hc));have HC:=O (Z hn1 hc);clear hc hn1;go_enter func157,ntmps157;go_wp2_with fail;refine(BG hA.sc i 1 (r:=false) (by simp[HC.out.1])).mono ?_;rintro e w1 ⟨rfl,g1⟩;have hA1:=hA.gbN g1;clear hA g1;go_wp2_with fail;refine(BG hA1.sc i 2 (r:=true) (by simp[hi,HC.out.2])).mono ?_;rintro e w1' ⟨rfl,g1⟩;have hA2:=hA1.gbN g1;clear hA1 g1;go_wp2_with fail;go_loopg [] (Ao s (cls 2) i-i) (fun g wr=>∃k:Nat,k+g=Ao s (cls 2) i∧i≤k∧TkRel w b s i k wr)
 case atStart=>exact⟨i,by omega,Nat.le_refl _,hA2⟩
 case round=>
  obtain⟨k,hk,hik,hr⟩:=hrel;clear hA2 c1;have c1:=hr.sc.c1;have hb1:=hr.sc.lt;cases gk with
  | zero=>
    have hke:k=Ao s (cls 2) i:=by omega
    have hstop:(decide (k<s.length)&&cls 2 (bAt s k))=false:=by
     by_cases hkl:k<s.length
     ·have:=GC (s:=s) (p:=cls 2) (i:=i) (by omega);rw[←hke]at this;simp[this]
     ·simp[hkl]
    have HS:=O hstop;rw[←hke]at HT hr1 hr2;have hx:=CY s i k;rw[show(s.drop i).take (k-i)=A9 s i k from rfl]at hx;have HX:=O hx;have HL:=O (show(A9 s i k).length=k-i from Dv hik (by omega));generalize A9 s i k=T at*;clear hx hstop hke hk;go_wp2_with fail;refine(BG hr.sc k 2 (r:=false) HS.out).mono ?_;rintro e w3 ⟨rfl,g3⟩;have hq3:=hr.gbN g3;have e0:=hq3.sc.c0;have e1:=hq3.sc.c1;have t0:=hq3.tok.cell 0;have t1:=hq3.tok.cell 1;have t2:=hq3.tok.cell 2;have tf:=fun k=>hq3.tok.frozen k;have tl:=hq3.tok.lt;simp only[List.getElem?_cons_zero,List.getElem?_cons_succ]at t0 t1 t2;have hkI:decide ((k:Int)≤s.length)=true:=by simp;omega
    have hkI2:decide (i≤k)=true:=by simp;omega
    have hq:=O hq3;clear hq3 hr g3;go_wp2_with fail;go_region;rw[HX.out];all_goals
     refine Ez (fun W=>TkEnd w b s i k 1 T W) ?_ ?_
     ·exact⟨((hq.out.sc.drewN 1).set_other _ _ (by simp;omega)).set_other _ _ (by simp;omega),(((hq.out.tok.drewN 1).set 0 (.int .i64 1)).set 2 (str T)).of_eq rfl rfl,((hq.out.res.drewN 1).set_other _ _ (by simp)).set_other _ _ (by simp),Ay (Ay (Am hq.out.g) _ _ (.inr (by simp))) _ _ (.inr (by simp))⟩
     intro W hW;have a0:=hW.tok.cell 0;have a1:=hW.tok.cell 1;have a2:=hW.tok.cell 2;simp only[List.getElem?_cons_zero,List.getElem?_cons_succ]at a0 a1 a2;have HW:=O hW;have HS:=O (fun(W':World)(g:W.grownBy W' none)=>IH (hW.gbN g).sc ⟨1,i,T⟩ 15);have hWs:=hW.g.size;have hWl:=hW.tok.lt;clear hW;by_cases hm:15<T.length
     ·have HM:=O (show B3 s i= .bad i by rw[HT.out,←HL.out,if_pos hm]);have HP:=O hm;clear hm;go_wp2_with fail;go_region_with(first| (go_at_call 198;refine(HS.out _ ?gg).mono ?_;(case gg=>exact (by repeat(first| (with_reducible exact Ac _ _)| (with_reducible assumption)| (with_reducible exact AU (by assumption))| (with_reducible refine Ad ?_ _)| (with_reducible refine Am ?_)| (with_reducible refine A3 ?_ _)| ((with_reducible refine Ay ?_ _ _ ?h2);case h2=>first|exact .inl rfl|exact .inr (Nat.le_refl _)|exact .inr (by simp<;>omega))| (with_reducible refine Ah ?_ (by assumption))| (with_reducible refine Aa ?_ (by assumption)))));intro e w8 hp8;obtain⟨g8,hp9⟩:=hp8;rw[if_pos HP.out]at hp9;obtain⟨rfl,h8⟩:=hp9;(have hr8:=(HW.out.res.drewN 1).gb g8 (by simp;omega));(have ht8:=(HW.out.tok.drewN 1).gb g8 (by simp;omega));(have r0:=hr8.cell 0);(have r1:=hr8.cell 1);(have r2:=hr8.cell 2);(have rf:=fun k=>hr8.frozen k);(have rl:=hr8.lt);(have b0:=ht8.cell 0);(have b1:=ht8.cell 1);(have b2:=ht8.cell 2);(simp only[List.getElem?_cons_zero,List.getElem?_cons_succ]at r0 r1 r2 b0 b1 b2)));all_goals
       go_wp2;refine bodyPost_ret (Bn (t:=⟨1,i,T⟩) (r:=false) rfl _ (hr8.set3 _ _ _) rfl rfl) rfl ⟨?_,?_⟩
       ·have g:=Aa (Am HW.out.g) g8;exact (by repeat(first| (with_reducible exact Ac _ _)| (with_reducible assumption)| (with_reducible exact AU (by assumption))| (with_reducible refine Ad ?_ _)| (with_reducible refine Am ?_)| (with_reducible refine A3 ?_ _)| ((with_reducible refine Ay ?_ _ _ ?h2);case h2=>first|exact .inl rfl|exact .inr (Nat.le_refl _)|exact .inr (by simp<;>omega))| (with_reducible refine Ah ?_ (by assumption))| (with_reducible refine Aa ?_ (by assumption))))
       ·rw[HM.out];exact⟨⟨_,rfl⟩,k,true,(by repeat(first| (with_reducible assumption)| (with_reducible apply Sc.alloc)| (with_reducible apply Sc.drew)| (with_reducible apply Sc.drewN)| (with_reducible apply Sc.setLine)| (with_reducible apply Sc.setBegun)| (with_reducible apply Sc.setBad)| (with_reducible apply Sc.go)| (with_reducible apply Sc.set_other)|omega| (simp<;>omega)))⟩
     ·have HM:=O (show B3 s i= .tok ⟨1,i,T⟩ k true by rw[HT.out,←HL.out,if_neg hm]);have HP:=O hm;clear hm;go_wp2_with fail;go_region_with(first| (go_at_call 198;refine(HS.out _ ?gg).mono ?_;(case gg=>exact (by repeat(first| (with_reducible exact Ac _ _)| (with_reducible assumption)| (with_reducible exact AU (by assumption))| (with_reducible refine Ad ?_ _)| (with_reducible refine Am ?_)| (with_reducible refine A3 ?_ _)| ((with_reducible refine Ay ?_ _ _ ?h2);case h2=>first|exact .inl rfl|exact .inr (Nat.le_refl _)|exact .inr (by simp<;>omega))| (with_reducible refine Ah ?_ (by assumption))| (with_reducible refine Aa ?_ (by assumption)))));intro e w8 hp8;obtain⟨g8,hp9⟩:=hp8;rw[if_neg HP.out]at hp9;obtain⟨rfl,h8⟩:=hp9;(have hr8:=(HW.out.res.drewN 1).gb g8 (by simp;omega));(have ht8:=(HW.out.tok.drewN 1).gb g8 (by simp;omega));(have r0:=hr8.cell 0);(have r1:=hr8.cell 1);(have r2:=hr8.cell 2);(have rf:=fun k=>hr8.frozen k);(have rl:=hr8.lt);(have b0:=ht8.cell 0);(have b1:=ht8.cell 1);(have b2:=ht8.cell 2);(simp only[List.getElem?_cons_zero,List.getElem?_cons_succ]at r0 r1 r2 b0 b1 b2)));all_goals
       go_wp2;refine bodyPost_ret (Bn (t:=⟨1,i,T⟩) (r:=true) rfl _ (hr8.set3 _ _ _) rfl rfl) rfl ⟨?_,?_⟩
       ·have g:=Aa (Am HW.out.g) g8;exact (by repeat(first| (with_reducible exact Ac _ _)| (with_reducible assumption)| (with_reducible exact AU (by assumption))| (with_reducible refine Ad ?_ _)| (with_reducible refine Am ?_)| (with_reducible refine A3 ?_ _)| ((with_reducible refine Ay ?_ _ _ ?h2);case h2=>first|exact .inl rfl|exact .inr (Nat.le_refl _)|exact .inr (by simp<;>omega))| (with_reducible refine Ah ?_ (by assumption))| (with_reducible refine Aa ?_ (by assumption))))
       ·rw[HM.out];exact⟨rfl,(by repeat(first| (with_reducible assumption)| (with_reducible apply Sc.alloc)| (with_reducible apply Sc.drew)| (with_reducible apply Sc.drewN)| (with_reducible apply Sc.setLine)| (with_reducible apply Sc.setBegun)| (with_reducible apply Sc.setBad)| (with_reducible apply Sc.go)| (with_reducible apply Sc.set_other)|omega| (simp<;>omega)))⟩
  | succ gk=>
    have h10:=Fv hik (by omega:k<Ao s (cls 2) i);have hkl:=h10.1;have HW:=O h10.2;clear h10;go_wp2_with fail;refine(BG hr.sc k 2 (r:=true) (by simp[hkl,HW.out])).mono ?_;rintro e w2 ⟨rfl,g2⟩;have hr2':=hr.gbN g2;have d1:=hr2'.sc.c1;have f1:=hr2'.sc.fr 1;go_wp2;go_roundg gk
    case measure=>omega
    case rel=>exact⟨k+1,by omega,by omega,hr2'.go hb hkl⟩
def TokFin(b:Nat)(s:Bs)(r:St)(t:Tok)(ok:Bool)(w:World):Prop:=match r with
 | .tok t' j l=>t=t'∧ok=true∧Sc w b s j l l (-1)
 | .bad k=>ok=false∧∃j l,Sc w b s j l l k
 |_=>False
theorem TokPost.fin{w w':World}{b:Nat}{s:Bs}{r:St}{e:Ending}(h:TokPost w b s r e w'):w.grownBy w' (some b)∧∃t ok,e= .returned (.tuple #[AY t,.bool ok])∧TokFin b s r t ok w':=by
 obtain⟨g,h⟩:=h;refine⟨g,?_⟩;cases r with
 |tok t j l=>exact⟨t,true,h.1,rfl,rfl,h.2⟩
 |bad k=>obtain⟨⟨t,e⟩,hs⟩:=h;exact⟨t,false,e,rfl,hs⟩
 |again j l=>exact h.elim
 |stop=>exact h.elim
theorem TokFin.post{w w':World}{b:Nat}{s:Bs}{r:St}{t:Tok}{ok:Bool}(h:TokFin b s r t ok w')(g:w.grownBy w' (some b)):TokPost w b s r (.returned (.tuple #[AY t,.bool ok])) w':=by
 refine⟨g,?_⟩;cases r with
 |tok t' j l=>obtain⟨rfl,rfl,hs⟩:=h;exact⟨rfl,hs⟩
 |bad k=>obtain⟨rfl,hs⟩:=h;exact⟨⟨t,rfl⟩,hs⟩
 |again j l=>exact h.elim
 |stop=>exact h.elim
theorem TokFin.set_other{w:World}{b:Nat}{s:Bs}{r:St}{t:Tok}{ok:Bool}(h:TokFin b s r t ok w)(a:Addr)(v:Value)(hne:b≠a.block):TokFin b s r t ok (w.setCell a v):=by
 cases r with
 |tok t' j l=>obtain⟨h1,h2,hs⟩:=h;exact⟨h1,h2,hs.set_other a v hne⟩
 |bad k=>obtain⟨h1,j,l,hs⟩:=h;exact⟨h1,j,l,hs.set_other a v hne⟩
 |again j l=>exact h.elim
 |stop=>exact h.elim
theorem CA{a:UInt8}{n:Nat}{r:Bool}(hn:n<256)(h:(a==UInt8.ofNat n)=r):((a.toNat:Int)==(n:Int))=r:=by
 subst h;rw[Bool.eq_iff_iff];simp only[beq_iff_eq];constructor
 ·intro h;have h1:a.toNat=n:=by omega
  apply UInt8.toNat_inj.1;rw[h1];simp[UInt8.toNat_ofNat',Nat.mod_eq_of_lt hn]
 ·rintro rfl;simp[UInt8.toNat_ofNat',Nat.mod_eq_of_lt hn]
theorem MO{w:World}{b:Nat}{s:Bs}{i:Nat}(h:Sc w b s i true true (-1))(ht:Tabs b w)(hi:i<s.length)(hn1:cls 1 (bAt s i)=false)(hn2:cls 2 (bAt s i)=false)(h10:bAt s i≠10):
 Calls Tryz.prog 157 #[.pointer (some ⟨b,0,none⟩)] w (TokPost w b s (B3 s i)):=by
 have hb:=h.lt;have hf:=h.few;have c1:=h.c1;have g0:w.grownBy ((w.alloc (.cells #[.int .i64 0,.int .i64 0,str []] 105 (0,0))).alloc (.cells #[.int .i64 0,.int .i64 i,str []] 105 (0,0))) none:=Ad (World.grownBy_alloc w _ none) _;have hA:TkRel w b s i i ((w.alloc (.cells #[.int .i64 0,.int .i64 0,str []] 105 (0,0))).alloc (.cells #[.int .i64 0,.int .i64 i,str []] 105 (0,0))):=
  ⟨h.gbN g0,(Blk.new _ [.int .i64 0,.int .i64 i,str []] _).of_eq (by simp) rfl,(Blk.new _ [.int .i64 0,.int .i64 0,str []] _).alloc _,AU g0,ht.gbN g0⟩
 clear h ht g0;have HC:=O (Z hn1 hn2);have HB:=O h10;clear hn1 hn2 h10;go_enter func157,ntmps157;go_wp2_with fail;refine(BG hA.sc i 1 (r:=false) (by simp[HC.out.1])).mono ?_;rintro e w1 ⟨rfl,g1⟩;have hA1:=hA.gbN g1;clear hA g1;go_wp2_with fail;refine(BG hA1.sc i 2 (r:=false) (by simp[HC.out.2])).mono ?_;rintro e w2 ⟨rfl,g1⟩;have hA2:=hA1.gbN g1;clear hA1 g1 c1;have c0:=hA2.sc.c0;have c1:=hA2.sc.c1;have hg:=fun h=>Cr s i h hi;have gs:=hA2.g.size;have hbl:=hA2.sc.lt;have t0:=hA2.tok.cell 0;have t1:=hA2.tok.cell 1;have t2:=hA2.tok.cell 2;simp only[List.getElem?_cons_zero,List.getElem?_cons_succ]at t0 t1 t2;cases hq:(bAt s i==34||bAt s i==39)with
 | true=>
   have HT:=O (show B3 s i=Db s i from(if_neg (by rw[HC.out.1];simp)).trans ((if_neg (by rw[HC.out.2];simp)).trans (if_pos (by simpa using hq))));have hX:=QF hA2.sc hi HB.out;have HX:=O hX;clear hX;cases h34:bAt s i==34 with
   | true=>
     have e34:=CA (n:=34) (by decide) h34;clear hq h34;simp only[Int.cast_ofNat_Int]at e34;generalize bAt s i=q at*;go_wp2_with fail;refine HX.out.mono ?_;intro e w3 hp;obtain⟨g3,t,ok,rfl,hF⟩:=hp.fin;have hr3:=hA2.res.gb g3 (by simp;omega);have r0:=hr3.cell 0;have r1:=hr3.cell 1;have r2:=hr3.cell 2;have rf:=fun k=>hr3.frozen k;have rl:=hr3.lt;simp only[List.getElem?_cons_zero,List.getElem?_cons_succ]at r0 r1 r2;go_wp2;refine bodyPost_ret (Bn (t:=t) (r:=ok) rfl _ (hr3.set3 _ _ _) rfl rfl) rfl ?_;rw[HT.out];have g:=Aa hA2.g g3;exact(((hF.set_other _ _ (by simp;omega)).set_other _ _ (by simp;omega)).set_other _ _ (by simp;omega)).post (by repeat(first| (with_reducible exact Ac _ _)| (with_reducible assumption)| (with_reducible exact AU (by assumption))| (with_reducible refine Ad ?_ _)| (with_reducible refine Am ?_)| (with_reducible refine A3 ?_ _)| ((with_reducible refine Ay ?_ _ _ ?h2);case h2=>first|exact .inl rfl|exact .inr (Nat.le_refl _)|exact .inr (by simp<;>omega))| (with_reducible refine Ah ?_ (by assumption))| (with_reducible refine Aa ?_ (by assumption))))
   | false=>
     have e34:=CA (n:=34) (by decide) h34;have e39:=CA (n:=39) (r:=true) (by decide) (by simpa[h34]using hq);clear hq h34;simp only[Int.cast_ofNat_Int]at e34 e39;generalize bAt s i=q at*;go_wp2_with fail;refine HX.out.mono ?_;intro e w3 hp;obtain⟨g3,t,ok,rfl,hF⟩:=hp.fin;have hr3:=hA2.res.gb g3 (by simp;omega);have r0:=hr3.cell 0;have r1:=hr3.cell 1;have r2:=hr3.cell 2;have rf:=fun k=>hr3.frozen k;have rl:=hr3.lt;simp only[List.getElem?_cons_zero,List.getElem?_cons_succ]at r0 r1 r2;go_wp2;refine bodyPost_ret (Bn (t:=t) (r:=ok) rfl _ (hr3.set3 _ _ _) rfl rfl) rfl ?_;rw[HT.out];have g:=Aa hA2.g g3;exact(((hF.set_other _ _ (by simp;omega)).set_other _ _ (by simp;omega)).set_other _ _ (by simp;omega)).post (by repeat(first| (with_reducible exact Ac _ _)| (with_reducible assumption)| (with_reducible exact AU (by assumption))| (with_reducible refine Ad ?_ _)| (with_reducible refine Am ?_)| (with_reducible refine A3 ?_ _)| ((with_reducible refine Ay ?_ _ _ ?h2);case h2=>first|exact .inl rfl|exact .inr (Nat.le_refl _)|exact .inr (by simp<;>omega))| (with_reducible refine Ah ?_ (by assumption))| (with_reducible refine Aa ?_ (by assumption))))
 | false=>
   have h34:(bAt s i==34)=false∧(bAt s i==39)=false:=by simpa using hq
   have HT0:=O (show B3 s i=(match BD (s.drop i)with|some (d,n)=>St.tok ⟨3,i,d⟩ (i+n) true|none=>F3 s i)from(if_neg (by rw[HC.out.1];simp)).trans ((if_neg (by rw[HC.out.2];simp)).trans (if_neg (by simpa using h34))));have e34:=CA (n:=34) (by decide) h34.1;have e39:=CA (n:=39) (by decide) h34.2;have hX:=PT hA2.sc;have HX0:=O hX;clear hq h34 hX;simp only[Int.cast_ofNat_Int]at e34 e39;generalize bAt s i=q at*;go_wp2_with fail;refine HX0.out.mono ?_;rintro e w4 ⟨g4,hp⟩;have hA4:=hA2.gbN g4;have gs4:=hA4.g.size;have hb4:=hA4.sc.lt;cases hd:BD (s.drop i)with
   | some p=>
     obtain⟨d,n⟩:=p;have hlen:=Iv hd;simp only[List.length_drop]at hlen;rw[hd]at hp HT0;have HT:=O HT0.out;subst hp;clear hd HT0;have q1:=hA4.sc.c1;have f1:=hA4.sc.fr 1;have r0:=hA4.res.cell 0;have r1:=hA4.res.cell 1;have r2:=hA4.res.cell 2;have rf:=fun k=>hA4.res.frozen k;have rl:=hA4.res.lt;simp only[List.getElem?_cons_zero,List.getElem?_cons_succ]at r0 r1 r2;go_wp2;refine bodyPost_ret (Bn (t:=⟨3,i,d⟩) (r:=true) rfl _ ((hA4.res.set_other _ _ (by simp;omega)).set3 _ _ _) rfl rfl) rfl ⟨?_,?_⟩
     ·have g:=hA4.g;exact (by repeat(first| (with_reducible exact Ac _ _)| (with_reducible assumption)| (with_reducible exact AU (by assumption))| (with_reducible refine Ad ?_ _)| (with_reducible refine Am ?_)| (with_reducible refine A3 ?_ _)| ((with_reducible refine Ay ?_ _ _ ?h2);case h2=>first|exact .inl rfl|exact .inr (Nat.le_refl _)|exact .inr (by simp<;>omega))| (with_reducible refine Ah ?_ (by assumption))| (with_reducible refine Aa ?_ (by assumption))))
     ·rw[HT.out];have hs4:=hA4.sc;exact⟨rfl,(by repeat(first| (with_reducible assumption)| (with_reducible apply Sc.alloc)| (with_reducible apply Sc.drew)| (with_reducible apply Sc.drewN)| (with_reducible apply Sc.setLine)| (with_reducible apply Sc.setBegun)| (with_reducible apply Sc.setBad)| (with_reducible apply Sc.go)| (with_reducible apply Sc.set_other)|omega| (simp<;>omega)))⟩
   | none=>
     rw[hd]at hp HT0;have HT:=O HT0.out;obtain⟨d,n,rfl⟩:=hp;clear hd HT0;have hX:=Qy hA4.sc hA4.tabs;have HX:=O hX;clear hX;have u0:=hA4.tok.cell 0;have u1:=hA4.tok.cell 1;have u2:=hA4.tok.cell 2;simp only[List.getElem?_cons_zero,List.getElem?_cons_succ]at u0 u1 u2;go_wp2_with fail;refine HX.out.mono ?_;intro e w3 hp;obtain⟨g3,t,ok,rfl,hF⟩:=hp.fin;have hr3:=hA4.res.gb g3 (by simp;omega);have r0:=hr3.cell 0;have r1:=hr3.cell 1;have r2:=hr3.cell 2;have rf:=fun k=>hr3.frozen k;have rl:=hr3.lt;simp only[List.getElem?_cons_zero,List.getElem?_cons_succ]at r0 r1 r2;go_wp2;refine bodyPost_ret (Bn (t:=t) (r:=ok) rfl _ (hr3.set3 _ _ _) rfl rfl) rfl ?_;rw[HT.out];have g:=Aa hA4.g g3;exact(((hF.set_other _ _ (by simp;omega)).set_other _ _ (by simp;omega)).set_other _ _ (by simp;omega)).post (by repeat(first| (with_reducible exact Ac _ _)| (with_reducible assumption)| (with_reducible exact AU (by assumption))| (with_reducible refine Ad ?_ _)| (with_reducible refine Am ?_)| (with_reducible refine A3 ?_ _)| ((with_reducible refine Ay ?_ _ _ ?h2);case h2=>first|exact .inl rfl|exact .inr (Nat.le_refl _)|exact .inr (by simp<;>omega))| (with_reducible refine Ah ?_ (by assumption))| (with_reducible refine Aa ?_ (by assumption))))
theorem O6{w:World}{b:Nat}{s:Bs}{i:Nat}(h:Sc w b s i true true (-1))(ht:Tabs b w)(hi:i<s.length)(h10:bAt s i≠10):
 Calls Tryz.prog 157 #[.pointer (some ⟨b,0,none⟩)] w (TokPost w b s (B3 s i)):=by
 cases h1:cls 1 (bAt s i)with
 |true=>exact MP h ht hi h1
 | false=>
   cases h2:cls 2 (bAt s i)with
   |true=>exact O7 h ht hi h1 h2
   |false=>exact MO h ht hi h1 h2 h10
end Go.Proofs.YtgjdhajcnechdaaGreatDoor
