/-
  The lexer: a token.
-/
import Derived.Test.YtmcajbhljbbglaaGreatDoorSpF
import Derived.Test.YtmcajbhljbbglaaGreatDoorSp15
set_option linter.all false
set_option maxRecDepth 100000
set_option maxHeartbeats 8000000
namespace Go.Proofs.YtmcajbhljbbglaaGreatDoor
open Tryz
open Go.RowKit
structure TkRel(w:World)(b:Nat)(s:Bs)(i k:Nat)(wr:World):Prop where
 sc:Sc wr b s k true true (-1)
 tok:Blk wr (w.heap.size+1) [.int .i64 0,.int .i64 i,str []] 89
 res:Blk wr w.heap.size [.int .i64 0,.int .i64 0,str []] 89
 g:w.grownBy wr (some b)
 tabs:Tabs b wr
theorem TkRel.gbN{w:World}{b:Nat}{s:Bs}{i k:Nat}{wr w1:World}(h:TkRel w b s i k wr)(g:wr.grownBy w1 none):TkRel w b s i k w1:=
 ⟨h.sc.gbN g,h.tok.gb g Ae,h.res.gb g Ae,A0 h.g g,h.tabs.gbN g⟩
theorem TkRel.go{w:World}{b:Nat}{s:Bs}{i k:Nat}{wr:World}(h:TkRel w b s i k wr)(hb:b<w.heap.size)(hk:k<s.length):TkRel w b s i (k+1) (wr.setCell ⟨b,1,none⟩ (.int .i64 ((k:Int)+1))):=
 ⟨h.sc.go _ _ Ae Ab,h.tok.set_other _ _ Ag,h.res.set_other _ _ Ag,A7 h.g _ _ (.inl rfl),h.tabs.gb (A7 (Aj _ (some b)) _ _ (.inl rfl)) Ae⟩
theorem VP{c:Int}(hc:c=1∨c=2){b:UInt8}(h:cls c b=true):b.toNat<128:=by
 have h1:Cl b.toNat=c:=by simpa[cls]using h
 rcases I2 b.toNat with⟨h2,h3⟩| ⟨h2,h3⟩| ⟨h2,h3⟩| ⟨h2,h3⟩| ⟨h2,h3⟩<;>omega
theorem sG{b:UInt8}(h:Bm b=true):b.toNat<128:=by
 simp[Bm]at h;rcases h with h|h
 ·exact VP (.inl rfl) h
 ·exact VP (.inr rfl) h
theorem Pw{s:Bs}{p:UInt8→Bool}{i:Nat}(hi:i≤s.length):∀b∈A3 s i (Au s p i),p b=true:=by
 intro b hb;obtain⟨k,hk,rfl⟩:=List.mem_iff_getElem.1 hb;rw[Hj (By _ _ _) (Cp hi)]at hk;have h1:=Hr (p:=p) (s:=s) (i:=i) (j:=i+k) Ab Ab;have h2:(A3 s i (Au s p i))[k]? =s[i+k]?:=Wh Ab;rw[List.getElem?_eq_getElem (by rw[Hj (By _ _ _) (Cp hi)];omega),List.getElem?_eq_getElem h1.1]at h2;rw[Option.some.inj h2,←Gg h1.1];exact h1.2
theorem wD{s:Bs}{i:Nat}(hi:i≤s.length):Lib.toUpperD (A3 s i (Au s Bm i))=Lib.toUpperA (A3 s i (Au s Bm i)):=
 Lib.toUpperD_ascii _ fun b hb=>sG (Pw hi b hb)
structure TkEnd(w:World)(b:Nat)(s:Bs)(i k:Nat)(kind:Int)(t:Bs)(wr:World):Prop where
 sc:Sc wr b s k true true (-1)
 tok:Blk wr (w.heap.size+1) [.int .i64 kind,.int .i64 i,str t] 89
 res:Blk wr w.heap.size [.int .i64 0,.int .i64 0,str []] 89
 g:w.grownBy wr (some b)
theorem TkEnd.gbN{w:World}{b:Nat}{s:Bs}{i k:Nat}{kind:Int}{t:Bs}{wr w1:World}(h:TkEnd w b s i k kind t wr)(g:wr.grownBy w1 none):TkEnd w b s i k kind t w1:=
 ⟨h.sc.gbN g,h.tok.gb g Ae,h.res.gb g Ae,A0 h.g g⟩
theorem Vc{K:Act→World→Prop}{Q:Exit→Act→World→Prop}{e:Exit}{a:Act}{w:World}(F:World→Prop)(hF:F w)(h:∀w',F w'→Exit.then K Q e a w'):Exit.then K Q e a w:=h w hF
theorem tL{w:World}{b:Nat}{s:Bs}{i:Nat}(h:Sc w b s i true true (-1))(ht:Tabs b w)(hi:i<s.length)(hc:cls 1 (bAt s i)=true):
 Calls Tryz.prog 114 #[.pointer (some ⟨b,0,none⟩)] w (TokPost w b s (AK s i)):=by
 have RB{P}(h:P:=by
 have hr1:Au s Bm i≤s.length:=Cp Ab;have hr2:i≤Au s Bm i:=By _ _ _;have HT:=Z (show AK s i=if 24<Au s Bm i-i then .bad i else .tok ⟨0,i,Lib.toUpperA (A3 s i (Au s Bm i))⟩ (Au s Bm i) true from if_pos hc);have HC:=Z hc;clear hc;go_enter func114,ntmps114;go_wp2_with fail;refine(Dn hA.sc i 1 (r:=true) (by simp[hi,HC.out])).mono ?_;rintro e w1 ⟨rfl,g1⟩;have hA1:=hA.gbN g1;clear hA g1;go_wp2_with fail;go_loopg [] (Au s Bm i-i) (fun g wr=>∃k:Nat,k+g=Au s Bm i∧i≤k∧TkRel w b s i k wr)
 case atStart=>exact⟨i,by omega,Nat.le_refl _,hA1⟩
 case round=>
  obtain⟨k,hk,hik,hr⟩:=hrel;clear hA1 c1;have c1:=hr.sc.c1;have hb1:=hr.sc.lt;cases gk with
  | zero=>
    have hke:k=Au s Bm i:=Ab;have hstop:(decide (k<s.length)&&cls 1 (bAt s k))=false∧(decide (k<s.length)&&cls 2 (bAt s k))=false:=by
     by_cases hkl:k<s.length
     ·have:=Jw (s:=s) (p:=Bm) (i:=i) Ab;rw[←hke]at this;simp[Bm]at this;simp[this.1,this.2]
     ·simp[hkl]
    have HS:=Z hstop;have hup:=wD (s:=s) (i:=i) Ab;rw[←hke]at hup HT;rw[←hke]at hr1 hr2;have HUP:=Z hup;have HL:=Z (show(Lib.toUpperA (A3 s i k)).length=k-i by unfold Lib.toUpperA;rw[List.length_map,Hj hik Ab]);generalize Lib.toUpperA (A3 s i k)=T at*;clear hup hstop hke hk;go_wp2_with fail;refine(Dn hr.sc k 1 (r:=false) HS.out.1).mono ?_;rintro e w2 ⟨rfl,g2⟩;have hq2:=hr.gbN g2;have d1:=hq2.sc.c1;go_wp2_with fail;refine(Dn hq2.sc k 2 (r:=false) HS.out.2).mono ?_;rintro e w3 ⟨rfl,g3⟩;have hq3:=hq2.gbN g3;have g13:=Ah g2 g3;have gQ{P}(h:P:=by
    go_wp2_with fail;have hs3:=hq3.sc;have hq:=Z hq3;clear hq3 hs3 hq2 hr g2 g3 d1;have HU3:=Z (fun(W:World)(g:w3.grownBy W (some (w.heap.size+1)))=>OL (hq.out.tabs.gb g (by intro k e;cases e;omega)) s i k hf);rw[HUP.out]at HU3;go_region_with(first| (go_at_call 159;refine(HU3.out _ ?gg).mono ?_;(case gg=>exact gw);rintro e w5 ⟨rfl,g5⟩;(have hb5:Blk w5 (w.heap.size+1) [.int .i64 0,.int .i64 i,str []] 89:=(by first|exact(hq.out.tok.drew).gb g5 Ae|exact(((hq.out.tok.drew).set 0 (.int .i64 0)).of_eq rfl rfl).gb g5 Ae));(have s0:=hb5.cell 0);(have s2:=hb5.cell 2);(have s1:=hb5.cell 1);(have sf:=fun k=>hb5.frozen k);(have sl:=hb5.lt);(simp only[List.getElem?_cons_zero,List.getElem?_cons_succ]at s0 s1 s2)));all_goals
     refine Vc (fun W=>TkEnd w b s i k 0 T W) ?_ ?_
     ·first
      |exact⟨((hq.out.sc.drewN 1).gbN g5).set_other _ _ Ag|>.set_other _ _ Ag,((hb5.set 0 (.int .i64 0)).set 2 (str T)).of_eq rfl rfl,(((hq.out.res.drewN 1).gb g5 Ae).set_other _ _ Ae).set_other _ _ Ae,A7 (A7 (A0 (An hq.out.g) g5) _ _ (.inr Ae)) _ _ (.inr Ae)⟩
      |exact⟨(((hq.out.sc.drewN 1).set_other _ _ Ag).gbN g5).set_other _ _ Ag,(hb5.set 2 (str T)).of_eq rfl rfl,(((hq.out.res.drewN 1).set_other _ _ Ae).gb g5 Ae).set_other _ _ Ae,A7 (A0 (A7 (An hq.out.g) _ _ (.inr Ae)) g5) _ _ (.inr Ae)⟩
     clear hb5 g5 s0 s1 s2 sf sl;have bP{P}(h:P:=by
     have HS:=Z (fun(W':World)(g:W.grownBy W' none)=>Wc (hW.gbN g).sc ⟨0,i,T⟩ 24);have hWs:=hW.g.size;have hWl:=hW.tok.lt;clear hW;by_cases hm:24<T.length
     ·have HM:=Z (show AK s i= .bad i by rw[HT.out,←HL.out,if_pos hm]);have HP:=Z hm;clear hm;go_wp2_with fail;go_region_with(first| (go_at_call 160;refine(HS.out _ ?gg).mono ?_;(case gg=>exact gw);intro e w8 hp8;obtain⟨g8,hp9⟩:=hp8;rw[if_pos HP.out]at hp9;obtain⟨rfl,h8⟩:=hp9;(have hr8:=(HW.out.res.drewN 1).gb g8 Ag);(have ht8:=(HW.out.tok.drewN 1).gb g8 Ag);(have r0:=hr8.cell 0);(have r1:=hr8.cell 1);(have r2:=hr8.cell 2);(have rf:=fun k=>hr8.frozen k);(have rl:=hr8.lt);(have b0:=ht8.cell 0);(have b1:=ht8.cell 1);(have b2:=ht8.cell 2);(simp only[List.getElem?_cons_zero,List.getElem?_cons_succ]at r0 r1 r2 b0 b1 b2)));all_goals
       go_wp2;refine bodyPost_ret (Du (t:=⟨0,i,T⟩) (r:=false) rfl _ (hr8.set3 _ _ _) rfl rfl) rfl ⟨?_,?_⟩
       ·exact LK
       ·rw[HM.out];exact⟨⟨_,rfl⟩,k,true,De⟩
     ·have HM:=Z (show AK s i= .tok ⟨0,i,T⟩ k true by rw[HT.out,←HL.out,if_neg hm]);have HP:=Z hm;clear hm;go_wp2_with fail;go_region_with(first| (go_at_call 160;refine(HS.out _ ?gg).mono ?_;(case gg=>exact gw);intro e w8 hp8;obtain⟨g8,hp9⟩:=hp8;rw[if_neg HP.out]at hp9;obtain⟨rfl,h8⟩:=hp9;(have hr8:=(HW.out.res.drewN 1).gb g8 Ag);(have ht8:=(HW.out.tok.drewN 1).gb g8 Ag);(have r0:=hr8.cell 0);(have r1:=hr8.cell 1);(have r2:=hr8.cell 2);(have rf:=fun k=>hr8.frozen k);(have rl:=hr8.lt);(have b0:=ht8.cell 0);(have b1:=ht8.cell 1);(have b2:=ht8.cell 2);(simp only[List.getElem?_cons_zero,List.getElem?_cons_succ]at r0 r1 r2 b0 b1 b2)));all_goals
       go_wp2;refine bodyPost_ret (Du (t:=⟨0,i,T⟩) (r:=true) rfl _ (hr8.set3 _ _ _) rfl rfl) rfl ⟨?_,?_⟩
       ·exact LK
       ·rw[HM.out];exact⟨rfl,De⟩):=Aa h
     exact So):=Aa h
    exact Zs
  | succ gk=>
    have h10:=Hr hik (by omega:k<Au s Bm i);have hkl:=h10.1;have HW:=Z h10.2;clear h10;cases hc1:cls 1 (bAt s k)with
    | true=>
      have HC1:=Z hc1;clear hc1;go_wp2_with fail;refine(Dn hr.sc k 1 (r:=true) (by simp[hkl,HC1.out])).mono ?_;exact ZJ
    | false=>
      have HC1:=Z hc1;have HC2:=Z (show cls 2 (bAt s k)=true by have:=HW.out;simpa[Bm,hc1]using this);clear hc1;go_wp2_with fail;refine(Dn hr.sc k 1 (r:=false) (by simp[hkl,HC1.out])).mono ?_;rintro e w2 ⟨rfl,g2⟩;have hr2':=hr.gbN g2;have d1:=hr2'.sc.c1;have f1:=hr2'.sc.fr 1;go_wp2_with fail;refine(Dn hr2'.sc k 2 (r:=true) (by simp[hkl,HC2.out])).mono ?_;rintro e w3 ⟨rfl,g3⟩;have hr3':=hr2'.gbN g3;have e1:=hr3'.sc.c1;have f1:=hr3'.sc.fr 1;go_wp2;go_roundg gk
      case measure=>omega
      case rel=>exact⟨k+1,by omega,by omega,hr3'.go hb hkl⟩):=Aa h
 exact Q8
end Go.Proofs.YtmcajbhljbbglaaGreatDoor
