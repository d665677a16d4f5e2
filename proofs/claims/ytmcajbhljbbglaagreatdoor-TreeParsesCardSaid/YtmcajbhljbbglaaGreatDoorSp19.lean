/-
  The lexer: a token that is a number. The lexer: a token that is a text, a date or a sign; any token.
-/
import Derived.Test.YtmcajbhljbbglaaGreatDoorSpF
import Derived.Test.YtmcajbhljbbglaaGreatDoorSp16
set_option linter.all false
set_option maxRecDepth 100000
set_option maxHeartbeats 8000000
namespace Go.Proofs.YtmcajbhljbbglaaGreatDoor
open Tryz
open Go.RowKit
theorem vW{w:World}{b:Nat}{s:Bs}{i:Nat}(h:Sc w b s i true true (-1))(ht:Tabs b w)(hi:i<s.length)(hn1:cls 1 (bAt s i)=false)(hc:cls 2 (bAt s i)=true):
 Calls Tryz.prog 114 #[.pointer (some ⟨b,0,none⟩)] w (TokPost w b s (AK s i)):=by
 have RB{P}(h:P:=by
 have hr1:Au s (cls 2) i≤s.length:=Cp Ab;have hr2:i≤Au s (cls 2) i:=By _ _ _;have HT:=Z (show AK s i=if 15<Au s (cls 2) i-i then .bad i else .tok ⟨1,i,A3 s i (Au s (cls 2) i)⟩ (Au s (cls 2) i) true from(if_neg (by rw[hn1];simp)).trans (if_pos hc));have HC:=Z (Ac hn1 hc);clear hc hn1;have dJ{P}(h:P:=by
 refine(Dn hA1.sc i 2 (r:=true) (by simp[hi,HC.out.2])).mono ?_;rintro e w1' ⟨rfl,g1⟩;have hA2:=hA1.gbN g1;clear hA1 g1;go_wp2_with fail;go_loopg [] (Au s (cls 2) i-i) (fun g wr=>∃k:Nat,k+g=Au s (cls 2) i∧i≤k∧TkRel w b s i k wr)
 case atStart=>exact⟨i,by omega,Nat.le_refl _,hA2⟩
 case round=>
  obtain⟨k,hk,hik,hr⟩:=hrel;clear hA2 c1;have c1:=hr.sc.c1;have hb1:=hr.sc.lt;cases gk with
  | zero=>
    have hke:k=Au s (cls 2) i:=Ab;have hstop:(decide (k<s.length)&&cls 2 (bAt s k))=false:=by
     by_cases hkl:k<s.length
     ·have:=Jw (s:=s) (p:=cls 2) (i:=i) Ab;rw[←hke]at this;simp[this]
     ·simp[hkl]
    have HS:=Z hstop;rw[←hke]at HT hr1 hr2;have hx:=Ed s i k;rw[show(s.drop i).take (k-i)=A3 s i k from rfl]at hx;have HX:=Z hx;have HL:=Z (show(A3 s i k).length=k-i from Hj hik Ab);generalize A3 s i k=T at*;clear hx hstop hke hk;go_wp2_with fail;refine(Dn hr.sc k 2 (r:=false) HS.out).mono ?_;rintro e w3 ⟨rfl,g3⟩;have hq3:=hr.gbN g3;have gQ{P}(h:P:=by
    have hq:=Z hq3;clear hq3 hr g3;go_wp2_with fail;go_region;rw[HX.out];all_goals
     refine Vc (fun W=>TkEnd w b s i k 1 T W) ?_ ?_
     ·exact⟨((hq.out.sc.drewN 1).set_other _ _ Ag).set_other _ _ Ag,(((hq.out.tok.drewN 1).set 0 (.int .i64 1)).set 2 (str T)).of_eq rfl rfl,((hq.out.res.drewN 1).set_other _ _ Ae).set_other _ _ Ae,A7 (A7 (An hq.out.g) _ _ (.inr Ae)) _ _ (.inr Ae)⟩
     have bP{P}(h:P:=by
     have HS:=Z (fun(W':World)(g:W.grownBy W' none)=>Wc (hW.gbN g).sc ⟨1,i,T⟩ 15);have hWs:=hW.g.size;have hWl:=hW.tok.lt;clear hW;by_cases hm:15<T.length
     ·have HM:=Z (show AK s i= .bad i by rw[HT.out,←HL.out,if_pos hm]);have HP:=Z hm;clear hm;go_wp2_with fail;go_region_with(first| (go_at_call 160;refine(HS.out _ ?gg).mono ?_;(case gg=>exact gw);intro e w8 hp8;obtain⟨g8,hp9⟩:=hp8;rw[if_pos HP.out]at hp9;obtain⟨rfl,h8⟩:=hp9;(have hr8:=(HW.out.res.drewN 1).gb g8 Ag);(have ht8:=(HW.out.tok.drewN 1).gb g8 Ag);(have r0:=hr8.cell 0);(have r1:=hr8.cell 1);(have r2:=hr8.cell 2);(have rf:=fun k=>hr8.frozen k);(have rl:=hr8.lt);(have b0:=ht8.cell 0);(have b1:=ht8.cell 1);(have b2:=ht8.cell 2);(simp only[List.getElem?_cons_zero,List.getElem?_cons_succ]at r0 r1 r2 b0 b1 b2)));all_goals
       go_wp2;refine bodyPost_ret (Du (t:=⟨1,i,T⟩) (r:=false) rfl _ (hr8.set3 _ _ _) rfl rfl) rfl ⟨?_,?_⟩
       ·exact LK
       ·rw[HM.out];exact⟨⟨_,rfl⟩,k,true,De⟩
     ·have HM:=Z (show AK s i= .tok ⟨1,i,T⟩ k true by rw[HT.out,←HL.out,if_neg hm]);have HP:=Z hm;clear hm;go_wp2_with fail;go_region_with(first| (go_at_call 160;refine(HS.out _ ?gg).mono ?_;(case gg=>exact gw);intro e w8 hp8;obtain⟨g8,hp9⟩:=hp8;rw[if_neg HP.out]at hp9;obtain⟨rfl,h8⟩:=hp9;(have hr8:=(HW.out.res.drewN 1).gb g8 Ag);(have ht8:=(HW.out.tok.drewN 1).gb g8 Ag);(have r0:=hr8.cell 0);(have r1:=hr8.cell 1);(have r2:=hr8.cell 2);(have rf:=fun k=>hr8.frozen k);(have rl:=hr8.lt);(have b0:=ht8.cell 0);(have b1:=ht8.cell 1);(have b2:=ht8.cell 2);(simp only[List.getElem?_cons_zero,List.getElem?_cons_succ]at r0 r1 r2 b0 b1 b2)));all_goals
       go_wp2;refine bodyPost_ret (Du (t:=⟨1,i,T⟩) (r:=true) rfl _ (hr8.set3 _ _ _) rfl rfl) rfl ⟨?_,?_⟩
       ·exact LK
       ·rw[HM.out];exact⟨rfl,De⟩):=Aa h
     exact So):=Aa h
    exact Zs
  | succ gk=>
    have h10:=Hr hik (by omega:k<Au s (cls 2) i);have hkl:=h10.1;have HW:=Z h10.2;clear h10;go_wp2_with fail;refine(Dn hr.sc k 2 (r:=true) (by simp[hkl,HW.out])).mono ?_;exact ZJ):=Aa h
 exact T7):=Aa h;exact Q8
def TokFin(b:Nat)(s:Bs)(r:St)(t:Tok)(ok:Bool)(w:World):Prop:=match r with
 | .tok t' j l=>t=t'∧ok=true∧Sc w b s j l l (-1)
 | .bad k=>ok=false∧∃j l,Sc w b s j l l k
 |_=>False
theorem TokPost.fin{w w':World}{b:Nat}{s:Bs}{r:St}{e:Ending}(h:TokPost w b s r e w'):w.grownBy w' (some b)∧∃t ok,e= .returned (.tuple #[AG t,.bool ok])∧TokFin b s r t ok w':=by
 obtain⟨g,h⟩:=h;refine⟨g,?_⟩;cases r with
 |tok t j l=>exact⟨t,true,h.1,rfl,rfl,h.2⟩
 |bad k=>obtain⟨⟨t,e⟩,hs⟩:=h;exact⟨t,false,e,rfl,hs⟩
 |again j l=>exact h.elim
 |stop=>exact h.elim
theorem TokFin.post{w w':World}{b:Nat}{s:Bs}{r:St}{t:Tok}{ok:Bool}(h:TokFin b s r t ok w')(g:w.grownBy w' (some b)):TokPost w b s r (.returned (.tuple #[AG t,.bool ok])) w':=by
 refine⟨g,?_⟩;cases r with
 |tok t' j l=>obtain⟨rfl,rfl,hs⟩:=h;exact⟨rfl,hs⟩
 |bad k=>obtain⟨rfl,hs⟩:=h;exact⟨⟨t,rfl⟩,hs⟩
 |again j l=>exact h.elim
 |stop=>exact h.elim
theorem TokFin.set_other{w:World}{b:Nat}{s:Bs}{r:St}{t:Tok}{ok:Bool}(h:TokFin b s r t ok w)(a:Addr)(v:Value)(hne:b≠a.block):TokFin b s r t ok (w.setCell a v):=by
 cases r with
 |tok t' j l=>obtain⟨h1,h2,hs⟩:=h;exact⟨h1,h2,hs.set_other a v hne⟩
 |bad k=>obtain⟨h1,j,l,hs⟩:=h;exact⟨h1,j,l,hs.set_other a v hne⟩
 |again j l=>exact h.elim
 |stop=>exact h.elim
theorem FM{a:UInt8}{n:Nat}{r:Bool}(hn:n<256)(h:(a==UInt8.ofNat n)=r):((a.toNat:Int)==(n:Int))=r:=by
 subst h;exact ZP
theorem tK{w:World}{b:Nat}{s:Bs}{i:Nat}(h:Sc w b s i true true (-1))(ht:Tabs b w)(hi:i<s.length)(hn1:cls 1 (bAt s i)=false)(hn2:cls 2 (bAt s i)=false)(h10:bAt s i≠10):
 Calls Tryz.prog 114 #[.pointer (some ⟨b,0,none⟩)] w (TokPost w b s (AK s i)):=by
 have RB{P}(h:P:=by
 have HC:=Z (Ac hn1 hn2);have HB:=Z h10;clear hn1 hn2 h10;have dJ{P}(h:P:=by
 refine(Dn hA1.sc i 2 (r:=false) (by simp[HC.out.2])).mono ?_;rintro e w2 ⟨rfl,g1⟩;have hA2:=hA1.gbN g1;clear hA1 g1 c1;have c0:=hA2.sc.c0;have c1:=hA2.sc.c1;have hg:=fun h=>BI s i h hi;have gs:=hA2.g.size;have hbl:=hA2.sc.lt;have t0:=hA2.tok.cell 0;have t1:=hA2.tok.cell 1;have t2:=hA2.tok.cell 2;simp only[List.getElem?_cons_zero,List.getElem?_cons_succ]at t0 t1 t2;cases hq:(bAt s i==34||bAt s i==39)with
 | true=>
   have HT:=Z (show AK s i=Dz s i from(if_neg (by rw[HC.out.1];simp)).trans ((if_neg (by rw[HC.out.2];simp)).trans (if_pos D4)));have hX:=AaS hA2.sc hi HB.out;have HX:=Z hX;clear hX;cases h34:bAt s i==34 with
   | true=>
     have e34:=FM (n:=34) Ad h34;clear hq h34;simp only[Int.cast_ofNat_Int]at e34;exact Yl
   | false=>
     have e34:=FM (n:=34) Ad h34;have e39:=FM (n:=39) (r:=true) Ad (by simpa[h34]using hq);clear hq h34;simp only[Int.cast_ofNat_Int]at e34 e39;exact Yl
 | false=>
   have h34:(bAt s i==34)=false∧(bAt s i==39)=false:=D4;have HT0:=Z (show AK s i=(match BB (s.drop i)with|some (d,n)=>St.tok ⟨3,i,d⟩ (i+n) true|none=>M6 s i)from(if_neg (by rw[HC.out.1];simp)).trans ((if_neg (by rw[HC.out.2];simp)).trans (if_neg (by simpa using h34))));have e34:=FM (n:=34) Ad h34.1;have e39:=FM (n:=39) Ad h34.2;have hX:=zB hA2.sc;have HX0:=Z hX;clear hq h34 hX;simp only[Int.cast_ofNat_Int]at e34 e39;generalize bAt s i=q at*;go_wp2_with fail;refine HX0.out.mono ?_;rintro e w4 ⟨g4,hp⟩;have hA4:=hA2.gbN g4;have gs4:=hA4.g.size;have hb4:=hA4.sc.lt;cases hd:BB (s.drop i)with
   | some p=>
     obtain⟨d,n⟩:=p;have hlen:=Pn hd;simp only[List.length_drop]at hlen;rw[hd]at hp HT0;have HT:=Z HT0.out;subst hp;clear hd HT0;have q1:=hA4.sc.c1;have f1:=hA4.sc.fr 1;have r0:=hA4.res.cell 0;have r1:=hA4.res.cell 1;have r2:=hA4.res.cell 2;have rf:=fun k=>hA4.res.frozen k;have rl:=hA4.res.lt;simp only[List.getElem?_cons_zero,List.getElem?_cons_succ]at r0 r1 r2;go_wp2;refine bodyPost_ret (Du (t:=⟨3,i,d⟩) (r:=true) rfl _ ((hA4.res.set_other _ _ Ag).set3 _ _ _) rfl rfl) rfl ⟨?_,?_⟩
     ·have g:=hA4.g;exact gw
     ·rw[HT.out];have hs4:=hA4.sc;exact⟨rfl,De⟩
   | none=>
     rw[hd]at hp HT0;have HT:=Z HT0.out;obtain⟨d,n,rfl⟩:=hp;clear hd HT0;have hX:=yS hA4.sc hA4.tabs;have HX:=Z hX;clear hX;have u0:=hA4.tok.cell 0;have u1:=hA4.tok.cell 1;have u2:=hA4.tok.cell 2;simp only[List.getElem?_cons_zero,List.getElem?_cons_succ]at u0 u1 u2;go_wp2_with fail;refine HX.out.mono ?_;intro e w3 hp;obtain⟨g3,t,ok,rfl,hF⟩:=hp.fin;have hr3:=hA4.res.gb g3 Ag;have jK{P}(h:P:=by have g:=Ah hA4.g g3;exact(((hF.set_other _ _ Ag).set_other _ _ Ag).set_other _ _ Ag).post gw):=Aa h;exact bK):=Aa h
 exact T7):=Aa h;exact Q8
theorem vV{w:World}{b:Nat}{s:Bs}{i:Nat}(h:Sc w b s i true true (-1))(ht:Tabs b w)(hi:i<s.length)(h10:bAt s i≠10):
 Calls Tryz.prog 114 #[.pointer (some ⟨b,0,none⟩)] w (TokPost w b s (AK s i)):=by
 cases h1:cls 1 (bAt s i)with
 |true=>exact tL h ht hi h1
 | false=>
   cases h2:cls 2 (bAt s i)with
   |true=>exact vW h ht hi h1 h2
   |false=>exact tK h ht hi h1 h2 h10
end Go.Proofs.YtmcajbhljbbglaaGreatDoor
