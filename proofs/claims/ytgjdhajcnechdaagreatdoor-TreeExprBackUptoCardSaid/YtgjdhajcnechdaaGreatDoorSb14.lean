/-
  The lexer: a token that is a number. The lexer: a token that is a text, a date or a sign; any token. The lexer: the next token.
-/
import Derived.Test.YtgjdhajcnechdaaGreatDoorSb13
set_option linter.all false
set_option maxRecDepth 100000
set_option maxHeartbeats 8000000
namespace Go.Proofs.YtgjdhajcnechdaaGreatDoor
open Go.Proofs.Tryz
open Go.RowKit
theorem KS{w:World}{b:Nat}{s:Bs}{i:Nat}(h:Sc w b s i true true (-1))(ht:Tabs b w)(hi:i<s.length)(hn1:cls 1 (bAt s i)=false)(hc:cls 2 (bAt s i)=true):
 Calls Tryz.prog 157 #[.pointer (some ⟨b,0,none⟩)] w (TokPost w b s (AP s i)):=by
 have hb:=h.lt;have hf:=h.few;have c1:=h.c1;have g0:w.grownBy ((w.alloc (.cells #[.int .i64 0,.int .i64 0,str []] 105 (0,0))).alloc (.cells #[.int .i64 0,.int .i64 i,str []] 105 (0,0))) none:=Aa (World.grownBy_alloc w _ none) _;have hA:TkRel w b s i i ((w.alloc (.cells #[.int .i64 0,.int .i64 0,str []] 105 (0,0))).alloc (.cells #[.int .i64 0,.int .i64 i,str []] 105 (0,0))):=
  ⟨h.gbN g0,(Blk.new _ [.int .i64 0,.int .i64 i,str []] _).of_eq (by simp) rfl,(Blk.new _ [.int .i64 0,.int .i64 0,str []] _).alloc _,AW g0,ht.gbN g0⟩
 clear h ht g0;have hr1:Ag s (cls 2) i≤s.length:=BE (by omega);have hr2:i≤Ag s (cls 2) i:=Bm _ _ _;have HT:=I (show AP s i=if 15<Ag s (cls 2) i-i then .bad i else .tok ⟨1,i,Aq s i (Ag s (cls 2) i)⟩ (Ag s (cls 2) i) true from(if_neg (by rw[hn1];simp)).trans (if_pos hc));have HC:=I (X hn1 hc);clear hc hn1;go_enter func157,ntmps157;go_wp2_with fail;refine(B3 hA.sc i 1 (r:=false) (by simp[HC.out.1])).mono ?_;rintro e w1 ⟨rfl,g1⟩;have hA1:=hA.gbN g1;clear hA g1;go_wp2_with fail;refine(B3 hA1.sc i 2 (r:=true) (by simp[hi,HC.out.2])).mono ?_;rintro e w1' ⟨rfl,g1⟩;have hA2:=hA1.gbN g1;clear hA1 g1;go_wp2_with fail;go_loopg [] (Ag s (cls 2) i-i) (fun g wr=>∃k:Nat,k+g=Ag s (cls 2) i∧i≤k∧TkRel w b s i k wr)
 case atStart=>exact⟨i,by omega,Nat.le_refl _,hA2⟩
 case round=>
  obtain⟨k,hk,hik,hr⟩:=hrel;clear hA2 c1;have c1:=hr.sc.c1;have hb1:=hr.sc.lt;cases gk with
  | zero=>
    have hke:k=Ag s (cls 2) i:=by omega
    have hstop:(decide (k<s.length)&&cls 2 (bAt s k))=false:=by
     by_cases hkl:k<s.length
     ·have:=EN (s:=s) (p:=cls 2) (i:=i) (by omega);rw[←hke]at this;simp[this]
     ·simp[hkl]
    have HS:=I hstop;rw[←hke]at HT hr1 hr2;have hx:=C0 s i k;rw[show(s.drop i).take (k-i)=Aq s i k from rfl]at hx;have HX:=I hx;have HL:=I (show(Aq s i k).length=k-i from CC hik (by omega));generalize Aq s i k=T at*;clear hx hstop hke hk;go_wp2_with fail;refine(B3 hr.sc k 2 (r:=false) HS.out).mono ?_;rintro e w3 ⟨rfl,g3⟩;have hq3:=hr.gbN g3;have e0:=hq3.sc.c0;have e1:=hq3.sc.c1;have t0:=hq3.tok.cell 0;have t1:=hq3.tok.cell 1;have t2:=hq3.tok.cell 2;have tf:=fun k=>hq3.tok.frozen k;have tl:=hq3.tok.lt;simp only[List.getElem?_cons_zero,List.getElem?_cons_succ]at t0 t1 t2;have hkI:decide ((k:Int)≤s.length)=true:=by simp;omega
    have hkI2:decide (i≤k)=true:=by simp;omega
    have hq:=I hq3;clear hq3 hr g3;go_wp2_with fail;go_region;rw[HX.out];all_goals
     refine Dq (fun W=>TkEnd w b s i k 1 T W) ?_ ?_
     ·exact⟨((hq.out.sc.drewN 1).set_other _ _ (by simp;omega)).set_other _ _ (by simp;omega),(((hq.out.tok.drewN 1).set 0 (.int .i64 1)).set 2 (str T)).of_eq rfl rfl,((hq.out.res.drewN 1).set_other _ _ (by simp)).set_other _ _ (by simp),Ax (Ax (Aj hq.out.g) _ _ (.inr (by simp))) _ _ (.inr (by simp))⟩
     intro W hW;have a0:=hW.tok.cell 0;have a1:=hW.tok.cell 1;have a2:=hW.tok.cell 2;simp only[List.getElem?_cons_zero,List.getElem?_cons_succ]at a0 a1 a2;have HW:=I hW;have HS:=I (fun(W':World)(g:W.grownBy W' none)=>Gb (hW.gbN g).sc ⟨1,i,T⟩ 15);have hWs:=hW.g.size;have hWl:=hW.tok.lt;clear hW;by_cases hm:15<T.length
     ·have HM:=I (show AP s i= .bad i by rw[HT.out,←HL.out,if_pos hm]);have HP:=I hm;clear hm;go_wp2_with fail;go_region_with(first| (go_at_call 198;refine(HS.out _ ?gg).mono ?_;(case gg=>exact (by repeat(first| (with_reducible exact Ac _ _)| (with_reducible assumption)| (with_reducible exact AW (by assumption))| (with_reducible refine Aa ?_ _)| (with_reducible refine Aj ?_)| (with_reducible refine AH ?_ _)| ((with_reducible refine Ax ?_ _ _ ?h2);case h2=>first|exact .inl rfl|exact .inr (Nat.le_refl _)|exact .inr (by simp<;>omega))| (with_reducible refine Ae ?_ (by assumption))| (with_reducible refine O ?_ (by assumption)))));intro e w8 hp8;obtain⟨g8,hp9⟩:=hp8;rw[if_pos HP.out]at hp9;obtain⟨rfl,h8⟩:=hp9;(have hr8:=(HW.out.res.drewN 1).gb g8 (by simp;omega));(have ht8:=(HW.out.tok.drewN 1).gb g8 (by simp;omega));(have r0:=hr8.cell 0);(have r1:=hr8.cell 1);(have r2:=hr8.cell 2);(have rf:=fun k=>hr8.frozen k);(have rl:=hr8.lt);(have b0:=ht8.cell 0);(have b1:=ht8.cell 1);(have b2:=ht8.cell 2);(simp only[List.getElem?_cons_zero,List.getElem?_cons_succ]at r0 r1 r2 b0 b1 b2)));all_goals
       go_wp2;refine bodyPost_ret (Bb (t:=⟨1,i,T⟩) (r:=false) rfl _ (hr8.set3 _ _ _) rfl rfl) rfl ⟨?_,?_⟩
       ·have g:=O (Aj HW.out.g) g8;exact (by repeat(first| (with_reducible exact Ac _ _)| (with_reducible assumption)| (with_reducible exact AW (by assumption))| (with_reducible refine Aa ?_ _)| (with_reducible refine Aj ?_)| (with_reducible refine AH ?_ _)| ((with_reducible refine Ax ?_ _ _ ?h2);case h2=>first|exact .inl rfl|exact .inr (Nat.le_refl _)|exact .inr (by simp<;>omega))| (with_reducible refine Ae ?_ (by assumption))| (with_reducible refine O ?_ (by assumption))))
       ·rw[HM.out];exact⟨⟨_,rfl⟩,k,true,(by repeat(first| (with_reducible assumption)| (with_reducible apply Sc.alloc)| (with_reducible apply Sc.drew)| (with_reducible apply Sc.drewN)| (with_reducible apply Sc.setLine)| (with_reducible apply Sc.setBegun)| (with_reducible apply Sc.setBad)| (with_reducible apply Sc.go)| (with_reducible apply Sc.set_other)|omega| (simp<;>omega)))⟩
     ·have HM:=I (show AP s i= .tok ⟨1,i,T⟩ k true by rw[HT.out,←HL.out,if_neg hm]);have HP:=I hm;clear hm;go_wp2_with fail;go_region_with(first| (go_at_call 198;refine(HS.out _ ?gg).mono ?_;(case gg=>exact (by repeat(first| (with_reducible exact Ac _ _)| (with_reducible assumption)| (with_reducible exact AW (by assumption))| (with_reducible refine Aa ?_ _)| (with_reducible refine Aj ?_)| (with_reducible refine AH ?_ _)| ((with_reducible refine Ax ?_ _ _ ?h2);case h2=>first|exact .inl rfl|exact .inr (Nat.le_refl _)|exact .inr (by simp<;>omega))| (with_reducible refine Ae ?_ (by assumption))| (with_reducible refine O ?_ (by assumption)))));intro e w8 hp8;obtain⟨g8,hp9⟩:=hp8;rw[if_neg HP.out]at hp9;obtain⟨rfl,h8⟩:=hp9;(have hr8:=(HW.out.res.drewN 1).gb g8 (by simp;omega));(have ht8:=(HW.out.tok.drewN 1).gb g8 (by simp;omega));(have r0:=hr8.cell 0);(have r1:=hr8.cell 1);(have r2:=hr8.cell 2);(have rf:=fun k=>hr8.frozen k);(have rl:=hr8.lt);(have b0:=ht8.cell 0);(have b1:=ht8.cell 1);(have b2:=ht8.cell 2);(simp only[List.getElem?_cons_zero,List.getElem?_cons_succ]at r0 r1 r2 b0 b1 b2)));all_goals
       go_wp2;refine bodyPost_ret (Bb (t:=⟨1,i,T⟩) (r:=true) rfl _ (hr8.set3 _ _ _) rfl rfl) rfl ⟨?_,?_⟩
       ·have g:=O (Aj HW.out.g) g8;exact (by repeat(first| (with_reducible exact Ac _ _)| (with_reducible assumption)| (with_reducible exact AW (by assumption))| (with_reducible refine Aa ?_ _)| (with_reducible refine Aj ?_)| (with_reducible refine AH ?_ _)| ((with_reducible refine Ax ?_ _ _ ?h2);case h2=>first|exact .inl rfl|exact .inr (Nat.le_refl _)|exact .inr (by simp<;>omega))| (with_reducible refine Ae ?_ (by assumption))| (with_reducible refine O ?_ (by assumption))))
       ·rw[HM.out];exact⟨rfl,(by repeat(first| (with_reducible assumption)| (with_reducible apply Sc.alloc)| (with_reducible apply Sc.drew)| (with_reducible apply Sc.drewN)| (with_reducible apply Sc.setLine)| (with_reducible apply Sc.setBegun)| (with_reducible apply Sc.setBad)| (with_reducible apply Sc.go)| (with_reducible apply Sc.set_other)|omega| (simp<;>omega)))⟩
  | succ gk=>
    have h10:=DV hik (by omega:k<Ag s (cls 2) i);have hkl:=h10.1;have HW:=I h10.2;clear h10;go_wp2_with fail;refine(B3 hr.sc k 2 (r:=true) (by simp[hkl,HW.out])).mono ?_;rintro e w2 ⟨rfl,g2⟩;have hr2':=hr.gbN g2;have d1:=hr2'.sc.c1;have f1:=hr2'.sc.fr 1;go_wp2;go_roundg gk
    case measure=>omega
    case rel=>exact⟨k+1,by omega,by omega,hr2'.go hb hkl⟩
def TokFin(b:Nat)(s:Bs)(r:St)(t:Tok)(ok:Bool)(w:World):Prop:=match r with
 | .tok t' j l=>t=t'∧ok=true∧Sc w b s j l l (-1)
 | .bad k=>ok=false∧∃j l,Sc w b s j l l k
 |_=>False
theorem TokPost.fin{w w':World}{b:Nat}{s:Bs}{r:St}{e:Ending}(h:TokPost w b s r e w'):w.grownBy w' (some b)∧∃t ok,e= .returned (.tuple #[Bg t,.bool ok])∧TokFin b s r t ok w':=by
 obtain⟨g,h⟩:=h;refine⟨g,?_⟩;cases r with
 |tok t j l=>exact⟨t,true,h.1,rfl,rfl,h.2⟩
 |bad k=>obtain⟨⟨t,e⟩,hs⟩:=h;exact⟨t,false,e,rfl,hs⟩
 |again j l=>exact h.elim
 |stop=>exact h.elim
theorem TokFin.post{w w':World}{b:Nat}{s:Bs}{r:St}{t:Tok}{ok:Bool}(h:TokFin b s r t ok w')(g:w.grownBy w' (some b)):TokPost w b s r (.returned (.tuple #[Bg t,.bool ok])) w':=by
 refine⟨g,?_⟩;cases r with
 |tok t' j l=>obtain⟨rfl,rfl,hs⟩:=h;exact⟨rfl,hs⟩
 |bad k=>obtain⟨rfl,hs⟩:=h;exact⟨⟨t,rfl⟩,hs⟩
 |again j l=>exact h.elim
 |stop=>exact h.elim
theorem TokFin.set_other{w:World}{b:Nat}{s:Bs}{r:St}{t:Tok}{ok:Bool}(h:TokFin b s r t ok w)(a:Addr)(v:Value)(hne:b≠a.block):TokFin b s r t ok (w.setCell a v):=by
 cases r with
 |tok t' j l=>obtain⟨h1,h2,hs⟩:=h;exact⟨h1,h2,hs.set_other a v hne⟩
 |bad k=>obtain⟨h1,j,l,hs⟩:=h;exact⟨h1,j,l,hs.set_other a v hne⟩
 |again j l=>exact h.elim
 |stop=>exact h.elim
theorem Cm{a:UInt8}{n:Nat}{r:Bool}(hn:n<256)(h:(a==UInt8.ofNat n)=r):((a.toNat:Int)==(n:Int))=r:=by
 subst h;rw[Bool.eq_iff_iff];simp only[beq_iff_eq];constructor
 ·intro h;have h1:a.toNat=n:=by omega
  apply UInt8.toNat_inj.1;rw[h1];simp[UInt8.toNat_ofNat',Nat.mod_eq_of_lt hn]
 ·rintro rfl;simp[UInt8.toNat_ofNat',Nat.mod_eq_of_lt hn]
theorem K5{w:World}{b:Nat}{s:Bs}{i:Nat}(h:Sc w b s i true true (-1))(ht:Tabs b w)(hi:i<s.length)(hn1:cls 1 (bAt s i)=false)(hn2:cls 2 (bAt s i)=false)(h10:bAt s i≠10):
 Calls Tryz.prog 157 #[.pointer (some ⟨b,0,none⟩)] w (TokPost w b s (AP s i)):=by
 have hb:=h.lt;have hf:=h.few;have c1:=h.c1;have g0:w.grownBy ((w.alloc (.cells #[.int .i64 0,.int .i64 0,str []] 105 (0,0))).alloc (.cells #[.int .i64 0,.int .i64 i,str []] 105 (0,0))) none:=Aa (World.grownBy_alloc w _ none) _;have hA:TkRel w b s i i ((w.alloc (.cells #[.int .i64 0,.int .i64 0,str []] 105 (0,0))).alloc (.cells #[.int .i64 0,.int .i64 i,str []] 105 (0,0))):=
  ⟨h.gbN g0,(Blk.new _ [.int .i64 0,.int .i64 i,str []] _).of_eq (by simp) rfl,(Blk.new _ [.int .i64 0,.int .i64 0,str []] _).alloc _,AW g0,ht.gbN g0⟩
 clear h ht g0;have HC:=I (X hn1 hn2);have HB:=I h10;clear hn1 hn2 h10;go_enter func157,ntmps157;go_wp2_with fail;refine(B3 hA.sc i 1 (r:=false) (by simp[HC.out.1])).mono ?_;rintro e w1 ⟨rfl,g1⟩;have hA1:=hA.gbN g1;clear hA g1;go_wp2_with fail;refine(B3 hA1.sc i 2 (r:=false) (by simp[HC.out.2])).mono ?_;rintro e w2 ⟨rfl,g1⟩;have hA2:=hA1.gbN g1;clear hA1 g1 c1;have c0:=hA2.sc.c0;have c1:=hA2.sc.c1;have hg:=fun h=>Dj s i h hi;have gs:=hA2.g.size;have hbl:=hA2.sc.lt;have t0:=hA2.tok.cell 0;have t1:=hA2.tok.cell 1;have t2:=hA2.tok.cell 2;simp only[List.getElem?_cons_zero,List.getElem?_cons_succ]at t0 t1 t2;cases hq:(bAt s i==34||bAt s i==39)with
 | true=>
   have HT:=I (show AP s i=Cn s i from(if_neg (by rw[HC.out.1];simp)).trans ((if_neg (by rw[HC.out.2];simp)).trans (if_pos (by simpa using hq))));have hX:=Mc hA2.sc hi HB.out;have HX:=I hX;clear hX;cases h34:bAt s i==34 with
   | true=>
     have e34:=Cm (n:=34) (by decide) h34;clear hq h34;simp only[Int.cast_ofNat_Int]at e34;generalize bAt s i=q at*;go_wp2_with fail;refine HX.out.mono ?_;intro e w3 hp;obtain⟨g3,t,ok,rfl,hF⟩:=hp.fin;have hr3:=hA2.res.gb g3 (by simp;omega);have r0:=hr3.cell 0;have r1:=hr3.cell 1;have r2:=hr3.cell 2;have rf:=fun k=>hr3.frozen k;have rl:=hr3.lt;simp only[List.getElem?_cons_zero,List.getElem?_cons_succ]at r0 r1 r2;go_wp2;refine bodyPost_ret (Bb (t:=t) (r:=ok) rfl _ (hr3.set3 _ _ _) rfl rfl) rfl ?_;rw[HT.out];have g:=O hA2.g g3;exact(((hF.set_other _ _ (by simp;omega)).set_other _ _ (by simp;omega)).set_other _ _ (by simp;omega)).post (by repeat(first| (with_reducible exact Ac _ _)| (with_reducible assumption)| (with_reducible exact AW (by assumption))| (with_reducible refine Aa ?_ _)| (with_reducible refine Aj ?_)| (with_reducible refine AH ?_ _)| ((with_reducible refine Ax ?_ _ _ ?h2);case h2=>first|exact .inl rfl|exact .inr (Nat.le_refl _)|exact .inr (by simp<;>omega))| (with_reducible refine Ae ?_ (by assumption))| (with_reducible refine O ?_ (by assumption))))
   | false=>
     have e34:=Cm (n:=34) (by decide) h34;have e39:=Cm (n:=39) (r:=true) (by decide) (by simpa[h34]using hq);clear hq h34;simp only[Int.cast_ofNat_Int]at e34 e39;generalize bAt s i=q at*;go_wp2_with fail;refine HX.out.mono ?_;intro e w3 hp;obtain⟨g3,t,ok,rfl,hF⟩:=hp.fin;have hr3:=hA2.res.gb g3 (by simp;omega);have r0:=hr3.cell 0;have r1:=hr3.cell 1;have r2:=hr3.cell 2;have rf:=fun k=>hr3.frozen k;have rl:=hr3.lt;simp only[List.getElem?_cons_zero,List.getElem?_cons_succ]at r0 r1 r2;go_wp2;refine bodyPost_ret (Bb (t:=t) (r:=ok) rfl _ (hr3.set3 _ _ _) rfl rfl) rfl ?_;rw[HT.out];have g:=O hA2.g g3;exact(((hF.set_other _ _ (by simp;omega)).set_other _ _ (by simp;omega)).set_other _ _ (by simp;omega)).post (by repeat(first| (with_reducible exact Ac _ _)| (with_reducible assumption)| (with_reducible exact AW (by assumption))| (with_reducible refine Aa ?_ _)| (with_reducible refine Aj ?_)| (with_reducible refine AH ?_ _)| ((with_reducible refine Ax ?_ _ _ ?h2);case h2=>first|exact .inl rfl|exact .inr (Nat.le_refl _)|exact .inr (by simp<;>omega))| (with_reducible refine Ae ?_ (by assumption))| (with_reducible refine O ?_ (by assumption))))
 | false=>
   have h34:(bAt s i==34)=false∧(bAt s i==39)=false:=by simpa using hq
   have HT0:=I (show AP s i=(match AV (s.drop i)with|some (d,n)=>St.tok ⟨3,i,d⟩ (i+n) true|none=>Ed s i)from(if_neg (by rw[HC.out.1];simp)).trans ((if_neg (by rw[HC.out.2];simp)).trans (if_neg (by simpa using h34))));have e34:=Cm (n:=34) (by decide) h34.1;have e39:=Cm (n:=39) (by decide) h34.2;have hX:=Mf hA2.sc;have HX0:=I hX;clear hq h34 hX;simp only[Int.cast_ofNat_Int]at e34 e39;generalize bAt s i=q at*;go_wp2_with fail;refine HX0.out.mono ?_;rintro e w4 ⟨g4,hp⟩;have hA4:=hA2.gbN g4;have gs4:=hA4.g.size;have hb4:=hA4.sc.lt;cases hd:AV (s.drop i)with
   | some p=>
     obtain⟨d,n⟩:=p;have hlen:=Gj hd;simp only[List.length_drop]at hlen;rw[hd]at hp HT0;have HT:=I HT0.out;subst hp;clear hd HT0;have q1:=hA4.sc.c1;have f1:=hA4.sc.fr 1;have r0:=hA4.res.cell 0;have r1:=hA4.res.cell 1;have r2:=hA4.res.cell 2;have rf:=fun k=>hA4.res.frozen k;have rl:=hA4.res.lt;simp only[List.getElem?_cons_zero,List.getElem?_cons_succ]at r0 r1 r2;go_wp2;refine bodyPost_ret (Bb (t:=⟨3,i,d⟩) (r:=true) rfl _ ((hA4.res.set_other _ _ (by simp;omega)).set3 _ _ _) rfl rfl) rfl ⟨?_,?_⟩
     ·have g:=hA4.g;exact (by repeat(first| (with_reducible exact Ac _ _)| (with_reducible assumption)| (with_reducible exact AW (by assumption))| (with_reducible refine Aa ?_ _)| (with_reducible refine Aj ?_)| (with_reducible refine AH ?_ _)| ((with_reducible refine Ax ?_ _ _ ?h2);case h2=>first|exact .inl rfl|exact .inr (Nat.le_refl _)|exact .inr (by simp<;>omega))| (with_reducible refine Ae ?_ (by assumption))| (with_reducible refine O ?_ (by assumption))))
     ·rw[HT.out];have hs4:=hA4.sc;exact⟨rfl,(by repeat(first| (with_reducible assumption)| (with_reducible apply Sc.alloc)| (with_reducible apply Sc.drew)| (with_reducible apply Sc.drewN)| (with_reducible apply Sc.setLine)| (with_reducible apply Sc.setBegun)| (with_reducible apply Sc.setBad)| (with_reducible apply Sc.go)| (with_reducible apply Sc.set_other)|omega| (simp<;>omega)))⟩
   | none=>
     rw[hd]at hp HT0;have HT:=I HT0.out;obtain⟨d,n,rfl⟩:=hp;clear hd HT0;have hX:=LO hA4.sc hA4.tabs;have HX:=I hX;clear hX;have u0:=hA4.tok.cell 0;have u1:=hA4.tok.cell 1;have u2:=hA4.tok.cell 2;simp only[List.getElem?_cons_zero,List.getElem?_cons_succ]at u0 u1 u2;go_wp2_with fail;refine HX.out.mono ?_;intro e w3 hp;obtain⟨g3,t,ok,rfl,hF⟩:=hp.fin;have hr3:=hA4.res.gb g3 (by simp;omega);have r0:=hr3.cell 0;have r1:=hr3.cell 1;have r2:=hr3.cell 2;have rf:=fun k=>hr3.frozen k;have rl:=hr3.lt;simp only[List.getElem?_cons_zero,List.getElem?_cons_succ]at r0 r1 r2;go_wp2;refine bodyPost_ret (Bb (t:=t) (r:=ok) rfl _ (hr3.set3 _ _ _) rfl rfl) rfl ?_;rw[HT.out];have g:=O hA4.g g3;exact(((hF.set_other _ _ (by simp;omega)).set_other _ _ (by simp;omega)).set_other _ _ (by simp;omega)).post (by repeat(first| (with_reducible exact Ac _ _)| (with_reducible assumption)| (with_reducible exact AW (by assumption))| (with_reducible refine Aa ?_ _)| (with_reducible refine Aj ?_)| (with_reducible refine AH ?_ _)| ((with_reducible refine Ax ?_ _ _ ?h2);case h2=>first|exact .inl rfl|exact .inr (Nat.le_refl _)|exact .inr (by simp<;>omega))| (with_reducible refine Ae ?_ (by assumption))| (with_reducible refine O ?_ (by assumption))))
theorem KR{w:World}{b:Nat}{s:Bs}{i:Nat}(h:Sc w b s i true true (-1))(ht:Tabs b w)(hi:i<s.length)(h10:bAt s i≠10):
 Calls Tryz.prog 157 #[.pointer (some ⟨b,0,none⟩)] w (TokPost w b s (AP s i)):=by
 cases h1:cls 1 (bAt s i)with
 |true=>exact K6 h ht hi h1
 | false=>
   cases h2:cls 2 (bAt s i)with
   |true=>exact KS h ht hi h1 h2
   |false=>exact K5 h ht hi h1 h2 h10
theorem Sc.drew{w:World}{b:Nat}{s:Bs}{i:Nat}{line begun:Bool}{bad:Int}(h:Sc w b s i line begun bad):Sc w.drew b s i line begun bad:=h.drewN 1
theorem KD(s:Bs)(l:Bool)(R:NR)(hR:R ≠ .out):∀(d k m:Nat),s.length-k=d→k≤s.length→A2 s m k l=R→∃m',1≤m'∧m'≤m∧A2 s m' (A7 s k) l=R:=by
 intro d;induction d with
 | zero=>
   intro k m hd hk h;rw[show A7 s k=k from Cr (by omega)];cases m with
   |zero=>exact absurd h.symm hR
   |succ m=>exact⟨m+1,by omega,Nat.le_refl _,h⟩
 | succ d ih=>
   intro k m hd hk h;have hkl:k<s.length:=by omega
   cases m with
   |zero=>exact absurd h.symm hR
   | succ m=>
     cases hb:cls 3 (bAt s k)with
     | false=>
       rw[show A7 s k=k from Cd hkl hb];exact⟨m+1,by omega,Nat.le_refl _,h⟩
     | true=>
       rw[show A7 s k=A7 s (k+1)from B4 hkl hb];have h10:bAt s k≠10:=by intro e;rw[e]at hb;revert hb;decide
       have hs:A5 s k l= .again (k+1) l:=by
        unfold A5;rw[if_neg (by omega),if_neg h10,if_pos hb]
       rw[A2,hs]at h;obtain⟨m',h1,h2,h3⟩:=ih (k+1) m (by omega) (by omega) h;exact⟨m',h1,by omega,h3⟩
theorem G5(s:Bs)(k:Nat)(p:Bs){r:Bool}(hr:p.isPrefixOf (s.drop k)=r)(w:World):
 Calls Tryz.prog 154 #[.string ((⟨s.toArray⟩:ByteArray).extract k s.length),.string ⟨p.toArray⟩] w fun e w'=>e= .returned (.bool r)∧w'=w:=(EA s k p hr w).mono fun _ _ h=>⟨h.1,h.2.symm⟩
section
variable {s:Bs}{j:Nat}{l:Bool}
theorem LT(h:s.length≤j):A5 s j l=if l then .tok ⟨5,j,[]⟩ j false else .stop:=if_pos h
theorem MQ(h:j<s.length)(h10:bAt s j=10):A5 s j l=if l then .tok ⟨5,j,[]⟩ (j+1) false else .again (j+1) false:=(if_neg (by omega)).trans (if_pos h10)
theorem G6(h:j<s.length)(h10:bAt s j≠10)(hb:cls 3 (bAt s j)=false)(hc:((bAt s j==42&&!l)||B2 s j)=true):A5 s j l=match Bc s j with
 |some k=> .bad k
 |none=> .again (Ah s j) l:=(if_neg (by omega)).trans ((if_neg h10).trans ((if_neg (by rw[hb];simp)).trans (if_pos hc)))
theorem KK(h:j<s.length)(h10:bAt s j≠10)(hb:cls 3 (bAt s j)=false)(hc:((bAt s j==42&&!l)||B2 s j)=false)(h59:bAt s j=59):A5 s j l=if BB s (A7 s (j+1))then
 match Bc s (A7 s (j+1))with
 |some k=> .bad k
 |none=> .again (Bl s (A7 s (j+1))) l
 else .bad j:=(if_neg (by omega)).trans ((if_neg h10).trans ((if_neg (by rw[hb];simp)).trans ((if_neg (by rw[hc];simp)).trans (if_pos h59))))
theorem LU(h:j<s.length)(h10:bAt s j≠10)(hb:cls 3 (bAt s j)=false)(hc:((bAt s j==42&&!l)||B2 s j)=false)(h59:bAt s j≠59):A5 s j l=AP s j:=(if_neg (by omega)).trans ((if_neg h10).trans ((if_neg (by rw[hb];simp)).trans ((if_neg (by rw[hc];simp)).trans (if_neg h59))))
end
theorem FJ{w:World}{b:Nat}{s:Bs}{i:Nat}{bad:Int}(h:Sc w b s i true true bad){j:Nat}(hj:j=if i<s.length then i+1 else i):
 Calls Tryz.prog 153 #[.pointer (some ⟨b,0,none⟩)] w fun e w'=>e= .returned (.tuple #[Bg ⟨5,i,[]⟩,.bool true])∧w.grownBy w' (some b)∧Sc w' b s j false false bad:=by
 subst hj;refine(FI h).mono ?_;rintro e w' ⟨g,hs,he⟩;exact⟨by rw[he];simp,g,hs⟩
theorem Gr{w:World}{b:Nat}{s:Bs}{i:Nat}{bad:Int}(h:Sc w b s i false false bad){j:Nat}(hj:j=if i<s.length then i+1 else i){r:Bool}(hr:(!decide (i<s.length))=r):
 Calls Tryz.prog 153 #[.pointer (some ⟨b,0,none⟩)] w fun e w'=>e= .returned (.tuple #[tok0,.bool r])∧w.grownBy w' (some b)∧Sc w' b s j false false bad:=by
 subst hj hr;refine(FI h).mono ?_;rintro e w' ⟨g,hs,he⟩;exact⟨by rw[he];simp,g,hs⟩
def Gs(w:World)(b:Nat)(s:Bs)(r:NR)(e:Ending)(w':World):Prop:=
 w.grownBy w' (some b)∧match r with
  | .tok t j l _=>e= .returned (.tuple #[Bg t,.bool true])∧Sc w' b s j l l (-1)
  | .stop=>(∃t,e= .returned (.tuple #[Bg t,.bool false]))∧∃j l,Sc w' b s j l l (-1)
  | .bad k=>(∃t,e= .returned (.tuple #[Bg t,.bool false]))∧∃j l,Sc w' b s j l l k
  | .out=>False
theorem Gx{w w':World}{b:Nat}{s:Bs}{m j:Nat}{l:Bool}{R:NR}{t:Tok}{ok:Bool}(hF:TokFin b s (AP s j) t ok w')(hS:A5 s j l=AP s j)(hM:A2 s (m+1) j l=R)(g:w.grownBy w' (some b)):
 Gs w b s R (.returned (.tuple #[Bg t,.bool ok])) w':=by
 subst hM;refine⟨g,?_⟩;rw[A2,hS];cases ht:AP s j with
 |tok t' j' l'=>rw[ht]at hF;obtain⟨rfl,rfl,hs⟩:=hF;exact⟨rfl,hs⟩
 |bad k=>rw[ht]at hF;obtain⟨rfl,hs⟩:=hF;exact⟨⟨t,rfl⟩,hs⟩
 |again j' l'=>rw[ht]at hF;exact hF.elim
 |stop=>rw[ht]at hF;exact hF.elim
structure Fd(w:World)(b:Nat)(s:Bs)(k:Nat)(l:Bool)(wr:World):Prop where
 sc:Sc wr b s k l l (-1)
 res:Blk wr w.heap.size [.int .i64 0,.int .i64 0,str []] 105
 g:w.grownBy wr (some b)
 tabs:Tabs b wr
theorem LB{w:World}{b:Nat}{s:Bs}{i n:Nat}{line:Bool}(h:Sc w b s i line line (-1))(ht:Tabs b w)(hn:A2 s n i line ≠ .out):
 Calls Tryz.prog 104 #[.pointer (some ⟨b,0,none⟩)] w (Gs w b s (A2 s n i line)):=by
 have hb:=h.lt;generalize hR:A2 s n i line=R at*;have hA:Fd w b s i line (w.alloc (.cells #[.int .i64 0,.int .i64 0,str []] 105 (0,0))):=
  ⟨h.alloc _,Blk.new _ [.int .i64 0,.int .i64 0,str []] _,World.grownBy_alloc w _ _,ht.gbN (World.grownBy_alloc w _ none)⟩
 have HR:=I (X hR hn);clear h ht hR hn;go_enter func104,ntmps104;go_wp2_with fail;go_loopg [] n (fun g wr=>∃k l,A2 s g k l=R∧Fd w b s k l wr)
 case atStart=>exact⟨i,line,HR.out.1,hA⟩
 case round=>
  obtain⟨k,l,hk,hr⟩:=hrel;clear hA;have hN:=KD s l R HR.out.2 _ k gk rfl hr.sc.le hk;have HN:=I hN;clear hk hN;have hb1:=hr.sc.lt;have gs:=hr.g.size;go_wp2_with fail;refine(LR hr.sc).mono ?_;rintro e w1 ⟨rfl,hs1,g1⟩;have hq:Fd w b s (A7 s k) l w1:=⟨hs1,hr.res.gb g1 (by simp;omega),O hr.g g1,hr.tabs.gb g1 (by simp)⟩;have hbl:A7 s k<s.length→cls 3 (bAt s (A7 s k))=false:=fun h=>EN h;obtain⟨m,hm1,hm2,hm3⟩:=HN.out;have HM:=I hm3;clear HN hs1 hr hm3 hb1 gs;generalize A7 s k=j at*;have hb1:=hq.sc.lt;have gs:=hq.g.size;have hf:=hq.sc.few;have hjl:=hq.sc.le;have c0:=hq.sc.c0;have c1:=hq.sc.c1;have c258:=hq.sc.c258;have c259:=hq.sc.c259;have r0:=hq.res.cell 0;have r1:=hq.res.cell 1;have r2:=hq.res.cell 2;have rf:=fun k=>hq.res.frozen k;have rl:=hq.res.lt;simp only[List.getElem?_cons_zero,List.getElem?_cons_succ]at r0 r1 r2;obtain⟨m,rfl⟩:∃q,m=q+1:=⟨m-1,by omega⟩;by_cases hj:j<s.length
  ·have hj1:((j:Int)==(s.length:Int))=false:=by simp;omega
   have hg:=fun h=>Dj s j h hj;have hb3:=hbl hj;by_cases h10:bAt s j=10
   ·have hS:=MQ (l:=l) hj h10;have e10:((bAt s j).toNat:Int)==10:=by rw[h10];rfl
    cases l with
    | true=>
      have HQ:=I (show R= .tok ⟨5,j,[]⟩ (j+1) false m by rw[←HM.out,A2,hS];rfl);have HE:=I (fun(W:World)(g:w1.grownBy W none)=>FJ (hq.sc.gbN g) (j:=j+1) (by rw[if_pos hj]));clear hS h10 hbl hb3;generalize bAt s j=q at*;go_wp2_with fail;go_quiet(fail);go_wp2_with fail;refine(HE.out _ (by repeat(first| (with_reducible exact Ac _ _)| (with_reducible assumption)| (with_reducible exact AW (by assumption))| (with_reducible refine Aa ?_ _)| (with_reducible refine Aj ?_)| (with_reducible refine AH ?_ _)| ((with_reducible refine Ax ?_ _ _ ?h2);case h2=>first|exact .inl rfl|exact .inr (Nat.le_refl _)|exact .inr (by simp<;>omega))| (with_reducible refine Ae ?_ (by assumption))| (with_reducible refine O ?_ (by assumption))))).mono ?_;rintro e w2 ⟨rfl,g2,hs2⟩;have hr2:=(hq.res.drewN nq).gb g2 (by simp;omega);have z0:=hr2.cell 0;have z1:=hr2.cell 1;have z2:=hr2.cell 2;have zf:=fun k=>hr2.frozen k;have zl:=hr2.lt;simp only[List.getElem?_cons_zero,List.getElem?_cons_succ]at z0 z1 z2;go_wp2_with fail;go_region;go_wp2;refine bodyPost_ret (Bb (t:=⟨5,j,[]⟩) (r:=true) rfl _ (((hr2.set3 _ _ _).alloc _).drew) rfl rfl) rfl ⟨?_,?_⟩
      ·have g:=O (AH hq.g nq) g2;exact (by repeat(first| (with_reducible exact Ac _ _)| (with_reducible assumption)| (with_reducible exact AW (by assumption))| (with_reducible refine Aa ?_ _)| (with_reducible refine Aj ?_)| (with_reducible refine AH ?_ _)| ((with_reducible refine Ax ?_ _ _ ?h2);case h2=>first|exact .inl rfl|exact .inr (Nat.le_refl _)|exact .inr (by simp<;>omega))| (with_reducible refine Ae ?_ (by assumption))| (with_reducible refine O ?_ (by assumption))))
      ·rw[HQ.out];exact⟨rfl,((((hs2.set_other _ _ (by simp;omega)).set_other _ _ (by simp;omega)).set_other _ _ (by simp;omega)).alloc _).drew⟩
    | false=>
      have HQ:=I (show A2 s m (j+1) false=R by rw[←HM.out,A2,hS];rfl);have HE:=I (fun(W:World)(g:w1.grownBy W none)=>Gr (hq.sc.gbN g) (j:=j+1) (by rw[if_pos hj]) (r:=false) (by simp[hj]));clear hS h10 hbl hb3;generalize bAt s j=q at*;go_wp2_with fail;go_quiet(fail);go_wp2_with fail;refine(HE.out _ (by repeat(first| (with_reducible exact Ac _ _)| (with_reducible assumption)| (with_reducible exact AW (by assumption))| (with_reducible refine Aa ?_ _)| (with_reducible refine Aj ?_)| (with_reducible refine AH ?_ _)| ((with_reducible refine Ax ?_ _ _ ?h2);case h2=>first|exact .inl rfl|exact .inr (Nat.le_refl _)|exact .inr (by simp<;>omega))| (with_reducible refine Ae ?_ (by assumption))| (with_reducible refine O ?_ (by assumption))))).mono ?_;rintro e w2 ⟨rfl,g2,hs2⟩;have hr2:=(hq.res.drewN nq).gb g2 (by simp;omega);have gg:=O (AH hq.g nq) g2;have ht2:=hq.tabs.gb (O (AH (Ac _ (some b)) nq) g2) (by simp);go_wp2;go_roundg m
      case measure=>omega
      case rel=>exact⟨j+1,false,HQ.out,hs2.alloc _,hr2.alloc _,Aa gg _,ht2.gbN (World.grownBy_alloc _ _ _)⟩
   ·have e10:(((bAt s j).toNat:Int)==10)=false:=Cm (n:=10) (by decide) (by simpa using h10);by_cases hstar:bAt s j=42∧l=false
    ·obtain⟨h42,rfl⟩:=hstar;have HS:=I (G6 (l:=false) hj h10 hb3 (by simp[h42]));have e42:(((bAt s j).toNat:Int)==42)=true:=Cm (n:=42) (by decide) (by simpa using h42);clear h10 hbl hb3 h42;generalize bAt s j=q at*;go_wp2_with fail;go_quiet(fail);go_wp2_with fail;go_quiet(fail);go_wp2_with fail;refine(De (hq.sc.gbN (by repeat(first| (with_reducible exact Ac _ _)| (with_reducible assumption)| (with_reducible exact AW (by assumption))| (with_reducible refine Aa ?_ _)| (with_reducible refine Aj ?_)| (with_reducible refine AH ?_ _)| ((with_reducible refine Ax ?_ _ _ ?h2);case h2=>first|exact .inl rfl|exact .inr (Nat.le_refl _)|exact .inr (by simp<;>omega))| (with_reducible refine Ae ?_ (by assumption))| (with_reducible refine O ?_ (by assumption)))))).mono ?_;intro e w2 hp;obtain⟨g2,hp⟩:=hp;have g12:w1.grownBy w2 (some b):=O (by repeat(first| (with_reducible exact Ac _ _)| (with_reducible assumption)| (with_reducible exact AW (by assumption))| (with_reducible refine Aa ?_ _)| (with_reducible refine Aj ?_)| (with_reducible refine AH ?_ _)| ((with_reducible refine Ax ?_ _ _ ?h2);case h2=>first|exact .inl rfl|exact .inr (Nat.le_refl _)|exact .inr (by simp<;>omega))| (with_reducible refine Ae ?_ (by assumption))| (with_reducible refine O ?_ (by assumption)))) g2;cases hcm:Bc s j with
     | some k=>
       have HQ:=I (show R= .bad k by rw[←HM.out,A2,HS.out,hcm]);rw[hcm]at hp;clear hcm;obtain⟨rfl,j2,hs2⟩:=hp;have hr2:=hq.res.gb g12 (by simp;omega);have z0:=hr2.cell 0;have z1:=hr2.cell 1;have z2:=hr2.cell 2;have zf:=fun k=>hr2.frozen k;have zl:=hr2.lt;simp only[List.getElem?_cons_zero,List.getElem?_cons_succ]at z0 z1 z2;go_wp2;refine bodyPost_ret (Bb (t:=⟨0,0,[]⟩) (r:=false) rfl _ (hr2.set3 _ _ _) rfl rfl) rfl ⟨?_,?_⟩
       ·have g:=O hq.g g12;exact (by repeat(first| (with_reducible exact Ac _ _)| (with_reducible assumption)| (with_reducible exact AW (by assumption))| (with_reducible refine Aa ?_ _)| (with_reducible refine Aj ?_)| (with_reducible refine AH ?_ _)| ((with_reducible refine Ax ?_ _ _ ?h2);case h2=>first|exact .inl rfl|exact .inr (Nat.le_refl _)|exact .inr (by simp<;>omega))| (with_reducible refine Ae ?_ (by assumption))| (with_reducible refine O ?_ (by assumption))))
       ·rw[HQ.out];exact⟨⟨_,rfl⟩,j2,_,((hs2.set_other _ _ (by simp;omega)).set_other _ _ (by simp;omega)).set_other _ _ (by simp;omega)⟩
     | none=>
       have HQ:=I (show A2 s m (Ah s j) false=R by rw[←HM.out,A2,HS.out,hcm]);rw[hcm]at hp;clear hcm;obtain⟨rfl,hs2⟩:=hp;have hr2:=hq.res.gb g12 (by simp;omega);have ht2:=hq.tabs.gb g12 (by simp);have gg:=O hq.g g12;go_wp2;go_roundg m
       case measure=>omega
       case rel=>exact⟨Ah s j,false,HQ.out,hs2,hr2,gg,ht2⟩
    ·have hor : ((((bAt s j).toNat : Int) == 42) = false) ∨ ((((bAt s j).toNat : Int) == 42) = true ∧ l = true) := by
      cases h42:bAt s j==42 with
      |false=>exact .inl (Cm (n:=42) (by decide) h42)
      | true=>exact .inr ⟨Cm (n:=42) (by decide) h42,by cases l with
        |true=>rfl
        |false=>exact absurd ⟨by simpa using h42,rfl⟩ hstar⟩
     have hs42:(bAt s j==42&&!l)=false:=by
      cases h42:bAt s j==42 with
      |false=>rfl
      | true=>cases l with
        |true=>rfl
        |false=>exact absurd ⟨by simpa using h42,rfl⟩ hstar
     have hleI:decide ((j:Int)≤s.length)=true:=by simp;omega
     cases ha:B2 s j with
     | true=>
       have HS:=I (G6 (l:=l) hj h10 hb3 (by rw[ha];simp));have HP:=I (G5 s j [38,38] (r:=true) ha);clear h10 hbl hb3 hstar hs42 ha;generalize bAt s j=q at*;rcases hor with e42| ⟨e42,rfl⟩
       ·go_wp2_with fail;go_quiet(fail);go_wp2_with fail;go_quiet(fail);go_wp2_with fail;go_quiet((go_at_call 154;refine(HP.out _).mono ?_;rintro e w9 ⟨rfl,rfl⟩;exact⟨rfl,_,rfl⟩));go_wp2_with fail;refine(De (hq.sc.gbN (by repeat(first| (with_reducible exact Ac _ _)| (with_reducible assumption)| (with_reducible exact AW (by assumption))| (with_reducible refine Aa ?_ _)| (with_reducible refine Aj ?_)| (with_reducible refine AH ?_ _)| ((with_reducible refine Ax ?_ _ _ ?h2);case h2=>first|exact .inl rfl|exact .inr (Nat.le_refl _)|exact .inr (by simp<;>omega))| (with_reducible refine Ae ?_ (by assumption))| (with_reducible refine O ?_ (by assumption)))))).mono ?_;intro e w2 hp;obtain⟨g2,hp⟩:=hp;have g12:w1.grownBy w2 (some b):=O (by repeat(first| (with_reducible exact Ac _ _)| (with_reducible assumption)| (with_reducible exact AW (by assumption))| (with_reducible refine Aa ?_ _)| (with_reducible refine Aj ?_)| (with_reducible refine AH ?_ _)| ((with_reducible refine Ax ?_ _ _ ?h2);case h2=>first|exact .inl rfl|exact .inr (Nat.le_refl _)|exact .inr (by simp<;>omega))| (with_reducible refine Ae ?_ (by assumption))| (with_reducible refine O ?_ (by assumption)))) g2;cases hcm:Bc s j with
        | some k=>
          have HQ:=I (show R= .bad k by rw[←HM.out,A2,HS.out,hcm]);rw[hcm]at hp;clear hcm;obtain⟨rfl,j2,hs2⟩:=hp;have hr2:=hq.res.gb g12 (by simp;omega);have z0:=hr2.cell 0;have z1:=hr2.cell 1;have z2:=hr2.cell 2;have zf:=fun k=>hr2.frozen k;have zl:=hr2.lt;simp only[List.getElem?_cons_zero,List.getElem?_cons_succ]at z0 z1 z2;go_wp2;refine bodyPost_ret (Bb (t:=⟨0,0,[]⟩) (r:=false) rfl _ (hr2.set3 _ _ _) rfl rfl) rfl ⟨?_,?_⟩
          ·have g:=O hq.g g12;exact (by repeat(first| (with_reducible exact Ac _ _)| (with_reducible assumption)| (with_reducible exact AW (by assumption))| (with_reducible refine Aa ?_ _)| (with_reducible refine Aj ?_)| (with_reducible refine AH ?_ _)| ((with_reducible refine Ax ?_ _ _ ?h2);case h2=>first|exact .inl rfl|exact .inr (Nat.le_refl _)|exact .inr (by simp<;>omega))| (with_reducible refine Ae ?_ (by assumption))| (with_reducible refine O ?_ (by assumption))))
          ·rw[HQ.out];exact⟨⟨_,rfl⟩,j2,_,((hs2.set_other _ _ (by simp;omega)).set_other _ _ (by simp;omega)).set_other _ _ (by simp;omega)⟩
        | none=>
          have HQ:=I (show A2 s m (Ah s j) l=R by rw[←HM.out,A2,HS.out,hcm]);rw[hcm]at hp;clear hcm;obtain⟨rfl,hs2⟩:=hp;have hr2:=hq.res.gb g12 (by simp;omega);have ht2:=hq.tabs.gb g12 (by simp);have gg:=O hq.g g12;go_wp2;go_roundg m
          case measure=>omega
          case rel=>exact⟨Ah s j,l,HQ.out,hs2,hr2,gg,ht2⟩
       ·go_wp2_with fail;go_quiet(fail);go_wp2_with fail;go_quiet(fail);go_wp2_with fail;go_quiet((go_at_call 154;refine(HP.out _).mono ?_;rintro e w9 ⟨rfl,rfl⟩;exact⟨rfl,_,rfl⟩));go_wp2_with fail;refine(De (hq.sc.gbN (by repeat(first| (with_reducible exact Ac _ _)| (with_reducible assumption)| (with_reducible exact AW (by assumption))| (with_reducible refine Aa ?_ _)| (with_reducible refine Aj ?_)| (with_reducible refine AH ?_ _)| ((with_reducible refine Ax ?_ _ _ ?h2);case h2=>first|exact .inl rfl|exact .inr (Nat.le_refl _)|exact .inr (by simp<;>omega))| (with_reducible refine Ae ?_ (by assumption))| (with_reducible refine O ?_ (by assumption)))))).mono ?_;intro e w2 hp;obtain⟨g2,hp⟩:=hp;have g12:w1.grownBy w2 (some b):=O (by repeat(first| (with_reducible exact Ac _ _)| (with_reducible assumption)| (with_reducible exact AW (by assumption))| (with_reducible refine Aa ?_ _)| (with_reducible refine Aj ?_)| (with_reducible refine AH ?_ _)| ((with_reducible refine Ax ?_ _ _ ?h2);case h2=>first|exact .inl rfl|exact .inr (Nat.le_refl _)|exact .inr (by simp<;>omega))| (with_reducible refine Ae ?_ (by assumption))| (with_reducible refine O ?_ (by assumption)))) g2;cases hcm:Bc s j with
        | some k=>
          have HQ:=I (show R= .bad k by rw[←HM.out,A2,HS.out,hcm]);rw[hcm]at hp;clear hcm;obtain⟨rfl,j2,hs2⟩:=hp;have hr2:=hq.res.gb g12 (by simp;omega);have z0:=hr2.cell 0;have z1:=hr2.cell 1;have z2:=hr2.cell 2;have zf:=fun k=>hr2.frozen k;have zl:=hr2.lt;simp only[List.getElem?_cons_zero,List.getElem?_cons_succ]at z0 z1 z2;go_wp2;refine bodyPost_ret (Bb (t:=⟨0,0,[]⟩) (r:=false) rfl _ (hr2.set3 _ _ _) rfl rfl) rfl ⟨?_,?_⟩
          ·have g:=O hq.g g12;exact (by repeat(first| (with_reducible exact Ac _ _)| (with_reducible assumption)| (with_reducible exact AW (by assumption))| (with_reducible refine Aa ?_ _)| (with_reducible refine Aj ?_)| (with_reducible refine AH ?_ _)| ((with_reducible refine Ax ?_ _ _ ?h2);case h2=>first|exact .inl rfl|exact .inr (Nat.le_refl _)|exact .inr (by simp<;>omega))| (with_reducible refine Ae ?_ (by assumption))| (with_reducible refine O ?_ (by assumption))))
          ·rw[HQ.out];exact⟨⟨_,rfl⟩,j2,_,((hs2.set_other _ _ (by simp;omega)).set_other _ _ (by simp;omega)).set_other _ _ (by simp;omega)⟩
        | none=>
          have HQ:=I (show A2 s m (Ah s j) true=R by rw[←HM.out,A2,HS.out,hcm]);rw[hcm]at hp;clear hcm;obtain⟨rfl,hs2⟩:=hp;have hr2:=hq.res.gb g12 (by simp;omega);have ht2:=hq.tabs.gb g12 (by simp);have gg:=O hq.g g12;go_wp2;go_roundg m
          case measure=>omega
          case rel=>exact⟨Ah s j,true,HQ.out,hs2,hr2,gg,ht2⟩
     | false=>
       have HP:=I (G5 s j [38,38] (r:=false) ha);have hcc:((bAt s j==42&&!l)||B2 s j)=false:=by rw[hs42,ha];rfl
       by_cases h59:bAt s j=59
       ·have HS:=I (KK (l:=l) hj h10 hb3 hcc h59);have e59:(((bAt s j).toNat:Int)==59)=true:=Cm (n:=59) (by decide) (by simpa using h59);clear h10 hbl hb3 hstar hs42 ha hcc h59;generalize bAt s j=q at*;rcases hor with e42| ⟨e42,rfl⟩
        ·skip;go_wp2_with fail;go_quiet(fail);go_wp2_with fail;go_quiet(fail);go_wp2_with fail;go_quiet((go_at_call 154;refine(HP.out _).mono ?_;rintro e w9 ⟨rfl,rfl⟩;exact⟨rfl,_,rfl⟩));go_wp2_with fail;go_quiet(fail);go_wp2_with fail;refine(Fe (hq.sc.gbN (by repeat(first| (with_reducible exact Ac _ _)| (with_reducible assumption)| (with_reducible exact AW (by assumption))| (with_reducible refine Aa ?_ _)| (with_reducible refine Aj ?_)| (with_reducible refine AH ?_ _)| ((with_reducible refine Ax ?_ _ _ ?h2);case h2=>first|exact .inl rfl|exact .inr (Nat.le_refl _)|exact .inr (by simp<;>omega))| (with_reducible refine Ae ?_ (by assumption))| (with_reducible refine O ?_ (by assumption))))) hj).mono ?_;intro e w2 hp;obtain⟨g2,hp⟩:=hp;have g12:w1.grownBy w2 (some b):=O (by repeat(first| (with_reducible exact Ac _ _)| (with_reducible assumption)| (with_reducible exact AW (by assumption))| (with_reducible refine Aa ?_ _)| (with_reducible refine Aj ?_)| (with_reducible refine AH ?_ _)| ((with_reducible refine Ax ?_ _ _ ?h2);case h2=>first|exact .inl rfl|exact .inr (Nat.le_refl _)|exact .inr (by simp<;>omega))| (with_reducible refine Ae ?_ (by assumption))| (with_reducible refine O ?_ (by assumption)))) g2;have hr2:=hq.res.gb g12 (by simp;omega);have z0:=hr2.cell 0;have z1:=hr2.cell 1;have z2:=hr2.cell 2;have zf:=fun k=>hr2.frozen k;have zl:=hr2.lt;simp only[List.getElem?_cons_zero,List.getElem?_cons_succ]at z0 z1 z2;cases hgo:BB s (A7 s (j+1))with
         | false=>
           have HQ:=I (show R= .bad j by rw[←HM.out,A2,HS.out,if_neg (by rw[hgo];simp)]);rw[if_neg (by rw[hgo];simp)]at hp;obtain⟨rfl,hs2⟩:=hp;clear hgo;have d1:=hs2.c1;have d260:=hs2.c260;have f260:=hs2.fr 260;go_wp2;refine bodyPost_ret (Bb (t:=⟨0,0,[]⟩) (r:=false) rfl _ ((hr2.set_other _ _ (by simp;omega)).set3 _ _ _) rfl rfl) rfl ⟨?_,?_⟩
           ·have g:=O hq.g g12;exact (by repeat(first| (with_reducible exact Ac _ _)| (with_reducible assumption)| (with_reducible exact AW (by assumption))| (with_reducible refine Aa ?_ _)| (with_reducible refine Aj ?_)| (with_reducible refine AH ?_ _)| ((with_reducible refine Ax ?_ _ _ ?h2);case h2=>first|exact .inl rfl|exact .inr (Nat.le_refl _)|exact .inr (by simp<;>omega))| (with_reducible refine Ae ?_ (by assumption))| (with_reducible refine O ?_ (by assumption))))
           ·rw[HQ.out];exact⟨⟨_,rfl⟩,j,_,(((hs2.setBad _).set_other _ _ (by simp;omega)).set_other _ _ (by simp;omega)).set_other _ _ (by simp;omega)⟩
         | true=>
           rw[if_pos hgo]at hp;cases hcm:Bc s (A7 s (j+1))with
           | some k=>
             have HQ:=I (show R= .bad k by rw[←HM.out,A2,HS.out,if_pos hgo,hcm]);rw[hcm]at hp;clear hcm hgo;obtain⟨rfl,j2,hs2⟩:=hp;go_wp2;refine bodyPost_ret (Bb (t:=⟨0,0,[]⟩) (r:=false) rfl _ (hr2.set3 _ _ _) rfl rfl) rfl ⟨?_,?_⟩
             ·have g:=O hq.g g12;exact (by repeat(first| (with_reducible exact Ac _ _)| (with_reducible assumption)| (with_reducible exact AW (by assumption))| (with_reducible refine Aa ?_ _)| (with_reducible refine Aj ?_)| (with_reducible refine AH ?_ _)| ((with_reducible refine Ax ?_ _ _ ?h2);case h2=>first|exact .inl rfl|exact .inr (Nat.le_refl _)|exact .inr (by simp<;>omega))| (with_reducible refine Ae ?_ (by assumption))| (with_reducible refine O ?_ (by assumption))))
             ·rw[HQ.out];exact⟨⟨_,rfl⟩,j2,_,((hs2.set_other _ _ (by simp;omega)).set_other _ _ (by simp;omega)).set_other _ _ (by simp;omega)⟩
           | none=>
             have HQ:=I (show A2 s m (Bl s (A7 s (j+1))) l=R by rw[←HM.out,A2,HS.out,if_pos hgo,hcm]);rw[hcm]at hp;clear hcm hgo;obtain⟨rfl,hs2⟩:=hp;have ht2:=hq.tabs.gb g12 (by simp);have gg:=O hq.g g12;go_wp2;go_roundg m
             case measure=>omega
             case rel=>exact⟨_,l,HQ.out,hs2,hr2,gg,ht2⟩
        ·skip;go_wp2_with fail;go_quiet(fail);go_wp2_with fail;go_quiet(fail);go_wp2_with fail;go_quiet((go_at_call 154;refine(HP.out _).mono ?_;rintro e w9 ⟨rfl,rfl⟩;exact⟨rfl,_,rfl⟩));go_wp2_with fail;go_quiet(fail);go_wp2_with fail;refine(Fe (hq.sc.gbN (by repeat(first| (with_reducible exact Ac _ _)| (with_reducible assumption)| (with_reducible exact AW (by assumption))| (with_reducible refine Aa ?_ _)| (with_reducible refine Aj ?_)| (with_reducible refine AH ?_ _)| ((with_reducible refine Ax ?_ _ _ ?h2);case h2=>first|exact .inl rfl|exact .inr (Nat.le_refl _)|exact .inr (by simp<;>omega))| (with_reducible refine Ae ?_ (by assumption))| (with_reducible refine O ?_ (by assumption))))) hj).mono ?_;intro e w2 hp;obtain⟨g2,hp⟩:=hp;have g12:w1.grownBy w2 (some b):=O (by repeat(first| (with_reducible exact Ac _ _)| (with_reducible assumption)| (with_reducible exact AW (by assumption))| (with_reducible refine Aa ?_ _)| (with_reducible refine Aj ?_)| (with_reducible refine AH ?_ _)| ((with_reducible refine Ax ?_ _ _ ?h2);case h2=>first|exact .inl rfl|exact .inr (Nat.le_refl _)|exact .inr (by simp<;>omega))| (with_reducible refine Ae ?_ (by assumption))| (with_reducible refine O ?_ (by assumption)))) g2;have hr2:=hq.res.gb g12 (by simp;omega);have z0:=hr2.cell 0;have z1:=hr2.cell 1;have z2:=hr2.cell 2;have zf:=fun k=>hr2.frozen k;have zl:=hr2.lt;simp only[List.getElem?_cons_zero,List.getElem?_cons_succ]at z0 z1 z2;cases hgo:BB s (A7 s (j+1))with
         | false=>
           have HQ:=I (show R= .bad j by rw[←HM.out,A2,HS.out,if_neg (by rw[hgo];simp)]);rw[if_neg (by rw[hgo];simp)]at hp;obtain⟨rfl,hs2⟩:=hp;clear hgo;have d1:=hs2.c1;have d260:=hs2.c260;have f260:=hs2.fr 260;go_wp2;refine bodyPost_ret (Bb (t:=⟨0,0,[]⟩) (r:=false) rfl _ ((hr2.set_other _ _ (by simp;omega)).set3 _ _ _) rfl rfl) rfl ⟨?_,?_⟩
           ·have g:=O hq.g g12;exact (by repeat(first| (with_reducible exact Ac _ _)| (with_reducible assumption)| (with_reducible exact AW (by assumption))| (with_reducible refine Aa ?_ _)| (with_reducible refine Aj ?_)| (with_reducible refine AH ?_ _)| ((with_reducible refine Ax ?_ _ _ ?h2);case h2=>first|exact .inl rfl|exact .inr (Nat.le_refl _)|exact .inr (by simp<;>omega))| (with_reducible refine Ae ?_ (by assumption))| (with_reducible refine O ?_ (by assumption))))
           ·rw[HQ.out];exact⟨⟨_,rfl⟩,j,_,(((hs2.setBad _).set_other _ _ (by simp;omega)).set_other _ _ (by simp;omega)).set_other _ _ (by simp;omega)⟩
         | true=>
           rw[if_pos hgo]at hp;cases hcm:Bc s (A7 s (j+1))with
           | some k=>
             have HQ:=I (show R= .bad k by rw[←HM.out,A2,HS.out,if_pos hgo,hcm]);rw[hcm]at hp;clear hcm hgo;obtain⟨rfl,j2,hs2⟩:=hp;go_wp2;refine bodyPost_ret (Bb (t:=⟨0,0,[]⟩) (r:=false) rfl _ (hr2.set3 _ _ _) rfl rfl) rfl ⟨?_,?_⟩
             ·have g:=O hq.g g12;exact (by repeat(first| (with_reducible exact Ac _ _)| (with_reducible assumption)| (with_reducible exact AW (by assumption))| (with_reducible refine Aa ?_ _)| (with_reducible refine Aj ?_)| (with_reducible refine AH ?_ _)| ((with_reducible refine Ax ?_ _ _ ?h2);case h2=>first|exact .inl rfl|exact .inr (Nat.le_refl _)|exact .inr (by simp<;>omega))| (with_reducible refine Ae ?_ (by assumption))| (with_reducible refine O ?_ (by assumption))))
             ·rw[HQ.out];exact⟨⟨_,rfl⟩,j2,_,((hs2.set_other _ _ (by simp;omega)).set_other _ _ (by simp;omega)).set_other _ _ (by simp;omega)⟩
           | none=>
             have HQ:=I (show A2 s m (Bl s (A7 s (j+1))) true=R by rw[←HM.out,A2,HS.out,if_pos hgo,hcm]);rw[hcm]at hp;clear hcm hgo;obtain⟨rfl,hs2⟩:=hp;have ht2:=hq.tabs.gb g12 (by simp);have gg:=O hq.g g12;go_wp2;go_roundg m
             case measure=>omega
             case rel=>exact⟨_,true,HQ.out,hs2,hr2,gg,ht2⟩
       ·have HS:=I (LU (l:=l) hj h10 hb3 hcc h59);have e59:(((bAt s j).toNat:Int)==59)=false:=Cm (n:=59) (by decide) (by simpa using h59);have HX:=I (fun q=>KR (w:=((w1.drewN q).setCell ⟨b,258,none⟩ (.bool true)).setCell ⟨b,259,none⟩ (.bool true)) (((hq.sc.drewN q).setLine true).setBegun true) (hq.tabs.gb (Ax (Ax (AH (Ac _ (some b)) q) _ _ (.inl rfl)) _ _ (.inl rfl)) (by simp)) hj h10);clear h10 hbl hb3 hstar hs42 ha hcc h59;generalize bAt s j=q at*;rcases hor with e42| ⟨e42,rfl⟩
        ·skip;go_wp2_with fail;go_quiet(fail);go_wp2_with fail;go_quiet(fail);go_wp2_with fail;go_quiet((go_at_call 154;refine(HP.out _).mono ?_;rintro e w9 ⟨rfl,rfl⟩;exact⟨rfl,_,rfl⟩));go_wp2_with fail;go_quiet(fail);have f258:=hq.sc.fr 258;have f259:=hq.sc.fr 259;go_wp2_with fail;refine(HX.out _).mono ?_;intro e w3 hp;obtain⟨g3,t,ok,rfl,hF⟩:=hp.fin;have g13:w1.grownBy w3 (some b):=O (BD (BD (AH (Ac w1 (some b)) _) 258 _) 259 _) g3;have hr3:=hq.res.gb g13 (by simp;omega);have z0:=hr3.cell 0;have z1:=hr3.cell 1;have z2:=hr3.cell 2;have zf:=fun k=>hr3.frozen k;have zl:=hr3.lt;simp only[List.getElem?_cons_zero,List.getElem?_cons_succ]at z0 z1 z2;have HF:=I hF;clear hF;go_wp2;refine bodyPost_ret (Bb (t:=t) (r:=ok) rfl _ (hr3.set3 _ _ _) rfl rfl) rfl ?_;have g:=O hq.g g13;exact Gx (((HF.out.set_other _ _ (by simp;omega)).set_other _ _ (by simp;omega)).set_other _ _ (by simp;omega)) HS.out HM.out (by repeat(first| (with_reducible exact Ac _ _)| (with_reducible assumption)| (with_reducible exact AW (by assumption))| (with_reducible refine Aa ?_ _)| (with_reducible refine Aj ?_)| (with_reducible refine AH ?_ _)| ((with_reducible refine Ax ?_ _ _ ?h2);case h2=>first|exact .inl rfl|exact .inr (Nat.le_refl _)|exact .inr (by simp<;>omega))| (with_reducible refine Ae ?_ (by assumption))| (with_reducible refine O ?_ (by assumption))))
        ·skip;go_wp2_with fail;go_quiet(fail);go_wp2_with fail;go_quiet(fail);go_wp2_with fail;go_quiet((go_at_call 154;refine(HP.out _).mono ?_;rintro e w9 ⟨rfl,rfl⟩;exact⟨rfl,_,rfl⟩));go_wp2_with fail;go_quiet(fail);have f258:=hq.sc.fr 258;have f259:=hq.sc.fr 259;go_wp2_with fail;refine(HX.out _).mono ?_;intro e w3 hp;obtain⟨g3,t,ok,rfl,hF⟩:=hp.fin;have g13:w1.grownBy w3 (some b):=O (BD (BD (AH (Ac w1 (some b)) _) 258 _) 259 _) g3;have hr3:=hq.res.gb g13 (by simp;omega);have z0:=hr3.cell 0;have z1:=hr3.cell 1;have z2:=hr3.cell 2;have zf:=fun k=>hr3.frozen k;have zl:=hr3.lt;simp only[List.getElem?_cons_zero,List.getElem?_cons_succ]at z0 z1 z2;have HF:=I hF;clear hF;go_wp2;refine bodyPost_ret (Bb (t:=t) (r:=ok) rfl _ (hr3.set3 _ _ _) rfl rfl) rfl ?_;have g:=O hq.g g13;exact Gx (((HF.out.set_other _ _ (by simp;omega)).set_other _ _ (by simp;omega)).set_other _ _ (by simp;omega)) HS.out HM.out (by repeat(first| (with_reducible exact Ac _ _)| (with_reducible assumption)| (with_reducible exact AW (by assumption))| (with_reducible refine Aa ?_ _)| (with_reducible refine Aj ?_)| (with_reducible refine AH ?_ _)| ((with_reducible refine Ax ?_ _ _ ?h2);case h2=>first|exact .inl rfl|exact .inr (Nat.le_refl _)|exact .inr (by simp<;>omega))| (with_reducible refine Ae ?_ (by assumption))| (with_reducible refine O ?_ (by assumption))))
  ·have hj1:((j:Int)==(s.length:Int))=true:=by simp;omega
   have hS:=LT (s:=s) (j:=j) (l:=l) (by omega);cases l with
   | true=>
     have HQ:=I (show R= .tok ⟨5,j,[]⟩ j false m by rw[←HM.out,A2,hS];rfl);have HE:=I (fun(W:World)(g:w1.grownBy W none)=>FJ (hq.sc.gbN g) (j:=j) (by rw[if_neg hj]));clear hS;go_wp2_with fail;go_quiet(fail);go_wp2_with fail;refine(HE.out _ (by repeat(first| (with_reducible exact Ac _ _)| (with_reducible assumption)| (with_reducible exact AW (by assumption))| (with_reducible refine Aa ?_ _)| (with_reducible refine Aj ?_)| (with_reducible refine AH ?_ _)| ((with_reducible refine Ax ?_ _ _ ?h2);case h2=>first|exact .inl rfl|exact .inr (Nat.le_refl _)|exact .inr (by simp<;>omega))| (with_reducible refine Ae ?_ (by assumption))| (with_reducible refine O ?_ (by assumption))))).mono ?_;rintro e w2 ⟨rfl,g2,hs2⟩;have hr2:=(hq.res.drewN nq).gb g2 (by simp;omega);have z0:=hr2.cell 0;have z1:=hr2.cell 1;have z2:=hr2.cell 2;have zf:=fun k=>hr2.frozen k;have zl:=hr2.lt;simp only[List.getElem?_cons_zero,List.getElem?_cons_succ]at z0 z1 z2;go_wp2_with fail;go_region;go_wp2;refine bodyPost_ret (Bb (t:=⟨5,j,[]⟩) (r:=true) rfl _ (((hr2.set3 _ _ _).alloc _).drew) rfl rfl) rfl ⟨?_,?_⟩
     ·have g:=O (AH hq.g nq) g2;exact (by repeat(first| (with_reducible exact Ac _ _)| (with_reducible assumption)| (with_reducible exact AW (by assumption))| (with_reducible refine Aa ?_ _)| (with_reducible refine Aj ?_)| (with_reducible refine AH ?_ _)| ((with_reducible refine Ax ?_ _ _ ?h2);case h2=>first|exact .inl rfl|exact .inr (Nat.le_refl _)|exact .inr (by simp<;>omega))| (with_reducible refine Ae ?_ (by assumption))| (with_reducible refine O ?_ (by assumption))))
     ·rw[HQ.out];exact⟨rfl,((((hs2.set_other _ _ (by simp;omega)).set_other _ _ (by simp;omega)).set_other _ _ (by simp;omega)).alloc _).drew⟩
   | false=>
     have HQ:=I (show R= .stop by rw[←HM.out,A2,hS];rfl);have HE:=I (fun(W:World)(g:w1.grownBy W none)=>Gr (hq.sc.gbN g) (j:=j) (by rw[if_neg hj]) (r:=true) (by simp[hj]));clear hS;go_wp2_with fail;go_quiet(fail);go_wp2_with fail;refine(HE.out _ (by repeat(first| (with_reducible exact Ac _ _)| (with_reducible assumption)| (with_reducible exact AW (by assumption))| (with_reducible refine Aa ?_ _)| (with_reducible refine Aj ?_)| (with_reducible refine AH ?_ _)| ((with_reducible refine Ax ?_ _ _ ?h2);case h2=>first|exact .inl rfl|exact .inr (Nat.le_refl _)|exact .inr (by simp<;>omega))| (with_reducible refine Ae ?_ (by assumption))| (with_reducible refine O ?_ (by assumption))))).mono ?_;rintro e w2 ⟨rfl,g2,hs2⟩;have hr2:=(hq.res.drewN nq).gb g2 (by simp;omega);have z0:=hr2.cell 0;have z1:=hr2.cell 1;have z2:=hr2.cell 2;have zf:=fun k=>hr2.frozen k;have zl:=hr2.lt;simp only[List.getElem?_cons_zero,List.getElem?_cons_succ]at z0 z1 z2;go_wp2_with fail;go_region;go_wp2;refine bodyPost_ret (Bb (t:=⟨0,0,[]⟩) (r:=false) rfl _ (((hr2.set3 _ _ _).alloc _).drew) rfl rfl) rfl ⟨?_,?_⟩
     ·have g:=O (AH hq.g nq) g2;exact (by repeat(first| (with_reducible exact Ac _ _)| (with_reducible assumption)| (with_reducible exact AW (by assumption))| (with_reducible refine Aa ?_ _)| (with_reducible refine Aj ?_)| (with_reducible refine AH ?_ _)| ((with_reducible refine Ax ?_ _ _ ?h2);case h2=>first|exact .inl rfl|exact .inr (Nat.le_refl _)|exact .inr (by simp<;>omega))| (with_reducible refine Ae ?_ (by assumption))| (with_reducible refine O ?_ (by assumption))))
     ·rw[HQ.out];exact⟨⟨_,rfl⟩,j,false,((((hs2.set_other _ _ (by simp;omega)).set_other _ _ (by simp;omega)).set_other _ _ (by simp;omega)).alloc _).drew⟩
end Go.Proofs.YtgjdhajcnechdaaGreatDoor
