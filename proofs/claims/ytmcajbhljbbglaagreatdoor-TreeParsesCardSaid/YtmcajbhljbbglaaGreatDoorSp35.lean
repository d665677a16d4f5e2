/-
  The reference's reader of statements: guard. The reference's reader of statements: choice. The reference's reader: prim. The reference's reader: prim at a word, a macro, a sign.
-/
import Derived.Test.YtmcajbhljbbglaaGreatDoorSpF
import Derived.Test.YtmcajbhljbbglaaGreatDoorSp32
import Derived.Test.YtmcajbhljbbglaaGreatDoorSp25
import Derived.Test.YtmcajbhljbbglaaGreatDoorSp28
set_option linter.all false
set_option maxRecDepth 100000
set_option maxHeartbeats 8000000
namespace Go.Proofs.YtmcajbhljbbglaaGreatDoor
open Tryz
open Go.RowKit
theorem Uc:(Tryz.prog.info? 43).map (fun i=>(i.zero,i.size,i.bytes))=some (some (.slice none 0 0),1,24):=Bk
section
variable {w:World}{b:Nat}{tv:Value}{l:List Tok}{st:RS}
theorem KA.startB{wr:World}(hz:Blk wr w.heap.size (stC 0 (.slice none 0 0)) 50)(gr:w.grownBy wr (some b))(hb:b<w.heap.size)(hw:w.heap.size<wr.heap.size)(o:Int)(s:Bs)
 {c:Bl} {ca:Option Addr} {cc:Nat} {okx:Nat→Prop} (rc:RepV okx wr false (.slice ca c.len cc) c) (hok:∀q,okx q→q<wr.heap.size→w.heap.size<q):
 KA b w (wr.heap.size+1) ((wr.alloc (.cells #[.slice ca c.len cc] 43 (0,0))).alloc (.cells #[.int .i64 o,str s,str [],.slice none 0 0,.slice none 0 0,.slice (some ⟨wr.heap.size,0,none⟩) 1 1,.int .i64 0,.slice none 0 0,.slice none 0 0,.slice none 0 0] 50 (0,0))) o s [] [] .nil (.bl c .nil) (.slice none 0 0) (.slice none 0 0) (.slice (some ⟨wr.heap.size,0,none⟩) 1 1):=by
 have g1:=World.grownBy_alloc wr (.cells #[.slice ca c.len cc] 43 (0,0)) none;have hO:(wr.alloc (.cells [Value.slice ca c.len cc].toArray 43 (0,0))).ownsRow (w.heap.size+1) 43 1 (.slice (some ⟨wr.heap.size,0,none⟩) 1 1) 1 [.slice ca c.len cc]:=Ji rfl Ab rfl Ad;refine⟨(Blk.new _ _ _).of_eq Ae rfl,World.ownsRow_nil _ _ _ _,⟨[],World.ownsRow_nil _ _ _ _,rfl⟩,⟨_,hO.alloc _,?_⟩,Ar (Ar gr _) _,hb,by omega,(hz.alloc _).alloc _⟩;obtain⟨kcs,c1,c2⟩:=rc;have hfr:∀q,okx q→q<wr.heap.size→fre w (wr.heap.size+1) (.slice none 0 0) (.slice none 0 0) (.slice (some ⟨wr.heap.size,0,none⟩) 1 1) q:=fun q hq hlt=>⟨hok q hq hlt,by omega,by simp[Value.ownBlock],by simp[Value.ownBlock],by simp[Value.ownBlock];omega⟩;have g2:=Ar g1 (.cells #[.int .i64 o,str s,str [],.slice none 0 0,.slice none 0 0,.slice (some ⟨wr.heap.size,0,none⟩) 1 1,.int .i64 0,.slice none 0 0,.slice none 0 0,.slice none 0 0] 50 (0,0));exact⟨ca,cc,kcs,[],rfl,(c1.mono hfr).gb g2 Ae,(RepT.mono hfr c2).gb g2 Ae,rfl⟩
theorem rC{block:Rd l Bl}(hn:Al l)(hB:CRB b tv l block.g)(hok:∀i,At (Af l i))(h:Rr w b tv l st){r:StB×RS}(ho:(ET hn wordsL block).g st=some r):
 Calls Tryz.prog 191 #[.pointer (some ⟨b,0,none⟩)] w (AM b tv l w (VSt w) r):=by
 have hb:=h.lt;unfold ET at ho;rw[Rd.must_gb,Rd.fin_g]at ho;obtain⟨c,st3,hc,ho⟩:=Rd.bind_g ho;obtain⟨⟨s,bs⟩,st4,hr,ho⟩:=Rd.bind_g ho;rw[Rd.must_gb,Rd.fin_g,Rd.pure_g]at ho;rw[FF]at hr;cases ho;have H:=Z (Ac hB (Ac hok hc));have FV{P}(h:P:=by
 have h0:=h.alloc (.cells (stC 0 (.slice none 0 0)).toArray 50 (0,0));have HM:=Z (C5 h0 hok Py Ad);clear hB hok hc h0;go_enter func191,ntmps191;go_wp2_with fail;refine HM.out.mono ?_;rintro e w1 ⟨g1,v,rfl,rfl,h1⟩;have hz1:=hz.gb g1 Ag;have G1:=Ah gz g1;clear HM gz hz g1;go_wp2_with fail;refine(BR h1).mono ?_;rintro e w2 ⟨g2,v,rfl,rfl,h2⟩;have hz2:=hz1.gb g2 Ag;have G2:=Ah G1 g2;have HC:=Z (H.out.1 _ _ _ h2 H.out.2.2);have hl2:=hz2.lt;clear hz1 G1 g2 h1;go_wp2_with fail;refine HC.out.mono ?_;rintro e w3 ⟨g3,v,rfl,⟨kcs,⟨ca,cc,rfl,k1⟩,k2⟩,h3⟩;simp only at h3;have hs3:=g3.size;have HK:=Z (KA.startB (hz2.gb g3 Ag) (Ah G2 g3) hb Ab 11 [] (c:=c) (ca:=ca) (cc:=cc) ⟨kcs,⟨ca,cc,rfl,k1⟩,k2⟩ (fun q hq _=>by have:w2.heap.size≤q:=hq;omega));have hR:=(h3.alloc (.cells #[.slice ca c.len cc] 43 (0,0))).alloc (.cells #[.int .i64 11,str [],str [],.slice none 0 0,.slice none 0 0,.slice (some ⟨w3.heap.size,0,none⟩) 1 1,.int .i64 0,.slice none 0 0,.slice none 0 0,.slice none 0 0] 50 (0,0));have HW:=Z (Ef hR H.out.2.1 IE Ad);clear hz2 G2 g3 k1 k2 h3 HC h2;have hkl:=HK.out.lt;have NY{P}(h:P:=by
 clear g4 HW hR;generalize hwr:B4 l wordsL IE st3=pr at*;obtain⟨ok,st5⟩:=pr;simp only at hr h4;have hR:=h4;clear h4;cases ok with
 | false=>
   rw[if_neg Ae,Rd.pure_g]at hr;cases hr;go_wp2_with fail;refine(C5 hR H.out.2.1 JC Ad).mono ?_;exact L3
 | true=>
   rw[if_pos rfl]at hr;obtain⟨s1,st6,hs1',hr⟩:=Rd.bind_g hr;rw[Rd.fin_g]at hr;obtain⟨c2,st8,hc2,hr⟩:=Rd.bind_g hr;rw[Rd.pure_g]at hr;cases hr;rw[FF]at hs1';have HC2:=Z hc2;have hkl:=HK.out.lt;clear hc2;have HW:=Z (Ef hR H.out.2.1 J2 Ad);go_wp2_with fail;refine HW.out.mono ?_;rintro e w5 ⟨g5,v,rfl,rfl,h5⟩;replace HK:=Z (HK.out.gb g5);clear g5 HW hR;generalize hwr2:B4 l wordsL J2 _=pr at*;obtain⟨ok2,st7⟩:=pr;simp only at hs1' h5;cases ok2 with
   | false=>
     rw[if_neg Ae,Rd.pure_g]at hs1';cases hs1';go_wp2_with fail;refine(BR h5).mono ?_;have dL{P}(h:P:=by clear h5 h6;exact ZE):=Aa h;exact T9
   | true=>
     rw[if_pos rfl]at hs1';have e7:(Ax l st7)=(s,st6):=by
      have h:some (Ax l st7)=some (s,st6):=hs1';exact Option.some.inj h
     clear hs1';have hkl:=HK.out.lt;go_wp2_with fail;refine(BY h5).mono ?_;rintro e w6 ⟨g6,v,rfl,rfl,h6⟩;rw[e7]at h6 ⊢;simp only at h6 ⊢;have hx1:=(HK.out.gb g6).blk.cell' 1 rfl;have hf1:=(HK.out.gb g6).blk.frozen 1;have hkl:=(HK.out.gb g6).lt;have hK7:=(HK.out.gb g6).putS s;have hR7:=h6.gb (As (Aj w6 (some (w3.heap.size+1))) 1 (str s)) (by intro q e;cases e;exact HK.out.bL);replace HK:=Z hK7;clear g6 h6 hK7 h5;go_wp2_with fail;generalize hWW:World.setCell _ _ _=W7 at*;go_wp2_with fail;refine(BR hR7).mono ?_;have dL{P}(h:P:=by clear hR7 h6;exact ZE):=Aa h;exact T9):=Aa h
 exact Nw):=Aa h;exact FU
end
section
variable {w:World}{b:Nat}{tv:Value}{l:List Tok}{st:RS}
def WR(hn:Al l)(day:Bs→Int)(n:Nat)(block:Rd l Bl)(b:Nat)(tv:Value)(w:World)(L:Nat)(more:Bs)(o:Int)(q:(Fo×Bl)×RS)(g:Nat)(v:Value)(wr:World):Prop:=
 ∃(go:Bool)(a:Fo×Bl)(st:RS),v= .bool go∧(∃pv xv bv,KA b w L wr o [] [] [] a.1 a.2 pv xv bv)∧Rr wr b tv l st∧
  ((go=true∧∃m,g=m+1∧a.1.len+m≤n∧a.2.len+m≤n∧((BS hn day n block a).bind (Rd.moreW wordsL more (BS hn day n block) m)).g st=some q)∨(go=false∧g=0∧(a,st)=q∧a.2.len≤n+1))
theorem n7{block:Rd l Bl}(hn:Al l){day:Bs→Int}{n:Nat}(hnn:n≤100000)(hB:CRB b tv l block.g)(hE:CR 28 b tv l (AN l day n))(hok:∀i,At (Af l i))(h:Rr w b tv l st){r:StB×RS}(ho:(DY hn wordsL day n block F6 H8 Hw).g st=some r):
 Calls Tryz.prog 187 #[.pointer (some ⟨b,0,none⟩)] w (AM b tv l w (VSt w) r):=by
 have hb:=h.lt;unfold DY at ho;obtain⟨a0,st0,h0,ho⟩:=Rd.bind_g ho;obtain⟨a1,st1,h1,ho⟩:=Rd.bind_g ho;have hp:((BS hn day n block (.nil,.nil)).bind (Rd.moreW wordsL F6 (BS hn day n block) n)).g st=some (a1,st1):=by
  show((BS hn day n block (.nil,.nil)).g st).bind _=_;rw[h0];exact h1
 have HP:=Z hp;have HT:=Z ho;have H:=Z (Ac hB (Ac hE hok));have FV{P}(h:P:=by
 have hKK:=KA.start hz gz hb Ae 3 [];have NW{P}(h:P:=by
 have hR:=(h.alloc (.cells (stC 0 (.slice none 0 0)).toArray 50 (0,0))).alloc (.cells #[.int .i64 3,str [],str [],.slice none 0 0,.slice none 0 0,.slice none 0 0,.int .i64 0,.slice none 0 0,.slice none 0 0,.slice none 0 0] 50 (0,0));clear hB hE hok hp ho h0 h1 hz gz hKK;go_enter func187,ntmps187;go_wp2_with fail;go_loopg [4] (n+1) (fun g v4 wr=>WR hn day n block b tv w (w.heap.size+1) F6 3 (a1,st1) g v4 wr)
 case atStart=>exact⟨true,(.nil,.nil),_,rfl,⟨_,_,_,HK.out⟩,hR,.inl ⟨rfl,n,rfl,by simp[Fo.len],by simp[Bl.len],HP.out⟩⟩
 case round=>
  obtain⟨more,a,st1,rfl,⟨pv,xv,bv,hK⟩,hR1,hq⟩:=hrel;have HK:=Z hK;have hR:=hR1;clear hK hR1 HP;rcases hq with⟨rfl,m,rfl,hm1,hm2,hq⟩| ⟨rfl,rfl,hq,hlen⟩
  ·have gO{P}(h:P:=by
   have EQ{P}(h:P:=by
   have hroom:=hm1;have DD{P}(h:P:=by
   go_region_law(first
    | (refine step_append_lies _ Ao _ _ 27 Ao (w.heap.size+1) 29 i0 _ 7 104 underlying27 HI.out.1 HI.out.2.1 HI.out.2.2.1 HI.out.2.2.2 rfl Ad _ _ cs6 Ao HB.out.2.1 ⟨w6.heap.size,0,none⟩ 1 1 (hdC (x).h (.slice pa6 (x).h.p.length pc6) (.slice la6 (x).kids.len lc6)) Ao rfl (Bu _ _ _) FS Ad AI Ab Ag _ rfl ?_;intro j cap w7 hown hgrow hat hlt;(have HK8:=Z (Ac (HB.out.1.addX' HB.out.2.1 HB.out.2.2.1 HB.out.2.2.2.1 HB.out.2.2.2.2.1 (fun q hq=>HK.out.fresh q hq) hown hgrow hat) (Rr.app HB.out.2.2.2.2.2 hgrow (fun q hq=>(HB.out.1.belowX q hq).1) hbL 4 (.slice (some ⟨j,0,none⟩) (a.1.len+1) cap))));(have hb7:=HB.out.1.blk.gb hgrow HB.out.1.neX);(have f7:=hb7.frozen 4);(have d7:=hb7.cell' 4 rfl);(have l7:=hb7.lt);clear hown hgrow hat hb7 HB)
    | (go_simp;go_at_call 28;refine(H.out.2.1 _ _ _ (hR.drewN 1) HX.out.1).mono ?_;rintro e w6 ⟨g6,v,rfl,⟨pa6,pc6,la6,lc6,rfl,q1,q2⟩,h6⟩;(have k6:=HK.out.gb (Ah (An (Aj _ _)) g6));(have l6:=k6.lt);(have d6:=k6.blk.cell' 4 rfl);(have s6:=g6.size);(have k7:=k6.alloc (.cells (hdC (x).h (.slice pa6 (x).h.p.length pc6) (.slice la6 (x).kids.len lc6)).toArray 29 (0,0)));(obtain⟨cs6,ho6,hr6⟩:=k7.x);(have gA:=World.grownBy_alloc w6 (.cells (hdC (x).h (.slice pa6 (x).h.p.length pc6) (.slice la6 (x).kids.len lc6)).toArray 29 (0,0)) none);(have HB:=Z (Ac k7 (Ac ho6 (Ac hr6 (Ac (q1.gb gA Ae) (Ac (q2.gb gA Ae) (h6.alloc (.cells (hdC (x).h (.slice pa6 (x).h.p.length pc6) (.slice la6 (x).kids.len lc6)).toArray 29 (0,0)))))))));clear k6 k7 ho6 hr6 q1 q2 h6 gA g6))
   all_goals
    have fZ{P}(h:P:=by
    have Kk{P}(h:P:=by
    have hroom:=hm2;have DD{P}(h:P:=by
    go_region_law(first
     | (refine step_append_lies _ Ao _ _ 46 Ao (w.heap.size+1) 43 i0 _ 1 24 underlying46 HI.out.1 HI.out.2.1 HI.out.2.2.1 HI.out.2.2.2 rfl Ad _ _ ds6 Ao HB.out.2.1 ⟨w6.heap.size,0,none⟩ 1 1 [.slice ca6 (c).len cc6] Ao rfl (D0 _ _ _) Dg Ad AI Ab Ag _ rfl ?_;intro j cap w7 hown hgrow hat hlt;(have HK8:=Z (Ac (HB.out.1.addB' HB.out.2.1 HB.out.2.2.1 HB.out.2.2.2.1 (fun q hq=>HK.out.fresh q hq) hown hgrow hat) (Rr.app HB.out.2.2.2.2 hgrow (fun q hq=>(HB.out.1.belowB q hq).1) hbL 5 (.slice (some ⟨j,0,none⟩) (a.2.len+1) cap))));(have hb7:=HB.out.1.blk.gb hgrow HB.out.1.neB);(have f7:=hb7.frozen 5);(have d7:=hb7.cell' 5 rfl);(have l7:=hb7.lt);clear hown hgrow hat hb7 HB)
     | (go_simp;go_at_call 70;refine(H.out.1 _ _ _ (hR.drewN 1) HX.out.2.1).mono ?_;rintro e w6 ⟨g6,v,rfl,hv6,h6⟩;(obtain⟨_,⟨ca6,cc6,rfl,_⟩,_⟩:=id hv6);(have k6:=HK.out.gb (Ah (An (Aj _ _)) g6));(have l6:=k6.lt);(have d6:=k6.blk.cell' 5 rfl);(have s6:=g6.size);(have k7:=k6.alloc (.cells #[.slice ca6 (c).len cc6] 43 (0,0)));(obtain⟨ds6,ho6,hr6⟩:=k7.bb);(have gA:=World.grownBy_alloc w6 (.cells #[.slice ca6 (c).len cc6] 43 (0,0)) none);(have HB:=Z (Ac k7 (Ac ho6 (Ac hr6 (Ac (RepV.gb hv6 gA Ae) (h6.alloc (.cells #[.slice ca6 (c).len cc6] 43 (0,0))))))));clear k6 k7 ho6 hr6 hv6 h6 gA g6))
    all_goals
     have LB{P}(h:P:=by
     have HW:=Z (Ef hR H.out.2.2 F6 Ad);rcases Rd.moreW_g HX.out.2.2 with⟨hw,m',rfl,hq⟩| ⟨hw,hq⟩
     ·generalize hwr:B4 l wordsL F6 _=pr at*;have NF{P}(h:P:=by exact aB):=Aa h;exact Nb
     ·generalize hwr:B4 l wordsL F6 _=pr at*;have NF{P}(h:P:=by exact ZA):=Aa h;exact Nb):=Aa h
     exact Ls):=Aa h
    exact D9):=Aa h;exact JY):=Aa h;exact Zi):=Aa h
   exact D9):=Aa h;exact EN):=Aa h;exact Zq
  cases hq;have HW:=Z (Ef hR H.out.2.2 H8 Ad);obtain⟨bs,st7,hb7,ho⟩:=Rd.bind_g HT.out;rw[Rd.must_gb,Rd.fin_g,Rd.pure_g]at ho;cases ho;rw[FF]at hb7;generalize hwr:B4 l wordsL H8 _=pr at*;obtain⟨ok,st5⟩:=pr;simp only at hb7;have hkl:=HK.out.lt;cases ok with
  | false=>
    rw[if_neg Ae,Rd.pure_g]at hb7;cases hb7;have RD{P}(h:P:=by refine(C5 h4 H.out.2.2 Hw Ad).mono ?_;exact L3):=Aa h;exact QC
  | true=>
    have eF{P}(h:P:=by
    go_region_law(first
     | (refine step_append_lies _ Ao _ _ 46 Ao (w.heap.size+1) 43 i0 _ 1 24 underlying46 HI.out.1 HI.out.2.1 HI.out.2.2.1 HI.out.2.2.2 rfl Ad _ _ ds6 Ao HB.out.2.1 ⟨w6.heap.size,0,none⟩ 1 1 [.slice ca6 (c).len cc6] Ao rfl (D0 _ _ _) Dg Ad AI Ab Ag _ rfl ?_;intro j cap w7 hown hgrow hat hlt;(have HK8:=Z (Ac (HB.out.1.addB' HB.out.2.1 HB.out.2.2.1 HB.out.2.2.2.1 (fun q hq=>HK.out.fresh q hq) hown hgrow hat) (Rr.app HB.out.2.2.2.2 hgrow (fun q hq=>(HB.out.1.belowB q hq).1) hbL 5 (.slice (some ⟨j,0,none⟩) (a1.2.len+1) cap))));(have hb7:=HB.out.1.blk.gb hgrow HB.out.1.neB);(have f7:=hb7.frozen 5);(have d7:=hb7.cell' 5 rfl);(have l7:=hb7.lt);clear hown hgrow hat hb7 HB)
     | (go_simp;go_at_call 70;refine(H.out.1 _ _ _ (hR.drewN 1) HX.out).mono ?_;rintro e w6 ⟨g6,v,rfl,hv6,h6⟩;(obtain⟨_,⟨ca6,cc6,rfl,_⟩,_⟩:=id hv6);(have k6:=HK.out.gb (Ah (An (Aj _ _)) g6));(have l6:=k6.lt);(have d6:=k6.blk.cell' 5 rfl);(have s6:=g6.size);(have k7:=k6.alloc (.cells #[.slice ca6 (c).len cc6] 43 (0,0)));(obtain⟨ds6,ho6,hr6⟩:=k7.bb);(have gA:=World.grownBy_alloc w6 (.cells #[.slice ca6 (c).len cc6] 43 (0,0)) none);(have HB:=Z (Ac k7 (Ac ho6 (Ac hr6 (Ac (RepV.gb hv6 gA Ae) (h6.alloc (.cells #[.slice ca6 (c).len cc6] 43 (0,0))))))));clear k6 k7 ho6 hr6 hv6 h6 gA g6))
    all_goals
     have LB{P}(h:P:=by go_wp2_with fail;refine(C5 hR H.out.2.2 Hw Ad).mono ?_;exact L3):=Aa h;exact Ls):=Aa h
    exact Yd):=Aa h
 exact Nu):=Aa h;exact FU
end
theorem WO(n:Int)(w:World):Calls Tryz.prog 22 #[.int .i64 n] w fun e w'=>e= .returned (.agg #[.int .i64 2,.int .i64 n,str []])∧w.grownBy w' none:=by
 go_enter func22,ntmps22;go_wp2;refine bodyPost_ret (v:= .agg #[.int .i64 2,.int .i64 n,str []]) (by simp[results,results22,go_sem]) rfl ⟨rfl,gw⟩
theorem uL(n:Int)(w:World):Calls Tryz.prog 292 #[.int .i64 n] w fun e w'=>e= .returned (.agg #[.int .i64 3,.int .i64 n,str []])∧w.grownBy w' none:=by
 go_enter func292,ntmps292;go_wp2;refine bodyPost_ret (v:= .agg #[.int .i64 3,.int .i64 n,str []]) (by simp[results,results292,go_sem]) rfl ⟨rfl,gw⟩
theorem uQ(s:Bs)(w:World):Calls Tryz.prog 291 #[str s] w fun e w'=>e= .returned (.agg #[.int .i64 4,.int .i64 0,str s])∧w.grownBy w' none:=by
 go_enter func291,ntmps291;go_wp2;refine bodyPost_ret (v:= .agg #[.int .i64 4,.int .i64 0,str s]) (by simp[results,results291,go_sem]) rfl ⟨rfl,gw⟩
theorem Vr(q:Bool)(w:World):Calls Tryz.prog 294 #[.bool q] w fun e w'=>e= .returned (.agg #[.int .i64 1,.int .i64 (if q then 1 else 0),str []])∧w.grownBy w' none:=by
 cases q with
 | true=>
   go_enter func294,ntmps294;go_wp2;refine bodyPost_ret (v:= .agg #[.int .i64 1,.int .i64 1,str []]) (by simp[results,results294,go_sem]) rfl ⟨rfl,gw⟩
 | false=>
   go_enter func294,ntmps294;go_wp2;refine bodyPost_ret (v:= .agg #[.int .i64 1,.int .i64 0,str []]) (by simp[results,results294,go_sem]) rfl ⟨rfl,gw⟩
section
variable {b:Nat}{tv:Value}{l:List Tok}
theorem OJ{E:FR Ex}(hE:CR 28 b tv l E)(n:Nat)(hok:∀i,At (Af l i)){w:World}{i:Nat}(h:Rr w b tv l (i,false)){r:Ex×RS}
 (ho:D2 l A8 E n (i,false)=some r) (hk:(Af l i).kind=1∨((Af l i).kind=2∧(Af l i).text.length≤2048)∨(Af l i).kind=3):
 Calls Tryz.prog 277 #[.pointer (some ⟨b,0,none⟩)] w (AM b tv l w (VEx w) r):=by
 have hb:=h.lt;have DA{P}(h:P:=by
 have c2:=h0.c2;have hi:i<l.length:=by rcases hk with h|h|h<;>exact ID Ab
 have HT0:=Z (ED h0);have hOk:=hok i;unfold D2 at ho;simp only[Bool.false_eq_true,if_false]at ho;have H:=Z (Ac hE (Ac hz (Ac gz h0)));simp only at HT0 c2;generalize htt:Af l i=t at*;clear hE hz gz h0 htt hok;rcases hk with hk| ⟨hk,hlen⟩|hk
 ·rw[if_pos hk]at ho;cases ho;have hn:=hOk.num hk;have HK:=Z hk;have hk1:(t.kind==1)=true:=BE;have HV:=Z (fun(W:World)=>Mw t.text hn.2.2 hn.1 hn.2.1 W);clear hn hOk hk;have Jd{P}(h:P:=by have fY{P}(h:P:=by rintro e w3 ⟨rfl,rfl⟩;generalize AS t.text=z at*;go_wp2_with fail;refine(WO _ _).mono ?_;have LG{P}(h:P:=by clear g4;have Fy{P}(h:P:=by exact bodyPost_ret (AX (hd:=(A1 2 z []:Ex).h) (pv:= .slice none 0 0) (lv:= .slice none 0 0) rfl _ (hZ.set7 _ _ _ _ _ _ _) rfl) rfl (CK (ok:=fun k=>w.heap.size<k) (x:=A1 2 z []) hb HR.out.1 ⟨none,0,none,0,rfl,Cells.nil _ _ _,RepL.nil _ _⟩ (fun k hk=>hk) HR.out.2 (AD _ _ _ _ _ _ _ _ _))):=Aa h;exact Fr):=Aa h;exact Lz):=Aa h;exact Zh):=Aa h;exact IZ
 ·have h1:¬t.kind=1:=by omega
  rw[if_neg h1,if_pos ⟨hk,hlen⟩]at ho;cases ho;have hk1:(t.kind==1)=false:=JP;have hk2:(t.kind==2)=true:=BE;have hl1:decide ((t.text.length:Int)≤2048)=true:=Ag;clear hk h1 hOk;have Jd{P}(h:P:=by have t2:=hTk.cell 2;simp only[List.getElem?_cons_zero,List.getElem?_cons_succ]at t2;go_wp2_with fail;refine(Gc hR1 (fun _=>hi)).mono ?_;rintro e w2 ⟨g2,v,rfl,rfl,h2⟩;have hZ:=hZ1.gb g2 Ag;have hT2:=hTk.gb g2 Ag;have HR:=Z (Ac (Ah G1.out g2) h2);have hlt2:=hZ.lt;have s2:=hT2.cell 2;simp only[List.getElem?_cons_zero,List.getElem?_cons_succ]at s2;clear g2 h2 hZ1 hTk t2;go_wp2_with fail;refine(uQ _ _).mono ?_;have LG{P}(h:P:=by clear g4 s2;have Fy{P}(h:P:=by exact bodyPost_ret (AX (hd:=(A1 4 0 t.text:Ex).h) (pv:= .slice none 0 0) (lv:= .slice none 0 0) rfl _ (hZ.set7 _ _ _ _ _ _ _) rfl) rfl (CK (ok:=fun k=>w.heap.size<k) (x:=A1 4 0 t.text) hb HR.out.1 ⟨none,0,none,0,rfl,Cells.nil _ _ _,RepL.nil _ _⟩ (fun k hk=>hk) HR.out.2 (AD _ _ _ _ _ _ _ _ _))):=Aa h;exact Fr):=Aa h;exact Lz):=Aa h;exact IZ
 ·have h1:¬t.kind=1:=by omega
  have h2:¬(t.kind=2∧t.text.length≤2048):=Ab;rw[if_neg h1,if_neg h2,if_pos hk]at ho;cases ho;have hk1:(t.kind==1)=false:=JP;have hk2:(t.kind==2)=false:=Ag;have hk3:(t.kind==3)=true:=BE;have HV:=Z (fun(W:World)=>U0 t.text (by have:=hOk.short;omega) W);clear hk h1 h2 hOk;have Jd{P}(h:P:=by have fY{P}(h:P:=by rintro e w3 ⟨rfl,g3⟩;replace hZ:=hZ.gb g3 Ae;replace HR:=Z (Ac (A0 HR.out.1 g3) (HR.out.2.gbN g3));have hd:(BD t.text).1=A8 t.text:=rfl;rw[hd];generalize A8 t.text=z at*;clear g3 hd;go_wp2_with fail;refine(uL _ _).mono ?_;have LG{P}(h:P:=by clear g4;have Fy{P}(h:P:=by exact bodyPost_ret (AX (hd:=(A1 3 z []:Ex).h) (pv:= .slice none 0 0) (lv:= .slice none 0 0) rfl _ (hZ.set7 _ _ _ _ _ _ _) rfl) rfl (CK (ok:=fun k=>w.heap.size<k) (x:=A1 3 z []) hb HR.out.1 ⟨none,0,none,0,rfl,Cells.nil _ _ _,RepL.nil _ _⟩ (fun k hk=>hk) HR.out.2 (AD _ _ _ _ _ _ _ _ _))):=Aa h;exact Fr):=Aa h;exact Lz):=Aa h;exact Zh):=Aa h;exact IZ):=Aa h
 exact D5
end
section
variable {b:Nat}{tv:Value}{l:List Tok}
theorem oG{E:FR Ex}(n:Nat){w:World}{i:Nat}(h:Rr w b tv l (i,true)){r:Ex×RS}(ho:D2 l A8 E n (i,true)=some r):
 Calls Tryz.prog 277 #[.pointer (some ⟨b,0,none⟩)] w (AM b tv l w (VEx w) r):=by
 have hb:=h.lt;have DA{P}(h:P:=by have c2:=h0.c2;have hq:some (Bi,((i,true):RS))=some r:=ho;cases hq;have HR:=Z (Ac gz (Ac h0 hz));simp only at c2;clear ho gz h0 hz;go_enter func277,ntmps277;go_wp2;exact bodyPost_ret (AX (hd:=hd0 0 []) (pv:= .slice none 0 0) (lv:= .slice none 0 0) rfl _ HR.out.2.2 rfl) rfl ⟨HR.out.1,_,rfl,⟨none,0,none,0,rfl,Cells.nil _ _ _,RepL.nil _ _⟩,HR.out.2.1⟩):=Aa h;exact D5
theorem rH{E:FR Ex}(n:Nat)(hN:CR 293 b tv l (IN l E n)){w:World}{i:Nat}(h:Rr w b tv l (i,false)){r:Ex×RS}
 (ho:D2 l A8 E n (i,false)=some r) (hk:(Af l i).kind=0):
 Calls Tryz.prog 277 #[.pointer (some ⟨b,0,none⟩)] w (AM b tv l w (VEx w) r):=by
 have hb:=h.lt;have DA{P}(h:P:=by have c2:=h0.c2;have HT0:=Z (ED h0);unfold D2 at ho;simp only[Bool.false_eq_true,if_false]at ho;rw[if_neg Ab,if_neg Ab,if_neg Ab,if_pos hk]at ho;have H:=Z (Ac hN (Ac hz (Ac gz h0)));have c8{P}(h:P:=by have hk0:(t.kind==0)=true:=Ag;clear hN hz gz h0 htt ho hk;have Jd{P}(h:P:=by have G0:=G1;have hZ:=hZ1;have hltZ:=hZ.lt;have HC:=Z (H.out.1 _ _ _ hR1 HO.out);clear hR1 hZ1 G1;have LF{P}(h:P:=by have d2:=hTk.cell 2;simp only[List.getElem?_cons_zero,List.getElem?_cons_succ]at d0 d2;have RJ{P}(h:P:=by exact bodyPost_ret (AX rfl _ (hZ5.set7 _ _ _ _ _ _ _) rfl) rfl (CK hb HE.out.1 ⟨_,_,_,_,rfl,HE.out.2.1,HE.out.2.2.1⟩ (by intro k hk;have:(W).heap.size≤k:=hk;omega) HE.out.2.2.2 (AD _ _ _ _ _ _ _ _ _))):=Aa h;exact QK):=Aa h;exact Lw):=Aa h;exact IZ):=Aa h;exact Tr):=Aa h;exact D5
theorem oF{E:FR Ex}(hM:CR 139 b tv l (J1 l E))(n:Nat){w:World}{i:Nat}(h:Rr w b tv l (i,false)){r:Ex×RS}
 (ho:D2 l A8 E n (i,false)=some r) (h38:Ak (Af l i) [38]=true):
 Calls Tryz.prog 277 #[.pointer (some ⟨b,0,none⟩)] w (AM b tv l w (VEx w) r):=by
 have hb:=h.lt;have DA{P}(h:P:=by
 have c2:=h0.c2;have HT0:=Z (ED h0);have hk:(Af l i).kind=4:=by simp[Ak]at h38;exact h38.1
 unfold D2 at ho;simp only[Bool.false_eq_true,if_false]at ho;rw[if_neg Ab,if_neg Ab,if_neg Ab,if_neg Ab,if_pos h38]at ho;have H:=Z (Ac hM (Ac hz (Ac gz h0)));have c8{P}(h:P:=by have hk0:(t.kind==0)=false:=Ag;clear hM hz gz h0 ho hk;have Jd{P}(h:P:=by have HI:=Z (Jj hR1 0 Ab [38]);rw[Nat.add_zero,htt,h38]at HI;clear htt;have LF{P}(h:P:=by have d2:=hTk.cell 2;simp only[List.getElem?_cons_zero,List.getElem?_cons_succ]at d0 d2;go_wp2_with fail;refine HI.out.mono ?_;rintro e w2 ⟨rfl,g2⟩;have hR2:=hR1.gbN g2;have hZ:=hZ1.gb g2 Ae;have G0:=Z (A0 G1.out g2);have hltZ:=hZ.lt;have hb2:=hR2.lt;have HC:=Z (H.out.1 _ _ _ hR2 HO.out);clear g2 hR2 hR1 hZ1 HI hTk d0 d2;have RJ{P}(h:P:=by exact bodyPost_ret (AX rfl _ (hZ5.set7 _ _ _ _ _ _ _) rfl) rfl (CK hb HE.out.1 ⟨_,_,_,_,rfl,HE.out.2.1,HE.out.2.2.1⟩ (by intro k hk;have:(w2).heap.size≤k:=hk;omega) HE.out.2.2.2 (AD _ _ _ _ _ _ _ _ _))):=Aa h;exact QK):=Aa h;exact Lw):=Aa h;exact IZ):=Aa h;exact Tr):=Aa h;exact D5
theorem rG{E:FR Ex}(hE:CR 28 b tv l E)(n:Nat)(hB:CR 295 b tv l (Jx l E n)){w:World}{i:Nat}(h:Rr w b tv l (i,false)){r:Ex×RS}
 (ho:II l E n (i,false)=some r) (h38:Ak (Af l i) [38]=false) (hk:(Af l i).kind≠1∧(Af l i).kind≠2∧(Af l i).kind≠3∧(Af l i).kind≠0):
 Calls Tryz.prog 277 #[.pointer (some ⟨b,0,none⟩)] w (AM b tv l w (VEx w) r):=by
 have hb:=h.lt;have DA{P}(h:P:=by
 have c2:=h0.c2;have HT0:=Z (ED h0);have H:=Z (Ac hE (Ac hz (Ac gz (show Rr _ b tv l (i,false)from h0))));have HB:=Z hB;have HO:=Z ho;simp only at HT0 c2;generalize htt:Af l i=t at*;have hk1:(t.kind==1)=false:=by simpa using hk.1
 have hk2:(t.kind==2)=false:=by simpa using hk.2.1
 have hk3:(t.kind==3)=false:=by simpa using hk.2.2.1
 have hk0:(t.kind==0)=false:=by simpa using hk.2.2.2
 clear hE hB hz gz h0 ho hk;have Jd{P}(h:P:=by
 have LF{P}(h:P:=by
 have d2:=hTk.cell 2;have eJ{P}(h:P:=by
 have ho:=HO.out;unfold II at ho;rw[show(AJ l primL (i,false)).1=A9 l primL (i,false)from rfl];have hin:A9 l primL (i,false)=[]∨A9 l primL (i,false)∈primL:=by
  by_cases he:A9 l primL (i,false)=[]
  ·exact .inl he
  ·exact .inr (Wd he)
 try simp only at HR
 generalize(AJ l primL (i,false)).2=st2 at*;have dC{P}(h:P:=by
 clear hin HO;rcases hS with rfl|rfl|rfl|rfl|rfl|rfl|rfl
 ·have hq:some (Bi,((st2.1,true):RS))=some r:=ho;cases hq;clear ho;exact bH
 ·have hq:some (A1 1 1 [],st2)=some r:=ho;cases hq;clear ho;go_wp2_with fail;refine(Vr true _).mono ?_;have LG{P}(h:P:=by clear g4;have Fy{P}(h:P:=by exact bodyPost_ret (AX (hd:=(A1 1 1 []:Ex).h) (pv:= .slice none 0 0) (lv:= .slice none 0 0) rfl _ (hZ.set7 _ _ _ _ _ _ _) rfl) rfl (CK (ok:=fun k=>w.heap.size<k) (x:=A1 1 1 []) hb HR.out.1 ⟨none,0,none,0,rfl,Cells.nil _ _ _,RepL.nil _ _⟩ (fun k hk=>hk) HR.out.2 (AD _ _ _ _ _ _ _ _ _))):=Aa h;exact Fr):=Aa h;exact Lz
 ·have hq:some (A1 1 0 [],st2)=some r:=ho;cases hq;clear ho;go_wp2_with fail;refine(Vr false _).mono ?_;have LG{P}(h:P:=by clear g4;have Fy{P}(h:P:=by exact bodyPost_ret (AX (hd:=(A1 1 0 []:Ex).h) (pv:= .slice none 0 0) (lv:= .slice none 0 0) rfl _ (hZ.set7 _ _ _ _ _ _ _) rfl) rfl (CK (ok:=fun k=>w.heap.size<k) (x:=A1 1 0 []) hb HR.out.1 ⟨none,0,none,0,rfl,Cells.nil _ _ _,RepL.nil _ _⟩ (fun k hk=>hk) HR.out.2 (AD _ _ _ _ _ _ _ _ _))):=Aa h;exact Fr):=Aa h;exact Lz
 ·have hq:some (Bi,st2)=some r:=ho;cases hq;clear ho;have Fy{P}(h:P:=by exact YH):=Aa h;exact Fr
 ·have hq:(E st2).bind (fun r=>some (r.1,AZ l [41] r.2))=some r:=ho;obtain⟨⟨x,st4⟩,hx,hq⟩:=Option.bind_eq_some_iff.1 hq;simp only at hq;cases hq;have HC:=Z (H.out.1 _ _ _ HR.out.2 hx);have HZ:=Z hZ;clear ho hx hZ;go_wp2_with fail;refine HC.out.mono ?_;rintro e w5 ⟨g5,v,rfl,⟨pa,pc,la,lc,rfl,rp,rl⟩,h5⟩;simp only at rp rl h5 ⊢;have HK:=Z (KpR.new hb HZ.out HR.out.1 hw3 g5 rp rl h5);have hb5:=h5.lt;clear rp rl h5 HC g5 HZ;have cW{P}(h:P:=by have hltz:=HK2.out.zero.lt;have Iw{P}(h:P:=by clear hk2;have Fv{P}(h:P:=by go_wp2;have hk:=HK2.out;have g7:=AD w6 w.heap.size (.int .i64 x.h.op) (str x.h.s) (.int .i64 x.h.vk) (.int .i64 x.h.vn) (str x.h.vs) (.slice pa x.h.p.length pc) (.slice la x.kids.len lc);exact Nk):=Aa h;exact Fm):=Aa h;exact In):=Aa h;exact Tk
 ·have hq:Jx l E n st2=some r:=ho;have HC:=Z (HB.out _ _ _ HR.out.2 hq);have G0:=Z HR.out.1;clear ho hq;have RJ{P}(h:P:=by exact bodyPost_ret (AX rfl _ (hZ5.set7 _ _ _ _ _ _ _) rfl) rfl (CK hb HE.out.1 ⟨_,_,_,_,rfl,HE.out.2.1,HE.out.2.2.1⟩ (by intro k hk;have:(w3).heap.size≤k:=hk;omega) HE.out.2.2.2 (AD _ _ _ _ _ _ _ _ _))):=Aa h;exact QK
 ·have hq:some ((⟨hd0 10 (Ax l st2).1,.nil⟩:Ex),(Ax l st2).2)=some r:=ho;cases hq;have HC:=Z (BY HR.out.2);clear ho;go_wp2_with fail;refine HC.out.mono ?_;rintro e w4 ⟨g4,v,rfl,rfl,h4⟩;replace hZ:=hZ.gb g4 Ag;replace HR:=Z (Ac (Ah HR.out.1 g4) h4);have hlt4:=hZ.lt;simp only at HR ⊢;generalize(Ax l st2).1=s at*;generalize(Ax l st2).2=st3 at*;clear g4 h4 HC;have Fy{P}(h:P:=by exact bodyPost_ret (AX (hd:=((⟨hd0 10 s,.nil⟩:Ex):Ex).h) (pv:= .slice none 0 0) (lv:= .slice none 0 0) rfl _ (hZ.set7 _ _ _ _ _ _ _) rfl) rfl (CK (ok:=fun k=>w.heap.size<k) (x:=(⟨hd0 10 s,.nil⟩:Ex)) hb HR.out.1 ⟨none,0,none,0,rfl,Cells.nil _ _ _,RepL.nil _ _⟩ (fun k hk=>hk) HR.out.2 (AD _ _ _ _ _ _ _ _ _))):=Aa h;exact Fr):=Aa h
 exact Tu):=Aa h;exact Yh):=Aa h;exact Lw):=Aa h;exact IZ):=Aa h;exact D5
theorem wZ{E:FR Ex}(n:Nat){w:World}{i:Nat}(h:Rr w b tv l (i,false)){r:Ex×RS}
 (ho:D2 l A8 E n (i,false)=some r) (hk:(Af l i).kind=2) (hlen:2048<(Af l i).text.length):
 Calls Tryz.prog 277 #[.pointer (some ⟨b,0,none⟩)] w (AM b tv l w (VEx w) r):=by
 have hb:=h.lt;have DA{P}(h:P:=by
 have c2:=h0.c2;have HT0:=Z (ED h0);have h38:∀s,Ak (Af l i) s=false:=by intro s;simp[Ak,hk]
 have hs:A9 l primL (i,false)=[]:=by
  exact Tf
 have hr:r=(Bi,((i,true):RS)):=by
  unfold D2 at ho;simp only[Bool.false_eq_true,if_false]at ho;rw[if_neg Ab,if_neg Ab,if_neg Ab,if_neg Ab,if_neg (by rw[h38];simp)]at ho;unfold II at ho;have e:(AJ l primL (i,false)).2=(i,false):=by unfold AJ;rw[hs];rfl
  rw[hs,e]at ho;have hq:some (Bi,((i,true):RS))=some r:=ho;cases hq;rfl
 subst hr;have H:=Z (Ac True.intro (Ac hz (Ac gz (show Rr _ b tv l (i,false)from h0))));have h38:=h38 [38];have e2:(AJ l primL (i,false)).2=(i,false):=by unfold AJ;rw[hs];rfl
 have HSN:=Z (Ac hs e2);simp only at HT0 c2;generalize htt:Af l i=t at*;have hk1:(t.kind==1)=false:=Ag;have hk2:(t.kind==2)=true:=BE;have hk3:(t.kind==3)=false:=Ag;have hk0:(t.kind==0)=false:=Ag;have hl1:decide ((t.text.length:Int)≤2048)=false:=Ag;clear hz gz h0 ho hk hs hlen e2;have Jd{P}(h:P:=by have LF{P}(h:P:=by have d2:=hTk.cell 2;have hlT:=hTk.lt;have eJ{P}(h:P:=by rw[show(AJ l primL (i,false)).1=[]from HSN.out.1];rw[HSN.out.2]at HR;exact bH):=Aa h;exact Yh):=Aa h;exact Lw):=Aa h;exact IZ):=Aa h;exact D5
theorem wY{E:FR Ex}(hE:CR 28 b tv l E)(hok:∀i,At (Af l i))(n:Nat)(hn:n≤100000):CR 277 b tv l (D2 l A8 E n):=by
 rintro w ⟨i,f⟩ r h ho;cases f with
 |true=>exact oG n h ho
 | false=>
   by_cases h0:(Af l i).kind=0
   ·exact rH n (rF hE n hn) h ho h0
   by_cases h1:(Af l i).kind=1
   ·exact OJ hE n hok h ho (.inl h1)
   by_cases h3:(Af l i).kind=3
   ·exact OJ hE n hok h ho (.inr (.inr h3))
   by_cases h2:(Af l i).kind=2
   ·by_cases hl:(Af l i).text.length≤2048
    ·exact OJ hE n hok h ho (.inr (.inl ⟨h2,hl⟩))
    ·exact wZ n h ho h2 Ab
   cases h38:Ak (Af l i) [38]with
   |true=>exact oF (Vu hE) n h ho h38
   | false=>
     refine rG hE n (pT hE n hn) h ?_ h38 ⟨h1,h2,h3,h0⟩;unfold D2 at ho;simp only[Bool.false_eq_true,if_false]at ho;rw[if_neg h1,if_neg Ab,if_neg h3,if_neg h0,if_neg (by rw[h38];simp)]at ho;exact ho
theorem OZ(hok:∀i,At (Af l i)):∀n,n≤100000→CR 28 b tv l (AN l A8 n):=by
 have step:∀(g:FR Ex)(n:Nat),n≤100000→CR 28 b tv l g→CR 28 b tv l (KV l A8 g n):=fun g n hn hg=>
  rB (yE (yK (yO (xA (yL (sT hg (wY hg hok n hn) n n) n) n) n) n) n) n
 intro n;induction n with
 |zero=>exact fun _=>step _ 1 Ab (fun w st r _ ho=>by cases ho)
 |succ n ih=>exact fun hn=>step _ (n+1) hn (ih Ab)
end
end Go.Proofs.YtmcajbhljbbglaaGreatDoor
