/-
  The reference's reader of statements: index. The reference's reader of statements: command, the words that read little. The reference's reader of statements: command, more words. The reference's reade
-/
import Derived.Test.YtmcajbhljbbglaaGreatDoorSpF
import Derived.Test.YtmcajbhljbbglaaGreatDoorSp36
import Derived.Deep.Cut
import Derived.Test.YtmcajbhljbbglaaGreatDoorSp35
set_option linter.all false
set_option maxRecDepth 100000
set_option maxHeartbeats 8000000
namespace Go.Proofs.YtmcajbhljbbglaaGreatDoor
open Tryz
open Go.RowKit
section
variable {w0 w:World}{b:Nat}{tv:Value}{l:List Tok}{st:RS}
theorem rD(hn:Al l){day:Bs→Int}{n L:Nat}(hE:CR 28 b tv l (AN l day n))(hok:∀i,At (Af l i)){wd:Bs}(k:KA b w0 L w 13 wd [] [] .nil .nil (.slice none 0 0) (.slice none 0 0) (.slice none 0 0))(h:Rr w b tv l st){r:Sd×RS}(ho:(FC hn wordsL day n (sd0 13 wd)).g st=some r):
 Calls Tryz.prog 231 #[.pointer (some ⟨b,0,none⟩),.pointer (some ⟨L,0,none⟩)] w (WT b tv l w0 L r):=by
 have hb:=h.lt;unfold FC at ho;rw[Rd.must_gb]at ho;obtain⟨x,st2,hx,ho⟩:=Rd.bind_g ho;rw[Rd.must_gb,Rd.name_g]at ho;obtain⟨f,st5,hf,ho⟩:=Rd.bind_g ho;rw[Rd.here_g]at ho;rw[FF]at hf;have H:=Z (Ac True.intro (Ac hE hok));have HX:=Z (Ac hx (Ac hf ho));have HK:=Z k;have HM:=Z (C5 h hok wON Ad);clear hE hok k hx hf ho;go_enter func231,ntmps231;go_wp2_with fail;refine HM.out.mono ?_;rintro e w1 ⟨g1,v,rfl,rfl,h1⟩;replace HK:=Z (HK.out.gb g1);have hkl:=HK.out.lt;have hwL:=HK.out.wL;have hbL:=HK.out.bL;clear g1 HM;go_wp2_with fail;refine(H.out.2.1 _ _ _ h1 HX.out.1).mono ?_;rintro e w2 ⟨g2,v,rfl,⟨pa,pc,la,lc,rfl,rp,rl⟩,h2⟩;simp only at rp rl h2 ⊢;have hK2:=HK.out.gb g2;have hkl2:=hK2.lt;have d2:=hK2.blk.cell' 4 rfl;have f2:=hK2.blk.frozen 4;have hR3:=(h2.gb (As (Aj w2 (some L)) 4 (.slice (some ⟨w2.heap.size,0,none⟩) 1 1)) A6).alloc (.cells (hdC x.h (.slice pa x.h.p.length pc) (.slice la x.kids.len lc)).toArray 29 (0,0));have hK3:=hK2.layX rp rl (fun q hq=>HK.out.fresh q hq);have HM:=Z (C5 hR3 H.out.2.2 wTAG Ad);replace HK:=Z hK3;clear hK3 hR3 hK2 g2 h2 rp rl;go_wp2_with fail;refine HM.out.mono ?_;rintro e w4 ⟨g4,v,rfl,rfl,h4⟩;replace HK:=Z (HK.out.gb g4);have hkl:=HK.out.lt;clear g4 HM d2 f2;go_wp2_with fail;refine(BY h4).mono ?_;rintro e w5 ⟨g5,v,rfl,rfl,h5⟩;have hK5:=HK.out.gb g5;have hkl5:=hK5.lt;have d3:=hK5.blk.cell' 3 rfl;have f3:=hK5.blk.frozen 3;generalize hnm:(Ax l (DP l wordsL wTAG st2)).1=p at*
 have hR6:=(h5.gb (As (Aj w5 (some L)) 3 (.slice (some ⟨w5.heap.size,0,none⟩) 1 1)) A6).alloc (.cells #[str p] 9 (0,0));have hK6:=hK5.layP p;have HW:=Z (Ef hR6 H.out.2.2 BH Ad);replace HK:=Z hK6;clear hK6 hR6 hK5 g5 h5;go_wp2_with fail;refine HW.out.mono ?_;rintro e w7 ⟨g7,v,rfl,rfl,h7⟩;have cD{P}(h:P:=by
 generalize hwr:B4 l wordsL BH _=pr at*;obtain⟨ok,st6⟩:=pr;have hf:=HX.out.2.1;simp only at hf h7;go_upto_if 22 with fail
 go_cut []from 5 (fun wx=>∃xv',KA b w0 L wx 13 wd [] [p] f .nil pv xv' (.slice none 0 0)∧Rr wx b tv l st5)
 case first=>
  cases ok with
  | false=>
    rw[if_neg Ae,Rd.pure_g]at hf;cases hf;go_wp2;go_meet
    case rel=>exact⟨_,HK.out,h7⟩
  | true=>
    rw[if_pos rfl]at hf;obtain⟨y,st8,hy,hf⟩:=Rd.bind_g hf;rw[Rd.pure_g]at hf;cases hf;have hR:=h7;clear h7;go_upto_region 5 with fail;have EQ{P}(h:P:=by
    have hroom:=(show(Fo.one x).len≤5 by simp[Fo.one,Ex.fo,Fo.len]);have Iu{P}(h:P:=by
    have RL{P}(h:P:=by
    have HFr:=Z (fun q hq=>HK.out.fresh q hq);have kA:=(HK.out.gbN (An (Aj w7 none))).alloc (.cells zeroE.toArray 29 (0,0));have dA{P}(h:P:=by
    go_region_law(first
     | (refine step_append_lies _ Ao _ _ 27 Ao ((w0).heap.size+1) 29 i0 _ 7 104 underlying27 HI.out.1 HI.out.2.1 HI.out.2.2.1 HI.out.2.2.2 rfl Ad _ _ csB Ao HA2.out.2.1 _ 1 1 zeroE Ao rfl HZ2.out EK Ad AI Ab Eo _ rfl ?_;intro j cap w7 hown hgrow hat hlt;(have HPF:=Z (Ac (HA2.out.1.pend rfl HA2.out.2.1 HA2.out.2.2.1 hown hgrow hat) (HA2.out.2.2.2.1.gb hgrow (fun q hq=>(HA2.out.1.belowX q hq).1))));(have HVF:=Z (Kz (f:=(Fo.one x)) (cap:=cap) HA2.out.2.2.2.2.1 HA2.out.2.2.2.2.2 (fun q hq _=>hq) HFr.out hgrow hat));(have f7:=(HA2.out.1.blk.gb hgrow HA2.out.1.neX).frozen 4);(have d7:=(HA2.out.1.blk.gb hgrow HA2.out.1.neX).cell' 4 rfl);(have l7:=HPF.out.1.lt);(have bj7:=HPF.out.1.bj);(have nj7:=HPF.out.1.neL);(have fe7:=fun i=>HPF.out.1.frozenE i);(obtain⟨u70,e70⟩:=HPF.out.1.cellE 0 Ad);(obtain⟨u71,e71⟩:=HPF.out.1.cellE 1 Ad);(obtain⟨u72,e72⟩:=HPF.out.1.cellE 2 Ad);(obtain⟨u73,e73⟩:=HPF.out.1.cellE 3 Ad);(obtain⟨u74,e74⟩:=HPF.out.1.cellE 4 Ad);(obtain⟨u75,e75⟩:=HPF.out.1.cellE 5 Ad);(obtain⟨u76,e76⟩:=HPF.out.1.cellE 6 Ad);(try simp only[Nat.add_zero]at e70);clear hown hgrow hat)
     | (refine step_append_lies _ Ao _ _ 27 Ao ((w0).heap.size+1) 29 i0 _ 7 104 underlying27 HI.out.1 HI.out.2.1 HI.out.2.2.1 HI.out.2.2.2 rfl Ad _ _ csA Ao HA1.out.2.1 ⟨(w7).heap.size,0,none⟩ 1 1 zeroE Ao rfl (Bu _ _ _) EK Ad AI Ab Eo _ rfl ?_;intro j cap w7 hown hgrow hat hlt;(have HP1:=Z (Ac (HA1.out.1.pend rfl HA1.out.2.1 HA1.out.2.2.1 hown hgrow hat) (HA1.out.2.2.2.gb hgrow (fun q hq=>(HA1.out.1.belowX q hq).1))));(have f7:=(HA1.out.1.blk.gb hgrow HA1.out.1.neX).frozen 4);(have d7:=(HA1.out.1.blk.gb hgrow HA1.out.1.neX).cell' 4 rfl);(have l7:=HP1.out.1.lt);(have s7:=hgrow.size);(have bj7:=HP1.out.1.bj);clear hown hgrow hat)
     | (go_simp;go_at_call 28;refine(H.out.2.1 _ _ _ HP1.out.2 hy).mono ?_;rintro e w8 ⟨g8,v,rfl,⟨pa6,pc6,la6,lc6,rfl,q1,q2⟩,h8⟩;(have hKP:=HP1.out.1.gb g8);(have HPF:=Z (Ac hKP h8));(have HVF:=Z (Ac (q1.mono (fun q hq _=>HP1.out.1.fresh q hq)) (q2.mono (fun q hq _=>HP1.out.1.fresh q hq))));(have f8:=hKP.blk.frozen 4);(have d8:=hKP.blk.cell' 4 rfl);(have l8:=hKP.lt);(have bj8:=hKP.bj);(have nj8:=hKP.neL);(have fe8:=fun i=>HPF.out.1.frozenE i);(obtain⟨u70,e70⟩:=HPF.out.1.cellE 0 Ad);(obtain⟨u71,e71⟩:=HPF.out.1.cellE 1 Ad);(obtain⟨u72,e72⟩:=HPF.out.1.cellE 2 Ad);(obtain⟨u73,e73⟩:=HPF.out.1.cellE 3 Ad);(obtain⟨u74,e74⟩:=HPF.out.1.cellE 4 Ad);(obtain⟨u75,e75⟩:=HPF.out.1.cellE 5 Ad);(obtain⟨u76,e76⟩:=HPF.out.1.cellE 6 Ad);(try simp only[Nat.add_zero]at e70);clear hKP q1 q2 g8 h8)
     | (go_simp;go_at_call 28;refine(H.out.2.1 _ _ _ (HP1.out.2.gb (As (Aj w7 (some L)) 4 (.slice (some ⟨j,0,none⟩) (((Fo.one x)).len+1) cap)) A6) hy).mono ?_;rintro e w8 ⟨g8,v,rfl,⟨pa6,pc6,la6,lc6,rfl,q1,q2⟩,h8⟩;(have hKP:=(HP1.out.1.put4 (.slice (some ⟨j,0,none⟩) (((Fo.one x)).len+1) cap)).gb g8);(have HPF:=Z (Ac hKP h8));(have HVF:=Z (Ac (q1.mono (fun q hq _=>(HP1.out.1.put4 (.slice (some ⟨j,0,none⟩) (((Fo.one x)).len+1) cap)).fresh q hq)) (q2.mono (fun q hq _=>(HP1.out.1.put4 (.slice (some ⟨j,0,none⟩) (((Fo.one x)).len+1) cap)).fresh q hq))));(have bj8:=hKP.bj);(have nj8:=hKP.neL);(have l8:=hKP.lt);(have fe8:=fun i=>HPF.out.1.frozenE i);(obtain⟨u70,e70⟩:=HPF.out.1.cellE 0 Ad);(obtain⟨u71,e71⟩:=HPF.out.1.cellE 1 Ad);(obtain⟨u72,e72⟩:=HPF.out.1.cellE 2 Ad);(obtain⟨u73,e73⟩:=HPF.out.1.cellE 3 Ad);(obtain⟨u74,e74⟩:=HPF.out.1.cellE 4 Ad);(obtain⟨u75,e75⟩:=HPF.out.1.cellE 5 Ad);(obtain⟨u76,e76⟩:=HPF.out.1.cellE 6 Ad);(try simp only[Nat.add_zero]at e70);clear hKP q1 q2 g8 h8)
     | (go_simp;go_at_call 28;refine(H.out.2.1 _ _ _ (hR.drewN 1) hy).mono ?_;rintro e w6 ⟨g6,v,rfl,⟨pa6,pc6,la6,lc6,rfl,q1,q2⟩,h6⟩;(have k6:=HK.out.gb (Ah (An (Aj _ _)) g6));(have l6:=k6.lt);(have s6:=g6.size);(have d6:=k6.blk.cell' 4 rfl);(have k7:=k6.alloc (.cells zeroE.toArray 29 (0,0)));(obtain⟨csB,ho6,hr6⟩:=k7.x);(have gA:=World.grownBy_alloc w6 (.cells zeroE.toArray 29 (0,0)) none);(have HA2:=Z (Ac k7 (Ac ho6 (Ac hr6 (Ac (h6.alloc (.cells zeroE.toArray 29 (0,0))) (Ac (q1.gb gA Ae) (q2.gb gA Ae)))))));(have HZ2:=Z (Bu w6 zeroE 29));clear k6 k7 ho6 hr6 gA q1 q2 h6 g6)
     | (go_simp;go_at_call 28;refine(H.out.2.1 _ _ _ HA1.out.2.2.2 hy).mono ?_;rintro e w6 ⟨g6,v,rfl,⟨pa6,pc6,la6,lc6,rfl,q1,q2⟩,h6⟩;(have k6:=HA1.out.1.gb g6);(have l6:=k6.lt);(have s6:=g6.size);(have d6:=k6.blk.cell' 4 rfl);(obtain⟨csB,ho6,hr6⟩:=k6.x);(have HA2:=Z (Ac k6 (Ac ho6 (Ac hr6 (Ac h6 (Ac (q1.mono (ok':=Ap (w7).heap.size) (fun q hq _=>Nat.le_of_succ_le D4)) (q2.mono (ok':=Ap (w7).heap.size) (fun q hq _=>Nat.le_of_succ_le D4))))))));(have HZ2:=Z (show ∀i u,zeroE[i]? =some u→w6.cell? ((⟨(w7).heap.size,0,none⟩:Addr).add i)=some u from fun i u hu=>KB (((Blk.new (World.drew w7) zeroE 29).gb g6 Ag).cell' i hu)));clear k6 ho6 hr6 q1 q2 h6 g6))
    all_goals
     go_wp2_with fail;go_meet
     case rel=>
      show ∃xv',KA b w0 L _ 13 wd [] [p] ((Fo.one x).snoc y) .nil pv xv' (.slice none 0 0)∧Rr _ b tv l st5;have dN{P}(h:P:=by
      first
      |exact⟨_,by with_reducible exact hE1⟩
      |exact⟨_,by with_reducible exact hE2⟩):=Aa h;exact TF):=Aa h
    exact Ts):=Aa h;exact QO):=Aa h;exact Il):=Aa h;exact EN
 case rest=>
  obtain⟨xv',hK,hR⟩:=hcut;have HK:=Z hK;have ho:=HX.out.2.2;have HS:=Z (Hk hR H.out.2.2 0 Ab);have HI:=Z (fun h=>Co (l:=l) (W:=wordsL) (i:=st5.1) h);rw[Nat.add_zero]at HS;clear hK h7;generalize Av l wordsL st5.1=s at*;have hus:(s=Hq∨s=I3)∨¬(s=Hq∨s=I3):=Classical.em _;rcases hus with hus|hus
  ·rw[if_pos hus]at ho;obtain⟨t,st9,ht,ho⟩:=Rd.bind_g ho;rw[Rd.skip_g,Rd.pure_g]at ht;cases ht;have hi:=HI.out (by rcases hus with rfl|rfl<;>decide);have HO:=Z ho;clear ho;rcases hus with rfl|rfl
   all_goals
    go_wp2_with fail;refine HS.out.mono ?_;rintro e w8 ⟨rfl,g8⟩;have hK8:=HK.out.gbN g8;have hR8:=hR.gbN g8;have d2:=hK8.blk.cell' 2 rfl;have f2:=hK8.blk.frozen 2;have hl8:=hK8.lt;have HK9:=Z (fun s2=>hK8.putT s2);clear hK8 g8;go_upto_region 9 with fail;have hR9:=fun(s2:Bs)=>hR8.gb (As (Aj w8 (some L)) 2 (str s2)) A6;have HN:=Z (fun s2=>Gc (hR9 s2) (fun _=>hi));clear hR8 hR9 d2 f2;go_wp2_with fail;refine(HN.out _).mono ?_;rintro e w10 ⟨g10,v,rfl,rfl,h10⟩;replace HK:=Z ((HK9.out _).gb g10);have hR:=h10;have ho:=HO.out;clear h10 HN HK9 g10 hl8;exact XN
  ·rw[if_neg hus]at ho;obtain⟨t,st9,ht,ho⟩:=Rd.bind_g ho;rw[Rd.pure_g]at ht;cases ht;have hs1:(s==[85,78,73,81,85,69])=false:=by have:s≠Hq:=fun e=>hus (.inl e);simpa using this
   have hs2:(s==[67,65,78,68,73,68,65,84,69])=false:=X3;go_wp2_with fail;refine HS.out.mono ?_;rintro e w8 ⟨rfl,g8⟩;replace HK:=Z (HK.out.gbN g8);replace hR:=hR.gbN g8;clear g8;exact XN):=Aa h
 exact SE
end
theorem CN(wd:Bs){b:Nat}{w:World}{tv:Value}{l:List Tok}{st:RS}(h:Rr w b tv l st):
 b<w.heap.size∧KA b w (w.heap.size+1) ((w.alloc (.cells (stC 0 (.slice none 0 0)).toArray 50 (0,0))).alloc (.cells #[.int .i64 13,str wd,str [],.slice none 0 0,.slice none 0 0,.slice none 0 0,.int .i64 0,.slice none 0 0,.slice none 0 0,.slice none 0 0] 50 (0,0))) 13 wd [] [] .nil .nil (.slice none 0 0) (.slice none 0 0) (.slice none 0 0)∧Rr ((w.alloc (.cells (stC 0 (.slice none 0 0)).toArray 50 (0,0))).alloc (.cells #[.int .i64 13,str wd,str [],.slice none 0 0,.slice none 0 0,.slice none 0 0,.int .i64 0,.slice none 0 0,.slice none 0 0,.slice none 0 0] 50 (0,0))) b tv l st:=by
 have hk:=KA.start (Blk.new w (stC 0 (.slice none 0 0)) 50) (Ar (Aj w (some b)) _) h.lt Ae 13 wd;rw[show(w.alloc (.cells (stC 0 (.slice none 0 0)).toArray 50 (0,0))).heap.size=w.heap.size+1 by simp]at hk;exact⟨h.lt,hk,(h.alloc _).alloc _⟩
abbrev VSd(w:World):World→Value→Sd→Prop:=fun w' v x=>StV (Ap w.heap.size) w' v (x,.nil)
theorem jO{b:Nat}{tv:Value}{l:List Tok}{w wr:World}{L:Nat}{h:Sd}{pv xv bv nv fv wv:Value}{st:RS}(k:KS b w L wr h .nil pv xv bv nv fv wv)(hR:Rr wr b tv l st):
 AM b tv l w (VSd w) (h,st) (.returned (.agg (sdC h pv xv bv nv fv wv).toArray)) (set10 wr w.heap.size (.int .i64 h.op) (str h.s) (str h.t) pv xv bv (.int .i64 h.kind) nv fv wv):=Jl k hR
abbrev cmdW(w:World)(s:Bs):World:=(w.alloc (.cells (stC 0 (.slice none 0 0)).toArray 50 (0,0))).alloc (.cells #[.int .i64 13,str s,str [],.slice none 0 0,.slice none 0 0,.slice none 0 0,.int .i64 0,.slice none 0 0,.slice none 0 0,.slice none 0 0] 50 (0,0))
def Eb(b:Nat)(tv:Value)(l:List Tok)(w:World)(s:Sd)(st:RS)(W:World):Prop:=∃pv xv nv fv wv,KS b w (w.heap.size+1) W s .nil pv xv (.slice none 0 0) nv fv wv∧Rr W b tv l st
theorem AL{P:Program}{s:Code}{Q:Exit→Act→World→Prop}{a:Act}{w:World}(F:World→Prop)(hF:F w)(h:∀w',F w'→s.wp P Q a w'):s.wp P Q a w:=h w hF
theorem UB{P:Program}{f:FuncId}{args:Array Value}{Q:Ending→World→Prop}{w:World}(F:World→Prop)(hF:F w)(h:∀w',F w'→Calls P f args w' Q):Calls P f args w Q:=h w hF
theorem Rr.putC{w:World}{b:Nat}{tv:Value}{l:List Tok}{st:RS}(h:Rr w b tv l st){L:Nat}(hL:b<L)(v0 v1 v2 v3:Value):Rr ((((w.setCell ⟨L,6,none⟩ v0).setCell ⟨L,7,none⟩ v1).setCell ⟨L,8,none⟩ v2).setCell ⟨L,9,none⟩ v3) b tv l st:=
 h.gb (As (As (As (As (Aj w (some L)) 6 v0) 7 v1) 8 v2) 9 v3) MM
def CT(b:Nat)(tv:Value)(l:List Tok)(hn:Al l)(day:Bs→Int)(n:Nat)(wd:Bs):Prop:=
 ∀(w:World)(st:RS)(r:Sd×RS),Rr w b tv l st→(BG hn wordsL day n wd).g st=some r→Calls Tryz.prog 192 #[.pointer (some ⟨b,0,none⟩),str wd] w (AM b tv l w (VSd w) r)
section
variable {b:Nat}{tv:Value}{l:List Tok}{day:Bs→Int}{n:Nat}
theorem oD(hn:Al l):CT b tv l hn day n F9:=by
 intro w st r h ho;replace ho:((Rd.name hn).bind fun p=>Rd.pure {sd0 13 F9 with p:=[p]}).g st=some r:=ho;rw[Rd.name_g,Rd.pure_g]at ho;cases ho;obtain⟨hb,hKK,hR⟩:=CN F9 h;clear h;have HK:=Z hKK.toKS;clear hKK;go_enter func192,ntmps192;have Ck{P}(h:P:=by refine(BY hR).mono ?_;have NQ{P}(h:P:=by have hbL:b<(w.heap.size+1):=Df;have hR3:=(h3.gb (As (Aj w7 (some (w.heap.size+1))) 3 (.slice (some ⟨(w7).heap.size,0,none⟩) 1 1)) A6).alloc (.cells #[str (Ax l st).1] 9 (0,0));replace HK:=Z (hK3.layP (Ax l st).1);clear hK3 g3 h3;go_upto_region 50 with fail;refine AL (Eb b tv l w _ _) ⟨_,_,_,_,_,HK.out,hR3⟩ ?_;exact DV):=Aa h;exact No):=Aa h;exact Ci
theorem yH(hn:Al l)(hok:∀i,At (Af l i)):CT b tv l hn day n Fh:=by
 intro w st r h ho;replace ho:(Rd.cond (Rd.atEnd l) (Rd.pure (sd0 13 Fh)) ((Rd.name hn).bind fun p=>(Rd.ifw wordsL Hv ((Rd.name hn).bind fun q=>Rd.pure [p,q]) (Rd.pure [p])).bind fun ps=>Rd.pure {sd0 13 Fh with p:=ps})).g st=some r:=ho;rw[Rd.cond_g]at ho;obtain⟨hb,hKK,hR⟩:=CN Fh h;clear h;have HK:=Z hKK;have HT:=Z (ED hR);clear hKK;cases hk:(Af l st.1).kind==5 with
 | true=>
   rw[show Rd.atEnd l st.1=true from hk,if_pos rfl,Rd.pure_g]at ho;cases ho;have hk5:(Af l st.1).kind=5:=BE;clear hk;go_enter func192,ntmps192;go_wp2_with fail;refine HT.out.mono ?_;rintro e w6 ⟨rfl,g6⟩;rw[AG,hk5];replace HK:=Z (HK.out.gbN g6).toKS;have hR6:=hR.gbN g6;clear g6 HT;go_upto_region 50 with fail;refine AL (Eb b tv l w _ _) ⟨_,_,_,_,_,HK.out,hR6⟩ ?_;exact DV
 | false=>
   rw[show Rd.atEnd l st.1=false from hk,if_neg Ae,Rd.name_g]at ho;obtain⟨ps,st3,hps,ho⟩:=Rd.bind_g ho;rw[Rd.pure_g]at ho;cases ho;rw[FF]at hps;have hk5:((Af l st.1).kind !=5)=true:=by simp only[bne,hk];rfl
   have H:=Z (Ac True.intro (Ac True.intro hok));clear hok;go_enter func192,ntmps192;go_wp2_with fail;refine HT.out.mono ?_;rintro e w6 ⟨rfl,g6⟩;rw[AG];replace HK:=Z (HK.out.gbN g6);have hR6:=hR.gbN g6;have hkl:=HK.out.lt;clear g6 HT hR;go_wp2_with fail;refine(BY hR6).mono ?_;rintro e w7 ⟨g7,v,rfl,rfl,h7⟩;have hK7:=HK.out.gb g7;have hkl7:=hK7.lt;have d3:=hK7.blk.cell' 3 rfl;have f3:=hK7.blk.frozen 3;have hbL:=hK7.bL;generalize hnm:(Ax l st).1=p at*;have hR8:=(h7.gb (As (Aj w7 (some (w.heap.size+1))) 3 (.slice (some ⟨w7.heap.size,0,none⟩) 1 1)) A6).alloc (.cells #[str p] 9 (0,0));have hK8:=hK7.layP p;have HW:=Z (Ef hR8 H.out.2.2 Hv Ad);replace HK:=Z hK8;clear hK8 hR8 hK7 g7 h7 hR6;go_wp2_with fail;refine HW.out.mono ?_;rintro e w9 ⟨g9,v,rfl,rfl,h9⟩;replace HK:=Z (HK.out.gb g9);clear g9 HW d3 f3;generalize hwr:B4 l wordsL Hv _=pr at*;obtain⟨ok,st9⟩:=pr;simp only at hps h9;cases ok with
   | false=>
     rw[if_neg Ae,Rd.pure_g]at hps;cases hps;replace HK:=Z HK.out.toKS;go_upto_region 50 with fail;refine AL (Eb b tv l w _ _) ⟨_,_,_,_,_,HK.out,h9⟩ ?_;exact DV
   | true=>
     rw[if_pos rfl,Rd.name_g,Rd.pure_g]at hps;cases hps;have hR:=h9;have hkl:=HK.out.lt;have hx3:=HK.out.blk.cell' 3 rfl;clear h9;go_wp2_with fail;have Ko{P}(h:P:=by
     have hroom:=(show([p]:List Bs).length≤5 by simp);have DD{P}(h:P:=by
     go_region_law(first
      | (refine step_append_lies _ Ao _ _ 26 Ao (w.heap.size+1) 9 i0 _ 1 16 underlying26 HI.out.1 HI.out.2.1 HI.out.2.2.1 HI.out.2.2.2 rfl Ad _ _ _ Ao HB.out.1.p ⟨w6.heap.size,0,none⟩ 1 1 [str (Ax l st9).1] Ao rfl (D0 _ _ _) Dg Ad AI Ab Ag _ rfl ?_;intro j cap w7 hown hgrow hat hlt;(have HK8:=Z (Ac (HB.out.1.addP' hown hgrow hat) (Rr.app HB.out.2 hgrow (fun q hq=>(HB.out.1.belowP q hq).1) hbL 3 (.slice (some ⟨j,0,none⟩) (([p]:List Bs).length+1) cap))));(have hb7:=HB.out.1.blk.gb hgrow HB.out.1.neP);(have f7:=hb7.frozen 3);(have d7:=hb7.cell' 3 rfl);(have l7:=hb7.lt);clear hown hgrow hat hb7 HB)
      | (go_simp;go_at_call 73;refine(BY (hR.drewN 1)).mono ?_;rintro e w6 ⟨g6,v,rfl,rfl,h6⟩;(have k6:=HK.out.gb (Ah (An (Aj _ _)) g6));(have l6:=k6.lt);(have d6:=k6.blk.cell' 3 rfl);(have s6:=g6.size);(have HB:=Z (Ac (k6.alloc (.cells #[str (Ax l st9).1] 9 (0,0))) (h6.alloc (.cells #[str (Ax l st9).1] 9 (0,0)))));clear k6 h6 g6))
     all_goals
      generalize hWW:World.setCell _ _ _=W10 at*;have HK:=Z HK8.out.1;have hR:=HK8.out.2;clear HK8 hx3 d6 d7 f7 l6 l7 s6;replace HK:=Z HK.out.toKS;go_upto_region 50 with fail;refine AL (Eb b tv l w _ _) ⟨_,_,_,_,_,HK.out,hR⟩ ?_;exact DV):=Aa h
     exact D9):=Aa h;exact Kf
end
section
variable {b:Nat}{tv:Value}{l:List Tok}{day:Bs→Int}{n:Nat}
theorem uS(hn:Al l)(hE:CR 28 b tv l (AN l day n)):CT b tv l hn day n EG:=by
 intro w st r h ho;replace ho:((B2 hn day n).bind fun x=>Rd.pure {sd0 13 EG with x:= .one x}).g st=some r:=ho;obtain⟨x,st2,hx,ho⟩:=Rd.bind_g ho;rw[Rd.pure_g]at ho;cases ho;obtain⟨hb,hKK,hR⟩:=CN EG h;clear h;have HK:=Z hKK.toKS;have H:=Z (Ac True.intro (Ac hE True.intro));clear hKK hE;go_enter func192,ntmps192;have Ck{P}(h:P:=by
 refine(H.out.2.1 _ _ _ hR hx).mono ?_;have R9{P}(h:P:=by
 have hbL:b<(w.heap.size+1):=Df;have hfr:∀q,Ap (((w.alloc (.cells (stC 0 (.slice none 0 0)).toArray 50 (0,0))).alloc (.cells #[.int .i64 13,str EG,str [],.slice none 0 0,.slice none 0 0,.slice none 0 0,.int .i64 0,.slice none 0 0,.slice none 0 0,.slice none 0 0] 50 (0,0)))).heap.size q→q<(w7).heap.size→but w (w.heap.size+1) q:=fun q hq _=>by have h1:(((w.alloc (.cells (stC 0 (.slice none 0 0)).toArray 50 (0,0))).alloc (.cells #[.int .i64 13,str EG,str [],.slice none 0 0,.slice none 0 0,.slice none 0 0,.int .i64 0,.slice none 0 0,.slice none 0 0,.slice none 0 0] 50 (0,0)))).heap.size≤q:=hq;(try simp at h1);exact⟨by omega,by omega⟩
 exact O9):=Aa h;exact Q5):=Aa h;exact Ci
theorem wV(hn:Al l)(hE:CR 28 b tv l (AN l day n)):CT b tv l hn day n Fa:=by
 intro w st r h ho;replace ho:((GO hn day n).bind fun x=>Rd.pure {sd0 13 Fa with x:=x}).g st=some r:=ho;obtain⟨f,st2,hx,ho⟩:=Rd.bind_g ho;rw[Rd.pure_g]at ho;cases ho;rw[PW]at hx;obtain⟨hb,hKK,hR⟩:=CN Fa h;clear h;have HK:=Z hKK.toKS;have HC:=Z (Vy hE hR hx);clear hKK hE hx;go_enter func192,ntmps192;go_wp2_with fail;refine HC.out.mono ?_;rintro e w5 ⟨g5,v,rfl,hv,h5⟩;obtain⟨fa,fc,rfl,hF⟩:=hv;simp only at hF h5;have hkl5:=(HK.out.gb g5).lt;have hwL5:=HK.out.wL;have hlB:=HK.out.lt;have hbw5:=HK.out.bw;have hx4:=(HK.out.gb g5).blk.cell' 4 rfl;have hf4:=(HK.out.gb g5).blk.frozen 4;have hK6:=(HK.out.gb g5).putX (hF.mono (fun q hq _=>by have h1:((cmdW w Fa)).heap.size≤q:=hq;(try simp[cmdW]at h1);exact⟨by omega,by omega⟩));have hR6:=h5.gb (As (Aj w5 (some (w.heap.size+1))) 4 (.slice fa (f).len fc)) A6;replace HK:=Z hK6;clear hK6 hF g5 h5;go_upto_region 50 with fail;refine AL (Eb b tv l w _ _) ⟨_,_,_,_,_,HK.out,hR6⟩ ?_;exact DV
theorem n8(hn:Al l)(hok:∀i,At (Af l i)):CT b tv l hn day n F8:=by
 intro w st r h ho;replace ho:((Rd.must wordsL KR).bind fun _=>Rd.pure (sd0 13 F8)).g st=some r:=ho;rw[Rd.must_gb,Rd.pure_g]at ho;cases ho;obtain⟨hb,hKK,hR⟩:=CN F8 h;clear h;have HK:=Z hKK.toKS;clear hKK;go_enter func192,ntmps192;go_wp2_with fail;refine(C5 hR hok KR Ad).mono ?_;have NI{P}(h:P:=by go_upto_region 50 with fail;refine AL (Eb b tv l w _ _) ⟨_,_,_,_,_,HK.out,h5⟩ ?_;exact DV):=Aa h;exact Nf
theorem k5(hn:Al l):CT b tv l hn day n F3:=by
 intro w st r h ho;replace ho:(Rd.pure (sd0 13 F3):Rd l Sd).g st=some r:=ho;rw[Rd.pure_g]at ho;cases ho;obtain⟨hb,hKK,hR⟩:=CN F3 h;have RQ{P}(h:P:=by exact DV):=Aa h;exact QV
theorem uR(hn:Al l):CT b tv l hn day n FJ:=by
 intro w st r h ho;replace ho:(Rd.pure (sd0 13 FJ):Rd l Sd).g st=some r:=ho;rw[Rd.pure_g]at ho;cases ho;obtain⟨hb,hKK,hR⟩:=CN FJ h;have RQ{P}(h:P:=by exact DV):=Aa h;exact QV
theorem yI(hn:Al l):CT b tv l hn day n FN:=by
 intro w st r h ho;replace ho:(Rd.pure (sd0 13 FN):Rd l Sd).g st=some r:=ho;rw[Rd.pure_g]at ho;cases ho;obtain⟨hb,hKK,hR⟩:=CN FN h;have RQ{P}(h:P:=by exact DV):=Aa h;exact QV
theorem rA(hn:Al l)(hE:CR 28 b tv l (AN l day n))(hok:∀i,At (Af l i)):CT b tv l hn day n FB:=by
 intro w st r h ho;replace ho:(FC hn wordsL day n (sd0 13 FB)).g st=some r:=ho;obtain⟨hb,hKK,hR⟩:=CN FB h;clear h;have HC:=Z (rD hn hE hok hKK hR ho);have iI{P}(h:P:=by exact DV):=Aa h;exact ZO
theorem yF(hn:Al l)(hE:CR 28 b tv l (AN l day n))(hok:∀i,At (Af l i)):CT b tv l hn day n Gp:=by
 intro w st r h ho;replace ho:(F2 hn wordsL day n (sd0 13 Gp)).g st=some r:=ho;obtain⟨hb,hKK,hR⟩:=CN Gp h;clear h;have HC:=Z (mG hn hE hok hKK.toKS hR ho);have iI{P}(h:P:=by exact DV):=Aa h;exact ZO
end
section
variable {b:Nat}{tv:Value}{l:List Tok}{day:Bs→Int}{n:Nat}
theorem oA(hn:Al l)(hE:CR 28 b tv l (AN l day n))(hok:∀i,At (Af l i)):CT b tv l hn day n Et:=by
 intro w st r h ho;replace ho:((Ba hn wordsL day n n B7).bind fun c=>Rd.pure (Cb (sd0 13 Et) c)).g st=some r:=ho;have Kg{P}(h:P:=by
 obtain⟨hb,hKK,hR⟩:=CN Et h;have LH{P}(h:P:=by
 go_wp2_with fail;have NM{P}(h:P:=by
 have L8{P}(h:P:=by
 have hfr:∀q,Ap (((w.alloc (.cells (stC 0 (.slice none 0 0)).toArray 50 (0,0))).alloc (.cells #[.int .i64 13,str Et,str [],.slice none 0 0,.slice none 0 0,.slice none 0 0,.int .i64 0,.slice none 0 0,.slice none 0 0,.slice none 0 0] 50 (0,0)))).heap.size q→q<w20.heap.size→but w (w.heap.size+1) q:=fun q hq _=>by have h1:(((w.alloc (.cells (stC 0 (.slice none 0 0)).toArray 50 (0,0))).alloc (.cells #[.int .i64 13,str Et,str [],.slice none 0 0,.slice none 0 0,.slice none 0 0,.int .i64 0,.slice none 0 0,.slice none 0 0,.slice none 0 0] 50 (0,0)))).heap.size≤q:=hq;(try simp at h1);exact⟨by omega,by omega⟩
 exact L5):=Aa h;exact Lk):=Aa h;exact Nj):=Aa h;exact L1):=Aa h;exact Jq
theorem n9(hn:Al l)(hE:CR 28 b tv l (AN l day n))(hok:∀i,At (Af l i)):CT b tv l hn day n Es:=by
 intro w st r h ho;replace ho:((Ba hn wordsL day n n B7).bind fun c=>Rd.pure (Cb (sd0 13 Es) c)).g st=some r:=ho;have Kg{P}(h:P:=by
 obtain⟨hb,hKK,hR⟩:=CN Es h;have LH{P}(h:P:=by
 go_wp2_with fail;have NM{P}(h:P:=by
 have L8{P}(h:P:=by
 have hfr:∀q,Ap (((w.alloc (.cells (stC 0 (.slice none 0 0)).toArray 50 (0,0))).alloc (.cells #[.int .i64 13,str Es,str [],.slice none 0 0,.slice none 0 0,.slice none 0 0,.int .i64 0,.slice none 0 0,.slice none 0 0,.slice none 0 0] 50 (0,0)))).heap.size q→q<w20.heap.size→but w (w.heap.size+1) q:=fun q hq _=>by have h1:(((w.alloc (.cells (stC 0 (.slice none 0 0)).toArray 50 (0,0))).alloc (.cells #[.int .i64 13,str Es,str [],.slice none 0 0,.slice none 0 0,.slice none 0 0,.int .i64 0,.slice none 0 0,.slice none 0 0,.slice none 0 0] 50 (0,0)))).heap.size≤q:=hq;(try simp at h1);exact⟨by omega,by omega⟩
 exact L5):=Aa h;exact Lk):=Aa h;exact Nj):=Aa h;exact L1):=Aa h;exact Jq
theorem oC(hn:Al l)(hE:CR 28 b tv l (AN l day n))(hok:∀i,At (Af l i)):CT b tv l hn day n Eu:=by
 intro w st r h ho;replace ho:((Ba hn wordsL day n n B7).bind fun c=>Rd.pure (Cb (sd0 13 Eu) c)).g st=some r:=ho;have Kg{P}(h:P:=by
 obtain⟨hb,hKK,hR⟩:=CN Eu h;have LH{P}(h:P:=by
 go_wp2_with fail;have NM{P}(h:P:=by
 have L8{P}(h:P:=by
 have hfr:∀q,Ap (((w.alloc (.cells (stC 0 (.slice none 0 0)).toArray 50 (0,0))).alloc (.cells #[.int .i64 13,str Eu,str [],.slice none 0 0,.slice none 0 0,.slice none 0 0,.int .i64 0,.slice none 0 0,.slice none 0 0,.slice none 0 0] 50 (0,0)))).heap.size q→q<w20.heap.size→but w (w.heap.size+1) q:=fun q hq _=>by have h1:(((w.alloc (.cells (stC 0 (.slice none 0 0)).toArray 50 (0,0))).alloc (.cells #[.int .i64 13,str Eu,str [],.slice none 0 0,.slice none 0 0,.slice none 0 0,.int .i64 0,.slice none 0 0,.slice none 0 0,.slice none 0 0] 50 (0,0)))).heap.size≤q:=hq;(try simp at h1);exact⟨by omega,by omega⟩
 exact L5):=Aa h;exact Lk):=Aa h;exact Nj):=Aa h;exact L1):=Aa h;exact Jq
theorem q8(hn:Al l)(hE:CR 28 b tv l (AN l day n))(hok:∀i,At (Af l i)):CT b tv l hn day n FA:=by
 intro w st r h ho;replace ho:((Rd.must wordsL wTO).bind fun _=>(Rd.name hn).bind fun p=>(Ba hn wordsL day n n B7).bind fun c=>Rd.pure (Cb {sd0 13 FA with p:=[p]} c)).g st=some r:=ho;rw[Rd.must_gb,Rd.name_g]at ho;have Kg{P}(h:P:=by obtain⟨hb,hKK,hR⟩:=CN FA h;have LH{P}(h:P:=by go_wp2_with fail;refine(C5 hR H.out.2.2 wTO Ad).mono ?_;have NI{P}(h:P:=by clear hR;have Ck{P}(h:P:=by refine(BY h5).mono ?_;have NQ{P}(h:P:=by have hbL:b<(w.heap.size+1):=Df;have hR3:=(h3.gb (As (Aj w7 (some (w.heap.size+1))) 3 (.slice (some ⟨(w7).heap.size,0,none⟩) 1 1)) A6).alloc (.cells #[str (Ax l (DP l wordsL wTO st)).1] 9 (0,0));replace HK:=Z (hK3.layP (Ax l (DP l wordsL wTO st)).1);exact ZI):=Aa h;exact No):=Aa h;exact Ci):=Aa h;exact Nf):=Aa h;exact L1):=Aa h;exact Jq
theorem yG(hn:Al l)(hE:CR 28 b tv l (AN l day n))(hok:∀i,At (Af l i)):CT b tv l hn day n EH:=by
 intro w st r h ho;replace ho:((B2 hn day n).bind fun x=>(Rd.must wordsL wTO).bind fun _=>(Rd.name hn).bind fun p=>(Ba hn wordsL day n n B7).bind fun c=>Rd.pure (Cb {sd0 13 EH with p:=[p],x:= .one x} c)).g st=some r:=ho;obtain⟨x,st1,hx,ho⟩:=Rd.bind_g ho;rw[Rd.must_gb,Rd.name_g]at ho;have Kg{P}(h:P:=by
 obtain⟨hb,hKK,hR⟩:=CN EH h;have LH{P}(h:P:=by
 have Ck{P}(h:P:=by
 refine(H.out.2.1 _ _ _ hR hx).mono ?_;rintro e w6 ⟨g3,v,rfl,⟨pa,pc,la,lc,rfl,rp,rl⟩,h3⟩;have RX{P}(h:P:=by
 have hbL:b<(w.heap.size+1):=Df;have hfr:∀q,Ap (((w.alloc (.cells (stC 0 (.slice none 0 0)).toArray 50 (0,0))).alloc (.cells #[.int .i64 13,str EH,str [],.slice none 0 0,.slice none 0 0,.slice none 0 0,.int .i64 0,.slice none 0 0,.slice none 0 0,.slice none 0 0] 50 (0,0)))).heap.size q→q<(w6).heap.size→but w (w.heap.size+1) q:=fun q hq _=>by have h1:(((w.alloc (.cells (stC 0 (.slice none 0 0)).toArray 50 (0,0))).alloc (.cells #[.int .i64 13,str EH,str [],.slice none 0 0,.slice none 0 0,.slice none 0 0,.int .i64 0,.slice none 0 0,.slice none 0 0,.slice none 0 0] 50 (0,0)))).heap.size≤q:=hq;(try simp at h1);exact⟨by omega,by omega⟩
 have hK4:=hK3.layX (f:= .one x) (m:=1) JH Ad (VE.rep (rp.mono hfr) (rl.mono hfr));have hR3:=(h3.gb (As (Aj w6 (some (w.heap.size+1))) 4 (.slice (some ⟨(w6).heap.size,0,none⟩) 1 1)) A6).alloc (.cells (hdC (x).h (.slice pa (x).h.p.length pc) (.slice la (x).kids.len lc)).toArray 29 (0,0));replace HK:=Z hK4;clear hK3 g3 h3 rp rl hK4 hfr;have hR4:=hR3;clear hR3 hR;go_wp2_with fail;refine(C5 hR4 H.out.2.2 wTO Ad).mono ?_;have NI{P}(h:P:=by clear hR4 d3 f3;have Ck{P}(h:P:=by refine(BY h5).mono ?_;have NQ{P}(h:P:=by have hbL:b<(w.heap.size+1):=Df;have hR3:=(h3.gb (As (Aj w7 (some (w.heap.size+1))) 3 (.slice (some ⟨(w7).heap.size,0,none⟩) 1 1)) A6).alloc (.cells #[str (Ax l (DP l wordsL wTO st1)).1] 9 (0,0));replace HK:=Z (hK3.layP (Ax l (DP l wordsL wTO st1)).1);exact ZI):=Aa h;exact No):=Aa h;exact Ci):=Aa h;exact Nf):=Aa h;exact Rc):=Aa h;exact Ci):=Aa h;exact L1):=Aa h;exact Jq
theorem AbD(hn:Al l)(hE:CR 28 b tv l (AN l day n))(hok:∀i,At (Af l i)):CT b tv l hn day n wGO:=by
 intro w st r h ho;replace ho:(goP hn wordsL day n (sd0 13 wGO)).g st=some r:=ho;unfold goP at ho;rw[Rd.here_g,Rd.cond_g]at ho;obtain⟨hb,hKK,hR⟩:=CN wGO h;clear h;have HK:=Z hKK.toKS;have HS:=Z (Hk hR hok 0 Ab);have HI:=Z (fun h=>Co (l:=l) (W:=wordsL) (i:=st.1) h);have HO:=Z ho;rw[Nat.add_zero]at HS;have H:=Z (Ac True.intro (Ac hE hok));clear hKK ho hE hok;generalize Av l wordsL st.1=s at*;by_cases hs:s=El∨s=Er
 ·have hi:=HI.out (by rcases hs with rfl|rfl<;>decide);cases hk:(Af l (st.1+1)).kind==5 with
  | true=>
    have ho:=HO.out;have hc:((s==El||s==Er)&&Rd.atEnd l (st.1+1))=true:=by
     rw[show Rd.atEnd l (st.1+1)=true from hk];rcases hs with rfl|rfl<;>decide
    rw[if_pos hc,Rd.skip_g,Rd.pure_g]at ho;cases ho;have hk5:(Af l (st.1+1)).kind=5:=BE;clear hk hc;rcases hs with rfl|rfl
    all_goals
     have fP{P}(h:P:=by rw[AG,hk5];have hK6:=HK.out.gbN g6;have hR6:=hR5.gbN g6;have d2:=hK6.blk.cell' 2 rfl;have f2:=hK6.blk.frozen 2;have hl6:=hK6.lt;have HK9:=Z (fun s2=>hK6.putT s2);clear hK6 g6 hR5 HT;go_upto_region 16 with fail;have hR9:=fun(s2:Bs)=>hR6.gb (As (Aj w6 (some (w.heap.size+1))) 2 (str s2)) A6;have HN:=Z (fun s2=>Gc (hR9 s2) (fun _=>hi));clear hR6 hR9 d2 f2;go_wp2_with fail;refine(HN.out _).mono ?_;rintro e w10 ⟨g10,v,rfl,rfl,h10⟩;replace HK:=Z ((HK9.out _).gb g10);clear HN HK9 g10 hl6;go_upto_region 50 with fail;refine AL (Eb b tv l w _ _) ⟨_,_,_,_,_,HK.out,h10⟩ ?_;exact DV):=Aa h;exact YX
  | false=>
    have ho:=HO.out;have hc:((s==El||s==Er)&&Rd.atEnd l (st.1+1))=false:=by
     rw[show Rd.atEnd l (st.1+1)=false from hk,Bool.and_false]
    rw[hc,if_neg Ae]at ho;obtain⟨x,st2,hx,ho⟩:=Rd.bind_g ho;rw[Rd.pure_g]at ho;cases ho;clear hc;rcases hs with rfl|rfl
    all_goals
     have fP{P}(h:P:=by
     rw[AG];replace HK:=Z (HK.out.gbN g6);have hR6:=hR5.gbN g6;clear g6 hR5 HT;have Ck{P}(h:P:=by
     refine(H.out.2.1 _ _ _ hR6 hx).mono ?_;have R9{P}(h:P:=by
     have hbL:b<(w.heap.size+1):=Df;have hfr:∀q,Ap (w6).heap.size q→q<(w7).heap.size→but w (w.heap.size+1) q:=fun q hq _=>by have h1:(w6).heap.size≤q:=hq;(try simp at h1);exact⟨by omega,by omega⟩
     exact O9):=Aa h;exact Q5):=Aa h;exact Ci):=Aa h;exact YX
 ·have ho:=HO.out;have hs1:(s==[84,79,80])=false:=by have:s≠El:=fun e=>hs (.inl e);simpa using this
  have hs2:(s==[66,79,84,84,79,77])=false:=X6;have hc:((s==El||s==Er)&&Rd.atEnd l (st.1+1))=false:=by
   rw[show(s==El)=false from hs1,show(s==Er)=false from hs2];rfl
  rw[hc,if_neg Ae]at ho;obtain⟨x,st2,hx,ho⟩:=Rd.bind_g ho;rw[Rd.pure_g]at ho;cases ho;clear hc;go_enter func192,ntmps192;go_wp2_with fail;refine HS.out.mono ?_;rintro e w5 ⟨rfl,g5⟩;replace HK:=Z (HK.out.gbN g5);have hR5:=hR.gbN g5;clear g5;have Ck{P}(h:P:=by
  refine(H.out.2.1 _ _ _ hR5 hx).mono ?_;have R9{P}(h:P:=by
  have hbL:b<(w.heap.size+1):=Df;have hfr:∀q,Ap (w5).heap.size q→q<(w7).heap.size→but w (w.heap.size+1) q:=fun q hq _=>by have h1:(w5).heap.size≤q:=hq;(try simp at h1);exact⟨by omega,by omega⟩
  exact O9):=Aa h;exact Q5):=Aa h;exact Ci
theorem yJ(wd:Bs)(hw:cmdWords.contains wd=false){w:World}{st:RS}(h:Rr w b tv l st)(h1:1≤st.1):
 Calls Tryz.prog 192 #[.pointer (some ⟨b,0,none⟩),str wd] w (AM b tv l w (VSd w) (sd0 13 wd,(st.1-1,true))):=by
 have eT{P}(h:P:=by obtain⟨hb,hKK,hR⟩:=CN wd h;clear h;have HK:=Z hKK.toKS;have HR:=Z hR;have hle:=hR.le;have hfew:=hR.few;have hw20:IntKind.i64.wrap ((st.1:Int)-1)=(st.1:Int)-1:=IntWalk.i64_in _ Ab;clear hKK hR;go_enter func192,ntmps192;go_upto_region 3 with fail;refine AL (Eb b tv l w _ _) ⟨_,_,_,_,_,HK.out,HR.out⟩ ?_;clear HK HR;intro W hW;obtain⟨pv0,xv0,nv0,fv0,wv0,hK0,hR0⟩:=hW;have HK:=Z hK0;have c1:=hR0.c1;have f1:=hR0.fr 1;have hbl:=hR0.lt;have hR1:=hR0.go ((st.1:Int)-1) (st.1-1) Ab Ab;have g1:=As (Aj W (some b)) 1 (.int .i64 ((st.1:Int)-1));replace HK:=Z (HK.out.gb g1);have HW:=Z (Ga hR1);clear hK0 hR0 g1 hR1;go_wp2_with fail;refine HW.out.mono ?_;rintro e w5 ⟨g5,v,rfl,rfl,h5⟩;replace HK:=Z (HK.out.gb g5);clear g5 HW;go_upto_region 50 with fail;refine AL (Eb b tv l w _ _) ⟨_,_,_,_,_,HK.out,h5⟩ ?_;exact DV):=Aa h;exact Yw
end
end Go.Proofs.YtmcajbhljbbglaaGreatDoor
