/-
  The program's reader of statements: what its functions give, and how a kept statement is handed on. The program's reader of statements: guard. The program's reader of statements: part. The program's r
-/
import Derived.Test.YtmcajbhljbbglaaGreatDoorSpF
import Derived.Test.YtmcajbhljbbglaaGreatDoorSp33
import Derived.Test.YtmcajbhljbbglaaGreatDoorSp36
import Derived.Test.YtmcajbhljbbglaaGreatDoorSp09
import Derived.Test.YtmcajbhljbbglaaGreatDoorSp35
import Derived.Test.YtmcajbhljbbglaaGreatDoorSp25
import Derived.Test.YtmcajbhljbbglaaGreatDoorSp14
set_option linter.all false
set_option maxRecDepth 100000
set_option maxHeartbeats 8000000
namespace Go.Proofs.YtmcajbhljbbglaaGreatDoor
open Tryz
open Go.RowKit
theorem DO{w W:World}{b:Nat}(h:Glob w)(hb:0<b)(g:w.grownBy W (some b)):Glob W:=h.gb g Ag
def CQB(b:Nat)(tv wo:Value)(l:List Tok)(g:Nat→Res Bl):Prop:=
 ∀w i,Glob w→Par w b tv wo l wordsL i→g i ≠ .out→Calls Tryz.prog 95 #[.pointer (some ⟨b,0,none⟩)] w (Post b tv wo l wordsL w (VBl w) (g i))
section
variable {b:Nat}{tv wo:Value}{l:List Tok}{w wr w1 w2:World}{L i:Nat}{h:Sd}{g:Bl}{pv xv bv nv fv wv:Value}{r:Res StB}
theorem Sj(k:KS b w L wr h g pv xv bv nv fv wv)(hp:Par wr b tv wo l wordsL i)(hr:r= .ok (h,g) i):
 Post b tv wo l wordsL w (VSt w) r (.returned (.agg (sdC h pv xv bv nv fv wv).toArray)) (set10 wr w.heap.size (.int .i64 h.op) (str h.s) (str h.t) pv xv bv (.int .i64 h.kind) nv fv wv):=by
 obtain⟨g1,g2,_,h4⟩:=k.out;have:=k.bw;exact Post.ok g1 hr h4 (hp.gb g2 A6)
theorem Par.app(hp:Par wr b tv wo l wordsL i){o:Option Nat}(hg:wr.grownBy w1 o)(ho:∀q,o=some q→b<q)(hL:b<L)(j:Nat)(v:Value):Par (w1.setCell ⟨L,j,none⟩ v) b tv wo l wordsL i:=
 (hp.gb hg ho).gb (As (Aj w1 (some L)) j v) (fun q e=>by cases e;exact hL)
theorem Par.two{j:Nat}(h:Par w b tv wo l wordsL i)(g1:w.grownBy w1 (some j))(g2:w1.grownBy w2 (some L))(hj:b<j)(hL:b<L):Par w2 b tv wo l wordsL i:=
 (h.gb g1 (by intro q e;cases e;exact hj)).gb g2 MM
theorem Par.set(hp:Par wr b tv wo l wordsL i)(hL:b<L)(j:Nat)(v:Value):Par (wr.setCell ⟨L,j,none⟩ v) b tv wo l wordsL i:=
 hp.gb (As (Aj wr (some L)) j v) (fun q e=>by cases e;exact hL)
end
section
variable {b:Nat}{w wr w1:World}{L:Nat}{o:Int}{s t:Bs}{p:List Bs}{f:Fo}{g:Bl}{c4 pv xv bv:Value}{j cap:Nat}{tv wo:Value}{l:List Tok}{i:Nat}
theorem KP.endQ1(k:KP b w L wr o s t p f g c4 pv j cap bv)(hR:Par wr b tv wo l wordsL i){x:Ex}{pa la:Option Addr}{pc lc:Nat}
 (rp:Cells wr (.slice pa x.h.p.length pc) 1 x.h.p.length (x.h.p.map str) (fre w L pv (.slice (some ⟨j,0,none⟩) (f.len+1) cap) bv)) (rl:RepL (fre w L pv (.slice (some ⟨j,0,none⟩) (f.len+1) cap) bv) wr (.slice la x.kids.len lc) x.kids):
 KA b w L ((Dd wr j (f.len*7) (.int .i64 x.h.op) (str x.h.s) (.int .i64 x.h.vk) (.int .i64 x.h.vn) (str x.h.vs) (.slice pa x.h.p.length pc) (.slice la x.kids.len lc)).setCell ⟨L,4,none⟩ (.slice (some ⟨j,0,none⟩) (f.len+1) cap)) o s t p (f.snoc x) g pv (.slice (some ⟨j,0,none⟩) (f.len+1) cap) bv∧
 Par ((Dd wr j (f.len*7) (.int .i64 x.h.op) (str x.h.s) (.int .i64 x.h.vk) (.int .i64 x.h.vn) (str x.h.vs) (.slice pa x.h.p.length pc) (.slice la x.kids.len lc)).setCell ⟨L,4,none⟩ (.slice (some ⟨j,0,none⟩) (f.len+1) cap)) b tv wo l wordsL i:=
 ⟨k.end1 rp rl,hR.two (KJ _ _ _ _ _ _ _ _ _ _) (As (Aj _ _) 4 _) k.bj.1 k.bL⟩
theorem KP.endQ2(k:KP b w L wr o s t p f g c4 pv j cap bv)(hR:Par wr b tv wo l wordsL i){x:Ex}{pa la:Option Addr}{pc lc:Nat}
 (rp:Cells wr (.slice pa x.h.p.length pc) 1 x.h.p.length (x.h.p.map str) (fre w L pv (.slice (some ⟨j,0,none⟩) (f.len+1) cap) bv)) (rl:RepL (fre w L pv (.slice (some ⟨j,0,none⟩) (f.len+1) cap) bv) wr (.slice la x.kids.len lc) x.kids):
 KA b w L (Dd (wr.setCell ⟨L,4,none⟩ (.slice (some ⟨j,0,none⟩) (f.len+1) cap)) j (f.len*7) (.int .i64 x.h.op) (str x.h.s) (.int .i64 x.h.vk) (.int .i64 x.h.vn) (str x.h.vs) (.slice pa x.h.p.length pc) (.slice la x.kids.len lc)) o s t p (f.snoc x) g pv (.slice (some ⟨j,0,none⟩) (f.len+1) cap) bv∧
 Par (Dd (wr.setCell ⟨L,4,none⟩ (.slice (some ⟨j,0,none⟩) (f.len+1) cap)) j (f.len*7) (.int .i64 x.h.op) (str x.h.s) (.int .i64 x.h.vk) (.int .i64 x.h.vn) (str x.h.vs) (.slice pa x.h.p.length pc) (.slice la x.kids.len lc)) b tv wo l wordsL i:=
 ⟨k.end2 rp rl,hR.two (As (Aj _ _) 4 _) (KJ _ _ _ _ _ _ _ _ _ _) k.bL k.bj.1⟩
end
section
variable {w:World}{b:Nat}{tv wo:Value}{l:List Tok}{i:Nat}
theorem qN{block:Rd l Bl}(hn:Al l)(hB:CQB b tv wo l block.f)(hok:∀i,At (Af l i))(hl:AF l)(hg:Glob w)(hgb:0<b)(h:Par w b tv wo l wordsL i)(ho:(ET hn wordsL block).f i ≠ .out):
 Calls Tryz.prog 221 #[.pointer (some ⟨b,0,none⟩)] w (Post b tv wo l wordsL w (VSt w) ((ET hn wordsL block).f i)):=by
 have hb:=h.lt;have HO:=Z ho;generalize hR:(ET hn wordsL block).f i=R at*;unfold ET at hR;rw[Rd.must_f]at hR;have HQ:=Z hR;have HBk:=Z hB;have HTk:=Z hok;have HSh:=Z hl;have HGl:=Z (Ac hg hgb);have R4{P}(h:P:=by
 clear hB hok hl hg hgb h ho hR;go_enter func221,ntmps221;go_wp2_with fail;refine(CJ hp HTk.out Py Ad).mono ?_;intro e w1 hq;obtain⟨g,⟨q,hr,rfl⟩| ⟨u,i1,v,hr,rfl,rfl,hp9⟩⟩:=hq.split
 ·exact D6
 have DX{P}(h:P:=by
 have Cj{P}(h:P:=by
 clear g;have DC{P}(h:P:=by
 have N4{P}(h:P:=by
 have DX{P}(h:P:=by
 have Cj{P}(h:P:=by
 clear g;replace HQ:=HQr HQ BQ;have hl2:=HZ.out.1.lt;go_wp2_with fail;refine(HBk.out _ _ (DO HGl.out.1 HGl.out.2 HZ.out.2) hp (fun e=>HO.out B8)).mono ?_;intro e w3 hq;obtain⟨g,⟨q,hr,rfl⟩| ⟨c,i3,v,hr,rfl,⟨kcs,⟨ca,cc,rfl,k1⟩,k2⟩,hp9⟩⟩:=hq.split
 ·exact D6
 have DX{P}(h:P:=by
 have Cj{P}(h:P:=by
 have hs3:=g.size;have HK:=Z (KA.startB HZ.out.1 HZ.out.2 hb Ab 11 [] (c:=c) (ca:=ca) (cc:=cc) ⟨kcs,⟨ca,cc,rfl,k1⟩,k2⟩ (fun q hq _=>by have:w2.heap.size≤q:=hq;omega));have hp3:=(hp.alloc (.cells #[.slice ca c.len cc] 43 (0,0))).alloc (.cells #[.int .i64 11,str [],str [],.slice none 0 0,.slice none 0 0,.slice (some ⟨w3.heap.size,0,none⟩) 1 1,.int .i64 0,.slice none 0 0,.slice none 0 0,.slice none 0 0] 50 (0,0));replace hp:=hp3;clear g hp3 k1 k2 HZ;have hkl:=HK.out.lt;replace HQ:=HQr HQ BQ;replace HQ:=HQr HQ IX;cases hw:Av l wordsL i3==IE with
 | false=>
   go_wp2_with fail;refine(Ev hp HTk.out IE hw).mono ?_;rintro e w4 ⟨rfl,g⟩;have LA{P}(h:P:=by replace HQ:=HQr HQ Em;go_wp2_with fail;refine(CJ hp HTk.out JC Ad).mono ?_;exact aY):=Aa h;exact Lr
 | true=>
   go_wp2_with fail;refine(Ey hp HTk.out IE Ad hw).mono ?_;rintro e w4 ⟨rfl,hp9,g⟩;have LD{P}(h:P:=by
   have hkl:=HK.out.lt;replace HQ:=HQr HQ BQ;replace HQ:=HQr HQ IX;cases hw:Av l wordsL (i3+1)==J2 with
   | false=>
     go_wp2_with fail;refine(Ev hp HTk.out J2 hw).mono ?_;rintro e w5 ⟨rfl,g⟩;have LA{P}(h:P:=by exact SQ):=Aa h;exact Lr
   | true=>
     go_wp2_with fail;refine(Ey hp HTk.out J2 Ad hw).mono ?_;rintro e w5 ⟨rfl,hp9,g⟩;have LD{P}(h:P:=by
     have hkl:=HK.out.lt;replace HQ:=HQr HQ (by rw[Rd.name_f0]);go_wp2_with fail;refine(C4 hp HSh.out).mono ?_;intro e w6 hq;obtain⟨g,⟨q,hr,rfl⟩| ⟨s,i6,v,hr,rfl,rfl,hp9⟩⟩:=hq.split
     ·exact BA
     have AV{P}(h:P:=by clear g;have hkl:=HK.out.lt;have hx1:=HK.out.blk.cell' 1 rfl;have hf1:=HK.out.blk.frozen 1;have hK7:=HK.out.putS s;have hp7:=hp.set HK.out.bL 1 (str s);replace HK:=Z hK7;replace hp:=hp7;clear hK7 hp7;go_upto_region 7 with fail;generalize hWW:World.setCell _ _ _=W7 at*;exact SQ):=Aa h;exact AT):=Aa h;exact Lu):=Aa h
   exact Lu):=Aa h
 exact Ch):=Aa h;exact DW):=Aa h;exact Ch):=Aa h;exact DW):=Aa h;exact LJ):=Aa h;exact D8):=Aa h;exact Ch):=Aa h;exact DW):=Aa h;exact Qy
end
theorem Rd.expr_f{l:List Tok}(hn:Al l){day:Bs→Int}{n i:Nat}{β:Type}{q:Ex→Rd l β}:((B2 hn day n).bind q).f i=(Aw l day n i).bind fun x j=>(q x).f j:=rfl
section
variable {w wr:World}{b:Nat}{tv wo:Value}{l:List Tok}{i:Nat}
abbrev VPart(b:Nat)(w:World)(L:Nat)(o:Int):World→Value→Fo×Bl→Prop:=fun w' v x=>v= .tuple #[]∧∃pv xv bv,KA b w L w' o [] [] [] x.1 x.2 pv xv bv
theorem UN{block:Rd l Bl}(hn:Al l){day:Bs→Int}{n L:Nat}{o:Int}(hB:CQB b tv wo l block.f)(hE:CE 56 b tv wo l wordsL (Aw l day n))(hg:Glob w)(hgb:0<b){a:Fo×Bl}{pv xv bv:Value}(k:KA b w L wr o [] [] [] a.1 a.2 pv xv bv)(hm1:a.1.len≤200000)(hm2:a.2.len≤200000)(h:Par wr b tv wo l wordsL i)(ho:(BS hn day n block a).f i ≠ .out):
 Calls Tryz.prog 248 #[.pointer (some ⟨b,0,none⟩),.pointer (some ⟨L,0,none⟩)] wr (Post b tv wo l wordsL w (VPart b w L o) ((BS hn day n block a).f i)):=by
 have hb:=h.lt;have HO:=Z ho;generalize hR:(BS hn day n block a).f i=R at*;unfold BS at hR;rw[Rd.expr_f]at hR;have HQ:=Z hR;have HBk:=Z hB;have HE:=Z hE;have HGl:=Z (Ac hg hgb);have HK:=Z k;have hp:=h;clear hB hE hg hgb h ho hR k;have hkl:=HK.out.lt;have hx4:=HK.out.blk.cell' 4 rfl;cases hr6:Aw l day n i with
 |out=>exact absurd Bz HO.out
 | bad q6=>
   go_enter func248,ntmps248;go_wp2_with fail;have EQ{P}(h:P:=by
   have Iu{P}(h:P:=by
   have n0:(0:Int)≤((a.1).len:Int):=Ab;have n1:((a.1).len:Int)<(((a.1).len+1:Nat):Int):=Ab;have n2:((a.1).len:Int)<((a.1).len:Int)+1:=Ab;have kA:=(HK.out.gbN (An (Aj wr none))).alloc (.cells zeroE.toArray 29 (0,0));have Km{P}(h:P:=by
   go_region_law(first
    | (refine step_append_lies _ Ao _ _ 27 Ao ((w).heap.size+1) 29 i0 _ 7 104 underlying27 HI.out.1 HI.out.2.1 HI.out.2.2.1 HI.out.2.2.2 rfl Ad _ _ csA Ao HA1.out.2.1 ⟨(wr).heap.size,0,none⟩ 1 1 zeroE Ao rfl (Bu _ _ _) EK Ad AI Ab Eo _ rfl ?_;intro j cap w7 hown hgrow hat hlt;(have HP1:=Z (Ac (HA1.out.1.pend rfl HA1.out.2.1 HA1.out.2.2.1 hown hgrow hat) (HA1.out.2.2.2.gb hgrow (fun q hq=>(HA1.out.1.belowX q hq).1))));(have f7:=(HA1.out.1.blk.gb hgrow HA1.out.1.neX).frozen 4);(have d7:=(HA1.out.1.blk.gb hgrow HA1.out.1.neX).cell' 4 rfl);(have l7:=HP1.out.1.lt);(have s7:=hgrow.size);(have bj7:=HP1.out.1.bj);clear hown hgrow hat)
    | (go_simp;go_at_call 56;refine(HE.out _ _ HP1.out.2 Bp).mono ?_;rintro e w8 hq8;rw[hr6]at hq8;obtain⟨g8,rfl⟩:=hq8;refine Cd (P:=Tryz.prog) ⟨rfl,Post.bad (Ah HP1.out.1.gr g8) Bz⟩ ⟨#[],[]⟩ w8 ?_)
    | (go_simp;go_at_call 56;refine(HE.out _ _ (HP1.out.2.gb (As (Aj w7 (some L)) 4 (.slice (some ⟨j,0,none⟩) ((a.1).len+1) cap)) A6) Bp).mono ?_;rintro e w8 hq8;rw[hr6]at hq8;obtain⟨g8,rfl⟩:=hq8;refine Cd (P:=Tryz.prog) ⟨rfl,Post.bad (Ah (HP1.out.1.put4 (.slice (some ⟨j,0,none⟩) ((a.1).len+1) cap)).gr g8) Bz⟩ ⟨#[],[]⟩ w8 ?_)
    | (go_simp;go_at_call 56;refine(HE.out _ _ (hp.drewN 1) Bp).mono ?_;rintro e w8 hq8;rw[hr6]at hq8;obtain⟨g8,rfl⟩:=hq8;refine Cd (P:=Tryz.prog) ⟨rfl,Post.bad (Ah (An HK.out.gr) g8) Bz⟩ ⟨#[],[]⟩ w8 ?_)
    | (go_simp;go_at_call 56;refine(HE.out _ _ HA1.out.2.2.2 Bp).mono ?_;rintro e w8 hq8;rw[hr6]at hq8;obtain⟨g8,rfl⟩:=hq8;refine Cd (P:=Tryz.prog) ⟨rfl,Post.bad (Ah HA1.out.1.gr g8) Bz⟩ ⟨#[],[]⟩ w8 ?_))
   all_goals trivial):=Aa h;exact Kb):=Aa h;exact Il):=Aa h;exact EN
 |ok x i1=>
 replace HQ:=HQr HQ Fk;replace HQ:=HQr HQ Xs;go_enter func248,ntmps248;go_upto_region 0 with fail;go_cut []from 4 (fun wx=>(∃xv',KA b w L wx o [] [] [] (a.1.snoc x) a.2 pv xv' bv)∧Par wx b tv wo l wordsL i1)
 case first=>
  have EQ{P}(h:P:=by
  have hroom:=hm1;have Iu{P}(h:P:=by
  have n0:(0:Int)≤((a.1).len:Int):=Ab;have n1:((a.1).len:Int)<(((a.1).len+1:Nat):Int):=Ab;have n2:((a.1).len:Int)<((a.1).len:Int)+1:=Ab;have HFr:=Z (fun q hq=>HK.out.fresh q hq);have kA:=(HK.out.gbN (An (Aj wr none))).alloc (.cells zeroE.toArray 29 (0,0));have Km{P}(h:P:=by
  go_region_law(first
   | (refine step_append_lies _ Ao _ _ 27 Ao ((w).heap.size+1) 29 i0 _ 7 104 underlying27 HI.out.1 HI.out.2.1 HI.out.2.2.1 HI.out.2.2.2 rfl Ad _ _ csB Ao HA2.out.2.1 _ 1 1 zeroE Ao rfl HZ2.out EK Ad AI Ab Eo _ rfl ?_;intro j cap w7 hown hgrow hat hlt;(have HPF:=Z (Ac (HA2.out.1.pend rfl HA2.out.2.1 HA2.out.2.2.1 hown hgrow hat) (HA2.out.2.2.2.1.gb hgrow (fun q hq=>(HA2.out.1.belowX q hq).1))));(have HVF:=Z (Kz (f:=a.1) (cap:=cap) HA2.out.2.2.2.2.1 HA2.out.2.2.2.2.2 (fun q hq _=>hq) HFr.out hgrow hat));(have f7:=(HA2.out.1.blk.gb hgrow HA2.out.1.neX).frozen 4);(have d7:=(HA2.out.1.blk.gb hgrow HA2.out.1.neX).cell' 4 rfl);(have l7:=HPF.out.1.lt);(have bj7:=HPF.out.1.bj);(have nj7:=HPF.out.1.neL);(have fe7:=fun i=>HPF.out.1.frozenE i);(obtain⟨u70,e70⟩:=HPF.out.1.cellE 0 Ad);(obtain⟨u71,e71⟩:=HPF.out.1.cellE 1 Ad);(obtain⟨u72,e72⟩:=HPF.out.1.cellE 2 Ad);(obtain⟨u73,e73⟩:=HPF.out.1.cellE 3 Ad);(obtain⟨u74,e74⟩:=HPF.out.1.cellE 4 Ad);(obtain⟨u75,e75⟩:=HPF.out.1.cellE 5 Ad);(obtain⟨u76,e76⟩:=HPF.out.1.cellE 6 Ad);(try simp only[Nat.add_zero]at e70);clear hown hgrow hat)
   | (refine step_append_lies _ Ao _ _ 27 Ao ((w).heap.size+1) 29 i0 _ 7 104 underlying27 HI.out.1 HI.out.2.1 HI.out.2.2.1 HI.out.2.2.2 rfl Ad _ _ csA Ao HA1.out.2.1 ⟨(wr).heap.size,0,none⟩ 1 1 zeroE Ao rfl (Bu _ _ _) EK Ad AI Ab Eo _ rfl ?_;intro j cap w7 hown hgrow hat hlt;(have HP1:=Z (Ac (HA1.out.1.pend rfl HA1.out.2.1 HA1.out.2.2.1 hown hgrow hat) (HA1.out.2.2.2.gb hgrow (fun q hq=>(HA1.out.1.belowX q hq).1))));(have f7:=(HA1.out.1.blk.gb hgrow HA1.out.1.neX).frozen 4);(have d7:=(HA1.out.1.blk.gb hgrow HA1.out.1.neX).cell' 4 rfl);(have l7:=HP1.out.1.lt);(have s7:=hgrow.size);(have bj7:=HP1.out.1.bj);clear hown hgrow hat)
   | (go_simp;go_at_call 56;refine(HE.out _ _ HP1.out.2 Bp).mono ?_;rintro e w8 hq6;rw[hr6]at hq6;obtain⟨g8,v,rfl,⟨pa6,pc6,la6,lc6,rfl,q1,q2⟩,h8⟩:=hq6;(have hKP:=HP1.out.1.gb g8);(have HPF:=Z (Ac hKP h8));(have HVF:=Z (Ac (q1.mono (fun q hq _=>HP1.out.1.fresh q hq)) (q2.mono (fun q hq _=>HP1.out.1.fresh q hq))));(have f8:=hKP.blk.frozen 4);(have d8:=hKP.blk.cell' 4 rfl);(have l8:=hKP.lt);(have bj8:=hKP.bj);(have nj8:=hKP.neL);(have fe8:=fun i=>HPF.out.1.frozenE i);(obtain⟨u70,e70⟩:=HPF.out.1.cellE 0 Ad);(obtain⟨u71,e71⟩:=HPF.out.1.cellE 1 Ad);(obtain⟨u72,e72⟩:=HPF.out.1.cellE 2 Ad);(obtain⟨u73,e73⟩:=HPF.out.1.cellE 3 Ad);(obtain⟨u74,e74⟩:=HPF.out.1.cellE 4 Ad);(obtain⟨u75,e75⟩:=HPF.out.1.cellE 5 Ad);(obtain⟨u76,e76⟩:=HPF.out.1.cellE 6 Ad);(try simp only[Nat.add_zero]at e70);clear hKP q1 q2 g8 h8)
   | (go_simp;go_at_call 56;refine(HE.out _ _ (HP1.out.2.gb (As (Aj w7 (some L)) 4 (.slice (some ⟨j,0,none⟩) ((a.1).len+1) cap)) A6) Bp).mono ?_;rintro e w8 hq6;rw[hr6]at hq6;obtain⟨g8,v,rfl,⟨pa6,pc6,la6,lc6,rfl,q1,q2⟩,h8⟩:=hq6;(have hKP:=(HP1.out.1.put4 (.slice (some ⟨j,0,none⟩) ((a.1).len+1) cap)).gb g8);(have HPF:=Z (Ac hKP h8));(have HVF:=Z (Ac (q1.mono (fun q hq _=>(HP1.out.1.put4 (.slice (some ⟨j,0,none⟩) ((a.1).len+1) cap)).fresh q hq)) (q2.mono (fun q hq _=>(HP1.out.1.put4 (.slice (some ⟨j,0,none⟩) ((a.1).len+1) cap)).fresh q hq))));(have bj8:=hKP.bj);(have nj8:=hKP.neL);(have l8:=hKP.lt);(have fe8:=fun i=>HPF.out.1.frozenE i);(obtain⟨u70,e70⟩:=HPF.out.1.cellE 0 Ad);(obtain⟨u71,e71⟩:=HPF.out.1.cellE 1 Ad);(obtain⟨u72,e72⟩:=HPF.out.1.cellE 2 Ad);(obtain⟨u73,e73⟩:=HPF.out.1.cellE 3 Ad);(obtain⟨u74,e74⟩:=HPF.out.1.cellE 4 Ad);(obtain⟨u75,e75⟩:=HPF.out.1.cellE 5 Ad);(obtain⟨u76,e76⟩:=HPF.out.1.cellE 6 Ad);(try simp only[Nat.add_zero]at e70);clear hKP q1 q2 g8 h8)
   | (go_simp;go_at_call 56;refine(HE.out _ _ (hp.drewN 1) Bp).mono ?_;rintro e w6 hq6;rw[hr6]at hq6;obtain⟨g6,v,rfl,⟨pa6,pc6,la6,lc6,rfl,q1,q2⟩,h6⟩:=hq6;(have k6:=HK.out.gb (Ah (An (Aj _ _)) g6));(have l6:=k6.lt);(have s6:=g6.size);(have d6:=k6.blk.cell' 4 rfl);(have k7:=k6.alloc (.cells zeroE.toArray 29 (0,0)));(obtain⟨csB,ho6,hr7⟩:=k7.x);(have gA:=World.grownBy_alloc w6 (.cells zeroE.toArray 29 (0,0)) none);(have HA2:=Z (Ac k7 (Ac ho6 (Ac hr7 (Ac (h6.alloc (.cells zeroE.toArray 29 (0,0))) (Ac (q1.gb gA Ae) (q2.gb gA Ae)))))));(have HZ2:=Z (Bu w6 zeroE 29));clear k6 k7 ho6 hr7 gA q1 q2 h6 g6)
   | (go_simp;go_at_call 56;refine(HE.out _ _ HA1.out.2.2.2 Bp).mono ?_;rintro e w6 hq6;rw[hr6]at hq6;obtain⟨g6,v,rfl,⟨pa6,pc6,la6,lc6,rfl,q1,q2⟩,h6⟩:=hq6;(have k6:=HA1.out.1.gb g6);(have l6:=k6.lt);(have s6:=g6.size);(have d6:=k6.blk.cell' 4 rfl);(obtain⟨csB,ho6,hr7⟩:=k6.x);(have HA2:=Z (Ac k6 (Ac ho6 (Ac hr7 (Ac h6 (Ac (q1.mono (ok':=Ap (wr).heap.size) (fun q hq _=>Nat.le_of_succ_le D4)) (q2.mono (ok':=Ap (wr).heap.size) (fun q hq _=>Nat.le_of_succ_le D4))))))));(have HZ2:=Z (show ∀i u,zeroE[i]? =some u→w6.cell? ((⟨(wr).heap.size,0,none⟩:Addr).add i)=some u from fun i u hu=>KB (((Blk.new (World.drew wr) zeroE 29).gb g6 Ag).cell' i hu)));clear k6 ho6 hr7 q1 q2 h6 g6))
  all_goals
   go_wp2_with fail;go_meet
   case rel=>
    show(∃xv',KA b w L _ o [] [] [] (a.1.snoc x) a.2 pv xv' bv)∧Par _ b tv wo l wordsL i1;exact Zn):=Aa h
  exact Kb):=Aa h;exact Il):=Aa h;exact EN
 case rest=>
  obtain⟨⟨xv',hK⟩,hp1⟩:=hcut;replace HK:=Z hK;replace hp:=hp1;clear hK hp1 hr6 hx4 hkl;go_wp2_with fail;refine(Gb hp).mono ?_;intro e w1 hq;obtain⟨g,⟨q,hr,rfl⟩| ⟨u,i2,v,hr,rfl,rfl,hp9⟩⟩:=hq.split
  ·exact BA
  have AV{P}(h:P:=by
  have R2{P}(h:P:=by
  cases hr6:block.f i2 with
  |out=>exact absurd Bz HO.out
  | bad q6=>
    exact Q9
  |ok c i3=>
  replace HQ:=HQr HQ Fk;replace HQ:=HQr HQ Bj;have Kk{P}(h:P:=by
  have hroom:=hm2;have DD{P}(h:P:=by
  go_region_law(first
   | (refine step_append_lies _ Ao _ _ 46 Ao (w.heap.size+1) 43 i0 _ 1 24 underlying46 HI.out.1 HI.out.2.1 HI.out.2.2.1 HI.out.2.2.2 rfl Ad _ _ ds6 Ao HB.out.2.1 ⟨w6.heap.size,0,none⟩ 1 1 [.slice ca6 (c).len cc6] Ao rfl (D0 _ _ _) Dg Ad AI Ab Ag _ rfl ?_;intro j cap w7 hown hgrow hat hlt;(have HK8:=Z (Ac (HB.out.1.addB' HB.out.2.1 HB.out.2.2.1 HB.out.2.2.2.1 (fun q hq=>HK.out.fresh q hq) hown hgrow hat) (Par.app HB.out.2.2.2.2 hgrow (fun q hq=>(HB.out.1.belowB q hq).1) hbL 5 (.slice (some ⟨j,0,none⟩) (a.2.len+1) cap))));(have hb7:=HB.out.1.blk.gb hgrow HB.out.1.neB);(have f7:=hb7.frozen 5);(have d7:=hb7.cell' 5 rfl);(have l7:=hb7.lt);clear hown hgrow hat hb7 HB)
   | (go_simp;go_at_call 95;refine(HBk.out _ _ (DO HGl.out.1 HGl.out.2 (AA HK.out.gr 1)) (hp.drewN 1) Bp).mono ?_;rintro e w6 hq6;rw[hr6]at hq6;obtain⟨g6,v,rfl,hv6,h6⟩:=hq6;(obtain⟨_,⟨ca6,cc6,rfl,_⟩,_⟩:=id hv6);(have k6:=HK.out.gb (Ah (An (Aj _ _)) g6));(have l6:=k6.lt);(have d6:=k6.blk.cell' 5 rfl);(have s6:=g6.size);(have k7:=k6.alloc (.cells #[.slice ca6 (c).len cc6] 43 (0,0)));(obtain⟨ds6,ho6,hr7⟩:=k7.bb);(have gA:=World.grownBy_alloc w6 (.cells #[.slice ca6 (c).len cc6] 43 (0,0)) none);(have HB:=Z (Ac k7 (Ac ho6 (Ac hr7 (Ac (RepV.gb hv6 gA Ae) (h6.alloc (.cells #[.slice ca6 (c).len cc6] 43 (0,0))))))));clear k6 k7 ho6 hr7 hv6 h6 gA g6))
  all_goals
   go_wp2_with fail;generalize hWW:World.setCell _ _ _=W8 at*;have HK:=Z HK8.out.1;have hp:=HK8.out.2;go_end0;exact Post.ok HK.out.gr HQ.out.symm ⟨rfl,_,_,_,HK.out⟩ hp):=Aa h
  exact D9):=Aa h;exact JY):=Aa h;exact O8):=Aa h;exact AT
end
section
variable {w:World}{b:Nat}{tv wo:Value}{l:List Tok}{i:Nat}
theorem kW{block:Rd l Bl}{hn:Al l}{day:Bs→Int}{n:Nat}{a a2:Fo×Bl}{j:Nat}(h:(BS hn day n block a).f i= .ok a2 j):a2.1.len=a.1.len+1∧a2.2.len=a.2.len+1:=by
 unfold BS at h;rw[Rd.expr_f]at h;cases h1:Aw l day n i with
 |out=>rw[h1]at h;cases h
 |bad q=>rw[h1]at h;cases h
 | ok x i1=>
   rw[h1,Res.bind_ok,Rd.fin_f]at h;cases h2:BP l i1 with
   |out=>rw[h2]at h;cases h
   |bad q=>rw[h2]at h;cases h
   | ok u i2=>
     rw[h2,Res.bind_ok,Rd.bind_f]at h;cases h3:block.f i2 with
     |out=>rw[h3]at h;cases h
     |bad q=>rw[h3]at h;cases h
     | ok c i3=>
       rw[h3,Res.bind_ok,Rd.pure_f]at h;cases h;exact⟨Fo.len_snoc _ _,by simp[Bl.len_app,Bl.len]⟩
def PartQ(hn:Al l)(day:Bs→Int)(n:Nat)(block:Rd l Bl)(b:Nat)(tv wo:Value)(w:World)(more:Bs)(rest:Fo×Bl→Rd l StB)(R:Res StB)(g:Nat)(wr:World):Prop:=
 ∃a j,(∃pv xv bv,KA b w (w.heap.size+1) wr 3 [] [] [] a.1 a.2 pv xv bv)∧Par wr b tv wo l wordsL j∧a.1.len+g≤n+1∧a.2.len+g≤n+1∧((Rd.moreW wordsL more (BS hn day n block) g a).bind rest).f j=R
theorem UM{block:Rd l Bl}(hn:Al l){day:Bs→Int}{n:Nat}(hnn:n≤100000)(hB:CQB b tv wo l block.f)(hE:CE 56 b tv wo l wordsL (Aw l day n))(hok:∀i,At (Af l i))(hg:Glob w)(hgb:0<b){more other last:Bs}(hm:more≠[])(hot:other≠[])(hla:last≠[])(h:Par w b tv wo l wordsL i)(ho:(DY hn wordsL day n block more other last).f i ≠ .out):
 Calls Tryz.prog 217 #[.pointer (some ⟨b,0,none⟩),str more,str other,str last] w (Post b tv wo l wordsL w (VSt w) ((DY hn wordsL day n block more other last).f i)):=by
 have hb:=h.lt;have HO:=Z ho;generalize hR:(DY hn wordsL day n block more other last).f i=R at*;unfold DY at hR;rw[Rd.bind_f]at hR;have HQ:=Z hR;have HBk:=Z hB;have HE:=Z hE;have HTk:=Z hok;have HGl:=Z (Ac hg hgb);have HN:=Z (Ac hm (Ac hot hla));have FV{P}(h:P:=by
 have hKK:=KA.start hz gz hb Ae 3 [];have NW{P}(h:P:=by
 have hp:=(h.alloc (.cells (stC 0 (.slice none 0 0)).toArray 50 (0,0))).alloc (.cells #[.int .i64 3,str [],str [],.slice none 0 0,.slice none 0 0,.slice none 0 0,.int .i64 0,.slice none 0 0,.slice none 0 0,.slice none 0 0] 50 (0,0));clear hB hE hok hg hgb hm hot hla h ho hR hz gz hKK;go_enter func217,ntmps217;have dM{P}(h:P:=by
 intro e w1 hq;obtain⟨g,⟨q,hr,rfl⟩| ⟨a,i1,v,hr,rfl,⟨rfl,pv9,xv9,bv9,hK9⟩,hp9⟩⟩:=hq.split
 ·exact⟨rfl,Post.bad g DT⟩
 have Rn{P}(h:P:=by
 go_wp2_with fail;go_loopg [] n (fun g wr=>PartQ hn day n block b tv wo w more (fun a=>(Rd.ifw wordsL other (Rd.fin.bind fun _=>block.bind fun b=>Rd.pure (a.2.app (.bl b .nil))) (Rd.pure a.2)).bind fun bs=>(Rd.must wordsL last).bind fun _=>Rd.fin.bind fun _=>Rd.pure ({sd0 3 []with x:=a.1},bs)) R g wr)
 case atStart=>exact⟨a,i1,⟨_,_,_,HK.out⟩,hp,by have:=HA.out.1;simp[Fo.len]at this;omega,by have:=HA.out.2;simp[Bl.len]at this;omega,HQ.out⟩
 case round=>
  obtain⟨a,j,⟨pv,xv,bv,hK⟩,hp1,hm1,hm2,hq⟩:=hrel;have HK:=Z hK;have hp:=hp1;have HQ:=Z hq;clear hK hp1 hq;cases gk with
  |zero=>exact absurd HQ.out.symm HO.out
  |succ m=>
  replace HQ:=HQr HQ BQ;replace HQ:=HQr HQ (by rw[Rd.moreW_f]);have hkl:=HK.out.lt;cases hw:Av l wordsL j==more with
  | true=>
    go_wp2_with fail;refine(Ey hp HTk.out more HN.out.1 hw).mono ?_;rintro e w3 ⟨rfl,hp9,g⟩;have LD{P}(h:P:=by
    replace HQ:=HQr HQ BQ;go_wp2_with fail;refine(UN (a:=a) hn HBk.out HE.out HGl.out.1 HGl.out.2 HK.out Ab Ab hp (fun e=>HO.out B8)).mono ?_;intro e w4 hq;obtain⟨g,⟨q,hr,rfl⟩| ⟨a2,i2,v,hr,rfl,⟨rfl,pv9,xv9,bv9,hK9⟩,hp9⟩⟩:=hq.split
    ·exact⟨rfl,Post.bad g DT⟩
    have Rn{P}(h:P:=by
    go_wp2;go_roundg m
    case measure=>omega
    case rel=>exact⟨a2,i2,⟨_,_,_,HK.out⟩,hp,by have:=HA.out.1;omega,by have:=HA.out.2;omega,HQ.out⟩):=Aa h;exact Ol):=Aa h;exact Lu
  | false=>
    go_wp2_with fail;refine(Ev hp HTk.out more hw).mono ?_;rintro e w3 ⟨rfl,g⟩;have Ry{P}(h:P:=by
    clear hw;replace HQ:=HQr HQ CU;have N6{P}(h:P:=by
    cases hw:Av l wordsL j==other with
    | false=>
      go_wp2_with fail;refine(Ev hp HTk.out other hw).mono ?_;rintro e w4 ⟨rfl,g⟩;have LA{P}(h:P:=by replace HQ:=HQr HQ Em;go_wp2_with fail;refine(CJ hp HTk.out last HN.out.2.2).mono ?_;exact aY):=Aa h;exact Lr
    | true=>
      go_wp2_with fail;refine(Ey hp HTk.out other HN.out.2.1 hw).mono ?_;rintro e w4 ⟨rfl,hp9,g⟩;have LD{P}(h:P:=by
      have DC{P}(h:P:=by
      have Iz{P}(h:P:=by
      have AV{P}(h:P:=by
      have R2{P}(h:P:=by
      cases hr6:block.f i5 with
      |out=>exact absurd Bz HO.out
      | bad q6=>
        exact Q9
      |ok c i6=>
      replace HQ:=HQr HQ Fk;replace HQ:=HQr HQ Bj;replace HQ:=HQr HQ CU;replace HQ:=HQr HQ Em;have Kk{P}(h:P:=by
      have hroom:=(show a.2.len≤200000 by omega);have DD{P}(h:P:=by
      go_region_law(first
       | (refine step_append_lies _ Ao _ _ 46 Ao (w.heap.size+1) 43 i0 _ 1 24 underlying46 HI.out.1 HI.out.2.1 HI.out.2.2.1 HI.out.2.2.2 rfl Ad _ _ ds6 Ao HB.out.2.1 ⟨w6.heap.size,0,none⟩ 1 1 [.slice ca6 (c).len cc6] Ao rfl (D0 _ _ _) Dg Ad AI Ab Ag _ rfl ?_;intro j cap w7 hown hgrow hat hlt;(have HK8:=Z (Ac (HB.out.1.addB' HB.out.2.1 HB.out.2.2.1 HB.out.2.2.2.1 (fun q hq=>HK.out.fresh q hq) hown hgrow hat) (Par.app HB.out.2.2.2.2 hgrow (fun q hq=>(HB.out.1.belowB q hq).1) hbL 5 (.slice (some ⟨j,0,none⟩) (a.2.len+1) cap))));(have hb7:=HB.out.1.blk.gb hgrow HB.out.1.neB);(have f7:=hb7.frozen 5);(have d7:=hb7.cell' 5 rfl);(have l7:=hb7.lt);clear hown hgrow hat hb7 HB)
       | (go_simp;go_at_call 95;refine(HBk.out _ _ (DO HGl.out.1 HGl.out.2 (AA HK.out.gr 1)) (hp.drewN 1) Bp).mono ?_;rintro e w6 hq6;rw[hr6]at hq6;obtain⟨g6,v,rfl,hv6,h6⟩:=hq6;(obtain⟨_,⟨ca6,cc6,rfl,_⟩,_⟩:=id hv6);(have k6:=HK.out.gb (Ah (An (Aj _ _)) g6));(have l6:=k6.lt);(have d6:=k6.blk.cell' 5 rfl);(have s6:=g6.size);(have k7:=k6.alloc (.cells #[.slice ca6 (c).len cc6] 43 (0,0)));(obtain⟨ds6,ho6,hr7⟩:=k7.bb);(have gA:=World.grownBy_alloc w6 (.cells #[.slice ca6 (c).len cc6] 43 (0,0)) none);(have HB:=Z (Ac k7 (Ac ho6 (Ac hr7 (Ac (RepV.gb hv6 gA Ae) (h6.alloc (.cells #[.slice ca6 (c).len cc6] 43 (0,0))))))));clear k6 k7 ho6 hr7 hv6 h6 gA g6))
      all_goals
       have iJ{P}(h:P:=by
       refine(CJ hp HTk.out last HN.out.2.2).mono ?_;intro e w11 hq;obtain⟨g,⟨q,hr,rfl⟩| ⟨u,i11,v,hr,rfl,rfl,hp9⟩⟩:=hq.split
       ·exact BA
       have AV{P}(h:P:=by clear g;have DC{P}(h:P:=by have Rt{P}(h:P:=by exact ZF):=Aa h;exact Ou):=Aa h;exact D8):=Aa h;exact AT):=Aa h;exact ZQ):=Aa h
      exact D9):=Aa h;exact JY):=Aa h;exact O8):=Aa h;exact AT):=Aa h;exact Ir):=Aa h;exact D8):=Aa h;exact Lu):=Aa h
    exact LR):=Aa h;exact O3):=Aa h
 exact Ol):=Aa h;exact TC):=Aa h;exact Nu):=Aa h;exact FU
end
def Be:Fo→Nat→Nat×Nat→Nat×Nat
 | .nil,_,s=>s
 | .cons _ kids next,k,s=>if Bf (s.1+1) (max s.2 (k+1))then(s.1+1,max s.2 (k+1))else Be next k (Be kids (k+1) (s.1+1,max s.2 (k+1)))
theorem Hh{n m n' m':Nat}(h:Bf n m=true)(hn:n≤n')(hm:m≤m'):Bf n' m'=true:=by
 simp only[Bf,Bool.or_eq_true,decide_eq_true_eq]at h ⊢;omega
theorem Xk:∀(f:Fo)(k:Nat)(s:Nat×Nat),s.1≤(Be f k s).1∧s.2≤(Be f k s).2:=by
 intro f;induction f with
 |nil=>intro k s;exact⟨Nat.le_refl _,Nat.le_refl _⟩
 | cons h kids next ihk ihn=>
   intro k s;unfold Be;split
   ·exact⟨by simp,by simp;omega⟩
   ·exact T5
theorem Gj:∀(f:Fo)(k:Nat)(s:Nat×Nat),(Be f k s).1≤s.1+f.nodes:=by
 intro f;induction f with
 |nil=>intro k s;exact Nat.le_refl _
 | cons h kids next ihk ihn=>
   intro k s;unfold Be;simp only[Fo.nodes];split
   ·simp;omega
   ·exact T5
theorem Aan:∀(f:Fo)(k:Nat)(s:Nat×Nat),k≤s.2→
 Bf (Be f k s).1 (Be f k s).2=Bf (s.1+f.nodes) (max s.2 (k+f.levels))∧
 (Bf (s.1+f.nodes) (max s.2 (k+f.levels))=false→Be f k s=(s.1+f.nodes,max s.2 (k+f.levels))):=by
 intro f;induction f with
 | nil=>
   intro k s hk;have e:max s.2 (k+Fo.nil.levels)=s.2:=by simp only[Fo.levels];omega
   rw[e];exact⟨rfl,fun _=>rfl⟩
 | cons h kids next ihk ihn=>
   intro k s hk;have e1:s.1+(Fo.cons h kids next).nodes=s.1+1+kids.nodes+next.nodes:=by simp only[Fo.nodes];omega
   have e2:max s.2 (k+(Fo.cons h kids next).levels)=max (max (max s.2 (k+1)) (k+1+kids.levels)) (k+next.levels):=by simp only[Fo.levels];omega
   rw[e1,e2];unfold Be;cases hL:Bf (s.1+1) (max s.2 (k+1))with
   | true=>
     rw[if_pos rfl];have ht:=Hh hL (show s.1+1≤s.1+1+kids.nodes+next.nodes by omega) (show max s.2 (k+1)≤max (max (max s.2 (k+1)) (k+1+kids.levels)) (k+next.levels)by omega);rw[ht];exact⟨hL,fun h=>by cases h⟩
   | false=>
     rw[if_neg Ae];have h1:=ihk (k+1) (s.1+1,max s.2 (k+1)) Ag;simp only at h1;generalize hS:Be kids (k+1) (s.1+1,max s.2 (k+1))=S at*;cases h2:Bf (s.1+1+kids.nodes) (max (max s.2 (k+1)) (k+1+kids.levels))with
     | true=>
       rw[h2]at h1;have hg:=Xk next k S;have ha:=Hh h1.1 hg.1 hg.2;have hb:=Hh h2 (show s.1+1+kids.nodes≤s.1+1+kids.nodes+next.nodes by omega) (show max (max s.2 (k+1)) (k+1+kids.levels)≤max (max (max s.2 (k+1)) (k+1+kids.levels)) (k+next.levels)by omega);rw[ha,hb];exact⟨rfl,fun h=>by cases h⟩
     | false=>
       have hs:=h1.2 h2;subst hs;exact ihn k _ Ag
def Cn(w:World)(b:Nat)(s:Nat×Nat):Prop:=Blk w b [.int .i64 s.1,.int .i64 s.2] 66
theorem Cn.gb{w w1:World}{b:Nat}{s:Nat×Nat}{r:Option Nat}(h:Cn w b s)(g:w.grownBy w1 r)(hr:some b≠r):Cn w1 b s:=Blk.gb h g hr
theorem UY{w:World}{b n m:Nat}(h:Cn w b (n,m)):
 Calls Tryz.prog 31 #[.pointer (some ⟨b,0,none⟩)] w fun e w'=>e= .returned (.bool (Bf n m))∧w.grownBy w' none:=by
 have c0:=Blk.cell h 0;have c1:=Blk.cell h 1;have hb:=Blk.lt h;simp only[List.getElem?_cons_zero,List.getElem?_cons_succ]at c0 c1;clear h;cases h1:decide (400<n)with
 | true=>
   have HM:=Z (show Bf n m=true by unfold Bf;rw[h1];rfl);have h2:decide ((400:Int)<n)=true:=MO;clear h1;go_enter func31,ntmps31;exact LP
 | false=>
   have HM:=Z (show Bf n m=decide ((14:Int)<m)by unfold Bf;rw[h1,Bool.false_or,decide_eq_decide];omega);have h2:decide ((400:Int)<n)=false:=MO;clear h1;go_enter func31,ntmps31;exact LP
theorem WW{w:World}{b n m:Nat}(h:Cn w b (n,m))(k:Nat)(hn:n≤1000000):
 Calls Tryz.prog 65 #[.pointer (some ⟨b,0,none⟩),.int .i64 k] w fun e w'=>e= .returned (.bool (!Bf (n+1) (max m k)))∧w.grownBy w' (some b)∧Cn w' b (n+1,max m k):=by
 have c0:=Blk.cell h 0;have c1:=Blk.cell h 1;have hf:=fun k=>Blk.frozen h k;have hb:=Blk.lt h;simp only[List.getElem?_cons_zero,List.getElem?_cons_succ]at c0 c1;have h2:Cn ((w.setCell ⟨b,0,none⟩ (.int .i64 ((n:Int)+1))).setCell ⟨b,1,none⟩ (.int .i64 (max (m:Int) k))) b (n+1,max m k):=
  ((Blk.set h 0 (.int .i64 ((n:Int)+1))).set 1 (.int .i64 (max (m:Int) k))).of_eq rfl Ag
 have g2:w.grownBy ((w.setCell ⟨b,0,none⟩ (.int .i64 ((n:Int)+1))).setCell ⟨b,1,none⟩ (.int .i64 (max (m:Int) k))) (some b):=A7 (A7 (Aj w _) _ _ (.inl rfl)) _ _ (.inl rfl);have HC:=Z (Ac (UY h2) (Ac h2 g2));clear h h2 g2;go_enter func65,ntmps65;go_wp2_with fail;refine HC.out.1.mono ?_;rintro e w1 ⟨rfl,g1⟩;go_wp2;go_ret;exact⟨rfl,A0 HC.out.2.2 g1,HC.out.2.1.gb g1 Ae⟩
def PT(w:World)(b:Nat)(s:Nat×Nat)(e:Ending)(w':World):Prop:=e= .returned (.tuple #[])∧w.grownBy w' (some b)∧Cn w' b s
theorem wT(b:Nat):∀(N:Nat)(f:Fo),f.nodes<N→f.nodes≤100000→∀(la:Option Addr)(lc:Nat)(w:World)(s:Nat×Nat)(k:Nat),s.1+f.nodes≤1000000→k+N≤1000000→RepL (· ≠ b) w (.slice la f.len lc) f→Cn w b s→
 Calls Tryz.prog 30 #[.pointer (some ⟨b,0,none⟩),.slice la f.len lc,.int .i64 ((k+1:Nat):Int)] w (PT w b (Be f k s)):=by
 intro N;induction N with
 |zero=>intro f hN;omega
 | succ N ih=>
   intro f hN hfn la lc w s k hs hkN hf hC;have RR{P}(h:P:=by
   have HC:=Z (Ac hc1 ih);have HR:=Z (Ac hr1 hC);have hb:=Blk.lt hC;clear hc1 ih hr1 hC;generalize hT:Be f k s=T;go_enter func30,ntmps30;go_wp2_with fail;go_loopg [6] f.len (fun g v6 wr=>∃rf:Fo,∃i:Nat,∃t:Nat×Nat,rf.len=g∧i+g=f.len∧v6= .int .i64 i∧t.1+rf.nodes≤1000000∧rf.nodes≤f.nodes∧Be rf k t=T∧RepF (· ≠ b) w rf (cs.drop (i*7))∧Cn wr b t∧w.grownBy wr (some b))
   case atStart=>exact⟨f,0,s,rfl,by omega,rfl,hs,Nat.le_refl _,hT,by simpa using HR.out.1,HR.out.2,Aj _ _⟩
   case round=>
    obtain⟨rf,i,⟨n,m⟩,hn,hk,rfl,ht,hrn,hcnt,hrf,hCt,hgr⟩:=hrel;clear HR hT;cases rf with
    | nil=>
      have hkI:decide (i<f.len)=false:=by simp[Fo.len]at hn;simp;omega
      exact aN
    | cons h1 k1 n1=>
      simp only[Fo.len]at hn;simp only[Fo.nodes]at ht hrn;subst hn;have hkI:decide (i<f.len)=true:=Ag;obtain⟨pa1,pc1,lb1,ld1,hp1,hl1,hx1,ha1⟩:=RepF.elem (n:=f.len) (lc:=lc) (f:=f) HC.out.1 hrf;have hkf:i+1≤f.len:=Ab;have HA:=Z (WW hCt (k+1) Ab);unfold Be at hcnt;simp only at hcnt;have i0:(0:Int)≤(i:Int):=Ab;have i1:(i:Int)<(f.len:Int):=Ab;have i2:i<f.len:=Ab;have HN:=Z (Ac hcnt (Ac hx1 (Ac hgr hl1)));obtain⟨g1,o1,rfl,hok1,_,z6⟩:∃g1 o1,la=some ⟨g1,o1,none⟩∧g1≠b∧True∧w.cell? ⟨g1,o1+(i*7+6),none⟩=some (.slice lb1 k1.len ld1):=by
       obtain⟨g,o,e,hg,hc⟩:=ha1 6 _ rfl;exact⟨g,o,e,hg,trivial,hc⟩
      have hgl:=World.block_lt_of_cell? w _ z6;clear hcnt hrf hp1 hl1 hx1 ha1 hCt hgr;go_wp2_with fail;refine HA.out.mono ?_;rintro e w2 ⟨rfl,g2,hC2⟩;have gW:=Z (Ah HN.out.2.2.1 g2);cases hL:Bf (n+1) (max m (k+1))with
      | true=>
        have HF:=Z (Ac hC2 (show(n+1,max m (k+1))=T by rw[←HN.out.1,hL];rfl));clear hL g2 hC2;go_wp2;go_end0;exact⟨rfl,gW.out,by rw[←HF.out.2];exact HF.out.1⟩
      | false=>
        have hF:=HN.out.1;rw[hL,if_neg Ae]at hF;have y6:w2.cell? ⟨g1,o1+(i*7+6),none⟩=some (.slice lb1 k1.len ld1):=B6 gW.out z6 (fun e=>hok1 Qo);have HE:=Z (HC.out.2 k1 Ab Ab lb1 ld1 w2 (n+1,max m (k+1)) (k+1) (by simp only;omega) Ab (HN.out.2.2.2.gb gW.out Qh) hC2);have hle:=Gj k1 (k+1) (n+1,max m (k+1));have HF:=Z (Ac hF hle);have hlt2:=Blk.lt hC2;have hgl2:=World.block_lt_of_cell? w2 _ y6;have hw1:IntKind.i64.wrap (((k+1:Nat):Int)+1)=((k+1+1:Nat):Int):=by rw[IntWalk.i64_in _ Ab];push_cast;rfl
        clear hL g2 hC2 hF hle z6;rw[show o1+(i*7+6)=o1+i*7+6 by omega]at y6;go_wp2_with fail;refine HE.out.mono ?_;rintro e w3 ⟨rfl,g3,hC3⟩;have HG:=Z (Ac (Ah gW.out g3) hC3);clear g3 hC3 y6;go_wp2;go_roundg n1.len
        case measure=>omega
        case rel=>exact⟨n1,i+1,_,rfl,by omega,by go_num,by have:=HF.out.2;omega,by omega,HF.out.1,HN.out.2.1,HG.out.2,HG.out.1⟩):=Aa h
   exact QW
end Go.Proofs.YtmcajbhljbbglaaGreatDoor
