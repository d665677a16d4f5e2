/-
  QsC QgA QgB QgC
-/
import Derived.Test.YtbjfaimkiclhgaaGreatDoorCt11
import Derived.Test.YtbjfaimkiclhgaaGreatDoorCt06
set_option linter.all false
set_option maxRecDepth 100000
set_option maxHeartbeats 8000000
namespace Go.Proofs.YtbjfaimkiclhgaaGreatDoor
open Go.Proofs.Tryz
open Go.RowKit
variable{w wr w1:World}{b L i j pc lc n:Nat}{tv wo pv xv bv:Value}{l:List Tok}{g:Bl}{o:Int}{x:Ex}{pa la:Option Addr}{day:Bs->Int}{a:Fo×Bl}
def BU{W:World}(h:Glob w)(hb:4<b)(g:w.grownBy W (some b)):Glob W:=h.gb g (by simp;omega)
def CQB(b:Nat)(tv wo:Value)(l:List Tok)(g:Nat->Res Bl):Prop:=
 ∀w i,Glob w->Par w b tv wo l wordsL i->g i ≠ .out->Calls Tryz.prog 244 #[.pointer (some ⟨b,0,none⟩)] w (Post b tv wo l wordsL w (VBl w) (g i))
section
variable {w2:World}{h:Sd}{nv fv wv:Value}{r:Res StB}
def Cz(k:KS b w L wr h g pv xv bv nv fv wv)(hp:Par wr b tv wo l wordsL i)(hr:r= .ok (h,g) i):
 Post b tv wo l wordsL w (VSt w) r (.returned (.agg (sdC h pv xv bv nv fv wv).toArray)) (set10 wr w.heap.size (.int .i64 h.op) (str h.s) (str h.t) pv xv bv (.int .i64 h.kind) nv fv wv):=by
 obtain⟨g1,g2,_,h4⟩:=k.out;have:=k.bw;exact Post.ok g1 hr h4 (hp.gb g2 (by intro q e;cases e;omega))
def Par.app(hp:Par wr b tv wo l wordsL i){o:Option Nat}(hg:wr.grownBy w1 o)(ho:∀q,o=some q->b<q)(hL:b<L)(j:Nat)(v:Value):Par (w1.setCell ⟨L,j,none⟩ v) b tv wo l wordsL i:=
 (hp.gb hg ho).gb (Am (Aa w1 (some L)) j v) (λq e=>by cases e;exact hL)
def Par.two(h:Par w b tv wo l wordsL i)(g1:w.grownBy w1 (some j))(g2:w1.grownBy w2 (some L))(hj:b<j)(hL:b<L):Par w2 b tv wo l wordsL i:=
 (h.gb g1 (by intro q e;cases e;exact hj)).gb g2 (by intro q e;cases e;exact hL)
def Par.set(hp:Par wr b tv wo l wordsL i)(hL:b<L)(j:Nat)(v:Value):Par (wr.setCell ⟨L,j,none⟩ v) b tv wo l wordsL i:=
 hp.gb (Am (Aa wr (some L)) j v) (λq e=>by cases e;exact hL)
end
section
variable {s t:Bs}{p:List Bs}{f:Fo}{c4:Value}{cap:Nat}
def KP.endQ1(k:KP b w L wr o s t p f g c4 pv j cap bv)(hR:Par wr b tv wo l wordsL i)
 (rp:Cells wr (.slice pa x.h.p.length pc) 1 x.h.p.length (x.h.p.map str) (fre w L pv (.slice (some ⟨j,0,none⟩) (f.len+1) cap) bv)) (rl:RepL (fre w L pv (.slice (some ⟨j,0,none⟩) (f.len+1) cap) bv) wr (.slice la x.kids.len lc) x.kids):
 KA b w L ((D1 wr j (f.len*7) (.int .i64 x.h.op) (str x.h.s) (.int .i64 x.h.vk) (.int .i64 x.h.vn) (str x.h.vs) (.slice pa x.h.p.length pc) (.slice la x.kids.len lc)).setCell ⟨L,4,none⟩ (.slice (some ⟨j,0,none⟩) (f.len+1) cap)) o s t p (f.snoc x) g pv (.slice (some ⟨j,0,none⟩) (f.len+1) cap) bv/\
 Par ((D1 wr j (f.len*7) (.int .i64 x.h.op) (str x.h.s) (.int .i64 x.h.vk) (.int .i64 x.h.vn) (str x.h.vs) (.slice pa x.h.p.length pc) (.slice la x.kids.len lc)).setCell ⟨L,4,none⟩ (.slice (some ⟨j,0,none⟩) (f.len+1) cap)) b tv wo l wordsL i:=
 ⟨k.end1 rp rl,hR.two (KN _ _ _ _ _ _ _ _ _ _) (Am (Aa _ _) 4 _) k.bj.1 k.bL⟩
def KP.endQ2(k:KP b w L wr o s t p f g c4 pv j cap bv)(hR:Par wr b tv wo l wordsL i)
 (rp:Cells wr (.slice pa x.h.p.length pc) 1 x.h.p.length (x.h.p.map str) (fre w L pv (.slice (some ⟨j,0,none⟩) (f.len+1) cap) bv)) (rl:RepL (fre w L pv (.slice (some ⟨j,0,none⟩) (f.len+1) cap) bv) wr (.slice la x.kids.len lc) x.kids):
 KA b w L (D1 (wr.setCell ⟨L,4,none⟩ (.slice (some ⟨j,0,none⟩) (f.len+1) cap)) j (f.len*7) (.int .i64 x.h.op) (str x.h.s) (.int .i64 x.h.vk) (.int .i64 x.h.vn) (str x.h.vs) (.slice pa x.h.p.length pc) (.slice la x.kids.len lc)) o s t p (f.snoc x) g pv (.slice (some ⟨j,0,none⟩) (f.len+1) cap) bv/\
 Par (D1 (wr.setCell ⟨L,4,none⟩ (.slice (some ⟨j,0,none⟩) (f.len+1) cap)) j (f.len*7) (.int .i64 x.h.op) (str x.h.s) (.int .i64 x.h.vk) (.int .i64 x.h.vn) (str x.h.vs) (.slice pa x.h.p.length pc) (.slice la x.kids.len lc)) b tv wo l wordsL i:=
 ⟨k.end2 rp rl,hR.two (Am (Aa _ _) 4 _) (KN _ _ _ _ _ _ _ _ _ _) k.bL k.bj.1⟩
end
def Sw{block:Rd l Bl}(hn:Aj l)(hB:CQB b tv wo l block.f)(hok:∀i,As (Ab l i))(hl:Ay l)(hg:Glob w)(hgb:4<b)(h:Par w b tv wo l wordsL i)(ho:(EF hn wordsL block).f i ≠ .out):
 Calls Tryz.prog 328 #[.pointer (some ⟨b,0,none⟩)] w (Post b tv wo l wordsL w (VSt w) ((EF hn wordsL block).f i)):=by
 have hb:=h.lt;have HO:=S ho;generalize hR:(EF hn wordsL block).f i=R at*;unfold EF at hR;rw[Rd.must_f]at hR;have HQ:=S hR;have HBk:=S hB;have HTk:=S hok;have HSh:=S hl;have HGl:=S (X hg hgb);have HZ:=S (X (Blk.new w (stC 0 (.slice none 0 0)) 134) (show w.grownBy (w.alloc (.cells (stC 0 (.slice none 0 0)).toArray 134 (0,0))) (some b)from Ac (Aa _ _) _));have hp:=h.alloc (.cells (stC 0 (.slice none 0 0)).toArray 134 (0,0));clear hB hok hl hg hgb h ho hR;go_enter func328,ntmps328;go_wp2_with fail;refine(BJ hp HTk.1 Nb (by decide)).mono ?_;intro e w1 hq;obtain⟨g,⟨q,hr,rfl⟩| ⟨u,i1,v,hr,rfl,rfl,hp9⟩⟩:=hq.split
 ·exact⟨rfl,Post.bad (Z HZ.1.2 g) (by rw[<-HQ.1,hr];rfl)⟩
 replace HZ:=S (X (HZ.1.1.gb g (by simp;omega)) (Z HZ.1.2 g));replace hp:=hp9;clear hp9;rw[hr,Res.bind_ok]at HQ;clear hr g;rw[Rd.fin_f]at HQ;go_wp2_with fail;refine(Ba hp).mono ?_;intro e w2 hq;obtain⟨g,⟨q,hr,rfl⟩| ⟨u,i2,v,hr,rfl,rfl,hp9⟩⟩:=hq.split
 ·exact⟨rfl,Post.bad (Z HZ.1.2 g) (by rw[<-HQ.1,hr];rfl)⟩
 replace HZ:=S (X (HZ.1.1.gb g (by simp;omega)) (Z HZ.1.2 g));replace hp:=hp9;clear hp9;rw[hr,Res.bind_ok]at HQ;clear hr g;rw[Rd.bind_f]at HQ;have hl2:=HZ.1.1.lt;go_wp2_with fail;refine(HBk.1 _ _ (BU HGl.1.1 HGl.1.2 HZ.1.2) hp (λe=>HO.1 (by rw[<-HQ.1,e];rfl))).mono ?_;intro e w3 hq;obtain⟨g,⟨q,hr,rfl⟩| ⟨c,i3,v,hr,rfl,⟨kcs,⟨ca,cc,rfl,k1⟩,k2⟩,hp9⟩⟩:=hq.split
 ·exact⟨rfl,Post.bad (Z HZ.1.2 g) (by rw[<-HQ.1,hr];rfl)⟩
 replace HZ:=S (X (HZ.1.1.gb g (by simp;omega)) (Z HZ.1.2 g));replace hp:=hp9;clear hp9;rw[hr,Res.bind_ok]at HQ;clear hr;have hs3:=g.size;have HK:=S (KA.startB HZ.1.1 HZ.1.2 hb (by omega) 11 [] (c:=c) (ca:=ca) (cc:=cc) ⟨kcs,⟨ca,cc,rfl,k1⟩,k2⟩ (λq hq _=>by have:w2.heap.size<=q:=hq;omega));have hp3:=(hp.alloc (.cells #[.slice ca c.len cc] 38 (0,0))).alloc (.cells #[.int .i64 11,str [],str [],.slice none 0 0,.slice none 0 0,.slice (some ⟨w3.heap.size,0,none⟩) 1 1,.int .i64 0,.slice none 0 0,.slice none 0 0,.slice none 0 0] 134 (0,0));replace hp:=hp3;clear g hp3 k1 k2 HZ;have hkl:=HK.1.lt;rw[Rd.bind_f,Rd.ifw_f]at HQ;cases hw:Ar l wordsL i3==Ha with
 | false=>
   go_wp2_with fail;refine mR (Df hp HTk.1 Ha hw) λw4 g=>?_;replace HK:=S (HK.1.gbN g);replace hp:=hp.gbN g;clear g;rw[if_neg (nF hw)]at HQ;clear hw;rw[Rd.pure_f,Res.bind_ok,Rd.must_f]at HQ;go_wp2_with fail;refine(BJ hp HTk.1 Ig (by decide)).mono ?_;intro e w5 hq;obtain⟨g,⟨q,hr,rfl⟩| ⟨u,i5,v,hr,rfl,rfl,hp9⟩⟩:=hq.split
   ·exact⟨rfl,Post.bad (Z HK.1.gr g) (by rw[<-HQ.1,hr];rfl)⟩
   replace HK:=S (HK.1.gb g);replace hp:=hp9;clear hp9;rw[hr,Res.bind_ok]at HQ;clear hr g;rw[Rd.fin_f]at HQ;go_wp2_with fail;refine(Ba hp).mono ?_;intro e w6 hq;obtain⟨g,⟨q,hr,rfl⟩| ⟨u,i6,v,hr,rfl,rfl,hp9⟩⟩:=hq.split
   ·exact⟨rfl,Post.bad (Z HK.1.gr g) (by rw[<-HQ.1,hr];rfl)⟩
   replace HK:=S (HK.1.gb g);replace hp:=hp9;clear hp9;rw[hr,Res.bind_ok]at HQ;clear hr g;rw[Rd.pure_f]at HQ;have HS:=S HK.1.toKS;obtain⟨pa9,xa9,ba9,na9,fa9,wa9,pc9,xc9,bc9,nc9,fc9,wc9,e91,e92,e93,e94,e95,e96⟩:=HS.1.shapes
   (first|cases e91|clear e91);(first|cases e92|clear e92);(first|cases e93|clear e93);(first|cases e94|clear e94);(first|cases e95|clear e95);(first|cases e96|clear e96);have hkb:=HS.1.blk;have hkz:=HS.1.zero;have hkl:=hkb.lt;have hkl2:=hkz.lt;have ck_:=hkb.c10;have cz_:=hkz.c10;clear hkb hkz;go_wp2;have hres9:=Cz HS.1 hp HQ.1.symm;have hblk9:=HS.1.out.2.2.1;refine bZ ?hr9 rfl hres9
   case hr9=>exact A7 rfl _ hblk9 rfl rfl
 | true=>
   go_wp2_with fail;refine(Di hp HTk.1 Ha (by decide) hw).mono ?_;rintro e w4 ⟨rfl,hp9,g⟩;replace HK:=S (HK.1.gb g);replace hp:=hp9;clear g hp9;rw[if_pos hw]at HQ;clear hw;have hkl:=HK.1.lt;rw[Rd.bind_f,Rd.ifw_f]at HQ;cases hw:Ar l wordsL (i3+1)==Jn
   case' false=>
    go_wp2_with fail;refine mR (Df hp HTk.1 Jn hw) λw5 g=>?_;replace HK:=S (HK.1.gbN g);replace hp:=hp.gbN g;clear g;rw[if_neg (nF hw)]at HQ;clear hw;rw[Rd.pure_f,Res.bind_ok,Rd.fin_f]at HQ
   case' true=>
    go_wp2_with fail;refine(Di hp HTk.1 Jn (by decide) hw).mono ?_;rintro e w5 ⟨rfl,hp9,g⟩;replace HK:=S (HK.1.gb g);replace hp:=hp9;clear g hp9;rw[if_pos hw]at HQ;clear hw;have hkl:=HK.1.lt;rw[Rd.name_f0]at HQ;go_wp2_with fail;refine(B6 hp HSh.1).mono ?_;intro e w6 hq;obtain⟨g,⟨q,hr,rfl⟩| ⟨s,i6,v,hr,rfl,rfl,hp9⟩⟩:=hq.split
    ·exact⟨rfl,Post.bad (Z HK.1.gr g) (by rw[<-HQ.1,hr];rfl)⟩
    replace HK:=S (HK.1.gb g);replace hp:=hp9;clear hp9;rw[hr,Res.bind_ok]at HQ;clear hr g;have hkl:=HK.1.lt;have hx1:=HK.1.blk.cell' 1 rfl;have hf1:=HK.1.blk.frozen 1;have hK7:=HK.1.putS s;have hp7:=hp.set HK.1.bL 1 (str s);replace HK:=S hK7;replace hp:=hp7;clear hK7 hp7;go_upto_region 7 with fail;generalize hWW:World.setCell _ _ _=W7 at*;rw[Rd.fin_f]at HQ
   all_goals
    go_wp2_with fail;refine(Ba hp).mono ?_;intro e w7 hq;obtain⟨g,⟨q,hr,rfl⟩| ⟨u,i7,v,hr,rfl,rfl,hp9⟩⟩:=hq.split
    ·exact⟨rfl,Post.bad (Z HK.1.gr g) (by rw[<-HQ.1,hr];rfl)⟩
    replace HK:=S (HK.1.gb g);replace hp:=hp9;clear hp9;rw[hr,Res.bind_ok]at HQ;clear hr g;rw[Rd.bind_f]at HQ;have hkl:=HK.1.lt;have hx5:=HK.1.blk.cell' 5 rfl
    cases hr6:block.f i7 with
    |out=>exact absurd (by rw[<-HQ.1,hr6];rfl) HO.1
    | bad q6=>
      go_wp2_with fail;go_region_with(go_at_call 244;refine(HBk.1 _ _ (BU HGl.1.1 HGl.1.2 (Ae HK.1.gr)) (hp.gbN (Ae (Aa _ none))) (by rw[hr6];simp)).mono ?_;rintro e w6 hq6;rw[hr6]at hq6;obtain⟨g6,rfl⟩:=hq6;refine Bx (P:=Tryz.prog) ⟨rfl,Post.bad (Z (Ae HK.1.gr) g6) (by rw[<-HQ.1,hr6];rfl)⟩ ⟨#[],[]⟩ w6 ?_);all_goals trivial
    |ok c2 i8=>
    rw[hr6,Res.bind_ok,Rd.pure_f,Res.bind_ok,Rd.must_f]at HQ;go_wp2_with fail;obtain⟨i0,hi0,hz0,hz1,hz2⟩:=info_parts Jb;have HI:=S (X hi0 (X hz0 (X hz1 hz2)));have hroom:=(show(Bl.bl c .nil).len<=5 by simp[Bl.len]);have hbL:=HK.1.bL;have hwL:=HK.1.wL;clear hi0 hz0 hz1 hz2
    go_region_law(first
     | (refine step_append_lies _ (by rfl) _ _ 130 (by rfl) (w.heap.size+1) 38 i0 _ 1 24 underlying130 HI.1.1 HI.1.2.1 HI.1.2.2.1 HI.1.2.2.2 rfl (by decide) _ _ ds6 (by rfl) HB.1.2.1 ⟨w6.heap.size,0,none⟩ 1 1 [.slice ca6 (c2).len cc6] (by rfl) rfl (EN _ _ _) (by simp[Value.oneCell']) (by decide) (by unfold maxLen;omega) (by omega) (by simp<;>omega) _ rfl ?_;intro j cap w7 hown hgrow hat hlt;(have HK8:=S (X (HB.1.1.addB' HB.1.2.1 HB.1.2.2.1 HB.1.2.2.2.1 (λq hq=>HK.1.fresh q hq) hown hgrow hat) (Par.app HB.1.2.2.2.2 hgrow (λq hq=>(HB.1.1.belowB q hq).1) hbL 5 (.slice (some ⟨j,0,none⟩) ((Bl.bl c .nil).len+1) cap))));(have hb7:=HB.1.1.blk.gb hgrow HB.1.1.neB);(have f7:=hb7.frozen 5);(have d7:=hb7.cell' 5 rfl);(have l7:=hb7.lt);clear hown hgrow hat hb7 HB)
     | (go_simp;go_at_call 244;refine(HBk.1 _ _ (BU HGl.1.1 HGl.1.2 (An HK.1.gr 1)) (hp.drewN 1) (by rw[hr6];simp)).mono ?_;rintro e w6 hq6;rw[hr6]at hq6;obtain⟨g6,v,rfl,hv6,h6⟩:=hq6;(obtain⟨_,⟨ca6,cc6,rfl,_⟩,_⟩:=id hv6);(have k6:=HK.1.gb (Z (Ae (Aa _ _)) g6));(have l6:=k6.lt);(have d6:=k6.blk.cell' 5 rfl);(have s6:=g6.size);(have k7:=k6.alloc (.cells #[.slice ca6 (c2).len cc6] 38 (0,0)));(obtain⟨ds6,ho6,hr7⟩:=k7.bb);(have gA:=gZ w6 (.cells #[.slice ca6 (c2).len cc6] 38 (0,0)) none);(have HB:=S (X k7 (X ho6 (X hr7 (X (RepV.gb hv6 gA (by simp)) (h6.alloc (.cells #[.slice ca6 (c2).len cc6] 38 (0,0))))))));clear k6 k7 ho6 hr7 hv6 h6 gA g6))
    all_goals
     generalize hWW:World.setCell _ _ _=W10 at*;have HK:=S HK8.1.1;have hp:=HK8.1.2;clear HK8 hx5 d6 d7 f7 l6 l7 s6;go_wp2_with fail;refine(BJ hp HTk.1 Ig (by decide)).mono ?_;intro e w11 hq;obtain⟨g,⟨q,hr,rfl⟩| ⟨u,i11,v,hr,rfl,rfl,hp9⟩⟩:=hq.split
     ·exact⟨rfl,Post.bad (Z HK.1.gr g) (by rw[<-HQ.1,hr];rfl)⟩
     replace HK:=S (HK.1.gb g);replace hp:=hp9;clear hp9;rw[hr,Res.bind_ok]at HQ;clear hr g;rw[Rd.fin_f]at HQ;go_wp2_with fail;refine(Ba hp).mono ?_;intro e w12 hq;obtain⟨g,⟨q,hr,rfl⟩| ⟨u,i12,v,hr,rfl,rfl,hp9⟩⟩:=hq.split
     ·exact⟨rfl,Post.bad (Z HK.1.gr g) (by rw[<-HQ.1,hr];rfl)⟩
     replace HK:=S (HK.1.gb g);replace hp:=hp9;clear hp9;rw[hr,Res.bind_ok]at HQ;clear hr g;rw[Rd.pure_f]at HQ;have HS:=S HK.1.toKS;obtain⟨pa9,xa9,ba9,na9,fa9,wa9,pc9,xc9,bc9,nc9,fc9,wc9,e91,e92,e93,e94,e95,e96⟩:=HS.1.shapes
     (first|cases e91|clear e91);(first|cases e92|clear e92);(first|cases e93|clear e93);(first|cases e94|clear e94);(first|cases e95|clear e95);(first|cases e96|clear e96);have hkb:=HS.1.blk;have hkz:=HS.1.zero;have hkl:=hkb.lt;have hkl2:=hkz.lt;have ck_:=hkb.c10;have cz_:=hkz.c10;clear hkb hkz;go_wp2;have hres9:=Cz HS.1 hp HQ.1.symm;have hblk9:=HS.1.out.2.2.1;refine bZ ?hr9 rfl hres9
     case hr9=>exact A7 rfl _ hblk9 rfl rfl
def Rd.expr_f(hn:Aj l){β:Type}{q:Ex->Rd l β}:((B5 hn day n).bind q).f i=(Ai l day n i).bind λx j=>(q x).f j:=rfl
abbrev VPart(b:Nat)(w:World)(L:Nat)(o:Int):World->Value->Fo×Bl->Prop:=λw' v x=>v= .tuple #[]/\∃pv xv bv,KA b w L w' o [] [] [] x.1 x.2 pv xv bv
def Kf{block:Rd l Bl}(hn:Aj l)(hB:CQB b tv wo l block.f)(hE:CE 208 b tv wo l wordsL (Ai l day n))(hg:Glob w)(hgb:4<b)(k:KA b w L wr o [] [] [] a.1 a.2 pv xv bv)(hm1:a.1.len<=200000)(hm2:a.2.len<=200000)(h:Par wr b tv wo l wordsL i)(ho:(Dy hn day n block a).f i ≠ .out):
 Calls Tryz.prog 347 #[.pointer (some ⟨b,0,none⟩),.pointer (some ⟨L,0,none⟩)] wr (Post b tv wo l wordsL w (VPart b w L o) ((Dy hn day n block a).f i)):=by
 have hb:=h.lt;have HO:=S ho;generalize hR:(Dy hn day n block a).f i=R at*;unfold Dy at hR;rw[Rd.expr_f]at hR;have HQ:=S hR;have HBk:=S hB;have HE:=S hE;have HGl:=S (X hg hgb);have HK:=S k;have hp:=h;clear hB hE hg hgb h ho hR k;have hkl:=HK.1.lt;have hx4:=HK.1.blk.cell' 4 rfl;cases hr6:Ai l day n i with
 |out=>exact absurd (HQu HQ hr6) HO.1
 | bad q6=>
   go_enter func347,ntmps347;go_wp2_with fail;obtain⟨i0,hi0,hz0,hz1,hz2⟩:=info_parts CI;have HI:=S (X hi0 (X hz0 (X hz1 hz2)));obtain⟨xa9,xc9,e9⟩:=HK.1.shapeX
   (first|subst e9|cases e9|clear e9);have hbL:=HK.1.bL;have hwL:=HK.1.wL;have hkl:=HK.1.lt;have hx4:=HK.1.blk.cell' 4 rfl;have n0:(0:Int)<=((a.1).len:Int):=by omega
   have n1:((a.1).len:Int)<(((a.1).len+1:Nat):Int):=by omega
   have n2:((a.1).len:Int)<((a.1).len:Int)+1:=by omega
   have kA:=(HK.1.gbN (Ae (Aa wr none))).alloc (.cells zeroE.toArray 163 (0,0));obtain⟨csA,hoA,hrA⟩:=kA.x;have HA1:=S (X kA (X hoA (X hrA ((hp.drewN 1).alloc (.cells zeroE.toArray 163 (0,0))))));clear hi0 hz0 hz1 hz2 kA hoA hrA;go_region_law(first
    | (refine step_append_lies _ (by rfl) _ _ 129 (by rfl) ((w).heap.size+1) 163 i0 _ 7 104 underlying129 HI.1.1 HI.1.2.1 HI.1.2.2.1 HI.1.2.2.2 rfl (by decide) _ _ csA (by rfl) HA1.1.2.1 ⟨(wr).heap.size,0,none⟩ 1 1 zeroE (by rfl) rfl (AY _ _ _) (by simp[zeroE,Value.oneCell']) (by decide) (by unfold maxLen;omega) (by omega) (by first|omega| (simp<;>omega)) _ rfl ?_;intro j cap w7 hown hgrow hat hlt;(have HP1:=S (X (HA1.1.1.pend rfl HA1.1.2.1 HA1.1.2.2.1 hown hgrow hat) (HA1.1.2.2.2.gb hgrow (λq hq=>(HA1.1.1.belowX q hq).1))));(have f7:=(HA1.1.1.blk.gb hgrow HA1.1.1.neX).frozen 4);(have d7:=(HA1.1.1.blk.gb hgrow HA1.1.1.neX).cell' 4 rfl);(have l7:=HP1.1.1.lt);(have s7:=hgrow.size);(have bj7:=HP1.1.1.bj);clear hown hgrow hat)
    | (go_simp;go_at_call 208;refine(HE.1 _ _ HP1.1.2 (by rw[hr6];simp)).mono ?_;rintro e w8 hq8;rw[hr6]at hq8;obtain⟨g8,rfl⟩:=hq8;refine Bx (P:=Tryz.prog) ⟨rfl,Post.bad (Z HP1.1.1.gr g8) (HQb HQ hr6)⟩ ⟨#[],[]⟩ w8 ?_)
    | (go_simp;go_at_call 208;refine(HE.1 _ _ (HP1.1.2.gb (Am (Aa w7 (some L)) 4 (.slice (some ⟨j,0,none⟩) ((a.1).len+1) cap)) (by intro q e;cases e;omega)) (by rw[hr6];simp)).mono ?_;rintro e w8 hq8;rw[hr6]at hq8;obtain⟨g8,rfl⟩:=hq8;refine Bx (P:=Tryz.prog) ⟨rfl,Post.bad (Z (HP1.1.1.put4 (.slice (some ⟨j,0,none⟩) ((a.1).len+1) cap)).gr g8) (HQb HQ hr6)⟩ ⟨#[],[]⟩ w8 ?_)
    | (go_simp;go_at_call 208;refine(HE.1 _ _ (hp.drewN 1) (by rw[hr6];simp)).mono ?_;rintro e w8 hq8;rw[hr6]at hq8;obtain⟨g8,rfl⟩:=hq8;refine Bx (P:=Tryz.prog) ⟨rfl,Post.bad (Z (Ae HK.1.gr) g8) (HQb HQ hr6)⟩ ⟨#[],[]⟩ w8 ?_)
    | (go_simp;go_at_call 208;refine(HE.1 _ _ HA1.1.2.2.2 (by rw[hr6];simp)).mono ?_;rintro e w8 hq8;rw[hr6]at hq8;obtain⟨g8,rfl⟩:=hq8;refine Bx (P:=Tryz.prog) ⟨rfl,Post.bad (Z HA1.1.1.gr g8) (HQb HQ hr6)⟩ ⟨#[],[]⟩ w8 ?_))
   all_goals trivial
 |ok x i1=>
 replace HQ:=HQo HQ hr6;rw[Rd.fin_f]at HQ;go_enter func347,ntmps347;go_upto_region 0 with fail;go_cut []from 4 (λwx=>(∃xv',KA b w L wx o [] [] [] (a.1.snoc x) a.2 pv xv' bv)/\Par wx b tv wo l wordsL i1)
 case first=>
  obtain⟨i0,hi0,hz0,hz1,hz2⟩:=info_parts CI;have HI:=S (X hi0 (X hz0 (X hz1 hz2)));have hroom:=hm1;obtain⟨xa9,xc9,e9⟩:=HK.1.shapeX
  (first|subst e9|cases e9|clear e9);have hbL:=HK.1.bL;have hwL:=HK.1.wL;have hkl:=HK.1.lt;have hx4:=HK.1.blk.cell' 4 rfl;have n0:(0:Int)<=((a.1).len:Int):=by omega
  have n1:((a.1).len:Int)<(((a.1).len+1:Nat):Int):=by omega
  have n2:((a.1).len:Int)<((a.1).len:Int)+1:=by omega
  have HFr:=S (λq hq=>HK.1.fresh q hq);have kA:=(HK.1.gbN (Ae (Aa wr none))).alloc (.cells zeroE.toArray 163 (0,0));obtain⟨csA,hoA,hrA⟩:=kA.x;have HA1:=S (X kA (X hoA (X hrA ((hp.drewN 1).alloc (.cells zeroE.toArray 163 (0,0))))));clear hi0 hz0 hz1 hz2 kA hoA hrA;go_region_law(first
   | (refine step_append_lies _ (by rfl) _ _ 129 (by rfl) ((w).heap.size+1) 163 i0 _ 7 104 underlying129 HI.1.1 HI.1.2.1 HI.1.2.2.1 HI.1.2.2.2 rfl (by decide) _ _ csB (by rfl) HA2.1.2.1 _ 1 1 zeroE (by rfl) rfl HZ2.1 (by simp[zeroE,Value.oneCell']) (by decide) (by unfold maxLen;omega) (by omega) (by first|omega| (simp<;>omega)) _ rfl ?_;intro j cap w7 hown hgrow hat hlt;(have HPF:=S (X (HA2.1.1.pend rfl HA2.1.2.1 HA2.1.2.2.1 hown hgrow hat) (HA2.1.2.2.2.1.gb hgrow (λq hq=>(HA2.1.1.belowX q hq).1))));(have HVF:=S (JA (f:=a.1) (cap:=cap) HA2.1.2.2.2.2.1 HA2.1.2.2.2.2.2 (λq hq _=>hq) HFr.1 hgrow hat));(have f7:=(HA2.1.1.blk.gb hgrow HA2.1.1.neX).frozen 4);(have d7:=(HA2.1.1.blk.gb hgrow HA2.1.1.neX).cell' 4 rfl);(have l7:=HPF.1.1.lt);(have bj7:=HPF.1.1.bj);(have nj7:=HPF.1.1.neL);(have fe7:=λi=>HPF.1.1.frozenE i);(obtain⟨u70,e70⟩:=HPF.1.1.cellE 0 (by decide));(obtain⟨u71,e71⟩:=HPF.1.1.cellE 1 (by decide));(obtain⟨u72,e72⟩:=HPF.1.1.cellE 2 (by decide));(obtain⟨u73,e73⟩:=HPF.1.1.cellE 3 (by decide));(obtain⟨u74,e74⟩:=HPF.1.1.cellE 4 (by decide));(obtain⟨u75,e75⟩:=HPF.1.1.cellE 5 (by decide));(obtain⟨u76,e76⟩:=HPF.1.1.cellE 6 (by decide));(try simp only[Nat.add_zero]at e70);clear hown hgrow hat)
   | (refine step_append_lies _ (by rfl) _ _ 129 (by rfl) ((w).heap.size+1) 163 i0 _ 7 104 underlying129 HI.1.1 HI.1.2.1 HI.1.2.2.1 HI.1.2.2.2 rfl (by decide) _ _ csA (by rfl) HA1.1.2.1 ⟨(wr).heap.size,0,none⟩ 1 1 zeroE (by rfl) rfl (AY _ _ _) (by simp[zeroE,Value.oneCell']) (by decide) (by unfold maxLen;omega) (by omega) (by first|omega| (simp<;>omega)) _ rfl ?_;intro j cap w7 hown hgrow hat hlt;(have HP1:=S (X (HA1.1.1.pend rfl HA1.1.2.1 HA1.1.2.2.1 hown hgrow hat) (HA1.1.2.2.2.gb hgrow (λq hq=>(HA1.1.1.belowX q hq).1))));(have f7:=(HA1.1.1.blk.gb hgrow HA1.1.1.neX).frozen 4);(have d7:=(HA1.1.1.blk.gb hgrow HA1.1.1.neX).cell' 4 rfl);(have l7:=HP1.1.1.lt);(have s7:=hgrow.size);(have bj7:=HP1.1.1.bj);clear hown hgrow hat)
   | (go_simp;go_at_call 208;refine(HE.1 _ _ HP1.1.2 (by rw[hr6];simp)).mono ?_;rintro e w8 hq6;rw[hr6]at hq6;obtain⟨g8,v,rfl,⟨pa6,pc6,la6,lc6,rfl,q1,q2⟩,h8⟩:=hq6;(have hKP:=HP1.1.1.gb g8);(have HPF:=S (X hKP h8));(have HVF:=S (X (q1.mono (λq hq _=>HP1.1.1.fresh q hq)) (q2.mono (λq hq _=>HP1.1.1.fresh q hq))));(have f8:=hKP.blk.frozen 4);(have d8:=hKP.blk.cell' 4 rfl);(have l8:=hKP.lt);(have bj8:=hKP.bj);(have nj8:=hKP.neL);(have fe8:=λi=>HPF.1.1.frozenE i);(obtain⟨u70,e70⟩:=HPF.1.1.cellE 0 (by decide));(obtain⟨u71,e71⟩:=HPF.1.1.cellE 1 (by decide));(obtain⟨u72,e72⟩:=HPF.1.1.cellE 2 (by decide));(obtain⟨u73,e73⟩:=HPF.1.1.cellE 3 (by decide));(obtain⟨u74,e74⟩:=HPF.1.1.cellE 4 (by decide));(obtain⟨u75,e75⟩:=HPF.1.1.cellE 5 (by decide));(obtain⟨u76,e76⟩:=HPF.1.1.cellE 6 (by decide));(try simp only[Nat.add_zero]at e70);clear hKP q1 q2 g8 h8)
   | (go_simp;go_at_call 208;refine(HE.1 _ _ (HP1.1.2.gb (Am (Aa w7 (some L)) 4 (.slice (some ⟨j,0,none⟩) ((a.1).len+1) cap)) (by intro q e;cases e;omega)) (by rw[hr6];simp)).mono ?_;rintro e w8 hq6;rw[hr6]at hq6;obtain⟨g8,v,rfl,⟨pa6,pc6,la6,lc6,rfl,q1,q2⟩,h8⟩:=hq6;(have hKP:=(HP1.1.1.put4 (.slice (some ⟨j,0,none⟩) ((a.1).len+1) cap)).gb g8);(have HPF:=S (X hKP h8));(have HVF:=S (X (q1.mono (λq hq _=>(HP1.1.1.put4 (.slice (some ⟨j,0,none⟩) ((a.1).len+1) cap)).fresh q hq)) (q2.mono (λq hq _=>(HP1.1.1.put4 (.slice (some ⟨j,0,none⟩) ((a.1).len+1) cap)).fresh q hq))));(have bj8:=hKP.bj);(have nj8:=hKP.neL);(have l8:=hKP.lt);(have fe8:=λi=>HPF.1.1.frozenE i);(obtain⟨u70,e70⟩:=HPF.1.1.cellE 0 (by decide));(obtain⟨u71,e71⟩:=HPF.1.1.cellE 1 (by decide));(obtain⟨u72,e72⟩:=HPF.1.1.cellE 2 (by decide));(obtain⟨u73,e73⟩:=HPF.1.1.cellE 3 (by decide));(obtain⟨u74,e74⟩:=HPF.1.1.cellE 4 (by decide));(obtain⟨u75,e75⟩:=HPF.1.1.cellE 5 (by decide));(obtain⟨u76,e76⟩:=HPF.1.1.cellE 6 (by decide));(try simp only[Nat.add_zero]at e70);clear hKP q1 q2 g8 h8)
   | (go_simp;go_at_call 208;refine(HE.1 _ _ (hp.drewN 1) (by rw[hr6];simp)).mono ?_;rintro e w6 hq6;rw[hr6]at hq6;obtain⟨g6,v,rfl,⟨pa6,pc6,la6,lc6,rfl,q1,q2⟩,h6⟩:=hq6;(have k6:=HK.1.gb (Z (Ae (Aa _ _)) g6));(have l6:=k6.lt);(have s6:=g6.size);(have d6:=k6.blk.cell' 4 rfl);(have k7:=k6.alloc (.cells zeroE.toArray 163 (0,0)));(obtain⟨csB,ho6,hr7⟩:=k7.x);(have gA:=gZ w6 (.cells zeroE.toArray 163 (0,0)) none);(have HA2:=S (X k7 (X ho6 (X hr7 (X (h6.alloc (.cells zeroE.toArray 163 (0,0))) (X (q1.gb gA (by simp)) (q2.gb gA (by simp))))))));(have HZ2:=S (AY w6 zeroE 163));clear k6 k7 ho6 hr7 gA q1 q2 h6 g6)
   | (go_simp;go_at_call 208;refine(HE.1 _ _ HA1.1.2.2.2 (by rw[hr6];simp)).mono ?_;rintro e w6 hq6;rw[hr6]at hq6;obtain⟨g6,v,rfl,⟨pa6,pc6,la6,lc6,rfl,q1,q2⟩,h6⟩:=hq6;(have k6:=HA1.1.1.gb g6);(have l6:=k6.lt);(have s6:=g6.size);(have d6:=k6.blk.cell' 4 rfl);(obtain⟨csB,ho6,hr7⟩:=k6.x);(have HA2:=S (X k6 (X ho6 (X hr7 (X h6 (X (q1.mono (ok':=Al (wr).heap.size) (λq hq _=>Nat.le_of_succ_le (by simpa using hq))) (q2.mono (ok':=Al (wr).heap.size) (λq hq _=>Nat.le_of_succ_le (by simpa using hq)))))))));(have HZ2:=S (show ∀i u,zeroE[i]? =some u->w6.cell? ((⟨(wr).heap.size,0,none⟩:Addr).add i)=some u from λi u hu=>KG (((Blk.new (World.drew wr) zeroE 163).gb g6 (by simp;omega)).cell' i hu)));clear k6 ho6 hr7 q1 q2 h6 g6))
  all_goals
   go_wp2_with fail;go_meet
   case rel=>
    show(∃xv',KA b w L _ o [] [] [] (a.1.snoc x) a.2 pv xv' bv)/\Par _ b tv wo l wordsL i1;have hE1:=HPF.1.1.endQ1 HPF.1.2 HVF.1.1 HVF.1.2;have hE2:=HPF.1.1.endQ2 HPF.1.2 HVF.1.1 HVF.1.2;simp only[D1]at hE1 hE2;first
    |exact⟨⟨_,by with_reducible exact hE1.1⟩,by with_reducible exact hE1.2⟩
    |exact⟨⟨_,by with_reducible exact hE2.1⟩,by with_reducible exact hE2.2⟩
 case rest=>
  obtain⟨⟨xv',hK⟩,hp1⟩:=hcut;replace HK:=S hK;replace hp:=hp1;clear hK hp1 hr6 hx4 hkl;go_wp2_with fail;refine(Ba hp).mono ?_;intro e w1 hq;obtain⟨g,⟨q,hr,rfl⟩| ⟨u,i2,v,hr,rfl,rfl,hp9⟩⟩:=hq.split
  ·exact PBd HK.1.gr g HQ hr
  replace HK:=S (HK.1.gb g);replace hp:=hp9;clear hp9;replace HQ:=HQo HQ hr;clear hr g;rw[Rd.bind_f]at HQ;have hkl:=HK.1.lt;have hx5:=HK.1.blk.cell' 5 rfl;cases hr6:block.f i2 with
  |out=>exact absurd (HQu HQ hr6) HO.1
  | bad q6=>
    go_wp2_with fail;go_region_with(go_at_call 244;refine(HBk.1 _ _ (BU HGl.1.1 HGl.1.2 (Ae HK.1.gr)) (hp.gbN (Ae (Aa _ none))) (by rw[hr6];simp)).mono ?_;rintro e w6 hq6;rw[hr6]at hq6;obtain⟨g6,rfl⟩:=hq6;refine Bx (P:=Tryz.prog) ⟨rfl,Post.bad (Z (Ae HK.1.gr) g6) (HQb HQ hr6)⟩ ⟨#[],[]⟩ w6 ?_);all_goals trivial
  |ok c i3=>
  replace HQ:=HQo HQ hr6;rw[Rd.pure_f]at HQ;go_wp2_with fail;obtain⟨i0,hi0,hz0,hz1,hz2⟩:=info_parts Jb;have HI:=S (X hi0 (X hz0 (X hz1 hz2)));have hroom:=hm2;have hbL:=HK.1.bL;have hwL:=HK.1.wL;clear hi0 hz0 hz1 hz2;go_region_law(first
   | (refine step_append_lies _ (by rfl) _ _ 130 (by rfl) (w.heap.size+1) 38 i0 _ 1 24 underlying130 HI.1.1 HI.1.2.1 HI.1.2.2.1 HI.1.2.2.2 rfl (by decide) _ _ ds6 (by rfl) HB.1.2.1 ⟨w6.heap.size,0,none⟩ 1 1 [.slice ca6 (c).len cc6] (by rfl) rfl (EN _ _ _) (by simp[Value.oneCell']) (by decide) (by unfold maxLen;omega) (by omega) (by simp<;>omega) _ rfl ?_;intro j cap w7 hown hgrow hat hlt;(have HK8:=S (X (HB.1.1.addB' HB.1.2.1 HB.1.2.2.1 HB.1.2.2.2.1 (λq hq=>HK.1.fresh q hq) hown hgrow hat) (Par.app HB.1.2.2.2.2 hgrow (λq hq=>(HB.1.1.belowB q hq).1) hbL 5 (.slice (some ⟨j,0,none⟩) (a.2.len+1) cap))));(have hb7:=HB.1.1.blk.gb hgrow HB.1.1.neB);(have f7:=hb7.frozen 5);(have d7:=hb7.cell' 5 rfl);(have l7:=hb7.lt);clear hown hgrow hat hb7 HB)
   | (go_simp;go_at_call 244;refine(HBk.1 _ _ (BU HGl.1.1 HGl.1.2 (An HK.1.gr 1)) (hp.drewN 1) (by rw[hr6];simp)).mono ?_;rintro e w6 hq6;rw[hr6]at hq6;obtain⟨g6,v,rfl,hv6,h6⟩:=hq6;(obtain⟨_,⟨ca6,cc6,rfl,_⟩,_⟩:=id hv6);(have k6:=HK.1.gb (Z (Ae (Aa _ _)) g6));(have l6:=k6.lt);(have d6:=k6.blk.cell' 5 rfl);(have s6:=g6.size);(have k7:=k6.alloc (.cells #[.slice ca6 (c).len cc6] 38 (0,0)));(obtain⟨ds6,ho6,hr7⟩:=k7.bb);(have gA:=gZ w6 (.cells #[.slice ca6 (c).len cc6] 38 (0,0)) none);(have HB:=S (X k7 (X ho6 (X hr7 (X (RepV.gb hv6 gA (by simp)) (h6.alloc (.cells #[.slice ca6 (c).len cc6] 38 (0,0))))))));clear k6 k7 ho6 hr7 hv6 h6 gA g6))
  all_goals
   go_wp2_with fail;generalize hWW:World.setCell _ _ _=W8 at*;have HK:=S HK8.1.1;have hp:=HK8.1.2;go_end0;exact Post.ok HK.1.gr HQ.1.symm ⟨rfl,_,_,_,HK.1⟩ hp
def K3{block:Rd l Bl}{hn:Aj l}{a2:Fo×Bl}(h:(Dy hn day n block a).f i= .ok a2 j):a2.1.len=a.1.len+1/\a2.2.len=a.2.len+1:=by
 unfold Dy at h;rw[Rd.expr_f]at h;cases h1:Ai l day n i with
 |out=>rw[h1]at h;cases h
 |bad q=>rw[h1]at h;cases h
 | ok x i1=>
   rw[h1,Res.bind_ok,Rd.fin_f]at h;cases h2:B4 l i1 with
   |out=>rw[h2]at h;cases h
   |bad q=>rw[h2]at h;cases h
   | ok u i2=>
     rw[h2,Res.bind_ok,Rd.bind_f]at h;cases h3:block.f i2 with
     |out=>rw[h3]at h;cases h
     |bad q=>rw[h3]at h;cases h
     | ok c i3=>
       rw[h3,Res.bind_ok,Rd.pure_f]at h;cases h;exact⟨Fo.len_snoc _ _,by simp[Bl.len_app,Bl.len]⟩
def PartQ(hn:Aj l)(day:Bs->Int)(n:Nat)(block:Rd l Bl)(b:Nat)(tv wo:Value)(w:World)(more:Bs)(rest:Fo×Bl->Rd l StB)(R:Res StB)(g:Nat)(wr:World):Prop:=
 ∃a j,(∃pv xv bv,KA b w (w.heap.size+1) wr 3 [] [] [] a.1 a.2 pv xv bv)/\Par wr b tv wo l wordsL j/\a.1.len+g<=n+1/\a.2.len+g<=n+1/\((Rd.moreW wordsL more (Dy hn day n block) g a).bind rest).f j=R
def LI{block:Rd l Bl}(hn:Aj l)(hnn:n<=100000)(hB:CQB b tv wo l block.f)(hE:CE 208 b tv wo l wordsL (Ai l day n))(hok:∀i,As (Ab l i))(hg:Glob w)(hgb:4<b){more other last:Bs}(hm:more≠[])(hot:other≠[])(hla:last≠[])(h:Par w b tv wo l wordsL i)(ho:(Em hn wordsL day n block more other last).f i ≠ .out):
 Calls Tryz.prog 324 #[.pointer (some ⟨b,0,none⟩),str more,str other,str last] w (Post b tv wo l wordsL w (VSt w) ((Em hn wordsL day n block more other last).f i)):=by
 have hb:=h.lt;have HO:=S ho;generalize hR:(Em hn wordsL day n block more other last).f i=R at*;unfold Em at hR;rw[Rd.bind_f]at hR;have HQ:=S hR;have HBk:=S hB;have HE:=S hE;have HTk:=S hok;have HGl:=S (X hg hgb);have HN:=S (X hm (X hot hla));have hz:=Blk.new w (stC 0 (.slice none 0 0)) 134;have gz:w.grownBy (w.alloc (.cells (stC 0 (.slice none 0 0)).toArray 134 (0,0))) (some b):=Ac (Aa _ _) _;have hKK:=KA.start hz gz hb (by simp) 3 [];rw[show(w.alloc (.cells (stC 0 (.slice none 0 0)).toArray 134 (0,0))).heap.size=w.heap.size+1 by simp]at hKK;have HK:=S hKK;have hp:=(h.alloc (.cells (stC 0 (.slice none 0 0)).toArray 134 (0,0))).alloc (.cells #[.int .i64 3,str [],str [],.slice none 0 0,.slice none 0 0,.slice none 0 0,.int .i64 0,.slice none 0 0,.slice none 0 0,.slice none 0 0] 134 (0,0));clear hB hE hok hg hgb hm hot hla h ho hR hz gz hKK;go_enter func324,ntmps324;go_wp2_with fail;refine(Kf (a:=(.nil,.nil)) hn HBk.1 HE.1 HGl.1.1 HGl.1.2 HK.1 (by simp[Fo.len]) (by simp[Bl.len]) hp (λe=>HO.1 (by rw[<-HQ.1,e];rfl))).mono ?_;intro e w1 hq;obtain⟨g,⟨q,hr,rfl⟩| ⟨a,i1,v,hr,rfl,⟨rfl,pv9,xv9,bv9,hK9⟩,hp9⟩⟩:=hq.split
 ·exact⟨rfl,Post.bad g (by rw[<-HQ.1,hr];rfl)⟩
 replace HK:=S hK9;replace hp:=hp9;have HA:=S (K3 hr);rw[hr,Res.bind_ok]at HQ;clear hr hK9 hp9 g;go_wp2_with fail;go_loopg [] n (λg wr=>PartQ hn day n block b tv wo w more (λa=>(Rd.ifw wordsL other (Rd.fin.bind λ_=>block.bind λb=>Rd.pure (a.2.app (.bl b .nil))) (Rd.pure a.2)).bind λbs=>(Rd.must wordsL last).bind λ_=>Rd.fin.bind λ_=>Rd.pure ({sd0 3 []with x:=a.1},bs)) R g wr)
 case atStart=>exact⟨a,i1,⟨_,_,_,HK.1⟩,hp,by have:=HA.1.1;simp[Fo.len]at this;omega,by have:=HA.1.2;simp[Bl.len]at this;omega,HQ.1⟩
 case round=>
  obtain⟨a,j,⟨pv,xv,bv,hK⟩,hp1,hm1,hm2,hq⟩:=hrel;have HK:=S hK;have hp:=hp1;have HQ:=S hq;clear hK hp1 hq;cases gk with
  |zero=>exact absurd HQ.1.symm HO.1
  |succ m=>
  rw[Rd.bind_f,Rd.moreW_f]at HQ;have hkl:=HK.1.lt;cases hw:Ar l wordsL j==more with
  | true=>
    go_wp2_with fail;refine(Di hp HTk.1 more HN.1.1 hw).mono ?_;rintro e w3 ⟨rfl,hp9,g⟩;replace HK:=S (HK.1.gb g);replace hp:=hp9;clear g hp9;rw[if_pos hw]at HQ;clear hw;rw[Rd.bind_f]at HQ;go_wp2_with fail;refine(Kf (a:=a) hn HBk.1 HE.1 HGl.1.1 HGl.1.2 HK.1 (by omega) (by omega) hp (λe=>HO.1 (by rw[<-HQ.1,e];rfl))).mono ?_;intro e w4 hq;obtain⟨g,⟨q,hr,rfl⟩| ⟨a2,i2,v,hr,rfl,⟨rfl,pv9,xv9,bv9,hK9⟩,hp9⟩⟩:=hq.split
    ·exact⟨rfl,Post.bad g (by rw[<-HQ.1,hr];rfl)⟩
    replace HK:=S hK9;replace hp:=hp9;have HA:=S (K3 hr);rw[hr,Res.bind_ok]at HQ;clear hr hK9 hp9 g;go_wp2;go_roundg m
    case measure=>omega
    case rel=>exact⟨a2,i2,⟨_,_,_,HK.1⟩,hp,by have:=HA.1.1;omega,by have:=HA.1.2;omega,HQ.1⟩
  | false=>
    go_wp2_with fail;refine mR (Df hp HTk.1 more hw) λw3 g=>?_;replace HK:=S (HK.1.gbN g);replace hp:=hp.gbN g;clear g;rw[if_neg (nF hw)]at HQ;clear hw;rw[Res.bind_ok,Rd.bind_f,Rd.ifw_f]at HQ;have hkl:=HK.1.lt;cases hw:Ar l wordsL j==other with
    | false=>
      go_wp2_with fail;refine mR (Df hp HTk.1 other hw) λw4 g=>?_;replace HK:=S (HK.1.gbN g);replace hp:=hp.gbN g;clear g;rw[if_neg (nF hw)]at HQ;clear hw;rw[Rd.pure_f,Res.bind_ok,Rd.must_f]at HQ;go_wp2_with fail;refine(BJ hp HTk.1 last HN.1.2.2).mono ?_;intro e w5 hq;obtain⟨g,⟨q,hr,rfl⟩| ⟨u,i5,v,hr,rfl,rfl,hp9⟩⟩:=hq.split
      ·exact⟨rfl,Post.bad (Z HK.1.gr g) (by rw[<-HQ.1,hr];rfl)⟩
      replace HK:=S (HK.1.gb g);replace hp:=hp9;clear hp9;rw[hr,Res.bind_ok]at HQ;clear hr g;rw[Rd.fin_f]at HQ;go_wp2_with fail;refine(Ba hp).mono ?_;intro e w6 hq;obtain⟨g,⟨q,hr,rfl⟩| ⟨u,i6,v,hr,rfl,rfl,hp9⟩⟩:=hq.split
      ·exact⟨rfl,Post.bad (Z HK.1.gr g) (by rw[<-HQ.1,hr];rfl)⟩
      replace HK:=S (HK.1.gb g);replace hp:=hp9;clear hp9;rw[hr,Res.bind_ok]at HQ;clear hr g;rw[Rd.pure_f]at HQ;have HS:=S HK.1.toKS;obtain⟨pa9,xa9,ba9,na9,fa9,wa9,pc9,xc9,bc9,nc9,fc9,wc9,e91,e92,e93,e94,e95,e96⟩:=HS.1.shapes
      (first|cases e91|clear e91);(first|cases e92|clear e92);(first|cases e93|clear e93);(first|cases e94|clear e94);(first|cases e95|clear e95);(first|cases e96|clear e96);have hkb:=HS.1.blk;have hkz:=HS.1.zero;have hkl:=hkb.lt;have hkl2:=hkz.lt;have ck_:=hkb.c10;have cz_:=hkz.c10;clear hkb hkz;go_wp2;have hres9:=Cz HS.1 hp HQ.1.symm;have hblk9:=HS.1.out.2.2.1;refine bZ ?hr9 rfl hres9
      case hr9=>exact A7 rfl _ hblk9 rfl rfl
    | true=>
      go_wp2_with fail;refine(Di hp HTk.1 other HN.1.2.1 hw).mono ?_;rintro e w4 ⟨rfl,hp9,g⟩;replace HK:=S (HK.1.gb g);replace hp:=hp9;clear g hp9;rw[if_pos hw]at HQ;clear hw;rw[Rd.fin_f]at HQ;go_wp2_with fail;refine(Ba hp).mono ?_;intro e w5 hq;obtain⟨g,⟨q,hr,rfl⟩| ⟨u,i5,v,hr,rfl,rfl,hp9⟩⟩:=hq.split
      ·exact⟨rfl,Post.bad (Z HK.1.gr g) (by rw[<-HQ.1,hr];rfl)⟩
      replace HK:=S (HK.1.gb g);replace hp:=hp9;clear hp9;rw[hr,Res.bind_ok]at HQ;clear hr g;rw[Rd.bind_f]at HQ;have hkl:=HK.1.lt;have hx5:=HK.1.blk.cell' 5 rfl;cases hr6:block.f i5 with
      |out=>exact absurd (by rw[<-HQ.1,hr6];rfl) HO.1
      | bad q6=>
        go_wp2_with fail;go_region_with(go_at_call 244;refine(HBk.1 _ _ (BU HGl.1.1 HGl.1.2 (Ae HK.1.gr)) (hp.gbN (Ae (Aa _ none))) (by rw[hr6];simp)).mono ?_;rintro e w6 hq6;rw[hr6]at hq6;obtain⟨g6,rfl⟩:=hq6;refine Bx (P:=Tryz.prog) ⟨rfl,Post.bad (Z (Ae HK.1.gr) g6) (by rw[<-HQ.1,hr6];rfl)⟩ ⟨#[],[]⟩ w6 ?_);all_goals trivial
      |ok c i6=>
      rw[hr6,Res.bind_ok,Rd.pure_f,Res.bind_ok,Rd.must_f]at HQ;go_wp2_with fail;obtain⟨i0,HI⟩:=iPz Jb;have hroom:=(show a.2.len<=200000 by omega);have hbL:=HK.1.bL;have hwL:=HK.1.wL;go_region_law(first
       | (refine step_append_lies _ (by rfl) _ _ 130 (by rfl) (w.heap.size+1) 38 i0 _ 1 24 underlying130 HI.1.1 HI.1.2.1 HI.1.2.2.1 HI.1.2.2.2 rfl (by decide) _ _ ds6 (by rfl) HB.1.2.1 ⟨w6.heap.size,0,none⟩ 1 1 [.slice ca6 (c).len cc6] (by rfl) rfl (EN _ _ _) (by simp[Value.oneCell']) (by decide) (by unfold maxLen;omega) (by omega) (by simp<;>omega) _ rfl ?_;intro j cap w7 hown hgrow hat hlt;(have HK8:=S (X (HB.1.1.addB' HB.1.2.1 HB.1.2.2.1 HB.1.2.2.2.1 (λq hq=>HK.1.fresh q hq) hown hgrow hat) (Par.app HB.1.2.2.2.2 hgrow (λq hq=>(HB.1.1.belowB q hq).1) hbL 5 (.slice (some ⟨j,0,none⟩) (a.2.len+1) cap))));(have hb7:=HB.1.1.blk.gb hgrow HB.1.1.neB);(have f7:=hb7.frozen 5);(have d7:=hb7.cell' 5 rfl);(have l7:=hb7.lt);clear hown hgrow hat hb7 HB)
       | (go_simp;go_at_call 244;refine(HBk.1 _ _ (BU HGl.1.1 HGl.1.2 (An HK.1.gr 1)) (hp.drewN 1) (by rw[hr6];simp)).mono ?_;rintro e w6 hq6;rw[hr6]at hq6;obtain⟨g6,v,rfl,hv6,h6⟩:=hq6;(obtain⟨_,⟨ca6,cc6,rfl,_⟩,_⟩:=id hv6);(have k6:=HK.1.gb (Z (Ae (Aa _ _)) g6));(have l6:=k6.lt);(have d6:=k6.blk.cell' 5 rfl);(have s6:=g6.size);(have k7:=k6.alloc (.cells #[.slice ca6 (c).len cc6] 38 (0,0)));(obtain⟨ds6,ho6,hr7⟩:=k7.bb);(have gA:=gZ w6 (.cells #[.slice ca6 (c).len cc6] 38 (0,0)) none);(have HB:=S (X k7 (X ho6 (X hr7 (X (RepV.gb hv6 gA (by simp)) (h6.alloc (.cells #[.slice ca6 (c).len cc6] 38 (0,0))))))));clear k6 k7 ho6 hr7 hv6 h6 gA g6))
      all_goals
       generalize hWW:World.setCell _ _ _=W10 at*;have HK:=S HK8.1.1;have hp:=HK8.1.2;clear HK8 hx5 d6 d7 f7 l6 l7 s6;go_wp2_with fail;refine(BJ hp HTk.1 last HN.1.2.2).mono ?_;intro e w11 hq;obtain⟨g,⟨q,hr,rfl⟩| ⟨u,i11,v,hr,rfl,rfl,hp9⟩⟩:=hq.split
       ·exact⟨rfl,Post.bad (Z HK.1.gr g) (by rw[<-HQ.1,hr];rfl)⟩
       replace HK:=S (HK.1.gb g);replace hp:=hp9;clear hp9;rw[hr,Res.bind_ok]at HQ;clear hr g;rw[Rd.fin_f]at HQ;go_wp2_with fail;refine(Ba hp).mono ?_;intro e w12 hq;obtain⟨g,⟨q,hr,rfl⟩| ⟨u,i12,v,hr,rfl,rfl,hp9⟩⟩:=hq.split
       ·exact⟨rfl,Post.bad (Z HK.1.gr g) (by rw[<-HQ.1,hr];rfl)⟩
       replace HK:=S (HK.1.gb g);replace hp:=hp9;clear hp9;rw[hr,Res.bind_ok]at HQ;clear hr g;rw[Rd.pure_f]at HQ;have HS:=S HK.1.toKS;obtain⟨pa9,xa9,ba9,na9,fa9,wa9,pc9,xc9,bc9,nc9,fc9,wc9,e91,e92,e93,e94,e95,e96⟩:=HS.1.shapes
       (first|cases e91|clear e91);(first|cases e92|clear e92);(first|cases e93|clear e93);(first|cases e94|clear e94);(first|cases e95|clear e95);(first|cases e96|clear e96);have hkb:=HS.1.blk;have hkz:=HS.1.zero;have hkl:=hkb.lt;have hkl2:=hkz.lt;have ck_:=hkb.c10;have cz_:=hkz.c10;clear hkb hkz;go_wp2;have hres9:=Cz HS.1 hp HQ.1.symm;have hblk9:=HS.1.out.2.2.1;refine bZ ?hr9 rfl hres9
       case hr9=>exact A7 rfl _ hblk9 rfl rfl
end Go.Proofs.YtbjfaimkiclhgaaGreatDoor
