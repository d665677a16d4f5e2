/-
  QsC QgA QgB QgC KgF KgI RrL KgC KgU KgO Conc SizeB SizeC Twice RsI RpA VaB VaC WrV WrD WrT
-/
import Derived.Test.YtbjfaimkiclhgaaGreatDoorCr10
import Derived.Test.YtbjfaimkiclhgaaGreatDoorCr05
import Derived.Test.YtbjfaimkiclhgaaGreatDoorCr04
import Derived.Test.YtbjfaimkiclhgaaGreatDoorCr03
import Derived.Test.YtbjfaimkiclhgaaGreatDoorCr02
import Derived.Deep.Cut
import Derived.Laws.AppendOwn
import Derived.Laws.OwnMore
import Derived.Test.YtbjfaimkiclhgaaGreatDoorCr06
import Derived.Test.YtbjfaimkiclhgaaGreatDoorCr08
import Derived.Laws.AppendOwnNone
import Derived.Lib.MapLaws
import Derived.Maps.Own
import Derived.Test.YtbjfaimkiclhgaaGreatDoorCr09
import Derived.Lib.ItoaMem
set_option linter.all false
set_option maxRecDepth 100000
set_option maxHeartbeats 8000000
namespace Go.Proofs.YtbjfaimkiclhgaaGreatDoor
open Go.Proofs.Tryz
open Go.RowKit
variable{w W wr w1:World}{b L i j pc lc n m k u:Nat}{tv wo pv xv bv:Value}{l:List Tok}{g:Bl}{o:Int}{s:Bs}{x:Ex}{pa la:Option Addr}{day:Bs->Int}{a:Fo×Bl}{st:RS}{P:Program}{ok ok':Nat->Prop}{d:Wd}
def BW(h:Glob w)(hb:4<b)(g:w.grownBy W (some b)):Glob W:=h.gb g (by simp;omega)
def CQB(b:Nat)(tv wo:Value)(l:List Tok)(g:Nat->Res Bl):Prop:=
 ∀w i,Glob w->Par w b tv wo l wordsL i->g i ≠ .out->Calls Tryz.prog 244 #[.pointer (some ⟨b,0,none⟩)] w (Post b tv wo l wordsL w (VBl w) (g i))
section
variable {w2:World}{h:Sd}{nv fv wv:Value}{r:Res StB}
def C1(k:KS b w L wr h g pv xv bv nv fv wv)(hp:Par wr b tv wo l wordsL i)(hr:r= .ok (h,g) i):
 Post b tv wo l wordsL w (VSt w) r (.returned (.agg (sdC h pv xv bv nv fv wv).toArray)) (set10 wr w.heap.size (.int .i64 h.op) (str h.s) (str h.t) pv xv bv (.int .i64 h.kind) nv fv wv):=by
 obtain⟨g1,g2,_,h4⟩:=k.out;have:=k.bw;exact Post.ok g1 hr h4 (hp.gb g2 (by intro q e;cases e;omega))
def Par.app(hp:Par wr b tv wo l wordsL i){o:Option Nat}(hg:wr.grownBy w1 o)(ho:∀q,o=some q->b<q)(hL:b<L)(j:Nat)(v:Value):Par (w1.setCell ⟨L,j,none⟩ v) b tv wo l wordsL i:=
 (hp.gb hg ho).gb (Ai (Aa w1 (some L)) j v) (λq e=>by cases e;exact hL)
def Par.two(h:Par w b tv wo l wordsL i)(g1:w.grownBy w1 (some j))(g2:w1.grownBy w2 (some L))(hj:b<j)(hL:b<L):Par w2 b tv wo l wordsL i:=
 (h.gb g1 (by intro q e;cases e;exact hj)).gb g2 (by intro q e;cases e;exact hL)
def Par.set(hp:Par wr b tv wo l wordsL i)(hL:b<L)(j:Nat)(v:Value):Par (wr.setCell ⟨L,j,none⟩ v) b tv wo l wordsL i:=
 hp.gb (Ai (Aa wr (some L)) j v) (λq e=>by cases e;exact hL)
end
section
variable {t:Bs}{p:List Bs}{f:Fo}{c4:Value}{cap:Nat}
def KP.endQ1(k:KP b w L wr o s t p f g c4 pv j cap bv)(hR:Par wr b tv wo l wordsL i)
 (rp:Cells wr (.slice pa x.h.p.length pc) 1 x.h.p.length (x.h.p.map str) (fre w L pv (.slice (some ⟨j,0,none⟩) (f.len+1) cap) bv)) (rl:RepL (fre w L pv (.slice (some ⟨j,0,none⟩) (f.len+1) cap) bv) wr (.slice la x.kids.len lc) x.kids):
 KA b w L ((D6 wr j (f.len*7) (.int .i64 x.h.op) (str x.h.s) (.int .i64 x.h.vk) (.int .i64 x.h.vn) (str x.h.vs) (.slice pa x.h.p.length pc) (.slice la x.kids.len lc)).setCell ⟨L,4,none⟩ (.slice (some ⟨j,0,none⟩) (f.len+1) cap)) o s t p (f.snoc x) g pv (.slice (some ⟨j,0,none⟩) (f.len+1) cap) bv/\
 Par ((D6 wr j (f.len*7) (.int .i64 x.h.op) (str x.h.s) (.int .i64 x.h.vk) (.int .i64 x.h.vn) (str x.h.vs) (.slice pa x.h.p.length pc) (.slice la x.kids.len lc)).setCell ⟨L,4,none⟩ (.slice (some ⟨j,0,none⟩) (f.len+1) cap)) b tv wo l wordsL i:=
 ⟨k.end1 rp rl,hR.two (Lg _ _ _ _ _ _ _ _ _ _) (Ai (Aa _ _) 4 _) k.bj.1 k.bL⟩
def KP.endQ2(k:KP b w L wr o s t p f g c4 pv j cap bv)(hR:Par wr b tv wo l wordsL i)
 (rp:Cells wr (.slice pa x.h.p.length pc) 1 x.h.p.length (x.h.p.map str) (fre w L pv (.slice (some ⟨j,0,none⟩) (f.len+1) cap) bv)) (rl:RepL (fre w L pv (.slice (some ⟨j,0,none⟩) (f.len+1) cap) bv) wr (.slice la x.kids.len lc) x.kids):
 KA b w L (D6 (wr.setCell ⟨L,4,none⟩ (.slice (some ⟨j,0,none⟩) (f.len+1) cap)) j (f.len*7) (.int .i64 x.h.op) (str x.h.s) (.int .i64 x.h.vk) (.int .i64 x.h.vn) (str x.h.vs) (.slice pa x.h.p.length pc) (.slice la x.kids.len lc)) o s t p (f.snoc x) g pv (.slice (some ⟨j,0,none⟩) (f.len+1) cap) bv/\
 Par (D6 (wr.setCell ⟨L,4,none⟩ (.slice (some ⟨j,0,none⟩) (f.len+1) cap)) j (f.len*7) (.int .i64 x.h.op) (str x.h.s) (.int .i64 x.h.vk) (.int .i64 x.h.vn) (str x.h.vs) (.slice pa x.h.p.length pc) (.slice la x.kids.len lc)) b tv wo l wordsL i:=
 ⟨k.end2 rp rl,hR.two (Ai (Aa _ _) 4 _) (Lg _ _ _ _ _ _ _ _ _ _) k.bL k.bj.1⟩
end
def SJ{block:Rd l Bl}(hn:Al l)(hB:CQB b tv wo l block.f)(hok:∀i,At (Ab l i))(hl:A0 l)(hg:Glob w)(hgb:4<b)(h:Par w b tv wo l wordsL i)(ho:(EN hn wordsL block).f i ≠ .out):
 Calls Tryz.prog 328 #[.pointer (some ⟨b,0,none⟩)] w (Post b tv wo l wordsL w (VSt w) ((EN hn wordsL block).f i)):=by
 have hb:=h.lt;have HO:=S ho;generalize hR:(EN hn wordsL block).f i=R at*;unfold EN at hR;rw[Rd.must_f]at hR;have HQ:=S hR;have HBk:=S hB;have HTk:=S hok;have HSh:=S hl;have HGl:=S (X hg hgb);have HZ:=S (X (Blk.new w (stC 0 (.slice none 0 0)) 134) (show w.grownBy (w.alloc (.cells (stC 0 (.slice none 0 0)).toArray 134 (0,0))) (some b)from Ac (Aa _ _) _));have hp:=h.alloc (.cells (stC 0 (.slice none 0 0)).toArray 134 (0,0));clear hB hok hl hg hgb h ho hR;go_enter func328,ntmps328;go_wp2_with fail;refine(BK hp HTk.1 N6 (by decide)).mono ?_;intro e w1 hq;obtain⟨g,⟨q,hr,rfl⟩| ⟨u,i1,v,hr,rfl,rfl,hp9⟩⟩:=hq.split
 ·exact⟨rfl,Post.bad (Z HZ.1.2 g) (by rw[<-HQ.1,hr];rfl)⟩
 replace HZ:=S (X (HZ.1.1.gb g (by simp;omega)) (Z HZ.1.2 g));replace hp:=hp9;clear hp9;rw[hr,Res.bind_ok]at HQ;clear hr g;rw[Rd.fin_f]at HQ;go_wp2_with fail;refine(AY hp).mono ?_;intro e w2 hq;obtain⟨g,⟨q,hr,rfl⟩| ⟨u,i2,v,hr,rfl,rfl,hp9⟩⟩:=hq.split
 ·exact⟨rfl,Post.bad (Z HZ.1.2 g) (by rw[<-HQ.1,hr];rfl)⟩
 replace HZ:=S (X (HZ.1.1.gb g (by simp;omega)) (Z HZ.1.2 g));replace hp:=hp9;clear hp9;rw[hr,Res.bind_ok]at HQ;clear hr g;rw[Rd.bind_f]at HQ;have hl2:=HZ.1.1.lt;go_wp2_with fail;refine(HBk.1 _ _ (BW HGl.1.1 HGl.1.2 HZ.1.2) hp (λe=>HO.1 (by rw[<-HQ.1,e];rfl))).mono ?_;intro e w3 hq;obtain⟨g,⟨q,hr,rfl⟩| ⟨c,i3,v,hr,rfl,⟨kcs,⟨ca,cc,rfl,k1⟩,k2⟩,hp9⟩⟩:=hq.split
 ·exact⟨rfl,Post.bad (Z HZ.1.2 g) (by rw[<-HQ.1,hr];rfl)⟩
 replace HZ:=S (X (HZ.1.1.gb g (by simp;omega)) (Z HZ.1.2 g));replace hp:=hp9;clear hp9;rw[hr,Res.bind_ok]at HQ;clear hr;have hs3:=g.size;have HK:=S (KA.startB HZ.1.1 HZ.1.2 hb (by omega) 11 [] (c:=c) (ca:=ca) (cc:=cc) ⟨kcs,⟨ca,cc,rfl,k1⟩,k2⟩ (λq hq _=>by have:w2.heap.size<=q:=hq;omega));have hp3:=(hp.alloc (.cells #[.slice ca c.len cc] 38 (0,0))).alloc (.cells #[.int .i64 11,str [],str [],.slice none 0 0,.slice none 0 0,.slice (some ⟨w3.heap.size,0,none⟩) 1 1,.int .i64 0,.slice none 0 0,.slice none 0 0,.slice none 0 0] 134 (0,0));replace hp:=hp3;clear g hp3 k1 k2 HZ;have hkl:=HK.1.lt;rw[Rd.bind_f,Rd.ifw_f]at HQ;cases hw:As l wordsL i3==Hm with
 | false=>
   go_wp2_with fail;refine mR (Dh hp HTk.1 Hm hw) λw4 g=>?_;replace HK:=S (HK.1.gbN g);replace hp:=hp.gbN g;clear g;rw[if_neg (nF hw)]at HQ;clear hw;rw[Rd.pure_f,Res.bind_ok,Rd.must_f]at HQ;go_wp2_with fail;refine(BK hp HTk.1 Iu (by decide)).mono ?_;intro e w5 hq;obtain⟨g,⟨q,hr,rfl⟩| ⟨u,i5,v,hr,rfl,rfl,hp9⟩⟩:=hq.split
   ·exact⟨rfl,Post.bad (Z HK.1.gr g) (by rw[<-HQ.1,hr];rfl)⟩
   replace HK:=S (HK.1.gb g);replace hp:=hp9;clear hp9;rw[hr,Res.bind_ok]at HQ;clear hr g;rw[Rd.fin_f]at HQ;go_wp2_with fail;refine(AY hp).mono ?_;intro e w6 hq;obtain⟨g,⟨q,hr,rfl⟩| ⟨u,i6,v,hr,rfl,rfl,hp9⟩⟩:=hq.split
   ·exact⟨rfl,Post.bad (Z HK.1.gr g) (by rw[<-HQ.1,hr];rfl)⟩
   replace HK:=S (HK.1.gb g);replace hp:=hp9;clear hp9;rw[hr,Res.bind_ok]at HQ;clear hr g;rw[Rd.pure_f]at HQ;have HS:=S HK.1.toKS;obtain⟨pa9,xa9,ba9,na9,fa9,wa9,pc9,xc9,bc9,nc9,fc9,wc9,e91,e92,e93,e94,e95,e96⟩:=HS.1.shapes
   (first|cases e91|clear e91);(first|cases e92|clear e92);(first|cases e93|clear e93);(first|cases e94|clear e94);(first|cases e95|clear e95);(first|cases e96|clear e96);have hkb:=HS.1.blk;have hkz:=HS.1.zero;have hkl:=hkb.lt;have hkl2:=hkz.lt;have ck_:=hkb.c10;have cz_:=hkz.c10;clear hkb hkz;go_wp2;have hres9:=C1 HS.1 hp HQ.1.symm;have hblk9:=HS.1.out.2.2.1;refine bZ ?hr9 rfl hres9
   case hr9=>exact A8 rfl _ hblk9 rfl rfl
 | true=>
   go_wp2_with fail;refine(Dj hp HTk.1 Hm (by decide) hw).mono ?_;rintro e w4 ⟨rfl,hp9,g⟩;replace HK:=S (HK.1.gb g);replace hp:=hp9;clear g hp9;rw[if_pos hw]at HQ;clear hw;have hkl:=HK.1.lt;rw[Rd.bind_f,Rd.ifw_f]at HQ;cases hw:As l wordsL (i3+1)==J4
   case' false=>
    go_wp2_with fail;refine mR (Dh hp HTk.1 J4 hw) λw5 g=>?_;replace HK:=S (HK.1.gbN g);replace hp:=hp.gbN g;clear g;rw[if_neg (nF hw)]at HQ;clear hw;rw[Rd.pure_f,Res.bind_ok,Rd.fin_f]at HQ
   case' true=>
    go_wp2_with fail;refine(Dj hp HTk.1 J4 (by decide) hw).mono ?_;rintro e w5 ⟨rfl,hp9,g⟩;replace HK:=S (HK.1.gb g);replace hp:=hp9;clear g hp9;rw[if_pos hw]at HQ;clear hw;have hkl:=HK.1.lt;rw[Rd.name_f0]at HQ;go_wp2_with fail;refine(B7 hp HSh.1).mono ?_;intro e w6 hq;obtain⟨g,⟨q,hr,rfl⟩| ⟨s,i6,v,hr,rfl,rfl,hp9⟩⟩:=hq.split
    ·exact⟨rfl,Post.bad (Z HK.1.gr g) (by rw[<-HQ.1,hr];rfl)⟩
    replace HK:=S (HK.1.gb g);replace hp:=hp9;clear hp9;rw[hr,Res.bind_ok]at HQ;clear hr g;have hkl:=HK.1.lt;have hx1:=HK.1.blk.cell' 1 rfl;have hf1:=HK.1.blk.frozen 1;have hK7:=HK.1.putS s;have hp7:=hp.set HK.1.bL 1 (str s);replace HK:=S hK7;replace hp:=hp7;clear hK7 hp7;go_upto_region 7 with fail;generalize hWW:World.setCell _ _ _=W7 at*;rw[Rd.fin_f]at HQ
   all_goals
    go_wp2_with fail;refine(AY hp).mono ?_;intro e w7 hq;obtain⟨g,⟨q,hr,rfl⟩| ⟨u,i7,v,hr,rfl,rfl,hp9⟩⟩:=hq.split
    ·exact⟨rfl,Post.bad (Z HK.1.gr g) (by rw[<-HQ.1,hr];rfl)⟩
    replace HK:=S (HK.1.gb g);replace hp:=hp9;clear hp9;rw[hr,Res.bind_ok]at HQ;clear hr g;rw[Rd.bind_f]at HQ;have hkl:=HK.1.lt;have hx5:=HK.1.blk.cell' 5 rfl
    cases hr6:block.f i7 with
    |out=>exact absurd (by rw[<-HQ.1,hr6];rfl) HO.1
    | bad q6=>
      go_wp2_with fail;go_region_with(go_at_call 244;refine(HBk.1 _ _ (BW HGl.1.1 HGl.1.2 (Ad HK.1.gr)) (hp.gbN (Ad (Aa _ none))) (by rw[hr6];simp)).mono ?_;rintro e w6 hq6;rw[hr6]at hq6;obtain⟨g6,rfl⟩:=hq6;refine Bt (P:=Tryz.prog) ⟨rfl,Post.bad (Z (Ad HK.1.gr) g6) (by rw[<-HQ.1,hr6];rfl)⟩ ⟨#[],[]⟩ w6 ?_);all_goals trivial
    |ok c2 i8=>
    rw[hr6,Res.bind_ok,Rd.pure_f,Res.bind_ok,Rd.must_f]at HQ;go_wp2_with fail;obtain⟨i0,hi0,hz0,hz1,hz2⟩:=info_parts Jl;have HI:=S (X hi0 (X hz0 (X hz1 hz2)));have hroom:=(show(Bl.bl c .nil).len<=5 by simp[Bl.len]);have hbL:=HK.1.bL;have hwL:=HK.1.wL;clear hi0 hz0 hz1 hz2
    go_region_law(first
     | (refine step_append_lies _ (by rfl) _ _ 130 (by rfl) (w.heap.size+1) 38 i0 _ 1 24 underlying130 HI.1.1 HI.1.2.1 HI.1.2.2.1 HI.1.2.2.2 rfl (by decide) _ _ ds6 (by rfl) HB.1.2.1 ⟨w6.heap.size,0,none⟩ 1 1 [.slice ca6 (c2).len cc6] (by rfl) rfl (EV _ _ _) (by simp[Value.oneCell']) (by decide) (by unfold maxLen;omega) (by omega) (by simp<;>omega) _ rfl ?_;intro j cap w7 hown hgrow hat hlt;(have HK8:=S (X (HB.1.1.addB' HB.1.2.1 HB.1.2.2.1 HB.1.2.2.2.1 (λq hq=>HK.1.fresh q hq) hown hgrow hat) (Par.app HB.1.2.2.2.2 hgrow (λq hq=>(HB.1.1.belowB q hq).1) hbL 5 (.slice (some ⟨j,0,none⟩) ((Bl.bl c .nil).len+1) cap))));(have hb7:=HB.1.1.blk.gb hgrow HB.1.1.neB);(have f7:=hb7.frozen 5);(have d7:=hb7.cell' 5 rfl);(have l7:=hb7.lt);clear hown hgrow hat hb7 HB)
     | (go_simp;go_at_call 244;refine(HBk.1 _ _ (BW HGl.1.1 HGl.1.2 (Aj HK.1.gr 1)) (hp.drewN 1) (by rw[hr6];simp)).mono ?_;rintro e w6 hq6;rw[hr6]at hq6;obtain⟨g6,v,rfl,hv6,h6⟩:=hq6;(obtain⟨_,⟨ca6,cc6,rfl,_⟩,_⟩:=id hv6);(have k6:=HK.1.gb (Z (Ad (Aa _ _)) g6));(have l6:=k6.lt);(have d6:=k6.blk.cell' 5 rfl);(have s6:=g6.size);(have k7:=k6.alloc (.cells #[.slice ca6 (c2).len cc6] 38 (0,0)));(obtain⟨ds6,ho6,hr7⟩:=k7.bb);(have gA:=gZ w6 (.cells #[.slice ca6 (c2).len cc6] 38 (0,0)) none);(have HB:=S (X k7 (X ho6 (X hr7 (X (RepV.gb hv6 gA (by simp)) (h6.alloc (.cells #[.slice ca6 (c2).len cc6] 38 (0,0))))))));clear k6 k7 ho6 hr7 hv6 h6 gA g6))
    all_goals
     generalize hWW:World.setCell _ _ _=W10 at*;have HK:=S HK8.1.1;have hp:=HK8.1.2;clear HK8 hx5 d6 d7 f7 l6 l7 s6;go_wp2_with fail;refine(BK hp HTk.1 Iu (by decide)).mono ?_;intro e w11 hq;obtain⟨g,⟨q,hr,rfl⟩| ⟨u,i11,v,hr,rfl,rfl,hp9⟩⟩:=hq.split
     ·exact⟨rfl,Post.bad (Z HK.1.gr g) (by rw[<-HQ.1,hr];rfl)⟩
     replace HK:=S (HK.1.gb g);replace hp:=hp9;clear hp9;rw[hr,Res.bind_ok]at HQ;clear hr g;rw[Rd.fin_f]at HQ;go_wp2_with fail;refine(AY hp).mono ?_;intro e w12 hq;obtain⟨g,⟨q,hr,rfl⟩| ⟨u,i12,v,hr,rfl,rfl,hp9⟩⟩:=hq.split
     ·exact⟨rfl,Post.bad (Z HK.1.gr g) (by rw[<-HQ.1,hr];rfl)⟩
     replace HK:=S (HK.1.gb g);replace hp:=hp9;clear hp9;rw[hr,Res.bind_ok]at HQ;clear hr g;rw[Rd.pure_f]at HQ;have HS:=S HK.1.toKS;obtain⟨pa9,xa9,ba9,na9,fa9,wa9,pc9,xc9,bc9,nc9,fc9,wc9,e91,e92,e93,e94,e95,e96⟩:=HS.1.shapes
     (first|cases e91|clear e91);(first|cases e92|clear e92);(first|cases e93|clear e93);(first|cases e94|clear e94);(first|cases e95|clear e95);(first|cases e96|clear e96);have hkb:=HS.1.blk;have hkz:=HS.1.zero;have hkl:=hkb.lt;have hkl2:=hkz.lt;have ck_:=hkb.c10;have cz_:=hkz.c10;clear hkb hkz;go_wp2;have hres9:=C1 HS.1 hp HQ.1.symm;have hblk9:=HS.1.out.2.2.1;refine bZ ?hr9 rfl hres9
     case hr9=>exact A8 rfl _ hblk9 rfl rfl
def Rd.expr_f(hn:Al l){β:Type}{q:Ex->Rd l β}:((B5 hn day n).bind q).f i=(Ak l day n i).bind λx j=>(q x).f j:=rfl
abbrev VPart(b:Nat)(w:World)(L:Nat)(o:Int):World->Value->Fo×Bl->Prop:=λw' v x=>v= .tuple #[]/\∃pv xv bv,KA b w L w' o [] [] [] x.1 x.2 pv xv bv
def Ky{block:Rd l Bl}(hn:Al l)(hB:CQB b tv wo l block.f)(hE:CE 208 b tv wo l wordsL (Ak l day n))(hg:Glob w)(hgb:4<b)(k:KA b w L wr o [] [] [] a.1 a.2 pv xv bv)(hm1:a.1.len<=200000)(hm2:a.2.len<=200000)(h:Par wr b tv wo l wordsL i)(ho:(D0 hn day n block a).f i ≠ .out):
 Calls Tryz.prog 347 #[.pointer (some ⟨b,0,none⟩),.pointer (some ⟨L,0,none⟩)] wr (Post b tv wo l wordsL w (VPart b w L o) ((D0 hn day n block a).f i)):=by
 have hb:=h.lt;have HO:=S ho;generalize hR:(D0 hn day n block a).f i=R at*;unfold D0 at hR;rw[Rd.expr_f]at hR;have HQ:=S hR;have HBk:=S hB;have HE:=S hE;have HGl:=S (X hg hgb);have HK:=S k;have hp:=h;clear hB hE hg hgb h ho hR k;have hkl:=HK.1.lt;have hx4:=HK.1.blk.cell' 4 rfl;cases hr6:Ak l day n i with
 |out=>exact absurd (HQu HQ hr6) HO.1
 | bad q6=>
   go_enter func347,ntmps347;go_wp2_with fail;obtain⟨i0,hi0,hz0,hz1,hz2⟩:=info_parts CJ;have HI:=S (X hi0 (X hz0 (X hz1 hz2)));obtain⟨xa9,xc9,e9⟩:=HK.1.shapeX
   (first|subst e9|cases e9|clear e9);have hbL:=HK.1.bL;have hwL:=HK.1.wL;have hkl:=HK.1.lt;have hx4:=HK.1.blk.cell' 4 rfl;have n0:(0:Int)<=((a.1).len:Int):=by omega
   have n1:((a.1).len:Int)<(((a.1).len+1:Nat):Int):=by omega
   have n2:((a.1).len:Int)<((a.1).len:Int)+1:=by omega
   have kA:=(HK.1.gbN (Ad (Aa wr none))).alloc (.cells zeroE.toArray 163 (0,0));obtain⟨csA,hoA,hrA⟩:=kA.x;have HA1:=S (X kA (X hoA (X hrA ((hp.drewN 1).alloc (.cells zeroE.toArray 163 (0,0))))));clear hi0 hz0 hz1 hz2 kA hoA hrA;go_region_law(first
    | (refine step_append_lies _ (by rfl) _ _ 129 (by rfl) ((w).heap.size+1) 163 i0 _ 7 104 underlying129 HI.1.1 HI.1.2.1 HI.1.2.2.1 HI.1.2.2.2 rfl (by decide) _ _ csA (by rfl) HA1.1.2.1 ⟨(wr).heap.size,0,none⟩ 1 1 zeroE (by rfl) rfl (AP _ _ _) (by simp[zeroE,Value.oneCell']) (by decide) (by unfold maxLen;omega) (by omega) (by first|omega| (simp<;>omega)) _ rfl ?_;intro j cap w7 hown hgrow hat hlt;(have HP1:=S (X (HA1.1.1.pend rfl HA1.1.2.1 HA1.1.2.2.1 hown hgrow hat) (HA1.1.2.2.2.gb hgrow (λq hq=>(HA1.1.1.belowX q hq).1))));(have f7:=(HA1.1.1.blk.gb hgrow HA1.1.1.neX).frozen 4);(have d7:=(HA1.1.1.blk.gb hgrow HA1.1.1.neX).cell' 4 rfl);(have l7:=HP1.1.1.lt);(have s7:=hgrow.size);(have bj7:=HP1.1.1.bj);clear hown hgrow hat)
    | (go_simp;go_at_call 208;refine(HE.1 _ _ HP1.1.2 (by rw[hr6];simp)).mono ?_;rintro e w8 hq8;rw[hr6]at hq8;obtain⟨g8,rfl⟩:=hq8;refine Bt (P:=Tryz.prog) ⟨rfl,Post.bad (Z HP1.1.1.gr g8) (HQb HQ hr6)⟩ ⟨#[],[]⟩ w8 ?_)
    | (go_simp;go_at_call 208;refine(HE.1 _ _ (HP1.1.2.gb (Ai (Aa w7 (some L)) 4 (.slice (some ⟨j,0,none⟩) ((a.1).len+1) cap)) (by intro q e;cases e;omega)) (by rw[hr6];simp)).mono ?_;rintro e w8 hq8;rw[hr6]at hq8;obtain⟨g8,rfl⟩:=hq8;refine Bt (P:=Tryz.prog) ⟨rfl,Post.bad (Z (HP1.1.1.put4 (.slice (some ⟨j,0,none⟩) ((a.1).len+1) cap)).gr g8) (HQb HQ hr6)⟩ ⟨#[],[]⟩ w8 ?_)
    | (go_simp;go_at_call 208;refine(HE.1 _ _ (hp.drewN 1) (by rw[hr6];simp)).mono ?_;rintro e w8 hq8;rw[hr6]at hq8;obtain⟨g8,rfl⟩:=hq8;refine Bt (P:=Tryz.prog) ⟨rfl,Post.bad (Z (Ad HK.1.gr) g8) (HQb HQ hr6)⟩ ⟨#[],[]⟩ w8 ?_)
    | (go_simp;go_at_call 208;refine(HE.1 _ _ HA1.1.2.2.2 (by rw[hr6];simp)).mono ?_;rintro e w8 hq8;rw[hr6]at hq8;obtain⟨g8,rfl⟩:=hq8;refine Bt (P:=Tryz.prog) ⟨rfl,Post.bad (Z HA1.1.1.gr g8) (HQb HQ hr6)⟩ ⟨#[],[]⟩ w8 ?_))
   all_goals trivial
 |ok x i1=>
 replace HQ:=HQo HQ hr6;rw[Rd.fin_f]at HQ;go_enter func347,ntmps347;go_upto_region 0 with fail;go_cut []from 4 (λwx=>(∃xv',KA b w L wx o [] [] [] (a.1.snoc x) a.2 pv xv' bv)/\Par wx b tv wo l wordsL i1)
 case first=>
  obtain⟨i0,hi0,hz0,hz1,hz2⟩:=info_parts CJ;have HI:=S (X hi0 (X hz0 (X hz1 hz2)));have hroom:=hm1;obtain⟨xa9,xc9,e9⟩:=HK.1.shapeX
  (first|subst e9|cases e9|clear e9);have hbL:=HK.1.bL;have hwL:=HK.1.wL;have hkl:=HK.1.lt;have hx4:=HK.1.blk.cell' 4 rfl;have n0:(0:Int)<=((a.1).len:Int):=by omega
  have n1:((a.1).len:Int)<(((a.1).len+1:Nat):Int):=by omega
  have n2:((a.1).len:Int)<((a.1).len:Int)+1:=by omega
  have HFr:=S (λq hq=>HK.1.fresh q hq);have kA:=(HK.1.gbN (Ad (Aa wr none))).alloc (.cells zeroE.toArray 163 (0,0));obtain⟨csA,hoA,hrA⟩:=kA.x;have HA1:=S (X kA (X hoA (X hrA ((hp.drewN 1).alloc (.cells zeroE.toArray 163 (0,0))))));clear hi0 hz0 hz1 hz2 kA hoA hrA;go_region_law(first
   | (refine step_append_lies _ (by rfl) _ _ 129 (by rfl) ((w).heap.size+1) 163 i0 _ 7 104 underlying129 HI.1.1 HI.1.2.1 HI.1.2.2.1 HI.1.2.2.2 rfl (by decide) _ _ csB (by rfl) HA2.1.2.1 _ 1 1 zeroE (by rfl) rfl HZ2.1 (by simp[zeroE,Value.oneCell']) (by decide) (by unfold maxLen;omega) (by omega) (by first|omega| (simp<;>omega)) _ rfl ?_;intro j cap w7 hown hgrow hat hlt;(have HPF:=S (X (HA2.1.1.pend rfl HA2.1.2.1 HA2.1.2.2.1 hown hgrow hat) (HA2.1.2.2.2.1.gb hgrow (λq hq=>(HA2.1.1.belowX q hq).1))));(have HVF:=S (JT (f:=a.1) (cap:=cap) HA2.1.2.2.2.2.1 HA2.1.2.2.2.2.2 (λq hq _=>hq) HFr.1 hgrow hat));(have f7:=(HA2.1.1.blk.gb hgrow HA2.1.1.neX).frozen 4);(have d7:=(HA2.1.1.blk.gb hgrow HA2.1.1.neX).cell' 4 rfl);(have l7:=HPF.1.1.lt);(have bj7:=HPF.1.1.bj);(have nj7:=HPF.1.1.neL);(have fe7:=λi=>HPF.1.1.frozenE i);(obtain⟨u70,e70⟩:=HPF.1.1.cellE 0 (by decide));(obtain⟨u71,e71⟩:=HPF.1.1.cellE 1 (by decide));(obtain⟨u72,e72⟩:=HPF.1.1.cellE 2 (by decide));(obtain⟨u73,e73⟩:=HPF.1.1.cellE 3 (by decide));(obtain⟨u74,e74⟩:=HPF.1.1.cellE 4 (by decide));(obtain⟨u75,e75⟩:=HPF.1.1.cellE 5 (by decide));(obtain⟨u76,e76⟩:=HPF.1.1.cellE 6 (by decide));(try simp only[Nat.add_zero]at e70);clear hown hgrow hat)
   | (refine step_append_lies _ (by rfl) _ _ 129 (by rfl) ((w).heap.size+1) 163 i0 _ 7 104 underlying129 HI.1.1 HI.1.2.1 HI.1.2.2.1 HI.1.2.2.2 rfl (by decide) _ _ csA (by rfl) HA1.1.2.1 ⟨(wr).heap.size,0,none⟩ 1 1 zeroE (by rfl) rfl (AP _ _ _) (by simp[zeroE,Value.oneCell']) (by decide) (by unfold maxLen;omega) (by omega) (by first|omega| (simp<;>omega)) _ rfl ?_;intro j cap w7 hown hgrow hat hlt;(have HP1:=S (X (HA1.1.1.pend rfl HA1.1.2.1 HA1.1.2.2.1 hown hgrow hat) (HA1.1.2.2.2.gb hgrow (λq hq=>(HA1.1.1.belowX q hq).1))));(have f7:=(HA1.1.1.blk.gb hgrow HA1.1.1.neX).frozen 4);(have d7:=(HA1.1.1.blk.gb hgrow HA1.1.1.neX).cell' 4 rfl);(have l7:=HP1.1.1.lt);(have s7:=hgrow.size);(have bj7:=HP1.1.1.bj);clear hown hgrow hat)
   | (go_simp;go_at_call 208;refine(HE.1 _ _ HP1.1.2 (by rw[hr6];simp)).mono ?_;rintro e w8 hq6;rw[hr6]at hq6;obtain⟨g8,v,rfl,⟨pa6,pc6,la6,lc6,rfl,q1,q2⟩,h8⟩:=hq6;(have hKP:=HP1.1.1.gb g8);(have HPF:=S (X hKP h8));(have HVF:=S (X (q1.mono (λq hq _=>HP1.1.1.fresh q hq)) (q2.mono (λq hq _=>HP1.1.1.fresh q hq))));(have f8:=hKP.blk.frozen 4);(have d8:=hKP.blk.cell' 4 rfl);(have l8:=hKP.lt);(have bj8:=hKP.bj);(have nj8:=hKP.neL);(have fe8:=λi=>HPF.1.1.frozenE i);(obtain⟨u70,e70⟩:=HPF.1.1.cellE 0 (by decide));(obtain⟨u71,e71⟩:=HPF.1.1.cellE 1 (by decide));(obtain⟨u72,e72⟩:=HPF.1.1.cellE 2 (by decide));(obtain⟨u73,e73⟩:=HPF.1.1.cellE 3 (by decide));(obtain⟨u74,e74⟩:=HPF.1.1.cellE 4 (by decide));(obtain⟨u75,e75⟩:=HPF.1.1.cellE 5 (by decide));(obtain⟨u76,e76⟩:=HPF.1.1.cellE 6 (by decide));(try simp only[Nat.add_zero]at e70);clear hKP q1 q2 g8 h8)
   | (go_simp;go_at_call 208;refine(HE.1 _ _ (HP1.1.2.gb (Ai (Aa w7 (some L)) 4 (.slice (some ⟨j,0,none⟩) ((a.1).len+1) cap)) (by intro q e;cases e;omega)) (by rw[hr6];simp)).mono ?_;rintro e w8 hq6;rw[hr6]at hq6;obtain⟨g8,v,rfl,⟨pa6,pc6,la6,lc6,rfl,q1,q2⟩,h8⟩:=hq6;(have hKP:=(HP1.1.1.put4 (.slice (some ⟨j,0,none⟩) ((a.1).len+1) cap)).gb g8);(have HPF:=S (X hKP h8));(have HVF:=S (X (q1.mono (λq hq _=>(HP1.1.1.put4 (.slice (some ⟨j,0,none⟩) ((a.1).len+1) cap)).fresh q hq)) (q2.mono (λq hq _=>(HP1.1.1.put4 (.slice (some ⟨j,0,none⟩) ((a.1).len+1) cap)).fresh q hq))));(have bj8:=hKP.bj);(have nj8:=hKP.neL);(have l8:=hKP.lt);(have fe8:=λi=>HPF.1.1.frozenE i);(obtain⟨u70,e70⟩:=HPF.1.1.cellE 0 (by decide));(obtain⟨u71,e71⟩:=HPF.1.1.cellE 1 (by decide));(obtain⟨u72,e72⟩:=HPF.1.1.cellE 2 (by decide));(obtain⟨u73,e73⟩:=HPF.1.1.cellE 3 (by decide));(obtain⟨u74,e74⟩:=HPF.1.1.cellE 4 (by decide));(obtain⟨u75,e75⟩:=HPF.1.1.cellE 5 (by decide));(obtain⟨u76,e76⟩:=HPF.1.1.cellE 6 (by decide));(try simp only[Nat.add_zero]at e70);clear hKP q1 q2 g8 h8)
   | (go_simp;go_at_call 208;refine(HE.1 _ _ (hp.drewN 1) (by rw[hr6];simp)).mono ?_;rintro e w6 hq6;rw[hr6]at hq6;obtain⟨g6,v,rfl,⟨pa6,pc6,la6,lc6,rfl,q1,q2⟩,h6⟩:=hq6;(have k6:=HK.1.gb (Z (Ad (Aa _ _)) g6));(have l6:=k6.lt);(have s6:=g6.size);(have d6:=k6.blk.cell' 4 rfl);(have k7:=k6.alloc (.cells zeroE.toArray 163 (0,0)));(obtain⟨csB,ho6,hr7⟩:=k7.x);(have gA:=gZ w6 (.cells zeroE.toArray 163 (0,0)) none);(have HA2:=S (X k7 (X ho6 (X hr7 (X (h6.alloc (.cells zeroE.toArray 163 (0,0))) (X (q1.gb gA (by simp)) (q2.gb gA (by simp))))))));(have HZ2:=S (AP w6 zeroE 163));clear k6 k7 ho6 hr7 gA q1 q2 h6 g6)
   | (go_simp;go_at_call 208;refine(HE.1 _ _ HA1.1.2.2.2 (by rw[hr6];simp)).mono ?_;rintro e w6 hq6;rw[hr6]at hq6;obtain⟨g6,v,rfl,⟨pa6,pc6,la6,lc6,rfl,q1,q2⟩,h6⟩:=hq6;(have k6:=HA1.1.1.gb g6);(have l6:=k6.lt);(have s6:=g6.size);(have d6:=k6.blk.cell' 4 rfl);(obtain⟨csB,ho6,hr7⟩:=k6.x);(have HA2:=S (X k6 (X ho6 (X hr7 (X h6 (X (q1.mono (ok':=An (wr).heap.size) (λq hq _=>Nat.le_of_succ_le (by simpa using hq))) (q2.mono (ok':=An (wr).heap.size) (λq hq _=>Nat.le_of_succ_le (by simpa using hq)))))))));(have HZ2:=S (show ∀i u,zeroE[i]? =some u->w6.cell? ((⟨(wr).heap.size,0,none⟩:Addr).add i)=some u from λi u hu=>KV (((Blk.new (World.drew wr) zeroE 163).gb g6 (by simp;omega)).cell' i hu)));clear k6 ho6 hr7 q1 q2 h6 g6))
  all_goals
   go_wp2_with fail;go_meet
   case rel=>
    show(∃xv',KA b w L _ o [] [] [] (a.1.snoc x) a.2 pv xv' bv)/\Par _ b tv wo l wordsL i1;have hE1:=HPF.1.1.endQ1 HPF.1.2 HVF.1.1 HVF.1.2;have hE2:=HPF.1.1.endQ2 HPF.1.2 HVF.1.1 HVF.1.2;simp only[D6]at hE1 hE2;first
    |exact⟨⟨_,by with_reducible exact hE1.1⟩,by with_reducible exact hE1.2⟩
    |exact⟨⟨_,by with_reducible exact hE2.1⟩,by with_reducible exact hE2.2⟩
 case rest=>
  obtain⟨⟨xv',hK⟩,hp1⟩:=hcut;replace HK:=S hK;replace hp:=hp1;clear hK hp1 hr6 hx4 hkl;go_wp2_with fail;refine(AY hp).mono ?_;intro e w1 hq;obtain⟨g,⟨q,hr,rfl⟩| ⟨u,i2,v,hr,rfl,rfl,hp9⟩⟩:=hq.split
  ·exact PBd HK.1.gr g HQ hr
  replace HK:=S (HK.1.gb g);replace hp:=hp9;clear hp9;replace HQ:=HQo HQ hr;clear hr g;rw[Rd.bind_f]at HQ;have hkl:=HK.1.lt;have hx5:=HK.1.blk.cell' 5 rfl;cases hr6:block.f i2 with
  |out=>exact absurd (HQu HQ hr6) HO.1
  | bad q6=>
    go_wp2_with fail;go_region_with(go_at_call 244;refine(HBk.1 _ _ (BW HGl.1.1 HGl.1.2 (Ad HK.1.gr)) (hp.gbN (Ad (Aa _ none))) (by rw[hr6];simp)).mono ?_;rintro e w6 hq6;rw[hr6]at hq6;obtain⟨g6,rfl⟩:=hq6;refine Bt (P:=Tryz.prog) ⟨rfl,Post.bad (Z (Ad HK.1.gr) g6) (HQb HQ hr6)⟩ ⟨#[],[]⟩ w6 ?_);all_goals trivial
  |ok c i3=>
  replace HQ:=HQo HQ hr6;rw[Rd.pure_f]at HQ;go_wp2_with fail;obtain⟨i0,hi0,hz0,hz1,hz2⟩:=info_parts Jl;have HI:=S (X hi0 (X hz0 (X hz1 hz2)));have hroom:=hm2;have hbL:=HK.1.bL;have hwL:=HK.1.wL;clear hi0 hz0 hz1 hz2;go_region_law(first
   | (refine step_append_lies _ (by rfl) _ _ 130 (by rfl) (w.heap.size+1) 38 i0 _ 1 24 underlying130 HI.1.1 HI.1.2.1 HI.1.2.2.1 HI.1.2.2.2 rfl (by decide) _ _ ds6 (by rfl) HB.1.2.1 ⟨w6.heap.size,0,none⟩ 1 1 [.slice ca6 (c).len cc6] (by rfl) rfl (EV _ _ _) (by simp[Value.oneCell']) (by decide) (by unfold maxLen;omega) (by omega) (by simp<;>omega) _ rfl ?_;intro j cap w7 hown hgrow hat hlt;(have HK8:=S (X (HB.1.1.addB' HB.1.2.1 HB.1.2.2.1 HB.1.2.2.2.1 (λq hq=>HK.1.fresh q hq) hown hgrow hat) (Par.app HB.1.2.2.2.2 hgrow (λq hq=>(HB.1.1.belowB q hq).1) hbL 5 (.slice (some ⟨j,0,none⟩) (a.2.len+1) cap))));(have hb7:=HB.1.1.blk.gb hgrow HB.1.1.neB);(have f7:=hb7.frozen 5);(have d7:=hb7.cell' 5 rfl);(have l7:=hb7.lt);clear hown hgrow hat hb7 HB)
   | (go_simp;go_at_call 244;refine(HBk.1 _ _ (BW HGl.1.1 HGl.1.2 (Aj HK.1.gr 1)) (hp.drewN 1) (by rw[hr6];simp)).mono ?_;rintro e w6 hq6;rw[hr6]at hq6;obtain⟨g6,v,rfl,hv6,h6⟩:=hq6;(obtain⟨_,⟨ca6,cc6,rfl,_⟩,_⟩:=id hv6);(have k6:=HK.1.gb (Z (Ad (Aa _ _)) g6));(have l6:=k6.lt);(have d6:=k6.blk.cell' 5 rfl);(have s6:=g6.size);(have k7:=k6.alloc (.cells #[.slice ca6 (c).len cc6] 38 (0,0)));(obtain⟨ds6,ho6,hr7⟩:=k7.bb);(have gA:=gZ w6 (.cells #[.slice ca6 (c).len cc6] 38 (0,0)) none);(have HB:=S (X k7 (X ho6 (X hr7 (X (RepV.gb hv6 gA (by simp)) (h6.alloc (.cells #[.slice ca6 (c).len cc6] 38 (0,0))))))));clear k6 k7 ho6 hr7 hv6 h6 gA g6))
  all_goals
   go_wp2_with fail;generalize hWW:World.setCell _ _ _=W8 at*;have HK:=S HK8.1.1;have hp:=HK8.1.2;go_end0;exact Post.ok HK.1.gr HQ.1.symm ⟨rfl,_,_,_,HK.1⟩ hp
def KN{block:Rd l Bl}{hn:Al l}{a2:Fo×Bl}(h:(D0 hn day n block a).f i= .ok a2 j):a2.1.len=a.1.len+1/\a2.2.len=a.2.len+1:=by
 unfold D0 at h;rw[Rd.expr_f]at h;cases h1:Ak l day n i with
 |out=>rw[h1]at h;cases h
 |bad q=>rw[h1]at h;cases h
 | ok x i1=>
   rw[h1,Res.bind_ok,Rd.fin_f]at h;cases h2:B3 l i1 with
   |out=>rw[h2]at h;cases h
   |bad q=>rw[h2]at h;cases h
   | ok u i2=>
     rw[h2,Res.bind_ok,Rd.bind_f]at h;cases h3:block.f i2 with
     |out=>rw[h3]at h;cases h
     |bad q=>rw[h3]at h;cases h
     | ok c i3=>
       rw[h3,Res.bind_ok,Rd.pure_f]at h;cases h;exact⟨Fo.len_snoc _ _,by simp[Bl.len_app,Bl.len]⟩
def PartQ(hn:Al l)(day:Bs->Int)(n:Nat)(block:Rd l Bl)(b:Nat)(tv wo:Value)(w:World)(more:Bs)(rest:Fo×Bl->Rd l StB)(R:Res StB)(g:Nat)(wr:World):Prop:=
 ∃a j,(∃pv xv bv,KA b w (w.heap.size+1) wr 3 [] [] [] a.1 a.2 pv xv bv)/\Par wr b tv wo l wordsL j/\a.1.len+g<=n+1/\a.2.len+g<=n+1/\((Rd.moreW wordsL more (D0 hn day n block) g a).bind rest).f j=R
def Md{block:Rd l Bl}(hn:Al l)(hnn:n<=100000)(hB:CQB b tv wo l block.f)(hE:CE 208 b tv wo l wordsL (Ak l day n))(hok:∀i,At (Ab l i))(hg:Glob w)(hgb:4<b){more other last:Bs}(hm:more≠[])(hot:other≠[])(hla:last≠[])(h:Par w b tv wo l wordsL i)(ho:(Ew hn wordsL day n block more other last).f i ≠ .out):
 Calls Tryz.prog 324 #[.pointer (some ⟨b,0,none⟩),str more,str other,str last] w (Post b tv wo l wordsL w (VSt w) ((Ew hn wordsL day n block more other last).f i)):=by
 have hb:=h.lt;have HO:=S ho;generalize hR:(Ew hn wordsL day n block more other last).f i=R at*;unfold Ew at hR;rw[Rd.bind_f]at hR;have HQ:=S hR;have HBk:=S hB;have HE:=S hE;have HTk:=S hok;have HGl:=S (X hg hgb);have HN:=S (X hm (X hot hla));have hz:=Blk.new w (stC 0 (.slice none 0 0)) 134;have gz:w.grownBy (w.alloc (.cells (stC 0 (.slice none 0 0)).toArray 134 (0,0))) (some b):=Ac (Aa _ _) _;have hKK:=KA.start hz gz hb (by simp) 3 [];rw[show(w.alloc (.cells (stC 0 (.slice none 0 0)).toArray 134 (0,0))).heap.size=w.heap.size+1 by simp]at hKK;have HK:=S hKK;have hp:=(h.alloc (.cells (stC 0 (.slice none 0 0)).toArray 134 (0,0))).alloc (.cells #[.int .i64 3,str [],str [],.slice none 0 0,.slice none 0 0,.slice none 0 0,.int .i64 0,.slice none 0 0,.slice none 0 0,.slice none 0 0] 134 (0,0));clear hB hE hok hg hgb hm hot hla h ho hR hz gz hKK;go_enter func324,ntmps324;go_wp2_with fail;refine(Ky (a:=(.nil,.nil)) hn HBk.1 HE.1 HGl.1.1 HGl.1.2 HK.1 (by simp[Fo.len]) (by simp[Bl.len]) hp (λe=>HO.1 (by rw[<-HQ.1,e];rfl))).mono ?_;intro e w1 hq;obtain⟨g,⟨q,hr,rfl⟩| ⟨a,i1,v,hr,rfl,⟨rfl,pv9,xv9,bv9,hK9⟩,hp9⟩⟩:=hq.split
 ·exact⟨rfl,Post.bad g (by rw[<-HQ.1,hr];rfl)⟩
 replace HK:=S hK9;replace hp:=hp9;have HA:=S (KN hr);rw[hr,Res.bind_ok]at HQ;clear hr hK9 hp9 g;go_wp2_with fail;go_loopg [] n (λg wr=>PartQ hn day n block b tv wo w more (λa=>(Rd.ifw wordsL other (Rd.fin.bind λ_=>block.bind λb=>Rd.pure (a.2.app (.bl b .nil))) (Rd.pure a.2)).bind λbs=>(Rd.must wordsL last).bind λ_=>Rd.fin.bind λ_=>Rd.pure ({sd0 3 []with x:=a.1},bs)) R g wr)
 case atStart=>exact⟨a,i1,⟨_,_,_,HK.1⟩,hp,by have:=HA.1.1;simp[Fo.len]at this;omega,by have:=HA.1.2;simp[Bl.len]at this;omega,HQ.1⟩
 case round=>
  obtain⟨a,j,⟨pv,xv,bv,hK⟩,hp1,hm1,hm2,hq⟩:=hrel;have HK:=S hK;have hp:=hp1;have HQ:=S hq;clear hK hp1 hq;cases gk with
  |zero=>exact absurd HQ.1.symm HO.1
  |succ m=>
  rw[Rd.bind_f,Rd.moreW_f]at HQ;have hkl:=HK.1.lt;cases hw:As l wordsL j==more with
  | true=>
    go_wp2_with fail;refine(Dj hp HTk.1 more HN.1.1 hw).mono ?_;rintro e w3 ⟨rfl,hp9,g⟩;replace HK:=S (HK.1.gb g);replace hp:=hp9;clear g hp9;rw[if_pos hw]at HQ;clear hw;rw[Rd.bind_f]at HQ;go_wp2_with fail;refine(Ky (a:=a) hn HBk.1 HE.1 HGl.1.1 HGl.1.2 HK.1 (by omega) (by omega) hp (λe=>HO.1 (by rw[<-HQ.1,e];rfl))).mono ?_;intro e w4 hq;obtain⟨g,⟨q,hr,rfl⟩| ⟨a2,i2,v,hr,rfl,⟨rfl,pv9,xv9,bv9,hK9⟩,hp9⟩⟩:=hq.split
    ·exact⟨rfl,Post.bad g (by rw[<-HQ.1,hr];rfl)⟩
    replace HK:=S hK9;replace hp:=hp9;have HA:=S (KN hr);rw[hr,Res.bind_ok]at HQ;clear hr hK9 hp9 g;go_wp2;go_roundg m
    case measure=>omega
    case rel=>exact⟨a2,i2,⟨_,_,_,HK.1⟩,hp,by have:=HA.1.1;omega,by have:=HA.1.2;omega,HQ.1⟩
  | false=>
    go_wp2_with fail;refine mR (Dh hp HTk.1 more hw) λw3 g=>?_;replace HK:=S (HK.1.gbN g);replace hp:=hp.gbN g;clear g;rw[if_neg (nF hw)]at HQ;clear hw;rw[Res.bind_ok,Rd.bind_f,Rd.ifw_f]at HQ;have hkl:=HK.1.lt;cases hw:As l wordsL j==other with
    | false=>
      go_wp2_with fail;refine mR (Dh hp HTk.1 other hw) λw4 g=>?_;replace HK:=S (HK.1.gbN g);replace hp:=hp.gbN g;clear g;rw[if_neg (nF hw)]at HQ;clear hw;rw[Rd.pure_f,Res.bind_ok,Rd.must_f]at HQ;go_wp2_with fail;refine(BK hp HTk.1 last HN.1.2.2).mono ?_;intro e w5 hq;obtain⟨g,⟨q,hr,rfl⟩| ⟨u,i5,v,hr,rfl,rfl,hp9⟩⟩:=hq.split
      ·exact⟨rfl,Post.bad (Z HK.1.gr g) (by rw[<-HQ.1,hr];rfl)⟩
      replace HK:=S (HK.1.gb g);replace hp:=hp9;clear hp9;rw[hr,Res.bind_ok]at HQ;clear hr g;rw[Rd.fin_f]at HQ;go_wp2_with fail;refine(AY hp).mono ?_;intro e w6 hq;obtain⟨g,⟨q,hr,rfl⟩| ⟨u,i6,v,hr,rfl,rfl,hp9⟩⟩:=hq.split
      ·exact⟨rfl,Post.bad (Z HK.1.gr g) (by rw[<-HQ.1,hr];rfl)⟩
      replace HK:=S (HK.1.gb g);replace hp:=hp9;clear hp9;rw[hr,Res.bind_ok]at HQ;clear hr g;rw[Rd.pure_f]at HQ;have HS:=S HK.1.toKS;obtain⟨pa9,xa9,ba9,na9,fa9,wa9,pc9,xc9,bc9,nc9,fc9,wc9,e91,e92,e93,e94,e95,e96⟩:=HS.1.shapes
      (first|cases e91|clear e91);(first|cases e92|clear e92);(first|cases e93|clear e93);(first|cases e94|clear e94);(first|cases e95|clear e95);(first|cases e96|clear e96);have hkb:=HS.1.blk;have hkz:=HS.1.zero;have hkl:=hkb.lt;have hkl2:=hkz.lt;have ck_:=hkb.c10;have cz_:=hkz.c10;clear hkb hkz;go_wp2;have hres9:=C1 HS.1 hp HQ.1.symm;have hblk9:=HS.1.out.2.2.1;refine bZ ?hr9 rfl hres9
      case hr9=>exact A8 rfl _ hblk9 rfl rfl
    | true=>
      go_wp2_with fail;refine(Dj hp HTk.1 other HN.1.2.1 hw).mono ?_;rintro e w4 ⟨rfl,hp9,g⟩;replace HK:=S (HK.1.gb g);replace hp:=hp9;clear g hp9;rw[if_pos hw]at HQ;clear hw;rw[Rd.fin_f]at HQ;go_wp2_with fail;refine(AY hp).mono ?_;intro e w5 hq;obtain⟨g,⟨q,hr,rfl⟩| ⟨u,i5,v,hr,rfl,rfl,hp9⟩⟩:=hq.split
      ·exact⟨rfl,Post.bad (Z HK.1.gr g) (by rw[<-HQ.1,hr];rfl)⟩
      replace HK:=S (HK.1.gb g);replace hp:=hp9;clear hp9;rw[hr,Res.bind_ok]at HQ;clear hr g;rw[Rd.bind_f]at HQ;have hkl:=HK.1.lt;have hx5:=HK.1.blk.cell' 5 rfl;cases hr6:block.f i5 with
      |out=>exact absurd (by rw[<-HQ.1,hr6];rfl) HO.1
      | bad q6=>
        go_wp2_with fail;go_region_with(go_at_call 244;refine(HBk.1 _ _ (BW HGl.1.1 HGl.1.2 (Ad HK.1.gr)) (hp.gbN (Ad (Aa _ none))) (by rw[hr6];simp)).mono ?_;rintro e w6 hq6;rw[hr6]at hq6;obtain⟨g6,rfl⟩:=hq6;refine Bt (P:=Tryz.prog) ⟨rfl,Post.bad (Z (Ad HK.1.gr) g6) (by rw[<-HQ.1,hr6];rfl)⟩ ⟨#[],[]⟩ w6 ?_);all_goals trivial
      |ok c i6=>
      rw[hr6,Res.bind_ok,Rd.pure_f,Res.bind_ok,Rd.must_f]at HQ;go_wp2_with fail;obtain⟨i0,HI⟩:=iPz Jl;have hroom:=(show a.2.len<=200000 by omega);have hbL:=HK.1.bL;have hwL:=HK.1.wL;go_region_law(first
       | (refine step_append_lies _ (by rfl) _ _ 130 (by rfl) (w.heap.size+1) 38 i0 _ 1 24 underlying130 HI.1.1 HI.1.2.1 HI.1.2.2.1 HI.1.2.2.2 rfl (by decide) _ _ ds6 (by rfl) HB.1.2.1 ⟨w6.heap.size,0,none⟩ 1 1 [.slice ca6 (c).len cc6] (by rfl) rfl (EV _ _ _) (by simp[Value.oneCell']) (by decide) (by unfold maxLen;omega) (by omega) (by simp<;>omega) _ rfl ?_;intro j cap w7 hown hgrow hat hlt;(have HK8:=S (X (HB.1.1.addB' HB.1.2.1 HB.1.2.2.1 HB.1.2.2.2.1 (λq hq=>HK.1.fresh q hq) hown hgrow hat) (Par.app HB.1.2.2.2.2 hgrow (λq hq=>(HB.1.1.belowB q hq).1) hbL 5 (.slice (some ⟨j,0,none⟩) (a.2.len+1) cap))));(have hb7:=HB.1.1.blk.gb hgrow HB.1.1.neB);(have f7:=hb7.frozen 5);(have d7:=hb7.cell' 5 rfl);(have l7:=hb7.lt);clear hown hgrow hat hb7 HB)
       | (go_simp;go_at_call 244;refine(HBk.1 _ _ (BW HGl.1.1 HGl.1.2 (Aj HK.1.gr 1)) (hp.drewN 1) (by rw[hr6];simp)).mono ?_;rintro e w6 hq6;rw[hr6]at hq6;obtain⟨g6,v,rfl,hv6,h6⟩:=hq6;(obtain⟨_,⟨ca6,cc6,rfl,_⟩,_⟩:=id hv6);(have k6:=HK.1.gb (Z (Ad (Aa _ _)) g6));(have l6:=k6.lt);(have d6:=k6.blk.cell' 5 rfl);(have s6:=g6.size);(have k7:=k6.alloc (.cells #[.slice ca6 (c).len cc6] 38 (0,0)));(obtain⟨ds6,ho6,hr7⟩:=k7.bb);(have gA:=gZ w6 (.cells #[.slice ca6 (c).len cc6] 38 (0,0)) none);(have HB:=S (X k7 (X ho6 (X hr7 (X (RepV.gb hv6 gA (by simp)) (h6.alloc (.cells #[.slice ca6 (c).len cc6] 38 (0,0))))))));clear k6 k7 ho6 hr7 hv6 h6 gA g6))
      all_goals
       generalize hWW:World.setCell _ _ _=W10 at*;have HK:=S HK8.1.1;have hp:=HK8.1.2;clear HK8 hx5 d6 d7 f7 l6 l7 s6;go_wp2_with fail;refine(BK hp HTk.1 last HN.1.2.2).mono ?_;intro e w11 hq;obtain⟨g,⟨q,hr,rfl⟩| ⟨u,i11,v,hr,rfl,rfl,hp9⟩⟩:=hq.split
       ·exact⟨rfl,Post.bad (Z HK.1.gr g) (by rw[<-HQ.1,hr];rfl)⟩
       replace HK:=S (HK.1.gb g);replace hp:=hp9;clear hp9;rw[hr,Res.bind_ok]at HQ;clear hr g;rw[Rd.fin_f]at HQ;go_wp2_with fail;refine(AY hp).mono ?_;intro e w12 hq;obtain⟨g,⟨q,hr,rfl⟩| ⟨u,i12,v,hr,rfl,rfl,hp9⟩⟩:=hq.split
       ·exact⟨rfl,Post.bad (Z HK.1.gr g) (by rw[<-HQ.1,hr];rfl)⟩
       replace HK:=S (HK.1.gb g);replace hp:=hp9;clear hp9;rw[hr,Res.bind_ok]at HQ;clear hr g;rw[Rd.pure_f]at HQ;have HS:=S HK.1.toKS;obtain⟨pa9,xa9,ba9,na9,fa9,wa9,pc9,xc9,bc9,nc9,fc9,wc9,e91,e92,e93,e94,e95,e96⟩:=HS.1.shapes
       (first|cases e91|clear e91);(first|cases e92|clear e92);(first|cases e93|clear e93);(first|cases e94|clear e94);(first|cases e95|clear e95);(first|cases e96|clear e96);have hkb:=HS.1.blk;have hkz:=HS.1.zero;have hkl:=hkb.lt;have hkl2:=hkz.lt;have ck_:=hkb.c10;have cz_:=hkz.c10;clear hkb hkz;go_wp2;have hres9:=C1 HS.1 hp HQ.1.symm;have hblk9:=HS.1.out.2.2.1;refine bZ ?hr9 rfl hres9
       case hr9=>exact A8 rfl _ hblk9 rfl rfl
def TZ(h:AZ s≠0):s≠[]:=by rintro rfl;exact h (by decide)
def CX{W:List Bs}(h:As l W i≠[]):i<l.length:=by
 apply Fu;intro e;apply h;unfold As;rw[e];rfl
abbrev VSd(w:World):World->Value->Sd->Prop:=λw' v x=>StV (An w.heap.size) w' v (x,.nil)
def Az{s:Code}{Q:Exit->Act->World->Prop}{a:Act}(F:World->Prop)(hF:F w)(h:∀w',F w'->s.wp P Q a w'):s.wp P Q a w:=h w hF
def N7{f:FuncId}{args:Array Value}{Q:Ending->World->Prop}(F:World->Prop)(hF:F w)(h:∀w',F w'->Calls P f args w' Q):Calls P f args w Q:=h w hF
structure KE(ok:Nat->Prop)(w:World)(n:Nat)(x:Ex)(pa:Option Addr)(pc:Nat)(la:Option Addr)(lc:Nat):Prop where
 blk:Blk w n (hdC x.h (.slice pa x.h.p.length pc) (.slice la x.kids.len lc)) 163
 rp:Cells w (.slice pa x.h.p.length pc) 1 x.h.p.length (x.h.p.map str) ok
 rl:RepL ok w (.slice la x.kids.len lc) x.kids
section
variable {y z:Ex}{r:Option Nat}
def KE.gb(k:KE ok w n x pa pc la lc)(g:w.grownBy w1 r)(hn:some n≠r)(hk:∀q,ok q->q<w.heap.size->some q≠r):KE ok w1 n x pa pc la lc:=⟨k.blk.gb g hn,k.rp.gb g hk,k.rl.gb g hk⟩
def KE.gbN(k:KE ok w n x pa pc la lc)(g:w.grownBy w1 none):KE ok w1 n x pa pc la lc:=k.gb g (by simp) (by simp)
def KE.new(rp:Cells w (.slice pa x.h.p.length pc) 1 x.h.p.length (x.h.p.map str) ok')(rl:RepL ok' w (.slice la x.kids.len lc) x.kids)(hk:∀q,ok' q->q<w.heap.size->ok q):
 KE ok (w.alloc (.cells (hdC x.h (.slice pa x.h.p.length pc) (.slice la x.kids.len lc)).toArray 163 (0,0))) w.heap.size x pa pc la lc:=
 have g:=gZ w (.cells (hdC x.h (.slice pa x.h.p.length pc) (.slice la x.kids.len lc)).toArray 163 (0,0)) none
 ⟨Blk.new _ _ _,(rp.mono hk).gb g (by simp),(rl.mono hk).gb g (by simp)⟩
def KE.put(k:KE ok w n x pa pc la lc){pb lb:Option Addr}{pd ld:Nat}(rp:Cells w (.slice pb y.h.p.length pd) 1 y.h.p.length (y.h.p.map str) ok')(rl:RepL ok' w (.slice lb y.kids.len ld) y.kids)(hk:∀q,ok' q->q<w.heap.size->q≠n):
 KE ok' (set7 w n (.int .i64 y.h.op) (str y.h.s) (.int .i64 y.h.vk) (.int .i64 y.h.vn) (str y.h.vs) (.slice pb y.h.p.length pd) (.slice lb y.kids.len ld)) n y pb pd lb ld:=by
 have g7:=A2 w n (.int .i64 y.h.op) (str y.h.s) (.int .i64 y.h.vk) (.int .i64 y.h.vn) (str y.h.vs) (.slice pb y.h.p.length pd) (.slice lb y.kids.len ld);exact⟨(k.blk.set7 _ _ _ _ _ _ _).of_eq rfl rfl,rp.gb g7 (λq hq hl e=>by cases e;exact hk _ hq hl rfl),rl.gb g7 (λq hq hl e=>by cases e;exact hk _ hq hl rfl)⟩
def KE.mono(k:KE ok w n x pa pc la lc)(hk:∀q,ok q->q<w.heap.size->ok' q):KE ok' w n x pa pc la lc:=⟨k.blk,k.rp.mono hk,k.rl.mono hk⟩
end
def DK(W:World)(m:Nat)(l:List (Bs×Value)):World:={W with heap:=W.heap.setIfInBounds m (AM l)}
def Hb(W:World)(m:Nat)(l:List (Bs×Value)):(DK W m l).heap.size=W.heap.size:=by simp[DK]
def Mc(hm:m<W.heap.size)(l:List (Bs×Value)):(DK W m l).heap[m]? =some (AM l):=by simp[DK,Array.getElem?_setIfInBounds,hm]
def RP(hk:k≠m)(l:List (Bs×Value)):(DK W m l).heap[k]? =W.heap[k]?:=by simp[DK,Array.getElem?_setIfInBounds,Ne.symm hk]
def MK{l:List (Bs×Value)}(hb:W.heap[m]? =some (AM l))(k:Bs)(v:Int)(hf:E3 k l):
 (Instr.mapUpdate 68 (.map (some m)) (str k) (.int .i64 v)).run Tryz.prog W= .ok () (DK W m (l++[(k,.int .i64 v)])):=by
 have hb:W.heap[m]? =some (.map (Cp l 0).toArray l.length):=hb;have hf:Instr.findNow .string (str k) (Cp l 0) 0=some none:=by rw[Iy,M2 k l hf]
 have hc:(Instr.checkKey false 10000 9 (str k)).run Tryz.prog W= .ok () W:=MapKept.run_checkKey (k:=str k) underlying9 (by simp[MapKept.IsKey]) false 9999;simp[Instr.mapUpdate,run_underlying underlying68,MapKept.run_getObj_map hb,hc,MapKept.run_findKey underlying9 hf,MapKept.run_setObj_map _ hb,Result.andThen];have e2:(Obj.map (Cp l 0++[({key:=str k,val:= .int .i64 v,born:=l.length}:MapEntry)]).toArray (l.length+1))=AM (l++[(k,.int .i64 v)]):=by simp[AM,LZ]
 rw[e2];rfl
def KS.ofV{w0:World}{s:Sd}{xa na fa wa ba:Option Addr}{xc nc fc wc bc:Nat}(hz:Blk wr w.heap.size (stC 0 (.slice none 0 0)) 134)(gr:w.grownBy wr (some b))(hb:b<w.heap.size)(hw0:w.heap.size<w0.heap.size)
 (h1:SdRep (An w0.heap.size) wr s pa xa na fa wa pc xc nc fc wc) (h2:RepV (An w0.heap.size) wr true (.slice ba (Bl.nil).len bc) .nil):
 KS b w wr.heap.size (wr.alloc (.cells (sdC s (.slice pa s.p.length pc) (.slice xa s.x.len xc) (.slice ba (Bl.nil).len bc) (.slice na s.n.len nc) (.slice fa s.f.len fc) (.slice wa s.w.len wc)).toArray 134 (0,0))) s .nil (.slice pa s.p.length pc) (.slice xa s.x.len xc) (.slice ba (Bl.nil).len bc) (.slice na s.n.len nc) (.slice fa s.f.len fc) (.slice wa s.w.len wc):=by
 have hlt:=hz.lt;have g1:=gZ wr (.cells (sdC s (.slice pa s.p.length pc) (.slice xa s.x.len xc) (.slice ba (Bl.nil).len bc) (.slice na s.n.len nc) (.slice fa s.f.len fc) (.slice wa s.w.len wc)).toArray 134 (0,0)) none;have hm:∀q,An w0.heap.size q->q<wr.heap.size->but w wr.heap.size q:=λq hq hl=>by have:w0.heap.size<=q:=hq;exact⟨by omega,by omega⟩
 exact⟨Blk.new _ _ _,(h1.p.mono hm).gb g1 (by simp),(h1.x.mono hm).gb g1 (by simp),(RepV.mono' h2 hm).gb g1 (by simp),(h1.n.mono hm).gb g1 (by simp),(h1.f.mono hm).gb g1 (by simp),(h1.w.mono hm).gb g1 (by simp),Ac gr _,hb,hlt,hz.alloc _⟩
abbrev saidWords:List Bs:=[Gs,Gc,Gk,Gl,wIF,wDO,CS,Fb,Fa,D8,DM,GI]
def RepF.one:∀{f:Fo}{cs:List Value},RepF ok w f cs->cs.length=f.len*7/\∀u∈cs,u.oneCell'=true:=by
 intro f;induction f with
 |nil=>rintro cs rfl;simp[Fo.len]
 | cons hd kids next ih1 ih2=>
   rintro cs ⟨pv,lv,kcs,rest,rfl,h1,h2,h3,h4⟩;obtain⟨pa,pc,rfl,_⟩:=h1;obtain⟨la,lc,rfl,_⟩:=h2;have:=ih2 h4;refine⟨by simp[hdC,Fo.len,this.1];omega,?_⟩;intro u hu;rcases List.mem_append.1 hu with h|h
   ·simp[hdC]at h;rcases h with rfl|rfl|rfl|rfl|rfl|rfl|rfl<;>rfl
   ·exact this.2 u h
structure Acc1(w:World)(n m:Int)(wr:World):Prop where
 res:Blk wr w.heap.size [.int .i64 0,.int .i64 0] 96
 acc:Blk wr (w.heap.size+1) [.int .i64 n,.int .i64 m] 96
 g:w.grownBy wr none
def Acc1.start(w:World):Acc1 w 0 0 ((w.alloc (.cells #[.int .i64 0,.int .i64 0] 96 (0,0))).alloc (.cells #[.int .i64 0,.int .i64 0] 96 (0,0))):=
 ⟨(Blk.new w [.int .i64 0,.int .i64 0] _).alloc _,(Blk.new _ [.int .i64 0,.int .i64 0] _).of_eq (by simp) rfl,Ac (gZ w _ none) _⟩
open Go.Maps Go.WideMaps Go.ChangeMaps Go.MapKept
def Is:Keyed Tryz.prog 9:=string_keyed underlying9
def zeroB(w:World):(zeroValue 4).run Tryz.prog w= .ok (.bool false) w:=by kernel_rfl
def Bo(l:List Pd)(i:Nat):Bs:=((l[i]?).map Pd.name).getD []
def ES(l:List Pd):Bool:=(List.range l.length).any λi=>(List.range i).any λk=>Bo l i==Bo l k
def Yl{l:List Pd}(h:∀i,i<l.length->∀k,k<i->Bo l i≠Bo l k):ES l=false:=by
 rw[Bool.eq_false_iff];intro e;simp only[ES,List.any_eq_true,List.mem_range,beq_iff_eq]at e;obtain⟨i,hi,k,hk,e⟩:=e;exact h i hi k hk e
def Vo{l:List Pd}(hi:i<l.length)(hk:k<i)(e:Bo l i=Bo l k):ES l=true:=by
 simp only[ES,List.any_eq_true,List.mem_range,beq_iff_eq];exact⟨i,hi,k,hk,e⟩
def Zn(b:UInt8):(decide (48<=b)&&decide (b<=57))=AL b:=by
 unfold AL;rw[Bool.eq_iff_iff];simp only[Bool.and_eq_true,decide_eq_true_eq,UInt8.le_iff_toNat_le];exact Iff.rfl
def Mb(h:∀i,At (Ab l i)):Al l:=by
 intro i hk;obtain⟨⟨c,r,e,hc⟩,ha⟩:=(h i).word hk;rw[e]at ha ⊢;unfold Ay;simp only[Zn,hc,ha,List.isEmpty_cons,Bool.not_false,Bool.true_and,Bool.and_true]
def Hd.fit(h:Hd):Prop:=h.s.length<=2000000/\h.vs.length<=2000000/\h.p.length<=2000000/\∀s∈h.p,s.length<=2000000
def Fo.fit:Fo->Prop
 | .nil=>True
 | .cons h k n=>h.fit/\k.fit/\n.fit
def Pt(f:Fo)(ok:Nat->Prop)(la:Option Addr)(lc:Nat)(w:World)(hf:RepL ok w (.slice la f.len lc) f)(hfit:f.fit)
 (hE:∀(h:Hd)(k:Fo)(pa lb:Option Addr)(pc ld:Nat)(W:World),k.wt<f.wt->h.fit->k.fit->Cells W (.slice pa h.p.length pc) 1 h.p.length (h.p.map str) (λ_=>True)->RepL (λ_=>True) W (.slice lb k.len ld) k->
  Calls Tryz.prog 169 #[exV h (.slice pa h.p.length pc) (.slice lb k.len ld)] W (ρ W (.bool (!(BZ h k.len&&okF k))))):
 Calls Tryz.prog 217 #[.slice la f.len lc,.func (.func 169) #[] #[]] w λe w'=>(∃n:Int,e= .returned (.int .i64 n)/\decide (0<=n)= !okF f)/\w.grownBy w' none:=by
 replace hf:=hf.mono (ok':=λ_=>True) (λ_ _ _=>trivial);obtain⟨cs,hc1,hr1⟩:=hf;obtain⟨_,_,e,hle,hmx,_,hc1⟩:=hc1;cases e;have hmax:f.len<=maxLen:=by omega
 unfold maxLen at hmax;clear hle hmx;have HC:=S (X hc1 hE);have HR:=S (X hr1 hfit);clear hc1 hE hr1 hfit;go_enter func217,ntmps217;go_wp2_with fail;go_loopg [8] f.len (λn v8 wr=>∃rf:Fo,∃k:Nat,rf.len=n/\k+n=f.len/\v8= .int .i64 k/\rf.wt<=f.wt/\rf.fit/\okF f=okF rf/\RepF (λ_=>True) w rf (cs.drop (k*7))/\w.grownBy wr none)
 case atStart=>exact⟨f,0,rfl,by omega,rfl,nR _,HR.1.2,rfl,by simpa using HR.1.1,Aa _ _⟩
 case round=>
  obtain⟨rf,k,hn,hk,rfl,hno,hft,hs,hrf,hgr⟩:=hrel;clear HR;cases rf with
  | nil=>
    have hkI:decide (k<f.len)=false:=by simp[Fo.len]at hn;simp;omega
    have HS:=S (show okF f=true by rw[hs];rfl);have HG:=S hgr;clear hs hgr hn hrf hft;go_wp2;go_ret;exact⟨⟨_,rfl,by rw[HS.1];simp⟩,HG.1⟩
  | cons h1 k1 n1=>
    simp only[Fo.len]at hn;simp only[Fo.wt]at hno;subst hn;obtain⟨pa1,pc1,lb1,ld1,hp1,hl1,hx1,ha1⟩:=RepF.elem (n:=f.len) (lc:=lc) (f:=f) HC.1.1 hrf;have hkI:decide (k<f.len)=true:=by simp;omega
    have hkf:k+1<=f.len:=by omega
    have HS:=S (show okF f=((BZ h1 k1.len&&okF k1)&&okF n1)from hs);have HE:=S (fun(W:World)(gW:wr.grownBy W none)=>HC.1.2 h1 k1 pa1 lb1 pc1 ld1 W (by omega) hft.1 hft.2.1 (hp1.gb (Z hgr gW) (by simp)) (hl1.gb (Z hgr gW) (by simp)));have HN:=S (X (show n1.wt<=f.wt by omega) (X hft.2.2 (X hx1 hgr)));clear hs hno hrf hp1 hl1 hx1 hft;obtain⟨g1,o1,rfl,hokz,y0⟩:=ha1 0 _ rfl;obtain⟨_,_,e1,_,y1⟩:=ha1 1 _ rfl;cases e1;obtain⟨_,_,e1,_,y2⟩:=ha1 2 _ rfl;cases e1;obtain⟨_,_,e1,_,y3⟩:=ha1 3 _ rfl;cases e1;obtain⟨_,_,e1,_,y4⟩:=ha1 4 _ rfl;cases e1;obtain⟨_,_,e1,_,y5⟩:=ha1 5 _ rfl;cases e1;obtain⟨_,_,e1,_,y6⟩:=ha1 6 _ rfl;cases e1;have hglz:=bY w _ y0;have z0:=Ae hgr y0;have z1:=Ae hgr y1;have z2:=Ae hgr y2;have z3:=Ae hgr y3;have z4:=Ae hgr y4;have z5:=Ae hgr y5;have z6:=Ae hgr y6;simp only[Nat.add_zero,<-Nat.add_assoc]at z0 z1 z2 z3 z4 z5 z6;clear y0 y1 y2 y3 y4 y5 y6 ha1 hgr;have hws:=HN.1.2.2.2.size;have hq1:g1<wr.heap.size:=Nat.lt_of_lt_of_le hglz hws;cases hb:(BZ h1 k1.len&&okF k1)with
    | true=>
      rw[hb]at HE;have HB:=S (show okF f=okF n1 by rw[HS.1,hb];rfl);clear hb;go_wp2_with fail;refine(HE.1 _ ?gg).mono ?_
      case gg=>exact(Aa _ _)
      rintro e w5 ⟨rfl,g5⟩;have gg:=Z HN.1.2.2.2 (Z (Aa _ _) g5);have HG:=S gg;clear gg g5;go_wp2;go_roundg n1.len
      case measure=>omega
      case rel=>exact⟨n1,k+1,rfl,by omega,by go_num,HN.1.1,HN.1.2.1,HB.1,HN.1.2.2.1,HG.1⟩
    | false=>
      rw[hb]at HE;have HB:=S (show okF f=false by rw[HS.1,hb];rfl);clear hb;go_wp2_with fail;refine(HE.1 _ ?gg2).mono ?_
      case gg2=>exact(Aa _ _)
      rintro e w5 ⟨rfl,g5⟩;have gg:=Z HN.1.2.2.2 (Z (Aa _ _) g5);have HG:=S gg;clear gg g5;go_wp2;go_ret;exact⟨⟨_,rfl,by rw[HB.1];simp⟩,HG.1⟩
def PB(f:Fo)(ok:Nat->Prop)(la:Option Addr)(lc:Nat)(w:World)(hf:RepL ok w (.slice la f.len lc) f)(hfit:f.fit)
 (hE:∀(h:Hd)(k:Fo)(pa lb:Option Addr)(pc ld:Nat)(W:World),k.wt<f.wt->h.fit->k.fit->Cells W (.slice pa h.p.length pc) 1 h.p.length (h.p.map str) (λ_=>True)->RepL (λ_=>True) W (.slice lb k.len ld) k->
  Calls Tryz.prog 170 #[exV h (.slice pa h.p.length pc) (.slice lb k.len ld)] W (ρ W (.bool (BZ h k.len&&okF k)))):
 Calls Tryz.prog 122 #[.slice la f.len lc] w (ρ w (.bool (okF f))):=by
 have H:=S (Pt f ok la lc w hf hfit (λh k pa lb pc ld W h1 h2 h3 h4 h5=>by
  have hp:=Blk.new W (hdC h (.slice pa h.p.length pc) (.slice lb k.len ld)) 163;have H:=S (fun(W2:World)(g:W.grownBy W2 none)=>hE h k pa lb pc ld W2 h1 h2 h3 (h4.gb g (by simp)) (h5.gb g (by simp)));have x_:=hp.c7;clear hE h4 h5 hp hf;generalize(BZ h k.len&&okF k)=b at*;go_enter func169,ntmps169;go_wp2_with fail;refine(H.1 _ ?gg).mono ?_
  case gg=>exact(Ac (Aa _ _) _)
  rintro e w5 ⟨rfl,g5⟩;go_wp2;go_ret;exact⟨rfl,Z (Ac (Aa _ _) _) g5⟩))
 clear hE hf hfit;have H2:Calls Tryz.prog 168 #[.slice la f.len lc,.func (.func 169) #[] #[]] w (ρ w (.bool (!okF f))):=by
  go_enter func168,ntmps168;go_wp2_with fail;refine H.1.mono ?_;rintro e w1 ⟨⟨n,rfl,hn⟩,hb⟩;have HN:=S hn;clear hn;go_wp2;go_ret;exact⟨by rw[<-HN.1];rfl,hb⟩
 clear H;have H:=S H2;clear H2;go_enter func122,ntmps122;go_wp2_with fail;refine mR H.1 λw1 hb=>?_;go_wp2;go_ret;exact⟨rfl,hb⟩
section
variable {h:Hd}
def Vp(h0:h.op≠0)(hv:¬(h.vk=0/\h.vn=0/\h.vs=[])):BZ h n=false:=by
 unfold BZ;rw[if_pos ⟨h0,hv⟩]
def Vq(hv:¬(h.op≠0/\¬(h.vk=0/\h.vn=0/\h.vs=[])))(h8:h.op≠8)(hp:h.p≠[]):BZ h n=false:=by
 unfold BZ;rw[if_neg hv,if_pos ⟨h8,hp⟩]
def Vr(hv:¬(h.op≠0/\¬(h.vk=0/\h.vn=0/\h.vs=[])))(h8:¬(h.op≠8/\h.p≠[])):BZ h n=A1 h n:=by
 unfold BZ;rw[if_neg hv,if_neg h8]
def QV(h0:h.op≠0)(hv:¬(h.vk=0/\h.vn=0/\h.vs=[])):
 Calls Tryz.prog 170 #[exV h (.slice pa h.p.length pc) (.slice la n lc)] w (ρ w (.bool false)):=by
 obtain⟨op,s,vk,vn,vs,p⟩:=h;simp only at h0 hv ⊢;have c1:(op==0)=false:=by simpa using h0
 have c2:(op !=0)=true:=by simpa using h0
 clear h0;by_cases hk:vk=0
 ·subst hk;by_cases hn:vn=0
  ·subst hn;have hs:vs≠[]:=λe=>hv ⟨rfl,rfl,e⟩;clear hv;go_enter func170,ntmps170;go_wp2;go_ret;exact⟨rfl,(Ac (Ac (Aa _ _) _) _)⟩
  ·clear hv;go_enter func170,ntmps170;go_wp2;go_ret;exact⟨rfl,(Ac (Ac (Aa _ _) _) _)⟩
 ·clear hv;go_enter func170,ntmps170;go_wp2;go_ret;exact⟨rfl,(Ac (Ac (Aa _ _) _) _)⟩
def QW(hv:¬(h.op≠0/\¬(h.vk=0/\h.vn=0/\h.vs=[])))(h8:h.op≠8)(hp:h.p≠[]):
 Calls Tryz.prog 170 #[exV h (.slice pa h.p.length pc) (.slice la n lc)] w (ρ w (.bool false)):=by
 obtain⟨op,s,vk,vn,vs,p⟩:=h;simp only at h8 hp hv ⊢;have c3:(op==8)=false:=by simpa using h8
 have c4:(op !=8)=true:=by simpa using h8
 have hl:0<p.length:=List.length_pos_iff.2 hp;have hlI:decide ((0:Int)<(p.length:Int))=true:=by simp;omega
 by_cases h0:op=0
 ·subst h0;clear hv hp h8;go_enter func170,ntmps170;go_wp2;go_ret;exact⟨rfl,(Ac (Ac (Aa _ _) _) _)⟩
 ·obtain⟨rfl,rfl,rfl⟩:vk=0/\vn=0/\vs=[]:=Classical.not_not.1 λe=>hv ⟨h0,e⟩;have c1:(op==0)=false:=by simpa using h0
  have c2:(op !=0)=true:=by simpa using h0
  clear hv hp h8 h0;go_enter func170,ntmps170;go_wp2;go_ret;exact⟨rfl,(Ac (Ac (Aa _ _) _) _)⟩
def QX(hv:¬(h.op≠0/\¬(h.vk=0/\h.vn=0/\h.vs=[])))(h8:¬(h.op≠8/\h.p≠[]))
 (HL:∀W,w.grownBy W none->Calls Tryz.prog 122 #[.slice la n lc] W (ρ W (.bool false))):
 Calls Tryz.prog 170 #[exV h (.slice pa h.p.length pc) (.slice la n lc)] w (ρ w (.bool false)):=by
 have H:=S HL;clear HL;obtain⟨op,s,vk,vn,vs,p⟩:=h;simp only at h8 hv ⊢;by_cases h0:op=0
 ·subst h0;obtain rfl:p=[]:=Classical.not_not.1 λe=>h8 ⟨by decide,e⟩;clear hv h8;go_enter func170,ntmps170;go_wp2_with fail;refine(H.1 _ ?gg).mono ?_
  case gg=>exact(Ac (Ac (Aa _ _) _) _)
  rintro e w5 ⟨rfl,g5⟩;go_wp2;go_ret;exact⟨rfl,Z (Ac (Ac (Aa _ _) _) _) g5⟩
 ·obtain⟨rfl,rfl,rfl⟩:vk=0/\vn=0/\vs=[]:=Classical.not_not.1 λe=>hv ⟨h0,e⟩;have c1:(op==0)=false:=by simpa using h0
  have c2:(op !=0)=true:=by simpa using h0
  by_cases e8:op=8
  ·subst e8;clear hv h8 h0;go_enter func170,ntmps170;go_wp2_with fail;refine(H.1 _ ?gg).mono ?_
   case gg=>exact(Ac (Ac (Aa _ _) _) _)
   rintro e w5 ⟨rfl,g5⟩;go_wp2;go_ret;exact⟨rfl,Z (Ac (Ac (Aa _ _) _) _) g5⟩
  ·obtain rfl:p=[]:=Classical.not_not.1 λe=>h8 ⟨e8,e⟩;have c3:(op==8)=false:=by simpa using e8
   have c4:(op !=8)=true:=by simpa using e8
   clear hv h8 h0 e8;go_enter func170,ntmps170;go_wp2_with fail;refine(H.1 _ ?gg).mono ?_
   case gg=>exact(Ac (Ac (Aa _ _) _) _)
   rintro e w5 ⟨rfl,g5⟩;go_wp2;go_ret;exact⟨rfl,Z (Ac (Ac (Aa _ _) _) _) g5⟩
end
structure ZW(d:Wd)(day:Bs->Int):Prop extends WdOk d day where
 fit:∀n:Int,0<=n->(d.num n).length<=15->n<=999999999999999
open Go.Lib
def N1(s:Bs)(b:UInt8):AA (s++[b])=10*AA s+((b.toNat:Int)-48):=by
 unfold AA;rw[List.foldl_append];rfl
def GA(h:k<10):(UInt8.ofNat (48+k)).toNat=48+k:=by
 rw[UInt8.toNat_ofNat'];omega
def Jd(u:Nat):AA (decDigits u)=u:=by
 induction u using Nat.strongRecOn with
 | ind u ih=>
   rw[decDigits];split
   ·rename_i h;show AA ([]++[UInt8.ofNat (48+u)])=u;rw[N1,GA h];show 10*(0:Int)+_=_;omega
   ·rename_i h;rw[N1,ih (u/10) (by omega),GA (by omega)];omega
def G8(u:Nat):(decDigits u).all AL=true:=by
 induction u using Nat.strongRecOn with
 | ind u ih=>
   rw[decDigits];split
   ·rename_i h;simp only[List.all_cons,List.all_nil,Bool.and_true,AL,GA h,Bool.and_eq_true,decide_eq_true_eq];omega
   ·rename_i h;rw[List.all_append,ih (u/10) (by omega)];simp only[List.all_cons,List.all_nil,Bool.and_true,Bool.true_and,AL,GA (show u%10<10 by omega),Bool.and_eq_true,decide_eq_true_eq];omega
def Kd:∀k,1<=k->u<10 ^ k->nDigits u<=k:=by
 induction u using Nat.strongRecOn with
 | ind u ih=>
   intro k h1 h2;by_cases h:u<10
   ·rw[nDigits_small h];omega
   ·rw[nDigits_big h];obtain⟨k,rfl⟩:∃q,k=q+1:=⟨k-1,by omega⟩;have hk:1<=k:=by
     rcases Nat.eq_zero_or_pos k with rfl|hp
     ·simp at h2;omega
     ·exact hp
    have:=ih (u/10) (by omega) k hk (by rw[Nat.pow_succ]at h2;omega);omega
def M5(u:Nat):u<10 ^ nDigits u:=by
 induction u using Nat.strongRecOn with
 | ind u ih=>
   by_cases h:u<10
   ·rw[nDigits_small h];omega
   ·rw[nDigits_big h,Nat.pow_succ];have:=ih (u/10) (by omega);omega
def NZ(n:Int)(h:0<=n):itoa n=decDigits n.toNat:=by
 unfold itoa;rw[if_neg (by omega)]
def BU(n:Int):Nat->Nat
 | 0=>1
 |k+1=>if Ax ((k:Int)+2)<n then k+2 else BU n k
def Dp(y n:Int):Nat->Nat
 | 0=>1
 |k+1=>if Ax y+Av y (k+1)<n then k+2 else Dp y n k
def Yo(n:Int)(h1:1<=n):∀k:Nat,k<=9998->n<=Ax ((k:Int)+2)->1<=BU n k/\BU n k<=k+1/\Ax (BU n k)<n/\n<=Ax ((BU n k:Int)+1):=by
 intro k;induction k with
 | zero=>
   intro _ h2;refine⟨nR _,nR _,?_,?_⟩
   ·show Ax 1<n;have:Ax 1=0:=by decide
    omega
   ·exact h2
 | succ k ih=>
   intro hk h2;unfold BU;split
   ·rename_i h;refine⟨by omega,by omega,?_,?_⟩
    ·have e:((k+2:Nat):Int)=(k:Int)+2:=by omega
     rw[e];exact h
    ·have e:((k+2:Nat):Int)+1=((k+1:Nat):Int)+2:=by omega
     rw[e];exact h2
   ·rename_i h;obtain⟨a,b,c,d⟩:=ih (by omega) (by omega);exact⟨a,by omega,c,d⟩
def Zj(y n:Int)(h1:Ax y<n):∀k:Nat,k<=11->n<=Ax y+Av y (k+1)->1<=Dp y n k/\Dp y n k<=k+1/\Ax y+Av y (Dp y n k-1)<n/\n<=Ax y+Av y (Dp y n k):=by
 intro k;induction k with
 | zero=>
   intro _ h2;exact⟨nR _,nR _,by show Ax y+0<n;omega,h2⟩
 | succ k ih=>
   intro hk h2;unfold Dp;split
   ·rename_i h;exact⟨by omega,by omega,h,h2⟩
   ·rename_i h;obtain⟨a,b,c,d⟩:=ih (by omega) (by omega);exact⟨a,by omega,c,d⟩
def Yp(y:Int)(h0:1<=y):Av y 12=if EB y then 366 else 365:=by
 simp only[Av,AT];cases EB y<;>rfl
def JX(y:Int)(h0:1<=y):Ax (y+1)=Ax y+Av y 12:=by
 rw[Yp y h0];unfold Ax EB;rw[show y+1-1=y by omega];have e1:∀b:Int,0<b->y.tdiv b=y/b:=λb hb=>Int.tdiv_eq_ediv_of_nonneg (by omega);have e2:∀b:Int,0<b->(y-1).tdiv b=(y-1)/b:=λb hb=>Int.tdiv_eq_ediv_of_nonneg (by omega);have e3:∀b:Int,0<b->y.tmod b=y%b:=λb hb=>Int.tmod_eq_emod_of_nonneg (by omega);rw[e1 4 (by omega),e1 100 (by omega),e1 400 (by omega),e2 4 (by omega),e2 100 (by omega),e2 400 (by omega),e3 4 (by omega),e3 100 (by omega),e3 400 (by omega)];simp only[Bool.and_eq_true,Bool.or_eq_true,beq_iff_eq,bne_iff_ne,ne_eq];split<;>omega
def AU(k:Nat)(u:Nat):Bs:=List.replicate (k-(decDigits u).length) 48++decDigits u
def KK(k u:Nat):AA (AU k u)=u:=by
 unfold AU;have h:∀(m:Nat)(s:Bs),AA (List.replicate m 48++s)=AA s:=by
  intro m s;induction m with
  |zero=>rfl
  | succ m ih=>
    rw[List.replicate_succ];exact ih
 rw[h,Jd]
def EK(hk:1<=k)(h:u<10 ^ k):(AU k u).length=k:=by
 unfold AU;rw[lA,List.length_replicate,decDigits_length];have:=Kd k hk h;omega
def KM(k u:Nat):(AU k u).all AL=true:=by
 unfold AU;rw[List.all_append,G8,Bool.and_true,List.all_eq_true];intro b hb;rw[List.eq_of_mem_replicate hb];decide
def Ba(n:Int):Nat×Nat×Nat:=
 let y:=BU n 9998
 let m:=Dp y n 11
 (y,m,(n-Ax y-Av y (m-1)).toNat)
def KD{n:Int}(h0:0<n)(h1:n<=3652059):1<=(Ba n).1/\(Ba n).1<=9999/\1<=(Ba n).2.1/\(Ba n).2.1<=12/\1<=(Ba n).2.2/\((Ba n).2.2:Int)<=AT (Ba n).1 (Ba n).2.1/\
 Ax (Ba n).1+Av (Ba n).1 ((Ba n).2.1-1)+(Ba n).2.2=n:=by
 have hY:n<=Ax (((9998:Nat):Int)+2):=by
  have:Ax (((9998:Nat):Int)+2)=3652059:=by decide
  omega
 obtain⟨a,b,c,d⟩:=Yo n (by omega) 9998 (nR _) hY;rw[JX _ (by omega)]at d;obtain⟨a2,b2,c2,d2⟩:=Zj (BU n 9998) n c 11 (nR _) d;have e:Av (BU n 9998) (Dp (BU n 9998) n 11)=Av (BU n 9998) (Dp (BU n 9998) n 11-1)+AT (BU n 9998) (Dp (BU n 9998) n 11):=by
  obtain⟨m,hm⟩:∃q,Dp (BU n 9998) n 11=q+1:=⟨Dp (BU n 9998) n 11-1,by omega⟩;rw[hm];show Av _ m+AT _ ((m:Int)+1)=_;rw[show m+1-1=m by omega];congr 2
 have hs:Ba n=(BU n 9998,Dp (BU n 9998) n 11,(n-Ax (BU n 9998)-Av (BU n 9998) (Dp (BU n 9998) n 11-1)).toNat):=rfl;rw[hs];simp only;refine⟨a,b,a2,b2,by omega,?_,by omega⟩;omega
def Dy(n:Int):Bs:=AU 4 (Ba n).1++AU 2 (Ba n).2.1++AU 2 (Ba n).2.2
def Oe(y m:Int):AT y m<=31:=by
 unfold AT;split
 ·omega
 ·have h : ∀ k : Nat, ([31, 28, 31, 30, 31, 30, 31, 31, 30, 31, 30, 31] : List Int).getD k 0 <= 31 := by
   intro k;match k with
   | 0| 1| 2| 3| 4| 5| 6| 7| 8| 9| 10| 11=>decide
   |k+12=>simp
  exact h _
def T9{n:Int}(h0:0<n)(h1:n<=3652059):AE (Dy n)=n:=by
 obtain⟨a,b,c,d,e,f,g⟩:=KD h0 h1;have hm:=Oe (Ba n).1 (Ba n).2.1;unfold Dy;generalize(Ba n).1=y at*;generalize(Ba n).2.1=m at*;generalize(Ba n).2.2=q at*;have l1:=EK (k:=4) (u:=y) (by omega) (by omega);have l2:=EK (k:=2) (u:=m) (by omega) (by omega);have l3:=EK (k:=2) (u:=q) (by omega) (by omega);have e1:(AU 4 y++AU 2 m++AU 2 q).take 4=AU 4 y:=by
  rw[List.append_assoc,List.take_append_of_le_length (by omega),List.take_of_length_le (by omega)]
 have e2:((AU 4 y++AU 2 m++AU 2 q).drop 4).take 2=AU 2 m:=by
  rw[List.append_assoc,List.drop_left' l1,List.take_append_of_le_length (by omega),List.take_of_length_le (by omega)]
 have e3:(AU 4 y++AU 2 m++AU 2 q).drop 6=AU 2 q:=List.drop_left' (by rw[lA];omega);have hd:(AU 4 y++AU 2 m++AU 2 q).all AL=true:=by rw[List.all_append,List.all_append,KM,KM,KM];rfl
 have hl:(AU 4 y++AU 2 m++AU 2 q).length=8:=by rw[lA,lA];omega
 unfold AE C8;rw[if_neg (by intro h;rw[h]at hd;exact absurd hd (by decide)),if_neg (by rw[hl,hd];simp),e1,e2,e3,KK,KK,KK];unfold BV;rw[if_neg (by simp[F4];omega)];show Ax (y:Int)+(q:Int)+Av (y:Int) ((m:Int)-1).toNat=n;rw[show((m:Int)-1).toNat=m-1 by omega];omega
def wdM:Wd:=⟨itoa,Dy⟩
def wdM_ok:ZW wdM AE where
 nums n h0 h1:=by
  obtain⟨u,rfl⟩:∃u:Nat,n=u:=⟨n.toNat,by omega⟩;show(itoa (u:Int)).length<=15/\AA (itoa (u:Int))=u;rw[NZ _ h0,show(u:Int).toNat=u from rfl,decDigits_length,Jd];exact⟨Kd 15 (by omega) (by omega),rfl⟩
 days n h0 h1:=T9 h0 h1;zero:=by decide
 fit n h0 hl:=by
  obtain⟨u,rfl⟩:∃u:Nat,n=u:=⟨n.toNat,by omega⟩;have hl':(itoa (u:Int)).length<=15:=hl;rw[NZ _ h0,show(u:Int).toNat=u from rfl,decDigits_length]at hl';have h1:=M5 u;have h2:(10:Nat) ^ nDigits u<=10 ^ 15:=Nat.pow_le_pow_right (by omega) hl';omega
def CB:List Bs->Bs
 | []=>[]
 |a::r=>a++(r.map λs=>[44,32]++s).flatten
def Ie(d:Wd)(h:Hd):Bs:=
 if h.vk=1 then(if h.vn=0 then [46,70,46]else [46,84,46])
 else if h.vk=2 then d.num h.vn
 else if h.vk=3 then(if h.vn=0 then [123,125]else IV (d.day h.vn))
 else if h.vk=4 then(if h.vs.contains 34 then [39]++h.vs++[39]else [34]++h.vs++[34])
 else [46,78,85,76,76,46]
def opT(x:Hd×Bs):Bs:=if x.1.op=4\/x.1.op=5 then [40]++x.2++[41]else x.2
def Ct(d:Wd)(h:Hd)(ks:List (Hd×Bs)):Bs:=
 if h.op=0 then Ie d h
 else if h.op=2 then(match ks with
  |x::_=>if x.1.op=1 then h.s++[45,62]++x.1.s else h.s++[45,62,40]++x.2++[41]
  | []=>[])
 else if h.op=3 then h.s++[40]++CB (ks.map (·.2))++[41]
 else if h.op=4 then(match ks with
  |x::_=>if h.s=[45]then [45]++opT x else h.s++[32]++opT x
  | []=>[])
 else if h.op=5 then(match ks with
  |x::y::_=>opT x++[32]++h.s++[32]++opT y
  |_=>[])
 else if h.op=6 then(match ks with
  |x::y::_=>opT x++[91]++y.2++[93]
  |_=>[])
 else if h.op=7 then [123]++CB (ks.map (·.2))++[125]
 else if h.op=8 then(match ks with
  |x::_=>[123,124]++CB h.p++[124,32]++x.2++[125]
  | []=>[])
 else if h.op=9 then(if h.s≠[]then [38]++h.s++[46]else(match ks with
  |x::_=>[38,40]++x.2++[41]
  | []=>[]))
 else if h.op=10 then [64]++h.s
 else h.s
def AX(d:Wd):Fo->List (Hd×Bs)
 | .nil=>[]
 | .cons h k n=>(h,Ct d h (AX d k))::AX d n
def E7(d:Wd)(x:Ex):Bs:=Ct d x.h (AX d x.kids)
end Go.Proofs.YtbjfaimkiclhgaaGreatDoor
