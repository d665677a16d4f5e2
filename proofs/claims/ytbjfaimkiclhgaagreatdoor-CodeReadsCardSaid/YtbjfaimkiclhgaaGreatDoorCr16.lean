/-
  QgL QgM
-/
import Derived.Test.YtbjfaimkiclhgaaGreatDoorCr14
import Derived.Test.YtbjfaimkiclhgaaGreatDoorCr15
set_option linter.all false
set_option maxRecDepth 100000
set_option maxHeartbeats 8000000
namespace Go.Proofs.YtbjfaimkiclhgaaGreatDoor
open Go.Proofs.Tryz
open Go.RowKit
variable{b i n:Nat}{tv wo:Value}{l:List Tok}{w:World}{day:Bs->Int}
def CA{wr:World}{L:Nat}{h:Sd}{pv xv bv nv fv wv:Value}{r:Res Sd}(k:KS b w L wr h .nil pv xv bv nv fv wv)(hp:Par wr b tv wo l wordsL i)(hr:r= .ok h i):
 Post b tv wo l wordsL w (VSd w) r (.returned (.agg (sdC h pv xv bv nv fv wv).toArray)) (set10 wr w.heap.size (.int .i64 h.op) (str h.s) (str h.t) pv xv bv (.int .i64 h.kind) nv fv wv):=by
 obtain⟨g1,g2,_,h4⟩:=k.out;have:=k.bw;exact Post.ok g1 hr h4 (hp.gb g2 (by intro q e;cases e;omega))
def C3(b:Nat)(tv wo:Value)(l:List Tok)(hn:Al l)(day:Bs->Int)(n:Nat)(wd:Bs):Prop:=
 ∀(w:World)(i:Nat),Par w b tv wo l wordsL i->i<l.length->(BA hn wordsL day n wd).f (i+1) ≠ .out->Calls Tryz.prog 329 #[.pointer (some ⟨b,0,none⟩),str wd] w (Post b tv wo l wordsL w (VSd w) ((BA hn wordsL day n wd).f (i+1)))
abbrev zGae(Ψ:∀(b:Nat)(tv wo:Value)(l:List Tok)(day:Bs->Int)(n:Nat)(hn:Al l),Prop):Prop:=∀{b:Nat}{tv wo:Value}{l:List Tok}{day:Bs->Int}{n:Nat}(hn:Al l)(hnn:n<=100000)(hE:CE 208 b tv wo l wordsL (Ak l day n))(hok:∀i,At (Ab l i))(hl:A0 l),Ψ b tv wo l day n hn
def zGah:(zGae λb tv wo l day n hn=>C3 b tv wo l hn day n Ff)/\(zGae λb tv wo l day n hn=>C3 b tv wo l hn day n FF)/\(zGae λb tv wo l day n hn=>C3 b tv wo l hn day n FN):=by
 refine⟨?a,?b,?c⟩
 all_goals
  intro b tv wo l day n hn hnn hE hok hl;have HE:=S hE;have HTk:=S hok;have HSh:=S hl;clear hE hok hl;intro w i h hi ho;have HO:=S ho
 case' a=>
  generalize hR:(BA hn wordsL day n Ff).f (i+1)=R at*;replace hR:Res.ok (sd0 13 Ff) (i+1)=R:=hR;have HQ:=S hR;obtain⟨hb,hfew,c1,f1,HB0⟩:=CC Ff h hi;clear h ho hR;go_enter func329,ntmps329;go_upto_region 4 with fail;refine Az (λW=>KA b w (w.heap.size+1) W 13 Ff [] [] .nil .nil (.slice none 0 0) (.slice none 0 0) (.slice none 0 0)/\Par W b tv wo l wordsL (i+1)) HB0.out ?_
 case' b=>
  generalize hR:(BA hn wordsL day n FF).f (i+1)=R at*;replace hR:Res.ok (sd0 13 FF) (i+1)=R:=hR;have HQ:=S hR;obtain⟨hb,hfew,c1,f1,HB0⟩:=CC FF h hi;clear h ho hR;go_enter func329,ntmps329;go_upto_region 4 with fail;refine Az (λW=>KA b w (w.heap.size+1) W 13 FF [] [] .nil .nil (.slice none 0 0) (.slice none 0 0) (.slice none 0 0)/\Par W b tv wo l wordsL (i+1)) HB0.out ?_
 case' c=>
  generalize hR:(BA hn wordsL day n FN).f (i+1)=R at*;replace hR:Res.ok (sd0 13 FN) (i+1)=R:=hR;have HQ:=S hR;obtain⟨hb,hfew,c1,f1,HB0⟩:=CC FN h hi;clear h ho hR;go_enter func329,ntmps329;go_upto_region 4 with fail;refine Az (λW=>KA b w (w.heap.size+1) W 13 FN [] [] .nil .nil (.slice none 0 0) (.slice none 0 0) (.slice none 0 0)/\Par W b tv wo l wordsL (i+1)) HB0.out ?_
 all_goals
  rintro W0 ⟨hK,hp⟩;have HK:=S hK;clear hK HB0 c1 f1;have hkl:=HK.1.lt;replace HK:=S HK.1.toKS;go_upto_region 41 with fail;refine Az (λW=>(∃pv xv nv fv wv,KS b w (w.heap.size+1) W _ .nil pv xv (.slice none 0 0) nv fv wv)/\Par W b tv wo l wordsL _) ⟨⟨_,_,_,_,_,HK.1⟩,hp⟩ ?_;clear HK hp;rintro W9 ⟨⟨pv0,xv0,nv0,fv0,wv0,hK0⟩,hp⟩;have HK:=S hK0;clear hK0;obtain⟨pa9,xa9,ba9,na9,fa9,wa9,pc9,xc9,bc9,nc9,fc9,wc9,e91,e92,e93,e94,e95,e96⟩:=HK.1.shapes;(first|cases e91|clear e91);(first|cases e92|clear e92);(first|cases e93|clear e93);(first|cases e94|clear e94);(first|cases e95|clear e95);(first|cases e96|clear e96);have hkb:=HK.1.blk;have hkz:=HK.1.zero;have hkl:=hkb.lt;have hkl2:=hkz.lt;have ck_:=hkb.c10;have cz_:=hkz.c10;clear hkb hkz;go_wp2;have hres9:=CA HK.1 hp HQ.1.symm;have hblk9:=HK.1.out.2.2.1;refine bZ ?hr9 rfl hres9
  case hr9=>exact A8 rfl _ hblk9 rfl rfl
def zGai:(zGae λb tv wo l day n hn=>C3 b tv wo l hn day n F2)/\(zGae λb tv wo l day n hn=>C3 b tv wo l hn day n FH)/\(zGae λb tv wo l day n hn=>C3 b tv wo l hn day n FG)/\(zGae λb tv wo l day n hn=>C3 b tv wo l hn day n Fx):=by
 refine⟨?a,?b,?c,?d⟩
 all_goals
  intro b tv wo l day n hn hnn hE hok hl;have HE:=S hE;have HTk:=S hok;have HSh:=S hl;clear hE hok hl;intro w i h hi ho;have HO:=S ho
 case' a=>
  generalize hR:(BA hn wordsL day n F2).f (i+1)=R at*;replace hR:((Rd.name hn).bind λp=>Rd.pure {sd0 13 F2 with p:=[p]}).f (i+1)=R:=hR;have HQ:=S hR;obtain⟨hb,hfew,c1,f1,HB0⟩:=CC F2 h hi;clear h ho hR;go_enter func329,ntmps329;go_upto_region 4 with fail;refine Az (λW=>KA b w (w.heap.size+1) W 13 F2 [] [] .nil .nil (.slice none 0 0) (.slice none 0 0) (.slice none 0 0)/\Par W b tv wo l wordsL (i+1)) HB0.out ?_;rintro W0 ⟨hK,hp⟩;have HK:=S hK;clear hK HB0 c1 f1;have hkl:=HK.1.lt;rw[Rd.name_f]at HQ;replace HK:=S HK.1.toKS;have hkl:=HK.1.lt;have hwL:=HK.1.wL;go_wp2_with fail;refine(B7 hp HSh.1).mono ?_;intro e w7 hq;obtain⟨g,⟨q,hr,rfl⟩| ⟨p,j7,v,hr,rfl,rfl,hp9⟩⟩:=hq.split
  ·exact⟨rfl,Post.bad (Z HK.1.gr g) (by rw[<-HQ.1,hr];rfl)⟩
  replace HK:=S (HK.1.gb g);replace hp:=hp9;clear hp9;rw[hr,Res.bind_ok]at HQ;clear hr g;have hkl3:=HK.1.lt;have d3:=HK.1.blk.cell' 3 rfl;have f3:=HK.1.blk.frozen 3;have hbL:b<(w.heap.size+1):=by have:=HK.1.bw;omega
  have hp3:=(hp.set (L:=(w.heap.size+1)) hbL 3 (.slice (some ⟨(w7).heap.size,0,none⟩) 1 1)).alloc (.cells #[str p] 9 (0,0));replace HK:=S (HK.1.layP p);replace hp:=hp3;clear hp3;rw[Rd.pure_f]at HQ
 case' b=>
  generalize hR:(BA hn wordsL day n FH).f (i+1)=R at*;replace hR:(D2 l (Ak l day n) (i+1)).bind (λf k=>Res.ok {sd0 13 FH with x:=f} k)=R:=hR;have HQ:=S hR;obtain⟨hb,hfew,c1,f1,HB0⟩:=CC FH h hi;clear h ho hR;go_enter func329,ntmps329;go_upto_region 4 with fail;refine Az (λW=>KA b w (w.heap.size+1) W 13 FH [] [] .nil .nil (.slice none 0 0) (.slice none 0 0) (.slice none 0 0)/\Par W b tv wo l wordsL (i+1)) HB0.out ?_;rintro W0 ⟨hK,hp⟩;have HK:=S hK;clear hK HB0 c1 f1;have hkl:=HK.1.lt;replace HK:=S HK.1.toKS;have hkl:=HK.1.lt;have hwL:=HK.1.wL;go_wp2_with fail;refine(FQ HE.1 hp (λe=>HO.1 (by rw[<-HQ.1,e];rfl))).mono ?_;intro e w5 hq;obtain⟨g,⟨q,hr,rfl⟩| ⟨f,j5,v,hr,rfl,⟨fa,fc,rfl,hF⟩,hp9⟩⟩:=hq.split
  ·exact PBd HK.1.gr g HQ hr
  replace HK:=S (HK.1.gb g);replace hp:=hp9;clear hp9;replace HQ:=HQo HQ hr;clear hr;have hkl5:=HK.1.lt;have hbw:=HK.1.bw;have hx4:=HK.1.blk.cell' 4 rfl;have hf4:=HK.1.blk.frozen 4;have hK6:=HK.1.putX (hF.mono (λq hq _=>by have h1:(W0).heap.size<=q:=hq;(try simp at h1);exact⟨by omega,by omega⟩));have hp6:=hp.set (L:=(w.heap.size+1)) (by omega) 4 (.slice fa f.len fc);replace HK:=S hK6;replace hp:=hp6;clear hK6 hp6 hF g
 case' c=>
  generalize hR:(BA hn wordsL day n FG).f (i+1)=R at*;replace hR:((B5 hn day n).bind λx=>Rd.pure {sd0 13 FG with x:= .one x}).f (i+1)=R:=hR;have HQ:=S hR;obtain⟨hb,hfew,c1,f1,HB0⟩:=CC FG h hi;clear h ho hR;go_enter func329,ntmps329;go_upto_region 4 with fail;refine Az (λW=>KA b w (w.heap.size+1) W 13 FG [] [] .nil .nil (.slice none 0 0) (.slice none 0 0) (.slice none 0 0)/\Par W b tv wo l wordsL (i+1)) HB0.out ?_;rintro W0 ⟨hK,hp⟩;have HK:=S hK;clear hK HB0 c1 f1;have hkl:=HK.1.lt;rw[Rd.expr_f]at HQ;replace HK:=S HK.1.toKS;have hkl:=HK.1.lt;have hwL:=HK.1.wL;go_wp2_with fail;refine(HE.1 _ _ hp (λe=>HO.1 (by rw[<-HQ.1,e];rfl))).mono ?_;intro e w5 hq;obtain⟨g,⟨q,hr,rfl⟩| ⟨x,j5,v,hr,rfl,⟨pa,pc,la,lc,rfl,rp,rl⟩,hp9⟩⟩:=hq.split
  ·exact PBd HK.1.gr g HQ hr
  replace HK:=S (HK.1.gb g);replace hp:=hp9;clear hp9;replace HQ:=HQo HQ hr;clear hr;have hs3:=g.size;have hkl3:=HK.1.lt;have d3:=HK.1.blk.cell' 4 rfl;have f3:=HK.1.blk.frozen 4;have hbL:b<(w.heap.size+1):=by have:=HK.1.bw;omega
  have hfr:∀q,An (W0).heap.size q->q<(w5).heap.size->but w (w.heap.size+1) q:=λq hq _=>by have h1:(W0).heap.size<=q:=hq;(try simp at h1);exact⟨by omega,by omega⟩
  have hK4:=HK.1.layX (f:= .one x) (m:=1) (by simp[Fo.one,Ex.fo,Fo.len]) (by decide) (VE.rep (rp.mono hfr) (rl.mono hfr));have hp3:=(hp.set (L:=(w.heap.size+1)) hbL 4 (.slice (some ⟨(w5).heap.size,0,none⟩) 1 1)).alloc (.cells (hdC (x).h (.slice pa (x).h.p.length pc) (.slice la (x).kids.len lc)).toArray 163 (0,0));replace HK:=S hK4;replace hp:=hp3;clear g rp rl hK4 hp3 hfr;rw[Rd.pure_f]at HQ
 case' d=>
  generalize hR:(BA hn wordsL day n Fx).f (i+1)=R at*;replace hR:((Rd.must wordsL L2).bind λ_=>Rd.pure (sd0 13 Fx)).f (i+1)=R:=hR;have HQ:=S hR;obtain⟨hb,hfew,c1,f1,HB0⟩:=CC Fx h hi;clear h ho hR;go_enter func329,ntmps329;go_upto_region 4 with fail;refine Az (λW=>KA b w (w.heap.size+1) W 13 Fx [] [] .nil .nil (.slice none 0 0) (.slice none 0 0) (.slice none 0 0)/\Par W b tv wo l wordsL (i+1)) HB0.out ?_;rintro W0 ⟨hK,hp⟩;have HK:=S hK;clear hK HB0 c1 f1;have hkl:=HK.1.lt;rw[Rd.must_f]at HQ;replace HK:=S HK.1.toKS;go_wp2_with fail;refine(BK hp HTk.1 L2 (by decide)).mono ?_;intro e w5 hq;obtain⟨g,⟨q,hr,rfl⟩| ⟨u,i5,v,hr,rfl,rfl,hp9⟩⟩:=hq.split
  ·exact PBd HK.1.gr g HQ hr
  replace HK:=S (HK.1.gb g);replace hp:=hp9;clear hp9;replace HQ:=HQo HQ hr;clear hr g;rw[Rd.pure_f]at HQ
 all_goals
  go_upto_region 41 with fail;refine Az (λW=>(∃pv xv nv fv wv,KS b w (w.heap.size+1) W _ .nil pv xv (.slice none 0 0) nv fv wv)/\Par W b tv wo l wordsL _) ⟨⟨_,_,_,_,_,HK.1⟩,hp⟩ ?_;clear HK hp;rintro W9 ⟨⟨pv0,xv0,nv0,fv0,wv0,hK0⟩,hp⟩;have HK:=S hK0;clear hK0;obtain⟨pa9,xa9,ba9,na9,fa9,wa9,pc9,xc9,bc9,nc9,fc9,wc9,e91,e92,e93,e94,e95,e96⟩:=HK.1.shapes;(first|cases e91|clear e91);(first|cases e92|clear e92);(first|cases e93|clear e93);(first|cases e94|clear e94);(first|cases e95|clear e95);(first|cases e96|clear e96);have hkb:=HK.1.blk;have hkz:=HK.1.zero;have hkl:=hkb.lt;have hkl2:=hkz.lt;have ck_:=hkb.c10;have cz_:=hkz.c10;clear hkb hkz;go_wp2;have hres9:=CA HK.1 hp HQ.1.symm;have hblk9:=HK.1.out.2.2.1;refine bZ ?hr9 rfl hres9
  case hr9=>exact A8 rfl _ hblk9 rfl rfl
def zGaf:(zGae λb tv wo l day n hn=>C3 b tv wo l hn day n F0)/\(zGae λb tv wo l day n hn=>C3 b tv wo l hn day n Fz)/\(zGae λb tv wo l day n hn=>C3 b tv wo l hn day n F1):=by
 refine⟨?a,?b,?c⟩
 all_goals
  intro b tv wo l day n hn hnn hE hok hl;have HE:=S hE;have HTk:=S hok;have HSh:=S hl;clear hE hok hl;intro w i h hi ho;have HO:=S ho
 case' a=>
  generalize hR:(BA hn wordsL day n F0).f (i+1)=R at*;replace hR:((By hn wordsL day n n Cm).bind λc=>Rd.pure (Db (sd0 13 F0) c)).f (i+1)=R:=hR;have HQ:=S hR;obtain⟨hb,hfew,c1,f1,HB0⟩:=CC F0 h hi;clear h ho hR;go_enter func329,ntmps329;go_upto_region 4 with fail;refine Az (λW=>KA b w (w.heap.size+1) W 13 F0 [] [] .nil .nil (.slice none 0 0) (.slice none 0 0) (.slice none 0 0)/\Par W b tv wo l wordsL (i+1)) HB0.out ?_
 case' b=>
  generalize hR:(BA hn wordsL day n Fz).f (i+1)=R at*;replace hR:((By hn wordsL day n n Cm).bind λc=>Rd.pure (Db (sd0 13 Fz) c)).f (i+1)=R:=hR;have HQ:=S hR;obtain⟨hb,hfew,c1,f1,HB0⟩:=CC Fz h hi;clear h ho hR;go_enter func329,ntmps329;go_upto_region 4 with fail;refine Az (λW=>KA b w (w.heap.size+1) W 13 Fz [] [] .nil .nil (.slice none 0 0) (.slice none 0 0) (.slice none 0 0)/\Par W b tv wo l wordsL (i+1)) HB0.out ?_
 case' c=>
  generalize hR:(BA hn wordsL day n F1).f (i+1)=R at*;replace hR:((By hn wordsL day n n Cm).bind λc=>Rd.pure (Db (sd0 13 F1) c)).f (i+1)=R:=hR;have HQ:=S hR;obtain⟨hb,hfew,c1,f1,HB0⟩:=CC F1 h hi;clear h ho hR;go_enter func329,ntmps329;go_upto_region 4 with fail;refine Az (λW=>KA b w (w.heap.size+1) W 13 F1 [] [] .nil .nil (.slice none 0 0) (.slice none 0 0) (.slice none 0 0)/\Par W b tv wo l wordsL (i+1)) HB0.out ?_
 all_goals
  rintro W0 ⟨hK,hp⟩;have HK:=S hK;clear hK HB0 c1 f1;have hkl:=HK.1.lt;rw[Rd.bind_f]at HQ;replace HK:=S HK.1.toKS;go_wp2_with fail;have hkl:=HK.1.lt;have hwL:=HK.1.wL;have hbw:=HK.1.bw;refine(Gy hn HE.1 HTk.1 hp (λe=>HO.1 (by rw[<-HQ.1,e];rfl))).mono ?_;intro e w20 hq;obtain⟨g20,⟨q,hr,rfl⟩| ⟨c,j20,v,hr,rfl,⟨na,fa,wa,nc,fc,wc,rfl,rn,rf,rw0⟩,h20⟩⟩:=hq.split
  ·exact PBd HK.1.gr g20 HQ hr
  replace HQ:=HQo HQ hr;clear hr;have hK20:=HK.1.gb g20;have hkl20:=hK20.lt;have d6:=hK20.blk.cell' 6 rfl;have d7:=hK20.blk.cell' 7 rfl;have d8:=hK20.blk.cell' 8 rfl;have d9:=hK20.blk.cell' 9 rfl;have ff:=λi=>hK20.blk.frozen i;have hfr:∀q,An (W0).heap.size q->q<w20.heap.size->but w (w.heap.size+1) q:=λq hq _=>by have h1:(W0).heap.size<=q:=hq;(try simp at h1);exact⟨by omega,by omega⟩
  have HK20:=S (hK20.putC (rn.mono hfr) (rf.mono hfr) (rw0.mono hfr) _ rfl);have HP20:=S (h20.putC (L:=(w.heap.size+1)) (by omega) (.int .i64 c.kind) (.slice na c.n.len nc) (.slice fa c.f.len fc) (.slice wa c.w.len wc));clear hK20 g20 h20 rn rf rw0 hfr HK hp;rw[Rd.pure_f]at HQ;have HK:=HK20;have hp:=HP20.1;clear HK20 HP20;go_upto_region 41 with fail;refine Az (λW=>(∃pv xv nv fv wv,KS b w (w.heap.size+1) W _ .nil pv xv (.slice none 0 0) nv fv wv)/\Par W b tv wo l wordsL _) ⟨⟨_,_,_,_,_,HK.1⟩,hp⟩ ?_;clear HK hp;rintro W9 ⟨⟨pv0,xv0,nv0,fv0,wv0,hK0⟩,hp⟩;have HK:=S hK0;clear hK0;obtain⟨pa9,xa9,ba9,na9,fa9,wa9,pc9,xc9,bc9,nc9,fc9,wc9,e91,e92,e93,e94,e95,e96⟩:=HK.1.shapes;(first|cases e91|clear e91);(first|cases e92|clear e92);(first|cases e93|clear e93);(first|cases e94|clear e94);(first|cases e95|clear e95);(first|cases e96|clear e96);have hkb:=HK.1.blk;have hkz:=HK.1.zero;have hkl:=hkb.lt;have hkl2:=hkz.lt;have ck_:=hkb.c10;have cz_:=hkz.c10;clear hkb hkz;go_wp2;have hres9:=CA HK.1 hp HQ.1.symm;have hblk9:=HK.1.out.2.2.1;refine bZ ?hr9 rfl hres9
  case hr9=>exact A8 rfl _ hblk9 rfl rfl
def zGad:(zGae λb tv wo l day n hn=>C3 b tv wo l hn day n F8)/\(zGae λb tv wo l day n hn=>C3 b tv wo l hn day n FK):=by
 refine⟨?a,?b⟩
 all_goals
  intro b tv wo l day n hn hnn hE hok hl;have HE:=S hE;have HTk:=S hok;have HSh:=S hl;clear hE hok hl;intro w i h hi ho;have HO:=S ho
 case' a=>
  generalize hR:(BA hn wordsL day n F8).f (i+1)=R at*;replace hR:((Rd.must wordsL wTO).bind λ_=>(Rd.name hn).bind λp=>(By hn wordsL day n n Cm).bind λc=>Rd.pure (Db {sd0 13 F8 with p:=[p]} c)).f (i+1)=R:=hR;have HQ:=S hR;obtain⟨hb,hfew,c1,f1,HB0⟩:=CC F8 h hi;clear h ho hR;go_enter func329,ntmps329;go_upto_region 4 with fail;refine Az (λW=>KA b w (w.heap.size+1) W 13 F8 [] [] .nil .nil (.slice none 0 0) (.slice none 0 0) (.slice none 0 0)/\Par W b tv wo l wordsL (i+1)) HB0.out ?_;rintro W0 ⟨hK,hp⟩;have HK:=S hK;clear hK HB0 c1 f1;have hkl:=HK.1.lt;rw[Rd.must_f]at HQ;replace HK:=S HK.1.toKS;go_wp2_with fail;refine(BK hp HTk.1 wTO (by decide)).mono ?_;intro e w5 hq;obtain⟨g,⟨q,hr,rfl⟩| ⟨u,i5,v,hr,rfl,rfl,hp9⟩⟩:=hq.split
  ·exact⟨rfl,Post.bad (Z HK.1.gr g) (by rw[<-HQ.1,hr];rfl)⟩
  replace HK:=S (HK.1.gb g);replace hp:=hp9;clear hp9;rw[hr,Res.bind_ok]at HQ;clear hr g
 case' b=>
  generalize hR:(BA hn wordsL day n FK).f (i+1)=R at*;replace hR:((B5 hn day n).bind λx=>(Rd.must wordsL wTO).bind λ_=>(Rd.name hn).bind λp=>(By hn wordsL day n n Cm).bind λc=>Rd.pure (Db {sd0 13 FK with p:=[p],x:= .one x} c)).f (i+1)=R:=hR;have HQ:=S hR;obtain⟨hb,hfew,c1,f1,HB0⟩:=CC FK h hi;clear h ho hR;go_enter func329,ntmps329;go_upto_region 4 with fail;refine Az (λW=>KA b w (w.heap.size+1) W 13 FK [] [] .nil .nil (.slice none 0 0) (.slice none 0 0) (.slice none 0 0)/\Par W b tv wo l wordsL (i+1)) HB0.out ?_;rintro W0 ⟨hK,hp⟩;have HK:=S hK;clear hK HB0 c1 f1;have hkl:=HK.1.lt;rw[Rd.expr_f]at HQ;replace HK:=S HK.1.toKS;have hkl:=HK.1.lt;have hwL:=HK.1.wL;go_wp2_with fail;refine(HE.1 _ _ hp (λe=>HO.1 (by rw[<-HQ.1,e];rfl))).mono ?_;intro e w4 hq;obtain⟨g,⟨q,hr,rfl⟩| ⟨x,j4,v,hr,rfl,⟨pa,pc,la,lc,rfl,rp,rl⟩,hp9⟩⟩:=hq.split
  ·exact⟨rfl,Post.bad (Z HK.1.gr g) (by rw[<-HQ.1,hr];rfl)⟩
  replace HK:=S (HK.1.gb g);replace hp:=hp9;clear hp9;rw[hr,Res.bind_ok]at HQ;clear hr;have hs3:=g.size;have hkl3:=HK.1.lt;have d3:=HK.1.blk.cell' 4 rfl;have f3:=HK.1.blk.frozen 4;have hbL:b<(w.heap.size+1):=by have:=HK.1.bw;omega
  have hfr:∀q,An (W0).heap.size q->q<(w4).heap.size->but w (w.heap.size+1) q:=λq hq _=>by have h1:(W0).heap.size<=q:=hq;(try simp at h1);exact⟨by omega,by omega⟩
  have hK4:=HK.1.layX (f:= .one x) (m:=1) (by simp[Fo.one,Ex.fo,Fo.len]) (by decide) (VE.rep (rp.mono hfr) (rl.mono hfr));have hp3:=(hp.set (L:=(w.heap.size+1)) hbL 4 (.slice (some ⟨(w4).heap.size,0,none⟩) 1 1)).alloc (.cells (hdC (x).h (.slice pa (x).h.p.length pc) (.slice la (x).kids.len lc)).toArray 163 (0,0));replace HK:=S hK4;replace hp:=hp3;clear g rp rl hK4 hp3 hfr;rw[Rd.must_f]at HQ;go_wp2_with fail;refine(BK hp HTk.1 wTO (by decide)).mono ?_;intro e w5 hq;obtain⟨g,⟨q,hr,rfl⟩| ⟨u,i5,v,hr,rfl,rfl,hp9⟩⟩:=hq.split
  ·exact⟨rfl,Post.bad (Z HK.1.gr g) (by rw[<-HQ.1,hr];rfl)⟩
  replace HK:=S (HK.1.gb g);replace hp:=hp9;clear hp9;rw[hr,Res.bind_ok]at HQ;clear hr g d3 f3
 all_goals
  rw[Rd.name_f]at HQ;have hkl:=HK.1.lt;have hwL:=HK.1.wL;go_wp2_with fail;refine(B7 hp HSh.1).mono ?_;intro e w7 hq;obtain⟨g,⟨q,hr,rfl⟩| ⟨p,j7,v,hr,rfl,rfl,hp9⟩⟩:=hq.split
  ·exact⟨rfl,Post.bad (Z HK.1.gr g) (by rw[<-HQ.1,hr];rfl)⟩
  replace HK:=S (HK.1.gb g);replace hp:=hp9;clear hp9;rw[hr,Res.bind_ok]at HQ;clear hr g;have hkl3:=HK.1.lt;have d3:=HK.1.blk.cell' 3 rfl;have f3:=HK.1.blk.frozen 3;have hbL:b<(w.heap.size+1):=by have:=HK.1.bw;omega
  have hp3:=(hp.set (L:=(w.heap.size+1)) hbL 3 (.slice (some ⟨(w7).heap.size,0,none⟩) 1 1)).alloc (.cells #[str p] 9 (0,0));replace HK:=S (HK.1.layP p);replace hp:=hp3;clear hp3;rw[Rd.bind_f]at HQ;go_wp2_with fail;refine N7 (λW=>(∃pv xv,KS b w (w.heap.size+1) W _ .nil pv xv (.slice none 0 0) (.slice none 0 0) (.slice none 0 0) (.slice none 0 0))/\Par W b tv wo l wordsL j7) ⟨⟨_,_,HK.1⟩,hp⟩ ?_;clear HK hp d3 f3;rintro W7 ⟨⟨pv7,xv7,hK7⟩,hp⟩;have HK:=S hK7;clear hK7;have hkl:=HK.1.lt;have hwL:=HK.1.wL;have hbw:=HK.1.bw;refine(Gy hn HE.1 HTk.1 hp (λe=>HO.1 (by rw[<-HQ.1,e];rfl))).mono ?_;intro e w20 hq;obtain⟨g20,⟨q,hr,rfl⟩| ⟨c,j20,v,hr,rfl,⟨na,fa,wa,nc,fc,wc,rfl,rn,rf,rw0⟩,h20⟩⟩:=hq.split
  ·exact⟨rfl,Post.bad (Z HK.1.gr g20) (by rw[<-HQ.1,hr];rfl)⟩
  rw[hr,Res.bind_ok]at HQ;clear hr;have hK20:=HK.1.gb g20;have hkl20:=hK20.lt;have d6:=hK20.blk.cell' 6 rfl;have d7:=hK20.blk.cell' 7 rfl;have d8:=hK20.blk.cell' 8 rfl;have d9:=hK20.blk.cell' 9 rfl;have ff:=λi=>hK20.blk.frozen i;have hfr:∀q,An (W7).heap.size q->q<w20.heap.size->but w (w.heap.size+1) q:=λq hq _=>by have h1:(W7).heap.size<=q:=hq;(try simp at h1);exact⟨by omega,by omega⟩
  have HK20:=S (hK20.putC (rn.mono hfr) (rf.mono hfr) (rw0.mono hfr) _ rfl);have HP20:=S (h20.putC (L:=(w.heap.size+1)) (by omega) (.int .i64 c.kind) (.slice na c.n.len nc) (.slice fa c.f.len fc) (.slice wa c.w.len wc));clear hK20 g20 h20 rn rf rw0 hfr HK hp;rw[Rd.pure_f]at HQ;have HK:=HK20;have hp:=HP20.1;clear HK20 HP20;go_upto_region 41 with fail;refine Az (λW=>(∃pv xv nv fv wv,KS b w (w.heap.size+1) W _ .nil pv xv (.slice none 0 0) nv fv wv)/\Par W b tv wo l wordsL _) ⟨⟨_,_,_,_,_,HK.1⟩,hp⟩ ?_;clear HK hp;rintro W9 ⟨⟨pv0,xv0,nv0,fv0,wv0,hK0⟩,hp⟩;have HK:=S hK0;clear hK0;obtain⟨pa9,xa9,ba9,na9,fa9,wa9,pc9,xc9,bc9,nc9,fc9,wc9,e91,e92,e93,e94,e95,e96⟩:=HK.1.shapes;(first|cases e91|clear e91);(first|cases e92|clear e92);(first|cases e93|clear e93);(first|cases e94|clear e94);(first|cases e95|clear e95);(first|cases e96|clear e96);have hkb:=HK.1.blk;have hkz:=HK.1.zero;have hkl:=hkb.lt;have hkl2:=hkz.lt;have ck_:=hkb.c10;have cz_:=hkz.c10;clear hkb hkz;go_wp2;have hres9:=CA HK.1 hp HQ.1.symm;have hblk9:=HK.1.out.2.2.1;refine bZ ?hr9 rfl hres9
  case hr9=>exact A8 rfl _ hblk9 rfl rfl
def zGag:(zGae λb tv wo l day n hn=>C3 b tv wo l hn day n FM)/\(zGae λb tv wo l day n hn=>C3 b tv wo l hn day n wGO)/\(zGae λb tv wo l day n hn=>C3 b tv wo l hn day n Fs)/\(zGae λb tv wo l day n hn=>C3 b tv wo l hn day n F9)/\(zGae λb tv wo l day n hn=>C3 b tv wo l hn day n Gx):=by
 refine⟨?a,?b,?c,?d,?e⟩
 all_goals
  intro b tv wo l day n hn hnn hE hok hl;have HE:=S hE;have HTk:=S hok;have HSh:=S hl;clear hE hok hl;intro w i h hi ho;have HO:=S ho
 case' a=>
  generalize hR:(BA hn wordsL day n FM).f (i+1)=R at*;replace hR:(It hn FM).f (i+1)=R:=hR;have HQ:=S hR;obtain⟨hb,hfew,c1,f1,HB0⟩:=CC FM h hi;clear h ho hR;go_enter func329,ntmps329;go_upto_region 4 with fail;refine Az (λW=>KA b w (w.heap.size+1) W 13 FM [] [] .nil .nil (.slice none 0 0) (.slice none 0 0) (.slice none 0 0)/\Par W b tv wo l wordsL (i+1)) HB0.out ?_;rintro W0 ⟨hK,hp⟩;have HK:=S hK;clear hK HB0 c1 f1;have hkl:=HK.1.lt;go_wp2_with fail;refine(Xh hn HTk.1 HSh.1 HK.1 hp (λe=>HO.1 (by rw[<-HQ.1,e]))).mono ?_
 case' b=>
  generalize hR:(BA hn wordsL day n wGO).f (i+1)=R at*;replace hR:(goP hn wordsL day n (sd0 13 wGO)).f (i+1)=R:=hR;have HQ:=S hR;obtain⟨hb,hfew,c1,f1,HB0⟩:=CC wGO h hi;clear h ho hR;go_enter func329,ntmps329;go_upto_region 4 with fail;refine Az (λW=>KA b w (w.heap.size+1) W 13 wGO [] [] .nil .nil (.slice none 0 0) (.slice none 0 0) (.slice none 0 0)/\Par W b tv wo l wordsL (i+1)) HB0.out ?_;rintro W0 ⟨hK,hp⟩;have HK:=S hK;clear hK HB0 c1 f1;have hkl:=HK.1.lt;go_wp2_with fail;refine(V9 hn HE.1 HTk.1 HK.1.toKS hp (λe=>HO.1 (by rw[<-HQ.1,e]))).mono ?_
 case' c=>
  generalize hR:(BA hn wordsL day n Fs).f (i+1)=R at*;replace hR:(Io hn day n Fs).f (i+1)=R:=hR;have HQ:=S hR;obtain⟨hb,hfew,c1,f1,HB0⟩:=CC Fs h hi;clear h ho hR;go_enter func329,ntmps329;go_upto_region 4 with fail;refine Az (λW=>KA b w (w.heap.size+1) W 13 Fs [] [] .nil .nil (.slice none 0 0) (.slice none 0 0) (.slice none 0 0)/\Par W b tv wo l wordsL (i+1)) HB0.out ?_;rintro W0 ⟨hK,hp⟩;have HK:=S hK;clear hK HB0 c1 f1;have hkl:=HK.1.lt;go_wp2_with fail;refine(Qj hn hnn HE.1 HTk.1 HSh.1 HK.1 hp (λe=>HO.1 (by rw[<-HQ.1,e]))).mono ?_
 case' d=>
  generalize hR:(BA hn wordsL day n F9).f (i+1)=R at*;replace hR:(F5 hn wordsL day n (sd0 13 F9)).f (i+1)=R:=hR;have HQ:=S hR;obtain⟨hb,hfew,c1,f1,HB0⟩:=CC F9 h hi;clear h ho hR;go_enter func329,ntmps329;go_upto_region 4 with fail;refine Az (λW=>KA b w (w.heap.size+1) W 13 F9 [] [] .nil .nil (.slice none 0 0) (.slice none 0 0) (.slice none 0 0)/\Par W b tv wo l wordsL (i+1)) HB0.out ?_;rintro W0 ⟨hK,hp⟩;have HK:=S hK;clear hK HB0 c1 f1;have hkl:=HK.1.lt;go_wp2_with fail;refine(SK hn HE.1 HTk.1 HSh.1 HK.1 hp (λe=>HO.1 (by rw[<-HQ.1,e]))).mono ?_
 case' e=>
  generalize hR:(BA hn wordsL day n Gx).f (i+1)=R at*;replace hR:(Fr hn wordsL day n (sd0 13 Gx)).f (i+1)=R:=hR;have HQ:=S hR;obtain⟨hb,hfew,c1,f1,HB0⟩:=CC Gx h hi;clear h ho hR;go_enter func329,ntmps329;go_upto_region 4 with fail;refine Az (λW=>KA b w (w.heap.size+1) W 13 Gx [] [] .nil .nil (.slice none 0 0) (.slice none 0 0) (.slice none 0 0)/\Par W b tv wo l wordsL (i+1)) HB0.out ?_;rintro W0 ⟨hK,hp⟩;have HK:=S hK;clear hK HB0 c1 f1;have hkl:=HK.1.lt;go_wp2_with fail;refine(Xe hn HE.1 HTk.1 HSh.1 HK.1.toKS hp (λe=>HO.1 (by rw[<-HQ.1,e]))).mono ?_
 all_goals
  intro e w7 hq;obtain⟨g,⟨q,hr,rfl⟩| ⟨s9,j9,v,hr,rfl,⟨rfl,pv,xv,nv,fv,wv,hK9⟩,hp9⟩⟩:=hq.split
  ·exact⟨rfl,Post.bad g (by rw[<-HQ.1,hr])⟩
  replace HK:=S hK9;replace hp:=hp9;rw[hr]at HQ;clear hr hK9 hp9 g;go_upto_region 41 with fail;refine Az (λW=>(∃pv xv nv fv wv,KS b w (w.heap.size+1) W _ .nil pv xv (.slice none 0 0) nv fv wv)/\Par W b tv wo l wordsL _) ⟨⟨_,_,_,_,_,HK.1⟩,hp⟩ ?_;clear HK hp;rintro W9 ⟨⟨pv0,xv0,nv0,fv0,wv0,hK0⟩,hp⟩;have HK:=S hK0;clear hK0;obtain⟨pa9,xa9,ba9,na9,fa9,wa9,pc9,xc9,bc9,nc9,fc9,wc9,e91,e92,e93,e94,e95,e96⟩:=HK.1.shapes;(first|cases e91|clear e91);(first|cases e92|clear e92);(first|cases e93|clear e93);(first|cases e94|clear e94);(first|cases e95|clear e95);(first|cases e96|clear e96);have hkb:=HK.1.blk;have hkz:=HK.1.zero;have hkl:=hkb.lt;have hkl2:=hkz.lt;have ck_:=hkb.c10;have cz_:=hkz.c10;clear hkb hkz;go_wp2;have hres9:=CA HK.1 hp HQ.1.symm;have hblk9:=HK.1.out.2.2.1;refine bZ ?hr9 rfl hres9
  case hr9=>exact A8 rfl _ hblk9 rfl rfl
def Xc(wd:Bs)(hw:cmdWords.contains wd=false)(h:Par w b tv wo l wordsL i)(hi:i<l.length):
 Calls Tryz.prog 329 #[.pointer (some ⟨b,0,none⟩),str wd] w λe w'=>e= .panicked (GP i)/\w.grownBy w' (some b):=by
 have hn:∀v,v∈cmdWords->(wd==v)=false:=by
  intro v hv;have:wd≠v:=by
   rintro rfl;rw[List.contains_eq_mem]at hw;simp[hv]at hw
  simpa using this
 have hw0:=hn F2 (by decide);have hw1:=hn FM (by decide);have hw2:=hn wGO (by decide);have hw3:=hn FH (by decide);have hw4:=hn FG (by decide);have hw5:=hn Ff (by decide);have hw6:=hn FF (by decide);have hw7:=hn FN (by decide);have hw8:=hn Fx (by decide);have hw9:=hn F0 (by decide);have hw10:=hn Fz (by decide);have hw11:=hn F1 (by decide);have hw12:=hn Fs (by decide);have hw13:=hn F8 (by decide);have hw14:=hn FK (by decide);have hw15:=hn F9 (by decide);have hw16:=hn Gx (by decide);clear hn hw;have hb:=h.lt;have hfew:=h.few;have c1:=h.c1;have f1:=h.f1;have gI:=Ai (Aa w (some b)) 1 (.int .i64 ((i:Int)+1));have hpI:=h.goI ((i:Int)+1) (i+1) (by omega) (by omega);have gz:w.grownBy (((w.setCell ⟨b,1,none⟩ (.int .i64 ((i:Int)+1))).alloc (.cells (stC 0 (.slice none 0 0)).toArray 134 (0,0))).alloc (.cells #[.int .i64 13,str wd,str [],.slice none 0 0,.slice none 0 0,.slice none 0 0,.int .i64 0,.slice none 0 0,.slice none 0 0,.slice none 0 0] 134 (0,0))) (some b):=Ac (Ac gI _) _;have HB0:=S (X gz ((hpI.alloc (.cells (stC 0 (.slice none 0 0)).toArray 134 (0,0))).alloc (.cells #[.int .i64 13,str wd,str [],.slice none 0 0,.slice none 0 0,.slice none 0 0,.int .i64 0,.slice none 0 0,.slice none 0 0,.slice none 0 0] 134 (0,0))));clear h gI hpI gz;go_enter func329,ntmps329;go_upto_region 4 with fail;refine Az (λW=>w.grownBy W (some b)/\Par W b tv wo l wordsL (i+1)) HB0.1 ?_;rintro W0 ⟨gW,hp⟩;clear HB0 c1 f1;have c1:=hp.c1;have f1:=hp.f1;have hbl:=hp.lt
 have gJ:=Ai (Aa W0 (some b)) 1 (.int .i64 (i:Int));have c2:=(hp.goI (i:Int) i rfl (by omega)).c1;go_wp2_with fail;refine(DV c2).mono ?_;rintro e w5 ⟨rfl,rfl⟩;exact⟨rfl,rfl,Z gW gJ⟩
def Qg(hn:Al l)(hnn:n<=100000)(hE:CE 208 b tv wo l wordsL (Ak l day n))(hok:∀i,At (Ab l i))(hl:A0 l){wd:Bs}(hw:cmdWords.contains wd=true):C3 b tv wo l hn day n wd:=by
 have hm:wd∈cmdWords:=by simpa using hw
 simp only[cmdWords,List.mem_cons,List.not_mem_nil,or_false]at hm;rcases hm with rfl|rfl|rfl|rfl|rfl|rfl|rfl|rfl|rfl|rfl|rfl|rfl|rfl|rfl|rfl|rfl|rfl
 ·exact zGai.1 hn hnn hE hok hl
 ·exact zGag.1 hn hnn hE hok hl
 ·exact zGag.2.1 hn hnn hE hok hl
 ·exact zGai.2.1 hn hnn hE hok hl
 ·exact zGai.2.2.1 hn hnn hE hok hl
 ·exact zGah.1 hn hnn hE hok hl
 ·exact zGah.2.1 hn hnn hE hok hl
 ·exact zGah.2.2 hn hnn hE hok hl
 ·exact zGai.2.2.2 hn hnn hE hok hl
 ·exact zGaf.1 hn hnn hE hok hl
 ·exact zGaf.2.1 hn hnn hE hok hl
 ·exact zGaf.2.2 hn hnn hE hok hl
 ·exact zGag.2.2.1 hn hnn hE hok hl
 ·exact zGad.1 hn hnn hE hok hl
 ·exact zGad.2 hn hnn hE hok hl
 ·exact zGag.2.2.2.1 hn hnn hE hok hl
 ·exact zGag.2.2.2.2 hn hnn hE hok hl
end Go.Proofs.YtbjfaimkiclhgaaGreatDoor
