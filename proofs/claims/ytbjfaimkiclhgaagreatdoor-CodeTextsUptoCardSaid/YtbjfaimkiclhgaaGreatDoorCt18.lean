/-
  QgL QgM QgN
-/
import Derived.Test.YtbjfaimkiclhgaaGreatDoorCt16
import Derived.Test.YtbjfaimkiclhgaaGreatDoorCt17
import Derived.Test.YtbjfaimkiclhgaaGreatDoorCt12
import Derived.Test.YtbjfaimkiclhgaaGreatDoorCt15
import Derived.Test.YtbjfaimkiclhgaaGreatDoorCt14
set_option linter.all false
set_option maxRecDepth 100000
set_option maxHeartbeats 8000000
namespace Go.Proofs.YtbjfaimkiclhgaaGreatDoor
open Go.Proofs.Tryz
open Go.RowKit
variable{b i n:Nat}{tv wo:Value}{l:List Tok}{w:World}{day:Bs->Int}{wd:Bs}
def C8{wr:World}{L:Nat}{h:Sd}{pv xv bv nv fv wv:Value}{r:Res Sd}(k:KS b w L wr h .nil pv xv bv nv fv wv)(hp:Par wr b tv wo l wordsL i)(hr:r= .ok h i):
 Post b tv wo l wordsL w (VSd w) r (.returned (.agg (sdC h pv xv bv nv fv wv).toArray)) (set10 wr w.heap.size (.int .i64 h.op) (str h.s) (str h.t) pv xv bv (.int .i64 h.kind) nv fv wv):=by
 obtain⟨g1,g2,_,h4⟩:=k.out;have:=k.bw;exact Post.ok g1 hr h4 (hp.gb g2 (by intro q e;cases e;omega))
def C1(b:Nat)(tv wo:Value)(l:List Tok)(hn:Aj l)(day:Bs->Int)(n:Nat)(wd:Bs):Prop:=
 ∀(w:World)(i:Nat),Par w b tv wo l wordsL i->i<l.length->(B8 hn wordsL day n wd).f (i+1) ≠ .out->Calls Tryz.prog 329 #[.pointer (some ⟨b,0,none⟩),str wd] w (Post b tv wo l wordsL w (VSd w) ((B8 hn wordsL day n wd).f (i+1)))
abbrev zGae(Ψ:∀(b:Nat)(tv wo:Value)(l:List Tok)(day:Bs->Int)(n:Nat)(hn:Aj l),Prop):Prop:=∀{b:Nat}{tv wo:Value}{l:List Tok}{day:Bs->Int}{n:Nat}(hn:Aj l)(hnn:n<=100000)(hE:CE 208 b tv wo l wordsL (Ai l day n))(hok:∀i,As (Ab l i))(hl:Ay l),Ψ b tv wo l day n hn
def zGah:(zGae λb tv wo l day n hn=>C1 b tv wo l hn day n EX)/\(zGae λb tv wo l day n hn=>C1 b tv wo l hn day n F3)/\(zGae λb tv wo l day n hn=>C1 b tv wo l hn day n FG):=by
 refine⟨?a,?b,?c⟩
 all_goals
  intro b tv wo l day n hn hnn hE hok hl;have HE:=S hE;have HTk:=S hok;have HSh:=S hl;clear hE hok hl;intro w i h hi ho;have HO:=S ho
 case' a=>
  generalize hR:(B8 hn wordsL day n EX).f (i+1)=R at*;replace hR:Res.ok (sd0 13 EX) (i+1)=R:=hR;have HQ:=S hR;obtain⟨hb,hfew,c1,f1,HB0⟩:=CA EX h hi;clear h ho hR;go_enter func329,ntmps329;go_upto_region 4 with fail;refine Ax (λW=>KA b w (w.heap.size+1) W 13 EX [] [] .nil .nil (.slice none 0 0) (.slice none 0 0) (.slice none 0 0)/\Par W b tv wo l wordsL (i+1)) HB0.out ?_
 case' b=>
  generalize hR:(B8 hn wordsL day n F3).f (i+1)=R at*;replace hR:Res.ok (sd0 13 F3) (i+1)=R:=hR;have HQ:=S hR;obtain⟨hb,hfew,c1,f1,HB0⟩:=CA F3 h hi;clear h ho hR;go_enter func329,ntmps329;go_upto_region 4 with fail;refine Ax (λW=>KA b w (w.heap.size+1) W 13 F3 [] [] .nil .nil (.slice none 0 0) (.slice none 0 0) (.slice none 0 0)/\Par W b tv wo l wordsL (i+1)) HB0.out ?_
 case' c=>
  generalize hR:(B8 hn wordsL day n FG).f (i+1)=R at*;replace hR:Res.ok (sd0 13 FG) (i+1)=R:=hR;have HQ:=S hR;obtain⟨hb,hfew,c1,f1,HB0⟩:=CA FG h hi;clear h ho hR;go_enter func329,ntmps329;go_upto_region 4 with fail;refine Ax (λW=>KA b w (w.heap.size+1) W 13 FG [] [] .nil .nil (.slice none 0 0) (.slice none 0 0) (.slice none 0 0)/\Par W b tv wo l wordsL (i+1)) HB0.out ?_
 all_goals
  rintro W0 ⟨hK,hp⟩;have HK:=S hK;clear hK HB0 c1 f1;have hkl:=HK.1.lt;replace HK:=S HK.1.toKS;go_upto_region 41 with fail;refine Ax (λW=>(∃pv xv nv fv wv,KS b w (w.heap.size+1) W _ .nil pv xv (.slice none 0 0) nv fv wv)/\Par W b tv wo l wordsL _) ⟨⟨_,_,_,_,_,HK.1⟩,hp⟩ ?_;clear HK hp;rintro W9 ⟨⟨pv0,xv0,nv0,fv0,wv0,hK0⟩,hp⟩;have HK:=S hK0;clear hK0;obtain⟨pa9,xa9,ba9,na9,fa9,wa9,pc9,xc9,bc9,nc9,fc9,wc9,e91,e92,e93,e94,e95,e96⟩:=HK.1.shapes;(first|cases e91|clear e91);(first|cases e92|clear e92);(first|cases e93|clear e93);(first|cases e94|clear e94);(first|cases e95|clear e95);(first|cases e96|clear e96);have hkb:=HK.1.blk;have hkz:=HK.1.zero;have hkl:=hkb.lt;have hkl2:=hkz.lt;have ck_:=hkb.c10;have cz_:=hkz.c10;clear hkb hkz;go_wp2;have hres9:=C8 HK.1 hp HQ.1.symm;have hblk9:=HK.1.out.2.2.1;refine bZ ?hr9 rfl hres9
  case hr9=>exact A7 rfl _ hblk9 rfl rfl
def zGai:(zGae λb tv wo l day n hn=>C1 b tv wo l hn day n Ft)/\(zGae λb tv wo l day n hn=>C1 b tv wo l hn day n F8)/\(zGae λb tv wo l day n hn=>C1 b tv wo l hn day n F4)/\(zGae λb tv wo l day n hn=>C1 b tv wo l hn day n Fm):=by
 refine⟨?a,?b,?c,?d⟩
 all_goals
  intro b tv wo l day n hn hnn hE hok hl;have HE:=S hE;have HTk:=S hok;have HSh:=S hl;clear hE hok hl;intro w i h hi ho;have HO:=S ho
 case' a=>
  generalize hR:(B8 hn wordsL day n Ft).f (i+1)=R at*;replace hR:((Rd.name hn).bind λp=>Rd.pure {sd0 13 Ft with p:=[p]}).f (i+1)=R:=hR;have HQ:=S hR;obtain⟨hb,hfew,c1,f1,HB0⟩:=CA Ft h hi;clear h ho hR;go_enter func329,ntmps329;go_upto_region 4 with fail;refine Ax (λW=>KA b w (w.heap.size+1) W 13 Ft [] [] .nil .nil (.slice none 0 0) (.slice none 0 0) (.slice none 0 0)/\Par W b tv wo l wordsL (i+1)) HB0.out ?_;rintro W0 ⟨hK,hp⟩;have HK:=S hK;clear hK HB0 c1 f1;have hkl:=HK.1.lt;rw[Rd.name_f]at HQ;replace HK:=S HK.1.toKS;have hkl:=HK.1.lt;have hwL:=HK.1.wL;go_wp2_with fail;refine(B6 hp HSh.1).mono ?_;intro e w7 hq;obtain⟨g,⟨q,hr,rfl⟩| ⟨p,j7,v,hr,rfl,rfl,hp9⟩⟩:=hq.split
  ·exact⟨rfl,Post.bad (Z HK.1.gr g) (by rw[<-HQ.1,hr];rfl)⟩
  replace HK:=S (HK.1.gb g);replace hp:=hp9;clear hp9;rw[hr,Res.bind_ok]at HQ;clear hr g;have hkl3:=HK.1.lt;have d3:=HK.1.blk.cell' 3 rfl;have f3:=HK.1.blk.frozen 3;have hbL:b<(w.heap.size+1):=by have:=HK.1.bw;omega
  have hp3:=(hp.set (L:=(w.heap.size+1)) hbL 3 (.slice (some ⟨(w7).heap.size,0,none⟩) 1 1)).alloc (.cells #[str p] 9 (0,0));replace HK:=S (HK.1.layP p);replace hp:=hp3;clear hp3;rw[Rd.pure_f]at HQ
 case' b=>
  generalize hR:(B8 hn wordsL day n F8).f (i+1)=R at*;replace hR:(D0 l (Ai l day n) (i+1)).bind (λf k=>Res.ok {sd0 13 F8 with x:=f} k)=R:=hR;have HQ:=S hR;obtain⟨hb,hfew,c1,f1,HB0⟩:=CA F8 h hi;clear h ho hR;go_enter func329,ntmps329;go_upto_region 4 with fail;refine Ax (λW=>KA b w (w.heap.size+1) W 13 F8 [] [] .nil .nil (.slice none 0 0) (.slice none 0 0) (.slice none 0 0)/\Par W b tv wo l wordsL (i+1)) HB0.out ?_;rintro W0 ⟨hK,hp⟩;have HK:=S hK;clear hK HB0 c1 f1;have hkl:=HK.1.lt;replace HK:=S HK.1.toKS;have hkl:=HK.1.lt;have hwL:=HK.1.wL;go_wp2_with fail;refine(FH HE.1 hp (λe=>HO.1 (by rw[<-HQ.1,e];rfl))).mono ?_;intro e w5 hq;obtain⟨g,⟨q,hr,rfl⟩| ⟨f,j5,v,hr,rfl,⟨fa,fc,rfl,hF⟩,hp9⟩⟩:=hq.split
  ·exact PBd HK.1.gr g HQ hr
  replace HK:=S (HK.1.gb g);replace hp:=hp9;clear hp9;replace HQ:=HQo HQ hr;clear hr;have hkl5:=HK.1.lt;have hbw:=HK.1.bw;have hx4:=HK.1.blk.cell' 4 rfl;have hf4:=HK.1.blk.frozen 4;have hK6:=HK.1.putX (hF.mono (λq hq _=>by have h1:(W0).heap.size<=q:=hq;(try simp at h1);exact⟨by omega,by omega⟩));have hp6:=hp.set (L:=(w.heap.size+1)) (by omega) 4 (.slice fa f.len fc);replace HK:=S hK6;replace hp:=hp6;clear hK6 hp6 hF g
 case' c=>
  generalize hR:(B8 hn wordsL day n F4).f (i+1)=R at*;replace hR:((B5 hn day n).bind λx=>Rd.pure {sd0 13 F4 with x:= .one x}).f (i+1)=R:=hR;have HQ:=S hR;obtain⟨hb,hfew,c1,f1,HB0⟩:=CA F4 h hi;clear h ho hR;go_enter func329,ntmps329;go_upto_region 4 with fail;refine Ax (λW=>KA b w (w.heap.size+1) W 13 F4 [] [] .nil .nil (.slice none 0 0) (.slice none 0 0) (.slice none 0 0)/\Par W b tv wo l wordsL (i+1)) HB0.out ?_;rintro W0 ⟨hK,hp⟩;have HK:=S hK;clear hK HB0 c1 f1;have hkl:=HK.1.lt;rw[Rd.expr_f]at HQ;replace HK:=S HK.1.toKS;have hkl:=HK.1.lt;have hwL:=HK.1.wL;go_wp2_with fail;refine(HE.1 _ _ hp (λe=>HO.1 (by rw[<-HQ.1,e];rfl))).mono ?_;intro e w5 hq;obtain⟨g,⟨q,hr,rfl⟩| ⟨x,j5,v,hr,rfl,⟨pa,pc,la,lc,rfl,rp,rl⟩,hp9⟩⟩:=hq.split
  ·exact PBd HK.1.gr g HQ hr
  replace HK:=S (HK.1.gb g);replace hp:=hp9;clear hp9;replace HQ:=HQo HQ hr;clear hr;have hs3:=g.size;have hkl3:=HK.1.lt;have d3:=HK.1.blk.cell' 4 rfl;have f3:=HK.1.blk.frozen 4;have hbL:b<(w.heap.size+1):=by have:=HK.1.bw;omega
  have hfr:∀q,Al (W0).heap.size q->q<(w5).heap.size->but w (w.heap.size+1) q:=λq hq _=>by have h1:(W0).heap.size<=q:=hq;(try simp at h1);exact⟨by omega,by omega⟩
  have hK4:=HK.1.layX (f:= .one x) (m:=1) (by simp[Fo.one,Ex.fo,Fo.len]) (by decide) (VE.rep (rp.mono hfr) (rl.mono hfr));have hp3:=(hp.set (L:=(w.heap.size+1)) hbL 4 (.slice (some ⟨(w5).heap.size,0,none⟩) 1 1)).alloc (.cells (hdC (x).h (.slice pa (x).h.p.length pc) (.slice la (x).kids.len lc)).toArray 163 (0,0));replace HK:=S hK4;replace hp:=hp3;clear g rp rl hK4 hp3 hfr;rw[Rd.pure_f]at HQ
 case' d=>
  generalize hR:(B8 hn wordsL day n Fm).f (i+1)=R at*;replace hR:((Rd.must wordsL Lk).bind λ_=>Rd.pure (sd0 13 Fm)).f (i+1)=R:=hR;have HQ:=S hR;obtain⟨hb,hfew,c1,f1,HB0⟩:=CA Fm h hi;clear h ho hR;go_enter func329,ntmps329;go_upto_region 4 with fail;refine Ax (λW=>KA b w (w.heap.size+1) W 13 Fm [] [] .nil .nil (.slice none 0 0) (.slice none 0 0) (.slice none 0 0)/\Par W b tv wo l wordsL (i+1)) HB0.out ?_;rintro W0 ⟨hK,hp⟩;have HK:=S hK;clear hK HB0 c1 f1;have hkl:=HK.1.lt;rw[Rd.must_f]at HQ;replace HK:=S HK.1.toKS;go_wp2_with fail;refine(BJ hp HTk.1 Lk (by decide)).mono ?_;intro e w5 hq;obtain⟨g,⟨q,hr,rfl⟩| ⟨u,i5,v,hr,rfl,rfl,hp9⟩⟩:=hq.split
  ·exact PBd HK.1.gr g HQ hr
  replace HK:=S (HK.1.gb g);replace hp:=hp9;clear hp9;replace HQ:=HQo HQ hr;clear hr g;rw[Rd.pure_f]at HQ
 all_goals
  go_upto_region 41 with fail;refine Ax (λW=>(∃pv xv nv fv wv,KS b w (w.heap.size+1) W _ .nil pv xv (.slice none 0 0) nv fv wv)/\Par W b tv wo l wordsL _) ⟨⟨_,_,_,_,_,HK.1⟩,hp⟩ ?_;clear HK hp;rintro W9 ⟨⟨pv0,xv0,nv0,fv0,wv0,hK0⟩,hp⟩;have HK:=S hK0;clear hK0;obtain⟨pa9,xa9,ba9,na9,fa9,wa9,pc9,xc9,bc9,nc9,fc9,wc9,e91,e92,e93,e94,e95,e96⟩:=HK.1.shapes;(first|cases e91|clear e91);(first|cases e92|clear e92);(first|cases e93|clear e93);(first|cases e94|clear e94);(first|cases e95|clear e95);(first|cases e96|clear e96);have hkb:=HK.1.blk;have hkz:=HK.1.zero;have hkl:=hkb.lt;have hkl2:=hkz.lt;have ck_:=hkb.c10;have cz_:=hkz.c10;clear hkb hkz;go_wp2;have hres9:=C8 HK.1 hp HQ.1.symm;have hblk9:=HK.1.out.2.2.1;refine bZ ?hr9 rfl hres9
  case hr9=>exact A7 rfl _ hblk9 rfl rfl
def zGaf:(zGae λb tv wo l day n hn=>C1 b tv wo l hn day n Fr)/\(zGae λb tv wo l day n hn=>C1 b tv wo l hn day n Fq)/\(zGae λb tv wo l day n hn=>C1 b tv wo l hn day n Fs):=by
 refine⟨?a,?b,?c⟩
 all_goals
  intro b tv wo l day n hn hnn hE hok hl;have HE:=S hE;have HTk:=S hok;have HSh:=S hl;clear hE hok hl;intro w i h hi ho;have HO:=S ho
 case' a=>
  generalize hR:(B8 hn wordsL day n Fr).f (i+1)=R at*;replace hR:((Bz hn wordsL day n n Ck).bind λc=>Rd.pure (CU (sd0 13 Fr) c)).f (i+1)=R:=hR;have HQ:=S hR;obtain⟨hb,hfew,c1,f1,HB0⟩:=CA Fr h hi;clear h ho hR;go_enter func329,ntmps329;go_upto_region 4 with fail;refine Ax (λW=>KA b w (w.heap.size+1) W 13 Fr [] [] .nil .nil (.slice none 0 0) (.slice none 0 0) (.slice none 0 0)/\Par W b tv wo l wordsL (i+1)) HB0.out ?_
 case' b=>
  generalize hR:(B8 hn wordsL day n Fq).f (i+1)=R at*;replace hR:((Bz hn wordsL day n n Ck).bind λc=>Rd.pure (CU (sd0 13 Fq) c)).f (i+1)=R:=hR;have HQ:=S hR;obtain⟨hb,hfew,c1,f1,HB0⟩:=CA Fq h hi;clear h ho hR;go_enter func329,ntmps329;go_upto_region 4 with fail;refine Ax (λW=>KA b w (w.heap.size+1) W 13 Fq [] [] .nil .nil (.slice none 0 0) (.slice none 0 0) (.slice none 0 0)/\Par W b tv wo l wordsL (i+1)) HB0.out ?_
 case' c=>
  generalize hR:(B8 hn wordsL day n Fs).f (i+1)=R at*;replace hR:((Bz hn wordsL day n n Ck).bind λc=>Rd.pure (CU (sd0 13 Fs) c)).f (i+1)=R:=hR;have HQ:=S hR;obtain⟨hb,hfew,c1,f1,HB0⟩:=CA Fs h hi;clear h ho hR;go_enter func329,ntmps329;go_upto_region 4 with fail;refine Ax (λW=>KA b w (w.heap.size+1) W 13 Fs [] [] .nil .nil (.slice none 0 0) (.slice none 0 0) (.slice none 0 0)/\Par W b tv wo l wordsL (i+1)) HB0.out ?_
 all_goals
  rintro W0 ⟨hK,hp⟩;have HK:=S hK;clear hK HB0 c1 f1;have hkl:=HK.1.lt;rw[Rd.bind_f]at HQ;replace HK:=S HK.1.toKS;go_wp2_with fail;have hkl:=HK.1.lt;have hwL:=HK.1.wL;have hbw:=HK.1.bw;refine(Gs hn HE.1 HTk.1 hp (λe=>HO.1 (by rw[<-HQ.1,e];rfl))).mono ?_;intro e w20 hq;obtain⟨g20,⟨q,hr,rfl⟩| ⟨c,j20,v,hr,rfl,⟨na,fa,wa,nc,fc,wc,rfl,rn,rf,rw0⟩,h20⟩⟩:=hq.split
  ·exact PBd HK.1.gr g20 HQ hr
  replace HQ:=HQo HQ hr;clear hr;have hK20:=HK.1.gb g20;have hkl20:=hK20.lt;have d6:=hK20.blk.cell' 6 rfl;have d7:=hK20.blk.cell' 7 rfl;have d8:=hK20.blk.cell' 8 rfl;have d9:=hK20.blk.cell' 9 rfl;have ff:=λi=>hK20.blk.frozen i;have hfr:∀q,Al (W0).heap.size q->q<w20.heap.size->but w (w.heap.size+1) q:=λq hq _=>by have h1:(W0).heap.size<=q:=hq;(try simp at h1);exact⟨by omega,by omega⟩
  have HK20:=S (hK20.putC (rn.mono hfr) (rf.mono hfr) (rw0.mono hfr) _ rfl);have HP20:=S (h20.putC (L:=(w.heap.size+1)) (by omega) (.int .i64 c.kind) (.slice na c.n.len nc) (.slice fa c.f.len fc) (.slice wa c.w.len wc));clear hK20 g20 h20 rn rf rw0 hfr HK hp;rw[Rd.pure_f]at HQ;have HK:=HK20;have hp:=HP20.1;clear HK20 HP20;go_upto_region 41 with fail;refine Ax (λW=>(∃pv xv nv fv wv,KS b w (w.heap.size+1) W _ .nil pv xv (.slice none 0 0) nv fv wv)/\Par W b tv wo l wordsL _) ⟨⟨_,_,_,_,_,HK.1⟩,hp⟩ ?_;clear HK hp;rintro W9 ⟨⟨pv0,xv0,nv0,fv0,wv0,hK0⟩,hp⟩;have HK:=S hK0;clear hK0;obtain⟨pa9,xa9,ba9,na9,fa9,wa9,pc9,xc9,bc9,nc9,fc9,wc9,e91,e92,e93,e94,e95,e96⟩:=HK.1.shapes;(first|cases e91|clear e91);(first|cases e92|clear e92);(first|cases e93|clear e93);(first|cases e94|clear e94);(first|cases e95|clear e95);(first|cases e96|clear e96);have hkb:=HK.1.blk;have hkz:=HK.1.zero;have hkl:=hkb.lt;have hkl2:=hkz.lt;have ck_:=hkb.c10;have cz_:=hkz.c10;clear hkb hkz;go_wp2;have hres9:=C8 HK.1 hp HQ.1.symm;have hblk9:=HK.1.out.2.2.1;refine bZ ?hr9 rfl hres9
  case hr9=>exact A7 rfl _ hblk9 rfl rfl
def zGad:(zGae λb tv wo l day n hn=>C1 b tv wo l hn day n Fx)/\(zGae λb tv wo l day n hn=>C1 b tv wo l hn day n FD):=by
 refine⟨?a,?b⟩
 all_goals
  intro b tv wo l day n hn hnn hE hok hl;have HE:=S hE;have HTk:=S hok;have HSh:=S hl;clear hE hok hl;intro w i h hi ho;have HO:=S ho
 case' a=>
  generalize hR:(B8 hn wordsL day n Fx).f (i+1)=R at*;replace hR:((Rd.must wordsL wTO).bind λ_=>(Rd.name hn).bind λp=>(Bz hn wordsL day n n Ck).bind λc=>Rd.pure (CU {sd0 13 Fx with p:=[p]} c)).f (i+1)=R:=hR;have HQ:=S hR;obtain⟨hb,hfew,c1,f1,HB0⟩:=CA Fx h hi;clear h ho hR;go_enter func329,ntmps329;go_upto_region 4 with fail;refine Ax (λW=>KA b w (w.heap.size+1) W 13 Fx [] [] .nil .nil (.slice none 0 0) (.slice none 0 0) (.slice none 0 0)/\Par W b tv wo l wordsL (i+1)) HB0.out ?_;rintro W0 ⟨hK,hp⟩;have HK:=S hK;clear hK HB0 c1 f1;have hkl:=HK.1.lt;rw[Rd.must_f]at HQ;replace HK:=S HK.1.toKS;go_wp2_with fail;refine(BJ hp HTk.1 wTO (by decide)).mono ?_;intro e w5 hq;obtain⟨g,⟨q,hr,rfl⟩| ⟨u,i5,v,hr,rfl,rfl,hp9⟩⟩:=hq.split
  ·exact⟨rfl,Post.bad (Z HK.1.gr g) (by rw[<-HQ.1,hr];rfl)⟩
  replace HK:=S (HK.1.gb g);replace hp:=hp9;clear hp9;rw[hr,Res.bind_ok]at HQ;clear hr g
 case' b=>
  generalize hR:(B8 hn wordsL day n FD).f (i+1)=R at*;replace hR:((B5 hn day n).bind λx=>(Rd.must wordsL wTO).bind λ_=>(Rd.name hn).bind λp=>(Bz hn wordsL day n n Ck).bind λc=>Rd.pure (CU {sd0 13 FD with p:=[p],x:= .one x} c)).f (i+1)=R:=hR;have HQ:=S hR;obtain⟨hb,hfew,c1,f1,HB0⟩:=CA FD h hi;clear h ho hR;go_enter func329,ntmps329;go_upto_region 4 with fail;refine Ax (λW=>KA b w (w.heap.size+1) W 13 FD [] [] .nil .nil (.slice none 0 0) (.slice none 0 0) (.slice none 0 0)/\Par W b tv wo l wordsL (i+1)) HB0.out ?_;rintro W0 ⟨hK,hp⟩;have HK:=S hK;clear hK HB0 c1 f1;have hkl:=HK.1.lt;rw[Rd.expr_f]at HQ;replace HK:=S HK.1.toKS;have hkl:=HK.1.lt;have hwL:=HK.1.wL;go_wp2_with fail;refine(HE.1 _ _ hp (λe=>HO.1 (by rw[<-HQ.1,e];rfl))).mono ?_;intro e w4 hq;obtain⟨g,⟨q,hr,rfl⟩| ⟨x,j4,v,hr,rfl,⟨pa,pc,la,lc,rfl,rp,rl⟩,hp9⟩⟩:=hq.split
  ·exact⟨rfl,Post.bad (Z HK.1.gr g) (by rw[<-HQ.1,hr];rfl)⟩
  replace HK:=S (HK.1.gb g);replace hp:=hp9;clear hp9;rw[hr,Res.bind_ok]at HQ;clear hr;have hs3:=g.size;have hkl3:=HK.1.lt;have d3:=HK.1.blk.cell' 4 rfl;have f3:=HK.1.blk.frozen 4;have hbL:b<(w.heap.size+1):=by have:=HK.1.bw;omega
  have hfr:∀q,Al (W0).heap.size q->q<(w4).heap.size->but w (w.heap.size+1) q:=λq hq _=>by have h1:(W0).heap.size<=q:=hq;(try simp at h1);exact⟨by omega,by omega⟩
  have hK4:=HK.1.layX (f:= .one x) (m:=1) (by simp[Fo.one,Ex.fo,Fo.len]) (by decide) (VE.rep (rp.mono hfr) (rl.mono hfr));have hp3:=(hp.set (L:=(w.heap.size+1)) hbL 4 (.slice (some ⟨(w4).heap.size,0,none⟩) 1 1)).alloc (.cells (hdC (x).h (.slice pa (x).h.p.length pc) (.slice la (x).kids.len lc)).toArray 163 (0,0));replace HK:=S hK4;replace hp:=hp3;clear g rp rl hK4 hp3 hfr;rw[Rd.must_f]at HQ;go_wp2_with fail;refine(BJ hp HTk.1 wTO (by decide)).mono ?_;intro e w5 hq;obtain⟨g,⟨q,hr,rfl⟩| ⟨u,i5,v,hr,rfl,rfl,hp9⟩⟩:=hq.split
  ·exact⟨rfl,Post.bad (Z HK.1.gr g) (by rw[<-HQ.1,hr];rfl)⟩
  replace HK:=S (HK.1.gb g);replace hp:=hp9;clear hp9;rw[hr,Res.bind_ok]at HQ;clear hr g d3 f3
 all_goals
  rw[Rd.name_f]at HQ;have hkl:=HK.1.lt;have hwL:=HK.1.wL;go_wp2_with fail;refine(B6 hp HSh.1).mono ?_;intro e w7 hq;obtain⟨g,⟨q,hr,rfl⟩| ⟨p,j7,v,hr,rfl,rfl,hp9⟩⟩:=hq.split
  ·exact⟨rfl,Post.bad (Z HK.1.gr g) (by rw[<-HQ.1,hr];rfl)⟩
  replace HK:=S (HK.1.gb g);replace hp:=hp9;clear hp9;rw[hr,Res.bind_ok]at HQ;clear hr g;have hkl3:=HK.1.lt;have d3:=HK.1.blk.cell' 3 rfl;have f3:=HK.1.blk.frozen 3;have hbL:b<(w.heap.size+1):=by have:=HK.1.bw;omega
  have hp3:=(hp.set (L:=(w.heap.size+1)) hbL 3 (.slice (some ⟨(w7).heap.size,0,none⟩) 1 1)).alloc (.cells #[str p] 9 (0,0));replace HK:=S (HK.1.layP p);replace hp:=hp3;clear hp3;rw[Rd.bind_f]at HQ;go_wp2_with fail;refine No (λW=>(∃pv xv,KS b w (w.heap.size+1) W _ .nil pv xv (.slice none 0 0) (.slice none 0 0) (.slice none 0 0) (.slice none 0 0))/\Par W b tv wo l wordsL j7) ⟨⟨_,_,HK.1⟩,hp⟩ ?_;clear HK hp d3 f3;rintro W7 ⟨⟨pv7,xv7,hK7⟩,hp⟩;have HK:=S hK7;clear hK7;have hkl:=HK.1.lt;have hwL:=HK.1.wL;have hbw:=HK.1.bw;refine(Gs hn HE.1 HTk.1 hp (λe=>HO.1 (by rw[<-HQ.1,e];rfl))).mono ?_;intro e w20 hq;obtain⟨g20,⟨q,hr,rfl⟩| ⟨c,j20,v,hr,rfl,⟨na,fa,wa,nc,fc,wc,rfl,rn,rf,rw0⟩,h20⟩⟩:=hq.split
  ·exact⟨rfl,Post.bad (Z HK.1.gr g20) (by rw[<-HQ.1,hr];rfl)⟩
  rw[hr,Res.bind_ok]at HQ;clear hr;have hK20:=HK.1.gb g20;have hkl20:=hK20.lt;have d6:=hK20.blk.cell' 6 rfl;have d7:=hK20.blk.cell' 7 rfl;have d8:=hK20.blk.cell' 8 rfl;have d9:=hK20.blk.cell' 9 rfl;have ff:=λi=>hK20.blk.frozen i;have hfr:∀q,Al (W7).heap.size q->q<w20.heap.size->but w (w.heap.size+1) q:=λq hq _=>by have h1:(W7).heap.size<=q:=hq;(try simp at h1);exact⟨by omega,by omega⟩
  have HK20:=S (hK20.putC (rn.mono hfr) (rf.mono hfr) (rw0.mono hfr) _ rfl);have HP20:=S (h20.putC (L:=(w.heap.size+1)) (by omega) (.int .i64 c.kind) (.slice na c.n.len nc) (.slice fa c.f.len fc) (.slice wa c.w.len wc));clear hK20 g20 h20 rn rf rw0 hfr HK hp;rw[Rd.pure_f]at HQ;have HK:=HK20;have hp:=HP20.1;clear HK20 HP20;go_upto_region 41 with fail;refine Ax (λW=>(∃pv xv nv fv wv,KS b w (w.heap.size+1) W _ .nil pv xv (.slice none 0 0) nv fv wv)/\Par W b tv wo l wordsL _) ⟨⟨_,_,_,_,_,HK.1⟩,hp⟩ ?_;clear HK hp;rintro W9 ⟨⟨pv0,xv0,nv0,fv0,wv0,hK0⟩,hp⟩;have HK:=S hK0;clear hK0;obtain⟨pa9,xa9,ba9,na9,fa9,wa9,pc9,xc9,bc9,nc9,fc9,wc9,e91,e92,e93,e94,e95,e96⟩:=HK.1.shapes;(first|cases e91|clear e91);(first|cases e92|clear e92);(first|cases e93|clear e93);(first|cases e94|clear e94);(first|cases e95|clear e95);(first|cases e96|clear e96);have hkb:=HK.1.blk;have hkz:=HK.1.zero;have hkl:=hkb.lt;have hkl2:=hkz.lt;have ck_:=hkb.c10;have cz_:=hkz.c10;clear hkb hkz;go_wp2;have hres9:=C8 HK.1 hp HQ.1.symm;have hblk9:=HK.1.out.2.2.1;refine bZ ?hr9 rfl hres9
  case hr9=>exact A7 rfl _ hblk9 rfl rfl
def zGag:(zGae λb tv wo l day n hn=>C1 b tv wo l hn day n FF)/\(zGae λb tv wo l day n hn=>C1 b tv wo l hn day n wGO)/\(zGae λb tv wo l day n hn=>C1 b tv wo l hn day n Fh)/\(zGae λb tv wo l day n hn=>C1 b tv wo l hn day n Fy)/\(zGae λb tv wo l day n hn=>C1 b tv wo l hn day n Gp):=by
 refine⟨?a,?b,?c,?d,?e⟩
 all_goals
  intro b tv wo l day n hn hnn hE hok hl;have HE:=S hE;have HTk:=S hok;have HSh:=S hl;clear hE hok hl;intro w i h hi ho;have HO:=S ho
 case' a=>
  generalize hR:(B8 hn wordsL day n FF).f (i+1)=R at*;replace hR:(If hn FF).f (i+1)=R:=hR;have HQ:=S hR;obtain⟨hb,hfew,c1,f1,HB0⟩:=CA FF h hi;clear h ho hR;go_enter func329,ntmps329;go_upto_region 4 with fail;refine Ax (λW=>KA b w (w.heap.size+1) W 13 FF [] [] .nil .nil (.slice none 0 0) (.slice none 0 0) (.slice none 0 0)/\Par W b tv wo l wordsL (i+1)) HB0.out ?_;rintro W0 ⟨hK,hp⟩;have HK:=S hK;clear hK HB0 c1 f1;have hkl:=HK.1.lt;go_wp2_with fail;refine(WI hn HTk.1 HSh.1 HK.1 hp (λe=>HO.1 (by rw[<-HQ.1,e]))).mono ?_
 case' b=>
  generalize hR:(B8 hn wordsL day n wGO).f (i+1)=R at*;replace hR:(goP hn wordsL day n (sd0 13 wGO)).f (i+1)=R:=hR;have HQ:=S hR;obtain⟨hb,hfew,c1,f1,HB0⟩:=CA wGO h hi;clear h ho hR;go_enter func329,ntmps329;go_upto_region 4 with fail;refine Ax (λW=>KA b w (w.heap.size+1) W 13 wGO [] [] .nil .nil (.slice none 0 0) (.slice none 0 0) (.slice none 0 0)/\Par W b tv wo l wordsL (i+1)) HB0.out ?_;rintro W0 ⟨hK,hp⟩;have HK:=S hK;clear hK HB0 c1 f1;have hkl:=HK.1.lt;go_wp2_with fail;refine(Vj hn HE.1 HTk.1 HK.1.toKS hp (λe=>HO.1 (by rw[<-HQ.1,e]))).mono ?_
 case' c=>
  generalize hR:(B8 hn wordsL day n Fh).f (i+1)=R at*;replace hR:(Ib hn day n Fh).f (i+1)=R:=hR;have HQ:=S hR;obtain⟨hb,hfew,c1,f1,HB0⟩:=CA Fh h hi;clear h ho hR;go_enter func329,ntmps329;go_upto_region 4 with fail;refine Ax (λW=>KA b w (w.heap.size+1) W 13 Fh [] [] .nil .nil (.slice none 0 0) (.slice none 0 0) (.slice none 0 0)/\Par W b tv wo l wordsL (i+1)) HB0.out ?_;rintro W0 ⟨hK,hp⟩;have HK:=S hK;clear hK HB0 c1 f1;have hkl:=HK.1.lt;go_wp2_with fail;refine(PQ hn hnn HE.1 HTk.1 HSh.1 HK.1 hp (λe=>HO.1 (by rw[<-HQ.1,e]))).mono ?_
 case' d=>
  generalize hR:(B8 hn wordsL day n Fy).f (i+1)=R at*;replace hR:(Fv hn wordsL day n (sd0 13 Fy)).f (i+1)=R:=hR;have HQ:=S hR;obtain⟨hb,hfew,c1,f1,HB0⟩:=CA Fy h hi;clear h ho hR;go_enter func329,ntmps329;go_upto_region 4 with fail;refine Ax (λW=>KA b w (w.heap.size+1) W 13 Fy [] [] .nil .nil (.slice none 0 0) (.slice none 0 0) (.slice none 0 0)/\Par W b tv wo l wordsL (i+1)) HB0.out ?_;rintro W0 ⟨hK,hp⟩;have HK:=S hK;clear hK HB0 c1 f1;have hkl:=HK.1.lt;go_wp2_with fail;refine(Sx hn HE.1 HTk.1 HSh.1 HK.1 hp (λe=>HO.1 (by rw[<-HQ.1,e]))).mono ?_
 case' e=>
  generalize hR:(B8 hn wordsL day n Gp).f (i+1)=R at*;replace hR:(Fg hn wordsL day n (sd0 13 Gp)).f (i+1)=R:=hR;have HQ:=S hR;obtain⟨hb,hfew,c1,f1,HB0⟩:=CA Gp h hi;clear h ho hR;go_enter func329,ntmps329;go_upto_region 4 with fail;refine Ax (λW=>KA b w (w.heap.size+1) W 13 Gp [] [] .nil .nil (.slice none 0 0) (.slice none 0 0) (.slice none 0 0)/\Par W b tv wo l wordsL (i+1)) HB0.out ?_;rintro W0 ⟨hK,hp⟩;have HK:=S hK;clear hK HB0 c1 f1;have hkl:=HK.1.lt;go_wp2_with fail;refine(X6 hn HE.1 HTk.1 HSh.1 HK.1.toKS hp (λe=>HO.1 (by rw[<-HQ.1,e]))).mono ?_
 all_goals
  intro e w7 hq;obtain⟨g,⟨q,hr,rfl⟩| ⟨s9,j9,v,hr,rfl,⟨rfl,pv,xv,nv,fv,wv,hK9⟩,hp9⟩⟩:=hq.split
  ·exact⟨rfl,Post.bad g (by rw[<-HQ.1,hr])⟩
  replace HK:=S hK9;replace hp:=hp9;rw[hr]at HQ;clear hr hK9 hp9 g;go_upto_region 41 with fail;refine Ax (λW=>(∃pv xv nv fv wv,KS b w (w.heap.size+1) W _ .nil pv xv (.slice none 0 0) nv fv wv)/\Par W b tv wo l wordsL _) ⟨⟨_,_,_,_,_,HK.1⟩,hp⟩ ?_;clear HK hp;rintro W9 ⟨⟨pv0,xv0,nv0,fv0,wv0,hK0⟩,hp⟩;have HK:=S hK0;clear hK0;obtain⟨pa9,xa9,ba9,na9,fa9,wa9,pc9,xc9,bc9,nc9,fc9,wc9,e91,e92,e93,e94,e95,e96⟩:=HK.1.shapes;(first|cases e91|clear e91);(first|cases e92|clear e92);(first|cases e93|clear e93);(first|cases e94|clear e94);(first|cases e95|clear e95);(first|cases e96|clear e96);have hkb:=HK.1.blk;have hkz:=HK.1.zero;have hkl:=hkb.lt;have hkl2:=hkz.lt;have ck_:=hkb.c10;have cz_:=hkz.c10;clear hkb hkz;go_wp2;have hres9:=C8 HK.1 hp HQ.1.symm;have hblk9:=HK.1.out.2.2.1;refine bZ ?hr9 rfl hres9
  case hr9=>exact A7 rfl _ hblk9 rfl rfl
def X4(wd:Bs)(hw:cmdWords.contains wd=false)(h:Par w b tv wo l wordsL i)(hi:i<l.length):
 Calls Tryz.prog 329 #[.pointer (some ⟨b,0,none⟩),str wd] w λe w'=>e= .panicked (GG i)/\w.grownBy w' (some b):=by
 have hn:∀v,v∈cmdWords->(wd==v)=false:=by
  intro v hv;have:wd≠v:=by
   rintro rfl;rw[List.contains_eq_mem]at hw;simp[hv]at hw
  simpa using this
 have hw0:=hn Ft (by decide);have hw1:=hn FF (by decide);have hw2:=hn wGO (by decide);have hw3:=hn F8 (by decide);have hw4:=hn F4 (by decide);have hw5:=hn EX (by decide);have hw6:=hn F3 (by decide);have hw7:=hn FG (by decide);have hw8:=hn Fm (by decide);have hw9:=hn Fr (by decide);have hw10:=hn Fq (by decide);have hw11:=hn Fs (by decide);have hw12:=hn Fh (by decide);have hw13:=hn Fx (by decide);have hw14:=hn FD (by decide);have hw15:=hn Fy (by decide);have hw16:=hn Gp (by decide);clear hn hw;have hb:=h.lt;have hfew:=h.few;have c1:=h.c1;have f1:=h.f1;have gI:=Am (Aa w (some b)) 1 (.int .i64 ((i:Int)+1));have hpI:=h.goI ((i:Int)+1) (i+1) (by omega) (by omega);have gz:w.grownBy (((w.setCell ⟨b,1,none⟩ (.int .i64 ((i:Int)+1))).alloc (.cells (stC 0 (.slice none 0 0)).toArray 134 (0,0))).alloc (.cells #[.int .i64 13,str wd,str [],.slice none 0 0,.slice none 0 0,.slice none 0 0,.int .i64 0,.slice none 0 0,.slice none 0 0,.slice none 0 0] 134 (0,0))) (some b):=Ac (Ac gI _) _;have HB0:=S (X gz ((hpI.alloc (.cells (stC 0 (.slice none 0 0)).toArray 134 (0,0))).alloc (.cells #[.int .i64 13,str wd,str [],.slice none 0 0,.slice none 0 0,.slice none 0 0,.int .i64 0,.slice none 0 0,.slice none 0 0,.slice none 0 0] 134 (0,0))));clear h gI hpI gz;go_enter func329,ntmps329;go_upto_region 4 with fail;refine Ax (λW=>w.grownBy W (some b)/\Par W b tv wo l wordsL (i+1)) HB0.1 ?_;rintro W0 ⟨gW,hp⟩;clear HB0 c1 f1;have c1:=hp.c1;have f1:=hp.f1;have hbl:=hp.lt
 have gJ:=Am (Aa W0 (some b)) 1 (.int .i64 (i:Int));have c2:=(hp.goI (i:Int) i rfl (by omega)).c1;go_wp2_with fail;refine(DQ c2).mono ?_;rintro e w5 ⟨rfl,rfl⟩;exact⟨rfl,rfl,Z gW gJ⟩
def Qp(hn:Aj l)(hnn:n<=100000)(hE:CE 208 b tv wo l wordsL (Ai l day n))(hok:∀i,As (Ab l i))(hl:Ay l)(hw:cmdWords.contains wd=true):C1 b tv wo l hn day n wd:=by
 have hm:wd∈cmdWords:=by simpa using hw
 simp only[cmdWords,List.mem_cons,List.not_mem_nil,or_false]at hm;rcases hm with rfl|rfl|rfl|rfl|rfl|rfl|rfl|rfl|rfl|rfl|rfl|rfl|rfl|rfl|rfl|rfl|rfl
 ·exact zGai.1 hn hnn hE hok hl
 ·exact zGag.1 hn hnn hE hok hl
 ·exact zGag.2.1 hn hnn hE hok hl
 ·exact zGai.2.1 hn hnn hE hok hl
 ·exact zGai.2.2.1 hn hnn hE hok hl
 ·exact zGah.1 hn hnn hE hok hl
 ·exact zGah.2.1 hn hnn hE hok hl
 ·exact zGah.2.2 hn hnn hE hok hl
 ·exact zGai.2.2.2 hn hnn hE hok hl
 ·exact zGaf.1 hn hnn hE hok hl
 ·exact zGaf.2.1 hn hnn hE hok hl
 ·exact zGaf.2.2 hn hnn hE hok hl
 ·exact zGag.2.2.1 hn hnn hE hok hl
 ·exact zGad.1 hn hnn hE hok hl
 ·exact zGad.2 hn hnn hE hok hl
 ·exact zGag.2.2.2.1 hn hnn hE hok hl
 ·exact zGag.2.2.2.2 hn hnn hE hok hl
def De(b:Nat)(tv wo:Value)(l:List Tok)(hn:Aj l)(day:Bs->Int)(n:Nat)(block:Rd l Bl)(wd:Bs):Prop:=
 ∀(w:World)(i:Nat),Glob w->Par w b tv wo l wordsL i->i<l.length->(By hn wordsL day n block wd).f i ≠ .out->Calls Tryz.prog 301 #[.pointer (some ⟨b,0,none⟩),str wd] w (Post b tv wo l wordsL w (VSt w) ((By hn wordsL day n block wd).f i))
def My{W:World}{r:Res StB}(hb:b<w.heap.size)(g:w.grownBy W (some b))(hp:Par W b tv wo l wordsL i)(op:Int)(hr:r= .ok (sd0 op [],.nil) i)(o:Obj):
 Post b tv wo l wordsL w (VSt w) r (.returned (.agg #[.int .i64 op,str [],str [],.slice none 0 0,.slice none 0 0,.slice none 0 0,.int .i64 0,.slice none 0 0,.slice none 0 0,.slice none 0 0]))
  ((set10 W w.heap.size (.int .i64 op) (str []) (str []) (.slice none 0 0) (.slice none 0 0) (.slice none 0 0) (.int .i64 0) (.slice none 0 0) (.slice none 0 0) (.slice none 0 0)).alloc o):=by
 have g10:=DR W w.heap.size (.int .i64 op) (str []) (str []) (.slice none 0 0) (.slice none 0 0) (.slice none 0 0) (.int .i64 0) (.slice none 0 0) (.slice none 0 0) (.slice none 0 0);exact Post.ok (Ac (Ap g g10 (.inr (nR _))) o) hr ⟨none,none,none,none,none,none,0,0,0,0,0,0,rfl,⟨Cells.nil _ _ _,RepL.nil _ _,RepL.nil _ _,RepL.nil _ _,RepL.nil _ _⟩,RepV.nil _ _ _⟩ ((hp.gb g10 (by intro q e;cases e;omega)).alloc o)
abbrev zGak(Ψ:∀(b:Nat)(tv wo:Value)(l:List Tok)(day:Bs->Int)(n:Nat)(block:Rd l Bl)(hn:Aj l),Prop):Prop:=∀{b:Nat}{tv wo:Value}{l:List Tok}{day:Bs->Int}{n:Nat}{block:Rd l Bl}(hn:Aj l)(hnn:n<=90000)(hB:CQB b tv wo l block.f)(hE:CE 208 b tv wo l wordsL (Ai l day n))(hok:∀i,As (Ab l i))(hl:Ay l)(hgb:4<b),Ψ b tv wo l day n block hn
def zGal:(zGak λb tv wo l day n block hn=>De b tv wo l hn day n block Gj)/\(zGak λb tv wo l day n block hn=>De b tv wo l hn day n block FU):=by
 refine⟨?a,?b⟩
 all_goals
  intro b tv wo l day n block hn hnn hB hE hok hl hgb;have HBk:=S hB;have HE:=S hE;have HTk:=S hok;have HSh:=S hl;clear hE hok hl hB;intro w i hg h hi ho;have HO:=S ho
 case' a=>
  generalize hR:(By hn wordsL day n block Gj).f i=R at*;replace hR:(D4 hn day n Gj).f (i+1)=R:=hR;have HQ:=S hR;have HGl:=S (X hg hgb);obtain⟨hb,hfew,c1,f1,HB0⟩:=Dz h hi;clear h ho hR hg;go_enter func301,ntmps301;go_upto_region 7 with fail;refine Ax (λW=>Blk W w.heap.size (stC 0 (.slice none 0 0)) 134/\w.grownBy W (some b)/\Par W b tv wo l wordsL (i+1)) HB0.out ?_;rintro W0 ⟨hz,gz,hp⟩;have HZ:=S (X hz gz);have hl0:=hz.lt;clear hz gz HB0 c1 f1;have HC:=S (Ir hn (by omega) HE.1 HSh.1 hp Gj (λe=>HO.1 (by rw[<-HQ.1,e])))
 case' b=>
  generalize hR:(By hn wordsL day n block FU).f i=R at*;replace hR:(D4 hn day n FU).f (i+1)=R:=hR;have HQ:=S hR;have HGl:=S (X hg hgb);obtain⟨hb,hfew,c1,f1,HB0⟩:=Dz h hi;clear h ho hR hg;go_enter func301,ntmps301;go_upto_region 7 with fail;refine Ax (λW=>Blk W w.heap.size (stC 0 (.slice none 0 0)) 134/\w.grownBy W (some b)/\Par W b tv wo l wordsL (i+1)) HB0.out ?_;rintro W0 ⟨hz,gz,hp⟩;have HZ:=S (X hz gz);have hl0:=hz.lt;clear hz gz HB0 c1 f1;have HC:=S (Ir hn (by omega) HE.1 HSh.1 hp FU (λe=>HO.1 (by rw[<-HQ.1,e])))
 all_goals
  go_wp2_with fail;refine HC.1.mono ?_;intro e w4 hq;obtain⟨g,⟨q,hr,rfl⟩| ⟨s9,j9,v,hr,rfl,hv,hp9⟩⟩:=hq.split
  ·exact⟨rfl,Post.bad (Z HZ.1.2 g) (by rw[<-HQ.1,hr])⟩
  obtain⟨pa,xa,ba,na,fa,wa,pc,xc,bc,nc,fc,wc,rfl,hz9,hpp,hbk⟩:=Ek hb HZ.1.1 HZ.1.2 g hv hp9 (HQ.1.symm.trans hr);have HE9:=S (X hpp hbk);have hkl9:=hz9.lt;have cz_:=hz9.c10;clear g hv hp9 hz9 hpp hbk hr;go_wp2;refine bZ ?hr9 rfl HE9.1.1
  case hr9=>exact A7 rfl _ HE9.1.2 rfl rfl
def zGaj:(zGak λb tv wo l day n block hn=>De b tv wo l hn day n block Gb)/\(zGak λb tv wo l day n block hn=>De b tv wo l hn day n block Gc)/\(zGak λb tv wo l day n block hn=>De b tv wo l hn day n block wIF)/\(zGak λb tv wo l day n block hn=>De b tv wo l hn day n block wDO)/\(zGak λb tv wo l day n block hn=>De b tv wo l hn day n block CQ)/\(zGak λb tv wo l day n block hn=>De b tv wo l hn day n block GC):=by
 refine⟨?a,?b,?c,?d,?e,?f⟩
 all_goals
  intro b tv wo l day n block hn hnn hB hE hok hl hgb;have HBk:=S hB;have HE:=S hE;have HTk:=S hok;have HSh:=S hl;clear hE hok hl hB;intro w i hg h hi ho;have HO:=S ho
 case' a=>
  generalize hR:(By hn wordsL day n block Gb).f i=R at*;replace hR:(D4 hn day n Gb).f (i+1)=R:=hR;have HQ:=S hR;have HGl:=S (X hg hgb);obtain⟨hb,hfew,c1,f1,HB0⟩:=Dz h hi;clear h ho hR hg;go_enter func301,ntmps301;go_upto_region 7 with fail;refine Ax (λW=>Blk W w.heap.size (stC 0 (.slice none 0 0)) 134/\w.grownBy W (some b)/\Par W b tv wo l wordsL (i+1)) HB0.out ?_;rintro W0 ⟨hz,gz,hp⟩;have HZ:=S (X hz gz);have hl0:=hz.lt;clear hz gz HB0 c1 f1;have HC:=S (Ir hn (by omega) HE.1 HSh.1 hp Gb (λe=>HO.1 (by rw[<-HQ.1,e])))
 case' b=>
  generalize hR:(By hn wordsL day n block Gc).f i=R at*;replace hR:(D4 hn day n Gc).f (i+1)=R:=hR;have HQ:=S hR;have HGl:=S (X hg hgb);obtain⟨hb,hfew,c1,f1,HB0⟩:=Dz h hi;clear h ho hR hg;go_enter func301,ntmps301;go_upto_region 7 with fail;refine Ax (λW=>Blk W w.heap.size (stC 0 (.slice none 0 0)) 134/\w.grownBy W (some b)/\Par W b tv wo l wordsL (i+1)) HB0.out ?_;rintro W0 ⟨hz,gz,hp⟩;have HZ:=S (X hz gz);have hl0:=hz.lt;clear hz gz HB0 c1 f1;have HC:=S (Ir hn (by omega) HE.1 HSh.1 hp Gc (λe=>HO.1 (by rw[<-HQ.1,e])))
 case' c=>
  generalize hR:(By hn wordsL day n block wIF).f i=R at*;replace hR:(Em hn wordsL day n block Jc Jr Jm).f (i+1)=R:=hR;have HQ:=S hR;have HGl:=S (X hg hgb);obtain⟨hb,hfew,c1,f1,HB0⟩:=Dz h hi;clear h ho hR hg;go_enter func301,ntmps301;go_upto_region 10 with fail;refine Ax (λW=>Blk W w.heap.size (stC 0 (.slice none 0 0)) 134/\w.grownBy W (some b)/\Par W b tv wo l wordsL (i+1)) HB0.out ?_;rintro W0 ⟨hz,gz,hp⟩;have HZ:=S (X hz gz);have hl0:=hz.lt;clear hz gz HB0 c1 f1;have HC:=S (LI (more:=Jc) (other:=Jr) (last:=Jm) hn (by omega) HBk.1 HE.1 HTk.1 (BU HGl.1.1 HGl.1.2 HZ.1.2) HGl.1.2 (by decide) (by decide) (by decide) hp (λe=>HO.1 (by rw[<-HQ.1,e])))
 case' d=>
  generalize hR:(By hn wordsL day n block wDO).f i=R at*;replace hR:(doP hn wordsL day n block).f (i+1)=R:=hR;have HQ:=S hR;have HGl:=S (X hg hgb);obtain⟨hb,hfew,c1,f1,HB0⟩:=Dz h hi;clear h ho hR hg;go_enter func301,ntmps301;go_upto_region 13 with fail;refine Ax (λW=>Blk W w.heap.size (stC 0 (.slice none 0 0)) 134/\w.grownBy W (some b)/\Par W b tv wo l wordsL (i+1)) HB0.out ?_;rintro W0 ⟨hz,gz,hp⟩;have HZ:=S (X hz gz);have hl0:=hz.lt;clear hz gz HB0 c1 f1;have HC:=S (YX hn (by omega) HBk.1 HE.1 HTk.1 HSh.1 (BU HGl.1.1 HGl.1.2 HZ.1.2) HGl.1.2 hp (λe=>HO.1 (by rw[<-HQ.1,e])))
 case' e=>
  generalize hR:(By hn wordsL day n block CQ).f i=R at*;replace hR:(EM hn wordsL day n block).f (i+1)=R:=hR;have HQ:=S hR;have HGl:=S (X hg hgb);obtain⟨hb,hfew,c1,f1,HB0⟩:=Dz h hi;clear h ho hR hg;go_enter func301,ntmps301;go_upto_region 16 with fail;refine Ax (λW=>Blk W w.heap.size (stC 0 (.slice none 0 0)) 134/\w.grownBy W (some b)/\Par W b tv wo l wordsL (i+1)) HB0.out ?_;rintro W0 ⟨hz,gz,hp⟩;have HZ:=S (X hz gz);have hl0:=hz.lt;clear hz gz HB0 c1 f1;have HC:=S (Vm hn HBk.1 HE.1 HTk.1 HSh.1 (BU HGl.1.1 HGl.1.2 HZ.1.2) HGl.1.2 hp (λe=>HO.1 (by rw[<-HQ.1,e])))
 case' f=>
  generalize hR:(By hn wordsL day n block GC).f i=R at*;replace hR:(EF hn wordsL block).f (i+1)=R:=hR;have HQ:=S hR;have HGl:=S (X hg hgb);obtain⟨hb,hfew,c1,f1,HB0⟩:=Dz h hi;clear h ho hR hg;go_enter func301,ntmps301;go_upto_region 30 with fail;refine Ax (λW=>Blk W w.heap.size (stC 0 (.slice none 0 0)) 134/\w.grownBy W (some b)/\Par W b tv wo l wordsL (i+1)) HB0.out ?_;rintro W0 ⟨hz,gz,hp⟩;have HZ:=S (X hz gz);have hl0:=hz.lt;clear hz gz HB0 c1 f1;have HC:=S (Sw hn HBk.1 HTk.1 HSh.1 (BU HGl.1.1 HGl.1.2 HZ.1.2) HGl.1.2 hp (λe=>HO.1 (by rw[<-HQ.1,e])))
 all_goals
  go_wp2_with fail;refine HC.1.mono ?_;intro e w4 hq;obtain⟨g,⟨q,hr,rfl⟩| ⟨s9,j9,v,hr,rfl,hv,hp9⟩⟩:=hq.split
  ·exact⟨rfl,Post.bad (Z HZ.1.2 g) (by rw[<-HQ.1,hr])⟩
  obtain⟨pa,xa,ba,na,fa,wa,pc,xc,bc,nc,fc,wc,rfl,hz9,hpp,hbk⟩:=Ek hb HZ.1.1 HZ.1.2 g hv hp9 (HQ.1.symm.trans hr);have HE9:=S (X hpp hbk);have hkl9:=hz9.lt;have cz_:=hz9.c10;clear g hv hp9 hz9 hpp hbk hr;go_wp2;refine bZ ?hr9 rfl HE9.1.1
  case hr9=>exact A7 rfl _ HE9.1.2 rfl rfl
def Vl{block:Rd l Bl}(hn:Aj l)(hnn:n<=90000)(hB:CQB b tv wo l block.f)(hE:CE 208 b tv wo l wordsL (Ai l day n))(hok:∀i,As (Ab l i))(hl:Ay l)(hgb:4<b):De b tv wo l hn day n block EU:=by
 have HBk:=S hB;have HE:=S hE;have HTk:=S hok;have HSh:=S hl;clear hE hok hl hB;intro w i hg h hi ho;have HO:=S ho;generalize hR:(By hn wordsL day n block EU).f i=R at*;replace hR:(Rd.fin.bind λ_=>Rd.pure (sd0 6 [],Bl.nil)).f (i+1)=R:=hR;have HQ:=S hR;have HGl:=S (X hg hgb);obtain⟨hb,hfew,c1,f1,HB0⟩:=Dz h hi;clear h ho hR hg;go_enter func301,ntmps301;go_upto_region 20 with fail;refine Ax (λW=>Blk W w.heap.size (stC 0 (.slice none 0 0)) 134/\w.grownBy W (some b)/\Par W b tv wo l wordsL (i+1)) HB0.out ?_;rintro W0 ⟨hz,gz,hp⟩;have HZ:=S (X hz gz);have hl0:=hz.lt;clear hz gz HB0 c1 f1;rw[Rd.fin_f]at HQ;go_wp2_with fail;refine(Ba hp).mono ?_;intro e w2 hq;obtain⟨g,⟨q,hr,rfl⟩| ⟨u,i2,v,hr,rfl,rfl,hp9⟩⟩:=hq.split
 ·exact PBd HZ.1.2 g HQ hr
 replace HZ:=S (X (HZ.1.1.gb g (by simp;omega)) (Z HZ.1.2 g));replace hp:=hp9;clear hp9;replace HQ:=HQo HQ hr;clear hr g;rw[Rd.pure_f]at HQ;have hz2:=HZ.1.1;have HE9:=S (X hz2 (X HZ.1.2 hp));have hkl2:=hz2.lt;have cz_:=hz2.c10;have hmm:=IP;have hup:=K6;have hfn:=J5;have hfc:=Jw;have hap1:∀x:List (Bs×Value),[]++x=x:=λ_=>rfl;have hap2:∀(a:Bs×Value)(l m:List (Bs×Value)),(a::l)++m=a::(l++m):=λ_ _ _=>rfl;have hlk:(Instr.lookup 68 (.map (some w2.heap.size)) (.string ⟨#[76,79,79,80]⟩) false).run Tryz.prog (w2.alloc (AL [([76,79,79,80],.int .i64 6),([69,88,73,84],.int .i64 7)]))= .ok (.int .i64 6) (w2.alloc (AL [(EU,.int .i64 6),(ET,.int .i64 7)])):=Kb (Eg _ _ _ rfl) EU;clear hz2 HZ hp;go_wp2;refine bZ ?hr9 rfl (My hb HE9.1.2.1 HE9.1.2.2 6 HQ.1.symm _)
 case hr9=>exact A7 rfl _ ((HE9.1.1.set10 (.int .i64 6) (str []) (str []) (.slice none 0 0) (.slice none 0 0) (.slice none 0 0) (.int .i64 0) (.slice none 0 0) (.slice none 0 0) (.slice none 0 0)).alloc _) rfl rfl
def Vk{block:Rd l Bl}(hn:Aj l)(hnn:n<=90000)(hB:CQB b tv wo l block.f)(hE:CE 208 b tv wo l wordsL (Ai l day n))(hok:∀i,As (Ab l i))(hl:Ay l)(hgb:4<b):De b tv wo l hn day n block ET:=by
 have HBk:=S hB;have HE:=S hE;have HTk:=S hok;have HSh:=S hl;clear hE hok hl hB;intro w i hg h hi ho;have HO:=S ho;generalize hR:(By hn wordsL day n block ET).f i=R at*;replace hR:(Rd.fin.bind λ_=>Rd.pure (sd0 7 [],Bl.nil)).f (i+1)=R:=hR;have HQ:=S hR;have HGl:=S (X hg hgb);obtain⟨hb,hfew,c1,f1,HB0⟩:=Dz h hi;clear h ho hR hg;go_enter func301,ntmps301;go_upto_region 20 with fail;refine Ax (λW=>Blk W w.heap.size (stC 0 (.slice none 0 0)) 134/\w.grownBy W (some b)/\Par W b tv wo l wordsL (i+1)) HB0.out ?_;rintro W0 ⟨hz,gz,hp⟩;have HZ:=S (X hz gz);have hl0:=hz.lt;clear hz gz HB0 c1 f1;rw[Rd.fin_f]at HQ;go_wp2_with fail;refine(Ba hp).mono ?_;intro e w2 hq;obtain⟨g,⟨q,hr,rfl⟩| ⟨u,i2,v,hr,rfl,rfl,hp9⟩⟩:=hq.split
 ·exact PBd HZ.1.2 g HQ hr
 replace HZ:=S (X (HZ.1.1.gb g (by simp;omega)) (Z HZ.1.2 g));replace hp:=hp9;clear hp9;replace HQ:=HQo HQ hr;clear hr g;rw[Rd.pure_f]at HQ;have hz2:=HZ.1.1;have HE9:=S (X hz2 (X HZ.1.2 hp));have hkl2:=hz2.lt;have cz_:=hz2.c10;have hmm:=IP;have hup:=K6;have hfn:=J5;have hfc:=Jw;have hap1:∀x:List (Bs×Value),[]++x=x:=λ_=>rfl;have hap2:∀(a:Bs×Value)(l m:List (Bs×Value)),(a::l)++m=a::(l++m):=λ_ _ _=>rfl;have hlk:(Instr.lookup 68 (.map (some w2.heap.size)) (.string ⟨#[69,88,73,84]⟩) false).run Tryz.prog (w2.alloc (AL [([76,79,79,80],.int .i64 6),([69,88,73,84],.int .i64 7)]))= .ok (.int .i64 7) (w2.alloc (AL [(EU,.int .i64 6),(ET,.int .i64 7)])):=Kb (Eg _ _ _ rfl) ET;clear hz2 HZ hp;go_wp2;refine bZ ?hr9 rfl (My hb HE9.1.2.1 HE9.1.2.2 7 HQ.1.symm _)
 case hr9=>exact A7 rfl _ ((HE9.1.1.set10 (.int .i64 7) (str []) (str []) (.slice none 0 0) (.slice none 0 0) (.slice none 0 0) (.int .i64 0) (.slice none 0 0) (.slice none 0 0) (.slice none 0 0)).alloc _) rfl rfl
def Rx{block:Rd l Bl}(hn:Aj l)(hnn:n<=90000)(hB:CQB b tv wo l block.f)(hE:CE 208 b tv wo l wordsL (Ai l day n))(hok:∀i,As (Ab l i))(hl:Ay l)(hgb:4<b):De b tv wo l hn day n block D3:=by
 have HBk:=S hB;have HE:=S hE;have HTk:=S hok;have HSh:=S hl;clear hE hok hl hB;intro w i hg h hi ho;have HO:=S ho;generalize hR:(By hn wordsL day n block D3).f i=R at*;replace hR:(D0 l (Ai l day n) (i+1)).bind (λf k=>(Rd.fin.bind λ_=>Rd.pure ({sd0 8 []with x:=f},Bl.nil)).f k)=R:=hR;have HQ:=S hR;have HGl:=S (X hg hgb);obtain⟨hb,hfew,c1,f1,HB0⟩:=Dz h hi;clear h ho hR hg;go_enter func301,ntmps301;go_upto_region 25 with fail;refine Ax (λW=>Blk W w.heap.size (stC 0 (.slice none 0 0)) 134/\w.grownBy W (some b)/\Par W b tv wo l wordsL (i+1)) HB0.out ?_;rintro W0 ⟨hz,gz,hp⟩;have HZ:=S (X hz gz);have hl0:=hz.lt;clear hz gz HB0 c1 f1;have HPP:=S hp;clear hp;cases hr6:D0 l (Ai l day n) (i+1)with
 |out=>exact absurd (HQu HQ hr6) HO.1
 | bad q6=>
   refine Iu (b := b) (R :=λc W => if c then False else Par W b tv wo l wordsL (i + 1)) (x := .nil) (k1 := D3) (v1 := 8) (k2 := DG) (v2 := 12) (op := 8) (k := 83) (fc := 327) (tp := 255) (wd := D3) (pos := "parse.go:232")
    ⟨?_,by have:=HPP.1.lt;exact this,by omega,by simp,rfl,rfl,by decide,.inl ⟨rfl,rfl⟩,λ_ _=>by kernel_rfl,λW gW hR=>?_⟩ (HPP.1.gbN (Ae (Aa _ _))) ?_
   ·intro c W W' o hR g ho;cases c with
    |true=>exact hR.elim
    |false=>exact Par.gb (show Par W b tv wo l wordsL (i+1)from hR) g ho
   ·refine(FH HE.1 (show Par W b tv wo l wordsL (i+1)from hR) (by rw[hr6];simp)).mono ?_;intro e w3 hq;rw[hr6]at hq;obtain⟨g3,rfl⟩:=hq;exact .inr ⟨_,rfl,λa ha=>⟨ha,Post.bad (Z (Z (Ae HZ.1.2) gW) g3) (HQb HQ hr6)⟩⟩
   ·intro W m s v g hR;exact hR.elim
 |ok f j=>
 rw[hr6,Res.bind_ok,Rd.fin_f]at HQ;refine Iu (b := b) (R :=λc W => Par W b tv wo l wordsL (if c then j else i + 1)) (x := f) (k1 := D3) (v1 := 8) (k2 := DG) (v2 := 12) (op := 8) (k := 83) (fc := 327) (tp := 255) (wd := D3) (pos := "parse.go:232")
  ⟨λ_ _ _ _ h g ho=>h.gb g ho,by have:=HPP.1.lt;exact this,by omega,by simp,rfl,rfl,by decide,.inl ⟨rfl,rfl⟩,λ_ _=>by kernel_rfl,λW gW hR=>?_⟩ (HPP.1.gbN (Ae (Aa _ _))) ?_
 ·refine(FH HE.1 (show Par W b tv wo l wordsL (i+1)from hR) (by rw[hr6];simp)).mono ?_;intro e w3 hq;rw[hr6]at hq;obtain⟨g3,v,rfl,⟨fa,fc,rfl,hF⟩,h3⟩:=hq;exact .inl ⟨_,rfl,g3,hF,h3⟩
 ·intro W m s v g hR hs1 hs2 hV hB;simp only[List.setIfInBounds_toArray,List.set_cons_succ,List.set_cons_zero];obtain⟨_,⟨va,vc,rfl,_⟩,_⟩:=id hV;have gW:W0.grownBy W (some b):=Z (Ae (Aa W0 _)) g;have hp:Par W b tv wo l wordsL j:=hR;have hK:KS b w s W {sd0 8 []with x:=f} .nil (.slice none 0 0) (.slice va f.len vc) (.slice none 0 0) (.slice none 0 0) (.slice none 0 0) (.slice none 0 0):=
   ⟨hB,Cells.nil _ _ _,hV.mono (λq hq _=>⟨by have:=hq.1;omega,hq.2⟩),RepV.nil _ _ _,RepL.nil _ _,RepL.nil _ _,RepL.nil _ _,Z HZ.1.2 gW,hb,by omega,HZ.1.1.gb gW (by simp;omega)⟩
  have HK:=S hK;clear hK hV hB g gW hR;go_wp2_with fail;refine(Ba hp).mono ?_;intro e w5 hq;obtain⟨g,⟨q,hr,rfl⟩| ⟨u,i5,v,hr,rfl,rfl,hp9⟩⟩:=hq.split
  ·exact PBd HK.1.gr g HQ hr
  replace HK:=S (HK.1.gb g);replace hp:=hp9;clear hp9;replace HQ:=HQo HQ hr;clear hr g;rw[Rd.pure_f]at HQ;obtain⟨pa9,xa9,ba9,na9,fa9,wa9,pc9,xc9,bc9,nc9,fc9,wc9,e91,e92,e93,e94,e95,e96⟩:=HK.1.shapes
  (first|cases e91|clear e91);(first|cases e92|clear e92);(first|cases e93|clear e93);(first|cases e94|clear e94);(first|cases e95|clear e95);(first|cases e96|clear e96);have hkb:=HK.1.blk;have hkz:=HK.1.zero;have hkl:=hkb.lt;have hkl2:=hkz.lt;have ck_:=hkb.c10;have cz_:=hkz.c10;clear hkb hkz;go_wp2;have hres9:=Cz HK.1 hp HQ.1.symm;have hblk9:=HK.1.out.2.2.1;refine bZ ?hr9 rfl hres9
  case hr9=>exact A7 rfl _ hblk9 rfl rfl
def Sz{block:Rd l Bl}(hn:Aj l)(hnn:n<=90000)(hB:CQB b tv wo l block.f)(hE:CE 208 b tv wo l wordsL (Ai l day n))(hok:∀i,As (Ab l i))(hl:Ay l)(hgb:4<b):De b tv wo l hn day n block DG:=by
 have HBk:=S hB;have HE:=S hE;have HTk:=S hok;have HSh:=S hl;clear hE hok hl hB;intro w i hg h hi ho;have HO:=S ho;generalize hR:(By hn wordsL day n block DG).f i=R at*;replace hR:(D0 l (Ai l day n) (i+1)).bind (λf k=>(Rd.fin.bind λ_=>Rd.pure ({sd0 12 []with x:=f},Bl.nil)).f k)=R:=hR;have HQ:=S hR;have HGl:=S (X hg hgb);obtain⟨hb,hfew,c1,f1,HB0⟩:=Dz h hi;clear h ho hR hg;go_enter func301,ntmps301;go_upto_region 25 with fail;refine Ax (λW=>Blk W w.heap.size (stC 0 (.slice none 0 0)) 134/\w.grownBy W (some b)/\Par W b tv wo l wordsL (i+1)) HB0.out ?_;rintro W0 ⟨hz,gz,hp⟩;have HZ:=S (X hz gz);have hl0:=hz.lt;clear hz gz HB0 c1 f1;have HPP:=S hp;clear hp;cases hr6:D0 l (Ai l day n) (i+1)with
 |out=>exact absurd (HQu HQ hr6) HO.1
 | bad q6=>
   refine Iu (b := b) (R :=λc W => if c then False else Par W b tv wo l wordsL (i + 1)) (x := .nil) (k1 := D3) (v1 := 8) (k2 := DG) (v2 := 12) (op := 12) (k := 83) (fc := 327) (tp := 255) (wd := DG) (pos := "parse.go:232")
    ⟨?_,by have:=HPP.1.lt;exact this,by omega,by simp,rfl,rfl,by decide,.inr ⟨rfl,rfl⟩,λ_ _=>by kernel_rfl,λW gW hR=>?_⟩ (HPP.1.gbN (Ae (Aa _ _))) ?_
   ·intro c W W' o hR g ho;cases c with
    |true=>exact hR.elim
    |false=>exact Par.gb (show Par W b tv wo l wordsL (i+1)from hR) g ho
   ·refine(FH HE.1 (show Par W b tv wo l wordsL (i+1)from hR) (by rw[hr6];simp)).mono ?_;intro e w3 hq;rw[hr6]at hq;obtain⟨g3,rfl⟩:=hq;exact .inr ⟨_,rfl,λa ha=>⟨ha,Post.bad (Z (Z (Ae HZ.1.2) gW) g3) (HQb HQ hr6)⟩⟩
   ·intro W m s v g hR;exact hR.elim
 |ok f j=>
 rw[hr6,Res.bind_ok,Rd.fin_f]at HQ;refine Iu (b := b) (R :=λc W => Par W b tv wo l wordsL (if c then j else i + 1)) (x := f) (k1 := D3) (v1 := 8) (k2 := DG) (v2 := 12) (op := 12) (k := 83) (fc := 327) (tp := 255) (wd := DG) (pos := "parse.go:232")
  ⟨λ_ _ _ _ h g ho=>h.gb g ho,by have:=HPP.1.lt;exact this,by omega,by simp,rfl,rfl,by decide,.inr ⟨rfl,rfl⟩,λ_ _=>by kernel_rfl,λW gW hR=>?_⟩ (HPP.1.gbN (Ae (Aa _ _))) ?_
 ·refine(FH HE.1 (show Par W b tv wo l wordsL (i+1)from hR) (by rw[hr6];simp)).mono ?_;intro e w3 hq;rw[hr6]at hq;obtain⟨g3,v,rfl,⟨fa,fc,rfl,hF⟩,h3⟩:=hq;exact .inl ⟨_,rfl,g3,hF,h3⟩
 ·intro W m s v g hR hs1 hs2 hV hB;simp only[List.setIfInBounds_toArray,List.set_cons_succ,List.set_cons_zero];obtain⟨_,⟨va,vc,rfl,_⟩,_⟩:=id hV;have gW:W0.grownBy W (some b):=Z (Ae (Aa W0 _)) g;have hp:Par W b tv wo l wordsL j:=hR;have hK:KS b w s W {sd0 12 []with x:=f} .nil (.slice none 0 0) (.slice va f.len vc) (.slice none 0 0) (.slice none 0 0) (.slice none 0 0) (.slice none 0 0):=
   ⟨hB,Cells.nil _ _ _,hV.mono (λq hq _=>⟨by have:=hq.1;omega,hq.2⟩),RepV.nil _ _ _,RepL.nil _ _,RepL.nil _ _,RepL.nil _ _,Z HZ.1.2 gW,hb,by omega,HZ.1.1.gb gW (by simp;omega)⟩
  have HK:=S hK;clear hK hV hB g gW hR;go_wp2_with fail;refine(Ba hp).mono ?_;intro e w5 hq;obtain⟨g,⟨q,hr,rfl⟩| ⟨u,i5,v,hr,rfl,rfl,hp9⟩⟩:=hq.split
  ·exact PBd HK.1.gr g HQ hr
  replace HK:=S (HK.1.gb g);replace hp:=hp9;clear hp9;replace HQ:=HQo HQ hr;clear hr g;rw[Rd.pure_f]at HQ;obtain⟨pa9,xa9,ba9,na9,fa9,wa9,pc9,xc9,bc9,nc9,fc9,wc9,e91,e92,e93,e94,e95,e96⟩:=HK.1.shapes
  (first|cases e91|clear e91);(first|cases e92|clear e92);(first|cases e93|clear e93);(first|cases e94|clear e94);(first|cases e95|clear e95);(first|cases e96|clear e96);have hkb:=HK.1.blk;have hkz:=HK.1.zero;have hkl:=hkb.lt;have hkl2:=hkz.lt;have ck_:=hkb.c10;have cz_:=hkz.c10;clear hkb hkz;go_wp2;have hres9:=Cz HK.1 hp HQ.1.symm;have hblk9:=HK.1.out.2.2.1;refine bZ ?hr9 rfl hres9
  case hr9=>exact A7 rfl _ hblk9 rfl rfl
def Nn(hw:saidWords.contains wd=false)(h:Par w b tv wo l wordsL i){C:Res Sd}
 (hC:∀W,Par W b tv wo l wordsL i->Calls Tryz.prog 329 #[.pointer (some ⟨b,0,none⟩),str wd] W (Post b tv wo l wordsL W (VSd W) C)):
 Calls Tryz.prog 301 #[.pointer (some ⟨b,0,none⟩),str wd] w (Post b tv wo l wordsL w (VSt w) (C.bind λs j=>(B4 l j).bind λ_ k=> .ok (s,.nil) k)):=by
 have hn:∀v,v∈saidWords->(wd==v)=false:=by
  intro v hv;have:wd≠v:=by
   rintro rfl;rw[List.contains_eq_mem]at hw;simp[hv]at hw
  simpa using this
 have hw0:=hn Gj (by decide);have hw1:=hn FU (by decide);have hw2:=hn Gb (by decide);have hw3:=hn Gc (by decide);have hw4:=hn wIF (by decide);have hw5:=hn wDO (by decide);have hw6:=hn CQ (by decide);have hw7:=hn EU (by decide);have hw8:=hn ET (by decide);have hw9:=hn D3 (by decide);have hw10:=hn DG (by decide);have hw11:=hn GC (by decide);clear hn hw;have hb:=h.lt;generalize hR:(C.bind λs j=>(B4 l j).bind λ_ k=>Res.ok (s,Bl.nil) k)=R;have HQ:=S hR;have HZ:=S (X (Blk.new w (stC 0 (.slice none 0 0)) 134) (show w.grownBy (w.alloc (.cells (stC 0 (.slice none 0 0)).toArray 134 (0,0))) (some b)from Ac (Aa _ _) _));have hl0:=HZ.1.1.lt;have HC:=S (hC _ (h.alloc (.cells (stC 0 (.slice none 0 0)).toArray 134 (0,0))));clear hC h hR;go_enter func301,ntmps301;go_wp2_with fail;refine HC.1.mono ?_;intro e w2 hq;obtain⟨g,⟨q,hr,rfl⟩| ⟨s,j,v,hr,rfl,⟨pa,xa,na,fa,wa,ba,pc,xc,nc,fc,wc,bc,rfl,k1,k2⟩,hp⟩⟩:=hq.split
 ·exact PBd HZ.1.2 g HQ hr
 replace HQ:=HQo HQ hr;clear hr;have HK:=S (KS.ofV (HZ.1.1.gb g (by simp;omega)) (Z HZ.1.2 g) hb hl0 k1 k2);have hp2:=hp.alloc (.cells (sdC s (.slice pa s.p.length pc) (.slice xa s.x.len xc) (.slice ba (Bl.nil).len bc) (.slice na s.n.len nc) (.slice fa s.f.len fc) (.slice wa s.w.len wc)).toArray 134 (0,0));replace hp:=hp2;clear g k1 k2 hp2 HC HZ;simp only[sdC];go_wp2_with fail;refine(Ba hp).mono ?_;intro e w3 hq;obtain⟨g,⟨q,hr,rfl⟩| ⟨u,i3,v,hr,rfl,rfl,hp9⟩⟩:=hq.split
 ·exact PBd HK.1.gr g HQ hr
 replace HK:=S (HK.1.gb g);replace hp:=hp9;clear hp9;replace HQ:=HQo HQ hr;clear hr g;obtain⟨pa9,xa9,ba9,na9,fa9,wa9,pc9,xc9,bc9,nc9,fc9,wc9,e91,e92,e93,e94,e95,e96⟩:=HK.1.shapes
 (first|cases e91|clear e91);(first|cases e92|clear e92);(first|cases e93|clear e93);(first|cases e94|clear e94);(first|cases e95|clear e95);(first|cases e96|clear e96);have hkb:=HK.1.blk;have hkz:=HK.1.zero;have hkl:=hkb.lt;have hkl2:=hkz.lt;have ck_:=hkb.c10;have cz_:=hkz.c10;clear hkb hkz;go_wp2;have hres9:=Cz HK.1 hp HQ.1.symm;have hblk9:=HK.1.out.2.2.1;refine bZ ?hr9 rfl hres9
 case hr9=>exact A7 rfl _ hblk9 rfl rfl
def S1{block:Rd l Bl}(hn:Aj l)(hnn:n<=90000)(hE:CE 208 b tv wo l wordsL (Ai l day n))(hok:∀i,As (Ab l i))(hl:Ay l)(hw:saidWords.contains wd=false):De b tv wo l hn day n block wd:=by
 intro w i _ h hi ho;have hne:∀v,v∈saidWords->wd≠v:=by
  rintro v hv rfl;rw[List.contains_eq_mem]at hw;simp[hv]at hw
 have e:(By hn wordsL day n block wd).f i=(if cmdWords.contains wd then(B8 hn wordsL day n wd).f (i+1)else .bad i).bind λs j=>(B4 l j).bind λ_ k=> .ok (s,.nil) k:=by
  unfold By;rw[if_neg (by rintro(h|h|h|h)<;>exact hne _ (by decide) h),if_neg (hne wIF (by decide)),if_neg (hne wDO (by decide)),if_neg (hne CQ (by decide)),if_neg (hne EU (by decide)),if_neg (hne ET (by decide)),if_neg (hne D3 (by decide)),if_neg (hne DG (by decide)),if_neg (hne GC (by decide))];cases hc:cmdWords.contains wd with
  |true=>rw[if_pos rfl,if_pos rfl];rfl
  |false=>rw[if_neg (by simp),if_neg (by simp)];rfl
 rw[e]at ho ⊢;cases hc:cmdWords.contains wd with
 | true=>
   rw[hc,if_pos rfl]at ho;rw[if_pos rfl];exact Nn hw h (λW hW=>Qp hn (by omega) hE hok hl hc W i hW hi (λe=>ho (by rw[e];rfl)))
 | false=>
   rw[if_neg (by simp)];refine Nn hw h (λW hW=>(X4 wd hc hW hi).mono ?_);rintro e w' ⟨rfl,g⟩;exact Post.bad g rfl
def S2{block:Rd l Bl}(hn:Aj l)(hnn:n<=90000)(hB:CQB b tv wo l block.f)(hE:CE 208 b tv wo l wordsL (Ai l day n))(hok:∀i,As (Ab l i))(hl:Ay l)(hgb:4<b)(wd:Bs):De b tv wo l hn day n block wd:=by
 cases hw:saidWords.contains wd with
 |false=>exact S1 hn hnn hE hok hl hw
 | true=>
   have hm:wd∈saidWords:=by simpa using hw
   simp only[saidWords,List.mem_cons,List.not_mem_nil,or_false]at hm;rcases hm with rfl|rfl|rfl|rfl|rfl|rfl|rfl|rfl|rfl|rfl|rfl|rfl
   ·exact zGal.1 hn hnn hB hE hok hl hgb
   ·exact zGal.2 hn hnn hB hE hok hl hgb
   ·exact zGaj.1 hn hnn hB hE hok hl hgb
   ·exact zGaj.2.1 hn hnn hB hE hok hl hgb
   ·exact zGaj.2.2.1 hn hnn hB hE hok hl hgb
   ·exact zGaj.2.2.2.1 hn hnn hB hE hok hl hgb
   ·exact zGaj.2.2.2.2.1 hn hnn hB hE hok hl hgb
   ·exact Vl hn hnn hB hE hok hl hgb
   ·exact Vk hn hnn hB hE hok hl hgb
   ·exact Rx hn hnn hB hE hok hl hgb
   ·exact Sz hn hnn hB hE hok hl hgb
   ·exact zGaj.2.2.2.2.2 hn hnn hB hE hok hl hgb
end Go.Proofs.YtbjfaimkiclhgaaGreatDoor
