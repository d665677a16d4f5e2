/-
  The reference's reader: unary. The reference's reader: variable, macro, named. The reference's reader: named, braces.
-/
import Derived.Test.YtmcajbhljbbglaaGreatDoorSpF
import Derived.Test.YtmcajbhljbbglaaGreatDoorSp22
set_option linter.all false
set_option maxRecDepth 100000
set_option maxHeartbeats 8000000
namespace Go.Proofs.YtmcajbhljbbglaaGreatDoor
open Tryz
open Go.RowKit
section
variable {b:Nat}{tv:Value}{l:List Tok}
theorem sT{E pr:FR Ex}(hE:CR 28 b tv l E)(hP:CR 277 b tv l pr)(N:Nat):∀n,CR 247 b tv l (Hu l E pr N n):=by
 have Ru{P}(h:P:=by
 rw[Hu]at ho;have DA{P}(h:P:=by
 have HT:=Z (B9 h0 [45]);cases hs:A2 l [45] st with
 | true=>
   rw[hs]at HT ho;have hq:(Hu l E pr N n (Aq l [45] st)).bind (fun r=>some (unE [45] r.1,r.2))=some r:=ho;obtain⟨⟨x,st1⟩,hx,hq⟩:=Option.bind_eq_some_iff.1 hq;simp only at hq;cases hq;have H:=Z (Ac ih (Ac hx (Ac hz gz)));clear ho hs hE hP ih hx hz gz h0;go_enter func247,ntmps247;go_wp2_with fail;refine HT.out.mono ?_;rintro e w0 ⟨gs,v,rfl,rfl,h0⟩;have hB:=H.out.2.2.1.gb gs Ag;have g0:=Ah H.out.2.2.2 gs;have hw0:w.heap.size<w0.heap.size:=hB.lt;have HX:=Z (H.out.1 _ _ _ h0 H.out.2.1);clear gs HT h0;have fQ{P}(h:P:=by have Fy{P}(h:P:=by obtain⟨rp,rl,h1,gg⟩:=H2.out;have eR{P}(h:P:=by exact bodyPost_ret (AX (hd:=hd0 4 [45]) (pv:= .slice none 0 0) (lv:= .slice (some ⟨w1.heap.size,0,none⟩) 1 1) rfl _ (Blk.alloc hW (Obj.cells #[Value.int IntKind.i64 x.h.op,str x.h.s,Value.int IntKind.i64 x.h.vk,Value.int IntKind.i64 x.h.vn,str x.h.vs,Value.slice pa x.h.p.length pc,Value.slice la x.kids.len lc] 29)) rfl) rfl (KN (op:=4) (s:=[45]) hb gg rp rl (by intro q hq;have:(w0).heap.size≤q:=hq;omega) h1 g7 hsz)):=Aa h;exact Yu):=Aa h;exact Fr):=Aa h;exact YY
 | false=>
   rw[hs]at HT ho;have hq:(pr (Aq l [45] st)).bind (fun r=>Gt l E N r.1 r.2)=some r:=ho;obtain⟨⟨x,st1⟩,hx,hq⟩:=Option.bind_eq_some_iff.1 hq;simp only at hq;have H:=Z (Ac hE (Ac hP (Ac hx (Ac hz (Ac gz hq)))));clear ho hs hE hP ih hx hz gz h0 hq;go_enter func247,ntmps247;go_wp2_with fail;refine HT.out.mono ?_;rintro e w0 ⟨gs,v,rfl,rfl,h0⟩;have hB:=H.out.2.2.2.1.gb gs Ag;have g0:=Ah H.out.2.2.2.2.1 gs;have hw0:w.heap.size<w0.heap.size:=hB.lt;have HX:=Z (H.out.2.1 _ _ _ h0 H.out.2.2.1);have HB:=Z (Ac hB g0);clear gs HT h0 hB g0;have Ix{P}(h:P:=by
   have HK:=Z (KpR.new hb HB.out.1 HB.out.2 hw0 g1 rp rl h1);have hb1:=h1.lt;clear rp rl h1 HX g1 HB;go_wp2_with fail;go_loopg [] N (fun m wr=>∃x pa pc la lc st,KpR b tv l w w1.heap.size wr x pa pc la lc st∧Gt l E m x st=some r)
   case atStart=>exact⟨x,pa,pc,la,lc,_,HK.out,H.out.2.2.2.2.2⟩
   case round=>
    have Rv{P}(h:P:=by
    rw[Gt]at hloop;have HT:=Z (B9 hk.rr [91]);have HK:=Z hk;cases hs:A2 l [91] st2 with
    | false=>
      rw[hs]at HT hloop;have hq:some (x,Aq l [91] st2)=some r:=hloop;clear hloop hs hk;have Dk{P}(h:P:=by have HK2:=Z (HK.out.gb hb g2 h2);clear g2 h2 HK;cases hq;exact Rh):=Aa h;exact Dh
    | true=>
      rw[hs]at HT hloop;have hq:(E (Aq l [91] st2)).bind (fun r=>Gt l E m (DN x r.1) (AZ l [93] r.2))=some r:=hloop;have LE{P}(h:P:=by
      clear hloop hs hk hq hy;have Dk{P}(h:P:=by
      have hbw2:=h2.lt;have HK2:=Z (HK.out.gb hb g2 h2);have hL2:=HK2.out.blk.lt;have HX:=Z (H.out.1 _ _ _ h2 HY.out);clear g2 h2 HK HT;go_wp2_with fail;refine HX.out.mono ?_;rintro e w4 ⟨g4,v,rfl,⟨za,zc,na,nc,rfl,zp,zl⟩,h4⟩;simp only at zp zl h4 ⊢;have hs4:=g4.size;have hwL:=HK2.out.wL;have gI:=World.grownBy_alloc w4 (.cells (hdC z.h (.slice za z.h.p.length zc) (.slice na z.kids.len nc)).toArray 29 (0,0)) none;have hin:∀g,Ap w2.heap.size g→but w w1.heap.size g:=fun g hg=>by have hg:w2.heap.size≤g:=hg;exact⟨by omega,by omega⟩
      have hkI:=(HK2.out.gb hb g4 h4).gbN hb gI;have HI:=Z (Ac (Blk.new w4 (hdC z.h (.slice za z.h.p.length zc) (.slice na z.kids.len nc)) 29) (Ac ((zp.gb gI Ae).mono fun g hg _=>hin g hg) ((zl.gb gI Ae).mono fun g hg _=>hin g hg)));have HKI:=Z hkI;have hb4:=h4.lt;clear hkI gI zp zl h4 g4 HX hin;go_wp2_with fail;refine(E8 HKI.out.rr [93]).mono ?_;rintro e w6 ⟨g6,v,rfl,rfl,h6⟩;have hk6:=HKI.out.gb hb g6 h6;have hI6:=HI.out.1.gb g6 Ag;have hL6:=hk6.blk;have hok6:∀q,but w w1.heap.size q→q<(w4.alloc (.cells (hdC z.h (.slice za z.h.p.length zc) (.slice na z.kids.len nc)).toArray 29 (0,0))).heap.size→some q≠some b:=fun q hq _ e=>by cases e;have:=hq.1;omega
      have hK7:=hk6.two hb 6 [] (HI.out.2.1.gb g6 hok6) (HI.out.2.2.gb g6 hok6);have HK7:=Z hK7;have hlt6:=hL6.lt;have hlt7:=hI6.lt;have hne6:w1.heap.size≠w4.heap.size:=Ab;clear hk6 hK7 h6 g6;obtain⟨cl_0,cl_1,cl_2,cl_3,cl_4,cl_5,cl_6,cl_f⟩:=(hL6).c7;obtain⟨ci_0,ci_1,ci_2,ci_3,ci_4,ci_5,ci_6,ci_f⟩:=(hI6).c7;go_wp2_with fail;go_roundg m
      case measure=>omega
      case rel=>exact⟨DN x z,none,0,_,2,_,HK7.out,HQ.out⟩):=Aa h;exact Dh):=Aa h;exact Lv):=Aa h
    exact Ox):=Aa h
   exact Io):=Aa h
 exact D5):=Aa h;exact Ov
end
theorem AbF(s:Bs)(w:World):Calls Tryz.prog 101 #[.slice none 0 0,str s] w fun e w'=>e= .returned (.bool false)∧w=w':=by
 go_enter func101,ntmps101;go_wp2_with fail;go_loopg [5] 0 (fun g v5 wr=>v5= .int .i64 0∧w=wr)
 case atStart=>exact⟨rfl,rfl⟩
 case round=>
  obtain⟨rfl,rfl⟩:=hrel;exact I5
section
variable {b:Nat}{tv:Value}{l:List Tok}
theorem U6{w:World}{st:RS}(h:Rr w b tv l st):
 Calls Tryz.prog 303 #[.pointer (some ⟨b,0,none⟩)] w (AM b tv l w VStr (Ax l st)):=by
 have c3:=h.c3;have hb:=h.lt;have HH:=Z h;clear h;go_enter func303,ntmps303;go_wp2_with fail;go_region_with(first| (go_at_call 63;refine(ED (HH.out.gbN (An (Aj _ _)))).mono ?_;rintro e w1 ⟨rfl,g1⟩;have h1:=HH.out.gbN (Ah (An (Aj _ _)) g1);have d3:=h1.c3;clear h1)| (go_at_call 101;refine(AbF _ _).mono ?_;rintro e w2 ⟨rfl,rfl⟩));all_goals
  have h1:=HH.out.gbN (Ah (An (Aj _ _)) g1);go_wp2_with fail;refine(BY h1).mono ?_;rintro e w2 ⟨g2,v,rfl,rfl,h2⟩;have HE:=Z (Ac g2 h2);clear g2 h2;go_wp2;go_ret;exact⟨Ah (AY (Ah (An (Aj _ _)) g1)) HE.out.1,_,rfl,rfl,HE.out.2⟩
theorem Vu{E:FR Ex}(hE:CR 28 b tv l E):CR 139 b tv l (J1 l E):=by
 intro w st r h ho;have hb:=h.lt;have DA{P}(h:P:=by
 unfold J1 at ho;have H:=Z (Ac hE (Ac hz gz));have HW:=Z (E8 h0 [38]);clear hE hz gz h0;go_enter func139,ntmps139;go_wp2_with fail;refine HW.out.mono ?_;rintro e w1 ⟨g1,v,rfl,rfl,h1⟩;have HT:=Z (B9 h1 [40]);have hZ:=H.out.2.1.gb g1 Ag;have hG:=Z (Ah H.out.2.2 g1);have hb1:=h1.lt;simp only at h1 HT;clear g1 HW;cases hs:A2 l [40] (AZ l [38] st)with
 | true=>
   rw[hs]at HT ho;have hq:(E (Aq l [40] (AZ l [38] st))).bind (fun r=>some (⟨hd0 9 [],.one r.1⟩,AZ l [41] r.2))=some r:=ho;obtain⟨⟨x,st1⟩,hx,hq⟩:=Option.bind_eq_some_iff.1 hq;simp only at hq;cases hq;have HX:=Z hx;clear ho hs hx h1;have Dk{P}(h:P:=by
   have hB:=hZ.gb g2 Ag;have g0:=Ah hG.out g2;have hw0:w.heap.size<w2.heap.size:=hB.lt;have HB:=Z (Ac hB g0);have HC:=Z (H.out.1 _ _ _ h2 HX.out);clear hB g0 g2 h2 hZ HT;go_wp2_with fail;refine HC.out.mono ?_;rintro e w3 ⟨g3,v,rfl,⟨pa,pc,la,lc,rfl,rp,rl⟩,h3⟩;simp only at rp rl h3 ⊢;have HK:=Z (KpR.new hb HB.out.1 HB.out.2 hw0 g3 rp rl h3);have hb3:=h3.lt;clear rp rl h3 HC g3 HB;go_wp2_with fail;refine(E8 HK.out.rr [41]).mono ?_;rintro e w4 ⟨g4,v,rfl,rfl,h4⟩;have HK2:=Z (HK.out.gb hb g4 h4);clear g4 h4 HK;have Iw{P}(h:P:=by
   have hLb:=hL.lt;have hltz:=hZ.lt;clear hk2;have Fv{P}(h:P:=by go_wp2;have hk:=HK2.out;have g7:=AD w4 w.heap.size (.int .i64 9) (str []) (.int .i64 0) (.int .i64 0) (str []) (.slice none 0 0) (.slice (some ⟨w4.heap.size,0,none⟩) 1 1);have hW:=hZ.set7 (.int .i64 9) (str []) (.int .i64 0) (.int .i64 0) (str []) (.slice none 0 0) (.slice (some ⟨w4.heap.size,0,none⟩) 1 1);have hsz:(set7 w4 w.heap.size (.int .i64 9) (str []) (.int .i64 0) (.int .i64 0) (str []) (.slice none 0 0) (.slice (some ⟨w4.heap.size,0,none⟩) 1 1)).heap.size=w4.heap.size:=Ii;simp only[set7]at hW g7 hsz;generalize(((((((w4.setCell {block:=w.heap.size,off:=0} (.int .i64 9)).setCell {block:=w.heap.size,off:=1} (str [])).setCell {block:=w.heap.size,off:=2} (.int .i64 0)).setCell {block:=w.heap.size,off:=3} (.int .i64 0)).setCell {block:=w.heap.size,off:=4} (str [])).setCell {block:=w.heap.size,off:=5} (.slice none 0 0)).setCell {block:=w.heap.size,off:=6} (.slice (some ⟨w4.heap.size,0,none⟩) 1 1))=W' at*;exact bodyPost_ret (AX (hd:=hd0 9 []) (pv:= .slice none 0 0) (lv:= .slice (some ⟨w4.heap.size,0,none⟩) 1 1) rfl _ (Blk.alloc hW (Obj.cells #[Value.int IntKind.i64 x.h.op,str x.h.s,Value.int IntKind.i64 x.h.vk,Value.int IntKind.i64 x.h.vn,str x.h.vs,Value.slice pa x.h.p.length pc,Value.slice la x.kids.len lc] 29)) rfl) rfl (KN (op:=9) (s:=[]) hb hk.gr hk.rp hk.rl FT hk.rr g7 hsz)):=Aa h;exact Fm):=Aa h;exact In):=Aa h;exact Dh
 | false=>
   rw[hs]at HT ho;have hq:some ((⟨hd0 9 (Ax l (Aq l [40] (AZ l [38] st))).1,.nil⟩:Ex),Aq l [46] (Ax l (Aq l [40] (AZ l [38] st))).2)=some r:=ho;cases hq;clear ho hs h1;have Dk{P}(h:P:=by have hB:=hZ.gb g2 Ag;have g0:=Ah hG.out g2;have hb2:=h2.lt;have HN:=Z (BY h2);have hw2:w.heap.size<w2.heap.size:=hB.lt;have HB:=Z (Ac hB g0);simp only at HN;clear hB g0 g2 h2 hZ HT;generalize(Aq l [40] (AZ l [38] st))=st1 at*;go_wp2_with fail;refine HN.out.mono ?_;rintro e w3 ⟨g3,v,rfl,rfl,h3⟩;simp only at h3 ⊢;generalize(Ax l st1).1=s at*;have hb3:=h3.lt;have HK:=Z (KpR.new (x:=⟨hd0 9 s,.nil⟩) (pa:=none) (pc:=0) (la:=none) (lc:=0) hb HB.out.1 HB.out.2 hw2 g3 (Cells.nil _ _ _) (RepL.nil _ _) h3);clear h3 HN g3 HB;go_wp2_with fail;refine(B9 HK.out.rr [46]).mono ?_;rintro e w4 ⟨g4,v,rfl,rfl,h4⟩;have HK2:=Z (HK.out.gb hb g4 h4);clear g4 h4 HK;have Iw{P}(h:P:=by clear hk2;have Fv{P}(h:P:=by go_wp2;have hk:=HK2.out;have g7:=AD w4 w.heap.size (.int .i64 9) (str s) (.int .i64 0) (.int .i64 0) (str []) (.slice none 0 0) (.slice none 0 0);exact bodyPost_ret (AX (hd:=hd0 9 s) (pv:= .slice none 0 0) (lv:= .slice none 0 0) rfl _ (hZ.set7 _ _ _ _ _ _ _) rfl) rfl (CK hb hk.gr hk.ve FT hk.rr g7)):=Aa h;exact Fm):=Aa h;exact In):=Aa h;exact Dh):=Aa h
 exact D5
end
section
variable {b:Nat}{tv:Value}{l:List Tok}
theorem rF{E:FR Ex}(hE:CR 28 b tv l E)(n:Nat)(hn:n≤100000):CR 293 b tv l (IN l E n):=by
 intro w st r h ho;have hb:=h.lt;have DA{P}(h:P:=by
 unfold IN at ho;have HS:=Z (Jj h0 1 Ab [40]);have H:=Z (Ac hE (Ac hz (Ac gz h0)));clear hE hz gz h0;cases hs:Ak (Af l (st.1+1)) [40]with
 | true=>
   rw[hs]at HS ho;have hq:(GJ l E n [41] (AZ l [40] (Ax l st).2)).bind (fun r=>some (⟨hd0 3 (Ax l st).1,r.1⟩,r.2))=some r:=ho;obtain⟨⟨f,st1⟩,hf,hq⟩:=Option.bind_eq_some_iff.1 hq;simp only at hq;cases hq;have HF:=Z hf;clear ho hs hf;go_enter func293,ntmps293;have Iy{P}(h:P:=by have h1:=H.out.2.2.2.gbN g1;have hZ1:=H.out.2.1.gb g1 Ae;have G1:=Z (A0 H.out.2.2.1 g1);have HN:=Z (BY h1);have cY{P}(h:P:=by simp only at h2 ⊢;generalize(Ax l st).1=s at*;generalize(Ax l st).2=st2 at*;clear HN g2 hZ1;go_wp2_with fail;refine(E8 h2 [40]).mono ?_;rintro e w3 ⟨g3,v,rfl,rfl,h3⟩;have hZ3:=hZ2.gb g3 Ag;have G3:=Z (Ah G2.out g3);have hlt3:=hZ3.lt;have HC:=Z (UP H.out.1 h3 n hn [41] HF.out);clear h2 g3 hZ2 h3;go_wp2_with fail;refine HC.out.mono ?_;rintro e w4 ⟨g4,v,rfl,⟨la,lc,rfl,rl⟩,h4⟩;simp only at rl h4 ⊢;have hZ4:=hZ3.gb g4 Ag;have HE:=Z (Ac (Ah G3.out g4) (Ac rl h4));clear g4 rl h4 hZ3 HC;obtain⟨cz_0,cz_1,cz_2,cz_3,cz_4,cz_5,cz_6,cz_f⟩:=(hZ4).c7;go_wp2;have g7:=AD w4 w.heap.size (.int .i64 3) (str s) (.int .i64 0) (.int .i64 0) (str []) (.slice none 0 0) (.slice la f.len lc);exact bodyPost_ret (AX (hd:=hd0 3 s) (pv:= .slice none 0 0) (lv:= .slice la f.len lc) rfl _ (hZ4.set7 _ _ _ _ _ _ _) rfl) rfl (CK (x:=⟨hd0 3 s,f⟩) hb HE.out.1 (VE.node HE.out.2.1) (by intro k hk;have:w3.heap.size≤k:=hk;omega) HE.out.2.2 g7)):=Aa h;exact Tn):=Aa h;exact Ip
 | false=>
   rw[hs]at HS ho;have HO:=Z ho;clear ho hs;go_enter func293,ntmps293;have Iy{P}(h:P:=by
   have h1:=H.out.2.2.2.gbN g1;have hZ1:=H.out.2.1.gb g1 Ae;have G1:=Z (A0 H.out.2.2.1 g1);have HN:=Z (U6 h1);have cY{P}(h:P:=by
   have ho:=HO.out;simp only[Bool.false_eq_true,if_false]at ho;simp only at h2 ⊢;generalize(Ax l st).1=s at*;generalize(Ax l st).2=st2 at*;have HT:=Z (B9 h2 [45,62]);clear HN g2 hZ1 HO h2;cases hs2:A2 l [45,62] st2 with
   | false=>
     rw[hs2]at HT ho;have hq:some (AC s,Aq l [45,62] st2)=some r:=ho;cases hq;clear ho hs2;go_wp2_with fail;refine HT.out.mono ?_;rintro e w3 ⟨g3,v,rfl,rfl,h3⟩;have hZ:=hZ2.gb g3 Ag;have HR:=Z (Ac (Ah G2.out g3) h3);clear hZ2 g3 h3 HT;have Fy{P}(h:P:=by exact bodyPost_ret (AX (hd:=(AC s:Ex).h) (pv:= .slice none 0 0) (lv:= .slice none 0 0) rfl _ (hZ.set7 _ _ _ _ _ _ _) rfl) rfl (CK (ok:=fun k=>w.heap.size<k) (x:=AC s) hb HR.out.1 ⟨none,0,none,0,rfl,Cells.nil _ _ _,RepL.nil _ _⟩ (fun k hk=>hk) HR.out.2 (AD _ _ _ _ _ _ _ _ _))):=Aa h;exact Fr
   | true=>
     rw[hs2]at HT ho;have HO:=Z ho;clear ho hs2;go_wp2_with fail;refine HT.out.mono ?_;rintro e w3 ⟨g3,v,rfl,rfl,h3⟩;have hZ3:=hZ2.gb g3 Ag;have G3:=Z (Ah G2.out g3);have ho:=HO.out;simp only[if_true]at ho;simp only at h3 ⊢;generalize Aq l [45,62] st2=st3 at*;have HT:=Z (B9 h3 [40]);clear g3 hZ2 HO h3;cases hs3:A2 l [40] st3 with
     | true=>
       rw[hs3]at HT ho;have hq:(E (Aq l [40] st3)).bind (fun r=>some (⟨hd0 2 s,.one r.1⟩,AZ l [41] r.2))=some r:=ho;obtain⟨⟨x,st4⟩,hx,hq⟩:=Option.bind_eq_some_iff.1 hq;simp only at hq;cases hq;have HX:=Z hx;clear ho hs3 hx;go_wp2_with fail;refine HT.out.mono ?_;rintro e w4 ⟨g4,v,rfl,rfl,h4⟩;have hB:=hZ3.gb g4 Ag;have g0:=Ah G3.out g4;have hw0:w.heap.size<w4.heap.size:=hB.lt;have HB:=Z (Ac hB g0);have HC:=Z (H.out.1 _ _ _ h4 HX.out);clear hB g0 g4 h4 hZ3 HT;go_wp2_with fail;refine HC.out.mono ?_;rintro e w5 ⟨g5,v,rfl,⟨pa,pc,la,lc,rfl,rp,rl⟩,h5⟩;simp only at rp rl h5 ⊢;have HK:=Z (KpR.new hb HB.out.1 HB.out.2 hw0 g5 rp rl h5);have hb5:=h5.lt;clear rp rl h5 HC g5 HB;have cW{P}(h:P:=by
       have Iw{P}(h:P:=by have hLb:=hL.lt;have hltz:=hZ.lt;clear hk2;have Fv{P}(h:P:=by go_wp2;have hk:=HK2.out;have g7:=AD w6 w.heap.size (.int .i64 2) (str s) (.int .i64 0) (.int .i64 0) (str []) (.slice none 0 0) (.slice (some ⟨w6.heap.size,0,none⟩) 1 1);have hW:=hZ.set7 (.int .i64 2) (str s) (.int .i64 0) (.int .i64 0) (str []) (.slice none 0 0) (.slice (some ⟨w6.heap.size,0,none⟩) 1 1);have jF{P}(h:P:=by exact bodyPost_ret (AX (hd:=hd0 2 s) (pv:= .slice none 0 0) (lv:= .slice (some ⟨w6.heap.size,0,none⟩) 1 1) rfl _ (Blk.alloc hW (Obj.cells #[Value.int IntKind.i64 x.h.op,str x.h.s,Value.int IntKind.i64 x.h.vk,Value.int IntKind.i64 x.h.vn,str x.h.vs,Value.slice pa x.h.p.length pc,Value.slice la x.kids.len lc] 29)) rfl) rfl (KN (op:=2) (s:=s) hb hk.gr hk.rp hk.rl FT hk.rr g7 hsz)):=Aa h;exact aZ):=Aa h;exact Fm):=Aa h;exact In):=Aa h;exact Tk
     | false=>
       rw[hs3]at HT ho;have hq:some ((⟨hd0 2 s,.one (AC (Ax l (Aq l [40] st3)).1)⟩:Ex),(Ax l (Aq l [40] st3)).2)=some r:=ho;cases hq;clear ho hs3;go_wp2_with fail;refine HT.out.mono ?_;rintro e w4 ⟨g4,v,rfl,rfl,h4⟩;have hZ4:=hZ3.gb g4 Ag;have G4:=Z (Ah G3.out g4);have HN:=Z (U6 h4);simp only at HN;generalize Aq l [40] st3=st4 at*;clear g4 hZ3 HT h4;go_wp2_with fail;refine HN.out.mono ?_;rintro e w5 ⟨g5,v,rfl,rfl,h5⟩;have hZ5:=hZ4.gb g5 Ag;have HE:=Z (Ac (Ah G4.out g5) h5);have hlt5:=hZ5.lt;simp only at HE ⊢;generalize(Ax l st4).1=t at*;generalize(Ax l st4).2=st5 at*;clear g5 hZ4 HN h5;obtain⟨cz_0,cz_1,cz_2,cz_3,cz_4,cz_5,cz_6,cz_f⟩:=(hZ5).c7;go_wp2;have g7:=AD w5 w.heap.size (.int .i64 2) (str s) (.int .i64 0) (.int .i64 0) (str []) (.slice none 0 0) (.slice (some ⟨w5.heap.size,0,none⟩) 1 1);have hW:=hZ5.set7 (.int .i64 2) (str s) (.int .i64 0) (.int .i64 0) (str []) (.slice none 0 0) (.slice (some ⟨w5.heap.size,0,none⟩) 1 1);have hsz:(set7 w5 w.heap.size (.int .i64 2) (str s) (.int .i64 0) (.int .i64 0) (str []) (.slice none 0 0) (.slice (some ⟨w5.heap.size,0,none⟩) 1 1)).heap.size=w5.heap.size:=Ii;simp only[set7]at hW g7 hsz
       generalize(((((((w5.setCell {block:=w.heap.size,off:=0} (.int .i64 2)).setCell {block:=w.heap.size,off:=1} (str s)).setCell {block:=w.heap.size,off:=2} (.int .i64 0)).setCell {block:=w.heap.size,off:=3} (.int .i64 0)).setCell {block:=w.heap.size,off:=4} (str [])).setCell {block:=w.heap.size,off:=5} (.slice none 0 0)).setCell {block:=w.heap.size,off:=6} (.slice (some ⟨w5.heap.size,0,none⟩) 1 1))=W' at*;exact bodyPost_ret (AX (hd:=hd0 2 s) (pv:= .slice none 0 0) (lv:= .slice (some ⟨w5.heap.size,0,none⟩) 1 1) rfl _ (Blk.alloc hW _) rfl) rfl (KN (x:=AC t) (pa:=none) (pc:=0) (la:=none) (lc:=0) (op:=2) (s:=s) (ok:=fun k=>w.heap.size<k) hb HE.out.1 (Cells.nil _ _ _) (RepL.nil _ _) (fun k hk=>hk) HE.out.2 g7 hsz)):=Aa h
   exact Tn):=Aa h;exact Ip):=Aa h
 exact D5
end
end Go.Proofs.YtmcajbhljbbglaaGreatDoor
