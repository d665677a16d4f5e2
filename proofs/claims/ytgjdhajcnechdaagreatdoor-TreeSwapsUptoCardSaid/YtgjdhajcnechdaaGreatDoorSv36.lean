/-
  The reference's reader: variable, macro, named. The reference's reader: named, braces. The reference's counter of an expression's size. isTwice at a program of one procedure. tree.Parse at 'if = 1'; w
-/
import Derived.Test.YtgjdhajcnechdaaGreatDoorSv32
import Derived.Test.YtgjdhajcnechdaaGreatDoorSv26
import Derived.Test.YtgjdhajcnechdaaGreatDoorSv22
import Derived.Test.YtgjdhajcnechdaaGreatDoorSv34
import Derived.Maps.Own
set_option linter.all false
set_option maxRecDepth 100000
set_option maxHeartbeats 8000000
namespace Go.Proofs.YtgjdhajcnechdaaGreatDoor
open Go.Proofs.Tryz
open Go.RowKit
theorem QL(s:Bs)(w:World):Calls Tryz.prog 56 #[.slice none 0 0,str s] w fun e w'=>e= .returned (.bool false)∧w=w':=by
 go_enter func56,ntmps56;go_wp2_with fail;go_loopg [5] 0 (fun g v5 wr=>v5= .int .i64 0∧w=wr)
 case atStart=>exact⟨rfl,rfl⟩
 case round=>
  obtain⟨rfl,rfl⟩:=hrel;go_wp2;go_ret;exact⟨rfl,rfl⟩
section
variable {b:Nat}{tv:Value}{l:List Tok}
theorem Hg{w:World}{st:RS}(h:Rr w b tv l st):
 Calls Tryz.prog 331 #[.pointer (some ⟨b,0,none⟩)] w (B5 b tv l w VStr (A1 l st)):=by
 have c3:=h.c3;have hb:=h.lt;have HH:=O h;clear h;go_enter func331,ntmps331;go_wp2_with fail;go_region_with(first| (go_at_call 179;refine(DG (HH.out.gbN (Am (Ac _ _)))).mono ?_;rintro e w1 ⟨rfl,g1⟩;have h1:=HH.out.gbN (Aa (Am (Ac _ _)) g1);have d3:=h1.c3;clear h1)| (go_at_call 56;refine(QL _ _).mono ?_;rintro e w2 ⟨rfl,rfl⟩));all_goals
  have h1:=HH.out.gbN (Aa (Am (Ac _ _)) g1);go_wp2_with fail;refine(DW h1).mono ?_;rintro e w2 ⟨g2,v,rfl,rfl,h2⟩;have HE:=O (Z g2 h2);clear g2 h2;go_wp2;go_ret;exact⟨Aa (AU (Aa (Am (Ac _ _)) g1)) HE.out.1,_,rfl,rfl,HE.out.2⟩
theorem Nq{E:FR Ex}(hE:CR 48 b tv l E):CR 320 b tv l (EJ l E):=by
 intro w st r h ho;have hb:=h.lt;have gz:w.grownBy (w.alloc (.cells zeroE.toArray 27 (0,0))) (some b):=Ad (Ac _ _) _;have hz:=Blk.new w zeroE 27;have h0:=h.alloc (.cells zeroE.toArray 27 (0,0));unfold EJ at ho;have H:=O (Z hE (Z hz gz));have HW:=O (C7 h0 [38]);clear hE hz gz h0;go_enter func320,ntmps320;go_wp2_with fail;refine HW.out.mono ?_;rintro e w1 ⟨g1,v,rfl,rfl,h1⟩;have HT:=O (BX h1 [40]);have hZ:=H.out.2.1.gb g1 (by simp;omega);have hG:=O (Aa H.out.2.2 g1);have hb1:=h1.lt;simp only at h1 HT;clear g1 HW;cases hs:A2 l [40] (AQ l [38] st)with
 | true=>
   rw[hs]at HT ho;have hq:(E (Aj l [40] (AQ l [38] st))).bind (fun r=>some (⟨hd0 9 [],.one r.1⟩,AQ l [41] r.2))=some r:=ho;obtain⟨⟨x,st1⟩,hx,hq⟩:=Option.bind_eq_some_iff.1 hq;simp only at hq;cases hq;have HX:=O hx;clear ho hs hx h1;go_wp2_with fail;refine HT.out.mono ?_;rintro e w2 ⟨g2,v,rfl,rfl,h2⟩;have hB:=hZ.gb g2 (by simp;omega);have g0:=Aa hG.out g2;have hw0:w.heap.size<w2.heap.size:=hB.lt;have HB:=O (Z hB g0);have HC:=O (H.out.1 _ _ _ h2 HX.out);clear hB g0 g2 h2 hZ HT;go_wp2_with fail;refine HC.out.mono ?_;rintro e w3 ⟨g3,v,rfl,⟨pa,pc,la,lc,rfl,rp,rl⟩,h3⟩;simp only at rp rl h3 ⊢;have HK:=O (KpR.new hb HB.out.1 HB.out.2 hw0 g3 rp rl h3);have hb3:=h3.lt;clear rp rl h3 HC g3 HB;go_wp2_with fail;refine(C7 HK.out.rr [41]).mono ?_;rintro e w4 ⟨g4,v,rfl,rfl,h4⟩;have HK2:=O (HK.out.gb hb g4 h4);clear g4 h4 HK;have hk2:=HK2.out;have hL:=hk2.blk;have hZ:=hk2.zero;have hwL:=hk2.wL;have hLb:=hL.lt;have hltz:=hZ.lt;clear hk2;obtain⟨cl_0,cl_1,cl_2,cl_3,cl_4,cl_5,cl_6,cl_f⟩:=(hL).c7;obtain⟨cz_0,cz_1,cz_2,cz_3,cz_4,cz_5,cz_6,cz_f⟩:=(hZ).c7;go_wp2;have hk:=HK2.out;have g7:=Ag w4 w.heap.size (.int .i64 9) (str []) (.int .i64 0) (.int .i64 0) (str []) (.slice none 0 0) (.slice (some ⟨w4.heap.size,0,none⟩) 1 1);have hW:=hZ.set7 (.int .i64 9) (str []) (.int .i64 0) (.int .i64 0) (str []) (.slice none 0 0) (.slice (some ⟨w4.heap.size,0,none⟩) 1 1)
   have hsz:(set7 w4 w.heap.size (.int .i64 9) (str []) (.int .i64 0) (.int .i64 0) (str []) (.slice none 0 0) (.slice (some ⟨w4.heap.size,0,none⟩) 1 1)).heap.size=w4.heap.size:=by simp[set7]
   simp only[set7]at hW g7 hsz;generalize(((((((w4.setCell {block:=w.heap.size,off:=0} (.int .i64 9)).setCell {block:=w.heap.size,off:=1} (str [])).setCell {block:=w.heap.size,off:=2} (.int .i64 0)).setCell {block:=w.heap.size,off:=3} (.int .i64 0)).setCell {block:=w.heap.size,off:=4} (str [])).setCell {block:=w.heap.size,off:=5} (.slice none 0 0)).setCell {block:=w.heap.size,off:=6} (.slice (some ⟨w4.heap.size,0,none⟩) 1 1))=W' at*;exact bodyPost_ret (Ai (hd:=hd0 9 []) (pv:= .slice none 0 0) (lv:= .slice (some ⟨w4.heap.size,0,none⟩) 1 1) rfl _ (Blk.alloc hW (Obj.cells #[Value.int IntKind.i64 x.h.op,str x.h.s,Value.int IntKind.i64 x.h.vk,Value.int IntKind.i64 x.h.vn,str x.h.vs,Value.slice pa x.h.p.length pc,Value.slice la x.kids.len lc] 27)) rfl) rfl (EG (op:=9) (s:=[]) hb hk.gr hk.rp hk.rl (by intro k hk;exact hk.1) hk.rr g7 hsz)
 | false=>
   rw[hs]at HT ho;have hq:some ((⟨hd0 9 (A1 l (Aj l [40] (AQ l [38] st))).1,.nil⟩:Ex),Aj l [46] (A1 l (Aj l [40] (AQ l [38] st))).2)=some r:=ho;cases hq;clear ho hs h1;go_wp2_with fail;refine HT.out.mono ?_;rintro e w2 ⟨g2,v,rfl,rfl,h2⟩;have hB:=hZ.gb g2 (by simp;omega);have g0:=Aa hG.out g2;have hb2:=h2.lt;have HN:=O (DW h2);have hw2:w.heap.size<w2.heap.size:=hB.lt;have HB:=O (Z hB g0);simp only at HN;clear hB g0 g2 h2 hZ HT;generalize(Aj l [40] (AQ l [38] st))=st1 at*;go_wp2_with fail;refine HN.out.mono ?_;rintro e w3 ⟨g3,v,rfl,rfl,h3⟩;simp only at h3 ⊢;generalize(A1 l st1).1=s at*;have hb3:=h3.lt;have HK:=O (KpR.new (x:=⟨hd0 9 s,.nil⟩) (pa:=none) (pc:=0) (la:=none) (lc:=0) hb HB.out.1 HB.out.2 hw2 g3 (Cells.nil _ _ _) (RepL.nil _ _) h3);clear h3 HN g3 HB;go_wp2_with fail;refine(BX HK.out.rr [46]).mono ?_;rintro e w4 ⟨g4,v,rfl,rfl,h4⟩;have HK2:=O (HK.out.gb hb g4 h4);clear g4 h4 HK;have hk2:=HK2.out;have hL:=hk2.blk;have hZ:=hk2.zero;have hwL:=hk2.wL;clear hk2;obtain⟨cl_0,cl_1,cl_2,cl_3,cl_4,cl_5,cl_6,cl_f⟩:=(hL).c7;obtain⟨cz_0,cz_1,cz_2,cz_3,cz_4,cz_5,cz_6,cz_f⟩:=(hZ).c7;go_wp2;have hk:=HK2.out;have g7:=Ag w4 w.heap.size (.int .i64 9) (str s) (.int .i64 0) (.int .i64 0) (str []) (.slice none 0 0) (.slice none 0 0);exact bodyPost_ret (Ai (hd:=hd0 9 s) (pv:= .slice none 0 0) (lv:= .slice none 0 0) rfl _ (hZ.set7 _ _ _ _ _ _ _) rfl) rfl (Bf hb hk.gr hk.ve (by intro k hk;exact hk.1) hk.rr g7)
end
section
variable {b:Nat}{tv:Value}{l:List Tok}
theorem Nr{E:FR Ex}(hE:CR 48 b tv l E)(n:Nat)(hn:n≤4000000):CR 319 b tv l (DM l E n):=by
 intro w st r h ho;have hb:=h.lt;have gz:w.grownBy (w.alloc (.cells zeroE.toArray 27 (0,0))) (some b):=Ad (Ac _ _) _;have hz:=Blk.new w zeroE 27;have h0:=h.alloc (.cells zeroE.toArray 27 (0,0));unfold DM at ho;have HS:=O (E8 h0 1 (by omega) [40]);have H:=O (Z hE (Z hz (Z gz h0)));clear hE hz gz h0;cases hs:Ae (Ab l (st.1+1)) [40]with
 | true=>
   rw[hs]at HS ho;have hq:(Di l E n [41] (AQ l [40] (A1 l st).2)).bind (fun r=>some (⟨hd0 3 (A1 l st).1,r.1⟩,r.2))=some r:=ho;obtain⟨⟨f,st1⟩,hf,hq⟩:=Option.bind_eq_some_iff.1 hq;simp only at hq;cases hq;have HF:=O hf;clear ho hs hf;go_enter func319,ntmps319;go_wp2_with fail;refine HS.out.mono ?_;rintro e w1 ⟨rfl,g1⟩;have h1:=H.out.2.2.2.gbN g1;have hZ1:=H.out.2.1.gb g1 (by simp);have G1:=O (Ah H.out.2.2.1 g1);have HN:=O (DW h1);clear HS g1 h1;go_wp2_with fail;refine HN.out.mono ?_;rintro e w2 ⟨g2,v,rfl,rfl,h2⟩;have hZ2:=hZ1.gb g2 (by simp;omega);have G2:=O (Aa G1.out g2);simp only at h2 ⊢;generalize(A1 l st).1=s at*;generalize(A1 l st).2=st2 at*;clear HN g2 hZ1;go_wp2_with fail;refine(C7 h2 [40]).mono ?_;rintro e w3 ⟨g3,v,rfl,rfl,h3⟩;have hZ3:=hZ2.gb g3 (by simp;omega);have G3:=O (Aa G2.out g3);have hlt3:=hZ3.lt;have HC:=O (Lt H.out.1 h3 n hn [41] HF.out);clear h2 g3 hZ2 h3;go_wp2_with fail;refine HC.out.mono ?_;rintro e w4 ⟨g4,v,rfl,⟨la,lc,rfl,rl⟩,h4⟩;simp only at rl h4 ⊢;have hZ4:=hZ3.gb g4 (by simp;omega);have HE:=O (Z (Aa G3.out g4) (Z rl h4));clear g4 rl h4 hZ3 HC;obtain⟨cz_0,cz_1,cz_2,cz_3,cz_4,cz_5,cz_6,cz_f⟩:=(hZ4).c7;go_wp2;have g7:=Ag w4 w.heap.size (.int .i64 3) (str s) (.int .i64 0) (.int .i64 0) (str []) (.slice none 0 0) (.slice la f.len lc)
   exact bodyPost_ret (Ai (hd:=hd0 3 s) (pv:= .slice none 0 0) (lv:= .slice la f.len lc) rfl _ (hZ4.set7 _ _ _ _ _ _ _) rfl) rfl (Bf (x:=⟨hd0 3 s,f⟩) hb HE.out.1 (VE.node HE.out.2.1) (by intro k hk;have:w3.heap.size≤k:=hk;omega) HE.out.2.2 g7)
 | false=>
   rw[hs]at HS ho;have HO:=O ho;clear ho hs;go_enter func319,ntmps319;go_wp2_with fail;refine HS.out.mono ?_;rintro e w1 ⟨rfl,g1⟩;have h1:=H.out.2.2.2.gbN g1;have hZ1:=H.out.2.1.gb g1 (by simp);have G1:=O (Ah H.out.2.2.1 g1);have HN:=O (Hg h1);clear HS g1 h1;go_wp2_with fail;refine HN.out.mono ?_;rintro e w2 ⟨g2,v,rfl,rfl,h2⟩;have hZ2:=hZ1.gb g2 (by simp;omega);have G2:=O (Aa G1.out g2);have ho:=HO.out;simp only[Bool.false_eq_true,if_false]at ho;simp only at h2 ⊢;generalize(A1 l st).1=s at*;generalize(A1 l st).2=st2 at*;have HT:=O (BX h2 [45,62]);clear HN g2 hZ1 HO h2;cases hs2:A2 l [45,62] st2 with
   | false=>
     rw[hs2]at HT ho;have hq:some (A6 s,Aj l [45,62] st2)=some r:=ho;cases hq;clear ho hs2;go_wp2_with fail;refine HT.out.mono ?_;rintro e w3 ⟨g3,v,rfl,rfl,h3⟩;have hZ:=hZ2.gb g3 (by simp;omega);have HR:=O (Z (Aa G2.out g3) h3);clear hZ2 g3 h3 HT;obtain⟨cz_0,cz_1,cz_2,cz_3,cz_4,cz_5,cz_6,cz_f⟩:=(hZ).c7;go_wp2;exact bodyPost_ret (Ai (hd:=(A6 s:Ex).h) (pv:= .slice none 0 0) (lv:= .slice none 0 0) rfl _ (hZ.set7 _ _ _ _ _ _ _) rfl) rfl (Bf (ok:=fun k=>w.heap.size<k) (x:=A6 s) hb HR.out.1 ⟨none,0,none,0,rfl,Cells.nil _ _ _,RepL.nil _ _⟩ (fun k hk=>hk) HR.out.2 (Ag _ _ _ _ _ _ _ _ _))
   | true=>
     rw[hs2]at HT ho;have HO:=O ho;clear ho hs2;go_wp2_with fail;refine HT.out.mono ?_;rintro e w3 ⟨g3,v,rfl,rfl,h3⟩;have hZ3:=hZ2.gb g3 (by simp;omega);have G3:=O (Aa G2.out g3);have ho:=HO.out;simp only[if_true]at ho;simp only at h3 ⊢;generalize Aj l [45,62] st2=st3 at*;have HT:=O (BX h3 [40]);clear g3 hZ2 HO h3;cases hs3:A2 l [40] st3 with
     | true=>
       rw[hs3]at HT ho;have hq:(E (Aj l [40] st3)).bind (fun r=>some (⟨hd0 2 s,.one r.1⟩,AQ l [41] r.2))=some r:=ho;obtain⟨⟨x,st4⟩,hx,hq⟩:=Option.bind_eq_some_iff.1 hq;simp only at hq;cases hq;have HX:=O hx;clear ho hs3 hx;go_wp2_with fail;refine HT.out.mono ?_;rintro e w4 ⟨g4,v,rfl,rfl,h4⟩;have hB:=hZ3.gb g4 (by simp;omega);have g0:=Aa G3.out g4;have hw0:w.heap.size<w4.heap.size:=hB.lt;have HB:=O (Z hB g0);have HC:=O (H.out.1 _ _ _ h4 HX.out);clear hB g0 g4 h4 hZ3 HT;go_wp2_with fail;refine HC.out.mono ?_;rintro e w5 ⟨g5,v,rfl,⟨pa,pc,la,lc,rfl,rp,rl⟩,h5⟩;simp only at rp rl h5 ⊢;have HK:=O (KpR.new hb HB.out.1 HB.out.2 hw0 g5 rp rl h5);have hb5:=h5.lt;clear rp rl h5 HC g5 HB;go_wp2_with fail;refine(C7 HK.out.rr [41]).mono ?_;rintro e w6 ⟨g6,v,rfl,rfl,h6⟩;have HK2:=O (HK.out.gb hb g6 h6);clear g6 h6 HK;have hk2:=HK2.out;have hL:=hk2.blk;have hZ:=hk2.zero;have hwL:=hk2.wL;have hLb:=hL.lt;have hltz:=hZ.lt;clear hk2;obtain⟨cl_0,cl_1,cl_2,cl_3,cl_4,cl_5,cl_6,cl_f⟩:=(hL).c7;obtain⟨cz_0,cz_1,cz_2,cz_3,cz_4,cz_5,cz_6,cz_f⟩:=(hZ).c7;go_wp2;have hk:=HK2.out;have g7:=Ag w6 w.heap.size (.int .i64 2) (str s) (.int .i64 0) (.int .i64 0) (str []) (.slice none 0 0) (.slice (some ⟨w6.heap.size,0,none⟩) 1 1);have hW:=hZ.set7 (.int .i64 2) (str s) (.int .i64 0) (.int .i64 0) (str []) (.slice none 0 0) (.slice (some ⟨w6.heap.size,0,none⟩) 1 1)
       have hsz:(set7 w6 w.heap.size (.int .i64 2) (str s) (.int .i64 0) (.int .i64 0) (str []) (.slice none 0 0) (.slice (some ⟨w6.heap.size,0,none⟩) 1 1)).heap.size=w6.heap.size:=by simp[set7]
       simp only[set7]at hW g7 hsz;generalize(((((((w6.setCell {block:=w.heap.size,off:=0} (.int .i64 2)).setCell {block:=w.heap.size,off:=1} (str s)).setCell {block:=w.heap.size,off:=2} (.int .i64 0)).setCell {block:=w.heap.size,off:=3} (.int .i64 0)).setCell {block:=w.heap.size,off:=4} (str [])).setCell {block:=w.heap.size,off:=5} (.slice none 0 0)).setCell {block:=w.heap.size,off:=6} (.slice (some ⟨w6.heap.size,0,none⟩) 1 1))=W' at*;exact bodyPost_ret (Ai (hd:=hd0 2 s) (pv:= .slice none 0 0) (lv:= .slice (some ⟨w6.heap.size,0,none⟩) 1 1) rfl _ (Blk.alloc hW (Obj.cells #[Value.int IntKind.i64 x.h.op,str x.h.s,Value.int IntKind.i64 x.h.vk,Value.int IntKind.i64 x.h.vn,str x.h.vs,Value.slice pa x.h.p.length pc,Value.slice la x.kids.len lc] 27)) rfl) rfl (EG (op:=2) (s:=s) hb hk.gr hk.rp hk.rl (by intro k hk;exact hk.1) hk.rr g7 hsz)
     | false=>
       rw[hs3]at HT ho;have hq:some ((⟨hd0 2 s,.one (A6 (A1 l (Aj l [40] st3)).1)⟩:Ex),(A1 l (Aj l [40] st3)).2)=some r:=ho;cases hq;clear ho hs3;go_wp2_with fail;refine HT.out.mono ?_;rintro e w4 ⟨g4,v,rfl,rfl,h4⟩;have hZ4:=hZ3.gb g4 (by simp;omega);have G4:=O (Aa G3.out g4);have HN:=O (Hg h4);simp only at HN;generalize Aj l [40] st3=st4 at*;clear g4 hZ3 HT h4;go_wp2_with fail;refine HN.out.mono ?_;rintro e w5 ⟨g5,v,rfl,rfl,h5⟩;have hZ5:=hZ4.gb g5 (by simp;omega);have HE:=O (Z (Aa G4.out g5) h5);have hlt5:=hZ5.lt;simp only at HE ⊢;generalize(A1 l st4).1=t at*;generalize(A1 l st4).2=st5 at*;clear g5 hZ4 HN h5;obtain⟨cz_0,cz_1,cz_2,cz_3,cz_4,cz_5,cz_6,cz_f⟩:=(hZ5).c7;go_wp2;have g7:=Ag w5 w.heap.size (.int .i64 2) (str s) (.int .i64 0) (.int .i64 0) (str []) (.slice none 0 0) (.slice (some ⟨w5.heap.size,0,none⟩) 1 1);have hW:=hZ5.set7 (.int .i64 2) (str s) (.int .i64 0) (.int .i64 0) (str []) (.slice none 0 0) (.slice (some ⟨w5.heap.size,0,none⟩) 1 1);have hsz:(set7 w5 w.heap.size (.int .i64 2) (str s) (.int .i64 0) (.int .i64 0) (str []) (.slice none 0 0) (.slice (some ⟨w5.heap.size,0,none⟩) 1 1)).heap.size=w5.heap.size:=by simp[set7]
       simp only[set7]at hW g7 hsz;generalize(((((((w5.setCell {block:=w.heap.size,off:=0} (.int .i64 2)).setCell {block:=w.heap.size,off:=1} (str s)).setCell {block:=w.heap.size,off:=2} (.int .i64 0)).setCell {block:=w.heap.size,off:=3} (.int .i64 0)).setCell {block:=w.heap.size,off:=4} (str [])).setCell {block:=w.heap.size,off:=5} (.slice none 0 0)).setCell {block:=w.heap.size,off:=6} (.slice (some ⟨w5.heap.size,0,none⟩) 1 1))=W' at*;exact bodyPost_ret (Ai (hd:=hd0 2 s) (pv:= .slice none 0 0) (lv:= .slice (some ⟨w5.heap.size,0,none⟩) 1 1) rfl _ (Blk.alloc hW _) rfl) rfl (EG (x:=A6 t) (pa:=none) (pc:=0) (la:=none) (lc:=0) (op:=2) (s:=s) (ok:=fun k=>w.heap.size<k) hb HE.out.1 (Cells.nil _ _ _) (RepL.nil _ _) (fun k hk=>hk) HE.out.2 g7 hsz)
end
def Br:Fo→Nat→Nat×Nat→Nat×Nat
 | .nil,_,s=>s
 | .cons _ kids next,k,s=>if AL (s.1+1) (max s.2 (k+1))then(s.1+1,max s.2 (k+1))else Br next k (Br kids (k+1) (s.1+1,max s.2 (k+1)))
theorem FW{n m n' m':Nat}(h:AL n m=true)(hn:n≤n')(hm:m≤m'):AL n' m'=true:=by
 simp only[AL,Bool.or_eq_true,decide_eq_true_eq]at h ⊢;omega
theorem RE:∀(f:Fo)(k:Nat)(s:Nat×Nat),s.1≤(Br f k s).1∧s.2≤(Br f k s).2:=by
 intro f;induction f with
 |nil=>intro k s;exact⟨Nat.le_refl _,Nat.le_refl _⟩
 | cons h kids next ihk ihn=>
   intro k s;unfold Br;split
   ·exact⟨by simp,by simp;omega⟩
   ·have h1:=ihk (k+1) (s.1+1,max s.2 (k+1));have h2:=ihn k (Br kids (k+1) (s.1+1,max s.2 (k+1)));simp only at h1;omega
theorem RH:∀(f:Fo)(k:Nat)(s:Nat×Nat),(Br f k s).1≤s.1+f.nodes:=by
 intro f;induction f with
 |nil=>intro k s;exact Nat.le_refl _
 | cons h kids next ihk ihn=>
   intro k s;unfold Br;simp only[Fo.nodes];split
   ·simp;omega
   ·have h1:=ihk (k+1) (s.1+1,max s.2 (k+1));have h2:=ihn k (Br kids (k+1) (s.1+1,max s.2 (k+1)));simp only at h1;omega
theorem RG:∀(f:Fo)(k:Nat)(s:Nat×Nat),k≤s.2→
 AL (Br f k s).1 (Br f k s).2=AL (s.1+f.nodes) (max s.2 (k+f.levels))∧
 (AL (s.1+f.nodes) (max s.2 (k+f.levels))=false→Br f k s=(s.1+f.nodes,max s.2 (k+f.levels))):=by
 intro f;induction f with
 | nil=>
   intro k s hk;have e:max s.2 (k+Fo.nil.levels)=s.2:=by simp only[Fo.levels];omega
   rw[e];exact⟨rfl,fun _=>rfl⟩
 | cons h kids next ihk ihn=>
   intro k s hk;have e1:s.1+(Fo.cons h kids next).nodes=s.1+1+kids.nodes+next.nodes:=by simp only[Fo.nodes];omega
   have e2:max s.2 (k+(Fo.cons h kids next).levels)=max (max (max s.2 (k+1)) (k+1+kids.levels)) (k+next.levels):=by simp only[Fo.levels];omega
   rw[e1,e2];unfold Br;cases hL:AL (s.1+1) (max s.2 (k+1))with
   | true=>
     rw[if_pos rfl];have ht:=FW hL (show s.1+1≤s.1+1+kids.nodes+next.nodes by omega) (show max s.2 (k+1)≤max (max (max s.2 (k+1)) (k+1+kids.levels)) (k+next.levels)by omega);rw[ht];exact⟨hL,fun h=>by cases h⟩
   | false=>
     rw[if_neg (by simp)];have h1:=ihk (k+1) (s.1+1,max s.2 (k+1)) (by simp;omega);simp only at h1;generalize hS:Br kids (k+1) (s.1+1,max s.2 (k+1))=S at*;cases h2:AL (s.1+1+kids.nodes) (max (max s.2 (k+1)) (k+1+kids.levels))with
     | true=>
       rw[h2]at h1;have hg:=RE next k S;have ha:=FW h1.1 hg.1 hg.2;have hb:=FW h2 (show s.1+1+kids.nodes≤s.1+1+kids.nodes+next.nodes by omega) (show max (max s.2 (k+1)) (k+1+kids.levels)≤max (max (max s.2 (k+1)) (k+1+kids.levels)) (k+next.levels)by omega);rw[ha,hb];exact⟨rfl,fun h=>by cases h⟩
     | false=>
       have hs:=h1.2 h2;subst hs;exact ihn k _ (by simp;omega)
theorem J0(x:Ex):AL (Br (.one x) 0 (0,0)).1 (Br (.one x) 0 (0,0)).2=AL x.nodes x.levels:=by
 rw[(RG (.one x) 0 (0,0) (Nat.le_refl _)).1];congr 1
 ·simp[Fo.one,Ex.fo,Fo.nodes,Ex.nodes]
 ·simp[Fo.one,Ex.fo,Fo.levels,Ex.levels]
def Cn(w:World)(b:Nat)(s:Nat×Nat):Prop:=Blk w b [.int .i64 s.1,.int .i64 s.2] 66
theorem Cn.gb{w w1:World}{b:Nat}{s:Nat×Nat}{r:Option Nat}(h:Cn w b s)(g:w.grownBy w1 r)(hr:some b≠r):Cn w1 b s:=Blk.gb h g hr
theorem FH{w:World}{b n m:Nat}(h:Cn w b (n,m)):
 Calls Tryz.prog 31 #[.pointer (some ⟨b,0,none⟩)] w fun e w'=>e= .returned (.bool (AL n m))∧w.grownBy w' none:=by
 have c0:=Blk.cell h 0;have c1:=Blk.cell h 1;have hb:=Blk.lt h;simp only[List.getElem?_cons_zero,List.getElem?_cons_succ]at c0 c1;clear h;cases h1:decide (400<n)with
 | true=>
   have HM:=O (show AL n m=true by unfold AL;rw[h1];rfl);have h2:decide ((400:Int)<n)=true:=by simp at h1 ⊢;omega
   clear h1;go_enter func31,ntmps31;go_wp2;go_ret;exact⟨by rw[HM.out];rfl,(by repeat(first| (with_reducible exact Ac _ _)| (with_reducible assumption)| (with_reducible exact AU (by assumption))| (with_reducible refine Ad ?_ _)| (with_reducible refine Am ?_)| (with_reducible refine A3 ?_ _)| ((with_reducible refine Ay ?_ _ _ ?h2);case h2=>first|exact .inl rfl|exact .inr (Nat.le_refl _)|exact .inr (by simp<;>omega))| (with_reducible refine Ah ?_ (by assumption))| (with_reducible refine Aa ?_ (by assumption))))⟩
 | false=>
   have HM:=O (show AL n m=decide ((14:Int)<m)by unfold AL;rw[h1,Bool.false_or,decide_eq_decide];omega);have h2:decide ((400:Int)<n)=false:=by simp at h1 ⊢;omega
   clear h1;go_enter func31,ntmps31;go_wp2;go_ret;exact⟨by rw[HM.out];rfl,(by repeat(first| (with_reducible exact Ac _ _)| (with_reducible assumption)| (with_reducible exact AU (by assumption))| (with_reducible refine Ad ?_ _)| (with_reducible refine Am ?_)| (with_reducible refine A3 ?_ _)| ((with_reducible refine Ay ?_ _ _ ?h2);case h2=>first|exact .inl rfl|exact .inr (Nat.le_refl _)|exact .inr (by simp<;>omega))| (with_reducible refine Ah ?_ (by assumption))| (with_reducible refine Aa ?_ (by assumption))))⟩
theorem Rl{w:World}{b n m:Nat}(h:Cn w b (n,m))(k:Nat)(hn:n≤8000000):
 Calls Tryz.prog 57 #[.pointer (some ⟨b,0,none⟩),.int .i64 k] w fun e w'=>e= .returned (.bool (!AL (n+1) (max m k)))∧w.grownBy w' (some b)∧Cn w' b (n+1,max m k):=by
 have c0:=Blk.cell h 0;have c1:=Blk.cell h 1;have hf:=fun k=>Blk.frozen h k;have hb:=Blk.lt h;simp only[List.getElem?_cons_zero,List.getElem?_cons_succ]at c0 c1;have h2:Cn ((w.setCell ⟨b,0,none⟩ (.int .i64 ((n:Int)+1))).setCell ⟨b,1,none⟩ (.int .i64 (max (m:Int) k))) b (n+1,max m k):=
  ((Blk.set h 0 (.int .i64 ((n:Int)+1))).set 1 (.int .i64 (max (m:Int) k))).of_eq rfl (by simp;omega)
 have g2:w.grownBy ((w.setCell ⟨b,0,none⟩ (.int .i64 ((n:Int)+1))).setCell ⟨b,1,none⟩ (.int .i64 (max (m:Int) k))) (some b):=Ay (Ay (Ac w _) _ _ (.inl rfl)) _ _ (.inl rfl);have HC:=O (Z (FH h2) (Z h2 g2));clear h h2 g2;go_enter func57,ntmps57;go_wp2_with fail;refine HC.out.1.mono ?_;rintro e w1 ⟨rfl,g1⟩;go_wp2;go_ret;exact⟨rfl,Ah HC.out.2.2 g1,HC.out.2.1.gb g1 (by simp)⟩
def Rg(w:World)(b:Nat)(s:Nat×Nat)(e:Ending)(w':World):Prop:=e= .returned (.tuple #[])∧w.grownBy w' (some b)∧Cn w' b s
theorem IV(b:Nat):∀(N:Nat)(f:Fo),f.nodes<N→f.nodes≤2000000→∀(la:Option Addr)(lc:Nat)(w:World)(s:Nat×Nat)(k:Nat),s.1+f.nodes≤8000000→k+N≤8000000→RepL (· ≠ b) w (.slice la f.len lc) f→Cn w b s→
 Calls Tryz.prog 30 #[.pointer (some ⟨b,0,none⟩),.slice la f.len lc,.int .i64 ((k+1:Nat):Int)] w (Rg w b (Br f k s)):=by
 intro N;induction N with
 |zero=>intro f hN;omega
 | succ N ih=>
   intro f hN hfn la lc w s k hs hkN hf hC;obtain⟨cs,hc1,hr1⟩:=hf;obtain⟨_,_,e,hle,hmx,_,hc1⟩:=hc1;cases e;have hmax:f.len≤maxLen:=by omega
   unfold maxLen at hmax;clear hle hmx;have HC:=O (Z hc1 ih);have HR:=O (Z hr1 hC);have hb:=Blk.lt hC;clear hc1 ih hr1 hC;generalize hT:Br f k s=T;go_enter func30,ntmps30;go_wp2_with fail;go_loopg [6] f.len (fun g v6 wr=>∃rf:Fo,∃i:Nat,∃t:Nat×Nat,rf.len=g∧i+g=f.len∧v6= .int .i64 i∧t.1+rf.nodes≤8000000∧rf.nodes≤f.nodes∧Br rf k t=T∧RepF (· ≠ b) w rf (cs.drop (i*7))∧Cn wr b t∧w.grownBy wr (some b))
   case atStart=>exact⟨f,0,s,rfl,by omega,rfl,hs,Nat.le_refl _,hT,by simpa using HR.out.1,HR.out.2,Ac _ _⟩
   case round=>
    obtain⟨rf,i,⟨n,m⟩,hn,hk,rfl,ht,hrn,hcnt,hrf,hCt,hgr⟩:=hrel;clear HR hT;cases rf with
    | nil=>
      have hkI:decide (i<f.len)=false:=by simp[Fo.len]at hn;simp;omega
      have HG:=O (Z hgr (Z hCt hcnt));clear hgr hn hrf hCt hcnt;go_wp2;go_end0;exact⟨rfl,HG.out.1,by rw[←HG.out.2.2];exact HG.out.2.1⟩
    | cons h1 k1 n1=>
      simp only[Fo.len]at hn;simp only[Fo.nodes]at ht hrn;subst hn;have hkI:decide (i<f.len)=true:=by simp;omega
      obtain⟨pa1,pc1,lb1,ld1,hp1,hl1,hx1,ha1⟩:=RepF.elem (n:=f.len) (lc:=lc) (f:=f) HC.out.1 hrf;have hkf:i+1≤f.len:=by omega
      have HA:=O (Rl hCt (k+1) (by omega));unfold Br at hcnt;simp only at hcnt;have i0:(0:Int)≤(i:Int):=by omega
      have i1:(i:Int)<(f.len:Int):=by omega
      have i2:i<f.len:=by omega
      have HN:=O (Z hcnt (Z hx1 (Z hgr hl1)));obtain⟨g1,o1,rfl,hok1,_,z6⟩:∃g1 o1,la=some ⟨g1,o1,none⟩∧g1≠b∧True∧w.cell? ⟨g1,o1+(i*7+6),none⟩=some (.slice lb1 k1.len ld1):=by
       obtain⟨g,o,e,hg,hc⟩:=ha1 6 _ rfl;exact⟨g,o,e,hg,trivial,hc⟩
      have hgl:=World.block_lt_of_cell? w _ z6;clear hcnt hrf hp1 hl1 hx1 ha1 hCt hgr;go_wp2_with fail;refine HA.out.mono ?_;rintro e w2 ⟨rfl,g2,hC2⟩;have gW:=O (Aa HN.out.2.2.1 g2);cases hL:AL (n+1) (max m (k+1))with
      | true=>
        have HF:=O (Z hC2 (show(n+1,max m (k+1))=T by rw[←HN.out.1,hL];rfl));clear hL g2 hC2;go_wp2;go_end0;exact⟨rfl,gW.out,by rw[←HF.out.2];exact HF.out.1⟩
      | false=>
        have hF:=HN.out.1;rw[hL,if_neg (by simp)]at hF;have y6:w2.cell? ⟨g1,o1+(i*7+6),none⟩=some (.slice lb1 k1.len ld1):=Bu gW.out z6 (fun e=>hok1 (by cases e;rfl));have HE:=O (HC.out.2 k1 (by omega) (by omega) lb1 ld1 w2 (n+1,max m (k+1)) (k+1) (by simp only;omega) (by omega) (HN.out.2.2.2.gb gW.out (by intro q hq _ e;cases e;exact hq rfl)) hC2);have hle:=RH k1 (k+1) (n+1,max m (k+1));have HF:=O (Z hF hle);have hlt2:=Blk.lt hC2;have hgl2:=World.block_lt_of_cell? w2 _ y6;have hw1:IntKind.i64.wrap (((k+1:Nat):Int)+1)=((k+1+1:Nat):Int):=by rw[IntWalk.i64_in _ (by omega)];push_cast;rfl
        clear hL g2 hC2 hF hle z6;rw[show o1+(i*7+6)=o1+i*7+6 by omega]at y6;go_wp2_with fail;refine HE.out.mono ?_;rintro e w3 ⟨rfl,g3,hC3⟩;have HG:=O (Z (Aa gW.out g3) hC3);clear g3 hC3 y6;go_wp2;go_roundg n1.len
        case measure=>omega
        case rel=>exact⟨n1,i+1,_,rfl,by omega,by go_num,by have:=HF.out.2;omega,by omega,HF.out.1,HN.out.2.1,HG.out.2,HG.out.1⟩
open Go.Maps Go.WideMaps Go.ChangeMaps Go.MapKept
theorem lawS:Keyed Tryz.prog 9:=string_keyed underlying9
theorem zeroB(w:World):(zeroValue 4).run Tryz.prog w= .ok (.bool false) w:=by kernel_rfl
theorem Mv{w:World}{b:Nat}{s:Bs}{R:Value→Option (DataW Unit×List MemPlace)}(hs:s.length≤maxLen)(h:w.ownsMap Tryz.prog 9 R b 0 (.map [])):
 (Instr.lookup 125 (.map (some b)) (str s) false).run Tryz.prog w= .ok (.bool false) w:=by
 obtain⟨es,clock,hb,F,hn,hD⟩:=h;have he:es=#[]:=Array.eq_empty_of_size_eq_zero (by omega);subst he;rcases Maps.fit_look false lawS underlying125 (zeroB w) hb F (keyOf_string_mk (s:=⟨s.toArray⟩) underlying9 hs)with⟨h,_,_⟩| ⟨e0,y,_,_,_,_,hat,_⟩
 ·exact h
 ·have:=hat .nil;have h2:=hat (.lit (.bool true));rw[←this]at h2;cases h2
theorem LJ{B:Nat}{w:World}{v:Value}{t x:Ex}(h:SetProg B w v t x):
 Calls Tryz.prog 50 #[v] w fun e w'=>e= .returned (.bool false)∧w.grownBy w' none:=by
 obtain⟨kP,bv,rfl,hB,hblk,hrow⟩:=h;obtain⟨G,cap,la,lc,e,_⟩:=hrow.open;subst e;have hmm:=@run_makeMap Tryz.prog;have HB:=O hblk;clear hblk hrow hB;go_enter func50,ntmps50;go_wp2_with fail;go_loopg [9] 1 (fun g v9 wr=>(g=1∧v9= .int .i64 0∧wr=w.alloc (.map #[] 0))∨(g=0∧v9= .int .i64 1∧w.grownBy wr none))
 case atStart=>exact .inl ⟨rfl,rfl,rfl⟩
 case round=>
  rcases hrel with⟨rfl,rfl,rfl⟩| ⟨rfl,rfl,hg⟩
  ·have g0:=World.grownBy_alloc w (.map #[] 0) none;have hbk:=HB.out.gb g0 (by simp);have z0:=hbk.cell 0;have z1:=hbk.cell 1;have z2:=hbk.cell 2;have z3:=hbk.cell 3;simp only[List.getElem?_cons_zero,List.getElem?_cons_succ]at z0 z1 z2 z3;have hgl:=hbk.lt;have HM:=O (World.ownsMap_made (H:=Unit) w Tryz.prog 9 (plainElem Tryz.prog 4));have hlk:=fun(W:World)(h:W.ownsMap Tryz.prog 9 (plainElem (H:=Unit) Tryz.prog 4) w.heap.size 0 (.map []))=>Mv (s:=mainL) (by decide) h;have hl1:=hlk _ (HM.out.alloc (.cells #[str mainL,.bool false,.slice none 0 0,.slice (some ⟨G,0,none⟩) 1 cap] 51 (0,0)));clear hbk hlk;have hkey:keyOf Tryz.prog 9 (str mainL)=some _:=keyOf_string_mk (s:=⟨mainL.toArray⟩) underlying9 (by decide);go_wp2_with (at_mapUpdate;refine wpList_mapUpdate_own _ rfl _ _ _ 125 rfl 9 4 lawS underlying125 (plainElem (H:=Unit) Tryz.prog 4) w.heap.size 0 _ rfl (HM.out.alloc _) (by unfold maxLen;omega) _ _ _ rfl rfl hkey _ [] (plainElem_bool underlying4 true) ?_;intro w1 hown1 hgrow1);have gwx:w.grownBy w1 none:=Ar (Ad (World.grownBy_alloc w _ none) _) hgrow1 (.inr (Nat.le_refl _));clear hown1 hgrow1;go_roundg 0
   case measure=>omega
   case rel=>exact .inr ⟨rfl,rfl,gwx⟩
  ·have HG:=O hg;clear hg;go_wp2;go_ret;exact⟨rfl,HG.out⟩
def EP:Bs:=[105,102,32,61,32,49]
def GU:Bs:=[97,45,62,98,32,43,32,49]
def toksIf:List Tok:=[⟨0,0,[73,70]⟩,⟨4,3,[61]⟩,⟨1,5,[49]⟩,⟨5,6,[]⟩]
theorem RQ:Em EP= .ok toksIf:=by kernel_rfl
def xAb:Ex:=Aw [43] ⟨hd0 2 [65],.one (A6 [66])⟩ (Az 2 1 [])
theorem pe_ab:peM GU= .ok xAb 6:=by kernel_rfl
def ET:Ex:=Az 2 1 []
theorem tg_if:DI toksIf (A8 toksIf AJ 10) 0= .ok (A6 [73,70]) 1:=by kernel_rfl
theorem ex_if:A8 toksIf AJ 10 2= .ok ET 3:=by kernel_rfl
theorem RJ:C2 toksIf 3= .ok () 4:=by kernel_rfl
theorem Nc{w:World}(hg:Glob w){tv:Value}(ht:TRow w tv toksIf (fun _=>True))(hl:Dg AJ toksIf):
 Calls Tryz.prog 49 #[tv] w fun e w'=>∃v,e= .returned (.tuple #[v,.int .i64 (-1)])∧SetProg w.heap.size w' v (A6 [73,70]) ET∧w.grownBy w' none:=
 NQ hg hl ht (by decide) 10 rfl (by decide) tg_if (by decide) ex_if RJ rfl
theorem P4{w:World}(ht:Tabs w.heap.size w):Calls Tryz.prog 23 #[str EP] w fun e w'=>∃v,e= .returned (.tuple #[v,.int .i64 4,.int .i64 0])∧SetProg w.heap.size w' v (A6 [73,70]) ET∧w.grownBy w' none:=by
 have HL:=O (Ib ht EP (by decide));have HT:=O ht;clear ht;generalize hsrc:EP=src at*;go_enter func23,ntmps23;go_wp2_with fail;refine HL.out.mono ?_;rintro e w1 ⟨g1,h1⟩;rw[←hsrc,RQ]at h1;clear HL hsrc;obtain⟨v,rfl,hT,hTame,_⟩:=h1;obtain⟨ta,tc,rfl⟩:∃ta tc,v= .slice ta 4 tc:=by
  obtain⟨a,cap,e,_⟩:=hT;exact⟨a,cap,e⟩
 have HP:=O (Nc (HT.out.gbN g1).glob (hT.mono fun _ _ _=>trivial) hTame);have HG:=O g1;have e4:((toksIf.length:Nat):Int)=4:=rfl;rw[e4];clear hT hTame g1 e4;go_wp2_with fail;refine HP.out.mono ?_;rintro e w2 ⟨v,rfl,hS,g2⟩;have HS:=O (Z hS (Aa HG.out g2));have H1:=O (LJ hS);obtain⟨kP,bv,rfl,_⟩:=hS;clear g2;go_wp2_with fail;refine H1.out.mono ?_;rintro e w3 ⟨rfl,g3⟩;have H2:=O (LU (HS.out.1.gb g3 (by simp)) (by decide));go_wp2_with fail;refine H2.out.mono ?_;rintro e w4 ⟨rfl,g4⟩;go_wp2_with fail;refine(EU _ _ _).mono ?_;rintro e w5 ⟨rfl,g5⟩;have hf:AL (1+(Fo.two (A6 [73,70]) ET).nodes) (1+(Fo.two (A6 [73,70]) ET).levels)=false:=by decide
 rw[hf];have HF:=O (Z (SetProg.mono (((HS.out.1.gb g3 (by simp)).gb g4 (by simp)).gb g5 (by simp)) (by have h1:=HG.out.size;exact h1)) (Aa (Aa (Aa HS.out.2 g3) g4) g5));clear g3 g4 g5 hf;go_wp2;exact bodyPost_ret (v:= .tuple #[.slice (some ⟨kP,0,none⟩) 1 1,.int .i64 4,.int .i64 0]) (by simp[results,results23,go_sem]) rfl ⟨_,rfl,HF.out.1,HF.out.2⟩
end Go.Proofs.YtgjdhajcnechdaaGreatDoor
