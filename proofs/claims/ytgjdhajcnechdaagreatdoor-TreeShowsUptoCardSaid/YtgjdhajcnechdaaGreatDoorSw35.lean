/-
  The reference's reader: prim at a word, a macro, a sign.
-/
import Derived.Test.YtgjdhajcnechdaaGreatDoorSw33
set_option linter.all false
set_option maxRecDepth 100000
set_option maxHeartbeats 8000000
namespace Go.Proofs.YtgjdhajcnechdaaGreatDoor
open Go.Proofs.Tryz
open Go.RowKit
section
variable {b:Nat}{tv:Value}{l:List Tok}
theorem Mz{E:FR Ex}(n:Nat){w:World}{i:Nat}(h:Rr w b tv l (i,true)){r:Ex×RS}(ho:Ci l AO E n (i,true)=some r):
 Calls Tryz.prog 304 #[.pointer (some ⟨b,0,none⟩)] w (B9 b tv l w (VEx w) r):=by
 have hb:=h.lt;have gz:w.grownBy (w.alloc (.cells zeroE.toArray 27 (0,0))) (some b):=Ad (Ac _ _) _;have hz:=Blk.new w zeroE 27;have h0:=h.alloc (.cells zeroE.toArray 27 (0,0));have c2:=h0.c2;have hq:some (BH,((i,true):RS))=some r:=ho;cases hq;have HR:=O (Z gz (Z h0 hz));simp only at c2;clear ho gz h0 hz;go_enter func304,ntmps304;go_wp2;exact bodyPost_ret (Al (hd:=hd0 0 []) (pv:= .slice none 0 0) (lv:= .slice none 0 0) rfl _ HR.out.2.2 rfl) rfl ⟨HR.out.1,_,rfl,⟨none,0,none,0,rfl,Cells.nil _ _ _,RepL.nil _ _⟩,HR.out.2.1⟩
theorem Oc{E:FR Ex}(n:Nat)(hN:CR 319 b tv l (Ed l E n)){w:World}{i:Nat}(h:Rr w b tv l (i,false)){r:Ex×RS}
 (ho:Ci l AO E n (i,false)=some r) (hk:(Ab l i).kind=0):
 Calls Tryz.prog 304 #[.pointer (some ⟨b,0,none⟩)] w (B9 b tv l w (VEx w) r):=by
 have hb:=h.lt;have gz:w.grownBy (w.alloc (.cells zeroE.toArray 27 (0,0))) (some b):=Ad (Ac _ _) _;have hz:=Blk.new w zeroE 27;have h0:=h.alloc (.cells zeroE.toArray 27 (0,0));have c2:=h0.c2;have HT0:=O (DW h0);unfold Ci at ho;simp only[Bool.false_eq_true,if_false]at ho;rw[if_neg (by omega),if_neg (by omega),if_neg (by omega),if_pos hk]at ho;have H:=O (Z hN (Z hz (Z gz h0)));have HO:=O ho;simp only at HT0 c2;generalize htt:Ab l i=t at*;have hk1:(t.kind==1)=false:=by simp;omega
 have hk2:(t.kind==2)=false:=by simp;omega
 have hk3:(t.kind==3)=false:=by simp;omega
 have hk0:(t.kind==0)=true:=by simp;omega
 clear hN hz gz h0 htt ho hk;go_enter func304,ntmps304;go_wp2_with fail;refine HT0.out.mono ?_;rintro e w1 ⟨rfl,g1⟩;have hZ1:=(H.out.2.1.gb g1 (by simp)).alloc (.cells #[.int .i64 t.kind,.int .i64 t.pos,str t.text] 105 (0,0));have hR1:=(H.out.2.2.2.gbN g1).alloc (.cells #[.int .i64 t.kind,.int .i64 t.pos,str t.text] 105 (0,0));have hTk:=Blk.new w1 [.int .i64 t.kind,.int .i64 t.pos,str t.text] 105;have G1:=O (Ad (Ag H.out.2.2.1 g1) (.cells #[.int .i64 t.kind,.int .i64 t.pos,str t.text] 105 (0,0)));have hb1:b<w1.heap.size:=Nat.lt_of_lt_of_le H.out.2.2.2.lt g1.size;have hw1:w.heap.size<w1.heap.size:=Nat.lt_of_lt_of_le (by simp) g1.size;clear g1 HT0;have G0:=G1;have hZ:=hZ1;have hltZ:=hZ.lt;have HC:=O (H.out.1 _ _ _ hR1 HO.out);clear hR1 hZ1 G1;generalize hW:w1.alloc (.cells #[.int .i64 t.kind,.int .i64 t.pos,str t.text] 105 (0,0))=W at*;have d0:=hTk.cell 0;have d2:=hTk.cell 2;simp only[List.getElem?_cons_zero,List.getElem?_cons_succ]at d0 d2;go_wp2_with fail;refine(HC.out).mono ?_;rintro e w5 ⟨g5,v,rfl,⟨pa,pc,la,lc,rfl,rp,rl⟩,h5⟩;simp only at rp rl h5 ⊢;have hZ5:=hZ.gb g5 (by simp;omega);have HE:=O (Z (Aa G0.out g5) (Z rp (Z rl h5)));clear g5 rp rl h5 hZ;obtain⟨cz_0,cz_1,cz_2,cz_3,cz_4,cz_5,cz_6,cz_f⟩:=(hZ5).c7;go_wp2;exact bodyPost_ret (Al rfl _ (hZ5.set7 _ _ _ _ _ _ _) rfl) rfl (Bh hb HE.out.1 ⟨_,_,_,_,rfl,HE.out.2.1,HE.out.2.2.1⟩ (by intro k hk;have:(W).heap.size≤k:=hk;omega) HE.out.2.2.2 (Ah _ _ _ _ _ _ _ _ _))
theorem My{E:FR Ex}(hM:CR 320 b tv l (Fc l E))(n:Nat){w:World}{i:Nat}(h:Rr w b tv l (i,false)){r:Ex×RS}
 (ho:Ci l AO E n (i,false)=some r) (h38:Ae (Ab l i) [38]=true):
 Calls Tryz.prog 304 #[.pointer (some ⟨b,0,none⟩)] w (B9 b tv l w (VEx w) r):=by
 have hb:=h.lt;have gz:w.grownBy (w.alloc (.cells zeroE.toArray 27 (0,0))) (some b):=Ad (Ac _ _) _;have hz:=Blk.new w zeroE 27;have h0:=h.alloc (.cells zeroE.toArray 27 (0,0));have c2:=h0.c2;have HT0:=O (DW h0);have hk:(Ab l i).kind=4:=by simp[Ae]at h38;exact h38.1
 unfold Ci at ho;simp only[Bool.false_eq_true,if_false]at ho;rw[if_neg (by omega),if_neg (by omega),if_neg (by omega),if_neg (by omega),if_pos h38]at ho;have H:=O (Z hM (Z hz (Z gz h0)));have HO:=O ho;simp only at HT0 c2;generalize htt:Ab l i=t at*;have hk1:(t.kind==1)=false:=by simp;omega
 have hk2:(t.kind==2)=false:=by simp;omega
 have hk3:(t.kind==3)=false:=by simp;omega
 have hk0:(t.kind==0)=false:=by simp;omega
 clear hM hz gz h0 ho hk;go_enter func304,ntmps304;go_wp2_with fail;refine HT0.out.mono ?_;rintro e w1 ⟨rfl,g1⟩;have hZ1:=(H.out.2.1.gb g1 (by simp)).alloc (.cells #[.int .i64 t.kind,.int .i64 t.pos,str t.text] 105 (0,0));have hR1:=(H.out.2.2.2.gbN g1).alloc (.cells #[.int .i64 t.kind,.int .i64 t.pos,str t.text] 105 (0,0));have hTk:=Blk.new w1 [.int .i64 t.kind,.int .i64 t.pos,str t.text] 105;have G1:=O (Ad (Ag H.out.2.2.1 g1) (.cells #[.int .i64 t.kind,.int .i64 t.pos,str t.text] 105 (0,0)));have hb1:b<w1.heap.size:=Nat.lt_of_lt_of_le H.out.2.2.2.lt g1.size;have hw1:w.heap.size<w1.heap.size:=Nat.lt_of_lt_of_le (by simp) g1.size;clear g1 HT0;have HI:=O (EJ hR1 0 (by omega) [38]);rw[Nat.add_zero,htt,h38]at HI;clear htt;generalize hW:w1.alloc (.cells #[.int .i64 t.kind,.int .i64 t.pos,str t.text] 105 (0,0))=W at*;have d0:=hTk.cell 0;have d2:=hTk.cell 2;simp only[List.getElem?_cons_zero,List.getElem?_cons_succ]at d0 d2;go_wp2_with fail;refine HI.out.mono ?_;rintro e w2 ⟨rfl,g2⟩;have hR2:=hR1.gbN g2;have hZ:=hZ1.gb g2 (by simp);have G0:=O (Ag G1.out g2);have hltZ:=hZ.lt;have hb2:=hR2.lt;have HC:=O (H.out.1 _ _ _ hR2 HO.out);clear g2 hR2 hR1 hZ1 HI hTk d0 d2;go_wp2_with fail;refine(HC.out).mono ?_;rintro e w5 ⟨g5,v,rfl,⟨pa,pc,la,lc,rfl,rp,rl⟩,h5⟩;simp only at rp rl h5 ⊢;have hZ5:=hZ.gb g5 (by simp;omega);have HE:=O (Z (Aa G0.out g5) (Z rp (Z rl h5)));clear g5 rp rl h5 hZ;obtain⟨cz_0,cz_1,cz_2,cz_3,cz_4,cz_5,cz_6,cz_f⟩:=(hZ5).c7;go_wp2
 exact bodyPost_ret (Al rfl _ (hZ5.set7 _ _ _ _ _ _ _) rfl) rfl (Bh hb HE.out.1 ⟨_,_,_,_,rfl,HE.out.2.1,HE.out.2.2.1⟩ (by intro k hk;have:(w2).heap.size≤k:=hk;omega) HE.out.2.2.2 (Ah _ _ _ _ _ _ _ _ _))
theorem Ob{E:FR Ex}(hE:CR 48 b tv l E)(n:Nat)(hB:CR 322 b tv l (Ez l E n)){w:World}{i:Nat}(h:Rr w b tv l (i,false)){r:Ex×RS}
 (ho:DX l E n (i,false)=some r) (h38:Ae (Ab l i) [38]=false) (hk:(Ab l i).kind≠1∧(Ab l i).kind≠2∧(Ab l i).kind≠3∧(Ab l i).kind≠0):
 Calls Tryz.prog 304 #[.pointer (some ⟨b,0,none⟩)] w (B9 b tv l w (VEx w) r):=by
 have hb:=h.lt;have gz:w.grownBy (w.alloc (.cells zeroE.toArray 27 (0,0))) (some b):=Ad (Ac _ _) _;have hz:=Blk.new w zeroE 27;have h0:=h.alloc (.cells zeroE.toArray 27 (0,0));have c2:=h0.c2;have HT0:=O (DW h0);have H:=O (Z hE (Z hz (Z gz (show Rr _ b tv l (i,false)from h0))));have HB:=O hB;have HO:=O ho;simp only at HT0 c2;generalize htt:Ab l i=t at*;have hk1:(t.kind==1)=false:=by simpa using hk.1
 have hk2:(t.kind==2)=false:=by simpa using hk.2.1
 have hk3:(t.kind==3)=false:=by simpa using hk.2.2.1
 have hk0:(t.kind==0)=false:=by simpa using hk.2.2.2
 clear hE hB hz gz h0 ho hk;go_enter func304,ntmps304;go_wp2_with fail;refine HT0.out.mono ?_;rintro e w1 ⟨rfl,g1⟩;have hZ1:=(H.out.2.1.gb g1 (by simp)).alloc (.cells #[.int .i64 t.kind,.int .i64 t.pos,str t.text] 105 (0,0));have hR1:=(H.out.2.2.2.gbN g1).alloc (.cells #[.int .i64 t.kind,.int .i64 t.pos,str t.text] 105 (0,0));have hTk:=Blk.new w1 [.int .i64 t.kind,.int .i64 t.pos,str t.text] 105;have G1:=O (Ad (Ag H.out.2.2.1 g1) (.cells #[.int .i64 t.kind,.int .i64 t.pos,str t.text] 105 (0,0)));have hb1:b<w1.heap.size:=Nat.lt_of_lt_of_le H.out.2.2.2.lt g1.size;have hw1:w.heap.size<w1.heap.size:=Nat.lt_of_lt_of_le (by simp) g1.size;clear g1 HT0;generalize hW:w1.alloc (.cells #[.int .i64 t.kind,.int .i64 t.pos,str t.text] 105 (0,0))=W at*;have d0:=hTk.cell 0;have d2:=hTk.cell 2;simp only[List.getElem?_cons_zero,List.getElem?_cons_succ]at d0 d2;have HI:=O (EJ hR1 0 (by omega) [38]);rw[Nat.add_zero,htt,h38]at HI;clear htt;go_wp2_with fail;refine HI.out.mono ?_;rintro e w2 ⟨rfl,g2⟩;have hR2:=hR1.gbN g2;have hZ2:=hZ1.gb g2 (by simp);have G2:=O (Ag G1.out g2);have hb2:=hR2.lt;have HS:=O (D3 hR2 primL (by decide) (by decide) w2.heap.size rfl 6 rfl);have hB2:=hZ2.alloc (.cells (primL.map str).toArray 9 (0,0));have hG2:=Ad G2.out (.cells (primL.map str).toArray 9 (0,0));have hltw:=hZ2.lt;clear g2 hR2 hR1 hZ1 HI hTk;go_wp2_with fail;refine HS.out.mono ?_;rintro e w3 ⟨g3,v,rfl,rfl,h3⟩;have hZ:=hB2.gb g3 (by simp;omega);have HR:=O (Z (Aa hG2 g3) h3)
 have hw3:w.heap.size<w3.heap.size:=hZ.lt;have hb3:=h3.lt;clear g3 h3 HS hB2 hG2 hZ2;clear d0 d2;have ho:=HO.out;unfold DX at ho;rw[show(A6 l primL (i,false)).1=Au l primL (i,false)from rfl];have hin:Au l primL (i,false)=[]∨Au l primL (i,false)∈primL:=by
  by_cases he:Au l primL (i,false)=[]
  ·exact .inl he
  ·exact .inr (Jf he)
 try simp only at HR
 generalize(A6 l primL (i,false)).2=st2 at*;generalize Au l primL (i,false)=S at*;have hS:S=[]∨S=[46,84,46]∨S=[46,70,46]∨S=[46,78,85,76,76,46]∨S=[40]∨S=[123]∨S=[64]:=by
  rcases hin with h|h
  ·exact .inl h
  ·right;simpa[primL]using h
 clear hin HO;rcases hS with rfl|rfl|rfl|rfl|rfl|rfl|rfl
 ·have hq:some (BH,((st2.1,true):RS))=some r:=ho;cases hq;clear ho;go_wp2_with fail;refine(Eo HR.out.2).mono ?_;rintro e w4 ⟨g4,v,rfl,rfl,h4⟩;replace hZ:=hZ.gb g4 (by simp;omega);replace HR:=O (Z (Aa HR.out.1 g4) h4);have hlt4:=hZ.lt;clear g4 h4;obtain⟨cz_0,cz_1,cz_2,cz_3,cz_4,cz_5,cz_6,cz_f⟩:=(hZ).c7;go_wp2;exact bodyPost_ret (Al (hd:=(BH:Ex).h) (pv:= .slice none 0 0) (lv:= .slice none 0 0) rfl _ (hZ.set7 _ _ _ _ _ _ _) rfl) rfl (Bh (ok:=fun k=>w.heap.size<k) (x:=BH) hb HR.out.1 ⟨none,0,none,0,rfl,Cells.nil _ _ _,RepL.nil _ _⟩ (fun k hk=>hk) HR.out.2 (Ah _ _ _ _ _ _ _ _ _))
 ·have hq:some (A0 1 1 [],st2)=some r:=ho;cases hq;clear ho;go_wp2_with fail;refine(IJ true _).mono ?_;rintro e w4 ⟨rfl,g4⟩;replace hZ:=hZ.gb g4 (by simp);replace HR:=O (Z (Ag HR.out.1 g4) (HR.out.2.gbN g4));have hlt4:=hZ.lt;clear g4;obtain⟨cz_0,cz_1,cz_2,cz_3,cz_4,cz_5,cz_6,cz_f⟩:=(hZ).c7;go_wp2;exact bodyPost_ret (Al (hd:=(A0 1 1 []:Ex).h) (pv:= .slice none 0 0) (lv:= .slice none 0 0) rfl _ (hZ.set7 _ _ _ _ _ _ _) rfl) rfl (Bh (ok:=fun k=>w.heap.size<k) (x:=A0 1 1 []) hb HR.out.1 ⟨none,0,none,0,rfl,Cells.nil _ _ _,RepL.nil _ _⟩ (fun k hk=>hk) HR.out.2 (Ah _ _ _ _ _ _ _ _ _))
 ·have hq:some (A0 1 0 [],st2)=some r:=ho;cases hq;clear ho;go_wp2_with fail;refine(IJ false _).mono ?_;rintro e w4 ⟨rfl,g4⟩;replace hZ:=hZ.gb g4 (by simp);replace HR:=O (Z (Ag HR.out.1 g4) (HR.out.2.gbN g4));have hlt4:=hZ.lt;clear g4;obtain⟨cz_0,cz_1,cz_2,cz_3,cz_4,cz_5,cz_6,cz_f⟩:=(hZ).c7;go_wp2;exact bodyPost_ret (Al (hd:=(A0 1 0 []:Ex).h) (pv:= .slice none 0 0) (lv:= .slice none 0 0) rfl _ (hZ.set7 _ _ _ _ _ _ _) rfl) rfl (Bh (ok:=fun k=>w.heap.size<k) (x:=A0 1 0 []) hb HR.out.1 ⟨none,0,none,0,rfl,Cells.nil _ _ _,RepL.nil _ _⟩ (fun k hk=>hk) HR.out.2 (Ah _ _ _ _ _ _ _ _ _))
 ·have hq:some (BH,st2)=some r:=ho;cases hq;clear ho;obtain⟨cz_0,cz_1,cz_2,cz_3,cz_4,cz_5,cz_6,cz_f⟩:=(hZ).c7;go_wp2;exact bodyPost_ret (Al (hd:=(BH:Ex).h) (pv:= .slice none 0 0) (lv:= .slice none 0 0) rfl _ (hZ.set7 _ _ _ _ _ _ _) rfl) rfl (Bh (ok:=fun k=>w.heap.size<k) (x:=BH) hb HR.out.1 ⟨none,0,none,0,rfl,Cells.nil _ _ _,RepL.nil _ _⟩ (fun k hk=>hk) HR.out.2 (Ah _ _ _ _ _ _ _ _ _))
 ·have hq:(E st2).bind (fun r=>some (r.1,AR l [41] r.2))=some r:=ho;obtain⟨⟨x,st4⟩,hx,hq⟩:=Option.bind_eq_some_iff.1 hq;simp only at hq;cases hq;have HC:=O (H.out.1 _ _ _ HR.out.2 hx);have HZ:=O hZ;clear ho hx hZ;go_wp2_with fail;refine HC.out.mono ?_;rintro e w5 ⟨g5,v,rfl,⟨pa,pc,la,lc,rfl,rp,rl⟩,h5⟩;simp only at rp rl h5 ⊢;have HK:=O (KpR.new hb HZ.out HR.out.1 hw3 g5 rp rl h5);have hb5:=h5.lt;clear rp rl h5 HC g5 HZ;go_wp2_with fail;refine(CO HK.out.rr [41]).mono ?_;rintro e w6 ⟨g6,v,rfl,rfl,h6⟩;have HK2:=O (HK.out.gb hb g6 h6);clear g6 h6 HK;have hltz:=HK2.out.zero.lt;have hk2:=HK2.out;have hL:=hk2.blk;have hZ:=hk2.zero;have hwL:=hk2.wL;clear hk2;obtain⟨cl_0,cl_1,cl_2,cl_3,cl_4,cl_5,cl_6,cl_f⟩:=(hL).c7;obtain⟨cz_0,cz_1,cz_2,cz_3,cz_4,cz_5,cz_6,cz_f⟩:=(hZ).c7;go_wp2;have hk:=HK2.out;have g7:=Ah w6 w.heap.size (.int .i64 x.h.op) (str x.h.s) (.int .i64 x.h.vk) (.int .i64 x.h.vn) (str x.h.vs) (.slice pa x.h.p.length pc) (.slice la x.kids.len lc);exact bodyPost_ret (Al rfl _ (hZ.set7 _ _ _ _ _ _ _) rfl) rfl (Bh hb hk.gr hk.ve (by intro k hk;exact hk.1) hk.rr g7)
 ·have hq:Ez l E n st2=some r:=ho;have HC:=O (HB.out _ _ _ HR.out.2 hq);have G0:=O HR.out.1;clear ho hq;go_wp2_with fail;refine(HC.out).mono ?_;rintro e w5 ⟨g5,v,rfl,⟨pa,pc,la,lc,rfl,rp,rl⟩,h5⟩;simp only at rp rl h5 ⊢;have hZ5:=hZ.gb g5 (by simp;omega);have HE:=O (Z (Aa G0.out g5) (Z rp (Z rl h5)));clear g5 rp rl h5 hZ;obtain⟨cz_0,cz_1,cz_2,cz_3,cz_4,cz_5,cz_6,cz_f⟩:=(hZ5).c7;go_wp2;exact bodyPost_ret (Al rfl _ (hZ5.set7 _ _ _ _ _ _ _) rfl) rfl (Bh hb HE.out.1 ⟨_,_,_,_,rfl,HE.out.2.1,HE.out.2.2.1⟩ (by intro k hk;have:(w3).heap.size≤k:=hk;omega) HE.out.2.2.2 (Ah _ _ _ _ _ _ _ _ _))
 ·have hq:some ((⟨hd0 10 (A3 l st2).1,.nil⟩:Ex),(A3 l st2).2)=some r:=ho;cases hq;have HC:=O (En HR.out.2);clear ho;go_wp2_with fail;refine HC.out.mono ?_;rintro e w4 ⟨g4,v,rfl,rfl,h4⟩;replace hZ:=hZ.gb g4 (by simp;omega);replace HR:=O (Z (Aa HR.out.1 g4) h4);have hlt4:=hZ.lt;simp only at HR ⊢;generalize(A3 l st2).1=s at*;generalize(A3 l st2).2=st3 at*;clear g4 h4 HC;obtain⟨cz_0,cz_1,cz_2,cz_3,cz_4,cz_5,cz_6,cz_f⟩:=(hZ).c7;go_wp2;exact bodyPost_ret (Al (hd:=((⟨hd0 10 s,.nil⟩:Ex):Ex).h) (pv:= .slice none 0 0) (lv:= .slice none 0 0) rfl _ (hZ.set7 _ _ _ _ _ _ _) rfl) rfl (Bh (ok:=fun k=>w.heap.size<k) (x:=(⟨hd0 10 s,.nil⟩:Ex)) hb HR.out.1 ⟨none,0,none,0,rfl,Cells.nil _ _ _,RepL.nil _ _⟩ (fun k hk=>hk) HR.out.2 (Ah _ _ _ _ _ _ _ _ _))
theorem OI{E:FR Ex}(n:Nat){w:World}{i:Nat}(h:Rr w b tv l (i,false)){r:Ex×RS}
 (ho:Ci l AO E n (i,false)=some r) (hk:(Ab l i).kind=2) (hlen:2048<(Ab l i).text.length):
 Calls Tryz.prog 304 #[.pointer (some ⟨b,0,none⟩)] w (B9 b tv l w (VEx w) r):=by
 have hb:=h.lt;have gz:w.grownBy (w.alloc (.cells zeroE.toArray 27 (0,0))) (some b):=Ad (Ac _ _) _;have hz:=Blk.new w zeroE 27;have h0:=h.alloc (.cells zeroE.toArray 27 (0,0));have c2:=h0.c2;have HT0:=O (DW h0);have h38:∀s,Ae (Ab l i) s=false:=by intro s;simp[Ae,hk]
 have hs:Au l primL (i,false)=[]:=by
  unfold Au;simp only[Bool.false_eq_true,if_false];rw[List.find?_eq_none.2 (fun x _=>by rw[h38];simp)];rfl
 have hr:r=(BH,((i,true):RS)):=by
  unfold Ci at ho;simp only[Bool.false_eq_true,if_false]at ho;rw[if_neg (by omega),if_neg (by omega),if_neg (by omega),if_neg (by omega),if_neg (by rw[h38];simp)]at ho;unfold DX at ho;have e:(A6 l primL (i,false)).2=(i,false):=by unfold A6;rw[hs];rfl
  rw[hs,e]at ho;have hq:some (BH,((i,true):RS))=some r:=ho;cases hq;rfl
 subst hr;have H:=O (Z True.intro (Z hz (Z gz (show Rr _ b tv l (i,false)from h0))));have h38:=h38 [38];have e2:(A6 l primL (i,false)).2=(i,false):=by unfold A6;rw[hs];rfl
 have HSN:=O (Z hs e2);simp only at HT0 c2;generalize htt:Ab l i=t at*;have hk1:(t.kind==1)=false:=by simp;omega
 have hk2:(t.kind==2)=true:=by simpa using hk
 have hk3:(t.kind==3)=false:=by simp;omega
 have hk0:(t.kind==0)=false:=by simp;omega
 have hl1:decide ((t.text.length:Int)≤2048)=false:=by simp;omega
 clear hz gz h0 ho hk hs hlen e2;go_enter func304,ntmps304;go_wp2_with fail;refine HT0.out.mono ?_;rintro e w1 ⟨rfl,g1⟩;have hZ1:=(H.out.2.1.gb g1 (by simp)).alloc (.cells #[.int .i64 t.kind,.int .i64 t.pos,str t.text] 105 (0,0));have hR1:=(H.out.2.2.2.gbN g1).alloc (.cells #[.int .i64 t.kind,.int .i64 t.pos,str t.text] 105 (0,0));have hTk:=Blk.new w1 [.int .i64 t.kind,.int .i64 t.pos,str t.text] 105;have G1:=O (Ad (Ag H.out.2.2.1 g1) (.cells #[.int .i64 t.kind,.int .i64 t.pos,str t.text] 105 (0,0)));have hb1:b<w1.heap.size:=Nat.lt_of_lt_of_le H.out.2.2.2.lt g1.size;have hw1:w.heap.size<w1.heap.size:=Nat.lt_of_lt_of_le (by simp) g1.size;clear g1 HT0;generalize hW:w1.alloc (.cells #[.int .i64 t.kind,.int .i64 t.pos,str t.text] 105 (0,0))=W at*;have d0:=hTk.cell 0;have d2:=hTk.cell 2;have hlT:=hTk.lt;simp only[List.getElem?_cons_zero,List.getElem?_cons_succ]at d0 d2;have HI:=O (EJ hR1 0 (by omega) [38]);rw[Nat.add_zero,htt,h38]at HI;clear htt;go_wp2_with fail;refine HI.out.mono ?_;rintro e w2 ⟨rfl,g2⟩;have hR2:=hR1.gbN g2;have hZ2:=hZ1.gb g2 (by simp);have G2:=O (Ag G1.out g2);have hb2:=hR2.lt;have HS:=O (D3 hR2 primL (by decide) (by decide) w2.heap.size rfl 6 rfl);have hB2:=hZ2.alloc (.cells (primL.map str).toArray 9 (0,0));have hG2:=Ad G2.out (.cells (primL.map str).toArray 9 (0,0));have hltw:=hZ2.lt;clear g2 hR2 hR1 hZ1 HI hTk;go_wp2_with fail;refine HS.out.mono ?_;rintro e w3 ⟨g3,v,rfl,rfl,h3⟩;have hZ:=hB2.gb g3 (by simp;omega);have HR:=O (Z (Aa hG2 g3) h3)
 have hw3:w.heap.size<w3.heap.size:=hZ.lt;have hb3:=h3.lt;clear g3 h3 HS hB2 hG2 hZ2;clear d0 d2;rw[show(A6 l primL (i,false)).1=[]from HSN.out.1];rw[HSN.out.2]at HR;go_wp2_with fail;refine(Eo HR.out.2).mono ?_;rintro e w4 ⟨g4,v,rfl,rfl,h4⟩;replace hZ:=hZ.gb g4 (by simp;omega);replace HR:=O (Z (Aa HR.out.1 g4) h4);have hlt4:=hZ.lt;clear g4 h4;obtain⟨cz_0,cz_1,cz_2,cz_3,cz_4,cz_5,cz_6,cz_f⟩:=(hZ).c7;go_wp2;exact bodyPost_ret (Al (hd:=(BH:Ex).h) (pv:= .slice none 0 0) (lv:= .slice none 0 0) rfl _ (hZ.set7 _ _ _ _ _ _ _) rfl) rfl (Bh (ok:=fun k=>w.heap.size<k) (x:=BH) hb HR.out.1 ⟨none,0,none,0,rfl,Cells.nil _ _ _,RepL.nil _ _⟩ (fun k hk=>hk) HR.out.2 (Ah _ _ _ _ _ _ _ _ _))
theorem OH{E:FR Ex}(hE:CR 48 b tv l E)(hok:∀i,TokW (Ab l i))(n:Nat)(hn:n≤4000000):CR 304 b tv l (Ci l AO E n):=by
 rintro w ⟨i,f⟩ r h ho;cases f with
 |true=>exact Mz n h ho
 | false=>
   by_cases h0:(Ab l i).kind=0
   ·exact Oc n (Nl hE n hn) h ho h0
   by_cases h1:(Ab l i).kind=1
   ·exact Gg hE n hok h ho (.inl h1)
   by_cases h3:(Ab l i).kind=3
   ·exact Gg hE n hok h ho (.inr (.inr h3))
   by_cases h2:(Ab l i).kind=2
   ·by_cases hl:(Ab l i).text.length≤2048
    ·exact Gg hE n hok h ho (.inr (.inl ⟨h2,hl⟩))
    ·exact OI n h ho h2 (by omega)
   cases h38:Ae (Ab l i) [38]with
   |true=>exact My (Nk hE) n h ho h38
   | false=>
     refine Ob hE n (Mv hE n hn) h ?_ h38 ⟨h1,h2,h3,h0⟩;unfold Ci at ho;simp only[Bool.false_eq_true,if_false]at ho;rw[if_neg h1,if_neg (by omega),if_neg h3,if_neg h0,if_neg (by rw[h38];simp)]at ho;exact ho
theorem Nj(hok:∀i,TokW (Ab l i)):∀n,n≤4000000→CR 48 b tv l (FU l AO n):=by
 have step:∀(g:FR Ex)(n:Nat),n≤4000000→CR 48 b tv l g→CR 48 b tv l (Fi l AO g n):=fun g n hn hg=>
  Ni (Qs (Qt (Qw (OJ (Qv (Oe hg (OH hg hok n hn) n n) n) n) n) n) n) n
 intro n;induction n with
 |zero=>exact fun _=>step _ 1 (by omega) (fun w st r _ ho=>by cases ho)
 |succ n ih=>exact fun hn=>step _ (n+1) hn (ih (by omega))
end
end Go.Proofs.YtgjdhajcnechdaaGreatDoor
