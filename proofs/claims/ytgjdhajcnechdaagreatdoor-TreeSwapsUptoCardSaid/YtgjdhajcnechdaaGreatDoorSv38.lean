/-
  The reference's reader: braces. The reference: Val, Unstamp.
-/
import Derived.Test.YtgjdhajcnechdaaGreatDoorSv36
import Derived.Test.YtgjdhajcnechdaaGreatDoorSv15
import Derived.Test.YtgjdhajcnechdaaGreatDoorSv26
import Derived.Test.YtgjdhajcnechdaaGreatDoorSv18
set_option linter.all false
set_option maxRecDepth 100000
set_option maxHeartbeats 8000000
namespace Go.Proofs.YtgjdhajcnechdaaGreatDoor
open Go.Proofs.Tryz
open Go.RowKit
section
variable {b:Nat}{tv:Value}{l:List Tok}{w wr:World}{L:Nat}{x z:Ex}{pa la ya ma:Option Addr}{pc lc yc mc:Nat}{st:RS}
theorem KpR.setP(h:KpR b tv l w L wr x pa pc la lc st){p:List Bs}(hp:Cells wr (.slice ya p.length yc) 1 p.length (p.map str) (but w L)):
 KpR b tv l w L (wr.setCell ⟨L,5,none⟩ (.slice ya p.length yc)) ⟨⟨x.h.op,x.h.s,x.h.vk,x.h.vn,x.h.vs,p⟩,x.kids⟩ ya yc la lc st:=by
 have g7:=AE (Ac wr (some L)) 5 (.slice ya p.length yc);have hbL:=h.bL;have hwL:=h.wL;have hk:∀q,but w L q→q<wr.heap.size→some q≠some L:=fun q hq _ e=>by cases e;exact hq.2 rfl
 exact⟨h.rr.gb g7 (by intro q e;cases e;exact hbL),(h.blk.set 5 _).of_eq rfl rfl,hp.gb g7 hk,h.rl.gb g7 hk,Ar h.gr g7 (.inr (by omega)),hbL,hwL,h.zero.gb g7 (by simp;omega)⟩
theorem KpR.setL(h:KpR b tv l w L wr x pa pc la lc st)(hb:b<w.heap.size)(zp:Cells wr (.slice ya z.h.p.length yc) 1 z.h.p.length (z.h.p.map str) (but w L))(zl:RepL (but w L) wr (.slice ma z.kids.len mc) z.kids):
 KpR b tv l w L ((wr.setCell ⟨L,6,none⟩ (.slice (some ⟨wr.heap.size,0,none⟩) 1 1)).alloc (.cells (hdC z.h (.slice ya z.h.p.length yc) (.slice ma z.kids.len mc)).toArray 27 (0,0))) ⟨x.h,.one z⟩ pa pc (some ⟨wr.heap.size,0,none⟩) 1 st:=by
 have g7:=AE (Ac wr (some L)) 6 (.slice (some ⟨wr.heap.size,0,none⟩) 1 1);have hbL:=h.bL;have hwL:=h.wL;have hlt:=h.blk.lt;have hk:∀q,but w L q→q<wr.heap.size→some q≠some L:=fun q hq _ e=>by cases e;exact hq.2 rfl
 have gA:=World.grownBy_alloc (wr.setCell ⟨L,6,none⟩ (.slice (some ⟨wr.heap.size,0,none⟩) 1 1)) (.cells (hdC z.h (.slice ya z.h.p.length yc) (.slice ma z.kids.len mc)).toArray 27 (0,0)) none;refine⟨(h.rr.gb g7 (by intro q e;cases e;exact hbL)).alloc _,((h.blk.set 6 _).of_eq rfl rfl).alloc _,(h.rp.gb g7 hk).gb gA (by simp),?_,Ad (Ar h.gr g7 (.inr (by omega))) _,hbL,hwL,(h.zero.gb g7 (by simp;omega)).alloc _⟩;exact RepL.one (n:=wr.heap.size) (by simp) ⟨by omega,by omega⟩ (zp.gb g7 hk) (zl.gb g7 hk)
theorem Ls{E:FR Ex}(hE:CR 48 b tv l E)(n:Nat)(hn:n≤4000000):CR 322 b tv l (Ef l E n):=by
 intro w st r h ho;have hb:=h.lt;have gz:w.grownBy (w.alloc (.cells zeroE.toArray 27 (0,0))) (some b):=Ad (Ac _ _) _;have hz:=Blk.new w zeroE 27;have h0:=h.alloc (.cells zeroE.toArray 27 (0,0));unfold Ef at ho;have HT:=O (BX h0 [124]);have H:=O (Z hE (Z hz gz));clear hE hz gz h0;cases hs:A2 l [124] st with
 | false=>
   rw[hs]at HT ho;have hq:(Dz l E n (Aj l [124] st)).bind (fun r=>some (⟨hd0 7 [],r.1⟩,AQ l [125] r.2))=some r:=ho;obtain⟨⟨f,st1⟩,hf,hq⟩:=Option.bind_eq_some_iff.1 hq;simp only at hq;cases hq;have HF:=O hf;clear ho hs hf;go_enter func322,ntmps322;go_wp2_with fail;refine HT.out.mono ?_;rintro e w1 ⟨g1,v,rfl,rfl,h1⟩;have hZ1:=H.out.2.1.gb g1 (by simp;omega);have G1:=O (Aa H.out.2.2 g1);have hlt1:=hZ1.lt;have HL:=O (IC H.out.1 h1 n hn HF.out);clear g1 h1 HT;go_wp2_with fail;refine HL.out.mono ?_;rintro e w2 ⟨g2,v,rfl,⟨la,lc,rfl,rl⟩,h2⟩;simp only at rl h2 ⊢;have hZ2:=hZ1.gb g2 (by simp;omega);have G2:=O (Aa G1.out g2);have HRL:=O rl;clear g2 rl hZ1 HL;go_wp2_with fail;refine(C7 h2 [125]).mono ?_;rintro e w4 ⟨g4,v,rfl,rfl,h4⟩;have hZ4:=hZ2.gb g4 (by simp;omega);have HE:=O (Z (Aa G2.out g4) (Z (HRL.out.gb g4 (by intro k hk _ e;cases e;have:w1.heap.size≤b:=hk;omega)) h4));clear g4 h4 hZ2 h2;obtain⟨cz_0,cz_1,cz_2,cz_3,cz_4,cz_5,cz_6,cz_f⟩:=(hZ4).c7;go_wp2;have g7:=Ag w4 w.heap.size (.int .i64 7) (str []) (.int .i64 0) (.int .i64 0) (str []) (.slice none 0 0) (.slice la f.len lc);exact bodyPost_ret (Ai (hd:=hd0 7 []) (pv:= .slice none 0 0) (lv:= .slice la f.len lc) rfl _ (hZ4.set7 _ _ _ _ _ _ _) rfl) rfl (Bf (x:=⟨hd0 7 [],f⟩) hb HE.out.1 (VE.node HE.out.2.1) (by intro k hk;have:w1.heap.size≤k:=hk;omega) HE.out.2.2 g7)
 | true=>
   rw[hs]at HT ho;simp only[if_true]at ho;obtain⟨⟨p,st2⟩,hp,ho⟩:=Option.bind_eq_some_iff.1 ho;simp only at ho;obtain⟨⟨z,st3⟩,hy,ho⟩:=Option.bind_eq_some_iff.1 ho;simp only at ho;cases ho;have HY:=O hy;have HP:=O hp;clear hs hy hp;go_enter func322,ntmps322;go_wp2_with fail;refine HT.out.mono ?_;rintro e w1 ⟨g1,v,rfl,rfl,h1⟩;have hZ1:=H.out.2.1.gb g1 (by simp;omega);have G1:=O (Aa H.out.2.2 g1);have hlt1:=hZ1.lt;have hb1:=h1.lt;simp only at h1;have HK:=O (KpR.new (x:=⟨hd0 8 [],.nil⟩) (pa:=none) (pc:=0) (la:=none) (lc:=0) hb hZ1 G1.out hlt1 (Ac w1 (some b)) (Cells.nil _ _ _) (RepL.nil _ _) h1);have hp:=HP.out;have HT2:=O (BX HK.out.rr [124]);clear g1 h1 HT hZ1 HP;cases hs2:A2 l [124] (Aj l [124] st)with
   | true=>
     rw[hs2]at HT2 hp;have hq:some (([]:List Bs),Aj l [124] (Aj l [124] st))=some (p,st2):=hp;cases hq;clear hp hs2;go_wp2_with fail;refine HT2.out.mono ?_;rintro e w2 ⟨g2,v,rfl,rfl,h2⟩;have HK2:=O (HK.out.gb hb g2 h2);clear g2 h2 HK HT2;have HC:=O (H.out.1 _ _ _ HK2.out.rr HY.out);have hLt:=HK2.out.blk.lt;have hwL:=HK2.out.wL;go_wp2_with fail;refine HC.out.mono ?_;rintro e w5 ⟨g5,v,rfl,⟨za,zc,na,nc,rfl,zp,zl⟩,h5⟩;simp only at zp zl h5 ⊢;have hs5:=g5.size;have hk5:=HK2.out.gb hb g5 h5;have hL5:=hk5.blk;have hin:∀q,AA (w2).heap.size q→but w w1.heap.size q:=fun q hq=>by have hq:(w2).heap.size≤q:=hq;exact⟨by omega,by omega⟩
     have HK5:=O (hk5.setL hb (zp.mono fun q hq _=>hin q hq) (zl.mono fun q hq _=>hin q hq));have hlt5:=hL5.lt;have hb5:=h5.lt;clear hk5 zp zl h5 g5 HC HK2 hin;obtain⟨cl_0,cl_1,cl_2,cl_3,cl_4,cl_5,cl_6,cl_f⟩:=(hL5).c7;go_wp2_with fail;refine(C7 HK5.out.rr [125]).mono ?_;rintro e w6 ⟨g6,v,rfl,rfl,h6⟩;have HK6:=O (HK5.out.gb hb g6 h6);clear g6 h6 HK5 cl_0 cl_1 cl_2 cl_3 cl_4 cl_5 cl_6 cl_f hL5;have hk6:=HK6.out;have hL6:=hk6.blk;have hZ6:=hk6.zero;have hltz:=hZ6.lt;have hlt6:=hL6.lt;clear hk6;obtain⟨cl_0,cl_1,cl_2,cl_3,cl_4,cl_5,cl_6,cl_f⟩:=(hL6).c7;obtain⟨cz_0,cz_1,cz_2,cz_3,cz_4,cz_5,cz_6,cz_f⟩:=(hZ6).c7;go_wp2;have hk:=HK6.out;have g7:=Ag w6 w.heap.size (.int .i64 8) (str []) (.int .i64 0) (.int .i64 0) (str []) (.slice none ([]:List Bs).length 0) (.slice (some ⟨w5.heap.size,0,none⟩) 1 1);exact bodyPost_ret (Ai (hd:=⟨8,[],0,0,[],[]⟩) (pv:= .slice none ([]:List Bs).length 0) (lv:= .slice (some ⟨w5.heap.size,0,none⟩) 1 1) rfl _ (hZ6.set7 _ _ _ _ _ _ _) rfl) rfl (Bf hb hk.gr hk.ve (by intro k hk;exact hk.1) hk.rr g7)
   | false=>
     rw[hs2]at HT2 hp;have hq:(EK l n (Aj l [124] (Aj l [124] st))).bind (fun p=>some (p.1,AQ l [124] p.2))=some (p,st2):=hp;obtain⟨⟨p2,st4⟩,hn2,hq⟩:=Option.bind_eq_some_iff.1 hq;simp only at hq;cases hq;have HN2:=O hn2;clear hp hs2 hn2;go_wp2_with fail;refine HT2.out.mono ?_;rintro e w2 ⟨g2,v,rfl,rfl,h2⟩;have HK2:=O (HK.out.gb hb g2 h2);have HM:=O (Ns h2 n hn HN2.out);have hlt2:=HK2.out.blk.lt;have hwL2:=HK2.out.wL;clear g2 h2 HK HT2;go_wp2_with fail;refine HM.out.mono ?_;rintro e w3 ⟨g3,v,rfl,⟨qa,qc,rfl,hcp⟩,h3⟩;simp only at hcp h3 ⊢;have hk3:=HK2.out.gb hb g3 h3;have hL3:=hk3.blk;have HK3:=O (hk3.setP (hcp.mono fun q hq _=>by have hq:w2.heap.size≤q:=hq;exact⟨by omega,by omega⟩));have hlt3:=hL3.lt;clear hk3 hcp h3 g3 HK2 HM;obtain⟨cl_0,cl_1,cl_2,cl_3,cl_4,cl_5,cl_6,cl_f⟩:=(hL3).c7;go_wp2_with fail;refine(C7 HK3.out.rr [124]).mono ?_;rintro e w4 ⟨g4,v,rfl,rfl,h4⟩;have HK2:=O (HK3.out.gb hb g4 h4);clear g4 h4 HK3 cl_0 cl_1 cl_2 cl_3 cl_4 cl_5 cl_6 cl_f hL3;have HC:=O (H.out.1 _ _ _ HK2.out.rr HY.out);have hLt:=HK2.out.blk.lt;have hwL:=HK2.out.wL;go_wp2_with fail;refine HC.out.mono ?_;rintro e w5 ⟨g5,v,rfl,⟨za,zc,na,nc,rfl,zp,zl⟩,h5⟩;simp only at zp zl h5 ⊢;have hs5:=g5.size;have hk5:=HK2.out.gb hb g5 h5;have hL5:=hk5.blk;have hin:∀q,AA (w4).heap.size q→but w w1.heap.size q:=fun q hq=>by have hq:(w4).heap.size≤q:=hq;exact⟨by omega,by omega⟩
     have HK5:=O (hk5.setL hb (zp.mono fun q hq _=>hin q hq) (zl.mono fun q hq _=>hin q hq));have hlt5:=hL5.lt;have hb5:=h5.lt;clear hk5 zp zl h5 g5 HC HK2 hin;obtain⟨cl_0,cl_1,cl_2,cl_3,cl_4,cl_5,cl_6,cl_f⟩:=(hL5).c7;go_wp2_with fail;refine(C7 HK5.out.rr [125]).mono ?_;rintro e w6 ⟨g6,v,rfl,rfl,h6⟩;have HK6:=O (HK5.out.gb hb g6 h6);clear g6 h6 HK5 cl_0 cl_1 cl_2 cl_3 cl_4 cl_5 cl_6 cl_f hL5;have hk6:=HK6.out;have hL6:=hk6.blk;have hZ6:=hk6.zero;have hltz:=hZ6.lt;have hlt6:=hL6.lt;clear hk6;obtain⟨cl_0,cl_1,cl_2,cl_3,cl_4,cl_5,cl_6,cl_f⟩:=(hL6).c7;obtain⟨cz_0,cz_1,cz_2,cz_3,cz_4,cz_5,cz_6,cz_f⟩:=(hZ6).c7;go_wp2;have hk:=HK6.out;have g7:=Ag w6 w.heap.size (.int .i64 8) (str []) (.int .i64 0) (.int .i64 0) (str []) (.slice qa (p:List Bs).length qc) (.slice (some ⟨w5.heap.size,0,none⟩) 1 1);exact bodyPost_ret (Ai (hd:=⟨8,[],0,0,[],p⟩) (pv:= .slice qa (p:List Bs).length qc) (lv:= .slice (some ⟨w5.heap.size,0,none⟩) 1 1) rfl _ (hZ6.set7 _ _ _ _ _ _ _) rfl) rfl (Bf hb hk.gr hk.ve (by intro k hk;exact hk.1) hk.rr g7)
end
theorem JA(k:Nat)(h:k≤15):(10:Int) ^ k≤1000000000000000:=by
 have h2:(10:Int) ^ k≤10 ^ 15:=by exact_mod_cast Nat.pow_le_pow_right (n:=10) (by decide) h
 have h3:(10:Int) ^ 15=1000000000000000:=by decide
 omega
theorem Fu(s:Bs)(hd:s.all AF=true)(h0:1≤s.length)(h15:s.length≤15)(w:World):
 Calls Tryz.prog 315 #[str s] w fun e w'=>e= .returned (.int .i64 (Aq s))∧w'=w:=by
 have hat:∀k,k<s.length→AF (bAt s k)=true∧48≤(bAt s k).toNat∧(bAt s k).toNat≤57:=by
  intro k hk;have:=List.all_eq_true.1 hd s[k] (List.getElem_mem _);rw[CZ hk];refine⟨this,?_⟩;simpa[AF]using this
 have hh:=hat 0 (by omega);have hg0:=fun h=>Cr s 0 h (by omega);have h32:(((bAt s 0).toNat:Int)==32)=false:=by simp;omega
 have h45:(((bAt s 0).toNat:Int)==45)=false:=by simp;omega
 have h43:(((bAt s 0).toNat:Int)==43)=false:=by simp;omega
 have H:=O (Z hd hat);have hl0:decide ((0:Int)<s.length)=true:=by simp;omega
 clear hd hat hh;go_enter func315,ntmps315;go_wp2_with fail;go_loopg [3] 0 (fun g v3 wr=>v3= .int .i64 0∧w=wr)
 case atStart=>exact⟨rfl,rfl⟩
 case round=>
  obtain⟨rfl,rfl⟩:=hrel;go_wp2_with fail;clear h32 h45 h43 hg0;go_loopg [3,5] s.length (fun g v3 v5 wr=>∃k:Nat,k+g=s.length∧v3= .int .i64 k∧v5= .int .i64 (Aq (s.take k))∧w=wr)
  case atStart=>exact⟨0,by omega,rfl,by simp[Aq],rfl⟩
  case round=>
   obtain⟨k,hk,rfl,rfl,rfl⟩:=hrel;have hnl:0≤Aq (s.take k)∧Aq (s.take k)<1000000000000000:=by
    have h1:=CQ s H.out.1 k (by omega);have h2:=JA k (by omega);omega
   cases gk with
   | zero=>
     have hkM:k=s.length:=by omega
     have hj1:decide (k<s.length)=false:=by simp;omega
     have hT:Aq (s.take k)=Aq s:=by rw[List.take_of_length_le (by omega)]
     rw[hT]at*;generalize hzz:Aq s=z at*;have HZ:=O hzz;clear hzz hT;go_wp2;go_ret;exact⟨by rw[HZ.out];rfl,rfl⟩
   | succ gk=>
     have hlt:k<s.length:=by omega
     have hj1:decide (k<s.length)=true:=by simp;omega
     obtain⟨hx0,hx1,hx2⟩:=H.out.2 k hlt;have hgk:=fun h=>Cr s k h hlt;have hn1:=FT s k hlt;rw[←CZ hlt]at hn1;have hnl2:Aq (s.take (k+1))<1000000000000000:=by
      have h1:=CQ s H.out.1 (k+1) (by omega);have h2:=JA (k+1) (by omega);omega
     rw[hn1]at hnl2;have HX:=O (show cls 2 (bAt s k)=true by rw[Fz];exact hx0);have HN:=O hn1;clear hn1 hx0;generalize hz:Aq (s.take k)=z at*;generalize hq:bAt s k=q at*;go_wp2_with fail;refine(Ea _ _).mono ?_;rintro e w1 ⟨rfl,rfl⟩;rw[HX.out];have hmin:min (10*z+((q.toNat:Int)-48)) 1000000000000000=10*z+((q.toNat:Int)-48):=by omega
     go_wp2_with fail;go_roundg gk
     case measure=>omega
     case rel=>exact⟨k+1,by omega,by simp,by rw[HN.out];try(congr 1;omega),rfl⟩
theorem Qv{s:Bs}(h:∀j,j<s.length→AF (bAt s j)=true):s.all AF=true:=by
 rw[List.all_eq_true];intro x hx;obtain⟨j,hj,rfl⟩:=List.mem_iff_getElem.1 hx;rw[←CZ hj];exact h j hj
theorem Lh(s:Bs)(hs:s.length≤1000000)(w:World):
 Calls Tryz.prog 317 #[str s] w fun e w'=>e= .returned (.tuple #[.int .i64 (Bj s).1,.bool (Bj s).2])∧w.grownBy w' none:=by
 by_cases hb:s=CT
 ·subst hb;go_enter func317,ntmps317;go_wp2;exact bodyPost_ret (v:= .tuple #[.int .i64 0,.bool true]) (by simp[results,results317,go_sem]) rfl ⟨rfl,Ac _ _⟩
 have hb':(s==[32,32,32,32,32,32,32,32])=false:=by simpa[CT]using hb
 by_cases h8:s.length=8
 ·have h8n:((s.length:Int)==8)=true:=by simp;omega
  have h8m:((s.length:Int) !=8)=false:=by simp;omega
  cases hd:s.all AF with
  | false=>
    have hm:Bj s=(0,false):=by simp only[Bj,hb,if_false,hd];simp
    rw[hm];have HD:=O hd;clear hm hd;go_enter func317,ntmps317;go_wp2_with fail;go_loopg [4] 8 (fun g v4 wr=>∃k:Nat,k+g=8∧v4= .int .i64 k∧(∀j,j<k→AF (bAt s j)=true)∧w=wr)
    case atStart=>exact⟨0,by omega,rfl,fun j hj=>by omega,rfl⟩
    case round=>
     obtain⟨k,hk,rfl,hj,rfl⟩:=hrel;cases gk with
     | zero=>
       have:s.all AF=true:=Qv (fun j hjl=>hj j (by omega));rw[HD.out]at this;cases this
     | succ gk=>
       have hkl:k<s.length:=by omega
       have hk8:decide ((k:Int)<8)=true:=by simp;omega
       have hg:=fun h=>Cr s k h hkl;have HJ:=O hj;clear hj;cases hc:cls 2 (bAt s k)with
       | true=>
         have HN:=O (show ∀j,j<k+1→AF (bAt s j)=true from fun j hj=>by
          rcases Nat.lt_succ_iff_lt_or_eq.1 hj with h|h
          ·exact HJ.out j h
          ·subst h;rw[←Fz];exact hc)
         have HC:=O hc;clear hc;go_wp2_with fail;refine(Ea _ _).mono ?_;rintro e w1 ⟨rfl,rfl⟩;rw[HC.out];go_wp2;go_roundg gk
         case measure=>omega
         case rel=>exact⟨k+1,by omega,by go_num,HN.out,rfl⟩
       | false=>
         have HC:=O hc;clear hc;go_wp2_with fail;refine(Ea _ _).mono ?_;rintro e w1 ⟨rfl,rfl⟩;rw[HC.out];go_wp2;exact bodyPost_ret (v:= .tuple #[.int .i64 0,.bool false]) (by simp[results,results317,go_sem]) rfl ⟨rfl,Ac _ _⟩
  | true=>
    have hm:Bj s=((AH (Aq (s.take 4)) (Aq ((s.drop 4).take 2)) (Aq (s.drop 6))).1,(AH (Aq (s.take 4)) (Aq ((s.drop 4).take 2)) (Aq (s.drop 6))).2==0):=by
     simp only[Bj,hb,if_false,hd,h8];simp
    rw[hm];clear hm;have hat:∀k,k<s.length→cls 2 (bAt s k)=true:=by
     intro k hk;rw[Fz,CZ hk];exact List.all_eq_true.1 hd s[k] (List.getElem_mem _)
    obtain⟨a0,a1,a2,a3,a4,a5,a6,a7,hs8⟩:∃a0 a1 a2 a3 a4 a5 a6 a7,s=[a0,a1,a2,a3,a4,a5,a6,a7]:=by
     match s,h8 with
     | [a0,a1,a2,a3,a4,a5,a6,a7],_=>exact⟨_,_,_,_,_,_,_,_,rfl⟩
    have hd4:[a0,a1,a2,a3].all AF=true∧[a4,a5].all AF=true∧[a6,a7].all AF=true:=by
     rw[hs8]at hd;simp at hd ⊢;simp[hd]
    have et1:s.take 4=[a0,a1,a2,a3]:=by rw[hs8];rfl
    have et2:(s.drop 4).take 2=[a4,a5]:=by rw[hs8];rfl
    have et3:s.drop 6=[a6,a7]:=by rw[hs8];rfl
    rw[et1,et2,et3];clear et1 et2 et3;have HD:=O hd4;have HA:=O hat;have HS:=O hs8;clear hd4 hat hd hs8;go_enter func317,ntmps317;go_wp2_with fail;go_loopg [4] 8 (fun g v4 wr=>∃k:Nat,k+g=8∧v4= .int .i64 k∧w=wr)
    case atStart=>exact⟨0,by omega,rfl,rfl⟩
    case round=>
     obtain⟨k,hk,rfl,rfl⟩:=hrel;cases gk with
     | succ gk=>
       have hkl:k<s.length:=by omega
       have hk8:decide ((k:Int)<8)=true:=by simp;omega
       have hg:=fun h=>Cr s k h hkl;have HC:=O (HA.out k hkl);go_wp2_with fail;refine(Ea _ _).mono ?_;rintro e w1 ⟨rfl,rfl⟩;rw[HC.out];go_wp2;go_roundg gk
       case measure=>omega
       case rel=>exact⟨k+1,by omega,by go_num,rfl⟩
     | zero=>
       have hk8:decide ((k:Int)<8)=false:=by simp;omega
       go_wp2_with fail;have hs8:=HS.out;have hy:=CQ _ HD.out.1 4 (by simp);have hm:=CQ _ HD.out.2.1 2 (by simp);have hd':=CQ _ HD.out.2.2 2 (by simp);have hx1:(⟨s.toArray⟩:ByteArray).extract 0 4={data:=#[a0,a1,a2,a3]}:=by rw[hs8];rfl
       have hx2:(⟨s.toArray⟩:ByteArray).extract 4 6={data:=#[a4,a5]}:=by rw[hs8];rfl
       have hx3:(⟨s.toArray⟩:ByteArray).extract 6 8={data:=#[a6,a7]}:=by rw[hs8];rfl
       have hl4:(4:Int)≤s.length:=by omega
       have hl6:(6:Int)≤s.length:=by omega
       clear hs8;simp only[List.take_succ_cons,List.take_zero,List.drop_succ_cons,List.drop_zero,List.take_nil]at*;generalize hY:Aq [a0,a1,a2,a3]=Y at*;generalize hMM:Aq [a4,a5]=M at*;generalize hDD:Aq [a6,a7]=D at*;have HN:=O (Z hY (Z hMM hDD));clear hY hMM hDD;have hda:=Fc Y M D (by omega) (by omega) (by omega) (by omega) (by omega) (by omega);have hv1:∀w,Calls Tryz.prog 315 #[.string ⟨#[a0,a1,a2,a3]⟩] w fun e w'=>e= .returned (.int .i64 Y)∧w'=w:=fun w=>by rw[←HN.out.1];exact Fu [a0,a1,a2,a3] HD.out.1 (by simp) (by simp) w
       have hv2:∀w,Calls Tryz.prog 315 #[.string ⟨#[a4,a5]⟩] w fun e w'=>e= .returned (.int .i64 M)∧w'=w:=fun w=>by rw[←HN.out.2.1];exact Fu [a4,a5] HD.out.2.1 (by simp) (by simp) w
       have hv3:∀w,Calls Tryz.prog 315 #[.string ⟨#[a6,a7]⟩] w fun e w'=>e= .returned (.int .i64 D)∧w'=w:=fun w=>by rw[←HN.out.2.2];exact Fu [a6,a7] HD.out.2.2 (by simp) (by simp) w
       have HV:=O (Z hda (Z hv1 (Z hv2 hv3)));clear hda hv1 hv2 hv3;go_region_with(first| (go_at_call 215;with_reducible refine(HV.out.1 _).mono ?_;rintro e w5 ⟨rfl,rfl⟩)| (with_reducible refine(HV.out.2.1 _).mono ?_;rintro e w2 ⟨rfl,rfl⟩)| (with_reducible refine(HV.out.2.2.1 _).mono ?_;rintro e w3 ⟨rfl,rfl⟩)| (with_reducible refine(HV.out.2.2.2 _).mono ?_;rintro e w4 ⟨rfl,rfl⟩));all_goals
        go_wp2;exact bodyPost_ret (v:= .tuple #[.int .i64 (AH Y M D).1,.bool ((AH Y M D).2==0)]) (by simp[results,results317,go_sem]) rfl ⟨by rw[←HN.out.1,←HN.out.2.1,←HN.out.2.2],Am (Ac _ _)⟩
 ·have hm:Bj s=(0,false):=by simp[Bj,hb,h8]
  rw[hm];have h8n:((s.length:Int)==8)=false:=by simp;omega
  have h8m:((s.length:Int) !=8)=true:=by simp;omega
  go_enter func317,ntmps317;go_wp2;exact bodyPost_ret (v:= .tuple #[.int .i64 0,.bool false]) (by simp[results,results317,go_sem]) rfl ⟨rfl,Ac _ _⟩
section
variable {w w':World}{t d:Bs}{m:Int}{n:Nat}
end
end Go.Proofs.YtgjdhajcnechdaaGreatDoor
