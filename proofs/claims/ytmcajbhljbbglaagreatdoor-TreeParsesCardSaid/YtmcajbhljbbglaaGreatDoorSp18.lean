/-
  sameBlock of the reference: rows of statements.
-/
import Derived.Test.YtmcajbhljbbglaaGreatDoorSpF
import Derived.Test.YtmcajbhljbbglaaGreatDoorSp14
import Derived.Deep.DeepCutAuto
set_option linter.all false
set_option maxRecDepth 100000
set_option maxHeartbeats 8000000
namespace Go.Proofs.YtmcajbhljbbglaaGreatDoor
open Tryz
open Go.RowKit
structure Pair(t:TypeId)(w:World)(kx ky:Nat)(xs ys:List Value)(W:World):Prop where
 x:Blk W kx xs t
 y:Blk W ky ys t
 g:w.grownBy W none
theorem Pair.one{t:TypeId}{w:World}{xs ys:List Value}:Pair t w w.heap.size (w.heap.size+1) xs ys ((w.alloc (.cells xs.toArray t (0,0))).alloc (.cells ys.toArray t (0,0))).drew:=
 ⟨((Blk.new w xs t).alloc _).drew,((Blk.new _ ys t).of_eq Ae rfl).drew,An (Ar (World.grownBy_alloc _ _ _) _)⟩
theorem Pair.two{t:TypeId}{w:World}{xs ys:List Value}:Pair t w (w.heap.size+1) w.heap.size xs ys ((w.alloc (.cells ys.toArray t (0,0))).alloc (.cells xs.toArray t (0,0))).drew:=
 ⟨((Blk.new _ xs t).of_eq Ae rfl).drew,((Blk.new w ys t).alloc _).drew,An (Ar (World.grownBy_alloc _ _ _) _)⟩
theorem Pair.gb{t:TypeId}{w W W1:World}{kx ky:Nat}{xs ys:List Value}(h:Pair t w kx ky xs ys W)(g:W.grownBy W1 none):Pair t w kx ky xs ys W1:=
 ⟨h.x.gb g Ae,h.y.gb g Ae,Ah h.g g⟩
theorem oO:∀(N:Nat)(a b:Bl),a.wt<N→∀(ok ok':Nat→Prop)(la lb:Option Addr)(lc ld:Nat)(w:World),RepV ok w false (.slice la a.len lc) a→RepV ok' w false (.slice lb b.len ld) b→
 Calls Tryz.prog 40 #[.slice la a.len lc,.slice lb b.len ld] w fun e w'=>e= .returned (.bool (AP a b))∧w.grownBy w' none:=by
 intro N;induction N with
 |zero=>intro a b hN;omega
 | succ N ih=>
   intro a b hN ok ok' la lb lc ld w ha hb;by_cases hlen:a.len=b.len
   ·have dW{P}(h:P:=by
    have hmax:a.len≤maxLen:=Ab;unfold maxLen at hmax;clear hle hmx;have hnI:((a.len:Int) !=(b.len:Int))=false:=Ag;have hnI2:((a.len:Int)==(b.len:Int))=true:=Ag;have HC:=Z (Ac hc1 (Ac hc2 (Ac ih hlen)));have HR:=Z (Ac hr1 hr2);clear hc1 hc2 ih hlen hr1 hr2;go_enter func40,ntmps40;go_wp2_with fail;go_loopg [5] a.len (fun n v5 wr=>∃ra rb:Bl,∃k:Nat,ra.len=n∧k+n=a.len∧ra.len=rb.len∧v5= .int .i64 k∧ra.wt≤a.wt∧AP a b=AP ra rb∧RepT ok w ra false (cs.drop (k*10))∧RepT ok' w rb false (ds.drop (k*10))∧w.grownBy wr none)
    case atStart=>exact⟨a,b,0,rfl,by omega,HC.out.2.2.2,rfl,Nat.le_refl _,rfl,by simpa using HR.out.1,by simpa using HR.out.2,Aj _ _⟩
    case round=>
     obtain⟨ra,rb,k,hn,hk,hl,rfl,hno,hs,hra,hrb,hgr⟩:=hrel;clear HR;cases ra with
     |bl _ _=>exact hra.elim
     | nil=>
       cases rb with
       |st _ _ _=>simp[Bl.len]at hl
       |bl _ _=>exact hrb.elim
       | nil=>
         have hkI:decide (k<a.len)=false:=by simp[Bl.len]at hn;simp;omega
         have HS:=Z (show AP a b=true by rw[hs];rfl);exact S4
     | st h1 b1 n1=>
       cases rb with
       |nil=>simp[Bl.len]at hl
       |bl _ _=>exact hrb.elim
       | st h2 b2 n2=>
         simp only[Bl.len]at hn hl;simp only[Bl.wt]at hno;subst hn;obtain⟨pa1,xa1,na1,fa1,wa1,ba1,pc1,xc1,nc1,fc1,wc1,bc1,hp1,hB1,hx1,ha1⟩:=RepT.elem HC.out.1 hra;obtain⟨pa2,xa2,na2,fa2,wa2,ba2,pc2,xc2,nc2,fc2,wc2,bc2,hp2,hB2,hx2,ha2⟩:=RepT.elem HC.out.2.1 hrb;have hkI:decide (k<a.len)=true:=Ag;have hkg:k<b.len:=by have:=HC.out.2.2.2;omega
         have hkf:k+1≤a.len:=Ab;have HS:=Z (Ac (show AP a b=((Ek h1 h2&&AP b1 b2)&&AP n1 n2)from hs) (show n1.len=n2.len by omega));have HN:=Z (Ac (show n1.wt≤a.wt∧b1.wt<N by omega) (Ac hx1 (Ac hx2 (Ac hgr (Ac hp1 (Ac hp2 (Ac hB1 hB2)))))));clear hs hl hno hra hrb hp1 hp2 hB1 hB2 hx1 hx2;have eV{P}(h:P:=by
         obtain⟨_,_,e1,_,y7⟩:=ha1 7 _ rfl;cases e1;obtain⟨_,_,e1,_,y8⟩:=ha1 8 _ rfl;cases e1;obtain⟨_,_,e1,_,y9⟩:=ha1 9 _ rfl;cases e1;have iN{P}(h:P:=by
         have z7:=Am hgr y7;have z8:=Am hgr y8;have z9:=Am hgr y9;simp only[Nat.add_zero,←Nat.add_assoc]at z0 z1 z2 z3 z4 z5 z6 z7 z8 z9;clear y0 y1 y2 y3 y4 y5 y6 y7 y8 y9;have eW{P}(h:P:=by
         obtain⟨_,_,e1,_,y7⟩:=ha2 7 _ rfl;cases e1;obtain⟨_,_,e1,_,y8⟩:=ha2 8 _ rfl;cases e1;obtain⟨_,_,e1,_,y9⟩:=ha2 9 _ rfl;cases e1;have iO{P}(h:P:=by
         have t7:=Am hgr y7;have t8:=Am hgr y8;have t9:=Am hgr y9;simp only[Nat.add_zero,←Nat.add_assoc]at t0 t1 t2 t3 t4 t5 t6 t7 t8 t9;clear y0 y1 y2 y3 y4 y5 y6 y7 y8 y9;clear ha1 ha2;have hws:=hgr.size;have hq1:g1<wr.heap.size:=Nat.lt_of_lt_of_le hglz hws;have i0:(0:Int)≤(k:Int):=Ab;have i1:(k:Int)<(a.len:Int):=Ab;have i2:k<a.len:=Ab;have i3:(k:Int)<(b.len:Int):=Ab;have hq2:g2<wr.heap.size:=Nat.lt_of_lt_of_le hglt hws
         have HK:=Z (fun(W:World)(g:wr.grownBy W none)=>(show(W.cell? ⟨g1,o1+k*10,none⟩=some (.int .i64 h1.op)∧W.cell? ⟨g1,o1+k*10+1,none⟩=some (str h1.s)∧W.cell? ⟨g1,o1+k*10+2,none⟩=some (str h1.t)∧W.cell? ⟨g1,o1+k*10+3,none⟩=some (.slice pa1 h1.p.length pc1)∧W.cell? ⟨g1,o1+k*10+4,none⟩=some (.slice xa1 h1.x.len xc1)∧W.cell? ⟨g1,o1+k*10+5,none⟩=some (.slice ba1 b1.len bc1)∧W.cell? ⟨g1,o1+k*10+6,none⟩=some (.int .i64 h1.kind)∧W.cell? ⟨g1,o1+k*10+7,none⟩=some (.slice na1 h1.n.len nc1)∧W.cell? ⟨g1,o1+k*10+8,none⟩=some (.slice fa1 h1.f.len fc1)∧W.cell? ⟨g1,o1+k*10+9,none⟩=some (.slice wa1 h1.w.len wc1))∧(W.cell? ⟨g2,o2+k*10,none⟩=some (.int .i64 h2.op)∧W.cell? ⟨g2,o2+k*10+1,none⟩=some (str h2.s)∧W.cell? ⟨g2,o2+k*10+2,none⟩=some (str h2.t)∧W.cell? ⟨g2,o2+k*10+3,none⟩=some (.slice pa2 h2.p.length pc2)∧W.cell? ⟨g2,o2+k*10+4,none⟩=some (.slice xa2 h2.x.len xc2)∧W.cell? ⟨g2,o2+k*10+5,none⟩=some (.slice ba2 b2.len bc2)∧W.cell? ⟨g2,o2+k*10+6,none⟩=some (.int .i64 h2.kind)∧W.cell? ⟨g2,o2+k*10+7,none⟩=some (.slice na2 h2.n.len nc2)∧W.cell? ⟨g2,o2+k*10+8,none⟩=some (.slice fa2 h2.f.len fc2)∧W.cell? ⟨g2,o2+k*10+9,none⟩=some (.slice wa2 h2.w.len wc2))∧wr.grownBy W none from⟨⟨Am g z0,Am g z1,Am g z2,Am g z3,Am g z4,Am g z5,Am g z6,Am g z7,Am g z8,Am g z9⟩,⟨Am g t0,Am g t1,Am g t2,Am g t3,Am g t4,Am g t5,Am g t6,Am g t7,Am g t8,Am g t9⟩,g⟩));clear hgr z0 z1 z2 z3 z4 z5 z6 z7 z8 z9 t0 t1 t2 t3 t4 t5 t6 t7 t8 t9;go_upto_region 6 with fail
         go_cut [6,7] (fun v6 v7 wx=>∃kx ky:Nat,v6= .pointer (some ⟨kx,0,none⟩)∧v7= .pointer (some ⟨ky,0,none⟩)∧Pair 50 wr kx ky (sdC h1 (.slice pa1 h1.p.length pc1) (.slice xa1 h1.x.len xc1) (.slice ba1 b1.len bc1) (.slice na1 h1.n.len nc1) (.slice fa1 h1.f.len fc1) (.slice wa1 h1.w.len wc1)) (sdC h2 (.slice pa2 h2.p.length pc2) (.slice xa2 h2.x.len xc2) (.slice ba2 b2.len bc2) (.slice na2 h2.n.len nc2) (.slice fa2 h2.f.len fc2) (.slice wa2 h2.w.len wc2)) wx)
         case first=>
          go_region_held3 (fun W=>(W.cell? ⟨g1,o1+k*10,none⟩=some (.int .i64 h1.op)∧W.cell? ⟨g1,o1+k*10+1,none⟩=some (str h1.s)∧W.cell? ⟨g1,o1+k*10+2,none⟩=some (str h1.t)∧W.cell? ⟨g1,o1+k*10+3,none⟩=some (.slice pa1 h1.p.length pc1)∧W.cell? ⟨g1,o1+k*10+4,none⟩=some (.slice xa1 h1.x.len xc1)∧W.cell? ⟨g1,o1+k*10+5,none⟩=some (.slice ba1 b1.len bc1)∧W.cell? ⟨g1,o1+k*10+6,none⟩=some (.int .i64 h1.kind)∧W.cell? ⟨g1,o1+k*10+7,none⟩=some (.slice na1 h1.n.len nc1)∧W.cell? ⟨g1,o1+k*10+8,none⟩=some (.slice fa1 h1.f.len fc1)∧W.cell? ⟨g1,o1+k*10+9,none⟩=some (.slice wa1 h1.w.len wc1))∧(W.cell? ⟨g2,o2+k*10,none⟩=some (.int .i64 h2.op)∧W.cell? ⟨g2,o2+k*10+1,none⟩=some (str h2.s)∧W.cell? ⟨g2,o2+k*10+2,none⟩=some (str h2.t)∧W.cell? ⟨g2,o2+k*10+3,none⟩=some (.slice pa2 h2.p.length pc2)∧W.cell? ⟨g2,o2+k*10+4,none⟩=some (.slice xa2 h2.x.len xc2)∧W.cell? ⟨g2,o2+k*10+5,none⟩=some (.slice ba2 b2.len bc2)∧W.cell? ⟨g2,o2+k*10+6,none⟩=some (.int .i64 h2.kind)∧W.cell? ⟨g2,o2+k*10+7,none⟩=some (.slice na2 h2.n.len nc2)∧W.cell? ⟨g2,o2+k*10+8,none⟩=some (.slice fa2 h2.f.len fc2)∧W.cell? ⟨g2,o2+k*10+9,none⟩=some (.slice wa2 h2.w.len wc2))∧wr.grownBy W none) (exact HK.out _ gw) (first|fail);all_goals(go_wp2_with fail;go_meet;first|exact⟨_,_,rfl,rfl,Pair.one⟩|exact⟨_,_,rfl,rfl,Pair.two⟩)
         case rest=>
          obtain⟨kx,ky,rfl,rfl,hP⟩:=hcut;have HP:=Z hP;have HT:=Z (fun(W:World)(g:w.grownBy W none)=>Ac (U7 (HN.out.2.2.2.2.1.p.gb g Ae) (HN.out.2.2.2.2.2.1.p.gb g Ae)) (Ac (Kp _ h1.x h2.x (Nat.lt_succ_self _) _ _ _ _ _ _ W (HN.out.2.2.2.2.1.x.gb g Ae) (HN.out.2.2.2.2.2.1.x.gb g Ae))
           (Ac (Kp _ h1.n h2.n (Nat.lt_succ_self _) _ _ _ _ _ _ W (HN.out.2.2.2.2.1.n.gb g Ae) (HN.out.2.2.2.2.2.1.n.gb g Ae)) (Ac (Kp _ h1.f h2.f (Nat.lt_succ_self _) _ _ _ _ _ _ W (HN.out.2.2.2.2.1.f.gb g Ae) (HN.out.2.2.2.2.2.1.f.gb g Ae)) (Kp _ h1.w h2.w (Nat.lt_succ_self _) _ _ _ _ _ _ W (HN.out.2.2.2.2.1.w.gb g Ae) (HN.out.2.2.2.2.2.1.w.gb g Ae))))))
          have HG:=Z (Ah HN.out.2.2.2.1 hP.g);have x_0:=hP.x.cell' 0 rfl;have y_0:=hP.y.cell' 0 rfl;have x_1:=hP.x.cell' 1 rfl;have y_1:=hP.y.cell' 1 rfl;have x_2:=hP.x.cell' 2 rfl;have y_2:=hP.y.cell' 2 rfl;have x_3:=hP.x.cell' 3 rfl;have y_3:=hP.y.cell' 3 rfl;have x_4:=hP.x.cell' 4 rfl;have y_4:=hP.y.cell' 4 rfl;clear hP;cases c_op:(h1.op==h2.op)with
          | false=>
            have d_op:(h1.op !=h2.op)=true:=by simp[bne,c_op]
            have HF:=Z (show AP a b=false by rw[HS.out.1];simp[Ek,Fe,Ff,c_op]);exact Fu
          | true=>
            have d_op:(h1.op !=h2.op)=false:=by simp[bne,c_op]
            cases c_s:(h1.s==h2.s)with
            | false=>
              have d_s:(h1.s !=h2.s)=true:=by simp[bne,c_s]
              have HF:=Z (show AP a b=false by rw[HS.out.1];simp[Ek,Fe,Ff,c_op,c_s]);exact Fu
            | true=>
              have d_s:(h1.s !=h2.s)=false:=by simp[bne,c_s]
              cases c_t:(h1.t==h2.t)with
              | false=>
                have d_t:(h1.t !=h2.t)=true:=by simp[bne,c_t]
                have HF:=Z (show AP a b=false by rw[HS.out.1];simp[Ek,Fe,Ff,c_op,c_s,c_t]);exact Fu
              | true=>
                have d_t:(h1.t !=h2.t)=false:=by simp[bne,c_t]
                go_wp2_with fail;refine((HT.out _ HG.out).1).mono ?_;rintro e w5 ⟨rfl,g55⟩;have HP5:=Z (HP.out.gb g55);replace HG:=Z (Ah HG.out g55);clear g55 x_0 y_0 x_1 y_1 x_2 y_2 x_3 y_3 x_4 y_4;cases c_p:CF h1.p h2.p with
                | false=>
                  have HC_p:=Z c_p;have HF:=Z (show AP a b=false by rw[HS.out.1];simp[Ek,Fe,Ff,c_p]);clear c_p;exact Fu
                | true=>
                  have HC_p:=Z c_p;clear c_p;have x_4:=HP5.out.x.cell' 4 rfl;have y_4:=HP5.out.y.cell' 4 rfl;go_wp2_with fail;refine((HT.out _ HG.out).2.1).mono ?_;rintro e w6 ⟨rfl,g65⟩;have HP6:=Z (HP5.out.gb g65);replace HG:=Z (Ah HG.out g65);clear g65 x_4 y_4;cases c_x:B3 h1.x h2.x with
                  | false=>
                    have HC_x:=Z c_x;have HF:=Z (show AP a b=false by rw[HS.out.1];simp[Ek,Fe,Ff,c_x]);clear c_x;exact Fu
                  | true=>
                    have HC_x:=Z c_x;clear c_x;have x_5:=HP6.out.x.cell' 5 rfl;have y_5:=HP6.out.y.cell' 5 rfl;have x_6:=HP6.out.x.cell' 6 rfl;have y_6:=HP6.out.y.cell' 6 rfl;have x_7:=HP6.out.x.cell' 7 rfl;have y_7:=HP6.out.y.cell' 7 rfl;by_cases hbl:b1.len=b2.len
                    case neg=>
                     have d1:((b1.len:Int) !=(b2.len:Int))=true:=Ag;have d2:((b1.len:Int)==(b2.len:Int))=false:=Ag;have HF:=Z (show AP a b=false by rw[HS.out.1];cases hh:AP b1 b2 with|false=>simp|true=>exact absurd (Wb hh) hbl);clear hbl;exact Fu
                    case pos=>
                     have d1:((b1.len:Int) !=(b2.len:Int))=false:=Ag;have d2:((b1.len:Int)==(b2.len:Int))=true:=Ag;have HBL:=Z hbl;clear hbl;cases c_kind:(h1.kind==h2.kind)with
                     | false=>
                       have d_kind:(h1.kind !=h2.kind)=true:=by simp[bne,c_kind]
                       have HF:=Z (show AP a b=false by rw[HS.out.1];simp[Ek,Fe,Ff,c_kind]);exact Fu
                     | true=>
                       have d_kind:(h1.kind !=h2.kind)=false:=by simp[bne,c_kind]
                       go_wp2_with fail;refine((HT.out _ HG.out).2.2.1).mono ?_;rintro e w7 ⟨rfl,g75⟩;have HP7:=Z (HP6.out.gb g75);replace HG:=Z (Ah HG.out g75);clear g75 x_5 y_5 x_6 y_6 x_7 y_7;cases c_n:B3 h1.n h2.n with
                       | false=>
                         have HC_n:=Z c_n;have HF:=Z (show AP a b=false by rw[HS.out.1];simp[Ek,Fe,Ff,c_n]);clear c_n;exact Fu
                       | true=>
                         have HC_n:=Z c_n;clear c_n;have x_8:=HP7.out.x.cell' 8 rfl;have y_8:=HP7.out.y.cell' 8 rfl;go_wp2_with fail;refine((HT.out _ HG.out).2.2.2.1).mono ?_;rintro e w8 ⟨rfl,g85⟩;have HP8:=Z (HP7.out.gb g85);replace HG:=Z (Ah HG.out g85);clear g85 x_8 y_8;cases c_f:B3 h1.f h2.f with
                         | false=>
                           have HC_f:=Z c_f;have HF:=Z (show AP a b=false by rw[HS.out.1];simp[Ek,Fe,Ff,c_f]);clear c_f;exact Fu
                         | true=>
                           have HC_f:=Z c_f;clear c_f;have x_9:=HP8.out.x.cell' 9 rfl;have y_9:=HP8.out.y.cell' 9 rfl;go_wp2_with fail;refine((HT.out _ HG.out).2.2.2.2).mono ?_;rintro e w9 ⟨rfl,g95⟩;have HP9:=Z (HP8.out.gb g95);replace HG:=Z (Ah HG.out g95);clear g95 x_9 y_9;cases c_w:B3 h1.w h2.w with
                           | false=>
                             have HC_w:=Z c_w;have HF:=Z (show AP a b=false by rw[HS.out.1];simp[Ek,Fe,Ff,c_w]);clear c_w;exact Fu
                           | true=>
                             have HC_w:=Z c_w;clear c_w;have x_5:=HP9.out.x.cell' 5 rfl;have y_5:=HP9.out.y.cell' 5 rfl;have HD:=Z (show AP a b=(AP b1 b2&&AP n1 n2)by rw[HS.out.1];simp[Ek,Fe,Ff,c_op,c_s,c_t,c_kind,HC_p.out,HC_x.out,HC_n.out,HC_f.out,HC_w.out]);clear c_op c_s c_t c_kind d_op d_s d_t d_kind d1 d2;obtain⟨kcs,hkc,hkr⟩:=HN.out.2.2.2.2.2.2.1;obtain⟨kds,hdc,hdr⟩:=HN.out.2.2.2.2.2.2.2;obtain⟨_,_,e,hle2,hmx2,_,hkc⟩:=hkc;cases e;obtain⟨_,_,e,_,_,_,hdc⟩:=hdc;cases e;have hm2:b1.len≤maxLen:=Ab;unfold maxLen at hm2;have HK2:=Z (Ac hkc (Ac hdc (Ac hkr hdr)));clear hle2 hmx2 hkc hdc hkr hdr;go_wp2_with fail;go_loopg [8] b1.len (fun n v8 w2=>∃sa sb:Bl,∃k2:Nat,sa.len=n∧k2+n=b1.len∧sa.len=sb.len∧v8= .int .i64 k2∧sa.wt≤b1.wt∧AP b1 b2=AP sa sb∧RepT ok w sa true (kcs.drop k2)∧RepT ok' w sb true (kds.drop k2)∧Pair 50 wr kx ky (sdC h1 (.slice pa1 h1.p.length pc1) (.slice xa1 h1.x.len xc1) (.slice ba1 b1.len bc1) (.slice na1 h1.n.len nc1) (.slice fa1 h1.f.len fc1) (.slice wa1 h1.w.len wc1)) (sdC h2 (.slice pa2 h2.p.length pc2) (.slice xa2 h2.x.len xc2) (.slice ba2 b2.len bc2) (.slice na2 h2.n.len nc2) (.slice fa2 h2.f.len fc2) (.slice wa2 h2.w.len wc2)) w2)
                             case atStart=>exact⟨b1,b2,0,rfl,by omega,HBL.out,rfl,Nat.le_refl _,rfl,by simpa using HK2.out.2.2.1,by simpa using HK2.out.2.2.2,HP9.out⟩
                             case round=>
                              obtain⟨sa,sb,k2,hn2,hk2,hl2,rfl,hno2,hs2,hra2,hrb2,hP2⟩:=hrel;have x_5:=hP2.x.cell' 5 rfl;have y_5:=hP2.y.cell' 5 rfl;have gw2:=Ah HN.out.2.2.2.1 hP2.g;cases sa with
                              |st _ _ _=>exact hra2.elim
                              | nil=>
                                cases sb with
                                |st _ _ _=>exact hrb2.elim
                                |bl _ _=>simp[Bl.len]at hl2
                                | nil=>
                                  have hkI2:decide (k2<b1.len)=false:=by simp[Bl.len]at hn2;simp;omega
                                  have HE:=Z (show AP a b=AP n1 n2 by rw[HD.out,hs2];rfl);have HG2:=Z gw2;clear hs2 gw2 hP2 hn2 hl2 hra2 hrb2;go_wp2;go_roundg n1.len
                                  case measure=>omega
                                  case rel=>exact⟨n1,n2,k+1,rfl,by omega,HS.out.2,by go_num,HN.out.1.1,HE.out,HN.out.2.1,HN.out.2.2.1,HG2.out⟩
                              | bl q1 r1=>
                                cases sb with
                                |nil=>simp[Bl.len]at hl2
                                |st _ _ _=>exact hrb2.elim
                                | bl q2 r2=>
                                  simp only[Bl.len]at hn2 hl2;simp only[Bl.wt]at hno2;subst hn2;obtain⟨qa1,qc1,hq1',hr1',u1,v1,e,_,hc1'⟩:=RepT.elemB HK2.out.1 hra2;cases e;obtain⟨qa2,qc2,hq2',hr2',u2,v2,e,_,hc2'⟩:=RepT.elemB HK2.out.2.1 hrb2;cases e;have hkI2:decide (k2<b1.len)=true:=Ag;have hkg2:k2<b2.len:=by have:=HBL.out;omega
                                  have hkf2:k2+1≤b1.len:=Ab;have z1:=Am gw2 hc1';have z2:=Am gw2 hc2';have HE:=Z (fun(W:World)(gW:wr.grownBy W none)=>HC.out.2.2.1 q1 q2 (by have:=HN.out.1.2;omega) ok ok' qa1 qa2 qc1 qc2 W (hq1'.gb (Ah gw2 gW) Ae) (hq2'.gb (Ah gw2 gW) Ae));have HQ:=Z (Ac (show r1.wt≤b1.wt by omega) (Ac hr1' (Ac hr2' (Ac hP2 (Ac gw2 (Ac (show AP b1 b2=(AP q1 q2&&AP r1 r2)from hs2) (show r1.len=r2.len by omega)))))));clear hno2 hra2 hrb2 hq1' hr1' hc1' hq2' hr2' hc2' hP2 gw2 hs2 hl2;cases hb:AP q1 q2 with
                                  | true=>
                                    rw[hb]at HE;have HB:=Z (show AP b1 b2=AP r1 r2 by rw[HQ.out.2.2.2.2.2.1,hb];rfl);clear hb;go_wp2_with fail;go_region_with(go_at_call 40;refine(HE.out _ ?gg).mono ?_;(case gg=>exact gw);rintro e w5 ⟨rfl,g5⟩);all_goals
                                     go_wp2;go_roundg r1.len
                                     case measure=>omega
                                     case rel=>exact⟨r1,r2,k2+1,rfl,by omega,HQ.out.2.2.2.2.2.2,by go_num,HQ.out.1,HB.out,HQ.out.2.1,HQ.out.2.2.1,HQ.out.2.2.2.1.gb (Ah (AA (Aj _ none) 1) g5)⟩
                                  | false=>
                                    rw[hb]at HE;have HB:=Z (show AP a b=false by rw[HD.out,HQ.out.2.2.2.2.2.1,hb];rfl);clear hb;go_wp2_with fail;go_region_with(go_at_call 40;refine(HE.out _ ?gg).mono ?_;(case gg=>exact gw);rintro e w5 ⟨rfl,g5⟩);all_goals
                                     go_wp2;go_ret;exact⟨by rw[HB.out];rfl,Ah (AA HQ.out.2.2.2.2.1 1) g5⟩):=Aa h
         exact ZV):=Aa h;exact Y0):=Aa h;exact ZU):=Aa h;exact Yz):=Aa h
    exact TT
   ·have hnI:((a.len:Int) !=(b.len:Int))=true:=by simp;omega
    have hnI2:((a.len:Int)==(b.len:Int))=false:=Ag;have HN:=Z (show AP a b=false by cases h:AP a b with|false=>rfl|true=>exact absurd (Wb h) hlen);clear hlen ha hb ih;go_enter func40,ntmps40;go_wp2;go_ret;exact⟨by rw[HN.out];rfl,gw⟩
end Go.Proofs.YtmcajbhljbbglaaGreatDoor
