/-
  The empty program: its unit is right (2).
-/
import Derived.Test.YtahbajmkhjngiaaGreatDoorSx36
set_option linter.all false
set_option maxRecDepth 100000
set_option maxHeartbeats 8000000
namespace Go.Proofs.YtahbajmkhjngiaaGreatDoor
open Go.Proofs.Tryz
open Go.RowKit
theorem Cc{w:World}{ra:Option Addr}{rc:Nat}{ok:Nat→Prop}(h:Cells w (.slice ra 2 rc) 1 2 (V [0,0]) ok):∃g o,ra=some ⟨g,o,none⟩∧g<w.heap.size∧w.cell? ⟨g,o,none⟩=some (.int .i64 0)∧w.cell? ⟨g,o+1,none⟩=some (.int .i64 0):=by
 obtain⟨g,o,rfl,_,hl,c0⟩:=Cells.int (l:=[0,0]) (n:=2) (j:=0) (x:=0) h rfl;obtain⟨g',o',e,_,_,c1⟩:=Cells.int (l:=[0,0]) (n:=2) (j:=1) (x:=0) h rfl;cases e;exact⟨g,o,rfl,hl,by simpa using c0,c1⟩
theorem BW{w:World}{ra:Option Addr}{rc:Nat}{ca:Option Addr}{cc:Nat}{ok:Nat→Prop}(h1:Cells w (.slice ra 2 rc) 1 2 (V [0,0]) ok)(h2:Cells w (.slice ca 1 cc) 4 1 (O [Ag]) ok):
 Calls Tryz.prog 34 #[unVk ra rc ca cc] w fun e w'=>e= .returned (.bool true)∧w.grownBy w' none:=by
 obtain⟨g1,o1,rfl,hl1,i0,i1⟩:=Cc h1;obtain⟨g2,o2,rfl,hl2,c0,c1,c2,c3⟩:=Bv h2;have gA:=World.grownBy_alloc w (.cells #[str mainB,.slice (some ⟨g1,o1,none⟩) 2 rc,.slice (some ⟨g2,o2,none⟩) 1 cc] 33 (0,0)) none;have hb:=Blk.new w [str mainB,.slice (some ⟨g1,o1,none⟩) 2 rc,.slice (some ⟨g2,o2,none⟩) 1 cc] 33;have HC:=D (I i0 (I i1 (I c0 (I c1 (I c2 c3)))));have HB:=D (I hb gA);clear h1 h2 i0 i1 c0 c1 c2 c3 gA hb;go_enter func34,ntmps34;go_wp2_with fail;refine(BP mainB _ (by decide)).mono ?_;rintro e w1 ⟨rfl,k1⟩;have hnm:Ay mainB=true:=by decide
 rw[hnm];have gW:=M HB.out.2 k1;have hb1:=HB.out.1.gb k1 (by simp);have H1:=D (I hb1 gW);have b0:=hb1.cell' 0 rfl;have b1:=hb1.cell' 1 rfl;have b2:=hb1.cell' 2 rfl;have d0:=J gW HC.out.1;have d1:=J gW HC.out.2.1;have q0:=J gW HC.out.2.2.1;have q1:=J gW HC.out.2.2.2.1;have q2:=J gW HC.out.2.2.2.2.1;have q3:=J gW HC.out.2.2.2.2.2;clear k1 hnm gW hb1 HB;go_wp2_with fail;go_loopg [4,5,70] 1 (fun g v4 v5 v70 wr=>∃k:Nat,k+g=1∧v70= .int .i64 k∧Blk wr w.heap.size [str mainB,.slice (some ⟨g1,o1,none⟩) 2 rc,.slice (some ⟨g2,o2,none⟩) 1 cc] 33∧w.grownBy wr none)
 case atStart=>exact⟨0,rfl,rfl,H1.out.1,H1.out.2⟩
 case round=>
  obtain⟨k,hk,rfl,hb,hg⟩:=hrel;clear H1 d0 d1 q0 q1 q2 q3 b0 b1 b2;cases gk with
  | zero=>
    have hk1:k=1:=by omega
    subst hk1;have HX:=D hg;clear hg hb;go_wp2;go_ret;exact⟨rfl,HX.out⟩
  | succ gk=>
    have hk0:k=0:=by omega
    subst hk0;have q0:=J hg HC.out.2.2.1;have q1:=J hg HC.out.2.2.2.1;have q2:=J hg HC.out.2.2.2.2.1;have q3:=J hg HC.out.2.2.2.2.2;have b2:=hb.cell' 2 rfl;have bl:=hb.lt;have gA:=World.grownBy_alloc wr (.cells (cdC Ag).toArray 35 (0,0)) none;have HX:=D (I (hb.gb gA (by simp)) (I (M hg gA) (Blk.new wr (cdC Ag) 35)));clear hb hg gA;go_wp2_with fail;refine(BV _).mono ?_;rintro e w3 ⟨rfl,k3⟩;have hx:=HX.out.2.2.gb k3 (by simp);have H3:=D (I (HX.out.1.gb k3 (by simp)) (M HX.out.2.1 k3));have e0:=hx.cell' 0 rfl;have e1:=hx.cell' 1 rfl;have e2:=hx.cell' 2 rfl;have e3:=hx.cell' 3 rfl;clear hx k3 q0 q1 q2 q3 b2;go_wp2;go_roundg gk
    case measure=>omega
    case rel=>exact⟨1,by omega,rfl,H3.out.1,H3.out.2⟩
theorem CP(ok:Nat→Prop):AB 33 ok:=by
 intro W ra rc ca cc h1 h2;have gA:=World.grownBy_alloc W (.cells #[str mainB,.slice ra 2 rc,.slice ca 1 cc] 33 (0,0)) none;have HH:=D (I (BW (h1.gb gA (by simp)) (h2.gb gA (by simp))) gA);clear h1 h2 gA;go_enter func33,ntmps33;go_wp2_with fail;refine HH.out.1.mono ?_;rintro e w1 ⟨rfl,g1⟩;have HG:=D (M HH.out.2 g1);clear g1;go_wp2;go_ret;exact⟨rfl,HG.out⟩
end Go.Proofs.YtahbajmkhjngiaaGreatDoor
