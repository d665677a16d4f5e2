/-
  The empty program: its unit is right.
-/
import Derived.Test.YtahbajmkhjngiaaGreatDoorSx35
import Derived.Test.YtahbajmkhjngiaaGreatDoorSx16
set_option linter.all false
set_option maxRecDepth 100000
set_option maxHeartbeats 8000000
namespace Go.Proofs.YtahbajmkhjngiaaGreatDoor
open Go.Proofs.Tryz
open Go.RowKit
theorem CI{w:World}{a:Option Addr}{c:Nat}{l:List Int}{ok:Nat→Prop}{x:Int}(h:Cells w (.slice a l.length c) 1 l.length (V l) ok)(hx:x ∉ l):
 Calls Tryz.prog 158 #[.slice a l.length c,.int .i64 x] w fun e w'=>e= .returned (.int .i64 (-1))∧w.grownBy w' none:=by
 have hlm:l.length≤9223372036854775807:=by obtain⟨_,_,e,h3,h4,_⟩:=h;cases e;unfold maxLen at h4;omega
 have HH:=D (I h hx);clear h hx;go_enter func158,ntmps158;go_wp2_with fail;go_loopg [5,8] l.length (fun g v5 v8 wr=>∃k:Nat,k+g=l.length∧v8= .int .i64 k∧w.grownBy wr none)
 case atStart=>exact⟨0,by omega,rfl,N _ _⟩
 case round=>
  obtain⟨k,hk,rfl,hg⟩:=hrel;cases gk with
  | zero=>
    have hkl:k=l.length:=by omega
    have hj1:decide (k<l.length)=false:=by simp;omega
    have HX:=D hg;clear hg;go_wp2;go_ret;exact⟨rfl,HX.out⟩
  | succ gk=>
    have hkl:k<l.length:=by omega
    have hj1:decide (k<l.length)=true:=by simp;omega
    obtain⟨y,hy⟩:∃y,l[k]? =some y:=⟨_,X hkl⟩;obtain⟨g,o,rfl,_,_,c0⟩:=HH.out.1.int hy;have d0:=J hg c0;have hne:(x==y)=false:=by
     have:y∈l:=List.mem_of_getElem? hy;simp;rintro rfl;exact HH.out.2 this
    have HX:=D hg;clear hg c0;go_wp2;go_roundg gk
    case measure=>omega
    case rel=>exact⟨k+1,by omega,by go_num,HX.out⟩
theorem Dk{w:World}{a:Option Addr}{c:Nat}{l:List Int}{ok:Nat→Prop}{x:Int}(h:Cells w (.slice a l.length c) 1 l.length (V l) ok)(hx:x ∉ l):
 Calls Tryz.prog 114 #[.slice a l.length c,.int .i64 x] w fun e w'=>e= .returned (.bool false)∧w.grownBy w' none:=by
 have HI:=D (CI h hx);clear h hx;go_enter func114,ntmps114;go_wp2_with fail;refine HI.out.mono ?_;rintro e w1 ⟨rfl,g1⟩;go_wp2;go_ret;exact⟨rfl,g1⟩
theorem B8(w:World):Calls Tryz.prog 71 #[.int .i64 17] w fun e w'=>e= .returned (.bool false)∧w.grownBy w' none:=by
 have gA:=World.grownBy_alloc w (.cells #[.int .i64 6,.int .i64 8,.int .i64 9,.int .i64 11,.int .i64 14] 3 (0,0)) none;have HH:=D (I (Bn (n:=5) (k:=1) (ok:=fun _=>True) (Blk.new w [.int .i64 6,.int .i64 8,.int .i64 9,.int .i64 11,.int .i64 14] 3) rfl (by decide) trivial) gA);clear gA;go_enter func71,ntmps71;go_wp2_with fail;refine(Dk (l:=[6,8,9,11,14]) (ok:=fun _=>True) HH.out.1 (by decide)).mono ?_;rintro e w1 ⟨rfl,g1⟩;have HG:=D (M HH.out.2 g1);clear g1;go_wp2;go_ret;exact⟨rfl,HG.out⟩
theorem BV(w:World):Calls Tryz.prog 55 #[.agg #[.int .i64 17,.int .i64 0,.int .i64 0,str []],.int .i64 0] w fun e w'=>e= .returned (.bool true)∧w.grownBy w' none:=by
 have hb:=Blk.new w (cdC Ag) 35;have HB:=D (I hb (World.grownBy_alloc w (.cells (cdC Ag).toArray 35 (0,0)) none));clear hb;go_enter func55,ntmps55;go_wp2_with fail;refine(B8 _).mono ?_;rintro e w1 ⟨rfl,g1⟩;have hb1:=HB.out.1.gb g1 (by simp);have H1:=D (I hb1 (M HB.out.2 g1));have b0:=hb1.cell' 0 rfl;have b1:=hb1.cell' 1 rfl;have b2:=hb1.cell' 2 rfl;have b3:=hb1.cell' 3 rfl;clear hb1 g1 HB;go_wp2_with fail;refine(B8 _).mono ?_;rintro e w2 ⟨rfl,g2⟩;have hb2:=H1.out.1.gb g2 (by simp);have H2:=D (M H1.out.2 g2);have d0:=hb2.cell' 0 rfl;have d1:=hb2.cell' 1 rfl;have d2:=hb2.cell' 2 rfl;have d3:=hb2.cell' 3 rfl;clear hb2 g2 H1 b0 b1 b2 b3;go_wp2;go_ret;exact⟨rfl,H2.out⟩
end Go.Proofs.YtahbajmkhjngiaaGreatDoor
