/-
  The empty program: no text of its unit is too long; Compile.
-/
import Derived.Test.YtahbajmkhjngiaaGreatDoorSx29
import Derived.Test.YtahbajmkhjngiaaGreatDoorSx10
import Derived.Test.YtahbajmkhjngiaaGreatDoorSx31
set_option linter.all false
set_option maxRecDepth 100000
set_option maxHeartbeats 8000000
namespace Go.Proofs.YtahbajmkhjngiaaGreatDoor
open Go.Proofs.Tryz
open Go.RowKit
abbrev unVk(ra:Option Addr)(rc:Nat)(ca:Option Addr)(cc:Nat):Value:= .agg #[str mainB,.slice ra 2 rc,.slice ca 1 cc]
theorem C6(w:World):Calls Tryz.prog 52 #[.agg #[.int .i64 17,.int .i64 0,.int .i64 0,str []]] w fun e w'=>e= .returned (.bool false)∧w.grownBy w' none:=by
 go_enter func52,ntmps52;go_wp2;go_ret;exact⟨rfl,(by repeat(first| (with_reducible exact N _ _)| (with_reducible assumption)| (with_reducible exact AQ (by assumption))| (with_reducible refine Y ?_ _)| (with_reducible refine Ae ?_)| (with_reducible refine Af ?_ _)| ((with_reducible refine Am ?_ _ _ ?h2);case h2=>first|exact .inl rfl|exact .inr (Nat.le_refl _)|exact .inr (by simp<;>omega))| (with_reducible refine AO ?_ (by assumption))| (with_reducible refine M ?_ (by assumption))))⟩
theorem Bv{w:World}{ca:Option Addr}{cc:Nat}{ok:Nat→Prop}(h:Cells w (.slice ca 1 cc) 4 1 (O [Ag]) ok):∃g o,ca=some ⟨g,o,none⟩∧g<w.heap.size∧w.cell? ⟨g,o,none⟩=some (.int .i64 17)∧w.cell? ⟨g,o+1,none⟩=some (.int .i64 0)∧w.cell? ⟨g,o+2,none⟩=some (.int .i64 0)∧w.cell? ⟨g,o+3,none⟩=some (str []):=by
 obtain⟨g,o,e,_,hl,c0,c1,c2,c3⟩:=Cells.cd (l:=[Ag]) (n:=1) (j:=0) (x:=Ag) h rfl;exact⟨g,o,e,hl,by simpa using c0,by simpa using c1,by simpa using c2,by simpa using c3⟩
theorem CH{w:World}{ca:Option Addr}{cc:Nat}{ok:Nat→Prop}(h:Cells w (.slice ca 1 cc) 4 1 (O [Ag]) ok):
 Calls Tryz.prog 68 #[.slice ca 1 cc,.func (.func 52) #[] #[]] w fun e w'=>e= .returned (.int .i64 (-1))∧w.grownBy w' none:=by
 obtain⟨g,o,rfl,hgl,c0,c1,c2,c3⟩:=Bv h;have HC:=D (I c0 (I c1 (I c2 c3)));clear h c0 c1 c2 c3 hgl;go_enter func68,ntmps68;go_wp2_with fail;go_loopg [5,8] 1 (fun g v5 v8 wr=>∃k:Nat,k+g=1∧v8= .int .i64 k∧w.grownBy wr none)
 case atStart=>exact⟨0,rfl,rfl,N _ _⟩
 case round=>
  obtain⟨k,hk,rfl,hg⟩:=hrel;cases gk with
  | zero=>
    have hk1:k=1:=by omega
    subst hk1;have HX:=D hg;clear hg;go_wp2;go_ret;exact⟨rfl,HX.out⟩
  | succ gk=>
    have hk0:k=0:=by omega
    subst hk0;have d0:=J hg HC.out.1;have d1:=J hg HC.out.2.1;have d2:=J hg HC.out.2.2.1;have d3:=J hg HC.out.2.2.2;have HX:=D hg;clear hg;go_wp2_with fail;refine(C6 _).mono ?_;rintro e w2 ⟨rfl,g2⟩;have H2:=D (M HX.out g2);clear g2;go_wp2;go_roundg gk
    case measure=>omega
    case rel=>exact⟨1,by omega,rfl,H2.out⟩
theorem BE{w:World}{ra:Option Addr}{rc:Nat}{ca:Option Addr}{cc:Nat}{ok:Nat→Prop}(h:Cells w (.slice ca 1 cc) 4 1 (O [Ag]) ok):
 Calls Tryz.prog 32 #[unVk ra rc ca cc] w fun e w'=>e= .returned (.bool false)∧w.grownBy w' none:=by
 have gA:=World.grownBy_alloc w (.cells #[str mainB,.slice ra 2 rc,.slice ca 1 cc] 33 (0,0)) none;have HH:=D (I (h.gb gA (by simp)) gA);clear h gA;have hc:∀W,Cells W (.slice ca 1 cc) 4 1 (O [Ag]) ok→Calls Tryz.prog 51 #[.slice ca 1 cc,.func (.func 52) #[] #[]] W fun e w'=>e= .returned (.bool false)∧W.grownBy w' none:=by
  intro W hW;have HW:=D hW;clear hW;go_enter func51,ntmps51;go_wp2_with fail;refine(CH HW.out).mono ?_;rintro e w1 ⟨rfl,g1⟩;go_wp2;go_ret;exact⟨rfl,g1⟩
 have HC:=D hc;clear hc;go_enter func32,ntmps32;go_wp2_with fail;refine(HC.out _ HH.out.1).mono ?_;rintro e w1 ⟨rfl,g1⟩;have HG:=D (M HH.out.2 g1);clear g1;go_wp2;go_ret;exact⟨rfl,HG.out⟩
theorem Bd{w:World}{v:Value}{ok:Nat→Prop}(h:VU ok w v [knU]):∃g o cap ra rc ca cc,v= .slice (some ⟨g,o,none⟩) 1 cap∧g<w.heap.size∧w.cell? ⟨g,o,none⟩=some (str mainB)∧w.cell? ⟨g,o+1,none⟩=some (.slice ra 2 rc)∧w.cell? ⟨g,o+2,none⟩=some (.slice ca 1 cc)∧
 Cells w (.slice ra 2 rc) 1 2 (V [0,0]) ok∧Cells w (.slice ca 1 cc) 4 1 (O [Ag]) ok:=by
 obtain⟨a,cap,rfl,_,_,hat⟩:=h.open;obtain⟨g,o,ra,rc,ca,cc,rfl,_,hl,c0,c1,c2,h1,h2⟩:=hat 0 knU rfl;exact⟨g,o,cap,ra,rc,ca,cc,rfl,hl,by simpa using c0,by simpa using c1,by simpa using c2,h1,h2⟩
def AB(k:Nat)(ok:Nat→Prop):Prop:=∀(W:World)(ra:Option Addr)(rc:Nat)(ca:Option Addr)(cc:Nat),Cells W (.slice ra 2 rc) 1 2 (V [0,0]) ok→Cells W (.slice ca 1 cc) 4 1 (O [Ag]) ok→Calls Tryz.prog k #[unVk ra rc ca cc] W fun e w'=>e= .returned (.bool false)∧W.grownBy w' none
theorem CK{w:World}{v:Value}{ok:Nat→Prop}(h:VU ok w v [knU])(hk:AB 32 ok):
 Calls Tryz.prog 50 #[v,.func (.func 32) #[] #[]] w fun e w'=>e= .returned (.int .i64 (-1))∧w.grownBy w' none:=by
 obtain⟨g,o,cap,ra,rc,ca,cc,rfl,hgl,c0,c1,c2,h1,h2⟩:=Bd h;have HC:=D (I c0 (I c1 (I c2 (I h1 h2))));have HK:=D hk;clear h c0 c1 c2 h1 h2 hgl hk;go_enter func50,ntmps50;go_wp2_with fail;go_loopg [5,8] 1 (fun g v5 v8 wr=>∃k:Nat,k+g=1∧v8= .int .i64 k∧w.grownBy wr none)
 case atStart=>exact⟨0,rfl,rfl,N _ _⟩
 case round=>
  obtain⟨j,hj,rfl,hg⟩:=hrel;cases gk with
  | zero=>
    have hk1:j=1:=by omega
    subst hk1;have HX:=D hg;clear hg;go_wp2;go_ret;exact⟨rfl,HX.out⟩
  | succ gk=>
    have hk0:j=0:=by omega
    subst hk0;have d0:=J hg HC.out.1;have d1:=J hg HC.out.2.1;have d2:=J hg HC.out.2.2.1;have HX:=D hg;clear hg;go_wp2_with fail;refine(HK.out _ ra rc ca cc (HC.out.2.2.2.1.gb HX.out (by simp)) (HC.out.2.2.2.2.gb HX.out (by simp))).mono ?_;rintro e w2 ⟨rfl,g2⟩;have H2:=D (M HX.out g2);clear g2;go_wp2;go_roundg gk
    case measure=>omega
    case rel=>exact⟨1,by omega,rfl,H2.out⟩
theorem Dl{w:World}{v:Value}{ok:Nat→Prop}(h:VU ok w v [knU])(hk:AB 32 ok):
 Calls Tryz.prog 31 #[v,.func (.func 32) #[] #[]] w fun e w'=>e= .returned (.bool false)∧w.grownBy w' none:=by
 have HI:=D (CK h hk);clear h hk;go_enter func31,ntmps31;go_wp2_with fail;refine HI.out.mono ?_;rintro e w1 ⟨rfl,g1⟩;go_wp2;go_ret;exact⟨rfl,g1⟩
theorem CL{w:World}{v:Value}{ok:Nat→Prop}(h:VU ok w v [knU])(hk:AB 33 ok):
 Calls Tryz.prog 50 #[v,.func (.func 33) #[] #[]] w fun e w'=>e= .returned (.int .i64 (-1))∧w.grownBy w' none:=by
 obtain⟨g,o,cap,ra,rc,ca,cc,rfl,hgl,c0,c1,c2,h1,h2⟩:=Bd h;have HC:=D (I c0 (I c1 (I c2 (I h1 h2))));have HK:=D hk;clear h c0 c1 c2 h1 h2 hgl hk;go_enter func50,ntmps50;go_wp2_with fail;go_loopg [5,8] 1 (fun g v5 v8 wr=>∃k:Nat,k+g=1∧v8= .int .i64 k∧w.grownBy wr none)
 case atStart=>exact⟨0,rfl,rfl,N _ _⟩
 case round=>
  obtain⟨j,hj,rfl,hg⟩:=hrel;cases gk with
  | zero=>
    have hk1:j=1:=by omega
    subst hk1;have HX:=D hg;clear hg;go_wp2;go_ret;exact⟨rfl,HX.out⟩
  | succ gk=>
    have hk0:j=0:=by omega
    subst hk0;have d0:=J hg HC.out.1;have d1:=J hg HC.out.2.1;have d2:=J hg HC.out.2.2.1;have HX:=D hg;clear hg;go_wp2_with fail;refine(HK.out _ ra rc ca cc (HC.out.2.2.2.1.gb HX.out (by simp)) (HC.out.2.2.2.2.gb HX.out (by simp))).mono ?_;rintro e w2 ⟨rfl,g2⟩;have H2:=D (M HX.out g2);clear g2;go_wp2;go_roundg gk
    case measure=>omega
    case rel=>exact⟨1,by omega,rfl,H2.out⟩
theorem Dm{w:World}{v:Value}{ok:Nat→Prop}(h:VU ok w v [knU])(hk:AB 33 ok):
 Calls Tryz.prog 31 #[v,.func (.func 33) #[] #[]] w fun e w'=>e= .returned (.bool false)∧w.grownBy w' none:=by
 have HI:=D (CL h hk);clear h hk;go_enter func31,ntmps31;go_wp2_with fail;refine HI.out.mono ?_;rintro e w1 ⟨rfl,g1⟩;go_wp2;go_ret;exact⟨rfl,g1⟩
theorem C7(ok:Nat→Prop):AB 32 ok:=fun _ _ _ _ _ _ h=>BE h
end Go.Proofs.YtahbajmkhjngiaaGreatDoor
