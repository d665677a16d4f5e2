/-
  Code: Sum on both sides; Copy, the program's.
-/
import Derived.Test.YtahbajmkhjngiaaGreatDoorSx27
import Derived.Test.YtahbajmkhjngiaaGreatDoorSx28
import Derived.Test.YtahbajmkhjngiaaGreatDoorSx20
import Derived.Test.YtahbajmkhjngiaaGreatDoorSx26
set_option linter.all false
set_option maxRecDepth 100000
set_option maxHeartbeats 8000000
namespace Go.Proofs.YtahbajmkhjngiaaGreatDoor
open Go.Proofs.Tryz
open Go.RowKit
theorem Dy{w:World}{v:Value}{us:List Un}{ok:Nat→Prop}(h:VU ok w v us)(hb:Z us≤100000000)(hw:A3 us)(hp:Pow w):
 Calls Tryz.prog 11 #[v] w fun e w'=>e= .returned (.int .i64 (csM (Au us)))∧w.grownBy w' none:=by
 have hl:(Au us).length≤100000000000:=by have:=AW hw us.length (Nat.le_refl _);unfold Au;omega
 have H:=D (I h (I hb (I hw hp)));have HL:=D hl;clear h hb hw hp hl;go_enter func11,ntmps11;go_wp2_with fail;refine(Cp H.out.1 H.out.2.1 H.out.2.2.1 H.out.2.2.2).mono ?_;rintro e w1 ⟨rfl,g1⟩;have HG:=D g1;clear g1;go_wp2_with fail;refine(Cz (Au us) HL.out w1).mono ?_;rintro e w2 ⟨rfl,g2⟩;have HG2:=D (M HG.out g2);clear g2;go_wp2;go_ret;exact⟨rfl,HG2.out⟩
theorem Cx{w:World}{v:Value}{us:List Un}{ok:Nat→Prop}(h:VU ok w v us)(hb:Z us≤100000000)(hw:A3 us)(hp:Pow w):
 Calls Tryz.prog 12 #[v] w fun e w'=>e= .returned (.int .i64 (csM (Au us)))∧w.grownBy w' none:=by
 have hl:(Au us).length≤100000000000:=by have:=AW hw us.length (Nat.le_refl _);unfold Au;omega
 have H:=D (I h (I hb (I hw hp)));have HL:=D hl;clear h hb hw hp hl;go_enter func12,ntmps12;go_wp2_with fail;refine(CA H.out.1 H.out.2.1 H.out.2.2.1 H.out.2.2.2).mono ?_;rintro e w1 ⟨rfl,g1⟩;have HG:=D g1;clear g1;go_wp2_with fail;refine(Cb (Au us) HL.out w1).mono ?_;rintro e w2 ⟨rfl,g2⟩;have HG2:=D (show w.grownBy w2 none by first|exact M HG.out g2| (subst g2;exact HG.out));clear g2;go_wp2;go_ret;exact⟨rfl,HG2.out⟩
end Go.Proofs.YtahbajmkhjngiaaGreatDoor
