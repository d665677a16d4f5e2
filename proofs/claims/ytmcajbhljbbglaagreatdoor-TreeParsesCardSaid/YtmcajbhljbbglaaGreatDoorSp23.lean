/-
  The reference's lexer: classes of bytes; its reader in memory.
-/
import Derived.Test.YtmcajbhljbbglaaGreatDoorSpF
import Derived.Test.YtmcajbhljbbglaaGreatDoorSp05
import Derived.Test.YtmcajbhljbbglaaGreatDoorSp10
import Derived.Test.YtmcajbhljbbglaaGreatDoorSp21
set_option linter.all false
set_option maxRecDepth 100000
set_option maxHeartbeats 8000000
namespace Go.Proofs.YtmcajbhljbbglaaGreatDoor
open Tryz
open Go.RowKit
theorem Sh(b:UInt8)(w:World):Calls Tryz.prog 173 #[.int .u8 b.toNat] w fun e w'=>e= .returned (.bool (cls 2 b))∧w=w':=by
 unfold cls;rcases I2 b.toNat with⟨hc,h⟩| ⟨hc,h⟩| ⟨hc,h⟩| ⟨hc,h⟩| ⟨hc,h⟩
 all_goals rw[hc]
 ·rcases h with h|h
  all_goals
   rw[h];exact Jm
 ·rcases h with h| ⟨h,h'⟩| ⟨h,h'⟩
  ·rw[h];exact Jm
  all_goals
   exact Jm
 ·obtain⟨h,h'⟩:=h;exact Jm
 ·rcases h with h| ⟨h,h'⟩|h
  all_goals
   exact Jm
 ·rcases h with h| ⟨h,h'⟩| ⟨h,h'⟩| ⟨h,h'⟩|h| ⟨h,h'⟩
  all_goals
   try rw[h]
   exact Jm
theorem Kr(b:UInt8)(w:World):Calls Tryz.prog 119 #[.int .u8 b.toNat] w fun e w'=>e= .returned (.bool (cls 3 b))∧w=w':=by
 unfold cls;rcases I2 b.toNat with⟨hc,h⟩| ⟨hc,h⟩| ⟨hc,h⟩| ⟨hc,h⟩| ⟨hc,h⟩
 all_goals rw[hc]
 ·rcases h with h|h
  all_goals
   rw[h];exact Jn
 ·rcases h with h| ⟨h,h'⟩| ⟨h,h'⟩
  ·rw[h];exact Jn
  all_goals
   exact Jn
 ·obtain⟨h,h'⟩:=h;exact Jn
 ·rcases h with h| ⟨h,h'⟩|h
  all_goals
   exact Jn
 ·rcases h with h| ⟨h,h'⟩| ⟨h,h'⟩| ⟨h,h'⟩|h| ⟨h,h'⟩
  all_goals
   try rw[h]
   exact Jn
theorem Of(b:UInt8)(w:World):Calls Tryz.prog 170 #[.int .u8 b.toNat] w fun e w'=>e= .returned (.bool (cls 1 b))∧w=w':=by
 unfold cls;rcases I2 b.toNat with⟨hc,h⟩| ⟨hc,h⟩| ⟨hc,h⟩| ⟨hc,h⟩| ⟨hc,h⟩
 all_goals rw[hc]
 ·rcases h with h|h
  all_goals
   rw[h];exact Jo
 ·rcases h with h| ⟨h,h'⟩| ⟨h,h'⟩
  ·rw[h];exact Jo
  all_goals
   exact Jo
 ·obtain⟨h,h'⟩:=h;exact Jo
 ·rcases h with h| ⟨h,h'⟩|h
  all_goals
   exact Jo
 ·rcases h with h| ⟨h,h'⟩| ⟨h,h'⟩| ⟨h,h'⟩|h| ⟨h,h'⟩
  all_goals
   try rw[h]
   exact Jo
theorem OE(b:UInt8)(w:World):Calls Tryz.prog 168 #[.int .u8 b.toNat] w fun e w'=>e= .returned (.bool (!cls 4 b))∧w=w':=by
 unfold cls;rcases I2 b.toNat with⟨hc,h⟩| ⟨hc,h⟩| ⟨hc,h⟩| ⟨hc,h⟩| ⟨hc,h⟩
 all_goals rw[hc]
 ·rcases h with h|h
  all_goals
   rw[h];exact Jp
 ·rcases h with h| ⟨h,h'⟩| ⟨h,h'⟩
  ·rw[h];exact Jp
  all_goals
   exact Jp
 ·obtain⟨h,h'⟩:=h;exact Jp
 ·rcases h with h| ⟨h,h'⟩|h
  all_goals
   exact Jp
 ·rcases h with h| ⟨h,h'⟩| ⟨h,h'⟩| ⟨h,h'⟩|h| ⟨h,h'⟩
  all_goals
   try rw[h]
   exact Jp
theorem u8i{a:UInt8}{n:Nat}(hn:n<256):((a.toNat:Int)==(n:Int))=(a==UInt8.ofNat n):=by
 exact ZP
theorem l2(b:UInt8)(w:World):Calls Tryz.prog 193 #[.int .u8 b.toNat] w fun e w'=>e= .returned (.int .u8 (Lib.upperB b).toNat)∧w=w':=by
 by_cases h:97≤b.toNat∧b.toNat≤122
 ·have e : ((Lib.upperB b).toNat : Int) = (b.toNat : Int) - 32 := by
   have h0:Lib.isLowerB b=true:=by simp[Lib.isLowerB,UInt8.le_iff_toNat_le];omega
   exact TA
  rw[e];obtain⟨h,h'⟩:=h;go_enter func193,ntmps193;exact JS
 ·have e : Lib.upperB b = b := by
   have h0:Lib.isLowerB b=false:=by
    simp[Lib.isLowerB,UInt8.le_iff_toNat_le];omega
   unfold Lib.upperB;rw[if_neg (by rw[h0];simp)]
  rw[e];have hc:b.toNat<97∨122<b.toNat:=Ab;clear h e;rcases hc with h|h
  all_goals
   go_enter func193,ntmps193;exact JS
end Go.Proofs.YtmcajbhljbbglaaGreatDoor
