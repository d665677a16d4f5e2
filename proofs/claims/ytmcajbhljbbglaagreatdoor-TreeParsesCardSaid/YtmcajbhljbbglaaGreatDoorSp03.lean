/-
  Dates: isLeap, monthDays, yearsDays, Days, Val, Unstamp.
-/
import Derived.Test.YtmcajbhljbbglaaGreatDoorSpF
import Derived.Test.YtmcajbhljbbglaaGreatDoorSp02
set_option linter.all false
set_option maxRecDepth 100000
set_option maxHeartbeats 8000000
namespace Go.Proofs.YtmcajbhljbbglaaGreatDoor
open Tryz
open Go.RowKit
def H5(y:Int):Bool:=(y.tmod 4==0)&&((y.tmod 100 !=0)||(y.tmod 400==0))
def EF(y m:Int):Int:=if m==2&&H5 y then 29 else([31,28,31,30,31,30,31,31,30,31,30,31]:List Int).getD (m-1).toNat 0
def Gm(y:Int):Int:=365*(y-1)+(y-1).tdiv 4-(y-1).tdiv 100+(y-1).tdiv 400
theorem rU(y:Int)(h0:0≤y)(h1:y≤100000)(w:World):Calls Tryz.prog 284 #[.int .i64 y] w fun e w'=>e= .returned (.bool (H5 y))∧w'=w:=by
 have gY{P}(h:P:=by
 unfold H5;generalize e4:y.tmod 4=a at*;generalize e100:y.tmod 100=b at*;generalize e400:y.tmod 400=c at*;by_cases h4:a=0
 ·by_cases h100:b=0
  ·go_enter func284,ntmps284;exact LO
  ·go_enter func284,ntmps284;exact LO
 ·go_enter func284,ntmps284;go_wp2;go_ret;exact⟨by simp[h4],rfl⟩):=Aa h
 exact Zz
theorem lF(y:Int)(h0:0≤y)(h1:y≤100000)(w:World):Calls Tryz.prog 270 #[.int .i64 y] w fun e w'=>e= .returned (.int .i64 (Gm y))∧w'=w:=by
 have hb4: -100000≤(y-1).tdiv 4∧(y-1).tdiv 4≤100000:=by
  exact QU
 have hb100: -100000≤(y-1).tdiv 100∧(y-1).tdiv 100≤100000:=by
  exact QU
 have hb400: -100000≤(y-1).tdiv 400∧(y-1).tdiv 400≤100000:=by
  exact QU
 unfold Gm;generalize e4:(y-1).tdiv 4=a at*;generalize e100:(y-1).tdiv 100=b at*;generalize e400:(y-1).tdiv 400=c at*;go_enter func270,ntmps270;exact I5
theorem OD(y m:Int)(h0:0≤y)(h1:y≤100000)(hm0:1≤m)(hm1:m≤12)(w:World):Calls Tryz.prog 269 #[.int .i64 y,.int .i64 m] w fun e w'=>e= .returned (.int .i64 (EF y m))∧w.grownBy w' none:=by
 have hm:m=1∨m=2∨m=3∨m=4∨m=5∨m=6∨m=7∨m=8∨m=9∨m=10∨m=11∨m=12:=Ab;rcases hm with rfl|rfl|rfl|rfl|rfl|rfl|rfl|rfl|rfl|rfl|rfl|rfl
 case inr.inl=>
  go_enter func269,ntmps269;go_wp2_with fail;refine(rU y h0 h1 _).mono ?_;rintro e w1 ⟨rfl,rfl⟩;cases hl:H5 y with
  | true=>
    go_wp2;go_ret;exact⟨by simp[EF,hl],gw⟩
  | false=>
    go_wp2;go_ret;exact⟨by simp[EF,hl],gw⟩
 all_goals
  go_enter func269,ntmps269;go_wp2;go_ret;exact⟨rfl,gw⟩
theorem K4(y m:Int)(hm0:1≤m)(hm1:m≤12):0≤EF y m∧EF y m≤31:=by
 have hm:m=1∨m=2∨m=3∨m=4∨m=5∨m=6∨m=7∨m=8∨m=9∨m=10∨m=11∨m=12:=Ab;unfold EF;rcases hm with rfl|rfl|rfl|rfl|rfl|rfl|rfl|rfl|rfl|rfl|rfl|rfl<;>(try split)<;>decide
def Do(y:Int):Nat→Int
 | 0=>0
 |k+1=>Do y k+EF y (k+1)
theorem UW(y:Int):∀k:Nat,k≤12→0≤Do y k∧Do y k≤31*k:=by
 intro k;induction k with
 |zero=>intro _;simp[Do]
 | succ k ih=>
   intro hk;have h1:=ih Ab;have h2:=K4 y (k+1) Ab Ab;unfold Do;omega
def EE(y m d:Int):Bool:=decide (y<1)||decide (9999<y)||decide (m<1)||decide (12<m)||decide (d<1)||decide (EF y m<d)
def Bq(y m d:Int):Int×Int:=if EE y m d then(0,1)else(Gm y+d+Do y (m-1).toNat,0)
end Go.Proofs.YtmcajbhljbbglaaGreatDoor
