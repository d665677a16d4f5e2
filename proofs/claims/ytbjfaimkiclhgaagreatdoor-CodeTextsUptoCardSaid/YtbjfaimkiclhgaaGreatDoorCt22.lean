/-
  TxD TxE TxF Code: the program's reader of texts: where the sum stands. Code: the program's reader of texts: Read. CdI
-/
import Derived.Test.YtbjfaimkiclhgaaGreatDoorCt20
import Derived.Test.YtbjfaimkiclhgaaGreatDoorCt11
import Derived.Test.YtbjfaimkiclhgaaGreatDoorCt14
import Derived.Test.YtbjfaimkiclhgaaGreatDoorCt05
import Derived.Lib.QuietBelow
import Derived.Deep.DeepCutAuto
set_option linter.all false
set_option maxRecDepth 100000
set_option maxHeartbeats 8000000
namespace Go.Proofs.YtbjfaimkiclhgaaGreatDoor
open Go.Proofs.Tryz
open Go.RowKit
section
variable {w:World}{h:Hd}{pa la:Option Addr}{pc n lc:Nat}{t:Bs}
def GO{pn:Nat}(hl:t.length<=1000000000000000)(HT:∀W,w.grownBy W none->Calls Tryz.prog 211 #[exV h (.slice pa pn pc) (.slice la n lc)] W (ρ W (str t))):
 Calls Tryz.prog 243 #[exV h (.slice pa pn pc) (.slice la n lc)] w (ρ w (str (opT (h,t)))):=by
 have H:=S HT;clear HT;have HO:=S (show opT (h,t)=if h.op=4\/h.op=5 then [40]++t++[41]else t from rfl);have hcl1:¬(9223372036854775807<1+t.length):=by omega
 have hcl2:¬(9223372036854775807<1+t.length+1):=by omega
 obtain⟨op,s,vk,vn,vs,p⟩:=h;simp only at H HO ⊢;by_cases h4:op=4
 ·subst h4;rw[HO.1,if_pos (.inl rfl)];clear HO;go_enter func243,ntmps243;go_wp2_with fail;refine(H.1 _ ?gg).mono ?_
  case gg=>exact(Ac (Aa _ _) _)
  rintro e w1 ⟨rfl,g1⟩;have HG:=S (Z (Ac (Aa w none) _) g1);clear g1;go_wp2;go_ret;exact⟨congrArg Ending.returned (Co (by simp[ByteArray.data_append])),HG.1⟩
 ·have c4:(op==4)=false:=by simpa using h4
  by_cases h5:op=5
  ·subst h5;rw[HO.1,if_pos (.inr rfl)];clear HO h4;go_enter func243,ntmps243;go_wp2_with fail;refine(H.1 _ ?gg).mono ?_
   case gg=>exact(Ac (Aa _ _) _)
   rintro e w1 ⟨rfl,g1⟩;have HG:=S (Z (Ac (Aa w none) _) g1);clear g1;go_wp2;go_ret;exact⟨congrArg Ending.returned (Co (by simp[ByteArray.data_append])),HG.1⟩
  ·have c5:(op==5)=false:=by simpa using h5
   rw[HO.1,if_neg (by rintro(e|e);exact h4 e;exact h5 e)];clear HO h4 h5;go_enter func243,ntmps243;go_wp2_with fail;refine(H.1 _ ?gg).mono ?_
   case gg=>exact(Ac (Aa _ _) _)
   rintro e w1 ⟨rfl,g1⟩;have HG:=S (Z (Ac (Aa w none) _) g1);clear g1;go_wp2;go_ret;exact⟨rfl,HG.1⟩
end
section
variable {w:World}{s vs:Bs}{p:List Bs}{vk vn:Int}{pa la:Option Addr}{pc pn n lc:Nat}{t:Bs}
def Z1(HC:∀W,w.grownBy W none->Calls Tryz.prog 241 #[.agg #[.int .i64 vk,.int .i64 vn,str vs]] W (ρ W (str t))):
 Calls Tryz.prog 211 #[exV ⟨0,s,vk,vn,vs,p⟩ (.slice pa pn pc) (.slice la n lc)] w (ρ w (str t)):=by
 have H:=S HC;clear HC;go_enter func211,ntmps211;go_wp2_with fail;refine(H.1 _ ?gg).mono ?_
 case gg=>exact(Ac (Aa _ _) _)
 rintro e w1 ⟨rfl,g1⟩;have HG:=S (Z (Ac (Aa w none) _) g1);clear g1;go_wp2;go_ret;exact⟨rfl,HG.1⟩
def Z2:Calls Tryz.prog 211 #[exV ⟨1,s,vk,vn,vs,p⟩ (.slice pa pn pc) (.slice la n lc)] w (ρ w (str s)):=by
 go_enter func211,ntmps211;go_wp2;go_ret;exact⟨rfl,(Ac (Aa _ _) _)⟩
def Ys(hl:s.length<=2000000):Calls Tryz.prog 211 #[exV ⟨10,s,vk,vn,vs,p⟩ (.slice pa pn pc) (.slice la n lc)] w (ρ w (str ([64]++s))):=by
 have hcl1:¬(9223372036854775807<1+s.length):=by omega
 go_enter func211,ntmps211;go_wp2;go_ret;exact⟨congrArg Ending.returned (Co (by simp[ByteArray.data_append])),(Ac (Aa _ _) _)⟩
def Yx(hl:s.length<=2000000)(hs:s≠[]):Calls Tryz.prog 211 #[exV ⟨9,s,vk,vn,vs,p⟩ (.slice pa pn pc) (.slice la n lc)] w (ρ w (str ([38]++s++[46]))):=by
 have hcl1:¬(9223372036854775807<1+s.length):=by omega
 have hcl2:¬(9223372036854775807<1+s.length+1):=by omega
 have hsI:(s==[])=false:=by simpa using hs
 have hsI2:(s !=[])=true:=by simpa using hs
 clear hs;go_enter func211,ntmps211;go_wp2;go_ret;exact⟨congrArg Ending.returned (Co (by simp[ByteArray.data_append])),(Ac (Aa _ _) _)⟩
def Z6(hl:t.length<=1000000000000000)(HC:∀W,w.grownBy W none->Calls Tryz.prog 242 #[.slice la n lc] W (ρ W (str t))):
 Calls Tryz.prog 211 #[exV ⟨7,s,vk,vn,vs,p⟩ (.slice pa pn pc) (.slice la n lc)] w (ρ w (str ([123]++t++[125]))):=by
 have H:=S HC;have hcl1:¬(9223372036854775807<1+t.length):=by omega
 have hcl2:¬(9223372036854775807<1+t.length+1):=by omega
 clear HC;go_enter func211,ntmps211;go_wp2_with fail;refine(H.1 _ ?gg).mono ?_
 case gg=>exact(Ac (Aa _ _) _)
 rintro e w1 ⟨rfl,g1⟩;have HG:=S (Z (Ac (Aa w none) _) g1);clear g1;go_wp2;go_ret;exact⟨congrArg Ending.returned (Co (by simp[ByteArray.data_append])),HG.1⟩
end
variable{w W W1 w':World}{pa la:Option Addr}{pc n lc pn g o b o0 o1 o2 o3 o4 o5 o6 i:Nat}{t s ll:Bs}{vs:List Un}{p:List Bs}{vk vn:Int}{a:Hd}{pv lv u v v0 v1 v2 v3 v4 v5 v6:Value}{x:Ex}{ok:Nat->Prop}
def Kid(w:World)(g o:Nat)(a:Hd)(pv lv:Value):Prop:=g<w.heap.size/\∀i u,(hdC a pv lv)[i]? =some u->w.cell? ⟨g,o+i,none⟩=some u
def Kid.c7(h:Kid w g o a pv lv):w.cell? ⟨g,o,none⟩=some (.int .i64 a.op)/\w.cell? ⟨g,o+1,none⟩=some (str a.s)/\w.cell? ⟨g,o+2,none⟩=some (.int .i64 a.vk)/\w.cell? ⟨g,o+3,none⟩=some (.int .i64 a.vn)/\w.cell? ⟨g,o+4,none⟩=some (str a.vs)/\w.cell? ⟨g,o+5,none⟩=some pv/\w.cell? ⟨g,o+6,none⟩=some lv:=
 ⟨h.2 0 _ rfl,h.2 1 _ rfl,h.2 2 _ rfl,h.2 3 _ rfl,h.2 4 _ rfl,h.2 5 _ rfl,h.2 6 _ rfl⟩
def WX(h:W.cell? ⟨b,1,none⟩=some u/\W.cell? ⟨b,6,none⟩=some v/\w.grownBy W none)(g:W.grownBy W1 none):W1.cell? ⟨b,1,none⟩=some u/\W1.cell? ⟨b,6,none⟩=some v/\w.grownBy W1 none:=
 ⟨Ad g h.1,Ad g h.2.1,Z h.2.2 g⟩
section
variable {vs:Bs}
def Z3(hs:s.length<=2000000)(hl:t.length<=1000000000000000)(HC:∀W,w.grownBy W none->Calls Tryz.prog 242 #[.slice la n lc] W (ρ W (str t))):
 Calls Tryz.prog 211 #[exV ⟨3,s,vk,vn,vs,p⟩ (.slice pa pn pc) (.slice la n lc)] w (ρ w (str (s++[40]++t++[41]))):=by
 have H:=S HC;have hcl1:¬(9223372036854775807<s.length+1):=by omega
 have hcl2:¬(9223372036854775807<s.length+1+t.length):=by omega
 have hcl3:¬(9223372036854775807<s.length+1+t.length+1):=by omega
 have hb:=Blk.new w (hdC ⟨3,s,vk,vn,vs,p⟩ (.slice pa pn pc) (.slice la n lc)) 163;obtain⟨x_0,x_1,x_2,x_3,x_4,x_5,x_6,x_f⟩:=(hb).c7;have HX:=S (X x_1 (X x_6 (Ae (Ac (Aa w none) (.cells (hdC ⟨3,s,vk,vn,vs,p⟩ (.slice pa pn pc) (.slice la n lc)).toArray 163 (0,0))))));clear HC hb x_0 x_1 x_2 x_3 x_4 x_5 x_6 x_f;go_enter func211,ntmps211;go_wp2_with fail;go_region_held3 (λW=>W.cell? ⟨w.heap.size,1,none⟩=some (str s)/\W.cell? ⟨w.heap.size,6,none⟩=some (.slice la n lc)/\w.grownBy W none)
  (first|exact HX.1|exact WX (by assumption) g5)
  (first| (go_at_call 242;refine(H.1 _ ?_).mono ?_;(simp[*]);rintro e w5 ⟨rfl,g5⟩))
 rename_i hH;have HG:=S hH.2.2;clear hH;go_wp2;go_ret;exact⟨congrArg Ending.returned (Co (by simp[ByteArray.data_append])),HG.1⟩
end
section
variable (g5:W.grownBy W1 none)
include g5
def Kid.gb'(h:Kid W g o a pv lv):Kid W1 g o a pv lv:=⟨Nat.lt_of_lt_of_le h.1 g5.size,λi u hu=>Ad g5 (h.2 i u hu)⟩
def O7(h:W.cell? ⟨b,1,none⟩=some u/\W.cell? ⟨b,6,none⟩=some v):W1.cell? ⟨b,1,none⟩=some u/\W1.cell? ⟨b,6,none⟩=some v:=⟨Ad g5 h.1,Ad g5 h.2⟩
def Yz{x:Value}(h:W.cell? ⟨b,1,none⟩=some u/\W.cell? ⟨b,6,none⟩=some v/\W.cell? ⟨b,5,none⟩=some x):W1.cell? ⟨b,1,none⟩=some u/\W1.cell? ⟨b,6,none⟩=some v/\W1.cell? ⟨b,5,none⟩=some x:=⟨Ad g5 h.1,Ad g5 h.2.1,Ad g5 h.2.2⟩
def IV(h:W.cell? ⟨g,o0,none⟩=some v0/\W.cell? ⟨g,o1,none⟩=some v1/\W.cell? ⟨g,o2,none⟩=some v2/\W.cell? ⟨g,o3,none⟩=some v3/\W.cell? ⟨g,o4,none⟩=some v4/\W.cell? ⟨g,o5,none⟩=some v5/\W.cell? ⟨g,o6,none⟩=some v6):
 W1.cell? ⟨g,o0,none⟩=some v0/\W1.cell? ⟨g,o1,none⟩=some v1/\W1.cell? ⟨g,o2,none⟩=some v2/\W1.cell? ⟨g,o3,none⟩=some v3/\W1.cell? ⟨g,o4,none⟩=some v4/\W1.cell? ⟨g,o5,none⟩=some v5/\W1.cell? ⟨g,o6,none⟩=some v6:=
 ⟨Ad g5 h.1,Ad g5 h.2.1,Ad g5 h.2.2.1,Ad g5 h.2.2.2.1,Ad g5 h.2.2.2.2.1,Ad g5 h.2.2.2.2.2.1,Ad g5 h.2.2.2.2.2.2⟩
def s12(h:(W.cell? ⟨b,1,none⟩=some u/\W.cell? ⟨b,6,none⟩=some v)/\(W.cell? ⟨g,o0,none⟩=some v0/\W.cell? ⟨g,o1,none⟩=some v1/\W.cell? ⟨g,o2,none⟩=some v2/\W.cell? ⟨g,o3,none⟩=some v3/\W.cell? ⟨g,o4,none⟩=some v4/\W.cell? ⟨g,o5,none⟩=some v5/\W.cell? ⟨g,o6,none⟩=some v6)/\w.grownBy W none):(W1.cell? ⟨b,1,none⟩=some u/\W1.cell? ⟨b,6,none⟩=some v)/\(W1.cell? ⟨g,o0,none⟩=some v0/\W1.cell? ⟨g,o1,none⟩=some v1/\W1.cell? ⟨g,o2,none⟩=some v2/\W1.cell? ⟨g,o3,none⟩=some v3/\W1.cell? ⟨g,o4,none⟩=some v4/\W1.cell? ⟨g,o5,none⟩=some v5/\W1.cell? ⟨g,o6,none⟩=some v6)/\w.grownBy W1 none:=
 ⟨O7 g5 h.1,IV g5 h.2.1,Z h.2.2 g5⟩
def s13{x:Value}(h:(W.cell? ⟨b,1,none⟩=some u/\W.cell? ⟨b,6,none⟩=some v/\W.cell? ⟨b,5,none⟩=some x)/\(W.cell? ⟨g,o0,none⟩=some v0/\W.cell? ⟨g,o1,none⟩=some v1/\W.cell? ⟨g,o2,none⟩=some v2/\W.cell? ⟨g,o3,none⟩=some v3/\W.cell? ⟨g,o4,none⟩=some v4/\W.cell? ⟨g,o5,none⟩=some v5/\W.cell? ⟨g,o6,none⟩=some v6)/\w.grownBy W none):(W1.cell? ⟨b,1,none⟩=some u/\W1.cell? ⟨b,6,none⟩=some v/\W1.cell? ⟨b,5,none⟩=some x)/\(W1.cell? ⟨g,o0,none⟩=some v0/\W1.cell? ⟨g,o1,none⟩=some v1/\W1.cell? ⟨g,o2,none⟩=some v2/\W1.cell? ⟨g,o3,none⟩=some v3/\W1.cell? ⟨g,o4,none⟩=some v4/\W1.cell? ⟨g,o5,none⟩=some v5/\W1.cell? ⟨g,o6,none⟩=some v6)/\w.grownBy W1 none:=
 ⟨Yz g5 h.1,IV g5 h.2.1,Z h.2.2 g5⟩
def s22{q0 q1 q2 q3 q4 q5 q6:Nat}{r0 r1 r2 r3 r4 r5 r6:Value}(h:(W.cell? ⟨b,1,none⟩=some u/\W.cell? ⟨b,6,none⟩=some v)/\(W.cell? ⟨g,o0,none⟩=some v0/\W.cell? ⟨g,o1,none⟩=some v1/\W.cell? ⟨g,o2,none⟩=some v2/\W.cell? ⟨g,o3,none⟩=some v3/\W.cell? ⟨g,o4,none⟩=some v4/\W.cell? ⟨g,o5,none⟩=some v5/\W.cell? ⟨g,o6,none⟩=some v6)/\(W.cell? ⟨g,q0,none⟩=some r0/\W.cell? ⟨g,q1,none⟩=some r1/\W.cell? ⟨g,q2,none⟩=some r2/\W.cell? ⟨g,q3,none⟩=some r3/\W.cell? ⟨g,q4,none⟩=some r4/\W.cell? ⟨g,q5,none⟩=some r5/\W.cell? ⟨g,q6,none⟩=some r6)/\w.grownBy W none):(W1.cell? ⟨b,1,none⟩=some u/\W1.cell? ⟨b,6,none⟩=some v)/\(W1.cell? ⟨g,o0,none⟩=some v0/\W1.cell? ⟨g,o1,none⟩=some v1/\W1.cell? ⟨g,o2,none⟩=some v2/\W1.cell? ⟨g,o3,none⟩=some v3/\W1.cell? ⟨g,o4,none⟩=some v4/\W1.cell? ⟨g,o5,none⟩=some v5/\W1.cell? ⟨g,o6,none⟩=some v6)/\(W1.cell? ⟨g,q0,none⟩=some r0/\W1.cell? ⟨g,q1,none⟩=some r1/\W1.cell? ⟨g,q2,none⟩=some r2/\W1.cell? ⟨g,q3,none⟩=some r3/\W1.cell? ⟨g,q4,none⟩=some r4/\W1.cell? ⟨g,q5,none⟩=some r5/\W1.cell? ⟨g,q6,none⟩=some r6)/\w.grownBy W1 none:=
 ⟨O7 g5 h.1,IV g5 h.2.1,IV g5 h.2.2.1,Z h.2.2.2 g5⟩
end
section
variable {vs:Bs}{qa ra qa2 ra2:Option Addr}{qn qc rn rc qn2 qc2 rn2 rc2:Nat}{t2:Bs}{a2:Hd}
def Yt(hs:s.length<=2000000)(hs2:a.s.length<=2000000)(ha:a.op=1)(hk:Kid w g o a (.slice qa qn qc) (.slice ra rn rc)):
 Calls Tryz.prog 211 #[exV ⟨2,s,vk,vn,vs,p⟩ (.slice pa pn pc) (.slice (some ⟨g,o,none⟩) 1 lc)] w (ρ w (str (s++[45,62]++a.s))):=by
 have hcl1:¬(9223372036854775807<s.length+2):=by omega
 have hcl2:¬(9223372036854775807<s.length+2+a.s.length):=by omega
 have hkl:=hk.1;obtain⟨k0,k1,k2,k3,k4,k5,k6⟩:=hk.c7;rw[ha]at k0;generalize a.s=s2 at*;clear hk ha k2 k3 k4 k5 k6;go_enter func211,ntmps211;go_wp2_with fail;go_quiet(fail);go_wp2;go_ret;exact⟨congrArg Ending.returned (Co (by simp[ByteArray.data_append])),(by repeat(first| (with_reducible exact Aa _ _)| (with_reducible refine Ac ?_ _)| (with_reducible refine An ?_ _)))⟩
def Yu(hs:s.length<=2000000)(hl:t.length<=1000000000000000)(ha:a.op≠1)(hk:Kid w g o a (.slice qa qn qc) (.slice ra rn rc))(HT:∀W,w.grownBy W none->Calls Tryz.prog 211 #[exV a (.slice qa qn qc) (.slice ra rn rc)] W (ρ W (str t))):
 Calls Tryz.prog 211 #[exV ⟨2,s,vk,vn,vs,p⟩ (.slice pa pn pc) (.slice (some ⟨g,o,none⟩) 1 lc)] w (ρ w (str (s++[45,62,40]++t++[41]))):=by
 have H:=S HT;have c1:(a.op==1)=false:=by simpa using ha
 have hcl0:¬(9223372036854775807<s.length+3):=by omega
 have hcl1:¬(9223372036854775807<s.length+3+t.length):=by omega
 have hcl2:¬(9223372036854775807<s.length+3+t.length+1):=by omega
 have hb:=Blk.new w (hdC ⟨2,s,vk,vn,vs,p⟩ (.slice pa pn pc) (.slice (some ⟨g,o,none⟩) 1 lc)) 163;obtain⟨x_0,x_1,x_2,x_3,x_4,x_5,x_6,x_f⟩:=(hb).c7;have gA:=gZ w (.cells (hdC ⟨2,s,vk,vn,vs,p⟩ (.slice pa pn pc) (.slice (some ⟨g,o,none⟩) 1 lc)).toArray 163 (0,0)) none;have hk7:=(hk.gb' gA).c7;have HX:=S (show(λW=>(W.cell? ⟨w.heap.size,1,none⟩=some (str s)/\W.cell? ⟨w.heap.size,6,none⟩=some (.slice (some ⟨g,o,none⟩) 1 lc))/\(W.cell? ⟨g,o,none⟩=some (.int .i64 a.op)/\W.cell? ⟨g,o+1,none⟩=some (str a.s)/\W.cell? ⟨g,o+2,none⟩=some (.int .i64 a.vk)/\W.cell? ⟨g,o+3,none⟩=some (.int .i64 a.vn)/\W.cell? ⟨g,o+4,none⟩=some (str a.vs)/\W.cell? ⟨g,o+5,none⟩=some (.slice qa qn qc)/\W.cell? ⟨g,o+6,none⟩=some (.slice ra rn rc))/\w.grownBy W none) ((w.alloc (.cells (hdC ⟨2,s,vk,vn,vs,p⟩ (.slice pa pn pc) (.slice (some ⟨g,o,none⟩) 1 lc)).toArray 163 (0,0))).drew)from⟨⟨x_1,x_6⟩,hk7,Ae gA⟩);have hkl:=hk.1;obtain⟨k0,k1,k2,k3,k4,k5,k6⟩:=hk.c7;clear HT ha hk hb hk7 gA x_0 x_1 x_2 x_3 x_4 x_5 x_6 x_f;go_enter func211,ntmps211;go_wp2_with fail;go_region_held3 (λW=>(W.cell? ⟨w.heap.size,1,none⟩=some (str s)/\W.cell? ⟨w.heap.size,6,none⟩=some (.slice (some ⟨g,o,none⟩) 1 lc))/\(W.cell? ⟨g,o,none⟩=some (.int .i64 a.op)/\W.cell? ⟨g,o+1,none⟩=some (str a.s)/\W.cell? ⟨g,o+2,none⟩=some (.int .i64 a.vk)/\W.cell? ⟨g,o+3,none⟩=some (.int .i64 a.vn)/\W.cell? ⟨g,o+4,none⟩=some (str a.vs)/\W.cell? ⟨g,o+5,none⟩=some (.slice qa qn qc)/\W.cell? ⟨g,o+6,none⟩=some (.slice ra rn rc))/\w.grownBy W none)
  (first|exact HX.1|exact s12 g5 (by assumption))
  (first| (go_at_call 211;(with_reducible refine(H.1 _ ?_).mono ?_);(simp[*]);rintro e w5 ⟨rfl,g5⟩))
 rename_i hH;have HG:=S hH.2.2;clear hH;go_wp2;go_ret;exact⟨congrArg Ending.returned (Co (by simp[ByteArray.data_append])),HG.1⟩
def Yw(hs:s.length<=2000000)(hl:t.length<=1000000000000000)(hm:s≠[45])(hk:Kid w g o a (.slice qa qn qc) (.slice ra rn rc))(HT:∀W,w.grownBy W none->Calls Tryz.prog 243 #[exV a (.slice qa qn qc) (.slice ra rn rc)] W (ρ W (str t))):
 Calls Tryz.prog 211 #[exV ⟨4,s,vk,vn,vs,p⟩ (.slice pa pn pc) (.slice (some ⟨g,o,none⟩) 1 lc)] w (ρ w (str (s++[32]++t))):=by
 have H:=S HT;have c1:(s==[45])=false:=by simpa using hm
 have hcl0:¬(9223372036854775807<s.length+1):=by omega
 have hcl1:¬(9223372036854775807<s.length+1+t.length):=by omega
 have hb:=Blk.new w (hdC ⟨4,s,vk,vn,vs,p⟩ (.slice pa pn pc) (.slice (some ⟨g,o,none⟩) 1 lc)) 163;obtain⟨x_0,x_1,x_2,x_3,x_4,x_5,x_6,x_f⟩:=(hb).c7;have gA:=gZ w (.cells (hdC ⟨4,s,vk,vn,vs,p⟩ (.slice pa pn pc) (.slice (some ⟨g,o,none⟩) 1 lc)).toArray 163 (0,0)) none;have hk7:=(hk.gb' gA).c7;have HX:=S (show(λW=>(W.cell? ⟨w.heap.size,1,none⟩=some (str s)/\W.cell? ⟨w.heap.size,6,none⟩=some (.slice (some ⟨g,o,none⟩) 1 lc))/\(W.cell? ⟨g,o,none⟩=some (.int .i64 a.op)/\W.cell? ⟨g,o+1,none⟩=some (str a.s)/\W.cell? ⟨g,o+2,none⟩=some (.int .i64 a.vk)/\W.cell? ⟨g,o+3,none⟩=some (.int .i64 a.vn)/\W.cell? ⟨g,o+4,none⟩=some (str a.vs)/\W.cell? ⟨g,o+5,none⟩=some (.slice qa qn qc)/\W.cell? ⟨g,o+6,none⟩=some (.slice ra rn rc))/\w.grownBy W none) ((w.alloc (.cells (hdC ⟨4,s,vk,vn,vs,p⟩ (.slice pa pn pc) (.slice (some ⟨g,o,none⟩) 1 lc)).toArray 163 (0,0))).drew)from⟨⟨x_1,x_6⟩,hk7,Ae gA⟩);have hkl:=hk.1;clear HT hm hk hb hk7 gA x_0 x_1 x_2 x_3 x_4 x_5 x_6 x_f;go_enter func211,ntmps211;go_wp2_with fail;go_region_held3 (λW=>(W.cell? ⟨w.heap.size,1,none⟩=some (str s)/\W.cell? ⟨w.heap.size,6,none⟩=some (.slice (some ⟨g,o,none⟩) 1 lc))/\(W.cell? ⟨g,o,none⟩=some (.int .i64 a.op)/\W.cell? ⟨g,o+1,none⟩=some (str a.s)/\W.cell? ⟨g,o+2,none⟩=some (.int .i64 a.vk)/\W.cell? ⟨g,o+3,none⟩=some (.int .i64 a.vn)/\W.cell? ⟨g,o+4,none⟩=some (str a.vs)/\W.cell? ⟨g,o+5,none⟩=some (.slice qa qn qc)/\W.cell? ⟨g,o+6,none⟩=some (.slice ra rn rc))/\w.grownBy W none)
  (first|exact HX.1|exact s12 g5 (by assumption))
  (first| (go_at_call 243;(with_reducible refine(H.1 _ ?_).mono ?_);(simp[*]);rintro e w5 ⟨rfl,g5⟩))
 rename_i hH;have HG:=S hH.2.2;clear hH;go_wp2;go_ret;exact⟨congrArg Ending.returned (Co (by simp[ByteArray.data_append])),HG.1⟩
def Z4(hs:s.length<=2000000)(hl:t.length<=1000000000000000)(hl2:t2.length<=1000000000000000)(hk:Kid w g o a (.slice qa qn qc) (.slice ra rn rc))(hk2:Kid w g (o+7) a2 (.slice qa2 qn2 qc2) (.slice ra2 rn2 rc2))(HT:∀W,w.grownBy W none->Calls Tryz.prog 243 #[exV a (.slice qa qn qc) (.slice ra rn rc)] W (ρ W (str t)))(HT2:∀W,w.grownBy W none->Calls Tryz.prog 243 #[exV a2 (.slice qa2 qn2 qc2) (.slice ra2 rn2 rc2)] W (ρ W (str t2))):
 Calls Tryz.prog 211 #[exV ⟨5,s,vk,vn,vs,p⟩ (.slice pa pn pc) (.slice (some ⟨g,o,none⟩) 2 lc)] w (ρ w (str (t++[32]++s++[32]++t2))):=by
 have H:=S HT;have H2:=S HT2;have hcl0:¬(9223372036854775807<t.length+1):=by omega
 have hcl1:¬(9223372036854775807<t.length+1+s.length):=by omega
 have hcl2:¬(9223372036854775807<t.length+1+s.length+1):=by omega
 have hcl3:¬(9223372036854775807<t.length+1+s.length+1+t2.length):=by omega
 have hb:=Blk.new w (hdC ⟨5,s,vk,vn,vs,p⟩ (.slice pa pn pc) (.slice (some ⟨g,o,none⟩) 2 lc)) 163;obtain⟨x_0,x_1,x_2,x_3,x_4,x_5,x_6,x_f⟩:=(hb).c7;have gA:=gZ w (.cells (hdC ⟨5,s,vk,vn,vs,p⟩ (.slice pa pn pc) (.slice (some ⟨g,o,none⟩) 2 lc)).toArray 163 (0,0)) none;have hk7:=(hk.gb' gA).c7;have hk72:=(hk2.gb' gA).c7;have HX:=S (show(λW=>(W.cell? ⟨w.heap.size,1,none⟩=some (str s)/\W.cell? ⟨w.heap.size,6,none⟩=some (.slice (some ⟨g,o,none⟩) 2 lc))/\(W.cell? ⟨g,o,none⟩=some (.int .i64 a.op)/\W.cell? ⟨g,o+1,none⟩=some (str a.s)/\W.cell? ⟨g,o+2,none⟩=some (.int .i64 a.vk)/\W.cell? ⟨g,o+3,none⟩=some (.int .i64 a.vn)/\W.cell? ⟨g,o+4,none⟩=some (str a.vs)/\W.cell? ⟨g,o+5,none⟩=some (.slice qa qn qc)/\W.cell? ⟨g,o+6,none⟩=some (.slice ra rn rc))/\(W.cell? ⟨g,o+7,none⟩=some (.int .i64 a2.op)/\W.cell? ⟨g,o+8,none⟩=some (str a2.s)/\W.cell? ⟨g,o+9,none⟩=some (.int .i64 a2.vk)/\W.cell? ⟨g,o+10,none⟩=some (.int .i64 a2.vn)/\W.cell? ⟨g,o+11,none⟩=some (str a2.vs)/\W.cell? ⟨g,o+12,none⟩=some (.slice qa2 qn2 qc2)/\W.cell? ⟨g,o+13,none⟩=some (.slice ra2 rn2 rc2))/\w.grownBy W none) ((w.alloc (.cells (hdC ⟨5,s,vk,vn,vs,p⟩ (.slice pa pn pc) (.slice (some ⟨g,o,none⟩) 2 lc)).toArray 163 (0,0))).drew)from⟨⟨x_1,x_6⟩,hk7,hk72,Ae gA⟩);have hkl:=hk.1;clear HT HT2 hk hk2 hb hk7 hk72 gA x_0 x_1 x_2 x_3 x_4 x_5 x_6 x_f;go_enter func211,ntmps211;go_wp2_with fail
 go_region_held3 (λW=>(W.cell? ⟨w.heap.size,1,none⟩=some (str s)/\W.cell? ⟨w.heap.size,6,none⟩=some (.slice (some ⟨g,o,none⟩) 2 lc))/\(W.cell? ⟨g,o,none⟩=some (.int .i64 a.op)/\W.cell? ⟨g,o+1,none⟩=some (str a.s)/\W.cell? ⟨g,o+2,none⟩=some (.int .i64 a.vk)/\W.cell? ⟨g,o+3,none⟩=some (.int .i64 a.vn)/\W.cell? ⟨g,o+4,none⟩=some (str a.vs)/\W.cell? ⟨g,o+5,none⟩=some (.slice qa qn qc)/\W.cell? ⟨g,o+6,none⟩=some (.slice ra rn rc))/\(W.cell? ⟨g,o+7,none⟩=some (.int .i64 a2.op)/\W.cell? ⟨g,o+8,none⟩=some (str a2.s)/\W.cell? ⟨g,o+9,none⟩=some (.int .i64 a2.vk)/\W.cell? ⟨g,o+10,none⟩=some (.int .i64 a2.vn)/\W.cell? ⟨g,o+11,none⟩=some (str a2.vs)/\W.cell? ⟨g,o+12,none⟩=some (.slice qa2 qn2 qc2)/\W.cell? ⟨g,o+13,none⟩=some (.slice ra2 rn2 rc2))/\w.grownBy W none)
  (first|exact HX.1|exact s22 g5 (by assumption))
  (first| (go_at_call 243;(with_reducible refine(H.1 _ ?_).mono ?_);(simp[*]);rintro e w5 ⟨rfl,g5⟩)| (go_at_call 243;(with_reducible refine(H2.1 _ ?_).mono ?_);(simp[*]);rintro e w5 ⟨rfl,g5⟩))
 rename_i hH;have HG:=S hH.2.2.2;clear hH;go_wp2;go_ret;exact⟨congrArg Ending.returned (Co (by simp[ByteArray.data_append])),HG.1⟩
def Z5(hs:s.length<=2000000)(hl:t.length<=1000000000000000)(hl2:t2.length<=1000000000000000)(hk:Kid w g o a (.slice qa qn qc) (.slice ra rn rc))(hk2:Kid w g (o+7) a2 (.slice qa2 qn2 qc2) (.slice ra2 rn2 rc2))(HT:∀W,w.grownBy W none->Calls Tryz.prog 243 #[exV a (.slice qa qn qc) (.slice ra rn rc)] W (ρ W (str t)))(HT2:∀W,w.grownBy W none->Calls Tryz.prog 211 #[exV a2 (.slice qa2 qn2 qc2) (.slice ra2 rn2 rc2)] W (ρ W (str t2))):
 Calls Tryz.prog 211 #[exV ⟨6,s,vk,vn,vs,p⟩ (.slice pa pn pc) (.slice (some ⟨g,o,none⟩) 2 lc)] w (ρ w (str (t++[91]++t2++[93]))):=by
 have H:=S HT;have H2:=S HT2;have hcl0:¬(9223372036854775807<t.length+1):=by omega
 have hcl1:¬(9223372036854775807<t.length+1+t2.length):=by omega
 have hcl2:¬(9223372036854775807<t.length+1+t2.length+1):=by omega
 have hb:=Blk.new w (hdC ⟨6,s,vk,vn,vs,p⟩ (.slice pa pn pc) (.slice (some ⟨g,o,none⟩) 2 lc)) 163;obtain⟨x_0,x_1,x_2,x_3,x_4,x_5,x_6,x_f⟩:=(hb).c7;have gA:=gZ w (.cells (hdC ⟨6,s,vk,vn,vs,p⟩ (.slice pa pn pc) (.slice (some ⟨g,o,none⟩) 2 lc)).toArray 163 (0,0)) none;have hk7:=(hk.gb' gA).c7;have hk72:=(hk2.gb' gA).c7;have HX:=S (show(λW=>(W.cell? ⟨w.heap.size,1,none⟩=some (str s)/\W.cell? ⟨w.heap.size,6,none⟩=some (.slice (some ⟨g,o,none⟩) 2 lc))/\(W.cell? ⟨g,o,none⟩=some (.int .i64 a.op)/\W.cell? ⟨g,o+1,none⟩=some (str a.s)/\W.cell? ⟨g,o+2,none⟩=some (.int .i64 a.vk)/\W.cell? ⟨g,o+3,none⟩=some (.int .i64 a.vn)/\W.cell? ⟨g,o+4,none⟩=some (str a.vs)/\W.cell? ⟨g,o+5,none⟩=some (.slice qa qn qc)/\W.cell? ⟨g,o+6,none⟩=some (.slice ra rn rc))/\(W.cell? ⟨g,o+7,none⟩=some (.int .i64 a2.op)/\W.cell? ⟨g,o+8,none⟩=some (str a2.s)/\W.cell? ⟨g,o+9,none⟩=some (.int .i64 a2.vk)/\W.cell? ⟨g,o+10,none⟩=some (.int .i64 a2.vn)/\W.cell? ⟨g,o+11,none⟩=some (str a2.vs)/\W.cell? ⟨g,o+12,none⟩=some (.slice qa2 qn2 qc2)/\W.cell? ⟨g,o+13,none⟩=some (.slice ra2 rn2 rc2))/\w.grownBy W none) ((w.alloc (.cells (hdC ⟨6,s,vk,vn,vs,p⟩ (.slice pa pn pc) (.slice (some ⟨g,o,none⟩) 2 lc)).toArray 163 (0,0))).drew)from⟨⟨x_1,x_6⟩,hk7,hk72,Ae gA⟩);have hkl:=hk.1;clear HT HT2 hk hk2 hb hk7 hk72 gA x_0 x_1 x_2 x_3 x_4 x_5 x_6 x_f;go_enter func211,ntmps211;go_wp2_with fail
 go_region_held3 (λW=>(W.cell? ⟨w.heap.size,1,none⟩=some (str s)/\W.cell? ⟨w.heap.size,6,none⟩=some (.slice (some ⟨g,o,none⟩) 2 lc))/\(W.cell? ⟨g,o,none⟩=some (.int .i64 a.op)/\W.cell? ⟨g,o+1,none⟩=some (str a.s)/\W.cell? ⟨g,o+2,none⟩=some (.int .i64 a.vk)/\W.cell? ⟨g,o+3,none⟩=some (.int .i64 a.vn)/\W.cell? ⟨g,o+4,none⟩=some (str a.vs)/\W.cell? ⟨g,o+5,none⟩=some (.slice qa qn qc)/\W.cell? ⟨g,o+6,none⟩=some (.slice ra rn rc))/\(W.cell? ⟨g,o+7,none⟩=some (.int .i64 a2.op)/\W.cell? ⟨g,o+8,none⟩=some (str a2.s)/\W.cell? ⟨g,o+9,none⟩=some (.int .i64 a2.vk)/\W.cell? ⟨g,o+10,none⟩=some (.int .i64 a2.vn)/\W.cell? ⟨g,o+11,none⟩=some (str a2.vs)/\W.cell? ⟨g,o+12,none⟩=some (.slice qa2 qn2 qc2)/\W.cell? ⟨g,o+13,none⟩=some (.slice ra2 rn2 rc2))/\w.grownBy W none)
  (first|exact HX.1|exact s22 g5 (by assumption))
  (first| (go_at_call 243;(with_reducible refine(H.1 _ ?_).mono ?_);(simp[*]);rintro e w5 ⟨rfl,g5⟩)| (go_at_call 211;(with_reducible refine(H2.1 _ ?_).mono ?_);(simp[*]);rintro e w5 ⟨rfl,g5⟩))
 rename_i hH;have HG:=S hH.2.2.2;clear hH;go_wp2;go_ret;exact⟨congrArg Ending.returned (Co (by simp[ByteArray.data_append])),HG.1⟩
def Zb(hs:s.length<=2000000)(hl:t.length<=1000000000000000)(hl2:t2.length<=1000000000000000)(hk:Kid w g o a (.slice qa qn qc) (.slice ra rn rc))(HT:∀W,w.grownBy W none->Calls Tryz.prog 211 #[exV a (.slice qa qn qc) (.slice ra rn rc)] W (ρ W (str t))) (HJ:∀W,w.grownBy W none->Calls Tryz.prog 65 #[.slice pa pn pc,str [44,32]] W (ρ W (str t2))):
 Calls Tryz.prog 211 #[exV ⟨8,s,vk,vn,vs,p⟩ (.slice pa pn pc) (.slice (some ⟨g,o,none⟩) 1 lc)] w (ρ w (str ([123,124]++t2++[124,32]++t++[125]))):=by
 have H:=S HT;have H2:=S HJ;have hcl0:¬(9223372036854775807<2+t2.length):=by omega
 have hcl1:¬(9223372036854775807<2+t2.length+2):=by omega
 have hcl2:¬(9223372036854775807<2+t2.length+2+t.length):=by omega
 have hcl3:¬(9223372036854775807<2+t2.length+2+t.length+1):=by omega
 have hb:=Blk.new w (hdC ⟨8,s,vk,vn,vs,p⟩ (.slice pa pn pc) (.slice (some ⟨g,o,none⟩) 1 lc)) 163;obtain⟨x_0,x_1,x_2,x_3,x_4,x_5,x_6,x_f⟩:=(hb).c7;have gA:=gZ w (.cells (hdC ⟨8,s,vk,vn,vs,p⟩ (.slice pa pn pc) (.slice (some ⟨g,o,none⟩) 1 lc)).toArray 163 (0,0)) none;have hk7:=(hk.gb' gA).c7;have HX:=S (show(λW=>(W.cell? ⟨w.heap.size,1,none⟩=some (str s)/\W.cell? ⟨w.heap.size,6,none⟩=some (.slice (some ⟨g,o,none⟩) 1 lc)/\W.cell? ⟨w.heap.size,5,none⟩=some (.slice pa pn pc))/\(W.cell? ⟨g,o,none⟩=some (.int .i64 a.op)/\W.cell? ⟨g,o+1,none⟩=some (str a.s)/\W.cell? ⟨g,o+2,none⟩=some (.int .i64 a.vk)/\W.cell? ⟨g,o+3,none⟩=some (.int .i64 a.vn)/\W.cell? ⟨g,o+4,none⟩=some (str a.vs)/\W.cell? ⟨g,o+5,none⟩=some (.slice qa qn qc)/\W.cell? ⟨g,o+6,none⟩=some (.slice ra rn rc))/\w.grownBy W none) ((w.alloc (.cells (hdC ⟨8,s,vk,vn,vs,p⟩ (.slice pa pn pc) (.slice (some ⟨g,o,none⟩) 1 lc)).toArray 163 (0,0))).drew)from⟨⟨x_1,x_6,x_5⟩,hk7,Ae gA⟩);have hkl:=hk.1;clear HT HJ hk hb hk7 gA x_0 x_1 x_2 x_3 x_4 x_5 x_6 x_f;go_enter func211,ntmps211;go_wp2_with fail
 go_region_held3 (λW=>(W.cell? ⟨w.heap.size,1,none⟩=some (str s)/\W.cell? ⟨w.heap.size,6,none⟩=some (.slice (some ⟨g,o,none⟩) 1 lc)/\W.cell? ⟨w.heap.size,5,none⟩=some (.slice pa pn pc))/\(W.cell? ⟨g,o,none⟩=some (.int .i64 a.op)/\W.cell? ⟨g,o+1,none⟩=some (str a.s)/\W.cell? ⟨g,o+2,none⟩=some (.int .i64 a.vk)/\W.cell? ⟨g,o+3,none⟩=some (.int .i64 a.vn)/\W.cell? ⟨g,o+4,none⟩=some (str a.vs)/\W.cell? ⟨g,o+5,none⟩=some (.slice qa qn qc)/\W.cell? ⟨g,o+6,none⟩=some (.slice ra rn rc))/\w.grownBy W none)
  (first|exact HX.1|exact s13 g5 (by assumption))
  (first| (go_at_call 211;(with_reducible refine(H.1 _ ?_).mono ?_);(simp[*]);rintro e w5 ⟨rfl,g5⟩)| (go_at_call 65;(with_reducible refine(H2.1 _ ?_).mono ?_);(simp[*]);rintro e w5 ⟨rfl,g5⟩))
 rename_i hH;have HG:=S hH.2.2;clear hH;go_wp2;go_ret;exact⟨congrArg Ending.returned (Co (by simp[ByteArray.data_append])),HG.1⟩
def Yv(hl:t.length<=1000000000000000)(hk:Kid w g o a (.slice qa qn qc) (.slice ra rn rc))(HT:∀W,w.grownBy W none->Calls Tryz.prog 243 #[exV a (.slice qa qn qc) (.slice ra rn rc)] W (ρ W (str t))):
 Calls Tryz.prog 211 #[exV ⟨4,[45],vk,vn,vs,p⟩ (.slice pa pn pc) (.slice (some ⟨g,o,none⟩) 1 lc)] w (ρ w (str ([45]++t))):=by
 have H:=S HT;have hcl0:¬(9223372036854775807<1+t.length):=by omega
 have hkl:=hk.1;obtain⟨k0,k1,k2,k3,k4,k5,k6⟩:=hk.c7;clear hk HT;go_enter func211,ntmps211;go_wp2_with fail;refine(H.1 _ ?gg).mono ?_
 case gg=>exact(Ac (Aa _ _) _)
 rintro e w1 ⟨rfl,g1⟩;have HG:=S (Z (Ac (Aa w none) _) g1);clear g1;go_wp2;go_ret;exact⟨congrArg Ending.returned (Co (by simp[ByteArray.data_append])),HG.1⟩
def Yy(hl:t.length<=1000000000000000)(hk:Kid w g o a (.slice qa qn qc) (.slice ra rn rc))(HT:∀W,w.grownBy W none->Calls Tryz.prog 211 #[exV a (.slice qa qn qc) (.slice ra rn rc)] W (ρ W (str t))):
 Calls Tryz.prog 211 #[exV ⟨9,[],vk,vn,vs,p⟩ (.slice pa pn pc) (.slice (some ⟨g,o,none⟩) 1 lc)] w (ρ w (str ([38,40]++t++[41]))):=by
 have H:=S HT;have hcl0:¬(9223372036854775807<2+t.length):=by omega
 have hcl1:¬(9223372036854775807<2+t.length+1):=by omega
 have hkl:=hk.1;obtain⟨k0,k1,k2,k3,k4,k5,k6⟩:=hk.c7;clear hk HT;go_enter func211,ntmps211;go_wp2_with fail;refine(H.1 _ ?gg).mono ?_
 case gg=>exact(Ac (Aa _ _) _)
 rintro e w1 ⟨rfl,g1⟩;have HG:=S (Z (Ac (Aa w none) _) g1);clear g1;go_wp2;go_ret;exact⟨congrArg Ending.returned (Co (by simp[ByteArray.data_append])),HG.1⟩
end
def Li{n lc:Nat}{cs:List Value}{b nx:Fo}{k:Nat}(hc:∀j u,cs[j]? =some u->∃g o,la=some ⟨g,o,none⟩/\ok g/\w.cell? ⟨g,o+j,none⟩=some u)
 (hr:RepF ok w (.cons a b nx) (cs.drop (k*7))):∃g o pa pc lb ld,la=some ⟨g,o,none⟩/\Cells w (.slice pa a.p.length pc) 1 a.p.length (a.p.map str) ok/\RepL ok w (.slice lb b.len ld) b/\RepF ok w nx (cs.drop ((k+1)*7))/\Kid w g (o+k*7) a (.slice pa a.p.length pc) (.slice lb b.len ld):=by
 obtain⟨pa,pc,lb,ld,h1,h2,h3,h4⟩:=RepF.elem (n:=n) (lc:=lc) (f:= .nil) hc hr;obtain⟨g,o,e,_,h5⟩:=h4 0 _ rfl;refine⟨g,o,pa,pc,lb,ld,e,h1,h2,h3,bY _ _ h5,λi u hu=>?_⟩;obtain⟨g',o',e',_,h6⟩:=h4 i u hu;rw[e]at e';cases e';rw[Nat.add_assoc];exact h6
def Zc:∀(N:Nat)(h:Hd)(f:Fo),f.wt<N->BY h f.len=true->okF f=true->h.fit->f.fit->f.nodes<=1000000->∀(pa la:Option Addr)(pc lc:Nat)(w:World),Pow w->Cells w (.slice pa h.p.length pc) 1 h.p.length (h.p.map str) (λ_=>True)->RepL (λ_=>True) w (.slice la f.len lc) f->
 Calls Tryz.prog 211 #[exV h (.slice pa h.p.length pc) (.slice la f.len lc)] w (ρ w (str (Cs wdM h (AX wdM f)))):=by
 intro N;induction N with
 |zero=>intro h f hN;omega
 | succ N ih=>
   intro h f hN ho hk hfit hft hnd pa la pc lc w hp hpc hrl;obtain⟨p1,p2,p3⟩:=Mv ho;have hsl:=hfit.1;have hlen:∀(a:Hd)(b:Fo),BY a b.len=true->okF b=true->a.fit->b.fit->b.nodes<=1000000->(Cs wdM a (AX wdM b)).length<=900000000000000:=by
    intro a b h1 h2 h3 h4 h5;obtain⟨r1,r2⟩:=IU b h2 h4;have:=Ky h3 h1 r2;omega
   have HL:∀W,w.grownBy W none->Calls Tryz.prog 242 #[.slice la f.len lc] W (ρ W (str (C9 ((AX wdM f).map (·.2))))):=λW g=>
    UB f _ la lc W (hrl.gb g (by simp)) hft hk hnd (λh' k pa' lb pc' ld W2 g2 c1 c2 c3 c4 c5 c6 c7 c8=>ih h' k (by omega) c5 c6 c2 c3 c4 pa' lb pc' ld W2 ((hp.gb g).gb g2) c7 c8)
   have HLl:(C9 ((AX wdM f).map (·.2))).length<=1000000000000000:=by
    have h1:=Kv (AX wdM f);have h2:=(IU f hk hft).1;omega
   obtain⟨cs,hcs,hrf⟩:=hrl;obtain⟨_,_,e,_,_,_,hcc⟩:=hcs;cases e;have one:∀a b,f= .cons a b .nil->∃g o pa' pc' lb ld,la=some ⟨g,o,none⟩/\Kid w g o a (.slice pa' a.p.length pc') (.slice lb b.len ld)/\BY a b.len=true/\a.fit/\(Cs wdM a (AX wdM b)).length<=900000000000000/\
    ∀W,w.grownBy W none->Calls Tryz.prog 211 #[exV a (.slice pa' a.p.length pc') (.slice lb b.len ld)] W (ρ W (str (Cs wdM a (AX wdM b)))):=by
    rintro a b rfl;obtain⟨g,o,pa',pc',lb,ld,e,h1,h2,_,h4⟩:=Li (k:=0) (n:=1) (lc:=lc) hcc (by simpa using hrf);simp only[okF,Bool.and_eq_true]at hk;simp only[Fo.wt]at hN;simp only[Fo.nodes]at hnd;refine⟨g,o,pa',pc',lb,ld,e,by simpa using h4,hk.1.1,hft.1,hlen a b hk.1.1 hk.1.2 hft.1 hft.2.1 (by omega),λW gW=>ih a b (by omega) hk.1.1 hk.1.2 hft.1 hft.2.1 (by omega) pa' lb pc' ld W (hp.gb gW) (h1.gb gW (by simp)) (h2.gb gW (by simp))⟩
   have two:∀a b a2 b2,f= .cons a b (.cons a2 b2 .nil)->∃g o pa' pc' lb ld pa2 pc2 lb2 ld2,la=some ⟨g,o,none⟩/\Kid w g o a (.slice pa' a.p.length pc') (.slice lb b.len ld)/\Kid w g (o+7) a2 (.slice pa2 a2.p.length pc2) (.slice lb2 b2.len ld2)/\(Cs wdM a (AX wdM b)).length<=900000000000000/\(Cs wdM a2 (AX wdM b2)).length<=900000000000000/\
    (∀W,w.grownBy W none->Calls Tryz.prog 211 #[exV a (.slice pa' a.p.length pc') (.slice lb b.len ld)] W (ρ W (str (Cs wdM a (AX wdM b)))))/\∀W,w.grownBy W none->Calls Tryz.prog 211 #[exV a2 (.slice pa2 a2.p.length pc2) (.slice lb2 b2.len ld2)] W (ρ W (str (Cs wdM a2 (AX wdM b2)))):=by
    rintro a b a2 b2 rfl;obtain⟨g,o,pa',pc',lb,ld,e,h1,h2,hnx,h4⟩:=Li (k:=0) (n:=2) (lc:=lc) hcc (by simpa using hrf);obtain⟨g2,o2,pa2,pc2,lb2,ld2,e2,h12,h22,_,h42⟩:=Li (k:=1) (n:=2) (lc:=lc) hcc hnx;rw[e]at e2;cases e2;simp only[okF,Bool.and_eq_true]at hk;simp only[Fo.wt]at hN;simp only[Fo.nodes]at hnd;refine⟨g,o,pa',pc',lb,ld,pa2,pc2,lb2,ld2,e,by simpa using h4,by simpa using h42,hlen a b hk.1.1 hk.1.2 hft.1 hft.2.1 (by omega),hlen a2 b2 hk.2.1.1 hk.2.1.2 hft.2.2.1 hft.2.2.2.1 (by omega),λW gW=>ih a b (by omega) hk.1.1 hk.1.2 hft.1 hft.2.1 (by omega) pa' lb pc' ld W (hp.gb gW) (h1.gb gW (by simp)) (h2.gb gW (by simp)),λW gW=>ih a2 b2 (by omega) hk.2.1.1 hk.2.1.2 hft.2.2.1 hft.2.2.2.1 (by omega) pa2 lb2 pc2 ld2 W (hp.gb gW) (h12.gb gW (by simp)) (h22.gb gW (by simp))⟩
   have hopT:∀(x:Hd×Bs),x.2.length<=900000000000000->(opT x).length<=1000000000000000:=by
    intro x hx;unfold opT;split
    ·simp only[lA,List.length_cons,List.length_nil];omega
    ·omega
   clear hcc hrf ih hlen;have hvl:=hfit.2.1;have hpl:=hfit.2.2.1;obtain⟨op,s,vk,vn,vs,p⟩:=h;unfold Az at p3;simp only at p1 p2 p3 hsl hvl hpl hpc ⊢;by_cases e0:op=0
   ·subst e0;rw[if_pos rfl]at p3;simp only[Bool.and_eq_true]at p3;exact Z1 (λW g=>PM (hp.gb g) (show A8 (HdV vk vn vs)=true from p3.2) hvl)
   rw[if_neg e0]at p3;by_cases e1:op=1
   ·subst e1;exact Z2
   by_cases e10:op=10
   ·subst e10;exact Ys hsl
   rw[if_neg (by omega)]at p3;by_cases e2:op=2
   ·subst e2;rw[if_pos rfl]at p3;simp only[Bool.and_eq_true,beq_iff_eq]at p3;obtain⟨a,b,rfl⟩:=Hj p3.2;obtain⟨g,o,pa',pc',lb,ld,rfl,hkid,hko,hkf,hkl,hT⟩:=one a b rfl;show Calls _ _ _ _ λe w'=>e= .returned (str (if a.op=1 then s++[45,62]++a.s else s++[45,62,40]++Cs wdM a (AX wdM b)++[41]))/\_;by_cases ha:a.op=1
    ·rw[if_pos ha];exact Yt hsl hkf.1 ha hkid
    ·rw[if_neg ha];exact Yu hsl (nT hkl (by decide)) ha hkid hT
   rw[if_neg e2]at p3;by_cases e3:op=3
   ·subst e3;exact Z3 hsl HLl HL
   rw[if_neg e3]at p3;by_cases e4:op=4
   ·subst e4;rw[if_pos rfl]at p3;simp only[Bool.and_eq_true,Bool.or_eq_true,beq_iff_eq]at p3;obtain⟨a,b,rfl⟩:=Hj p3.2;obtain⟨g,o,pa',pc',lb,ld,rfl,hkid,hko,hkf,hkl,hT⟩:=one a b rfl;show Calls _ _ _ _ λe w'=>e= .returned (str (if s=[45]then [45]++opT (a,Cs wdM a (AX wdM b))else s++[32]++opT (a,Cs wdM a (AX wdM b))))/\_;by_cases hs:s=[45]
    ·subst hs;rw[if_pos rfl];exact Yv (hopT _ hkl) hkid (λW gW=>GO (by omega) (λW2 g2=>hT W2 (Z gW g2)))
    ·rw[if_neg hs];exact Yw hsl (hopT _ hkl) hs hkid (λW gW=>GO (by omega) (λW2 g2=>hT W2 (Z gW g2)))
   rw[if_neg e4]at p3;by_cases e5:op=5
   ·subst e5;rw[if_pos rfl]at p3;simp only[Bool.and_eq_true,beq_iff_eq]at p3;obtain⟨a,b,a2,b2,rfl⟩:=Og p3.2;obtain⟨g,o,pa',pc',lb,ld,pa2,pc2,lb2,ld2,rfl,hk1,hk2,hl1,hl2,hT,hT2⟩:=two a b a2 b2 rfl;exact Z4 hsl (hopT _ hl1) (hopT _ hl2) hk1 hk2 (λW gW=>GO (by omega) (λW2 g2=>hT W2 (Z gW g2))) (λW gW=>GO (by omega) (λW2 g2=>hT2 W2 (Z gW g2)))
   rw[if_neg e5]at p3;by_cases e6:op=6
   ·subst e6;rw[if_pos rfl]at p3;simp only[Bool.and_eq_true,beq_iff_eq]at p3;obtain⟨a,b,a2,b2,rfl⟩:=Og p3.2;obtain⟨g,o,pa',pc',lb,ld,pa2,pc2,lb2,ld2,rfl,hk1,hk2,hl1,hl2,hT,hT2⟩:=two a b a2 b2 rfl;exact Z5 hsl (hopT _ hl1) (nT hl2 (by decide)) hk1 hk2 (λW gW=>GO (by omega) (λW2 g2=>hT W2 (Z gW g2))) hT2
   rw[if_neg e6]at p3;by_cases e7:op=7
   ·subst e7;exact Z6 HLl HL
   rw[if_neg e7]at p3;by_cases e8:op=8
   ·subst e8;rw[if_pos rfl]at p3;simp only[Bool.and_eq_true,beq_iff_eq]at p3;obtain⟨a,b,rfl⟩:=Hj p3.1.2;obtain⟨g,o,pa',pc',lb,ld,rfl,hkid,hko,hkf,hkl,hT⟩:=one a b rfl;have hj:=LX p3.2;exact Zb (t2:=C9 p) hsl (nT hkl (by decide)) (by omega) hkid hT (λW gW=>N8 (xs:=p) (hpc.gb gW (by simp)) rfl (by omega) (by omega))
   rw[if_neg e8]at p3;by_cases e9:op=9
   ·subst e9;rw[if_pos rfl]at p3;simp only[Bool.and_eq_true,Bool.or_eq_true,beq_iff_eq,List.isEmpty_iff]at p3;rcases p3 with⟨hs,hn⟩| ⟨rfl,hn⟩
    ·have hs0:s≠[]:=by rintro rfl;exact absurd hs (by decide)
     show Calls _ _ _ _ λe w'=>e= .returned (str (if s≠[]then [38]++s++[46]else _))/\_;rw[if_pos hs0];exact Yx hsl hs0
    ·obtain⟨a,b,rfl⟩:=Hj hn;obtain⟨g,o,pa',pc',lb,ld,rfl,hkid,hko,hkf,hkl,hT⟩:=one a b rfl;exact Yy (nT hkl (by decide)) hkid hT
   rw[if_neg e9]at p3;cases p3
def WU(hp:Pow w)(hx:VE ok w v x)(h1:x.h.fit)(h2:x.kids.fit)(hn:x.kids.nodes<=1000000)(ho:okX x=true):
 Calls Tryz.prog 211 #[v] w (ρ w (str (Ez wdM x))):=by
 obtain⟨pa,pc,la,lc,rfl,hpc,hl⟩:=hx;unfold okX at ho;rw[Bool.and_eq_true]at ho;exact Zc _ x.h x.kids (Nat.lt_succ_self _) ho.1 ho.2 h1 h2 hn pa la pc lc w hp (hpc.mono λ_ _ _=>trivial) (hl.mono λ_ _ _=>trivial)
def UM(h1:x.h.fit)(h2:x.kids.fit)(hn:x.kids.nodes<=1000000)(ho:okX x=true):(Ez wdM x).length<=1000000000000000:=by
 unfold okX at ho;rw[Bool.and_eq_true]at ho;obtain⟨r1,r2⟩:=IU x.kids ho.2 h2;have:=Ky h1 ho.1 r2;unfold Ez;omega
def Vy(s:Bs)(hl:s.length<=1000000000000000)(w:World):Calls Tryz.prog 189 #[str s] w (ρ w (.tuple #[str (if 4000<s.length then []else s),.int .i64 (if 4000<s.length then 3 else 0)])):=by
 by_cases h:4000<s.length
 ·rw[if_pos h,if_pos h];have hI:decide ((4000:Int)<(s.length:Int))=true:=by simp;omega
  go_enter func189,ntmps189;go_wp2;exact bZ (v:= .tuple #[str [],.int .i64 3]) (by simp[results,results189,go_sem]) rfl ⟨rfl,Aa _ _⟩
 ·rw[if_neg h,if_neg h];have hI:decide ((4000:Int)<(s.length:Int))=false:=by simp;omega
  go_enter func189,ntmps189;go_wp2;exact bZ (v:= .tuple #[str s,.int .i64 0]) (by simp[results,results189,go_sem]) rfl ⟨rfl,Aa _ _⟩
def D9(x:Ex):Bs×Int:=if DF x≠0 then([],DF x)else if 4000<(Ez wdM x).length then([],3)else(Ez wdM x,0)
def Vb(h:DF x=0):okX x=true/\Cp x.nodes x.levels=false:=by
 unfold DF at h;cases hl:Cp x.nodes x.levels with
 |true=>rw[hl]at h;simp at h
 | false=>
   rw[hl]at h;cases ho:okX x with
   |true=>exact⟨rfl,rfl⟩
   |false=>rw[ho]at h;simp at h
def P0(hp:Pow w)(hx:VE ok w v x)(h1:x.h.fit)(h2:x.kids.fit)(hn:x.kids.nodes<=1000000):
 Calls Tryz.prog 159 #[v] w (ρ w (.tuple #[str (D9 x).1,.int .i64 (D9 x).2])):=by
 have HV:=S (fun(W:World)(g:w.grownBy W none)=>Qf (hx.gb g (by simp)) h1 h2 hn);have HX:=hx;obtain⟨pa,pc,la,lc,rfl,_,_⟩:=hx;have hB:=Blk.new w (hdC x.h (.slice pa x.h.p.length pc) (.slice la x.kids.len lc)) 163;have hB1:=hB;obtain⟨x_0,x_1,x_2,x_3,x_4,x_5,x_6,x_f⟩:=(hB1).c7;have HB:=S hB;clear hB1 hB;by_cases hv:DF x=0
 ·have ho:=(Vb hv).1;have HT:=S (fun(W:World)(g:w.grownBy W none)=>WU (hp.gb g) (HX.gb g (by simp)) h1 h2 hn ho);have HS:=S (fun(W:World)=>Vy (Ez wdM x) (UM h1 h2 hn ho) W);have HM:=S (show D9 x=(if 4000<(Ez wdM x).length then []else Ez wdM x,if 4000<(Ez wdM x).length then 3 else 0)by
   unfold D9;rw[if_neg (by simpa using hv)];split<;>rfl)
  rw[HM.1];rw[hv]at HV;clear ho hv HX hp h1 h2 hn HM;generalize Ez wdM x=t at*;generalize(if 4000<t.length then []else t)=t2 at*;generalize(if 4000<t.length then(3:Int)else 0)=c2 at*;go_enter func159,ntmps159;go_wp2_with fail;refine(HV.1 _ ?gg).mono ?_
  case gg=>exact(Ac (Aa _ _) _)
  rintro e w1 ⟨rfl,g1⟩;have hb1:=HB.1.gb g1 (by simp);have HG:=S (Z (gZ w (.cells (hdC x.h (.slice pa x.h.p.length pc) (.slice la x.kids.len lc)).toArray 163 (0,0)) none) g1);clear x_0 x_1 x_2 x_3 x_4 x_5 x_6 x_f g1;have y_:=hb1.c7;clear hb1;go_wp2_with fail;refine mR (HT.1 _ HG.1) λw2 g2=>?_;go_wp2_with fail;refine mR (HS.1 _) λw3 g3=>?_;have HG3:=S (Z (Z HG.1 g2) g3);clear g2 g3;go_wp2;exact bZ (v:= .tuple #[str t2,.int .i64 c2]) (by simp[results,results159,go_sem]) rfl ⟨rfl,HG3.1⟩
 ·have HM:=S (show D9 x=([],DF x)by unfold D9;rw[if_pos hv]);rw[HM.1];have hvI:(DF x==0)=false:=by simpa using hv
  have hvI2:(DF x !=0)=true:=by simpa using hv
  clear hv HX hp h1 h2 hn HM;generalize DF x=vm at*;go_enter func159,ntmps159;go_wp2_with fail;refine(HV.1 _ ?gg).mono ?_
  case gg=>exact(Ac (Aa _ _) _)
  rintro e w1 ⟨rfl,g1⟩;have HG:=S (Z (gZ w (.cells (hdC x.h (.slice pa x.h.p.length pc) (.slice la x.kids.len lc)).toArray 163 (0,0)) none) g1);clear x_0 x_1 x_2 x_3 x_4 x_5 x_6 x_f g1;go_wp2;exact bZ (v:= .tuple #[str [],.int .i64 vm]) (by simp[results,results159,go_sem]) rfl ⟨rfl,HG.1⟩
open Go.Lib
def VW{n:Int}{x:UInt8}(h:x∈itoa n):x≠115:=by
 have:=E7 n;rw[List.all_eq_true]at this;intro e;rw[e]at h;exact absurd (this _ h) (by decide)
def sumW:Bs:=[115,117,109,32]
def WT{n:Int}(h:t <:+[117,109,32]++(itoa n++[10])):[115,117,109,32].isPrefixOf t=false:=by
 cases hp:[115,117,109,32].isPrefixOf t with
 |false=>rfl
 | true=>
   obtain⟨r,hr⟩:=List.isPrefixOf_iff_prefix.1 hp;have hm:(115:UInt8)∈[117,109,32]++(itoa n++[10]):=h.subset (by rw[<-hr];simp);rcases List.mem_append.1 hm with h1|h1
   ·exact absurd h1 (by decide)
   ·rcases List.mem_append.1 h1 with h2|h2
    ·exact absurd rfl (VW h2)
    ·exact absurd h2 (by decide)
def N9(A:Bs)(n:Int):Lib.lastIndex (A++B7 n) sumW=A.length:=by
 have hl:(A++B7 n).length=A.length+4+(itoa n).length+1:=by simp[B7];omega
 unfold Lib.lastIndex;rw[if_pos (by rw[hl];show 4<=_;omega)];rcases Lib.lastOcc_spec (A++B7 n) sumW ((A++B7 n).length-sumW.length+1)with⟨_,h⟩| ⟨i,h1,h2,h3,h4⟩
 ·exfalso;have h5:=h A.length (by rw[hl];show A.length<_-4+1;omega);rw[Lib.occAt,List.drop_left]at h5;simp[B7,sumW]at h5
 ·rw[h2];congr 1;rcases Nat.lt_trichotomy i A.length with h5|h5|h5
  ·exfalso;have h6:=h4 A.length h5 (by rw[hl];show A.length<_-4+1;omega);rw[Lib.occAt,List.drop_left]at h6;simp[B7,sumW]at h6
  ·exact h5
  ·exfalso;rw[Lib.occAt]at h3;have h7:(A++B7 n).drop i <:+[117,109,32]++(itoa n++[10]):=by
    obtain⟨j,hj⟩:∃j,i=A.length+1+j:=⟨i-A.length-1,by omega⟩;rw[hj,<-List.drop_drop,<-List.drop_drop,List.drop_left];have:(B7 n).drop 1=[117,109,32]++(itoa n++[10]):=by simp[B7]
    rw[this];exact List.drop_suffix _ _
   rw[show sumW=[115,117,109,32]from rfl,WT h7]at h3;cases h3
def Yc(h:Lib.lastIndex s sumW=(i:Int)):i+4<=s.length/\(s.drop i).take 4=sumW:=by
 unfold Lib.lastIndex at h;split at h
 ·rename_i h0;have h0:4<=s.length:=h0;rcases Lib.lastOcc_spec s sumW (s.length-sumW.length+1)with⟨h1,_⟩| ⟨j,h1,h2,h3,_⟩
  ·rw[h1]at h;omega
  ·rw[h2]at h;have:j=i:=by omega
   subst this;have h1:j<s.length-4+1:=h1;refine⟨by omega,?_⟩;obtain⟨r,hr⟩:=List.isPrefixOf_iff_prefix.1 h3;rw[<-hr];rfl
 ·omega
def SQ(s:Bs):Lib.lastIndex s sumW= -1\/∃i:Nat,Lib.lastIndex s sumW=i:=by
 unfold Lib.lastIndex;split
 ·rcases Lib.lastOcc_spec s sumW (s.length-sumW.length+1)with⟨h1,_⟩| ⟨j,_,h2,_⟩
  ·exact .inl h1
  ·exact .inr ⟨j,h2⟩
 ·exact .inl rfl
def SL(h:i+4<=s.length)(hs:(s.drop i).take 4=sumW)(hn:Lib.hasSuffix s [10]=true):i+5<=s.length/\s=s.take i++(sumW++((s.drop (i+4)).take (s.length-1-(i+4))++[10])):=by
 have h1:[10] <:+s:=by
  have:([10]:Bs).isSuffixOf s=true:=hn;exact List.isSuffixOf_iff_suffix.1 this
 obtain⟨q,hq⟩:=h1;have hl:s.length=q.length+1:=by rw[<-hq];simp
 have hd:s.drop i=sumW++s.drop (i+4):=by
  have:=(List.take_append_drop 4 (s.drop i)).symm;rw[hs,List.drop_drop]at this;exact this
 have h5:i+5<=s.length:=by
  rcases Nat.lt_or_ge (i+4) s.length with h6|h6
  ·omega
  ·exfalso;have h7:s.length=i+4:=by omega
   have h8:s.drop i=sumW:=by rw[hd,List.drop_eq_nil_of_le (by omega)];rfl
   have h9:s=s.take i++sumW:=by conv=>lhs;rw[<-List.take_append_drop i s,h8]
   have h10:=congrArg List.getLast? (hq.trans h9);simp[sumW]at h10
 refine⟨h5,?_⟩;have h6:s.drop (i+4)=(s.drop (i+4)).take (s.length-1-(i+4))++[10]:=by
  have h7:=(List.take_append_drop (s.length-1-(i+4)) (s.drop (i+4))).symm;rw[List.drop_drop,show i+4+(s.length-1-(i+4))=q.length by omega]at h7;have h8:s.drop q.length=[10]:=by rw[<-hq];simp
  rw[h8]at h7;exact h7
 rw[<-h6,<-hd,List.take_append_drop]
def Mm(h:vs≠[]):∃q,AP vs=q++[10]:=by
 rw[It];refine MD 10 _ ?_;cases vs with
 |nil=>exact absurd rfl h
 |cons v vs=>simp[B0]
def Wa(h:AP vs=[]):vs=[]:=by
 cases vs with
 |nil=>rfl
 |cons v vs=>obtain⟨q,hq⟩:=Mm (vs:=v::vs) (by simp);rw[hq]at h;simp at h
def UN{n:Int}(h:s=BA vs n)(hi:Lib.lastIndex s sumW=(i:Int)):s.take i=AP vs/\Lib.hasSuffix s [10]=true/\(s.drop (i+4)).take (s.length-1-(i+4))=itoa n/\(0<i->bAt s (i-1)=10/\s.take (i-1)++[10]=AP vs/\vs≠[])/\(i=0->vs=[]):=by
 have he:s=AP vs++B7 n:=h;have hl:i=(AP vs).length:=by rw[he,N9]at hi;omega
 have ht:s.take i=AP vs:=by rw[he,hl];simp
 have hsl:(B7 n).length=4+(itoa n).length+1:=by simp[B7];omega
 refine⟨ht,?_,?_,λh0=>?_,λh0=>?_⟩
 ·show([10]:Bs).isSuffixOf s=true;rw[List.isSuffixOf_iff_suffix,he,B7];exact⟨AP vs++([115,117,109,32]++itoa n),by simp⟩
 ·have h1 : s.drop (i + 4) = itoa n ++ [10] := by
   rw[<-List.drop_drop,he,hl,List.drop_left];simp[B7]
  have h2:s.length-1-(i+4)=(itoa n).length:=by rw[he,lA,hsl];omega
  rw[h1,h2];simp
 ·have hne:vs≠[]:=by rintro rfl;rw[Ml]at hl;simp at hl;omega
  obtain⟨q,hq⟩:=Mm hne;have hql:i=q.length+1:=by rw[hl,hq];simp
  have h3:s=q++(10::B7 n):=by rw[he,hq];simp
  refine⟨?_,?_,hne⟩
  ·rw[h3,hql];simp[bAt]
  ·rw[hq,h3,hql];simp
 ·refine Wa ?_;rw[<-ht,h0];rfl
def PRd(vm:List Un->Int)(w:World)(s:Bs)(e:Ending)(w':World):Prop:=∃us v er,e= .returned (.tuple #[v,.int .i64 er])/\w.grownBy w' none/\(er≠0->v= .slice none 0 0)/\((200000<s.length/\er=3)\/(s.length<=200000/\((∃n,s=BA us n/\AN us/\AF us<=600003/\Bb n/\0<=n/\n<1000033/\((n≠csM (AP us)/\er=8)\/(n=csM (AP us)/\er=vm us/\(er=0->VU (Al w.heap.size) w' v us))))\/(er=2/\∀vs n,AN vs->Bb n->0<=n->n<1000033->s≠BA vs n))))
def PRd.no{vm:List Un->Int}(g:w.grownBy w' none)(hs:s.length<=200000)(h:∀vs n,AN vs->Bb n->0<=n->n<1000033->s≠BA vs n):PRd vm w s (.returned (.tuple #[.slice none 0 0,.int .i64 2])) w':=
 ⟨[],_,2,rfl,g,λ_=>rfl,.inr ⟨hs,.inr ⟨rfl,h⟩⟩⟩
def U5(s:Bs)(hs:s.length<=1048576)(w:World):Calls Tryz.prog 15 #[str s,.string ⟨#[115,117,109,32]⟩] w λe w'=>e= .returned (.int .i64 (Lib.lastIndex s sumW))/\w=w':=by
 refine(strings_LastIndex ⟨s.toArray⟩ ⟨#[115,117,109,32]⟩ (by simp[ByteArray.size];omega) w).mono ?_;rintro e w' ⟨rfl,rfl⟩;exact⟨by simp[sumW],rfl⟩
def Yq(s:Bs)(hs:s.length<=1048576)(w:World):Calls Tryz.prog 16 #[str s,.string ⟨#[10]⟩] w λe w'=>e= .returned (.bool (Lib.hasSuffix s [10]))/\w=w':=by
 refine(strings_HasSuffix ⟨s.toArray⟩ ⟨#[10]⟩ w (by simp[ByteArray.size];omega)).mono ?_;rintro e w' ⟨rfl,rfl⟩;exact⟨by simp,rfl⟩
def Zf(ok:Nat->Prop)(w:World):VU ok w (.slice none 0 0) []:=⟨[],⟨none,0,rfl,nR _,nZ _,rfl,λj u h=>by simp at h⟩,rfl⟩
def Nt(g:w.grownBy w' none):Below w.heap.size w w':=⟨g.os,g.tape,g.output,g.size,λk hk=>g.block k hk (by simp)⟩
def Ov{tk:Bs}{b:Bool}(hq:(ll==tk)=b)(h:tk=[]):List.isEmpty ll=b:=by
 subst h;rw[<-hq];cases ll<;>rfl
def Z9{W':World}(hL:∀W',W.grownBy W' none->Calls Tryz.prog 19 #[v] W' λe w''=>e= .returned (str ll)/\W'.grownBy w'' none)(h:True/\W.grownBy W' none):Calls Tryz.prog 19 #[v] W' λe w''=>e= .returned (str ll)/\W'.grownBy w'' none:=hL _ h.2
def TstP(s:Bs)(v:Value):Prop:=(v= .bool true/\∀vs n,AN vs->Bb n->0<=n->n<1000033->s≠BA vs n)\/(v= .bool false/\Lib.hasSuffix s [10]=true)
def UnsP(w:World)(s:Bs)(i:Nat)(n:Int)(v6 v7:Value)(W:World):Prop:=w.grownBy W none/\((v6= .bool false/\∀vs n,AN vs->Bb n->0<=n->n<1000033->s≠BA vs n)\/
 (v6= .bool true/\∃us,VU (Al w.heap.size) W v7 us/\AN us/\AF us<=600003/\Bb n/\(∀vs n',AN vs->Bb n'->s=BA vs n'->us=vs/\n=n')/\(AP us=s.take i->s=BA us n)))
def Uk(vm:List Un->Int)(s:Bs)(hs:s.length<=1048576)(hp:Pow w)(he:Errs w)(hm:Mx w)
 (hv:∀(W:World)(v:Value)(us:List Un)(ok:Nat->Prop),w.grownBy W none->VU ok W v us->AN us->AF us<=100000000->Calls Tryz.prog 9 #[v] W (ρ W (.int .i64 (vm us)))):
 Calls Tryz.prog 6 #[str s] w λe w'=>PRd vm w s e w':=by
 have HF:=S (X hp (X he hm));have HV:=S hv;clear hp he hm hv;by_cases hbig:200000<s.length
 ·have hj:decide (200000<s.length)=true:=by simpa using hbig
  go_enter func6,ntmps6;go_wp2;go_ret2;exact⟨[],_,3,rfl,Aa _ _,λ_=>rfl,.inl ⟨hbig,rfl⟩⟩
 ·have hj:decide (200000<s.length)=false:=by simpa using hbig
  have hsm:s.length<=200000:=by omega
  have HLi:=S (λW=>U5 s hs W);have hlc:=SQ s;go_enter func6,ntmps6;go_wp2_with fail;refine(HLi.1 _).mono ?_;rintro e w1 ⟨rfl,rfl⟩;rcases hlc with hi| ⟨i,hi⟩
  ·rw[hi];have HN:=S (show ∀vs n,AN vs->Bb n->0<=n->n<1000033->s≠BA vs n from λvs n _ _ _ _ e=>by
    rw[e,FT,N9]at hi;omega)
   clear hi;go_wp2;go_ret2;exact PRd.no (Aa _ _) hsm HN.1
  ·rw[hi];obtain⟨hi4,hiw⟩:=Yc hi;have HRd:=S (λvs n (h:s=BA vs n)=>UN h hi);clear hi;have HSf:=S (λW=>Yq s hs W);obtain⟨nt,hnt⟩:∃t,t=(s.drop (i+4)).take (s.length-1-(i+4)):=⟨_,rfl⟩;have hxn:(⟨s.toArray⟩:ByteArray).extract (i+4) (s.length-1)=⟨nt.toArray⟩:=by rw[hnt,CY]
   have hntl:nt.length<=s.length:=by rw[hnt];simp<;>omega
   have HTp:=S (fun(h:Lib.hasSuffix s [10]=true)=>(by have h9:=SL hi4 hiw h;rw[<-hnt]at h9;exact h9:i+5<=s.length/\s=s.take i++(sumW++(nt++[10]))));have HNt:=S hnt;clear hnt hiw;have HNu:=S (He nt (by omega) HF.1.1 HF.1.2.1);have n2:((s.length:Int)-1).toNat=s.length-1:=by omega
   go_upto_region 4 with fail;go_cut [31] (λv31 wx=>TstP s v31/\w=wx)
   case first=>
    cases hsf:Lib.hasSuffix s [10]with
    | false=>
      have HN:=S (show ∀vs n,AN vs->Bb n->0<=n->n<1000033->s≠BA vs n from λvs n _ _ _ _ e=>by
       have:=(HRd.1 vs n e).2.1;rw[hsf]at this;cases this)
      cases i with
      | zero=>
        go_wp2_with fail;refine(HSf.1 _).mono ?_;rintro e w1 ⟨rfl,rfl⟩;rw[hsf];go_wp2;go_meet;exact⟨.inl ⟨rfl,HN.1⟩,rfl⟩
      | succ j=>
        have hjl:j<s.length:=by omega
        have hjf:j<=200001:=by omega
        obtain⟨p,hp⟩:∃p,p=s[j].toNat:=⟨_,rfl⟩;have hgj:=λh=>(congrArg UInt8.toNat (Fz s j h hjl)).trans hp.symm;have wj:wrap64 (j:Int)=(j:Int):=KL hjf;clear hp;by_cases h10:p=10
        ·have hi10:((p:Int)==10)=true:=by rw[h10];rfl
         have hi11:((p:Int) !=10)=false:=by rw[h10];rfl
         clear h10;go_wp2_with fail;refine(HSf.1 _).mono ?_;rintro e w1 ⟨rfl,rfl⟩;rw[hsf];go_wp2;go_meet;exact⟨.inl ⟨rfl,HN.1⟩,rfl⟩
        ·have hi10:((p:Int)==10)=false:=by simp;omega
         have hi11:((p:Int) !=10)=true:=by simp;omega
         clear h10;go_wp2;go_meet;exact⟨.inl ⟨rfl,HN.1⟩,rfl⟩
    | true=>
      have HS:=S hsf;cases i with
      | zero=>
        go_wp2_with fail;refine(HSf.1 _).mono ?_;rintro e w1 ⟨rfl,rfl⟩;rw[hsf];go_wp2;go_meet;exact⟨.inr ⟨rfl,HS.1⟩,rfl⟩
      | succ j=>
        have hjl:j<s.length:=by omega
        have hjf:j<=200001:=by omega
        obtain⟨p,hp⟩:∃p,p=s[j].toNat:=⟨_,rfl⟩;have hgj:=λh=>(congrArg UInt8.toNat (Fz s j h hjl)).trans hp.symm;have wj:wrap64 (j:Int)=(j:Int):=KL hjf;have HP:=S hp;clear hp;by_cases h10:p=10
        ·have hi10:((p:Int)==10)=true:=by rw[h10];rfl
         have hi11:((p:Int) !=10)=false:=by rw[h10];rfl
         clear h10;go_wp2_with fail;refine(HSf.1 _).mono ?_;rintro e w1 ⟨rfl,rfl⟩;rw[hsf];go_wp2;go_meet;exact⟨.inr ⟨rfl,HS.1⟩,rfl⟩
        ·have hi10:((p:Int)==10)=false:=by simp;omega
         have hi11:((p:Int) !=10)=true:=by simp;omega
         have HN:=S (show ∀vs n,AN vs->Bb n->0<=n->n<1000033->s≠BA vs n from λvs n _ _ _ _ e=>by
          have h:=((HRd.1 vs n e).2.2.2.1 (Nat.succ_pos j)).1;have h2:bAt s j=10:=h;rw[CC hjl]at h2;exact h10 (by rw[HP.1,h2];rfl))
         clear h10;go_wp2;go_meet;exact⟨.inl ⟨rfl,HN.1⟩,rfl⟩
   case rest=>
    obtain⟨ht,rfl⟩:=hcut;rcases ht with⟨rfl,hN⟩| ⟨rfl,hsf⟩
    ·have HN:=S hN;clear hN;go_wp2;go_ret2;exact PRd.no (Aa _ _) hsm HN.1
    obtain⟨h5,hse⟩:=HTp.1 hsf;have HSe:=S hse;clear hse hsf;have m0:(0:Int)<=(i:Int)+4:=by omega
    have m1:(i:Int)+4<=(s.length:Int)-1:=by omega
    have m2:(s.length:Int)-1<=(s.length:Int):=by omega
    have m3:((i:Int)+4).toNat=i+4:=by omega
    go_wp2_with fail;refine HNu.1.mono ?_;rintro e w1 ⟨n,c,rfl,hc1,hc2,g1⟩;have HG1:=S g1;have HC1:=S hc1;have HC2:=S hc2;have hgs1:=g1.size;clear g1 hc1 hc2 HNu;go_upto_region 8 with fail;go_cut [47] (λv47 wx=>v47= .bool (decide (0<i)&&c)/\w1=wx)
    case first=>
     cases hip:decide (0<i)with
     | false=>
       go_wp2;go_meet;exact⟨by rw[hip];rfl,rfl⟩
     | true=>
       go_wp2;go_meet;exact⟨by rw[hip];rfl,rfl⟩
    case rest=>
    obtain⟨rfl,rfl⟩:=hcut;go_upto_if 47 with fail
    go_cut [6,7] (λv6 v7 wx=>UnsP w s i n v6 v7 wx)
    case first=>
     cases c with
     | false=>
       have HN:=S (show ∀vs n,AN vs->Bb n->0<=n->n<1000033->s≠BA vs n from λvs n _ h64 _ _ e=>by
        have h:=(HC2.1 n h64 (HNt.1.trans (HRd.1 vs n e).2.2.1)).1;cases h)
       rw[Bool.and_false];go_wp2;go_meet;exact⟨HG1.1,.inl ⟨rfl,HN.1⟩⟩
     | true=>
       obtain⟨hc3,hc4⟩:=HC1.1 rfl;have HC3:=S (X hc3 hc4);clear hc3 hc4 HC1;cases i with
       | zero=>
         rw[show(decide (0<0)&&true)=false from rfl];go_wp2;go_meet;exact⟨HG1.1,.inr ⟨rfl,[],Zf _ _,(λu h=>by cases h),by decide,HC3.1.2,λvs n' _ h64 e=>⟨((HRd.1 vs n' e).2.2.2.2 (by first|rfl|trivial)).symm,(HC2.1 n' h64 (HNt.1.trans (HRd.1 vs n' e).2.2.1)).2⟩,λ_=>by
          rw[FT,Ml,B7];have h:=HSe.1;rw[HC3.1.1]at h;rw[h];simp[sumW]⟩⟩
       | succ j=>
         have m4:(0:Int)<=(j:Int):=by omega
         have m5:(j:Int)<=(s.length:Int):=by omega
         have hxr:(⟨s.toArray⟩:ByteArray).extract 0 j=⟨(s.take j).toArray⟩:=by rw[CY];simp
         have htj:(s.take j).length<=200000:=nT (List.length_take_le' _ _) hsm;have HRr:=S (Ur (w:=w1) (s.take j) htj (HF.1.1.gb HG1.1) (HF.1.2.1.gbN HG1.1) (HF.1.2.2.gb HG1.1));have HFj:=S (show ∀vs n',s=BA vs n'->s.take j++[10]=AP vs/\vs≠[]from λvs n' e=>((HRd.1 vs n' e).2.2.2.1 (Nat.succ_pos j)).2);have HTj:=S htj;generalize s.take j=sj at*;clear htj;rw[show(decide (0<j+1)&&true)=true by simp];go_wp2_with fail;refine HRr.1.mono ?_;rintro e w2 ⟨us,v,b,rfl,g2,hvn,hvu,hfu⟩;cases b with
         | false=>
           have HN:=S (show ∀vs n,AN vs->Bb n->0<=n->n<1000033->s≠BA vs n from λvs n hw _ _ _ e=>by
            obtain⟨e1,e2⟩:=HFj.1 vs n e;have h:=(hfu vs e2 hw e1).1;cases h)
           have HG2:=S (Z HG1.1 g2);clear hvn hvu hfu g2 HRr;go_wp2;go_meet;exact⟨HG2.1,.inl ⟨rfl,HN.1⟩⟩
         | true=>
           have HU:=S (show UnsP w s (j+1) n (.bool true) v w2 from by
            obtain⟨hv1,hv2,hv3⟩:=hvu rfl;refine⟨Z HG1.1 g2,.inr ⟨rfl,us,hv1.mono (λk hk _=>nT hgs1 hk),hv2,nT hv3 (by have:=HTj.1;omega),HC3.1.2,λvs n' hw h64 e=>?_,λe=>?_⟩⟩
            ·obtain⟨e1,e2⟩:=HFj.1 vs n' e;exact⟨(hfu vs e2 hw e1).2,(HC2.1 n' h64 (HNt.1.trans (HRd.1 vs n' e).2.2.1)).2⟩
            ·have h:=HSe.1;rw[HC3.1.1,<-e]at h;rw[h,FT,B7];simp[sumW])
           clear hvn hvu hfu g2 HRr;go_wp2;go_meet;exact HU.1
    case rest=>
    obtain⟨hgx,hu⟩:=hcut;rcases hu with⟨rfl,hN⟩| ⟨rfl,us,hv1,hv2,hv3,h64,hfu,htx⟩
    ·have HN:=S hN;have HGx:=S hgx;clear hN hgx;go_wp2_with fail;go_quiet(fail);have HG2:=S (An HGx.1 nq);go_wp2;go_ret2;exact PRd.no HG2.1 hsm HN.1
    ·have HVu:=S (X hv1 (X hv2 (X hv3 hgx)));have HFu:=S hfu;have HTx:=S htx;have Hn64:=S h64;clear hv1 hv2 hv3 hgx hfu htx h64;obtain⟨tk,htk⟩:∃t,t=s.take i:=⟨_,rfl⟩;obtain⟨ll,hll⟩:∃l,l=AP us:=⟨_,rfl⟩;have hx:(⟨s.toArray⟩:ByteArray).extract 0 (i)=⟨(tk:Bs).toArray⟩:=by rw[htk,CY];simp
     have y1:(0:Int)<=(((i:Nat)):Int):=Int.natCast_nonneg _;have y2:(((i:Nat)):Int)<=(s.length:Int):=by omega
     have htl:(tk:Bs).length<=200000:=by rw[htk];exact nT (List.length_take_le' _ _) hsm
     have HLn:=S (λW' (g:World.grownBy wc W' none)=>by have h:=MF (HVu.1.1.gb g (by simp)) (nT HVu.1.2.2.1 (by decide)) HVu.1.2.1 (HF.1.1.gb (Z HVu.1.2.2.2 g));rw[<-hll]at h;exact h.mono (λe w' k=>(show e= .returned (str ll)/\World.grownBy wc w' none from⟨k.1,Z g k.2⟩)));have HXS:=S (show(λW'=>True/\World.grownBy wc W' none) (World.drew wc)from⟨trivial,Ae (Aa _ _)⟩);have HN:=S (show(ll=(tk)->¬(0<=n/\n<1000033))->∀vs n,AN vs->Bb n->0<=n->n<1000033->s≠BA vs n from λh vs n' hw hn h0 h1 e=>by
      obtain⟨e1,e2⟩:=HFu.1 vs n' hw hn e;have e3:=(HRd.1 vs n' e).1;subst e1 e2;exact h (by rw[hll,htk];exact e3.symm) ⟨h0,h1⟩)
     have HTk:=S (show ll=(tk)->s=BA us n/\AP us=(tk)from λe=>⟨HTx.1 (by rw[<-hll,<-htk];exact e),by rw[<-hll];exact e⟩);clear hll htk;have hq3:(ll==(tk))=false\/((ll==(tk))=true/\n<0)\/((ll==(tk))=true/\decide (n<0)=false/\1000033<=n)\/((ll==(tk))=true/\decide (n<0)=false/\decide (1000033<=n)=false):=by
      cases h:(ll==(tk))with
      |false=>exact .inl rfl
      | true=>
        right;rcases Int.lt_or_le n 0 with h0|h0
        ·exact .inl ⟨rfl,h0⟩
        ·right;have h2:decide (n<0)=false:=by rw[decide_eq_false_iff_not];exact Int.not_lt.2 h0
         rcases Int.lt_or_le n 1000033 with h1|h1
         ·exact .inr ⟨rfl,h2,by rw[decide_eq_false_iff_not];exact Int.not_le.2 h1⟩
         ·exact .inl ⟨rfl,h2,h1⟩
     have HQ3:=S hq3;rcases hq3 with hq| ⟨hq,hn0⟩| ⟨hq,hn0,hn1⟩| ⟨hq,hn0,hn1⟩
     rotate_left 3
     ·have HEq:=S (show ll=(tk)by simpa using hq);try have hqe:=Ov hq rfl
      have HNb:=S (show 0<=n/\n<1000033 from⟨Int.not_lt.1 (by simpa using hn0),Int.not_le.1 (by simpa using hn1)⟩);go_wp2_with fail;refine wp_region_quiet_below (by kernel_rfl) (by kernel_rfl) ?_;repeat(go_big_quiet_step ((go_at_call 19;exact(HLn.1 _ (gbB (below_regrown wc _ _) none)).mono λe w' h=>⟨h.1,regrown_of_below (Nt h.2)⟩)))
      refine wpQuiet_nil ?_;intro _ hw';obtain⟨pg,hw''⟩:=hw';subst hw'';have g5:=gbB (below_regrown wc pg.d pg.os) none;generalize Go.Sort.grow (redrawn wc pg.d) pg.os=w5 at*;all_goals
       have G5:=Z HVu.1.2.2.2 g5;have HG5:=S (X g5 G5);have HSm:=S (MX (tk) (nT htl (by decide)) w5);clear g5 G5;go_wp2_with fail;refine mR HSm.1 λw6 g6=>?_;have HG6:=S (X (Z HG5.1.1 g6) (Z HG5.1.2 g6));clear g6 HSm;cases hc:(n==csM (tk))with
       | false=>
         have HC:=S (show n≠csM (tk)by simpa using hc);go_wp2;go_ret2;exact⟨us,_,8,rfl,HG6.1.2,λ_=>rfl,.inr ⟨hsm,.inl ⟨n,(HTk.1 HEq.1).1,HVu.1.2.1,HVu.1.2.2.1,Hn64.1,HNb.1.1,HNb.1.2,.inl ⟨by rw[(HTk.1 HEq.1).2];exact HC.1,rfl⟩⟩⟩⟩
       | true=>
         have HC:=S (show n=csM (tk)by simpa using hc);have HVd:=S (HV.1 w6 u7 us _ HG6.1.2 (HVu.1.1.gb HG6.1.1 (by simp)) HVu.1.2.1 (nT HVu.1.2.2.1 (by decide)));go_wp2_with fail;refine mR HVd.1 λw7 g7=>?_;have HG7:=S (X (Z HG6.1.1 g7) (Z HG6.1.2 g7));obtain⟨ev,hev⟩:∃x,x=vm us:=⟨_,rfl⟩;rw[<-hev];have HEv:=S hev;clear g7 hev HVd;by_cases h0:ev=0
         ·subst h0;go_wp2;go_ret2;exact⟨us,_,0,rfl,HG7.1.2,λh=>absurd rfl h,.inr ⟨hsm,.inl ⟨n,(HTk.1 HEq.1).1,HVu.1.2.1,HVu.1.2.2.1,Hn64.1,HNb.1.1,HNb.1.2,.inr ⟨by rw[(HTk.1 HEq.1).2];exact HC.1,HEv.1,λ_=>(HVu.1.1.gb HG7.1.1 (by simp)).mono (λ_ h _=>h)⟩⟩⟩⟩
         ·have hz:(ev==0)=false:=by simpa using h0
          go_wp2;go_ret2;exact⟨us,_,ev,rfl,HG7.1.2,λ_=>rfl,.inr ⟨hsm,.inl ⟨n,(HTk.1 HEq.1).1,HVu.1.2.1,HVu.1.2.2.1,Hn64.1,HNb.1.1,HNb.1.2,.inr ⟨by rw[(HTk.1 HEq.1).2];exact HC.1,HEv.1,λh=>absurd h h0⟩⟩⟩⟩
     all_goals
      have HB:=S (HN.1 (λe h=>by
       first
        | (rw[e]at hq;simp at hq;done)
        | (omega)))
      try have hqe:=Ov hq rfl
      try have hn9:decide (n<0)=true:=by rw[decide_eq_true_eq];exact hn0
      try have hn8:decide (1000033<=n)=true:=by rw[decide_eq_true_eq];exact hn1
      go_wp2_with fail;refine wp_region_quiet_below (by kernel_rfl) (by kernel_rfl) ?_;repeat(go_big_quiet_step ((go_at_call 19;exact(HLn.1 _ (gbB (below_regrown wc _ _) none)).mono λe w' h=>⟨h.1,regrown_of_below (Nt h.2)⟩)))
      refine wpQuiet_nil ?_;intro _ hw';obtain⟨pg,hw''⟩:=hw';subst hw'';have g5:=gbB (below_regrown wc pg.d pg.os) none;generalize Go.Sort.grow (redrawn wc pg.d) pg.os=w5 at*;all_goals
       have HG5:=S (Z HVu.1.2.2.2 g5);clear g5;go_wp2;go_ret2;exact PRd.no HG5.1 hsm HB.1
def Zd{u v:Un}(h1:u.name=v.name)(h2:u.row=v.row)(h3:u.code=v.code):u=v:=by
 obtain⟨_,_,_⟩:=u;obtain⟨_,_,_⟩:=v;simp at h1 h2 h3;rw[h1,h2,h3]
def Vs{va vb:Value}{us:List Un}{ok':Nat->Prop}(h:VU ok w va us)(k0:VU ok' w vb vs):
 Calls Tryz.prog 8 #[va,vb] w (ρ w (.bool (decide (us=vs)))):=by
 obtain⟨a,cap,rfl,hle,hmx,hat⟩:=h.open;obtain⟨b,capb,rfl,hleb,hmxb,hatb⟩:=k0.open;have hlm:us.length<=9223372036854775807:=by unfold maxLen at hmx;omega
 have hmm:vs.length<=9223372036854775807:=by unfold maxLen at hmxb;omega
 have HA:=S (X hat hatb);clear hat hatb hle hmx hleb hmxb h k0;by_cases hl:us.length=vs.length
 ·have HL:=S hl;have i0:((us.length:Int) !=(vs.length:Int))=false:=by simp;omega
  have i1:((us.length:Int)==(vs.length:Int))=true:=by simp;omega
  clear hl;go_enter func8,ntmps8;go_wp2_with fail;go_loopg [5,6,7,8,9] us.length (λg v5 v6 v7 v8 v9 wr=>∃k:Nat,k+g=us.length/\v5= .int .i64 k/\us.take k=vs.take k/\w.grownBy wr none)
  case atStart=>exact⟨0,by omega,rfl,rfl,Aa _ _⟩
  case round=>
   obtain⟨k,hk,rfl,ht,hG⟩:=hrel;cases gk with
   | zero=>
     have hkl:k=us.length:=by omega
     have hj1:decide (k<us.length)=false:=by simp;omega
     have HE:=S (X (Jf HL.1 (by rw[<-hkl];exact ht)) hG);clear ht hG;subst hkl;go_wp2;go_ret;exact⟨by rw[decide_eq_true HE.1.1];rfl,HE.1.2⟩
   | succ gk=>
     have hkl:k<us.length:=by omega
     have hkm:k<vs.length:=by have:=HL.1;omega
     have hj1:decide (k<us.length)=true:=by simp;omega
     obtain⟨u,hx⟩:∃x,us[k]? =some x:=⟨_,AQ hkl⟩;obtain⟨v,hy⟩:∃y,vs[k]? =some y:=⟨_,AQ hkm⟩;obtain⟨ga,oa,ra,rc,ca,cc,rfl,_,la,a0,a1,a2,a3,a4⟩:=HA.1.1 k u hx;obtain⟨gb,ob,rb,rd,cb,cd,rfl,_,lb,b0,b1,b2,b3,b4⟩:=HA.1.2 k v hy;have d0:=Ad hG a0;have d1:=Ad hG a1;have d2:=Ad hG a2;have e0:=Ad hG b0;have e1:=Ad hG b1;have e2:=Ad hG b2;have hsz:=hG.size;have la2:ga<wr.heap.size:=by omega
     have lb2:gb<wr.heap.size:=by omega
     have HT:=S (X ht (X hG (X hx hy)));have HC:=S (X a3 (X a4 (X b3 b4)));clear a0 a1 a2 a3 a4 b0 b1 b2 b3 b4 ht hG hx hy;go_upto_region 6 with fail;go_cut [6,7] (λv6 v7 wx=>∃x y:Nat,v6= .pointer (some ⟨x,0,none⟩)/\v7= .pointer (some ⟨y,0,none⟩)/\Blk wx x [str u.name,.slice ra u.row.length rc,.slice ca u.code.length cc] 58/\Blk wx y [str v.name,.slice rb v.row.length rd,.slice cb v.code.length cd] 58/\wr.grownBy wx none)
     case first=>
      go_region_with(fail);all_goals
       go_wp2_with fail;go_meet;first
        |exact⟨_,_,rfl,rfl,((Blk.new wr [str u.name,.slice ra u.row.length rc,.slice ca u.code.length cc] 58).alloc _).drew,((Blk.new (wr.alloc (.cells [str u.name,.slice ra u.row.length rc,.slice ca u.code.length cc].toArray 58 (0,0))) [str v.name,.slice rb v.row.length rd,.slice cb v.code.length cd] 58).of_eq (show _=wr.heap.size+1 by simp) rfl).drew,Ae (Ac (Ac (Aa _ _) _) _)⟩
        |exact⟨_,_,rfl,rfl,((Blk.new (wr.alloc (.cells [str v.name,.slice rb v.row.length rd,.slice cb v.code.length cd].toArray 58 (0,0))) [str u.name,.slice ra u.row.length rc,.slice ca u.code.length cc] 58).of_eq (show _=wr.heap.size+1 by simp) rfl).drew,((Blk.new wr [str v.name,.slice rb v.row.length rd,.slice cb v.code.length cd] 58).alloc _).drew,Ae (Ac (Ac (Aa _ _) _) _)⟩
     case rest=>
      obtain⟨x,y,rfl,rfl,hbx,hby,hgx⟩:=hcut;have HG:=S (X hbx (X hby (Z HT.1.2.1 hgx)));have x0:=hbx.cell 0;have x1:=hbx.cell 1;have x2:=hbx.cell 2;have y0:=hby.cell 0;have y1:=hby.cell 1;have y2:=hby.cell 2;have HGX:=S hgx;clear hbx hby hgx;by_cases hn:u.name=v.name;rotate_left
      ·have j0:(u.name==v.name)=false:=by simpa using hn
       have j1:(u.name !=v.name)=true:=by simpa using hn
       have HF:=S (F5 HT.1.2.2.1 HT.1.2.2.2 (λe=>hn (by rw[e])));clear hn;go_wp2;go_ret;exact⟨by rw[decide_eq_false HF.1];rfl,HG.1.2.2⟩
      have j0:(u.name==v.name)=true:=by simpa using hn
      have j1:(u.name !=v.name)=false:=by simpa using hn
      by_cases hr:u.row.length=v.row.length;rotate_left
      ·have j2:((u.row.length:Int)==(v.row.length:Int))=false:=by simp;omega
       have j3:((u.row.length:Int) !=(v.row.length:Int))=true:=by simp;omega
       have HF:=S (F5 HT.1.2.2.1 HT.1.2.2.2 (λe=>hr (by rw[e])));clear hn hr;go_wp2;go_ret;exact⟨by rw[decide_eq_false HF.1];rfl,HG.1.2.2⟩
      have j2:((u.row.length:Int)==(v.row.length:Int))=true:=by simp;omega
      have j3:((u.row.length:Int) !=(v.row.length:Int))=false:=by simp;omega
      by_cases hc:u.code.length=v.code.length;rotate_left
      ·have j4:((u.code.length:Int)==(v.code.length:Int))=false:=by simp;omega
       have j5:((u.code.length:Int) !=(v.code.length:Int))=true:=by simp;omega
       have HF:=S (F5 HT.1.2.2.1 HT.1.2.2.2 (λe=>hc (by rw[e])));clear hn hr hc;go_wp2;go_ret;exact⟨by rw[decide_eq_false HF.1];rfl,HG.1.2.2⟩
      have j4:((u.code.length:Int)==(v.code.length:Int))=true:=by simp;omega
      have j5:((u.code.length:Int) !=(v.code.length:Int))=false:=by simp;omega
      have m1:u.row.length<=9223372036854775807:=by obtain⟨_,_,e,h3,h4,_⟩:=HC.1.1;cases e;unfold maxLen at h4;omega
      have m2:u.code.length<=9223372036854775807:=by obtain⟨_,_,e,h3,h4,_⟩:=HC.1.2.1;cases e;unfold maxLen at h4;omega
      have HN:=S (X hn (X hr hc));clear hn hr hc;go_wp2_with fail;go_loopg [8] u.row.length (λg v8 w2=>∃j:Nat,j+g=u.row.length/\v8= .int .i64 j/\u.row.take j=v.row.take j/\wc.grownBy w2 none)
      case atStart=>exact⟨0,by omega,rfl,rfl,Aa _ _⟩
      case round=>
       obtain⟨j,hj,rfl,hjt,hg2⟩:=hrel;have z1:=(HG.1.1.gb hg2 (by simp)).cell 1;have z2:=(HG.1.1.gb hg2 (by simp)).cell 2;have t1:=(HG.1.2.1.gb hg2 (by simp)).cell 1;by_cases hjl:j<u.row.length
       ·have hjI:decide (j<u.row.length)=true:=by simpa using hjl
        have hjm:j<v.row.length:=by have:=HN.1.2.1;omega
        obtain⟨p,hp⟩:∃p,u.row[j]? =some p:=⟨_,AQ hjl⟩;obtain⟨q,hq⟩:∃q,v.row[j]? =some q:=⟨_,AQ hjm⟩;obtain⟨gp,op,rfl,_,_,cp⟩:=HC.1.1.int hp;obtain⟨gq,oq,rfl,_,_,cq⟩:=HC.1.2.2.1.int hq;have gw2:=Z HG.1.2.2 hg2;have dp:=Ad gw2 cp;have dq:=Ad gw2 cq;clear cp cq;by_cases hpq:p=q
        ·subst hpq;have l1:(p==p)=true:=by simp
         have l2:(p !=p)=false:=by simp
         have HE:=S (X (ID hjt hp hq) hg2);clear hjt hg2 hp hq gw2;go_wp2_with fail;go_quiet(fail);go_wp2;go_roundg (u.row.length-(j+1))
         case measure=>omega
         case rel=>exact⟨j+1,by omega,by go_num,HE.1.1,An HE.1.2 _⟩
        ·have l1:(p==q)=false:=by simpa using hpq
         have l2:(p !=q)=true:=by simpa using hpq
         have HF:=S (X (F5 HT.1.2.2.1 HT.1.2.2.2 (λe=>F5 hp hq hpq (by rw[e]))) gw2);clear hjt hg2 hp hq hpq gw2;go_wp2_with fail;go_quiet(fail);go_wp2;go_ret;exact⟨by rw[decide_eq_false HF.1.1];rfl,An HF.1.2 _⟩
       ·have hjI:decide (j<u.row.length)=false:=by simpa using hjl
        have hje:j=u.row.length:=by omega
        have HR:=S (X (Jf HN.1.2.1 (by rw[<-hje];exact hjt)) hg2);clear hjt hg2;subst hje;go_wp2_with fail;go_loopg [9] u.code.length (λg v9 w3=>∃i:Nat,i+g=u.code.length/\v9= .int .i64 i/\u.code.take i=v.code.take i/\wc.grownBy w3 none)
        case atStart=>exact⟨0,by omega,rfl,rfl,HR.1.2⟩
        case round=>
         obtain⟨i,hi,rfl,hit,hg3⟩:=hrel;have q2:=(HG.1.1.gb hg3 (by simp)).cell 2;have r2:=(HG.1.2.1.gb hg3 (by simp)).cell 2;by_cases hil:i<u.code.length
         ·have hiI:decide (i<u.code.length)=true:=by simpa using hil
          have him:i<v.code.length:=by have:=HN.1.2.2;omega
          obtain⟨p,hp⟩:∃p,u.code[i]? =some p:=⟨_,AQ hil⟩;obtain⟨q,hq⟩:∃q,v.code[i]? =some q:=⟨_,AQ him⟩;obtain⟨gp,op,rfl,_,_,p0,p1,p2,p3⟩:=HC.1.2.1.cd hp;obtain⟨gq,oq,rfl,_,_,s0,s1,s2,s3⟩:=HC.1.2.2.2.cd hq;have gw3:=Z HG.1.2.2 hg3;have a0:=Ad gw3 p0;have a1:=Ad gw3 p1;have a2:=Ad gw3 p2;have a3:=Ad gw3 p3;have b0:=Ad gw3 s0;have b1:=Ad gw3 s1;have b2:=Ad gw3 s2;have b3:=Ad gw3 s3;clear p0 p1 p2 p3 s0 s1 s2 s3;obtain⟨f0,f1,f2,f3⟩:=p;obtain⟨h0,h1,h2,h3⟩:=q;by_cases hpq:(⟨f0,f1,f2,f3⟩:Cd)=⟨h0,h1,h2,h3⟩
          ·cases hpq;have HE:=S (X (ID hit hp hq) hg3);clear hit hg3 hp hq gw3;go_wp2_with fail;go_quiet(fail);go_wp2;go_roundg (u.code.length-(i+1))
           case measure=>omega
           case rel=>exact⟨i+1,by omega,by go_num,HE.1.1,An HE.1.2 _⟩
          ·have HF:=S (X (F5 HT.1.2.2.1 HT.1.2.2.2 (λe=>F5 hp hq hpq (by rw[e]))) gw3);clear hit hg3 hp hq gw3;by_cases e0:f0=h0
           ·by_cases e1:f1=h1
            ·by_cases e2:f2=h2
             ·have e3:¬f3=h3:=λe=>hpq (by rw[e0,e1,e2,e]);have g3:(f3==h3)=false:=by simpa using e3
              subst e0 e1 e2;clear hpq;go_wp2_with fail;go_quiet(fail);go_wp2;go_ret;exact⟨by rw[decide_eq_false HF.1.1];rfl,An HF.1.2 _⟩
             ·have g2:(f2==h2)=false:=by simpa using e2
              subst e0 e1;clear hpq;go_wp2_with fail;go_quiet(fail);go_wp2;go_ret;exact⟨by rw[decide_eq_false HF.1.1];rfl,An HF.1.2 _⟩
            ·have g1:(f1==h1)=false:=by simpa using e1
             subst e0;clear hpq;go_wp2_with fail;go_quiet(fail);go_wp2;go_ret;exact⟨by rw[decide_eq_false HF.1.1];rfl,An HF.1.2 _⟩
           ·have g0:(f0==h0)=false:=by simpa using e0
            clear hpq;go_wp2_with fail;go_quiet(fail);go_wp2;go_ret;exact⟨by rw[decide_eq_false HF.1.1];rfl,An HF.1.2 _⟩
         ·have hiI:decide (i<u.code.length)=false:=by simpa using hil
          have hie:i=u.code.length:=by omega
          have HK:=S (X (Zd HN.1.1 HR.1.1 (Jf HN.1.2.2 (by rw[<-hie];exact hit))) (Z HG.1.2.2 hg3));clear hit hg3;go_wp2;go_roundg (us.length-(k+1))
          case measure=>omega
          case rel=>exact⟨k+1,by omega,by go_num,ID HT.1.1 HT.1.2.2.1 (by rw[HK.1.1];exact HT.1.2.2.2),HK.1.2⟩
 ·have HE:=S (show us≠vs by rintro rfl;exact hl rfl);have i0:((us.length:Int) !=(vs.length:Int))=true:=by simp;omega
  have i1:((us.length:Int)==(vs.length:Int))=false:=by simp;omega
  go_enter func8,ntmps8;go_wp2;go_ret;exact⟨by rw[decide_eq_false HE.1];rfl,Aa _ _⟩
end Go.Proofs.YtbjfaimkiclhgaaGreatDoor
