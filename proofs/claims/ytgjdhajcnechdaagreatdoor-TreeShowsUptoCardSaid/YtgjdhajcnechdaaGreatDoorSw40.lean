/-
  text: one node, kind by kind (2): operands are read and written.
-/
import Derived.Test.YtgjdhajcnechdaaGreatDoorSw38
set_option linter.all false
set_option maxRecDepth 100000
set_option maxHeartbeats 8000000
namespace Go.Proofs.YtgjdhajcnechdaaGreatDoor
open Go.Proofs.Tryz
open Go.RowKit
def Kid(w:World)(g o:Nat)(a:Hd)(pv lv:Value):Prop:=g<w.heap.size∧∀i u,(hdC a pv lv)[i]? =some u→w.cell? ⟨g,o+i,none⟩=some u
theorem Kid.c7{w:World}{g o:Nat}{a:Hd}{pv lv:Value}(h:Kid w g o a pv lv):w.cell? ⟨g,o,none⟩=some (.int .i64 a.op)∧w.cell? ⟨g,o+1,none⟩=some (str a.s)∧w.cell? ⟨g,o+2,none⟩=some (.int .i64 a.vk)∧w.cell? ⟨g,o+3,none⟩=some (.int .i64 a.vn)∧w.cell? ⟨g,o+4,none⟩=some (str a.vs)∧w.cell? ⟨g,o+5,none⟩=some pv∧w.cell? ⟨g,o+6,none⟩=some lv:=
 ⟨h.2 0 _ rfl,h.2 1 _ rfl,h.2 2 _ rfl,h.2 3 _ rfl,h.2 4 _ rfl,h.2 5 _ rfl,h.2 6 _ rfl⟩
theorem R9{w W W1:World}{b:Nat}{u v:Value}(h:W.cell? ⟨b,1,none⟩=some u∧W.cell? ⟨b,6,none⟩=some v∧w.grownBy W none)(g:W.grownBy W1 none):W1.cell? ⟨b,1,none⟩=some u∧W1.cell? ⟨b,6,none⟩=some v∧w.grownBy W1 none:=
 ⟨Af g h.1,Af g h.2.1,Aa h.2.2 g⟩
section
variable {w:World}{s vs:Bs}{p:List Bs}{vk vn:Int}{pa la:Option Addr}{pc pn n lc:Nat}{t:Bs}
theorem Tk(hs:s.length≤2000000)(hl:t.length≤1000000000000000)(HC:∀W,w.grownBy W none→Calls Tryz.prog 59 #[.slice la n lc] W fun e w'=>e= .returned (str t)∧W.grownBy w' none):
 Calls Tryz.prog 35 #[exV ⟨3,s,vk,vn,vs,p⟩ (.slice pa pn pc) (.slice la n lc)] w fun e w'=>e= .returned (str (s++[40]++t++[41]))∧w.grownBy w' none:=by
 have H:=O HC;have hcl1:¬(9223372036854775807<s.length+1):=by omega
 have hcl2:¬(9223372036854775807<s.length+1+t.length):=by omega
 have hcl3:¬(9223372036854775807<s.length+1+t.length+1):=by omega
 have hb:=Blk.new w (hdC ⟨3,s,vk,vn,vs,p⟩ (.slice pa pn pc) (.slice la n lc)) 27;obtain⟨x_0,x_1,x_2,x_3,x_4,x_5,x_6,x_f⟩:=(hb).c7;have HX:=O (Z x_1 (Z x_6 (Am (Ad (Ac w none) (.cells (hdC ⟨3,s,vk,vn,vs,p⟩ (.slice pa pn pc) (.slice la n lc)).toArray 27 (0,0))))));clear HC hb x_0 x_1 x_2 x_3 x_4 x_5 x_6 x_f;go_enter func35,ntmps35;go_wp2_with fail;go_region_held3 (fun W=>W.cell? ⟨w.heap.size,1,none⟩=some (str s)∧W.cell? ⟨w.heap.size,6,none⟩=some (.slice la n lc)∧w.grownBy W none)
  (first|exact HX.out|exact R9 (by assumption) g5)
  (first| (go_at_call 59;refine(H.out _ ?_).mono ?_;(simp[*]);rintro e w5 ⟨rfl,g5⟩))
 rename_i hH;have HG:=O hH.2.2;clear hH;go_wp2;go_ret;exact⟨congrArg Ending.returned (BI (by simp[ByteArray.data_append])),HG.out⟩
end
section
variable {W W1:World}(g5:W.grownBy W1 none)
include g5
theorem Kid.gb'{g o:Nat}{a:Hd}{pv lv:Value}(h:Kid W g o a pv lv):Kid W1 g o a pv lv:=⟨Nat.lt_of_lt_of_le h.1 g5.size,fun i u hu=>Af g5 (h.2 i u hu)⟩
theorem Kz{b:Nat}{u v:Value}(h:W.cell? ⟨b,1,none⟩=some u∧W.cell? ⟨b,6,none⟩=some v):W1.cell? ⟨b,1,none⟩=some u∧W1.cell? ⟨b,6,none⟩=some v:=⟨Af g5 h.1,Af g5 h.2⟩
theorem RZ{b:Nat}{u v x:Value}(h:W.cell? ⟨b,1,none⟩=some u∧W.cell? ⟨b,6,none⟩=some v∧W.cell? ⟨b,5,none⟩=some x):W1.cell? ⟨b,1,none⟩=some u∧W1.cell? ⟨b,6,none⟩=some v∧W1.cell? ⟨b,5,none⟩=some x:=⟨Af g5 h.1,Af g5 h.2.1,Af g5 h.2.2⟩
theorem Ey{g o0 o1 o2 o3 o4 o5 o6:Nat}{v0 v1 v2 v3 v4 v5 v6:Value}(h:W.cell? ⟨g,o0,none⟩=some v0∧W.cell? ⟨g,o1,none⟩=some v1∧W.cell? ⟨g,o2,none⟩=some v2∧W.cell? ⟨g,o3,none⟩=some v3∧W.cell? ⟨g,o4,none⟩=some v4∧W.cell? ⟨g,o5,none⟩=some v5∧W.cell? ⟨g,o6,none⟩=some v6):
 W1.cell? ⟨g,o0,none⟩=some v0∧W1.cell? ⟨g,o1,none⟩=some v1∧W1.cell? ⟨g,o2,none⟩=some v2∧W1.cell? ⟨g,o3,none⟩=some v3∧W1.cell? ⟨g,o4,none⟩=some v4∧W1.cell? ⟨g,o5,none⟩=some v5∧W1.cell? ⟨g,o6,none⟩=some v6:=
 ⟨Af g5 h.1,Af g5 h.2.1,Af g5 h.2.2.1,Af g5 h.2.2.2.1,Af g5 h.2.2.2.2.1,Af g5 h.2.2.2.2.2.1,Af g5 h.2.2.2.2.2.2⟩
theorem s12{w:World}{g o0 o1 o2 o3 o4 o5 o6 b:Nat}{u v v0 v1 v2 v3 v4 v5 v6:Value}(h:(W.cell? ⟨b,1,none⟩=some u∧W.cell? ⟨b,6,none⟩=some v)∧(W.cell? ⟨g,o0,none⟩=some v0∧W.cell? ⟨g,o1,none⟩=some v1∧W.cell? ⟨g,o2,none⟩=some v2∧W.cell? ⟨g,o3,none⟩=some v3∧W.cell? ⟨g,o4,none⟩=some v4∧W.cell? ⟨g,o5,none⟩=some v5∧W.cell? ⟨g,o6,none⟩=some v6)∧w.grownBy W none):(W1.cell? ⟨b,1,none⟩=some u∧W1.cell? ⟨b,6,none⟩=some v)∧(W1.cell? ⟨g,o0,none⟩=some v0∧W1.cell? ⟨g,o1,none⟩=some v1∧W1.cell? ⟨g,o2,none⟩=some v2∧W1.cell? ⟨g,o3,none⟩=some v3∧W1.cell? ⟨g,o4,none⟩=some v4∧W1.cell? ⟨g,o5,none⟩=some v5∧W1.cell? ⟨g,o6,none⟩=some v6)∧w.grownBy W1 none:=
 ⟨Kz g5 h.1,Ey g5 h.2.1,Aa h.2.2 g5⟩
theorem s13{w:World}{g o0 o1 o2 o3 o4 o5 o6 b:Nat}{u v x v0 v1 v2 v3 v4 v5 v6:Value}(h:(W.cell? ⟨b,1,none⟩=some u∧W.cell? ⟨b,6,none⟩=some v∧W.cell? ⟨b,5,none⟩=some x)∧(W.cell? ⟨g,o0,none⟩=some v0∧W.cell? ⟨g,o1,none⟩=some v1∧W.cell? ⟨g,o2,none⟩=some v2∧W.cell? ⟨g,o3,none⟩=some v3∧W.cell? ⟨g,o4,none⟩=some v4∧W.cell? ⟨g,o5,none⟩=some v5∧W.cell? ⟨g,o6,none⟩=some v6)∧w.grownBy W none):(W1.cell? ⟨b,1,none⟩=some u∧W1.cell? ⟨b,6,none⟩=some v∧W1.cell? ⟨b,5,none⟩=some x)∧(W1.cell? ⟨g,o0,none⟩=some v0∧W1.cell? ⟨g,o1,none⟩=some v1∧W1.cell? ⟨g,o2,none⟩=some v2∧W1.cell? ⟨g,o3,none⟩=some v3∧W1.cell? ⟨g,o4,none⟩=some v4∧W1.cell? ⟨g,o5,none⟩=some v5∧W1.cell? ⟨g,o6,none⟩=some v6)∧w.grownBy W1 none:=
 ⟨RZ g5 h.1,Ey g5 h.2.1,Aa h.2.2 g5⟩
theorem s22{w:World}{g o0 o1 o2 o3 o4 o5 o6 q0 q1 q2 q3 q4 q5 q6 b:Nat}{u v v0 v1 v2 v3 v4 v5 v6 r0 r1 r2 r3 r4 r5 r6:Value}(h:(W.cell? ⟨b,1,none⟩=some u∧W.cell? ⟨b,6,none⟩=some v)∧(W.cell? ⟨g,o0,none⟩=some v0∧W.cell? ⟨g,o1,none⟩=some v1∧W.cell? ⟨g,o2,none⟩=some v2∧W.cell? ⟨g,o3,none⟩=some v3∧W.cell? ⟨g,o4,none⟩=some v4∧W.cell? ⟨g,o5,none⟩=some v5∧W.cell? ⟨g,o6,none⟩=some v6)∧(W.cell? ⟨g,q0,none⟩=some r0∧W.cell? ⟨g,q1,none⟩=some r1∧W.cell? ⟨g,q2,none⟩=some r2∧W.cell? ⟨g,q3,none⟩=some r3∧W.cell? ⟨g,q4,none⟩=some r4∧W.cell? ⟨g,q5,none⟩=some r5∧W.cell? ⟨g,q6,none⟩=some r6)∧w.grownBy W none):(W1.cell? ⟨b,1,none⟩=some u∧W1.cell? ⟨b,6,none⟩=some v)∧(W1.cell? ⟨g,o0,none⟩=some v0∧W1.cell? ⟨g,o1,none⟩=some v1∧W1.cell? ⟨g,o2,none⟩=some v2∧W1.cell? ⟨g,o3,none⟩=some v3∧W1.cell? ⟨g,o4,none⟩=some v4∧W1.cell? ⟨g,o5,none⟩=some v5∧W1.cell? ⟨g,o6,none⟩=some v6)∧(W1.cell? ⟨g,q0,none⟩=some r0∧W1.cell? ⟨g,q1,none⟩=some r1∧W1.cell? ⟨g,q2,none⟩=some r2∧W1.cell? ⟨g,q3,none⟩=some r3∧W1.cell? ⟨g,q4,none⟩=some r4∧W1.cell? ⟨g,q5,none⟩=some r5∧W1.cell? ⟨g,q6,none⟩=some r6)∧w.grownBy W1 none:=
 ⟨Kz g5 h.1,Ey g5 h.2.1,Ey g5 h.2.2.1,Aa h.2.2.2 g5⟩
end
section
variable {w:World}{s vs:Bs}{p:List Bs}{vk vn:Int}{pa qa ra qa2 ra2:Option Addr}{pc pn lc qn qc rn rc qn2 qc2 rn2 rc2 g o:Nat}{t t2:Bs}{a a2:Hd}
theorem RQ(hs:s.length≤2000000)(hs2:a.s.length≤2000000)(ha:a.op=1)(hk:Kid w g o a (.slice qa qn qc) (.slice ra rn rc)):
 Calls Tryz.prog 35 #[exV ⟨2,s,vk,vn,vs,p⟩ (.slice pa pn pc) (.slice (some ⟨g,o,none⟩) 1 lc)] w fun e w'=>e= .returned (str (s++[45,62]++a.s))∧w.grownBy w' none:=by
 have hcl1:¬(9223372036854775807<s.length+2):=by omega
 have hcl2:¬(9223372036854775807<s.length+2+a.s.length):=by omega
 have hkl:=hk.1;obtain⟨k0,k1,k2,k3,k4,k5,k6⟩:=hk.c7;rw[ha]at k0;generalize a.s=s2 at*;clear hk ha k2 k3 k4 k5 k6;go_enter func35,ntmps35;go_wp2_with fail;go_quiet(fail);go_wp2;go_ret;exact⟨congrArg Ending.returned (BI (by simp[ByteArray.data_append])),gw⟩
theorem RR(hs:s.length≤2000000)(hl:t.length≤1000000000000000)(ha:a.op≠1)(hk:Kid w g o a (.slice qa qn qc) (.slice ra rn rc))(HT:∀W,w.grownBy W none→Calls Tryz.prog 35 #[exV a (.slice qa qn qc) (.slice ra rn rc)] W fun e w'=>e= .returned (str t)∧W.grownBy w' none):
 Calls Tryz.prog 35 #[exV ⟨2,s,vk,vn,vs,p⟩ (.slice pa pn pc) (.slice (some ⟨g,o,none⟩) 1 lc)] w fun e w'=>e= .returned (str (s++[45,62,40]++t++[41]))∧w.grownBy w' none:=by
 have H:=O HT;have c1:(a.op==1)=false:=by simpa using ha
 have hcl0:¬(9223372036854775807<s.length+3):=by omega
 have hcl1:¬(9223372036854775807<s.length+3+t.length):=by omega
 have hcl2:¬(9223372036854775807<s.length+3+t.length+1):=by omega
 have hb:=Blk.new w (hdC ⟨2,s,vk,vn,vs,p⟩ (.slice pa pn pc) (.slice (some ⟨g,o,none⟩) 1 lc)) 27;obtain⟨x_0,x_1,x_2,x_3,x_4,x_5,x_6,x_f⟩:=(hb).c7;have gA:=World.grownBy_alloc w (.cells (hdC ⟨2,s,vk,vn,vs,p⟩ (.slice pa pn pc) (.slice (some ⟨g,o,none⟩) 1 lc)).toArray 27 (0,0)) none;have hk7:=(hk.gb' gA).c7;have HX:=O (show(fun W=>(W.cell? ⟨w.heap.size,1,none⟩=some (str s)∧W.cell? ⟨w.heap.size,6,none⟩=some (.slice (some ⟨g,o,none⟩) 1 lc))∧(W.cell? ⟨g,o,none⟩=some (.int .i64 a.op)∧W.cell? ⟨g,o+1,none⟩=some (str a.s)∧W.cell? ⟨g,o+2,none⟩=some (.int .i64 a.vk)∧W.cell? ⟨g,o+3,none⟩=some (.int .i64 a.vn)∧W.cell? ⟨g,o+4,none⟩=some (str a.vs)∧W.cell? ⟨g,o+5,none⟩=some (.slice qa qn qc)∧W.cell? ⟨g,o+6,none⟩=some (.slice ra rn rc))∧w.grownBy W none) ((w.alloc (.cells (hdC ⟨2,s,vk,vn,vs,p⟩ (.slice pa pn pc) (.slice (some ⟨g,o,none⟩) 1 lc)).toArray 27 (0,0))).drew)from⟨⟨x_1,x_6⟩,hk7,Am gA⟩);have hkl:=hk.1;obtain⟨k0,k1,k2,k3,k4,k5,k6⟩:=hk.c7;clear HT ha hk hb hk7 gA x_0 x_1 x_2 x_3 x_4 x_5 x_6 x_f;go_enter func35,ntmps35;go_wp2_with fail;go_region_held3 (fun W=>(W.cell? ⟨w.heap.size,1,none⟩=some (str s)∧W.cell? ⟨w.heap.size,6,none⟩=some (.slice (some ⟨g,o,none⟩) 1 lc))∧(W.cell? ⟨g,o,none⟩=some (.int .i64 a.op)∧W.cell? ⟨g,o+1,none⟩=some (str a.s)∧W.cell? ⟨g,o+2,none⟩=some (.int .i64 a.vk)∧W.cell? ⟨g,o+3,none⟩=some (.int .i64 a.vn)∧W.cell? ⟨g,o+4,none⟩=some (str a.vs)∧W.cell? ⟨g,o+5,none⟩=some (.slice qa qn qc)∧W.cell? ⟨g,o+6,none⟩=some (.slice ra rn rc))∧w.grownBy W none)
  (first|exact HX.out|exact s12 g5 (by assumption))
  (first| (go_at_call 35;(with_reducible refine(H.out _ ?_).mono ?_);(simp[*]);rintro e w5 ⟨rfl,g5⟩))
 rename_i hH;have HG:=O hH.2.2;clear hH;go_wp2;go_ret;exact⟨congrArg Ending.returned (BI (by simp[ByteArray.data_append])),HG.out⟩
theorem RU(hs:s.length≤2000000)(hl:t.length≤1000000000000000)(hm:s≠[45])(hk:Kid w g o a (.slice qa qn qc) (.slice ra rn rc))(HT:∀W,w.grownBy W none→Calls Tryz.prog 60 #[exV a (.slice qa qn qc) (.slice ra rn rc)] W fun e w'=>e= .returned (str t)∧W.grownBy w' none):
 Calls Tryz.prog 35 #[exV ⟨4,s,vk,vn,vs,p⟩ (.slice pa pn pc) (.slice (some ⟨g,o,none⟩) 1 lc)] w fun e w'=>e= .returned (str (s++[32]++t))∧w.grownBy w' none:=by
 have H:=O HT;have c1:(s==[45])=false:=by simpa using hm
 have hcl0:¬(9223372036854775807<s.length+1):=by omega
 have hcl1:¬(9223372036854775807<s.length+1+t.length):=by omega
 have hb:=Blk.new w (hdC ⟨4,s,vk,vn,vs,p⟩ (.slice pa pn pc) (.slice (some ⟨g,o,none⟩) 1 lc)) 27;obtain⟨x_0,x_1,x_2,x_3,x_4,x_5,x_6,x_f⟩:=(hb).c7;have gA:=World.grownBy_alloc w (.cells (hdC ⟨4,s,vk,vn,vs,p⟩ (.slice pa pn pc) (.slice (some ⟨g,o,none⟩) 1 lc)).toArray 27 (0,0)) none;have hk7:=(hk.gb' gA).c7;have HX:=O (show(fun W=>(W.cell? ⟨w.heap.size,1,none⟩=some (str s)∧W.cell? ⟨w.heap.size,6,none⟩=some (.slice (some ⟨g,o,none⟩) 1 lc))∧(W.cell? ⟨g,o,none⟩=some (.int .i64 a.op)∧W.cell? ⟨g,o+1,none⟩=some (str a.s)∧W.cell? ⟨g,o+2,none⟩=some (.int .i64 a.vk)∧W.cell? ⟨g,o+3,none⟩=some (.int .i64 a.vn)∧W.cell? ⟨g,o+4,none⟩=some (str a.vs)∧W.cell? ⟨g,o+5,none⟩=some (.slice qa qn qc)∧W.cell? ⟨g,o+6,none⟩=some (.slice ra rn rc))∧w.grownBy W none) ((w.alloc (.cells (hdC ⟨4,s,vk,vn,vs,p⟩ (.slice pa pn pc) (.slice (some ⟨g,o,none⟩) 1 lc)).toArray 27 (0,0))).drew)from⟨⟨x_1,x_6⟩,hk7,Am gA⟩);have hkl:=hk.1;clear HT hm hk hb hk7 gA x_0 x_1 x_2 x_3 x_4 x_5 x_6 x_f;go_enter func35,ntmps35;go_wp2_with fail;go_region_held3 (fun W=>(W.cell? ⟨w.heap.size,1,none⟩=some (str s)∧W.cell? ⟨w.heap.size,6,none⟩=some (.slice (some ⟨g,o,none⟩) 1 lc))∧(W.cell? ⟨g,o,none⟩=some (.int .i64 a.op)∧W.cell? ⟨g,o+1,none⟩=some (str a.s)∧W.cell? ⟨g,o+2,none⟩=some (.int .i64 a.vk)∧W.cell? ⟨g,o+3,none⟩=some (.int .i64 a.vn)∧W.cell? ⟨g,o+4,none⟩=some (str a.vs)∧W.cell? ⟨g,o+5,none⟩=some (.slice qa qn qc)∧W.cell? ⟨g,o+6,none⟩=some (.slice ra rn rc))∧w.grownBy W none)
  (first|exact HX.out|exact s12 g5 (by assumption))
  (first| (go_at_call 60;(with_reducible refine(H.out _ ?_).mono ?_);(simp[*]);rintro e w5 ⟨rfl,g5⟩))
 rename_i hH;have HG:=O hH.2.2;clear hH;go_wp2;go_ret;exact⟨congrArg Ending.returned (BI (by simp[ByteArray.data_append])),HG.out⟩
theorem Tl(hs:s.length≤2000000)(hl:t.length≤1000000000000000)(hl2:t2.length≤1000000000000000)(hk:Kid w g o a (.slice qa qn qc) (.slice ra rn rc))(hk2:Kid w g (o+7) a2 (.slice qa2 qn2 qc2) (.slice ra2 rn2 rc2))(HT:∀W,w.grownBy W none→Calls Tryz.prog 60 #[exV a (.slice qa qn qc) (.slice ra rn rc)] W fun e w'=>e= .returned (str t)∧W.grownBy w' none)(HT2:∀W,w.grownBy W none→Calls Tryz.prog 60 #[exV a2 (.slice qa2 qn2 qc2) (.slice ra2 rn2 rc2)] W fun e w'=>e= .returned (str t2)∧W.grownBy w' none):
 Calls Tryz.prog 35 #[exV ⟨5,s,vk,vn,vs,p⟩ (.slice pa pn pc) (.slice (some ⟨g,o,none⟩) 2 lc)] w fun e w'=>e= .returned (str (t++[32]++s++[32]++t2))∧w.grownBy w' none:=by
 have H:=O HT;have H2:=O HT2;have hcl0:¬(9223372036854775807<t.length+1):=by omega
 have hcl1:¬(9223372036854775807<t.length+1+s.length):=by omega
 have hcl2:¬(9223372036854775807<t.length+1+s.length+1):=by omega
 have hcl3:¬(9223372036854775807<t.length+1+s.length+1+t2.length):=by omega
 have hb:=Blk.new w (hdC ⟨5,s,vk,vn,vs,p⟩ (.slice pa pn pc) (.slice (some ⟨g,o,none⟩) 2 lc)) 27;obtain⟨x_0,x_1,x_2,x_3,x_4,x_5,x_6,x_f⟩:=(hb).c7;have gA:=World.grownBy_alloc w (.cells (hdC ⟨5,s,vk,vn,vs,p⟩ (.slice pa pn pc) (.slice (some ⟨g,o,none⟩) 2 lc)).toArray 27 (0,0)) none;have hk7:=(hk.gb' gA).c7;have hk72:=(hk2.gb' gA).c7;have HX:=O (show(fun W=>(W.cell? ⟨w.heap.size,1,none⟩=some (str s)∧W.cell? ⟨w.heap.size,6,none⟩=some (.slice (some ⟨g,o,none⟩) 2 lc))∧(W.cell? ⟨g,o,none⟩=some (.int .i64 a.op)∧W.cell? ⟨g,o+1,none⟩=some (str a.s)∧W.cell? ⟨g,o+2,none⟩=some (.int .i64 a.vk)∧W.cell? ⟨g,o+3,none⟩=some (.int .i64 a.vn)∧W.cell? ⟨g,o+4,none⟩=some (str a.vs)∧W.cell? ⟨g,o+5,none⟩=some (.slice qa qn qc)∧W.cell? ⟨g,o+6,none⟩=some (.slice ra rn rc))∧(W.cell? ⟨g,o+7,none⟩=some (.int .i64 a2.op)∧W.cell? ⟨g,o+8,none⟩=some (str a2.s)∧W.cell? ⟨g,o+9,none⟩=some (.int .i64 a2.vk)∧W.cell? ⟨g,o+10,none⟩=some (.int .i64 a2.vn)∧W.cell? ⟨g,o+11,none⟩=some (str a2.vs)∧W.cell? ⟨g,o+12,none⟩=some (.slice qa2 qn2 qc2)∧W.cell? ⟨g,o+13,none⟩=some (.slice ra2 rn2 rc2))∧w.grownBy W none) ((w.alloc (.cells (hdC ⟨5,s,vk,vn,vs,p⟩ (.slice pa pn pc) (.slice (some ⟨g,o,none⟩) 2 lc)).toArray 27 (0,0))).drew)from⟨⟨x_1,x_6⟩,hk7,hk72,Am gA⟩);have hkl:=hk.1;clear HT HT2 hk hk2 hb hk7 hk72 gA x_0 x_1 x_2 x_3 x_4 x_5 x_6 x_f;go_enter func35,ntmps35;go_wp2_with fail
 go_region_held3 (fun W=>(W.cell? ⟨w.heap.size,1,none⟩=some (str s)∧W.cell? ⟨w.heap.size,6,none⟩=some (.slice (some ⟨g,o,none⟩) 2 lc))∧(W.cell? ⟨g,o,none⟩=some (.int .i64 a.op)∧W.cell? ⟨g,o+1,none⟩=some (str a.s)∧W.cell? ⟨g,o+2,none⟩=some (.int .i64 a.vk)∧W.cell? ⟨g,o+3,none⟩=some (.int .i64 a.vn)∧W.cell? ⟨g,o+4,none⟩=some (str a.vs)∧W.cell? ⟨g,o+5,none⟩=some (.slice qa qn qc)∧W.cell? ⟨g,o+6,none⟩=some (.slice ra rn rc))∧(W.cell? ⟨g,o+7,none⟩=some (.int .i64 a2.op)∧W.cell? ⟨g,o+8,none⟩=some (str a2.s)∧W.cell? ⟨g,o+9,none⟩=some (.int .i64 a2.vk)∧W.cell? ⟨g,o+10,none⟩=some (.int .i64 a2.vn)∧W.cell? ⟨g,o+11,none⟩=some (str a2.vs)∧W.cell? ⟨g,o+12,none⟩=some (.slice qa2 qn2 qc2)∧W.cell? ⟨g,o+13,none⟩=some (.slice ra2 rn2 rc2))∧w.grownBy W none)
  (first|exact HX.out|exact s22 g5 (by assumption))
  (first| (go_at_call 60;(with_reducible refine(H.out _ ?_).mono ?_);(simp[*]);rintro e w5 ⟨rfl,g5⟩)| (go_at_call 60;(with_reducible refine(H2.out _ ?_).mono ?_);(simp[*]);rintro e w5 ⟨rfl,g5⟩))
 rename_i hH;have HG:=O hH.2.2.2;clear hH;go_wp2;go_ret;exact⟨congrArg Ending.returned (BI (by simp[ByteArray.data_append])),HG.out⟩
theorem Tm(hs:s.length≤2000000)(hl:t.length≤1000000000000000)(hl2:t2.length≤1000000000000000)(hk:Kid w g o a (.slice qa qn qc) (.slice ra rn rc))(hk2:Kid w g (o+7) a2 (.slice qa2 qn2 qc2) (.slice ra2 rn2 rc2))(HT:∀W,w.grownBy W none→Calls Tryz.prog 60 #[exV a (.slice qa qn qc) (.slice ra rn rc)] W fun e w'=>e= .returned (str t)∧W.grownBy w' none)(HT2:∀W,w.grownBy W none→Calls Tryz.prog 35 #[exV a2 (.slice qa2 qn2 qc2) (.slice ra2 rn2 rc2)] W fun e w'=>e= .returned (str t2)∧W.grownBy w' none):
 Calls Tryz.prog 35 #[exV ⟨6,s,vk,vn,vs,p⟩ (.slice pa pn pc) (.slice (some ⟨g,o,none⟩) 2 lc)] w fun e w'=>e= .returned (str (t++[91]++t2++[93]))∧w.grownBy w' none:=by
 have H:=O HT;have H2:=O HT2;have hcl0:¬(9223372036854775807<t.length+1):=by omega
 have hcl1:¬(9223372036854775807<t.length+1+t2.length):=by omega
 have hcl2:¬(9223372036854775807<t.length+1+t2.length+1):=by omega
 have hb:=Blk.new w (hdC ⟨6,s,vk,vn,vs,p⟩ (.slice pa pn pc) (.slice (some ⟨g,o,none⟩) 2 lc)) 27;obtain⟨x_0,x_1,x_2,x_3,x_4,x_5,x_6,x_f⟩:=(hb).c7;have gA:=World.grownBy_alloc w (.cells (hdC ⟨6,s,vk,vn,vs,p⟩ (.slice pa pn pc) (.slice (some ⟨g,o,none⟩) 2 lc)).toArray 27 (0,0)) none;have hk7:=(hk.gb' gA).c7;have hk72:=(hk2.gb' gA).c7;have HX:=O (show(fun W=>(W.cell? ⟨w.heap.size,1,none⟩=some (str s)∧W.cell? ⟨w.heap.size,6,none⟩=some (.slice (some ⟨g,o,none⟩) 2 lc))∧(W.cell? ⟨g,o,none⟩=some (.int .i64 a.op)∧W.cell? ⟨g,o+1,none⟩=some (str a.s)∧W.cell? ⟨g,o+2,none⟩=some (.int .i64 a.vk)∧W.cell? ⟨g,o+3,none⟩=some (.int .i64 a.vn)∧W.cell? ⟨g,o+4,none⟩=some (str a.vs)∧W.cell? ⟨g,o+5,none⟩=some (.slice qa qn qc)∧W.cell? ⟨g,o+6,none⟩=some (.slice ra rn rc))∧(W.cell? ⟨g,o+7,none⟩=some (.int .i64 a2.op)∧W.cell? ⟨g,o+8,none⟩=some (str a2.s)∧W.cell? ⟨g,o+9,none⟩=some (.int .i64 a2.vk)∧W.cell? ⟨g,o+10,none⟩=some (.int .i64 a2.vn)∧W.cell? ⟨g,o+11,none⟩=some (str a2.vs)∧W.cell? ⟨g,o+12,none⟩=some (.slice qa2 qn2 qc2)∧W.cell? ⟨g,o+13,none⟩=some (.slice ra2 rn2 rc2))∧w.grownBy W none) ((w.alloc (.cells (hdC ⟨6,s,vk,vn,vs,p⟩ (.slice pa pn pc) (.slice (some ⟨g,o,none⟩) 2 lc)).toArray 27 (0,0))).drew)from⟨⟨x_1,x_6⟩,hk7,hk72,Am gA⟩);have hkl:=hk.1;clear HT HT2 hk hk2 hb hk7 hk72 gA x_0 x_1 x_2 x_3 x_4 x_5 x_6 x_f;go_enter func35,ntmps35;go_wp2_with fail
 go_region_held3 (fun W=>(W.cell? ⟨w.heap.size,1,none⟩=some (str s)∧W.cell? ⟨w.heap.size,6,none⟩=some (.slice (some ⟨g,o,none⟩) 2 lc))∧(W.cell? ⟨g,o,none⟩=some (.int .i64 a.op)∧W.cell? ⟨g,o+1,none⟩=some (str a.s)∧W.cell? ⟨g,o+2,none⟩=some (.int .i64 a.vk)∧W.cell? ⟨g,o+3,none⟩=some (.int .i64 a.vn)∧W.cell? ⟨g,o+4,none⟩=some (str a.vs)∧W.cell? ⟨g,o+5,none⟩=some (.slice qa qn qc)∧W.cell? ⟨g,o+6,none⟩=some (.slice ra rn rc))∧(W.cell? ⟨g,o+7,none⟩=some (.int .i64 a2.op)∧W.cell? ⟨g,o+8,none⟩=some (str a2.s)∧W.cell? ⟨g,o+9,none⟩=some (.int .i64 a2.vk)∧W.cell? ⟨g,o+10,none⟩=some (.int .i64 a2.vn)∧W.cell? ⟨g,o+11,none⟩=some (str a2.vs)∧W.cell? ⟨g,o+12,none⟩=some (.slice qa2 qn2 qc2)∧W.cell? ⟨g,o+13,none⟩=some (.slice ra2 rn2 rc2))∧w.grownBy W none)
  (first|exact HX.out|exact s22 g5 (by assumption))
  (first| (go_at_call 60;(with_reducible refine(H.out _ ?_).mono ?_);(simp[*]);rintro e w5 ⟨rfl,g5⟩)| (go_at_call 35;(with_reducible refine(H2.out _ ?_).mono ?_);(simp[*]);rintro e w5 ⟨rfl,g5⟩))
 rename_i hH;have HG:=O hH.2.2.2;clear hH;go_wp2;go_ret;exact⟨congrArg Ending.returned (BI (by simp[ByteArray.data_append])),HG.out⟩
theorem To(hs:s.length≤2000000)(hl:t.length≤1000000000000000)(hl2:t2.length≤1000000000000000)(hk:Kid w g o a (.slice qa qn qc) (.slice ra rn rc))(HT:∀W,w.grownBy W none→Calls Tryz.prog 35 #[exV a (.slice qa qn qc) (.slice ra rn rc)] W fun e w'=>e= .returned (str t)∧W.grownBy w' none) (HJ:∀W,w.grownBy W none→Calls Tryz.prog 61 #[.slice pa pn pc,str [44,32]] W fun e w'=>e= .returned (str t2)∧W.grownBy w' none):
 Calls Tryz.prog 35 #[exV ⟨8,s,vk,vn,vs,p⟩ (.slice pa pn pc) (.slice (some ⟨g,o,none⟩) 1 lc)] w fun e w'=>e= .returned (str ([123,124]++t2++[124,32]++t++[125]))∧w.grownBy w' none:=by
 have H:=O HT;have H2:=O HJ;have hcl0:¬(9223372036854775807<2+t2.length):=by omega
 have hcl1:¬(9223372036854775807<2+t2.length+2):=by omega
 have hcl2:¬(9223372036854775807<2+t2.length+2+t.length):=by omega
 have hcl3:¬(9223372036854775807<2+t2.length+2+t.length+1):=by omega
 have hb:=Blk.new w (hdC ⟨8,s,vk,vn,vs,p⟩ (.slice pa pn pc) (.slice (some ⟨g,o,none⟩) 1 lc)) 27;obtain⟨x_0,x_1,x_2,x_3,x_4,x_5,x_6,x_f⟩:=(hb).c7;have gA:=World.grownBy_alloc w (.cells (hdC ⟨8,s,vk,vn,vs,p⟩ (.slice pa pn pc) (.slice (some ⟨g,o,none⟩) 1 lc)).toArray 27 (0,0)) none;have hk7:=(hk.gb' gA).c7;have HX:=O (show(fun W=>(W.cell? ⟨w.heap.size,1,none⟩=some (str s)∧W.cell? ⟨w.heap.size,6,none⟩=some (.slice (some ⟨g,o,none⟩) 1 lc)∧W.cell? ⟨w.heap.size,5,none⟩=some (.slice pa pn pc))∧(W.cell? ⟨g,o,none⟩=some (.int .i64 a.op)∧W.cell? ⟨g,o+1,none⟩=some (str a.s)∧W.cell? ⟨g,o+2,none⟩=some (.int .i64 a.vk)∧W.cell? ⟨g,o+3,none⟩=some (.int .i64 a.vn)∧W.cell? ⟨g,o+4,none⟩=some (str a.vs)∧W.cell? ⟨g,o+5,none⟩=some (.slice qa qn qc)∧W.cell? ⟨g,o+6,none⟩=some (.slice ra rn rc))∧w.grownBy W none) ((w.alloc (.cells (hdC ⟨8,s,vk,vn,vs,p⟩ (.slice pa pn pc) (.slice (some ⟨g,o,none⟩) 1 lc)).toArray 27 (0,0))).drew)from⟨⟨x_1,x_6,x_5⟩,hk7,Am gA⟩);have hkl:=hk.1;clear HT HJ hk hb hk7 gA x_0 x_1 x_2 x_3 x_4 x_5 x_6 x_f;go_enter func35,ntmps35;go_wp2_with fail
 go_region_held3 (fun W=>(W.cell? ⟨w.heap.size,1,none⟩=some (str s)∧W.cell? ⟨w.heap.size,6,none⟩=some (.slice (some ⟨g,o,none⟩) 1 lc)∧W.cell? ⟨w.heap.size,5,none⟩=some (.slice pa pn pc))∧(W.cell? ⟨g,o,none⟩=some (.int .i64 a.op)∧W.cell? ⟨g,o+1,none⟩=some (str a.s)∧W.cell? ⟨g,o+2,none⟩=some (.int .i64 a.vk)∧W.cell? ⟨g,o+3,none⟩=some (.int .i64 a.vn)∧W.cell? ⟨g,o+4,none⟩=some (str a.vs)∧W.cell? ⟨g,o+5,none⟩=some (.slice qa qn qc)∧W.cell? ⟨g,o+6,none⟩=some (.slice ra rn rc))∧w.grownBy W none)
  (first|exact HX.out|exact s13 g5 (by assumption))
  (first| (go_at_call 35;(with_reducible refine(H.out _ ?_).mono ?_);(simp[*]);rintro e w5 ⟨rfl,g5⟩)| (go_at_call 61;(with_reducible refine(H2.out _ ?_).mono ?_);(simp[*]);rintro e w5 ⟨rfl,g5⟩))
 rename_i hH;have HG:=O hH.2.2;clear hH;go_wp2;go_ret;exact⟨congrArg Ending.returned (BI (by simp[ByteArray.data_append])),HG.out⟩
theorem RT(hl:t.length≤1000000000000000)(hk:Kid w g o a (.slice qa qn qc) (.slice ra rn rc))(HT:∀W,w.grownBy W none→Calls Tryz.prog 60 #[exV a (.slice qa qn qc) (.slice ra rn rc)] W fun e w'=>e= .returned (str t)∧W.grownBy w' none):
 Calls Tryz.prog 35 #[exV ⟨4,[45],vk,vn,vs,p⟩ (.slice pa pn pc) (.slice (some ⟨g,o,none⟩) 1 lc)] w fun e w'=>e= .returned (str ([45]++t))∧w.grownBy w' none:=by
 have H:=O HT;have hcl0:¬(9223372036854775807<1+t.length):=by omega
 have hkl:=hk.1;obtain⟨k0,k1,k2,k3,k4,k5,k6⟩:=hk.c7;clear hk HT;go_enter func35,ntmps35;go_wp2_with fail;refine(H.out _ ?gg).mono ?_
 case gg=>exact gw
 rintro e w1 ⟨rfl,g1⟩;have HG:=O (Aa (Ad (Ac w none) _) g1);clear g1;go_wp2;go_ret;exact⟨congrArg Ending.returned (BI (by simp[ByteArray.data_append])),HG.out⟩
theorem RW(hl:t.length≤1000000000000000)(hk:Kid w g o a (.slice qa qn qc) (.slice ra rn rc))(HT:∀W,w.grownBy W none→Calls Tryz.prog 35 #[exV a (.slice qa qn qc) (.slice ra rn rc)] W fun e w'=>e= .returned (str t)∧W.grownBy w' none):
 Calls Tryz.prog 35 #[exV ⟨9,[],vk,vn,vs,p⟩ (.slice pa pn pc) (.slice (some ⟨g,o,none⟩) 1 lc)] w fun e w'=>e= .returned (str ([38,40]++t++[41]))∧w.grownBy w' none:=by
 have H:=O HT;have hcl0:¬(9223372036854775807<2+t.length):=by omega
 have hcl1:¬(9223372036854775807<2+t.length+1):=by omega
 have hkl:=hk.1;obtain⟨k0,k1,k2,k3,k4,k5,k6⟩:=hk.c7;clear hk HT;go_enter func35,ntmps35;go_wp2_with fail;refine(H.out _ ?gg).mono ?_
 case gg=>exact gw
 rintro e w1 ⟨rfl,g1⟩;have HG:=O (Aa (Ad (Ac w none) _) g1);clear g1;go_wp2;go_ret;exact⟨congrArg Ending.returned (BI (by simp[ByteArray.data_append])),HG.out⟩
end
end Go.Proofs.YtgjdhajcnechdaaGreatDoor
