/-
  text: one node, kind by kind (2): operands are read and written. text, sized, ExprText.
-/
import Derived.Test.YtgjdhajcnechdaaGreatDoorSb20
set_option linter.all false
set_option maxRecDepth 100000
set_option maxHeartbeats 8000000
namespace Go.Proofs.YtgjdhajcnechdaaGreatDoor
open Go.Proofs.Tryz
open Go.RowKit
def Kid(w:World)(g o:Nat)(a:Hd)(pv lv:Value):Prop:=g<w.heap.size∧∀i u,(hdC a pv lv)[i]? =some u→w.cell? ⟨g,o+i,none⟩=some u
theorem Kid.c7{w:World}{g o:Nat}{a:Hd}{pv lv:Value}(h:Kid w g o a pv lv):w.cell? ⟨g,o,none⟩=some (.int .i64 a.op)∧w.cell? ⟨g,o+1,none⟩=some (str a.s)∧w.cell? ⟨g,o+2,none⟩=some (.int .i64 a.vk)∧w.cell? ⟨g,o+3,none⟩=some (.int .i64 a.vn)∧w.cell? ⟨g,o+4,none⟩=some (str a.vs)∧w.cell? ⟨g,o+5,none⟩=some pv∧w.cell? ⟨g,o+6,none⟩=some lv:=
 ⟨h.2 0 _ rfl,h.2 1 _ rfl,h.2 2 _ rfl,h.2 3 _ rfl,h.2 4 _ rfl,h.2 5 _ rfl,h.2 6 _ rfl⟩
theorem Nb{w W W1:World}{b:Nat}{u v:Value}(h:W.cell? ⟨b,1,none⟩=some u∧W.cell? ⟨b,6,none⟩=some v∧w.grownBy W none)(g:W.grownBy W1 none):W1.cell? ⟨b,1,none⟩=some u∧W1.cell? ⟨b,6,none⟩=some v∧w.grownBy W1 none:=
 ⟨Ab g h.1,Ab g h.2.1,O h.2.2 g⟩
section
variable {w:World}{s vs:Bs}{p:List Bs}{vk vn:Int}{pa la:Option Addr}{pc pn n lc:Nat}{t:Bs}
theorem NE(hs:s.length≤2000000)(hl:t.length≤1000000000000000)(HC:∀W,w.grownBy W none→Calls Tryz.prog 59 #[.slice la n lc] W fun e w'=>e= .returned (str t)∧W.grownBy w' none):
 Calls Tryz.prog 35 #[exV ⟨3,s,vk,vn,vs,p⟩ (.slice pa pn pc) (.slice la n lc)] w fun e w'=>e= .returned (str (s++[40]++t++[41]))∧w.grownBy w' none:=by
 have H:=I HC;have hcl1:¬(9223372036854775807<s.length+1):=by omega
 have hcl2:¬(9223372036854775807<s.length+1+t.length):=by omega
 have hcl3:¬(9223372036854775807<s.length+1+t.length+1):=by omega
 have hb:=Blk.new w (hdC ⟨3,s,vk,vn,vs,p⟩ (.slice pa pn pc) (.slice la n lc)) 27;obtain⟨x_0,x_1,x_2,x_3,x_4,x_5,x_6,x_f⟩:=(hb).c7;have HX:=I (X x_1 (X x_6 (Aj (Aa (Ac w none) (.cells (hdC ⟨3,s,vk,vn,vs,p⟩ (.slice pa pn pc) (.slice la n lc)).toArray 27 (0,0))))));clear HC hb x_0 x_1 x_2 x_3 x_4 x_5 x_6 x_f;go_enter func35,ntmps35;go_wp2_with fail;go_region_held3 (fun W=>W.cell? ⟨w.heap.size,1,none⟩=some (str s)∧W.cell? ⟨w.heap.size,6,none⟩=some (.slice la n lc)∧w.grownBy W none)
  (first|exact HX.out|exact Nb (by assumption) g5)
  (first| (go_at_call 59;refine(H.out _ ?_).mono ?_;(simp[*]);rintro e w5 ⟨rfl,g5⟩))
 rename_i hH;have HG:=I hH.2.2;clear hH;go_wp2;go_ret;exact⟨congrArg Ending.returned (BA (by simp[ByteArray.data_append])),HG.out⟩
end
section
variable {W W1:World}(g5:W.grownBy W1 none)
include g5
theorem Kid.gb'{g o:Nat}{a:Hd}{pv lv:Value}(h:Kid W g o a pv lv):Kid W1 g o a pv lv:=⟨Nat.lt_of_lt_of_le h.1 g5.size,fun i u hu=>Ab g5 (h.2 i u hu)⟩
theorem GR{b:Nat}{u v:Value}(h:W.cell? ⟨b,1,none⟩=some u∧W.cell? ⟨b,6,none⟩=some v):W1.cell? ⟨b,1,none⟩=some u∧W1.cell? ⟨b,6,none⟩=some v:=⟨Ab g5 h.1,Ab g5 h.2⟩
theorem Na{b:Nat}{u v x:Value}(h:W.cell? ⟨b,1,none⟩=some u∧W.cell? ⟨b,6,none⟩=some v∧W.cell? ⟨b,5,none⟩=some x):W1.cell? ⟨b,1,none⟩=some u∧W1.cell? ⟨b,6,none⟩=some v∧W1.cell? ⟨b,5,none⟩=some x:=⟨Ab g5 h.1,Ab g5 h.2.1,Ab g5 h.2.2⟩
theorem Ec{g o0 o1 o2 o3 o4 o5 o6:Nat}{v0 v1 v2 v3 v4 v5 v6:Value}(h:W.cell? ⟨g,o0,none⟩=some v0∧W.cell? ⟨g,o1,none⟩=some v1∧W.cell? ⟨g,o2,none⟩=some v2∧W.cell? ⟨g,o3,none⟩=some v3∧W.cell? ⟨g,o4,none⟩=some v4∧W.cell? ⟨g,o5,none⟩=some v5∧W.cell? ⟨g,o6,none⟩=some v6):
 W1.cell? ⟨g,o0,none⟩=some v0∧W1.cell? ⟨g,o1,none⟩=some v1∧W1.cell? ⟨g,o2,none⟩=some v2∧W1.cell? ⟨g,o3,none⟩=some v3∧W1.cell? ⟨g,o4,none⟩=some v4∧W1.cell? ⟨g,o5,none⟩=some v5∧W1.cell? ⟨g,o6,none⟩=some v6:=
 ⟨Ab g5 h.1,Ab g5 h.2.1,Ab g5 h.2.2.1,Ab g5 h.2.2.2.1,Ab g5 h.2.2.2.2.1,Ab g5 h.2.2.2.2.2.1,Ab g5 h.2.2.2.2.2.2⟩
theorem s12{w:World}{g o0 o1 o2 o3 o4 o5 o6 b:Nat}{u v v0 v1 v2 v3 v4 v5 v6:Value}(h:(W.cell? ⟨b,1,none⟩=some u∧W.cell? ⟨b,6,none⟩=some v)∧(W.cell? ⟨g,o0,none⟩=some v0∧W.cell? ⟨g,o1,none⟩=some v1∧W.cell? ⟨g,o2,none⟩=some v2∧W.cell? ⟨g,o3,none⟩=some v3∧W.cell? ⟨g,o4,none⟩=some v4∧W.cell? ⟨g,o5,none⟩=some v5∧W.cell? ⟨g,o6,none⟩=some v6)∧w.grownBy W none):(W1.cell? ⟨b,1,none⟩=some u∧W1.cell? ⟨b,6,none⟩=some v)∧(W1.cell? ⟨g,o0,none⟩=some v0∧W1.cell? ⟨g,o1,none⟩=some v1∧W1.cell? ⟨g,o2,none⟩=some v2∧W1.cell? ⟨g,o3,none⟩=some v3∧W1.cell? ⟨g,o4,none⟩=some v4∧W1.cell? ⟨g,o5,none⟩=some v5∧W1.cell? ⟨g,o6,none⟩=some v6)∧w.grownBy W1 none:=
 ⟨GR g5 h.1,Ec g5 h.2.1,O h.2.2 g5⟩
theorem s13{w:World}{g o0 o1 o2 o3 o4 o5 o6 b:Nat}{u v x v0 v1 v2 v3 v4 v5 v6:Value}(h:(W.cell? ⟨b,1,none⟩=some u∧W.cell? ⟨b,6,none⟩=some v∧W.cell? ⟨b,5,none⟩=some x)∧(W.cell? ⟨g,o0,none⟩=some v0∧W.cell? ⟨g,o1,none⟩=some v1∧W.cell? ⟨g,o2,none⟩=some v2∧W.cell? ⟨g,o3,none⟩=some v3∧W.cell? ⟨g,o4,none⟩=some v4∧W.cell? ⟨g,o5,none⟩=some v5∧W.cell? ⟨g,o6,none⟩=some v6)∧w.grownBy W none):(W1.cell? ⟨b,1,none⟩=some u∧W1.cell? ⟨b,6,none⟩=some v∧W1.cell? ⟨b,5,none⟩=some x)∧(W1.cell? ⟨g,o0,none⟩=some v0∧W1.cell? ⟨g,o1,none⟩=some v1∧W1.cell? ⟨g,o2,none⟩=some v2∧W1.cell? ⟨g,o3,none⟩=some v3∧W1.cell? ⟨g,o4,none⟩=some v4∧W1.cell? ⟨g,o5,none⟩=some v5∧W1.cell? ⟨g,o6,none⟩=some v6)∧w.grownBy W1 none:=
 ⟨Na g5 h.1,Ec g5 h.2.1,O h.2.2 g5⟩
theorem s22{w:World}{g o0 o1 o2 o3 o4 o5 o6 q0 q1 q2 q3 q4 q5 q6 b:Nat}{u v v0 v1 v2 v3 v4 v5 v6 r0 r1 r2 r3 r4 r5 r6:Value}(h:(W.cell? ⟨b,1,none⟩=some u∧W.cell? ⟨b,6,none⟩=some v)∧(W.cell? ⟨g,o0,none⟩=some v0∧W.cell? ⟨g,o1,none⟩=some v1∧W.cell? ⟨g,o2,none⟩=some v2∧W.cell? ⟨g,o3,none⟩=some v3∧W.cell? ⟨g,o4,none⟩=some v4∧W.cell? ⟨g,o5,none⟩=some v5∧W.cell? ⟨g,o6,none⟩=some v6)∧(W.cell? ⟨g,q0,none⟩=some r0∧W.cell? ⟨g,q1,none⟩=some r1∧W.cell? ⟨g,q2,none⟩=some r2∧W.cell? ⟨g,q3,none⟩=some r3∧W.cell? ⟨g,q4,none⟩=some r4∧W.cell? ⟨g,q5,none⟩=some r5∧W.cell? ⟨g,q6,none⟩=some r6)∧w.grownBy W none):(W1.cell? ⟨b,1,none⟩=some u∧W1.cell? ⟨b,6,none⟩=some v)∧(W1.cell? ⟨g,o0,none⟩=some v0∧W1.cell? ⟨g,o1,none⟩=some v1∧W1.cell? ⟨g,o2,none⟩=some v2∧W1.cell? ⟨g,o3,none⟩=some v3∧W1.cell? ⟨g,o4,none⟩=some v4∧W1.cell? ⟨g,o5,none⟩=some v5∧W1.cell? ⟨g,o6,none⟩=some v6)∧(W1.cell? ⟨g,q0,none⟩=some r0∧W1.cell? ⟨g,q1,none⟩=some r1∧W1.cell? ⟨g,q2,none⟩=some r2∧W1.cell? ⟨g,q3,none⟩=some r3∧W1.cell? ⟨g,q4,none⟩=some r4∧W1.cell? ⟨g,q5,none⟩=some r5∧W1.cell? ⟨g,q6,none⟩=some r6)∧w.grownBy W1 none:=
 ⟨GR g5 h.1,Ec g5 h.2.1,Ec g5 h.2.2.1,O h.2.2.2 g5⟩
end
section
variable {w:World}{s vs:Bs}{p:List Bs}{vk vn:Int}{pa qa ra qa2 ra2:Option Addr}{pc pn lc qn qc rn rc qn2 qc2 rn2 rc2 g o:Nat}{t t2:Bs}{a a2:Hd}
theorem MT(hs:s.length≤2000000)(hs2:a.s.length≤2000000)(ha:a.op=1)(hk:Kid w g o a (.slice qa qn qc) (.slice ra rn rc)):
 Calls Tryz.prog 35 #[exV ⟨2,s,vk,vn,vs,p⟩ (.slice pa pn pc) (.slice (some ⟨g,o,none⟩) 1 lc)] w fun e w'=>e= .returned (str (s++[45,62]++a.s))∧w.grownBy w' none:=by
 have hcl1:¬(9223372036854775807<s.length+2):=by omega
 have hcl2:¬(9223372036854775807<s.length+2+a.s.length):=by omega
 have hkl:=hk.1;obtain⟨k0,k1,k2,k3,k4,k5,k6⟩:=hk.c7;rw[ha]at k0;generalize a.s=s2 at*;clear hk ha k2 k3 k4 k5 k6;go_enter func35,ntmps35;go_wp2_with fail;go_quiet(fail);go_wp2;go_ret;exact⟨congrArg Ending.returned (BA (by simp[ByteArray.data_append])),(by repeat(first| (with_reducible exact Ac _ _)| (with_reducible assumption)| (with_reducible exact AW (by assumption))| (with_reducible refine Aa ?_ _)| (with_reducible refine Aj ?_)| (with_reducible refine AH ?_ _)| ((with_reducible refine Ax ?_ _ _ ?h2);case h2=>first|exact .inl rfl|exact .inr (Nat.le_refl _)|exact .inr (by simp<;>omega))| (with_reducible refine Ae ?_ (by assumption))| (with_reducible refine O ?_ (by assumption))))⟩
theorem MU(hs:s.length≤2000000)(hl:t.length≤1000000000000000)(ha:a.op≠1)(hk:Kid w g o a (.slice qa qn qc) (.slice ra rn rc))(HT:∀W,w.grownBy W none→Calls Tryz.prog 35 #[exV a (.slice qa qn qc) (.slice ra rn rc)] W fun e w'=>e= .returned (str t)∧W.grownBy w' none):
 Calls Tryz.prog 35 #[exV ⟨2,s,vk,vn,vs,p⟩ (.slice pa pn pc) (.slice (some ⟨g,o,none⟩) 1 lc)] w fun e w'=>e= .returned (str (s++[45,62,40]++t++[41]))∧w.grownBy w' none:=by
 have H:=I HT;have c1:(a.op==1)=false:=by simpa using ha
 have hcl0:¬(9223372036854775807<s.length+3):=by omega
 have hcl1:¬(9223372036854775807<s.length+3+t.length):=by omega
 have hcl2:¬(9223372036854775807<s.length+3+t.length+1):=by omega
 have hb:=Blk.new w (hdC ⟨2,s,vk,vn,vs,p⟩ (.slice pa pn pc) (.slice (some ⟨g,o,none⟩) 1 lc)) 27;obtain⟨x_0,x_1,x_2,x_3,x_4,x_5,x_6,x_f⟩:=(hb).c7;have gA:=World.grownBy_alloc w (.cells (hdC ⟨2,s,vk,vn,vs,p⟩ (.slice pa pn pc) (.slice (some ⟨g,o,none⟩) 1 lc)).toArray 27 (0,0)) none;have hk7:=(hk.gb' gA).c7;have HX:=I (show(fun W=>(W.cell? ⟨w.heap.size,1,none⟩=some (str s)∧W.cell? ⟨w.heap.size,6,none⟩=some (.slice (some ⟨g,o,none⟩) 1 lc))∧(W.cell? ⟨g,o,none⟩=some (.int .i64 a.op)∧W.cell? ⟨g,o+1,none⟩=some (str a.s)∧W.cell? ⟨g,o+2,none⟩=some (.int .i64 a.vk)∧W.cell? ⟨g,o+3,none⟩=some (.int .i64 a.vn)∧W.cell? ⟨g,o+4,none⟩=some (str a.vs)∧W.cell? ⟨g,o+5,none⟩=some (.slice qa qn qc)∧W.cell? ⟨g,o+6,none⟩=some (.slice ra rn rc))∧w.grownBy W none) ((w.alloc (.cells (hdC ⟨2,s,vk,vn,vs,p⟩ (.slice pa pn pc) (.slice (some ⟨g,o,none⟩) 1 lc)).toArray 27 (0,0))).drew)from⟨⟨x_1,x_6⟩,hk7,Aj gA⟩);have hkl:=hk.1;obtain⟨k0,k1,k2,k3,k4,k5,k6⟩:=hk.c7;clear HT ha hk hb hk7 gA x_0 x_1 x_2 x_3 x_4 x_5 x_6 x_f;go_enter func35,ntmps35;go_wp2_with fail;go_region_held3 (fun W=>(W.cell? ⟨w.heap.size,1,none⟩=some (str s)∧W.cell? ⟨w.heap.size,6,none⟩=some (.slice (some ⟨g,o,none⟩) 1 lc))∧(W.cell? ⟨g,o,none⟩=some (.int .i64 a.op)∧W.cell? ⟨g,o+1,none⟩=some (str a.s)∧W.cell? ⟨g,o+2,none⟩=some (.int .i64 a.vk)∧W.cell? ⟨g,o+3,none⟩=some (.int .i64 a.vn)∧W.cell? ⟨g,o+4,none⟩=some (str a.vs)∧W.cell? ⟨g,o+5,none⟩=some (.slice qa qn qc)∧W.cell? ⟨g,o+6,none⟩=some (.slice ra rn rc))∧w.grownBy W none)
  (first|exact HX.out|exact s12 g5 (by assumption))
  (first| (go_at_call 35;(with_reducible refine(H.out _ ?_).mono ?_);(simp[*]);rintro e w5 ⟨rfl,g5⟩))
 rename_i hH;have HG:=I hH.2.2;clear hH;go_wp2;go_ret;exact⟨congrArg Ending.returned (BA (by simp[ByteArray.data_append])),HG.out⟩
theorem MW(hs:s.length≤2000000)(hl:t.length≤1000000000000000)(hm:s≠[45])(hk:Kid w g o a (.slice qa qn qc) (.slice ra rn rc))(HT:∀W,w.grownBy W none→Calls Tryz.prog 60 #[exV a (.slice qa qn qc) (.slice ra rn rc)] W fun e w'=>e= .returned (str t)∧W.grownBy w' none):
 Calls Tryz.prog 35 #[exV ⟨4,s,vk,vn,vs,p⟩ (.slice pa pn pc) (.slice (some ⟨g,o,none⟩) 1 lc)] w fun e w'=>e= .returned (str (s++[32]++t))∧w.grownBy w' none:=by
 have H:=I HT;have c1:(s==[45])=false:=by simpa using hm
 have hcl0:¬(9223372036854775807<s.length+1):=by omega
 have hcl1:¬(9223372036854775807<s.length+1+t.length):=by omega
 have hb:=Blk.new w (hdC ⟨4,s,vk,vn,vs,p⟩ (.slice pa pn pc) (.slice (some ⟨g,o,none⟩) 1 lc)) 27;obtain⟨x_0,x_1,x_2,x_3,x_4,x_5,x_6,x_f⟩:=(hb).c7;have gA:=World.grownBy_alloc w (.cells (hdC ⟨4,s,vk,vn,vs,p⟩ (.slice pa pn pc) (.slice (some ⟨g,o,none⟩) 1 lc)).toArray 27 (0,0)) none;have hk7:=(hk.gb' gA).c7;have HX:=I (show(fun W=>(W.cell? ⟨w.heap.size,1,none⟩=some (str s)∧W.cell? ⟨w.heap.size,6,none⟩=some (.slice (some ⟨g,o,none⟩) 1 lc))∧(W.cell? ⟨g,o,none⟩=some (.int .i64 a.op)∧W.cell? ⟨g,o+1,none⟩=some (str a.s)∧W.cell? ⟨g,o+2,none⟩=some (.int .i64 a.vk)∧W.cell? ⟨g,o+3,none⟩=some (.int .i64 a.vn)∧W.cell? ⟨g,o+4,none⟩=some (str a.vs)∧W.cell? ⟨g,o+5,none⟩=some (.slice qa qn qc)∧W.cell? ⟨g,o+6,none⟩=some (.slice ra rn rc))∧w.grownBy W none) ((w.alloc (.cells (hdC ⟨4,s,vk,vn,vs,p⟩ (.slice pa pn pc) (.slice (some ⟨g,o,none⟩) 1 lc)).toArray 27 (0,0))).drew)from⟨⟨x_1,x_6⟩,hk7,Aj gA⟩);have hkl:=hk.1;clear HT hm hk hb hk7 gA x_0 x_1 x_2 x_3 x_4 x_5 x_6 x_f;go_enter func35,ntmps35;go_wp2_with fail;go_region_held3 (fun W=>(W.cell? ⟨w.heap.size,1,none⟩=some (str s)∧W.cell? ⟨w.heap.size,6,none⟩=some (.slice (some ⟨g,o,none⟩) 1 lc))∧(W.cell? ⟨g,o,none⟩=some (.int .i64 a.op)∧W.cell? ⟨g,o+1,none⟩=some (str a.s)∧W.cell? ⟨g,o+2,none⟩=some (.int .i64 a.vk)∧W.cell? ⟨g,o+3,none⟩=some (.int .i64 a.vn)∧W.cell? ⟨g,o+4,none⟩=some (str a.vs)∧W.cell? ⟨g,o+5,none⟩=some (.slice qa qn qc)∧W.cell? ⟨g,o+6,none⟩=some (.slice ra rn rc))∧w.grownBy W none)
  (first|exact HX.out|exact s12 g5 (by assumption))
  (first| (go_at_call 60;(with_reducible refine(H.out _ ?_).mono ?_);(simp[*]);rintro e w5 ⟨rfl,g5⟩))
 rename_i hH;have HG:=I hH.2.2;clear hH;go_wp2;go_ret;exact⟨congrArg Ending.returned (BA (by simp[ByteArray.data_append])),HG.out⟩
theorem NF(hs:s.length≤2000000)(hl:t.length≤1000000000000000)(hl2:t2.length≤1000000000000000)(hk:Kid w g o a (.slice qa qn qc) (.slice ra rn rc))(hk2:Kid w g (o+7) a2 (.slice qa2 qn2 qc2) (.slice ra2 rn2 rc2))(HT:∀W,w.grownBy W none→Calls Tryz.prog 60 #[exV a (.slice qa qn qc) (.slice ra rn rc)] W fun e w'=>e= .returned (str t)∧W.grownBy w' none)(HT2:∀W,w.grownBy W none→Calls Tryz.prog 60 #[exV a2 (.slice qa2 qn2 qc2) (.slice ra2 rn2 rc2)] W fun e w'=>e= .returned (str t2)∧W.grownBy w' none):
 Calls Tryz.prog 35 #[exV ⟨5,s,vk,vn,vs,p⟩ (.slice pa pn pc) (.slice (some ⟨g,o,none⟩) 2 lc)] w fun e w'=>e= .returned (str (t++[32]++s++[32]++t2))∧w.grownBy w' none:=by
 have H:=I HT;have H2:=I HT2;have hcl0:¬(9223372036854775807<t.length+1):=by omega
 have hcl1:¬(9223372036854775807<t.length+1+s.length):=by omega
 have hcl2:¬(9223372036854775807<t.length+1+s.length+1):=by omega
 have hcl3:¬(9223372036854775807<t.length+1+s.length+1+t2.length):=by omega
 have hb:=Blk.new w (hdC ⟨5,s,vk,vn,vs,p⟩ (.slice pa pn pc) (.slice (some ⟨g,o,none⟩) 2 lc)) 27;obtain⟨x_0,x_1,x_2,x_3,x_4,x_5,x_6,x_f⟩:=(hb).c7;have gA:=World.grownBy_alloc w (.cells (hdC ⟨5,s,vk,vn,vs,p⟩ (.slice pa pn pc) (.slice (some ⟨g,o,none⟩) 2 lc)).toArray 27 (0,0)) none;have hk7:=(hk.gb' gA).c7;have hk72:=(hk2.gb' gA).c7;have HX:=I (show(fun W=>(W.cell? ⟨w.heap.size,1,none⟩=some (str s)∧W.cell? ⟨w.heap.size,6,none⟩=some (.slice (some ⟨g,o,none⟩) 2 lc))∧(W.cell? ⟨g,o,none⟩=some (.int .i64 a.op)∧W.cell? ⟨g,o+1,none⟩=some (str a.s)∧W.cell? ⟨g,o+2,none⟩=some (.int .i64 a.vk)∧W.cell? ⟨g,o+3,none⟩=some (.int .i64 a.vn)∧W.cell? ⟨g,o+4,none⟩=some (str a.vs)∧W.cell? ⟨g,o+5,none⟩=some (.slice qa qn qc)∧W.cell? ⟨g,o+6,none⟩=some (.slice ra rn rc))∧(W.cell? ⟨g,o+7,none⟩=some (.int .i64 a2.op)∧W.cell? ⟨g,o+8,none⟩=some (str a2.s)∧W.cell? ⟨g,o+9,none⟩=some (.int .i64 a2.vk)∧W.cell? ⟨g,o+10,none⟩=some (.int .i64 a2.vn)∧W.cell? ⟨g,o+11,none⟩=some (str a2.vs)∧W.cell? ⟨g,o+12,none⟩=some (.slice qa2 qn2 qc2)∧W.cell? ⟨g,o+13,none⟩=some (.slice ra2 rn2 rc2))∧w.grownBy W none) ((w.alloc (.cells (hdC ⟨5,s,vk,vn,vs,p⟩ (.slice pa pn pc) (.slice (some ⟨g,o,none⟩) 2 lc)).toArray 27 (0,0))).drew)from⟨⟨x_1,x_6⟩,hk7,hk72,Aj gA⟩);have hkl:=hk.1;clear HT HT2 hk hk2 hb hk7 hk72 gA x_0 x_1 x_2 x_3 x_4 x_5 x_6 x_f;go_enter func35,ntmps35;go_wp2_with fail
 go_region_held3 (fun W=>(W.cell? ⟨w.heap.size,1,none⟩=some (str s)∧W.cell? ⟨w.heap.size,6,none⟩=some (.slice (some ⟨g,o,none⟩) 2 lc))∧(W.cell? ⟨g,o,none⟩=some (.int .i64 a.op)∧W.cell? ⟨g,o+1,none⟩=some (str a.s)∧W.cell? ⟨g,o+2,none⟩=some (.int .i64 a.vk)∧W.cell? ⟨g,o+3,none⟩=some (.int .i64 a.vn)∧W.cell? ⟨g,o+4,none⟩=some (str a.vs)∧W.cell? ⟨g,o+5,none⟩=some (.slice qa qn qc)∧W.cell? ⟨g,o+6,none⟩=some (.slice ra rn rc))∧(W.cell? ⟨g,o+7,none⟩=some (.int .i64 a2.op)∧W.cell? ⟨g,o+8,none⟩=some (str a2.s)∧W.cell? ⟨g,o+9,none⟩=some (.int .i64 a2.vk)∧W.cell? ⟨g,o+10,none⟩=some (.int .i64 a2.vn)∧W.cell? ⟨g,o+11,none⟩=some (str a2.vs)∧W.cell? ⟨g,o+12,none⟩=some (.slice qa2 qn2 qc2)∧W.cell? ⟨g,o+13,none⟩=some (.slice ra2 rn2 rc2))∧w.grownBy W none)
  (first|exact HX.out|exact s22 g5 (by assumption))
  (first| (go_at_call 60;(with_reducible refine(H.out _ ?_).mono ?_);(simp[*]);rintro e w5 ⟨rfl,g5⟩)| (go_at_call 60;(with_reducible refine(H2.out _ ?_).mono ?_);(simp[*]);rintro e w5 ⟨rfl,g5⟩))
 rename_i hH;have HG:=I hH.2.2.2;clear hH;go_wp2;go_ret;exact⟨congrArg Ending.returned (BA (by simp[ByteArray.data_append])),HG.out⟩
theorem Nr(hs:s.length≤2000000)(hl:t.length≤1000000000000000)(hl2:t2.length≤1000000000000000)(hk:Kid w g o a (.slice qa qn qc) (.slice ra rn rc))(hk2:Kid w g (o+7) a2 (.slice qa2 qn2 qc2) (.slice ra2 rn2 rc2))(HT:∀W,w.grownBy W none→Calls Tryz.prog 60 #[exV a (.slice qa qn qc) (.slice ra rn rc)] W fun e w'=>e= .returned (str t)∧W.grownBy w' none)(HT2:∀W,w.grownBy W none→Calls Tryz.prog 35 #[exV a2 (.slice qa2 qn2 qc2) (.slice ra2 rn2 rc2)] W fun e w'=>e= .returned (str t2)∧W.grownBy w' none):
 Calls Tryz.prog 35 #[exV ⟨6,s,vk,vn,vs,p⟩ (.slice pa pn pc) (.slice (some ⟨g,o,none⟩) 2 lc)] w fun e w'=>e= .returned (str (t++[91]++t2++[93]))∧w.grownBy w' none:=by
 have H:=I HT;have H2:=I HT2;have hcl0:¬(9223372036854775807<t.length+1):=by omega
 have hcl1:¬(9223372036854775807<t.length+1+t2.length):=by omega
 have hcl2:¬(9223372036854775807<t.length+1+t2.length+1):=by omega
 have hb:=Blk.new w (hdC ⟨6,s,vk,vn,vs,p⟩ (.slice pa pn pc) (.slice (some ⟨g,o,none⟩) 2 lc)) 27;obtain⟨x_0,x_1,x_2,x_3,x_4,x_5,x_6,x_f⟩:=(hb).c7;have gA:=World.grownBy_alloc w (.cells (hdC ⟨6,s,vk,vn,vs,p⟩ (.slice pa pn pc) (.slice (some ⟨g,o,none⟩) 2 lc)).toArray 27 (0,0)) none;have hk7:=(hk.gb' gA).c7;have hk72:=(hk2.gb' gA).c7;have HX:=I (show(fun W=>(W.cell? ⟨w.heap.size,1,none⟩=some (str s)∧W.cell? ⟨w.heap.size,6,none⟩=some (.slice (some ⟨g,o,none⟩) 2 lc))∧(W.cell? ⟨g,o,none⟩=some (.int .i64 a.op)∧W.cell? ⟨g,o+1,none⟩=some (str a.s)∧W.cell? ⟨g,o+2,none⟩=some (.int .i64 a.vk)∧W.cell? ⟨g,o+3,none⟩=some (.int .i64 a.vn)∧W.cell? ⟨g,o+4,none⟩=some (str a.vs)∧W.cell? ⟨g,o+5,none⟩=some (.slice qa qn qc)∧W.cell? ⟨g,o+6,none⟩=some (.slice ra rn rc))∧(W.cell? ⟨g,o+7,none⟩=some (.int .i64 a2.op)∧W.cell? ⟨g,o+8,none⟩=some (str a2.s)∧W.cell? ⟨g,o+9,none⟩=some (.int .i64 a2.vk)∧W.cell? ⟨g,o+10,none⟩=some (.int .i64 a2.vn)∧W.cell? ⟨g,o+11,none⟩=some (str a2.vs)∧W.cell? ⟨g,o+12,none⟩=some (.slice qa2 qn2 qc2)∧W.cell? ⟨g,o+13,none⟩=some (.slice ra2 rn2 rc2))∧w.grownBy W none) ((w.alloc (.cells (hdC ⟨6,s,vk,vn,vs,p⟩ (.slice pa pn pc) (.slice (some ⟨g,o,none⟩) 2 lc)).toArray 27 (0,0))).drew)from⟨⟨x_1,x_6⟩,hk7,hk72,Aj gA⟩);have hkl:=hk.1;clear HT HT2 hk hk2 hb hk7 hk72 gA x_0 x_1 x_2 x_3 x_4 x_5 x_6 x_f;go_enter func35,ntmps35;go_wp2_with fail
 go_region_held3 (fun W=>(W.cell? ⟨w.heap.size,1,none⟩=some (str s)∧W.cell? ⟨w.heap.size,6,none⟩=some (.slice (some ⟨g,o,none⟩) 2 lc))∧(W.cell? ⟨g,o,none⟩=some (.int .i64 a.op)∧W.cell? ⟨g,o+1,none⟩=some (str a.s)∧W.cell? ⟨g,o+2,none⟩=some (.int .i64 a.vk)∧W.cell? ⟨g,o+3,none⟩=some (.int .i64 a.vn)∧W.cell? ⟨g,o+4,none⟩=some (str a.vs)∧W.cell? ⟨g,o+5,none⟩=some (.slice qa qn qc)∧W.cell? ⟨g,o+6,none⟩=some (.slice ra rn rc))∧(W.cell? ⟨g,o+7,none⟩=some (.int .i64 a2.op)∧W.cell? ⟨g,o+8,none⟩=some (str a2.s)∧W.cell? ⟨g,o+9,none⟩=some (.int .i64 a2.vk)∧W.cell? ⟨g,o+10,none⟩=some (.int .i64 a2.vn)∧W.cell? ⟨g,o+11,none⟩=some (str a2.vs)∧W.cell? ⟨g,o+12,none⟩=some (.slice qa2 qn2 qc2)∧W.cell? ⟨g,o+13,none⟩=some (.slice ra2 rn2 rc2))∧w.grownBy W none)
  (first|exact HX.out|exact s22 g5 (by assumption))
  (first| (go_at_call 60;(with_reducible refine(H.out _ ?_).mono ?_);(simp[*]);rintro e w5 ⟨rfl,g5⟩)| (go_at_call 35;(with_reducible refine(H2.out _ ?_).mono ?_);(simp[*]);rintro e w5 ⟨rfl,g5⟩))
 rename_i hH;have HG:=I hH.2.2.2;clear hH;go_wp2;go_ret;exact⟨congrArg Ending.returned (BA (by simp[ByteArray.data_append])),HG.out⟩
theorem Nt(hs:s.length≤2000000)(hl:t.length≤1000000000000000)(hl2:t2.length≤1000000000000000)(hk:Kid w g o a (.slice qa qn qc) (.slice ra rn rc))(HT:∀W,w.grownBy W none→Calls Tryz.prog 35 #[exV a (.slice qa qn qc) (.slice ra rn rc)] W fun e w'=>e= .returned (str t)∧W.grownBy w' none) (HJ:∀W,w.grownBy W none→Calls Tryz.prog 61 #[.slice pa pn pc,str [44,32]] W fun e w'=>e= .returned (str t2)∧W.grownBy w' none):
 Calls Tryz.prog 35 #[exV ⟨8,s,vk,vn,vs,p⟩ (.slice pa pn pc) (.slice (some ⟨g,o,none⟩) 1 lc)] w fun e w'=>e= .returned (str ([123,124]++t2++[124,32]++t++[125]))∧w.grownBy w' none:=by
 have H:=I HT;have H2:=I HJ;have hcl0:¬(9223372036854775807<2+t2.length):=by omega
 have hcl1:¬(9223372036854775807<2+t2.length+2):=by omega
 have hcl2:¬(9223372036854775807<2+t2.length+2+t.length):=by omega
 have hcl3:¬(9223372036854775807<2+t2.length+2+t.length+1):=by omega
 have hb:=Blk.new w (hdC ⟨8,s,vk,vn,vs,p⟩ (.slice pa pn pc) (.slice (some ⟨g,o,none⟩) 1 lc)) 27;obtain⟨x_0,x_1,x_2,x_3,x_4,x_5,x_6,x_f⟩:=(hb).c7;have gA:=World.grownBy_alloc w (.cells (hdC ⟨8,s,vk,vn,vs,p⟩ (.slice pa pn pc) (.slice (some ⟨g,o,none⟩) 1 lc)).toArray 27 (0,0)) none;have hk7:=(hk.gb' gA).c7;have HX:=I (show(fun W=>(W.cell? ⟨w.heap.size,1,none⟩=some (str s)∧W.cell? ⟨w.heap.size,6,none⟩=some (.slice (some ⟨g,o,none⟩) 1 lc)∧W.cell? ⟨w.heap.size,5,none⟩=some (.slice pa pn pc))∧(W.cell? ⟨g,o,none⟩=some (.int .i64 a.op)∧W.cell? ⟨g,o+1,none⟩=some (str a.s)∧W.cell? ⟨g,o+2,none⟩=some (.int .i64 a.vk)∧W.cell? ⟨g,o+3,none⟩=some (.int .i64 a.vn)∧W.cell? ⟨g,o+4,none⟩=some (str a.vs)∧W.cell? ⟨g,o+5,none⟩=some (.slice qa qn qc)∧W.cell? ⟨g,o+6,none⟩=some (.slice ra rn rc))∧w.grownBy W none) ((w.alloc (.cells (hdC ⟨8,s,vk,vn,vs,p⟩ (.slice pa pn pc) (.slice (some ⟨g,o,none⟩) 1 lc)).toArray 27 (0,0))).drew)from⟨⟨x_1,x_6,x_5⟩,hk7,Aj gA⟩);have hkl:=hk.1;clear HT HJ hk hb hk7 gA x_0 x_1 x_2 x_3 x_4 x_5 x_6 x_f;go_enter func35,ntmps35;go_wp2_with fail
 go_region_held3 (fun W=>(W.cell? ⟨w.heap.size,1,none⟩=some (str s)∧W.cell? ⟨w.heap.size,6,none⟩=some (.slice (some ⟨g,o,none⟩) 1 lc)∧W.cell? ⟨w.heap.size,5,none⟩=some (.slice pa pn pc))∧(W.cell? ⟨g,o,none⟩=some (.int .i64 a.op)∧W.cell? ⟨g,o+1,none⟩=some (str a.s)∧W.cell? ⟨g,o+2,none⟩=some (.int .i64 a.vk)∧W.cell? ⟨g,o+3,none⟩=some (.int .i64 a.vn)∧W.cell? ⟨g,o+4,none⟩=some (str a.vs)∧W.cell? ⟨g,o+5,none⟩=some (.slice qa qn qc)∧W.cell? ⟨g,o+6,none⟩=some (.slice ra rn rc))∧w.grownBy W none)
  (first|exact HX.out|exact s13 g5 (by assumption))
  (first| (go_at_call 35;(with_reducible refine(H.out _ ?_).mono ?_);(simp[*]);rintro e w5 ⟨rfl,g5⟩)| (go_at_call 61;(with_reducible refine(H2.out _ ?_).mono ?_);(simp[*]);rintro e w5 ⟨rfl,g5⟩))
 rename_i hH;have HG:=I hH.2.2;clear hH;go_wp2;go_ret;exact⟨congrArg Ending.returned (BA (by simp[ByteArray.data_append])),HG.out⟩
theorem MV(hl:t.length≤1000000000000000)(hk:Kid w g o a (.slice qa qn qc) (.slice ra rn rc))(HT:∀W,w.grownBy W none→Calls Tryz.prog 60 #[exV a (.slice qa qn qc) (.slice ra rn rc)] W fun e w'=>e= .returned (str t)∧W.grownBy w' none):
 Calls Tryz.prog 35 #[exV ⟨4,[45],vk,vn,vs,p⟩ (.slice pa pn pc) (.slice (some ⟨g,o,none⟩) 1 lc)] w fun e w'=>e= .returned (str ([45]++t))∧w.grownBy w' none:=by
 have H:=I HT;have hcl0:¬(9223372036854775807<1+t.length):=by omega
 have hkl:=hk.1;obtain⟨k0,k1,k2,k3,k4,k5,k6⟩:=hk.c7;clear hk HT;go_enter func35,ntmps35;go_wp2_with fail;refine(H.out _ ?gg).mono ?_
 case gg=>exact (by repeat(first| (with_reducible exact Ac _ _)| (with_reducible assumption)| (with_reducible exact AW (by assumption))| (with_reducible refine Aa ?_ _)| (with_reducible refine Aj ?_)| (with_reducible refine AH ?_ _)| ((with_reducible refine Ax ?_ _ _ ?h2);case h2=>first|exact .inl rfl|exact .inr (Nat.le_refl _)|exact .inr (by simp<;>omega))| (with_reducible refine Ae ?_ (by assumption))| (with_reducible refine O ?_ (by assumption))))
 rintro e w1 ⟨rfl,g1⟩;have HG:=I (O (Aa (Ac w none) _) g1);clear g1;go_wp2;go_ret;exact⟨congrArg Ending.returned (BA (by simp[ByteArray.data_append])),HG.out⟩
theorem MY(hl:t.length≤1000000000000000)(hk:Kid w g o a (.slice qa qn qc) (.slice ra rn rc))(HT:∀W,w.grownBy W none→Calls Tryz.prog 35 #[exV a (.slice qa qn qc) (.slice ra rn rc)] W fun e w'=>e= .returned (str t)∧W.grownBy w' none):
 Calls Tryz.prog 35 #[exV ⟨9,[],vk,vn,vs,p⟩ (.slice pa pn pc) (.slice (some ⟨g,o,none⟩) 1 lc)] w fun e w'=>e= .returned (str ([38,40]++t++[41]))∧w.grownBy w' none:=by
 have H:=I HT;have hcl0:¬(9223372036854775807<2+t.length):=by omega
 have hcl1:¬(9223372036854775807<2+t.length+1):=by omega
 have hkl:=hk.1;obtain⟨k0,k1,k2,k3,k4,k5,k6⟩:=hk.c7;clear hk HT;go_enter func35,ntmps35;go_wp2_with fail;refine(H.out _ ?gg).mono ?_
 case gg=>exact (by repeat(first| (with_reducible exact Ac _ _)| (with_reducible assumption)| (with_reducible exact AW (by assumption))| (with_reducible refine Aa ?_ _)| (with_reducible refine Aj ?_)| (with_reducible refine AH ?_ _)| ((with_reducible refine Ax ?_ _ _ ?h2);case h2=>first|exact .inl rfl|exact .inr (Nat.le_refl _)|exact .inr (by simp<;>omega))| (with_reducible refine Ae ?_ (by assumption))| (with_reducible refine O ?_ (by assumption))))
 rintro e w1 ⟨rfl,g1⟩;have HG:=I (O (Aa (Ac w none) _) g1);clear g1;go_wp2;go_ret;exact⟨congrArg Ending.returned (BA (by simp[ByteArray.data_append])),HG.out⟩
end
theorem EU{w:World}{ok:Nat→Prop}{la:Option Addr}{n lc:Nat}{cs:List Value}{a:Hd}{b nx:Fo}{k:Nat}(hc:∀j u,cs[j]? =some u→∃g o,la=some ⟨g,o,none⟩∧ok g∧w.cell? ⟨g,o+j,none⟩=some u)
 (hr:RepF ok w (.cons a b nx) (cs.drop (k*7))):∃g o pa pc lb ld,la=some ⟨g,o,none⟩∧Cells w (.slice pa a.p.length pc) 1 a.p.length (a.p.map str) ok∧RepL ok w (.slice lb b.len ld) b∧RepF ok w nx (cs.drop ((k+1)*7))∧Kid w g (o+k*7) a (.slice pa a.p.length pc) (.slice lb b.len ld):=by
 obtain⟨pa,pc,lb,ld,h1,h2,h3,h4⟩:=RepF.elem (n:=n) (lc:=lc) (f:= .nil) hc hr;obtain⟨g,o,e,_,h5⟩:=h4 0 _ rfl;refine⟨g,o,pa,pc,lb,ld,e,h1,h2,h3,World.block_lt_of_cell? _ _ h5,fun i u hu=>?_⟩;obtain⟨g',o',e',_,h6⟩:=h4 i u hu;rw[e]at e';cases e';rw[Nat.add_assoc];exact h6
theorem Nu:∀(N:Nat)(h:Hd)(f:Fo),f.wt<N→Ba h f.len=true→okF f=true→h.fit→f.fit→f.nodes≤1000000→∀(pa la:Option Addr)(pc lc:Nat)(w:World),Pow w→Cells w (.slice pa h.p.length pc) 1 h.p.length (h.p.map str) (fun _=>True)→RepL (fun _=>True) w (.slice la f.len lc) f→
 Calls Tryz.prog 35 #[exV h (.slice pa h.p.length pc) (.slice la f.len lc)] w fun e w'=>e= .returned (str (AR wdM h (Ar wdM f)))∧w.grownBy w' none:=by
 intro N;induction N with
 |zero=>intro h f hN;omega
 | succ N ih=>
   intro h f hN ho hk hfit hft hnd pa la pc lc w hp hpc hrl;obtain⟨p1,p2,p3⟩:=CB ho;have hsl:=hfit.1;have hlen:∀(a:Hd)(b:Fo),Ba a b.len=true→okF b=true→a.fit→b.fit→b.nodes≤1000000→(AR wdM a (Ar wdM b)).length≤900000000000000:=by
    intro a b h1 h2 h3 h4 h5;obtain⟨r1,r2⟩:=Eb b h2 h4;have:=EH h3 h1 r2;omega
   have HL:∀W,w.grownBy W none→Calls Tryz.prog 59 #[.slice la f.len lc] W fun e w'=>e= .returned (str (Bz ((Ar wdM f).map (·.2))))∧W.grownBy w' none:=fun W g=>
    Ll f _ la lc W (hrl.gb g (by simp)) hft hk hnd (fun h' k pa' lb pc' ld W2 g2 c1 c2 c3 c4 c5 c6 c7 c8=>ih h' k (by omega) c5 c6 c2 c3 c4 pa' lb pc' ld W2 ((hp.gb g).gb g2) c7 c8)
   have HLl:(Bz ((Ar wdM f).map (·.2))).length≤1000000000000000:=by
    have h1:=E3 (Ar wdM f);have h2:=(Eb f hk hft).1;omega
   obtain⟨cs,hcs,hrf⟩:=hrl;obtain⟨_,_,e,_,_,_,hcc⟩:=hcs;cases e;have one:∀a b,f= .cons a b .nil→∃g o pa' pc' lb ld,la=some ⟨g,o,none⟩∧Kid w g o a (.slice pa' a.p.length pc') (.slice lb b.len ld)∧Ba a b.len=true∧a.fit∧(AR wdM a (Ar wdM b)).length≤900000000000000∧
    ∀W,w.grownBy W none→Calls Tryz.prog 35 #[exV a (.slice pa' a.p.length pc') (.slice lb b.len ld)] W fun e w'=>e= .returned (str (AR wdM a (Ar wdM b)))∧W.grownBy w' none:=by
    rintro a b rfl;obtain⟨g,o,pa',pc',lb,ld,e,h1,h2,_,h4⟩:=EU (k:=0) (n:=1) (lc:=lc) hcc (by simpa using hrf);simp only[okF,Bool.and_eq_true]at hk;simp only[Fo.wt]at hN;simp only[Fo.nodes]at hnd;refine⟨g,o,pa',pc',lb,ld,e,by simpa using h4,hk.1.1,hft.1,hlen a b hk.1.1 hk.1.2 hft.1 hft.2.1 (by omega),fun W gW=>ih a b (by omega) hk.1.1 hk.1.2 hft.1 hft.2.1 (by omega) pa' lb pc' ld W (hp.gb gW) (h1.gb gW (by simp)) (h2.gb gW (by simp))⟩
   have two:∀a b a2 b2,f= .cons a b (.cons a2 b2 .nil)→∃g o pa' pc' lb ld pa2 pc2 lb2 ld2,la=some ⟨g,o,none⟩∧Kid w g o a (.slice pa' a.p.length pc') (.slice lb b.len ld)∧Kid w g (o+7) a2 (.slice pa2 a2.p.length pc2) (.slice lb2 b2.len ld2)∧(AR wdM a (Ar wdM b)).length≤900000000000000∧(AR wdM a2 (Ar wdM b2)).length≤900000000000000∧
    (∀W,w.grownBy W none→Calls Tryz.prog 35 #[exV a (.slice pa' a.p.length pc') (.slice lb b.len ld)] W fun e w'=>e= .returned (str (AR wdM a (Ar wdM b)))∧W.grownBy w' none)∧∀W,w.grownBy W none→Calls Tryz.prog 35 #[exV a2 (.slice pa2 a2.p.length pc2) (.slice lb2 b2.len ld2)] W fun e w'=>e= .returned (str (AR wdM a2 (Ar wdM b2)))∧W.grownBy w' none:=by
    rintro a b a2 b2 rfl;obtain⟨g,o,pa',pc',lb,ld,e,h1,h2,hnx,h4⟩:=EU (k:=0) (n:=2) (lc:=lc) hcc (by simpa using hrf);obtain⟨g2,o2,pa2,pc2,lb2,ld2,e2,h12,h22,_,h42⟩:=EU (k:=1) (n:=2) (lc:=lc) hcc hnx;rw[e]at e2;cases e2;simp only[okF,Bool.and_eq_true]at hk;simp only[Fo.wt]at hN;simp only[Fo.nodes]at hnd;refine⟨g,o,pa',pc',lb,ld,pa2,pc2,lb2,ld2,e,by simpa using h4,by simpa using h42,hlen a b hk.1.1 hk.1.2 hft.1 hft.2.1 (by omega),hlen a2 b2 hk.2.1.1 hk.2.1.2 hft.2.2.1 hft.2.2.2.1 (by omega),fun W gW=>ih a b (by omega) hk.1.1 hk.1.2 hft.1 hft.2.1 (by omega) pa' lb pc' ld W (hp.gb gW) (h1.gb gW (by simp)) (h2.gb gW (by simp)),fun W gW=>ih a2 b2 (by omega) hk.2.1.1 hk.2.1.2 hft.2.2.1 hft.2.2.2.1 (by omega) pa2 lb2 pc2 ld2 W (hp.gb gW) (h12.gb gW (by simp)) (h22.gb gW (by simp))⟩
   have hopT:∀(x:Hd×Bs),x.2.length≤900000000000000→(opT x).length≤1000000000000000:=by
    intro x hx;unfold opT;split
    ·simp only[List.length_append,List.length_cons,List.length_nil];omega
    ·omega
   clear hcc hrf ih hlen;have hvl:=hfit.2.1;have hpl:=hfit.2.2.1;obtain⟨op,s,vk,vn,vs,p⟩:=h;unfold An at p3;simp only at p1 p2 p3 hsl hvl hpl hpc ⊢;by_cases e0:op=0
   ·subst e0;rw[if_pos rfl]at p3;simp only[Bool.and_eq_true]at p3;exact NC (fun W g=>It (hp.gb g) (show Ao (HdV vk vn vs)=true from p3.2) hvl)
   rw[if_neg e0]at p3;by_cases e1:op=1
   ·subst e1;exact ND
   by_cases e10:op=10
   ·subst e10;exact MS hsl
   rw[if_neg (by omega)]at p3;by_cases e2:op=2
   ·subst e2;rw[if_pos rfl]at p3;simp only[Bool.and_eq_true,beq_iff_eq]at p3;obtain⟨a,b,rfl⟩:=B9 p3.2;obtain⟨g,o,pa',pc',lb,ld,rfl,hkid,hko,hkf,hkl,hT⟩:=one a b rfl;show Calls _ _ _ _ fun e w'=>e= .returned (str (if a.op=1 then s++[45,62]++a.s else s++[45,62,40]++AR wdM a (Ar wdM b)++[41]))∧_;by_cases ha:a.op=1
    ·rw[if_pos ha];exact MT hsl hkf.1 ha hkid
    ·rw[if_neg ha];exact MU hsl (Nat.le_trans hkl (by decide)) ha hkid hT
   rw[if_neg e2]at p3;by_cases e3:op=3
   ·subst e3;exact NE hsl HLl HL
   rw[if_neg e3]at p3;by_cases e4:op=4
   ·subst e4;rw[if_pos rfl]at p3;simp only[Bool.and_eq_true,Bool.or_eq_true,beq_iff_eq]at p3;obtain⟨a,b,rfl⟩:=B9 p3.2;obtain⟨g,o,pa',pc',lb,ld,rfl,hkid,hko,hkf,hkl,hT⟩:=one a b rfl;show Calls _ _ _ _ fun e w'=>e= .returned (str (if s=[45]then [45]++opT (a,AR wdM a (Ar wdM b))else s++[32]++opT (a,AR wdM a (Ar wdM b))))∧_;by_cases hs:s=[45]
    ·subst hs;rw[if_pos rfl];exact MV (hopT _ hkl) hkid (fun W gW=>Du (by omega) (fun W2 g2=>hT W2 (O gW g2)))
    ·rw[if_neg hs];exact MW hsl (hopT _ hkl) hs hkid (fun W gW=>Du (by omega) (fun W2 g2=>hT W2 (O gW g2)))
   rw[if_neg e4]at p3;by_cases e5:op=5
   ·subst e5;rw[if_pos rfl]at p3;simp only[Bool.and_eq_true,beq_iff_eq]at p3;obtain⟨a,b,a2,b2,rfl⟩:=C6 p3.2;obtain⟨g,o,pa',pc',lb,ld,pa2,pc2,lb2,ld2,rfl,hk1,hk2,hl1,hl2,hT,hT2⟩:=two a b a2 b2 rfl;exact NF hsl (hopT _ hl1) (hopT _ hl2) hk1 hk2 (fun W gW=>Du (by omega) (fun W2 g2=>hT W2 (O gW g2))) (fun W gW=>Du (by omega) (fun W2 g2=>hT2 W2 (O gW g2)))
   rw[if_neg e5]at p3;by_cases e6:op=6
   ·subst e6;rw[if_pos rfl]at p3;simp only[Bool.and_eq_true,beq_iff_eq]at p3;obtain⟨a,b,a2,b2,rfl⟩:=C6 p3.2;obtain⟨g,o,pa',pc',lb,ld,pa2,pc2,lb2,ld2,rfl,hk1,hk2,hl1,hl2,hT,hT2⟩:=two a b a2 b2 rfl;exact Nr hsl (hopT _ hl1) (Nat.le_trans hl2 (by decide)) hk1 hk2 (fun W gW=>Du (by omega) (fun W2 g2=>hT W2 (O gW g2))) hT2
   rw[if_neg e6]at p3;by_cases e7:op=7
   ·subst e7;exact Ns HLl HL
   rw[if_neg e7]at p3;by_cases e8:op=8
   ·subst e8;rw[if_pos rfl]at p3;simp only[Bool.and_eq_true,beq_iff_eq]at p3;obtain⟨a,b,rfl⟩:=B9 p3.1.2;obtain⟨g,o,pa',pc',lb,ld,rfl,hkid,hko,hkf,hkl,hT⟩:=one a b rfl;have hj:=Fu p3.2;exact Nt (t2:=Bz p) hsl (Nat.le_trans hkl (by decide)) (by omega) hkid hT (fun W gW=>G0 (xs:=p) (hpc.gb gW (by simp)) rfl (by omega) (by omega))
   rw[if_neg e8]at p3;by_cases e9:op=9
   ·subst e9;rw[if_pos rfl]at p3;simp only[Bool.and_eq_true,Bool.or_eq_true,beq_iff_eq,List.isEmpty_iff]at p3;rcases p3 with⟨hs,hn⟩| ⟨rfl,hn⟩
    ·have hs0:s≠[]:=by rintro rfl;exact absurd hs (by decide)
     show Calls _ _ _ _ fun e w'=>e= .returned (str (if s≠[]then [38]++s++[46]else _))∧_;rw[if_pos hs0];exact MX hsl hs0
    ·obtain⟨a,b,rfl⟩:=B9 hn;obtain⟨g,o,pa',pc',lb,ld,rfl,hkid,hko,hkf,hkl,hT⟩:=one a b rfl;exact MY (Nat.le_trans hkl (by decide)) hkid hT
   rw[if_neg e9]at p3;cases p3
theorem Ma{w:World}{v:Value}{x:Ex}{ok:Nat→Prop}(hp:Pow w)(hx:VE ok w v x)(h1:x.h.fit)(h2:x.kids.fit)(hn:x.kids.nodes≤1000000)(ho:okX x=true):
 Calls Tryz.prog 35 #[v] w fun e w'=>e= .returned (str (Aw wdM x))∧w.grownBy w' none:=by
 obtain⟨pa,pc,la,lc,rfl,hpc,hl⟩:=hx;unfold okX at ho;rw[Bool.and_eq_true]at ho;exact Nu _ x.h x.kids (Nat.lt_succ_self _) ho.1 ho.2 h1 h2 hn pa la pc lc w hp (hpc.mono fun _ _ _=>trivial) (hl.mono fun _ _ _=>trivial)
theorem KN{x:Ex}(h1:x.h.fit)(h2:x.kids.fit)(hn:x.kids.nodes≤1000000)(ho:okX x=true):(Aw wdM x).length≤1000000000000000:=by
 unfold okX at ho;rw[Bool.and_eq_true]at ho;obtain⟨r1,r2⟩:=Eb x.kids ho.2 h2;have:=EH h1 ho.1 r2;unfold Aw;omega
theorem KC(s:Bs)(hl:s.length≤1000000000000000)(w:World):Calls Tryz.prog 34 #[str s] w fun e w'=>e= .returned (.tuple #[str (if 4000<s.length then []else s),.int .i64 (if 4000<s.length then 3 else 0)])∧w.grownBy w' none:=by
 by_cases h:4000<s.length
 ·rw[if_pos h,if_pos h];have hI:decide ((4000:Int)<(s.length:Int))=true:=by simp;omega
  go_enter func34,ntmps34;go_wp2;exact bodyPost_ret (v:= .tuple #[str [],.int .i64 3]) (by simp[results,results34,go_sem]) rfl ⟨rfl,Ac _ _⟩
 ·rw[if_neg h,if_neg h];have hI:decide ((4000:Int)<(s.length:Int))=false:=by simp;omega
  go_enter func34,ntmps34;go_wp2;exact bodyPost_ret (v:= .tuple #[str s,.int .i64 0]) (by simp[results,results34,go_sem]) rfl ⟨rfl,Ac _ _⟩
def BY(x:Ex):Bs×Int:=if BH x≠0 then([],BH x)else if 4000<(Aw wdM x).length then([],3)else(Aw wdM x,0)
theorem E9{x:Ex}(h:BH x=0):okX x=true∧BK x.nodes x.levels=false:=by
 unfold BH at h;cases hl:BK x.nodes x.levels with
 |true=>rw[hl]at h;simp at h
 | false=>
   rw[hl]at h;cases ho:okX x with
   |true=>exact⟨rfl,rfl⟩
   |false=>rw[ho]at h;simp at h
theorem F4{w:World}{v:Value}{x:Ex}{ok:Nat→Prop}(hp:Pow w)(hx:VE ok w v x)(h1:x.h.fit)(h2:x.kids.fit)(hn:x.kids.nodes≤1000000):
 Calls Tryz.prog 12 #[v] w fun e w'=>e= .returned (.tuple #[str (BY x).1,.int .i64 (BY x).2])∧w.grownBy w' none:=by
 have HV:=I (fun(W:World)(g:w.grownBy W none)=>Ik (hx.gb g (by simp)) h1 h2 hn);have HX:=hx;obtain⟨pa,pc,la,lc,rfl,_,_⟩:=hx;have hB:=Blk.new w (hdC x.h (.slice pa x.h.p.length pc) (.slice la x.kids.len lc)) 27;have hB1:=hB;obtain⟨x_0,x_1,x_2,x_3,x_4,x_5,x_6,x_f⟩:=(hB1).c7;have HB:=I hB;clear hB1 hB;by_cases hv:BH x=0
 ·have ho:=(E9 hv).1;have HT:=I (fun(W:World)(g:w.grownBy W none)=>Ma (hp.gb g) (HX.gb g (by simp)) h1 h2 hn ho);have HS:=I (fun(W:World)=>KC (Aw wdM x) (KN h1 h2 hn ho) W);have HM:=I (show BY x=(if 4000<(Aw wdM x).length then []else Aw wdM x,if 4000<(Aw wdM x).length then 3 else 0)by
   unfold BY;rw[if_neg (by simpa using hv)];split<;>rfl)
  rw[HM.out];rw[hv]at HV;clear ho hv HX hp h1 h2 hn HM;generalize Aw wdM x=t at*;generalize(if 4000<t.length then []else t)=t2 at*;generalize(if 4000<t.length then(3:Int)else 0)=c2 at*;go_enter func12,ntmps12;go_wp2_with fail;refine(HV.out _ ?gg).mono ?_
  case gg=>exact (by repeat(first| (with_reducible exact Ac _ _)| (with_reducible assumption)| (with_reducible exact AW (by assumption))| (with_reducible refine Aa ?_ _)| (with_reducible refine Aj ?_)| (with_reducible refine AH ?_ _)| ((with_reducible refine Ax ?_ _ _ ?h2);case h2=>first|exact .inl rfl|exact .inr (Nat.le_refl _)|exact .inr (by simp<;>omega))| (with_reducible refine Ae ?_ (by assumption))| (with_reducible refine O ?_ (by assumption))))
  rintro e w1 ⟨rfl,g1⟩;have hb1:=HB.out.gb g1 (by simp);have HG:=I (O (World.grownBy_alloc w (.cells (hdC x.h (.slice pa x.h.p.length pc) (.slice la x.kids.len lc)).toArray 27 (0,0)) none) g1);clear x_0 x_1 x_2 x_3 x_4 x_5 x_6 x_f g1;obtain⟨y_0,y_1,y_2,y_3,y_4,y_5,y_6,y_f⟩:=(hb1).c7;clear hb1;go_wp2_with fail;refine(HT.out _ HG.out).mono ?_;rintro e w2 ⟨rfl,g2⟩;go_wp2_with fail;refine(HS.out _).mono ?_;rintro e w3 ⟨rfl,g3⟩;have HG3:=I (O (O HG.out g2) g3);clear g2 g3;go_wp2;exact bodyPost_ret (v:= .tuple #[str t2,.int .i64 c2]) (by simp[results,results12,go_sem]) rfl ⟨rfl,HG3.out⟩
 ·have HM:=I (show BY x=([],BH x)by unfold BY;rw[if_pos hv]);rw[HM.out];have hvI:(BH x==0)=false:=by simpa using hv
  have hvI2:(BH x !=0)=true:=by simpa using hv
  clear hv HX hp h1 h2 hn HM;generalize BH x=vm at*;go_enter func12,ntmps12;go_wp2_with fail;refine(HV.out _ ?gg).mono ?_
  case gg=>exact (by repeat(first| (with_reducible exact Ac _ _)| (with_reducible assumption)| (with_reducible exact AW (by assumption))| (with_reducible refine Aa ?_ _)| (with_reducible refine Aj ?_)| (with_reducible refine AH ?_ _)| ((with_reducible refine Ax ?_ _ _ ?h2);case h2=>first|exact .inl rfl|exact .inr (Nat.le_refl _)|exact .inr (by simp<;>omega))| (with_reducible refine Ae ?_ (by assumption))| (with_reducible refine O ?_ (by assumption))))
  rintro e w1 ⟨rfl,g1⟩;have HG:=I (O (World.grownBy_alloc w (.cells (hdC x.h (.slice pa x.h.p.length pc) (.slice la x.kids.len lc)).toArray 27 (0,0)) none) g1);clear x_0 x_1 x_2 x_3 x_4 x_5 x_6 x_f g1;go_wp2;exact bodyPost_ret (v:= .tuple #[str [],.int .i64 vm]) (by simp[results,results12,go_sem]) rfl ⟨rfl,HG.out⟩
end Go.Proofs.YtgjdhajcnechdaaGreatDoor
