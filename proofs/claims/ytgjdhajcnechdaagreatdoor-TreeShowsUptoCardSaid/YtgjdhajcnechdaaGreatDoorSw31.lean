/-
  isExpr: one node whose operands are right, kind by kind.
-/
import Derived.Test.YtgjdhajcnechdaaGreatDoorSw26
set_option linter.all false
set_option maxRecDepth 100000
set_option maxHeartbeats 8000000
namespace Go.Proofs.YtgjdhajcnechdaaGreatDoor
open Go.Proofs.Tryz
open Go.RowKit
def VaH(w:World)(h:Hd)(pa la:Option Addr)(pc n lc:Nat):Prop:=
 (∀W,w.grownBy W none→Calls Tryz.prog 73 #[.slice la n lc] W fun e w'=>e= .returned (.bool true)∧W.grownBy w' none)∧
 (∀W,w.grownBy W none→Calls Tryz.prog 75 #[str h.s] W fun e w'=>e= .returned (.bool (An h.s))∧W.grownBy w' none)∧
 (∀W,w.grownBy W none→Calls Tryz.prog 74 #[.agg #[.int .i64 h.vk,.int .i64 h.vn,str h.vs]] W fun e w'=>e= .returned (.bool (A2 h))∧W.grownBy w' none)∧
 (∀W,w.grownBy W none→Calls Tryz.prog 76 #[str h.s] W fun e w'=>e= .returned (.bool (opsL.contains h.s))∧W.grownBy w' none)∧
 (∀W,w.grownBy W none→Calls Tryz.prog 77 #[.slice pa h.p.length pc] W fun e w'=>e= .returned (.bool (h.p.all An))∧W.grownBy w' none)
section
variable {w:World}{s vs:Bs}{p:List Bs}{vk vn:Int}{pa la:Option Addr}{pc n lc:Nat}
theorem QM(H:Hid (VaH w ⟨0,s,vk,vn,vs,[]⟩ pa la pc n lc)):
 Calls Tryz.prog 46 #[exV ⟨0,s,vk,vn,vs,[]⟩ (.slice pa (List.length ([]:List Bs)) pc) (.slice la n lc)] w fun e w'=>e= .returned (.bool (Ap ⟨0,s,vk,vn,vs,[]⟩ n))∧w.grownBy w' none:=by
 have HM:=O (show Ap ⟨0,s,vk,vn,vs,[]⟩ n=(s.isEmpty&&n==0&&A2 ⟨0,s,vk,vn,vs,[]⟩)from rfl);by_cases hs:s=[]
 ·have hsI:(s==[])=true:=by simpa using hs
  by_cases hn:n=0
  ·have hnI:((n:Int)==0)=true:=by simp;omega
   have HF:=O (show Ap ⟨0,s,vk,vn,vs,[]⟩ n=A2 ⟨0,s,vk,vn,vs,[]⟩by rw[HM.out];simp[hs,hn]);rw[HF.out];clear HM HF hs hn;have H3:=O H.out.2.2.1;simp only at H3;generalize A2 ⟨0,s,vk,vn,vs,[]⟩=b at*;go_enter func46,ntmps46;go_wp2_with fail;refine(H.out.1 _ ?gg).mono ?_
   case gg=>exact gw
   rintro e w5 ⟨rfl,g5⟩;have hb5:=((Blk.new w (hdC ⟨0,s,vk,vn,vs,[]⟩ (.slice pa ([]:List Bs).length pc) (.slice la n lc)) 27).alloc (.cells #[.int .i64 0,.int .i64 0,.string ⟨#[]⟩] 23 (0,0))).gb g5 (by simp);obtain⟨x_0,x_1,x_2,x_3,x_4,x_5,x_6,x_f⟩:=(hb5).c7;simp only at x_0 x_1 x_2 x_3 x_4 x_5 x_6;have HB:=O hb5;have HG:=O (Aa (Ad (World.grownBy_alloc w (.cells (hdC ⟨0,s,vk,vn,vs,[]⟩ (.slice pa ([]:List Bs).length pc) (.slice la n lc)).toArray 27 (0,0)) none) (.cells #[.int .i64 0,.int .i64 0,.string ⟨#[]⟩] 23 (0,0))) g5);clear g5 hb5;go_wp2_with fail;refine(H3.out _ HG.out).mono ?_;rintro e w6 ⟨rfl,g6⟩;go_wp2;go_ret;exact⟨rfl,Aa HG.out g6⟩
  ·have hnI:((n:Int)==0)=false:=by simp;omega
   have HF:=O (show Ap ⟨0,s,vk,vn,vs,[]⟩ n=false by rw[HM.out];simp[hn]);clear HM hs hn;go_enter func46,ntmps46;go_wp2_with fail;refine(H.out.1 _ ?gg).mono ?_
   case gg=>exact gw
   rintro e w5 ⟨rfl,g5⟩;have hb5:=((Blk.new w (hdC ⟨0,s,vk,vn,vs,[]⟩ (.slice pa ([]:List Bs).length pc) (.slice la n lc)) 27).alloc (.cells #[.int .i64 0,.int .i64 0,.string ⟨#[]⟩] 23 (0,0))).gb g5 (by simp);obtain⟨x_0,x_1,x_2,x_3,x_4,x_5,x_6,x_f⟩:=(hb5).c7;simp only at x_0 x_1 x_2 x_3 x_4 x_5 x_6;have HB:=O hb5;have HG:=O (Aa (Ad (World.grownBy_alloc w (.cells (hdC ⟨0,s,vk,vn,vs,[]⟩ (.slice pa ([]:List Bs).length pc) (.slice la n lc)).toArray 27 (0,0)) none) (.cells #[.int .i64 0,.int .i64 0,.string ⟨#[]⟩] 23 (0,0))) g5);clear g5 hb5;go_wp2;go_ret;exact⟨by rw[HF.out];rfl,HG.out⟩
 ·have hsI:(s==[])=false:=by simpa using hs
  have HF:=O (show Ap ⟨0,s,vk,vn,vs,[]⟩ n=false by rw[HM.out];simp[hs]);clear HM hs;go_enter func46,ntmps46;go_wp2_with fail;refine(H.out.1 _ ?gg).mono ?_
  case gg=>exact gw
  rintro e w5 ⟨rfl,g5⟩;have hb5:=((Blk.new w (hdC ⟨0,s,vk,vn,vs,[]⟩ (.slice pa ([]:List Bs).length pc) (.slice la n lc)) 27).alloc (.cells #[.int .i64 0,.int .i64 0,.string ⟨#[]⟩] 23 (0,0))).gb g5 (by simp);obtain⟨x_0,x_1,x_2,x_3,x_4,x_5,x_6,x_f⟩:=(hb5).c7;simp only at x_0 x_1 x_2 x_3 x_4 x_5 x_6;have HB:=O hb5;have HG:=O (Aa (Ad (World.grownBy_alloc w (.cells (hdC ⟨0,s,vk,vn,vs,[]⟩ (.slice pa ([]:List Bs).length pc) (.slice la n lc)).toArray 27 (0,0)) none) (.cells #[.int .i64 0,.int .i64 0,.string ⟨#[]⟩] 23 (0,0))) g5);clear g5 hb5;go_wp2;go_ret;exact⟨by rw[HF.out];rfl,HG.out⟩
theorem QN(H:Hid (VaH w ⟨1,s,0,0,[],[]⟩ pa la pc n lc)):
 Calls Tryz.prog 46 #[exV ⟨1,s,0,0,[],[]⟩ (.slice pa (List.length ([]:List Bs)) pc) (.slice la n lc)] w fun e w'=>e= .returned (.bool (Ap ⟨1,s,0,0,[],[]⟩ n))∧w.grownBy w' none:=by
 have HM:=O (show Ap ⟨1,s,0,0,[],[]⟩ n=(An s&&n==0)from rfl);have H3:=O H.out.2.1;simp only at H3;cases hb:An s with
 | true=>
   have HF:=O (show Ap ⟨1,s,0,0,[],[]⟩ n=((n:Int)==0)by rw[HM.out,hb,Bool.true_and,Bool.eq_iff_iff];first| (simp;done)| (simp;omega));rw[HF.out];rw[hb]at H3;clear HM HF hb;go_enter func46,ntmps46;go_wp2_with fail;refine(H.out.1 _ ?gg).mono ?_
   case gg=>exact gw
   rintro e w5 ⟨rfl,g5⟩;have hb5:=((Blk.new w (hdC ⟨1,s,0,0,[],[]⟩ (.slice pa ([]:List Bs).length pc) (.slice la n lc)) 27).alloc (.cells #[.int .i64 0,.int .i64 0,.string ⟨#[]⟩] 23 (0,0))).gb g5 (by simp);obtain⟨x_0,x_1,x_2,x_3,x_4,x_5,x_6,x_f⟩:=(hb5).c7;simp only at x_0 x_1 x_2 x_3 x_4 x_5 x_6;have HB:=O hb5;have HG:=O (Aa (Ad (World.grownBy_alloc w (.cells (hdC ⟨1,s,0,0,[],[]⟩ (.slice pa ([]:List Bs).length pc) (.slice la n lc)).toArray 27 (0,0)) none) (.cells #[.int .i64 0,.int .i64 0,.string ⟨#[]⟩] 23 (0,0))) g5);clear g5 hb5;go_wp2_with fail;refine(H3.out _ HG.out).mono ?_;rintro e w6 ⟨rfl,g6⟩;have hb6:=HB.out.gb g6 (by simp);obtain⟨y_0,y_1,y_2,y_3,y_4,y_5,y_6,y_f⟩:=(hb6).c7;simp only at y_0 y_1 y_2 y_3 y_4 y_5 y_6;have HG6:=O (Aa HG.out g6);clear g6 hb6;go_wp2;go_ret;exact⟨rfl,HG6.out⟩
 | false=>
   have HF:=O (show Ap ⟨1,s,0,0,[],[]⟩ n=false by rw[HM.out,hb];rfl);rw[hb]at H3;clear HM hb;go_enter func46,ntmps46;go_wp2_with fail;refine(H.out.1 _ ?gg).mono ?_
   case gg=>exact gw
   rintro e w5 ⟨rfl,g5⟩;have hb5:=((Blk.new w (hdC ⟨1,s,0,0,[],[]⟩ (.slice pa ([]:List Bs).length pc) (.slice la n lc)) 27).alloc (.cells #[.int .i64 0,.int .i64 0,.string ⟨#[]⟩] 23 (0,0))).gb g5 (by simp);obtain⟨x_0,x_1,x_2,x_3,x_4,x_5,x_6,x_f⟩:=(hb5).c7;simp only at x_0 x_1 x_2 x_3 x_4 x_5 x_6;have HB:=O hb5;have HG:=O (Aa (Ad (World.grownBy_alloc w (.cells (hdC ⟨1,s,0,0,[],[]⟩ (.slice pa ([]:List Bs).length pc) (.slice la n lc)).toArray 27 (0,0)) none) (.cells #[.int .i64 0,.int .i64 0,.string ⟨#[]⟩] 23 (0,0))) g5);clear g5 hb5;go_wp2_with fail;refine(H3.out _ HG.out).mono ?_;rintro e w6 ⟨rfl,g6⟩;go_wp2;go_ret;exact⟨by rw[HF.out];rfl,Aa HG.out g6⟩
theorem Pg(H:Hid (VaH w ⟨10,s,0,0,[],[]⟩ pa la pc n lc)):
 Calls Tryz.prog 46 #[exV ⟨10,s,0,0,[],[]⟩ (.slice pa (List.length ([]:List Bs)) pc) (.slice la n lc)] w fun e w'=>e= .returned (.bool (Ap ⟨10,s,0,0,[],[]⟩ n))∧w.grownBy w' none:=by
 have HM:=O (show Ap ⟨10,s,0,0,[],[]⟩ n=(An s&&n==0)from rfl);have H3:=O H.out.2.1;simp only at H3;cases hb:An s with
 | true=>
   have HF:=O (show Ap ⟨10,s,0,0,[],[]⟩ n=((n:Int)==0)by rw[HM.out,hb,Bool.true_and,Bool.eq_iff_iff];first| (simp;done)| (simp;omega));rw[HF.out];rw[hb]at H3;clear HM HF hb;go_enter func46,ntmps46;go_wp2_with fail;refine(H.out.1 _ ?gg).mono ?_
   case gg=>exact gw
   rintro e w5 ⟨rfl,g5⟩;have hb5:=((Blk.new w (hdC ⟨10,s,0,0,[],[]⟩ (.slice pa ([]:List Bs).length pc) (.slice la n lc)) 27).alloc (.cells #[.int .i64 0,.int .i64 0,.string ⟨#[]⟩] 23 (0,0))).gb g5 (by simp);obtain⟨x_0,x_1,x_2,x_3,x_4,x_5,x_6,x_f⟩:=(hb5).c7;simp only at x_0 x_1 x_2 x_3 x_4 x_5 x_6;have HB:=O hb5;have HG:=O (Aa (Ad (World.grownBy_alloc w (.cells (hdC ⟨10,s,0,0,[],[]⟩ (.slice pa ([]:List Bs).length pc) (.slice la n lc)).toArray 27 (0,0)) none) (.cells #[.int .i64 0,.int .i64 0,.string ⟨#[]⟩] 23 (0,0))) g5);clear g5 hb5;go_wp2_with fail;refine(H3.out _ HG.out).mono ?_;rintro e w6 ⟨rfl,g6⟩;have hb6:=HB.out.gb g6 (by simp);obtain⟨y_0,y_1,y_2,y_3,y_4,y_5,y_6,y_f⟩:=(hb6).c7;simp only at y_0 y_1 y_2 y_3 y_4 y_5 y_6;have HG6:=O (Aa HG.out g6);clear g6 hb6;go_wp2;go_ret;exact⟨rfl,HG6.out⟩
 | false=>
   have HF:=O (show Ap ⟨10,s,0,0,[],[]⟩ n=false by rw[HM.out,hb];rfl);rw[hb]at H3;clear HM hb;go_enter func46,ntmps46;go_wp2_with fail;refine(H.out.1 _ ?gg).mono ?_
   case gg=>exact gw
   rintro e w5 ⟨rfl,g5⟩;have hb5:=((Blk.new w (hdC ⟨10,s,0,0,[],[]⟩ (.slice pa ([]:List Bs).length pc) (.slice la n lc)) 27).alloc (.cells #[.int .i64 0,.int .i64 0,.string ⟨#[]⟩] 23 (0,0))).gb g5 (by simp);obtain⟨x_0,x_1,x_2,x_3,x_4,x_5,x_6,x_f⟩:=(hb5).c7;simp only at x_0 x_1 x_2 x_3 x_4 x_5 x_6;have HB:=O hb5;have HG:=O (Aa (Ad (World.grownBy_alloc w (.cells (hdC ⟨10,s,0,0,[],[]⟩ (.slice pa ([]:List Bs).length pc) (.slice la n lc)).toArray 27 (0,0)) none) (.cells #[.int .i64 0,.int .i64 0,.string ⟨#[]⟩] 23 (0,0))) g5);clear g5 hb5;go_wp2_with fail;refine(H3.out _ HG.out).mono ?_;rintro e w6 ⟨rfl,g6⟩;go_wp2;go_ret;exact⟨by rw[HF.out];rfl,Aa HG.out g6⟩
theorem QO(H:Hid (VaH w ⟨2,s,0,0,[],[]⟩ pa la pc n lc)):
 Calls Tryz.prog 46 #[exV ⟨2,s,0,0,[],[]⟩ (.slice pa (List.length ([]:List Bs)) pc) (.slice la n lc)] w fun e w'=>e= .returned (.bool (Ap ⟨2,s,0,0,[],[]⟩ n))∧w.grownBy w' none:=by
 have HM:=O (show Ap ⟨2,s,0,0,[],[]⟩ n=(An s&&n==1)from rfl);have H3:=O H.out.2.1;simp only at H3;cases hb:An s with
 | true=>
   have HF:=O (show Ap ⟨2,s,0,0,[],[]⟩ n=((n:Int)==1)by rw[HM.out,hb,Bool.true_and,Bool.eq_iff_iff];first| (simp;done)| (simp;omega));rw[HF.out];rw[hb]at H3;clear HM HF hb;go_enter func46,ntmps46;go_wp2_with fail;refine(H.out.1 _ ?gg).mono ?_
   case gg=>exact gw
   rintro e w5 ⟨rfl,g5⟩;have hb5:=((Blk.new w (hdC ⟨2,s,0,0,[],[]⟩ (.slice pa ([]:List Bs).length pc) (.slice la n lc)) 27).alloc (.cells #[.int .i64 0,.int .i64 0,.string ⟨#[]⟩] 23 (0,0))).gb g5 (by simp);obtain⟨x_0,x_1,x_2,x_3,x_4,x_5,x_6,x_f⟩:=(hb5).c7;simp only at x_0 x_1 x_2 x_3 x_4 x_5 x_6;have HB:=O hb5;have HG:=O (Aa (Ad (World.grownBy_alloc w (.cells (hdC ⟨2,s,0,0,[],[]⟩ (.slice pa ([]:List Bs).length pc) (.slice la n lc)).toArray 27 (0,0)) none) (.cells #[.int .i64 0,.int .i64 0,.string ⟨#[]⟩] 23 (0,0))) g5);clear g5 hb5;go_wp2_with fail;refine(H3.out _ HG.out).mono ?_;rintro e w6 ⟨rfl,g6⟩;have hb6:=HB.out.gb g6 (by simp);obtain⟨y_0,y_1,y_2,y_3,y_4,y_5,y_6,y_f⟩:=(hb6).c7;simp only at y_0 y_1 y_2 y_3 y_4 y_5 y_6;have HG6:=O (Aa HG.out g6);clear g6 hb6;go_wp2;go_ret;exact⟨rfl,HG6.out⟩
 | false=>
   have HF:=O (show Ap ⟨2,s,0,0,[],[]⟩ n=false by rw[HM.out,hb];rfl);rw[hb]at H3;clear HM hb;go_enter func46,ntmps46;go_wp2_with fail;refine(H.out.1 _ ?gg).mono ?_
   case gg=>exact gw
   rintro e w5 ⟨rfl,g5⟩;have hb5:=((Blk.new w (hdC ⟨2,s,0,0,[],[]⟩ (.slice pa ([]:List Bs).length pc) (.slice la n lc)) 27).alloc (.cells #[.int .i64 0,.int .i64 0,.string ⟨#[]⟩] 23 (0,0))).gb g5 (by simp);obtain⟨x_0,x_1,x_2,x_3,x_4,x_5,x_6,x_f⟩:=(hb5).c7;simp only at x_0 x_1 x_2 x_3 x_4 x_5 x_6;have HB:=O hb5;have HG:=O (Aa (Ad (World.grownBy_alloc w (.cells (hdC ⟨2,s,0,0,[],[]⟩ (.slice pa ([]:List Bs).length pc) (.slice la n lc)).toArray 27 (0,0)) none) (.cells #[.int .i64 0,.int .i64 0,.string ⟨#[]⟩] 23 (0,0))) g5);clear g5 hb5;go_wp2_with fail;refine(H3.out _ HG.out).mono ?_;rintro e w6 ⟨rfl,g6⟩;go_wp2;go_ret;exact⟨by rw[HF.out];rfl,Aa HG.out g6⟩
theorem QP(H:Hid (VaH w ⟨3,s,0,0,[],[]⟩ pa la pc n lc)):
 Calls Tryz.prog 46 #[exV ⟨3,s,0,0,[],[]⟩ (.slice pa (List.length ([]:List Bs)) pc) (.slice la n lc)] w fun e w'=>e= .returned (.bool (Ap ⟨3,s,0,0,[],[]⟩ n))∧w.grownBy w' none:=by
 have HM:=O (show Ap ⟨3,s,0,0,[],[]⟩ n=An s from rfl);rw[HM.out];clear HM;have H3:=O H.out.2.1;simp only at H3;generalize An s=b at*;go_enter func46,ntmps46;go_wp2_with fail;refine(H.out.1 _ ?gg).mono ?_
 case gg=>exact gw
 rintro e w5 ⟨rfl,g5⟩;have hb5:=((Blk.new w (hdC ⟨3,s,0,0,[],[]⟩ (.slice pa ([]:List Bs).length pc) (.slice la n lc)) 27).alloc (.cells #[.int .i64 0,.int .i64 0,.string ⟨#[]⟩] 23 (0,0))).gb g5 (by simp);obtain⟨x_0,x_1,x_2,x_3,x_4,x_5,x_6,x_f⟩:=(hb5).c7;simp only at x_0 x_1 x_2 x_3 x_4 x_5 x_6;have HB:=O hb5;have HG:=O (Aa (Ad (World.grownBy_alloc w (.cells (hdC ⟨3,s,0,0,[],[]⟩ (.slice pa ([]:List Bs).length pc) (.slice la n lc)).toArray 27 (0,0)) none) (.cells #[.int .i64 0,.int .i64 0,.string ⟨#[]⟩] 23 (0,0))) g5);clear g5 hb5;go_wp2_with fail;refine(H3.out _ HG.out).mono ?_;rintro e w6 ⟨rfl,g6⟩;go_wp2;go_ret;exact⟨rfl,Aa HG.out g6⟩
theorem QQ(H:Hid (VaH w ⟨4,s,0,0,[],[]⟩ pa la pc n lc)):
 Calls Tryz.prog 46 #[exV ⟨4,s,0,0,[],[]⟩ (.slice pa (List.length ([]:List Bs)) pc) (.slice la n lc)] w fun e w'=>e= .returned (.bool (Ap ⟨4,s,0,0,[],[]⟩ n))∧w.grownBy w' none:=by
 have HM:=O (show Ap ⟨4,s,0,0,[],[]⟩ n=((s==[45]||s==[46,78,79,84,46])&&n==1)from rfl);cases h1:(s==[45])with
 | true=>
   have HF:=O (show Ap ⟨4,s,0,0,[],[]⟩ n=((n:Int)==1)by rw[HM.out,h1,Bool.true_or,Bool.true_and,Bool.eq_iff_iff];first| (simp;done)| (simp;omega));clear HM;go_enter func46,ntmps46;go_wp2_with fail;refine(H.out.1 _ ?gg).mono ?_
   case gg=>exact gw
   rintro e w5 ⟨rfl,g5⟩;have hb5:=((Blk.new w (hdC ⟨4,s,0,0,[],[]⟩ (.slice pa ([]:List Bs).length pc) (.slice la n lc)) 27).alloc (.cells #[.int .i64 0,.int .i64 0,.string ⟨#[]⟩] 23 (0,0))).gb g5 (by simp);obtain⟨x_0,x_1,x_2,x_3,x_4,x_5,x_6,x_f⟩:=(hb5).c7;simp only at x_0 x_1 x_2 x_3 x_4 x_5 x_6;have HB:=O hb5;have HG:=O (Aa (Ad (World.grownBy_alloc w (.cells (hdC ⟨4,s,0,0,[],[]⟩ (.slice pa ([]:List Bs).length pc) (.slice la n lc)).toArray 27 (0,0)) none) (.cells #[.int .i64 0,.int .i64 0,.string ⟨#[]⟩] 23 (0,0))) g5);clear g5 hb5;go_wp2;go_ret;exact⟨by rw[HF.out];rfl,HG.out⟩
 | false=>
   cases h2:(s==[46,78,79,84,46])with
   | true=>
     have HF:=O (show Ap ⟨4,s,0,0,[],[]⟩ n=((n:Int)==1)by rw[HM.out,h1,h2,Bool.false_or,Bool.true_and,Bool.eq_iff_iff];first| (simp;done)| (simp;omega));clear HM;go_enter func46,ntmps46;go_wp2_with fail;refine(H.out.1 _ ?gg).mono ?_
     case gg=>exact gw
     rintro e w5 ⟨rfl,g5⟩;have hb5:=((Blk.new w (hdC ⟨4,s,0,0,[],[]⟩ (.slice pa ([]:List Bs).length pc) (.slice la n lc)) 27).alloc (.cells #[.int .i64 0,.int .i64 0,.string ⟨#[]⟩] 23 (0,0))).gb g5 (by simp);obtain⟨x_0,x_1,x_2,x_3,x_4,x_5,x_6,x_f⟩:=(hb5).c7;simp only at x_0 x_1 x_2 x_3 x_4 x_5 x_6;have HB:=O hb5;have HG:=O (Aa (Ad (World.grownBy_alloc w (.cells (hdC ⟨4,s,0,0,[],[]⟩ (.slice pa ([]:List Bs).length pc) (.slice la n lc)).toArray 27 (0,0)) none) (.cells #[.int .i64 0,.int .i64 0,.string ⟨#[]⟩] 23 (0,0))) g5);clear g5 hb5;go_wp2;go_ret;exact⟨by rw[HF.out];rfl,HG.out⟩
   | false=>
     have HF:=O (show Ap ⟨4,s,0,0,[],[]⟩ n=false by rw[HM.out,h1,h2];rfl);clear HM;go_enter func46,ntmps46;go_wp2_with fail;refine(H.out.1 _ ?gg).mono ?_
     case gg=>exact gw
     rintro e w5 ⟨rfl,g5⟩;have hb5:=((Blk.new w (hdC ⟨4,s,0,0,[],[]⟩ (.slice pa ([]:List Bs).length pc) (.slice la n lc)) 27).alloc (.cells #[.int .i64 0,.int .i64 0,.string ⟨#[]⟩] 23 (0,0))).gb g5 (by simp);obtain⟨x_0,x_1,x_2,x_3,x_4,x_5,x_6,x_f⟩:=(hb5).c7;simp only at x_0 x_1 x_2 x_3 x_4 x_5 x_6;have HB:=O hb5;have HG:=O (Aa (Ad (World.grownBy_alloc w (.cells (hdC ⟨4,s,0,0,[],[]⟩ (.slice pa ([]:List Bs).length pc) (.slice la n lc)).toArray 27 (0,0)) none) (.cells #[.int .i64 0,.int .i64 0,.string ⟨#[]⟩] 23 (0,0))) g5);clear g5 hb5;go_wp2;go_ret;exact⟨by rw[HF.out];rfl,HG.out⟩
theorem QR(H:Hid (VaH w ⟨5,s,0,0,[],[]⟩ pa la pc n lc)):
 Calls Tryz.prog 46 #[exV ⟨5,s,0,0,[],[]⟩ (.slice pa (List.length ([]:List Bs)) pc) (.slice la n lc)] w fun e w'=>e= .returned (.bool (Ap ⟨5,s,0,0,[],[]⟩ n))∧w.grownBy w' none:=by
 have HM:=O (show Ap ⟨5,s,0,0,[],[]⟩ n=(opsL.contains s&&n==2)from rfl);have H3:=O H.out.2.2.2.1;simp only at H3;cases hb:opsL.contains s with
 | true=>
   have HF:=O (show Ap ⟨5,s,0,0,[],[]⟩ n=((n:Int)==2)by rw[HM.out,hb,Bool.true_and,Bool.eq_iff_iff];first| (simp;done)| (simp;omega));rw[HF.out];rw[hb]at H3;clear HM HF hb;go_enter func46,ntmps46;go_wp2_with fail;refine(H.out.1 _ ?gg).mono ?_
   case gg=>exact gw
   rintro e w5 ⟨rfl,g5⟩;have hb5:=((Blk.new w (hdC ⟨5,s,0,0,[],[]⟩ (.slice pa ([]:List Bs).length pc) (.slice la n lc)) 27).alloc (.cells #[.int .i64 0,.int .i64 0,.string ⟨#[]⟩] 23 (0,0))).gb g5 (by simp);obtain⟨x_0,x_1,x_2,x_3,x_4,x_5,x_6,x_f⟩:=(hb5).c7;simp only at x_0 x_1 x_2 x_3 x_4 x_5 x_6;have HB:=O hb5;have HG:=O (Aa (Ad (World.grownBy_alloc w (.cells (hdC ⟨5,s,0,0,[],[]⟩ (.slice pa ([]:List Bs).length pc) (.slice la n lc)).toArray 27 (0,0)) none) (.cells #[.int .i64 0,.int .i64 0,.string ⟨#[]⟩] 23 (0,0))) g5);clear g5 hb5;go_wp2_with fail;refine(H3.out _ HG.out).mono ?_;rintro e w6 ⟨rfl,g6⟩;have hb6:=HB.out.gb g6 (by simp);obtain⟨y_0,y_1,y_2,y_3,y_4,y_5,y_6,y_f⟩:=(hb6).c7;simp only at y_0 y_1 y_2 y_3 y_4 y_5 y_6;have HG6:=O (Aa HG.out g6);clear g6 hb6;go_wp2;go_ret;exact⟨rfl,HG6.out⟩
 | false=>
   have HF:=O (show Ap ⟨5,s,0,0,[],[]⟩ n=false by rw[HM.out,hb];rfl);rw[hb]at H3;clear HM hb;go_enter func46,ntmps46;go_wp2_with fail;refine(H.out.1 _ ?gg).mono ?_
   case gg=>exact gw
   rintro e w5 ⟨rfl,g5⟩;have hb5:=((Blk.new w (hdC ⟨5,s,0,0,[],[]⟩ (.slice pa ([]:List Bs).length pc) (.slice la n lc)) 27).alloc (.cells #[.int .i64 0,.int .i64 0,.string ⟨#[]⟩] 23 (0,0))).gb g5 (by simp);obtain⟨x_0,x_1,x_2,x_3,x_4,x_5,x_6,x_f⟩:=(hb5).c7;simp only at x_0 x_1 x_2 x_3 x_4 x_5 x_6;have HB:=O hb5;have HG:=O (Aa (Ad (World.grownBy_alloc w (.cells (hdC ⟨5,s,0,0,[],[]⟩ (.slice pa ([]:List Bs).length pc) (.slice la n lc)).toArray 27 (0,0)) none) (.cells #[.int .i64 0,.int .i64 0,.string ⟨#[]⟩] 23 (0,0))) g5);clear g5 hb5;go_wp2_with fail;refine(H3.out _ HG.out).mono ?_;rintro e w6 ⟨rfl,g6⟩;go_wp2;go_ret;exact⟨by rw[HF.out];rfl,Aa HG.out g6⟩
theorem QS(H:Hid (VaH w ⟨6,s,0,0,[],[]⟩ pa la pc n lc)):
 Calls Tryz.prog 46 #[exV ⟨6,s,0,0,[],[]⟩ (.slice pa (List.length ([]:List Bs)) pc) (.slice la n lc)] w fun e w'=>e= .returned (.bool (Ap ⟨6,s,0,0,[],[]⟩ n))∧w.grownBy w' none:=by
 have HM:=O (show Ap ⟨6,s,0,0,[],[]⟩ n=(s.isEmpty&&n==2)from rfl);by_cases hs:s=[]
 ·have hsI:(s==[])=true:=by simpa using hs
  by_cases hn:n=2
  ·have hnI:((n:Int)==2)=true:=by simp;omega
   have HF:=O (show Ap ⟨6,s,0,0,[],[]⟩ n=true by rw[HM.out];simp[hs,hn]);clear HM hs hn;go_enter func46,ntmps46;go_wp2_with fail;refine(H.out.1 _ ?gg).mono ?_
   case gg=>exact gw
   rintro e w5 ⟨rfl,g5⟩;have hb5:=((Blk.new w (hdC ⟨6,s,0,0,[],[]⟩ (.slice pa ([]:List Bs).length pc) (.slice la n lc)) 27).alloc (.cells #[.int .i64 0,.int .i64 0,.string ⟨#[]⟩] 23 (0,0))).gb g5 (by simp);obtain⟨x_0,x_1,x_2,x_3,x_4,x_5,x_6,x_f⟩:=(hb5).c7;simp only at x_0 x_1 x_2 x_3 x_4 x_5 x_6;have HB:=O hb5;have HG:=O (Aa (Ad (World.grownBy_alloc w (.cells (hdC ⟨6,s,0,0,[],[]⟩ (.slice pa ([]:List Bs).length pc) (.slice la n lc)).toArray 27 (0,0)) none) (.cells #[.int .i64 0,.int .i64 0,.string ⟨#[]⟩] 23 (0,0))) g5);clear g5 hb5;go_wp2;go_ret;exact⟨by rw[HF.out];rfl,HG.out⟩
  ·have hnI:((n:Int)==2)=false:=by simp;omega
   have HF:=O (show Ap ⟨6,s,0,0,[],[]⟩ n=false by rw[HM.out];simp[hn]);clear HM hs hn;go_enter func46,ntmps46;go_wp2_with fail;refine(H.out.1 _ ?gg).mono ?_
   case gg=>exact gw
   rintro e w5 ⟨rfl,g5⟩;have hb5:=((Blk.new w (hdC ⟨6,s,0,0,[],[]⟩ (.slice pa ([]:List Bs).length pc) (.slice la n lc)) 27).alloc (.cells #[.int .i64 0,.int .i64 0,.string ⟨#[]⟩] 23 (0,0))).gb g5 (by simp);obtain⟨x_0,x_1,x_2,x_3,x_4,x_5,x_6,x_f⟩:=(hb5).c7;simp only at x_0 x_1 x_2 x_3 x_4 x_5 x_6;have HB:=O hb5;have HG:=O (Aa (Ad (World.grownBy_alloc w (.cells (hdC ⟨6,s,0,0,[],[]⟩ (.slice pa ([]:List Bs).length pc) (.slice la n lc)).toArray 27 (0,0)) none) (.cells #[.int .i64 0,.int .i64 0,.string ⟨#[]⟩] 23 (0,0))) g5);clear g5 hb5;go_wp2;go_ret;exact⟨by rw[HF.out];rfl,HG.out⟩
 ·have hsI:(s==[])=false:=by simpa using hs
  have HF:=O (show Ap ⟨6,s,0,0,[],[]⟩ n=false by rw[HM.out];simp[hs]);clear HM hs;go_enter func46,ntmps46;go_wp2_with fail;refine(H.out.1 _ ?gg).mono ?_
  case gg=>exact gw
  rintro e w5 ⟨rfl,g5⟩;have hb5:=((Blk.new w (hdC ⟨6,s,0,0,[],[]⟩ (.slice pa ([]:List Bs).length pc) (.slice la n lc)) 27).alloc (.cells #[.int .i64 0,.int .i64 0,.string ⟨#[]⟩] 23 (0,0))).gb g5 (by simp);obtain⟨x_0,x_1,x_2,x_3,x_4,x_5,x_6,x_f⟩:=(hb5).c7;simp only at x_0 x_1 x_2 x_3 x_4 x_5 x_6;have HB:=O hb5;have HG:=O (Aa (Ad (World.grownBy_alloc w (.cells (hdC ⟨6,s,0,0,[],[]⟩ (.slice pa ([]:List Bs).length pc) (.slice la n lc)).toArray 27 (0,0)) none) (.cells #[.int .i64 0,.int .i64 0,.string ⟨#[]⟩] 23 (0,0))) g5);clear g5 hb5;go_wp2;go_ret;exact⟨by rw[HF.out];rfl,HG.out⟩
theorem QT(H:Hid (VaH w ⟨7,s,0,0,[],[]⟩ pa la pc n lc)):
 Calls Tryz.prog 46 #[exV ⟨7,s,0,0,[],[]⟩ (.slice pa (List.length ([]:List Bs)) pc) (.slice la n lc)] w fun e w'=>e= .returned (.bool (Ap ⟨7,s,0,0,[],[]⟩ n))∧w.grownBy w' none:=by
 have HM:=O (show Ap ⟨7,s,0,0,[],[]⟩ n=(s.isEmpty&&decide (1≤n))from rfl);by_cases hs:s=[]
 ·have hsI:(s==[])=true:=by simpa using hs
  by_cases hn:1≤n
  ·have hnI:(decide ((1:Int)≤(n:Int)))=true:=by simp;omega
   have HF:=O (show Ap ⟨7,s,0,0,[],[]⟩ n=true by rw[HM.out];simp[hs,hn]);clear HM hs hn;go_enter func46,ntmps46;go_wp2_with fail;refine(H.out.1 _ ?gg).mono ?_
   case gg=>exact gw
   rintro e w5 ⟨rfl,g5⟩;have hb5:=((Blk.new w (hdC ⟨7,s,0,0,[],[]⟩ (.slice pa ([]:List Bs).length pc) (.slice la n lc)) 27).alloc (.cells #[.int .i64 0,.int .i64 0,.string ⟨#[]⟩] 23 (0,0))).gb g5 (by simp);obtain⟨x_0,x_1,x_2,x_3,x_4,x_5,x_6,x_f⟩:=(hb5).c7;simp only at x_0 x_1 x_2 x_3 x_4 x_5 x_6;have HB:=O hb5;have HG:=O (Aa (Ad (World.grownBy_alloc w (.cells (hdC ⟨7,s,0,0,[],[]⟩ (.slice pa ([]:List Bs).length pc) (.slice la n lc)).toArray 27 (0,0)) none) (.cells #[.int .i64 0,.int .i64 0,.string ⟨#[]⟩] 23 (0,0))) g5);clear g5 hb5;go_wp2;go_ret;exact⟨by rw[HF.out];rfl,HG.out⟩
  ·have hnI:(decide ((1:Int)≤(n:Int)))=false:=by simp;omega
   have HF:=O (show Ap ⟨7,s,0,0,[],[]⟩ n=false by rw[HM.out];simp[hn]);clear HM hs hn;go_enter func46,ntmps46;go_wp2_with fail;refine(H.out.1 _ ?gg).mono ?_
   case gg=>exact gw
   rintro e w5 ⟨rfl,g5⟩;have hb5:=((Blk.new w (hdC ⟨7,s,0,0,[],[]⟩ (.slice pa ([]:List Bs).length pc) (.slice la n lc)) 27).alloc (.cells #[.int .i64 0,.int .i64 0,.string ⟨#[]⟩] 23 (0,0))).gb g5 (by simp);obtain⟨x_0,x_1,x_2,x_3,x_4,x_5,x_6,x_f⟩:=(hb5).c7;simp only at x_0 x_1 x_2 x_3 x_4 x_5 x_6;have HB:=O hb5;have HG:=O (Aa (Ad (World.grownBy_alloc w (.cells (hdC ⟨7,s,0,0,[],[]⟩ (.slice pa ([]:List Bs).length pc) (.slice la n lc)).toArray 27 (0,0)) none) (.cells #[.int .i64 0,.int .i64 0,.string ⟨#[]⟩] 23 (0,0))) g5);clear g5 hb5;go_wp2;go_ret;exact⟨by rw[HF.out];rfl,HG.out⟩
 ·have hsI:(s==[])=false:=by simpa using hs
  have HF:=O (show Ap ⟨7,s,0,0,[],[]⟩ n=false by rw[HM.out];simp[hs]);clear HM hs;go_enter func46,ntmps46;go_wp2_with fail;refine(H.out.1 _ ?gg).mono ?_
  case gg=>exact gw
  rintro e w5 ⟨rfl,g5⟩;have hb5:=((Blk.new w (hdC ⟨7,s,0,0,[],[]⟩ (.slice pa ([]:List Bs).length pc) (.slice la n lc)) 27).alloc (.cells #[.int .i64 0,.int .i64 0,.string ⟨#[]⟩] 23 (0,0))).gb g5 (by simp);obtain⟨x_0,x_1,x_2,x_3,x_4,x_5,x_6,x_f⟩:=(hb5).c7;simp only at x_0 x_1 x_2 x_3 x_4 x_5 x_6;have HB:=O hb5;have HG:=O (Aa (Ad (World.grownBy_alloc w (.cells (hdC ⟨7,s,0,0,[],[]⟩ (.slice pa ([]:List Bs).length pc) (.slice la n lc)).toArray 27 (0,0)) none) (.cells #[.int .i64 0,.int .i64 0,.string ⟨#[]⟩] 23 (0,0))) g5);clear g5 hb5;go_wp2;go_ret;exact⟨by rw[HF.out];rfl,HG.out⟩
theorem QU(H:Hid (VaH w ⟨8,s,0,0,[],p⟩ pa la pc n lc)):
 Calls Tryz.prog 46 #[exV ⟨8,s,0,0,[],p⟩ (.slice pa p.length pc) (.slice la n lc)] w fun e w'=>e= .returned (.bool (Ap ⟨8,s,0,0,[],p⟩ n))∧w.grownBy w' none:=by
 have HM:=O (show Ap ⟨8,s,0,0,[],p⟩ n=(s.isEmpty&&n==1&&p.all An)from rfl);by_cases hs:s=[]
 ·have hsI:(s==[])=true:=by simpa using hs
  by_cases hn:n=1
  ·have hnI:((n:Int)==1)=true:=by simp;omega
   have HF:=O (show Ap ⟨8,s,0,0,[],p⟩ n=p.all An by rw[HM.out];simp[hs,hn]);rw[HF.out];clear HM HF hs hn;have H3:=O H.out.2.2.2.2;simp only at H3;generalize p.all An=b at*;go_enter func46,ntmps46;go_wp2_with fail;refine(H.out.1 _ ?gg).mono ?_
   case gg=>exact gw
   rintro e w5 ⟨rfl,g5⟩;have hb5:=((Blk.new w (hdC ⟨8,s,0,0,[],p⟩ (.slice pa (p:List Bs).length pc) (.slice la n lc)) 27).alloc (.cells #[.int .i64 0,.int .i64 0,.string ⟨#[]⟩] 23 (0,0))).gb g5 (by simp);obtain⟨x_0,x_1,x_2,x_3,x_4,x_5,x_6,x_f⟩:=(hb5).c7;simp only at x_0 x_1 x_2 x_3 x_4 x_5 x_6;have HB:=O hb5;have HG:=O (Aa (Ad (World.grownBy_alloc w (.cells (hdC ⟨8,s,0,0,[],p⟩ (.slice pa (p:List Bs).length pc) (.slice la n lc)).toArray 27 (0,0)) none) (.cells #[.int .i64 0,.int .i64 0,.string ⟨#[]⟩] 23 (0,0))) g5);clear g5 hb5;go_wp2_with fail;refine(H3.out _ HG.out).mono ?_;rintro e w6 ⟨rfl,g6⟩;go_wp2;go_ret;exact⟨rfl,Aa HG.out g6⟩
  ·have hnI:((n:Int)==1)=false:=by simp;omega
   have HF:=O (show Ap ⟨8,s,0,0,[],p⟩ n=false by rw[HM.out];simp[hn]);clear HM hs hn;go_enter func46,ntmps46;go_wp2_with fail;refine(H.out.1 _ ?gg).mono ?_
   case gg=>exact gw
   rintro e w5 ⟨rfl,g5⟩;have hb5:=((Blk.new w (hdC ⟨8,s,0,0,[],p⟩ (.slice pa (p:List Bs).length pc) (.slice la n lc)) 27).alloc (.cells #[.int .i64 0,.int .i64 0,.string ⟨#[]⟩] 23 (0,0))).gb g5 (by simp);obtain⟨x_0,x_1,x_2,x_3,x_4,x_5,x_6,x_f⟩:=(hb5).c7;simp only at x_0 x_1 x_2 x_3 x_4 x_5 x_6;have HB:=O hb5;have HG:=O (Aa (Ad (World.grownBy_alloc w (.cells (hdC ⟨8,s,0,0,[],p⟩ (.slice pa (p:List Bs).length pc) (.slice la n lc)).toArray 27 (0,0)) none) (.cells #[.int .i64 0,.int .i64 0,.string ⟨#[]⟩] 23 (0,0))) g5);clear g5 hb5;go_wp2;go_ret;exact⟨by rw[HF.out];rfl,HG.out⟩
 ·have hsI:(s==[])=false:=by simpa using hs
  have HF:=O (show Ap ⟨8,s,0,0,[],p⟩ n=false by rw[HM.out];simp[hs]);clear HM hs;go_enter func46,ntmps46;go_wp2_with fail;refine(H.out.1 _ ?gg).mono ?_
  case gg=>exact gw
  rintro e w5 ⟨rfl,g5⟩;have hb5:=((Blk.new w (hdC ⟨8,s,0,0,[],p⟩ (.slice pa (p:List Bs).length pc) (.slice la n lc)) 27).alloc (.cells #[.int .i64 0,.int .i64 0,.string ⟨#[]⟩] 23 (0,0))).gb g5 (by simp);obtain⟨x_0,x_1,x_2,x_3,x_4,x_5,x_6,x_f⟩:=(hb5).c7;simp only at x_0 x_1 x_2 x_3 x_4 x_5 x_6;have HB:=O hb5;have HG:=O (Aa (Ad (World.grownBy_alloc w (.cells (hdC ⟨8,s,0,0,[],p⟩ (.slice pa (p:List Bs).length pc) (.slice la n lc)).toArray 27 (0,0)) none) (.cells #[.int .i64 0,.int .i64 0,.string ⟨#[]⟩] 23 (0,0))) g5);clear g5 hb5;go_wp2;go_ret;exact⟨by rw[HF.out];rfl,HG.out⟩
theorem QV(H:Hid (VaH w ⟨9,s,0,0,[],[]⟩ pa la pc n lc)):
 Calls Tryz.prog 46 #[exV ⟨9,s,0,0,[],[]⟩ (.slice pa (List.length ([]:List Bs)) pc) (.slice la n lc)] w fun e w'=>e= .returned (.bool (Ap ⟨9,s,0,0,[],[]⟩ n))∧w.grownBy w' none:=by
 have HM:=O (show Ap ⟨9,s,0,0,[],[]⟩ n=((An s&&n==0)||(s.isEmpty&&n==1))from rfl);have H3:=O H.out.2.1;simp only at H3;cases hb:(An s&&n==0)with
 | true=>
   obtain⟨hb1,hb2⟩:=(Bool.and_eq_true _ _).mp hb;have hnI:((n:Int)==0)=true:=by simpa using hb2
   have HF:=O (show Ap ⟨9,s,0,0,[],[]⟩ n=true by rw[HM.out,hb];rfl);rw[hb1]at H3;clear HM hb hb1 hb2;go_enter func46,ntmps46;go_wp2_with fail;refine(H.out.1 _ ?gg).mono ?_
   case gg=>exact gw
   rintro e w5 ⟨rfl,g5⟩;have hb5:=((Blk.new w (hdC ⟨9,s,0,0,[],[]⟩ (.slice pa ([]:List Bs).length pc) (.slice la n lc)) 27).alloc (.cells #[.int .i64 0,.int .i64 0,.string ⟨#[]⟩] 23 (0,0))).gb g5 (by simp);obtain⟨x_0,x_1,x_2,x_3,x_4,x_5,x_6,x_f⟩:=(hb5).c7;simp only at x_0 x_1 x_2 x_3 x_4 x_5 x_6;have HB:=O hb5;have HG:=O (Aa (Ad (World.grownBy_alloc w (.cells (hdC ⟨9,s,0,0,[],[]⟩ (.slice pa ([]:List Bs).length pc) (.slice la n lc)).toArray 27 (0,0)) none) (.cells #[.int .i64 0,.int .i64 0,.string ⟨#[]⟩] 23 (0,0))) g5);clear g5 hb5;go_wp2_with fail;refine(H3.out _ HG.out).mono ?_;rintro e w6 ⟨rfl,g6⟩;have hb6:=HB.out.gb g6 (by simp);obtain⟨y_0,y_1,y_2,y_3,y_4,y_5,y_6,y_f⟩:=(hb6).c7;simp only at y_0 y_1 y_2 y_3 y_4 y_5 y_6;have HG6:=O (Aa HG.out g6);clear g6 hb6;go_wp2;go_ret;exact⟨by rw[HF.out];rfl,HG6.out⟩
 | false=>
   have HF0:=O (show Ap ⟨9,s,0,0,[],[]⟩ n=(s.isEmpty&&n==1)by rw[HM.out,hb];rfl);clear HM;cases hs:(s==[])with
   | true=>
     have HF:=O (show Ap ⟨9,s,0,0,[],[]⟩ n=((n:Int)==1)by rw[HF0.out,show s.isEmpty=true by simpa using hs,Bool.true_and,Bool.eq_iff_iff];first| (simp;done)| (simp;omega));have hn:An s=false:=by rw[show s=[]by simpa using hs];rfl
     rw[hn]at H3;clear HF0 hb hn;go_enter func46,ntmps46;go_wp2_with fail;refine(H.out.1 _ ?gg).mono ?_
     case gg=>exact gw
     rintro e w5 ⟨rfl,g5⟩;have hb5:=((Blk.new w (hdC ⟨9,s,0,0,[],[]⟩ (.slice pa ([]:List Bs).length pc) (.slice la n lc)) 27).alloc (.cells #[.int .i64 0,.int .i64 0,.string ⟨#[]⟩] 23 (0,0))).gb g5 (by simp);obtain⟨x_0,x_1,x_2,x_3,x_4,x_5,x_6,x_f⟩:=(hb5).c7;simp only at x_0 x_1 x_2 x_3 x_4 x_5 x_6;have HB:=O hb5;have HG:=O (Aa (Ad (World.grownBy_alloc w (.cells (hdC ⟨9,s,0,0,[],[]⟩ (.slice pa ([]:List Bs).length pc) (.slice la n lc)).toArray 27 (0,0)) none) (.cells #[.int .i64 0,.int .i64 0,.string ⟨#[]⟩] 23 (0,0))) g5);clear g5 hb5;go_wp2_with fail;refine(H3.out _ HG.out).mono ?_;rintro e w6 ⟨rfl,g6⟩;have hb6:=HB.out.gb g6 (by simp);obtain⟨y_0,y_1,y_2,y_3,y_4,y_5,y_6,y_f⟩:=(hb6).c7;simp only at y_0 y_1 y_2 y_3 y_4 y_5 y_6;have HG6:=O (Aa HG.out g6);clear g6 hb6;go_wp2;go_ret;exact⟨by rw[HF.out];rfl,HG6.out⟩
   | false=>
     have HF:=O (show Ap ⟨9,s,0,0,[],[]⟩ n=false by rw[HF0.out,show s.isEmpty=false by simpa using hs];rfl);cases hn:An s with
     | true=>
       have hnI:((n:Int)==0)=false:=by rw[hn]at hb;simpa using hb
       rw[hn]at H3;clear HF0 hb hn;go_enter func46,ntmps46;go_wp2_with fail;refine(H.out.1 _ ?gg).mono ?_
       case gg=>exact gw
       rintro e w5 ⟨rfl,g5⟩;have hb5:=((Blk.new w (hdC ⟨9,s,0,0,[],[]⟩ (.slice pa ([]:List Bs).length pc) (.slice la n lc)) 27).alloc (.cells #[.int .i64 0,.int .i64 0,.string ⟨#[]⟩] 23 (0,0))).gb g5 (by simp);obtain⟨x_0,x_1,x_2,x_3,x_4,x_5,x_6,x_f⟩:=(hb5).c7;simp only at x_0 x_1 x_2 x_3 x_4 x_5 x_6;have HB:=O hb5;have HG:=O (Aa (Ad (World.grownBy_alloc w (.cells (hdC ⟨9,s,0,0,[],[]⟩ (.slice pa ([]:List Bs).length pc) (.slice la n lc)).toArray 27 (0,0)) none) (.cells #[.int .i64 0,.int .i64 0,.string ⟨#[]⟩] 23 (0,0))) g5);clear g5 hb5;go_wp2_with fail;refine(H3.out _ HG.out).mono ?_;rintro e w6 ⟨rfl,g6⟩;have hb6:=HB.out.gb g6 (by simp);obtain⟨y_0,y_1,y_2,y_3,y_4,y_5,y_6,y_f⟩:=(hb6).c7;simp only at y_0 y_1 y_2 y_3 y_4 y_5 y_6;have HG6:=O (Aa HG.out g6);clear g6 hb6;go_wp2;go_ret;exact⟨by rw[HF.out];rfl,HG6.out⟩
     | false=>
       rw[hn]at H3;clear HF0 hb hn;go_enter func46,ntmps46;go_wp2_with fail;refine(H.out.1 _ ?gg).mono ?_
       case gg=>exact gw
       rintro e w5 ⟨rfl,g5⟩;have hb5:=((Blk.new w (hdC ⟨9,s,0,0,[],[]⟩ (.slice pa ([]:List Bs).length pc) (.slice la n lc)) 27).alloc (.cells #[.int .i64 0,.int .i64 0,.string ⟨#[]⟩] 23 (0,0))).gb g5 (by simp);obtain⟨x_0,x_1,x_2,x_3,x_4,x_5,x_6,x_f⟩:=(hb5).c7;simp only at x_0 x_1 x_2 x_3 x_4 x_5 x_6;have HB:=O hb5;have HG:=O (Aa (Ad (World.grownBy_alloc w (.cells (hdC ⟨9,s,0,0,[],[]⟩ (.slice pa ([]:List Bs).length pc) (.slice la n lc)).toArray 27 (0,0)) none) (.cells #[.int .i64 0,.int .i64 0,.string ⟨#[]⟩] 23 (0,0))) g5);clear g5 hb5;go_wp2_with fail;refine(H3.out _ HG.out).mono ?_;rintro e w6 ⟨rfl,g6⟩;have hb6:=HB.out.gb g6 (by simp);obtain⟨y_0,y_1,y_2,y_3,y_4,y_5,y_6,y_f⟩:=(hb6).c7;simp only at y_0 y_1 y_2 y_3 y_4 y_5 y_6;have HG6:=O (Aa HG.out g6);clear g6 hb6;go_wp2;go_ret;exact⟨by rw[HF.out];rfl,HG6.out⟩
end
end Go.Proofs.YtgjdhajcnechdaaGreatDoor
