/-
  isExpr: one node whose operands are right, kind by kind. Contracts: lex.IsName, syntax.isName, the parser's name.
-/
import Derived.Test.YtgjdhajcnechdaaGreatDoorSb04
import Derived.Test.YtgjdhajcnechdaaGreatDoorSb01
import Derived.Test.YtgjdhajcnechdaaGreatDoorPlain
set_option linter.all false
set_option maxRecDepth 100000
set_option maxHeartbeats 8000000
namespace Go.Proofs.YtgjdhajcnechdaaGreatDoor
open Go.Proofs.Tryz
open Go.RowKit
def VaH(w:World)(h:Hd)(pa la:Option Addr)(pc n lc:Nat):Prop:=
 (∀W,w.grownBy W none→Calls Tryz.prog 73 #[.slice la n lc] W fun e w'=>e= .returned (.bool true)∧W.grownBy w' none)∧
 (∀W,w.grownBy W none→Calls Tryz.prog 75 #[str h.s] W fun e w'=>e= .returned (.bool (Ak h.s))∧W.grownBy w' none)∧
 (∀W,w.grownBy W none→Calls Tryz.prog 74 #[.agg #[.int .i64 h.vk,.int .i64 h.vn,str h.vs]] W fun e w'=>e= .returned (.bool (Ao h))∧W.grownBy w' none)∧
 (∀W,w.grownBy W none→Calls Tryz.prog 76 #[str h.s] W fun e w'=>e= .returned (.bool (opsL.contains h.s))∧W.grownBy w' none)∧
 (∀W,w.grownBy W none→Calls Tryz.prog 77 #[.slice pa h.p.length pc] W fun e w'=>e= .returned (.bool (h.p.all Ak))∧W.grownBy w' none)
section
variable {w:World}{s vs:Bs}{p:List Bs}{vk vn:Int}{pa la:Option Addr}{pc n lc:Nat}
theorem Mu(H:Hid (VaH w ⟨0,s,vk,vn,vs,[]⟩ pa la pc n lc)):
 Calls Tryz.prog 46 #[exV ⟨0,s,vk,vn,vs,[]⟩ (.slice pa (List.length ([]:List Bs)) pc) (.slice la n lc)] w fun e w'=>e= .returned (.bool (An ⟨0,s,vk,vn,vs,[]⟩ n))∧w.grownBy w' none:=by
 have HM:=I (show An ⟨0,s,vk,vn,vs,[]⟩ n=(s.isEmpty&&n==0&&Ao ⟨0,s,vk,vn,vs,[]⟩)from rfl);by_cases hs:s=[]
 ·have hsI:(s==[])=true:=by simpa using hs
  by_cases hn:n=0
  ·have hnI:((n:Int)==0)=true:=by simp;omega
   have HF:=I (show An ⟨0,s,vk,vn,vs,[]⟩ n=Ao ⟨0,s,vk,vn,vs,[]⟩by rw[HM.out];simp[hs,hn]);rw[HF.out];clear HM HF hs hn;have H3:=I H.out.2.2.1;simp only at H3;generalize Ao ⟨0,s,vk,vn,vs,[]⟩=b at*;go_enter func46,ntmps46;go_wp2_with fail;refine(H.out.1 _ ?gg).mono ?_
   case gg=>exact gw
   rintro e w5 ⟨rfl,g5⟩;have hb5:=((Blk.new w (hdC ⟨0,s,vk,vn,vs,[]⟩ (.slice pa ([]:List Bs).length pc) (.slice la n lc)) 27).alloc (.cells #[.int .i64 0,.int .i64 0,.string ⟨#[]⟩] 23 (0,0))).gb g5 (by simp);obtain⟨x_0,x_1,x_2,x_3,x_4,x_5,x_6,x_f⟩:=(hb5).c7;simp only at x_0 x_1 x_2 x_3 x_4 x_5 x_6;have HB:=I hb5;have HG:=I (O (Aa (World.grownBy_alloc w (.cells (hdC ⟨0,s,vk,vn,vs,[]⟩ (.slice pa ([]:List Bs).length pc) (.slice la n lc)).toArray 27 (0,0)) none) (.cells #[.int .i64 0,.int .i64 0,.string ⟨#[]⟩] 23 (0,0))) g5);clear g5 hb5;go_wp2_with fail;refine(H3.out _ HG.out).mono ?_;rintro e w6 ⟨rfl,g6⟩;go_wp2;go_ret;exact⟨rfl,O HG.out g6⟩
  ·have hnI:((n:Int)==0)=false:=by simp;omega
   have HF:=I (show An ⟨0,s,vk,vn,vs,[]⟩ n=false by rw[HM.out];simp[hn]);clear HM hs hn;go_enter func46,ntmps46;go_wp2_with fail;refine(H.out.1 _ ?gg).mono ?_
   case gg=>exact gw
   rintro e w5 ⟨rfl,g5⟩;have hb5:=((Blk.new w (hdC ⟨0,s,vk,vn,vs,[]⟩ (.slice pa ([]:List Bs).length pc) (.slice la n lc)) 27).alloc (.cells #[.int .i64 0,.int .i64 0,.string ⟨#[]⟩] 23 (0,0))).gb g5 (by simp);obtain⟨x_0,x_1,x_2,x_3,x_4,x_5,x_6,x_f⟩:=(hb5).c7;simp only at x_0 x_1 x_2 x_3 x_4 x_5 x_6;have HB:=I hb5;have HG:=I (O (Aa (World.grownBy_alloc w (.cells (hdC ⟨0,s,vk,vn,vs,[]⟩ (.slice pa ([]:List Bs).length pc) (.slice la n lc)).toArray 27 (0,0)) none) (.cells #[.int .i64 0,.int .i64 0,.string ⟨#[]⟩] 23 (0,0))) g5);clear g5 hb5;go_wp2;go_ret;exact⟨by rw[HF.out];rfl,HG.out⟩
 ·have hsI:(s==[])=false:=by simpa using hs
  have HF:=I (show An ⟨0,s,vk,vn,vs,[]⟩ n=false by rw[HM.out];simp[hs]);clear HM hs;go_enter func46,ntmps46;go_wp2_with fail;refine(H.out.1 _ ?gg).mono ?_
  case gg=>exact gw
  rintro e w5 ⟨rfl,g5⟩;have hb5:=((Blk.new w (hdC ⟨0,s,vk,vn,vs,[]⟩ (.slice pa ([]:List Bs).length pc) (.slice la n lc)) 27).alloc (.cells #[.int .i64 0,.int .i64 0,.string ⟨#[]⟩] 23 (0,0))).gb g5 (by simp);obtain⟨x_0,x_1,x_2,x_3,x_4,x_5,x_6,x_f⟩:=(hb5).c7;simp only at x_0 x_1 x_2 x_3 x_4 x_5 x_6;have HB:=I hb5;have HG:=I (O (Aa (World.grownBy_alloc w (.cells (hdC ⟨0,s,vk,vn,vs,[]⟩ (.slice pa ([]:List Bs).length pc) (.slice la n lc)).toArray 27 (0,0)) none) (.cells #[.int .i64 0,.int .i64 0,.string ⟨#[]⟩] 23 (0,0))) g5);clear g5 hb5;go_wp2;go_ret;exact⟨by rw[HF.out];rfl,HG.out⟩
theorem Mv(H:Hid (VaH w ⟨1,s,0,0,[],[]⟩ pa la pc n lc)):
 Calls Tryz.prog 46 #[exV ⟨1,s,0,0,[],[]⟩ (.slice pa (List.length ([]:List Bs)) pc) (.slice la n lc)] w fun e w'=>e= .returned (.bool (An ⟨1,s,0,0,[],[]⟩ n))∧w.grownBy w' none:=by
 have HM:=I (show An ⟨1,s,0,0,[],[]⟩ n=(Ak s&&n==0)from rfl);have H3:=I H.out.2.1;simp only at H3;cases hb:Ak s with
 | true=>
   have HF:=I (show An ⟨1,s,0,0,[],[]⟩ n=((n:Int)==0)by rw[HM.out,hb,Bool.true_and,Bool.eq_iff_iff];first| (simp;done)| (simp;omega));rw[HF.out];rw[hb]at H3;clear HM HF hb;go_enter func46,ntmps46;go_wp2_with fail;refine(H.out.1 _ ?gg).mono ?_
   case gg=>exact gw
   rintro e w5 ⟨rfl,g5⟩;have hb5:=((Blk.new w (hdC ⟨1,s,0,0,[],[]⟩ (.slice pa ([]:List Bs).length pc) (.slice la n lc)) 27).alloc (.cells #[.int .i64 0,.int .i64 0,.string ⟨#[]⟩] 23 (0,0))).gb g5 (by simp);obtain⟨x_0,x_1,x_2,x_3,x_4,x_5,x_6,x_f⟩:=(hb5).c7;simp only at x_0 x_1 x_2 x_3 x_4 x_5 x_6;have HB:=I hb5;have HG:=I (O (Aa (World.grownBy_alloc w (.cells (hdC ⟨1,s,0,0,[],[]⟩ (.slice pa ([]:List Bs).length pc) (.slice la n lc)).toArray 27 (0,0)) none) (.cells #[.int .i64 0,.int .i64 0,.string ⟨#[]⟩] 23 (0,0))) g5);clear g5 hb5;go_wp2_with fail;refine(H3.out _ HG.out).mono ?_;rintro e w6 ⟨rfl,g6⟩;have hb6:=HB.out.gb g6 (by simp);obtain⟨y_0,y_1,y_2,y_3,y_4,y_5,y_6,y_f⟩:=(hb6).c7;simp only at y_0 y_1 y_2 y_3 y_4 y_5 y_6;have HG6:=I (O HG.out g6);clear g6 hb6;go_wp2;go_ret;exact⟨rfl,HG6.out⟩
 | false=>
   have HF:=I (show An ⟨1,s,0,0,[],[]⟩ n=false by rw[HM.out,hb];rfl);rw[hb]at H3;clear HM hb;go_enter func46,ntmps46;go_wp2_with fail;refine(H.out.1 _ ?gg).mono ?_
   case gg=>exact gw
   rintro e w5 ⟨rfl,g5⟩;have hb5:=((Blk.new w (hdC ⟨1,s,0,0,[],[]⟩ (.slice pa ([]:List Bs).length pc) (.slice la n lc)) 27).alloc (.cells #[.int .i64 0,.int .i64 0,.string ⟨#[]⟩] 23 (0,0))).gb g5 (by simp);obtain⟨x_0,x_1,x_2,x_3,x_4,x_5,x_6,x_f⟩:=(hb5).c7;simp only at x_0 x_1 x_2 x_3 x_4 x_5 x_6;have HB:=I hb5;have HG:=I (O (Aa (World.grownBy_alloc w (.cells (hdC ⟨1,s,0,0,[],[]⟩ (.slice pa ([]:List Bs).length pc) (.slice la n lc)).toArray 27 (0,0)) none) (.cells #[.int .i64 0,.int .i64 0,.string ⟨#[]⟩] 23 (0,0))) g5);clear g5 hb5;go_wp2_with fail;refine(H3.out _ HG.out).mono ?_;rintro e w6 ⟨rfl,g6⟩;go_wp2;go_ret;exact⟨by rw[HF.out];rfl,O HG.out g6⟩
theorem Kq(H:Hid (VaH w ⟨10,s,0,0,[],[]⟩ pa la pc n lc)):
 Calls Tryz.prog 46 #[exV ⟨10,s,0,0,[],[]⟩ (.slice pa (List.length ([]:List Bs)) pc) (.slice la n lc)] w fun e w'=>e= .returned (.bool (An ⟨10,s,0,0,[],[]⟩ n))∧w.grownBy w' none:=by
 have HM:=I (show An ⟨10,s,0,0,[],[]⟩ n=(Ak s&&n==0)from rfl);have H3:=I H.out.2.1;simp only at H3;cases hb:Ak s with
 | true=>
   have HF:=I (show An ⟨10,s,0,0,[],[]⟩ n=((n:Int)==0)by rw[HM.out,hb,Bool.true_and,Bool.eq_iff_iff];first| (simp;done)| (simp;omega));rw[HF.out];rw[hb]at H3;clear HM HF hb;go_enter func46,ntmps46;go_wp2_with fail;refine(H.out.1 _ ?gg).mono ?_
   case gg=>exact gw
   rintro e w5 ⟨rfl,g5⟩;have hb5:=((Blk.new w (hdC ⟨10,s,0,0,[],[]⟩ (.slice pa ([]:List Bs).length pc) (.slice la n lc)) 27).alloc (.cells #[.int .i64 0,.int .i64 0,.string ⟨#[]⟩] 23 (0,0))).gb g5 (by simp);obtain⟨x_0,x_1,x_2,x_3,x_4,x_5,x_6,x_f⟩:=(hb5).c7;simp only at x_0 x_1 x_2 x_3 x_4 x_5 x_6;have HB:=I hb5;have HG:=I (O (Aa (World.grownBy_alloc w (.cells (hdC ⟨10,s,0,0,[],[]⟩ (.slice pa ([]:List Bs).length pc) (.slice la n lc)).toArray 27 (0,0)) none) (.cells #[.int .i64 0,.int .i64 0,.string ⟨#[]⟩] 23 (0,0))) g5);clear g5 hb5;go_wp2_with fail;refine(H3.out _ HG.out).mono ?_;rintro e w6 ⟨rfl,g6⟩;have hb6:=HB.out.gb g6 (by simp);obtain⟨y_0,y_1,y_2,y_3,y_4,y_5,y_6,y_f⟩:=(hb6).c7;simp only at y_0 y_1 y_2 y_3 y_4 y_5 y_6;have HG6:=I (O HG.out g6);clear g6 hb6;go_wp2;go_ret;exact⟨rfl,HG6.out⟩
 | false=>
   have HF:=I (show An ⟨10,s,0,0,[],[]⟩ n=false by rw[HM.out,hb];rfl);rw[hb]at H3;clear HM hb;go_enter func46,ntmps46;go_wp2_with fail;refine(H.out.1 _ ?gg).mono ?_
   case gg=>exact gw
   rintro e w5 ⟨rfl,g5⟩;have hb5:=((Blk.new w (hdC ⟨10,s,0,0,[],[]⟩ (.slice pa ([]:List Bs).length pc) (.slice la n lc)) 27).alloc (.cells #[.int .i64 0,.int .i64 0,.string ⟨#[]⟩] 23 (0,0))).gb g5 (by simp);obtain⟨x_0,x_1,x_2,x_3,x_4,x_5,x_6,x_f⟩:=(hb5).c7;simp only at x_0 x_1 x_2 x_3 x_4 x_5 x_6;have HB:=I hb5;have HG:=I (O (Aa (World.grownBy_alloc w (.cells (hdC ⟨10,s,0,0,[],[]⟩ (.slice pa ([]:List Bs).length pc) (.slice la n lc)).toArray 27 (0,0)) none) (.cells #[.int .i64 0,.int .i64 0,.string ⟨#[]⟩] 23 (0,0))) g5);clear g5 hb5;go_wp2_with fail;refine(H3.out _ HG.out).mono ?_;rintro e w6 ⟨rfl,g6⟩;go_wp2;go_ret;exact⟨by rw[HF.out];rfl,O HG.out g6⟩
theorem Mw(H:Hid (VaH w ⟨2,s,0,0,[],[]⟩ pa la pc n lc)):
 Calls Tryz.prog 46 #[exV ⟨2,s,0,0,[],[]⟩ (.slice pa (List.length ([]:List Bs)) pc) (.slice la n lc)] w fun e w'=>e= .returned (.bool (An ⟨2,s,0,0,[],[]⟩ n))∧w.grownBy w' none:=by
 have HM:=I (show An ⟨2,s,0,0,[],[]⟩ n=(Ak s&&n==1)from rfl);have H3:=I H.out.2.1;simp only at H3;cases hb:Ak s with
 | true=>
   have HF:=I (show An ⟨2,s,0,0,[],[]⟩ n=((n:Int)==1)by rw[HM.out,hb,Bool.true_and,Bool.eq_iff_iff];first| (simp;done)| (simp;omega));rw[HF.out];rw[hb]at H3;clear HM HF hb;go_enter func46,ntmps46;go_wp2_with fail;refine(H.out.1 _ ?gg).mono ?_
   case gg=>exact gw
   rintro e w5 ⟨rfl,g5⟩;have hb5:=((Blk.new w (hdC ⟨2,s,0,0,[],[]⟩ (.slice pa ([]:List Bs).length pc) (.slice la n lc)) 27).alloc (.cells #[.int .i64 0,.int .i64 0,.string ⟨#[]⟩] 23 (0,0))).gb g5 (by simp);obtain⟨x_0,x_1,x_2,x_3,x_4,x_5,x_6,x_f⟩:=(hb5).c7;simp only at x_0 x_1 x_2 x_3 x_4 x_5 x_6;have HB:=I hb5;have HG:=I (O (Aa (World.grownBy_alloc w (.cells (hdC ⟨2,s,0,0,[],[]⟩ (.slice pa ([]:List Bs).length pc) (.slice la n lc)).toArray 27 (0,0)) none) (.cells #[.int .i64 0,.int .i64 0,.string ⟨#[]⟩] 23 (0,0))) g5);clear g5 hb5;go_wp2_with fail;refine(H3.out _ HG.out).mono ?_;rintro e w6 ⟨rfl,g6⟩;have hb6:=HB.out.gb g6 (by simp);obtain⟨y_0,y_1,y_2,y_3,y_4,y_5,y_6,y_f⟩:=(hb6).c7;simp only at y_0 y_1 y_2 y_3 y_4 y_5 y_6;have HG6:=I (O HG.out g6);clear g6 hb6;go_wp2;go_ret;exact⟨rfl,HG6.out⟩
 | false=>
   have HF:=I (show An ⟨2,s,0,0,[],[]⟩ n=false by rw[HM.out,hb];rfl);rw[hb]at H3;clear HM hb;go_enter func46,ntmps46;go_wp2_with fail;refine(H.out.1 _ ?gg).mono ?_
   case gg=>exact gw
   rintro e w5 ⟨rfl,g5⟩;have hb5:=((Blk.new w (hdC ⟨2,s,0,0,[],[]⟩ (.slice pa ([]:List Bs).length pc) (.slice la n lc)) 27).alloc (.cells #[.int .i64 0,.int .i64 0,.string ⟨#[]⟩] 23 (0,0))).gb g5 (by simp);obtain⟨x_0,x_1,x_2,x_3,x_4,x_5,x_6,x_f⟩:=(hb5).c7;simp only at x_0 x_1 x_2 x_3 x_4 x_5 x_6;have HB:=I hb5;have HG:=I (O (Aa (World.grownBy_alloc w (.cells (hdC ⟨2,s,0,0,[],[]⟩ (.slice pa ([]:List Bs).length pc) (.slice la n lc)).toArray 27 (0,0)) none) (.cells #[.int .i64 0,.int .i64 0,.string ⟨#[]⟩] 23 (0,0))) g5);clear g5 hb5;go_wp2_with fail;refine(H3.out _ HG.out).mono ?_;rintro e w6 ⟨rfl,g6⟩;go_wp2;go_ret;exact⟨by rw[HF.out];rfl,O HG.out g6⟩
theorem Mx(H:Hid (VaH w ⟨3,s,0,0,[],[]⟩ pa la pc n lc)):
 Calls Tryz.prog 46 #[exV ⟨3,s,0,0,[],[]⟩ (.slice pa (List.length ([]:List Bs)) pc) (.slice la n lc)] w fun e w'=>e= .returned (.bool (An ⟨3,s,0,0,[],[]⟩ n))∧w.grownBy w' none:=by
 have HM:=I (show An ⟨3,s,0,0,[],[]⟩ n=Ak s from rfl);rw[HM.out];clear HM;have H3:=I H.out.2.1;simp only at H3;generalize Ak s=b at*;go_enter func46,ntmps46;go_wp2_with fail;refine(H.out.1 _ ?gg).mono ?_
 case gg=>exact gw
 rintro e w5 ⟨rfl,g5⟩;have hb5:=((Blk.new w (hdC ⟨3,s,0,0,[],[]⟩ (.slice pa ([]:List Bs).length pc) (.slice la n lc)) 27).alloc (.cells #[.int .i64 0,.int .i64 0,.string ⟨#[]⟩] 23 (0,0))).gb g5 (by simp);obtain⟨x_0,x_1,x_2,x_3,x_4,x_5,x_6,x_f⟩:=(hb5).c7;simp only at x_0 x_1 x_2 x_3 x_4 x_5 x_6;have HB:=I hb5;have HG:=I (O (Aa (World.grownBy_alloc w (.cells (hdC ⟨3,s,0,0,[],[]⟩ (.slice pa ([]:List Bs).length pc) (.slice la n lc)).toArray 27 (0,0)) none) (.cells #[.int .i64 0,.int .i64 0,.string ⟨#[]⟩] 23 (0,0))) g5);clear g5 hb5;go_wp2_with fail;refine(H3.out _ HG.out).mono ?_;rintro e w6 ⟨rfl,g6⟩;go_wp2;go_ret;exact⟨rfl,O HG.out g6⟩
theorem My(H:Hid (VaH w ⟨4,s,0,0,[],[]⟩ pa la pc n lc)):
 Calls Tryz.prog 46 #[exV ⟨4,s,0,0,[],[]⟩ (.slice pa (List.length ([]:List Bs)) pc) (.slice la n lc)] w fun e w'=>e= .returned (.bool (An ⟨4,s,0,0,[],[]⟩ n))∧w.grownBy w' none:=by
 have HM:=I (show An ⟨4,s,0,0,[],[]⟩ n=((s==[45]||s==[46,78,79,84,46])&&n==1)from rfl);cases h1:(s==[45])with
 | true=>
   have HF:=I (show An ⟨4,s,0,0,[],[]⟩ n=((n:Int)==1)by rw[HM.out,h1,Bool.true_or,Bool.true_and,Bool.eq_iff_iff];first| (simp;done)| (simp;omega));clear HM;go_enter func46,ntmps46;go_wp2_with fail;refine(H.out.1 _ ?gg).mono ?_
   case gg=>exact gw
   rintro e w5 ⟨rfl,g5⟩;have hb5:=((Blk.new w (hdC ⟨4,s,0,0,[],[]⟩ (.slice pa ([]:List Bs).length pc) (.slice la n lc)) 27).alloc (.cells #[.int .i64 0,.int .i64 0,.string ⟨#[]⟩] 23 (0,0))).gb g5 (by simp);obtain⟨x_0,x_1,x_2,x_3,x_4,x_5,x_6,x_f⟩:=(hb5).c7;simp only at x_0 x_1 x_2 x_3 x_4 x_5 x_6;have HB:=I hb5;have HG:=I (O (Aa (World.grownBy_alloc w (.cells (hdC ⟨4,s,0,0,[],[]⟩ (.slice pa ([]:List Bs).length pc) (.slice la n lc)).toArray 27 (0,0)) none) (.cells #[.int .i64 0,.int .i64 0,.string ⟨#[]⟩] 23 (0,0))) g5);clear g5 hb5;go_wp2;go_ret;exact⟨by rw[HF.out];rfl,HG.out⟩
 | false=>
   cases h2:(s==[46,78,79,84,46])with
   | true=>
     have HF:=I (show An ⟨4,s,0,0,[],[]⟩ n=((n:Int)==1)by rw[HM.out,h1,h2,Bool.false_or,Bool.true_and,Bool.eq_iff_iff];first| (simp;done)| (simp;omega));clear HM;go_enter func46,ntmps46;go_wp2_with fail;refine(H.out.1 _ ?gg).mono ?_
     case gg=>exact gw
     rintro e w5 ⟨rfl,g5⟩;have hb5:=((Blk.new w (hdC ⟨4,s,0,0,[],[]⟩ (.slice pa ([]:List Bs).length pc) (.slice la n lc)) 27).alloc (.cells #[.int .i64 0,.int .i64 0,.string ⟨#[]⟩] 23 (0,0))).gb g5 (by simp);obtain⟨x_0,x_1,x_2,x_3,x_4,x_5,x_6,x_f⟩:=(hb5).c7;simp only at x_0 x_1 x_2 x_3 x_4 x_5 x_6;have HB:=I hb5;have HG:=I (O (Aa (World.grownBy_alloc w (.cells (hdC ⟨4,s,0,0,[],[]⟩ (.slice pa ([]:List Bs).length pc) (.slice la n lc)).toArray 27 (0,0)) none) (.cells #[.int .i64 0,.int .i64 0,.string ⟨#[]⟩] 23 (0,0))) g5);clear g5 hb5;go_wp2;go_ret;exact⟨by rw[HF.out];rfl,HG.out⟩
   | false=>
     have HF:=I (show An ⟨4,s,0,0,[],[]⟩ n=false by rw[HM.out,h1,h2];rfl);clear HM;go_enter func46,ntmps46;go_wp2_with fail;refine(H.out.1 _ ?gg).mono ?_
     case gg=>exact gw
     rintro e w5 ⟨rfl,g5⟩;have hb5:=((Blk.new w (hdC ⟨4,s,0,0,[],[]⟩ (.slice pa ([]:List Bs).length pc) (.slice la n lc)) 27).alloc (.cells #[.int .i64 0,.int .i64 0,.string ⟨#[]⟩] 23 (0,0))).gb g5 (by simp);obtain⟨x_0,x_1,x_2,x_3,x_4,x_5,x_6,x_f⟩:=(hb5).c7;simp only at x_0 x_1 x_2 x_3 x_4 x_5 x_6;have HB:=I hb5;have HG:=I (O (Aa (World.grownBy_alloc w (.cells (hdC ⟨4,s,0,0,[],[]⟩ (.slice pa ([]:List Bs).length pc) (.slice la n lc)).toArray 27 (0,0)) none) (.cells #[.int .i64 0,.int .i64 0,.string ⟨#[]⟩] 23 (0,0))) g5);clear g5 hb5;go_wp2;go_ret;exact⟨by rw[HF.out];rfl,HG.out⟩
theorem Mz(H:Hid (VaH w ⟨5,s,0,0,[],[]⟩ pa la pc n lc)):
 Calls Tryz.prog 46 #[exV ⟨5,s,0,0,[],[]⟩ (.slice pa (List.length ([]:List Bs)) pc) (.slice la n lc)] w fun e w'=>e= .returned (.bool (An ⟨5,s,0,0,[],[]⟩ n))∧w.grownBy w' none:=by
 have HM:=I (show An ⟨5,s,0,0,[],[]⟩ n=(opsL.contains s&&n==2)from rfl);have H3:=I H.out.2.2.2.1;simp only at H3;cases hb:opsL.contains s with
 | true=>
   have HF:=I (show An ⟨5,s,0,0,[],[]⟩ n=((n:Int)==2)by rw[HM.out,hb,Bool.true_and,Bool.eq_iff_iff];first| (simp;done)| (simp;omega));rw[HF.out];rw[hb]at H3;clear HM HF hb;go_enter func46,ntmps46;go_wp2_with fail;refine(H.out.1 _ ?gg).mono ?_
   case gg=>exact gw
   rintro e w5 ⟨rfl,g5⟩;have hb5:=((Blk.new w (hdC ⟨5,s,0,0,[],[]⟩ (.slice pa ([]:List Bs).length pc) (.slice la n lc)) 27).alloc (.cells #[.int .i64 0,.int .i64 0,.string ⟨#[]⟩] 23 (0,0))).gb g5 (by simp);obtain⟨x_0,x_1,x_2,x_3,x_4,x_5,x_6,x_f⟩:=(hb5).c7;simp only at x_0 x_1 x_2 x_3 x_4 x_5 x_6;have HB:=I hb5;have HG:=I (O (Aa (World.grownBy_alloc w (.cells (hdC ⟨5,s,0,0,[],[]⟩ (.slice pa ([]:List Bs).length pc) (.slice la n lc)).toArray 27 (0,0)) none) (.cells #[.int .i64 0,.int .i64 0,.string ⟨#[]⟩] 23 (0,0))) g5);clear g5 hb5;go_wp2_with fail;refine(H3.out _ HG.out).mono ?_;rintro e w6 ⟨rfl,g6⟩;have hb6:=HB.out.gb g6 (by simp);obtain⟨y_0,y_1,y_2,y_3,y_4,y_5,y_6,y_f⟩:=(hb6).c7;simp only at y_0 y_1 y_2 y_3 y_4 y_5 y_6;have HG6:=I (O HG.out g6);clear g6 hb6;go_wp2;go_ret;exact⟨rfl,HG6.out⟩
 | false=>
   have HF:=I (show An ⟨5,s,0,0,[],[]⟩ n=false by rw[HM.out,hb];rfl);rw[hb]at H3;clear HM hb;go_enter func46,ntmps46;go_wp2_with fail;refine(H.out.1 _ ?gg).mono ?_
   case gg=>exact gw
   rintro e w5 ⟨rfl,g5⟩;have hb5:=((Blk.new w (hdC ⟨5,s,0,0,[],[]⟩ (.slice pa ([]:List Bs).length pc) (.slice la n lc)) 27).alloc (.cells #[.int .i64 0,.int .i64 0,.string ⟨#[]⟩] 23 (0,0))).gb g5 (by simp);obtain⟨x_0,x_1,x_2,x_3,x_4,x_5,x_6,x_f⟩:=(hb5).c7;simp only at x_0 x_1 x_2 x_3 x_4 x_5 x_6;have HB:=I hb5;have HG:=I (O (Aa (World.grownBy_alloc w (.cells (hdC ⟨5,s,0,0,[],[]⟩ (.slice pa ([]:List Bs).length pc) (.slice la n lc)).toArray 27 (0,0)) none) (.cells #[.int .i64 0,.int .i64 0,.string ⟨#[]⟩] 23 (0,0))) g5);clear g5 hb5;go_wp2_with fail;refine(H3.out _ HG.out).mono ?_;rintro e w6 ⟨rfl,g6⟩;go_wp2;go_ret;exact⟨by rw[HF.out];rfl,O HG.out g6⟩
theorem M0(H:Hid (VaH w ⟨6,s,0,0,[],[]⟩ pa la pc n lc)):
 Calls Tryz.prog 46 #[exV ⟨6,s,0,0,[],[]⟩ (.slice pa (List.length ([]:List Bs)) pc) (.slice la n lc)] w fun e w'=>e= .returned (.bool (An ⟨6,s,0,0,[],[]⟩ n))∧w.grownBy w' none:=by
 have HM:=I (show An ⟨6,s,0,0,[],[]⟩ n=(s.isEmpty&&n==2)from rfl);by_cases hs:s=[]
 ·have hsI:(s==[])=true:=by simpa using hs
  by_cases hn:n=2
  ·have hnI:((n:Int)==2)=true:=by simp;omega
   have HF:=I (show An ⟨6,s,0,0,[],[]⟩ n=true by rw[HM.out];simp[hs,hn]);clear HM hs hn;go_enter func46,ntmps46;go_wp2_with fail;refine(H.out.1 _ ?gg).mono ?_
   case gg=>exact gw
   rintro e w5 ⟨rfl,g5⟩;have hb5:=((Blk.new w (hdC ⟨6,s,0,0,[],[]⟩ (.slice pa ([]:List Bs).length pc) (.slice la n lc)) 27).alloc (.cells #[.int .i64 0,.int .i64 0,.string ⟨#[]⟩] 23 (0,0))).gb g5 (by simp);obtain⟨x_0,x_1,x_2,x_3,x_4,x_5,x_6,x_f⟩:=(hb5).c7;simp only at x_0 x_1 x_2 x_3 x_4 x_5 x_6;have HB:=I hb5;have HG:=I (O (Aa (World.grownBy_alloc w (.cells (hdC ⟨6,s,0,0,[],[]⟩ (.slice pa ([]:List Bs).length pc) (.slice la n lc)).toArray 27 (0,0)) none) (.cells #[.int .i64 0,.int .i64 0,.string ⟨#[]⟩] 23 (0,0))) g5);clear g5 hb5;go_wp2;go_ret;exact⟨by rw[HF.out];rfl,HG.out⟩
  ·have hnI:((n:Int)==2)=false:=by simp;omega
   have HF:=I (show An ⟨6,s,0,0,[],[]⟩ n=false by rw[HM.out];simp[hn]);clear HM hs hn;go_enter func46,ntmps46;go_wp2_with fail;refine(H.out.1 _ ?gg).mono ?_
   case gg=>exact gw
   rintro e w5 ⟨rfl,g5⟩;have hb5:=((Blk.new w (hdC ⟨6,s,0,0,[],[]⟩ (.slice pa ([]:List Bs).length pc) (.slice la n lc)) 27).alloc (.cells #[.int .i64 0,.int .i64 0,.string ⟨#[]⟩] 23 (0,0))).gb g5 (by simp);obtain⟨x_0,x_1,x_2,x_3,x_4,x_5,x_6,x_f⟩:=(hb5).c7;simp only at x_0 x_1 x_2 x_3 x_4 x_5 x_6;have HB:=I hb5;have HG:=I (O (Aa (World.grownBy_alloc w (.cells (hdC ⟨6,s,0,0,[],[]⟩ (.slice pa ([]:List Bs).length pc) (.slice la n lc)).toArray 27 (0,0)) none) (.cells #[.int .i64 0,.int .i64 0,.string ⟨#[]⟩] 23 (0,0))) g5);clear g5 hb5;go_wp2;go_ret;exact⟨by rw[HF.out];rfl,HG.out⟩
 ·have hsI:(s==[])=false:=by simpa using hs
  have HF:=I (show An ⟨6,s,0,0,[],[]⟩ n=false by rw[HM.out];simp[hs]);clear HM hs;go_enter func46,ntmps46;go_wp2_with fail;refine(H.out.1 _ ?gg).mono ?_
  case gg=>exact gw
  rintro e w5 ⟨rfl,g5⟩;have hb5:=((Blk.new w (hdC ⟨6,s,0,0,[],[]⟩ (.slice pa ([]:List Bs).length pc) (.slice la n lc)) 27).alloc (.cells #[.int .i64 0,.int .i64 0,.string ⟨#[]⟩] 23 (0,0))).gb g5 (by simp);obtain⟨x_0,x_1,x_2,x_3,x_4,x_5,x_6,x_f⟩:=(hb5).c7;simp only at x_0 x_1 x_2 x_3 x_4 x_5 x_6;have HB:=I hb5;have HG:=I (O (Aa (World.grownBy_alloc w (.cells (hdC ⟨6,s,0,0,[],[]⟩ (.slice pa ([]:List Bs).length pc) (.slice la n lc)).toArray 27 (0,0)) none) (.cells #[.int .i64 0,.int .i64 0,.string ⟨#[]⟩] 23 (0,0))) g5);clear g5 hb5;go_wp2;go_ret;exact⟨by rw[HF.out];rfl,HG.out⟩
theorem M1(H:Hid (VaH w ⟨7,s,0,0,[],[]⟩ pa la pc n lc)):
 Calls Tryz.prog 46 #[exV ⟨7,s,0,0,[],[]⟩ (.slice pa (List.length ([]:List Bs)) pc) (.slice la n lc)] w fun e w'=>e= .returned (.bool (An ⟨7,s,0,0,[],[]⟩ n))∧w.grownBy w' none:=by
 have HM:=I (show An ⟨7,s,0,0,[],[]⟩ n=(s.isEmpty&&decide (1≤n))from rfl);by_cases hs:s=[]
 ·have hsI:(s==[])=true:=by simpa using hs
  by_cases hn:1≤n
  ·have hnI:(decide ((1:Int)≤(n:Int)))=true:=by simp;omega
   have HF:=I (show An ⟨7,s,0,0,[],[]⟩ n=true by rw[HM.out];simp[hs,hn]);clear HM hs hn;go_enter func46,ntmps46;go_wp2_with fail;refine(H.out.1 _ ?gg).mono ?_
   case gg=>exact gw
   rintro e w5 ⟨rfl,g5⟩;have hb5:=((Blk.new w (hdC ⟨7,s,0,0,[],[]⟩ (.slice pa ([]:List Bs).length pc) (.slice la n lc)) 27).alloc (.cells #[.int .i64 0,.int .i64 0,.string ⟨#[]⟩] 23 (0,0))).gb g5 (by simp);obtain⟨x_0,x_1,x_2,x_3,x_4,x_5,x_6,x_f⟩:=(hb5).c7;simp only at x_0 x_1 x_2 x_3 x_4 x_5 x_6;have HB:=I hb5;have HG:=I (O (Aa (World.grownBy_alloc w (.cells (hdC ⟨7,s,0,0,[],[]⟩ (.slice pa ([]:List Bs).length pc) (.slice la n lc)).toArray 27 (0,0)) none) (.cells #[.int .i64 0,.int .i64 0,.string ⟨#[]⟩] 23 (0,0))) g5);clear g5 hb5;go_wp2;go_ret;exact⟨by rw[HF.out];rfl,HG.out⟩
  ·have hnI:(decide ((1:Int)≤(n:Int)))=false:=by simp;omega
   have HF:=I (show An ⟨7,s,0,0,[],[]⟩ n=false by rw[HM.out];simp[hn]);clear HM hs hn;go_enter func46,ntmps46;go_wp2_with fail;refine(H.out.1 _ ?gg).mono ?_
   case gg=>exact gw
   rintro e w5 ⟨rfl,g5⟩;have hb5:=((Blk.new w (hdC ⟨7,s,0,0,[],[]⟩ (.slice pa ([]:List Bs).length pc) (.slice la n lc)) 27).alloc (.cells #[.int .i64 0,.int .i64 0,.string ⟨#[]⟩] 23 (0,0))).gb g5 (by simp);obtain⟨x_0,x_1,x_2,x_3,x_4,x_5,x_6,x_f⟩:=(hb5).c7;simp only at x_0 x_1 x_2 x_3 x_4 x_5 x_6;have HB:=I hb5;have HG:=I (O (Aa (World.grownBy_alloc w (.cells (hdC ⟨7,s,0,0,[],[]⟩ (.slice pa ([]:List Bs).length pc) (.slice la n lc)).toArray 27 (0,0)) none) (.cells #[.int .i64 0,.int .i64 0,.string ⟨#[]⟩] 23 (0,0))) g5);clear g5 hb5;go_wp2;go_ret;exact⟨by rw[HF.out];rfl,HG.out⟩
 ·have hsI:(s==[])=false:=by simpa using hs
  have HF:=I (show An ⟨7,s,0,0,[],[]⟩ n=false by rw[HM.out];simp[hs]);clear HM hs;go_enter func46,ntmps46;go_wp2_with fail;refine(H.out.1 _ ?gg).mono ?_
  case gg=>exact gw
  rintro e w5 ⟨rfl,g5⟩;have hb5:=((Blk.new w (hdC ⟨7,s,0,0,[],[]⟩ (.slice pa ([]:List Bs).length pc) (.slice la n lc)) 27).alloc (.cells #[.int .i64 0,.int .i64 0,.string ⟨#[]⟩] 23 (0,0))).gb g5 (by simp);obtain⟨x_0,x_1,x_2,x_3,x_4,x_5,x_6,x_f⟩:=(hb5).c7;simp only at x_0 x_1 x_2 x_3 x_4 x_5 x_6;have HB:=I hb5;have HG:=I (O (Aa (World.grownBy_alloc w (.cells (hdC ⟨7,s,0,0,[],[]⟩ (.slice pa ([]:List Bs).length pc) (.slice la n lc)).toArray 27 (0,0)) none) (.cells #[.int .i64 0,.int .i64 0,.string ⟨#[]⟩] 23 (0,0))) g5);clear g5 hb5;go_wp2;go_ret;exact⟨by rw[HF.out];rfl,HG.out⟩
theorem M2(H:Hid (VaH w ⟨8,s,0,0,[],p⟩ pa la pc n lc)):
 Calls Tryz.prog 46 #[exV ⟨8,s,0,0,[],p⟩ (.slice pa p.length pc) (.slice la n lc)] w fun e w'=>e= .returned (.bool (An ⟨8,s,0,0,[],p⟩ n))∧w.grownBy w' none:=by
 have HM:=I (show An ⟨8,s,0,0,[],p⟩ n=(s.isEmpty&&n==1&&p.all Ak)from rfl);by_cases hs:s=[]
 ·have hsI:(s==[])=true:=by simpa using hs
  by_cases hn:n=1
  ·have hnI:((n:Int)==1)=true:=by simp;omega
   have HF:=I (show An ⟨8,s,0,0,[],p⟩ n=p.all Ak by rw[HM.out];simp[hs,hn]);rw[HF.out];clear HM HF hs hn;have H3:=I H.out.2.2.2.2;simp only at H3;generalize p.all Ak=b at*;go_enter func46,ntmps46;go_wp2_with fail;refine(H.out.1 _ ?gg).mono ?_
   case gg=>exact gw
   rintro e w5 ⟨rfl,g5⟩;have hb5:=((Blk.new w (hdC ⟨8,s,0,0,[],p⟩ (.slice pa (p:List Bs).length pc) (.slice la n lc)) 27).alloc (.cells #[.int .i64 0,.int .i64 0,.string ⟨#[]⟩] 23 (0,0))).gb g5 (by simp);obtain⟨x_0,x_1,x_2,x_3,x_4,x_5,x_6,x_f⟩:=(hb5).c7;simp only at x_0 x_1 x_2 x_3 x_4 x_5 x_6;have HB:=I hb5;have HG:=I (O (Aa (World.grownBy_alloc w (.cells (hdC ⟨8,s,0,0,[],p⟩ (.slice pa (p:List Bs).length pc) (.slice la n lc)).toArray 27 (0,0)) none) (.cells #[.int .i64 0,.int .i64 0,.string ⟨#[]⟩] 23 (0,0))) g5);clear g5 hb5;go_wp2_with fail;refine(H3.out _ HG.out).mono ?_;rintro e w6 ⟨rfl,g6⟩;go_wp2;go_ret;exact⟨rfl,O HG.out g6⟩
  ·have hnI:((n:Int)==1)=false:=by simp;omega
   have HF:=I (show An ⟨8,s,0,0,[],p⟩ n=false by rw[HM.out];simp[hn]);clear HM hs hn;go_enter func46,ntmps46;go_wp2_with fail;refine(H.out.1 _ ?gg).mono ?_
   case gg=>exact gw
   rintro e w5 ⟨rfl,g5⟩;have hb5:=((Blk.new w (hdC ⟨8,s,0,0,[],p⟩ (.slice pa (p:List Bs).length pc) (.slice la n lc)) 27).alloc (.cells #[.int .i64 0,.int .i64 0,.string ⟨#[]⟩] 23 (0,0))).gb g5 (by simp);obtain⟨x_0,x_1,x_2,x_3,x_4,x_5,x_6,x_f⟩:=(hb5).c7;simp only at x_0 x_1 x_2 x_3 x_4 x_5 x_6;have HB:=I hb5;have HG:=I (O (Aa (World.grownBy_alloc w (.cells (hdC ⟨8,s,0,0,[],p⟩ (.slice pa (p:List Bs).length pc) (.slice la n lc)).toArray 27 (0,0)) none) (.cells #[.int .i64 0,.int .i64 0,.string ⟨#[]⟩] 23 (0,0))) g5);clear g5 hb5;go_wp2;go_ret;exact⟨by rw[HF.out];rfl,HG.out⟩
 ·have hsI:(s==[])=false:=by simpa using hs
  have HF:=I (show An ⟨8,s,0,0,[],p⟩ n=false by rw[HM.out];simp[hs]);clear HM hs;go_enter func46,ntmps46;go_wp2_with fail;refine(H.out.1 _ ?gg).mono ?_
  case gg=>exact gw
  rintro e w5 ⟨rfl,g5⟩;have hb5:=((Blk.new w (hdC ⟨8,s,0,0,[],p⟩ (.slice pa (p:List Bs).length pc) (.slice la n lc)) 27).alloc (.cells #[.int .i64 0,.int .i64 0,.string ⟨#[]⟩] 23 (0,0))).gb g5 (by simp);obtain⟨x_0,x_1,x_2,x_3,x_4,x_5,x_6,x_f⟩:=(hb5).c7;simp only at x_0 x_1 x_2 x_3 x_4 x_5 x_6;have HB:=I hb5;have HG:=I (O (Aa (World.grownBy_alloc w (.cells (hdC ⟨8,s,0,0,[],p⟩ (.slice pa (p:List Bs).length pc) (.slice la n lc)).toArray 27 (0,0)) none) (.cells #[.int .i64 0,.int .i64 0,.string ⟨#[]⟩] 23 (0,0))) g5);clear g5 hb5;go_wp2;go_ret;exact⟨by rw[HF.out];rfl,HG.out⟩
theorem M3(H:Hid (VaH w ⟨9,s,0,0,[],[]⟩ pa la pc n lc)):
 Calls Tryz.prog 46 #[exV ⟨9,s,0,0,[],[]⟩ (.slice pa (List.length ([]:List Bs)) pc) (.slice la n lc)] w fun e w'=>e= .returned (.bool (An ⟨9,s,0,0,[],[]⟩ n))∧w.grownBy w' none:=by
 have HM:=I (show An ⟨9,s,0,0,[],[]⟩ n=((Ak s&&n==0)||(s.isEmpty&&n==1))from rfl);have H3:=I H.out.2.1;simp only at H3;cases hb:(Ak s&&n==0)with
 | true=>
   obtain⟨hb1,hb2⟩:=(Bool.and_eq_true _ _).mp hb;have hnI:((n:Int)==0)=true:=by simpa using hb2
   have HF:=I (show An ⟨9,s,0,0,[],[]⟩ n=true by rw[HM.out,hb];rfl);rw[hb1]at H3;clear HM hb hb1 hb2;go_enter func46,ntmps46;go_wp2_with fail;refine(H.out.1 _ ?gg).mono ?_
   case gg=>exact gw
   rintro e w5 ⟨rfl,g5⟩;have hb5:=((Blk.new w (hdC ⟨9,s,0,0,[],[]⟩ (.slice pa ([]:List Bs).length pc) (.slice la n lc)) 27).alloc (.cells #[.int .i64 0,.int .i64 0,.string ⟨#[]⟩] 23 (0,0))).gb g5 (by simp);obtain⟨x_0,x_1,x_2,x_3,x_4,x_5,x_6,x_f⟩:=(hb5).c7;simp only at x_0 x_1 x_2 x_3 x_4 x_5 x_6;have HB:=I hb5;have HG:=I (O (Aa (World.grownBy_alloc w (.cells (hdC ⟨9,s,0,0,[],[]⟩ (.slice pa ([]:List Bs).length pc) (.slice la n lc)).toArray 27 (0,0)) none) (.cells #[.int .i64 0,.int .i64 0,.string ⟨#[]⟩] 23 (0,0))) g5);clear g5 hb5;go_wp2_with fail;refine(H3.out _ HG.out).mono ?_;rintro e w6 ⟨rfl,g6⟩;have hb6:=HB.out.gb g6 (by simp);obtain⟨y_0,y_1,y_2,y_3,y_4,y_5,y_6,y_f⟩:=(hb6).c7;simp only at y_0 y_1 y_2 y_3 y_4 y_5 y_6;have HG6:=I (O HG.out g6);clear g6 hb6;go_wp2;go_ret;exact⟨by rw[HF.out];rfl,HG6.out⟩
 | false=>
   have HF0:=I (show An ⟨9,s,0,0,[],[]⟩ n=(s.isEmpty&&n==1)by rw[HM.out,hb];rfl);clear HM;cases hs:(s==[])with
   | true=>
     have HF:=I (show An ⟨9,s,0,0,[],[]⟩ n=((n:Int)==1)by rw[HF0.out,show s.isEmpty=true by simpa using hs,Bool.true_and,Bool.eq_iff_iff];first| (simp;done)| (simp;omega));have hn:Ak s=false:=by rw[show s=[]by simpa using hs];rfl
     rw[hn]at H3;clear HF0 hb hn;go_enter func46,ntmps46;go_wp2_with fail;refine(H.out.1 _ ?gg).mono ?_
     case gg=>exact gw
     rintro e w5 ⟨rfl,g5⟩;have hb5:=((Blk.new w (hdC ⟨9,s,0,0,[],[]⟩ (.slice pa ([]:List Bs).length pc) (.slice la n lc)) 27).alloc (.cells #[.int .i64 0,.int .i64 0,.string ⟨#[]⟩] 23 (0,0))).gb g5 (by simp);obtain⟨x_0,x_1,x_2,x_3,x_4,x_5,x_6,x_f⟩:=(hb5).c7;simp only at x_0 x_1 x_2 x_3 x_4 x_5 x_6;have HB:=I hb5;have HG:=I (O (Aa (World.grownBy_alloc w (.cells (hdC ⟨9,s,0,0,[],[]⟩ (.slice pa ([]:List Bs).length pc) (.slice la n lc)).toArray 27 (0,0)) none) (.cells #[.int .i64 0,.int .i64 0,.string ⟨#[]⟩] 23 (0,0))) g5);clear g5 hb5;go_wp2_with fail;refine(H3.out _ HG.out).mono ?_;rintro e w6 ⟨rfl,g6⟩;have hb6:=HB.out.gb g6 (by simp);obtain⟨y_0,y_1,y_2,y_3,y_4,y_5,y_6,y_f⟩:=(hb6).c7;simp only at y_0 y_1 y_2 y_3 y_4 y_5 y_6;have HG6:=I (O HG.out g6);clear g6 hb6;go_wp2;go_ret;exact⟨by rw[HF.out];rfl,HG6.out⟩
   | false=>
     have HF:=I (show An ⟨9,s,0,0,[],[]⟩ n=false by rw[HF0.out,show s.isEmpty=false by simpa using hs];rfl);cases hn:Ak s with
     | true=>
       have hnI:((n:Int)==0)=false:=by rw[hn]at hb;simpa using hb
       rw[hn]at H3;clear HF0 hb hn;go_enter func46,ntmps46;go_wp2_with fail;refine(H.out.1 _ ?gg).mono ?_
       case gg=>exact gw
       rintro e w5 ⟨rfl,g5⟩;have hb5:=((Blk.new w (hdC ⟨9,s,0,0,[],[]⟩ (.slice pa ([]:List Bs).length pc) (.slice la n lc)) 27).alloc (.cells #[.int .i64 0,.int .i64 0,.string ⟨#[]⟩] 23 (0,0))).gb g5 (by simp);obtain⟨x_0,x_1,x_2,x_3,x_4,x_5,x_6,x_f⟩:=(hb5).c7;simp only at x_0 x_1 x_2 x_3 x_4 x_5 x_6;have HB:=I hb5;have HG:=I (O (Aa (World.grownBy_alloc w (.cells (hdC ⟨9,s,0,0,[],[]⟩ (.slice pa ([]:List Bs).length pc) (.slice la n lc)).toArray 27 (0,0)) none) (.cells #[.int .i64 0,.int .i64 0,.string ⟨#[]⟩] 23 (0,0))) g5);clear g5 hb5;go_wp2_with fail;refine(H3.out _ HG.out).mono ?_;rintro e w6 ⟨rfl,g6⟩;have hb6:=HB.out.gb g6 (by simp);obtain⟨y_0,y_1,y_2,y_3,y_4,y_5,y_6,y_f⟩:=(hb6).c7;simp only at y_0 y_1 y_2 y_3 y_4 y_5 y_6;have HG6:=I (O HG.out g6);clear g6 hb6;go_wp2;go_ret;exact⟨by rw[HF.out];rfl,HG6.out⟩
     | false=>
       rw[hn]at H3;clear HF0 hb hn;go_enter func46,ntmps46;go_wp2_with fail;refine(H.out.1 _ ?gg).mono ?_
       case gg=>exact gw
       rintro e w5 ⟨rfl,g5⟩;have hb5:=((Blk.new w (hdC ⟨9,s,0,0,[],[]⟩ (.slice pa ([]:List Bs).length pc) (.slice la n lc)) 27).alloc (.cells #[.int .i64 0,.int .i64 0,.string ⟨#[]⟩] 23 (0,0))).gb g5 (by simp);obtain⟨x_0,x_1,x_2,x_3,x_4,x_5,x_6,x_f⟩:=(hb5).c7;simp only at x_0 x_1 x_2 x_3 x_4 x_5 x_6;have HB:=I hb5;have HG:=I (O (Aa (World.grownBy_alloc w (.cells (hdC ⟨9,s,0,0,[],[]⟩ (.slice pa ([]:List Bs).length pc) (.slice la n lc)).toArray 27 (0,0)) none) (.cells #[.int .i64 0,.int .i64 0,.string ⟨#[]⟩] 23 (0,0))) g5);clear g5 hb5;go_wp2_with fail;refine(H3.out _ HG.out).mono ?_;rintro e w6 ⟨rfl,g6⟩;have hb6:=HB.out.gb g6 (by simp);obtain⟨y_0,y_1,y_2,y_3,y_4,y_5,y_6,y_f⟩:=(hb6).c7;simp only at y_0 y_1 y_2 y_3 y_4 y_5 y_6;have HG6:=I (O HG.out g6);clear g6 hb6;go_wp2;go_ret;exact⟨by rw[HF.out];rfl,HG6.out⟩
end
theorem gbB{w w':World}(h:Below w.heap.size w w')(r:Option Nat):w.grownBy w' r:=⟨h.os,h.tape,h.output,h.size,fun k hk _=>h.block k hk⟩
theorem Ge(l cs:List UInt8):(Lib.trimS l cs==[])=l.all (cs.contains ·):=by
 have h1:∀l:List UInt8,(l.dropWhile (cs.contains ·)==[])=l.all (cs.contains ·):=by
  intro l;induction l with
  |nil=>rfl
  | cons a t ih=>
    simp only[List.dropWhile_cons,List.all_cons];cases cs.contains a
    ·simp
    ·simpa using ih
 have h2:∀l:List UInt8,((l.reverse.dropWhile (cs.contains ·)).reverse).all (cs.contains ·)=l.all (cs.contains ·):=by
  intro l;have:∀m:List UInt8,(m.dropWhile (cs.contains ·)).all (cs.contains ·)=m.all (cs.contains ·):=by
   intro m;induction m with
   |nil=>rfl
   | cons a t ih=>
     simp only[List.dropWhile_cons,List.all_cons];cases h:cs.contains a
     ·show(a::t).all _=_;rw[List.all_cons,h]
     ·simpa using ih
  rw[List.all_reverse,this,List.all_reverse]
 unfold Lib.trimS Lib.trimLeftS;rw[h1];exact h2 l
def nameSet:List UInt8:=[65,66,67,68,69,70,71,72,73,74,75,76,77,78,79,80,81,82,83,84,85,86,87,88,89,90,48,49,50,51,52,53,54,55,56,57,95]
theorem JD(b:UInt8):nameSet.contains b=BX b:=by
 have h:∀n:Fin 256,nameSet.contains (UInt8.ofNat n.val)=BX (UInt8.ofNat n.val):=by decide+kernel
 have:=h ⟨b.toNat,b.toNat_lt⟩;simpa using this
theorem KT(l:List UInt8):(Lib.trimS l nameSet==[])=l.all BX:=by
 rw[Ge];congr 1;funext b;exact JD b
theorem GA(c:UInt8)(t:List UInt8)(h:0<(⟨(c::t).toArray⟩:ByteArray).size):(⟨(c::t).toArray⟩:ByteArray)[0]'h=c:=rfl
theorem Fh(s:Bs)(w:World)(hs:s.length≤4000000):Calls Tryz.prog 126 #[str s] w fun e w'=>e= .returned (.bool (Ak s))∧w.grownBy w' none:=by
 cases s with
 | nil=>
   go_enter func126,ntmps126;go_wp2;go_ret;exact⟨rfl,Ac _ _⟩
 | cons c t=>
   simp only[List.length_cons]at hs;have hg:=GA c t;by_cases h10:t.length≤9
   ·by_cases hd:48≤c.toNat∧c.toNat≤57
    ·have hm:Ak (c::t)=false:=by simp[Ak,UInt8.le_iff_toNat_le,hd]
     rw[hm];clear hm;obtain⟨hd1,hd2⟩:=hd;go_enter func126,ntmps126;go_wp2;go_ret;exact⟨rfl,Ac _ _⟩
    ·have hm : Ak (c :: t) = (c :: t).all BX := by
      have e1:decide ((c::t).length≤10)=true:=by simp;omega
      have e2:(decide (48≤c)&&decide (c≤57))=false:=by
       rw[Bool.and_eq_false_iff,decide_eq_false_iff_not,decide_eq_false_iff_not,UInt8.le_iff_toNat_le,UInt8.le_iff_toNat_le];have:(48:UInt8).toNat=48:=rfl;have:(57:UInt8).toNat=57:=rfl;omega
      simp only[Ak,e1,e2];rfl
     rw[hm,←KT];clear hm;have hc:c.toNat<48∨57<c.toNat:=by omega
     rcases hc with hc|hc
     all_goals
      clear hd;go_enter func126,ntmps126;go_wp2_with fail;refine(strings_Trim ⟨(c::t).toArray⟩ ⟨nameSet.toArray⟩ _ (by simp[ByteArray.size];omega) (by decide) (ascii_of_all (by decide))).mono ?_;rintro e w1 ⟨rfl,hb⟩;have hgb:=gbB hb none;generalize hz:Lib.trimS (c::t) nameSet=z at*;have HZ:=I hz;clear hz hb;go_wp2;go_ret;refine⟨?_,hgb⟩;rw[HZ.out];cases z<;>rfl
   ·have hm:Ak (c::t)=false:=by simp[Ak];omega
    rw[hm];clear hm;go_enter func126,ntmps126;go_wp2;go_ret;exact⟨rfl,Ac _ _⟩
theorem FH(s:Bs)(w:World)(hs:s.length≤1000000):Calls Tryz.prog 184 #[str s] w fun e w'=>e= .returned (.bool (Ak s))∧w.grownBy w' none:=by
 go_enter func184,ntmps184;go_wp2_with fail;refine(Fh s w (by omega)).mono ?_;rintro e w1 ⟨rfl,hb⟩;go_wp2;go_ret;exact⟨rfl,hb⟩
theorem LA{l:List Tok}{i:Nat}(h:(Z l i).kind=0):i<l.length:=Do (by omega)
def Ce(l:List Tok):Prop:=∀i,(Z l i).text.length≤4000
theorem CA{w:World}{b:Nat}{tv wv:Value}{l:List Tok}{wl:List Bs}{i:Nat}(h:Par w b tv wv l wl i)(hl:Ce l):
 Calls Tryz.prog 143 #[.pointer (some ⟨b,0,none⟩)] w (Post b tv wv l wl w (fun _ v x=>v=str x) (AM l i)):=by
 have hb:=h.lt;have hf:=h.few;by_cases hk:(Z l i).kind=0
 ·have hi:=LA hk;have hs:=hl i;cases hn:Ak (Z l i).text with
  | true=>
    have HM:=I (show AM l i= .ok (Z l i).text (i+1)by simp[AM,hk,hn]);have HK:=I hk;have HN:=I hn;clear hk hn;go_enter func143,ntmps143;go_wp2_with fail;refine(BG h).mono ?_;rintro e w1 ⟨rfl,g1⟩;rw[Bg,HK.out];go_wp2_with fail;refine(FH _ _ (by omega)).mono ?_;rintro e w2 ⟨rfl,g2⟩;rw[HN.out];have h2:Par w2 b tv wv l wl i:=h.gbN gw;have c1:=h2.c1;have f1:=h2.f1;have ct:w2.cell? ⟨w1.heap.size,2,none⟩=some (str (Z l i).text):=Ab g2 (by simp);have hlt:=g1.size;go_wp2;go_ret;exact Post.ok gw HM.out rfl (h2.goI _ _ (by omega) (by omega))
  | false=>
    have HM:=I (show AM l i= .bad i by simp[AM,hn]);have HK:=I hk;have HN:=I hn;clear hk hn;go_enter func143,ntmps143;go_wp2_with fail;refine(BG h).mono ?_;rintro e w1 ⟨rfl,g1⟩;rw[Bg,HK.out];go_wp2_with fail;refine(FH _ _ (by omega)).mono ?_;rintro e w2 ⟨rfl,g2⟩;rw[HN.out];have h2:Par w2 b tv wv l wl i:=h.gbN gw;go_wp2_with fail;refine(CH h2.c1).mono ?_;rintro e w3 ⟨rfl,rfl⟩;exact⟨rfl,Post.bad gw HM.out⟩
 ·have HM:=I (show AM l i= .bad i by simp[AM,hk]);have hk':((Z l i).kind==0)=false:=by simpa using hk
  have hk2:((Z l i).kind !=0)=true:=by simpa using hk
  clear hk;go_enter func143,ntmps143;go_wp2_with fail;refine(BG h).mono ?_;rintro e w1 ⟨rfl,g1⟩;have h1:∀o,Par (w1.alloc o) b tv wv l wl i:=fun o=>(h.gbN g1).alloc o;go_wp2_with fail;refine(CH (h1 _).c1).mono ?_;rintro e w3 ⟨rfl,rfl⟩;exact⟨rfl,Post.bad gw HM.out⟩
end Go.Proofs.YtgjdhajcnechdaaGreatDoor
