/-
  isConst, isExpr, ValidateExpr. list, operand: the texts of operands. text: one node, kind by kind (1). text: one node, kind by kind (2): operands are read and written. text, sized, ExprText.
-/
import Derived.Test.YtgjdhajcnechdaaGreatDoorSv32
import Derived.Test.YtgjdhajcnechdaaGreatDoorSv34
import Derived.Test.YtgjdhajcnechdaaGreatDoorSv30
set_option linter.all false
set_option maxRecDepth 100000
set_option maxHeartbeats 8000000
namespace Go.Proofs.YtgjdhajcnechdaaGreatDoor
open Go.Proofs.Tryz
open Go.RowKit
section
variable {w:World}{vk vn:Int}{vs:Bs}
theorem LF(hl:vs.length≤2000000):
 Calls Tryz.prog 74 #[.agg #[.int .i64 vk,.int .i64 vn,str vs]] w fun e w'=>e= .returned (.bool (AB (HdV vk vn vs)))∧w.grownBy w' none:=by
 have hT:=O (fun W=>Mr vs hl W);by_cases h0:vk=0
 ·subst h0;by_cases hn:vn=0
  ·subst hn;by_cases hs:vs=[]
   ·have HF:=O (show AB (HdV 0 0 vs)=true by simp[AB,HdV,hs]);clear hl hT;have hsI:(vs==[])=true:=by simpa using hs
    go_enter func74,ntmps74;go_wp2;go_ret;exact⟨by rw[HF.out];rfl,(by repeat(first| (with_reducible exact Ac _ _)| (with_reducible assumption)| (with_reducible exact AU (by assumption))| (with_reducible refine Ad ?_ _)| (with_reducible refine Am ?_)| (with_reducible refine A3 ?_ _)| ((with_reducible refine Ay ?_ _ _ ?h2);case h2=>first|exact .inl rfl|exact .inr (Nat.le_refl _)|exact .inr (by simp<;>omega))| (with_reducible refine Ah ?_ (by assumption))| (with_reducible refine Aa ?_ (by assumption))))⟩
   ·have HF:=O (show AB (HdV 0 0 vs)=false by simp[AB,HdV,hs]);clear hl hT;have hsI:(vs==[])=false:=by simpa using hs
    go_enter func74,ntmps74;go_wp2;go_ret;exact⟨by rw[HF.out];rfl,(by repeat(first| (with_reducible exact Ac _ _)| (with_reducible assumption)| (with_reducible exact AU (by assumption))| (with_reducible refine Ad ?_ _)| (with_reducible refine Am ?_)| (with_reducible refine A3 ?_ _)| ((with_reducible refine Ay ?_ _ _ ?h2);case h2=>first|exact .inl rfl|exact .inr (Nat.le_refl _)|exact .inr (by simp<;>omega))| (with_reducible refine Ah ?_ (by assumption))| (with_reducible refine Aa ?_ (by assumption))))⟩
  ·have HF:=O (show AB (HdV 0 vn vs)=false by simp[AB,HdV,hn]);clear hl hT;have hnI:(vn==0)=false:=by simpa using hn
   go_enter func74,ntmps74;go_wp2;go_ret;exact⟨by rw[HF.out];rfl,(by repeat(first| (with_reducible exact Ac _ _)| (with_reducible assumption)| (with_reducible exact AU (by assumption))| (with_reducible refine Ad ?_ _)| (with_reducible refine Am ?_)| (with_reducible refine A3 ?_ _)| ((with_reducible refine Ay ?_ _ _ ?h2);case h2=>first|exact .inl rfl|exact .inr (Nat.le_refl _)|exact .inr (by simp<;>omega))| (with_reducible refine Ah ?_ (by assumption))| (with_reducible refine Aa ?_ (by assumption))))⟩
 have c0:(vk==0)=false:=by simpa using h0
 by_cases h1:vk=1
 ·subst h1;by_cases hn0:vn=0
  ·subst hn0;clear h0;by_cases hs:vs=[]
   ·have HF:=O (show AB (HdV 1 0 vs)=true by simp[AB,HdV,hs]);clear hl hT;have hsI:(vs==[])=true:=by simpa using hs
    go_enter func74,ntmps74;go_wp2;go_ret;exact⟨by rw[HF.out];rfl,(by repeat(first| (with_reducible exact Ac _ _)| (with_reducible assumption)| (with_reducible exact AU (by assumption))| (with_reducible refine Ad ?_ _)| (with_reducible refine Am ?_)| (with_reducible refine A3 ?_ _)| ((with_reducible refine Ay ?_ _ _ ?h2);case h2=>first|exact .inl rfl|exact .inr (Nat.le_refl _)|exact .inr (by simp<;>omega))| (with_reducible refine Ah ?_ (by assumption))| (with_reducible refine Aa ?_ (by assumption))))⟩
   ·have HF:=O (show AB (HdV 1 0 vs)=false by simp[AB,HdV,hs]);clear hl hT;have hsI:(vs==[])=false:=by simpa using hs
    go_enter func74,ntmps74;go_wp2;go_ret;exact⟨by rw[HF.out];rfl,(by repeat(first| (with_reducible exact Ac _ _)| (with_reducible assumption)| (with_reducible exact AU (by assumption))| (with_reducible refine Ad ?_ _)| (with_reducible refine Am ?_)| (with_reducible refine A3 ?_ _)| ((with_reducible refine Ay ?_ _ _ ?h2);case h2=>first|exact .inl rfl|exact .inr (Nat.le_refl _)|exact .inr (by simp<;>omega))| (with_reducible refine Ah ?_ (by assumption))| (with_reducible refine Aa ?_ (by assumption))))⟩
  have hnI0:(vn==0)=false:=by simpa using hn0
  by_cases hn1:vn=1
  ·subst hn1;clear h0;by_cases hs:vs=[]
   ·have HF:=O (show AB (HdV 1 1 vs)=true by simp[AB,HdV,hs]);clear hl hT;have hsI:(vs==[])=true:=by simpa using hs
    go_enter func74,ntmps74;go_wp2;go_ret;exact⟨by rw[HF.out];rfl,(by repeat(first| (with_reducible exact Ac _ _)| (with_reducible assumption)| (with_reducible exact AU (by assumption))| (with_reducible refine Ad ?_ _)| (with_reducible refine Am ?_)| (with_reducible refine A3 ?_ _)| ((with_reducible refine Ay ?_ _ _ ?h2);case h2=>first|exact .inl rfl|exact .inr (Nat.le_refl _)|exact .inr (by simp<;>omega))| (with_reducible refine Ah ?_ (by assumption))| (with_reducible refine Aa ?_ (by assumption))))⟩
   ·have HF:=O (show AB (HdV 1 1 vs)=false by simp[AB,HdV,hs]);clear hl hT;have hsI:(vs==[])=false:=by simpa using hs
    go_enter func74,ntmps74;go_wp2;go_ret;exact⟨by rw[HF.out];rfl,(by repeat(first| (with_reducible exact Ac _ _)| (with_reducible assumption)| (with_reducible exact AU (by assumption))| (with_reducible refine Ad ?_ _)| (with_reducible refine Am ?_)| (with_reducible refine A3 ?_ _)| ((with_reducible refine Ay ?_ _ _ ?h2);case h2=>first|exact .inl rfl|exact .inr (Nat.le_refl _)|exact .inr (by simp<;>omega))| (with_reducible refine Ah ?_ (by assumption))| (with_reducible refine Aa ?_ (by assumption))))⟩
  have hnI1:(vn==1)=false:=by simpa using hn1
  have HF:=O (show AB (HdV 1 vn vs)=false by simp[AB,HdV,hn0,hn1]);clear hl hT h0;go_enter func74,ntmps74;go_wp2;go_ret;exact⟨by rw[HF.out];rfl,(by repeat(first| (with_reducible exact Ac _ _)| (with_reducible assumption)| (with_reducible exact AU (by assumption))| (with_reducible refine Ad ?_ _)| (with_reducible refine Am ?_)| (with_reducible refine A3 ?_ _)| ((with_reducible refine Ay ?_ _ _ ?h2);case h2=>first|exact .inl rfl|exact .inr (Nat.le_refl _)|exact .inr (by simp<;>omega))| (with_reducible refine Ah ?_ (by assumption))| (with_reducible refine Aa ?_ (by assumption))))⟩
 have c1:(vk==1)=false:=by simpa using h1
 by_cases h2:vk=2
 ·subst h2;by_cases ha:0≤vn
  ·by_cases hb:vn≤999999999999999
   ·by_cases hs:vs=[]
    ·have HF:=O (show AB (HdV 2 vn vs)=true by simp[AB,HdV,ha,hb,hs]);clear hl hT;have hsI:(vs==[])=true:=by simpa using hs
     go_enter func74,ntmps74;go_wp2;go_ret;exact⟨by rw[HF.out];rfl,(by repeat(first| (with_reducible exact Ac _ _)| (with_reducible assumption)| (with_reducible exact AU (by assumption))| (with_reducible refine Ad ?_ _)| (with_reducible refine Am ?_)| (with_reducible refine A3 ?_ _)| ((with_reducible refine Ay ?_ _ _ ?h2);case h2=>first|exact .inl rfl|exact .inr (Nat.le_refl _)|exact .inr (by simp<;>omega))| (with_reducible refine Ah ?_ (by assumption))| (with_reducible refine Aa ?_ (by assumption))))⟩
    ·have HF:=O (show AB (HdV 2 vn vs)=false by simp[AB,HdV,ha,hb,hs]);clear hl hT;have hsI:(vs==[])=false:=by simpa using hs
     go_enter func74,ntmps74;go_wp2;go_ret;exact⟨by rw[HF.out];rfl,(by repeat(first| (with_reducible exact Ac _ _)| (with_reducible assumption)| (with_reducible exact AU (by assumption))| (with_reducible refine Ad ?_ _)| (with_reducible refine Am ?_)| (with_reducible refine A3 ?_ _)| ((with_reducible refine Ay ?_ _ _ ?h2);case h2=>first|exact .inl rfl|exact .inr (Nat.le_refl _)|exact .inr (by simp<;>omega))| (with_reducible refine Ah ?_ (by assumption))| (with_reducible refine Aa ?_ (by assumption))))⟩
   ·have HF:=O (show AB (HdV 2 vn vs)=false by simp[AB,HdV,hb]);clear hl hT;have hbI:decide (vn≤999999999999999)=false:=by simpa using hb
    go_enter func74,ntmps74;go_wp2;go_ret;exact⟨by rw[HF.out];rfl,(by repeat(first| (with_reducible exact Ac _ _)| (with_reducible assumption)| (with_reducible exact AU (by assumption))| (with_reducible refine Ad ?_ _)| (with_reducible refine Am ?_)| (with_reducible refine A3 ?_ _)| ((with_reducible refine Ay ?_ _ _ ?h2);case h2=>first|exact .inl rfl|exact .inr (Nat.le_refl _)|exact .inr (by simp<;>omega))| (with_reducible refine Ah ?_ (by assumption))| (with_reducible refine Aa ?_ (by assumption))))⟩
  ·have HF:=O (show AB (HdV 2 vn vs)=false by simp[AB,HdV,ha]);clear hl hT;have haI:decide ((0:Int)≤vn)=false:=by simpa using ha
   go_enter func74,ntmps74;go_wp2;go_ret;exact⟨by rw[HF.out];rfl,(by repeat(first| (with_reducible exact Ac _ _)| (with_reducible assumption)| (with_reducible exact AU (by assumption))| (with_reducible refine Ad ?_ _)| (with_reducible refine Am ?_)| (with_reducible refine A3 ?_ _)| ((with_reducible refine Ay ?_ _ _ ?h2);case h2=>first|exact .inl rfl|exact .inr (Nat.le_refl _)|exact .inr (by simp<;>omega))| (with_reducible refine Ah ?_ (by assumption))| (with_reducible refine Aa ?_ (by assumption))))⟩
 have c2:(vk==2)=false:=by simpa using h2
 by_cases h3:vk=3
 ·subst h3;by_cases ha:0≤vn
  ·by_cases hb:vn≤3652059
   ·by_cases hs:vs=[]
    ·have HF:=O (show AB (HdV 3 vn vs)=true by simp[AB,HdV,ha,hb,hs]);clear hl hT;have hsI:(vs==[])=true:=by simpa using hs
     go_enter func74,ntmps74;go_wp2;go_ret;exact⟨by rw[HF.out];rfl,(by repeat(first| (with_reducible exact Ac _ _)| (with_reducible assumption)| (with_reducible exact AU (by assumption))| (with_reducible refine Ad ?_ _)| (with_reducible refine Am ?_)| (with_reducible refine A3 ?_ _)| ((with_reducible refine Ay ?_ _ _ ?h2);case h2=>first|exact .inl rfl|exact .inr (Nat.le_refl _)|exact .inr (by simp<;>omega))| (with_reducible refine Ah ?_ (by assumption))| (with_reducible refine Aa ?_ (by assumption))))⟩
    ·have HF:=O (show AB (HdV 3 vn vs)=false by simp[AB,HdV,ha,hb,hs]);clear hl hT;have hsI:(vs==[])=false:=by simpa using hs
     go_enter func74,ntmps74;go_wp2;go_ret;exact⟨by rw[HF.out];rfl,(by repeat(first| (with_reducible exact Ac _ _)| (with_reducible assumption)| (with_reducible exact AU (by assumption))| (with_reducible refine Ad ?_ _)| (with_reducible refine Am ?_)| (with_reducible refine A3 ?_ _)| ((with_reducible refine Ay ?_ _ _ ?h2);case h2=>first|exact .inl rfl|exact .inr (Nat.le_refl _)|exact .inr (by simp<;>omega))| (with_reducible refine Ah ?_ (by assumption))| (with_reducible refine Aa ?_ (by assumption))))⟩
   ·have HF:=O (show AB (HdV 3 vn vs)=false by simp[AB,HdV,hb]);clear hl hT;have hbI:decide (vn≤3652059)=false:=by simpa using hb
    go_enter func74,ntmps74;go_wp2;go_ret;exact⟨by rw[HF.out];rfl,(by repeat(first| (with_reducible exact Ac _ _)| (with_reducible assumption)| (with_reducible exact AU (by assumption))| (with_reducible refine Ad ?_ _)| (with_reducible refine Am ?_)| (with_reducible refine A3 ?_ _)| ((with_reducible refine Ay ?_ _ _ ?h2);case h2=>first|exact .inl rfl|exact .inr (Nat.le_refl _)|exact .inr (by simp<;>omega))| (with_reducible refine Ah ?_ (by assumption))| (with_reducible refine Aa ?_ (by assumption))))⟩
  ·have HF:=O (show AB (HdV 3 vn vs)=false by simp[AB,HdV,ha]);clear hl hT;have haI:decide ((0:Int)≤vn)=false:=by simpa using ha
   go_enter func74,ntmps74;go_wp2;go_ret;exact⟨by rw[HF.out];rfl,(by repeat(first| (with_reducible exact Ac _ _)| (with_reducible assumption)| (with_reducible exact AU (by assumption))| (with_reducible refine Ad ?_ _)| (with_reducible refine Am ?_)| (with_reducible refine A3 ?_ _)| ((with_reducible refine Ay ?_ _ _ ?h2);case h2=>first|exact .inl rfl|exact .inr (Nat.le_refl _)|exact .inr (by simp<;>omega))| (with_reducible refine Ah ?_ (by assumption))| (with_reducible refine Aa ?_ (by assumption))))⟩
 have c3:(vk==3)=false:=by simpa using h3
 by_cases h4:vk=4
 ·subst h4;by_cases hn:vn=0
  ·subst hn;have HF:=O (show AB (HdV 4 0 vs)=Cu vs by simp[AB,HdV]);rw[HF.out];clear hl HF;generalize Cu vs=b at*;go_enter func74,ntmps74;go_wp2_with fail;refine(hT.out _).mono ?_;rintro e w1 ⟨rfl,g1⟩;have HG:=O (Aa (World.grownBy_alloc w (.cells #[.int .i64 4,.int .i64 0,str vs] 23 (0,0)) none) g1);clear g1;go_wp2;go_ret;exact⟨rfl,HG.out⟩
  ·have HF:=O (show AB (HdV 4 vn vs)=false by simp[AB,HdV,hn]);clear hl hT;have hnI:(vn==0)=false:=by simpa using hn
   go_enter func74,ntmps74;go_wp2;go_ret;exact⟨by rw[HF.out];rfl,(by repeat(first| (with_reducible exact Ac _ _)| (with_reducible assumption)| (with_reducible exact AU (by assumption))| (with_reducible refine Ad ?_ _)| (with_reducible refine Am ?_)| (with_reducible refine A3 ?_ _)| ((with_reducible refine Ay ?_ _ _ ?h2);case h2=>first|exact .inl rfl|exact .inr (Nat.le_refl _)|exact .inr (by simp<;>omega))| (with_reducible refine Ah ?_ (by assumption))| (with_reducible refine Aa ?_ (by assumption))))⟩
 have c4:(vk==4)=false:=by simpa using h4
 have HF:=O (show AB (HdV vk vn vs)=false by simp[AB,HdV,h0,h1,h2,h3,h4]);clear hl hT;go_enter func74,ntmps74;go_wp2;go_ret;exact⟨by rw[HF.out];rfl,(by repeat(first| (with_reducible exact Ac _ _)| (with_reducible assumption)| (with_reducible exact AU (by assumption))| (with_reducible refine Ad ?_ _)| (with_reducible refine Am ?_)| (with_reducible refine A3 ?_ _)| ((with_reducible refine Ay ?_ _ _ ?h2);case h2=>first|exact .inl rfl|exact .inr (Nat.le_refl _)|exact .inr (by simp<;>omega))| (with_reducible refine Ah ?_ (by assumption))| (with_reducible refine Aa ?_ (by assumption))))⟩
end
theorem Hp{w:World}{h:Hd}{pa la:Option Addr}{pc n lc:Nat}{b:Bool}{ok:Nat→Prop}(hfit:h.fit)(hp:Cells w (.slice pa h.p.length pc) 1 h.p.length (h.p.map str) ok)
 (HL:∀W,w.grownBy W none→Calls Tryz.prog 73 #[.slice la n lc] W fun e w'=>e= .returned (.bool b)∧W.grownBy w' none):
 Calls Tryz.prog 46 #[exV h (.slice pa h.p.length pc) (.slice la n lc)] w fun e w'=>e= .returned (.bool (AR h n&&b))∧w.grownBy w' none:=by
 by_cases hv:h.op≠0∧¬(h.vk=0∧h.vn=0∧h.vs=[])
 ·rw[NF hv.1 hv.2];exact LG hv.1 hv.2
 by_cases h8:h.op≠8∧h.p≠[]
 ·rw[NG hv h8.1 h8.2];exact LH hv h8.1 h8.2
 cases b with
 | false=>
   rw[Bool.and_false];exact LI hv h8 HL
 | true=>
   rw[Bool.and_true,NH hv h8];have H:VaH w h pa la pc n lc:=⟨HL,fun W g=>Hl h.s W (by have:=hfit.1;omega),fun W g=>LF hfit.2.1,fun W g=>Kj h.s W,fun W g=>Kq (hp.gb g (by simp)) hfit.2.2.2⟩;clear hp HL hfit;obtain⟨op,s,vk,vn,vs,p⟩:=h;simp only at hv h8;by_cases e0:op=0
   ·subst e0;obtain rfl:p=[]:=Classical.not_not.1 fun e=>h8 ⟨by decide,e⟩;exact Pj (O H)
   obtain⟨rfl,rfl,rfl⟩:vk=0∧vn=0∧vs=[]:=Classical.not_not.1 fun e=>hv ⟨e0,e⟩;by_cases e8:op=8
   ·subst e8;exact Pr (O H)
   obtain rfl:p=[]:=Classical.not_not.1 fun e=>h8 ⟨e8,e⟩;by_cases e1:op=1
   ·subst e1;exact Pk (O H)
   by_cases e2:op=2
   ·subst e2;exact Pl (O H)
   by_cases e3:op=3
   ·subst e3;exact Pm (O H)
   by_cases e4:op=4
   ·subst e4;exact Pn (O H)
   by_cases e5:op=5
   ·subst e5;exact Po (O H)
   by_cases e6:op=6
   ·subst e6;exact Pp (O H)
   by_cases e7:op=7
   ·subst e7;exact Pq (O H)
   by_cases e9:op=9
   ·subst e9;exact Ps (O H)
   by_cases e10:op=10
   ·subst e10;exact N5 (O H)
   have hF:As ⟨op,s,0,0,[],[]⟩ n=false:=by
    unfold As;simp only;rw[if_neg e0,if_neg (by omega),if_neg e2,if_neg e3,if_neg e4,if_neg e5,if_neg e6,if_neg e7,if_neg e8,if_neg e9]
   rw[hF];have c0:(op==0)=false:=by simpa using e0
   have c0':(op !=0)=true:=by simpa using e0
   have c1:(op==1)=false:=by simpa using e1
   have c2:(op==2)=false:=by simpa using e2
   have c3:(op==3)=false:=by simpa using e3
   have c4:(op==4)=false:=by simpa using e4
   have c5:(op==5)=false:=by simpa using e5
   have c6:(op==6)=false:=by simpa using e6
   have c7:(op==7)=false:=by simpa using e7
   have c8:(op==8)=false:=by simpa using e8
   have c8':(op !=8)=true:=by simpa using e8
   have c9:(op==9)=false:=by simpa using e9
   have c10:(op==10)=false:=by simpa using e10
   clear e0 e1 e2 e3 e4 e5 e6 e7 e8 e9 e10 hv h8 hF;replace H:=O H;go_enter func46,ntmps46;go_wp2_with fail;refine(H.out.1 _ ?gg).mono ?_
   case gg=>exact (by repeat(first| (with_reducible exact Ac _ _)| (with_reducible assumption)| (with_reducible exact AU (by assumption))| (with_reducible refine Ad ?_ _)| (with_reducible refine Am ?_)| (with_reducible refine A3 ?_ _)| ((with_reducible refine Ay ?_ _ _ ?h2);case h2=>first|exact .inl rfl|exact .inr (Nat.le_refl _)|exact .inr (by simp<;>omega))| (with_reducible refine Ah ?_ (by assumption))| (with_reducible refine Aa ?_ (by assumption))))
   rintro e w5 ⟨rfl,g5⟩;have hb5:=((Blk.new w (hdC ⟨op,s,0,0,[],[]⟩ (.slice pa ([]:List Bs).length pc) (.slice la n lc)) 27).alloc (.cells #[.int .i64 0,.int .i64 0,.string ⟨#[]⟩] 23 (0,0))).gb g5 (by simp);obtain⟨x_0,x_1,x_2,x_3,x_4,x_5,x_6,x_f⟩:=(hb5).c7;simp only at x_0 x_1 x_2 x_3 x_4 x_5 x_6;have HB:=O hb5;have HG:=O (Aa (Ad (World.grownBy_alloc w (.cells (hdC ⟨op,s,0,0,[],[]⟩ (.slice pa ([]:List Bs).length pc) (.slice la n lc)).toArray 27 (0,0)) none) (.cells #[.int .i64 0,.int .i64 0,.string ⟨#[]⟩] 23 (0,0))) g5);clear g5 hb5;go_wp2;go_ret;exact⟨rfl,HG.out⟩
theorem MA:∀(N:Nat)(f:Fo),f.wt<N→f.fit→∀(ok:Nat→Prop)(la:Option Addr)(lc:Nat)(w:World),RepL ok w (.slice la f.len lc) f→
 Calls Tryz.prog 73 #[.slice la f.len lc] w fun e w'=>e= .returned (.bool (okF f))∧w.grownBy w' none:=by
 intro N;induction N with
 |zero=>intro f hN;omega
 | succ N ih=>
   intro f hN hfit ok la lc w hf;exact JZ f ok la lc w hf hfit (fun h k pa lb pc ld W h1 h2 h3 h4 h5=>Hp h2 h4 (fun W2 g=>ih k (by omega) h3 _ lb ld W2 (h5.gb g (by simp))))
theorem Mn{w:World}{v:Value}{x:Ex}{ok:Nat→Prop}(hx:VE ok w v x)(h1:x.h.fit)(h2:x.kids.fit):
 Calls Tryz.prog 46 #[v] w fun e w'=>e= .returned (.bool (okX x))∧w.grownBy w' none:=by
 obtain⟨pa,pc,la,lc,rfl,hp,hl⟩:=hx;exact Hp h1 hp (fun W g=>MA _ x.kids (Nat.lt_succ_self _) h2 _ la lc W (hl.gb g (by simp)))
def AG(x:Ex):Int:=if AL x.nodes x.levels then 3 else if okX x then 0 else 1
theorem Hv{w:World}{v:Value}{x:Ex}{ok:Nat→Prop}(hx:VE ok w v x)(h1:x.h.fit)(h2:x.kids.fit)(hn:x.kids.nodes≤1000000):
 Calls Tryz.prog 18 #[v] w fun e w'=>e= .returned (.int .i64 (AG x))∧w.grownBy w' none:=by
 have HS:=O (fun(W:World)(g:w.grownBy W none)=>Ga (hx.gb g (by simp)) hn);have HL:=O (fun(W:World)=>EU x.nodes x.levels W);have HE:=O (fun(W:World)(g:w.grownBy W none)=>Mn (hx.gb g (by simp)) h1 h2);have HV:=O (show AG x=if AL x.nodes x.levels then 3 else if okX x then 0 else 1 from rfl);obtain⟨pa,pc,la,lc,rfl,_,_⟩:=hx;generalize AL x.nodes x.levels=lb at*;generalize okX x=ob at*;generalize AG x=vm at*;have hB:=Blk.new w (hdC x.h (.slice pa x.h.p.length pc) (.slice la x.kids.len lc)) 27;have hB1:=hB;obtain⟨x_0,x_1,x_2,x_3,x_4,x_5,x_6,x_f⟩:=(hB1).c7;clear h1 h2 hB1;have HB:=O hB;clear hB;cases lb with
 | true=>
   go_enter func18,ntmps18;go_wp2_with fail;refine(HS.out _ ?gg).mono ?_
   case gg=>exact (by repeat(first| (with_reducible exact Ac _ _)| (with_reducible assumption)| (with_reducible exact AU (by assumption))| (with_reducible refine Ad ?_ _)| (with_reducible refine Am ?_)| (with_reducible refine A3 ?_ _)| ((with_reducible refine Ay ?_ _ _ ?h2);case h2=>first|exact .inl rfl|exact .inr (Nat.le_refl _)|exact .inr (by simp<;>omega))| (with_reducible refine Ah ?_ (by assumption))| (with_reducible refine Aa ?_ (by assumption))))
   rintro e w1 ⟨rfl,g1⟩;go_wp2_with fail;refine(HL.out _).mono ?_;rintro e w2 ⟨rfl,g2⟩;go_wp2;go_ret;exact⟨by rw[HV.out];rfl,Aa (Aa (World.grownBy_alloc w _ none) g1) g2⟩
 | false=>
   go_enter func18,ntmps18;go_wp2_with fail;refine(HS.out _ ?gg).mono ?_
   case gg=>exact (by repeat(first| (with_reducible exact Ac _ _)| (with_reducible assumption)| (with_reducible exact AU (by assumption))| (with_reducible refine Ad ?_ _)| (with_reducible refine Am ?_)| (with_reducible refine A3 ?_ _)| ((with_reducible refine Ay ?_ _ _ ?h2);case h2=>first|exact .inl rfl|exact .inr (Nat.le_refl _)|exact .inr (by simp<;>omega))| (with_reducible refine Ah ?_ (by assumption))| (with_reducible refine Aa ?_ (by assumption))))
   rintro e w1 ⟨rfl,g1⟩;go_wp2_with fail;refine(HL.out _).mono ?_;rintro e w2 ⟨rfl,g2⟩;have hb2:=(HB.out.gb g1 (by simp)).gb g2 (by simp);have HG:=O (Aa (Aa (World.grownBy_alloc w (.cells (hdC x.h (.slice pa x.h.p.length pc) (.slice la x.kids.len lc)).toArray 27 (0,0)) none) g1) g2);clear x_0 x_1 x_2 x_3 x_4 x_5 x_6 x_f g1 g2;obtain⟨y_0,y_1,y_2,y_3,y_4,y_5,y_6,y_f⟩:=(hb2).c7;clear hb2;go_wp2_with fail;refine(HE.out _ HG.out).mono ?_;rintro e w3 ⟨rfl,g3⟩;cases ob with
   | true=>
     go_wp2;go_ret;exact⟨by rw[HV.out];rfl,Aa HG.out g3⟩
   | false=>
     go_wp2;go_ret;exact⟨by rw[HV.out];rfl,Aa HG.out g3⟩
section
variable {w:World}{h:Hd}{pa la:Option Addr}{pc n lc:Nat}{t:Bs}
end
section
variable {w:World}{s vs:Bs}{p:List Bs}{vk vn:Int}{pa la:Option Addr}{pc pn n lc:Nat}{t:Bs}
end
def Kid(w:World)(g o:Nat)(a:Hd)(pv lv:Value):Prop:=g<w.heap.size∧∀i u,(hdC a pv lv)[i]? =some u→w.cell? ⟨g,o+i,none⟩=some u
theorem Kid.c7{w:World}{g o:Nat}{a:Hd}{pv lv:Value}(h:Kid w g o a pv lv):w.cell? ⟨g,o,none⟩=some (.int .i64 a.op)∧w.cell? ⟨g,o+1,none⟩=some (str a.s)∧w.cell? ⟨g,o+2,none⟩=some (.int .i64 a.vk)∧w.cell? ⟨g,o+3,none⟩=some (.int .i64 a.vn)∧w.cell? ⟨g,o+4,none⟩=some (str a.vs)∧w.cell? ⟨g,o+5,none⟩=some pv∧w.cell? ⟨g,o+6,none⟩=some lv:=
 ⟨h.2 0 _ rfl,h.2 1 _ rfl,h.2 2 _ rfl,h.2 3 _ rfl,h.2 4 _ rfl,h.2 5 _ rfl,h.2 6 _ rfl⟩
section
variable {w:World}{s vs:Bs}{p:List Bs}{vk vn:Int}{pa la:Option Addr}{pc pn n lc:Nat}{t:Bs}
end
section
variable {W W1:World}(g5:W.grownBy W1 none)
include g5
theorem Kid.gb'{g o:Nat}{a:Hd}{pv lv:Value}(h:Kid W g o a pv lv):Kid W1 g o a pv lv:=⟨Nat.lt_of_lt_of_le h.1 g5.size,fun i u hu=>Af g5 (h.2 i u hu)⟩
theorem J6{g o0 o1 o2 o3 o4 o5 o6:Nat}{v0 v1 v2 v3 v4 v5 v6:Value}(h:W.cell? ⟨g,o0,none⟩=some v0∧W.cell? ⟨g,o1,none⟩=some v1∧W.cell? ⟨g,o2,none⟩=some v2∧W.cell? ⟨g,o3,none⟩=some v3∧W.cell? ⟨g,o4,none⟩=some v4∧W.cell? ⟨g,o5,none⟩=some v5∧W.cell? ⟨g,o6,none⟩=some v6):
 W1.cell? ⟨g,o0,none⟩=some v0∧W1.cell? ⟨g,o1,none⟩=some v1∧W1.cell? ⟨g,o2,none⟩=some v2∧W1.cell? ⟨g,o3,none⟩=some v3∧W1.cell? ⟨g,o4,none⟩=some v4∧W1.cell? ⟨g,o5,none⟩=some v5∧W1.cell? ⟨g,o6,none⟩=some v6:=
 ⟨Af g5 h.1,Af g5 h.2.1,Af g5 h.2.2.1,Af g5 h.2.2.2.1,Af g5 h.2.2.2.2.1,Af g5 h.2.2.2.2.2.1,Af g5 h.2.2.2.2.2.2⟩
end
section
variable {w:World}{s vs:Bs}{p:List Bs}{vk vn:Int}{pa qa ra qa2 ra2:Option Addr}{pc pn lc qn qc rn rc qn2 qc2 rn2 rc2 g o:Nat}{t t2:Bs}{a a2:Hd}
end
theorem CL{w:World}{ok:Nat→Prop}{la:Option Addr}{n lc:Nat}{cs:List Value}{a:Hd}{b nx:Fo}{k:Nat}(hc:∀j u,cs[j]? =some u→∃g o,la=some ⟨g,o,none⟩∧ok g∧w.cell? ⟨g,o+j,none⟩=some u)
 (hr:RepF ok w (.cons a b nx) (cs.drop (k*7))):∃g o pa pc lb ld,la=some ⟨g,o,none⟩∧Cells w (.slice pa a.p.length pc) 1 a.p.length (a.p.map str) ok∧RepL ok w (.slice lb b.len ld) b∧RepF ok w nx (cs.drop ((k+1)*7))∧Kid w g (o+k*7) a (.slice pa a.p.length pc) (.slice lb b.len ld):=by
 obtain⟨pa,pc,lb,ld,h1,h2,h3,h4⟩:=RepF.elem (n:=n) (lc:=lc) (f:= .nil) hc hr;obtain⟨g,o,e,_,h5⟩:=h4 0 _ rfl;refine⟨g,o,pa,pc,lb,ld,e,h1,h2,h3,World.block_lt_of_cell? _ _ h5,fun i u hu=>?_⟩;obtain⟨g',o',e',_,h6⟩:=h4 i u hu;rw[e]at e';cases e';rw[Nat.add_assoc];exact h6
theorem I6{x:Ex}(h:AG x=0):okX x=true∧AL x.nodes x.levels=false:=by
 unfold AG at h;cases hl:AL x.nodes x.levels with
 |true=>rw[hl]at h;simp at h
 | false=>
   rw[hl]at h;cases ho:okX x with
   |true=>exact⟨rfl,rfl⟩
   |false=>rw[ho]at h;simp at h
end Go.Proofs.YtgjdhajcnechdaaGreatDoor
