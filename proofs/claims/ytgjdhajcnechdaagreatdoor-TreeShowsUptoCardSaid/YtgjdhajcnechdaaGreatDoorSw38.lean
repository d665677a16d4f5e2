/-
  isConst, isExpr, ValidateExpr. list, operand: the texts of operands. text: one node, kind by kind (1).
-/
import Derived.Test.YtgjdhajcnechdaaGreatDoorSw37
import Derived.Test.YtgjdhajcnechdaaGreatDoorSw36
import Derived.Test.YtgjdhajcnechdaaGreatDoorSw30
set_option linter.all false
set_option maxRecDepth 100000
set_option maxHeartbeats 8000000
namespace Go.Proofs.YtgjdhajcnechdaaGreatDoor
open Go.Proofs.Tryz
open Go.RowKit
section
variable {w:World}{vk vn:Int}{vs:Bs}
theorem LM(hl:vs.length≤2000000):
 Calls Tryz.prog 74 #[.agg #[.int .i64 vk,.int .i64 vn,str vs]] w fun e w'=>e= .returned (.bool (A2 (HdV vk vn vs)))∧w.grownBy w' none:=by
 have hT:=O (fun W=>NA vs hl W);by_cases h0:vk=0
 ·subst h0;by_cases hn:vn=0
  ·subst hn;by_cases hs:vs=[]
   ·have HF:=O (show A2 (HdV 0 0 vs)=true by simp[A2,HdV,hs]);clear hl hT;have hsI:(vs==[])=true:=by simpa using hs
    go_enter func74,ntmps74;go_wp2;go_ret;exact⟨by rw[HF.out];rfl,(by repeat(first| (with_reducible exact Ac _ _)| (with_reducible assumption)| (with_reducible exact AX (by assumption))| (with_reducible refine Ad ?_ _)| (with_reducible refine Am ?_)| (with_reducible refine Ay ?_ _)| ((with_reducible refine Az ?_ _ _ ?h2);case h2=>first|exact .inl rfl|exact .inr (Nat.le_refl _)|exact .inr (by simp<;>omega))| (with_reducible refine Ag ?_ (by assumption))| (with_reducible refine Aa ?_ (by assumption))))⟩
   ·have HF:=O (show A2 (HdV 0 0 vs)=false by simp[A2,HdV,hs]);clear hl hT;have hsI:(vs==[])=false:=by simpa using hs
    go_enter func74,ntmps74;go_wp2;go_ret;exact⟨by rw[HF.out];rfl,(by repeat(first| (with_reducible exact Ac _ _)| (with_reducible assumption)| (with_reducible exact AX (by assumption))| (with_reducible refine Ad ?_ _)| (with_reducible refine Am ?_)| (with_reducible refine Ay ?_ _)| ((with_reducible refine Az ?_ _ _ ?h2);case h2=>first|exact .inl rfl|exact .inr (Nat.le_refl _)|exact .inr (by simp<;>omega))| (with_reducible refine Ag ?_ (by assumption))| (with_reducible refine Aa ?_ (by assumption))))⟩
  ·have HF:=O (show A2 (HdV 0 vn vs)=false by simp[A2,HdV,hn]);clear hl hT;have hnI:(vn==0)=false:=by simpa using hn
   go_enter func74,ntmps74;go_wp2;go_ret;exact⟨by rw[HF.out];rfl,(by repeat(first| (with_reducible exact Ac _ _)| (with_reducible assumption)| (with_reducible exact AX (by assumption))| (with_reducible refine Ad ?_ _)| (with_reducible refine Am ?_)| (with_reducible refine Ay ?_ _)| ((with_reducible refine Az ?_ _ _ ?h2);case h2=>first|exact .inl rfl|exact .inr (Nat.le_refl _)|exact .inr (by simp<;>omega))| (with_reducible refine Ag ?_ (by assumption))| (with_reducible refine Aa ?_ (by assumption))))⟩
 have c0:(vk==0)=false:=by simpa using h0
 by_cases h1:vk=1
 ·subst h1;by_cases hn0:vn=0
  ·subst hn0;clear h0;by_cases hs:vs=[]
   ·have HF:=O (show A2 (HdV 1 0 vs)=true by simp[A2,HdV,hs]);clear hl hT;have hsI:(vs==[])=true:=by simpa using hs
    go_enter func74,ntmps74;go_wp2;go_ret;exact⟨by rw[HF.out];rfl,(by repeat(first| (with_reducible exact Ac _ _)| (with_reducible assumption)| (with_reducible exact AX (by assumption))| (with_reducible refine Ad ?_ _)| (with_reducible refine Am ?_)| (with_reducible refine Ay ?_ _)| ((with_reducible refine Az ?_ _ _ ?h2);case h2=>first|exact .inl rfl|exact .inr (Nat.le_refl _)|exact .inr (by simp<;>omega))| (with_reducible refine Ag ?_ (by assumption))| (with_reducible refine Aa ?_ (by assumption))))⟩
   ·have HF:=O (show A2 (HdV 1 0 vs)=false by simp[A2,HdV,hs]);clear hl hT;have hsI:(vs==[])=false:=by simpa using hs
    go_enter func74,ntmps74;go_wp2;go_ret;exact⟨by rw[HF.out];rfl,(by repeat(first| (with_reducible exact Ac _ _)| (with_reducible assumption)| (with_reducible exact AX (by assumption))| (with_reducible refine Ad ?_ _)| (with_reducible refine Am ?_)| (with_reducible refine Ay ?_ _)| ((with_reducible refine Az ?_ _ _ ?h2);case h2=>first|exact .inl rfl|exact .inr (Nat.le_refl _)|exact .inr (by simp<;>omega))| (with_reducible refine Ag ?_ (by assumption))| (with_reducible refine Aa ?_ (by assumption))))⟩
  have hnI0:(vn==0)=false:=by simpa using hn0
  by_cases hn1:vn=1
  ·subst hn1;clear h0;by_cases hs:vs=[]
   ·have HF:=O (show A2 (HdV 1 1 vs)=true by simp[A2,HdV,hs]);clear hl hT;have hsI:(vs==[])=true:=by simpa using hs
    go_enter func74,ntmps74;go_wp2;go_ret;exact⟨by rw[HF.out];rfl,(by repeat(first| (with_reducible exact Ac _ _)| (with_reducible assumption)| (with_reducible exact AX (by assumption))| (with_reducible refine Ad ?_ _)| (with_reducible refine Am ?_)| (with_reducible refine Ay ?_ _)| ((with_reducible refine Az ?_ _ _ ?h2);case h2=>first|exact .inl rfl|exact .inr (Nat.le_refl _)|exact .inr (by simp<;>omega))| (with_reducible refine Ag ?_ (by assumption))| (with_reducible refine Aa ?_ (by assumption))))⟩
   ·have HF:=O (show A2 (HdV 1 1 vs)=false by simp[A2,HdV,hs]);clear hl hT;have hsI:(vs==[])=false:=by simpa using hs
    go_enter func74,ntmps74;go_wp2;go_ret;exact⟨by rw[HF.out];rfl,(by repeat(first| (with_reducible exact Ac _ _)| (with_reducible assumption)| (with_reducible exact AX (by assumption))| (with_reducible refine Ad ?_ _)| (with_reducible refine Am ?_)| (with_reducible refine Ay ?_ _)| ((with_reducible refine Az ?_ _ _ ?h2);case h2=>first|exact .inl rfl|exact .inr (Nat.le_refl _)|exact .inr (by simp<;>omega))| (with_reducible refine Ag ?_ (by assumption))| (with_reducible refine Aa ?_ (by assumption))))⟩
  have hnI1:(vn==1)=false:=by simpa using hn1
  have HF:=O (show A2 (HdV 1 vn vs)=false by simp[A2,HdV,hn0,hn1]);clear hl hT h0;go_enter func74,ntmps74;go_wp2;go_ret;exact⟨by rw[HF.out];rfl,(by repeat(first| (with_reducible exact Ac _ _)| (with_reducible assumption)| (with_reducible exact AX (by assumption))| (with_reducible refine Ad ?_ _)| (with_reducible refine Am ?_)| (with_reducible refine Ay ?_ _)| ((with_reducible refine Az ?_ _ _ ?h2);case h2=>first|exact .inl rfl|exact .inr (Nat.le_refl _)|exact .inr (by simp<;>omega))| (with_reducible refine Ag ?_ (by assumption))| (with_reducible refine Aa ?_ (by assumption))))⟩
 have c1:(vk==1)=false:=by simpa using h1
 by_cases h2:vk=2
 ·subst h2;by_cases ha:0≤vn
  ·by_cases hb:vn≤999999999999999
   ·by_cases hs:vs=[]
    ·have HF:=O (show A2 (HdV 2 vn vs)=true by simp[A2,HdV,ha,hb,hs]);clear hl hT;have hsI:(vs==[])=true:=by simpa using hs
     go_enter func74,ntmps74;go_wp2;go_ret;exact⟨by rw[HF.out];rfl,(by repeat(first| (with_reducible exact Ac _ _)| (with_reducible assumption)| (with_reducible exact AX (by assumption))| (with_reducible refine Ad ?_ _)| (with_reducible refine Am ?_)| (with_reducible refine Ay ?_ _)| ((with_reducible refine Az ?_ _ _ ?h2);case h2=>first|exact .inl rfl|exact .inr (Nat.le_refl _)|exact .inr (by simp<;>omega))| (with_reducible refine Ag ?_ (by assumption))| (with_reducible refine Aa ?_ (by assumption))))⟩
    ·have HF:=O (show A2 (HdV 2 vn vs)=false by simp[A2,HdV,ha,hb,hs]);clear hl hT;have hsI:(vs==[])=false:=by simpa using hs
     go_enter func74,ntmps74;go_wp2;go_ret;exact⟨by rw[HF.out];rfl,(by repeat(first| (with_reducible exact Ac _ _)| (with_reducible assumption)| (with_reducible exact AX (by assumption))| (with_reducible refine Ad ?_ _)| (with_reducible refine Am ?_)| (with_reducible refine Ay ?_ _)| ((with_reducible refine Az ?_ _ _ ?h2);case h2=>first|exact .inl rfl|exact .inr (Nat.le_refl _)|exact .inr (by simp<;>omega))| (with_reducible refine Ag ?_ (by assumption))| (with_reducible refine Aa ?_ (by assumption))))⟩
   ·have HF:=O (show A2 (HdV 2 vn vs)=false by simp[A2,HdV,hb]);clear hl hT;have hbI:decide (vn≤999999999999999)=false:=by simpa using hb
    go_enter func74,ntmps74;go_wp2;go_ret;exact⟨by rw[HF.out];rfl,(by repeat(first| (with_reducible exact Ac _ _)| (with_reducible assumption)| (with_reducible exact AX (by assumption))| (with_reducible refine Ad ?_ _)| (with_reducible refine Am ?_)| (with_reducible refine Ay ?_ _)| ((with_reducible refine Az ?_ _ _ ?h2);case h2=>first|exact .inl rfl|exact .inr (Nat.le_refl _)|exact .inr (by simp<;>omega))| (with_reducible refine Ag ?_ (by assumption))| (with_reducible refine Aa ?_ (by assumption))))⟩
  ·have HF:=O (show A2 (HdV 2 vn vs)=false by simp[A2,HdV,ha]);clear hl hT;have haI:decide ((0:Int)≤vn)=false:=by simpa using ha
   go_enter func74,ntmps74;go_wp2;go_ret;exact⟨by rw[HF.out];rfl,(by repeat(first| (with_reducible exact Ac _ _)| (with_reducible assumption)| (with_reducible exact AX (by assumption))| (with_reducible refine Ad ?_ _)| (with_reducible refine Am ?_)| (with_reducible refine Ay ?_ _)| ((with_reducible refine Az ?_ _ _ ?h2);case h2=>first|exact .inl rfl|exact .inr (Nat.le_refl _)|exact .inr (by simp<;>omega))| (with_reducible refine Ag ?_ (by assumption))| (with_reducible refine Aa ?_ (by assumption))))⟩
 have c2:(vk==2)=false:=by simpa using h2
 by_cases h3:vk=3
 ·subst h3;by_cases ha:0≤vn
  ·by_cases hb:vn≤3652059
   ·by_cases hs:vs=[]
    ·have HF:=O (show A2 (HdV 3 vn vs)=true by simp[A2,HdV,ha,hb,hs]);clear hl hT;have hsI:(vs==[])=true:=by simpa using hs
     go_enter func74,ntmps74;go_wp2;go_ret;exact⟨by rw[HF.out];rfl,(by repeat(first| (with_reducible exact Ac _ _)| (with_reducible assumption)| (with_reducible exact AX (by assumption))| (with_reducible refine Ad ?_ _)| (with_reducible refine Am ?_)| (with_reducible refine Ay ?_ _)| ((with_reducible refine Az ?_ _ _ ?h2);case h2=>first|exact .inl rfl|exact .inr (Nat.le_refl _)|exact .inr (by simp<;>omega))| (with_reducible refine Ag ?_ (by assumption))| (with_reducible refine Aa ?_ (by assumption))))⟩
    ·have HF:=O (show A2 (HdV 3 vn vs)=false by simp[A2,HdV,ha,hb,hs]);clear hl hT;have hsI:(vs==[])=false:=by simpa using hs
     go_enter func74,ntmps74;go_wp2;go_ret;exact⟨by rw[HF.out];rfl,(by repeat(first| (with_reducible exact Ac _ _)| (with_reducible assumption)| (with_reducible exact AX (by assumption))| (with_reducible refine Ad ?_ _)| (with_reducible refine Am ?_)| (with_reducible refine Ay ?_ _)| ((with_reducible refine Az ?_ _ _ ?h2);case h2=>first|exact .inl rfl|exact .inr (Nat.le_refl _)|exact .inr (by simp<;>omega))| (with_reducible refine Ag ?_ (by assumption))| (with_reducible refine Aa ?_ (by assumption))))⟩
   ·have HF:=O (show A2 (HdV 3 vn vs)=false by simp[A2,HdV,hb]);clear hl hT;have hbI:decide (vn≤3652059)=false:=by simpa using hb
    go_enter func74,ntmps74;go_wp2;go_ret;exact⟨by rw[HF.out];rfl,(by repeat(first| (with_reducible exact Ac _ _)| (with_reducible assumption)| (with_reducible exact AX (by assumption))| (with_reducible refine Ad ?_ _)| (with_reducible refine Am ?_)| (with_reducible refine Ay ?_ _)| ((with_reducible refine Az ?_ _ _ ?h2);case h2=>first|exact .inl rfl|exact .inr (Nat.le_refl _)|exact .inr (by simp<;>omega))| (with_reducible refine Ag ?_ (by assumption))| (with_reducible refine Aa ?_ (by assumption))))⟩
  ·have HF:=O (show A2 (HdV 3 vn vs)=false by simp[A2,HdV,ha]);clear hl hT;have haI:decide ((0:Int)≤vn)=false:=by simpa using ha
   go_enter func74,ntmps74;go_wp2;go_ret;exact⟨by rw[HF.out];rfl,(by repeat(first| (with_reducible exact Ac _ _)| (with_reducible assumption)| (with_reducible exact AX (by assumption))| (with_reducible refine Ad ?_ _)| (with_reducible refine Am ?_)| (with_reducible refine Ay ?_ _)| ((with_reducible refine Az ?_ _ _ ?h2);case h2=>first|exact .inl rfl|exact .inr (Nat.le_refl _)|exact .inr (by simp<;>omega))| (with_reducible refine Ag ?_ (by assumption))| (with_reducible refine Aa ?_ (by assumption))))⟩
 have c3:(vk==3)=false:=by simpa using h3
 by_cases h4:vk=4
 ·subst h4;by_cases hn:vn=0
  ·subst hn;have HF:=O (show A2 (HdV 4 0 vs)=Cy vs by simp[A2,HdV]);rw[HF.out];clear hl HF;generalize Cy vs=b at*;go_enter func74,ntmps74;go_wp2_with fail;refine(hT.out _).mono ?_;rintro e w1 ⟨rfl,g1⟩;have HG:=O (Aa (World.grownBy_alloc w (.cells #[.int .i64 4,.int .i64 0,str vs] 23 (0,0)) none) g1);clear g1;go_wp2;go_ret;exact⟨rfl,HG.out⟩
  ·have HF:=O (show A2 (HdV 4 vn vs)=false by simp[A2,HdV,hn]);clear hl hT;have hnI:(vn==0)=false:=by simpa using hn
   go_enter func74,ntmps74;go_wp2;go_ret;exact⟨by rw[HF.out];rfl,(by repeat(first| (with_reducible exact Ac _ _)| (with_reducible assumption)| (with_reducible exact AX (by assumption))| (with_reducible refine Ad ?_ _)| (with_reducible refine Am ?_)| (with_reducible refine Ay ?_ _)| ((with_reducible refine Az ?_ _ _ ?h2);case h2=>first|exact .inl rfl|exact .inr (Nat.le_refl _)|exact .inr (by simp<;>omega))| (with_reducible refine Ag ?_ (by assumption))| (with_reducible refine Aa ?_ (by assumption))))⟩
 have c4:(vk==4)=false:=by simpa using h4
 have HF:=O (show A2 (HdV vk vn vs)=false by simp[A2,HdV,h0,h1,h2,h3,h4]);clear hl hT;go_enter func74,ntmps74;go_wp2;go_ret;exact⟨by rw[HF.out];rfl,(by repeat(first| (with_reducible exact Ac _ _)| (with_reducible assumption)| (with_reducible exact AX (by assumption))| (with_reducible refine Ad ?_ _)| (with_reducible refine Am ?_)| (with_reducible refine Ay ?_ _)| ((with_reducible refine Az ?_ _ _ ?h2);case h2=>first|exact .inl rfl|exact .inr (Nat.le_refl _)|exact .inr (by simp<;>omega))| (with_reducible refine Ag ?_ (by assumption))| (with_reducible refine Aa ?_ (by assumption))))⟩
end
theorem I7{w:World}{h:Hd}{pa la:Option Addr}{pc n lc:Nat}{b:Bool}{ok:Nat→Prop}(hfit:h.fit)(hp:Cells w (.slice pa h.p.length pc) 1 h.p.length (h.p.map str) ok)
 (HL:∀W,w.grownBy W none→Calls Tryz.prog 73 #[.slice la n lc] W fun e w'=>e= .returned (.bool b)∧W.grownBy w' none):
 Calls Tryz.prog 46 #[exV h (.slice pa h.p.length pc) (.slice la n lc)] w fun e w'=>e= .returned (.bool (AI h n&&b))∧w.grownBy w' none:=by
 by_cases hv:h.op≠0∧¬(h.vk=0∧h.vn=0∧h.vs=[])
 ·rw[Ps hv.1 hv.2];exact LN hv.1 hv.2
 by_cases h8:h.op≠8∧h.p≠[]
 ·rw[O3 hv h8.1 h8.2];exact LO hv h8.1 h8.2
 cases b with
 | false=>
   rw[Bool.and_false];exact LP hv h8 HL
 | true=>
   rw[Bool.and_true,O4 hv h8];have H:VaH w h pa la pc n lc:=⟨HL,fun W g=>Ib h.s W (by have:=hfit.1;omega),fun W g=>LM hfit.2.1,fun W g=>KC h.s W,fun W g=>Lw (hp.gb g (by simp)) hfit.2.2.2⟩;clear hp HL hfit;obtain⟨op,s,vk,vn,vs,p⟩:=h;simp only at hv h8;by_cases e0:op=0
   ·subst e0;obtain rfl:p=[]:=Classical.not_not.1 fun e=>h8 ⟨by decide,e⟩;exact QM (O H)
   obtain⟨rfl,rfl,rfl⟩:vk=0∧vn=0∧vs=[]:=Classical.not_not.1 fun e=>hv ⟨e0,e⟩;by_cases e8:op=8
   ·subst e8;exact QU (O H)
   obtain rfl:p=[]:=Classical.not_not.1 fun e=>h8 ⟨e8,e⟩;by_cases e1:op=1
   ·subst e1;exact QN (O H)
   by_cases e2:op=2
   ·subst e2;exact QO (O H)
   by_cases e3:op=3
   ·subst e3;exact QP (O H)
   by_cases e4:op=4
   ·subst e4;exact QQ (O H)
   by_cases e5:op=5
   ·subst e5;exact QR (O H)
   by_cases e6:op=6
   ·subst e6;exact QS (O H)
   by_cases e7:op=7
   ·subst e7;exact QT (O H)
   by_cases e9:op=9
   ·subst e9;exact QV (O H)
   by_cases e10:op=10
   ·subst e10;exact Pg (O H)
   have hF:Ap ⟨op,s,0,0,[],[]⟩ n=false:=by
    unfold Ap;simp only;rw[if_neg e0,if_neg (by omega),if_neg e2,if_neg e3,if_neg e4,if_neg e5,if_neg e6,if_neg e7,if_neg e8,if_neg e9]
   rw[hF];have c0:(op==0)=false:=by simpa using e0
   have c0':(op !=0)=true:=by simpa using e0
   have c1:(op==1)=false:=by simpa using e1
   have c2:(op==2)=false:=by simpa using e2
   have c3:(op==3)=false:=by simpa using e3
   have c4:(op==4)=false:=by simpa using e4
   have c5:(op==5)=false:=by simpa using e5
   have c6:(op==6)=false:=by simpa using e6
   have c7:(op==7)=false:=by simpa using e7
   have c8:(op==8)=false:=by simpa using e8
   have c8':(op !=8)=true:=by simpa using e8
   have c9:(op==9)=false:=by simpa using e9
   have c10:(op==10)=false:=by simpa using e10
   clear e0 e1 e2 e3 e4 e5 e6 e7 e8 e9 e10 hv h8 hF;replace H:=O H;go_enter func46,ntmps46;go_wp2_with fail;refine(H.out.1 _ ?gg).mono ?_
   case gg=>exact (by repeat(first| (with_reducible exact Ac _ _)| (with_reducible assumption)| (with_reducible exact AX (by assumption))| (with_reducible refine Ad ?_ _)| (with_reducible refine Am ?_)| (with_reducible refine Ay ?_ _)| ((with_reducible refine Az ?_ _ _ ?h2);case h2=>first|exact .inl rfl|exact .inr (Nat.le_refl _)|exact .inr (by simp<;>omega))| (with_reducible refine Ag ?_ (by assumption))| (with_reducible refine Aa ?_ (by assumption))))
   rintro e w5 ⟨rfl,g5⟩;have hb5:=((Blk.new w (hdC ⟨op,s,0,0,[],[]⟩ (.slice pa ([]:List Bs).length pc) (.slice la n lc)) 27).alloc (.cells #[.int .i64 0,.int .i64 0,.string ⟨#[]⟩] 23 (0,0))).gb g5 (by simp);obtain⟨x_0,x_1,x_2,x_3,x_4,x_5,x_6,x_f⟩:=(hb5).c7;simp only at x_0 x_1 x_2 x_3 x_4 x_5 x_6;have HB:=O hb5;have HG:=O (Aa (Ad (World.grownBy_alloc w (.cells (hdC ⟨op,s,0,0,[],[]⟩ (.slice pa ([]:List Bs).length pc) (.slice la n lc)).toArray 27 (0,0)) none) (.cells #[.int .i64 0,.int .i64 0,.string ⟨#[]⟩] 23 (0,0))) g5);clear g5 hb5;go_wp2;go_ret;exact⟨rfl,HG.out⟩
theorem Mq:∀(N:Nat)(f:Fo),f.wt<N→f.fit→∀(ok:Nat→Prop)(la:Option Addr)(lc:Nat)(w:World),RepL ok w (.slice la f.len lc) f→
 Calls Tryz.prog 73 #[.slice la f.len lc] w fun e w'=>e= .returned (.bool (okF f))∧w.grownBy w' none:=by
 intro N;induction N with
 |zero=>intro f hN;omega
 | succ N ih=>
   intro f hN hfit ok la lc w hf;exact Lc f ok la lc w hf hfit (fun h k pa lb pc ld W h1 h2 h3 h4 h5=>I7 h2 h4 (fun W2 g=>ih k (by omega) h3 _ lb ld W2 (h5.gb g (by simp))))
theorem N6{w:World}{v:Value}{x:Ex}{ok:Nat→Prop}(hx:VE ok w v x)(h1:x.h.fit)(h2:x.kids.fit):
 Calls Tryz.prog 46 #[v] w fun e w'=>e= .returned (.bool (okX x))∧w.grownBy w' none:=by
 obtain⟨pa,pc,la,lc,rfl,hp,hl⟩:=hx;exact I7 h1 hp (fun W g=>Mq _ x.kids (Nat.lt_succ_self _) h2 _ la lc W (hl.gb g (by simp)))
def AL(x:Ex):Int:=if AW x.nodes x.levels then 3 else if okX x then 0 else 1
theorem Gl{w:World}{v:Value}{x:Ex}{ok:Nat→Prop}(hx:VE ok w v x)(h1:x.h.fit)(h2:x.kids.fit)(hn:x.kids.nodes≤1000000):
 Calls Tryz.prog 18 #[v] w fun e w'=>e= .returned (.int .i64 (AL x))∧w.grownBy w' none:=by
 have HS:=O (fun(W:World)(g:w.grownBy W none)=>II (hx.gb g (by simp)) hn);have HL:=O (fun(W:World)=>Ga x.nodes x.levels W);have HE:=O (fun(W:World)(g:w.grownBy W none)=>N6 (hx.gb g (by simp)) h1 h2);have HV:=O (show AL x=if AW x.nodes x.levels then 3 else if okX x then 0 else 1 from rfl);obtain⟨pa,pc,la,lc,rfl,_,_⟩:=hx;generalize AW x.nodes x.levels=lb at*;generalize okX x=ob at*;generalize AL x=vm at*;have hB:=Blk.new w (hdC x.h (.slice pa x.h.p.length pc) (.slice la x.kids.len lc)) 27;have hB1:=hB;obtain⟨x_0,x_1,x_2,x_3,x_4,x_5,x_6,x_f⟩:=(hB1).c7;clear h1 h2 hB1;have HB:=O hB;clear hB;cases lb with
 | true=>
   go_enter func18,ntmps18;go_wp2_with fail;refine(HS.out _ ?gg).mono ?_
   case gg=>exact (by repeat(first| (with_reducible exact Ac _ _)| (with_reducible assumption)| (with_reducible exact AX (by assumption))| (with_reducible refine Ad ?_ _)| (with_reducible refine Am ?_)| (with_reducible refine Ay ?_ _)| ((with_reducible refine Az ?_ _ _ ?h2);case h2=>first|exact .inl rfl|exact .inr (Nat.le_refl _)|exact .inr (by simp<;>omega))| (with_reducible refine Ag ?_ (by assumption))| (with_reducible refine Aa ?_ (by assumption))))
   rintro e w1 ⟨rfl,g1⟩;go_wp2_with fail;refine(HL.out _).mono ?_;rintro e w2 ⟨rfl,g2⟩;go_wp2;go_ret;exact⟨by rw[HV.out];rfl,Aa (Aa (World.grownBy_alloc w _ none) g1) g2⟩
 | false=>
   go_enter func18,ntmps18;go_wp2_with fail;refine(HS.out _ ?gg).mono ?_
   case gg=>exact (by repeat(first| (with_reducible exact Ac _ _)| (with_reducible assumption)| (with_reducible exact AX (by assumption))| (with_reducible refine Ad ?_ _)| (with_reducible refine Am ?_)| (with_reducible refine Ay ?_ _)| ((with_reducible refine Az ?_ _ _ ?h2);case h2=>first|exact .inl rfl|exact .inr (Nat.le_refl _)|exact .inr (by simp<;>omega))| (with_reducible refine Ag ?_ (by assumption))| (with_reducible refine Aa ?_ (by assumption))))
   rintro e w1 ⟨rfl,g1⟩;go_wp2_with fail;refine(HL.out _).mono ?_;rintro e w2 ⟨rfl,g2⟩;have hb2:=(HB.out.gb g1 (by simp)).gb g2 (by simp);have HG:=O (Aa (Aa (World.grownBy_alloc w (.cells (hdC x.h (.slice pa x.h.p.length pc) (.slice la x.kids.len lc)).toArray 27 (0,0)) none) g1) g2);clear x_0 x_1 x_2 x_3 x_4 x_5 x_6 x_f g1 g2;obtain⟨y_0,y_1,y_2,y_3,y_4,y_5,y_6,y_f⟩:=(hb2).c7;clear hb2;go_wp2_with fail;refine(HE.out _ HG.out).mono ?_;rintro e w3 ⟨rfl,g3⟩;cases ob with
   | true=>
     go_wp2;go_ret;exact⟨by rw[HV.out];rfl,Aa HG.out g3⟩
   | false=>
     go_wp2;go_ret;exact⟨by rw[HV.out];rfl,Aa HG.out g3⟩
theorem Kd(l:List Bs):Lib.join l [44,32]=BD l:=by
 cases l with
 |nil=>rfl
 |cons a r=>exact Lib.join_cons a r [44,32]
theorem JC{w:World}{v:Value}{n:Nat}{xs:List Bs}{ok:Nat→Prop}(h:Cells w v 1 n (xs.map str) ok)(hn:n=xs.length)(hN:xs.length≤100000000)(hl:(BD xs).length≤140737488355328):
 Calls Tryz.prog 61 #[v,str [44,32]] w fun e w'=>e= .returned (str (BD xs))∧w.grownBy w' none:=by
 subst hn;obtain⟨a,cap,rfl,h1,h2,_,hc⟩:=h;cases xs with
 | nil=>
   refine(strings_Join_none a cap ⟨[44,32].toArray⟩ w).mono ?_;rintro e w' ⟨rfl,rfl⟩;exact⟨rfl,Ac _ _⟩
 | cons x r=>
   obtain⟨g,o,rfl,_,c0⟩:=hc 0 (str x) rfl;have hlt:=World.block_lt_of_cell? _ _ c0;have e1:((x::r).map fun s=>(⟨s.toArray⟩:ByteArray)).map (·.data.toList)=x::r:=by
    rw[List.map_map];exact(List.map_congr_left (fun s _=>rfl)).trans (List.map_id _)
   have H:=strings_Join g o cap ((x::r).map fun s=>(⟨s.toArray⟩:ByteArray)) ⟨[44,32].toArray⟩ w (fun j b hb=>by
    rw[List.getElem?_map]at hb;obtain⟨s,hs,rfl⟩:=Option.map_eq_some_iff.1 hb;obtain⟨g',o',e,_,hc'⟩:=hc j (str s) (by rw[List.getElem?_map,hs];rfl);cases e;exact hc') hlt (by rw[List.length_map];omega) (by simpa using h1) (by rw[e1];show(Lib.join _ [44,32]).length≤_;rw[Kd];exact hl)
   rw[List.length_map,e1]at H;refine H.mono ?_;rintro e w' ⟨rfl,hb⟩;refine⟨?_,gbB hb none⟩;show Ending.returned (Value.string ⟨(Lib.join (x::r) [44,32]).toArray⟩)=_;rw[Kd]
theorem Pl(f:Fo)(ok:Nat→Prop)(la:Option Addr)(lc:Nat)(w:World)(hf:RepL ok w (.slice la f.len lc) f)(hfit:f.fit)(hok:okF f=true)(hn:f.nodes≤1000000)
 (hE:∀(h:Hd)(k:Fo)(pa lb:Option Addr)(pc ld:Nat)(W:World),w.grownBy W none→k.wt<f.wt→h.fit→k.fit→k.nodes≤1000000→AI h k.len=true→okF k=true→Cells W (.slice pa h.p.length pc) 1 h.p.length (h.p.map str) (fun _=>True)→RepL (fun _=>True) W (.slice lb k.len ld) k→
  Calls Tryz.prog 35 #[exV h (.slice pa h.p.length pc) (.slice lb k.len ld)] W fun e w'=>e= .returned (str (Bi wdM h (A7 wdM k)))∧W.grownBy w' none):
 Calls Tryz.prog 59 #[.slice la f.len lc] w fun e w'=>e= .returned (str (BD ((A7 wdM f).map (·.2))))∧w.grownBy w' none:=by
 have hjl:(BD ((A7 wdM f).map (·.2))).length≤140737488355328:=by
  have h1:=GC (A7 wdM f);have h2:=(FN f hok hfit).1;omega
 have hfl:=f.len_nodes;replace hf:=hf.mono (ok':=fun _=>True) (fun _ _ _=>trivial);obtain⟨cs,hc1,hr1⟩:=hf;obtain⟨_,_,e,hle,hmx,_,hc1⟩:=hc1;cases e;have HC:=O (Z hc1 (Z hE (Z hjl hn)));have HR:=O (Z hr1 (Z hfit hok));have hlen:f.len≤1000000:=by omega
 clear hc1 hE hr1 hfit hok hle hmx hjl hn hfl;go_enter func59,ntmps59;go_wp2_with fail;go_loopg [3,8] f.len (fun n v3 v8 wr=>∃(rf:Fo)(xs:List Bs)(k:Nat),rf.len=n∧k+n=f.len∧v8= .int .i64 k∧wr.ownsRow w.heap.size 9 1 v3 xs.length (xs.map str)∧xs.length=k∧xs++(A7 wdM rf).map (·.2)=(A7 wdM f).map (·.2)∧rf.wt≤f.wt∧rf.nodes≤f.nodes∧rf.fit∧okF rf=true∧RepF (fun _=>True) w rf (cs.drop (k*7))∧w.grownBy wr none)
 case atStart=>exact⟨f,[],0,rfl,by omega,rfl,World.ownsRow_nil _ _ _ _,rfl,rfl,Nat.le_refl _,Nat.le_refl _,HR.out.2.1,HR.out.2.2,by simpa using HR.out.1,Ac _ _⟩
 case round=>
  obtain⟨rf,xs,k,hn,hk,rfl,hown,hxl,hxs,hwt,hnd,hft,hok,hrf,hgr⟩:=hrel;clear HR;cases rf with
  | nil=>
    have hkI:decide (k<f.len)=false:=by simp[Fo.len]at hn;simp;omega
    have hxs':xs=(A7 wdM f).map (·.2):=by simpa[A7]using hxs
    have HG:=O (Z hgr (JC (AU hown) rfl (by omega) (by rw[hxs'];exact HC.out.2.2.1)));rw[hxs']at HG;clear hgr hn hrf hft hok hown hxs;go_wp2_with fail;refine HG.out.2.mono ?_;rintro e w1 ⟨rfl,g1⟩;go_wp2;go_ret;exact⟨rfl,Aa HG.out.1 g1⟩
  | cons h1 k1 n1=>
    simp only[Fo.len]at hn;simp only[Fo.wt]at hwt;simp only[Fo.nodes]at hnd;simp only[okF,Bool.and_eq_true]at hok;subst hn;have hkn:=HC.out.2.2.2;obtain⟨pa1,pc1,lb1,ld1,hp1,hl1,hx1,ha1⟩:=RepF.elem (n:=f.len) (lc:=lc) (f:=f) HC.out.1 hrf;have hkI:decide (k<f.len)=true:=by simp;omega
    have hkf:k+1≤f.len:=by omega
    have HE:=O (fun(W:World)(gW:wr.grownBy W none)=>HC.out.2.1 h1 k1 pa1 lb1 pc1 ld1 W (Aa hgr gW) (by omega) hft.1 hft.2.1 (by omega) hok.1.1 hok.1.2 (hp1.gb (Aa hgr gW) (by simp)) (hl1.gb (Aa hgr gW) (by simp)));have hxs2:(xs++[Bi wdM h1 (A7 wdM k1)])++(A7 wdM n1).map (·.2)=(A7 wdM f).map (·.2):=by
     rw[←hxs];simp[A7]
    generalize Bi wdM h1 (A7 wdM k1)=s at*;have HN:=O (Z (show n1.wt≤f.wt by omega) (Z (show n1.nodes≤f.nodes by omega) (Z hft.2.2 (Z hok.2 (Z hx1 (Z hgr (Z hown hxs2)))))));clear hxs hwt hnd hrf hp1 hl1 hx1 hft hok hown hxs2 hkn;obtain⟨g1,o1,rfl,hokz,y0⟩:=ha1 0 _ rfl;obtain⟨_,_,e1,_,y1⟩:=ha1 1 _ rfl;cases e1;obtain⟨_,_,e1,_,y2⟩:=ha1 2 _ rfl;cases e1;obtain⟨_,_,e1,_,y3⟩:=ha1 3 _ rfl;cases e1;obtain⟨_,_,e1,_,y4⟩:=ha1 4 _ rfl;cases e1;obtain⟨_,_,e1,_,y5⟩:=ha1 5 _ rfl;cases e1;obtain⟨_,_,e1,_,y6⟩:=ha1 6 _ rfl;cases e1;have hglz:=World.block_lt_of_cell? w _ y0;have z0:=Af hgr y0;have z1:=Af hgr y1;have z2:=Af hgr y2;have z3:=Af hgr y3;have z4:=Af hgr y4;have z5:=Af hgr y5;have z6:=Af hgr y6;simp only[Nat.add_zero,←Nat.add_assoc]at z0 z1 z2 z3 z4 z5 z6;clear y0 y1 y2 y3 y4 y5 y6;clear ha1 hgr;have hws:=HN.out.2.2.2.2.2.1.size;have hq1:g1<wr.heap.size:=Nat.lt_of_lt_of_le hglz hws;go_wp2_with fail;refine(HE.out _ ?gg).mono ?_
    case gg=>exact (by repeat(first| (with_reducible exact Ac _ _)| (with_reducible assumption)| (with_reducible exact AX (by assumption))| (with_reducible refine Ad ?_ _)| (with_reducible refine Am ?_)| (with_reducible refine Ay ?_ _)| ((with_reducible refine Az ?_ _ _ ?h2);case h2=>first|exact .inl rfl|exact .inr (Nat.le_refl _)|exact .inr (by simp<;>omega))| (with_reducible refine Ag ?_ (by assumption))| (with_reducible refine Aa ?_ (by assumption))))
    rintro e w5 ⟨rfl,g5⟩;have g6:wr.grownBy w5 none:=Aa (by repeat(first| (with_reducible exact Ac _ _)| (with_reducible assumption)| (with_reducible exact AX (by assumption))| (with_reducible refine Ad ?_ _)| (with_reducible refine Am ?_)| (with_reducible refine Ay ?_ _)| ((with_reducible refine Az ?_ _ _ ?h2);case h2=>first|exact .inl rfl|exact .inr (Nat.le_refl _)|exact .inr (by simp<;>omega))| (with_reducible refine Ag ?_ (by assumption))| (with_reducible refine Aa ?_ (by assumption)))) g5;have gA:=Ad (Aa HN.out.2.2.2.2.2.1 g6) (.cells [str s].toArray 9 (0,0));have hown4:=(HN.out.2.2.2.2.2.2.1.kept g6 (by cases u3.ownBlock with|none=>exact .inl rfl|some _=>exact .inr (by simp))).alloc (.cells [str s].toArray 9 (0,0));have hbs:=gA.size;obtain⟨i0,hi0,hz0,hz1,hz2⟩:=info_parts C0;have hnc:=BZ w5 [str s] 9;have hml:xs.length+1≤maxLen:=by unfold maxLen;omega
    have hyb:(xs.length+1)*16≤140737488355328:=by omega
    have HZ:=O (Z hi0 (Z hz0 (Z hz1 (Z hz2 (Z hnc (Z hml hown4))))));have HW:=O (Z gA g6.size);clear hi0 hz0 hz1 hz2 hnc hml hown4 gA g6 g5;go_wp2_with (at_builtin;obtain⟨hi0,hz0,hz1,hz2,hnc,hml,hown4⟩:=HZ.out;refine D7 rfl _ _ 24 rfl w.heap.size 9 i0 (str []) 1 16 underlying24 hi0 hz0 hz1 hz2 rfl (by decide) _ _ _ rfl hown4 ⟨w5.heap.size,0,none⟩ 1 1 [str s] rfl rfl hnc (by simp[Value.oneCell']) hml hyb hbs ?_;intro v' w6 hown5 g7 hnb;clear hi0 hz0 hz1 hz2 hnc hml hown4);have HO5:=O (Z hown5 g7);clear hown5 g7 hnb;go_roundg n1.len
    case measure=>omega
    case rel=>
     have g5':World.grownBy (w5.alloc _) w6 u3.ownBlock:=HO5.out.2;refine⟨n1,xs++[s],k+1,rfl,by omega,by go_num,by simpa using HO5.out.1,by simp;omega,HN.out.2.2.2.2.2.2.2,HN.out.1,HN.out.2.1,HN.out.2.2.1,HN.out.2.2.2.1,HN.out.2.2.2.2.1,?_⟩;cases hv:u3.ownBlock with
     |none=>rw[hv]at g5';exact Ag HW.out.1 g5'
     |some q=>rw[hv]at g5';exact A9 HW.out.1 g5' (.inr (HN.out.2.2.2.2.2.2.1.lt q hv).1)
section
variable {w:World}{h:Hd}{pa la:Option Addr}{pc n lc:Nat}{t:Bs}
theorem EO{pn:Nat}(hl:t.length≤1000000000000000)(HT:∀W,w.grownBy W none→Calls Tryz.prog 35 #[exV h (.slice pa pn pc) (.slice la n lc)] W fun e w'=>e= .returned (str t)∧W.grownBy w' none):
 Calls Tryz.prog 60 #[exV h (.slice pa pn pc) (.slice la n lc)] w fun e w'=>e= .returned (str (opT (h,t)))∧w.grownBy w' none:=by
 have H:=O HT;clear HT;have HO:=O (show opT (h,t)=if h.op=4∨h.op=5 then [40]++t++[41]else t from rfl);have hcl1:¬(9223372036854775807<1+t.length):=by omega
 have hcl2:¬(9223372036854775807<1+t.length+1):=by omega
 obtain⟨op,s,vk,vn,vs,p⟩:=h;simp only at H HO ⊢;by_cases h4:op=4
 ·subst h4;rw[HO.out,if_pos (.inl rfl)];clear HO;go_enter func60,ntmps60;go_wp2_with fail;refine(H.out _ ?gg).mono ?_
  case gg=>exact (by repeat(first| (with_reducible exact Ac _ _)| (with_reducible assumption)| (with_reducible exact AX (by assumption))| (with_reducible refine Ad ?_ _)| (with_reducible refine Am ?_)| (with_reducible refine Ay ?_ _)| ((with_reducible refine Az ?_ _ _ ?h2);case h2=>first|exact .inl rfl|exact .inr (Nat.le_refl _)|exact .inr (by simp<;>omega))| (with_reducible refine Ag ?_ (by assumption))| (with_reducible refine Aa ?_ (by assumption))))
  rintro e w1 ⟨rfl,g1⟩;have HG:=O (Aa (Ad (Ac w none) _) g1);clear g1;go_wp2;go_ret;exact⟨congrArg Ending.returned (BI (by simp[ByteArray.data_append])),HG.out⟩
 ·have c4:(op==4)=false:=by simpa using h4
  by_cases h5:op=5
  ·subst h5;rw[HO.out,if_pos (.inr rfl)];clear HO h4;go_enter func60,ntmps60;go_wp2_with fail;refine(H.out _ ?gg).mono ?_
   case gg=>exact (by repeat(first| (with_reducible exact Ac _ _)| (with_reducible assumption)| (with_reducible exact AX (by assumption))| (with_reducible refine Ad ?_ _)| (with_reducible refine Am ?_)| (with_reducible refine Ay ?_ _)| ((with_reducible refine Az ?_ _ _ ?h2);case h2=>first|exact .inl rfl|exact .inr (Nat.le_refl _)|exact .inr (by simp<;>omega))| (with_reducible refine Ag ?_ (by assumption))| (with_reducible refine Aa ?_ (by assumption))))
   rintro e w1 ⟨rfl,g1⟩;have HG:=O (Aa (Ad (Ac w none) _) g1);clear g1;go_wp2;go_ret;exact⟨congrArg Ending.returned (BI (by simp[ByteArray.data_append])),HG.out⟩
  ·have c5:(op==5)=false:=by simpa using h5
   rw[HO.out,if_neg (by rintro(e|e);exact h4 e;exact h5 e)];clear HO h4 h5;go_enter func60,ntmps60;go_wp2_with fail;refine(H.out _ ?gg).mono ?_
   case gg=>exact (by repeat(first| (with_reducible exact Ac _ _)| (with_reducible assumption)| (with_reducible exact AX (by assumption))| (with_reducible refine Ad ?_ _)| (with_reducible refine Am ?_)| (with_reducible refine Ay ?_ _)| ((with_reducible refine Az ?_ _ _ ?h2);case h2=>first|exact .inl rfl|exact .inr (Nat.le_refl _)|exact .inr (by simp<;>omega))| (with_reducible refine Ag ?_ (by assumption))| (with_reducible refine Aa ?_ (by assumption))))
   rintro e w1 ⟨rfl,g1⟩;have HG:=O (Aa (Ad (Ac w none) _) g1);clear g1;go_wp2;go_ret;exact⟨rfl,HG.out⟩
end
section
variable {w:World}{s vs:Bs}{p:List Bs}{vk vn:Int}{pa la:Option Addr}{pc pn n lc:Nat}{t:Bs}
theorem Ti(HC:∀W,w.grownBy W none→Calls Tryz.prog 58 #[.agg #[.int .i64 vk,.int .i64 vn,str vs]] W fun e w'=>e= .returned (str t)∧W.grownBy w' none):
 Calls Tryz.prog 35 #[exV ⟨0,s,vk,vn,vs,p⟩ (.slice pa pn pc) (.slice la n lc)] w fun e w'=>e= .returned (str t)∧w.grownBy w' none:=by
 have H:=O HC;clear HC;go_enter func35,ntmps35;go_wp2_with fail;refine(H.out _ ?gg).mono ?_
 case gg=>exact (by repeat(first| (with_reducible exact Ac _ _)| (with_reducible assumption)| (with_reducible exact AX (by assumption))| (with_reducible refine Ad ?_ _)| (with_reducible refine Am ?_)| (with_reducible refine Ay ?_ _)| ((with_reducible refine Az ?_ _ _ ?h2);case h2=>first|exact .inl rfl|exact .inr (Nat.le_refl _)|exact .inr (by simp<;>omega))| (with_reducible refine Ag ?_ (by assumption))| (with_reducible refine Aa ?_ (by assumption))))
 rintro e w1 ⟨rfl,g1⟩;have HG:=O (Aa (Ad (Ac w none) _) g1);clear g1;go_wp2;go_ret;exact⟨rfl,HG.out⟩
theorem Tj:Calls Tryz.prog 35 #[exV ⟨1,s,vk,vn,vs,p⟩ (.slice pa pn pc) (.slice la n lc)] w fun e w'=>e= .returned (str s)∧w.grownBy w' none:=by
 go_enter func35,ntmps35;go_wp2;go_ret;exact⟨rfl,(by repeat(first| (with_reducible exact Ac _ _)| (with_reducible assumption)| (with_reducible exact AX (by assumption))| (with_reducible refine Ad ?_ _)| (with_reducible refine Am ?_)| (with_reducible refine Ay ?_ _)| ((with_reducible refine Az ?_ _ _ ?h2);case h2=>first|exact .inl rfl|exact .inr (Nat.le_refl _)|exact .inr (by simp<;>omega))| (with_reducible refine Ag ?_ (by assumption))| (with_reducible refine Aa ?_ (by assumption))))⟩
theorem RP(hl:s.length≤2000000):Calls Tryz.prog 35 #[exV ⟨10,s,vk,vn,vs,p⟩ (.slice pa pn pc) (.slice la n lc)] w fun e w'=>e= .returned (str ([64]++s))∧w.grownBy w' none:=by
 have hcl1:¬(9223372036854775807<1+s.length):=by omega
 go_enter func35,ntmps35;go_wp2;go_ret;exact⟨congrArg Ending.returned (BI (by simp[ByteArray.data_append])),(by repeat(first| (with_reducible exact Ac _ _)| (with_reducible assumption)| (with_reducible exact AX (by assumption))| (with_reducible refine Ad ?_ _)| (with_reducible refine Am ?_)| (with_reducible refine Ay ?_ _)| ((with_reducible refine Az ?_ _ _ ?h2);case h2=>first|exact .inl rfl|exact .inr (Nat.le_refl _)|exact .inr (by simp<;>omega))| (with_reducible refine Ag ?_ (by assumption))| (with_reducible refine Aa ?_ (by assumption))))⟩
theorem RV(hl:s.length≤2000000)(hs:s≠[]):Calls Tryz.prog 35 #[exV ⟨9,s,vk,vn,vs,p⟩ (.slice pa pn pc) (.slice la n lc)] w fun e w'=>e= .returned (str ([38]++s++[46]))∧w.grownBy w' none:=by
 have hcl1:¬(9223372036854775807<1+s.length):=by omega
 have hcl2:¬(9223372036854775807<1+s.length+1):=by omega
 have hsI:(s==[])=false:=by simpa using hs
 have hsI2:(s !=[])=true:=by simpa using hs
 clear hs;go_enter func35,ntmps35;go_wp2;go_ret;exact⟨congrArg Ending.returned (BI (by simp[ByteArray.data_append])),(by repeat(first| (with_reducible exact Ac _ _)| (with_reducible assumption)| (with_reducible exact AX (by assumption))| (with_reducible refine Ad ?_ _)| (with_reducible refine Am ?_)| (with_reducible refine Ay ?_ _)| ((with_reducible refine Az ?_ _ _ ?h2);case h2=>first|exact .inl rfl|exact .inr (Nat.le_refl _)|exact .inr (by simp<;>omega))| (with_reducible refine Ag ?_ (by assumption))| (with_reducible refine Aa ?_ (by assumption))))⟩
theorem Tn(hl:t.length≤1000000000000000)(HC:∀W,w.grownBy W none→Calls Tryz.prog 59 #[.slice la n lc] W fun e w'=>e= .returned (str t)∧W.grownBy w' none):
 Calls Tryz.prog 35 #[exV ⟨7,s,vk,vn,vs,p⟩ (.slice pa pn pc) (.slice la n lc)] w fun e w'=>e= .returned (str ([123]++t++[125]))∧w.grownBy w' none:=by
 have H:=O HC;have hcl1:¬(9223372036854775807<1+t.length):=by omega
 have hcl2:¬(9223372036854775807<1+t.length+1):=by omega
 clear HC;go_enter func35,ntmps35;go_wp2_with fail;refine(H.out _ ?gg).mono ?_
 case gg=>exact (by repeat(first| (with_reducible exact Ac _ _)| (with_reducible assumption)| (with_reducible exact AX (by assumption))| (with_reducible refine Ad ?_ _)| (with_reducible refine Am ?_)| (with_reducible refine Ay ?_ _)| ((with_reducible refine Az ?_ _ _ ?h2);case h2=>first|exact .inl rfl|exact .inr (Nat.le_refl _)|exact .inr (by simp<;>omega))| (with_reducible refine Ag ?_ (by assumption))| (with_reducible refine Aa ?_ (by assumption))))
 rintro e w1 ⟨rfl,g1⟩;have HG:=O (Aa (Ad (Ac w none) _) g1);clear g1;go_wp2;go_ret;exact⟨congrArg Ending.returned (BI (by simp[ByteArray.data_append])),HG.out⟩
end
end Go.Proofs.YtgjdhajcnechdaaGreatDoor
