/-
  The reference's swapped: every expression. The reference's Swap. TreeSwaps: the walk. The library's tables, out of what the row lists. What is read as an expression is one, and is no larger than what 
-/
import Derived.Test.YtgjdhajcnechdaaGreatDoorSv47
import Derived.Test.YtgjdhajcnechdaaGreatDoorSv46
import Derived.Test.YtgjdhajcnechdaaGreatDoorSv48
import Derived.Test.YtgjdhajcnechdaaGreatDoorSv40
import Derived.Test.YtgjdhajcnechdaaGreatDoorSv30
import Derived.Test.YtgjdhajcnechdaaGreatDoorSv18
import Derived.Lib.LaidU8
import Derived.Lib.LaidCase
import Derived.Lib.LaidTab
import Derived.PinnedBridge
import Derived.Test.YtgjdhajcnechdaaGreatDoorSv13
import Derived.Test.YtgjdhajcnechdaaGreatDoorRows
import Derived.Test.YtgjdhajcnechdaaGreatDoorSv26
set_option linter.all false
set_option maxRecDepth 100000
set_option maxHeartbeats 8000000
namespace Go.Proofs.YtgjdhajcnechdaaGreatDoor
open Go.Proofs.Tryz
open Go.RowKit
theorem Oz{N:Nat}{name:Bs}{y:Ex}{ya yla:Option Addr}{yc ylc:Nat}:∀(M:Nat)(h:Hd)(k:Fo),k.wt<M→k.nodes≤1000000→SwC N name y ya yla yc ylc h k:=by
 intro M;induction M with
 |zero=>intro h k hM;omega
 | succ M ih=>
   intro h k hM hn W pa la pc lc hp hr hyp hyr hN;have hkl:=E4 k;unfold swX;by_cases a:h.op=1∧h.s=name
   ·rw[if_pos a];exact O2 a.1 a.2 hyp hyr hN
   rw[if_neg a];have a':h.op≠1∨h.s≠name:=by
    by_cases h1:h.op=1
    ·exact .inr (fun e=>a ⟨h1,e⟩)
    ·exact .inl h1
   by_cases h2:h.op=2
   ·rw[if_pos (.inl h2)];exact Ox h2 hp hr hN
   by_cases h8:h.op=8
   ·cases hc:h.p.contains name with
    | true=>
      rw[if_pos (.inr ⟨h8,rfl⟩)];exact Oy h8 hc hp hr hN
    | false=>
      rw[if_neg (by rintro(e|e);exact h2 e;exact absurd e.2 (by simp))];exact O0 h8 hc hp hr hyp hyr hN (by omega) (fun a k2 hw hk=>ih a k2 (by omega) (by omega))
   ·rw[if_neg (by rintro(e|e);exact h2 e;exact h8 e.1)];exact O1 a' h2 h8 hp hr hyp hyr hN (by omega) (fun a k2 hw hk=>ih a k2 (by omega) (by omega))
section
variable {w:World}{xv yv:Value}{x y:Ex}{name:Bs}{ok:Nat→Prop}
theorem OL(hx:VE ok w xv x)(hy:VE ok w yv y)(h1:x.h.fit)(h2:x.kids.fit)(hn:x.kids.nodes≤1000000)(hf:x.few)(k1:y.h.fit)(k2:y.kids.fit)(kn:y.kids.nodes≤1000000)(kf:y.few):
 Calls Tryz.prog 10 #[xv,str name,yv] w (IQ w (Cg name x y)):=by
 have HV1:=O (fun(W:World)(g:w.grownBy W none)=>Hf (hx.gb g (by simp)) h1 h2 hn hf);have HV2:=O (fun(W:World)(g:w.grownBy W none)=>Hf (hy.gb g (by simp)) k1 k2 kn kf);obtain⟨pa,pc,la,lc,rfl,hp,hr⟩:=hx;obtain⟨ya,yc,yla,ylc,rfl,hyp,hyr⟩:=hy;have gA:=World.grownBy_alloc w (.cells (hdC x.h (.slice pa x.h.p.length pc) (.slice la x.kids.len lc)).toArray 27 (0,0)) none;have gC:=World.grownBy_alloc (w.alloc (.cells (hdC x.h (.slice pa x.h.p.length pc) (.slice la x.kids.len lc)).toArray 27 (0,0))) (.cells (hdC y.h (.slice ya y.h.p.length yc) (.slice yla y.kids.len ylc)).toArray 27 (0,0)) none;have gD:=World.grownBy_alloc ((w.alloc (.cells (hdC x.h (.slice pa x.h.p.length pc) (.slice la x.kids.len lc)).toArray 27 (0,0))).alloc (.cells (hdC y.h (.slice ya y.h.p.length yc) (.slice yla y.kids.len ylc)).toArray 27 (0,0))) (.cells zeroE.toArray 27 (0,0)) none;have HX:=O (Blk.new w (hdC x.h (.slice pa x.h.p.length pc) (.slice la x.kids.len lc)) 27);have HBX:=O ((HX.out.gb gC (by simp)).gb gD (by simp));have HBY:=O (((Blk.new (w.alloc (.cells (hdC x.h (.slice pa x.h.p.length pc) (.slice la x.kids.len lc)).toArray 27 (0,0))) (hdC y.h (.slice ya y.h.p.length yc) (.slice yla y.kids.len ylc)) 27).of_eq (show _=w.heap.size+1 by simp) rfl).gb gD (by simp))
 have HBZ:=O ((Blk.new ((w.alloc (.cells (hdC x.h (.slice pa x.h.p.length pc) (.slice la x.kids.len lc)).toArray 27 (0,0))).alloc (.cells (hdC y.h (.slice ya y.h.p.length yc) (.slice yla y.kids.len ylc)).toArray 27 (0,0))) zeroE 27).of_eq (show _=w.heap.size+1+1 by simp) rfl);have HG0:=O (Aa gA (Aa gC gD));have hX:=HX.out;obtain⟨x_0,x_1,x_2,x_3,x_4,x_5,x_6,x_f⟩:=(hX).c7;clear gA gC gD hX;by_cases hv:AG x=0
 ·rw[hv]at HV1;have HT:=O (fun(W:World)(g:w.grownBy W none)=>(Oz (N:=w.heap.size) (name:=name) (y:=y) (ya:=ya) (yla:=yla) (yc:=yc) (ylc:=ylc) (x.kids.wt+1) x.h x.kids (Nat.lt_succ_self _) hn) W pa la pc lc
   ((hp.mono (ok':=fun q=>q<w.heap.size) (fun q _ hl=>hl)).gb g (by simp)) ((hr.mono (ok':=fun q=>q<w.heap.size) (fun q _ hl=>hl)).gb g (by simp)) ((hyp.mono (ok':=fun q=>q<w.heap.size) (fun q _ hl=>hl)).gb g (by simp)) ((hyr.mono (ok':=fun q=>q<w.heap.size) (fun q _ hl=>hl)).gb g (by simp)) g.size)
  rw[show swX name y x.h x.kids (swF name y x.kids)=swM name x y from rfl]at HT;by_cases hw:AG y=0
  ·rw[hw]at HV2;obtain⟨z,hz⟩:∃z,z=(if AL (swM name x y).nodes (swM name x y).levels then(noEx,(3:Int))else(swM name x y,0)):=⟨_,rfl⟩;have HM:=O (show Cg name x y=z by rw[hz];unfold Cg;rw[if_pos hv,if_pos hw]);have HZ:=O hz;clear hz;have HXN:=O (IM (name:=name) hv hw);rw[HM.out];clear hv hw HM h1 h2 hn hf k1 k2 kn kf hp hr hyp hyr;generalize swM name x y=X at*;go_enter func10,ntmps10;go_wp2_with fail;refine(HV1.out _ ?gg).mono ?_
   case gg=>exact (by repeat(first| (with_reducible exact Ac _ _)| (with_reducible assumption)| (with_reducible exact AU (by assumption))| (with_reducible refine Ad ?_ _)| (with_reducible refine Am ?_)| (with_reducible refine A3 ?_ _)| ((with_reducible refine Ay ?_ _ _ ?h2);case h2=>first|exact .inl rfl|exact .inr (Nat.le_refl _)|exact .inr (by simp<;>omega))| (with_reducible refine Ah ?_ (by assumption))| (with_reducible refine Aa ?_ (by assumption))))
   rintro e w1 ⟨rfl,g1⟩;have HG1:=O (Aa HG0.out g1);have hby:=HBY.out.gb g1 (by simp);have HB1:=O (Z (HBX.out.gb g1 (by simp)) (Z hby (HBZ.out.gb g1 (by simp))));clear x_0 x_1 x_2 x_3 x_4 x_5 x_6 x_f g1;have hbyl:=hby.lt;obtain⟨y_0,y_1,y_2,y_3,y_4,y_5,y_6,y_f⟩:=(hby).c7;clear hby;go_wp2_with fail;refine(HV2.out _ HG1.out).mono ?_;rintro e w2 ⟨rfl,g2⟩;have HG2:=O (Aa HG1.out g2);have hbx:=HB1.out.1.gb g2 (by simp);have hby:=HB1.out.2.1.gb g2 (by simp);have HB2:=O (HB1.out.2.2.gb g2 (by simp));clear y_0 y_1 y_2 y_3 y_4 y_5 y_6 y_f g2 HB1;have hbxl:=hbx.lt;have hbyl:=hby.lt;obtain⟨x_0,x_1,x_2,x_3,x_4,x_5,x_6,x_f⟩:=(hbx).c7;obtain⟨y_0,y_1,y_2,y_3,y_4,y_5,y_6,y_f⟩:=(hby).c7;clear hbx hby;go_wp2_with fail;refine(HT.out _ HG2.out).mono ?_;rintro e w3 ⟨v3,rfl,⟨pa3,pc3,la3,lc3,rfl,q1,q2⟩,t3⟩;have g3:=Aa HG2.out t3;have hbz:=HB2.out.gb t3 (by simp);have hz2:=HB2.out.lt;have gO:=World.grownBy_alloc w3 (.cells (hdC X.h (.slice pa3 X.h.p.length pc3) (.slice la3 X.kids.len lc3)).toArray 27 (0,0)) none;have gK:=World.grownBy_alloc (w3.alloc (.cells (hdC X.h (.slice pa3 X.h.p.length pc3) (.slice la3 X.kids.len lc3)).toArray 27 (0,0))) (.cells #[.int .i64 0,.int .i64 0] 66 (0,0)) none;have gL:=World.grownBy_alloc ((w3.alloc (.cells (hdC X.h (.slice pa3 X.h.p.length pc3) (.slice la3 X.kids.len lc3)).toArray 27 (0,0))).alloc (.cells #[.int .i64 0,.int .i64 0] 66 (0,0))) (.cells (hdC X.h (.slice pa3 X.h.p.length pc3) (.slice la3 X.kids.len lc3)).toArray 27 (0,0)) none
   have hCn:Cn ((w3.alloc (.cells (hdC X.h (.slice pa3 X.h.p.length pc3) (.slice la3 X.kids.len lc3)).toArray 27 (0,0))).alloc (.cells #[.int .i64 0,.int .i64 0] 66 (0,0))) (w3.heap.size+1) (0,0):=
    (Blk.new (w3.alloc (.cells (hdC X.h (.slice pa3 X.h.p.length pc3) (.slice la3 X.kids.len lc3)).toArray 27 (0,0))) [.int .i64 0,.int .i64 0] 66).of_eq (by simp) rfl
   have hrow:RepL (· ≠ w3.heap.size+1) (((w3.alloc (.cells (hdC X.h (.slice pa3 X.h.p.length pc3) (.slice la3 X.kids.len lc3)).toArray 27 (0,0))).alloc (.cells #[.int .i64 0,.int .i64 0] 66 (0,0))).alloc (.cells (hdC X.h (.slice pa3 X.h.p.length pc3) (.slice la3 X.kids.len lc3)).toArray 27 (0,0))) (.slice (some ⟨w3.heap.size+1+1,0,none⟩) 1 1) (.one X):=
    RepL.one (x:=X) (by simp) (by simp) ((q1.mono (fun q _ hq=>by omega)).gb (Aa gO gK) (by simp)) ((q2.mono (fun q _ hq=>by omega)).gb (Aa gO gK) (by simp))
   have hno:(Fo.one X).nodes=X.nodes:=Fo.nodes_one X;have hxn:X.nodes≤1000001:=by
    have:X.nodes=1+X.kids.nodes:=rfl;have:=HXN.out;omega
   have HE:=O (IV (w3.heap.size+1) (X.nodes+1) (.one X) (by omega) (by omega) (some ⟨w3.heap.size+1+1,0,none⟩) 1 _ (0,0) 0 (by simp only;omega) (by omega) hrow (hCn.gb gL (by simp)));have gKL:=Aa gK gL;have gT:=Aa gO gKL;have HO:=O (Z ((Blk.new w3 (hdC X.h (.slice pa3 X.h.p.length pc3) (.slice la3 X.kids.len lc3)) 27).gb gKL (by simp)) (Z (hbz.gb gT (by simp)) (Aa g3 gT)));have HVX:=O (show VE (fun q=>q≠w.heap.size+1+1∧q≠w3.heap.size+1) w3 (exV X.h (.slice pa3 X.h.p.length pc3) (.slice la3 X.kids.len lc3)) X from⟨pa3,pc3,la3,lc3,rfl,q1.mono (fun q hq hl=>by have:q<w.heap.size∨w2.heap.size≤q:=hq;omega),q2.mono (fun q hq hl=>by have:q<w.heap.size∨w2.heap.size≤q:=hq;omega)⟩);have HVT:=O (HVX.out.gb gT (by simp));have hbo:=Blk.new w3 (hdC X.h (.slice pa3 X.h.p.length pc3) (.slice la3 X.kids.len lc3)) 27;have hz3:=hbz.lt;clear x_0 x_1 x_2 x_3 x_4 x_5 x_6 x_f y_0 y_1 y_2 y_3 y_4 y_5 y_6 y_f q1 q2 t3 g3 hbz gO gK gL gKL gT hCn hrow hno hxn HVX;obtain⟨o_0,o_1,o_2,o_3,o_4,o_5,o_6,o_f⟩:=(hbo).c7;clear hbo;go_wp2_with fail;refine HE.out.mono ?_;rintro e w4 ⟨rfl,g4,h4⟩;have HO4:=O (Z (HO.out.1.gb g4 (by simp)) (Z (HO.out.2.1.gb g4 (by simp;omega)) (Z (Ar HO.out.2.2 g4 (.inr (by have:=HG2.out.size;omega))) (HVT.out.gb g4 (fun q hq _ e=>by cases e;exact hq.2 rfl)))));clear o_0 o_1 o_2 o_3 o_4 o_5 o_6 o_f g4 HO HVT HE;go_wp2_with fail;refine(FH (n:=(Br (.one X) 0 (0,0)).1) (m:=(Br (.one X) 0 (0,0)).2) h4).mono ?_;rintro e w5 ⟨rfl,g5⟩;rw[J0];have hbo:=HO4.out.1.gb g5 (by simp)
   have hbz:=HO4.out.2.1.gb g5 (by simp);have HO5:=O (Z hbz (Z (Aa HO4.out.2.2.1 g5) (HO4.out.2.2.2.gb g5 (by simp))));clear g5 HO4 h4;have hbol:=hbo.lt;have hbzl:=hbz.lt;obtain⟨o_0,o_1,o_2,o_3,o_4,o_5,o_6,o_f⟩:=(hbo).c7;obtain⟨z_0,z_1,z_2,z_3,z_4,z_5,z_6,z_f⟩:=(hbz).c7;clear hbo hbz;cases hLL:AL X.nodes X.levels with
   | true=>
     have hz:z=(noEx,3):=by rw[HZ.out,hLL];rfl
     clear HZ;subst hz;clear o_0 o_1 o_2 o_3 o_4 o_5 o_6 o_f;go_wp2;exact bodyPost_ret (Du rfl _ (HO5.out.1.set7 (.int .i64 0) (str []) (.int .i64 0) (.int .i64 0) (str []) (.slice none 0 0) (.slice none 0 0)) rfl rfl) rfl ⟨_,rfl,Ej _,Ar HO5.out.2.1 (Ag w5 (w.heap.size+1+1) (.int .i64 0) (str []) (.int .i64 0) (.int .i64 0) (str []) (.slice none 0 0) (.slice none 0 0)) (.inr (by omega))⟩
   | false=>
     have hz:z=(X,0):=by rw[HZ.out,hLL];rfl
     clear HZ;subst hz;go_wp2;have g7:=Ag w5 (w.heap.size+1+1) (.int .i64 X.h.op) (str X.h.s) (.int .i64 X.h.vk) (.int .i64 X.h.vn) (str X.h.vs) (.slice pa3 X.h.p.length pc3) (.slice la3 X.kids.len lc3);exact bodyPost_ret (Du rfl _ (HO5.out.1.set7 (.int .i64 X.h.op) (str X.h.s) (.int .i64 X.h.vk) (.int .i64 X.h.vn) (str X.h.vs) (.slice pa3 X.h.p.length pc3) (.slice la3 X.kids.len lc3)) rfl rfl) rfl ⟨_,rfl,(HO5.out.2.2.gb g7 (fun q hq _ e=>by cases e;exact hq.1 rfl)).mono (fun _ _ _=>trivial),Ar HO5.out.2.1 g7 (.inr (by omega))⟩
  ·have HM:=O (show Cg name x y=(noEx,AG y)by unfold Cg;rw[if_pos hv,if_neg hw]);rw[HM.out];have hvI:(AG y==0)=false:=by simpa using hw
   have hvI2:(AG y !=0)=true:=by simpa using hw
   clear hv hw HM HT h1 h2 hn hf k1 k2 kn kf hp hr hyp hyr;generalize AG y=vm at*;go_enter func10,ntmps10;go_wp2_with fail;refine(HV1.out _ ?gg).mono ?_
   case gg=>exact (by repeat(first| (with_reducible exact Ac _ _)| (with_reducible assumption)| (with_reducible exact AU (by assumption))| (with_reducible refine Ad ?_ _)| (with_reducible refine Am ?_)| (with_reducible refine A3 ?_ _)| ((with_reducible refine Ay ?_ _ _ ?h2);case h2=>first|exact .inl rfl|exact .inr (Nat.le_refl _)|exact .inr (by simp<;>omega))| (with_reducible refine Ah ?_ (by assumption))| (with_reducible refine Aa ?_ (by assumption))))
   rintro e w1 ⟨rfl,g1⟩;have HG1:=O (Aa HG0.out g1);have hby:=HBY.out.gb g1 (by simp);have HB1:=O (HBZ.out.gb g1 (by simp));clear x_0 x_1 x_2 x_3 x_4 x_5 x_6 x_f g1;have hbyl:=hby.lt;obtain⟨y_0,y_1,y_2,y_3,y_4,y_5,y_6,y_f⟩:=(hby).c7;clear hby;go_wp2_with fail;refine(HV2.out _ HG1.out).mono ?_;rintro e w2 ⟨rfl,g2⟩;have HG2:=O (Aa HG1.out g2);have hbz:=HB1.out.gb g2 (by simp);have HZB:=O hbz;clear y_0 y_1 y_2 y_3 y_4 y_5 y_6 y_f g2 HB1;have hbzl:=hbz.lt;obtain⟨z_0,z_1,z_2,z_3,z_4,z_5,z_6,z_f⟩:=(hbz).c7;clear hbz;go_wp2;exact bodyPost_ret (Du rfl _ (HZB.out.set7 (.int .i64 0) (str []) (.int .i64 0) (.int .i64 0) (str []) (.slice none 0 0) (.slice none 0 0)) rfl rfl) rfl ⟨_,rfl,Ej _,Ar HG2.out (Ag w2 (w.heap.size+1+1) (.int .i64 0) (str []) (.int .i64 0) (.int .i64 0) (str []) (.slice none 0 0) (.slice none 0 0)) (.inr (by omega))⟩
 ·have HM:=O (show Cg name x y=(noEx,AG x)by unfold Cg;rw[if_neg hv]);rw[HM.out];have hvI:(AG x==0)=false:=by simpa using hv
  have hvI2:(AG x !=0)=true:=by simpa using hv
  clear hv HM h1 h2 hn hf k1 k2 kn kf hp hr hyp hyr;generalize AG x=vm at*;go_enter func10,ntmps10;go_wp2_with fail;refine(HV1.out _ ?gg).mono ?_
  case gg=>exact (by repeat(first| (with_reducible exact Ac _ _)| (with_reducible assumption)| (with_reducible exact AU (by assumption))| (with_reducible refine Ad ?_ _)| (with_reducible refine Am ?_)| (with_reducible refine A3 ?_ _)| ((with_reducible refine Ay ?_ _ _ ?h2);case h2=>first|exact .inl rfl|exact .inr (Nat.le_refl _)|exact .inr (by simp<;>omega))| (with_reducible refine Ah ?_ (by assumption))| (with_reducible refine Aa ?_ (by assumption))))
  rintro e w1 ⟨rfl,g1⟩;have HG1:=O (Aa HG0.out g1);have hbz:=HBZ.out.gb g1 (by simp);have HZB:=O hbz;clear x_0 x_1 x_2 x_3 x_4 x_5 x_6 x_f g1;have hbzl:=hbz.lt;obtain⟨z_0,z_1,z_2,z_3,z_4,z_5,z_6,z_f⟩:=(hbz).c7;clear hbz;go_wp2;exact bodyPost_ret (Du rfl _ (HZB.out.set7 (.int .i64 0) (str []) (.int .i64 0) (.int .i64 0) (str []) (.slice none 0 0) (.slice none 0 0)) rfl rfl) rfl ⟨_,rfl,Ej _,Ar HG1.out (Ag w1 (w.heap.size+1+1) (.int .i64 0) (str []) (.int .i64 0) (.int .i64 0) (str []) (.slice none 0 0) (.slice none 0 0)) (.inr (by omega))⟩
end
theorem NL(s:Bs)(w:World):Calls Tryz.prog 7 #[str s] w fun e w'=>e= .returned (.bool (decide (16000<s.length)))∧w.grownBy w' none:=by
 go_enter func7,ntmps7;go_wp2;go_ret;exact⟨by show Ending.returned (Value.bool (decide ((16000:Int)<(s.length:Int))))=_;congr 2;rw[decide_eq_decide];omega,(by repeat(first| (with_reducible exact Ac _ _)| (with_reducible assumption)| (with_reducible exact AU (by assumption))| (with_reducible refine Ad ?_ _)| (with_reducible refine Am ?_)| (with_reducible refine A3 ?_ _)| ((with_reducible refine Ay ?_ _ _ ?h2);case h2=>first|exact .inl rfl|exact .inr (Nat.le_refl _)|exact .inr (by simp<;>omega))| (with_reducible refine Ah ?_ (by assumption))| (with_reducible refine Aa ?_ (by assumption))))⟩
theorem JX{w:World}{ok ok':Nat→Prop}{u v:Value}{x y:Ex}{s:Bs}(ht:Tabs w.heap.size w)(hx:VE ok w u x)(hy:VE ok' w v y)(h1:x.h.fit)(h2:x.kids.fit)(hn:x.kids.nodes≤1000000)(hf:x.few)(k1:y.h.fit)(k2:y.kids.fit)(kn:y.kids.nodes≤1000000)(kf:y.few):
 Calls Tryz.prog 3 #[u,str s,v] w fun e w'=>e= .returned (.bool true)∧w.grownBy w' none:=by
 have hx:=hx.mono (ok':=fun _=>True) (fun _ _ _=>trivial);have hy:=hy.mono (ok':=fun _=>True) (fun _ _ _=>trivial);have HK:=O (fun(W:World)(g:w.grownBy W none)=>N6 ((ht.gbN g).mono g.size));have H1:=O (fun(W:World)(g:w.grownBy W none)=>Ht (hx.gb g (by simp)));have H2:=O (fun(W:World)(g:w.grownBy W none)=>Ht (hy.gb g (by simp)));have H3:=O (fun(W:World)(g:w.grownBy W none)=>QE (name:=s) (hx.gb g (by simp)) (hy.gb g (by simp)) h1 h2 hn hf k1 k2 kn);have H4:=O (fun(W:World)(g:w.grownBy W none)=>OL (name:=s) (hx.gb g (by simp)) (hy.gb g (by simp)) h1 h2 hn hf k1 k2 kn kf);obtain⟨pa,pc,la,lc,rfl,_,_⟩:=hx;obtain⟨pb,pd,lb,ld,rfl,_,_⟩:=hy;clear ht h1 h2 hn hf k1 k2 kn kf;have hB1:=(Blk.new w (hdC x.h (.slice pa x.h.p.length pc) (.slice la x.kids.len lc)) 27).alloc (.cells (hdC y.h (.slice pb y.h.p.length pd) (.slice lb y.kids.len ld)).toArray 27 (0,0));have hB2:Blk ((w.alloc (.cells (hdC x.h (.slice pa x.h.p.length pc) (.slice la x.kids.len lc)).toArray 27 (0,0))).alloc (.cells (hdC y.h (.slice pb y.h.p.length pd) (.slice lb y.kids.len ld)).toArray 27 (0,0))) (w.heap.size+1) (hdC y.h (.slice pb y.h.p.length pd) (.slice lb y.kids.len ld)) 27:=(Blk.new _ _ _).of_eq (by simp) rfl;have gA:w.grownBy ((w.alloc (.cells (hdC x.h (.slice pa x.h.p.length pc) (.slice la x.kids.len lc)).toArray 27 (0,0))).alloc (.cells (hdC y.h (.slice pb y.h.p.length pd) (.slice lb y.kids.len ld)).toArray 27 (0,0))) none:=Ad (World.grownBy_alloc _ _ _) _;have HB:=O (Z hB1 (Z hB2 gA));clear hB1 hB2 gA
 go_enter Tryz.func3,ntmps3;go_wp2_with fail;refine(H1.out _ HB.out.2.2).mono ?_;rintro e w1 ⟨o1,rfl,g1⟩;cases o1 with
 | true=>
   have gwx:=Aa HB.out.2.2 g1;go_wp2_with fail;refine(HK.out _ gwx).mono ?_;rintro e w2 ⟨rfl,g2⟩;go_wp2;go_ret;exact⟨rfl,Aa gwx g2⟩
 | false=>
   have HB1:=O (Z (HB.out.1.gb g1 (by simp)) (Z (HB.out.2.1.gb g1 (by simp)) (Aa HB.out.2.2 g1)));have b2:=HB1.out.2.1;obtain⟨y_0,y_1,y_2,y_3,y_4,y_5,y_6,y_f⟩:=(b2).c7;clear b2 g1 HB;go_wp2_with fail;refine(H2.out _ HB1.out.2.2).mono ?_;rintro e w2 ⟨o2,rfl,g2⟩;clear y_0 y_1 y_2 y_3 y_4 y_5 y_6 y_f;cases o2 with
   | true=>
     have gwx:=Aa HB1.out.2.2 g2;go_wp2_with fail;refine(HK.out _ gwx).mono ?_;rintro e w3 ⟨rfl,g3⟩;go_wp2;go_ret;exact⟨rfl,Aa gwx g3⟩
   | false=>
     have HB2:=O (Z (HB1.out.1.gb g2 (by simp)) (Z (HB1.out.2.1.gb g2 (by simp)) (Aa HB1.out.2.2 g2)));clear g2 HB1;go_wp2_with fail;refine(NL s _).mono ?_;rintro e w3 ⟨rfl,g3⟩;cases hov:decide (16000<s.length)with
     | true=>
       have gwx:=Aa HB2.out.2.2 g3;go_wp2_with fail;refine(HK.out _ gwx).mono ?_;rintro e w4 ⟨rfl,g4⟩;go_wp2;go_ret;exact⟨rfl,Aa gwx g4⟩
     | false=>
       have HB3:=O (Z (HB2.out.1.gb g3 (by simp)) (Z (HB2.out.2.1.gb g3 (by simp)) (Aa HB2.out.2.2 g3)));have b1:=HB3.out.1;have b2:=HB3.out.2.1;obtain⟨x_0,x_1,x_2,x_3,x_4,x_5,x_6,x_f⟩:=(b1).c7;obtain⟨y_0,y_1,y_2,y_3,y_4,y_5,y_6,y_f⟩:=(b2).c7;clear b1 b2 g3 HB2 hov;go_wp2_with fail;refine(H3.out _ HB3.out.2.2).mono ?_;rintro e w4 ⟨u4,rfl,hu4,g4⟩;generalize Cg s x y=z at*;obtain⟨pe,pf,le,lf,rfl,ru,rv⟩:=hu4;have gE:=World.grownBy_alloc w4 (.cells (hdC z.1.h (.slice pe z.1.h.p.length pf) (.slice le z.1.kids.len lf)).toArray 27 (0,0)) none;have hE:=Blk.new w4 (hdC z.1.h (.slice pe z.1.h.p.length pf) (.slice le z.1.kids.len lf)) 27;have HV4:=O (show VE (fun _=>True) w4 (exV z.1.h (.slice pe z.1.h.p.length pf) (.slice le z.1.kids.len lf)) z.1 from⟨pe,pf,le,lf,rfl,ru,rv⟩);have HB4:=O (Z ((HB3.out.1.gb g4 (by simp)).gb gE (by simp)) (Z ((HB3.out.2.1.gb g4 (by simp)).gb gE (by simp)) (Z (Aa (Aa HB3.out.2.2 g4) gE) (Z hE gE))));have b1:=HB3.out.1.gb g4 (by simp);have b2:=HB3.out.2.1.gb g4 (by simp);clear x_0 x_1 x_2 x_3 x_4 x_5 x_6 x_f y_0 y_1 y_2 y_3 y_4 y_5 y_6 y_f ru rv gE hE g4 HB3;obtain⟨x_0,x_1,x_2,x_3,x_4,x_5,x_6,x_f⟩:=(b1).c7;obtain⟨y_0,y_1,y_2,y_3,y_4,y_5,y_6,y_f⟩:=(b2).c7;have l1:=b1.lt;have l2:=b2.lt;clear b1 b2;go_wp2_with fail;refine(H4.out _ HB4.out.2.2.1).mono ?_;rintro e w5 ⟨u5,rfl,hu5,g5⟩;obtain⟨pg,ph,lg,lh,rfl,rq,rm⟩:=hu5;have gM:=World.grownBy_alloc w5 (.cells (hdC z.1.h (.slice pg z.1.h.p.length ph) (.slice lg z.1.kids.len lh)).toArray 27 (0,0)) none
       have hF:=Blk.new w5 (hdC z.1.h (.slice pg z.1.h.p.length ph) (.slice lg z.1.kids.len lh)) 27;have gA:=Aa HB4.out.2.2.2.2 (Aa g5 gM);have l3:=(HB4.out.2.2.2.1.gb g5 (by simp)).lt;have hE2:=(HB4.out.2.2.2.1.gb g5 (by simp)).gb gM (by simp);have HS:=O (F9 (HV4.out.gb gA (by simp)) ((show VE (fun _=>True) w5 (exV z.1.h (.slice pg z.1.h.p.length ph) (.slice lg z.1.kids.len lh)) z.1 from⟨pg,ph,lg,lh,rfl,rq,rm⟩).gb gM (by simp)));rw[Gd]at HS;have HG:=O (Aa HB4.out.2.2.1 (Aa g5 gM));clear x_0 x_1 x_2 x_3 x_4 x_5 x_6 x_f y_0 y_1 y_2 y_3 y_4 y_5 y_6 y_f rq rm gM gA g5 HB4 HV4;obtain⟨x_0,x_1,x_2,x_3,x_4,x_5,x_6,x_f⟩:=(hE2).c7;obtain⟨y_0,y_1,y_2,y_3,y_4,y_5,y_6,y_f⟩:=(hF).c7;simp only[hdC]at x_0 x_1 x_2 x_3 x_4 x_5 x_6 x_f y_0 y_1 y_2 y_3 y_4 y_5 y_6 y_f;have hc1:(z.2==z.2)=true:=by simp
       clear hE2 hF;go_wp2_with fail;refine HS.out.mono ?_;rintro e w6 ⟨rfl,g6⟩;have gwx:=Aa HG.out g6;go_wp2_with fail;refine(HK.out _ gwx).mono ?_;rintro e w7 ⟨rfl,g7⟩;go_wp2;go_ret;exact⟨rfl,Aa gwx g7⟩
open Go.Lib
theorem u8x:U8Extra Tryz.prog lays260_ren:=⟨by kernel_rfl,by kernel_rfl,by kernel_rfl,by kernel_rfl,by kernel_rfl,by kernel_rfl,by kernel_rfl⟩
theorem casex:CaseExtra Tryz.prog Tryz.lays203_ren:=⟨by kernel_rfl,by kernel_rfl,by kernel_rfl,by kernel_rfl,by kernel_rfl,by kernel_rfl⟩
theorem Hk{P:Program}{W:World}{name:String}{k:IntKind}{zs:List Int}{g:Nat}{t e:TypeId}{n:Nat}
 (hg:P.globalNamed name=some g) (hty:(P.globals[g]?).map (·.type)=some t) (ht:P.underlying t=some (.array n e)) (he:P.underlying e=some (.int k)) (hce:P.cellsOf e=1) (hct:P.cellsOf t=n)
 (h:VarReads P W name (tabData k zs)):TabIs P W name k zs:=by
 obtain⟨g',t',cs,fuel,p,hg',ht',hvar,hd⟩:=h;obtain rfl:=Option.some.inj (hg.symm.trans hg');obtain rfl:=Option.some.inj (hty.symm.trans ht');unfold TabIs;rw[hvar,←cells_of_tab ht he hce hct hd]
theorem LA{P:Program}{W:World}{name:String}{d:DataW Unit}{g:Nat}(hg:P.globalNamed name=some g)(h:VarReads P W name d):g<W.heap.size:=by
 obtain⟨g',t',cs,fuel,p,hg',ht',hvar,hd⟩:=h;obtain rfl:=Option.some.inj (hg.symm.trans hg');unfold World.var? at hvar;rw[hg]at hvar;simp only[Option.bind_some]at hvar;rcases Nat.lt_or_ge g W.heap.size with h|h
 ·exact h
 ·rw[Array.getElem?_eq_none h]at hvar;simp at hvar
theorem Lo {W : World} {laid : List (String × DataW Unit)} (h : laidMet Tryz.prog laid W) {d : DataW Unit} (h1 : ("unicode/utf8.first", firstData) ∈ laid) (h2 : ("unicode/utf8.acceptRanges", acceptData) ∈ laid)
 (h3 : ("unicode.CaseRanges", caseData) ∈ laid) (h4 : ("strings.asciiSpace", tabData .u8 asciiSpaceTab) ∈ laid) (h5 : ("strconv.ErrRange", d) ∈ laid) : Tabs W.heap.size W := by
 have hu:=utf8Tabs_of_reads lays260 u8x (laidMet.reads h h1) (laidMet.reads h h2);have hc:=caseVar_of_reads {Tryz.lays203 with} Tryz.lays203.t206 casex (laidMet.reads h h3);have hg:=LA (g:=10) (by kernel_rfl) (laidMet.reads h h5);have e13:Tryz.lays203_ren.g 13=4:=by kernel_rfl
 rw[e13]at hc;obtain⟨R,oR,cap,hcell,hT⟩:=hc;have hR:=World.block_lt_of_cell? W _ (hT 0 (by decide+kernel)).1;exact⟨hu,hg,⟨R,oR,cap,hR,hcell,hT⟩,Hk ED (t:=99) (e:=5) (n:=256) (by kernel_rfl) underlying99 underlying5 (by kernel_rfl) (by kernel_rfl) (laidMet.reads h h4)⟩
open Go.ChangeShapes
def C8:List Bs→Nat
 | []=>0
 |s::r=>s.length+1+C8 r
def hdB(h:Hd):Nat:=h.s.length+h.vs.length+C8 h.p
def Fo.bulk:Fo→Nat
 | .nil=>0
 | .cons h k n=>9+hdB h+k.bulk+n.bulk
theorem Gm:∀(p:List Bs),p.length≤C8 p∧∀s∈p,s.length≤C8 p:=by
 intro p;induction p with
 |nil=>exact⟨Nat.zero_le _,fun s hs=>by cases hs⟩
 | cons a r ih=>
   simp only[C8,List.length_cons];refine⟨by omega,fun s hs=>?_⟩;rcases List.mem_cons.1 hs with rfl|hs
   ·omega
   ·have:=ih.2 s hs;omega
theorem Hn{h:Hd}(hb:hdB h≤2000000):h.fit:=by
 unfold hdB at hb;have:=Gm h.p;exact⟨by omega,by omega,by omega,fun s hs=>by have:=this.2 s hs;omega⟩
theorem Kc:∀{f:Fo},f.bulk≤2000000→f.fit∧2*f.nodes≤f.bulk:=by
 intro f;induction f with
 |nil=>intro _;exact⟨trivial,by simp[Fo.nodes,Fo.bulk]⟩
 | cons h k n ihk ihn=>
   intro hb;simp only[Fo.bulk]at hb;have h1:=ihk (by omega);have h2:=ihn (by omega);simp only[Fo.bulk,Fo.nodes];exact⟨⟨Hn (by omega),h1.1,h2.1⟩,by omega⟩
theorem Gh{H:Type}(d:DataW H):1≤Rows.uptoBulk d:=by
 cases d with
 |lit l=>cases l<;>simp[Rows.uptoBulk]
 |nil=>simp[Rows.uptoBulk]
 |ptr d=>simp[Rows.uptoBulk]
 |slice a b=>simp[Rows.uptoBulk]
 |agg p=>simp[Rows.uptoBulk]
 |iface a d=>simp[Rows.uptoBulk]
 |map e=>simp[Rows.uptoBulk]
 |held h=>simp[Rows.uptoBulk]
section
variable {H:Type}{enc:TypeId×Value→H}{W:World}{base:Nat}{sp:Nat→Bool}{held:Bool}
theorem Ou(l:List ByteArray):Rows.uptoBulkAll (strs (H:=H) l)=C8 (l.map fun s=>s.data.toList):=by
 induction l with
 |nil=>simp[strs,Rows.uptoBulkAll,C8]
 | cons a r ih=>
   have ih':Rows.uptoBulkAll (r.map fun s=>DataW.lit (H:=H) (.string s.data.toList))=C8 (r.map fun s=>s.data.toList):=ih;show Rows.uptoBulkAll ((a::r).map fun s=>DataW.lit (H:=H) (.string s.data.toList))=_;simp only[List.map_cons,Rows.uptoBulkAll,Rows.uptoBulk,C8,ih']
theorem O3{fuel:Nat}{cs:List Value}{x:DataW H×List MemPlace}(h:DataW.trod enc Tryz.prog W base sp held fuel 24 cs=some x):
 ∃pa pc,∃p:List Bs,cs=[.slice pa p.length pc]∧Cells W (.slice pa p.length pc) 1 p.length (p.map str) (fun _=>True)∧C8 p+1≤Rows.uptoBulk x.1:=by
 rcases open_strings underlying24 underlying9 co9 h with⟨rfl,rfl⟩| ⟨a,len,cap,ss,rfl,_,h1,h2,h3,rfl,hc,_⟩
 ·exact⟨none,0,[],rfl,Cells.nil _ _ _,by simp[C8,Rows.uptoBulk]⟩
 ·have hle:len≤ss.length:=by rw[h3];split<;>omega
  have hpl:((ss.take len).map fun s=>s.data.toList).length=len:=by simp;omega
  refine⟨some a,cap,(ss.take len).map fun s=>s.data.toList,by rw[hpl],?_,?_⟩
  ·rw[hpl];refine ID h1 h2 (by simp;omega) ?_;intro j u hj;simp only[List.map_map,List.getElem?_map,Option.map_eq_some_iff]at hj;obtain⟨s,hs,rfl⟩:=hj;have hjl:j<ss.length:=by
    have:=(List.getElem?_eq_some_iff.1 hs).1;simp at this;omega
   have:=hc j hjl;rw[this];have e:ss.getD j ByteArray.empty=s:=by
    have h5:=(List.getElem?_eq_some_iff.1 hs);simp only[List.getElem_take]at h5;obtain⟨_,h6⟩:=h5;simp[List.getD,List.getElem?_eq_getElem hjl,h6]
   rw[e,JH];rfl
  ·simp only[Rows.uptoBulk];rw[Ou];omega
def Gz(W:World)(cs:List Value)(n:Nat):Prop:=∃(h:Hd)(pa la:Option Addr)(pc lc:Nat)(f:Fo),cs=hdC h (.slice pa h.p.length pc) (.slice la f.len lc)∧Cells W (.slice pa h.p.length pc) 1 h.p.length (h.p.map str) (fun _=>True)∧RepL (fun _=>True) W (.slice la f.len lc) f∧9+hdB h+f.bulk≤n
theorem PF{n:Nat}(ih:∀(cs:List Value) (x:DataW H×List MemPlace),DataW.trod enc Tryz.prog W base sp held n 27 cs=some x→Gz W cs (Rows.uptoBulk x.1)){a:Addr}{elems:List (DataW H×List MemPlace)}
 (he:∀i,i<elems.length→(W.cells? base (a.add (i*7)) 7).bind (DataW.trod enc Tryz.prog W base sp held n 27)=elems[i]?):
 ∀k j,j+k=elems.length→∃(f:Fo)(cs:List Value),f.len=k∧cs.length=k*7∧RepF (fun _=>True) W f cs∧(∀i u,cs[i]? =some u→W.cell? (a.add (j*7+i))=some u)∧f.bulk≤Rows.uptoBulkAll ((elems.drop j).map (·.1)):=by
 intro k;induction k with
 |zero=>intro j _;exact⟨.nil,[],rfl,rfl,rfl,fun i u h=>by simp at h,by simp[Fo.bulk]⟩
 | succ k ihk=>
   intro j hj;obtain⟨f,ds,hf,hds,hF,hc,hbk⟩:=ihk (j+1) (by omega);have hx:=he j (by omega);have hjl:j<elems.length:=by omega
   rw[List.getElem?_eq_getElem hjl]at hx;obtain⟨cs',h1,h2⟩:=Option.bind_eq_some_iff.1 hx;obtain⟨h,pa,la,pc,lc,kids,rfl,hp,hl,hbb⟩:=ih cs' _ h2;obtain⟨_,_,hget⟩:=World.cells?_some h1;obtain⟨kcs,hk1,hk2⟩:=hl;refine⟨.cons h kids f,hdC h (.slice pa h.p.length pc) (.slice la kids.len lc)++ds,by simp[Fo.len,hf],by simp[hdC,hds];omega,⟨_,_,kcs,ds,rfl,hp,hk1,hk2,hF⟩,?_,?_⟩
   ·intro i u hi;by_cases h7:i<7
    ·rw[List.getElem?_append_left (by simp[hdC];omega)]at hi;have:=hget i h7;rw[Addr.add_add]at this;rw[this,hi]
    ·rw[List.getElem?_append_right (by simp[hdC];omega)]at hi;have:=hc _ u hi;rw[show(j+1)*7+(i-(hdC h (.slice pa h.p.length pc) (.slice la kids.len lc)).length)=j*7+i by simp[hdC];omega]at this;exact this
   ·rw[List.drop_eq_getElem_cons hjl];simp only[List.map_cons,Rows.uptoBulkAll,Fo.bulk];omega
theorem Oj{n:Nat}(ih:∀m,m<n→∀(cs:List Value) (x:DataW H×List MemPlace),DataW.trod enc Tryz.prog W base sp held m 27 cs=some x→Gz W cs (Rows.uptoBulk x.1)){cs:List Value}{x:DataW H×List MemPlace}
 (h:DataW.trod enc Tryz.prog W base sp held n 25 cs=some x):∃(la:Option Addr)(lc:Nat)(f:Fo),cs=[.slice la f.len lc]∧RepL (fun _=>True) W (.slice la f.len lc) f∧f.bulk+1≤Rows.uptoBulk x.1:=by
 rcases DataW.trod_slice underlying25 h with⟨rfl,rfl⟩| ⟨a,len,cap,elems,rest,m,rfl,rfl,rfl,_,h1,h2,hlen,hel,_⟩
 ·exact⟨none,0,.nil,rfl,RepL.nil _ _,by simp[Fo.bulk,Rows.uptoBulk]⟩
 ·rw[co29]at hel;obtain⟨f,ds,hf,hds,hF,hc,hbk⟩:=PF (ih m (Nat.lt_succ_self _)) (a:=a) (elems:=elems) (fun i hi=>hel i (by omega)) len 0 (by omega);refine⟨some a,cap,f,by rw[hf],⟨ds,?_,hF⟩,?_⟩
  ·rw[hf];exact ID h1 h2 hds (fun j u hj=>by have:=hc j u hj;simpa using this)
  ·simp only[Rows.uptoBulk];rw[List.drop_zero]at hbk;omega
theorem PZ:∀(n:Nat)(cs:List Value)(x:DataW H×List MemPlace),DataW.trod enc Tryz.prog W base sp held n 27 cs=some x→Gz W cs (Rows.uptoBulk x.1):=by
 intro n;induction n using Nat.strongRecOn with
 | ind n ih=>
   intro cs x h;obtain⟨xs,m,rfl,rfl,hl,hxl,hf⟩:=DataW.trod_struct underlying27 h;rw[co29]at hl;match cs,hl with
   | [c0,c1,c2,c3,c4,c5,c6],_=>
     match xs,hxl with
     | [y0,y1,y2,y3,y4],_=>
     have f0:DataW.trod enc Tryz.prog W base sp held m 3 (([c0,c1,c2,c3,c4,c5,c6].drop 0).take (Tryz.prog.cellsOf 3))=some y0:=hf 0 _ rfl;have f1:DataW.trod enc Tryz.prog W base sp held m 9 (([c0,c1,c2,c3,c4,c5,c6].drop 1).take (Tryz.prog.cellsOf 9))=some y1:=hf 1 _ rfl;have f2:DataW.trod enc Tryz.prog W base sp held m 23 (([c0,c1,c2,c3,c4,c5,c6].drop 2).take (Tryz.prog.cellsOf 23))=some y2:=hf 2 _ rfl;have f3:DataW.trod enc Tryz.prog W base sp held m 24 (([c0,c1,c2,c3,c4,c5,c6].drop 5).take (Tryz.prog.cellsOf 24))=some y3:=hf 3 _ rfl;have f4:DataW.trod enc Tryz.prog W base sp held m 25 (([c0,c1,c2,c3,c4,c5,c6].drop 6).take (Tryz.prog.cellsOf 25))=some y4:=hf 4 _ rfl;rw[co3]at f0;rw[co9]at f1;rw[co25]at f2;rw[co26]at f3;rw[co27]at f4;simp only[List.drop_zero,List.drop_succ_cons,List.take_succ_cons,List.take_zero]at f0 f1 f2 f3 f4;obtain⟨op,h0,_⟩:=DataW.trod_int underlying3 f0;obtain⟨s,h1,rfl,_⟩:=DataW.trod_string underlying9 f1;obtain⟨zs,q,_,rfl,_,hzl,hg⟩:=DataW.trod_struct underlying23 f2;match zs,hzl with
     | [z0,z1,z2],_=>
     have g0:DataW.trod enc Tryz.prog W base sp held q 3 (([c2,c3,c4].drop 0).take (Tryz.prog.cellsOf 3))=some z0:=hg 0 _ rfl;have g1:DataW.trod enc Tryz.prog W base sp held q 3 (([c2,c3,c4].drop 1).take (Tryz.prog.cellsOf 3))=some z1:=hg 1 _ rfl;have g2:DataW.trod enc Tryz.prog W base sp held q 9 (([c2,c3,c4].drop 2).take (Tryz.prog.cellsOf 9))=some z2:=hg 2 _ rfl;rw[co3]at g0 g1;rw[co9]at g2;simp only[List.drop_zero,List.drop_succ_cons,List.take_succ_cons,List.take_zero]at g0 g1 g2;obtain⟨vk,h2,_⟩:=DataW.trod_int underlying3 g0;obtain⟨vn,h3,_⟩:=DataW.trod_int underlying3 g1;obtain⟨vs,h4,rfl,_⟩:=DataW.trod_string underlying9 g2;obtain⟨pa,pc,p,h5,hp,hpb⟩:=O3 f3;obtain⟨la,lc,f,h6,hl,hlb⟩:=Oj (fun k hk=>ih k (by omega)) f4;simp only[List.cons.injEq,and_true]at h0 h1 h2 h3 h4 h5 h6;subst h0 h1 h2 h3 h4 h5 h6;refine⟨⟨op,s.data.toList,vk,vn,vs.data.toList,p⟩,pa,la,pc,lc,f,by simp[hdC,JH],hp,hl,?_⟩;have b1:=Gh y0.1;have b2:=Gh z0.1;have b3:=Gh z1.1;simp only[List.map_cons,List.map_nil,Rows.uptoBulk,Rows.uptoBulkAll,hdB];omega
theorem JJ{r:Reach}{b0:Nat}{v:Value}{d:DataW H}{ps:List MemPlace}(hv:Value.okWide Tryz.prog W r b0 27 v)(h:DataW.Trod enc Tryz.prog W base sp held 27 v d ps):∃x:Ex,VE (fun _=>True) W v x∧9+hdB x.h+x.kids.bulk≤Rows.uptoBulk d:=by
 unfold Value.okWide at hv;rw[underlying27]at hv;obtain⟨cs,rfl,_⟩:=hv;obtain⟨fuel,hf⟩:=h;obtain⟨h,pa,la,pc,lc,f,e,hp,hl,hb⟩:=PZ fuel _ _ hf;refine⟨⟨h,f⟩,⟨pa,pc,la,lc,?_,hp,hl⟩,hb⟩;cases cs;simp only[Value.cells]at e;subst e;rfl
theorem Hz{x:Ex}{n:Nat}(h:9+hdB x.h+x.kids.bulk≤n)(hn:n≤1048576):x.h.fit∧x.kids.fit∧x.kids.nodes≤1000000:=by
 have h1:=Kc (f:=x.kids) (by omega);exact⟨Hn (by omega),h1.1,by omega⟩
end
theorem K5:∀{f:Fo},f.nT≤2*f.bulk∧f.kT≤2000002*f.bulk:=by
 intro f;induction f with
 |nil=>simp[Fo.nT,Fo.bulk,Fo.kT]
 | cons h k n ihk ihn=>
   have:=Gm h.p;simp only[Fo.nT,Fo.bulk,Fo.kT,hdB];omega
theorem Hm{x:Ex}{n:Nat}(h:9+hdB x.h+x.kids.bulk≤n)(hn:n≤1048576):x.few:=by
 have h1:=K5 (f:=x.kids);have h2:=Gm x.h.p;unfold hdB at h;unfold Ex.few nX kX;omega
end Go.Proofs.YtgjdhajcnechdaaGreatDoor
