/-
  The reference's set: a row is sorted, and what stands more than once is left out. The reference's counter of an expression's size. The reference's ValidateExpr.
-/
import Derived.Test.YtgjdhajcnechdaaGreatDoorSw43
import Derived.Test.YtgjdhajcnechdaaGreatDoorSw21
import Derived.Test.YtgjdhajcnechdaaGreatDoorSw25
import Derived.Test.YtgjdhajcnechdaaGreatDoorSw33
import Derived.Test.YtgjdhajcnechdaaGreatDoorSw35
import Derived.Test.YtgjdhajcnechdaaGreatDoorSw38
import Derived.Test.YtgjdhajcnechdaaGreatDoorSw22
import Derived.Test.YtgjdhajcnechdaaGreatDoorSw40
set_option linter.all false
set_option maxRecDepth 100000
set_option maxHeartbeats 8000000
namespace Go.Proofs.YtgjdhajcnechdaaGreatDoor
open Go.Proofs.Tryz
open Go.RowKit Go.Sort Go.Lib
abbrev CF(xs:List Bs):List Bs:=xs.mergeSort fun x y=>decide (x≤y)
theorem GK(xs:List Bs):(CF xs).length=xs.length:=(List.mergeSort_perm xs _).length_eq
def J1(w:World)(B:Nat)(v:Value)(xs:List Bs)(e:Ending)(w':World):Prop:=e= .returned (.tuple #[])∧w'.ownsRow B 9 1 v xs.length ((CF xs).map str)∧w.grownBy w' v.ownBlock
section
variable {w:World}{B:Nat}{v:Value}{xs:List Bs}
theorem JM(h:w.ownsRow B 9 1 v xs.length (xs.map str))(hl:xs.length≤1000001):Calls Tryz.prog 42 #[v] w (J1 w B v xs):=by
 rcases h.2 with⟨rfl,h0⟩| ⟨g,cap,cur,rfl,hb,hblk,hnc,hcm,hcs,htake⟩
 ·have hx:xs=[]:=List.eq_nil_of_length_eq_zero h0;subst hx;refine(slices_Sort_string_none none 0 w).mono ?_;rintro e w1 ⟨rfl,rfl⟩;have e:CF []=[]:=by simp[CF]
  exact⟨rfl,by rw[e];exact World.ownsRow_nil _ _ _ _,Ac _ _⟩
 ·refine(slices_Sort_string g 0 cap xs w (holds_of_block hblk (by rw[Nat.mul_one]at htake;exact htake)) (Array.getElem?_eq_some_iff.1 hblk).1 (by omega)).mono ?_;rintro e w1 ⟨rfl,n,os,rfl⟩;exact⟨rfl,ownsRow_sorted (GK xs) hb hblk hnc hcm hcs,grownBy_sorted _⟩
theorem PT(h:w.ownsRow B 9 1 v xs.length (xs.map str))(hl:xs.length≤1000001):Calls Tryz.prog 72 #[v] w (J1 w B v xs):=by
 have H:=O (JM h hl);obtain⟨a,c,rfl,_⟩:=AU h;clear h;go_enter func72,ntmps72;go_wp2_with fail;refine H.out.mono ?_;rintro e w1 ⟨rfl,h1,g1⟩;go_wp2;go_end0;exact⟨rfl,h1,g1⟩
theorem SJ(h:w.ownsRow B 9 1 v xs.length (xs.map str))(hl:xs.length≤1000001):
 Calls Tryz.prog 44 #[v] w fun e w'=>∃v',e= .returned v'∧w'.ownsRow w.heap.size 9 1 v' (Lib.compact (CF xs)).length ((Lib.compact (CF xs)).map str)∧w.grownBy w' v.ownBlock:=by
 have H:=O (PT h hl);have hzl:=GK xs;generalize hzz:CF xs=zs at*;obtain⟨a,c,rfl,_⟩:=AU h;clear h;have HC:=O (show compactUpTo zs.toArray zs.length=Lib.compact zs from rfl);generalize Lib.compact zs=cz at*;rw[←hzl]at H ⊢;have hl2:zs.length≤1000001:=by omega
 have HZ:=O hzl;clear hzl hl;go_enter func44,ntmps44;go_wp2_with fail;refine H.out.mono ?_;rintro e w1 ⟨rfl,h1,g1⟩;rw[hzz,←HZ.out]at h1;have HS:=O (Z h1 (Z g1 (AU h1)));clear h1 g1 H hzz;have HW:=O (show ∀j,j<zs.length→(zs.toArray[j]!: Bs)=zs.getD j []from fun j hj=>by simp[hj]);clear HZ;go_wp2_with fail;go_loopg [3,4] zs.length (fun n v3 v4 wr=>∃i:Nat,∃acc:List Bs,i+n=zs.length∧v4= .int .i64 i∧acc=compactUpTo zs.toArray i∧acc.length≤i∧wr.ownsRow w1.heap.size 9 1 v3 acc.length (acc.map str)∧w1.grownBy wr none)
 case atStart=>exact⟨0,[],by omega,rfl,rfl,Nat.le_refl _,World.ownsRow_nil _ _ _ _,Ac _ _⟩
 case round=>
  obtain⟨i,acc,hk,rfl,hacc,hal,hown,hgr⟩:=hrel;by_cases hi:i<zs.length
  ·have hkI:decide (i<zs.length)=true:=by simpa using hi
   have i0:(0:Int)≤(i:Int):=by omega
   have i2:(i:Int)<(zs.length:Int):=by omega
   have hns:compactUpTo zs.toArray (i+1)=acc++(if keeps zs.toArray i then [zs.getD i []]else []):=by rw[compactUpTo_succ,hacc,HW.out i hi]
   have HA:=(HS.out.2.2.gb hgr (by simp)).at1;obtain⟨gx,ox,rfl,c1⟩:=HA.2 i hi;have hgl:=World.block_lt_of_cell? _ _ c1;have HN:=O (Z hacc (Z hown (Z hgr hns)));obtain⟨q0,hi0,hz0,hz1,hz2⟩:=info_parts C0;have HI:=O (Z hi0 (Z hz0 (Z hz1 hz2)));clear hacc hown hgr hns hi0 hz0 hz1 hz2;generalize hs1:zs.getD i []=s1 at*;have HL:=O hal;by_cases h0:i=0
   ·subst h0;clear HA hs1;rw[Nat.add_zero]at c1;have hkp:keeps zs.toArray 0=true:=keeps_lt_one _ 0 (by omega);go_wp2_with fail;go_quiet(fail);have gD:wr.grownBy (wr.drewN nq) none:=Ay (Ac _ _) _;have d1:=Af gD c1;have hglD:gx<(wr.drewN nq).heap.size:=Nat.lt_of_lt_of_le hgl gD.size;have HD:=O (Z (HN.out.2.1.kept gD (by cases Value.ownBlock _ with|none=>exact .inl rfl|some _=>exact .inr (by simp))) (Aa HN.out.2.2.1 gD));clear gD c1 hgl;generalize wr.drewN nq=wd at*;have gA:=World.grownBy_alloc wd (.cells [str s1].toArray 9 (0,0)) none;have hbs:w1.heap.size≤(wd.alloc (.cells [str s1].toArray 9 (0,0))).heap.size:=Nat.le_trans HD.out.2.size gA.size;have HZ:=O (Z (HD.out.1.alloc (.cells [str s1].toArray 9 (0,0))) (Z (BZ wd [str s1] 9) (Z hbs gA)));have HY:=O (show acc.length+1≤maxLen∧(acc.length+1)*16≤140737488355328 from⟨by unfold maxLen;omega,by omega⟩);clear gA hbs;go_wp2_with (at_builtin;refine wpList_append_own _ rfl _ _ 24 rfl w1.heap.size 9 q0 (str []) 1 16 underlying24 HI.out.1 HI.out.2.1 HI.out.2.2.1 HI.out.2.2.2 rfl (by decide) _ _ _ rfl HZ.out.1 ⟨wd.heap.size,0,none⟩ 1 1 [str s1] rfl rfl HZ.out.2.1 (by simp[Value.oneCell']) HY.out.1 HY.out.2 HZ.out.2.2.1 ?_;intro v' w6 hown5 g7 hnb;have HO:=O (Z hown5 g7);clear hown5 g7 hnb);go_roundg (zs.length-(0+1))
    case measure=>omega
    case rel=>exact⟨0+1,acc++[s1],by omega,by go_num,by rw[HN.out.2.2.2,if_pos hkp],by rw[List.length_append];simp only[List.length_cons,List.length_nil];omega,by rw[List.length_append,List.map_append];exact HO.out.1,Dq HZ.out.1 (Aa HD.out.2 HZ.out.2.2.2) HO.out.2 (Nat.le_refl _)⟩
   ·have hz0:((i:Int)==0)=false:=by rw[beq_eq_false_iff_ne];omega
    have hw1:IntKind.i64.wrap ((i:Int)-1)=((i-1:Nat):Int):=by
     have e:((i-1:Nat):Int)=(i:Int)-1:=by omega
     rw[e];exact IntWalk.i64_in _ (by omega)
    have j0:(0:Int)≤((i-1:Nat):Int):=by omega
    have j2:((i-1:Nat):Int)<(zs.length:Int):=by omega
    obtain⟨gy,oy,ey,c2⟩:=HA.2 (i-1) (by omega);cases ey;have hkk:keeps zs.toArray i=decide (s1≠zs.getD (i-1) []):=by
     unfold keeps;rw[HW.out i hi,HW.out (i-1) (by omega),hs1];simp[h0]
    generalize zs.getD (i-1) []=s2 at*;clear HA;by_cases hss:s1=s2
    ·have hkn:keeps zs.toArray i=false:=by rw[hkk];simpa using hss
     have hb1:(s1==s2)=true:=by simpa using hss
     have hb2:(s1 !=s2)=false:=by simpa using hss
     clear hs1 hkk hss;go_wp2_with fail;go_quiet(fail);have gD:wr.grownBy (wr.drewN nq) none:=Ay (Ac _ _) _;have HD:=O (Z (HN.out.2.1.kept gD (by cases Value.ownBlock _ with|none=>exact .inl rfl|some _=>exact .inr (by simp))) (Aa HN.out.2.2.1 gD));clear gD c1 c2 hgl;generalize wr.drewN nq=wd at*;go_wp2;go_roundg (zs.length-(i+1))
     case measure=>omega
     case rel=>exact⟨i+1,acc,by omega,by go_num,by rw[HN.out.2.2.2,hkn];simp,by omega,HD.out.1,HD.out.2⟩
    ·have hkp:keeps zs.toArray i=true:=by rw[hkk];simpa using hss
     have hb1:(s1==s2)=false:=by simpa using hss
     have hb2:(s1 !=s2)=true:=by simpa using hss
     clear hs1 hkk hss;go_wp2_with fail;go_quiet(fail);have gD:wr.grownBy (wr.drewN nq) none:=Ay (Ac _ _) _;have d1:=Af gD c1;have hglD:gx<(wr.drewN nq).heap.size:=Nat.lt_of_lt_of_le hgl gD.size;have HD:=O (Z (HN.out.2.1.kept gD (by cases Value.ownBlock _ with|none=>exact .inl rfl|some _=>exact .inr (by simp))) (Aa HN.out.2.2.1 gD));clear gD c1 hgl;generalize wr.drewN nq=wd at*;have gA:=World.grownBy_alloc wd (.cells [str s1].toArray 9 (0,0)) none;have hbs:w1.heap.size≤(wd.alloc (.cells [str s1].toArray 9 (0,0))).heap.size:=Nat.le_trans HD.out.2.size gA.size;have HZ:=O (Z (HD.out.1.alloc (.cells [str s1].toArray 9 (0,0))) (Z (BZ wd [str s1] 9) (Z hbs gA)));have HY:=O (show acc.length+1≤maxLen∧(acc.length+1)*16≤140737488355328 from⟨by unfold maxLen;omega,by omega⟩);clear gA hbs;go_wp2_with (at_builtin;refine wpList_append_own _ rfl _ _ 24 rfl w1.heap.size 9 q0 (str []) 1 16 underlying24 HI.out.1 HI.out.2.1 HI.out.2.2.1 HI.out.2.2.2 rfl (by decide) _ _ _ rfl HZ.out.1 ⟨wd.heap.size,0,none⟩ 1 1 [str s1] rfl rfl HZ.out.2.1 (by simp[Value.oneCell']) HY.out.1 HY.out.2 HZ.out.2.2.1 ?_;intro v' w6 hown5 g7 hnb;have HO:=O (Z hown5 g7);clear hown5 g7 hnb);go_roundg (zs.length-(i+1))
     case measure=>omega
     case rel=>exact⟨i+1,acc++[s1],by omega,by go_num,by rw[HN.out.2.2.2,if_pos hkp],by rw[List.length_append];simp only[List.length_cons,List.length_nil];omega,by rw[List.length_append,List.map_append];exact HO.out.1,Dq HZ.out.1 (Aa HD.out.2 HZ.out.2.2.2) HO.out.2 (Nat.le_refl _)⟩
  ·have hkI:decide (i<zs.length)=false:=by simpa using hi
   obtain rfl:i=zs.length:=by omega
   have HX:=O (Z (hacc.trans HC.out) (Z hown hgr));clear hacc hown hgr;go_wp2;go_ret;rw[←HX.out.1];exact⟨_,rfl,Fm HX.out.2.1 HS.out.2.1.size,Ag HS.out.2.1 HX.out.2.2⟩
end
def B4:Fo→Nat→Nat×Nat→Nat×Nat
 | .nil,_,s=>s
 | .cons _ kids next,k,s=>if AW (s.1+1) (max s.2 (k+1))then(s.1+1,max s.2 (k+1))else B4 next k (B4 kids (k+1) (s.1+1,max s.2 (k+1)))
theorem Gt{n m n' m':Nat}(h:AW n m=true)(hn:n≤n')(hm:m≤m'):AW n' m'=true:=by
 simp only[AW,Bool.or_eq_true,decide_eq_true_eq]at h ⊢;omega
theorem SU:∀(f:Fo)(k:Nat)(s:Nat×Nat),s.1≤(B4 f k s).1∧s.2≤(B4 f k s).2:=by
 intro f;induction f with
 |nil=>intro k s;exact⟨Nat.le_refl _,Nat.le_refl _⟩
 | cons h kids next ihk ihn=>
   intro k s;unfold B4;split
   ·exact⟨by simp,by simp;omega⟩
   ·have h1:=ihk (k+1) (s.1+1,max s.2 (k+1));have h2:=ihn k (B4 kids (k+1) (s.1+1,max s.2 (k+1)));simp only at h1;omega
theorem SW:∀(f:Fo)(k:Nat)(s:Nat×Nat),(B4 f k s).1≤s.1+f.nodes:=by
 intro f;induction f with
 |nil=>intro k s;exact Nat.le_refl _
 | cons h kids next ihk ihn=>
   intro k s;unfold B4;simp only[Fo.nodes];split
   ·simp;omega
   ·have h1:=ihk (k+1) (s.1+1,max s.2 (k+1));have h2:=ihn k (B4 kids (k+1) (s.1+1,max s.2 (k+1)));simp only at h1;omega
theorem SV:∀(f:Fo)(k:Nat)(s:Nat×Nat),k≤s.2→
 AW (B4 f k s).1 (B4 f k s).2=AW (s.1+f.nodes) (max s.2 (k+f.levels))∧
 (AW (s.1+f.nodes) (max s.2 (k+f.levels))=false→B4 f k s=(s.1+f.nodes,max s.2 (k+f.levels))):=by
 intro f;induction f with
 | nil=>
   intro k s hk;have e:max s.2 (k+Fo.nil.levels)=s.2:=by simp only[Fo.levels];omega
   rw[e];exact⟨rfl,fun _=>rfl⟩
 | cons h kids next ihk ihn=>
   intro k s hk;have e1:s.1+(Fo.cons h kids next).nodes=s.1+1+kids.nodes+next.nodes:=by simp only[Fo.nodes];omega
   have e2:max s.2 (k+(Fo.cons h kids next).levels)=max (max (max s.2 (k+1)) (k+1+kids.levels)) (k+next.levels):=by simp only[Fo.levels];omega
   rw[e1,e2];unfold B4;cases hL:AW (s.1+1) (max s.2 (k+1))with
   | true=>
     rw[if_pos rfl];have ht:=Gt hL (show s.1+1≤s.1+1+kids.nodes+next.nodes by omega) (show max s.2 (k+1)≤max (max (max s.2 (k+1)) (k+1+kids.levels)) (k+next.levels)by omega);rw[ht];exact⟨hL,fun h=>by cases h⟩
   | false=>
     rw[if_neg (by simp)];have h1:=ihk (k+1) (s.1+1,max s.2 (k+1)) (by simp;omega);simp only at h1;generalize hS:B4 kids (k+1) (s.1+1,max s.2 (k+1))=S at*;cases h2:AW (s.1+1+kids.nodes) (max (max s.2 (k+1)) (k+1+kids.levels))with
     | true=>
       rw[h2]at h1;have hg:=SU next k S;have ha:=Gt h1.1 hg.1 hg.2;have hb:=Gt h2 (show s.1+1+kids.nodes≤s.1+1+kids.nodes+next.nodes by omega) (show max (max s.2 (k+1)) (k+1+kids.levels)≤max (max (max s.2 (k+1)) (k+1+kids.levels)) (k+next.levels)by omega);rw[ha,hb];exact⟨rfl,fun h=>by cases h⟩
     | false=>
       have hs:=h1.2 h2;subst hs;exact ihn k _ (by simp;omega)
theorem Rt(x:Ex):AW (B4 (.one x) 0 (0,0)).1 (B4 (.one x) 0 (0,0)).2=AW x.nodes x.levels:=by
 rw[(SV (.one x) 0 (0,0) (Nat.le_refl _)).1];congr 1
 ·simp[Fo.one,Ex.fo,Fo.nodes,Ex.nodes]
 ·simp[Fo.one,Ex.fo,Fo.levels,Ex.levels]
def Cn(w:World)(b:Nat)(s:Nat×Nat):Prop:=Blk w b [.int .i64 s.1,.int .i64 s.2] 66
theorem Cn.gb{w w1:World}{b:Nat}{s:Nat×Nat}{r:Option Nat}(h:Cn w b s)(g:w.grownBy w1 r)(hr:some b≠r):Cn w1 b s:=Blk.gb h g hr
theorem Iz{w:World}{b n m:Nat}(h:Cn w b (n,m)):
 Calls Tryz.prog 31 #[.pointer (some ⟨b,0,none⟩)] w fun e w'=>e= .returned (.bool (AW n m))∧w.grownBy w' none:=by
 have c0:=Blk.cell h 0;have c1:=Blk.cell h 1;have hb:=Blk.lt h;simp only[List.getElem?_cons_zero,List.getElem?_cons_succ]at c0 c1;clear h;cases h1:decide (400<n)with
 | true=>
   have HM:=O (show AW n m=true by unfold AW;rw[h1];rfl);have h2:decide ((400:Int)<n)=true:=by simp at h1 ⊢;omega
   clear h1;go_enter func31,ntmps31;go_wp2;go_ret;exact⟨by rw[HM.out];rfl,(by repeat(first| (with_reducible exact Ac _ _)| (with_reducible assumption)| (with_reducible exact AX (by assumption))| (with_reducible refine Ad ?_ _)| (with_reducible refine Am ?_)| (with_reducible refine Ay ?_ _)| ((with_reducible refine Az ?_ _ _ ?h2);case h2=>first|exact .inl rfl|exact .inr (Nat.le_refl _)|exact .inr (by simp<;>omega))| (with_reducible refine Ag ?_ (by assumption))| (with_reducible refine Aa ?_ (by assumption))))⟩
 | false=>
   have HM:=O (show AW n m=decide ((14:Int)<m)by unfold AW;rw[h1,Bool.false_or,decide_eq_decide];omega);have h2:decide ((400:Int)<n)=false:=by simp at h1 ⊢;omega
   clear h1;go_enter func31,ntmps31;go_wp2;go_ret;exact⟨by rw[HM.out];rfl,(by repeat(first| (with_reducible exact Ac _ _)| (with_reducible assumption)| (with_reducible exact AX (by assumption))| (with_reducible refine Ad ?_ _)| (with_reducible refine Am ?_)| (with_reducible refine Ay ?_ _)| ((with_reducible refine Az ?_ _ _ ?h2);case h2=>first|exact .inl rfl|exact .inr (Nat.le_refl _)|exact .inr (by simp<;>omega))| (with_reducible refine Ag ?_ (by assumption))| (with_reducible refine Aa ?_ (by assumption))))⟩
theorem Rp{w:World}{b n m:Nat}(h:Cn w b (n,m))(k:Nat)(hn:n≤8000000):
 Calls Tryz.prog 57 #[.pointer (some ⟨b,0,none⟩),.int .i64 k] w fun e w'=>e= .returned (.bool (!AW (n+1) (max m k)))∧w.grownBy w' (some b)∧Cn w' b (n+1,max m k):=by
 have c0:=Blk.cell h 0;have c1:=Blk.cell h 1;have hf:=fun k=>Blk.frozen h k;have hb:=Blk.lt h;simp only[List.getElem?_cons_zero,List.getElem?_cons_succ]at c0 c1;have h2:Cn ((w.setCell ⟨b,0,none⟩ (.int .i64 ((n:Int)+1))).setCell ⟨b,1,none⟩ (.int .i64 (max (m:Int) k))) b (n+1,max m k):=
  ((Blk.set h 0 (.int .i64 ((n:Int)+1))).set 1 (.int .i64 (max (m:Int) k))).of_eq rfl (by simp;omega)
 have g2:w.grownBy ((w.setCell ⟨b,0,none⟩ (.int .i64 ((n:Int)+1))).setCell ⟨b,1,none⟩ (.int .i64 (max (m:Int) k))) (some b):=Az (Az (Ac w _) _ _ (.inl rfl)) _ _ (.inl rfl);have HC:=O (Z (Iz h2) (Z h2 g2));clear h h2 g2;go_enter func57,ntmps57;go_wp2_with fail;refine HC.out.1.mono ?_;rintro e w1 ⟨rfl,g1⟩;go_wp2;go_ret;exact⟨rfl,Ag HC.out.2.2 g1,HC.out.2.1.gb g1 (by simp)⟩
def Sm(w:World)(b:Nat)(s:Nat×Nat)(e:Ending)(w':World):Prop:=e= .returned (.tuple #[])∧w.grownBy w' (some b)∧Cn w' b s
theorem P3(b:Nat):∀(N:Nat)(f:Fo),f.nodes<N→f.nodes≤2000000→∀(la:Option Addr)(lc:Nat)(w:World)(s:Nat×Nat)(k:Nat),s.1+f.nodes≤8000000→k+N≤8000000→RepL (· ≠ b) w (.slice la f.len lc) f→Cn w b s→
 Calls Tryz.prog 30 #[.pointer (some ⟨b,0,none⟩),.slice la f.len lc,.int .i64 ((k+1:Nat):Int)] w (Sm w b (B4 f k s)):=by
 intro N;induction N with
 |zero=>intro f hN;omega
 | succ N ih=>
   intro f hN hfn la lc w s k hs hkN hf hC;obtain⟨cs,hc1,hr1⟩:=hf;obtain⟨_,_,e,hle,hmx,_,hc1⟩:=hc1;cases e;have hmax:f.len≤maxLen:=by omega
   unfold maxLen at hmax;clear hle hmx;have HC:=O (Z hc1 ih);have HR:=O (Z hr1 hC);have hb:=Blk.lt hC;clear hc1 ih hr1 hC;generalize hT:B4 f k s=T;go_enter func30,ntmps30;go_wp2_with fail;go_loopg [6] f.len (fun g v6 wr=>∃rf:Fo,∃i:Nat,∃t:Nat×Nat,rf.len=g∧i+g=f.len∧v6= .int .i64 i∧t.1+rf.nodes≤8000000∧rf.nodes≤f.nodes∧B4 rf k t=T∧RepF (· ≠ b) w rf (cs.drop (i*7))∧Cn wr b t∧w.grownBy wr (some b))
   case atStart=>exact⟨f,0,s,rfl,by omega,rfl,hs,Nat.le_refl _,hT,by simpa using HR.out.1,HR.out.2,Ac _ _⟩
   case round=>
    obtain⟨rf,i,⟨n,m⟩,hn,hk,rfl,ht,hrn,hcnt,hrf,hCt,hgr⟩:=hrel;clear HR hT;cases rf with
    | nil=>
      have hkI:decide (i<f.len)=false:=by simp[Fo.len]at hn;simp;omega
      have HG:=O (Z hgr (Z hCt hcnt));clear hgr hn hrf hCt hcnt;go_wp2;go_end0;exact⟨rfl,HG.out.1,by rw[←HG.out.2.2];exact HG.out.2.1⟩
    | cons h1 k1 n1=>
      simp only[Fo.len]at hn;simp only[Fo.nodes]at ht hrn;subst hn;have hkI:decide (i<f.len)=true:=by simp;omega
      obtain⟨pa1,pc1,lb1,ld1,hp1,hl1,hx1,ha1⟩:=RepF.elem (n:=f.len) (lc:=lc) (f:=f) HC.out.1 hrf;have hkf:i+1≤f.len:=by omega
      have HA:=O (Rp hCt (k+1) (by omega));unfold B4 at hcnt;simp only at hcnt;have i0:(0:Int)≤(i:Int):=by omega
      have i1:(i:Int)<(f.len:Int):=by omega
      have i2:i<f.len:=by omega
      have HN:=O (Z hcnt (Z hx1 (Z hgr hl1)));obtain⟨g1,o1,rfl,hok1,_,z6⟩:∃g1 o1,la=some ⟨g1,o1,none⟩∧g1≠b∧True∧w.cell? ⟨g1,o1+(i*7+6),none⟩=some (.slice lb1 k1.len ld1):=by
       obtain⟨g,o,e,hg,hc⟩:=ha1 6 _ rfl;exact⟨g,o,e,hg,trivial,hc⟩
      have hgl:=World.block_lt_of_cell? w _ z6;clear hcnt hrf hp1 hl1 hx1 ha1 hCt hgr;go_wp2_with fail;refine HA.out.mono ?_;rintro e w2 ⟨rfl,g2,hC2⟩;have gW:=O (Aa HN.out.2.2.1 g2);cases hL:AW (n+1) (max m (k+1))with
      | true=>
        have HF:=O (Z hC2 (show(n+1,max m (k+1))=T by rw[←HN.out.1,hL];rfl));clear hL g2 hC2;go_wp2;go_end0;exact⟨rfl,gW.out,by rw[←HF.out.2];exact HF.out.1⟩
      | false=>
        have hF:=HN.out.1;rw[hL,if_neg (by simp)]at hF;have y6:w2.cell? ⟨g1,o1+(i*7+6),none⟩=some (.slice lb1 k1.len ld1):=Bz gW.out z6 (fun e=>hok1 (by cases e;rfl));have HE:=O (HC.out.2 k1 (by omega) (by omega) lb1 ld1 w2 (n+1,max m (k+1)) (k+1) (by simp only;omega) (by omega) (HN.out.2.2.2.gb gW.out (by intro q hq _ e;cases e;exact hq rfl)) hC2);have hle:=SW k1 (k+1) (n+1,max m (k+1));have HF:=O (Z hF hle);have hlt2:=Blk.lt hC2;have hgl2:=World.block_lt_of_cell? w2 _ y6;have hw1:IntKind.i64.wrap (((k+1:Nat):Int)+1)=((k+1+1:Nat):Int):=by rw[IntWalk.i64_in _ (by omega)];push_cast;rfl
        clear hL g2 hC2 hF hle z6;rw[show o1+(i*7+6)=o1+i*7+6 by omega]at y6;go_wp2_with fail;refine HE.out.mono ?_;rintro e w3 ⟨rfl,g3,hC3⟩;have HG:=O (Z (Aa gW.out g3) hC3);clear g3 hC3 y6;go_wp2;go_roundg n1.len
        case measure=>omega
        case rel=>exact⟨n1,i+1,_,rfl,by omega,by go_num,by have:=HF.out.2;omega,by omega,HF.out.1,HN.out.2.1,HG.out.2,HG.out.1⟩
def Ex.few(x:Ex):Prop:=nX x.h x.kids≤3999990∧kX x.h x.kids≤700000000000000
theorem s73{w W W1:World}(g5:W.grownBy W1 none){g q b:Nat}{v0 v1 v2 v3 v4 v5 v6 u0 u1 u2 u3 u4 u5 u6 t0 t1 t2:Value}
 (h:(W.cell? ⟨g,0,none⟩=some v0∧W.cell? ⟨g,1,none⟩=some v1∧W.cell? ⟨g,2,none⟩=some v2∧W.cell? ⟨g,3,none⟩=some v3∧W.cell? ⟨g,4,none⟩=some v4∧W.cell? ⟨g,5,none⟩=some v5∧W.cell? ⟨g,6,none⟩=some v6)∧
  (W.cell? ⟨q,0,none⟩=some u0∧W.cell? ⟨q,1,none⟩=some u1∧W.cell? ⟨q,2,none⟩=some u2∧W.cell? ⟨q,3,none⟩=some u3∧W.cell? ⟨q,4,none⟩=some u4∧W.cell? ⟨q,5,none⟩=some u5∧W.cell? ⟨q,6,none⟩=some u6)∧
  (W.cell? ⟨b,0,none⟩=some t0∧W.cell? ⟨b,1,none⟩=some t1∧W.cell? ⟨b,2,none⟩=some t2)∧w.grownBy W none):
 (W1.cell? ⟨g,0,none⟩=some v0∧W1.cell? ⟨g,1,none⟩=some v1∧W1.cell? ⟨g,2,none⟩=some v2∧W1.cell? ⟨g,3,none⟩=some v3∧W1.cell? ⟨g,4,none⟩=some v4∧W1.cell? ⟨g,5,none⟩=some v5∧W1.cell? ⟨g,6,none⟩=some v6)∧
  (W1.cell? ⟨q,0,none⟩=some u0∧W1.cell? ⟨q,1,none⟩=some u1∧W1.cell? ⟨q,2,none⟩=some u2∧W1.cell? ⟨q,3,none⟩=some u3∧W1.cell? ⟨q,4,none⟩=some u4∧W1.cell? ⟨q,5,none⟩=some u5∧W1.cell? ⟨q,6,none⟩=some u6)∧
  (W1.cell? ⟨b,0,none⟩=some t0∧W1.cell? ⟨b,1,none⟩=some t1∧W1.cell? ⟨b,2,none⟩=some t2)∧w.grownBy W1 none:=
 ⟨Ey g5 h.1,Ey g5 h.2.1,⟨Af g5 h.2.2.1.1,Af g5 h.2.2.1.2.1,Af g5 h.2.2.1.2.2⟩,Aa h.2.2.2 g5⟩
theorem FX{w:World}{v:Value}{x:Ex}{ok:Nat→Prop}(hx:VE ok w v x)(h1:x.h.fit)(h2:x.kids.fit)(hn:x.kids.nodes≤1000000)(hf:x.few):
 Calls Tryz.prog 19 #[v] w fun e w'=>e= .returned (.int .i64 (AL x))∧w.grownBy w' none:=by
 have HV:=O (show AL x=if AW x.nodes x.levels then 3 else if okX x then 0 else 1 from rfl);have hx':=hx;obtain⟨pa,pc,la,lc,rfl,hp,hl⟩:=hx';have HF:=O (Z h1 (Z h2 (Z hn hf)));have hb0:=Blk.new w (hdC x.h (.slice pa x.h.p.length pc) (.slice la x.kids.len lc)) 27;have ga:=World.grownBy_alloc w (.cells (hdC x.h (.slice pa x.h.p.length pc) (.slice la x.kids.len lc)).toArray 27 (0,0)) none;have gk1:=World.grownBy_alloc (w.alloc (.cells (hdC x.h (.slice pa x.h.p.length pc) (.slice la x.kids.len lc)).toArray 27 (0,0))) (.cells #[.int .i64 0,.int .i64 0] 66 (0,0)) none;have hCn:Cn ((w.alloc (.cells (hdC x.h (.slice pa x.h.p.length pc) (.slice la x.kids.len lc)).toArray 27 (0,0))).alloc (.cells #[.int .i64 0,.int .i64 0] 66 (0,0))) (w.heap.size+1) (0,0):=
  (Blk.new (w.alloc (.cells (hdC x.h (.slice pa x.h.p.length pc) (.slice la x.kids.len lc)).toArray 27 (0,0))) [.int .i64 0,.int .i64 0] 66).of_eq (by simp) rfl
 have gk2:=World.grownBy_alloc ((w.alloc (.cells (hdC x.h (.slice pa x.h.p.length pc) (.slice la x.kids.len lc)).toArray 27 (0,0))).alloc (.cells #[.int .i64 0,.int .i64 0] 66 (0,0))) (.cells (hdC x.h (.slice pa x.h.p.length pc) (.slice la x.kids.len lc)).toArray 27 (0,0)) none;have gAll:=Aa (Aa ga gk1) gk2;have hrow:RepL (· ≠ w.heap.size+1) (((w.alloc (.cells (hdC x.h (.slice pa x.h.p.length pc) (.slice la x.kids.len lc)).toArray 27 (0,0))).alloc (.cells #[.int .i64 0,.int .i64 0] 66 (0,0))).alloc (.cells (hdC x.h (.slice pa x.h.p.length pc) (.slice la x.kids.len lc)).toArray 27 (0,0))) (.slice (some ⟨w.heap.size+1+1,0,none⟩) 1 1) (.one x):=
  RepL.one (x:=x) (by simp) (by simp) ((hp.mono (fun q _ hq=>by omega)).gb (Aa ga gk1) (by simp)) ((hl.mono (fun q _ hq=>by omega)).gb (Aa ga gk1) (by simp))
 have hno:(Fo.one x).nodes=x.nodes:=Fo.nodes_one x;have hxn:x.nodes≤1000001:=by
  have:x.nodes=1+x.kids.nodes:=rfl;omega
 have HE:=O (P3 (w.heap.size+1) (x.nodes+1) (.one x) (by omega) (by omega) (some ⟨w.heap.size+1+1,0,none⟩) 1 _ (0,0) 0 (by simp only;omega) (by omega) hrow (hCn.gb gk2 (by simp)));have HB:=O (Z ((hb0.gb gk1 (by simp)).gb gk2 (by simp)) gAll);have HX:=O hx;have hb1:=hb0;obtain⟨x_0,x_1,x_2,x_3,x_4,x_5,x_6,x_f⟩:=(hb1).c7;clear hx h1 h2 hn hf hp hl hb0 hb1 ga gk1 gk2 gAll hCn hrow hno hxn;go_enter func19,ntmps19;go_wp2_with fail;refine HE.out.mono ?_;rintro e w4 ⟨rfl,g4,h4⟩;have hb4:=HB.out.1.gb g4 (by simp);have G4:=O (A9 HB.out.2 g4 (.inr (by omega)));clear x_0 x_1 x_2 x_3 x_4 x_5 x_6 x_f HE HB;go_wp2_with fail;refine(Iz (n:=(B4 (.one x) 0 (0,0)).1) (m:=(B4 (.one x) 0 (0,0)).2) h4).mono ?_;rintro e w5 ⟨rfl,g5⟩;rw[Rt];have hb5:=hb4.gb g5 (by simp);have G5:=O (Ag G4.out g5);clear hb4 G4 g4 h4 g5;cases hLL:AW x.nodes x.levels with
 | true=>
   have HR:=O (show AL x=3 by rw[HV.out,hLL];rfl);clear hLL HV hb5;go_wp2;go_ret;exact⟨by rw[HR.out];rfl,G5.out⟩
 | false=>
   have HV2:=O (show AL x=if okX x then 0 else 1 by rw[HV.out,hLL];rfl);clear hLL HV;have hE5:=hb5;have hltB:=hb5.lt;obtain⟨x_0,x_1,x_2,x_3,x_4,x_5,x_6,x_f⟩:=(hE5).c7;clear hE5;have HB5:=O hb5;have hX5:=HX.out.gb G5.out (by simp);clear hb5;obtain⟨pa',pc',la',lc',e',hp5,hl5⟩:=hX5;cases e';have gv9:=World.grownBy_alloc w5 (.cells #[str [],.slice none 0 0,.bool false] 81 (0,0)) none;have hW:Ww (w5.alloc (.cells #[str [],.slice none 0 0,.bool false] 81 (0,0))) w5.heap.size [] [] false (.slice none 0 0):=⟨Blk.new w5 [str [],.slice none 0 0,.bool false] _,World.ownsRow_nil _ _ _ _⟩;have HW:=O (Jw hW ((hp5.mono (ok':=fun q=>q<w5.heap.size) (fun q _ hq=>hq)).gb gv9 (by simp)) ((hl5.mono (ok':=fun q=>q<w5.heap.size) (fun q _ hq=>hq)).gb gv9 (by simp)) HF.out.1 HF.out.2.1 (by have:=HF.out.2.2.2.1;simp only[List.length_nil];omega) (by have:=HF.out.2.2.2.2;simp only[List.length_nil];omega));have HG:=O (Z gv9 (HB5.out.gb gv9 (by simp)));clear hp5 hl5 gv9 hW;go_wp2_with fail;refine HW.out.mono ?_;rintro e w6 ⟨rfl,o1,p1,r1,v1,h6,k6,q6⟩;have hl6:=k6.size;have G6:=O (k6.gb_of (Aa G5.out HG.out.1) (Nat.le_trans G5.out.size (Nat.le_refl _)) (fun k e=>by cases e));have hb6:=k6.blk HG.out.2 (by have:=HB5.out.lt;omega) (fun e=>by cases e);have hok6:=q6.ok;have hd2:=h6.c2;have hf2:=h6.fr 2;have hlt6:=h6.lt;clear x_0 x_1 x_2 x_3 x_4 x_5 x_6 x_f HW;cases hm:exW wdM x with
   | none=>
     have hr:r1=true:=by
      have e:AC wdM x.h (Ao wdM x.kids)=none:=hm;rw[e]at hok6;exact hok6
     subst hr;have HR:=O (show AL x=1 by rw[HV2.out,Rh hm];rfl);clear hm HV2 hok6 k6 q6 h6 hb6;go_wp2;go_ret;exact⟨by rw[HR.out];rfl,G6.out⟩
   | some ts=>
     obtain⟨t,s⟩:=ts;have e:AC wdM x.h (Ao wdM x.kids)=some (t,s):=hm;rw[e]at hok6;obtain⟨e1,_,e3⟩:=hok6;simp only[List.nil_append]at e1;subst e3;subst e1;have hnp:=q6.np;have hT:=In h6.row;have hd1:=h6.c1;obtain⟨ta,tc,rfl,_⟩:=id hT;obtain⟨y,st,hy,hst⟩:=rexp (NV hm);have gr:=World.grownBy_alloc w6 (.cells #[.slice ta p1.length tc,.int .i64 0,.bool false,.slice none 0 0] 85 (0,0)) none;have hR:Rr (w6.alloc (.cells #[.slice ta p1.length tc,.int .i64 0,.bool false,.slice none 0 0] 85 (0,0))) w6.heap.size (.slice ta p1.length tc) p1 (0,false):=
      ⟨Blk.new w6 [.slice ta p1.length tc,.int .i64 0,.bool false,.slice none 0 0] _,(hT.mono (fun q _ hq=>hq)).gb gr (by simp),Nat.zero_le _,by have:=HF.out.2.2.2.1;simp only[List.length_nil]at hnp;omega⟩
     have HC:=O (Nj (PG hm) (p1.length+2) (by have:=HF.out.2.2.2.1;simp only[List.length_nil]at hnp;omega) _ _ _ hR hy);have HM:=O (Z hm hst);have HB6:=O (Z (hb6.gb gr (by simp)) (Aa G6.out gr));clear hm hst hT hy gr hR k6 q6 h6 hb6 hnp e;go_wp2_with fail;refine HC.out.mono ?_;rintro e w7 ⟨g7,v,rfl,⟨pa2,pc2,la2,lc2,rfl,rp,rl⟩,hR2⟩;simp only at rp rl hR2 ⊢;obtain⟨i,f⟩:=st;have c0:=hR2.c0;have c1:=hR2.c1;have c2:=hR2.c2;have hb7:=hR2.lt;have hx7:=HB6.out.1.gb g7 (by simp;have:=HB5.out.lt;omega);have G7:=O (A9 HB6.out.2 g7 (.inr (Nat.le_trans G6.out.size (Nat.le_refl _))));have HM2:=HM.out;simp only at HM2 c1 c2;cases f with
     | true=>
       have HR:=O (show AL x=1 by
        rcases HM2.2 with⟨h,_⟩| ⟨_,k,hk⟩
        ·cases h
        ·rw[HV2.out,SB HM2.1 hk];rfl)
       clear HM2 HM HC HX rp rl hR2 g7 hx7 HB6 HV2;have g77:=G7.out;go_wp2;go_region;go_wp2;go_ret;exact⟨by rw[HR.out];rfl,(by repeat(first| (with_reducible exact Ac _ _)| (with_reducible assumption)| (with_reducible exact AX (by assumption))| (with_reducible refine Ad ?_ _)| (with_reducible refine Am ?_)| (with_reducible refine Ay ?_ _)| ((with_reducible refine Az ?_ _ _ ?h2);case h2=>first|exact .inl rfl|exact .inr (Nat.le_refl _)|exact .inr (by simp<;>omega))| (with_reducible refine Ag ?_ (by assumption))| (with_reducible refine Aa ?_ (by assumption))))⟩
     | false=>
       have hk:AB p1 AO (p1.length+2) 0= .ok y i:=by
        rcases HM2.2 with⟨_,h⟩| ⟨h,_⟩
        ·exact h
        ·cases h
       by_cases hi:i<p1.length
       ·have hi1:decide (i<p1.length)=true:=by simpa using hi
        have HR:=O (show AL x=1 by rw[HV2.out,Ks HM2.1 hk,hi1];rfl);clear HM2 HM HC HX rp rl hR2 g7 hx7 HB6 HV2 hk;have g77:=G7.out;go_wp2;go_region;go_wp2;go_ret;exact⟨by rw[HR.out];rfl,(by repeat(first| (with_reducible exact Ac _ _)| (with_reducible assumption)| (with_reducible exact AX (by assumption))| (with_reducible refine Ad ?_ _)| (with_reducible refine Am ?_)| (with_reducible refine Ay ?_ _)| ((with_reducible refine Az ?_ _ _ ?h2);case h2=>first|exact .inl rfl|exact .inr (Nat.le_refl _)|exact .inr (by simp<;>omega))| (with_reducible refine Ag ?_ (by assumption))| (with_reducible refine Aa ?_ (by assumption))))⟩
       ·have hi1:decide (i<p1.length)=false:=by simpa using hi
        have HR:=O (show AL x=if Dr x y then 0 else 1 by rw[HV2.out,Ks HM2.1 hk,hi1];rfl);have gY:=World.grownBy_alloc w7 (.cells (hdC y.h (.slice pa2 y.h.p.length pc2) (.slice la2 y.kids.len lc2)).toArray 27 (0,0)) none;have hY:=Blk.new w7 (hdC y.h (.slice pa2 y.h.p.length pc2) (.slice la2 y.kids.len lc2)) 27;have hX8:=hx7.gb gY (by simp);have e0:=Af gY c0;have e1':=Af gY c1;have e2':=Af gY c2;have HS:=O (fun(W:World)(g:w7.grownBy W none)=>Ij (HX.out.gb (Aa G7.out g) (by simp)) ((show VE _ w7 (exV y.h (.slice pa2 y.h.p.length pc2) (.slice la2 y.kids.len lc2)) y from⟨pa2,pc2,la2,lc2,rfl,rp,rl⟩).gb g (by simp)))
        have HQ:=O (show(fun W=>(W.cell? ⟨w.heap.size,0,none⟩=some (.int .i64 x.h.op)∧W.cell? ⟨w.heap.size,1,none⟩=some (str x.h.s)∧W.cell? ⟨w.heap.size,2,none⟩=some (.int .i64 x.h.vk)∧W.cell? ⟨w.heap.size,3,none⟩=some (.int .i64 x.h.vn)∧W.cell? ⟨w.heap.size,4,none⟩=some (str x.h.vs)∧W.cell? ⟨w.heap.size,5,none⟩=some ((.slice pa x.h.p.length pc))∧W.cell? ⟨w.heap.size,6,none⟩=some ((.slice la x.kids.len lc)))∧(W.cell? ⟨w7.heap.size,0,none⟩=some (.int .i64 y.h.op)∧W.cell? ⟨w7.heap.size,1,none⟩=some (str y.h.s)∧W.cell? ⟨w7.heap.size,2,none⟩=some (.int .i64 y.h.vk)∧W.cell? ⟨w7.heap.size,3,none⟩=some (.int .i64 y.h.vn)∧W.cell? ⟨w7.heap.size,4,none⟩=some (str y.h.vs)∧W.cell? ⟨w7.heap.size,5,none⟩=some ((.slice pa2 y.h.p.length pc2))∧W.cell? ⟨w7.heap.size,6,none⟩=some ((.slice la2 y.kids.len lc2)))∧(W.cell? ⟨w6.heap.size,0,none⟩=some (.slice ta p1.length tc)∧W.cell? ⟨w6.heap.size,1,none⟩=some (.int .i64 i)∧W.cell? ⟨w6.heap.size,2,none⟩=some (.bool false))∧w7.grownBy W none) ((w7.alloc (.cells (hdC y.h (.slice pa2 y.h.p.length pc2) (.slice la2 y.kids.len lc2)).toArray 27 (0,0))).drew)from
         ⟨⟨hX8.cell 0,hX8.cell 1,hX8.cell 2,hX8.cell 3,hX8.cell 4,hX8.cell 5,hX8.cell 6⟩,⟨hY.cell 0,hY.cell 1,hY.cell 2,hY.cell 3,hY.cell 4,hY.cell 5,hY.cell 6⟩,⟨e0,e1',e2'⟩,Am gY⟩)
        clear HM2 HM HC hR2 g7 HB6 HV2 hk hi gY hY hX8 e0 e1' e2' rp rl HX hx7;have hi2:(p1.length:Int)≤(i:Int):=by simpa using hi1
        go_wp2_with fail;go_region_held3 (fun W=>(W.cell? ⟨w.heap.size,0,none⟩=some (.int .i64 x.h.op)∧W.cell? ⟨w.heap.size,1,none⟩=some (str x.h.s)∧W.cell? ⟨w.heap.size,2,none⟩=some (.int .i64 x.h.vk)∧W.cell? ⟨w.heap.size,3,none⟩=some (.int .i64 x.h.vn)∧W.cell? ⟨w.heap.size,4,none⟩=some (str x.h.vs)∧W.cell? ⟨w.heap.size,5,none⟩=some ((.slice pa x.h.p.length pc))∧W.cell? ⟨w.heap.size,6,none⟩=some ((.slice la x.kids.len lc)))∧(W.cell? ⟨w7.heap.size,0,none⟩=some (.int .i64 y.h.op)∧W.cell? ⟨w7.heap.size,1,none⟩=some (str y.h.s)∧W.cell? ⟨w7.heap.size,2,none⟩=some (.int .i64 y.h.vk)∧W.cell? ⟨w7.heap.size,3,none⟩=some (.int .i64 y.h.vn)∧W.cell? ⟨w7.heap.size,4,none⟩=some (str y.h.vs)∧W.cell? ⟨w7.heap.size,5,none⟩=some ((.slice pa2 y.h.p.length pc2))∧W.cell? ⟨w7.heap.size,6,none⟩=some ((.slice la2 y.kids.len lc2)))∧(W.cell? ⟨w6.heap.size,0,none⟩=some (.slice ta p1.length tc)∧W.cell? ⟨w6.heap.size,1,none⟩=some (.int .i64 i)∧W.cell? ⟨w6.heap.size,2,none⟩=some (.bool false))∧w7.grownBy W none)
         (first|exact HQ.out|exact s73 g5 (by assumption))
         (first| (go_at_call 11;(with_reducible refine(HS.out _ ?_).mono ?_);(simp[*]);rintro e w9 ⟨rfl,g5⟩))
        rename_i hH;have HG:=O hH.2.2.2;clear hH;cases hss:Dr x y with
        | true=>
          have HR2:=O (show AL x=0 by rw[HR.out,hss];rfl);clear HR;go_wp2;go_ret;exact⟨by rw[HR2.out];rfl,Aa G7.out HG.out⟩
        | false=>
          have HR2:=O (show AL x=1 by rw[HR.out,hss];rfl);clear HR;go_wp2;go_ret;exact⟨by rw[HR2.out];rfl,Aa G7.out HG.out⟩
end Go.Proofs.YtgjdhajcnechdaaGreatDoor
