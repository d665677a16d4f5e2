/-
  Code: its lines, the program's: the walk.
-/
import Derived.Test.YtahbajmkhjngiaaGreatDoorSx24
set_option linter.all false
set_option maxRecDepth 100000
set_option maxHeartbeats 8000000
namespace Go.Proofs.YtahbajmkhjngiaaGreatDoor
open Go.Proofs.Tryz
open Go.RowKit
theorem Bg:33≠5:=by decide
theorem Cg{w0 W W1:World}{H:Nat}{c:Cd}(h:(W.cell? ⟨H,0,none⟩=some (.int .i64 c.op)∧W.cell? ⟨H,1,none⟩=some (.int .i64 c.a)∧W.cell? ⟨H,2,none⟩=some (.int .i64 c.b)∧W.cell? ⟨H,3,none⟩=some (str c.s))∧w0.grownBy W none)(g:W.grownBy W1 none):
 (W1.cell? ⟨H,0,none⟩=some (.int .i64 c.op)∧W1.cell? ⟨H,1,none⟩=some (.int .i64 c.a)∧W1.cell? ⟨H,2,none⟩=some (.int .i64 c.b)∧W1.cell? ⟨H,3,none⟩=some (str c.s))∧w0.grownBy W1 none:=
 ⟨⟨J g h.1.1,J g h.1.2.1,J g h.1.2.2.1,J g h.1.2.2.2⟩,M h.2 g⟩
theorem AP{W W1:World}{b H i:Nat}{v x:Value}(f:FR W W1 b v)(c:W.cell? ⟨H,i,none⟩=some x)(hb:H≠b)(hv:v.ownBlock≠some H):W1.cell? ⟨H,i,none⟩=some x:=
 (World.cell?_of_block (f.block H (World.block_lt_of_cell? W _ c) hb hv)).trans c
theorem Cf{w0 W W1:World}{H b:Nat}{c:Cd}{v:Value}(h:(W.cell? ⟨H,0,none⟩=some (.int .i64 c.op)∧W.cell? ⟨H,1,none⟩=some (.int .i64 c.a)∧W.cell? ⟨H,2,none⟩=some (.int .i64 c.b)∧W.cell? ⟨H,3,none⟩=some (str c.s))∧w0.grownBy W none)(f:FR W W1 b v)(hb:H≠b)(hv:v.ownBlock≠some H)(ho:∀k,v.ownBlock=some k→b<k)(h0:w0.heap.size≤b):
 (W1.cell? ⟨H,0,none⟩=some (.int .i64 c.op)∧W1.cell? ⟨H,1,none⟩=some (.int .i64 c.a)∧W1.cell? ⟨H,2,none⟩=some (.int .i64 c.b)∧W1.cell? ⟨H,3,none⟩=some (str c.s))∧w0.grownBy W1 none:=
 ⟨⟨AP f h.1.1 hb hv,AP f h.1.2.1 hb hv,AP f h.1.2.2.1 hb hv,AP f h.1.2.2.2 hb hv⟩,f.below ho h0 rfl h.2⟩
theorem Br{w0 W:World}{A:Prop}{n:Int}(h:A∧w0.grownBy W none)(hp:Pow w0)(hn:A0 n):Calls Tryz.prog 37 #[.int .i64 n] W fun e w'=>e= .returned (str (Lib.itoa n))∧W.grownBy w' none:=AV (hp.gb h.2) n hn.1 hn.2
theorem Cp{w:World}{v:Value}{us:List Un}{ok:Nat→Prop}(h:VU ok w v us)(hb:Z us≤100000000)(hw:A3 us)(hp:Pow w):
 Calls Tryz.prog 26 #[v] w fun e w'=>e= .returned (str (Au us))∧w.grownBy w' none:=by
 obtain⟨a,cap,rfl,hle,hmx,hat⟩:=h.open;have hlen:us.length≤100000000:=by unfold Z at hb;omega
 have HA:=D hat;have HP:=D (I hp (I hw hb));have H0:=D (I (Bld.new w) (World.grownBy_alloc w (.cells [.pointer none,.slice none 0 0].toArray 61 (0,0)) none));clear hat hle hmx h hw hb hp;go_enter func26,ntmps26;go_wp2_with fail;go_loopg [5,7,9,12] us.length (fun g v5 v7 v9 v12 wr=>∃k:Nat,∃p v:Value,k+g=us.length∧v12= .int .i64 k∧Bld wr w.heap.size p v (S Ac us k)∧w.grownBy wr none)
 case atStart=>exact⟨0,_,_,by omega,rfl,H0.out.1,H0.out.2⟩
 case round=>
  obtain⟨k,p,v,hk,rfl,hB,hG⟩:=hrel;clear H0;cases gk with
  | zero=>
    have hkl:k=us.length:=by omega
    have hj1:decide (k<us.length)=false:=by simp;omega
    subst hkl;have HB:=D (I hB hG);clear hB hG;go_wp2_with fail;refine(CD HB.out.1).mono ?_;rintro e w3 ⟨rfl,g3⟩;have HD:=D (g3 _ HB.out.2 (Nat.le_refl _));clear g3;go_wp2;go_ret;exact⟨rfl,HD.out⟩
  | succ gk=>
    have hkl:k<us.length:=by omega
    have hj1:decide (k<us.length)=true:=by simp;omega
    obtain⟨u,hu⟩:∃u,us[k]? =some u:=⟨_,X hkl⟩;obtain⟨g,o,ra,rc,ca,cc,rfl,_,hgl,c0,c1,c2,hrow,hcode⟩:=HA.out k u hu;have d0:=J hG c0;have d1:=J hG c1;have d2:=J hG c2;have hL:=AW HP.out.2.1 k (by omega);have hbb:=HP.out.2.2;have hwu:=HP.out.2.1 u (AA hu);have huw:=Bb hu;have hwd:wtU u=u.name.length+u.row.length+pfx wtC u.code u.code.length:=rfl;have hnl:u.name.length≤100000000:=by omega
    have hrl:u.row.length≤100000000:=by omega
    have hql:=AE u.name;have hql2:(qtM u.name).length≤300000002:=by omega
    have hcl1:¬(9223372036854775807<5+(qtM u.name).length):=by omega
    have hcdl:u.code.length≤100000000:=by
     have h4:=An wtC u.code (Nat.le_refl u.code.length);have h5:∀j,j≤u.code.length→j≤pfx wtC u.code j:=by
      intro j;induction j with
      |zero=>intro _;exact Nat.zero_le _
      |succ j ih=>intro hj;rw[Aj (X hj)];have:=ih (by omega);have h6:wtC u.code[j]=3+u.code[j].s.length:=rfl;omega
     have:=h5 _ (Nat.le_refl _);omega
    have HL:=D (I hL (I hbb (I hwu (I huw hwd))));clear hL hbb hwu huw hwd hql c0 c1 c2;have gA:w.grownBy (wr.alloc (.cells [str u.name,.slice ra u.row.length rc,.slice ca u.code.length cc].toArray 33 (0,0))) none:=Y hG _;have HX:=D (I (Blk.new wr [str u.name,.slice ra u.row.length rc,.slice ca u.code.length cc] 33) (I gA (I (hB.gbN (World.grownBy_alloc wr (.cells [str u.name,.slice ra u.row.length rc,.slice ca u.code.length cc].toArray 33 (0,0)) none)) (I hrow hcode))));have hgs:=hB.lt;have HU:=D hu;clear hB hG gA hrow hcode;go_wp2_with fail;refine(BL u.name (by omega) _).mono ?_;rintro e w2 ⟨rfl,g2⟩;have HY:=D (I (HX.out.1.gb g2 (by simp)) (I (M HX.out.2.1 g2) (HX.out.2.2.1.gbN g2)));clear g2;go_wp2_with fail;refine(AZ HY.out.2.2 (Ai u) ?_).mono ?_
    ·have:=HL.out.1;have:=HL.out.2.1;simp only[Ai,List.length_append,List.length_cons,List.length_nil];omega
    rintro e w3 ⟨rfl,p3,v3,hB3,hF3⟩;obtain⟨hX3,hG3⟩:=HY.out.2.2.stepB hF3 HY.out.1 Bg (by omega) HY.out.2.1 (Nat.le_refl _);have e1:=hX3.cell 1;have HZ:=D (I hB3 (I hX3 hG3));clear hB3 hF3 hX3 hG3;simp only[List.getElem?_cons_zero,List.getElem?_cons_succ]at e1;have HR:=D (I HX.out.2.2.2.1 HX.out.2.2.2.2);go_wp2_with fail;go_loopg [7,24] u.row.length (fun g v7 v24 w2=>∃j:Nat,∃p v:Value,j+g=u.row.length∧v24= .int .i64 j∧Bld w2 w.heap.size p v (S Ac us k++Ai u++S Ab u.row j)∧Blk w2 wr.heap.size [str u.name,.slice ra u.row.length rc,.slice ca u.code.length cc] 33∧w.grownBy w2 none)
    case atStart=>exact⟨0,_,_,by omega,rfl,by simpa[S]using HZ.out.1,HZ.out.2.1,HZ.out.2.2⟩
    case round=>
     obtain⟨j,p4,v4,hj,rfl,hB4,hX4,hG4⟩:=hrel;clear HY HZ HX;by_cases hjl:j<u.row.length
     ·have hjI:decide (j<u.row.length)=true:=by simpa using hjl
      obtain⟨x,hx⟩:∃x,u.row[j]? =some x:=⟨_,X hjl⟩;obtain⟨gr,orr,rfl,_,_,t0⟩:=HR.out.1.int hx;have f0:=J hG4 t0;have hx64:=HL.out.2.2.1.1 x (AA hx);have hi21:=As hx64;have hcl2:¬(9223372036854775807<1+(Lib.itoa x).length):=by omega
      have HJ:=D (I hB4 (I hX4 (I hG4 (I hx64 (AH (f:=Ab) hx)))));clear t0 hB4 hX4 hG4 hx64;go_wp2_with fail;refine(AV (HP.out.1.gb HJ.out.2.2.1) x HJ.out.2.2.2.1.1 HJ.out.2.2.2.1.2).mono ?_;rintro e w5 ⟨rfl,g5⟩;have HK:=D (I (HJ.out.1.gbN g5) (I (HJ.out.2.1.gb g5 (by simp)) (M HJ.out.2.2.1 g5)));clear g5;go_wp2_with fail;refine(AZ HK.out.1 (Ab x) ?_).mono ?_
      ·have h1:=HL.out.1;have h2:=HL.out.2.1;have h3:=A4 HL.out.2.2.1 j (by omega);have h4:=Aw u;simp only[Ab,List.length_append,List.length_cons];omega
      rintro e w6 ⟨rfl,p6,v6,hB6,hF6⟩;obtain⟨hX6,hG6⟩:=HK.out.1.stepB hF6 HK.out.2.1 Bg (by omega) HK.out.2.2 (Nat.le_refl _);have HM:=D (I hB6 (I hX6 hG6));clear hB6 hF6 hX6 hG6;go_wp2;go_roundg (u.row.length-(j+1))
      case measure=>omega
      case rel=>exact⟨j+1,p6,v6,by omega,by go_num,by rw[HJ.out.2.2.2.2,←List.append_assoc];exact HM.out.1,HM.out.2.1,HM.out.2.2⟩
     ·have hjI:decide (j<u.row.length)=false:=by simpa using hjl
      have hje:j=u.row.length:=by omega
      subst hje;have HJ:=D (I hB4 (I hX4 hG4));clear hB4 hX4 hG4;go_wp2_with fail;refine(Ba HJ.out.1 ?_ 10).mono ?_
      ·have h1:=HL.out.1;have h2:=HL.out.2.1;have h3:=A4 HL.out.2.2.1 u.row.length (Nat.le_refl _);have h4:=Aw u;simp only[List.length_append];omega
      rintro e w5 ⟨rfl,p5,v5,hB5,hF5⟩;obtain⟨hX5,hG5⟩:=HJ.out.1.stepB hF5 HJ.out.2.1 Bg (by omega) HJ.out.2.2 (Nat.le_refl _);have e2:=hX5.cell 2;simp only[List.getElem?_cons_zero,List.getElem?_cons_succ]at e2;have HK:=D (I hB5 hG5);clear hB5 hF5 hX5 hG5;go_wp2_with fail;go_loopg [9,37] u.code.length (fun g v9 v37 w3=>∃i:Nat,∃p v:Value,i+g=u.code.length∧v37= .int .i64 i∧Bld w3 w.heap.size p v (S Ac us k++Ai u++S Ab u.row u.row.length++[10]++S Ao u.code i)∧w.grownBy w3 none)
      case atStart=>exact⟨0,_,_,by omega,rfl,by simpa[S]using HK.out.1,HK.out.2⟩
      case round=>
       obtain⟨i,p6,v6,hi,rfl,hB6,hG6⟩:=hrel;clear HK HJ;by_cases hil:i<u.code.length
       ·have hiI:decide (i<u.code.length)=true:=by simpa using hil
        obtain⟨c,hc⟩:∃c,u.code[i]? =some c:=⟨_,X hil⟩;obtain⟨gc,oc,rfl,_,_,t0,t1,t2,t3⟩:=HR.out.2.cd hc;have f0:=J hG6 t0;have f1:=J hG6 t1;have f2:=J hG6 t2;have f3:=J hG6 t3;have hwc:=HL.out.2.2.1.2 c (AA hc);have ho1:=As hwc.1;have ho2:=As hwc.2.1;have ho3:=As hwc.2.2;have hcw:=Bz hc;have hcw2:wtC c=3+c.s.length:=rfl;have hsl:c.s.length≤100000000:=by have h1:=HL.out.2.1;have h2:=HL.out.2.2.2.1;omega
        have hq1:=AE c.s;have hcl2:¬(9223372036854775807<(Lib.itoa c.op).length+1):=by omega
        have hcl3:¬(9223372036854775807<(Lib.itoa c.op).length+1+(Lib.itoa c.a).length):=by omega
        have hcl4:¬(9223372036854775807<(Lib.itoa c.op).length+1+(Lib.itoa c.a).length+1):=by omega
        have hcl5:¬(9223372036854775807<(Lib.itoa c.op).length+1+(Lib.itoa c.a).length+1+(Lib.itoa c.b).length):=by omega
        have hcl6:¬(9223372036854775807<(Lib.itoa c.op).length+1+(Lib.itoa c.a).length+1+(Lib.itoa c.b).length+1):=by omega
        have hcl7:¬(9223372036854775807<(Lib.itoa c.op).length+1+(Lib.itoa c.a).length+1+(Lib.itoa c.b).length+1+(qtM c.s).length):=by omega
        have hcl8:¬(9223372036854775807<(Lib.itoa c.op).length+1+(Lib.itoa c.a).length+1+(Lib.itoa c.b).length+1+(qtM c.s).length+1):=by omega
        have HT:=D (show(S Ac us k++Ai u++S Ab u.row u.row.length++[10]++S Ao u.code i).length+(Ao c).length≤100000000000 from by
         have h1:=HL.out.1;have h2:=HL.out.2.1;have h3:=A4 HL.out.2.2.1 u.row.length (Nat.le_refl _);have h4:=Aw u;have h5:=Bq HL.out.2.2.1 i (by omega);have h6:=Bp hwc;have h7:=HL.out.2.2.2.1;have h8:=HL.out.2.2.2.2;simp only[List.length_append,List.length_cons,List.length_nil];omega)
        have hlt:=hB6.lt;have b4:=Blk.new wr (cdC c) 35;have gA:wr.grownBy (wr.alloc (.cells (cdC c).toArray 35 (0,0))).drew none:=Ae (World.grownBy_alloc _ _ none);have HX:=D (show(fun W=>(W.cell? ⟨wr.heap.size,0,none⟩=some (.int .i64 c.op)∧W.cell? ⟨wr.heap.size,1,none⟩=some (.int .i64 c.a)∧W.cell? ⟨wr.heap.size,2,none⟩=some (.int .i64 c.b)∧W.cell? ⟨wr.heap.size,3,none⟩=some (str c.s))∧w.grownBy W none) (wr.alloc (.cells (cdC c).toArray 35 (0,0))).drew from⟨⟨b4.cell 0,b4.cell 1,b4.cell 2,b4.cell 3⟩,M hG6 gA⟩);have HB:=D (I hB6 (I gA (I (AH (f:=Ao) hc) (show v6.ownBlock≠some wr.heap.size from fun e=>by have:=(hB6.own _ e).2;omega))));have HW:=D hwc;clear hB6 hG6 b4 gA hwc ho1 ho2 ho3 hcw hcw2 hq1 hql2 hcl1;go_wp2_with fail;go_region_held3 (fun W=>(W.cell? ⟨wr.heap.size,0,none⟩=some (.int .i64 c.op)∧W.cell? ⟨wr.heap.size,1,none⟩=some (.int .i64 c.a)∧W.cell? ⟨wr.heap.size,2,none⟩=some (.int .i64 c.b)∧W.cell? ⟨wr.heap.size,3,none⟩=some (str c.s))∧w.grownBy W none)
         (first|exact HX.out|exact Cg (by assumption) g5|exact Cf (by assumption) hF5 (by omega) HB.out.2.2.2 (fun q e=>(HB.out.1.own q e).1) (Nat.le_refl _))
         (first| (go_at_call 37;refine(Br (by assumption) HP.out.1 HW.out.1).mono ?_;rintro e w5 ⟨rfl,g5⟩)| (go_at_call 37;refine(Br (by assumption) HP.out.1 HW.out.2.1).mono ?_;rintro e w5 ⟨rfl,g5⟩)| (go_at_call 37;refine(Br (by assumption) HP.out.1 HW.out.2.2).mono ?_;rintro e w5 ⟨rfl,g5⟩)| (go_at_call 36;refine(BL c.s (by omega) _).mono ?_;rintro e w5 ⟨rfl,g5⟩)| (go_at_call 35;refine(AZ (HB.out.1.gbN (by repeat(first|exact HB.out.2.1| (refine M ?_ (by assumption))))) (Ao c) HT.out).mono ?_;rintro e w5 ⟨rfl,p5,v5,hB5,hF5⟩))
        rename_i hH;have HM:=D (I hB5 hH.2);clear hB5 hF5 hH;go_wp2;go_roundg (u.code.length-(i+1))
        case measure=>omega
        case rel=>exact⟨i+1,p5,v5,by omega,by go_num,by rw[HB.out.2.2.1,←List.append_assoc];exact HM.out.1,HM.out.2⟩
       ·have hiI:decide (i<u.code.length)=false:=by simpa using hil
        have hie:i=u.code.length:=by omega
        subst hie;have HJ:=D (I hB6 hG6);clear hB6 hG6;go_wp2;go_roundg (us.length-(k+1))
        case measure=>omega
        case rel=>exact⟨k+1,_,_,by omega,by go_num,by rw[AH HU.out];simpa[Ac,List.append_assoc]using HJ.out.1,HJ.out.2⟩
end Go.Proofs.YtahbajmkhjngiaaGreatDoor
