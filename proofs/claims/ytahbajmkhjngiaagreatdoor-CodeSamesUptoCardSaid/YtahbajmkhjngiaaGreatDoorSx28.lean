/-
  Code: its lines, the reference's.
-/
import Derived.Test.YtahbajmkhjngiaaGreatDoorSx24
import Derived.Test.YtahbajmkhjngiaaGreatDoorSx19
import Derived.Lib.AppendStr
set_option linter.all false
set_option maxRecDepth 100000
set_option maxHeartbeats 8000000
namespace Go.Proofs.YtahbajmkhjngiaaGreatDoor
open Go.Proofs.Tryz
open Go.RowKit
section
variable {P:Program}{w:World}
theorem Dh{ops:Array Oper}{o:Oper}{a:Act}{K:Act→World→Prop}{Q:Exit→Act→World→Prop}{E:Prop}(hgd:o.guard=none)(sl x:Operand)(t u:TypeId)
 (ho:o.op= .call {callee:= .builtin .append,args:=#[sl,x],argTypes:=#[t,u]})
 (base:Nat) (e:TypeId) (i:TypeInfo) (ht:P.underlying t=some (.slice e)) (hu:P.underlying u=some .string) (hi:P.info? e=some i) (hz:i.zero=some (.int .u8 0))
 (hsize:i.size=1) (hby:i.bytes=1)
 (v:Value) (n:Nat) (xs:List Value) (hs:a.eval sl=v) (hown:w.ownsRow base e 1 v n xs) (s:ByteArray) (hx:a.eval x= .string s)
 (h63:n+s.size≤maxLen) (hbytes:n+s.size≤140737488355328) (hbase:base≤w.heap.size)
 (h:∀v' w',w'.ownsRow base e 1 v' (n+s.size) (xs++Lib.strCells s)→w.grownBy w' v.ownBlock→K (a.put o.dst v') w'):
 if Region.wanted o (yielded ops a.tmps)=true then Oper.wp P o a w K Q else E:=by
 have hw:Region.wanted o (yielded ops a.tmps)=true:=by simp[Region.wanted,hgd]
 rw[if_pos hw];obtain⟨v',w',hr,h2,h3,_⟩:=Lib.run_append_own_string (P:=P) w base t u o.type e i ht hu hi hz hsize hby v n xs hown s h63 hbytes hbase;unfold Oper.wp execOp;simp only[ho,resolve,invoke,builtin,Sem.run_bind,Sem.run_pure,Result.andThen_ok,List.map_toArray,List.map_cons,List.map_nil,hs,hx,hr];exact h v' w' h2 h3
end
def OwnB(w:World)(B:Nat)(v:Value)(l:Bs):Prop:=w.ownsRow B 5 1 v l.length (U l)
theorem Bi{w:World}{B:Nat}{v:Value}{l s:Bs}(h:w.ownsRow B 5 1 v (l.length+(⟨s.toArray⟩:ByteArray).size) (U l++Lib.strCells ⟨s.toArray⟩)):OwnB w B v (l++s):=by
 have e1:(⟨s.toArray⟩:ByteArray).size=s.length:=by simp[ByteArray.size]
 have e2:Lib.strCells ⟨s.toArray⟩=U s:=by simp[Lib.strCells,U]
 rw[e1,e2]at h;unfold OwnB;rw[List.length_append,show U (l++s)=U l++U s by simp[U]];exact h
theorem BY(w:World)(B:Nat):OwnB w B (.slice none 0 0) []:=At _ _ _ _
theorem OwnB.gb{w w1:World}{B:Nat}{v:Value}{l:Bs}(h:OwnB w B v l)(g:w.grownBy w1 none):OwnB w1 B v l:=Ap h g (by simp)
theorem OwnB.fr{w0 w w1:World}{v:Value}{l:Bs}(h:OwnB w w0.heap.size v l)(g0:w0.grownBy w none)(g:w.grownBy w1 v.ownBlock):w0.grownBy w1 none:=Ad g0 g fun q hq=>(World.ownsRow.lt h q hq).1
theorem BZ{w:World}{B:Nat}{v:Value}{l:Bs}(c:UInt8)(h:w.ownsRow B 5 1 v (l.length+1) (U l++[.int .u8 c.toNat])):OwnB w B v (l++[c]):=by
 unfold OwnB;rw[List.length_append,show U (l++[c])=U l++[.int .u8 c.toNat]by simp[U]];exact h
theorem B5{w0 W W1:World}{H:Nat}{c:Cd}(h:(W.cell? ⟨H,0,none⟩=some (.int .i64 c.op)∧W.cell? ⟨H,1,none⟩=some (.int .i64 c.a)∧W.cell? ⟨H,2,none⟩=some (.int .i64 c.b)∧W.cell? ⟨H,3,none⟩=some (str c.s))∧w0.grownBy W none){r:Option Nat}(g:W.grownBy W1 r)(hr:some H≠r)(ho:∀k,r=some k→w0.heap.size≤k):
 (W1.cell? ⟨H,0,none⟩=some (.int .i64 c.op)∧W1.cell? ⟨H,1,none⟩=some (.int .i64 c.a)∧W1.cell? ⟨H,2,none⟩=some (.int .i64 c.b)∧W1.cell? ⟨H,3,none⟩=some (str c.s))∧w0.grownBy W1 none:=
 ⟨⟨Aq g h.1.1 hr,Aq g h.1.2.1 hr,Aq g h.1.2.2.1 hr,Aq g h.1.2.2.2 hr⟩,Ad h.2 g ho⟩
theorem Bl{w0 W:World}{A:Prop}{n:Int}(h:A∧w0.grownBy W none)(hp:Pow w0)(hn:A0 n):Calls Tryz.prog 37 #[.int .i64 n] W fun e w'=>e= .returned (str (Lib.itoa n))∧W.grownBy w' none:=AV (hp.gb h.2) n hn.1 hn.2
theorem Di{ops:Array Oper}{o:Oper}{a:Act}{K:Act→World→Prop}{Q:Exit→Act→World→Prop}{E:Prop}{w0 wr W:World}{A:Prop}{L s:Bs}{v:Value}(hgd:o.guard=none)(sl x:Operand)
 (ho:o.op= .call {callee:= .builtin .append,args:=#[sl,x],argTypes:=#[58,9]}) (hS:A∧w0.grownBy W none) (hO:OwnB wr w0.heap.size v L) (gc:wr.grownBy W none)
 (hs:a.eval sl=v) (hx:a.eval x= .string ⟨s.toArray⟩) (hlen:L.length+s.length≤100000000000)
 (h:∀v' w',OwnB w' w0.heap.size v' (L++s)→W.grownBy w' v.ownBlock→K (a.put o.dst v') w'):if Region.wanted o (yielded ops a.tmps)=true then Oper.wp Tryz.prog o a W K Q else E:=by
 obtain⟨i0,hi0,hz0,hz1,hz2⟩:=info_parts AJ;have e1:(⟨s.toArray⟩:ByteArray).size=s.length:=by simp[ByteArray.size]
 exact Dh hgd sl x 58 9 ho w0.heap.size 5 i0 underlying58 underlying9 hi0 hz0 hz1 hz2 v L.length (U L) hs (hO.gb gc) ⟨s.toArray⟩ hx (by rw[e1];unfold maxLen;omega) (by rw[e1];omega) hS.2.size fun v' w' h1 h2=>h v' w' (Bi h1) h2
theorem CA{w:World}{v:Value}{us:List Un}{ok:Nat→Prop}(h:VU ok w v us)(hb:Z us≤100000000)(hw:A3 us)(hp:Pow w):
 Calls Tryz.prog 28 #[v] w fun e w'=>e= .returned (str (Au us))∧w.grownBy w' none:=by
 obtain⟨a,cap,rfl,hle,hmx,hat⟩:=h.open;have hlen:us.length≤100000000:=by unfold Z at hb;omega
 obtain⟨i0,hi0,hz0,hz1,hz2⟩:=info_parts AJ;have HI:=D (I hi0 (I hz0 (I hz1 hz2)));have HA:=D hat;have HP:=D (I hp (I hw hb));clear hat hle hmx h hw hb hp hi0 hz0 hz1 hz2;go_enter func28,ntmps28;go_wp2_with fail;go_loopg [3,4,5,6,7] us.length (fun g v3 v4 v5 v6 v7 wr=>∃k:Nat,k+g=us.length∧v4= .int .i64 k∧OwnB wr w.heap.size v3 (S Ac us k)∧w.grownBy wr none)
 case atStart=>exact⟨0,by omega,rfl,BY _ _,N _ _⟩
 case round=>
  obtain⟨k,hk,rfl,hO,hG⟩:=hrel;cases gk with
  | zero=>
    have hkl:k=us.length:=by omega
    have hj1:decide (k<us.length)=false:=by simp;omega
    subst hkl;have HO:=D (I hO hG);rcases hO.2 with⟨h1,h2⟩| ⟨g1,cap1,cur1,h1,_⟩
    ·subst h1;have he:Au us=[]:=List.eq_nil_of_length_eq_zero h2;have hnil:(convert 58 9 (.slice none 0 0)).run Tryz.prog wr= .ok (str []) wr:=by
      rw[run_convert_bytes_string wr 58 9 5 none 0 0 underlying58 underlying5 underlying9];simp[Conv.bytesToString];rfl
     clear hO hG h2;go_wp2;go_ret;exact⟨by rw[he];rfl,HO.out.2⟩
    ·subst h1;have hback:=BJ cap1 hO;clear hO hG;go_wp2;go_ret;exact⟨rfl,HO.out.2⟩
  | succ gk=>
    have hkl:k<us.length:=by omega
    have hj1:decide (k<us.length)=true:=by simp;omega
    obtain⟨u,hu⟩:∃u,us[k]? =some u:=⟨_,X hkl⟩;obtain⟨g,o,ra,rc,ca,cc,rfl,_,hgl,c0,c1,c2,hrow,hcode⟩:=HA.out k u hu;have d0:=J hG c0;have hL:=AW HP.out.2.1 k (by omega);have hbb:=HP.out.2.2;have hwu:=HP.out.2.1 u (AA hu);have huw:=Bb hu;have hwd:wtU u=u.name.length+u.row.length+pfx wtC u.code u.code.length:=rfl;have hnl:u.name.length≤100000000:=by omega
    have hrl:u.row.length≤100000000:=by omega
    have hql:=AE u.name;have hql2:(qtM u.name).length≤300000002:=by omega
    have hcl1:¬(9223372036854775807<5+(qtM u.name).length):=by omega
    have hcdl:u.code.length≤100000000:=by
     have h4:=An wtC u.code (Nat.le_refl u.code.length);have h5:∀j,j≤u.code.length→j≤pfx wtC u.code j:=by
      intro j;induction j with
      |zero=>intro _;exact Nat.zero_le _
      |succ j ih=>intro hj;rw[Aj (X hj)];have:=ih (by omega);have h6:wtC u.code[j]=3+u.code[j].s.length:=rfl;omega
     have:=h5 _ (Nat.le_refl _);omega
    have HL:=D (I hL (I hbb (I hwu (I huw hwd))));have HC:=D (I c1 c2);have HR:=D (I hrow hcode);have HX:=D (I hO hG);have HU:=D hu;have hgs:=hG.size;clear hL hbb hwu huw hwd hql c0 c1 c2 hrow hcode hO hG;go_wp2_with fail;refine(BN u.name (by omega) _).mono ?_;rintro e w2 ⟨rfl,g2⟩;have hgs2:=g2.size;have HY:=D (I (HX.out.1.gb g2) (M HX.out.2 g2));clear g2;go_wp2_with (at_builtin;go_loud(refine Lib.wpList_append_own_string _ rfl _ _ 58 9 rfl w.heap.size 5 i0 underlying58 underlying9 HI.out.1 HI.out.2.1 HI.out.2.2.1 HI.out.2.2.2 u3 (S Ac us k).length (U (S Ac us k)) rfl HY.out.1 ⟨(Ai u).toArray⟩ rfl (by have:=HL.out.1;have:=HL.out.2.1;have:=Aw u;simp[ByteArray.size];unfold maxLen;omega) (by have:=HL.out.1;have:=HL.out.2.1;have:=Aw u;simp[ByteArray.size];omega) (by omega) ?_;intro v6 w6 hown hgrow hx6;(have HZ:=D (I (Bi hown) (HY.out.1.fr HY.out.2 hgrow)));clear hown hgrow hx6));have d1:=J HZ.out.2 HC.out.1;have hgs3:=HZ.out.2.size;go_wp2_with fail;go_loopg [3,5] u.row.length (fun g v3 v5 w2=>∃j:Nat,j+g=u.row.length∧v5= .int .i64 j∧OwnB w2 w.heap.size v3 (S Ac us k++Ai u++S Ab u.row j)∧w.grownBy w2 none)
    case atStart=>exact⟨0,by omega,rfl,by simpa[S]using HZ.out.1,HZ.out.2⟩
    case round=>
     obtain⟨j,hj,rfl,hO4,hG4⟩:=hrel;clear HY HZ HX d1 hgs3 hgs2 hgs d0;have d1:=J hG4 HC.out.1;have hgs4:=hG4.size;by_cases hjl:j<u.row.length
     ·have hjI:decide (j<u.row.length)=true:=by simpa using hjl
      obtain⟨x,hx⟩:∃x,u.row[j]? =some x:=⟨_,X hjl⟩;obtain⟨gr,orr,rfl,_,_,t0⟩:=HR.out.1.int hx;have f0:=J hG4 t0;have hx64:=HL.out.2.2.1.1 x (AA hx);have hi21:=As hx64;have hcl2:¬(9223372036854775807<1+(Lib.itoa x).length):=by omega
      have HJ:=D (I hO4 (I hG4 (I hx64 (AH (f:=Ab) hx))));clear t0 hO4 hG4 hx64;go_wp2_with fail;refine(AV (HP.out.1.gb HJ.out.2.1) x HJ.out.2.2.1.1 HJ.out.2.2.1.2).mono ?_;rintro e w5 ⟨rfl,g5⟩;have hgs5:=g5.size;have HK:=D (I (HJ.out.1.gb g5) (M HJ.out.2.1 g5));clear g5;go_wp2_with (at_builtin;go_loud(refine Lib.wpList_append_own_string _ rfl _ _ 58 9 rfl w.heap.size 5 i0 underlying58 underlying9 HI.out.1 HI.out.2.1 HI.out.2.2.1 HI.out.2.2.2 _ (S Ac us k++Ai u++S Ab u.row j).length (U (S Ac us k++Ai u++S Ab u.row j)) rfl HK.out.1 ⟨(Ab x).toArray⟩ rfl (by have h1:=HL.out.1;have h2:=HL.out.2.1;have h3:=A4 HL.out.2.2.1 j (by omega);have h4:=Aw u;simp only[Ab,ByteArray.size,List.size_toArray,List.length_append,List.length_cons];unfold maxLen;omega) (by have h1:=HL.out.1;have h2:=HL.out.2.1;have h3:=A4 HL.out.2.2.1 j (by omega);have h4:=Aw u;simp only[Ab,ByteArray.size,List.size_toArray,List.length_append,List.length_cons];omega) (by omega) ?_;intro v6 w6 hown hgrow hx6;(have HZ:=D (I (Bi hown) (HK.out.1.fr HK.out.2 hgrow)));clear hown hgrow hx6));go_roundg (u.row.length-(j+1))
      case measure=>omega
      case rel=>exact⟨j+1,by omega,by go_num,by rw[HJ.out.2.2.2,←List.append_assoc];exact HZ.out.1,HZ.out.2⟩
     ·have hjI:decide (j<u.row.length)=false:=by simpa using hjl
      have hje:j=u.row.length:=by omega
      subst hje;have HJ:=D (I hO4 hG4);clear hO4 hG4;go_wp2_with (at_builtin;go_loud(refine wpList_append_lies _ rfl _ _ 58 rfl w.heap.size 5 i0 (.int .u8 0) 1 1 underlying58 HI.out.1 HI.out.2.1 HI.out.2.2.1 HI.out.2.2.2 rfl (by decide) _ (S Ac us k++Ai u++S Ab u.row u.row.length).length (U (S Ac us k++Ai u++S Ab u.row u.row.length)) rfl (HJ.out.1.gb (World.grownBy_alloc _ _ none)) ⟨wr.heap.size,0,none⟩ 1 1 [.int .u8 10] rfl rfl (Az _ _ _) (by simp[Value.oneCell']) (by decide) (by have h1:=HL.out.1;have h2:=HL.out.2.1;have h3:=A4 HL.out.2.2.1 u.row.length (Nat.le_refl _);have h4:=Aw u;simp only[List.length_append];unfold maxLen;omega) (by have h1:=HL.out.1;have h2:=HL.out.2.1;have h3:=A4 HL.out.2.2.1 u.row.length (Nat.le_refl _);have h4:=Aw u;simp only[List.length_append];omega) (by simp;omega) _ rfl ?_;intro g6 cap6 w6 hown hgrow hat6 hlt6;(have HZ:=D (I (BZ 10 hown) ((HJ.out.1.gb (World.grownBy_alloc _ _ none)).fr (Y HJ.out.2 _) hgrow)));clear hown hgrow hat6));have d2:=J HZ.out.2 HC.out.2;go_wp2_with fail;go_loopg [3,6,7] u.code.length (fun g v3 v6 v7 w3=>∃i:Nat,i+g=u.code.length∧v6= .int .i64 i∧OwnB w3 w.heap.size v3 (S Ac us k++Ai u++S Ab u.row u.row.length++[10]++S Ao u.code i)∧w.grownBy w3 none)
      case atStart=>exact⟨0,by omega,rfl,by simpa[S]using HZ.out.1,HZ.out.2⟩
      case round=>
       obtain⟨i,hi,rfl,hO6,hG6⟩:=hrel;clear HZ HJ d2 d1;have d2:=J hG6 HC.out.2;have hgs6:=hG6.size;by_cases hil:i<u.code.length
       ·have hiI:decide (i<u.code.length)=true:=by simpa using hil
        obtain⟨c,hc⟩:∃c,u.code[i]? =some c:=⟨_,X hil⟩;obtain⟨gc,oc,rfl,_,_,t0,t1,t2,t3⟩:=HR.out.2.cd hc;have f0:=J hG6 t0;have f1:=J hG6 t1;have f2:=J hG6 t2;have f3:=J hG6 t3;clear t0 t1 t2 t3;have hwc:=HL.out.2.2.1.2 c (AA hc);have ho1:=As hwc.1;have ho2:=As hwc.2.1;have ho3:=As hwc.2.2;have hcw:=Bz hc;have hcw2:wtC c=3+c.s.length:=rfl;have hsl:c.s.length≤100000000:=by have h1:=HL.out.2.1;have h2:=HL.out.2.2.2.1;omega
        have hq1:=AE c.s;have hcl2:¬(9223372036854775807<(Lib.itoa c.op).length+1):=by omega
        have hcl3:¬(9223372036854775807<(Lib.itoa c.op).length+1+(Lib.itoa c.a).length):=by omega
        have hcl4:¬(9223372036854775807<(Lib.itoa c.op).length+1+(Lib.itoa c.a).length+1):=by omega
        have hcl5:¬(9223372036854775807<(Lib.itoa c.op).length+1+(Lib.itoa c.a).length+1+(Lib.itoa c.b).length):=by omega
        have hcl6:¬(9223372036854775807<(Lib.itoa c.op).length+1+(Lib.itoa c.a).length+1+(Lib.itoa c.b).length+1):=by omega
        have hcl7:¬(9223372036854775807<(Lib.itoa c.op).length+1+(Lib.itoa c.a).length+1+(Lib.itoa c.b).length+1+(qtM c.s).length):=by omega
        have hcl8:¬(9223372036854775807<(Lib.itoa c.op).length+1+(Lib.itoa c.a).length+1+(Lib.itoa c.b).length+1+(qtM c.s).length+1):=by omega
        have HT:=D (show(S Ac us k++Ai u++S Ab u.row u.row.length++[10]++S Ao u.code i).length+(Ao c).length≤100000000000 from by
         have h1:=HL.out.1;have h2:=HL.out.2.1;have h3:=A4 HL.out.2.2.1 u.row.length (Nat.le_refl _);have h4:=Aw u;have h5:=Bq HL.out.2.2.1 i (by omega);have h6:=Bp hwc;have h7:=HL.out.2.2.2.1;have h8:=HL.out.2.2.2.2;simp only[List.length_append,List.length_cons,List.length_nil];omega)
        have b4:=Blk.new wr (cdC c) 35;have gA:wr.grownBy (wr.alloc (.cells (cdC c).toArray 35 (0,0))).drew none:=Ae (World.grownBy_alloc _ _ none);have HX:=D (show(fun W=>(W.cell? ⟨wr.heap.size,0,none⟩=some (.int .i64 c.op)∧W.cell? ⟨wr.heap.size,1,none⟩=some (.int .i64 c.a)∧W.cell? ⟨wr.heap.size,2,none⟩=some (.int .i64 c.b)∧W.cell? ⟨wr.heap.size,3,none⟩=some (str c.s))∧w.grownBy W none) (wr.alloc (.cells (cdC c).toArray 35 (0,0))).drew from⟨⟨b4.cell 0,b4.cell 1,b4.cell 2,b4.cell 3⟩,M hG6 gA⟩);have HB:=D (I hO6 (I gA (I (AH (f:=Ao) hc) (I (show some wr.heap.size≠u3.ownBlock from fun e=>by have:=(World.ownsRow.lt hO6 _ e.symm).2;omega) (fun q e=>(World.ownsRow.lt hO6 q e).1)))));have HW:=D hwc;clear hO6 hG6 b4 gA hwc ho1 ho2 ho3 hcw hcw2 hq1 hql2 hcl1;go_wp2_with fail;go_region_held3 (fun W=>(W.cell? ⟨wr.heap.size,0,none⟩=some (.int .i64 c.op)∧W.cell? ⟨wr.heap.size,1,none⟩=some (.int .i64 c.a)∧W.cell? ⟨wr.heap.size,2,none⟩=some (.int .i64 c.b)∧W.cell? ⟨wr.heap.size,3,none⟩=some (str c.s))∧w.grownBy W none)
         (first|exact HX.out|exact B5 (by assumption) g5 (by simp) (by simp)|exact B5 (by assumption) hg5 HB.out.2.2.2.1 HB.out.2.2.2.2)
         (first| (go_at_call 37;refine(Bl (by assumption) HP.out.1 HW.out.1).mono ?_;rintro e w5 ⟨rfl,g5⟩)| (go_at_call 37;refine(Bl (by assumption) HP.out.1 HW.out.2.1).mono ?_;rintro e w5 ⟨rfl,g5⟩)| (go_at_call 37;refine(Bl (by assumption) HP.out.1 HW.out.2.2).mono ?_;rintro e w5 ⟨rfl,g5⟩)| (go_at_call 40;refine(BN c.s (by omega) _).mono ?_;rintro e w5 ⟨rfl,g5⟩)| (refine Di (by rfl) _ _ (by rfl) (by assumption) HB.out.1 (by repeat(first|exact HB.out.2.1| (refine M ?_ (by assumption)))) (by rfl) (by rfl) HT.out ?_;intro v5 w5 hO5 hg5))
        rename_i hH;have HM:=D (I hO5 hH.2);clear hO5 hg5 hH;go_wp2;go_roundg (u.code.length-(i+1))
        case measure=>omega
        case rel=>exact⟨i+1,by omega,by go_num,by rw[HB.out.2.2.1,←List.append_assoc];exact HM.out.1,HM.out.2⟩
       ·have hiI:decide (i<u.code.length)=false:=by simpa using hil
        have hie:i=u.code.length:=by omega
        subst hie;have HJ:=D (I hO6 hG6);clear hO6 hG6;go_wp2;go_roundg (us.length-(k+1))
        case measure=>omega
        case rel=>exact⟨k+1,by omega,by go_num,by rw[AH HU.out];simpa[Ac,List.append_assoc]using HJ.out.1,HJ.out.2⟩
end Go.Proofs.YtahbajmkhjngiaaGreatDoor
