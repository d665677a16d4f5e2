/-
  The reference's writer: names, text. The reference's writer: text, value. The reference's writer: value.
-/
import Derived.Test.YtgjdhajcnechdaaGreatDoorSv33
set_option linter.all false
set_option maxRecDepth 100000
set_option maxHeartbeats 8000000
namespace Go.Proofs.YtgjdhajcnechdaaGreatDoor
open Go.Proofs.Tryz
open Go.RowKit
theorem BW(a:OW):Ax a (some ([],[]))=a:=by
 unfold Ax;cases a with
 |none=>rfl
 |some x=>simp
theorem BL(a:OW):Ax (some ([],[])) a=a:=by
 unfold Ax;cases a with
 |none=>rfl
 |some x=>simp
theorem Cf(a c d:OW):Ax (Ax a c) d=Ax a (Ax c d):=by
 unfold Ax;cases a with
 |none=>rfl
 | some x=>
   cases c with
   |none=>rfl
   | some y=>
     cases d with
     |none=>rfl
     |some z=>simp[List.append_assoc]
def C3:Nat→List OW→OW
 |_,[]=>some ([],[])
 |i,a::r=>Ax (Ci i) (Ax a (C3 (i+1) r))
theorem OV(l:List OW):∀i,0<i→C3 i l=CN l:=by
 induction l with
 |nil=>intro i _;rfl
 | cons a r ih=>
   intro i hi;have hc:Ci i=catL [sgn [44],Bc]:=by unfold Ci;rw[if_pos hi]
   show Ax (Ci i) (Ax a (C3 (i+1) r))=Ax (sgn [44]) (Ax Bc (Ax a (Ax (CN r) (some ([],[])))));rw[ih (i+1) (by omega),hc,BW];show Ax (Ax (sgn [44]) (Ax Bc (some ([],[])))) _=_;rw[BW,Cf]
theorem IF(l:List OW):C3 0 l=Be l:=by
 cases l with
 |nil=>rfl
 | cons a r=>
   show Ax (Ci 0) (Ax a (C3 1 r))=Ax a (CN r);rw[OV r 1 (by omega),show Ci 0=some ([],[])from rfl,BL]
theorem IG(acc a:OW)(k:Nat)(r:List OW):Ax acc (C3 k (a::r))=Ax (Ax acc (Ax (Ci k) a)) (C3 (k+1) r):=by
 show Ax acc (Ax (Ci k) (Ax a (C3 (k+1) r)))=_;rw[Cf,Cf]
section
variable {w w1:World}{b:Nat}{out:Bs}{pre:List Tok}{wrong:Bool}{ov:Value}
theorem Ww.low(h:Ww w b out pre wrong ov):∀k,ov.ownBlock=some k→b<k:=fun k e=>(h.own k e).1
theorem MT(h:Ww w b out pre wrong ov){pa:Option Addr}{pc:Nat}{l:List Bs}(hp:Cells w (.slice pa l.length pc) 1 l.length (l.map str) (fun g=>g<b))(hf:∀s∈l,s.length≤2000000)(hl:l.length≤2000000)
 (hc:pre.length+2*l.length≤9000000) (ho:out.length+2000002*l.length≤800000000000000):
 Calls Tryz.prog 137 #[.pointer (some ⟨b,0,none⟩),.slice pa l.length pc] w (WPost (Be (l.map nmW)) (2*l.length) (2000002*l.length) w b out pre wrong ov):=by
 have HB:=O (Z hf (Z hc ho));have H0:=O (Z h hp);clear h hp hf;go_enter func137,ntmps137;go_wp2_with fail;go_loopg [4] l.length (fun g v4 wr=>∃(k:Nat)(rest:List Bs)(acc:OW)(o':Bs)(p':List Tok)(r':Bool)(ov':Value),k+g=l.length∧v4= .int .i64 k∧rest=l.drop k∧Be (l.map nmW)=Ax acc (C3 k (rest.map nmW))∧Wr acc (2*k) (2000002*k) pre out wrong p' o' r'∧Ww wr b o' p' r' ov'∧WK w wr b ov ov'∧Cells wr (.slice pa l.length pc) 1 l.length (l.map str) (fun g=>g<b))
 case atStart=>exact⟨0,l,some ([],[]),out,pre,wrong,ov,by omega,rfl,rfl,by rw[BL,IF],Wr.nil,H0.out.1,WK.refl,H0.out.2⟩
 case round=>
  obtain⟨k,rest,acc,o',p',r',ov',hk,rfl,hrest,hacc,hwr,hw,hwk,hcells⟩:=hrel;clear H0;by_cases hkl:k<l.length
  ·have hj1:decide (k<l.length)=true:=by simpa using hkl
   obtain⟨g1,o1,rfl,c1⟩:=hcells.at1.2 k hkl;have hgb:g1<b:=by
    obtain⟨_,_,e,_,_,_,hh⟩:=hcells;obtain⟨gg,oo,e2,hlt,_⟩:=hh k (str (l.getD k [])) (by simp[List.getD,List.getElem?_eq_getElem hkl]);cases e;cases e2;exact hlt
   have hdr:rest=l.getD k []::l.drop (k+1):=by
    rw[hrest,List.getD_eq_getElem?_getD,List.getElem?_eq_getElem hkl];exact List.drop_eq_getElem_cons hkl
   have hmem:l.getD k []∈l:=by
    rw[List.getD_eq_getElem?_getD,List.getElem?_eq_getElem hkl];exact List.getElem_mem hkl
   have hsl:=HB.out.1 _ hmem;have hacc2:Be (l.map nmW)=Ax (Ax acc (Ax (Ci k) (nmW (l.getD k [])))) (C3 (k+1) ((l.drop (k+1)).map nmW)):=by
    rw[hacc,hdr,List.map_cons,IG]
   generalize l.getD k []=s at*;have hnp:=hwr.np;have hnk:=hwr.nk;have HC:=O (Im hw k (by omega) (by omega));have HX:=O (Z hacc2 (Z hwr (Z hwk (Z hcells (Z hsl (Z c1 (Z hgb (Z hw.low (Z hnp hnk)))))))));clear hacc2 hwr hwk hcells hsl c1 hgb hmem hdr hrest hacc hw hnp hnk;go_wp2_with fail;refine HC.out.mono ?_;rintro e w2 ⟨rfl,o2,p2,r2,ov2,h2,k2,q2⟩;have c2:=k2.cell HX.out.2.2.2.2.2.1 (by have:=HX.out.2.2.2.2.2.2.1;omega) (fun e=>by have:=HX.out.2.2.2.2.2.2.2.1 _ e;have:=HX.out.2.2.2.2.2.2.1;omega);have hnp:=HX.out.2.2.2.2.2.2.2.2.1;have hnk:=HX.out.2.2.2.2.2.2.2.2.2;have q2n:=q2.np;have q2k:=q2.nk;have HC2:=O (Ds h2 s HX.out.2.2.2.2.1 (by omega) (by have:=HX.out.2.2.2.2.1;omega));have HQ:=O (Z q2 (Z k2 h2.low));clear q2 k2 h2 hnp hnk q2n q2k;go_wp2_with fail;refine HC2.out.mono ?_;rintro e w3 ⟨rfl,o3,p3,r3,ov3,h3,k3,q3⟩;have HR:=O (Z h3 (Z k3 q3));clear h3 k3 q3;go_wp2;go_roundg (l.length-(k+1))
   case measure=>omega
   case rel=>exact⟨k+1,l.drop (k+1),_,o3,p3,r3,ov3,by omega,by go_num,rfl,HX.out.1,(HX.out.2.1.cat (HQ.out.1.cat HR.out.2.2)).le (by omega) (by have:=HX.out.2.2.2.2.1;omega),HR.out.1,(HX.out.2.2.1.trans HQ.out.2.1).trans HR.out.2.1,(HX.out.2.2.2.1.kept HQ.out.2.1 HX.out.2.2.2.2.2.2.2.1).kept HR.out.2.1 HQ.out.2.2⟩
  ·have hj1:decide (k<l.length)=false:=by simpa using hkl
   obtain rfl:k=l.length:=by omega
   have HX:=O (Z (show Be (l.map nmW)=acc by rw[hacc,hrest,List.drop_length];exact BW acc) (Z hwr (Z hw hwk)));clear hacc hwr hw hwk hcells hrest;go_wp2;go_end0;exact⟨rfl,_,_,_,_,HX.out.2.2.1,HX.out.2.2.2,HX.out.2.1.of_eq HX.out.1.symm⟩
end
def BP(q c:UInt8):Bool:= !(BI c)||c==q
theorem P8(t:Bs)(c:UInt8):By (t++[c])=if c=34 then 39 else By t:=by
 unfold By;by_cases hc:c=34
 ·subst hc;rw[if_pos rfl,if_pos];simp
 ·rw[if_neg hc];have:(t++[c]).contains 34=t.contains 34:=by
   rw[Bool.eq_iff_iff];simp[List.contains_iff_mem];exact fun e=>absurd e.symm hc
  rw[this]
theorem RA(s:Bs):By s=34∨By s=39:=by
 unfold By;split
 ·exact .inr rfl
 ·exact .inl rfl
theorem J3{s:Bs}{k:Nat}(h:k<s.length):s.take (k+1)=s.take k++[bAt s k]:=by
 rw[List.take_add_one,CZ h,List.getElem?_eq_getElem h];rfl
theorem QW(s:Bs):D2 s=if s.any (BP (By s))then none else some ([⟨2,0,s⟩],By s::s++[By s]):=by
 unfold D2;have:(s.all fun b=>BI b&&b !=By s)= !(s.any (BP (By s))):=by
  rw[List.not_any_eq_all_not];congr 1;funext b;unfold BP;cases BI b<;>simp[bne]
 rw[this];cases s.any (BP (By s))<;>rfl
theorem IB(c:UInt8):BI c=true↔c.toNat=9∨(32≤c.toNat∧c.toNat≤126):=by
 unfold BI;rw[Bool.or_eq_true,Bool.and_eq_true,beq_iff_eq,decide_eq_true_eq,decide_eq_true_eq,UInt8.le_iff_toNat_le,UInt8.le_iff_toNat_le,←UInt8.toNat_inj];rfl
theorem Jz{q c:UInt8}(h:c.toNat=q.toNat):BP q c=true:=by
 unfold BP;rw[UInt8.toNat_inj.1 h];simp
theorem IS{q c:UInt8}(h:¬(c.toNat=9∨(32≤c.toNat∧c.toNat≤126))):BP q c=true:=by
 unfold BP;cases hp:BI c with
 |true=>exact absurd ((IB c).1 hp) h
 |false=>rfl
theorem IT{q c:UInt8}(h:c.toNat=9∨(32≤c.toNat∧c.toNat≤126))(h2:c.toNat≠q.toNat):BP q c=false:=by
 unfold BP;rw[(IB c).2 h];have:(c==q)=false:=by rw[beq_eq_false_iff_ne];rintro rfl;exact h2 rfl
 rw[this];rfl
section
variable {w w1:World}{b:Nat}{out:Bs}{pre:List Tok}{wrong:Bool}{ov:Value}
theorem Ww.wrong_of(h:Ww w b out pre true ov)(x:Bool)(hx:x=true):Ww w b out pre x ov:=hx ▸ h
theorem OH(s:Bs)(hs:s.length≤2000000)(h:Ww w b out pre wrong ov)(hc:pre.length≤9000000)(ho:out.length+s.length≤800000000000000):
 Calls Tryz.prog 134 #[.pointer (some ⟨b,0,none⟩),str s] w (WPost (D2 s) 1 (s.length+2) w b out pre wrong ov):=by
 have HH:=O h;have HC:=O (Z hc ho);have HT:=O (QW s);clear h hc ho;go_enter func134,ntmps134;go_wp2_with fail;go_loopg [4,5] s.length (fun g v4 v5 wr=>∃(k:Nat)(q:UInt8),k+g=s.length∧v5= .int .i64 k∧v4=str [q]∧q=By (s.take k)∧wr=w)
 case atStart=>exact⟨0,34,by omega,rfl,rfl,rfl,rfl⟩
 case round=>
  obtain⟨k,q,hk,rfl,rfl,hq,rfl⟩:=hrel;by_cases hkl:k<s.length
  ·have hj1:decide (k<s.length)=true:=by simpa using hkl
   have i0:(0:Int)≤(k:Int):=by omega
   have i1:(k:Int)<(s.length:Int):=by omega
   have hgk:∀h,(⟨s.toArray⟩:ByteArray)[k]'h=bAt s k:=fun h=>Cr s k h hkl;have HQ:=O (show By (s.take (k+1))=if bAt s k=34 then 39 else By (s.take k)by rw[J3 hkl,P8]);generalize bAt s k=c at*;by_cases h34:c=34
   ·subst h34;have HQ2:=O (HQ.out.trans (if_pos rfl));clear hq HQ;go_wp2;go_roundg (s.length-(k+1))
    case measure=>omega
    case rel=>exact⟨k+1,39,by omega,by go_num,rfl,HQ2.out.symm,rfl⟩
   ·have hcn:c.toNat≠34:=fun e=>h34 (UInt8.toNat_inj.1 e);have h34I:((c.toNat:Int)==34)=false:=by simp;omega
    have HQ2:=O ((HQ.out.trans (if_neg h34)).trans hq.symm);clear hq HQ h34;go_wp2;go_roundg (s.length-(k+1))
    case measure=>omega
    case rel=>exact⟨k+1,q,by omega,by go_num,rfl,HQ2.out.symm,rfl⟩
  ·have hj1:decide (k<s.length)=false:=by simpa using hkl
   rw[List.take_of_length_le (by omega)]at hq;have HQ:=O hq;have hq2:q=34∨q=39:=by rw[hq];exact RA s
   clear hq;go_wp2_with fail;go_loopg [6] s.length (fun g v6 wq=>∃k:Nat,k+g=s.length∧v6= .int .i64 k∧Ww wq b out pre (wrong||(s.take k).any (BP q)) ov∧wr.grownBy wq (some b))
   case atStart=>exact⟨0,by omega,rfl,by simpa using HH.out,Ac _ _⟩
   case round=>
    obtain⟨k2,hk2,rfl,hw,gv9⟩:=hrel;by_cases hkl2:k2<s.length
    ·have hj2:decide (k2<s.length)=true:=by simpa using hkl2
     have i0:(0:Int)≤(k2:Int):=by omega
     have i1:(k2:Int)<(s.length:Int):=by omega
     have hgk:∀h,(⟨s.toArray⟩:ByteArray)[k2]'h=bAt s k2:=fun h=>Cr s k2 h hkl2;have HA:=O (show(wrong||(s.take (k2+1)).any (BP q))=((wrong||(s.take k2).any (BP q))||BP q (bAt s k2))by rw[J3 hkl2,List.any_append];simp[Bool.or_assoc]);generalize bAt s k2=c at*;generalize hwx:(wrong||(s.take k2).any (BP q))=wx at*;have hbd:=hw.lt;have d2:=hw.c2;have e2:=hw.fr 2;have HW:=O (Z hw gv9);clear hw gv9 hwx;rcases hq2 with rfl|rfl
     ·by_cases hp:c.toNat=9∨(32≤c.toNat∧c.toNat≤126)
      ·by_cases hcq:c.toNat=34
       ·have heq:∀h,((c.toNat:Int)==(((⟨#[34]⟩:ByteArray)[0]'h).toNat:Int))=true:=fun h=>by show((c.toNat:Int)==(34:Int))=true;simp;omega
        have h9:((c.toNat:Int)==9)=false:=by simp;omega
        have h9':((c.toNat:Int) !=9)=true:=by simp;omega
        have h32:decide ((c.toNat:Int)<32)=false:=by simp;omega
        have h126:decide ((126:Int)<(c.toNat:Int))=false:=by simp;omega
        have HB:=O (Jz (q:=34) (c:=c) hcq);clear hp hcq;go_wp2_with fail;go_quiet(fail);go_wp2;go_roundg (s.length-(k2+1))
        case measure=>omega
        case rel=>exact⟨k2+1,by omega,by go_num,((HW.out.1.gbN (A3 (Ac _ none) _)).setWrong).wrong_of _ (by rw[HA.out,HB.out];simp),Ay (A3 HW.out.2 _) _ _ (.inl rfl)⟩
       ·have heq:∀h,((c.toNat:Int)==(((⟨#[34]⟩:ByteArray)[0]'h).toNat:Int))=false:=fun h=>by show((c.toNat:Int)==(34:Int))=false;simp;omega
        have HB:=O (IT (q:=34) (c:=c) hp hcq);by_cases h9n:c.toNat=9
        ·have h9:((c.toNat:Int)==9)=true:=by simp;omega
         have h9':((c.toNat:Int) !=9)=false:=by simp;omega
         clear hp hcq;go_wp2_with fail;go_quiet(fail);go_wp2;go_roundg (s.length-(k2+1))
         case measure=>omega
         case rel=>exact⟨k2+1,by omega,by go_num,by rw[HA.out,HB.out,Bool.or_false];exact HW.out.1.gbN (A3 (Ac _ none) _),A3 HW.out.2 _⟩
        ·have h9:((c.toNat:Int)==9)=false:=by simp;omega
         have h9':((c.toNat:Int) !=9)=true:=by simp;omega
         have h32:decide ((c.toNat:Int)<32)=false:=by simp;omega
         have h126:decide ((126:Int)<(c.toNat:Int))=false:=by simp;omega
         clear hp hcq;go_wp2_with fail;go_quiet(fail);go_wp2;go_roundg (s.length-(k2+1))
         case measure=>omega
         case rel=>exact⟨k2+1,by omega,by go_num,by rw[HA.out,HB.out,Bool.or_false];exact HW.out.1.gbN (A3 (Ac _ none) _),A3 HW.out.2 _⟩
      ·have h9:((c.toNat:Int)==9)=false:=by simp;omega
       have h9':((c.toNat:Int) !=9)=true:=by simp;omega
       have HB:=O (IS (q:=34) (c:=c) hp);by_cases h32n:c.toNat<32
       ·have h32:decide ((c.toNat:Int)<32)=true:=by simp;omega
        clear hp;go_wp2_with fail;go_quiet(fail);go_wp2;go_roundg (s.length-(k2+1))
        case measure=>omega
        case rel=>exact⟨k2+1,by omega,by go_num,((HW.out.1.gbN (A3 (Ac _ none) _)).setWrong).wrong_of _ (by rw[HA.out,HB.out];simp),Ay (A3 HW.out.2 _) _ _ (.inl rfl)⟩
       ·have h32:decide ((c.toNat:Int)<32)=false:=by simp;omega
        have h126:decide ((126:Int)<(c.toNat:Int))=true:=by simp;omega
        clear hp;go_wp2_with fail;go_quiet(fail);go_wp2;go_roundg (s.length-(k2+1))
        case measure=>omega
        case rel=>exact⟨k2+1,by omega,by go_num,((HW.out.1.gbN (A3 (Ac _ none) _)).setWrong).wrong_of _ (by rw[HA.out,HB.out];simp),Ay (A3 HW.out.2 _) _ _ (.inl rfl)⟩
     ·by_cases hp:c.toNat=9∨(32≤c.toNat∧c.toNat≤126)
      ·by_cases hcq:c.toNat=39
       ·have heq:∀h,((c.toNat:Int)==(((⟨#[39]⟩:ByteArray)[0]'h).toNat:Int))=true:=fun h=>by show((c.toNat:Int)==(39:Int))=true;simp;omega
        have h9:((c.toNat:Int)==9)=false:=by simp;omega
        have h9':((c.toNat:Int) !=9)=true:=by simp;omega
        have h32:decide ((c.toNat:Int)<32)=false:=by simp;omega
        have h126:decide ((126:Int)<(c.toNat:Int))=false:=by simp;omega
        have HB:=O (Jz (q:=39) (c:=c) hcq);clear hp hcq;go_wp2_with fail;go_quiet(fail);go_wp2;go_roundg (s.length-(k2+1))
        case measure=>omega
        case rel=>exact⟨k2+1,by omega,by go_num,((HW.out.1.gbN (A3 (Ac _ none) _)).setWrong).wrong_of _ (by rw[HA.out,HB.out];simp),Ay (A3 HW.out.2 _) _ _ (.inl rfl)⟩
       ·have heq:∀h,((c.toNat:Int)==(((⟨#[39]⟩:ByteArray)[0]'h).toNat:Int))=false:=fun h=>by show((c.toNat:Int)==(39:Int))=false;simp;omega
        have HB:=O (IT (q:=39) (c:=c) hp hcq);by_cases h9n:c.toNat=9
        ·have h9:((c.toNat:Int)==9)=true:=by simp;omega
         have h9':((c.toNat:Int) !=9)=false:=by simp;omega
         clear hp hcq;go_wp2_with fail;go_quiet(fail);go_wp2;go_roundg (s.length-(k2+1))
         case measure=>omega
         case rel=>exact⟨k2+1,by omega,by go_num,by rw[HA.out,HB.out,Bool.or_false];exact HW.out.1.gbN (A3 (Ac _ none) _),A3 HW.out.2 _⟩
        ·have h9:((c.toNat:Int)==9)=false:=by simp;omega
         have h9':((c.toNat:Int) !=9)=true:=by simp;omega
         have h32:decide ((c.toNat:Int)<32)=false:=by simp;omega
         have h126:decide ((126:Int)<(c.toNat:Int))=false:=by simp;omega
         clear hp hcq;go_wp2_with fail;go_quiet(fail);go_wp2;go_roundg (s.length-(k2+1))
         case measure=>omega
         case rel=>exact⟨k2+1,by omega,by go_num,by rw[HA.out,HB.out,Bool.or_false];exact HW.out.1.gbN (A3 (Ac _ none) _),A3 HW.out.2 _⟩
      ·have h9:((c.toNat:Int)==9)=false:=by simp;omega
       have h9':((c.toNat:Int) !=9)=true:=by simp;omega
       have HB:=O (IS (q:=39) (c:=c) hp);by_cases h32n:c.toNat<32
       ·have h32:decide ((c.toNat:Int)<32)=true:=by simp;omega
        clear hp;go_wp2_with fail;go_quiet(fail);go_wp2;go_roundg (s.length-(k2+1))
        case measure=>omega
        case rel=>exact⟨k2+1,by omega,by go_num,((HW.out.1.gbN (A3 (Ac _ none) _)).setWrong).wrong_of _ (by rw[HA.out,HB.out];simp),Ay (A3 HW.out.2 _) _ _ (.inl rfl)⟩
       ·have h32:decide ((c.toNat:Int)<32)=false:=by simp;omega
        have h126:decide ((126:Int)<(c.toNat:Int))=true:=by simp;omega
        clear hp;go_wp2_with fail;go_quiet(fail);go_wp2;go_roundg (s.length-(k2+1))
        case measure=>omega
        case rel=>exact⟨k2+1,by omega,by go_num,((HW.out.1.gbN (A3 (Ac _ none) _)).setWrong).wrong_of _ (by rw[HA.out,HB.out];simp),Ay (A3 HW.out.2 _) _ _ (.inl rfl)⟩
    ·have hj2:decide (k2<s.length)=false:=by simpa using hkl2
     rw[List.take_of_length_le (by omega)]at hw;have hcl1:¬(9223372036854775807<1+s.length):=by omega
     have hcl2:¬(9223372036854775807<1+s.length+1):=by omega
     have HW:=O (Z hw gv9);clear hw gv9;have HM:=O (show D2 s=if s.any (BP q)then none else some ([⟨2,0,s⟩],q::s++[q])by rw[HT.out,←HQ.out]);go_wp2_with fail;rw[show Value.string (({data:=#[q]}:ByteArray)++{data:=List.toArray s}++{data:=#[q]})=str (q::s++[q])from J2 (by simp[ByteArray.data_append])];refine(CW HW.out.1 2 s (q::s++[q]) (by have:=HC.out.1;omega) (by have:=HC.out.2;simp;omega)).mono ?_;rintro e w3 ⟨rfl,ov3,h3,k3⟩;go_wp2;go_end0;refine⟨rfl,_,_,_,_,h3,(WK.of_b HW.out.2).trans k3,?_⟩;rw[HM.out];cases hany:s.any (BP q)with
     | true=>
       rw[if_pos rfl,Bool.or_true];exact Wr.bad (by simp) (by simp only[List.length_append,List.length_cons,List.length_nil];omega)
     | false=>
       rw[if_neg (by simp),Bool.or_false];exact(Wr.one _ _).le (Nat.le_refl _) (by simp)
end
open Go.Lib
section
variable {w:World}{b:Nat}{out:Bs}{pre:List Tok}{wrong:Bool}{ov:Value}{vk vn:Int}{vs:Bs}
theorem Pt{n:Int}(h0: -1000000000000000≤n)(h1:n≤1000000000000000):(itoa n).length≤20:=by
 unfold itoa;split
 ·rw[List.length_cons,decDigits_length];have:=E0 18 n.natAbs (by omega);omega
 ·rw[decDigits_length];have:=E0 18 n.toNat (by omega);omega
theorem MW(h:Ww w b out pre wrong ov)(hs:vs.length≤2000000)(hv:A4 (HdV vk vn vs)=false):
 Calls Tryz.prog 78 #[.pointer (some ⟨b,0,none⟩),.agg #[.int .i64 vk,.int .i64 vn,str vs]] w (WPost (BS wdM (HdV vk vn vs)) 1 3000 w b out pre wrong ov):=by
 have HH:=O h;have HV:=O (fun W=>He (w:=W) (vk:=vk) (vn:=vn) hs);have HO:=O hv;have HM:=O (show BS wdM (HdV vk vn vs)=none by unfold BS;rw[if_pos hv]);clear h hv;go_enter func78,ntmps78;go_wp2_with fail;refine(HV.out _).mono ?_;rintro e w1 ⟨⟨c,rfl,hc⟩,g1⟩;have gA:=Aa (World.grownBy_alloc w (.cells #[.int .i64 vk,.int .i64 vn,str vs] 23 (0,0)) none) g1;have hbx:=(Blk.new w [.int .i64 vk,.int .i64 vn,str vs] 23).gb g1 (by simp);have h1:=HH.out.gbN gA;have HA:=O (Z gA h1);have x0:=hbx.cell 0;have x1:=hbx.cell 1;have x2:=hbx.cell 2;have hxl:=hbx.lt;simp only[List.getElem?_cons_zero,List.getElem?_cons_succ]at x0 x1 x2;rw[HO.out]at hc;have hc0:(c==0)=false:=hc;have hc1:(c !=0)=true:=by simpa using hc
 have d2:=h1.c2;have f2:=h1.fr 2;have hb:=h1.lt;clear gA hbx h1 g1;go_wp2;go_end0;refine⟨rfl,_,_,_,_,HA.out.2.setWrong,(WK.of_none HA.out.1).gbB (AE (Ac _ (some b)) 2 _),?_⟩;rw[HM.out];exact Wr.bad (by omega) (by omega)
theorem MV(h:Ww w b out pre wrong ov)(hs:vs.length≤2000000)(hc:pre.length≤9000000)(ho:out.length≤700000000000000):
 Calls Tryz.prog 78 #[.pointer (some ⟨b,0,none⟩),.agg #[.int .i64 vk,.int .i64 vn,str vs]] w (WPost (BS wdM (HdV vk vn vs)) 1 3000 w b out pre wrong ov):=by
 cases hv:A4 (HdV vk vn vs)with
 |false=>exact MW h hs hv
 |true=>
 have HH:=O h;have HV:=O (fun W=>He (w:=W) (vk:=vk) (vn:=vn) hs);have HO:=O hv;have HC:=O (Z hc ho);have hl:=I4 hv;have HM:BS wdM (HdV vk vn vs)=if vk=0 then sgn [46,78,85,76,76,46]else if vk=1 then sgn (if vn=0 then [46,70,46]else [46,84,46])
  else if vk=2 then(if vn<0∨15<(itoa vn).length then none else some ([⟨1,0,itoa vn⟩],itoa vn))
  else if vk=3 then(if vn=0 then some ([⟨3,0,[]⟩],[123,125])else some ([⟨3,0,Cp vn⟩],DX (Cp vn)))else D2 vs:=by
  unfold BS;rw[if_neg (by rw[hv];simp)];rfl
 clear h ho;by_cases h0:vk=0
 ·subst h0;have HM2:=O (HM.trans (if_pos rfl));rw[HM2.out];clear HM hv hl hc;go_enter func78,ntmps78;go_wp2_with fail;refine(HV.out _).mono ?_;rintro e w1 ⟨⟨c,rfl,hc⟩,g1⟩;have gA:=Aa (World.grownBy_alloc w (.cells #[.int .i64 0,.int .i64 vn,str vs] 23 (0,0)) none) g1;have hbx:=(Blk.new w [.int .i64 0,.int .i64 vn,str vs] 23).gb g1 (by simp);have h1:=HH.out.gbN gA;have HA:=O (Z gA h1);have x0:=hbx.cell 0;have x1:=hbx.cell 1;have x2:=hbx.cell 2;have hxl:=hbx.lt;simp only[List.getElem?_cons_zero,List.getElem?_cons_succ]at x0 x1 x2;rw[HO.out]at hc;have hc0:(c !=0)=false:=by simpa using hc
  clear gA g1 hbx h1;go_wp2_with fail;refine(Bl HA.out.2 [46,78,85,76,76,46] (by have:=HC.out.1;omega) (by have:=HC.out.2;simp;omega)).mono ?_;rintro e w2 ⟨rfl,o2,p2,r2,ov2,h2,k2,q2⟩;go_wp2;go_end0;exact⟨rfl,_,_,_,_,h2,k2.pre HA.out.1,q2.le (Nat.le_refl _) (by simp)⟩
 have c0:(vk==0)=false:=by simpa using h0
 rw[if_neg h0]at HM;by_cases h1:vk=1
 ·subst h1;rw[if_pos rfl]at HM;have hvn:vn=0∨vn=1:=by
   unfold A4 HdV at hv;simp at hv;exact hv.1.2
  rcases hvn with rfl|rfl
  ·have HM2:=O (HM.trans (by rw[if_pos rfl]));rw[HM2.out];clear HM hv hl hc h0;go_enter func78,ntmps78;go_wp2_with fail;refine(HV.out _).mono ?_;rintro e w1 ⟨⟨c,rfl,hc⟩,g1⟩;have gA:=Aa (World.grownBy_alloc w (.cells #[.int .i64 1,.int .i64 0,str vs] 23 (0,0)) none) g1;have hbx:=(Blk.new w [.int .i64 1,.int .i64 0,str vs] 23).gb g1 (by simp);have h1:=HH.out.gbN gA;have HA:=O (Z gA h1);have x0:=hbx.cell 0;have x1:=hbx.cell 1;have x2:=hbx.cell 2;have hxl:=hbx.lt;simp only[List.getElem?_cons_zero,List.getElem?_cons_succ]at x0 x1 x2;rw[HO.out]at hc;have hc0:(c !=0)=false:=by simpa using hc
   clear gA g1 hbx h1;go_wp2_with fail;refine(Bl (HA.out.2.gbN (World.grownBy_alloc w1 (.cells #[.string ⟨#[46,70,46]⟩,.string ⟨#[46,84,46]⟩] 9 (0,0)) none)) [46,70,46] (by have:=HC.out.1;omega) (by have:=HC.out.2;simp;omega)).mono ?_;rintro e w2 ⟨rfl,o2,p2,r2,ov2,h2,k2,q2⟩;go_wp2;go_end0;exact⟨rfl,_,_,_,_,h2,k2.pre (Aa HA.out.1 (World.grownBy_alloc w1 (.cells #[.string ⟨#[46,70,46]⟩,.string ⟨#[46,84,46]⟩] 9 (0,0)) none)),q2.le (Nat.le_refl _) (by simp)⟩
  ·have HM2:=O (HM.trans (by rw[if_neg (by omega)]));rw[HM2.out];clear HM hv hl hc h0;go_enter func78,ntmps78;go_wp2_with fail;refine(HV.out _).mono ?_;rintro e w1 ⟨⟨c,rfl,hc⟩,g1⟩;have gA:=Aa (World.grownBy_alloc w (.cells #[.int .i64 1,.int .i64 1,str vs] 23 (0,0)) none) g1;have hbx:=(Blk.new w [.int .i64 1,.int .i64 1,str vs] 23).gb g1 (by simp);have h1:=HH.out.gbN gA;have HA:=O (Z gA h1);have x0:=hbx.cell 0;have x1:=hbx.cell 1;have x2:=hbx.cell 2;have hxl:=hbx.lt;simp only[List.getElem?_cons_zero,List.getElem?_cons_succ]at x0 x1 x2;rw[HO.out]at hc;have hc0:(c !=0)=false:=by simpa using hc
   clear gA g1 hbx h1;go_wp2_with fail;refine(Bl (HA.out.2.gbN (World.grownBy_alloc w1 (.cells #[.string ⟨#[46,70,46]⟩,.string ⟨#[46,84,46]⟩] 9 (0,0)) none)) [46,84,46] (by have:=HC.out.1;omega) (by have:=HC.out.2;simp;omega)).mono ?_;rintro e w2 ⟨rfl,o2,p2,r2,ov2,h2,k2,q2⟩;go_wp2;go_end0;exact⟨rfl,_,_,_,_,h2,k2.pre (Aa HA.out.1 (World.grownBy_alloc w1 (.cells #[.string ⟨#[46,70,46]⟩,.string ⟨#[46,84,46]⟩] 9 (0,0)) none)),q2.le (Nat.le_refl _) (by simp)⟩
 have c1:(vk==1)=false:=by simpa using h1
 rw[if_neg h1]at HM;by_cases h2:vk=2
 ·subst h2;rw[if_pos rfl]at HM;obtain⟨n0,n1⟩:=I5 (h:=HdV 2 vn vs) rfl hv;change -1000000000000000≤vn at n0;change vn≤1000000000000000 at n1;have hil:=Pt n0 n1;have HW:=O (fun W=>LC vn (by omega) (by omega) W);clear hv hl hc h0 h1;generalize itoa vn=s at*;by_cases hneg:vn<0
  ·have hnI:decide (vn<0)=true:=by simpa using hneg
   have HM2:=O (HM.trans (if_pos (.inl hneg)));rw[HM2.out];clear HM;go_enter func78,ntmps78;go_wp2_with fail;refine(HV.out _).mono ?_;rintro e w1 ⟨⟨c,rfl,hc⟩,g1⟩;have gA:=Aa (World.grownBy_alloc w (.cells #[.int .i64 2,.int .i64 vn,str vs] 23 (0,0)) none) g1;have hbx:=(Blk.new w [.int .i64 2,.int .i64 vn,str vs] 23).gb g1 (by simp);have h1:=HH.out.gbN gA;have HA:=O (Z gA h1);have x0:=hbx.cell 0;have x1:=hbx.cell 1;have x2:=hbx.cell 2;have hxl:=hbx.lt;simp only[List.getElem?_cons_zero,List.getElem?_cons_succ]at x0 x1 x2;rw[HO.out]at hc;have hc0:(c !=0)=false:=by simpa using hc
   clear gA g1 hbx h1;go_wp2_with fail;refine(HW.out _).mono ?_;rintro e w2 ⟨rfl,g2⟩;have hb2:=HA.out.2.gbN g2;have y1:=Af g2 x1;have d2:=hb2.c2;have f2:=hb2.fr 2;have hb:=hb2.lt;have HB:=O hb2;clear x0 x1 x2;go_wp2_with fail;refine(CW HB.out.setWrong 1 s s (by have:=HC.out.1;omega) (by have:=HC.out.2;omega)).mono ?_;rintro e w3 ⟨rfl,ov3,h3,k3⟩;go_wp2;go_end0;exact⟨rfl,_,_,_,_,h3,(((WK.of_none HA.out.1).gbN g2).gbB (AE (Ac _ (some b)) 2 _)).trans k3,Wr.bad (by simp) (by simp;omega)⟩
  ·have hnI:decide (vn<0)=false:=by simpa using hneg
   by_cases h15:15<s.length
   ·have h15I:decide ((15:Int)<(s.length:Int))=true:=by simp;omega
    have HM2:=O (HM.trans (if_pos (.inr h15)));rw[HM2.out];clear HM;go_enter func78,ntmps78;go_wp2_with fail;refine(HV.out _).mono ?_;rintro e w1 ⟨⟨c,rfl,hc⟩,g1⟩;have gA:=Aa (World.grownBy_alloc w (.cells #[.int .i64 2,.int .i64 vn,str vs] 23 (0,0)) none) g1;have hbx:=(Blk.new w [.int .i64 2,.int .i64 vn,str vs] 23).gb g1 (by simp);have h1:=HH.out.gbN gA;have HA:=O (Z gA h1);have x0:=hbx.cell 0;have x1:=hbx.cell 1;have x2:=hbx.cell 2;have hxl:=hbx.lt;simp only[List.getElem?_cons_zero,List.getElem?_cons_succ]at x0 x1 x2;rw[HO.out]at hc;have hc0:(c !=0)=false:=by simpa using hc
    clear gA g1 hbx h1;go_wp2_with fail;refine(HW.out _).mono ?_;rintro e w2 ⟨rfl,g2⟩;have hb2:=HA.out.2.gbN g2;have y1:=Af g2 x1;have d2:=hb2.c2;have f2:=hb2.fr 2;have hb:=hb2.lt;have HB:=O hb2;clear x0 x1 x2;go_wp2_with fail;refine(CW HB.out.setWrong 1 s s (by have:=HC.out.1;omega) (by have:=HC.out.2;omega)).mono ?_;rintro e w3 ⟨rfl,ov3,h3,k3⟩;go_wp2;go_end0;exact⟨rfl,_,_,_,_,h3,(((WK.of_none HA.out.1).gbN g2).gbB (AE (Ac _ (some b)) 2 _)).trans k3,Wr.bad (by simp) (by simp;omega)⟩
   ·have h15I:decide ((15:Int)<(s.length:Int))=false:=by simp;omega
    have HM2:=O (HM.trans (if_neg (by rintro(e|e);exact hneg e;exact h15 e)));rw[HM2.out];clear HM;go_enter func78,ntmps78;go_wp2_with fail;refine(HV.out _).mono ?_;rintro e w1 ⟨⟨c,rfl,hc⟩,g1⟩;have gA:=Aa (World.grownBy_alloc w (.cells #[.int .i64 2,.int .i64 vn,str vs] 23 (0,0)) none) g1;have hbx:=(Blk.new w [.int .i64 2,.int .i64 vn,str vs] 23).gb g1 (by simp);have h1:=HH.out.gbN gA;have HA:=O (Z gA h1);have x0:=hbx.cell 0;have x1:=hbx.cell 1;have x2:=hbx.cell 2;have hxl:=hbx.lt;simp only[List.getElem?_cons_zero,List.getElem?_cons_succ]at x0 x1 x2;rw[HO.out]at hc;have hc0:(c !=0)=false:=by simpa using hc
    clear gA g1 hbx h1;go_wp2_with fail;refine(HW.out _).mono ?_;rintro e w2 ⟨rfl,g2⟩;have hb2:=HA.out.2.gbN g2;have y1:=Af g2 x1;have HB:=O hb2;clear x0 x1 x2 hb2;go_wp2_with fail;refine(CW HB.out 1 s s (by have:=HC.out.1;omega) (by have:=HC.out.2;omega)).mono ?_;rintro e w3 ⟨rfl,ov3,h3,k3⟩;go_wp2;go_end0;exact⟨rfl,_,_,_,_,h3,((WK.of_none HA.out.1).gbN g2).trans k3,(Wr.one _ _).le (Nat.le_refl _) (by omega)⟩
 have c2:(vk==2)=false:=by simpa using h2
 rw[if_neg h2]at HM;by_cases h3:vk=3
 ·subst h3;rw[if_pos rfl]at HM;have hvn:0≤vn∧vn≤3652059:=by
   unfold A4 HdV at hv;simp at hv;exact hv.1.2
  by_cases hz:vn=0
  ·subst hz;have HM2:=O (HM.trans (if_pos rfl));rw[HM2.out];clear HM hv hl hc h0 h1 h2 hvn;go_enter func78,ntmps78;go_wp2_with fail;refine(HV.out _).mono ?_;rintro e w1 ⟨⟨c,rfl,hc⟩,g1⟩;have gA:=Aa (World.grownBy_alloc w (.cells #[.int .i64 3,.int .i64 0,str vs] 23 (0,0)) none) g1;have hbx:=(Blk.new w [.int .i64 3,.int .i64 0,str vs] 23).gb g1 (by simp);have h1:=HH.out.gbN gA;have HA:=O (Z gA h1);have x0:=hbx.cell 0;have x1:=hbx.cell 1;have x2:=hbx.cell 2;have hxl:=hbx.lt;simp only[List.getElem?_cons_zero,List.getElem?_cons_succ]at x0 x1 x2;rw[HO.out]at hc;have hc0:(c !=0)=false:=by simpa using hc
   clear gA g1 hbx h1;go_wp2_with fail;refine(CW HA.out.2 3 [] [123,125] (by have:=HC.out.1;omega) (by have:=HC.out.2;simp;omega)).mono ?_;rintro e w3 ⟨rfl,ov3,h3,k3⟩;go_wp2;go_end0;exact⟨rfl,_,_,_,_,h3,k3.pre HA.out.1,(Wr.one _ _).le (Nat.le_refl _) (by simp)⟩
  ·have hzI:(vn==0)=false:=by simpa using hz
   have HM2:=O (HM.trans (if_neg hz));rw[HM2.out];have HS:=O (fun W=>Nh vn (by omega) (by omega) W);have hl8:=IL (n:=vn) (by omega) (by omega);clear HM hv hl hc h0 h1 h2 hvn hz HM2;generalize Cp vn=s at*;match s,hl8 with
   | [a0,a1,a2,a3,a4,a5,a6,a7],_=>
   go_enter func78,ntmps78;go_wp2_with fail;refine(HV.out _).mono ?_;rintro e w1 ⟨⟨c,rfl,hc⟩,g1⟩;have gA:=Aa (World.grownBy_alloc w (.cells #[.int .i64 3,.int .i64 vn,str vs] 23 (0,0)) none) g1;have hbx:=(Blk.new w [.int .i64 3,.int .i64 vn,str vs] 23).gb g1 (by simp);have h1:=HH.out.gbN gA;have HA:=O (Z gA h1);have x0:=hbx.cell 0;have x1:=hbx.cell 1;have x2:=hbx.cell 2;have hxl:=hbx.lt;simp only[List.getElem?_cons_zero,List.getElem?_cons_succ]at x0 x1 x2;rw[HO.out]at hc;have hc0:(c !=0)=false:=by simpa using hc
   clear gA g1 hbx h1;go_wp2_with fail;refine(HS.out _).mono ?_;rintro e w2 ⟨rfl,g2⟩;have hB2:=HA.out.2.gbN g2;have HB:=O (Aa HA.out.1 g2);have HP:=O (fun(sv:ByteArray)(W:World)(hsv:sv.data.toList=DX [a0,a1,a2,a3,a4,a5,a6,a7])(gW:w2.grownBy W none)=>
    show Calls Tryz.prog 132 #[.pointer (some ⟨b,0,none⟩),.int .i64 3,str [a0,a1,a2,a3,a4,a5,a6,a7],.string sv] W _ from
     (J2 hsv ▸ CW (hB2.gbN gW) 3 [a0,a1,a2,a3,a4,a5,a6,a7] (DX [a0,a1,a2,a3,a4,a5,a6,a7]) (by have:=HC.out.1;omega) (by have:=HC.out.2;have:(DX [a0,a1,a2,a3,a4,a5,a6,a7]).length=13:=rfl;omega)))
   clear x0 x1 x2 hB2;go_wp2_with fail;go_region_with(first| (go_at_call 132;refine(HP.out _ _ (by rfl) ?_).mono ?_;(exact A3 (Ac _ none) _);rintro e w3 ⟨rfl,ov3,h3,k3⟩));all_goals
    go_wp2;go_end0;exact⟨rfl,_,_,_,_,h3,k3.pre (Aa HB.out (A3 (Ac _ none) _)),(Wr.one _ _).le (Nat.le_refl _) (by show 13≤3000;omega)⟩
 have c3:(vk==3)=false:=by simpa using h3
 rw[if_neg h3]at HM;have h4:vk=4:=by
  unfold A4 HdV at hv;simp[h0,h1,h2,h3]at hv;exact hv.1.2.1
 subst h4;change vs.length≤2048 at hl;have HM2:=O HM;rw[HM2.out];clear HM hv hc h0 h1 h2 h3;go_enter func78,ntmps78;go_wp2_with fail;refine(HV.out _).mono ?_;rintro e w1 ⟨⟨c,rfl,hc⟩,g1⟩;have gA:=Aa (World.grownBy_alloc w (.cells #[.int .i64 4,.int .i64 vn,str vs] 23 (0,0)) none) g1;have hbx:=(Blk.new w [.int .i64 4,.int .i64 vn,str vs] 23).gb g1 (by simp);have h1:=HH.out.gbN gA;have HA:=O (Z gA h1);have x0:=hbx.cell 0;have x1:=hbx.cell 1;have x2:=hbx.cell 2;have hxl:=hbx.lt;simp only[List.getElem?_cons_zero,List.getElem?_cons_succ]at x0 x1 x2;rw[HO.out]at hc;have hc0:(c !=0)=false:=by simpa using hc
 clear gA g1 hbx h1;go_wp2_with fail;refine(OH vs hs HA.out.2 (by have:=HC.out.1;omega) (by have:=HC.out.2;omega)).mono ?_;rintro e w2 ⟨rfl,o2,p2,r2,ov2,h2,k2,q2⟩;go_wp2;go_end0;exact⟨rfl,_,_,_,_,h2,k2.pre HA.out.1,q2.le (Nat.le_refl _) (by omega)⟩
end
end Go.Proofs.YtgjdhajcnechdaaGreatDoor
