/-
  Code: a text between quotes, the program's.
-/
import Derived.Test.YtahbajmkhjngiaaGreatDoorSx09
import Derived.Test.YtahbajmkhjngiaaGreatDoorSx06
set_option linter.all false
set_option maxRecDepth 100000
set_option maxHeartbeats 8000000
namespace Go.Proofs.YtahbajmkhjngiaaGreatDoor
open Go.Proofs.Tryz
open Go.RowKit
def T(n:Nat):UInt8:=UInt8.ofNat (if n<10 then 48+n else 87+n)
def Ah(b:UInt8):Bool:=decide (b.toNat<32)||decide (126<b.toNat)||b.toNat==34||b.toNat==37
def qtB(b:UInt8):Bs:=if Ah b then [37,T (b.toNat/16),T (b.toNat%16)]else [b]
def Aa(s:Bs):Nat→Bs
 | 0=>[34]
 |k+1=>Aa s k++qtB (bAt s k)
def qtM(s:Bs):Bs:=Aa s s.length++[34]
theorem Dv(b:UInt8):1≤(qtB b).length∧(qtB b).length≤3:=by unfold qtB;split<;>simp
theorem Bj(s:Bs)(k:Nat):(Aa s k).length≤3*k+1:=by
 induction k with
 |zero=>simp[Aa]
 | succ k ih=>
   have:=Dv (bAt s k);rw[Aa,List.length_append];omega
theorem Ci(n:Nat)(hn:n<16)(w:World):Calls Tryz.prog 57 #[.int .u8 n] w fun e w'=>e= .returned (str [T n])∧w=w':=by
 have h:n=0∨n=1∨n=2∨n=3∨n=4∨n=5∨n=6∨n=7∨n=8∨n=9∨n=10∨n=11∨n=12∨n=13∨n=14∨n=15:=by omega
 rcases h with rfl|rfl|rfl|rfl|rfl|rfl|rfl|rfl|rfl|rfl|rfl|rfl|rfl|rfl|rfl|rfl
 all_goals
  go_enter func57,ntmps57;go_wp2;go_ret;exact⟨rfl,rfl⟩
theorem A6(n:Nat)(hn:n<16)(i:Int)(hi:i=n)(w:World):Calls Tryz.prog 57 #[.int .u8 i] w fun e w'=>e= .returned (str [T n])∧w=w':=by
 subst hi;exact Ci n hn w
theorem Ak{b:UInt8}:b.toNat/16<16∧b.toNat%16<16:=by have:=b.toNat_lt;omega
structure Rng(w:World)(H:Nat)(s:Bs):Prop where
 byt:BytR s H w
 obj:∃cs t m,w.heap[H]? =some (.cells cs t (m,m+1))
theorem Rng.fr{w w1:World}{H b:Nat}{s:Bs}{v:Value}(h:Rng w H s)(f:FR w w1 b v)(hb:H≠b)(hv:v.ownBlock≠some H):Rng w1 H s∧w1.heap[H]? =w.heap[H]?:=by
 have e:=f.block H h.byt.lt hb hv;have hsz:=Nat.lt_of_lt_of_le h.byt.lt f.size;refine⟨⟨⟨fun j hj=>?_,fun j hj=>?_,hsz⟩,?_⟩,e⟩
 ·rw[World.cell?_of_block e];exact h.byt.cell j hj
 ·rw[World.frozen?_of_block e];exact h.byt.fr j hj
 ·rw[e];exact h.obj
theorem Rng.step{w0 w w1:World}{H b:Nat}{s l:Bs}{p v:Value}(h:Rng w H s)(hB:Bld w b p v l)(f:FR w w1 b v)(hb:H≠b)(g:w0.grownBy w none)(h0:w0.heap.size≤b):Rng w1 H s∧w0.grownBy w1 none:=by
 obtain⟨cs,t,m,ho⟩:=h.obj;exact⟨(h.fr f hb (hB.ne_bytes ho)).1,f.below (fun k e=>(hB.own k e).1) h0 rfl g⟩
theorem BL(s:Bs)(hs:s.length≤1000000000)(w:World):
 Calls Tryz.prog 36 #[str s] w fun e w'=>e= .returned (str (qtM s))∧w.grownBy w' none:=by
 have hsz:(⟨s.toArray⟩:ByteArray).size=s.length:=by simp[ByteArray.size]
 have HN:=D (Bld.new w);go_enter func36,ntmps36;go_wp2_with fail;refine(Ba HN.out (by simp) 34).mono ?_;rintro e w1 ⟨rfl,p1,v1,hB1,hF1⟩;have hconv:=run_bytes_of_string (P:=Tryz.prog) w1 9 58 5 ⟨s.toArray⟩ underlying9 underlying58 underlying5;rw[hsz]at hconv;generalize hcap:grownCap w1 s.length 0 5=cap at*;have gW:w1.grownBy (w1.drew.alloc (.cells (bytesRow ⟨s.toArray⟩ cap) 5 ((bytesRow ⟨s.toArray⟩ cap).size,(bytesRow ⟨s.toArray⟩ cap).size+1))) none:=Y (Ae (N _ _)) _;have g1:w.grownBy w1 none:=hF1.below (fun k e=>by simp[Value.ownBlock]at e) (Nat.le_refl _) rfl (World.grownBy_alloc _ _ _);have hH:w.heap.size<w1.heap.size:=hB1.lt;have H0:=D (I (hB1.gbN gW) (I (show Rng _ w1.heap.size s from⟨BytR.new w1 s cap,_,_,_,heap_alloc_new _ _⟩) (M g1 gW)));clear hB1 hF1 gW g1 hcap;generalize(w1.drew.alloc (.cells (bytesRow ⟨s.toArray⟩ cap) 5 ((bytesRow ⟨s.toArray⟩ cap).size,(bytesRow ⟨s.toArray⟩ cap).size+1)))=W at*;generalize w1.heap.size=H at*;go_wp2_with fail;go_loopg [5,10] s.length (fun g v5 v10 wr=>∃k:Nat,∃p v:Value,k+g=s.length∧v10= .int .i64 k∧Bld wr w.heap.size p v (Aa s k)∧Rng wr H s∧w.grownBy wr none)
 case atStart=>exact⟨0,_,_,by omega,rfl,H0.out.1,H0.out.2.1,H0.out.2.2⟩
 case round=>
  obtain⟨k,p,v,hk,rfl,hB,hR,hG⟩:=hrel;clear H0 hconv;have hql:=Bj s k;cases gk with
  | zero=>
    have hkl:k=s.length:=by omega
    have hj1:decide (k<s.length)=false:=by simp;omega
    have HB:=D (I hB hG);clear hB hR hG;subst hkl;go_wp2_with fail;refine(Ba HB.out.1 (by omega) 34).mono ?_;rintro e w2 ⟨rfl,p2,v2,hB2,hF2⟩;have g2:=hF2.below (fun q e=>(HB.out.1.own q e).1) (Nat.le_refl _) rfl HB.out.2;have HC:=D (I hB2 g2);clear hB2 hF2 g2;go_wp2_with fail;refine(CE HC.out.1 (by simp)).mono ?_;rintro e w3 ⟨rfl,g3⟩;have HD:=D (g3 _ HC.out.2 (Nat.le_refl _));clear g3;go_wp2;go_ret;exact⟨rfl,HD.out⟩
  | succ gk=>
    have hkl:k<s.length:=by omega
    have hj1:decide (k<s.length)=true:=by simp;omega
    have ck:=hR.byt.cell k hkl;have hlt:=hR.byt.lt;have hc256:=(bAt s k).toNat_lt;have HB:=D (I hB (I hR hG));have HW:=D (fun(c:UInt8)=>Ba hB (by omega) c);have HS:=D (fun(t:Bs)(ht:t.length≤3)=>AZ hB t (by omega));clear hB hR hG;by_cases h1:(bAt s k).toNat<32
    ·have i1:((bAt s k).toNat:Int)<32:=by omega
     have HE:=D (show Ah (bAt s k)=true by simp[Ah,h1]);go_wp2_with fail;refine(A6 ((bAt s k).toNat/16) Ak.1 _ (by omega) _).mono ?_;rintro e w2 ⟨rfl,rfl⟩;go_wp2_with fail;refine(A6 ((bAt s k).toNat%16) Ak.2 _ (by omega) _).mono ?_;rintro e w2 ⟨rfl,rfl⟩;go_wp2_with fail;rw[show Value.string ({data:=#[37]}++{data:=#[T ((bAt s k).toNat/16)]}++{data:=#[T ((bAt s k).toNat%16)]})=str [37,T ((bAt s k).toNat/16),T ((bAt s k).toNat%16)]from rfl];refine(HS.out [37,T ((bAt s k).toNat/16),T ((bAt s k).toNat%16)] (by simp)).mono ?_;rintro e w2 ⟨rfl,p2,v2,hB2,hF2⟩;obtain⟨hR2,hG2⟩:=HB.out.2.1.step HB.out.1 hF2 (by omega) HB.out.2.2 (Nat.le_refl _);have HC:=D (I hB2 (I hR2 hG2));clear hB2 hF2 hR2 hG2;go_wp2;go_roundg gk
     case measure=>omega
     case rel=>exact⟨k+1,p2,v2,by omega,by go_num,by rw[Aa,qtB,if_pos HE.out];exact HC.out.1,HC.out.2.1,HC.out.2.2⟩
    by_cases h2:126<(bAt s k).toNat
    ·have i1:¬((bAt s k).toNat:Int)<32:=by omega
     have i2:126<((bAt s k).toNat:Int):=by omega
     have HE:=D (show Ah (bAt s k)=true by simp[Ah,h2]);go_wp2_with fail;refine(A6 ((bAt s k).toNat/16) Ak.1 _ (by omega) _).mono ?_;rintro e w2 ⟨rfl,rfl⟩;go_wp2_with fail;refine(A6 ((bAt s k).toNat%16) Ak.2 _ (by omega) _).mono ?_;rintro e w2 ⟨rfl,rfl⟩;go_wp2_with fail;rw[show Value.string ({data:=#[37]}++{data:=#[T ((bAt s k).toNat/16)]}++{data:=#[T ((bAt s k).toNat%16)]})=str [37,T ((bAt s k).toNat/16),T ((bAt s k).toNat%16)]from rfl];refine(HS.out [37,T ((bAt s k).toNat/16),T ((bAt s k).toNat%16)] (by simp)).mono ?_;rintro e w2 ⟨rfl,p2,v2,hB2,hF2⟩;obtain⟨hR2,hG2⟩:=HB.out.2.1.step HB.out.1 hF2 (by omega) HB.out.2.2 (Nat.le_refl _);have HC:=D (I hB2 (I hR2 hG2));clear hB2 hF2 hR2 hG2;go_wp2;go_roundg gk
     case measure=>omega
     case rel=>exact⟨k+1,p2,v2,by omega,by go_num,by rw[Aa,qtB,if_pos HE.out];exact HC.out.1,HC.out.2.1,HC.out.2.2⟩
    by_cases h3:(bAt s k).toNat=34
    ·have i1:¬((bAt s k).toNat:Int)<32:=by omega
     have i2:¬126<((bAt s k).toNat:Int):=by omega
     have i3:((bAt s k).toNat:Int)=34:=by omega
     have i4:(((bAt s k).toNat:Int)==34)=true:=by simpa using i3
     have HE:=D (show Ah (bAt s k)=true by simp[Ah,h3]);clear i3 h3;go_wp2_with fail;refine(A6 ((bAt s k).toNat/16) Ak.1 _ (by omega) _).mono ?_;rintro e w2 ⟨rfl,rfl⟩;go_wp2_with fail;refine(A6 ((bAt s k).toNat%16) Ak.2 _ (by omega) _).mono ?_;rintro e w2 ⟨rfl,rfl⟩;go_wp2_with fail;rw[show Value.string ({data:=#[37]}++{data:=#[T ((bAt s k).toNat/16)]}++{data:=#[T ((bAt s k).toNat%16)]})=str [37,T ((bAt s k).toNat/16),T ((bAt s k).toNat%16)]from rfl];refine(HS.out [37,T ((bAt s k).toNat/16),T ((bAt s k).toNat%16)] (by simp)).mono ?_;rintro e w2 ⟨rfl,p2,v2,hB2,hF2⟩;obtain⟨hR2,hG2⟩:=HB.out.2.1.step HB.out.1 hF2 (by omega) HB.out.2.2 (Nat.le_refl _);have HC:=D (I hB2 (I hR2 hG2));clear hB2 hF2 hR2 hG2;go_wp2;go_roundg gk
     case measure=>omega
     case rel=>exact⟨k+1,p2,v2,by omega,by go_num,by rw[Aa,qtB,if_pos HE.out];exact HC.out.1,HC.out.2.1,HC.out.2.2⟩
    by_cases h4:(bAt s k).toNat=37
    ·have i1:¬((bAt s k).toNat:Int)<32:=by omega
     have i2:¬126<((bAt s k).toNat:Int):=by omega
     have i4:(((bAt s k).toNat:Int)==34)=false:=by simp;omega
     have i5:(((bAt s k).toNat:Int)==37)=true:=by simp;omega
     have HE:=D (show Ah (bAt s k)=true by simp[Ah,h4]);clear h4;go_wp2_with fail;refine(A6 ((bAt s k).toNat/16) Ak.1 _ (by omega) _).mono ?_;rintro e w2 ⟨rfl,rfl⟩;go_wp2_with fail;refine(A6 ((bAt s k).toNat%16) Ak.2 _ (by omega) _).mono ?_;rintro e w2 ⟨rfl,rfl⟩;go_wp2_with fail;rw[show Value.string ({data:=#[37]}++{data:=#[T ((bAt s k).toNat/16)]}++{data:=#[T ((bAt s k).toNat%16)]})=str [37,T ((bAt s k).toNat/16),T ((bAt s k).toNat%16)]from rfl];refine(HS.out [37,T ((bAt s k).toNat/16),T ((bAt s k).toNat%16)] (by simp)).mono ?_;rintro e w2 ⟨rfl,p2,v2,hB2,hF2⟩;obtain⟨hR2,hG2⟩:=HB.out.2.1.step HB.out.1 hF2 (by omega) HB.out.2.2 (Nat.le_refl _);have HC:=D (I hB2 (I hR2 hG2));clear hB2 hF2 hR2 hG2;go_wp2;go_roundg gk
     case measure=>omega
     case rel=>exact⟨k+1,p2,v2,by omega,by go_num,by rw[Aa,qtB,if_pos HE.out];exact HC.out.1,HC.out.2.1,HC.out.2.2⟩
    have i1:¬((bAt s k).toNat:Int)<32:=by omega
    have i2:¬126<((bAt s k).toNat:Int):=by omega
    have i4:(((bAt s k).toNat:Int)==34)=false:=by simp;omega
    have i5:(((bAt s k).toNat:Int)==37)=false:=by simp;omega
    have HE:=D (show Ah (bAt s k)=false by simp[Ah,h1,h2,h3,h4]);go_wp2_with fail;refine(HW.out (bAt s k)).mono ?_;rintro e w2 ⟨rfl,p2,v2,hB2,hF2⟩;obtain⟨hR2,hG2⟩:=HB.out.2.1.step HB.out.1 hF2 (by omega) HB.out.2.2 (Nat.le_refl _);have HC:=D (I hB2 (I hR2 hG2));clear hB2 hF2 hR2 hG2;go_wp2;go_roundg gk
    case measure=>omega
    case rel=>exact⟨k+1,p2,v2,by omega,by go_num,by rw[Aa,qtB,HE.out];exact HC.out.1,HC.out.2.1,HC.out.2.2⟩
end Go.Proofs.YtahbajmkhjngiaaGreatDoor
