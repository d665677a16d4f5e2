/-
  slices.Clone and slices.Contains at rows of texts. The reference: IsWord, IsName, Validate of a value, Written, Padded. Plain laws: how long the text of an expression is. SameTexts of two rows of text
-/
import Derived.Test.YtgjdhajcnechdaaGreatDoorSw24
import Derived.Test.YtgjdhajcnechdaaGreatDoorPlain
import Derived.Test.YtgjdhajcnechdaaGreatDoorSw21
import Derived.Test.YtgjdhajcnechdaaGreatDoorSw19
import Derived.Test.YtgjdhajcnechdaaGreatDoorSw14
import Derived.Test.YtgjdhajcnechdaaGreatDoorSw04
import Derived.Test.YtgjdhajcnechdaaGreatDoorSw27
import Derived.Test.YtgjdhajcnechdaaGreatDoorSw26
import Derived.Test.YtgjdhajcnechdaaGreatDoorSw10
import Derived.Test.YtgjdhajcnechdaaGreatDoorSw08
set_option linter.all false
set_option maxRecDepth 100000
set_option maxHeartbeats 8000000
namespace Go.Proofs.YtgjdhajcnechdaaGreatDoor
open Go.Proofs.Tryz
open Go.RowKit
theorem Below.gbN{w w':World}(h:Below w.heap.size w w'):w.grownBy w' none:=⟨h.os,h.tape,h.output,h.size,fun k hk _=>h.block k hk⟩
section
variable {w:World}{l:List Bs}{pa:Option Addr}{pc:Nat}{ok:Nat→Prop}
theorem Cells.strs(h:Cells w (.slice pa l.length pc) 1 l.length (l.map str) ok)(hl:0<l.length):∃g o,pa=some ⟨g,o,none⟩∧∀j,j<l.length→w.cell? ⟨g,o+j,none⟩=some (.string ((l.map fun x=>(⟨x.toArray⟩:ByteArray)).getD j ByteArray.empty)):=by
 have SR:=SRow.of_cells h;obtain⟨a,cap,e,_,_,hat⟩:=SR;cases e;obtain⟨g,o,rfl,_,_⟩:=hat 0 hl;refine⟨g,o,rfl,fun j hj=>?_⟩;obtain⟨g',o',e,_,c⟩:=hat j hj;cases e;rw[c];simp[List.getD,hj]
theorem Fv(h:Cells w (.slice pa l.length pc) 1 l.length (l.map str) ok)(hl:l.length≤8000000):
 Calls Tryz.prog 54 #[.slice pa l.length pc] w fun e w'=>∃v,e= .returned v∧w'.ownsRow w.heap.size 9 1 v l.length (l.map str)∧w.grownBy w' none:=by
 rcases Nat.eq_zero_or_pos l.length with h0|h0
 ·have e0:l=[]:=List.eq_nil_of_length_eq_zero h0;subst e0;cases pa with
  | none=>
    refine(slices_Clone_string_nil 0 pc w).mono ?_;rintro e w' ⟨rfl,rfl⟩;exact⟨_,rfl,World.ownsRow_nil _ _ _ _,Ac _ _⟩
  | some a=>
    refine(slices_Clone_string_zero a pc w).mono ?_;rintro e w' ⟨v,rfl,h1,_,h2⟩;exact⟨v,rfl,h1,Below.gbN h2⟩
 ·obtain⟨g,o,rfl,hc⟩:=h.strs h0;refine(slices_Clone_string g o l.length pc (l.map fun x=>⟨x.toArray⟩) w (by simp) (by omega) (fun j hj=>hc j (by simpa using hj))).mono ?_;rintro e w' ⟨v,rfl,h1,_,h2⟩;refine⟨v,rfl,?_,Below.gbN h2⟩;rw[List.take_of_length_le (by simp),List.map_map]at h1;exact h1
theorem Lz(L:List Bs)(s:Bs):Lib.containsS (L.map fun x=>⟨x.toArray⟩) ⟨s.toArray⟩=L.contains s:=by
 rw[Bool.eq_iff_iff,Lib.containsS_iff,List.contains_iff_mem,List.mem_map];constructor
 ·rintro⟨x,hx,e⟩;have e2:x=s:=by simpa using congrArg (fun b:ByteArray=>b.data.toList) e
  subst e2;exact hx
 ·exact fun h=>⟨s,h,rfl⟩
theorem Ii(h:Cells w (.slice pa l.length pc) 1 l.length (l.map str) ok)(hl:l.length≤8000000)(s:Bs):
 Calls Tryz.prog 52 #[.slice pa l.length pc,str s] w fun e w'=>e= .returned (.bool (l.contains s))∧w'=w:=by
 rcases Nat.eq_zero_or_pos l.length with h0|h0
 ·have e0:l=[]:=List.eq_nil_of_length_eq_zero h0;subst e0;exact slices_Contains_string_empty pa pc ⟨s.toArray⟩ w
 ·obtain⟨g,o,rfl,hc⟩:=h.strs h0;refine(slices_Contains_string g o l.length pc (l.map fun x=>⟨x.toArray⟩) ⟨s.toArray⟩ w (by simp) (by omega) (fun j hj=>hc j (by simpa using hj))).mono ?_;rintro e w' ⟨rfl,rfl⟩;rw[List.take_of_length_le (by simp),Lz];exact⟨rfl,rfl⟩
end
open Go.Lib
def okB(p:Bool)(b:UInt8):Bool:=(cls 1 b||(p&&cls 2 b))&&!(97≤b.toNat&&b.toNat≤122)
theorem S9:∀n:Fin 256,okB true (UInt8.ofNat n.val)=C1 (UInt8.ofNat n.val)∧okB false (UInt8.ofNat n.val)=(C1 (UInt8.ofNat n.val)&&!(48≤UInt8.ofNat n.val&&UInt8.ofNat n.val≤57)):=by decide+kernel
theorem F_S(b:UInt8):okB true b=C1 b∧okB false b=(C1 b&&!(48≤b&&b≤57)):=by
 have:=S9 ⟨b.toNat,b.toNat_lt⟩;simpa using this
theorem N9{s:Bs}(h0:s≠[])(h1:s.length≤10):(∀j,j<s.length→okB (decide (0<j)) (s.getD j 0)=true)→An s=true:=by
 intro h;cases s with
 |nil=>exact absurd rfl h0
 | cons c t=>
   have hc:=h 0 (by simp);have e0:((c::t).getD 0 0)=c:=rfl;rw[e0,show decide (0<0)=false from rfl,(F_S c).2,Bool.and_eq_true]at hc;have ha:(c::t).all C1=true:=by
    refine Hh (d:=0) fun j hj=>?_;rcases Nat.eq_zero_or_pos j with rfl|hp
    ·exact hc.1
    ·have:=h j hj;rw[show decide (0<j)=true by simpa using hp,(F_S _).1]at this;exact this
   have hl:decide ((c::t).length≤10)=true:=by simpa using h1
   unfold An;rw[ha,hl];simpa using hc.2
theorem N8{s:Bs}{k:Nat}(hk:k<s.length)(hb:okB (decide (0<k)) (s.getD k 0)=false):An s=false:=by
 cases hn:An s with
 |false=>rfl
 | true=>
   exfalso;unfold An at hn;simp only[Bool.and_eq_true]at hn;have hall:=List.all_eq_true.1 hn.2 (s.getD k 0) (by rw[List.getD_eq_getElem?_getD,List.getElem?_eq_getElem hk];exact List.getElem_mem hk);cases s with
   |nil=>simp at hk
   | cons c t=>
     rcases Nat.eq_zero_or_pos k with rfl|hp
     ·have e0:((c::t).getD 0 0)=c:=rfl;rw[e0,show decide (0<0)=false from rfl,(F_S c).2]at hb;rw[e0]at hall;rw[hall]at hb;have h4:(!(decide (48≤c)&&decide (c≤57)))=true:=hn.1.2;rw[h4]at hb;cases hb
     ·rw[show decide (0<k)=true by simpa using hp,(F_S _).1,hall]at hb;cases hb
theorem I3{s:Bs}(h:s=[]∨10<s.length):An s=false:=by
 rcases h with rfl|h
 ·rfl
 ·unfold An;rw[show decide (s.length≤10)=false by simp;omega];simp
theorem GP{p:Bool}{c:UInt8}(h1:cls 1 c=true∨(p=true∧cls 2 c=true))(h2:¬(97≤c.toNat∧c.toNat≤122)):okB p c=true:=by
 unfold okB;have h3:(decide (97≤c.toNat)&&decide (c.toNat≤122))=false:=by
  rw[Bool.and_eq_false_iff,decide_eq_false_iff_not,decide_eq_false_iff_not];omega
 rw[h3];rcases h1 with h| ⟨rfl,h⟩
 ·rw[h];rfl
 ·rw[h];simp
theorem P8:∀n:Fin 256,cls 2 (UInt8.ofNat n.val)=true→(UInt8.ofNat n.val).toNat<97:=by decide+kernel
theorem Rs{b:UInt8}(h:cls 2 b=true):b.toNat<97:=by
 have:=P8 ⟨b.toNat,b.toNat_lt⟩;simp only[UInt8.ofNat_toNat]at this;exact this h
theorem Mu(s:Bs)(hs:s.length≤4000000)(w:World):Calls Tryz.prog 176 #[str s,.int .i64 10] w fun e w'=>e= .returned (.bool (An s))∧w.grownBy w' none:=by
 by_cases h1:s.length<1
 ·have hI:decide ((s.length:Int)<1)=true:=by simp;omega
  have HF:=O (I3 (s:=s) (.inl (List.eq_nil_of_length_eq_zero (by omega))));go_enter func176,ntmps176;go_wp2;go_ret;exact⟨by rw[HF.out];rfl,Ac _ _⟩
 have hI1:decide ((s.length:Int)<1)=false:=by simp;omega
 by_cases h10:10<s.length
 ·have hI:decide ((10:Int)<(s.length:Int))=true:=by simp;omega
  have HF:=O (I3 (s:=s) (.inr h10));go_enter func176,ntmps176;go_wp2;go_ret;exact⟨by rw[HF.out];rfl,Ac _ _⟩
 have hI2:decide ((10:Int)<(s.length:Int))=false:=by simp;omega
 have HN:=O (Z (show s≠[]by rintro rfl;exact h1 (by simp)) (show s.length≤10 by omega));clear h1 h10;go_enter func176,ntmps176;go_wp2_with fail;go_loopg [5] s.length (fun g v5 wr=>∃k:Nat,k+g=s.length∧v5= .int .i64 k∧(∀j,j<k→okB (decide (0<j)) (s.getD j 0)=true)∧w.grownBy wr none)
 case atStart=>exact⟨0,by omega,rfl,fun j hj=>by omega,Ac _ _⟩
 case round=>
  obtain⟨k,hk,rfl,hp,gr⟩:=hrel;by_cases hkl:k<s.length
  ·have hj1:decide ((k:Int)<(s.length:Int))=true:=by simp;omega
   have hj2:decide (k<s.length)=true:=by simpa using hkl
   have hgk:∀h,(⟨s.toArray⟩:ByteArray)[k]'h=bAt s k:=fun h=>C3 s k h hkl;have hbad:=fun(h:okB (decide (0<k)) (bAt s k)=false)=>N8 (s:=s) hkl h;have HP:=O (Z hp gr);have hgood:okB (decide (0<k)) (s.getD k 0)=okB (decide (0<k)) (bAt s k):=rfl;clear hp gr;generalize bAt s k=c at*;cases hL:cls 1 c with
   | true=>
     have HL:=O hL;by_cases h97:97≤c.toNat
     ·have h97I:decide ((97:Int)≤(c.toNat:Int))=true:=by simp;omega
      by_cases h122:c.toNat≤122
      ·have h122I:decide ((c.toNat:Int)≤122)=true:=by simp;omega
       have HF:=O (hbad (by unfold okB;simp[h97,h122]));clear hbad hgood hL;go_wp2_with fail;refine(Ev c _).mono ?_;rintro e w1 ⟨rfl,rfl⟩;rw[HL.out];go_wp2;go_ret;exact⟨by rw[HF.out];rfl,HP.out.2⟩
      ·have h122I:decide ((c.toNat:Int)≤122)=false:=by simp;omega
       have HC:=O (hgood.trans (GP (.inl hL) (by omega)));clear hbad hgood hL;go_wp2_with fail;refine(Ev c _).mono ?_;rintro e w1 ⟨rfl,rfl⟩;rw[HL.out];go_wp2;go_roundg (s.length-(k+1))
       case measure=>omega
       case rel=>exact⟨k+1,by omega,by go_num,fun j hj=>by rcases Nat.lt_succ_iff_lt_or_eq.1 hj with h|rfl;exact HP.out.1 j h;exact HC.out,HP.out.2⟩
     ·have h97I:decide ((97:Int)≤(c.toNat:Int))=false:=by simp;omega
      have HC:=O (hgood.trans (GP (.inl hL) (by omega)));clear hbad hgood hL;go_wp2_with fail;refine(Ev c _).mono ?_;rintro e w1 ⟨rfl,rfl⟩;rw[HL.out];go_wp2;go_roundg (s.length-(k+1))
      case measure=>omega
      case rel=>exact⟨k+1,by omega,by go_num,fun j hj=>by rcases Nat.lt_succ_iff_lt_or_eq.1 hj with h|rfl;exact HP.out.1 j h;exact HC.out,HP.out.2⟩
   | false=>
     have HL:=O hL;by_cases hk0:0<k
     ·have hk0I:decide ((0:Int)<(k:Int))=true:=by simp;omega
      have hkd:decide (0<k)=true:=by simpa using hk0
      cases hD:cls 2 c with
      | false=>
        have HD:=O hD;have HF:=O (hbad (by unfold okB;simp[hL,hD]));clear hbad hgood hL hD;go_wp2_with fail;refine(Ev c _).mono ?_;rintro e w1 ⟨rfl,rfl⟩;rw[HL.out];go_wp2_with fail;refine(Es c _).mono ?_;rintro e w1 ⟨rfl,rfl⟩;rw[HD.out];go_wp2;go_ret;exact⟨by rw[HF.out];rfl,HP.out.2⟩
      | true=>
        have HD:=O hD;have h57:c.toNat<97:=Rs hD;have h97I:decide ((97:Int)≤(c.toNat:Int))=false:=by simp;omega
        have HC:=O (hgood.trans (GP (.inr ⟨hkd,hD⟩) (by omega)));clear hbad hgood hL hD;go_wp2_with fail;refine(Ev c _).mono ?_;rintro e w1 ⟨rfl,rfl⟩;rw[HL.out];go_wp2_with fail;refine(Es c _).mono ?_;rintro e w1 ⟨rfl,rfl⟩;rw[HD.out];go_wp2;go_roundg (s.length-(k+1))
        case measure=>omega
        case rel=>exact⟨k+1,by omega,by go_num,fun j hj=>by rcases Nat.lt_succ_iff_lt_or_eq.1 hj with h|rfl;exact HP.out.1 j h;exact HC.out,HP.out.2⟩
     ·have hk0I:decide ((0:Int)<(k:Int))=false:=by simp;omega
      have HF:=O (hbad (by unfold okB;simp[hL,hk0]));clear hbad hgood hL;go_wp2_with fail;refine(Ev c _).mono ?_;rintro e w1 ⟨rfl,rfl⟩;rw[HL.out];go_wp2;go_ret;exact⟨by rw[HF.out];rfl,HP.out.2⟩
  ·have hj1:decide (k<s.length)=false:=by simpa using hkl
   have HF:=O (Z (N9 HN.out.1 HN.out.2 (fun j hj=>hp j (by omega))) gr);clear hp gr;go_wp2;go_ret;exact⟨by rw[HF.out.1];rfl,HF.out.2⟩
theorem Mt(s:Bs)(hs:s.length≤4000000)(w:World):Calls Tryz.prog 135 #[str s] w fun e w'=>e= .returned (.bool (An s))∧w.grownBy w' none:=by
 have H:=O (Mu s hs w);go_enter func135,ntmps135;go_wp2_with fail;refine H.out.mono ?_;rintro e w1 ⟨rfl,hb⟩;go_wp2;go_ret;exact⟨rfl,hb⟩
theorem K9{u:Nat}(h:10≤u):decDigits u=decDigits (u/10)++decDigits (u%10):=by
 have h1:decDigits u=decDigits (u/10)++[UInt8.ofNat (48+u%10)]:=by rw[decDigits];exact if_neg (by omega)
 have h2:decDigits (u%10)=[UInt8.ofNat (48+u%10)]:=by rw[decDigits];exact if_pos (by omega)
 rw[h1,h2]
theorem Le{u:Nat}(h:u<10):decDigits u=[UInt8.ofNat (48+u)]:=by rw[decDigits];exact if_pos h
theorem EF:∀(k u:Nat),u<10 ^ (k+1)→nDigits u≤k+1:=by
 intro k;induction k with
 |zero=>intro u h;rw[nDigits_small (by simpa using h)];omega
 | succ k ih=>
   intro u h;by_cases h0:u<10
   ·rw[nDigits_small h0];omega
   ·rw[nDigits_big h0];have:=ih (u/10) (by rw[Nat.pow_succ]at h;omega);omega
theorem Gj:∀(N u:Nat),u<N→u≤9000000000000000000→∀(w:World),Calls Tryz.prog 131 #[.int .i64 u] w fun e w'=>e= .returned (str (decDigits u))∧w.grownBy w' none:=by
 intro N;induction N with
 |zero=>intro u h;omega
 | succ N ih=>
   intro u hN hu w;have hneg:decide ((u:Int)<0)=false:=by simp
   by_cases h:u<10
   ·have hI:decide ((u:Int)<10)=true:=by simp;omega
    have HD:=O (Le h);have HC:=O (Gp u h);clear ih;go_enter func131,ntmps131;go_wp2;go_ret;refine⟨?_,Ac _ _⟩;rw[HD.out];exact congrArg (fun b=>Ending.returned (Value.string b)) HC.out
   ·have hI:decide ((u:Int)<10)=false:=by simp;omega
    have HD:=O (K9 (u:=u) (by omega));have H:=O (fun W=>ih (u/10) (by omega) (by omega) W);have H2:=O (fun W=>ih (u%10) (by omega) (by omega) W);have e1:(u:Int)/10=((u/10:Nat):Int):=by omega
    have e2:(u:Int)%10=((u%10:Nat):Int):=by omega
    have e3:(u:Int).tdiv 10=((u/10:Nat):Int):=by rw[Int.tdiv_eq_ediv_of_nonneg (by omega)];omega
    have e4:(u:Int).tmod 10=((u%10:Nat):Int):=by rw[Int.tmod_eq_emod_of_nonneg (by omega)];omega
    have l1:(decDigits (u/10)).length≤19:=by rw[decDigits_length];exact EF 18 _ (by omega)
    have l2:(decDigits (u%10)).length≤19:=by rw[decDigits_length];exact EF 18 _ (by omega)
    have hq:u/10≤9000000000000000000:=by omega
    generalize decDigits (u/10)=s1 at*;generalize decDigits (u%10)=s2 at*;generalize u/10=q at*;generalize u%10=r at*;have hcl:¬(9223372036854775807<s1.length+s2.length):=by omega
    clear ih h;go_enter func131,ntmps131;go_wp2_with fail;refine(H.out _).mono ?_;rintro e w1 ⟨rfl,g1⟩;go_wp2_with fail;refine(H2.out _).mono ?_;rintro e w2 ⟨rfl,g2⟩;go_wp2;go_ret;refine⟨?_,Aa g1 g2⟩;rw[HD.out,←Dh];rfl
theorem MC(n:Int)(h0: -9000000000000000000≤n)(h1:n≤9000000000000000000)(w:World):Calls Tryz.prog 131 #[.int .i64 n] w fun e w'=>e= .returned (str (itoa n))∧w.grownBy w' none:=by
 by_cases hn:n<0
 ·obtain⟨u,rfl⟩:∃u:Nat,n= -(u:Int):=⟨(-n).toNat,by omega⟩;have hnI:decide (-(u:Int)<0)=true:=by simp;omega
  have hmin:(-(u:Int) == -9223372036854775808)=false:=by simp;omega
  have e1: - -(u:Int)=(u:Int):=by omega
  have H:=O (fun W=>Gj (u+1) u (Nat.lt_succ_self _) (by omega) W);have HI:=O (show itoa (-(u:Int))=[45]++decDigits u by unfold itoa;rw[if_pos hn,Int.natAbs_neg,Int.natAbs_natCast];rfl);have l1:(decDigits u).length≤19:=by rw[decDigits_length];exact EF 18 _ (by omega)
  generalize decDigits u=s1 at*;have hcl:¬(9223372036854775807<1+s1.length):=by omega
  go_enter func131,ntmps131;go_wp2_with fail;refine(H.out _).mono ?_;rintro e w1 ⟨rfl,g1⟩;go_wp2;go_ret;refine⟨?_,g1⟩;rw[HI.out,←Dh];rfl
 ·obtain⟨u,rfl⟩:∃u:Nat,n=u:=⟨n.toNat,by omega⟩;have hi:itoa (u:Int)=decDigits u:=by unfold itoa;rw[if_neg hn];rfl
  rw[hi];exact Gj (u+1) u (Nat.lt_succ_self _) (by omega) w
def BW:List (Hd×Bs)→Nat
 | []=>0
 |x::r=>x.2.length+4+BW r
theorem PJ:∀l:List (Hd×Bs),(((l.map (·.2)).map fun s=>[44,32]++s).flatten).length≤BW l:=by
 intro l;induction l with
 |nil=>simp[BW]
 | cons x r ih=>
   simp only[List.map_cons,List.flatten_cons,List.length_append,List.length_cons,List.length_nil,BW];omega
theorem GC(l:List (Hd×Bs)):(BD (l.map (·.2))).length≤BW l:=by
 cases l with
 |nil=>simp[BD,BW]
 | cons x r=>
   have:=PJ r;simp only[List.map_cons,BD,List.length_append,BW];omega
theorem I8{p:List Bs}(h:p.all An=true):(BD p).length≤12*p.length:=by
 have hl:∀s∈p,s.length≤10:=by
  intro s hs;have:=List.all_eq_true.1 h s hs;unfold An at this;simp only[Bool.and_eq_true,decide_eq_true_eq]at this;exact this.1.1.2
 clear h;have hf:∀r:List Bs,(∀s∈r,s.length≤10)→((r.map fun s=>[44,32]++s).flatten).length≤12*r.length:=by
  intro r;induction r with
  |nil=>intro _;simp
  | cons x r ih=>
    intro h;have h1:=ih (fun s hs=>h s (List.mem_cons_of_mem _ hs));have h2:=h x (List.mem_cons_self);simp only[List.map_cons,List.flatten_cons,List.length_append,List.length_cons,List.length_nil];omega
 cases p with
 |nil=>simp[BD]
 | cons x r=>
   have h1:=hf r (fun s hs=>hl s (List.mem_cons_of_mem _ hs));have h2:=hl x (List.mem_cons_self);simp only[BD,List.length_append,List.length_cons];omega
theorem FJ{n:Int}(h0:0<n)(h1:n≤3652059):(B6 n).length=8:=by
 obtain⟨a,b,c,d,e,f,g⟩:=Gy h0 h1;have hm:=JE (Ba n).1 (Ba n).2.1;unfold B6;have l1:=C7 (k:=4) (u:=(Ba n).1) (by omega) (by omega);have l2:=C7 (k:=2) (u:=(Ba n).2.1) (by omega) (by omega);have l3:=C7 (k:=2) (u:=(Ba n).2.2) (by omega) (by omega);rw[List.length_append,List.length_append,l1,l2,l3]
theorem Nr{h:Hd}(hf:h.fit)(hc:A2 h=true):(Eb wdM h).length≤2000010:=by
 have hv:=hf.2.1;unfold A2 at hc;unfold Eb;split
 ·split<;>simp
 split
 ·rename_i h1 h2;rw[if_neg (by omega),if_neg h1,if_pos h2]at hc;simp at hc;have:=(wdM_ok.nums h.vn hc.1.1 hc.1.2).1;omega
 split
 ·rename_i h1 h2 h3;rw[if_neg (by omega),if_neg h1,if_neg h2,if_pos h3]at hc;simp at hc;split
  ·simp
  ·rename_i h4;have:=FJ (n:=h.vn) (by omega) (by omega);show(CZ (B6 h.vn)).length≤_;unfold CZ;simp only[List.length_append,List.length_take,List.length_drop,List.length_cons,List.length_nil];omega
 split
 ·split
  ·simp only[List.length_append,List.length_cons,List.length_nil];omega
  ·simp only[List.length_append,List.length_cons,List.length_nil];omega
 ·simp
theorem Pq{h:Hd}{ks:List (Hd×Bs)}(hf:h.fit)(hp:h.op=8→h.p.all An=true)(hc:h.op=0→A2 h=true)(hk:∀x∈ks,x.1.s.length≤2000000):(Bi wdM h ks).length≤30000000+BW ks:=by
 have hs:=hf.1;have hp2:=hf.2.2.1;have hj:=GC ks;have ho:∀x:Hd×Bs,(opT x).length≤x.2.length+2:=by
  intro x;unfold opT;split<;>simp
 unfold Bi;split
 ·rename_i h0;have:=Nr hf (hc h0);omega
 split
 ·cases ks with
  |nil=>simp
  | cons x r=>
    have:=hk x List.mem_cons_self;simp only[BW];split<;>simp only[List.length_append,List.length_cons,List.length_nil]<;>omega
 split
 ·simp only[List.length_append,List.length_cons,List.length_nil];omega
 split
 ·cases ks with
  |nil=>simp
  | cons x r=>
    have:=ho x;simp only[BW];split<;>simp only[List.length_append,List.length_cons,List.length_nil]<;>omega
 split
 ·match ks with
  | []=>simp
  | [_]=>simp
  | x::y::r=>
    have:=ho x;have:=ho y;simp only[BW,List.length_append,List.length_cons,List.length_nil];omega
 split
 ·match ks with
  | []=>simp
  | [_]=>simp
  | x::y::r=>
    have:=ho x;simp only[BW,List.length_append,List.length_cons,List.length_nil];omega
 split
 ·simp only[List.length_append,List.length_cons,List.length_nil];omega
 split
 ·rename_i h8;have:=I8 (hp h8);cases ks with
  |nil=>simp
  | cons x r=>
    simp only[BW,List.length_append,List.length_cons,List.length_nil];omega
 split
 ·split
  ·simp only[List.length_append,List.length_cons,List.length_nil];omega
  ·cases ks with
   |nil=>simp
   | cons x r=>
     simp only[BW,List.length_append,List.length_cons,List.length_nil];omega
 split
 ·simp only[List.length_append,List.length_cons,List.length_nil];omega
 ·omega
theorem GN{h:Hd}{n:Nat}{ks:List (Hd×Bs)}(hf:h.fit)(ho:AI h n=true)(hk:∀x∈ks,x.1.s.length≤2000000):(Bi wdM h ks).length≤30000000+BW ks:=by
 obtain⟨_,_,h3⟩:=DQ ho;unfold Ap at h3;refine Pq hf (fun h8=>?_) (fun h0=>?_) hk
 ·rw[if_neg (by omega),if_neg (by omega),if_neg (by omega),if_neg (by omega),if_neg (by omega),if_neg (by omega),if_neg (by omega),if_neg (by omega),if_pos h8]at h3;simp only[Bool.and_eq_true]at h3;exact h3.2
 ·rw[if_pos h0]at h3;simp only[Bool.and_eq_true]at h3;exact h3.2
theorem FN:∀f:Fo,okF f=true→f.fit→BW (A7 wdM f)≤30000004*f.nodes∧∀x∈A7 wdM f,x.1.s.length≤2000000:=by
 intro f;induction f with
 |nil=>intro _ _;simp[A7,BW]
 | cons h k n ihk ihn=>
   intro ho hf;simp only[okF,Bool.and_eq_true]at ho;obtain⟨k1,k2⟩:=ihk ho.1.2 hf.2.1;obtain⟨n1,n2⟩:=ihn ho.2 hf.2.2;have:=GN hf.1 ho.1.1 k2;constructor
   ·simp only[A7,BW,Fo.nodes];omega
   ·intro x hx;simp only[A7,List.mem_cons]at hx;rcases hx with rfl|hx
    ·exact hf.1.1
    ·exact n2 x hx
theorem KK{w:World}{pa pb:Option Addr}{pc pd:Nat}{l m:List Bs}{ok ok':Nat→Prop}(h1:Cells w (.slice pa l.length pc) 1 l.length (l.map str) ok)(h2:Cells w (.slice pb m.length pd) 1 m.length (m.map str) ok'):
 Calls Tryz.prog 20 #[.slice pa l.length pc,.slice pb m.length pd] w fun e w'=>e= .returned (.bool (Cv l m))∧w.grownBy w' none:=by
 have hc1:=h1.at1.2;have hc2:=h2.at1.2;have hl:l.length≤maxLen:=by obtain⟨_,_,e,h3,h4,_⟩:=h1;omega
 unfold maxLen at hl;clear h1 h2;by_cases hn:l.length=m.length
 ·have HC:=O (Z hc1 hc2);clear hc1 hc2;have hnI:((l.length:Int) !=(m.length:Int))=false:=by simp;omega
  have hnI2:((l.length:Int)==(m.length:Int))=true:=by simp;omega
  have HN:=O hn;clear hn;go_enter func20,ntmps20;go_wp2_with fail;go_loopg [5] l.length (fun g v5 wr=>∃k:Nat,k+g=l.length∧v5= .int .i64 k∧(∀j,j<k→l.getD j []=m.getD j [])∧w.grownBy wr none)
  case atStart=>exact⟨0,by omega,rfl,fun j hj=>by omega,Ac _ _⟩
  case round=>
   obtain⟨k,hg,rfl,hp,hgr⟩:=hrel;by_cases hk:k<l.length
   ·obtain⟨g1,o1,rfl,c1⟩:=HC.out.1 k hk;obtain⟨g2,o2,rfl,c2⟩:=HC.out.2 k (by have:=HN.out;omega);have d1:=Af hgr c1;have d2:=Af hgr c2;have hkm:k<m.length:=by have:=HN.out;omega
    have hkI:decide (k<l.length)=true:=by simpa using hk
    have HP:=O hp;have HG:=O hgr;clear hp hgr c1 c2;generalize hs1:l.getD k []=s at*;generalize hs2:m.getD k []=t at*;by_cases he:s=t
    ·have HE:=O (show l.getD k []=m.getD k []by rw[hs1,hs2,he]);have he1:(s==t)=true:=by simpa using he
     have he2:(s !=t)=false:=by simpa using he
     clear he hs1 hs2;go_wp2_with fail;go_quiet(fail);go_wp2;go_roundg (l.length-(k+1))
     case measure=>omega
     case rel=>exact⟨k+1,by omega,by go_num,fun j hj=>by rcases Nat.lt_succ_iff_lt_or_eq.1 hj with h|rfl;exact HP.out j h;exact HE.out,Ay HG.out _⟩
    ·have HE:=O (IN (l:=l) (m:=m) (k:=k) (by rw[hs1,hs2];exact he));have he1:(s==t)=false:=by simpa using he
     have he2:(s !=t)=true:=by simpa using he
     clear he hs1 hs2;go_wp2_with fail;go_quiet(fail);go_wp2;go_ret;exact⟨by rw[HE.out];rfl,Ay HG.out _⟩
   ·have hkI:decide (k<l.length)=false:=by simpa using hk
    have HE:=O (Iv HN.out (fun j hj=>hp j (by omega)));have HG:=O hgr;clear hp hgr;go_wp2;go_ret;exact⟨by rw[HE.out];rfl,HG.out⟩
 ·have hnI:((l.length:Int) !=(m.length:Int))=true:=by simp;omega
  have hnI2:((l.length:Int)==(m.length:Int))=false:=by simp;omega
  have HN:=O (Iw hn);clear hn hc1 hc2;go_enter func20,ntmps20;go_wp2;go_ret;exact⟨by rw[HN.out];rfl,(by repeat(first| (with_reducible exact Ac _ _)| (with_reducible assumption)| (with_reducible exact AX (by assumption))| (with_reducible refine Ad ?_ _)| (with_reducible refine Am ?_)| (with_reducible refine Ay ?_ _)| ((with_reducible refine Az ?_ _ _ ?h2);case h2=>first|exact .inl rfl|exact .inr (Nat.le_refl _)|exact .inr (by simp<;>omega))| (with_reducible refine Ag ?_ (by assumption))| (with_reducible refine Aa ?_ (by assumption))))⟩
end Go.Proofs.YtgjdhajcnechdaaGreatDoor
