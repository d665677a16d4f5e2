/-
  Plain laws: the names that stand in an expression by themselves: both ways collect the same. Days: Split; digits: decimal, padded. The reference: IsWord, IsName, Validate of a value, Written, Padded. 
-/
import Derived.Test.YtgjdhajcnechdaaGreatDoorSv20
import Derived.Test.YtgjdhajcnechdaaGreatDoorSv09
import Derived.Lib.ItoaMem
import Derived.Test.YtgjdhajcnechdaaGreatDoorSv15
import Derived.Test.YtgjdhajcnechdaaGreatDoorSv16
import Derived.Test.YtgjdhajcnechdaaGreatDoorSv05
import Derived.Test.YtgjdhajcnechdaaGreatDoorSv28
import Derived.Test.YtgjdhajcnechdaaGreatDoorSv13
import Derived.Test.YtgjdhajcnechdaaGreatDoorSv17
import Derived.Test.YtgjdhajcnechdaaGreatDoorSv22
set_option linter.all false
set_option maxRecDepth 100000
set_option maxHeartbeats 8000000
namespace Go.Proofs.YtgjdhajcnechdaaGreatDoor
open Go.Proofs.Tryz
def Bm(h:Hd)(p:List Bs)(k':List Bs→List Bs):List Bs:=
 if h.op=1∧p.contains h.s=false then [h.s]else if h.op=2 then []else if h.op=8 then k' (p++h.p)else k' p
def AC:Fo→List Bs→List Bs
 | .nil,_=>[]
 | .cons h k n,p=>Bm h p (AC k)++AC n p
open Go.RowKit Go.Lib
theorem MY:Ak 1=0:=by decide
theorem MX:Ak 10000=3652059:=by decide
theorem I9{y:Int}(h0:1≤y)(h1:y≤10000):0≤Ak y∧Ak y≤3652059:=by
 unfold Ak;rw[Int.tdiv_eq_ediv_of_nonneg (by omega),Int.tdiv_eq_ediv_of_nonneg (by omega),Int.tdiv_eq_ediv_of_nonneg (by omega)];omega
theorem FQ{y m:Int}(h0:1≤m)(h1:m≤12):28≤AW y m∧AW y m≤31:=by
 unfold AW;split
 ·omega
 ·have h:∀k:Nat,k<12→28≤([31,28,31,30,31,30,31,31,30,31,30,31]:List Int).getD k 0∧([31,28,31,30,31,30,31,31,30,31,30,31]:List Int).getD k 0≤31:=by decide
  exact h _ (by omega)
theorem KN(y:Int)(m:Nat)(h:1≤m):Ap y m=Ap y (m-1)+AW y m:=by
 obtain⟨k,rfl⟩:∃k,m=k+1:=⟨m-1,by omega⟩;rfl
theorem OI{y n:Int}(h0:1≤y)(h:n≤Ak (y+1)):n-Ak y≤Ap y 12:=by
 have e:Ak (y+1)=Ak y+Ap y 12:=by
  have hl:Ap y 12=if Cm y then 366 else 365:=by
   simp only[Ap,AW];cases Cm y<;>rfl
  rw[hl];unfold Ak Cm;rw[show y+1-1=y by omega];have e1:∀b:Int,0<b→y.tdiv b=y/b:=fun b hb=>Int.tdiv_eq_ediv_of_nonneg (by omega);have e2:∀b:Int,0<b→(y-1).tdiv b=(y-1)/b:=fun b hb=>Int.tdiv_eq_ediv_of_nonneg (by omega);have e3:∀b:Int,0<b→y.tmod b=y%b:=fun b hb=>Int.tmod_eq_emod_of_nonneg (by omega);rw[e1 4 (by omega),e1 100 (by omega),e1 400 (by omega),e2 4 (by omega),e2 100 (by omega),e2 400 (by omega),e3 4 (by omega),e3 100 (by omega),e3 400 (by omega)];simp only[Bool.and_eq_true,Bool.or_eq_true,beq_iff_eq,bne_iff_ne,ne_eq];split<;>omega
 omega
theorem Oc:∀k:Nat,k<10→(⟨#[48,49,50,51,52,53,54,55,56,57]⟩:ByteArray).extract k (k+1)=⟨#[UInt8.ofNat (48+k)]⟩:=by
 intro k hk;match k,hk with
 | 0,_ | 1,_ | 2,_ | 3,_ | 4,_ | 5,_ | 6,_ | 7,_ | 8,_ | 9,_=>rfl
theorem Ek(x y:Bs):Value.string (⟨x.toArray⟩++⟨y.toArray⟩)=str (x++y):=by rw[ByteArray.mk_append_mk]
def okB(p:Bool)(b:UInt8):Bool:=(cls 1 b||(p&&cls 2 b))&&!(97≤b.toNat&&b.toNat≤122)
theorem R2:∀n:Fin 256,okB true (UInt8.ofNat n.val)=Cq (UInt8.ofNat n.val)∧okB false (UInt8.ofNat n.val)=(Cq (UInt8.ofNat n.val)&&!(48≤UInt8.ofNat n.val&&UInt8.ofNat n.val≤57)):=by decide+kernel
theorem F2(b:UInt8):okB true b=Cq b∧okB false b=(Cq b&&!(48≤b&&b≤57)):=by
 have:=R2 ⟨b.toNat,b.toNat_lt⟩;simpa using this
theorem Mq{s:Bs}(h0:s≠[])(h1:s.length≤10):(∀j,j<s.length→okB (decide (0<j)) (s.getD j 0)=true)→Al s=true:=by
 intro h;cases s with
 |nil=>exact absurd rfl h0
 | cons c t=>
   have hc:=h 0 (by simp);have e0:((c::t).getD 0 0)=c:=rfl;rw[e0,show decide (0<0)=false from rfl,(F2 c).2,Bool.and_eq_true]at hc;have ha:(c::t).all Cq=true:=by
    refine G9 (d:=0) fun j hj=>?_;rcases Nat.eq_zero_or_pos j with rfl|hp
    ·exact hc.1
    ·have:=h j hj;rw[show decide (0<j)=true by simpa using hp,(F2 _).1]at this;exact this
   have hl:decide ((c::t).length≤10)=true:=by simpa using h1
   unfold Al;rw[ha,hl];simpa using hc.2
theorem Mp{s:Bs}{k:Nat}(hk:k<s.length)(hb:okB (decide (0<k)) (s.getD k 0)=false):Al s=false:=by
 cases hn:Al s with
 |false=>rfl
 | true=>
   exfalso;unfold Al at hn;simp only[Bool.and_eq_true]at hn;have hall:=List.all_eq_true.1 hn.2 (s.getD k 0) (by rw[List.getD_eq_getElem?_getD,List.getElem?_eq_getElem hk];exact List.getElem_mem hk);cases s with
   |nil=>simp at hk
   | cons c t=>
     rcases Nat.eq_zero_or_pos k with rfl|hp
     ·have e0:((c::t).getD 0 0)=c:=rfl;rw[e0,show decide (0<0)=false from rfl,(F2 c).2]at hb;rw[e0]at hall;rw[hall]at hb;have h4:(!(decide (48≤c)&&decide (c≤57)))=true:=hn.1.2;rw[h4]at hb;cases hb
     ·rw[show decide (0<k)=true by simpa using hp,(F2 _).1,hall]at hb;cases hb
theorem H8{s:Bs}(h:s=[]∨10<s.length):Al s=false:=by
 rcases h with rfl|h
 ·rfl
 ·unfold Al;rw[show decide (s.length≤10)=false by simp;omega];simp
theorem Gu{p:Bool}{c:UInt8}(h1:cls 1 c=true∨(p=true∧cls 2 c=true))(h2:¬(97≤c.toNat∧c.toNat≤122)):okB p c=true:=by
 unfold okB;have h3:(decide (97≤c.toNat)&&decide (c.toNat≤122))=false:=by
  rw[Bool.and_eq_false_iff,decide_eq_false_iff_not,decide_eq_false_iff_not];omega
 rw[h3];rcases h1 with h| ⟨rfl,h⟩
 ·rw[h];rfl
 ·rw[h];simp
theorem PR:∀n:Fin 256,cls 2 (UInt8.ofNat n.val)=true→(UInt8.ofNat n.val).toNat<97:=by decide+kernel
theorem Rn{b:UInt8}(h:cls 2 b=true):b.toNat<97:=by
 have:=PR ⟨b.toNat,b.toNat_lt⟩;simp only[UInt8.ofNat_toNat]at this;exact this h
theorem Lr(s:Bs)(hs:s.length≤4000000)(w:World):Calls Tryz.prog 176 #[str s,.int .i64 10] w fun e w'=>e= .returned (.bool (Al s))∧w.grownBy w' none:=by
 by_cases h1:s.length<1
 ·have hI:decide ((s.length:Int)<1)=true:=by simp;omega
  have HF:=O (H8 (s:=s) (.inl (List.eq_nil_of_length_eq_zero (by omega))));go_enter func176,ntmps176;go_wp2;go_ret;exact⟨by rw[HF.out];rfl,Ac _ _⟩
 have hI1:decide ((s.length:Int)<1)=false:=by simp;omega
 by_cases h10:10<s.length
 ·have hI:decide ((10:Int)<(s.length:Int))=true:=by simp;omega
  have HF:=O (H8 (s:=s) (.inr h10));go_enter func176,ntmps176;go_wp2;go_ret;exact⟨by rw[HF.out];rfl,Ac _ _⟩
 have hI2:decide ((10:Int)<(s.length:Int))=false:=by simp;omega
 have HN:=O (Z (show s≠[]by rintro rfl;exact h1 (by simp)) (show s.length≤10 by omega));clear h1 h10;go_enter func176,ntmps176;go_wp2_with fail;go_loopg [5] s.length (fun g v5 wr=>∃k:Nat,k+g=s.length∧v5= .int .i64 k∧(∀j,j<k→okB (decide (0<j)) (s.getD j 0)=true)∧w.grownBy wr none)
 case atStart=>exact⟨0,by omega,rfl,fun j hj=>by omega,Ac _ _⟩
 case round=>
  obtain⟨k,hk,rfl,hp,gr⟩:=hrel;by_cases hkl:k<s.length
  ·have hj1:decide ((k:Int)<(s.length:Int))=true:=by simp;omega
   have hj2:decide (k<s.length)=true:=by simpa using hkl
   have hgk:∀h,(⟨s.toArray⟩:ByteArray)[k]'h=bAt s k:=fun h=>Cr s k h hkl;have hbad:=fun(h:okB (decide (0<k)) (bAt s k)=false)=>Mp (s:=s) hkl h;have HP:=O (Z hp gr);have hgood:okB (decide (0<k)) (s.getD k 0)=okB (decide (0<k)) (bAt s k):=rfl;clear hp gr;generalize bAt s k=c at*;cases hL:cls 1 c with
   | true=>
     have HL:=O hL;by_cases h97:97≤c.toNat
     ·have h97I:decide ((97:Int)≤(c.toNat:Int))=true:=by simp;omega
      by_cases h122:c.toNat≤122
      ·have h122I:decide ((c.toNat:Int)≤122)=true:=by simp;omega
       have HF:=O (hbad (by unfold okB;simp[h97,h122]));clear hbad hgood hL;go_wp2_with fail;refine(Ed c _).mono ?_;rintro e w1 ⟨rfl,rfl⟩;rw[HL.out];go_wp2;go_ret;exact⟨by rw[HF.out];rfl,HP.out.2⟩
      ·have h122I:decide ((c.toNat:Int)≤122)=false:=by simp;omega
       have HC:=O (hgood.trans (Gu (.inl hL) (by omega)));clear hbad hgood hL;go_wp2_with fail;refine(Ed c _).mono ?_;rintro e w1 ⟨rfl,rfl⟩;rw[HL.out];go_wp2;go_roundg (s.length-(k+1))
       case measure=>omega
       case rel=>exact⟨k+1,by omega,by go_num,fun j hj=>by rcases Nat.lt_succ_iff_lt_or_eq.1 hj with h|rfl;exact HP.out.1 j h;exact HC.out,HP.out.2⟩
     ·have h97I:decide ((97:Int)≤(c.toNat:Int))=false:=by simp;omega
      have HC:=O (hgood.trans (Gu (.inl hL) (by omega)));clear hbad hgood hL;go_wp2_with fail;refine(Ed c _).mono ?_;rintro e w1 ⟨rfl,rfl⟩;rw[HL.out];go_wp2;go_roundg (s.length-(k+1))
      case measure=>omega
      case rel=>exact⟨k+1,by omega,by go_num,fun j hj=>by rcases Nat.lt_succ_iff_lt_or_eq.1 hj with h|rfl;exact HP.out.1 j h;exact HC.out,HP.out.2⟩
   | false=>
     have HL:=O hL;by_cases hk0:0<k
     ·have hk0I:decide ((0:Int)<(k:Int))=true:=by simp;omega
      have hkd:decide (0<k)=true:=by simpa using hk0
      cases hD:cls 2 c with
      | false=>
        have HD:=O hD;have HF:=O (hbad (by unfold okB;simp[hL,hD]));clear hbad hgood hL hD;go_wp2_with fail;refine(Ed c _).mono ?_;rintro e w1 ⟨rfl,rfl⟩;rw[HL.out];go_wp2_with fail;refine(Ea c _).mono ?_;rintro e w1 ⟨rfl,rfl⟩;rw[HD.out];go_wp2;go_ret;exact⟨by rw[HF.out];rfl,HP.out.2⟩
      | true=>
        have HD:=O hD;have h57:c.toNat<97:=Rn hD;have h97I:decide ((97:Int)≤(c.toNat:Int))=false:=by simp;omega
        have HC:=O (hgood.trans (Gu (.inr ⟨hkd,hD⟩) (by omega)));clear hbad hgood hL hD;go_wp2_with fail;refine(Ed c _).mono ?_;rintro e w1 ⟨rfl,rfl⟩;rw[HL.out];go_wp2_with fail;refine(Ea c _).mono ?_;rintro e w1 ⟨rfl,rfl⟩;rw[HD.out];go_wp2;go_roundg (s.length-(k+1))
        case measure=>omega
        case rel=>exact⟨k+1,by omega,by go_num,fun j hj=>by rcases Nat.lt_succ_iff_lt_or_eq.1 hj with h|rfl;exact HP.out.1 j h;exact HC.out,HP.out.2⟩
     ·have hk0I:decide ((0:Int)<(k:Int))=false:=by simp;omega
      have HF:=O (hbad (by unfold okB;simp[hL,hk0]));clear hbad hgood hL;go_wp2_with fail;refine(Ed c _).mono ?_;rintro e w1 ⟨rfl,rfl⟩;rw[HL.out];go_wp2;go_ret;exact⟨by rw[HF.out];rfl,HP.out.2⟩
  ·have hj1:decide (k<s.length)=false:=by simpa using hkl
   have HF:=O (Z (Mq HN.out.1 HN.out.2 (fun j hj=>hp j (by omega))) gr);clear hp gr;go_wp2;go_ret;exact⟨by rw[HF.out.1];rfl,HF.out.2⟩
theorem Lq(s:Bs)(hs:s.length≤4000000)(w:World):Calls Tryz.prog 135 #[str s] w fun e w'=>e= .returned (.bool (Al s))∧w.grownBy w' none:=by
 have H:=O (Lr s hs w);go_enter func135,ntmps135;go_wp2_with fail;refine H.out.mono ?_;rintro e w1 ⟨rfl,hb⟩;go_wp2;go_ret;exact⟨rfl,hb⟩
theorem Kg{u:Nat}(h:10≤u):decDigits u=decDigits (u/10)++decDigits (u%10):=by
 have h1:decDigits u=decDigits (u/10)++[UInt8.ofNat (48+u%10)]:=by rw[decDigits];exact if_neg (by omega)
 have h2:decDigits (u%10)=[UInt8.ofNat (48+u%10)]:=by rw[decDigits];exact if_pos (by omega)
 rw[h1,h2]
theorem Kb{u:Nat}(h:u<10):decDigits u=[UInt8.ofNat (48+u)]:=by rw[decDigits];exact if_pos h
theorem E0:∀(k u:Nat),u<10 ^ (k+1)→nDigits u≤k+1:=by
 intro k;induction k with
 |zero=>intro u h;rw[nDigits_small (by simpa using h)];omega
 | succ k ih=>
   intro u h;by_cases h0:u<10
   ·rw[nDigits_small h0];omega
   ·rw[nDigits_big h0];have:=ih (u/10) (by rw[Nat.pow_succ]at h;omega);omega
theorem FF:∀(N u:Nat),u<N→u≤9000000000000000000→∀(w:World),Calls Tryz.prog 131 #[.int .i64 u] w fun e w'=>e= .returned (str (decDigits u))∧w.grownBy w' none:=by
 intro N;induction N with
 |zero=>intro u h;omega
 | succ N ih=>
   intro u hN hu w;have hneg:decide ((u:Int)<0)=false:=by simp
   by_cases h:u<10
   ·have hI:decide ((u:Int)<10)=true:=by simp;omega
    have HD:=O (Kb h);have HC:=O (Oc u h);clear ih;go_enter func131,ntmps131;go_wp2;go_ret;refine⟨?_,Ac _ _⟩;rw[HD.out];exact congrArg (fun b=>Ending.returned (Value.string b)) HC.out
   ·have hI:decide ((u:Int)<10)=false:=by simp;omega
    have HD:=O (Kg (u:=u) (by omega));have H:=O (fun W=>ih (u/10) (by omega) (by omega) W);have H2:=O (fun W=>ih (u%10) (by omega) (by omega) W);have e1:(u:Int)/10=((u/10:Nat):Int):=by omega
    have e2:(u:Int)%10=((u%10:Nat):Int):=by omega
    have e3:(u:Int).tdiv 10=((u/10:Nat):Int):=by rw[Int.tdiv_eq_ediv_of_nonneg (by omega)];omega
    have e4:(u:Int).tmod 10=((u%10:Nat):Int):=by rw[Int.tmod_eq_emod_of_nonneg (by omega)];omega
    have l1:(decDigits (u/10)).length≤19:=by rw[decDigits_length];exact E0 18 _ (by omega)
    have l2:(decDigits (u%10)).length≤19:=by rw[decDigits_length];exact E0 18 _ (by omega)
    have hq:u/10≤9000000000000000000:=by omega
    generalize decDigits (u/10)=s1 at*;generalize decDigits (u%10)=s2 at*;generalize u/10=q at*;generalize u%10=r at*;have hcl:¬(9223372036854775807<s1.length+s2.length):=by omega
    clear ih h;go_enter func131,ntmps131;go_wp2_with fail;refine(H.out _).mono ?_;rintro e w1 ⟨rfl,g1⟩;go_wp2_with fail;refine(H2.out _).mono ?_;rintro e w2 ⟨rfl,g2⟩;go_wp2;go_ret;refine⟨?_,Aa g1 g2⟩;rw[HD.out,←Ek];rfl
theorem LC(n:Int)(h0: -9000000000000000000≤n)(h1:n≤9000000000000000000)(w:World):Calls Tryz.prog 131 #[.int .i64 n] w fun e w'=>e= .returned (str (itoa n))∧w.grownBy w' none:=by
 by_cases hn:n<0
 ·obtain⟨u,rfl⟩:∃u:Nat,n= -(u:Int):=⟨(-n).toNat,by omega⟩;have hnI:decide (-(u:Int)<0)=true:=by simp;omega
  have hmin:(-(u:Int) == -9223372036854775808)=false:=by simp;omega
  have e1: - -(u:Int)=(u:Int):=by omega
  have H:=O (fun W=>FF (u+1) u (Nat.lt_succ_self _) (by omega) W);have HI:=O (show itoa (-(u:Int))=[45]++decDigits u by unfold itoa;rw[if_pos hn,Int.natAbs_neg,Int.natAbs_natCast];rfl);have l1:(decDigits u).length≤19:=by rw[decDigits_length];exact E0 18 _ (by omega)
  generalize decDigits u=s1 at*;have hcl:¬(9223372036854775807<1+s1.length):=by omega
  go_enter func131,ntmps131;go_wp2_with fail;refine(H.out _).mono ?_;rintro e w1 ⟨rfl,g1⟩;go_wp2;go_ret;refine⟨?_,g1⟩;rw[HI.out,←Ek];rfl
 ·obtain⟨u,rfl⟩:∃u:Nat,n=u:=⟨n.toNat,by omega⟩;have hi:itoa (u:Int)=decDigits u:=by unfold itoa;rw[if_neg hn];rfl
  rw[hi];exact FF (u+1) u (Nat.lt_succ_self _) (by omega) w
theorem NB(y m:Int)(h1:1≤m)(h2:m≤12):28≤AW y m:=by
 unfold AW;split
 ·omega
 ·have hm:m=1∨m=2∨m=3∨m=4∨m=5∨m=6∨m=7∨m=8∨m=9∨m=10∨m=11∨m=12:=by omega
  rcases hm with rfl|rfl|rfl|rfl|rfl|rfl|rfl|rfl|rfl|rfl|rfl|rfl<;>decide
theorem E6(y:Int){a b:Nat}(h:a≤b)(hb:b≤12):Ap y a≤Ap y b:=by
 obtain⟨k,rfl⟩:∃k,b=a+k:=⟨b-a,by omega⟩;clear h;induction k with
 |zero=>exact Int.le_refl _
 | succ k ih=>
   have:=ih (by omega);have h2:=NB y ((a+k:Nat)+1) (by omega) (by omega);show Ap y a≤Ap y (a+k)+AW y ((a+k:Nat)+1);omega
theorem Fk{a:Int}(h1:1≤a):∀k:Nat,Ak a≤Ak (a+k):=by
 intro k;induction k with
 |zero=>simp
 | succ k ih=>
   have h2:=Gf (a+k) (by omega);have h3:=E6 (a+k) (a:=0) (b:=12) (by omega) (by omega);have h4:Ap (a+k) 0=0:=rfl;rw[show a+((k+1:Nat):Int)=a+k+1 by omega];omega
theorem Qn{a b n:Int}(ha:1≤a)(hb:1≤b)(h1:Ak a<n)(h2:n≤Ak (a+1))(h3:Ak b<n)(h4:n≤Ak (b+1)):a=b:=by
 by_cases h:a<b
 ·have:=Fk (a:=a+1) (by omega) (b-(a+1)).toNat;rw[show a+1+((b-(a+1)).toNat:Int)=b by omega]at this;omega
 by_cases h':b<a
 ·have:=Fk (a:=b+1) (by omega) (a-(b+1)).toNat;rw[show b+1+((a-(b+1)).toNat:Int)=a by omega]at this;omega
 omega
theorem NA{y n:Int}{a b:Nat}(ha:1≤a)(ha2:a≤12)(hb:1≤b)(hb2:b≤12)(h1:Ap y (a-1)<n)(h2:n≤Ap y a)(h3:Ap y (b-1)<n)(h4:n≤Ap y b):a=b:=by
 by_cases h:a<b
 ·have:=E6 y (a:=a) (b:=b-1) (by omega) (by omega);omega
 by_cases h':b<a
 ·have:=E6 y (a:=b) (b:=a-1) (by omega) (by omega);omega
 omega
theorem FJ(y:Int){m:Nat}(h:1≤m):Ap y m=Ap y (m-1)+AW y m:=by
 obtain⟨k,rfl⟩:∃q,m=q+1:=⟨m-1,by omega⟩;show Ap y k+AW y ((k:Int)+1)=_;rw[show k+1-1=k by omega];congr 2
theorem Oo{n:Int}{y m q:Nat}(hy:1≤y)(hy2:y≤9999)(hm:1≤m)(hm2:m≤12)(hq:1≤q)(hq2:(q:Int)≤AW y m)(h:Ak y+Ap y (m-1)+q=n):AX n=(y,m,q):=by
 have hb:∀{y m:Nat}{q:Int},1≤y→1≤m→m≤12→1≤q→q≤AW y m→Ak y<Ak y+Ap y (m-1)+q∧Ak y+Ap y (m-1)+q≤Ak ((y:Int)+1):=by
  intro y m q h1 h2 h3 h4 h5;have a1:=E6 y (a:=0) (b:=m-1) (by omega) (by omega);have a2:=E6 y (a:=m) (b:=12) (by omega) (by omega);have a3:=FJ y h2;have a4:=Gf (y:Int) (by omega);have a5:Ap (y:Int) 0=0:=rfl;omega
 have h0:=hb hy hm hm2 (show(1:Int)≤(q:Int)by omega) hq2;rw[h]at h0;have hn1:0<n:=by
  have:=Fk (a:=1) (by omega) (y-1);rw[show(1:Int)+((y-1:Nat):Int)=y by omega]at this;have e:Ak 1=0:=by decide
  omega
 have hn2:n≤3652059:=by
  have:=Fk (a:=(y:Int)+1) (by omega) (9999-y);rw[show(y:Int)+1+((9999-y:Nat):Int)=10000 by omega]at this;have e:Ak 10000=3652059:=by decide
  omega
 obtain⟨a,b,c,d,e,f,g⟩:=Gl hn1 hn2;have h1:=hb a c d (show(1:Int)≤((AX n).2.2:Int)by omega) f;rw[g]at h1;have e1:((AX n).1:Int)=y:=Qn (by omega) (by omega) h1.1 h1.2 h0.1 h0.2;have s1:(AX n).1=y:=by omega
 rw[s1]at g f;have a3:=FJ y hm;have a4:=FJ y c;have e2:(AX n).2.1=m:=NA (y:=y) (n:=n-Ak y) c d hm hm2 (by omega) (by omega) (by omega) (by omega);rw[e2]at g;have e3:(AX n).2.2=q:=by omega
 rw[←s1,←e2,←e3]
def wl:OW→Nat
 |none=>0
 |some p=>p.1.length
section
variable {d:Wd}
end
theorem IL{n:Int}(h0:0<n)(h1:n≤3652059):(Cp n).length=8:=by
 obtain⟨a,b,c,d,e,f,g⟩:=Gl h0 h1;have hm:=Je (AX n).1 (AX n).2.1;unfold Cp;have l1:=CS (k:=4) (u:=(AX n).1) (by omega) (by omega);have l2:=CS (k:=2) (u:=(AX n).2.1) (by omega) (by omega);have l3:=CS (k:=2) (u:=(AX n).2.2) (by omega) (by omega);rw[List.length_append,List.length_append,l1,l2,l3]
open Go.Sort
def Pow (w : World) : Prop := Lib.TabIs Tryz.prog w "internal/strconv.uint64pow10" .u64 Lib.pow10Tab
theorem RV : Tryz.prog.globalNamed "internal/strconv.uint64pow10" = some 3 := by kernel_rfl
theorem Iy(s:Bs)(c:UInt8):decide (0≤Lib.indexByte s c)=s.contains c:=by
 induction s with
 |nil=>rfl
 | cons b s ih=>
   rw[List.contains_cons,←ih];have:=indexByte_ge s c;show decide (0≤(if b==c then(0:Int)else if Lib.indexByte s c == -1 then -1 else Lib.indexByte s c+1))=_;by_cases h:b=c
   ·subst h;simp
   ·rw[if_neg (by simpa using h),show(c==b)=false by simpa using fun e=>h e.symm,Bool.false_or,decide_eq_decide];split
    ·rename_i h2;have h3:Lib.indexByte s c= -1:=by simpa using h2
     rw[h3]
    ·rename_i h2;have h3:Lib.indexByte s c ≠ -1:=by simpa using h2
     omega
theorem J2{b:ByteArray}{s:Bs}(h:b.data.toList=s):Value.string b=str s:=by subst h;rfl
section
variable {w:World}{vk vn:Int}{vs:Bs}
def HdV(vk vn:Int)(vs:Bs):Hd:=⟨0,[],vk,vn,vs,[]⟩
end
theorem over1{w:World}{ok:Nat→Prop}{x:Ex}{pa la:Option Addr}{pc lc:Nat}(hp:Cells w (.slice pa x.h.p.length pc) 1 x.h.p.length (x.h.p.map str) ok)(hl:RepL ok w (.slice la x.kids.len lc) x.kids)(W:World)(g:w.grownBy W none)(n:Nat)(hn:n=W.heap.size):
 Calls Tryz.prog 21 #[.slice (some ⟨n,0,none⟩) 1 1] (W.alloc (.cells (hdC x.h (.slice pa x.h.p.length pc) (.slice la x.kids.len lc)).toArray 27 (0,0))) (JM (W.alloc (.cells (hdC x.h (.slice pa x.h.p.length pc) (.slice la x.kids.len lc)).toArray 27 (0,0)))):=by
 subst hn;exact Rp ((Fo.one x).wt+1) (.one x) (Nat.lt_succ_self _) (fun _=>True) (some ⟨W.heap.size,0,none⟩) 1 _ (RepL.one rfl trivial ((hp.gb g (by simp)).mono (fun _ _ _=>trivial)) ((hl.gb g (by simp)).mono (fun _ _ _=>trivial)))
theorem Ht{w:World}{ok:Nat→Prop}{v:Value}{x:Ex}(hx:VE ok w v x):Calls Tryz.prog 6 #[v] w (SomeB w):=by
 obtain⟨pa,pc,la,lc,rfl,hp,hl⟩:=hx;have HR:=O (over1 hp hl (w.alloc (.cells (hdC x.h (.slice pa x.h.p.length pc) (.slice la x.kids.len lc)).toArray 27 (0,0))) (World.grownBy_alloc _ _ _) (w.heap.size+1) (by simp));clear hp hl;go_enter func6,ntmps6;go_wp2_with fail;refine HR.out.mono ?_;rintro e w1 ⟨n,rfl,g1⟩;have gwx:w.grownBy w1 none:=Aa (Ad (World.grownBy_alloc _ _ _) _) g1;clear g1;go_wp2;go_ret;exact⟨_,rfl,gwx⟩
end Go.Proofs.YtgjdhajcnechdaaGreatDoor
