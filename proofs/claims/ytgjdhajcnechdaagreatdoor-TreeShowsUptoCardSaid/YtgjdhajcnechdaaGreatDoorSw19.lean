/-
  Days: Split; digits: decimal, padded. Plain laws: each expression that is right is written, and read from what is written. The reference's reader: names, list, closed. The reference's reader: bin; an 
-/
import Derived.Test.YtgjdhajcnechdaaGreatDoorSw08
import Derived.Lib.ItoaMem
import Derived.Test.YtgjdhajcnechdaaGreatDoorSw04
import Derived.Test.YtgjdhajcnechdaaGreatDoorSw16
import Derived.Test.YtgjdhajcnechdaaGreatDoorSw09
set_option linter.all false
set_option maxRecDepth 100000
set_option maxHeartbeats 8000000
namespace Go.Proofs.YtgjdhajcnechdaaGreatDoor
open Go.Proofs.Tryz
open Go.RowKit Go.Lib
theorem NI:Ai 1=0:=by decide
theorem IS:Ai 10000=3652059:=by decide
theorem Mn{n:Int}(h0:0<n)(h1:n≤3652059):1≤n.tdiv 366+1∧n.tdiv 366+1≤9999∧Ai (n.tdiv 366+1)<n:=by
 rw[Int.tdiv_eq_ediv_of_nonneg (by omega)];refine⟨by omega,by omega,?_⟩;unfold Ai;rw[show n/366+1-1=n/366 by omega,Int.tdiv_eq_ediv_of_nonneg (by omega),Int.tdiv_eq_ediv_of_nonneg (by omega),Int.tdiv_eq_ediv_of_nonneg (by omega)];omega
theorem Jq(n:Int)(h0:0<n)(h1:n≤3652059)(w:World):Calls Tryz.prog 147 #[.int .i64 n] w fun e w'=>e= .returned (.bool true)∧w'=w:=by
 go_enter func147,ntmps147;go_wp2;go_ret;exact⟨rfl,rfl⟩
theorem FK{y:Int}(h0:1≤y)(h1:y≤10000):0≤Ai y∧Ai y≤3652059:=by
 unfold Ai;rw[Int.tdiv_eq_ediv_of_nonneg (by omega),Int.tdiv_eq_ediv_of_nonneg (by omega),Int.tdiv_eq_ediv_of_nonneg (by omega)];omega
theorem ET{y m:Int}(h0:1≤m)(h1:m≤12):28≤AK y m∧AK y m≤31:=by
 unfold AK;split
 ·omega
 ·have h:∀k:Nat,k<12→28≤([31,28,31,30,31,30,31,31,30,31,30,31]:List Int).getD k 0∧([31,28,31,30,31,30,31,31,30,31,30,31]:List Int).getD k 0≤31:=by decide
  exact h _ (by omega)
theorem Ip(y:Int)(m:Nat)(h:1≤m):Aj y m=Aj y (m-1)+AK y m:=by
 obtain⟨k,rfl⟩:∃k,m=k+1:=⟨m-1,by omega⟩;rfl
theorem Jz{y n:Int}(h0:1≤y)(h:n≤Ai (y+1)):n-Ai y≤Aj y 12:=by
 have e:Ai (y+1)=Ai y+Aj y 12:=by
  have hl:Aj y 12=if Cw y then 366 else 365:=by
   simp only[Aj,AK];cases Cw y<;>rfl
  rw[hl];unfold Ai Cw;rw[show y+1-1=y by omega];have e1:∀b:Int,0<b→y.tdiv b=y/b:=fun b hb=>Int.tdiv_eq_ediv_of_nonneg (by omega);have e2:∀b:Int,0<b→(y-1).tdiv b=(y-1)/b:=fun b hb=>Int.tdiv_eq_ediv_of_nonneg (by omega);have e3:∀b:Int,0<b→y.tmod b=y%b:=fun b hb=>Int.tmod_eq_emod_of_nonneg (by omega);rw[e1 4 (by omega),e1 100 (by omega),e1 400 (by omega),e2 4 (by omega),e2 100 (by omega),e2 400 (by omega),e3 4 (by omega),e3 100 (by omega),e3 400 (by omega)];simp only[Bool.and_eq_true,Bool.or_eq_true,beq_iff_eq,bne_iff_ne,ne_eq];split<;>omega
 omega
theorem PV(n:Int)(h0:0<n)(h1:n≤3652059)(w:World):Calls Tryz.prog 189 #[.int .i64 n] w fun e w'=>
 (∃y m q:Nat,e= .returned (.tuple #[.int .i64 y,.int .i64 m,.int .i64 q,.int .i64 0])∧1≤y∧y≤9999∧1≤m∧m≤12∧1≤q∧(q:Int)≤AK y m∧Ai y+Aj y (m-1)+q=n)∧w.grownBy w' none:=by
 obtain⟨a1,a2,a3⟩:=Mn h0 h1;have hz:(n==0)=false:=by simp;omega
 rw[Int.tdiv_eq_ediv_of_nonneg (by omega)]at a1 a2 a3;have HA:=O (Z a1 (Z a2 a3));have HN:=O (Z h0 h1);clear a3;go_enter func189,ntmps189;go_wp2_with fail;refine(Jq n h0 h1 _).mono ?_;rintro e w1 ⟨rfl,rfl⟩;go_wp2_with fail;go_loopg [6] 10000 (fun g v6 wr=>∃y:Int,v6= .int .i64 y∧1≤y∧y≤9999∧10000≤y+g∧Ai y<n∧wr=w1)
 case atStart=>exact⟨_,rfl,HA.out.1,HA.out.2.1,by have:=HA.out.1;omega,HA.out.2.2,rfl⟩
 case round=>
  obtain⟨y,rfl,b1,b2,b3,b4,rfl⟩:=hrel;clear a1 a2;have hy1:=FK (y:=y+1) (by omega) (by omega);have hy0:=FK (y:=y) (by omega) (by omega);have HY:=O (FY (y+1) (by omega) (by omega) wr);have HY0:=O (FY y (by omega) (by omega) wr);by_cases hc:Ai (y+1)<n
  ·have hcI:decide (Ai (y+1)<n)=true:=by simpa using hc
   have hy9:y+1≤9999:=by
    rcases Int.lt_or_le 9998 y with h|h
    ·obtain rfl:y=9999:=by omega
     have:=IS;rw[show(9999:Int)+1=10000 from rfl]at hc;omega
    ·omega
   have HC:=O hc;clear hc b4;generalize hz1:Ai (y+1)=z at*;have HZ:=O hz1;clear hz1;go_wp2_with fail;refine HY.out.mono ?_;rintro e w2 ⟨rfl,rfl⟩;go_wp2;go_roundg (gk-1)
   case measure=>omega
   case rel=>exact⟨y+1,by go_num,by omega,hy9,by omega,by rw[HZ.out];exact HC.out,rfl⟩
  ·have hcI:decide (Ai (y+1)<n)=false:=by simpa using hc
   have hd:=Jz b1 (Int.not_lt.1 hc);have HD:=O (Z hd b4);generalize hz1:Ai (y+1)=z at*;generalize hz0:Ai y=z0 at*;clear hc hd hz1;go_wp2_with fail;refine HY.out.mono ?_;rintro e w2 ⟨rfl,rfl⟩;go_wp2_with fail;refine HY0.out.mono ?_;rintro e w2 ⟨rfl,rfl⟩;go_wp2_with fail;go_loopg [7,8] 13 (fun g v7 v8 wr=>∃m:Nat,v7= .int .i64 (n-z0-Aj y (m-1))∧v8= .int .i64 m∧1≤m∧m≤12∧13≤m+g∧0<n-z0-Aj y (m-1)∧w2.grownBy wr none)
   case atStart=>exact⟨1,by simp[Aj],rfl,by omega,by omega,by omega,by simp[Aj];omega,Ac _ _⟩
   case round=>
    obtain⟨m,rfl,rfl,c1,c2,c3,c4,gr⟩:=hrel;have hm:=ET (y:=y) (m:=m) (by omega) (by omega);have hbf:=EL y (m-1) (by omega);have HM:=O (fun W=>Ft y m (by omega) (by omega) (by omega) (by omega) W);have hnx:=Ip y m c1;have h12:m=12→n-z0-Aj y (m-1)≤AK y m:=by
     rintro rfl;have:=HD.out.1;omega
    have hyz:0≤z0∧z0≤3652059:=hy0;by_cases hc:AK y m<n-z0-Aj y (m-1)
    ·have hcI:decide (AK y m<n-z0-Aj y (m-1))=true:=by simpa using hc
     have hm12:m≤11:=by
      rcases Nat.lt_or_ge 11 m with h|h
      ·have:=h12 (by omega);omega
      ·exact h
     have HX:=O (show n-z0-Aj y (m-1)-AK y m=n-z0-Aj y (m+1-1)by rw[Nat.add_sub_cancel,hnx];omega);have HC:=O (show 0<n-z0-Aj y (m+1-1)by rw[←HX.out];omega);clear hnx h12 hc;generalize hd:n-z0-Aj y (m-1)=d at*;generalize hmm:AK y m=mm at*;have hdb:d≤3652059:=by omega
     clear hd hmm;go_wp2_with fail;refine(HM.out _).mono ?_;rintro e w3 ⟨rfl,g3⟩;go_wp2_with fail;refine(HM.out _).mono ?_;rintro e w4 ⟨rfl,g4⟩;go_wp2;go_roundg (gk-1)
     case measure=>omega
     case rel=>exact⟨m+1,by rw[←HX.out],by go_num,by omega,by omega,by omega,HC.out,Aa (Aa gr g3) g4⟩
    ·have hcI:decide (AK y m<n-z0-Aj y (m-1))=false:=by simpa using hc
     have HX:=O (show(∃y' m' q':Nat,((y:Int),(m:Int),n-z0-Aj y (m-1))=((y':Int),(m':Int),(q':Int))∧1≤y'∧y'≤9999∧1≤m'∧m'≤12∧1≤q'∧(q':Int)≤AK y' m'∧Ai y'+Aj y' (m'-1)+q'=n)by
      obtain⟨y',rfl⟩:∃y':Nat,y=y':=⟨y.toNat,by omega⟩;obtain⟨q',hq'⟩:∃q':Nat,n-z0-Aj y' (m-1)=q':=⟨(n-z0-Aj y' (m-1)).toNat,by omega⟩;exact⟨y',m,q',by rw[hq'],by omega,by omega,c1,c2,by omega,by omega,by rw[hz0];omega⟩)
     clear hnx h12 hc;generalize hd:n-z0-Aj y (m-1)=d at*;generalize hmm:AK y m=mm at*;have hdb:d≤3652059:=by omega
     clear hd hmm;go_wp2_with fail;refine(HM.out _).mono ?_;rintro e w3 ⟨rfl,g3⟩;go_wp2;obtain⟨y',m',q',e,hh⟩:=HX.out;simp only[Prod.mk.injEq]at e;refine bodyPost_ret (v:= .tuple #[.int .i64 y,.int .i64 m,.int .i64 d,.int .i64 0]) (by simp[results,results189,go_sem]) rfl ⟨⟨y',m',q',by rw[←e.1,←e.2.1,←e.2.2],hh⟩,Aa gr g3⟩
theorem Gp:∀k:Nat,k<10→(⟨#[48,49,50,51,52,53,54,55,56,57]⟩:ByteArray).extract k (k+1)=⟨#[UInt8.ofNat (48+k)]⟩:=by
 intro k hk;match k,hk with
 | 0,_ | 1,_ | 2,_ | 3,_ | 4,_ | 5,_ | 6,_ | 7,_ | 8,_ | 9,_=>rfl
theorem Dh(x y:Bs):Value.string (⟨x.toArray⟩++⟨y.toArray⟩)=str (x++y):=by rw[ByteArray.mk_append_mk]
theorem KD{u:Nat}(h:u≤1000000):nDigits u≤7:=by
 by_cases h0:u<10
 ·rw[nDigits_small h0];omega
 rw[nDigits_big h0];by_cases h1:u/10<10
 ·rw[nDigits_small h1];omega
 rw[nDigits_big h1];by_cases h2:u/10/10<10
 ·rw[nDigits_small h2];omega
 rw[nDigits_big h2];by_cases h3:u/10/10/10<10
 ·rw[nDigits_small h3];omega
 rw[nDigits_big h3];by_cases h4:u/10/10/10/10<10
 ·rw[nDigits_small h4];omega
 rw[nDigits_big h4];by_cases h5:u/10/10/10/10/10<10
 ·rw[nDigits_small h5];omega
 rw[nDigits_big h5,nDigits_small (by omega)];omega
theorem LC:∀(N u:Nat),u<N→u≤1000000→∀(w:World),Calls Tryz.prog 231 #[.int .i64 u] w fun e w'=>e= .returned (str (decDigits u))∧w.grownBy w' none:=by
 intro N;induction N with
 |zero=>intro u h;omega
 | succ N ih=>
   intro u hN hu w;have hneg:decide ((u:Int)<0)=false:=by simp
   by_cases h:u<10
   ·have hI:decide ((u:Int)<10)=true:=by simp;omega
    have HD:=O (show decDigits u=[UInt8.ofNat (48+u)]by rw[decDigits];exact if_pos h);have HC:=O (Gp u h);clear ih;go_enter func231,ntmps231;go_wp2;go_ret;refine⟨?_,Ac _ _⟩;rw[HD.out];exact congrArg (fun b=>Ending.returned (Value.string b)) HC.out
   ·have hI:decide ((u:Int)<10)=false:=by simp;omega
    have HD:=O (show decDigits u=decDigits (u/10)++[UInt8.ofNat (48+u%10)]by rw[decDigits];exact if_neg h);have HC:=O (Gp (u%10) (by omega));have H:=O (fun W=>ih (u/10) (by omega) (by omega) W);have e1:(u:Int)/10=((u/10:Nat):Int):=by omega
    have e2:(u:Int)%10=((u%10:Nat):Int):=by omega
    have e3:(u:Int).tdiv 10=((u/10:Nat):Int):=by rw[Int.tdiv_eq_ediv_of_nonneg (by omega)];omega
    have e4:(u:Int).tmod 10=((u%10:Nat):Int):=by rw[Int.tmod_eq_emod_of_nonneg (by omega)];omega
    have h10:u%10<10:=by omega
    have hq0:u/10≤1000000:=by omega
    generalize u/10=q at*;generalize u%10=r at*;have r0:(0:Int)≤(r:Int):=by omega
    have r1:(r:Int)≤(r:Int)+1:=by omega
    have r2:(r:Int)+1≤10:=by omega
    have w1:IntKind.i64.wrap (q:Int)=q:=IntWalk.i64_in _ (by omega);have w2:IntKind.i64.wrap ((r:Int)+1)=(r:Int)+1:=IntWalk.i64_in _ (by omega);clear ih h;go_enter func231,ntmps231;go_wp2_with fail;have hl:(decDigits q).length≤7:=by rw[decDigits_length];exact KD hq0
    generalize decDigits q=ds at*;have HC':=HC.out;have hcl:¬(9223372036854775807<ds.length+1):=by omega
    go_region_held3 (fun W=>w.grownBy W none) (first|exact Am (Ac _ _)|exact Aa (Am (Ac w none)) g5) (first| (go_at_call 231;refine(H.out _).mono ?_;rintro e w5 ⟨rfl,g5⟩));rename_i hH;have HG:=O hH;clear hH;go_wp2;go_ret;refine⟨?_,HG.out⟩;have e:UInt8.ofNat (48+r)=48+UInt8.ofNat r:=UInt8.ofNat_add 48 r;rw[HD.out,←Dh,e];rfl
theorem Mx(c:Nat):Lib.repeatL [48] c=List.replicate c (48:UInt8):=by
 induction c with
 |zero=>rfl
 |succ c ih=>rw[List.replicate_succ,←ih];rfl
theorem Gw(u k:Nat)(hu:u≤9999)(hl:(decDigits u).length≤k)(hk:k≤4)(w:World):Calls Tryz.prog 190 #[.int .i64 u,.int .i64 k] w fun e w'=>e= .returned (str (List.replicate (k-(decDigits u).length) 48++decDigits u))∧w.grownBy w' none:=by
 have H:=O (LC (u+1) u (Nat.lt_succ_self _) (by omega) w);generalize decDigits u=ds at*;obtain⟨c,hc⟩:∃c,k=ds.length+c:=⟨k-ds.length,by omega⟩;subst hc;rw[Nat.add_sub_cancel_left];have e1:((ds.length+c:Nat):Int)-(ds.length:Int)=(c:Int):=by omega
 have e2:((ds.length:Int)+(c:Int))-(ds.length:Int)=(c:Int):=by omega
 have hz0:(List.replicate c (48:UInt8)).length=c:=List.length_replicate;have hz1:=Mx c;generalize List.replicate c (48:UInt8)=z at*;have HZ:=O hz1;have hcl:¬(9223372036854775807<z.length+ds.length):=by omega
 clear hz1 hz0;go_enter func190,ntmps190;go_wp2_with fail;refine H.out.mono ?_;rintro e w1 ⟨rfl,g1⟩;go_wp2_with fail;refine(strings_Repeat ⟨[48].toArray⟩ c _ (by omega) (by simp[ByteArray.size];omega)).mono ?_;rintro e w2 ⟨rfl,hb⟩;rw[show(⟨[(48:UInt8)].toArray⟩:ByteArray).data.toList=[48]from rfl,HZ.out];have HG:=O (Aa g1 (gbB hb none));clear hb g1;go_wp2;go_ret;exact⟨by rw[←Dh];rfl,HG.out⟩
structure Dv(d:Wd)(day:Bs→Int):Prop where
 nums:∀n:Int,0≤n→n≤999999999999999→(d.num n).length≤15∧As (d.num n)=n
 days:∀n:Int,0<n→n≤3652059→day (d.day n)=n
 zero:day []=0
theorem Dc{h:Hd}{o:Int}(ho:h.op=o)(h1:h.vk=0∧h.vn=0∧h.vs=[])(h2:h.p=[]):h=hd0 o h.s:=by
 obtain⟨op,s,vk,vn,vs,p⟩:=h;obtain⟨h3,h4,h5⟩:=h1;simp only at ho h2 h3 h4 h5;subst ho h2 h3 h4 h5;rfl
theorem DV{k:Fo}(h:k.len=0):k= .nil:=by
 cases k with
 |nil=>rfl
 |cons a b c=>simp[Fo.len]at h
theorem Cz{k:Fo}(h:k.len=1):∃a b,k= .cons a b .nil:=by
 cases k with
 |nil=>simp[Fo.len]at h
 |cons a b c=>exact⟨a,b,by rw[DV (k:=c) (by simpa[Fo.len]using h)]⟩
theorem E0{k:Fo}(h:k.len=2):∃a b a' b',k= .cons a b (.cons a' b' .nil):=by
 cases k with
 |nil=>simp[Fo.len]at h
 | cons a b c=>
   obtain⟨a',b',rfl⟩:=Cz (k:=c) (by simpa[Fo.len]using h);exact⟨a,b,a',b',rfl⟩
section
variable {day:Bs→Int}{d:Wd}{l:List Tok}{i n N:Nat}{E:Nat→Res Ex}
theorem C8{s:Bs}(h:Ab l i=sg s):Be l s i= .ok () (i+1):=by
 unfold Be;rw[h,Bk,if_pos (by simp)]
theorem EU{s:Bs}(h:Ab l i=wd s):Bd l day E n i=BN l E n i:=by
 unfold Bd;rw[h];rfl
theorem Hj(s t:Bs):Ae (wd s) t=false:=rfl
theorem N2(hd:Dv d day){h:Hd}(h0:h.op=0)(hs:h.s=[])(hp:h.p=[])(hc:A2 h=true):Good day h .nil (BK d h):=by
 obtain⟨op,s,vk,vn,vs,p⟩:=h;simp only at h0 hs hp;subst h0 hs hp;unfold A2 at hc;simp only at hc;have sig:∀(t:Bs)(x:Ex),(t=[46,84,46]∧x=A0 1 1 []∨t=[46,70,46]∧x=A0 1 0 []∨t=[46,78,85,76,76,46]∧x=A0 0 0 [])→∀s',Good day x.h x.kids (some ([sg t],s')):=by
  intro t x hx s';refine Good.prim (t:=[sg t]) ⟨_,_,rfl,?_⟩ ?_
  ·rcases hx with⟨rfl,_⟩| ⟨rfl,_⟩| ⟨rfl,_⟩<;>simp[sg]
  ·intro l N i _ ha _;rw[D2 ha.head];unfold B0;rw[ha.head];simp only[Bk];rcases hx with⟨rfl,rfl⟩| ⟨rfl,rfl⟩| ⟨rfl,rfl⟩<;>rfl
 by_cases k0:vk=0
 ·subst k0;simp at hc;obtain⟨rfl,rfl⟩:=hc;exact sig _ (A0 0 0 []) (.inr (.inr ⟨rfl,rfl⟩)) _
 rw[if_neg k0]at hc;by_cases k1:vk=1
 ·subst k1;simp at hc;obtain⟨rfl|rfl,rfl⟩:=hc
  ·exact sig _ (A0 1 0 []) (.inr (.inl ⟨rfl,rfl⟩)) _
  ·exact sig _ (A0 1 1 []) (.inl ⟨rfl,rfl⟩) _
 rw[if_neg k1]at hc;by_cases k2:vk=2
 ·subst k2;simp at hc;obtain⟨⟨h1,h2⟩,rfl⟩:=hc;obtain⟨e1,e2⟩:=hd.nums vn h1 h2;have e:BK d ⟨0,[],2,vn,[],[]⟩=some ([⟨1,0,d.num vn⟩],d.num vn):=by
   unfold BK;rw[if_neg (by simp[A1];omega),if_neg (by simp),if_neg (by simp),if_pos rfl];simp only;rw[if_neg (by omega)]
  rw[e];refine Good.prim ⟨_,_,rfl,by simp⟩ ?_;intro l N i _ ha _;unfold Bd;rw[ha.head];simp only[e2];rfl
 rw[if_neg k2]at hc;by_cases k3:vk=3
 ·subst k3;simp at hc;obtain⟨⟨h1,h2⟩,rfl⟩:=hc;by_cases hz:vn=0
  ·subst hz;refine Good.prim (t:=[⟨3,0,[]⟩]) (s:=[123,125]) ⟨_,_,rfl,by simp⟩ ?_;intro l N i _ ha _;unfold Bd;rw[ha.head];simp only[hd.zero];rfl
  ·have e : BK d ⟨0, [], 3, vn, [], []⟩ = some ([⟨3, 0, d.day vn⟩], CZ (d.day vn)) := by
    unfold BK;rw[if_neg (by simp[A1];omega),if_neg (by simp),if_neg (by simp),if_neg (by simp),if_pos rfl,if_neg hz]
   rw[e];refine Good.prim ⟨_,_,rfl,by simp⟩ ?_;intro l N i _ ha _;unfold Bd;rw[ha.head];simp only[hd.days vn (by omega) h2];rfl
 rw[if_neg k3]at hc;by_cases k4:vk=4
 ·subst k4;simp only[if_true,Bool.and_eq_true,beq_iff_eq]at hc;obtain⟨rfl,ht⟩:=hc;unfold Cy at ht;simp only[Bool.and_eq_true,decide_eq_true_eq,Bool.not_eq_true',Bool.and_eq_false_iff]at ht;obtain⟨⟨h1,h2⟩,h3⟩:=ht;have e:BK d ⟨0,[],4,0,vs,[]⟩=some ([⟨2,0,vs⟩],Bq vs::vs++[Bq vs]):=by
   unfold BK;rw[if_neg (by simp[A1];omega),if_neg (by simp),if_neg (by simp),if_neg (by simp),if_neg (by simp)];unfold Dx;rw[if_pos ?_];rw[List.all_eq_true]at h1 ⊢;intro b hb;rw[Bool.and_eq_true];refine⟨h1 b hb,?_⟩;unfold Bq;rcases h3 with h3|h3
   ·rw[h3];simp only[Bool.false_eq_true,if_false,bne_iff_ne,ne_eq];rintro rfl;simp[List.contains_eq_mem]at h3;exact h3 hb
   ·split
    ·simp only[bne_iff_ne,ne_eq];rintro rfl;simp[List.contains_eq_mem]at h3;exact h3 hb
    ·rename_i h34;simp only[bne_iff_ne,ne_eq];rintro rfl;simp[List.contains_eq_mem]at h34;exact h34 hb
  rw[e];refine Good.prim ⟨_,_,rfl,by simp⟩ ?_;intro l N i _ ha _;unfold Bd;rw[ha.head];have h2':¬(2048<vs.length):=by omega
  simp[h2',A0]
 rw[if_neg k4]at hc;cases hc
theorem Pc{s:Bs}(hs:An s=true):Good day (hd0 1 s) .nil (nmW s):=by
 unfold nmW;rw[if_pos hs];refine Good.prim (t:=[wd s]) ⟨_,_,rfl,by simp[wd]⟩ ?_;intro l N i _ ha hst;have h1:E7 (Ab l (i+1)):=hst;rw[EU ha.head];unfold BN;rw[if_neg (by rw[FI h1 (by decide)];simp),CU ha.head hs,Res.bind_ok,if_neg (by rw[FI h1 (by decide)];simp)];rfl
theorem QJ{s:Bs}(hs:An s=true):Good day (hd0 10 s) .nil (catL [sgn [64],nmW s]):=by
 have e:catL [sgn [64],nmW s]=some ([sg [64],wd s],64::s):=by simp[catL,Av,sgn,nmW,hs]
 rw[e];refine Good.prim ⟨_,_,rfl,by simp[sg]⟩ ?_;intro l N i _ ha _;rw[D2 ha.head];unfold B0;rw[ha.head];simp only[Bk];rw[if_neg (by decide),if_neg (by decide),if_neg (by decide),if_neg (by decide),if_neg (by decide),if_pos (by decide),CU ha.tail.head hs,Res.bind_ok];rfl
theorem N0{s:Bs}{h:Hd}{k:Fo}{w:OW}(hs:An s=true)(g:Good day h k w)(ho:AI h k.len=true):
 Good day (hd0 2 s) (.cons h k .nil) (catL [nmW s,sgn [45,62],if h.op=1 then nmW h.s else BX w]):=by
 by_cases h1:h.op=1
 ·obtain⟨p1,p2,p3⟩:=DQ ho;have e:=Dc h1 (p1 (by omega)) (p2 (by omega));have hk:An h.s=true∧k.len=0:=by
   unfold Ap at p3;rw[if_neg (by omega),if_pos (.inl h1)]at p3;simpa using p3
  have e2:=DV hk.2;subst e2;rw[if_pos h1];have e3:catL [nmW s,sgn [45,62],nmW h.s]=some ([wd s,sg [45,62],wd h.s],s++([45,62]++h.s)):=by simp[catL,Av,sgn,nmW,hs,hk.1]
  rw[e3];refine Good.prim ⟨_,_,rfl,by simp[wd]⟩ ?_;intro l N i _ ha _;rw[EU ha.head];unfold BN;rw[ha.tail.head,Bk,if_neg (by decide),CU ha.head hs,Res.bind_ok,ha.tail.head,Bk,if_pos (by decide)];rw[show i+1+1=i+1+1 from rfl,ha.tail.tail.head,Hj,if_neg (by simp),CU ha.tail.tail.head hk.1,Res.bind_ok,e];rfl
 ·rw[if_neg h1];obtain⟨t,s',rfl,hf,hr,_⟩:=g.ex;have e3:catL [nmW s,sgn [45,62],BX (some (t,s'))]=some (wd s::sg [45,62]::sg [40]::(t++[sg [41]]),s++([45,62]++([40]++(s'++[41])))):=by simp[catL,Av,sgn,nmW,hs,BX]
  rw[e3];refine Good.prim ⟨_,_,rfl,by simp[wd]⟩ ?_;intro l N i hN ha _;simp only[List.length_cons,List.length_append,List.length_nil]at hN ⊢;have hc:Ab l (i+1+1+1+t.length)=sg [41]:=ha.tail.tail.tail.right.head;rw[EU ha.head];unfold BN;rw[ha.tail.head,Bk,if_neg (by decide),CU ha.head hs,Res.bind_ok,ha.tail.head,Bk,if_pos (by decide)];rw[ha.tail.tail.head,Bk,if_pos (by decide)];rw[show i+1+2=i+1+1+1 from rfl,hr l N (i+1+1+1) (by omega) ha.tail.tail.tail.left (by rw[hc];exact CW (by decide)),Res.bind_ok,C8 hc,Res.bind_ok];show Res.ok _ _=_;congr 1;omega
theorem Pa{s:Bs}{k:Fo}(hs:An s=true)(hk:Eh day d k):Good day (hd0 3 s) k (catL [nmW s,sgn [40],AZ ((Ao d k).map (·.2)),sgn [41]]):=by
 cases k with
 | nil=>
   have e3:catL [nmW s,sgn [40],AZ ((Ao d .nil).map (·.2)),sgn [41]]=some ([wd s,sg [40],sg [41]],s++([40]++[41])):=by simp[catL,Av,sgn,nmW,hs,Ao,AZ]
   rw[e3];refine Good.prim ⟨_,_,rfl,by simp[wd]⟩ ?_;intro l N i _ ha _;rw[EU ha.head];unfold BN;rw[ha.tail.head,Bk,if_pos (by decide)];unfold C4;rw[CU ha.head hs,Res.bind_ok,C8 ha.tail.head,Res.bind_ok,ha.tail.tail.head,Bk,if_pos (by decide)];rfl
 | cons h' k' n'=>
   obtain⟨t,s',e,hf,hr⟩:=IE d hk;have e3:catL [nmW s,sgn [40],AZ ((Ao d (.cons h' k' n')).map (·.2)),sgn [41]]=some (wd s::sg [40]::(t++[sg [41]]),s++([40]++(s'++[41]))):=by
    rw[e];simp[catL,Av,sgn,nmW,hs]
   rw[e3];refine Good.prim ⟨_,_,rfl,by simp[wd]⟩ ?_;intro l N i hN ha _;simp only[List.length_cons,List.length_append,List.length_nil]at hN ⊢;have hc:Ab l (i+1+1+t.length)=sg [41]:=ha.tail.tail.right.head;rw[EU ha.head];unfold BN;rw[ha.tail.head,Bk,if_pos (by decide)];unfold C4;rw[CU ha.head hs,Res.bind_ok,C8 ha.tail.head,Res.bind_ok,if_neg (by rw[hf.sign ha.tail.tail.left (by decide)];simp)];rw[hr l N N (i+1+1) (by omega) (by omega) ha.tail.tail.left (by rw[hc];exact⟨CW (by decide),by decide⟩),Res.bind_ok,C8 hc,Res.bind_ok];show Res.ok _ _=_;congr 1;omega
end
abbrev VEx(w:World):World→Value→Ex→Prop:=fun w' v x=>VE (A8 w.heap.size) w' v x
abbrev VFo(w:World):World→Value→Fo→Prop:=fun w' v f=>VL w.heap.size w' v f
abbrev VNs(w:World):World→Value→List Bs→Prop:=fun w' v p=>VS w.heap.size w' v p
def CR(f:FuncId)(b:Nat)(tv:Value)(l:List Tok)(g:FR Ex):Prop:=
 ∀w st r,Rr w b tv l st→g st=some r→Calls Tryz.prog f #[.pointer (some ⟨b,0,none⟩)] w (B9 b tv l w (VEx w) r)
section
variable {w:World}{b:Nat}{tv:Value}{l:List Tok}{st:RS}
def Rk(l:List Tok)(b:Nat)(tv:Value)(n:Nat)(w:World)(r:List Bs×RS)(m:Nat)(v:Value)(wr:World):Prop:=
 ∃acc st,wr.ownsRow w.heap.size 9 1 v acc.length (acc.map str)∧Rr wr b tv l st∧D5 l m acc st=some r∧w.grownBy wr (some b)∧acc.length+m≤n+1
theorem Nm(h:Rr w b tv l st)(n:Nat)(hn:n≤4000000){r:List Bs×RS}(ho:Fd l n st=some r):
 Calls Tryz.prog 333 #[.pointer (some ⟨b,0,none⟩)] w (B9 b tv l w (VNs w) r):=by
 have hb:=h.lt;have H:=O ho;clear ho;go_enter func333,ntmps333;go_wp2_with fail;refine(En h).mono ?_;rintro e w1 ⟨g1,v,rfl,rfl,h1⟩;generalize hx:(A3 l st).1=x at*;have HR:=O (show D5 l n [x] (A3 l st).2=some r by rw[←H.out,Fd,hx]);clear hx;have hs1:=g1.size;have ho1:(w1.alloc (.cells [str x].toArray 9 (0,0))).ownsRow w.heap.size 9 1 (.slice (some ⟨w1.heap.size,0,none⟩) 1 1) 1 [str x]:=Fp rfl hs1 rfl (by decide);have h1':=h1.alloc (.cells [str x].toArray 9 (0,0));have g1':=Ad g1 (.cells [str x].toArray 9 (0,0));clear H;go_wp2_with fail;go_loopg [3] n (fun m v wr=>Rk l b tv n w r m v wr)
 case atStart=>exact⟨[x],_,ho1,h1',HR.out,g1',by simp;omega⟩
 case round=>
  obtain⟨acc,st',hown,hp,hloop,gr,hlen⟩:=hrel;clear ho1 h1' g1' h1 g1 HR;cases gk with
  |zero=>cases hloop
  |succ m=>
  have HT:=O (Cg hp [44]);have HO:=O hown;rw[D5]at hloop;cases hs:A4 l [44] st' with
  | false=>
    rw[hs]at HT hloop;have HQ:=O (show some (acc,Ak l [44] st')=some r from hloop);clear hloop hown hs;go_wp2_with fail;refine HT.out.mono ?_;rintro e w2 ⟨g2,v,rfl,rfl,h2⟩;have HE:=O (Z g2 h2);clear g2 h2;go_wp2;go_ret;have e1:=HQ.out;cases e1;have hpb:=hp.lt;exact⟨Aa gr HE.out.1,_,rfl,VS.of_owns (C2 HO.out HE.out.1 (by intro k hk _ e;cases e;omega)),HE.out.2⟩
  | true=>
    rw[hs]at HT hloop;have HQ:=O (show D5 l m (acc++[(A3 l (Ak l [44] st')).1]) (A3 l (Ak l [44] st')).2=some r from hloop);clear hloop hown hs;go_wp2_with fail;refine HT.out.mono ?_;rintro e w2 ⟨g2,v,rfl,rfl,h2⟩;have hp2:=h2.lt;go_wp2_with fail;refine(En h2).mono ?_;rintro e w3 ⟨g3,v,rfl,rfl,h3⟩;generalize(A3 l (Ak l [44] st')).1=y at*;have g23:=Aa g2 g3;have hown3:=C2 HO.out g23 (by intro k hk _ e;cases e;omega);have hown4:=hown3.alloc (.cells [str y].toArray 9 (0,0));have gA:=Ad (Aa gr g23) (.cells [str y].toArray 9 (0,0));have hA:=h3.alloc (.cells [str y].toArray 9 (0,0));have hbs:=gA.size;obtain⟨i0,hi,hz0,hz1,hz2⟩:=info_parts C0;have hnc:=BZ w3 [str y] 9;have hml:acc.length+1≤maxLen:=by unfold maxLen;omega
    clear hown3;have HX:=O (Z hi (Z hz0 (Z hz1 (Z hz2 (Z hnc (Z hml hown4))))));clear hi hz0 hz1 hz2 hnc hml hown4;go_wp2_with (at_builtin;obtain⟨hi,hz0,hz1,hz2,hnc,hml,hown4⟩:=HX.out;refine D7 rfl _ _ 24 rfl w.heap.size 9 i0 (str []) 1 16 underlying24 hi hz0 hz1 hz2 rfl (by decide) _ _ _ rfl hown4 ⟨w3.heap.size,0,none⟩ 1 1 [str y] rfl rfl hnc (by simp[Value.oneCell']) hml (by omega) hbs ?_;intro v' w5 hown5 g5 _;clear hi hz0 hz1 hz2 hnc hml hown4);have HO5:=O hown5;clear hown5;go_roundg m
    case measure=>omega
    case rel=>
     have hob:∀k,u3.ownBlock=some k→b<k:=fun k hk=>by have:=(HO.out.lt k hk).1;omega
     have hob2:∀k,u3.ownBlock=some k→w.heap.size≤k:=fun k hk=>(HO.out.lt k hk).1;refine⟨acc++[y],_,by simpa using HO5.out,hA.gb g5 hob,HQ.out,?_,by simp;omega⟩;have g5':World.grownBy (w3.alloc _) w5 u3.ownBlock:=g5;cases hv:u3.ownBlock with
     |none=>rw[hv]at g5';exact Ag gA g5'
     |some k=>rw[hv]at g5';exact A9 gA g5' (.inr (hob2 k hv))
def Sn(l:List Tok)(E:FR Ex)(b:Nat)(tv:Value)(n:Nat)(w:World)(r:Fo×RS)(m:Nat)(v:Value)(wr:World):Prop:=
 ∃acc st,OwnF wr w.heap.size v acc∧Rr wr b tv l st∧Ef l E m acc st=some r∧w.grownBy wr (some b)∧acc.len+m≤n+1
theorem IY{E:FR Ex}(hE:CR 48 b tv l E)(h:Rr w b tv l st)(n:Nat)(hn:n≤4000000){r:Fo×RS}(ho:DC l E n st=some r):
 Calls Tryz.prog 332 #[.pointer (some ⟨b,0,none⟩)] w (B9 b tv l w (VFo w) r):=by
 have hb:=h.lt;unfold DC at ho;obtain⟨⟨x,st1⟩,hx,ho⟩:=Option.bind_eq_some_iff.1 ho;simp only at ho;have H:=O (Z hE ho);have HX:=O (hE _ _ _ h hx);clear hE ho hx;go_enter func332,ntmps332;go_wp2_with fail;refine HX.out.mono ?_;rintro e w1 ⟨g1,v,rfl,⟨pa,pc,la,lc,rfl,rp,rl⟩,h1⟩;simp only at rp rl h1 ⊢;have hs1:=g1.size;have hlt:=h1.lt;have ho1:OwnF (w1.alloc (.cells (hdC x.h (.slice pa x.h.p.length pc) (.slice la x.kids.len lc)).toArray 27 (0,0))) w.heap.size (.slice (some ⟨w1.heap.size,0,none⟩) 1 1) (.one x):=by
  have g:=World.grownBy_alloc w1 (.cells (hdC x.h (.slice pa x.h.p.length pc) (.slice la x.kids.len lc)).toArray 27 (0,0)) none;refine⟨_,Fp rfl hs1 rfl (by decide),RepF.gb g (by simp) (RepF.mono (ok:=A8 w.heap.size) ?_ (VE.rep rp rl))⟩;intro k hk hk2;exact⟨hk,by simp[Value.ownBlock];omega⟩
 have HO:=O ho1;have h1':=h1.alloc (.cells (hdC x.h (.slice pa x.h.p.length pc) (.slice la x.kids.len lc)).toArray 27 (0,0));have g1':=Ad g1 (.cells (hdC x.h (.slice pa x.h.p.length pc) (.slice la x.kids.len lc)).toArray 27 (0,0));clear ho1 rp rl HX;go_wp2_with fail;go_loopg [3] n (fun m v wr=>Sn l E b tv n w r m v wr)
 case atStart=>exact⟨.one x,_,HO.out,h1',H.out.2,g1',by simp[Fo.one,Ex.fo,Fo.len];omega⟩
 case round=>
  obtain⟨acc,st',hown,hp,hloop,gr,hlen⟩:=hrel;clear HO h1' g1' h1 g1;cases gk with
  |zero=>cases hloop
  |succ m=>
  have HT:=O (Cg hp [44]);have HO:=O hown;rw[Ef]at hloop;cases hs:A4 l [44] st' with
  | false=>
    rw[hs]at HT hloop;have HQ:=O (show some (acc,Ak l [44] st')=some r from hloop);clear hloop hown hs;go_wp2_with fail;refine HT.out.mono ?_;rintro e w2 ⟨g2,v,rfl,rfl,h2⟩;have HE:=O (Z g2 h2);clear g2 h2;go_wp2;go_ret;have e1:=HQ.out;cases e1;have hpb:=hp.lt;exact⟨Aa gr HE.out.1,_,rfl,VL.of_owns (HO.out.gb HE.out.1 (by intro k hk _ e;cases e;omega)),HE.out.2⟩
  | true=>
    rw[hs]at HT hloop;have hq:(E (Ak l [44] st')).bind (fun r=>Ef l E m (acc.snoc r.1) r.2)=some r:=hloop;obtain⟨⟨y,st2⟩,hy,hq⟩:=Option.bind_eq_some_iff.1 hq;simp only at hq;have HQ:=O hq;have HY:=O hy;clear hloop hown hs hq hy;go_wp2_with fail;refine HT.out.mono ?_;rintro e w2 ⟨g2,v,rfl,rfl,h2⟩;have hp2:=h2.lt;go_wp2_with fail;refine(H.out.1 _ _ _ h2 HY.out).mono ?_;rintro e w3 ⟨g3,v',rfl,⟨ya,yc,ma,mc,rfl,ry,rm⟩,h3⟩;simp only at ry rm h3 ⊢;have g23:=Aa g2 g3;obtain⟨cs,hown3,hrep3⟩:=HO.out.gb g23 (by intro k hk _ e;cases e;omega);have hown4:=hown3.alloc (.cells (hdC y.h (.slice ya y.h.p.length yc) (.slice ma y.kids.len mc)).toArray 27 (0,0));have gB:=World.grownBy_alloc w3 (.cells (hdC y.h (.slice ya y.h.p.length yc) (.slice ma y.kids.len mc)).toArray 27 (0,0)) none;have gA:=Ad (Aa gr g23) (.cells (hdC y.h (.slice ya y.h.p.length yc) (.slice ma y.kids.len mc)).toArray 27 (0,0));have hA:=h3.alloc (.cells (hdC y.h (.slice ya y.h.p.length yc) (.slice ma y.kids.len mc)).toArray 27 (0,0));have hbs:=gA.size;have hs23:=g2.size;have hsr:=gr.size;have hol:∀k,u3.ownBlock=some k→w.heap.size≤k∧k<wr.heap.size:=fun k hk=>by
     obtain⟨cs0,ho0,_⟩:=HO.out;exact ho0.lt k hk
    obtain⟨i0,hi,hz0,hz1,hz2⟩:=info_parts CM;have hnc:=BZ w3 (hdC y.h (.slice ya y.h.p.length yc) (.slice ma y.kids.len mc)) 27;have hml:acc.len+1≤maxLen:=by unfold maxLen;omega
    have HYY:=O (Z (hrep3.gb gB (by simp)) (Z (ry.gb gB (by simp)) (rm.gb gB (by simp))));have HX:=O (Z hi (Z hz0 (Z hz1 (Z hz2 (Z hnc (Z hml (Z hown4 hol)))))));clear hown3 hrep3 ry rm hi hz0 hz1 hz2 hnc hml hown4 hol;go_wp2_with (at_builtin;obtain⟨hi,hz0,hz1,hz2,hnc,hml,hown4,hol⟩:=HX.out;refine D7 rfl _ _ 25 rfl w.heap.size 27 i0 _ 7 104 underlying25 hi hz0 hz1 hz2 rfl (by decide) _ _ _ rfl hown4 ⟨w3.heap.size,0,none⟩ 1 1 (hdC y.h (.slice ya y.h.p.length yc) (.slice ma y.kids.len mc)) rfl rfl hnc (by simp[hdC,Value.oneCell']) hml (by omega) hbs ?_;intro v' w5 hown5 g5 hn5;clear hi hz0 hz1 hz2 hnc hml hown4 hol);have HO5:=O (Z hown5 hn5);clear hown5 hn5;go_roundg m
    case measure=>omega
    case rel=>
     have hol:=HX.out.2.2.2.2.2.2.2;have g5':World.grownBy (w3.alloc _) w5 u3.ownBlock:=g5;refine⟨acc.snoc y,st2,?_,hA.gb g5' (fun k hk=>by have:=(hol k hk).1;omega),HQ.out,?_,by rw[Fo.len_snoc];omega⟩
     ·exact OwnF.snoc (v:=u3) (okx:=A8 w2.heap.size) HYY.out.1 rfl HYY.out.2.1 HYY.out.2.2 (by intro k hk;have hk:w2.heap.size≤k:=hk;exact⟨by omega,fun e=>by have:=(hol k e).2;omega⟩) HO5.out.1 g5' HO5.out.2
     ·cases hv:u3.ownBlock with
      |none=>rw[hv]at g5';exact Ag gA g5'
      |some k=>rw[hv]at g5';exact A9 gA g5' (.inr (hol k hv).1)
theorem Mw{E:FR Ex}(hE:CR 48 b tv l E)(h:Rr w b tv l st)(n:Nat)(hn:n≤4000000)(s:Bs){r:Fo×RS}(ho:D8 l E n s st=some r):
 Calls Tryz.prog 330 #[.pointer (some ⟨b,0,none⟩),str s] w (B9 b tv l w (VFo w) r):=by
 have hb:=h.lt;have HT:=O (Cg h s);unfold D8 at ho;cases hs:A4 l s st with
 | true=>
   rw[hs]at HT ho;have HQ:=O (show some (Fo.nil,Ak l s st)=some r from ho);clear ho hs hE;go_enter func330,ntmps330;go_wp2_with fail;refine HT.out.mono ?_;rintro e w1 ⟨g1,v,rfl,rfl,h1⟩;have HE:=O (Z g1 h1);clear g1 h1;go_wp2;go_ret;have e1:=HQ.out;cases e1;exact⟨HE.out.1,_,rfl,⟨none,0,rfl,RepL.nil _ _⟩,HE.out.2⟩
 | false=>
   rw[hs]at HT ho;have hq:(DC l E n (Ak l s st)).bind (fun r=>some (r.1,AR l s r.2))=some r:=ho;obtain⟨⟨f,st1⟩,hf,hq⟩:=Option.bind_eq_some_iff.1 hq;simp only at hq;cases hq;have HF:=O (Z hE hf);clear ho hs hE hf;go_enter func330,ntmps330;go_wp2_with fail;refine HT.out.mono ?_;rintro e w1 ⟨g1,v,rfl,rfl,h1⟩;have hb1:=h1.lt;go_wp2_with fail;refine(IY HF.out.1 h1 n hn HF.out.2).mono ?_;rintro e w2 ⟨g2,v,rfl,⟨la,lc,rfl,rl⟩,h2⟩;simp only at rl h2 ⊢;have HL:=O rl;clear rl;go_wp2_with fail;refine(CO h2 s).mono ?_;rintro e w3 ⟨g3,v,rfl,rfl,h3⟩;have HE:=O (Z g3 h3);have hs1:=g1.size;clear g3 h3;go_wp2;go_ret;exact⟨Aa (Aa g1 g2) HE.out.1,_,rfl,⟨_,_,rfl,(HL.out.gb HE.out.1 (by intro k hk _ e;cases e;have:w1.heap.size≤b:=hk;omega)).mono (by intro k hk _;have:w1.heap.size≤k:=hk;show w.heap.size≤k;omega)⟩,HE.out.2⟩
end
theorem D0(s:Bs)(x y:Ex){xv yv:Value}(w:World)(ok:Nat→Prop)(hok:∀k,w.heap.size≤k→ok k)(hx:VE ok w xv x)(hy:VE ok w yv y):
 Calls Tryz.prog 89 #[str s,xv,yv] w fun e w'=>∃v,e= .returned v∧VE ok w' v (Ax s x y)∧w.grownBy w' none:=by
 obtain⟨pxa,pxc,lxa,lxc,rfl,hx,hx'⟩:=hx;obtain⟨pya,pyc,lya,lyc,rfl,hy,hy'⟩:=hy;have H:=O (Z hok (Z hx (Z hx' (Z hy hy'))));clear hok hx hx' hy hy';go_enter func89,ntmps89;go_wp2;obtain⟨hok,hx,hx',hy,hy'⟩:=H.out;refine bodyPost_ret (v:=exV (hd0 5 s) (.slice none 0 0) (.slice (some ⟨w.heap.size+1+1+1,0,none⟩) 2 2)) ?_ rfl ⟨_,rfl,VE.node (f:= .two x y) ?_,?_⟩
 ·simp[results,results89,go_sem,hd0]
 ·have g:∀a b c,w.grownBy (((w.alloc a).alloc b).alloc c) none:=fun a b c=>(by repeat(first| (with_reducible exact Ac _ _)| (with_reducible assumption)| (with_reducible exact AX (by assumption))| (with_reducible refine Ad ?_ _)| (with_reducible refine Am ?_)| (with_reducible refine Ay ?_ _)| ((with_reducible refine Az ?_ _ _ ?h2);case h2=>first|exact .inl rfl|exact .inr (Nat.le_refl _)|exact .inr (by simp<;>omega))| (with_reducible refine Ag ?_ (by assumption))| (with_reducible refine Aa ?_ (by assumption))));exact RepL.two (by simp) (hok _ (by omega)) (hx.gb (g _ _ _) (by simp)) (hx'.gb (g _ _ _) (by simp)) (hy.gb (g _ _ _) (by simp)) (hy'.gb (g _ _ _) (by simp))
 ·exact (by repeat(first| (with_reducible exact Ac _ _)| (with_reducible assumption)| (with_reducible exact AX (by assumption))| (with_reducible refine Ad ?_ _)| (with_reducible refine Am ?_)| (with_reducible refine Ay ?_ _)| ((with_reducible refine Az ?_ _ _ ?h2);case h2=>first|exact .inl rfl|exact .inr (Nat.le_refl _)|exact .inr (by simp<;>omega))| (with_reducible refine Ag ?_ (by assumption))| (with_reducible refine Aa ?_ (by assumption))))
structure KpR(b:Nat)(tv:Value)(l:List Tok)(w:World)(L:Nat)(wr:World)(x:Ex)(pa:Option Addr)(pc:Nat)(la:Option Addr)(lc:Nat)(st:RS):Prop where
 rr:Rr wr b tv l st
 blk:Blk wr L (hdC x.h (.slice pa x.h.p.length pc) (.slice la x.kids.len lc)) 27
 rp:Cells wr (.slice pa x.h.p.length pc) 1 x.h.p.length (x.h.p.map str) (but w L)
 rl:RepL (but w L) wr (.slice la x.kids.len lc) x.kids
 gr:w.grownBy wr (some b)
 bL:b<L
 wL:w.heap.size<L
 zero:Blk wr w.heap.size zeroE 27
section
variable {b:Nat}{tv:Value}{l:List Tok}{w wr w1:World}{L:Nat}{x y z:Ex}{pa la ya ma:Option Addr}{pc lc yc mc:Nat}{st st':RS}
theorem KpR.gb(h:KpR b tv l w L wr x pa pc la lc st)(hb:b<w.heap.size)(g:wr.grownBy w1 (some b))(hp:Rr w1 b tv l st'):KpR b tv l w L w1 x pa pc la lc st':=
 ⟨hp,h.blk.gb g (by have:=h.bL;simp;omega),h.rp.gb g (by intro q hq _ e;cases e;have:=hq.1;omega),h.rl.gb g (by intro q hq _ e;cases e;have:=hq.1;omega),Aa h.gr g,h.bL,h.wL,h.zero.gb g (by simp;omega)⟩
theorem KpR.gbN(h:KpR b tv l w L wr x pa pc la lc st)(hb:b<w.heap.size)(g:wr.grownBy w1 none):KpR b tv l w L w1 x pa pc la lc st:=
 h.gb hb (AX g) (h.rr.gbN g)
theorem KpR.store(h:KpR b tv l w L wr x pa pc la lc st)(hb:b<w.heap.size)(zp:Cells wr (.slice ya z.h.p.length yc) 1 z.h.p.length (z.h.p.map str) (but w L))(zl:RepL (but w L) wr (.slice ma z.kids.len mc) z.kids):
 KpR b tv l w L (set7 wr L (.int .i64 z.h.op) (str z.h.s) (.int .i64 z.h.vk) (.int .i64 z.h.vn) (str z.h.vs) (.slice ya z.h.p.length yc) (.slice ma z.kids.len mc)) z ya yc ma mc st:=by
 have g7:=Ah wr L (.int .i64 z.h.op) (str z.h.s) (.int .i64 z.h.vk) (.int .i64 z.h.vn) (str z.h.vs) (.slice ya z.h.p.length yc) (.slice ma z.kids.len mc);have hbL:=h.bL;have hwL:=h.wL;have hk:∀q,but w L q→q<wr.heap.size→some q≠some L:=fun q hq _ e=>by cases e;exact hq.2 rfl
 exact⟨h.rr.gb g7 (by intro q e;cases e;exact hbL),(h.blk.set7 _ _ _ _ _ _ _).of_eq rfl rfl,zp.gb g7 hk,zl.gb g7 hk,A9 h.gr g7 (.inr (by omega)),hbL,hwL,h.zero.gb g7 (by simp;omega)⟩
theorem KpR.new{w0:World}(h0:b<w.heap.size)(hz:Blk w0 w.heap.size zeroE 27)(g0:w.grownBy w0 (some b))(hw0:w.heap.size<w0.heap.size)(g1:w0.grownBy w1 (some b))
 (rp:Cells w1 (.slice pa x.h.p.length pc) 1 x.h.p.length (x.h.p.map str) (A8 w0.heap.size)) (rl:RepL (A8 w0.heap.size) w1 (.slice la x.kids.len lc) x.kids) (h1:Rr w1 b tv l st):
 KpR b tv l w w1.heap.size (w1.alloc (.cells (hdC x.h (.slice pa x.h.p.length pc) (.slice la x.kids.len lc)).toArray 27 (0,0))) x pa pc la lc st:=by
 have hs1:=g1.size;have hb1:=h1.lt;have g:=World.grownBy_alloc w1 (.cells (hdC x.h (.slice pa x.h.p.length pc) (.slice la x.kids.len lc)).toArray 27 (0,0)) none;refine⟨h1.alloc _,Blk.new w1 _ _,(rp.mono ?_).gb g (by simp),(rl.mono ?_).gb g (by simp),Ad (Aa g0 g1) _,hb1,by omega,(hz.gb g1 (by simp;omega)).alloc _⟩;all_goals
  intro q hq hq2;have:w0.heap.size≤q:=hq;exact⟨by omega,by omega⟩
theorem KpR.two(h:KpR b tv l w L wr x pa pc la lc st)(hb:b<w.heap.size)(op:Int)(s:Bs)(zp:Cells wr (.slice ya z.h.p.length yc) 1 z.h.p.length (z.h.p.map str) (but w L))(zl:RepL (but w L) wr (.slice ma z.kids.len mc) z.kids):
 KpR b tv l w L ((set7 wr L (.int .i64 op) (str s) (.int .i64 0) (.int .i64 0) (str []) (.slice none 0 0) (.slice (some ⟨wr.heap.size,0,none⟩) 2 2)).alloc (.cells (hdC x.h (.slice pa x.h.p.length pc) (.slice la x.kids.len lc)++hdC z.h (.slice ya z.h.p.length yc) (.slice ma z.kids.len mc)).toArray 27 (0,0)))
  ⟨hd0 op s,.two x z⟩ none 0 (some ⟨wr.heap.size,0,none⟩) 2 st:=by
 have g7:=Ah wr L (.int .i64 op) (str s) (.int .i64 0) (.int .i64 0) (str []) (.slice none 0 0) (.slice (some ⟨wr.heap.size,0,none⟩) 2 2);have hsz:(set7 wr L (.int .i64 op) (str s) (.int .i64 0) (.int .i64 0) (str []) (.slice none 0 0) (.slice (some ⟨wr.heap.size,0,none⟩) 2 2)).heap.size=wr.heap.size:=by simp[set7]
 have hbL:=h.bL;have hwL:=h.wL;have hlt:=h.blk.lt;have hk:∀q,but w L q→q<wr.heap.size→some q≠some L:=fun q hq _ e=>by cases e;exact hq.2 rfl
 refine⟨(h.rr.gb g7 (by intro q e;cases e;exact hbL)).alloc _,((h.blk.set7 _ _ _ _ _ _ _).of_eq rfl rfl).alloc _,Cells.nil _ 1 _,?_,Ad (A9 h.gr g7 (.inr (by omega))) _,hbL,hwL,?_⟩
 ·exact RepL.two hsz.symm ⟨by omega,by omega⟩ (h.rp.gb g7 hk) (h.rl.gb g7 hk) (zp.gb g7 hk) (zl.gb g7 hk)
 ·exact(h.zero.gb g7 (by simp;omega)).alloc _
theorem KpR.ve(h:KpR b tv l w L wr x pa pc la lc st):VE (but w L) wr (exV x.h (.slice pa x.h.p.length pc) (.slice la x.kids.len lc)) x:=⟨_,_,_,_,rfl,h.rp,h.rl⟩
theorem Bh{w2:World}{ok:Nat→Prop}(h0:b<w.heap.size)(g:w.grownBy w1 (some b)){v:Value}(hv:VE ok w1 v x)(hok:∀k,ok k→w.heap.size<k)(hp:Rr w1 b tv l st)(g2:w1.grownBy w2 (some w.heap.size)):B9 b tv l w (VEx w) (x,st) (.returned v) w2:=
 ⟨A9 g g2 (.inr (Nat.le_refl _)),v,rfl,(hv.gb g2 (by intro q hq _ e;have:=hok q hq;cases e;omega)).mono (by intro q hq _;have:=hok q hq;show w.heap.size≤q;omega),hp.gb g2 (by intro q e;cases e;omega)⟩
theorem Fb{W:World}{op:Int}{s:Bs}{ok:Nat→Prop}(h0:b<w.heap.size)(g:w.grownBy w1 (some b))
 (rp:Cells w1 (.slice pa x.h.p.length pc) 1 x.h.p.length (x.h.p.map str) ok) (rl:RepL ok w1 (.slice la x.kids.len lc) x.kids) (hok:∀k,ok k→w.heap.size<k) (hp:Rr w1 b tv l st) (g7:w1.grownBy W (some w.heap.size)) (hsz:W.heap.size=w1.heap.size):
 B9 b tv l w (VEx w) (⟨hd0 op s,.one x⟩,st) (.returned (exV (hd0 op s) (.slice none 0 0) (.slice (some ⟨w1.heap.size,0,none⟩) 1 1))) (W.alloc (Obj.cells #[Value.int IntKind.i64 x.h.op,str x.h.s,Value.int IntKind.i64 x.h.vk,Value.int IntKind.i64 x.h.vn,str x.h.vs,Value.slice pa x.h.p.length pc,Value.slice la x.kids.len lc] 27)):=by
 have hlt:=g.size;have rp':=rp.gb g7 (by intro q hq _ e;have:=hok q hq;cases e;omega);have rl':=rl.gb g7 (by intro q hq _ e;have:=hok q hq;cases e;omega);have hV:VE (A8 w.heap.size) (W.alloc (Obj.cells #[Value.int IntKind.i64 x.h.op,str x.h.s,Value.int IntKind.i64 x.h.vk,Value.int IntKind.i64 x.h.vn,str x.h.vs,Value.slice pa x.h.p.length pc,Value.slice la x.kids.len lc] 27)) (exV (hd0 op s) (.slice none 0 0) (.slice (some ⟨w1.heap.size,0,none⟩) 1 1)) ⟨hd0 op s,.one x⟩:=
  VE.node (f:= .one x) (RepL.one (ok:=A8 w.heap.size) (n:=w1.heap.size) hsz.symm (by show w.heap.size≤_;omega) (rp'.mono (by intro q hq _;have:=hok q hq;show w.heap.size≤q;omega)) (rl'.mono (by intro q hq _;have:=hok q hq;show w.heap.size≤q;omega)))
 exact⟨Ad (A9 g g7 (.inr (Nat.le_refl _))) _,_,rfl,hV,(hp.gb g7 (by intro q e;cases e;omega)).alloc _⟩
end
theorem Oj(l:List Tok){s:Bs}(hs:s≠[])(st:RS):Au l [s] st=if A4 l s st then s else []:=by
 unfold Au A4;cases st.2 with
 |true=>simp
 | false=>
   simp only[Bool.false_eq_true,if_false,Bool.not_false,Bool.true_and,List.find?_cons,List.find?_nil];cases Ae (Ab l st.1) s<;>simp
theorem IG{l:List Tok}{s:Bs}(hs:s≠[])(opnd:FR Ex)(n:Nat)(x:Ex)(st:RS):
 BV l [s] opnd (n+1) x st=if A4 l s st then(opnd (Ak l s st)).bind fun r=>BV l [s] opnd n (Ax s x r.1) r.2 else some (x,Ak l s st):=by
 rw[BV];unfold A6;rw[Oj l hs];unfold Ak;cases A4 l s st with
 |true=>simp[hs,Dj hs]
 |false=>simp[Da]
end Go.Proofs.YtgjdhajcnechdaaGreatDoor
