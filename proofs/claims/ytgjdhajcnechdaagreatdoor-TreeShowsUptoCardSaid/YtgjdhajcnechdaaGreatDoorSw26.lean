/-
  Plain laws: the digits of numbers and of days are read as what they were written for. Plain laws: a day has one year, month and day; how many tokens are written. isExpr: one node. The reference's read
-/
import Derived.Test.YtgjdhajcnechdaaGreatDoorSw25
import Derived.Lib.ItoaMem
import Derived.Test.YtgjdhajcnechdaaGreatDoorSw10
import Derived.Test.YtgjdhajcnechdaaGreatDoorSw24
import Derived.Test.YtgjdhajcnechdaaGreatDoorSw21
import Derived.Test.YtgjdhajcnechdaaGreatDoorSw16
set_option linter.all false
set_option maxRecDepth 100000
set_option maxHeartbeats 8000000
namespace Go.Proofs.YtgjdhajcnechdaaGreatDoor
open Go.Proofs.Tryz
open Go.Lib
theorem IW(s:Bs)(b:UInt8):As (s++[b])=10*As s+((b.toNat:Int)-48):=by
 unfold As;rw[List.foldl_append];rfl
theorem F7{k:Nat}(h:k<10):(UInt8.ofNat (48+k)).toNat=48+k:=by
 rw[UInt8.toNat_ofNat'];omega
theorem JG(u:Nat):As (decDigits u)=u:=by
 induction u using Nat.strongRecOn with
 | ind u ih=>
   rw[decDigits];split
   ·rename_i h;show As ([]++[UInt8.ofNat (48+u)])=u;rw[IW,F7 h];show 10*(0:Int)+_=_;omega
   ·rename_i h;rw[IW,ih (u/10) (by omega),F7 (by omega)];omega
theorem J8(u:Nat):(decDigits u).all AJ=true:=by
 induction u using Nat.strongRecOn with
 | ind u ih=>
   rw[decDigits];split
   ·rename_i h;simp only[List.all_cons,List.all_nil,Bool.and_true,AJ,F7 h,Bool.and_eq_true,decide_eq_true_eq];omega
   ·rename_i h;rw[List.all_append,ih (u/10) (by omega)];simp only[List.all_cons,List.all_nil,Bool.and_true,Bool.true_and,AJ,F7 (show u%10<10 by omega),Bool.and_eq_true,decide_eq_true_eq];omega
theorem F1{u:Nat}:∀k,1≤k→u<10 ^ k→nDigits u≤k:=by
 induction u using Nat.strongRecOn with
 | ind u ih=>
   intro k h1 h2;by_cases h:u<10
   ·rw[nDigits_small h];omega
   ·rw[nDigits_big h];obtain⟨k,rfl⟩:∃q,k=q+1:=⟨k-1,by omega⟩;have hk:1≤k:=by
     rcases Nat.eq_zero_or_pos k with rfl|hp
     ·simp at h2;omega
     ·exact hp
    have:=ih (u/10) (by omega) k hk (by rw[Nat.pow_succ]at h2;omega);omega
theorem ME(u:Nat):u<10 ^ nDigits u:=by
 induction u using Nat.strongRecOn with
 | ind u ih=>
   by_cases h:u<10
   ·rw[nDigits_small h];omega
   ·rw[nDigits_big h,Nat.pow_succ];have:=ih (u/10) (by omega);omega
theorem GL(n:Int)(h:0≤n):itoa n=decDigits n.toNat:=by
 unfold itoa;rw[if_neg (by omega)]
def B5(n:Int):Nat→Nat
 | 0=>1
 |k+1=>if Ai ((k:Int)+2)<n then k+2 else B5 n k
def Cx(y n:Int):Nat→Nat
 | 0=>1
 |k+1=>if Ai y+Aj y (k+1)<n then k+2 else Cx y n k
theorem RK(n:Int)(h1:1≤n):∀k:Nat,k≤9998→n≤Ai ((k:Int)+2)→1≤B5 n k∧B5 n k≤k+1∧Ai (B5 n k)<n∧n≤Ai ((B5 n k:Int)+1):=by
 intro k;induction k with
 | zero=>
   intro _ h2;refine⟨Nat.le_refl _,Nat.le_refl _,?_,?_⟩
   ·show Ai 1<n;have:Ai 1=0:=by decide
    omega
   ·exact h2
 | succ k ih=>
   intro hk h2;unfold B5;split
   ·rename_i h;refine⟨by omega,by omega,?_,?_⟩
    ·have e:((k+2:Nat):Int)=(k:Int)+2:=by omega
     rw[e];exact h
    ·have e:((k+2:Nat):Int)+1=((k+1:Nat):Int)+2:=by omega
     rw[e];exact h2
   ·rename_i h;obtain⟨a,b,c,d⟩:=ih (by omega) (by omega);exact⟨a,by omega,c,d⟩
theorem R4(y n:Int)(h1:Ai y<n):∀k:Nat,k≤11→n≤Ai y+Aj y (k+1)→1≤Cx y n k∧Cx y n k≤k+1∧Ai y+Aj y (Cx y n k-1)<n∧n≤Ai y+Aj y (Cx y n k):=by
 intro k;induction k with
 | zero=>
   intro _ h2;exact⟨Nat.le_refl _,Nat.le_refl _,by show Ai y+0<n;omega,h2⟩
 | succ k ih=>
   intro hk h2;unfold Cx;split
   ·rename_i h;exact⟨by omega,by omega,h,h2⟩
   ·rename_i h;obtain⟨a,b,c,d⟩:=ih (by omega) (by omega);exact⟨a,by omega,c,d⟩
theorem RL(y:Int)(h0:1≤y):Aj y 12=if Cw y then 366 else 365:=by
 simp only[Aj,AK];cases Cw y<;>rfl
theorem Gn(y:Int)(h0:1≤y):Ai (y+1)=Ai y+Aj y 12:=by
 rw[RL y h0];unfold Ai Cw;rw[show y+1-1=y by omega];have e1:∀b:Int,0<b→y.tdiv b=y/b:=fun b hb=>Int.tdiv_eq_ediv_of_nonneg (by omega);have e2:∀b:Int,0<b→(y-1).tdiv b=(y-1)/b:=fun b hb=>Int.tdiv_eq_ediv_of_nonneg (by omega);have e3:∀b:Int,0<b→y.tmod b=y%b:=fun b hb=>Int.tmod_eq_emod_of_nonneg (by omega);rw[e1 4 (by omega),e1 100 (by omega),e1 400 (by omega),e2 4 (by omega),e2 100 (by omega),e2 400 (by omega),e3 4 (by omega),e3 100 (by omega),e3 400 (by omega)];simp only[Bool.and_eq_true,Bool.or_eq_true,beq_iff_eq,bne_iff_ne,ne_eq];split<;>omega
def AE(k:Nat)(u:Nat):Bs:=List.replicate (k-(decDigits u).length) 48++decDigits u
theorem GO(k u:Nat):As (AE k u)=u:=by
 unfold AE;have h:∀(m:Nat)(s:Bs),As (List.replicate m 48++s)=As s:=by
  intro m s;induction m with
  |zero=>rfl
  | succ m ih=>
    rw[List.replicate_succ];exact ih
 rw[h,JG]
theorem C7{k u:Nat}(hk:1≤k)(h:u<10 ^ k):(AE k u).length=k:=by
 unfold AE;rw[List.length_append,List.length_replicate,decDigits_length];have:=F1 k hk h;omega
theorem GQ(k u:Nat):(AE k u).all AJ=true:=by
 unfold AE;rw[List.all_append,J8,Bool.and_true,List.all_eq_true];intro b hb;rw[List.eq_of_mem_replicate hb];decide
def Ba(n:Int):Nat×Nat×Nat:=
 let y:=B5 n 9998
 let m:=Cx y n 11
 (y,m,(n-Ai y-Aj y (m-1)).toNat)
theorem Gy{n:Int}(h0:0<n)(h1:n≤3652059):1≤(Ba n).1∧(Ba n).1≤9999∧1≤(Ba n).2.1∧(Ba n).2.1≤12∧1≤(Ba n).2.2∧((Ba n).2.2:Int)≤AK (Ba n).1 (Ba n).2.1∧
 Ai (Ba n).1+Aj (Ba n).1 ((Ba n).2.1-1)+(Ba n).2.2=n:=by
 have hY:n≤Ai (((9998:Nat):Int)+2):=by
  have:Ai (((9998:Nat):Int)+2)=3652059:=by decide
  omega
 obtain⟨a,b,c,d⟩:=RK n (by omega) 9998 (Nat.le_refl _) hY;rw[Gn _ (by omega)]at d;obtain⟨a2,b2,c2,d2⟩:=R4 (B5 n 9998) n c 11 (Nat.le_refl _) d;have e:Aj (B5 n 9998) (Cx (B5 n 9998) n 11)=Aj (B5 n 9998) (Cx (B5 n 9998) n 11-1)+AK (B5 n 9998) (Cx (B5 n 9998) n 11):=by
  obtain⟨m,hm⟩:∃q,Cx (B5 n 9998) n 11=q+1:=⟨Cx (B5 n 9998) n 11-1,by omega⟩;rw[hm];show Aj _ m+AK _ ((m:Int)+1)=_;rw[show m+1-1=m by omega];congr 2
 have hs:Ba n=(B5 n 9998,Cx (B5 n 9998) n 11,(n-Ai (B5 n 9998)-Aj (B5 n 9998) (Cx (B5 n 9998) n 11-1)).toNat):=rfl;rw[hs];simp only;refine⟨a,b,a2,b2,by omega,?_,by omega⟩;omega
def B6(n:Int):Bs:=AE 4 (Ba n).1++AE 2 (Ba n).2.1++AE 2 (Ba n).2.2
theorem JE(y m:Int):AK y m≤31:=by
 unfold AK;split
 ·omega
 ·have h : ∀ k : Nat, ([31, 28, 31, 30, 31, 30, 31, 31, 30, 31, 30, 31] : List Int).getD k 0 ≤ 31 := by
   intro k;match k with
   | 0| 1| 2| 3| 4| 5| 6| 7| 8| 9| 10| 11=>decide
   |k+12=>simp
  exact h _
theorem NQ{n:Int}(h0:0<n)(h1:n≤3652059):AO (B6 n)=n:=by
 obtain⟨a,b,c,d,e,f,g⟩:=Gy h0 h1;have hm:=JE (Ba n).1 (Ba n).2.1;unfold B6;generalize(Ba n).1=y at*;generalize(Ba n).2.1=m at*;generalize(Ba n).2.2=q at*;have l1:=C7 (k:=4) (u:=y) (by omega) (by omega);have l2:=C7 (k:=2) (u:=m) (by omega) (by omega);have l3:=C7 (k:=2) (u:=q) (by omega) (by omega);have e1:(AE 4 y++AE 2 m++AE 2 q).take 4=AE 4 y:=by
  rw[List.append_assoc,List.take_append_of_le_length (by omega),List.take_of_length_le (by omega)]
 have e2:((AE 4 y++AE 2 m++AE 2 q).drop 4).take 2=AE 2 m:=by
  rw[List.append_assoc,List.drop_left' l1,List.take_append_of_le_length (by omega),List.take_of_length_le (by omega)]
 have e3:(AE 4 y++AE 2 m++AE 2 q).drop 6=AE 2 q:=List.drop_left' (by rw[List.length_append];omega);have hd:(AE 4 y++AE 2 m++AE 2 q).all AJ=true:=by rw[List.all_append,List.all_append,GQ,GQ,GQ];rfl
 have hl:(AE 4 y++AE 2 m++AE 2 q).length=8:=by rw[List.length_append,List.length_append];omega
 unfold AO Bo;rw[if_neg (by intro h;rw[h]at hd;exact absurd hd (by decide)),if_neg (by rw[hl,hd];simp),e1,e2,e3,GO,GO,GO];unfold AM;rw[if_neg (by simp[Cm];omega)];show Ai (y:Int)+(q:Int)+Aj (y:Int) ((m:Int)-1).toNat=n;rw[show((m:Int)-1).toNat=m-1 by omega];omega
def wdM:Wd:=⟨itoa,B6⟩
theorem wdM_ok:Hp wdM AO where
 nums n h0 h1:=by
  obtain⟨u,rfl⟩:∃u:Nat,n=u:=⟨n.toNat,by omega⟩;show(itoa (u:Int)).length≤15∧As (itoa (u:Int))=u;rw[GL _ h0,show(u:Int).toNat=u from rfl,decDigits_length,JG];exact⟨F1 15 (by omega) (by omega),rfl⟩
 days n h0 h1:=NQ h0 h1;zero:=by decide
 fit n h0 hl:=by
  obtain⟨u,rfl⟩:∃u:Nat,n=u:=⟨n.toNat,by omega⟩;have hl':(itoa (u:Int)).length≤15:=hl;rw[GL _ h0,show(u:Int).toNat=u from rfl,decDigits_length]at hl';have h1:=ME u;have h2:(10:Nat) ^ nDigits u≤10 ^ 15:=Nat.pow_le_pow_right (by omega) hl';omega
theorem Pn(y m:Int)(h1:1≤m)(h2:m≤12):28≤AK y m:=by
 unfold AK;split
 ·omega
 ·have hm:m=1∨m=2∨m=3∨m=4∨m=5∨m=6∨m=7∨m=8∨m=9∨m=10∨m=11∨m=12:=by omega
  rcases hm with rfl|rfl|rfl|rfl|rfl|rfl|rfl|rfl|rfl|rfl|rfl|rfl<;>decide
theorem EH(y:Int){a b:Nat}(h:a≤b)(hb:b≤12):Aj y a≤Aj y b:=by
 obtain⟨k,rfl⟩:∃k,b=a+k:=⟨b-a,by omega⟩;clear h;induction k with
 |zero=>exact Int.le_refl _
 | succ k ih=>
   have:=ih (by omega);have h2:=Pn y ((a+k:Nat)+1) (by omega) (by omega);show Aj y a≤Aj y (a+k)+AK y ((a+k:Nat)+1);omega
theorem F4{a:Int}(h1:1≤a):∀k:Nat,Ai a≤Ai (a+k):=by
 intro k;induction k with
 |zero=>simp
 | succ k ih=>
   have h2:=Gn (a+k) (by omega);have h3:=EH (a+k) (a:=0) (b:=12) (by omega) (by omega);have h4:Aj (a+k) 0=0:=rfl;rw[show a+((k+1:Nat):Int)=a+k+1 by omega];omega
theorem RM{a b n:Int}(ha:1≤a)(hb:1≤b)(h1:Ai a<n)(h2:n≤Ai (a+1))(h3:Ai b<n)(h4:n≤Ai (b+1)):a=b:=by
 by_cases h:a<b
 ·have:=F4 (a:=a+1) (by omega) (b-(a+1)).toNat;rw[show a+1+((b-(a+1)).toNat:Int)=b by omega]at this;omega
 by_cases h':b<a
 ·have:=F4 (a:=b+1) (by omega) (a-(b+1)).toNat;rw[show b+1+((a-(b+1)).toNat:Int)=a by omega]at this;omega
 omega
theorem Pm{y n:Int}{a b:Nat}(ha:1≤a)(ha2:a≤12)(hb:1≤b)(hb2:b≤12)(h1:Aj y (a-1)<n)(h2:n≤Aj y a)(h3:Aj y (b-1)<n)(h4:n≤Aj y b):a=b:=by
 by_cases h:a<b
 ·have:=EH y (a:=a) (b:=b-1) (by omega) (by omega);omega
 by_cases h':b<a
 ·have:=EH y (a:=b) (b:=a-1) (by omega) (by omega);omega
 omega
theorem FZ(y:Int){m:Nat}(h:1≤m):Aj y m=Aj y (m-1)+AK y m:=by
 obtain⟨k,rfl⟩:∃q,m=q+1:=⟨m-1,by omega⟩;show Aj y k+AK y ((k:Int)+1)=_;rw[show k+1-1=k by omega];congr 2
theorem Jh{n:Int}{y m q:Nat}(hy:1≤y)(hy2:y≤9999)(hm:1≤m)(hm2:m≤12)(hq:1≤q)(hq2:(q:Int)≤AK y m)(h:Ai y+Aj y (m-1)+q=n):Ba n=(y,m,q):=by
 have hb:∀{y m:Nat}{q:Int},1≤y→1≤m→m≤12→1≤q→q≤AK y m→Ai y<Ai y+Aj y (m-1)+q∧Ai y+Aj y (m-1)+q≤Ai ((y:Int)+1):=by
  intro y m q h1 h2 h3 h4 h5;have a1:=EH y (a:=0) (b:=m-1) (by omega) (by omega);have a2:=EH y (a:=m) (b:=12) (by omega) (by omega);have a3:=FZ y h2;have a4:=Gn (y:Int) (by omega);have a5:Aj (y:Int) 0=0:=rfl;omega
 have h0:=hb hy hm hm2 (show(1:Int)≤(q:Int)by omega) hq2;rw[h]at h0;have hn1:0<n:=by
  have:=F4 (a:=1) (by omega) (y-1);rw[show(1:Int)+((y-1:Nat):Int)=y by omega]at this;have e:Ai 1=0:=by decide
  omega
 have hn2:n≤3652059:=by
  have:=F4 (a:=(y:Int)+1) (by omega) (9999-y);rw[show(y:Int)+1+((9999-y:Nat):Int)=10000 by omega]at this;have e:Ai 10000=3652059:=by decide
  omega
 obtain⟨a,b,c,d,e,f,g⟩:=Gy hn1 hn2;have h1:=hb a c d (show(1:Int)≤((Ba n).2.2:Int)by omega) f;rw[g]at h1;have e1:((Ba n).1:Int)=y:=RM (by omega) (by omega) h1.1 h1.2 h0.1 h0.2;have s1:(Ba n).1=y:=by omega
 rw[s1]at g f;have a3:=FZ y hm;have a4:=FZ y c;have e2:(Ba n).2.1=m:=Pm (y:=y) (n:=n-Ai y) c d hm hm2 (by omega) (by omega) (by omega) (by omega);rw[e2]at g;have e3:(Ba n).2.2=q:=by omega
 rw[←s1,←e2,←e3]
def wl:OW→Nat
 |none=>0
 |some p=>p.1.length
open Go.RowKit
section
variable {w:World}{h:Hd}{pa la:Option Addr}{pc n lc:Nat}
theorem Ps(h0:h.op≠0)(hv:¬(h.vk=0∧h.vn=0∧h.vs=[])):AI h n=false:=by
 unfold AI;rw[if_pos ⟨h0,hv⟩]
theorem O3(hv:¬(h.op≠0∧¬(h.vk=0∧h.vn=0∧h.vs=[])))(h8:h.op≠8)(hp:h.p≠[]):AI h n=false:=by
 unfold AI;rw[if_neg hv,if_pos ⟨h8,hp⟩]
theorem O4(hv:¬(h.op≠0∧¬(h.vk=0∧h.vn=0∧h.vs=[])))(h8:¬(h.op≠8∧h.p≠[])):AI h n=Ap h n:=by
 unfold AI;rw[if_neg hv,if_neg h8]
theorem LN(h0:h.op≠0)(hv:¬(h.vk=0∧h.vn=0∧h.vs=[])):
 Calls Tryz.prog 46 #[exV h (.slice pa h.p.length pc) (.slice la n lc)] w fun e w'=>e= .returned (.bool false)∧w.grownBy w' none:=by
 obtain⟨op,s,vk,vn,vs,p⟩:=h;simp only at h0 hv ⊢;have c1:(op==0)=false:=by simpa using h0
 have c2:(op !=0)=true:=by simpa using h0
 clear h0;by_cases hk:vk=0
 ·subst hk;by_cases hn:vn=0
  ·subst hn;have hs:vs≠[]:=fun e=>hv ⟨rfl,rfl,e⟩;clear hv;go_enter func46,ntmps46;go_wp2;go_ret;exact⟨rfl,(by repeat(first| (with_reducible exact Ac _ _)| (with_reducible assumption)| (with_reducible exact AX (by assumption))| (with_reducible refine Ad ?_ _)| (with_reducible refine Am ?_)| (with_reducible refine Ay ?_ _)| ((with_reducible refine Az ?_ _ _ ?h2);case h2=>first|exact .inl rfl|exact .inr (Nat.le_refl _)|exact .inr (by simp<;>omega))| (with_reducible refine Ag ?_ (by assumption))| (with_reducible refine Aa ?_ (by assumption))))⟩
  ·clear hv;go_enter func46,ntmps46;go_wp2;go_ret;exact⟨rfl,(by repeat(first| (with_reducible exact Ac _ _)| (with_reducible assumption)| (with_reducible exact AX (by assumption))| (with_reducible refine Ad ?_ _)| (with_reducible refine Am ?_)| (with_reducible refine Ay ?_ _)| ((with_reducible refine Az ?_ _ _ ?h2);case h2=>first|exact .inl rfl|exact .inr (Nat.le_refl _)|exact .inr (by simp<;>omega))| (with_reducible refine Ag ?_ (by assumption))| (with_reducible refine Aa ?_ (by assumption))))⟩
 ·clear hv;go_enter func46,ntmps46;go_wp2;go_ret;exact⟨rfl,(by repeat(first| (with_reducible exact Ac _ _)| (with_reducible assumption)| (with_reducible exact AX (by assumption))| (with_reducible refine Ad ?_ _)| (with_reducible refine Am ?_)| (with_reducible refine Ay ?_ _)| ((with_reducible refine Az ?_ _ _ ?h2);case h2=>first|exact .inl rfl|exact .inr (Nat.le_refl _)|exact .inr (by simp<;>omega))| (with_reducible refine Ag ?_ (by assumption))| (with_reducible refine Aa ?_ (by assumption))))⟩
theorem LO(hv:¬(h.op≠0∧¬(h.vk=0∧h.vn=0∧h.vs=[])))(h8:h.op≠8)(hp:h.p≠[]):
 Calls Tryz.prog 46 #[exV h (.slice pa h.p.length pc) (.slice la n lc)] w fun e w'=>e= .returned (.bool false)∧w.grownBy w' none:=by
 obtain⟨op,s,vk,vn,vs,p⟩:=h;simp only at h8 hp hv ⊢;have c3:(op==8)=false:=by simpa using h8
 have c4:(op !=8)=true:=by simpa using h8
 have hl:0<p.length:=List.length_pos_iff.2 hp;have hlI:decide ((0:Int)<(p.length:Int))=true:=by simp;omega
 by_cases h0:op=0
 ·subst h0;clear hv hp h8;go_enter func46,ntmps46;go_wp2;go_ret;exact⟨rfl,(by repeat(first| (with_reducible exact Ac _ _)| (with_reducible assumption)| (with_reducible exact AX (by assumption))| (with_reducible refine Ad ?_ _)| (with_reducible refine Am ?_)| (with_reducible refine Ay ?_ _)| ((with_reducible refine Az ?_ _ _ ?h2);case h2=>first|exact .inl rfl|exact .inr (Nat.le_refl _)|exact .inr (by simp<;>omega))| (with_reducible refine Ag ?_ (by assumption))| (with_reducible refine Aa ?_ (by assumption))))⟩
 ·obtain⟨rfl,rfl,rfl⟩:vk=0∧vn=0∧vs=[]:=Classical.not_not.1 fun e=>hv ⟨h0,e⟩;have c1:(op==0)=false:=by simpa using h0
  have c2:(op !=0)=true:=by simpa using h0
  clear hv hp h8 h0;go_enter func46,ntmps46;go_wp2;go_ret;exact⟨rfl,(by repeat(first| (with_reducible exact Ac _ _)| (with_reducible assumption)| (with_reducible exact AX (by assumption))| (with_reducible refine Ad ?_ _)| (with_reducible refine Am ?_)| (with_reducible refine Ay ?_ _)| ((with_reducible refine Az ?_ _ _ ?h2);case h2=>first|exact .inl rfl|exact .inr (Nat.le_refl _)|exact .inr (by simp<;>omega))| (with_reducible refine Ag ?_ (by assumption))| (with_reducible refine Aa ?_ (by assumption))))⟩
theorem LP(hv:¬(h.op≠0∧¬(h.vk=0∧h.vn=0∧h.vs=[])))(h8:¬(h.op≠8∧h.p≠[]))
 (HL:∀W,w.grownBy W none→Calls Tryz.prog 73 #[.slice la n lc] W fun e w'=>e= .returned (.bool false)∧W.grownBy w' none):
 Calls Tryz.prog 46 #[exV h (.slice pa h.p.length pc) (.slice la n lc)] w fun e w'=>e= .returned (.bool false)∧w.grownBy w' none:=by
 have H:=O HL;clear HL;obtain⟨op,s,vk,vn,vs,p⟩:=h;simp only at h8 hv ⊢;by_cases h0:op=0
 ·subst h0;obtain rfl:p=[]:=Classical.not_not.1 fun e=>h8 ⟨by decide,e⟩;clear hv h8;go_enter func46,ntmps46;go_wp2_with fail;refine(H.out _ ?gg).mono ?_
  case gg=>exact (by repeat(first| (with_reducible exact Ac _ _)| (with_reducible assumption)| (with_reducible exact AX (by assumption))| (with_reducible refine Ad ?_ _)| (with_reducible refine Am ?_)| (with_reducible refine Ay ?_ _)| ((with_reducible refine Az ?_ _ _ ?h2);case h2=>first|exact .inl rfl|exact .inr (Nat.le_refl _)|exact .inr (by simp<;>omega))| (with_reducible refine Ag ?_ (by assumption))| (with_reducible refine Aa ?_ (by assumption))))
  rintro e w5 ⟨rfl,g5⟩;go_wp2;go_ret;exact⟨rfl,Aa (by repeat(first| (with_reducible exact Ac _ _)| (with_reducible assumption)| (with_reducible exact AX (by assumption))| (with_reducible refine Ad ?_ _)| (with_reducible refine Am ?_)| (with_reducible refine Ay ?_ _)| ((with_reducible refine Az ?_ _ _ ?h2);case h2=>first|exact .inl rfl|exact .inr (Nat.le_refl _)|exact .inr (by simp<;>omega))| (with_reducible refine Ag ?_ (by assumption))| (with_reducible refine Aa ?_ (by assumption)))) g5⟩
 ·obtain⟨rfl,rfl,rfl⟩:vk=0∧vn=0∧vs=[]:=Classical.not_not.1 fun e=>hv ⟨h0,e⟩;have c1:(op==0)=false:=by simpa using h0
  have c2:(op !=0)=true:=by simpa using h0
  by_cases e8:op=8
  ·subst e8;clear hv h8 h0;go_enter func46,ntmps46;go_wp2_with fail;refine(H.out _ ?gg).mono ?_
   case gg=>exact (by repeat(first| (with_reducible exact Ac _ _)| (with_reducible assumption)| (with_reducible exact AX (by assumption))| (with_reducible refine Ad ?_ _)| (with_reducible refine Am ?_)| (with_reducible refine Ay ?_ _)| ((with_reducible refine Az ?_ _ _ ?h2);case h2=>first|exact .inl rfl|exact .inr (Nat.le_refl _)|exact .inr (by simp<;>omega))| (with_reducible refine Ag ?_ (by assumption))| (with_reducible refine Aa ?_ (by assumption))))
   rintro e w5 ⟨rfl,g5⟩;go_wp2;go_ret;exact⟨rfl,Aa (by repeat(first| (with_reducible exact Ac _ _)| (with_reducible assumption)| (with_reducible exact AX (by assumption))| (with_reducible refine Ad ?_ _)| (with_reducible refine Am ?_)| (with_reducible refine Ay ?_ _)| ((with_reducible refine Az ?_ _ _ ?h2);case h2=>first|exact .inl rfl|exact .inr (Nat.le_refl _)|exact .inr (by simp<;>omega))| (with_reducible refine Ag ?_ (by assumption))| (with_reducible refine Aa ?_ (by assumption)))) g5⟩
  ·obtain rfl:p=[]:=Classical.not_not.1 fun e=>h8 ⟨e8,e⟩;have c3:(op==8)=false:=by simpa using e8
   have c4:(op !=8)=true:=by simpa using e8
   clear hv h8 h0 e8;go_enter func46,ntmps46;go_wp2_with fail;refine(H.out _ ?gg).mono ?_
   case gg=>exact (by repeat(first| (with_reducible exact Ac _ _)| (with_reducible assumption)| (with_reducible exact AX (by assumption))| (with_reducible refine Ad ?_ _)| (with_reducible refine Am ?_)| (with_reducible refine Ay ?_ _)| ((with_reducible refine Az ?_ _ _ ?h2);case h2=>first|exact .inl rfl|exact .inr (Nat.le_refl _)|exact .inr (by simp<;>omega))| (with_reducible refine Ag ?_ (by assumption))| (with_reducible refine Aa ?_ (by assumption))))
   rintro e w5 ⟨rfl,g5⟩;go_wp2;go_ret;exact⟨rfl,Aa (by repeat(first| (with_reducible exact Ac _ _)| (with_reducible assumption)| (with_reducible exact AX (by assumption))| (with_reducible refine Ad ?_ _)| (with_reducible refine Am ?_)| (with_reducible refine Ay ?_ _)| ((with_reducible refine Az ?_ _ _ ?h2);case h2=>first|exact .inl rfl|exact .inr (Nat.le_refl _)|exact .inr (by simp<;>omega))| (with_reducible refine Ag ?_ (by assumption))| (with_reducible refine Aa ?_ (by assumption)))) g5⟩
end
theorem SI(s:Bs)(w:World):Calls Tryz.prog 56 #[.slice none 0 0,str s] w fun e w'=>e= .returned (.bool false)∧w=w':=by
 go_enter func56,ntmps56;go_wp2_with fail;go_loopg [5] 0 (fun g v5 wr=>v5= .int .i64 0∧w=wr)
 case atStart=>exact⟨rfl,rfl⟩
 case round=>
  obtain⟨rfl,rfl⟩:=hrel;go_wp2;go_ret;exact⟨rfl,rfl⟩
section
variable {b:Nat}{tv:Value}{l:List Tok}
theorem It{w:World}{st:RS}(h:Rr w b tv l st):
 Calls Tryz.prog 331 #[.pointer (some ⟨b,0,none⟩)] w (B9 b tv l w VStr (A3 l st)):=by
 have c3:=h.c3;have hb:=h.lt;have HH:=O h;clear h;go_enter func331,ntmps331;go_wp2_with fail;go_region_with(first| (go_at_call 179;refine(DW (HH.out.gbN (Am (Ac _ _)))).mono ?_;rintro e w1 ⟨rfl,g1⟩;have h1:=HH.out.gbN (Aa (Am (Ac _ _)) g1);have d3:=h1.c3;clear h1)| (go_at_call 56;refine(SI _ _).mono ?_;rintro e w2 ⟨rfl,rfl⟩));all_goals
  have h1:=HH.out.gbN (Aa (Am (Ac _ _)) g1);go_wp2_with fail;refine(En h1).mono ?_;rintro e w2 ⟨g2,v,rfl,rfl,h2⟩;have HE:=O (Z g2 h2);clear g2 h2;go_wp2;go_ret;exact⟨Aa (AX (Aa (Am (Ac _ _)) g1)) HE.out.1,_,rfl,rfl,HE.out.2⟩
theorem Nk{E:FR Ex}(hE:CR 48 b tv l E):CR 320 b tv l (Fc l E):=by
 intro w st r h ho;have hb:=h.lt;have gz:w.grownBy (w.alloc (.cells zeroE.toArray 27 (0,0))) (some b):=Ad (Ac _ _) _;have hz:=Blk.new w zeroE 27;have h0:=h.alloc (.cells zeroE.toArray 27 (0,0));unfold Fc at ho;have H:=O (Z hE (Z hz gz));have HW:=O (CO h0 [38]);clear hE hz gz h0;go_enter func320,ntmps320;go_wp2_with fail;refine HW.out.mono ?_;rintro e w1 ⟨g1,v,rfl,rfl,h1⟩;have HT:=O (Cg h1 [40]);have hZ:=H.out.2.1.gb g1 (by simp;omega);have hG:=O (Aa H.out.2.2 g1);have hb1:=h1.lt;simp only at h1 HT;clear g1 HW;cases hs:A4 l [40] (AR l [38] st)with
 | true=>
   rw[hs]at HT ho;have hq:(E (Ak l [40] (AR l [38] st))).bind (fun r=>some (⟨hd0 9 [],.one r.1⟩,AR l [41] r.2))=some r:=ho;obtain⟨⟨x,st1⟩,hx,hq⟩:=Option.bind_eq_some_iff.1 hq;simp only at hq;cases hq;have HX:=O hx;clear ho hs hx h1;go_wp2_with fail;refine HT.out.mono ?_;rintro e w2 ⟨g2,v,rfl,rfl,h2⟩;have hB:=hZ.gb g2 (by simp;omega);have g0:=Aa hG.out g2;have hw0:w.heap.size<w2.heap.size:=hB.lt;have HB:=O (Z hB g0);have HC:=O (H.out.1 _ _ _ h2 HX.out);clear hB g0 g2 h2 hZ HT;go_wp2_with fail;refine HC.out.mono ?_;rintro e w3 ⟨g3,v,rfl,⟨pa,pc,la,lc,rfl,rp,rl⟩,h3⟩;simp only at rp rl h3 ⊢;have HK:=O (KpR.new hb HB.out.1 HB.out.2 hw0 g3 rp rl h3);have hb3:=h3.lt;clear rp rl h3 HC g3 HB;go_wp2_with fail;refine(CO HK.out.rr [41]).mono ?_;rintro e w4 ⟨g4,v,rfl,rfl,h4⟩;have HK2:=O (HK.out.gb hb g4 h4);clear g4 h4 HK;have hk2:=HK2.out;have hL:=hk2.blk;have hZ:=hk2.zero;have hwL:=hk2.wL;have hLb:=hL.lt;have hltz:=hZ.lt;clear hk2;obtain⟨cl_0,cl_1,cl_2,cl_3,cl_4,cl_5,cl_6,cl_f⟩:=(hL).c7;obtain⟨cz_0,cz_1,cz_2,cz_3,cz_4,cz_5,cz_6,cz_f⟩:=(hZ).c7;go_wp2;have hk:=HK2.out;have g7:=Ah w4 w.heap.size (.int .i64 9) (str []) (.int .i64 0) (.int .i64 0) (str []) (.slice none 0 0) (.slice (some ⟨w4.heap.size,0,none⟩) 1 1);have hW:=hZ.set7 (.int .i64 9) (str []) (.int .i64 0) (.int .i64 0) (str []) (.slice none 0 0) (.slice (some ⟨w4.heap.size,0,none⟩) 1 1)
   have hsz:(set7 w4 w.heap.size (.int .i64 9) (str []) (.int .i64 0) (.int .i64 0) (str []) (.slice none 0 0) (.slice (some ⟨w4.heap.size,0,none⟩) 1 1)).heap.size=w4.heap.size:=by simp[set7]
   simp only[set7]at hW g7 hsz;generalize(((((((w4.setCell {block:=w.heap.size,off:=0} (.int .i64 9)).setCell {block:=w.heap.size,off:=1} (str [])).setCell {block:=w.heap.size,off:=2} (.int .i64 0)).setCell {block:=w.heap.size,off:=3} (.int .i64 0)).setCell {block:=w.heap.size,off:=4} (str [])).setCell {block:=w.heap.size,off:=5} (.slice none 0 0)).setCell {block:=w.heap.size,off:=6} (.slice (some ⟨w4.heap.size,0,none⟩) 1 1))=W' at*;exact bodyPost_ret (Al (hd:=hd0 9 []) (pv:= .slice none 0 0) (lv:= .slice (some ⟨w4.heap.size,0,none⟩) 1 1) rfl _ (Blk.alloc hW (Obj.cells #[Value.int IntKind.i64 x.h.op,str x.h.s,Value.int IntKind.i64 x.h.vk,Value.int IntKind.i64 x.h.vn,str x.h.vs,Value.slice pa x.h.p.length pc,Value.slice la x.kids.len lc] 27)) rfl) rfl (Fb (op:=9) (s:=[]) hb hk.gr hk.rp hk.rl (by intro k hk;exact hk.1) hk.rr g7 hsz)
 | false=>
   rw[hs]at HT ho;have hq:some ((⟨hd0 9 (A3 l (Ak l [40] (AR l [38] st))).1,.nil⟩:Ex),Ak l [46] (A3 l (Ak l [40] (AR l [38] st))).2)=some r:=ho;cases hq;clear ho hs h1;go_wp2_with fail;refine HT.out.mono ?_;rintro e w2 ⟨g2,v,rfl,rfl,h2⟩;have hB:=hZ.gb g2 (by simp;omega);have g0:=Aa hG.out g2;have hb2:=h2.lt;have HN:=O (En h2);have hw2:w.heap.size<w2.heap.size:=hB.lt;have HB:=O (Z hB g0);simp only at HN;clear hB g0 g2 h2 hZ HT;generalize(Ak l [40] (AR l [38] st))=st1 at*;go_wp2_with fail;refine HN.out.mono ?_;rintro e w3 ⟨g3,v,rfl,rfl,h3⟩;simp only at h3 ⊢;generalize(A3 l st1).1=s at*;have hb3:=h3.lt;have HK:=O (KpR.new (x:=⟨hd0 9 s,.nil⟩) (pa:=none) (pc:=0) (la:=none) (lc:=0) hb HB.out.1 HB.out.2 hw2 g3 (Cells.nil _ _ _) (RepL.nil _ _) h3);clear h3 HN g3 HB;go_wp2_with fail;refine(Cg HK.out.rr [46]).mono ?_;rintro e w4 ⟨g4,v,rfl,rfl,h4⟩;have HK2:=O (HK.out.gb hb g4 h4);clear g4 h4 HK;have hk2:=HK2.out;have hL:=hk2.blk;have hZ:=hk2.zero;have hwL:=hk2.wL;clear hk2;obtain⟨cl_0,cl_1,cl_2,cl_3,cl_4,cl_5,cl_6,cl_f⟩:=(hL).c7;obtain⟨cz_0,cz_1,cz_2,cz_3,cz_4,cz_5,cz_6,cz_f⟩:=(hZ).c7;go_wp2;have hk:=HK2.out;have g7:=Ah w4 w.heap.size (.int .i64 9) (str s) (.int .i64 0) (.int .i64 0) (str []) (.slice none 0 0) (.slice none 0 0);exact bodyPost_ret (Al (hd:=hd0 9 s) (pv:= .slice none 0 0) (lv:= .slice none 0 0) rfl _ (hZ.set7 _ _ _ _ _ _ _) rfl) rfl (Bh hb hk.gr hk.ve (by intro k hk;exact hk.1) hk.rr g7)
end
theorem Kn(k:Nat)(h:k≤15):(10:Int) ^ k≤1000000000000000:=by
 have h2:(10:Int) ^ k≤10 ^ 15:=by exact_mod_cast Nat.pow_le_pow_right (n:=10) (by decide) h
 have h3:(10:Int) ^ 15=1000000000000000:=by decide
 omega
theorem FD(s:Bs)(hd:s.all AJ=true)(h0:1≤s.length)(h15:s.length≤15)(w:World):
 Calls Tryz.prog 315 #[str s] w fun e w'=>e= .returned (.int .i64 (As s))∧w'=w:=by
 have hat:∀k,k<s.length→AJ (bAt s k)=true∧48≤(bAt s k).toNat∧(bAt s k).toNat≤57:=by
  intro k hk;have:=List.all_eq_true.1 hd s[k] (List.getElem_mem _);rw[Dn hk];refine⟨this,?_⟩;simpa[AJ]using this
 have hh:=hat 0 (by omega);have hg0:=fun h=>C3 s 0 h (by omega);have h32:(((bAt s 0).toNat:Int)==32)=false:=by simp;omega
 have h45:(((bAt s 0).toNat:Int)==45)=false:=by simp;omega
 have h43:(((bAt s 0).toNat:Int)==43)=false:=by simp;omega
 have H:=O (Z hd hat);have hl0:decide ((0:Int)<s.length)=true:=by simp;omega
 clear hd hat hh;go_enter func315,ntmps315;go_wp2_with fail;go_loopg [3] 0 (fun g v3 wr=>v3= .int .i64 0∧w=wr)
 case atStart=>exact⟨rfl,rfl⟩
 case round=>
  obtain⟨rfl,rfl⟩:=hrel;go_wp2_with fail;clear h32 h45 h43 hg0;go_loopg [3,5] s.length (fun g v3 v5 wr=>∃k:Nat,k+g=s.length∧v3= .int .i64 k∧v5= .int .i64 (As (s.take k))∧w=wr)
  case atStart=>exact⟨0,by omega,rfl,by simp[As],rfl⟩
  case round=>
   obtain⟨k,hk,rfl,rfl,rfl⟩:=hrel;have hnl:0≤As (s.take k)∧As (s.take k)<1000000000000000:=by
    have h1:=Dg s H.out.1 k (by omega);have h2:=Kn k (by omega);omega
   cases gk with
   | zero=>
     have hkM:k=s.length:=by omega
     have hj1:decide (k<s.length)=false:=by simp;omega
     have hT:As (s.take k)=As s:=by rw[List.take_of_length_le (by omega)]
     rw[hT]at*;generalize hzz:As s=z at*;have HZ:=O hzz;clear hzz hT;go_wp2;go_ret;exact⟨by rw[HZ.out];rfl,rfl⟩
   | succ gk=>
     have hlt:k<s.length:=by omega
     have hj1:decide (k<s.length)=true:=by simp;omega
     obtain⟨hx0,hx1,hx2⟩:=H.out.2 k hlt;have hgk:=fun h=>C3 s k h hlt;have hn1:=GG s k hlt;rw[←Dn hlt]at hn1;have hnl2:As (s.take (k+1))<1000000000000000:=by
      have h1:=Dg s H.out.1 (k+1) (by omega);have h2:=Kn (k+1) (by omega);omega
     rw[hn1]at hnl2;have HX:=O (show cls 2 (bAt s k)=true by rw[FQ];exact hx0);have HN:=O hn1;clear hn1 hx0;generalize hz:As (s.take k)=z at*;generalize hq:bAt s k=q at*;go_wp2_with fail;refine(Es _ _).mono ?_;rintro e w1 ⟨rfl,rfl⟩;rw[HX.out];have hmin:min (10*z+((q.toNat:Int)-48)) 1000000000000000=10*z+((q.toNat:Int)-48):=by omega
     go_wp2_with fail;go_roundg gk
     case measure=>omega
     case rel=>exact⟨k+1,by omega,by simp,by rw[HN.out];try(congr 1;omega),rfl⟩
theorem Ro{s:Bs}(h:∀j,j<s.length→AJ (bAt s j)=true):s.all AJ=true:=by
 rw[List.all_eq_true];intro x hx;obtain⟨j,hj,rfl⟩:=List.mem_iff_getElem.1 hx;rw[←Dn hj];exact h j hj
theorem Lm(s:Bs)(hs:s.length≤1000000)(w:World):
 Calls Tryz.prog 317 #[str s] w fun e w'=>e= .returned (.tuple #[.int .i64 (Bo s).1,.bool (Bo s).2])∧w.grownBy w' none:=by
 by_cases hb:s=Df
 ·subst hb;go_enter func317,ntmps317;go_wp2;exact bodyPost_ret (v:= .tuple #[.int .i64 0,.bool true]) (by simp[results,results317,go_sem]) rfl ⟨rfl,Ac _ _⟩
 have hb':(s==[32,32,32,32,32,32,32,32])=false:=by simpa[Df]using hb
 by_cases h8:s.length=8
 ·have h8n:((s.length:Int)==8)=true:=by simp;omega
  have h8m:((s.length:Int) !=8)=false:=by simp;omega
  cases hd:s.all AJ with
  | false=>
    have hm:Bo s=(0,false):=by simp only[Bo,hb,if_false,hd];simp
    rw[hm];have HD:=O hd;clear hm hd;go_enter func317,ntmps317;go_wp2_with fail;go_loopg [4] 8 (fun g v4 wr=>∃k:Nat,k+g=8∧v4= .int .i64 k∧(∀j,j<k→AJ (bAt s j)=true)∧w=wr)
    case atStart=>exact⟨0,by omega,rfl,fun j hj=>by omega,rfl⟩
    case round=>
     obtain⟨k,hk,rfl,hj,rfl⟩:=hrel;cases gk with
     | zero=>
       have:s.all AJ=true:=Ro (fun j hjl=>hj j (by omega));rw[HD.out]at this;cases this
     | succ gk=>
       have hkl:k<s.length:=by omega
       have hk8:decide ((k:Int)<8)=true:=by simp;omega
       have hg:=fun h=>C3 s k h hkl;have HJ:=O hj;clear hj;cases hc:cls 2 (bAt s k)with
       | true=>
         have HN:=O (show ∀j,j<k+1→AJ (bAt s j)=true from fun j hj=>by
          rcases Nat.lt_succ_iff_lt_or_eq.1 hj with h|h
          ·exact HJ.out j h
          ·subst h;rw[←FQ];exact hc)
         have HC:=O hc;clear hc;go_wp2_with fail;refine(Es _ _).mono ?_;rintro e w1 ⟨rfl,rfl⟩;rw[HC.out];go_wp2;go_roundg gk
         case measure=>omega
         case rel=>exact⟨k+1,by omega,by go_num,HN.out,rfl⟩
       | false=>
         have HC:=O hc;clear hc;go_wp2_with fail;refine(Es _ _).mono ?_;rintro e w1 ⟨rfl,rfl⟩;rw[HC.out];go_wp2;exact bodyPost_ret (v:= .tuple #[.int .i64 0,.bool false]) (by simp[results,results317,go_sem]) rfl ⟨rfl,Ac _ _⟩
  | true=>
    have hm:Bo s=((AM (As (s.take 4)) (As ((s.drop 4).take 2)) (As (s.drop 6))).1,(AM (As (s.take 4)) (As ((s.drop 4).take 2)) (As (s.drop 6))).2==0):=by
     simp only[Bo,hb,if_false,hd,h8];simp
    rw[hm];clear hm;have hat:∀k,k<s.length→cls 2 (bAt s k)=true:=by
     intro k hk;rw[FQ,Dn hk];exact List.all_eq_true.1 hd s[k] (List.getElem_mem _)
    obtain⟨a0,a1,a2,a3,a4,a5,a6,a7,hs8⟩:∃a0 a1 a2 a3 a4 a5 a6 a7,s=[a0,a1,a2,a3,a4,a5,a6,a7]:=by
     match s,h8 with
     | [a0,a1,a2,a3,a4,a5,a6,a7],_=>exact⟨_,_,_,_,_,_,_,_,rfl⟩
    have hd4:[a0,a1,a2,a3].all AJ=true∧[a4,a5].all AJ=true∧[a6,a7].all AJ=true:=by
     rw[hs8]at hd;simp at hd ⊢;simp[hd]
    have et1:s.take 4=[a0,a1,a2,a3]:=by rw[hs8];rfl
    have et2:(s.drop 4).take 2=[a4,a5]:=by rw[hs8];rfl
    have et3:s.drop 6=[a6,a7]:=by rw[hs8];rfl
    rw[et1,et2,et3];clear et1 et2 et3;have HD:=O hd4;have HA:=O hat;have HS:=O hs8;clear hd4 hat hd hs8;go_enter func317,ntmps317;go_wp2_with fail;go_loopg [4] 8 (fun g v4 wr=>∃k:Nat,k+g=8∧v4= .int .i64 k∧w=wr)
    case atStart=>exact⟨0,by omega,rfl,rfl⟩
    case round=>
     obtain⟨k,hk,rfl,rfl⟩:=hrel;cases gk with
     | succ gk=>
       have hkl:k<s.length:=by omega
       have hk8:decide ((k:Int)<8)=true:=by simp;omega
       have hg:=fun h=>C3 s k h hkl;have HC:=O (HA.out k hkl);go_wp2_with fail;refine(Es _ _).mono ?_;rintro e w1 ⟨rfl,rfl⟩;rw[HC.out];go_wp2;go_roundg gk
       case measure=>omega
       case rel=>exact⟨k+1,by omega,by go_num,rfl⟩
     | zero=>
       have hk8:decide ((k:Int)<8)=false:=by simp;omega
       go_wp2_with fail;have hs8:=HS.out;have hy:=Dg _ HD.out.1 4 (by simp);have hm:=Dg _ HD.out.2.1 2 (by simp);have hd':=Dg _ HD.out.2.2 2 (by simp);have hx1:(⟨s.toArray⟩:ByteArray).extract 0 4={data:=#[a0,a1,a2,a3]}:=by rw[hs8];rfl
       have hx2:(⟨s.toArray⟩:ByteArray).extract 4 6={data:=#[a4,a5]}:=by rw[hs8];rfl
       have hx3:(⟨s.toArray⟩:ByteArray).extract 6 8={data:=#[a6,a7]}:=by rw[hs8];rfl
       have hl4:(4:Int)≤s.length:=by omega
       have hl6:(6:Int)≤s.length:=by omega
       clear hs8;simp only[List.take_succ_cons,List.take_zero,List.drop_succ_cons,List.drop_zero,List.take_nil]at*;generalize hY:As [a0,a1,a2,a3]=Y at*;generalize hMM:As [a4,a5]=M at*;generalize hDD:As [a6,a7]=D at*;have HN:=O (Z hY (Z hMM hDD));clear hY hMM hDD;have hda:=FH Y M D (by omega) (by omega) (by omega) (by omega) (by omega) (by omega);have hv1:∀w,Calls Tryz.prog 315 #[.string ⟨#[a0,a1,a2,a3]⟩] w fun e w'=>e= .returned (.int .i64 Y)∧w'=w:=fun w=>by rw[←HN.out.1];exact FD [a0,a1,a2,a3] HD.out.1 (by simp) (by simp) w
       have hv2:∀w,Calls Tryz.prog 315 #[.string ⟨#[a4,a5]⟩] w fun e w'=>e= .returned (.int .i64 M)∧w'=w:=fun w=>by rw[←HN.out.2.1];exact FD [a4,a5] HD.out.2.1 (by simp) (by simp) w
       have hv3:∀w,Calls Tryz.prog 315 #[.string ⟨#[a6,a7]⟩] w fun e w'=>e= .returned (.int .i64 D)∧w'=w:=fun w=>by rw[←HN.out.2.2];exact FD [a6,a7] HD.out.2.2 (by simp) (by simp) w
       have HV:=O (Z hda (Z hv1 (Z hv2 hv3)));clear hda hv1 hv2 hv3;go_region_with(first| (go_at_call 215;with_reducible refine(HV.out.1 _).mono ?_;rintro e w5 ⟨rfl,rfl⟩)| (with_reducible refine(HV.out.2.1 _).mono ?_;rintro e w2 ⟨rfl,rfl⟩)| (with_reducible refine(HV.out.2.2.1 _).mono ?_;rintro e w3 ⟨rfl,rfl⟩)| (with_reducible refine(HV.out.2.2.2 _).mono ?_;rintro e w4 ⟨rfl,rfl⟩));all_goals
        go_wp2;exact bodyPost_ret (v:= .tuple #[.int .i64 (AM Y M D).1,.bool ((AM Y M D).2==0)]) (by simp[results,results317,go_sem]) rfl ⟨by rw[←HN.out.1,←HN.out.2.1,←HN.out.2.2],Am (Ac _ _)⟩
 ·have hm:Bo s=(0,false):=by simp[Bo,hb,h8]
  rw[hm];have h8n:((s.length:Int)==8)=false:=by simp;omega
  have h8m:((s.length:Int) !=8)=true:=by simp;omega
  go_enter func317,ntmps317;go_wp2;exact bodyPost_ret (v:= .tuple #[.int .i64 0,.bool false]) (by simp[results,results317,go_sem]) rfl ⟨rfl,Ac _ _⟩
section
variable {w w':World}{t d:Bs}{m:Int}{n:Nat}
end
end Go.Proofs.YtgjdhajcnechdaaGreatDoor
