/-
  The reference: Padded, Split, Stamp; Validate of a value. The reference's writer in memory; put, sign, blank.
-/
import Derived.Test.YtgjdhajcnechdaaGreatDoorSv30
import Derived.Test.YtgjdhajcnechdaaGreatDoorSv25
import Derived.Deep.AppendLies
set_option linter.all false
set_option maxRecDepth 100000
set_option maxHeartbeats 8000000
namespace Go.Proofs.YtgjdhajcnechdaaGreatDoor
open Go.Proofs.Tryz
open Go.RowKit Go.Lib
theorem FA(u k:Nat)(hu:u≤9999)(hl:(decDigits u).length≤k)(hk:k≤4)(w:World):Calls Tryz.prog 175 #[.int .i64 u,.int .i64 k] w fun e w'=>e= .returned (str (AN k u))∧w.grownBy w' none:=by
 have H:=O (FF (u+1) u (Nat.lt_succ_self _) (by omega) w);have HP:=O (show AN k u=List.replicate (k-(decDigits u).length) 48++decDigits u from rfl);generalize decDigits u=ds at*;go_enter func175,ntmps175;go_wp2_with fail;refine H.out.mono ?_;rintro e w1 ⟨rfl,g1⟩;have HG:=O g1;clear g1;go_wp2_with fail;go_loopg [5] (k-ds.length) (fun g v5 wr=>∃z:Bs,v5= .string ⟨z.toArray⟩∧z.length+g=k∧List.replicate g 48++z=AN k u∧wr=w1)
 case atStart=>exact⟨ds,rfl,by omega,HP.out.symm,rfl⟩
 case round=>
  obtain⟨z,rfl,hz,hr,rfl⟩:=hrel;cases gk with
  | zero=>
    have hI:decide ((z.length:Int)<(k:Int))=false:=by simp;omega
    have hI2:decide (z.length<k)=false:=by simp;omega
    have HZ:=O (show z=AN k u from hr);clear hr;go_wp2;go_ret;exact⟨by rw[←HZ.out];rfl,HG.out⟩
  | succ g=>
    have hI:decide ((z.length:Int)<(k:Int))=true:=by simp;omega
    have hI2:decide (z.length<k)=true:=by simp;omega
    have hcl:¬(9223372036854775807<1+z.length):=by omega
    have HZ:=O (show List.replicate g 48++([48]++z)=AN k u by rw[←hr,←List.append_assoc,←List.replicate_succ']);clear hr;go_wp2;go_roundg g
    case measure=>omega
    case rel=>exact⟨[48]++z,Ek [48] z,by simp only[List.length_append,List.length_cons,List.length_nil];omega,HZ.out,rfl⟩
theorem FI{y:Int}{m:Nat}(h0:1≤y)(h1:y≤9999)(hm:1≤m)(hm2:m≤12):AH y m 1=(Ak y+1+Ap y (m-1),0):=by
 have:=(FQ (y:=y) (m:=m) (by omega) (by omega)).1;unfold AH;rw[if_neg (by simp[Ca];omega)];rw[show((m:Int)-1).toNat=m-1 by omega]
theorem Ng(n:Int)(h0:0<n)(h1:n≤3652059)(w:World):Calls Tryz.prog 174 #[.int .i64 n] w fun e w'=>
 (∃y m q:Nat,e= .returned (.tuple #[.int .i64 y,.int .i64 m,.int .i64 q,.int .i64 0])∧1≤y∧y≤9999∧1≤m∧m≤12∧1≤q∧(q:Int)≤AW y m∧Ak y+Ap y (m-1)+q=n)∧w'=w:=by
 have hz:(n==0)=false:=by simp;omega
 have hn0:decide (n<0)=false:=by simp;omega
 have hnb:decide ((3652059:Int)<n)=false:=by simp;omega
 have HN:=O (Z h0 h1);go_enter func174,ntmps174;go_wp2_with fail;go_loopg [6,7] 9999 (fun g v6 v7 wr=>∃lo hi:Int,v6= .int .i64 lo∧v7= .int .i64 hi∧1≤lo∧lo≤hi∧hi≤9999∧hi-lo≤g∧Ak lo<n∧n≤Ak (hi+1)∧wr=w)
 case atStart=>exact⟨1,9999,rfl,rfl,by omega,by omega,by omega,by omega,by rw[MY];exact HN.out.1,by rw[show(9999:Int)+1=10000 from rfl,MX];exact HN.out.2,rfl⟩
 case round=>
  obtain⟨lo,hi,rfl,rfl,b1,b2,b3,b4,b5,b6,rfl⟩:=hrel;have HB:=O (Z b5 b6);clear b5 b6;by_cases hlh:lo<hi
  ·have hI:decide (lo<hi)=true:=by simpa using hlh
   obtain⟨mid,hmid,hm1,hm2⟩:∃mid,(lo+hi+1).tdiv 2=mid∧lo+1≤mid∧mid≤hi:=⟨_,rfl,by rw[Int.tdiv_eq_ediv_of_nonneg (by omega)];omega,by rw[Int.tdiv_eq_ediv_of_nonneg (by omega)];omega⟩;have hmid2:(lo+hi+1)/2=mid:=by rw[←hmid,Int.tdiv_eq_ediv_of_nonneg (by omega)]
   have HD:=O (fun W=>Fc mid 1 1 (by omega) (by omega) (by omega) (by omega) (by omega) (by omega) W);have hdf:=FI (y:=mid) (m:=1) (by omega) (by omega) (by omega) (by omega);rw[show((1:Nat):Int)=1 from rfl]at hdf;rw[hdf]at HD;have hy:=I9 (y:=mid) (by omega) (by omega);simp only[Nat.sub_self,Ap,Int.add_zero]at HD;have HM:=O (show mid-1+1=mid by omega);by_cases hc:Ak mid+1≤n
   ·have hcI:decide (Ak mid+1≤n)=true:=by simpa using hc
    have HC:=O (show Ak mid<n by omega);clear hdf hc;generalize hym:Ak mid=z at*;have HY:=O hym;clear hym;go_wp2_with fail;refine(HD.out _).mono ?_;rintro e w2 ⟨rfl,rfl⟩;go_wp2;go_roundg (gk-1)
    case measure=>omega
    case rel=>exact⟨mid,hi,rfl,rfl,by omega,by omega,by omega,by omega,by rw[HY.out];exact HC.out,HB.out.2,rfl⟩
   ·have hcI:decide (Ak mid+1≤n)=false:=by simpa using hc
    have HC:=O (show n≤Ak mid by omega);clear hdf hc;generalize hym:Ak mid=z at*;have HY:=O hym;clear hym;go_wp2_with fail;refine(HD.out _).mono ?_;rintro e w2 ⟨rfl,rfl⟩;go_wp2;go_roundg (gk-1)
    case measure=>omega
    case rel=>exact⟨lo,mid-1,rfl,by go_num,by omega,by omega,by omega,by omega,HB.out.1,by rw[HM.out,HY.out];exact HC.out,rfl⟩
  ·have hI:decide (lo<hi)=false:=by simpa using hlh
   obtain rfl:lo=hi:=by omega
   clear hlh b2;have hd:=OI b1 HB.out.2;have HD:=O hd;have hdf12:=FI (y:=lo) (m:=12) b1 b3 (by omega) (by omega);rw[show((12:Nat):Int)=12 from rfl]at hdf12;have H12:=O (fun W=>Fc lo 12 1 (by omega) (by omega) (by omega) (by omega) (by omega) (by omega) W);rw[hdf12]at H12;have hy:=I9 (y:=lo) (by omega) (by omega);clear hd hdf12 b4 hI;go_wp2_with fail;refine(H12.out _).mono ?_;rintro e w2 ⟨rfl,rfl⟩;go_wp2_with fail;go_loopg [11,12] 12 (fun g v11 v12 wr=>∃m:Nat,v11= .int .i64 m∧v12= .int .i64 (Ak lo+1+Ap lo (m-1))∧1≤m∧m≤12∧m≤g∧n-Ak lo≤Ap lo m∧wr=w2)
   case atStart=>exact⟨12,rfl,rfl,by omega,by omega,by omega,HD.out,rfl⟩
   case round=>
    obtain⟨m,rfl,rfl,c1,c2,c3,c4,rfl⟩:=hrel;have hbm:=Fe lo (m-1) (by omega);have hnx:=KN lo m c1;have hmb:=FQ (y:=lo) (m:=m) (by omega) (by omega);by_cases hc:n<Ak lo+1+Ap lo (m-1)
    ·have hcI:decide (n<Ak lo+1+Ap lo (m-1))=true:=by simpa using hc
     have hm1:m≠1:=by
      rintro rfl;have:=HB.out.1;simp[Ap]at hc;omega
     have H2:=O (fun W=>Fc lo ((m-1:Nat):Int) 1 (by omega) (by omega) (by omega) (by omega) (by omega) (by omega) W);rw[FI b1 b3 (by omega) (by omega)]at H2;have HC:=O (show n-Ak lo≤Ap lo (m-1)by omega);have em:((m-1:Nat):Int)=(m:Int)-1:=by omega
     have hbm2:=Fe lo (m-1-1) (by omega);have EM:=O em;rw[em]at H2;clear hnx c4 hc em;generalize hz1:Ap lo (m-1)=z1 at*;generalize hz2:Ap lo (m-1-1)=z2 at*;have HZ:=O hz2;have HZ1:=O hz1;clear hz1 hz2;go_wp2_with fail;refine(H2.out _).mono ?_;rintro e w3 ⟨rfl,rfl⟩;go_wp2;go_roundg (gk-1)
     case measure=>omega
     case rel=>exact⟨m-1,by rw[EM.out],by rw[HZ.out],by omega,by omega,by omega,by rw[HZ1.out];exact HC.out,rfl⟩
    ·have hcI:decide (n<Ak lo+1+Ap lo (m-1))=false:=by simpa using hc
     have HX:=O (show(∃y' m' q':Nat,(lo,(m:Int),n-(Ak lo+1+Ap lo (m-1))+1)=((y':Int),(m':Int),(q':Int))∧1≤y'∧y'≤9999∧1≤m'∧m'≤12∧1≤q'∧(q':Int)≤AW y' m'∧Ak y'+Ap y' (m'-1)+q'=n)by
      obtain⟨y',rfl⟩:∃y':Nat,lo=y':=⟨lo.toNat,by omega⟩;obtain⟨q',hq'⟩:∃q':Nat,n-(Ak y'+1+Ap y' (m-1))+1=q':=⟨(n-(Ak y'+1+Ap y' (m-1))+1).toNat,by omega⟩;exact⟨y',m,q',by rw[hq'],by omega,by omega,c1,c2,by omega,by omega,by omega⟩)
     clear hnx c4 hc;generalize Ap lo (m-1)=z1 at*;generalize Ak lo=z0 at*;go_wp2;obtain⟨y',m',q',e,hh⟩:=HX.out;simp only[Prod.mk.injEq]at e;refine bodyPost_ret (v:= .tuple #[.int .i64 lo,.int .i64 m,.int .i64 (n-(z0+1+z1)+1),.int .i64 0]) (by simp[results,results174,go_sem]) rfl ⟨⟨y',m',q',by rw[←e.1,←e.2.1,←e.2.2],hh⟩,rfl⟩
theorem Nh(n:Int)(h0:0<n)(h1:n≤3652059)(w:World):Calls Tryz.prog 133 #[.int .i64 n] w fun e w'=>e= .returned (.tuple #[str (Cp n),.int .i64 0])∧w.grownBy w' none:=by
 have H:=O (Ng n h0 h1 w);have hz:(n==0)=false:=by simp;omega
 clear h0 h1;go_enter func133,ntmps133;go_wp2_with fail;refine H.out.mono ?_;rintro e w1 ⟨⟨y,m,q,rfl,a1,a2,a3,a4,a5,a6,a7⟩,rfl⟩;have hq31:=(FQ (y:=y) (m:=m) (by omega) (by omega)).2;have HD:=O (show Cp n=AN 4 y++AN 2 m++AN 2 q by unfold Cp;rw[Oo a1 a2 a3 a4 a5 a6 a7]);have hn:∀k u:Nat,1≤k→u<10 ^ k→(decDigits u).length≤k:=fun k u hk hu=>by rw[decDigits_length];exact FZ k hk hu
 have l1:=CS (k:=4) (u:=y) (by omega) (by omega);have l2:=CS (k:=2) (u:=m) (by omega) (by omega);have l3:=CS (k:=2) (u:=q) (by omega) (by omega);have H1:=O (fun W=>FA y 4 (by omega) (hn 4 y (by omega) (by omega)) (by omega) W);have H2:=O (fun W=>FA m 2 (by omega) (hn 2 m (by omega) (by omega)) (by omega) W);have H3:=O (fun W=>FA q 2 (by omega) (hn 2 q (by omega) (by omega)) (by omega) W);generalize AN 4 y=s1 at*;generalize AN 2 m=s2 at*;generalize AN 2 q=s3 at*;have hc1:¬(9223372036854775807<s1.length+s2.length):=by omega
 have hc2:¬(9223372036854775807<s1.length+s2.length+s3.length):=by omega
 have hc3:¬(9223372036854775807<(s1++s2).length+s3.length):=by rw[List.length_append];omega
 clear a1 a2 a3 a4 a5 a6 a7 hn hq31;go_wp2_with fail;refine(H1.out _).mono ?_;rintro e w2 ⟨rfl,g2⟩;go_wp2_with fail;refine(H2.out _).mono ?_;rintro e w3 ⟨rfl,g3⟩;go_wp2_with fail;refine(H3.out _).mono ?_;rintro e w4 ⟨rfl,g4⟩;have HG:=O (Aa (Aa g2 g3) g4);clear g2 g3 g4;go_wp2;refine bodyPost_ret (v:= .tuple #[str (Cp n),.int .i64 0]) ?_ rfl ⟨rfl,HG.out⟩;rw[HD.out,←Ek,←ByteArray.mk_append_mk];simp[results,results133,go_sem]
theorem Nf(n:Int)(w:World):Calls Tryz.prog 173 #[.int .i64 n] w fun e w'=>e= .returned (.bool (decide (-1000000000000000≤n)&&decide (n≤1000000000000000)))∧w'=w:=by
 by_cases h: -1000000000000000≤n
 ·have hI:decide (-1000000000000000≤n)=true:=by simpa using h
  go_enter func173,ntmps173;go_wp2;go_ret;exact⟨by first|rfl| (rw[hI];rfl),rfl⟩
 ·have hI:decide (-1000000000000000≤n)=false:=by simpa using h
  go_enter func173,ntmps173;go_wp2;go_ret;exact⟨by first|rfl| (rw[hI];rfl),rfl⟩
theorem I4{h:Hd}(hv:A4 h=true):h.vs.length≤2048:=by
 unfold A4 at hv;simp only[Bool.and_eq_true,decide_eq_true_eq]at hv;exact hv.1.1
theorem I5{h:Hd}(hk:h.vk=2)(hv:A4 h=true): -1000000000000000≤h.vn∧h.vn≤1000000000000000:=by
 unfold A4 at hv;rw[if_neg (by omega),if_neg (by omega),if_pos hk]at hv;simp only[Bool.and_eq_true,decide_eq_true_eq]at hv;exact hv.1.2
section
variable {w:World}{vk vn:Int}{vs:Bs}
theorem He(hl:vs.length≤2000000):
 Calls Tryz.prog 130 #[.agg #[.int .i64 vk,.int .i64 vn,str vs]] w fun e w'=>(∃c:Int,e= .returned (.int .i64 c)∧(c==0)=A4 (HdV vk vn vs))∧w.grownBy w' none:=by
 by_cases h2:2048<vs.length
 ·have h2I:decide ((2048:Int)<(vs.length:Int))=true:=by simp;omega
  have HF:=O (show A4 (HdV vk vn vs)=false from Bool.eq_false_iff.2 (fun h=>by have h3:vs.length≤2048:=I4 h;omega));clear hl;go_enter func130,ntmps130;go_wp2;go_ret;exact⟨⟨3,rfl,by rw[HF.out];rfl⟩,(by repeat(first| (with_reducible exact Ac _ _)| (with_reducible assumption)| (with_reducible exact AU (by assumption))| (with_reducible refine Ad ?_ _)| (with_reducible refine Am ?_)| (with_reducible refine A3 ?_ _)| ((with_reducible refine Ay ?_ _ _ ?h2);case h2=>first|exact .inl rfl|exact .inr (Nat.le_refl _)|exact .inr (by simp<;>omega))| (with_reducible refine Ah ?_ (by assumption))| (with_reducible refine Aa ?_ (by assumption))))⟩
 have h2I:decide ((2048:Int)<(vs.length:Int))=false:=by simp;omega
 have h2':vs.length≤2048:=by omega
 by_cases h0:vk=0
 ·subst h0;by_cases hn:vn=0
  ·subst hn;by_cases hs:vs=[]
   ·have HF:=O (show A4 (HdV 0 0 vs)=true by simp[A4,HdV,hs,h2']);clear hl;have hsI:(vs==[])=true:=by simpa using hs
    have hsI2:(vs !=[])=false:=by simpa using hs
    go_enter func130,ntmps130;go_wp2;go_ret;exact⟨⟨0,rfl,by rw[HF.out];rfl⟩,(by repeat(first| (with_reducible exact Ac _ _)| (with_reducible assumption)| (with_reducible exact AU (by assumption))| (with_reducible refine Ad ?_ _)| (with_reducible refine Am ?_)| (with_reducible refine A3 ?_ _)| ((with_reducible refine Ay ?_ _ _ ?h2);case h2=>first|exact .inl rfl|exact .inr (Nat.le_refl _)|exact .inr (by simp<;>omega))| (with_reducible refine Ah ?_ (by assumption))| (with_reducible refine Aa ?_ (by assumption))))⟩
   ·have HF:=O (show A4 (HdV 0 0 vs)=false by simp[A4,HdV,hs,h2']);clear hl;have hsI:(vs==[])=false:=by simpa using hs
    have hsI2:(vs !=[])=true:=by simpa using hs
    go_enter func130,ntmps130;go_wp2;go_ret;exact⟨⟨1,rfl,by rw[HF.out];rfl⟩,(by repeat(first| (with_reducible exact Ac _ _)| (with_reducible assumption)| (with_reducible exact AU (by assumption))| (with_reducible refine Ad ?_ _)| (with_reducible refine Am ?_)| (with_reducible refine A3 ?_ _)| ((with_reducible refine Ay ?_ _ _ ?h2);case h2=>first|exact .inl rfl|exact .inr (Nat.le_refl _)|exact .inr (by simp<;>omega))| (with_reducible refine Ah ?_ (by assumption))| (with_reducible refine Aa ?_ (by assumption))))⟩
  ·have HF:=O (show A4 (HdV 0 vn vs)=false by simp[A4,HdV,hn]);clear hl;have hnI:(vn==0)=false:=by simpa using hn
   go_enter func130,ntmps130;go_wp2;go_ret;exact⟨⟨1,rfl,by rw[HF.out];rfl⟩,(by repeat(first| (with_reducible exact Ac _ _)| (with_reducible assumption)| (with_reducible exact AU (by assumption))| (with_reducible refine Ad ?_ _)| (with_reducible refine Am ?_)| (with_reducible refine A3 ?_ _)| ((with_reducible refine Ay ?_ _ _ ?h2);case h2=>first|exact .inl rfl|exact .inr (Nat.le_refl _)|exact .inr (by simp<;>omega))| (with_reducible refine Ah ?_ (by assumption))| (with_reducible refine Aa ?_ (by assumption))))⟩
 have c0:(vk==0)=false:=by simpa using h0
 by_cases h1:vk=1
 ·subst h1;by_cases hn:vn=0
  ·subst hn;by_cases hs:vs=[]
   ·have HF:=O (show A4 (HdV 1 0 vs)=true by simp[A4,HdV,hs,h2']);clear hl;have hsI:(vs==[])=true:=by simpa using hs
    have hsI2:(vs !=[])=false:=by simpa using hs
    go_enter func130,ntmps130;go_wp2;go_ret;exact⟨⟨0,rfl,by rw[HF.out];rfl⟩,(by repeat(first| (with_reducible exact Ac _ _)| (with_reducible assumption)| (with_reducible exact AU (by assumption))| (with_reducible refine Ad ?_ _)| (with_reducible refine Am ?_)| (with_reducible refine A3 ?_ _)| ((with_reducible refine Ay ?_ _ _ ?h2);case h2=>first|exact .inl rfl|exact .inr (Nat.le_refl _)|exact .inr (by simp<;>omega))| (with_reducible refine Ah ?_ (by assumption))| (with_reducible refine Aa ?_ (by assumption))))⟩
   ·have HF:=O (show A4 (HdV 1 0 vs)=false by simp[A4,HdV,hs,h2']);clear hl;have hsI:(vs==[])=false:=by simpa using hs
    have hsI2:(vs !=[])=true:=by simpa using hs
    go_enter func130,ntmps130;go_wp2;go_ret;exact⟨⟨1,rfl,by rw[HF.out];rfl⟩,(by repeat(first| (with_reducible exact Ac _ _)| (with_reducible assumption)| (with_reducible exact AU (by assumption))| (with_reducible refine Ad ?_ _)| (with_reducible refine Am ?_)| (with_reducible refine A3 ?_ _)| ((with_reducible refine Ay ?_ _ _ ?h2);case h2=>first|exact .inl rfl|exact .inr (Nat.le_refl _)|exact .inr (by simp<;>omega))| (with_reducible refine Ah ?_ (by assumption))| (with_reducible refine Aa ?_ (by assumption))))⟩
  by_cases hn1:vn=1
  ·subst hn1;by_cases hs:vs=[]
   ·have HF:=O (show A4 (HdV 1 1 vs)=true by simp[A4,HdV,hs,h2']);clear hl;have hsI:(vs==[])=true:=by simpa using hs
    have hsI2:(vs !=[])=false:=by simpa using hs
    go_enter func130,ntmps130;go_wp2;go_ret;exact⟨⟨0,rfl,by rw[HF.out];rfl⟩,(by repeat(first| (with_reducible exact Ac _ _)| (with_reducible assumption)| (with_reducible exact AU (by assumption))| (with_reducible refine Ad ?_ _)| (with_reducible refine Am ?_)| (with_reducible refine A3 ?_ _)| ((with_reducible refine Ay ?_ _ _ ?h2);case h2=>first|exact .inl rfl|exact .inr (Nat.le_refl _)|exact .inr (by simp<;>omega))| (with_reducible refine Ah ?_ (by assumption))| (with_reducible refine Aa ?_ (by assumption))))⟩
   ·have HF:=O (show A4 (HdV 1 1 vs)=false by simp[A4,HdV,hs,h2']);clear hl;have hsI:(vs==[])=false:=by simpa using hs
    have hsI2:(vs !=[])=true:=by simpa using hs
    go_enter func130,ntmps130;go_wp2;go_ret;exact⟨⟨1,rfl,by rw[HF.out];rfl⟩,(by repeat(first| (with_reducible exact Ac _ _)| (with_reducible assumption)| (with_reducible exact AU (by assumption))| (with_reducible refine Ad ?_ _)| (with_reducible refine Am ?_)| (with_reducible refine A3 ?_ _)| ((with_reducible refine Ay ?_ _ _ ?h2);case h2=>first|exact .inl rfl|exact .inr (Nat.le_refl _)|exact .inr (by simp<;>omega))| (with_reducible refine Ah ?_ (by assumption))| (with_reducible refine Aa ?_ (by assumption))))⟩
  have hnI:(vn==0)=false:=by simpa using hn
  have hnI1:(vn==1)=false:=by simpa using hn1
  have HF:=O (show A4 (HdV 1 vn vs)=false by simp[A4,HdV,hn,hn1]);clear hl;go_enter func130,ntmps130;go_wp2;go_ret;exact⟨⟨1,rfl,by rw[HF.out];rfl⟩,(by repeat(first| (with_reducible exact Ac _ _)| (with_reducible assumption)| (with_reducible exact AU (by assumption))| (with_reducible refine Ad ?_ _)| (with_reducible refine Am ?_)| (with_reducible refine A3 ?_ _)| ((with_reducible refine Ay ?_ _ _ ?h2);case h2=>first|exact .inl rfl|exact .inr (Nat.le_refl _)|exact .inr (by simp<;>omega))| (with_reducible refine Ah ?_ (by assumption))| (with_reducible refine Aa ?_ (by assumption))))⟩
 have c1:(vk==1)=false:=by simpa using h1
 by_cases h2k:vk=2
 ·subst h2k;have HI:=O (fun W=>Nf vn W);cases hb:(decide (-1000000000000000≤vn)&&decide (vn≤1000000000000000))with
  | true=>
    rw[hb]at HI;by_cases hs:vs=[]
    ·have HF:=O (show A4 (HdV 2 vn vs)=true by simp[A4,HdV,hs,h2'];simp at hb;omega);clear hl;have hsI:(vs==[])=true:=by simpa using hs
     have hsI2:(vs !=[])=false:=by simpa using hs
     go_enter func130,ntmps130;go_wp2_with fail;refine(HI.out _).mono ?_;rintro e w1 ⟨rfl,rfl⟩;go_wp2;go_ret;exact⟨⟨0,rfl,by rw[HF.out];rfl⟩,(by repeat(first| (with_reducible exact Ac _ _)| (with_reducible assumption)| (with_reducible exact AU (by assumption))| (with_reducible refine Ad ?_ _)| (with_reducible refine Am ?_)| (with_reducible refine A3 ?_ _)| ((with_reducible refine Ay ?_ _ _ ?h2);case h2=>first|exact .inl rfl|exact .inr (Nat.le_refl _)|exact .inr (by simp<;>omega))| (with_reducible refine Ah ?_ (by assumption))| (with_reducible refine Aa ?_ (by assumption))))⟩
    ·have HF:=O (show A4 (HdV 2 vn vs)=false by simp[A4,HdV,hs,h2']);clear hl;have hsI:(vs==[])=false:=by simpa using hs
     have hsI2:(vs !=[])=true:=by simpa using hs
     go_enter func130,ntmps130;go_wp2_with fail;refine(HI.out _).mono ?_;rintro e w1 ⟨rfl,rfl⟩;go_wp2;go_ret;exact⟨⟨1,rfl,by rw[HF.out];rfl⟩,(by repeat(first| (with_reducible exact Ac _ _)| (with_reducible assumption)| (with_reducible exact AU (by assumption))| (with_reducible refine Ad ?_ _)| (with_reducible refine Am ?_)| (with_reducible refine A3 ?_ _)| ((with_reducible refine Ay ?_ _ _ ?h2);case h2=>first|exact .inl rfl|exact .inr (Nat.le_refl _)|exact .inr (by simp<;>omega))| (with_reducible refine Ah ?_ (by assumption))| (with_reducible refine Aa ?_ (by assumption))))⟩
  | false=>
    rw[hb]at HI;have HF:=O (show A4 (HdV 2 vn vs)=false from Bool.eq_false_iff.2 (fun h=>by have h3: -1000000000000000≤vn∧vn≤1000000000000000:=I5 rfl h;simp at hb;omega));clear hl;go_enter func130,ntmps130;go_wp2_with fail;refine(HI.out _).mono ?_;rintro e w1 ⟨rfl,rfl⟩;go_wp2;go_ret;exact⟨⟨1,rfl,by rw[HF.out];rfl⟩,(by repeat(first| (with_reducible exact Ac _ _)| (with_reducible assumption)| (with_reducible exact AU (by assumption))| (with_reducible refine Ad ?_ _)| (with_reducible refine Am ?_)| (with_reducible refine A3 ?_ _)| ((with_reducible refine Ay ?_ _ _ ?h2);case h2=>first|exact .inl rfl|exact .inr (Nat.le_refl _)|exact .inr (by simp<;>omega))| (with_reducible refine Ah ?_ (by assumption))| (with_reducible refine Aa ?_ (by assumption))))⟩
 have c2:(vk==2)=false:=by simpa using h2k
 by_cases h3:vk=3
 ·subst h3;by_cases ha:0≤vn
  ·have haI:decide ((0:Int)≤vn)=true:=by simpa using ha
   by_cases hb:vn≤3652059
   ·have hbI:decide (vn≤3652059)=true:=by simpa using hb
    by_cases hs:vs=[]
    ·have HF:=O (show A4 (HdV 3 vn vs)=true by simp[A4,HdV,hs,h2',ha,hb]);clear hl;have hsI:(vs==[])=true:=by simpa using hs
     have hsI2:(vs !=[])=false:=by simpa using hs
     go_enter func130,ntmps130;go_wp2;go_ret;exact⟨⟨0,rfl,by rw[HF.out];rfl⟩,(by repeat(first| (with_reducible exact Ac _ _)| (with_reducible assumption)| (with_reducible exact AU (by assumption))| (with_reducible refine Ad ?_ _)| (with_reducible refine Am ?_)| (with_reducible refine A3 ?_ _)| ((with_reducible refine Ay ?_ _ _ ?h2);case h2=>first|exact .inl rfl|exact .inr (Nat.le_refl _)|exact .inr (by simp<;>omega))| (with_reducible refine Ah ?_ (by assumption))| (with_reducible refine Aa ?_ (by assumption))))⟩
    ·have HF:=O (show A4 (HdV 3 vn vs)=false by simp[A4,HdV,hs,h2',ha,hb]);clear hl;have hsI:(vs==[])=false:=by simpa using hs
     have hsI2:(vs !=[])=true:=by simpa using hs
     go_enter func130,ntmps130;go_wp2;go_ret;exact⟨⟨1,rfl,by rw[HF.out];rfl⟩,(by repeat(first| (with_reducible exact Ac _ _)| (with_reducible assumption)| (with_reducible exact AU (by assumption))| (with_reducible refine Ad ?_ _)| (with_reducible refine Am ?_)| (with_reducible refine A3 ?_ _)| ((with_reducible refine Ay ?_ _ _ ?h2);case h2=>first|exact .inl rfl|exact .inr (Nat.le_refl _)|exact .inr (by simp<;>omega))| (with_reducible refine Ah ?_ (by assumption))| (with_reducible refine Aa ?_ (by assumption))))⟩
   ·have hbI:decide (vn≤3652059)=false:=by simpa using hb
    have HF:=O (show A4 (HdV 3 vn vs)=false by simp[A4,HdV,hb]);clear hl;go_enter func130,ntmps130;go_wp2;go_ret;exact⟨⟨1,rfl,by rw[HF.out];rfl⟩,(by repeat(first| (with_reducible exact Ac _ _)| (with_reducible assumption)| (with_reducible exact AU (by assumption))| (with_reducible refine Ad ?_ _)| (with_reducible refine Am ?_)| (with_reducible refine A3 ?_ _)| ((with_reducible refine Ay ?_ _ _ ?h2);case h2=>first|exact .inl rfl|exact .inr (Nat.le_refl _)|exact .inr (by simp<;>omega))| (with_reducible refine Ah ?_ (by assumption))| (with_reducible refine Aa ?_ (by assumption))))⟩
  ·have haI:decide ((0:Int)≤vn)=false:=by simpa using ha
   have HF:=O (show A4 (HdV 3 vn vs)=false by simp[A4,HdV,ha]);clear hl;go_enter func130,ntmps130;go_wp2;go_ret;exact⟨⟨1,rfl,by rw[HF.out];rfl⟩,(by repeat(first| (with_reducible exact Ac _ _)| (with_reducible assumption)| (with_reducible exact AU (by assumption))| (with_reducible refine Ad ?_ _)| (with_reducible refine Am ?_)| (with_reducible refine A3 ?_ _)| ((with_reducible refine Ay ?_ _ _ ?h2);case h2=>first|exact .inl rfl|exact .inr (Nat.le_refl _)|exact .inr (by simp<;>omega))| (with_reducible refine Ah ?_ (by assumption))| (with_reducible refine Aa ?_ (by assumption))))⟩
 have c3:(vk==3)=false:=by simpa using h3
 by_cases h4:vk=4
 ·subst h4;by_cases hn:vn=0
  ·subst hn;have HF:=O (show A4 (HdV 4 0 vs)=true by simp[A4,HdV,h2']);clear hl;go_enter func130,ntmps130;go_wp2;go_ret;exact⟨⟨0,rfl,by rw[HF.out];rfl⟩,(by repeat(first| (with_reducible exact Ac _ _)| (with_reducible assumption)| (with_reducible exact AU (by assumption))| (with_reducible refine Ad ?_ _)| (with_reducible refine Am ?_)| (with_reducible refine A3 ?_ _)| ((with_reducible refine Ay ?_ _ _ ?h2);case h2=>first|exact .inl rfl|exact .inr (Nat.le_refl _)|exact .inr (by simp<;>omega))| (with_reducible refine Ah ?_ (by assumption))| (with_reducible refine Aa ?_ (by assumption))))⟩
  ·have hnI:(vn==0)=false:=by simpa using hn
   have HF:=O (show A4 (HdV 4 vn vs)=false by simp[A4,HdV,hn]);clear hl;go_enter func130,ntmps130;go_wp2;go_ret;exact⟨⟨1,rfl,by rw[HF.out];rfl⟩,(by repeat(first| (with_reducible exact Ac _ _)| (with_reducible assumption)| (with_reducible exact AU (by assumption))| (with_reducible refine Ad ?_ _)| (with_reducible refine Am ?_)| (with_reducible refine A3 ?_ _)| ((with_reducible refine Ay ?_ _ _ ?h2);case h2=>first|exact .inl rfl|exact .inr (Nat.le_refl _)|exact .inr (by simp<;>omega))| (with_reducible refine Ah ?_ (by assumption))| (with_reducible refine Aa ?_ (by assumption))))⟩
 have c4:(vk==4)=false:=by simpa using h4
 have HF:=O (show A4 (HdV vk vn vs)=false by simp[A4,HdV,h0,h1,h2k,h3,h4]);clear hl;go_enter func130,ntmps130;go_wp2;go_ret;exact⟨⟨1,rfl,by rw[HF.out];rfl⟩,(by repeat(first| (with_reducible exact Ac _ _)| (with_reducible assumption)| (with_reducible exact AU (by assumption))| (with_reducible refine Ad ?_ _)| (with_reducible refine Am ?_)| (with_reducible refine A3 ?_ _)| ((with_reducible refine Ay ?_ _ _ ?h2);case h2=>first|exact .inl rfl|exact .inr (Nat.le_refl _)|exact .inr (by simp<;>omega))| (with_reducible refine Ah ?_ (by assumption))| (with_reducible refine Aa ?_ (by assumption))))⟩
end
structure WK(w w':World)(b:Nat)(ov ov':Value):Prop where
 os:w'.os=w.os
 tape:w'.tape=w.tape
 output:w'.output=w.output
 size:w.heap.size≤w'.heap.size
 block:∀k,k<w.heap.size→k≠b→ov.ownBlock≠some k→w'.heap[k]? =w.heap[k]?
 own:∀k,ov'.ownBlock=some k→ov.ownBlock=some k∨w.heap.size≤k
section
variable {w w1 w2:World}{b:Nat}{ov ov1 ov2:Value}
theorem WK.refl:WK w w b ov ov:=⟨rfl,rfl,rfl,Nat.le_refl _,fun _ _ _ _=>rfl,fun _ h=> .inl h⟩
theorem WK.trans(h:WK w w1 b ov ov1)(k:WK w1 w2 b ov1 ov2):WK w w2 b ov ov2:=
 ⟨k.os.trans h.os,k.tape.trans h.tape,k.output.trans h.output,Nat.le_trans h.size k.size,fun i hi h1 h2=>(k.block i (Nat.lt_of_lt_of_le hi h.size) h1 (fun e=>by
  rcases h.own i e with h3|h3
  ·exact h2 h3
  ·omega)).trans (h.block i hi h1 h2),fun i hi=>by
  rcases k.own i hi with h3|h3
  ·exact h.own i h3
  ·exact .inr (Nat.le_trans h.size h3)⟩
theorem WK.of_none(g:w.grownBy w1 none):WK w w1 b ov ov:=⟨g.os,g.tape,g.output,g.size,fun i hi _ _=>g.block i hi (by simp),fun _ h=> .inl h⟩
theorem WK.of_b(g:w.grownBy w1 (some b)):WK w w1 b ov ov:=⟨g.os,g.tape,g.output,g.size,fun i hi h _=>g.block i hi (by simpa using h),fun _ h=> .inl h⟩
theorem WK.of_own(g:w.grownBy w1 ov.ownBlock)(hn:∀k,ov1.ownBlock=some k→ov.ownBlock=some k∨w.heap.size≤k):WK w w1 b ov ov1:=⟨g.os,g.tape,g.output,g.size,fun i hi _ h=>g.block i hi (fun e=>h e.symm),hn⟩
theorem WK.gbN(h:WK w w1 b ov ov1)(g:w1.grownBy w2 none):WK w w2 b ov ov1:=h.trans (WK.of_none g)
theorem WK.gbB(h:WK w w1 b ov ov1)(g:w1.grownBy w2 (some b)):WK w w2 b ov ov1:=h.trans (WK.of_b g)
theorem WK.pre(g:w.grownBy w1 none)(h:WK w1 w2 b ov ov1):WK w w2 b ov ov1:=(WK.of_none g).trans h
theorem WK.blk(h:WK w w1 b ov ov1){k:Nat}{cs:List Value}{t:TypeId}(hb:Blk w k cs t)(h1:k≠b)(h2:ov.ownBlock≠some k):Blk w1 k cs t:=(h.block k hb.lt h1 h2).trans hb
theorem WK.cell(h:WK w w1 b ov ov1){k i:Nat}{v:Value}(c:w.cell? ⟨k,i,none⟩=some v)(h1:k≠b)(h2:ov.ownBlock≠some k):w1.cell? ⟨k,i,none⟩=some v:=by
 have hl:=World.block_lt_of_cell? _ _ c;unfold World.cell? at*;rw[h.block k hl h1 h2];exact c
theorem WK.gb_of(h:WK w w1 b ov ov1){w0:World}(g:w0.grownBy w none)(hb:w0.heap.size≤b)(ho:∀k,ov.ownBlock=some k→w0.heap.size≤k):w0.grownBy w1 none:=
 ⟨h.os.trans g.os,h.tape.trans g.tape,h.output.trans g.output,Nat.le_trans g.size h.size,fun i hi _=>(h.block i (Nat.lt_of_lt_of_le hi g.size) (by omega) (fun e=>by have:=ho i e;omega)).trans (g.block i hi (by simp))⟩
end
theorem Cells.kept{w w1:World}{b:Nat}{ov ov1:Value}(h:WK w w1 b ov ov1)(ho:∀k,ov.ownBlock=some k→b<k){v:Value}{size n:Nat}{cs:List Value}(hc:Cells w v size n cs (fun g=>g<b)):Cells w1 v size n cs (fun g=>g<b):=by
 obtain⟨a,cap,e,h1,h2,h3,h4⟩:=hc;refine⟨a,cap,e,h1,h2,h3,fun j u hj=>?_⟩;obtain⟨gg,o,ea,hk,hcc⟩:=h4 j u hj;exact⟨gg,o,ea,hk,h.cell hcc (by omega) (fun e=>by have:=ho _ e;omega)⟩
theorem RepF.kept{w w1:World}{b:Nat}{ov ov1:Value}(h:WK w w1 b ov ov1)(ho:∀k,ov.ownBlock=some k→b<k):∀{f:Fo}{cs:List Value},RepF (fun g=>g<b) w f cs→RepF (fun g=>g<b) w1 f cs:=by
 intro f;induction f with
 |nil=>intro cs h;exact h
 | cons hd kids next ih1 ih2=>
   rintro cs ⟨pv,lv,kcs,rest,e,h1,h2,h3,h4⟩;exact⟨pv,lv,kcs,rest,e,h1.kept h ho,h2.kept h ho,ih1 h3,ih2 h4⟩
theorem RepL.kept{w w1:World}{b:Nat}{ov ov1:Value}(h:WK w w1 b ov ov1)(ho:∀k,ov.ownBlock=some k→b<k){v:Value}{f:Fo}(hr:RepL (fun g=>g<b) w v f):RepL (fun g=>g<b) w1 v f:=by
 obtain⟨cs,h1,h2⟩:=hr;exact⟨cs,h1.kept h ho,h2.kept h ho⟩
structure Ww(w:World)(b:Nat)(out:Bs)(pre:List Tok)(wrong:Bool)(ov:Value):Prop where
 blk:Blk w b [str out,ov,.bool wrong] 81
 row:w.ownsRow (b+1) 105 3 ov pre.length (B8 pre)
section
variable {w w1:World}{b:Nat}{out:Bs}{pre:List Tok}{wrong:Bool}{ov:Value}
theorem Ww.lt(h:Ww w b out pre wrong ov):b<w.heap.size:=h.blk.lt
theorem Ww.own(h:Ww w b out pre wrong ov):∀k,ov.ownBlock=some k→b<k∧k<w.heap.size:=fun k e=>by have:=h.row.lt k e;omega
theorem Ww.gbN(h:Ww w b out pre wrong ov)(g:w.grownBy w1 none):Ww w1 b out pre wrong ov:=⟨h.blk.gb g (by simp),h.row.kept g (by cases ov.ownBlock with|none=>exact .inl rfl|some _=>exact .inr (by simp))⟩
theorem Ww.c0(h:Ww w b out pre wrong ov):w.cell? ⟨b,0,none⟩=some (str out):=h.blk.cell 0
theorem Ww.c1(h:Ww w b out pre wrong ov):w.cell? ⟨b,1,none⟩=some ov:=h.blk.cell 1
theorem Ww.c2(h:Ww w b out pre wrong ov):w.cell? ⟨b,2,none⟩=some (.bool wrong):=h.blk.cell 2
theorem Ww.fr(h:Ww w b out pre wrong ov)(k:Nat):w.frozen? ⟨b,k,none⟩=false:=h.blk.frozen k
theorem JR(h:w.ownsRow (b+1) 105 3 ov pre.length (B8 pre))(g:w.grownBy w1 (some b)):w1.ownsRow (b+1) 105 3 ov pre.length (B8 pre):=
 Cy h g (by intro k hk _ e;cases e;omega)
theorem Ww.setOut(h:Ww w b out pre wrong ov)(s:Bs):Ww (w.setCell ⟨b,0,none⟩ (str s)) b s pre wrong ov:=
 ⟨(h.blk.set 0 _).of_eq rfl rfl,JR h.row (AE (Ac w (some b)) 0 _)⟩
theorem Ww.setWrong(h:Ww w b out pre wrong ov):Ww (w.setCell ⟨b,2,none⟩ (.bool true)) b out pre true ov:=
 ⟨(h.blk.set 2 _).of_eq rfl rfl,JR h.row (AE (Ac w (some b)) 2 _)⟩
theorem Ww.append{t:Tok}{g cap:Nat}(h:Ww w b out pre wrong ov)(hO:w1.ownsRow (b+1) 105 3 (.slice (some ⟨g,0,none⟩) (pre.length+1) cap) (pre.length+1) (B8 pre++C5 t))
 (hG:w.grownBy w1 ov.ownBlock) (hat:ov.ownBlock=some g∨g=w.heap.size):Ww (w1.setCell ⟨b,1,none⟩ (.slice (some ⟨g,0,none⟩) (pre.length+1) cap)) b out (pre++[t]) wrong (.slice (some ⟨g,0,none⟩) (pre.length+1) cap)∧
  WK w (w1.setCell ⟨b,1,none⟩ (.slice (some ⟨g,0,none⟩) (pre.length+1) cap)) b ov (.slice (some ⟨g,0,none⟩) (pre.length+1) cap):=by
 have hne:some b≠ov.ownBlock:=fun e=>by have:=(h.row.lt _ e.symm).1;omega
 have hb:=h.blk.gb hG hne;refine⟨⟨(hb.set 1 _).of_eq rfl rfl,?_⟩,(WK.of_own (ov1:= .slice (some ⟨g,0,none⟩) (pre.length+1) cap) hG ?_).gbB (AE (Ac w1 (some b)) 1 _)⟩
 ·rw[Hh,List.length_append];exact Cy hO (AE (Ac w1 (some b)) 1 _) (by intro q hq _ e;cases e;omega)
 ·intro k hk;simp[Value.ownBlock]at hk;subst hk;rcases hat with h1|h1
  ·exact .inl h1
  ·exact .inr (by omega)
def WPut(w:World)(b:Nat)(out:Bs)(pre:List Tok)(wrong:Bool)(ov:Value)(e:Ending)(w':World):Prop:=
 e= .returned (.tuple #[])∧∃ov',Ww w' b out pre wrong ov'∧WK w w' b ov ov'
theorem CW(h:Ww w b out pre wrong ov)(k:Int)(t sh:Bs)(hc:pre.length≤10000000)(ho:out.length+sh.length≤1000000000000000):
 Calls Tryz.prog 132 #[.pointer (some ⟨b,0,none⟩),.int .i64 k,str t,str sh] w (WPut w b (out++sh) (pre++[⟨k,0,t⟩]) wrong ov):=by
 have hb:=h.lt;obtain⟨i0,hi,hz0,hz1,hz2⟩:=info_parts Jc;have HI:=O (Z hi (Z hz0 (Z hz1 hz2)));have c1:=h.c1;have HH:=O (h.gbN (World.grownBy_alloc w (.cells (C5 ⟨k,0,t⟩).toArray 105 (0,0)) none));have hcl:¬(9223372036854775807<out.length+sh.length):=by omega
 clear hi hz0 hz1 hz2 h;go_enter func132,ntmps132;go_wp2_with (at_builtin;go_loud(refine wpList_append_lies _ rfl _ _ 71 rfl (b+1) 105 i0 _ 3 32 underlying71 HI.out.1 HI.out.2.1 HI.out.2.2.1 HI.out.2.2.2 rfl (by decide) ov pre.length (B8 pre) rfl HH.out.row ⟨w.heap.size,0,none⟩ 1 1 (C5 ⟨k,0,t⟩) rfl rfl (Ce _ _ _) (by simp[C5,Value.oneCell']) (by decide) (by unfold maxLen;omega) (by omega) (by simp;omega) _ rfl ?_;intro g cap w2 hown hgrow hat hlt;(have hX:=HH.out.append hown hgrow hat);(have HX:=O hX);(have hb1:=(HH.out.blk).gb hgrow (fun e=>by have:=(HH.out.row.lt _ e.symm).1;omega));(have f1:=hb1.frozen 1);(have f0:=hb1.frozen 0);(have d0:=hb1.cell 0);(have d1:=hb1.cell 1);(have hl2:=hb1.lt);clear hown hgrow hX hat hb1));go_end0;rw[Ek];exact⟨rfl,_,HX.out.1.setOut (out++sh),(WK.pre (World.grownBy_alloc w _ none) HX.out.2).gbB (AE (Ac _ (some b)) 0 _)⟩
end
def WrOk(m:OW)(pre:List Tok)(out:Bs)(wrong:Bool)(pre':List Tok)(out':Bs)(wrong':Bool):Prop:=match m with
 |some x=>pre'=pre++x.1∧out'=out++x.2∧wrong'=wrong
 |none=>wrong'=true
structure Wr(m:OW)(n k:Nat)(pre:List Tok)(out:Bs)(wrong:Bool)(pre':List Tok)(out':Bs)(wrong':Bool):Prop where
 ok:WrOk m pre out wrong pre' out' wrong'
 np:pre'.length≤pre.length+n
 nk:out'.length≤out.length+k
section
variable {m m2:OW}{n k n2 k2:Nat}{pre pre1 pre2:List Tok}{out out1 out2:Bs}{wrong wrong1 wrong2:Bool}
theorem Wr.nil:Wr (some ([],[])) 0 0 pre out wrong pre out wrong:=⟨⟨by simp,by simp,rfl⟩,Nat.le_refl _,Nat.le_refl _⟩
theorem Wr.cat(h:Wr m n k pre out wrong pre1 out1 wrong1)(h2:Wr m2 n2 k2 pre1 out1 wrong1 pre2 out2 wrong2):Wr (Ax m m2) (n+n2) (k+k2) pre out wrong pre2 out2 wrong2:=by
 have a1:=h.np;have a2:=h.nk;have a3:=h2.np;have a4:=h2.nk;refine⟨?_,by omega,by omega⟩;have o1:=h.ok;have o2:=h2.ok;unfold WrOk at*;cases m with
 | none=>
   cases m2 with
   |none=>exact o2
   |some y=>exact o2.2.2.trans o1
 | some x=>
   cases m2 with
   |none=>exact o2
   | some y=>
     obtain⟨rfl,rfl,rfl⟩:=o1;obtain⟨rfl,rfl,rfl⟩:=o2;exact⟨by simp[List.append_assoc],by simp[List.append_assoc],rfl⟩
theorem Wr.le(h:Wr m n k pre out wrong pre1 out1 wrong1)(hn:n≤n2)(hk:k≤k2):Wr m n2 k2 pre out wrong pre1 out1 wrong1:=⟨h.ok,by have:=h.np;omega,by have:=h.nk;omega⟩
theorem Wr.of_eq(h:Wr m n k pre out wrong pre1 out1 wrong1)(e:m=m2):Wr m2 n k pre out wrong pre1 out1 wrong1:=e ▸ h
theorem Wr.one(t:Tok)(s:Bs):Wr (some ([t],s)) 1 s.length pre out wrong (pre++[t]) (out++s) wrong:=⟨⟨rfl,rfl,rfl⟩,by simp,by simp⟩
theorem Wr.bad(h1:pre1.length≤pre.length+n)(h2:out1.length≤out.length+k):Wr none n k pre out wrong pre1 out1 true:=⟨rfl,h1,h2⟩
end
def WPost(m:OW)(n k:Nat)(w:World)(b:Nat)(out:Bs)(pre:List Tok)(wrong:Bool)(ov:Value)(e:Ending)(w':World):Prop:=
 e= .returned (.tuple #[])∧∃out' pre' wrong' ov',Ww w' b out' pre' wrong' ov'∧WK w w' b ov ov'∧Wr m n k pre out wrong pre' out' wrong'
section
variable {w w1:World}{b:Nat}{out:Bs}{pre:List Tok}{wrong:Bool}{ov:Value}
theorem Bl(h:Ww w b out pre wrong ov)(s:Bs)(hc:pre.length≤10000000)(ho:out.length+s.length≤1000000000000000):
 Calls Tryz.prog 81 #[.pointer (some ⟨b,0,none⟩),str s] w (WPost (sgn s) 1 s.length w b out pre wrong ov):=by
 have H:=O (CW h 4 s s hc ho);clear h;go_enter func81,ntmps81;go_wp2_with fail;refine H.out.mono ?_;rintro e w1 ⟨rfl,ov1,h1,k1⟩;go_wp2;go_end0;exact⟨rfl,_,_,_,_,h1,k1,Wr.one _ _⟩
theorem E3(h:Ww w b out pre wrong ov)(ho:out.length≤1000000000000000):
 Calls Tryz.prog 84 #[.pointer (some ⟨b,0,none⟩)] w (WPost Bc 0 1 w b out pre wrong ov):=by
 have hb:=h.lt;have c0:=h.c0;have f0:=h.fr 0;have hcl:¬(9223372036854775807<out.length+1):=by omega
 have HH:=O h;clear h;go_enter func84,ntmps84;go_wp2;go_end0;rw[show Value.string ({data:=List.toArray out}++{data:=#[32]})=str (out++[32])from Ek out [32]];exact⟨rfl,_,_,_,_,HH.out.setOut (out++[32]),WK.of_b (AE (Ac _ (some b)) 0 _),⟨⟨by simp,rfl,rfl⟩,by simp,by simp⟩⟩
theorem Ds(h:Ww w b out pre wrong ov)(s:Bs)(hs:s.length≤2000000)(hc:pre.length≤10000000)(ho:out.length+s.length≤1000000000000000):
 Calls Tryz.prog 79 #[.pointer (some ⟨b,0,none⟩),str s] w (WPost (nmW s) 1 s.length w b out pre wrong ov):=by
 have hb:=h.lt;have HN:=O (Lq s (by omega) w);have HH:=O h;have HC:=O (Z hc ho);clear h;cases hn:Al s with
 | true=>
   rw[hn]at HN;have HM:=O (show nmW s=some ([wd s],s)by unfold nmW;rw[if_pos hn]);clear hn;go_enter func79,ntmps79;go_wp2_with fail;refine HN.out.mono ?_;rintro e w1 ⟨rfl,g1⟩;go_wp2_with fail;refine(CW (HH.out.gbN g1) 0 s s HC.out.1 HC.out.2).mono ?_;rintro e w2 ⟨rfl,ov2,h2,k2⟩;go_wp2;go_end0;exact⟨rfl,_,_,_,_,h2,k2.pre g1,(Wr.one _ _).of_eq HM.out.symm⟩
 | false=>
   rw[hn]at HN;have HM:=O (show nmW s=none by unfold nmW;rw[if_neg (by rw[hn];simp)]);clear hn;go_enter func79,ntmps79;go_wp2_with fail;refine HN.out.mono ?_;rintro e w1 ⟨rfl,g1⟩;have h1:=HH.out.gbN g1;have c2:=h1.c2;have f2:=h1.fr 2;have hb1:=h1.lt;go_wp2_with fail;refine(CW h1.setWrong 0 s s HC.out.1 HC.out.2).mono ?_;rintro e w2 ⟨rfl,ov2,h2,k2⟩;go_wp2;go_end0;refine⟨rfl,_,_,_,_,h2,((WK.of_none g1).gbB (AE (Ac _ (some b)) 2 _)).trans k2,?_⟩;rw[HM.out];exact Wr.bad (by simp) (by simp)
theorem D7(g:Nat):Calls Tryz.prog 80 #[.pointer (some ⟨b,0,none⟩),.int .i64 g,.int .i64 g] w fun e w'=>e= .returned (.bool true)∧w'=w:=by
 have e1:((g:Int)==(g:Int))=true:=by simp
 have e2:((g:Int) !=(g:Int))=false:=by simp
 go_enter func80,ntmps80;go_wp2;go_ret;exact⟨rfl,rfl⟩
theorem EI(h:Ww w b out pre wrong ov)(g:Nat)(t:Int)(he:(g:Int)≠t):
 Calls Tryz.prog 80 #[.pointer (some ⟨b,0,none⟩),.int .i64 g,.int .i64 t] w fun e w'=>e= .returned (.bool false)∧Ww w' b out pre true ov∧WK w w' b ov ov:=by
 have hb:=h.lt;have c2:=h.c2;have f2:=h.fr 2;have HH:=O h;clear h;have e1:((g:Int)==t)=false:=by simpa using he
 have e2:((g:Int) !=t)=true:=by simpa using he
 clear he;go_enter func80,ntmps80;go_wp2;go_ret;exact⟨rfl,HH.out.setWrong,WK.of_b (AE (Ac _ (some b)) 2 _)⟩
def Ci(i:Nat):OW:=if 0<i then catL [sgn [44],Bc]else some ([],[])
theorem Im(h:Ww w b out pre wrong ov)(i:Nat)(hc:pre.length≤10000000)(ho:out.length≤900000000000000):
 Calls Tryz.prog 136 #[.pointer (some ⟨b,0,none⟩),.int .i64 i] w (WPost (Ci i) 1 2 w b out pre wrong ov):=by
 have HH:=O h;have HC:=O (Z hc ho);clear h;by_cases hi:0<i
 ·have hI:decide ((0:Int)<(i:Int))=true:=by simp;omega
  have HM:=O (show Ci i=catL [sgn [44],Bc]by unfold Ci;rw[if_pos hi]);go_enter func136,ntmps136;go_wp2_with fail;refine(Bl HH.out [44] HC.out.1 (by have:=HC.out.2;simp;omega)).mono ?_;rintro e w1 ⟨rfl,o1,p1,r1,ov1,h1,k1,q1⟩;go_wp2_with fail;refine(E3 h1 (by have:=HC.out.2;have:=q1.nk;simp at this;omega)).mono ?_;rintro e w2 ⟨rfl,o2,p2,r2,ov2,h2,k2,q2⟩;go_wp2;go_end0;refine⟨rfl,_,_,_,_,h2,k1.trans k2,?_⟩;rw[HM.out];exact(q1.cat (q2.cat Wr.nil)).le (by simp) (by simp)
 ·have hI:decide ((0:Int)<(i:Int))=false:=by simp;omega
  have HM:=O (show Ci i=some ([],[])by unfold Ci;rw[if_neg hi]);go_enter func136,ntmps136;go_wp2;go_end0;refine⟨rfl,_,_,_,_,HH.out,WK.refl,?_⟩;rw[HM.out];exact Wr.nil.le (by omega) (by omega)
end
end Go.Proofs.YtgjdhajcnechdaaGreatDoor
