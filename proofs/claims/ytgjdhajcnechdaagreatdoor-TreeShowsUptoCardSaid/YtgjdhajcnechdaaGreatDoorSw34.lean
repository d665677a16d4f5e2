/-
  The text of a constant. The reference: Padded, Split, Stamp; Validate of a value.
-/
import Derived.Test.YtgjdhajcnechdaaGreatDoorSw19
import Derived.Test.YtgjdhajcnechdaaGreatDoorSw26
import Derived.Test.YtgjdhajcnechdaaGreatDoorSw30
import Derived.Test.YtgjdhajcnechdaaGreatDoorSw15
import Derived.Lib.ItoaMem
set_option linter.all false
set_option maxRecDepth 100000
set_option maxHeartbeats 8000000
namespace Go.Proofs.YtgjdhajcnechdaaGreatDoor
open Go.Proofs.Tryz
open Go.RowKit Go.Lib Go.Sort
theorem Oq(n:Int)(h0:0<n)(h1:n≤3652059)(w:World):Calls Tryz.prog 148 #[.int .i64 n] w fun e w'=>e= .returned (str (B6 n))∧w.grownBy w' none:=by
 have H:=O (PV n h0 h1 w);clear h0 h1;go_enter func148,ntmps148;go_wp2_with fail;refine H.out.mono ?_;rintro e w1 ⟨⟨y,m,q,rfl,a1,a2,a3,a4,a5,a6,a7⟩,g1⟩;have hq31:=(ET (y:=y) (m:=m) (by omega) (by omega)).2;have HD:=O (show B6 n=AE 4 y++AE 2 m++AE 2 q by unfold B6;rw[Jh a1 a2 a3 a4 a5 a6 a7]);have hn:∀k u:Nat,1≤k→u<10 ^ k→(decDigits u).length≤k:=fun k u hk hu=>by rw[decDigits_length];exact F1 k hk hu
 have l1:=C7 (k:=4) (u:=y) (by omega) (by omega);have l2:=C7 (k:=2) (u:=m) (by omega) (by omega);have l3:=C7 (k:=2) (u:=q) (by omega) (by omega);have H1:=O (fun W=>Gw y 4 (by omega) (hn 4 y (by omega) (by omega)) (by omega) W);have H2:=O (fun W=>Gw m 2 (by omega) (hn 2 m (by omega) (by omega)) (by omega) W);have H3:=O (fun W=>Gw q 2 (by omega) (hn 2 q (by omega) (by omega)) (by omega) W);change Hid (∀W,Calls _ _ _ W fun e w'=>e= .returned (str (AE 4 y))∧W.grownBy w' none)at H1;change Hid (∀W,Calls _ _ _ W fun e w'=>e= .returned (str (AE 2 m))∧W.grownBy w' none)at H2;change Hid (∀W,Calls _ _ _ W fun e w'=>e= .returned (str (AE 2 q))∧W.grownBy w' none)at H3;generalize AE 4 y=s1 at*;generalize AE 2 m=s2 at*;generalize AE 2 q=s3 at*;have hc1:¬(9223372036854775807<s1.length+s2.length):=by omega
 have hc2:¬(9223372036854775807<s1.length+s2.length+s3.length):=by omega
 have hc3:¬(9223372036854775807<(s1++s2).length+s3.length):=by rw[List.length_append];omega
 clear a1 a2 a3 a4 a5 a6 a7 hn hq31;go_wp2_with fail;refine(H1.out _).mono ?_;rintro e w2 ⟨rfl,g2⟩;go_wp2_with fail;refine(H2.out _).mono ?_;rintro e w3 ⟨rfl,g3⟩;go_wp2_with fail;refine(H3.out _).mono ?_;rintro e w4 ⟨rfl,g4⟩;have HG:=O (Aa (Aa (Aa g1 g2) g3) g4);clear g1 g2 g3 g4;go_wp2;go_ret;refine⟨?_,HG.out⟩;rw[HD.out,←Dh,←ByteArray.mk_append_mk];rfl
theorem PX(n:Int)(h0:0<n)(h1:n≤3652059)(w:World):Calls Tryz.prog 97 #[.int .i64 n] w fun e w'=>e= .returned (.tuple #[str (B6 n),.int .i64 0])∧w.grownBy w' none:=by
 have H:=O (fun W=>Oq n h0 h1 W);have HD:=O (Jq n h0 h1 w);have hz:(n==0)=false:=by simp;omega
 go_enter func97,ntmps97;go_wp2_with fail;refine HD.out.mono ?_;rintro e w1 ⟨rfl,rfl⟩;go_wp2_with fail;refine(H.out _).mono ?_;rintro e w2 ⟨rfl,g2⟩;go_wp2;exact bodyPost_ret (v:= .tuple #[str (B6 n),.int .i64 0]) (by simp[results,results97,go_sem]) rfl ⟨rfl,g2⟩
def Pow (w : World) : Prop := Lib.TabIs Tryz.prog w "internal/strconv.uint64pow10" .u64 Lib.pow10Tab
theorem Ki : Tryz.prog.globalNamed "internal/strconv.uint64pow10" = some 3 := by kernel_rfl
theorem Pow.gb{w w1:World}(h:Pow w)(g:w.grownBy w1 none):Pow w1:=by
 unfold Pow Lib.TabIs World.var? at*;simp only[Ki,Option.bind_some]at h ⊢;have hlt:3<w.heap.size:=by
  rcases Nat.lt_or_ge 3 w.heap.size with h' |h'
  ·exact h'
  ·rw[Array.getElem?_eq_none h']at h;simp at h
 rw[g.block _ hlt (by simp)];exact h
theorem Rv(w:World)(k:Nat)(os:Array Obj):w.grownBy (grow (w.drewN k) os) none:=by
 refine⟨rfl,rfl,rfl,by simp,fun i hi _=>?_⟩;rw[heap_grow_old _ _ (by simpa using hi)];rfl
theorem GA(s:Bs)(c:UInt8):decide (0≤Lib.indexByte s c)=s.contains c:=by
 induction s with
 |nil=>rfl
 | cons b s ih=>
   rw[List.contains_cons,←ih];have:=indexByte_ge s c;show decide (0≤(if b==c then(0:Int)else if Lib.indexByte s c == -1 then -1 else Lib.indexByte s c+1))=_;by_cases h:b=c
   ·subst h;simp
   ·rw[if_neg (by simpa using h),show(c==b)=false by simpa using fun e=>h e.symm,Bool.false_or,decide_eq_decide];split
    ·rename_i h2;have h3:Lib.indexByte s c= -1:=by simpa using h2
     rw[h3]
    ·rename_i h2;have h3:Lib.indexByte s c ≠ -1:=by simpa using h2
     omega
theorem BI{b:ByteArray}{s:Bs}(h:b.data.toList=s):Value.string b=str s:=by subst h;rfl
section
variable {w:World}{vk vn:Int}{vs:Bs}
def HdV(vk vn:Int)(vs:Bs):Hd:=⟨0,[],vk,vn,vs,[]⟩
theorem Ly(hp:Pow w)(hc:A2 (HdV vk vn vs)=true)(hl:vs.length≤2000000):
 Calls Tryz.prog 58 #[.agg #[.int .i64 vk,.int .i64 vn,str vs]] w fun e w'=>e= .returned (str (Eb wdM (HdV vk vn vs)))∧w.grownBy w' none:=by
 unfold A2 HdV at hc;unfold Eb HdV;simp only at hc ⊢;by_cases h1:vk=1
 ·subst h1;rw[if_neg (by omega),if_pos rfl]at hc;rw[if_pos rfl];simp at hc;rcases hc.1 with rfl|rfl
  ·rw[if_pos rfl];clear hc;go_enter func58,ntmps58;go_wp2;go_ret;exact⟨rfl,(by repeat(first| (with_reducible exact Ac _ _)| (with_reducible assumption)| (with_reducible exact AX (by assumption))| (with_reducible refine Ad ?_ _)| (with_reducible refine Am ?_)| (with_reducible refine Ay ?_ _)| ((with_reducible refine Az ?_ _ _ ?h2);case h2=>first|exact .inl rfl|exact .inr (Nat.le_refl _)|exact .inr (by simp<;>omega))| (with_reducible refine Ag ?_ (by assumption))| (with_reducible refine Aa ?_ (by assumption))))⟩
  ·rw[if_neg (by omega)];clear hc;go_enter func58,ntmps58;go_wp2;go_ret;exact⟨rfl,(by repeat(first| (with_reducible exact Ac _ _)| (with_reducible assumption)| (with_reducible exact AX (by assumption))| (with_reducible refine Ad ?_ _)| (with_reducible refine Am ?_)| (with_reducible refine Ay ?_ _)| ((with_reducible refine Az ?_ _ _ ?h2);case h2=>first|exact .inl rfl|exact .inr (Nat.le_refl _)|exact .inr (by simp<;>omega))| (with_reducible refine Ag ?_ (by assumption))| (with_reducible refine Aa ?_ (by assumption))))⟩
 have c1:(vk==1)=false:=by simpa using h1
 rw[if_neg h1];by_cases h2:vk=2
 ·subst h2;rw[if_neg (by omega),if_neg h1,if_pos rfl]at hc;rw[if_pos rfl];simp at hc;have H:=O (fun(W:World)(g:w.grownBy W none)=>strconv_Itoa vn (by omega) (by omega) W (hp.gb g));show Calls _ _ _ _ fun e w'=>e= .returned (str (itoa vn))∧_;clear hc hp h1;go_enter func58,ntmps58;go_wp2_with fail;refine(H.out _ ?gg).mono ?_
  case gg=>exact (by repeat(first| (with_reducible exact Ac _ _)| (with_reducible assumption)| (with_reducible exact AX (by assumption))| (with_reducible refine Ad ?_ _)| (with_reducible refine Am ?_)| (with_reducible refine Ay ?_ _)| ((with_reducible refine Az ?_ _ _ ?h2);case h2=>first|exact .inl rfl|exact .inr (Nat.le_refl _)|exact .inr (by simp<;>omega))| (with_reducible refine Ag ?_ (by assumption))| (with_reducible refine Aa ?_ (by assumption))))
  rintro e w1 ⟨rfl,k,os,hw1⟩;have g1:=Rv (w.alloc (.cells #[.int .i64 2,.int .i64 vn,str vs] 23 (0,0))) k os;rw[←hw1]at g1;have HG:=O (Aa (World.grownBy_alloc w (.cells #[.int .i64 2,.int .i64 vn,str vs] 23 (0,0)) none) g1);clear hw1 g1;go_wp2;go_ret;exact⟨rfl,HG.out⟩
 have c2:(vk==2)=false:=by simpa using h2
 rw[if_neg h2];by_cases h3:vk=3
 ·subst h3;rw[if_neg (by omega),if_neg h1,if_neg h2,if_pos rfl]at hc;rw[if_pos rfl];simp at hc;by_cases hz:vn=0
  ·subst hz;rw[if_pos rfl];clear hc h1 h2;go_enter func58,ntmps58;go_wp2;go_ret;exact⟨rfl,(by repeat(first| (with_reducible exact Ac _ _)| (with_reducible assumption)| (with_reducible exact AX (by assumption))| (with_reducible refine Ad ?_ _)| (with_reducible refine Am ?_)| (with_reducible refine Ay ?_ _)| ((with_reducible refine Az ?_ _ _ ?h2);case h2=>first|exact .inl rfl|exact .inr (Nat.le_refl _)|exact .inr (by simp<;>omega))| (with_reducible refine Ag ?_ (by assumption))| (with_reducible refine Aa ?_ (by assumption))))⟩
  ·rw[if_neg hz];have hzI:(vn==0)=false:=by simpa using hz
   have H:=O (fun W=>PX vn (by omega) (by omega) W);have hl8:=FJ (n:=vn) (by omega) (by omega);show Calls _ _ _ _ fun e w'=>e= .returned (str (CZ (B6 vn)))∧_;generalize B6 vn=s at*;match s,hl8 with
   | [a0,a1,a2,a3,a4,a5,a6,a7],_=>
     clear hc hz h1 h2 hp;go_enter func58,ntmps58;go_wp2_with fail;refine(H.out _).mono ?_;rintro e w1 ⟨rfl,g1⟩;have HG:=O (Aa (World.grownBy_alloc w (.cells #[.int .i64 3,.int .i64 vn,str vs] 23 (0,0)) none) g1);clear g1;go_wp2_with fail;go_quiet(fail);go_wp2;go_ret;exact⟨congrArg Ending.returned (BI (by rfl)),Ay HG.out _⟩
 have c3:(vk==3)=false:=by simpa using h3
 rw[if_neg h3];by_cases h4:vk=4
 ·subst h4;rw[if_pos rfl];have H:=O (fun W=>strings_Contains_one ⟨vs.toArray⟩ 34 W);have hix:=GA vs 34;have hcl1:¬(9223372036854775807<1+vs.length):=by omega
  have hcl2:¬(9223372036854775807<1+vs.length+1):=by omega
  clear hc h1 h2 h3 hp;cases hb:vs.contains 34 with
  | true=>
    rw[if_pos rfl];have HB:=O (hix.trans hb);clear hix hb;go_enter func58,ntmps58;go_wp2_with fail;refine(H.out _).mono ?_;rintro e w1 ⟨rfl,rfl⟩;rw[HB.out];go_wp2;go_ret;exact⟨congrArg Ending.returned (BI (by simp[ByteArray.data_append])),(by repeat(first| (with_reducible exact Ac _ _)| (with_reducible assumption)| (with_reducible exact AX (by assumption))| (with_reducible refine Ad ?_ _)| (with_reducible refine Am ?_)| (with_reducible refine Ay ?_ _)| ((with_reducible refine Az ?_ _ _ ?h2);case h2=>first|exact .inl rfl|exact .inr (Nat.le_refl _)|exact .inr (by simp<;>omega))| (with_reducible refine Ag ?_ (by assumption))| (with_reducible refine Aa ?_ (by assumption))))⟩
  | false=>
    rw[if_neg (by simp)];have HB:=O (hix.trans hb);clear hix hb;go_enter func58,ntmps58;go_wp2_with fail;refine(H.out _).mono ?_;rintro e w1 ⟨rfl,rfl⟩;rw[HB.out];go_wp2;go_ret;exact⟨congrArg Ending.returned (BI (by simp[ByteArray.data_append])),(by repeat(first| (with_reducible exact Ac _ _)| (with_reducible assumption)| (with_reducible exact AX (by assumption))| (with_reducible refine Ad ?_ _)| (with_reducible refine Am ?_)| (with_reducible refine Ay ?_ _)| ((with_reducible refine Az ?_ _ _ ?h2);case h2=>first|exact .inl rfl|exact .inr (Nat.le_refl _)|exact .inr (by simp<;>omega))| (with_reducible refine Ag ?_ (by assumption))| (with_reducible refine Aa ?_ (by assumption))))⟩
 have c4:(vk==4)=false:=by simpa using h4
 rw[if_neg h4];clear hc h1 h2 h3 h4 hp;go_enter func58,ntmps58;go_wp2;go_ret;exact⟨rfl,(by repeat(first| (with_reducible exact Ac _ _)| (with_reducible assumption)| (with_reducible exact AX (by assumption))| (with_reducible refine Ad ?_ _)| (with_reducible refine Am ?_)| (with_reducible refine Ay ?_ _)| ((with_reducible refine Az ?_ _ _ ?h2);case h2=>first|exact .inl rfl|exact .inr (Nat.le_refl _)|exact .inr (by simp<;>omega))| (with_reducible refine Ag ?_ (by assumption))| (with_reducible refine Aa ?_ (by assumption))))⟩
end
theorem Ge(u k:Nat)(hu:u≤9999)(hl:(decDigits u).length≤k)(hk:k≤4)(w:World):Calls Tryz.prog 175 #[.int .i64 u,.int .i64 k] w fun e w'=>e= .returned (str (AE k u))∧w.grownBy w' none:=by
 have H:=O (Gj (u+1) u (Nat.lt_succ_self _) (by omega) w);have HP:=O (show AE k u=List.replicate (k-(decDigits u).length) 48++decDigits u from rfl);generalize decDigits u=ds at*;go_enter func175,ntmps175;go_wp2_with fail;refine H.out.mono ?_;rintro e w1 ⟨rfl,g1⟩;have HG:=O g1;clear g1;go_wp2_with fail;go_loopg [5] (k-ds.length) (fun g v5 wr=>∃z:Bs,v5= .string ⟨z.toArray⟩∧z.length+g=k∧List.replicate g 48++z=AE k u∧wr=w1)
 case atStart=>exact⟨ds,rfl,by omega,HP.out.symm,rfl⟩
 case round=>
  obtain⟨z,rfl,hz,hr,rfl⟩:=hrel;cases gk with
  | zero=>
    have hI:decide ((z.length:Int)<(k:Int))=false:=by simp;omega
    have hI2:decide (z.length<k)=false:=by simp;omega
    have HZ:=O (show z=AE k u from hr);clear hr;go_wp2;go_ret;exact⟨by rw[←HZ.out];rfl,HG.out⟩
  | succ g=>
    have hI:decide ((z.length:Int)<(k:Int))=true:=by simp;omega
    have hI2:decide (z.length<k)=true:=by simp;omega
    have hcl:¬(9223372036854775807<1+z.length):=by omega
    have HZ:=O (show List.replicate g 48++([48]++z)=AE k u by rw[←hr,←List.append_assoc,←List.replicate_succ']);clear hr;go_wp2;go_roundg g
    case measure=>omega
    case rel=>exact⟨[48]++z,Dh [48] z,by simp only[List.length_append,List.length_cons,List.length_nil];omega,HZ.out,rfl⟩
theorem Gr{y:Int}{m:Nat}(h0:1≤y)(h1:y≤9999)(hm:1≤m)(hm2:m≤12):AM y m 1=(Ai y+1+Aj y (m-1),0):=by
 have:=(ET (y:=y) (m:=m) (by omega) (by omega)).1;unfold AM;rw[if_neg (by simp[Cm];omega)];rw[show((m:Int)-1).toNat=m-1 by omega]
theorem MY(n:Int)(h0:0<n)(h1:n≤3652059)(w:World):Calls Tryz.prog 174 #[.int .i64 n] w fun e w'=>
 (∃y m q:Nat,e= .returned (.tuple #[.int .i64 y,.int .i64 m,.int .i64 q,.int .i64 0])∧1≤y∧y≤9999∧1≤m∧m≤12∧1≤q∧(q:Int)≤AK y m∧Ai y+Aj y (m-1)+q=n)∧w'=w:=by
 have hz:(n==0)=false:=by simp;omega
 have hn0:decide (n<0)=false:=by simp;omega
 have hnb:decide ((3652059:Int)<n)=false:=by simp;omega
 have HN:=O (Z h0 h1);go_enter func174,ntmps174;go_wp2_with fail;go_loopg [6,7] 9999 (fun g v6 v7 wr=>∃lo hi:Int,v6= .int .i64 lo∧v7= .int .i64 hi∧1≤lo∧lo≤hi∧hi≤9999∧hi-lo≤g∧Ai lo<n∧n≤Ai (hi+1)∧wr=w)
 case atStart=>exact⟨1,9999,rfl,rfl,by omega,by omega,by omega,by omega,by rw[NI];exact HN.out.1,by rw[show(9999:Int)+1=10000 from rfl,IS];exact HN.out.2,rfl⟩
 case round=>
  obtain⟨lo,hi,rfl,rfl,b1,b2,b3,b4,b5,b6,rfl⟩:=hrel;have HB:=O (Z b5 b6);clear b5 b6;by_cases hlh:lo<hi
  ·have hI:decide (lo<hi)=true:=by simpa using hlh
   obtain⟨mid,hmid,hm1,hm2⟩:∃mid,(lo+hi+1).tdiv 2=mid∧lo+1≤mid∧mid≤hi:=⟨_,rfl,by rw[Int.tdiv_eq_ediv_of_nonneg (by omega)];omega,by rw[Int.tdiv_eq_ediv_of_nonneg (by omega)];omega⟩;have hmid2:(lo+hi+1)/2=mid:=by rw[←hmid,Int.tdiv_eq_ediv_of_nonneg (by omega)]
   have HD:=O (fun W=>FH mid 1 1 (by omega) (by omega) (by omega) (by omega) (by omega) (by omega) W);have hdf:=Gr (y:=mid) (m:=1) (by omega) (by omega) (by omega) (by omega);rw[show((1:Nat):Int)=1 from rfl]at hdf;rw[hdf]at HD;have hy:=FK (y:=mid) (by omega) (by omega);simp only[Nat.sub_self,Aj,Int.add_zero]at HD;have HM:=O (show mid-1+1=mid by omega);by_cases hc:Ai mid+1≤n
   ·have hcI:decide (Ai mid+1≤n)=true:=by simpa using hc
    have HC:=O (show Ai mid<n by omega);clear hdf hc;generalize hym:Ai mid=z at*;have HY:=O hym;clear hym;go_wp2_with fail;refine(HD.out _).mono ?_;rintro e w2 ⟨rfl,rfl⟩;go_wp2;go_roundg (gk-1)
    case measure=>omega
    case rel=>exact⟨mid,hi,rfl,rfl,by omega,by omega,by omega,by omega,by rw[HY.out];exact HC.out,HB.out.2,rfl⟩
   ·have hcI:decide (Ai mid+1≤n)=false:=by simpa using hc
    have HC:=O (show n≤Ai mid by omega);clear hdf hc;generalize hym:Ai mid=z at*;have HY:=O hym;clear hym;go_wp2_with fail;refine(HD.out _).mono ?_;rintro e w2 ⟨rfl,rfl⟩;go_wp2;go_roundg (gk-1)
    case measure=>omega
    case rel=>exact⟨lo,mid-1,rfl,by go_num,by omega,by omega,by omega,by omega,HB.out.1,by rw[HM.out,HY.out];exact HC.out,rfl⟩
  ·have hI:decide (lo<hi)=false:=by simpa using hlh
   obtain rfl:lo=hi:=by omega
   clear hlh b2;have hd:=Jz b1 HB.out.2;have HD:=O hd;have hdf12:=Gr (y:=lo) (m:=12) b1 b3 (by omega) (by omega);rw[show((12:Nat):Int)=12 from rfl]at hdf12;have H12:=O (fun W=>FH lo 12 1 (by omega) (by omega) (by omega) (by omega) (by omega) (by omega) W);rw[hdf12]at H12;have hy:=FK (y:=lo) (by omega) (by omega);clear hd hdf12 b4 hI;go_wp2_with fail;refine(H12.out _).mono ?_;rintro e w2 ⟨rfl,rfl⟩;go_wp2_with fail;go_loopg [11,12] 12 (fun g v11 v12 wr=>∃m:Nat,v11= .int .i64 m∧v12= .int .i64 (Ai lo+1+Aj lo (m-1))∧1≤m∧m≤12∧m≤g∧n-Ai lo≤Aj lo m∧wr=w2)
   case atStart=>exact⟨12,rfl,rfl,by omega,by omega,by omega,HD.out,rfl⟩
   case round=>
    obtain⟨m,rfl,rfl,c1,c2,c3,c4,rfl⟩:=hrel;have hbm:=EL lo (m-1) (by omega);have hnx:=Ip lo m c1;have hmb:=ET (y:=lo) (m:=m) (by omega) (by omega);by_cases hc:n<Ai lo+1+Aj lo (m-1)
    ·have hcI:decide (n<Ai lo+1+Aj lo (m-1))=true:=by simpa using hc
     have hm1:m≠1:=by
      rintro rfl;have:=HB.out.1;simp[Aj]at hc;omega
     have H2:=O (fun W=>FH lo ((m-1:Nat):Int) 1 (by omega) (by omega) (by omega) (by omega) (by omega) (by omega) W);rw[Gr b1 b3 (by omega) (by omega)]at H2;have HC:=O (show n-Ai lo≤Aj lo (m-1)by omega);have em:((m-1:Nat):Int)=(m:Int)-1:=by omega
     have hbm2:=EL lo (m-1-1) (by omega);have EM:=O em;rw[em]at H2;clear hnx c4 hc em;generalize hz1:Aj lo (m-1)=z1 at*;generalize hz2:Aj lo (m-1-1)=z2 at*;have HZ:=O hz2;have HZ1:=O hz1;clear hz1 hz2;go_wp2_with fail;refine(H2.out _).mono ?_;rintro e w3 ⟨rfl,rfl⟩;go_wp2;go_roundg (gk-1)
     case measure=>omega
     case rel=>exact⟨m-1,by rw[EM.out],by rw[HZ.out],by omega,by omega,by omega,by rw[HZ1.out];exact HC.out,rfl⟩
    ·have hcI:decide (n<Ai lo+1+Aj lo (m-1))=false:=by simpa using hc
     have HX:=O (show(∃y' m' q':Nat,(lo,(m:Int),n-(Ai lo+1+Aj lo (m-1))+1)=((y':Int),(m':Int),(q':Int))∧1≤y'∧y'≤9999∧1≤m'∧m'≤12∧1≤q'∧(q':Int)≤AK y' m'∧Ai y'+Aj y' (m'-1)+q'=n)by
      obtain⟨y',rfl⟩:∃y':Nat,lo=y':=⟨lo.toNat,by omega⟩;obtain⟨q',hq'⟩:∃q':Nat,n-(Ai y'+1+Aj y' (m-1))+1=q':=⟨(n-(Ai y'+1+Aj y' (m-1))+1).toNat,by omega⟩;exact⟨y',m,q',by rw[hq'],by omega,by omega,c1,c2,by omega,by omega,by omega⟩)
     clear hnx c4 hc;generalize Aj lo (m-1)=z1 at*;generalize Ai lo=z0 at*;go_wp2;obtain⟨y',m',q',e,hh⟩:=HX.out;simp only[Prod.mk.injEq]at e;refine bodyPost_ret (v:= .tuple #[.int .i64 lo,.int .i64 m,.int .i64 (n-(z0+1+z1)+1),.int .i64 0]) (by simp[results,results174,go_sem]) rfl ⟨⟨y',m',q',by rw[←e.1,←e.2.1,←e.2.2],hh⟩,rfl⟩
theorem MZ(n:Int)(h0:0<n)(h1:n≤3652059)(w:World):Calls Tryz.prog 133 #[.int .i64 n] w fun e w'=>e= .returned (.tuple #[str (B6 n),.int .i64 0])∧w.grownBy w' none:=by
 have H:=O (MY n h0 h1 w);have hz:(n==0)=false:=by simp;omega
 clear h0 h1;go_enter func133,ntmps133;go_wp2_with fail;refine H.out.mono ?_;rintro e w1 ⟨⟨y,m,q,rfl,a1,a2,a3,a4,a5,a6,a7⟩,rfl⟩;have hq31:=(ET (y:=y) (m:=m) (by omega) (by omega)).2;have HD:=O (show B6 n=AE 4 y++AE 2 m++AE 2 q by unfold B6;rw[Jh a1 a2 a3 a4 a5 a6 a7]);have hn:∀k u:Nat,1≤k→u<10 ^ k→(decDigits u).length≤k:=fun k u hk hu=>by rw[decDigits_length];exact F1 k hk hu
 have l1:=C7 (k:=4) (u:=y) (by omega) (by omega);have l2:=C7 (k:=2) (u:=m) (by omega) (by omega);have l3:=C7 (k:=2) (u:=q) (by omega) (by omega);have H1:=O (fun W=>Ge y 4 (by omega) (hn 4 y (by omega) (by omega)) (by omega) W);have H2:=O (fun W=>Ge m 2 (by omega) (hn 2 m (by omega) (by omega)) (by omega) W);have H3:=O (fun W=>Ge q 2 (by omega) (hn 2 q (by omega) (by omega)) (by omega) W);generalize AE 4 y=s1 at*;generalize AE 2 m=s2 at*;generalize AE 2 q=s3 at*;have hc1:¬(9223372036854775807<s1.length+s2.length):=by omega
 have hc2:¬(9223372036854775807<s1.length+s2.length+s3.length):=by omega
 have hc3:¬(9223372036854775807<(s1++s2).length+s3.length):=by rw[List.length_append];omega
 clear a1 a2 a3 a4 a5 a6 a7 hn hq31;go_wp2_with fail;refine(H1.out _).mono ?_;rintro e w2 ⟨rfl,g2⟩;go_wp2_with fail;refine(H2.out _).mono ?_;rintro e w3 ⟨rfl,g3⟩;go_wp2_with fail;refine(H3.out _).mono ?_;rintro e w4 ⟨rfl,g4⟩;have HG:=O (Aa (Aa g2 g3) g4);clear g2 g3 g4;go_wp2;refine bodyPost_ret (v:= .tuple #[str (B6 n),.int .i64 0]) ?_ rfl ⟨rfl,HG.out⟩;rw[HD.out,←Dh,←ByteArray.mk_append_mk];simp[results,results133,go_sem]
theorem MW(n:Int)(w:World):Calls Tryz.prog 173 #[.int .i64 n] w fun e w'=>e= .returned (.bool (decide (-1000000000000000≤n)&&decide (n≤1000000000000000)))∧w'=w:=by
 by_cases h: -1000000000000000≤n
 ·have hI:decide (-1000000000000000≤n)=true:=by simpa using h
  go_enter func173,ntmps173;go_wp2;go_ret;exact⟨by first|rfl| (rw[hI];rfl),rfl⟩
 ·have hI:decide (-1000000000000000≤n)=false:=by simpa using h
  go_enter func173,ntmps173;go_wp2;go_ret;exact⟨by first|rfl| (rw[hI];rfl),rfl⟩
theorem Ju{h:Hd}(hv:A1 h=true):h.vs.length≤2048:=by
 unfold A1 at hv;simp only[Bool.and_eq_true,decide_eq_true_eq]at hv;exact hv.1.1
theorem Jv{h:Hd}(hk:h.vk=2)(hv:A1 h=true): -1000000000000000≤h.vn∧h.vn≤1000000000000000:=by
 unfold A1 at hv;rw[if_neg (by omega),if_neg (by omega),if_pos hk]at hv;simp only[Bool.and_eq_true,decide_eq_true_eq]at hv;exact hv.1.2
section
variable {w:World}{vk vn:Int}{vs:Bs}
theorem Is(hl:vs.length≤2000000):
 Calls Tryz.prog 130 #[.agg #[.int .i64 vk,.int .i64 vn,str vs]] w fun e w'=>(∃c:Int,e= .returned (.int .i64 c)∧(c==0)=A1 (HdV vk vn vs))∧w.grownBy w' none:=by
 by_cases h2:2048<vs.length
 ·have h2I:decide ((2048:Int)<(vs.length:Int))=true:=by simp;omega
  have HF:=O (show A1 (HdV vk vn vs)=false from Bool.eq_false_iff.2 (fun h=>by have h3:vs.length≤2048:=Ju h;omega));clear hl;go_enter func130,ntmps130;go_wp2;go_ret;exact⟨⟨3,rfl,by rw[HF.out];rfl⟩,(by repeat(first| (with_reducible exact Ac _ _)| (with_reducible assumption)| (with_reducible exact AX (by assumption))| (with_reducible refine Ad ?_ _)| (with_reducible refine Am ?_)| (with_reducible refine Ay ?_ _)| ((with_reducible refine Az ?_ _ _ ?h2);case h2=>first|exact .inl rfl|exact .inr (Nat.le_refl _)|exact .inr (by simp<;>omega))| (with_reducible refine Ag ?_ (by assumption))| (with_reducible refine Aa ?_ (by assumption))))⟩
 have h2I:decide ((2048:Int)<(vs.length:Int))=false:=by simp;omega
 have h2':vs.length≤2048:=by omega
 by_cases h0:vk=0
 ·subst h0;by_cases hn:vn=0
  ·subst hn;by_cases hs:vs=[]
   ·have HF:=O (show A1 (HdV 0 0 vs)=true by simp[A1,HdV,hs,h2']);clear hl;have hsI:(vs==[])=true:=by simpa using hs
    have hsI2:(vs !=[])=false:=by simpa using hs
    go_enter func130,ntmps130;go_wp2;go_ret;exact⟨⟨0,rfl,by rw[HF.out];rfl⟩,(by repeat(first| (with_reducible exact Ac _ _)| (with_reducible assumption)| (with_reducible exact AX (by assumption))| (with_reducible refine Ad ?_ _)| (with_reducible refine Am ?_)| (with_reducible refine Ay ?_ _)| ((with_reducible refine Az ?_ _ _ ?h2);case h2=>first|exact .inl rfl|exact .inr (Nat.le_refl _)|exact .inr (by simp<;>omega))| (with_reducible refine Ag ?_ (by assumption))| (with_reducible refine Aa ?_ (by assumption))))⟩
   ·have HF:=O (show A1 (HdV 0 0 vs)=false by simp[A1,HdV,hs,h2']);clear hl;have hsI:(vs==[])=false:=by simpa using hs
    have hsI2:(vs !=[])=true:=by simpa using hs
    go_enter func130,ntmps130;go_wp2;go_ret;exact⟨⟨1,rfl,by rw[HF.out];rfl⟩,(by repeat(first| (with_reducible exact Ac _ _)| (with_reducible assumption)| (with_reducible exact AX (by assumption))| (with_reducible refine Ad ?_ _)| (with_reducible refine Am ?_)| (with_reducible refine Ay ?_ _)| ((with_reducible refine Az ?_ _ _ ?h2);case h2=>first|exact .inl rfl|exact .inr (Nat.le_refl _)|exact .inr (by simp<;>omega))| (with_reducible refine Ag ?_ (by assumption))| (with_reducible refine Aa ?_ (by assumption))))⟩
  ·have HF:=O (show A1 (HdV 0 vn vs)=false by simp[A1,HdV,hn]);clear hl;have hnI:(vn==0)=false:=by simpa using hn
   go_enter func130,ntmps130;go_wp2;go_ret;exact⟨⟨1,rfl,by rw[HF.out];rfl⟩,(by repeat(first| (with_reducible exact Ac _ _)| (with_reducible assumption)| (with_reducible exact AX (by assumption))| (with_reducible refine Ad ?_ _)| (with_reducible refine Am ?_)| (with_reducible refine Ay ?_ _)| ((with_reducible refine Az ?_ _ _ ?h2);case h2=>first|exact .inl rfl|exact .inr (Nat.le_refl _)|exact .inr (by simp<;>omega))| (with_reducible refine Ag ?_ (by assumption))| (with_reducible refine Aa ?_ (by assumption))))⟩
 have c0:(vk==0)=false:=by simpa using h0
 by_cases h1:vk=1
 ·subst h1;by_cases hn:vn=0
  ·subst hn;by_cases hs:vs=[]
   ·have HF:=O (show A1 (HdV 1 0 vs)=true by simp[A1,HdV,hs,h2']);clear hl;have hsI:(vs==[])=true:=by simpa using hs
    have hsI2:(vs !=[])=false:=by simpa using hs
    go_enter func130,ntmps130;go_wp2;go_ret;exact⟨⟨0,rfl,by rw[HF.out];rfl⟩,(by repeat(first| (with_reducible exact Ac _ _)| (with_reducible assumption)| (with_reducible exact AX (by assumption))| (with_reducible refine Ad ?_ _)| (with_reducible refine Am ?_)| (with_reducible refine Ay ?_ _)| ((with_reducible refine Az ?_ _ _ ?h2);case h2=>first|exact .inl rfl|exact .inr (Nat.le_refl _)|exact .inr (by simp<;>omega))| (with_reducible refine Ag ?_ (by assumption))| (with_reducible refine Aa ?_ (by assumption))))⟩
   ·have HF:=O (show A1 (HdV 1 0 vs)=false by simp[A1,HdV,hs,h2']);clear hl;have hsI:(vs==[])=false:=by simpa using hs
    have hsI2:(vs !=[])=true:=by simpa using hs
    go_enter func130,ntmps130;go_wp2;go_ret;exact⟨⟨1,rfl,by rw[HF.out];rfl⟩,(by repeat(first| (with_reducible exact Ac _ _)| (with_reducible assumption)| (with_reducible exact AX (by assumption))| (with_reducible refine Ad ?_ _)| (with_reducible refine Am ?_)| (with_reducible refine Ay ?_ _)| ((with_reducible refine Az ?_ _ _ ?h2);case h2=>first|exact .inl rfl|exact .inr (Nat.le_refl _)|exact .inr (by simp<;>omega))| (with_reducible refine Ag ?_ (by assumption))| (with_reducible refine Aa ?_ (by assumption))))⟩
  by_cases hn1:vn=1
  ·subst hn1;by_cases hs:vs=[]
   ·have HF:=O (show A1 (HdV 1 1 vs)=true by simp[A1,HdV,hs,h2']);clear hl;have hsI:(vs==[])=true:=by simpa using hs
    have hsI2:(vs !=[])=false:=by simpa using hs
    go_enter func130,ntmps130;go_wp2;go_ret;exact⟨⟨0,rfl,by rw[HF.out];rfl⟩,(by repeat(first| (with_reducible exact Ac _ _)| (with_reducible assumption)| (with_reducible exact AX (by assumption))| (with_reducible refine Ad ?_ _)| (with_reducible refine Am ?_)| (with_reducible refine Ay ?_ _)| ((with_reducible refine Az ?_ _ _ ?h2);case h2=>first|exact .inl rfl|exact .inr (Nat.le_refl _)|exact .inr (by simp<;>omega))| (with_reducible refine Ag ?_ (by assumption))| (with_reducible refine Aa ?_ (by assumption))))⟩
   ·have HF:=O (show A1 (HdV 1 1 vs)=false by simp[A1,HdV,hs,h2']);clear hl;have hsI:(vs==[])=false:=by simpa using hs
    have hsI2:(vs !=[])=true:=by simpa using hs
    go_enter func130,ntmps130;go_wp2;go_ret;exact⟨⟨1,rfl,by rw[HF.out];rfl⟩,(by repeat(first| (with_reducible exact Ac _ _)| (with_reducible assumption)| (with_reducible exact AX (by assumption))| (with_reducible refine Ad ?_ _)| (with_reducible refine Am ?_)| (with_reducible refine Ay ?_ _)| ((with_reducible refine Az ?_ _ _ ?h2);case h2=>first|exact .inl rfl|exact .inr (Nat.le_refl _)|exact .inr (by simp<;>omega))| (with_reducible refine Ag ?_ (by assumption))| (with_reducible refine Aa ?_ (by assumption))))⟩
  have hnI:(vn==0)=false:=by simpa using hn
  have hnI1:(vn==1)=false:=by simpa using hn1
  have HF:=O (show A1 (HdV 1 vn vs)=false by simp[A1,HdV,hn,hn1]);clear hl;go_enter func130,ntmps130;go_wp2;go_ret;exact⟨⟨1,rfl,by rw[HF.out];rfl⟩,(by repeat(first| (with_reducible exact Ac _ _)| (with_reducible assumption)| (with_reducible exact AX (by assumption))| (with_reducible refine Ad ?_ _)| (with_reducible refine Am ?_)| (with_reducible refine Ay ?_ _)| ((with_reducible refine Az ?_ _ _ ?h2);case h2=>first|exact .inl rfl|exact .inr (Nat.le_refl _)|exact .inr (by simp<;>omega))| (with_reducible refine Ag ?_ (by assumption))| (with_reducible refine Aa ?_ (by assumption))))⟩
 have c1:(vk==1)=false:=by simpa using h1
 by_cases h2k:vk=2
 ·subst h2k;have HI:=O (fun W=>MW vn W);cases hb:(decide (-1000000000000000≤vn)&&decide (vn≤1000000000000000))with
  | true=>
    rw[hb]at HI;by_cases hs:vs=[]
    ·have HF:=O (show A1 (HdV 2 vn vs)=true by simp[A1,HdV,hs,h2'];simp at hb;omega);clear hl;have hsI:(vs==[])=true:=by simpa using hs
     have hsI2:(vs !=[])=false:=by simpa using hs
     go_enter func130,ntmps130;go_wp2_with fail;refine(HI.out _).mono ?_;rintro e w1 ⟨rfl,rfl⟩;go_wp2;go_ret;exact⟨⟨0,rfl,by rw[HF.out];rfl⟩,(by repeat(first| (with_reducible exact Ac _ _)| (with_reducible assumption)| (with_reducible exact AX (by assumption))| (with_reducible refine Ad ?_ _)| (with_reducible refine Am ?_)| (with_reducible refine Ay ?_ _)| ((with_reducible refine Az ?_ _ _ ?h2);case h2=>first|exact .inl rfl|exact .inr (Nat.le_refl _)|exact .inr (by simp<;>omega))| (with_reducible refine Ag ?_ (by assumption))| (with_reducible refine Aa ?_ (by assumption))))⟩
    ·have HF:=O (show A1 (HdV 2 vn vs)=false by simp[A1,HdV,hs,h2']);clear hl;have hsI:(vs==[])=false:=by simpa using hs
     have hsI2:(vs !=[])=true:=by simpa using hs
     go_enter func130,ntmps130;go_wp2_with fail;refine(HI.out _).mono ?_;rintro e w1 ⟨rfl,rfl⟩;go_wp2;go_ret;exact⟨⟨1,rfl,by rw[HF.out];rfl⟩,(by repeat(first| (with_reducible exact Ac _ _)| (with_reducible assumption)| (with_reducible exact AX (by assumption))| (with_reducible refine Ad ?_ _)| (with_reducible refine Am ?_)| (with_reducible refine Ay ?_ _)| ((with_reducible refine Az ?_ _ _ ?h2);case h2=>first|exact .inl rfl|exact .inr (Nat.le_refl _)|exact .inr (by simp<;>omega))| (with_reducible refine Ag ?_ (by assumption))| (with_reducible refine Aa ?_ (by assumption))))⟩
  | false=>
    rw[hb]at HI;have HF:=O (show A1 (HdV 2 vn vs)=false from Bool.eq_false_iff.2 (fun h=>by have h3: -1000000000000000≤vn∧vn≤1000000000000000:=Jv rfl h;simp at hb;omega));clear hl;go_enter func130,ntmps130;go_wp2_with fail;refine(HI.out _).mono ?_;rintro e w1 ⟨rfl,rfl⟩;go_wp2;go_ret;exact⟨⟨1,rfl,by rw[HF.out];rfl⟩,(by repeat(first| (with_reducible exact Ac _ _)| (with_reducible assumption)| (with_reducible exact AX (by assumption))| (with_reducible refine Ad ?_ _)| (with_reducible refine Am ?_)| (with_reducible refine Ay ?_ _)| ((with_reducible refine Az ?_ _ _ ?h2);case h2=>first|exact .inl rfl|exact .inr (Nat.le_refl _)|exact .inr (by simp<;>omega))| (with_reducible refine Ag ?_ (by assumption))| (with_reducible refine Aa ?_ (by assumption))))⟩
 have c2:(vk==2)=false:=by simpa using h2k
 by_cases h3:vk=3
 ·subst h3;by_cases ha:0≤vn
  ·have haI:decide ((0:Int)≤vn)=true:=by simpa using ha
   by_cases hb:vn≤3652059
   ·have hbI:decide (vn≤3652059)=true:=by simpa using hb
    by_cases hs:vs=[]
    ·have HF:=O (show A1 (HdV 3 vn vs)=true by simp[A1,HdV,hs,h2',ha,hb]);clear hl;have hsI:(vs==[])=true:=by simpa using hs
     have hsI2:(vs !=[])=false:=by simpa using hs
     go_enter func130,ntmps130;go_wp2;go_ret;exact⟨⟨0,rfl,by rw[HF.out];rfl⟩,(by repeat(first| (with_reducible exact Ac _ _)| (with_reducible assumption)| (with_reducible exact AX (by assumption))| (with_reducible refine Ad ?_ _)| (with_reducible refine Am ?_)| (with_reducible refine Ay ?_ _)| ((with_reducible refine Az ?_ _ _ ?h2);case h2=>first|exact .inl rfl|exact .inr (Nat.le_refl _)|exact .inr (by simp<;>omega))| (with_reducible refine Ag ?_ (by assumption))| (with_reducible refine Aa ?_ (by assumption))))⟩
    ·have HF:=O (show A1 (HdV 3 vn vs)=false by simp[A1,HdV,hs,h2',ha,hb]);clear hl;have hsI:(vs==[])=false:=by simpa using hs
     have hsI2:(vs !=[])=true:=by simpa using hs
     go_enter func130,ntmps130;go_wp2;go_ret;exact⟨⟨1,rfl,by rw[HF.out];rfl⟩,(by repeat(first| (with_reducible exact Ac _ _)| (with_reducible assumption)| (with_reducible exact AX (by assumption))| (with_reducible refine Ad ?_ _)| (with_reducible refine Am ?_)| (with_reducible refine Ay ?_ _)| ((with_reducible refine Az ?_ _ _ ?h2);case h2=>first|exact .inl rfl|exact .inr (Nat.le_refl _)|exact .inr (by simp<;>omega))| (with_reducible refine Ag ?_ (by assumption))| (with_reducible refine Aa ?_ (by assumption))))⟩
   ·have hbI:decide (vn≤3652059)=false:=by simpa using hb
    have HF:=O (show A1 (HdV 3 vn vs)=false by simp[A1,HdV,hb]);clear hl;go_enter func130,ntmps130;go_wp2;go_ret;exact⟨⟨1,rfl,by rw[HF.out];rfl⟩,(by repeat(first| (with_reducible exact Ac _ _)| (with_reducible assumption)| (with_reducible exact AX (by assumption))| (with_reducible refine Ad ?_ _)| (with_reducible refine Am ?_)| (with_reducible refine Ay ?_ _)| ((with_reducible refine Az ?_ _ _ ?h2);case h2=>first|exact .inl rfl|exact .inr (Nat.le_refl _)|exact .inr (by simp<;>omega))| (with_reducible refine Ag ?_ (by assumption))| (with_reducible refine Aa ?_ (by assumption))))⟩
  ·have haI:decide ((0:Int)≤vn)=false:=by simpa using ha
   have HF:=O (show A1 (HdV 3 vn vs)=false by simp[A1,HdV,ha]);clear hl;go_enter func130,ntmps130;go_wp2;go_ret;exact⟨⟨1,rfl,by rw[HF.out];rfl⟩,(by repeat(first| (with_reducible exact Ac _ _)| (with_reducible assumption)| (with_reducible exact AX (by assumption))| (with_reducible refine Ad ?_ _)| (with_reducible refine Am ?_)| (with_reducible refine Ay ?_ _)| ((with_reducible refine Az ?_ _ _ ?h2);case h2=>first|exact .inl rfl|exact .inr (Nat.le_refl _)|exact .inr (by simp<;>omega))| (with_reducible refine Ag ?_ (by assumption))| (with_reducible refine Aa ?_ (by assumption))))⟩
 have c3:(vk==3)=false:=by simpa using h3
 by_cases h4:vk=4
 ·subst h4;by_cases hn:vn=0
  ·subst hn;have HF:=O (show A1 (HdV 4 0 vs)=true by simp[A1,HdV,h2']);clear hl;go_enter func130,ntmps130;go_wp2;go_ret;exact⟨⟨0,rfl,by rw[HF.out];rfl⟩,(by repeat(first| (with_reducible exact Ac _ _)| (with_reducible assumption)| (with_reducible exact AX (by assumption))| (with_reducible refine Ad ?_ _)| (with_reducible refine Am ?_)| (with_reducible refine Ay ?_ _)| ((with_reducible refine Az ?_ _ _ ?h2);case h2=>first|exact .inl rfl|exact .inr (Nat.le_refl _)|exact .inr (by simp<;>omega))| (with_reducible refine Ag ?_ (by assumption))| (with_reducible refine Aa ?_ (by assumption))))⟩
  ·have hnI:(vn==0)=false:=by simpa using hn
   have HF:=O (show A1 (HdV 4 vn vs)=false by simp[A1,HdV,hn]);clear hl;go_enter func130,ntmps130;go_wp2;go_ret;exact⟨⟨1,rfl,by rw[HF.out];rfl⟩,(by repeat(first| (with_reducible exact Ac _ _)| (with_reducible assumption)| (with_reducible exact AX (by assumption))| (with_reducible refine Ad ?_ _)| (with_reducible refine Am ?_)| (with_reducible refine Ay ?_ _)| ((with_reducible refine Az ?_ _ _ ?h2);case h2=>first|exact .inl rfl|exact .inr (Nat.le_refl _)|exact .inr (by simp<;>omega))| (with_reducible refine Ag ?_ (by assumption))| (with_reducible refine Aa ?_ (by assumption))))⟩
 have c4:(vk==4)=false:=by simpa using h4
 have HF:=O (show A1 (HdV vk vn vs)=false by simp[A1,HdV,h0,h1,h2k,h3,h4]);clear hl;go_enter func130,ntmps130;go_wp2;go_ret;exact⟨⟨1,rfl,by rw[HF.out];rfl⟩,(by repeat(first| (with_reducible exact Ac _ _)| (with_reducible assumption)| (with_reducible exact AX (by assumption))| (with_reducible refine Ad ?_ _)| (with_reducible refine Am ?_)| (with_reducible refine Ay ?_ _)| ((with_reducible refine Az ?_ _ _ ?h2);case h2=>first|exact .inl rfl|exact .inr (Nat.le_refl _)|exact .inr (by simp<;>omega))| (with_reducible refine Ag ?_ (by assumption))| (with_reducible refine Aa ?_ (by assumption))))⟩
end
end Go.Proofs.YtgjdhajcnechdaaGreatDoor
