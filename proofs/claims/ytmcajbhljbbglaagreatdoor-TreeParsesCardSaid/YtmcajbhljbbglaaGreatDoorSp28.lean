/-
  The reference's dates: leap, length, Days, Val, Unstamp. The reference's lexer: Unstamp, dateAt.
-/
import Derived.Test.YtmcajbhljbbglaaGreatDoorSpF
import Derived.Test.YtmcajbhljbbglaaGreatDoorSp23
import Derived.Test.YtmcajbhljbbglaaGreatDoorSp25
import Derived.Test.YtmcajbhljbbglaaGreatDoorSp15
set_option linter.all false
set_option maxRecDepth 100000
set_option maxHeartbeats 8000000
namespace Go.Proofs.YtmcajbhljbbglaaGreatDoor
open Tryz
open Go.RowKit
theorem uN(y:Int)(h0:0≤y)(h1:y≤100000)(w:World):Calls Tryz.prog 290 #[.int .i64 y] w fun e w'=>e= .returned (.bool (H5 y))∧w'=w:=by
 have gY{P}(h:P:=by
 have hl:H5 y=((y.tmod 4==0)&&(y.tmod 100 !=0)||(y.tmod 400==0)):=by
  unfold H5;by_cases h:y.tmod 400=0
  ·have h4 : y.tmod 4 = 0 := by
    have e:y=400*(y.tdiv 400)+y.tmod 400:=(Int.mul_tdiv_add_tmod y 400).symm;rw[h]at e;rw[e,Int.tmod_eq_emod_of_nonneg Ab];omega
   simp[h,h4]
  ·have hf:(y.tmod 400==0)=false:=by simpa using h
   rw[hf];simp
 rw[hl];generalize e4:y.tmod 4=a at*;generalize e100:y.tmod 100=b at*;generalize e400:y.tmod 400=c at*;clear hl;by_cases h4:a=0
 ·by_cases h100:b=0
  ·go_enter func290,ntmps290;exact LO
  ·go_enter func290,ntmps290;exact LO
 ·go_enter func290,ntmps290;go_wp2;go_ret;exact⟨by simp[h4],rfl⟩):=Aa h
 exact Zz
theorem OI(y m:Int)(h0:0≤y)(h1:y≤100000)(hm0:1≤m)(hm1:m≤12)(w:World):Calls Tryz.prog 276 #[.int .i64 y,.int .i64 m] w fun e w'=>e= .returned (.int .i64 (EF y m))∧w'=w:=by
 have hm:m=1∨m=2∨m=3∨m=4∨m=5∨m=6∨m=7∨m=8∨m=9∨m=10∨m=11∨m=12:=Ab;rcases hm with rfl|rfl|rfl|rfl|rfl|rfl|rfl|rfl|rfl|rfl|rfl|rfl
 case inr.inl=>
  go_enter func276,ntmps276;go_wp2_with fail;refine(uN y h0 h1 _).mono ?_;rintro e w1 ⟨rfl,rfl⟩;cases hl:H5 y with
  | true=>
    go_wp2;go_ret;exact⟨by simp[EF,hl],rfl⟩
  | false=>
    go_wp2;go_ret;exact⟨by simp[EF,hl],rfl⟩
 all_goals
  go_enter func276,ntmps276;exact I5
theorem uM(y m d:Int)(hy0:0≤y)(hy1:y≤9999)(hm0:0≤m)(hm1:m≤99)(hd0:0≤d)(hd1:d≤99)(w:World):
 Calls Tryz.prog 245 #[.int .i64 y,.int .i64 m,.int .i64 d] w fun e w'=>e= .returned (.tuple #[.int .i64 (Bq y m d).1,.int .i64 (Bq y m d).2])∧w'=w:=by
 by_cases h1:y<1
 ·have hB:Bq y m d=(0,1):=by simp[Bq,EE,h1]
  exact Nn
 by_cases h2:m<1
 ·have hB:Bq y m d=(0,1):=by simp[Bq,EE,h2]
  exact Nn
 by_cases h3:12<m
 ·have hB:Bq y m d=(0,1):=by simp[Bq,EE,h3]
  exact Nn
 by_cases h4:d<1
 ·have hB:Bq y m d=(0,1):=by simp[Bq,EE,h4]
  exact Nn
 have hml:=K4 y m Ab Ab;by_cases h5:EF y m<d
 ·have hB:Bq y m d=(0,1):=by simp[Bq,EE,h5]
  rw[hB];go_enter func245,ntmps245;go_wp2_with fail;refine(OI y m Ab Ab Ab Ab _).mono ?_;rintro e w1 ⟨rfl,rfl⟩;go_wp2;exact bodyPost_ret (v:= .tuple #[_,_]) Xt rfl ⟨rfl,rfl⟩
 have hB:Bq y m d=(Gm y+d+Do y (m-1).toNat,0):=by simp[Bq,EE,h1,h2,h3,h4,h5];omega
 rw[hB];clear hB;have b4:(y-1).tdiv 4=(y-1)/4:=Int.tdiv_eq_ediv_of_nonneg Ab;have b100:(y-1).tdiv 100=(y-1)/100:=Int.tdiv_eq_ediv_of_nonneg Ab;have b400:(y-1).tdiv 400=(y-1)/400:=Int.tdiv_eq_ediv_of_nonneg Ab;have hY:Gm y=365*(y-1)+(y-1).tdiv 4-(y-1).tdiv 100+(y-1).tdiv 400:=rfl;have q4:0≤(y-1).tdiv 4∧(y-1).tdiv 4≤9999:=Ab;have q100:0≤(y-1).tdiv 100∧(y-1).tdiv 100≤9999:=Ab;have q400:0≤(y-1).tdiv 400∧(y-1).tdiv 400≤9999:=Ab;rw[b4,b100,b400]at hY;have HY:=Z hY;clear hY b4 b100 b400 q4 q100 q400;go_enter func245,ntmps245;go_wp2_with fail;refine(OI y m Ab Ab Ab Ab _).mono ?_;rintro e w1 ⟨rfl,rfl⟩;go_wp2_with fail;generalize hM:(m-1).toNat=M at*;go_loopg [8,9] M (fun g v8 v9 wr=>∃k:Nat,k+g=M∧v8= .int .i64 (d+Do y k)∧v9= .int .i64 (k+1)∧wr=w1)
 case atStart=>exact⟨0,by omega,by simp[Do],rfl,rfl⟩
 case round=>
  obtain⟨k,hk,rfl,rfl,rfl⟩:=hrel;have hbl:=UW y k Ab;cases gk with
  | zero=>
    have hkM:k=M:=Ab;subst hkM;have HB:=Z (show Do y (m.toNat-1)=Do y k by congr 1;omega);go_wp2;exact bodyPost_ret (v:= .tuple #[_,_]) (by simp[results,results245,go_sem];rw[HY.out,HB.out];omega) rfl ⟨rfl,rfl⟩
  | succ gk=>
    go_wp2_with fail;refine(OI y (k+1) Ab Ab Ab Ab _).mono ?_;rintro e w3 ⟨rfl,rfl⟩;have hm2:=K4 y (k+1) Ab Ab;go_wp2_with fail;go_roundg gk
    case measure=>omega
    case rel=>exact⟨k+1,by omega,by simp[Do];omega,by simp,rfl⟩
theorem Xn(k:Nat)(h:k≤15):(10:Int) ^ k≤1000000000000000:=by
 have h2:(10:Int) ^ k≤10 ^ 15:=by exact_mod_cast Nat.pow_le_pow_right (n:=10) Ad h
 have h3:(10:Int) ^ 15=1000000000000000:=Ad;omega
theorem Mw(s:Bs)(hd:s.all Bc=true)(h0:1≤s.length)(h15:s.length≤15)(w:World):
 Calls Tryz.prog 246 #[str s] w fun e w'=>e= .returned (.int .i64 (AS s))∧w'=w:=by
 have hat:∀k,k<s.length→Bc (bAt s k)=true∧48≤(bAt s k).toNat∧(bAt s k).toNat≤57:=by
  intro k hk;have:=List.all_eq_true.1 hd s[k] (List.getElem_mem _);rw[Gg hk];refine⟨this,?_⟩;simpa[Bc]using this
 have hh:=hat 0 Ab;have hg0:=fun h=>BI s 0 h Ab;have h32:(((bAt s 0).toNat:Int)==32)=false:=Ag;have h45:(((bAt s 0).toNat:Int)==45)=false:=Ag;have h43:(((bAt s 0).toNat:Int)==43)=false:=Ag;have H:=Z (Ac hd hat);have hl0:decide ((0:Int)<s.length)=true:=Ag;clear hd hat hh;go_enter func246,ntmps246;go_wp2_with fail;go_loopg [3] 0 (fun g v3 wr=>v3= .int .i64 0∧w=wr)
 case atStart=>exact⟨rfl,rfl⟩
 case round=>
  obtain⟨rfl,rfl⟩:=hrel;go_wp2_with fail;clear h32 h45 h43 hg0;go_loopg [3,5] s.length (fun g v3 v5 wr=>∃k:Nat,k+g=s.length∧v3= .int .i64 k∧v5= .int .i64 (AS (s.take k))∧w=wr)
  case atStart=>exact⟨0,by omega,rfl,by simp[AS],rfl⟩
  case round=>
   obtain⟨k,hk,rfl,rfl,rfl⟩:=hrel;have hnl:0≤AS (s.take k)∧AS (s.take k)<1000000000000000:=by
    have h1:=GH s H.out.1 k Ab;have h2:=Xn k Ab;omega
   cases gk with
   | zero=>
     have hkM:k=s.length:=Ab;have hj1:decide (k<s.length)=false:=Ag;have hT:AS (s.take k)=AS s:=by rw[List.take_of_length_le Ab]
     rw[hT]at*;generalize hzz:AS s=z at*;have HZ:=Z hzz;clear hzz hT;go_wp2;go_ret;exact⟨by rw[HZ.out];rfl,rfl⟩
   | succ gk=>
     have hlt:k<s.length:=Ab;have hj1:decide (k<s.length)=true:=Ag;obtain⟨hx0,hx1,hx2⟩:=H.out.2 k hlt;have hgk:=fun h=>BI s k h hlt;have hn1:=Pj s k hlt;rw[←Gg hlt]at hn1;have hnl2:AS (s.take (k+1))<1000000000000000:=by
      have h1:=GH s H.out.1 (k+1) Ab;have h2:=Xn (k+1) Ab;omega
     rw[hn1]at hnl2;have HX:=Z (show cls 2 (bAt s k)=true by rw[M4];exact hx0);have HN:=Z hn1;clear hn1 hx0;generalize hz:AS (s.take k)=z at*;generalize hq:bAt s k=q at*;have Jg{P}(h:P:=by
     rw[HX.out];have hmin:min (10*z+((q.toNat:Int)-48)) 1000000000000000=10*z+((q.toNat:Int)-48):=Ab;go_wp2_with fail;go_roundg gk
     case measure=>omega
     case rel=>exact⟨k+1,by omega,by simp,by rw[HN.out];try(congr 1;omega),rfl⟩):=Aa h;exact Jc
theorem Aa0{s:Bs}(h:∀j,j<s.length→Bc (bAt s j)=true):s.all Bc=true:=by
 rw[List.all_eq_true];intro x hx;obtain⟨j,hj,rfl⟩:=List.mem_iff_getElem.1 hx;rw[←Gg hj];exact h j hj
theorem U0(s:Bs)(hs:s.length≤1000000)(w:World):
 Calls Tryz.prog 212 #[str s] w fun e w'=>e= .returned (.tuple #[.int .i64 (BD s).1,.bool (BD s).2])∧w.grownBy w' none:=by
 by_cases hb:s=Ew
 ·subst hb;go_enter func212,ntmps212;go_wp2;exact bodyPost_ret (v:= .tuple #[.int .i64 0,.bool true]) MS rfl ⟨rfl,Aj _ _⟩
 have hb':(s==[32,32,32,32,32,32,32,32])=false:=by simpa[Ew]using hb
 by_cases h8:s.length=8
 ·have h8n:((s.length:Int)==8)=true:=by simp;omega
  have h8m:((s.length:Int) !=8)=false:=Ag;cases hd:s.all Bc with
  | false=>
    have hm:BD s=(0,false):=by simp only[BD,hb,if_false,hd];simp
    rw[hm];have HD:=Z hd;clear hm hd;go_enter func212,ntmps212;go_wp2_with fail;go_loopg [4] 8 (fun g v4 wr=>∃k:Nat,k+g=8∧v4= .int .i64 k∧(∀j,j<k→Bc (bAt s j)=true)∧w=wr)
    case atStart=>exact⟨0,by omega,rfl,fun j hj=>by omega,rfl⟩
    case round=>
     obtain⟨k,hk,rfl,hj,rfl⟩:=hrel;cases gk with
     | zero=>
       have:s.all Bc=true:=Aa0 (fun j hjl=>hj j Ab);rw[HD.out]at this;cases this
     | succ gk=>
       have hkl:k<s.length:=Ab;have hk8:decide ((k:Int)<8)=true:=Ag;have hg:=fun h=>BI s k h hkl;have HJ:=Z hj;clear hj;cases hc:cls 2 (bAt s k)with
       | true=>
         have HN:=Z (show ∀j,j<k+1→Bc (bAt s j)=true from fun j hj=>by
          rcases Nat.lt_succ_iff_lt_or_eq.1 hj with h|h
          ·exact HJ.out j h
          ·subst h;rw[←M4];exact hc)
         have HC:=Z hc;clear hc;have Jg{P}(h:P:=by
         rw[HC.out];go_wp2;go_roundg gk
         case measure=>omega
         case rel=>exact⟨k+1,by omega,by go_num,HN.out,rfl⟩):=Aa h;exact Jc
       | false=>
         have HC:=Z hc;clear hc;have Jg{P}(h:P:=by rw[HC.out];go_wp2;exact bodyPost_ret (v:= .tuple #[.int .i64 0,.bool false]) MS rfl ⟨rfl,Aj _ _⟩):=Aa h;exact Jc
  | true=>
    have bQ{P}(h:P:=by
    have hat:∀k,k<s.length→cls 2 (bAt s k)=true:=by
     intro k hk;rw[M4,Gg hk];exact List.all_eq_true.1 hd s[k] (List.getElem_mem _)
    obtain⟨a0,a1,a2,a3,a4,a5,a6,a7,hs8⟩:∃a0 a1 a2 a3 a4 a5 a6 a7,s=[a0,a1,a2,a3,a4,a5,a6,a7]:=by
     match s,h8 with
     | [a0,a1,a2,a3,a4,a5,a6,a7],_=>exact⟨_,_,_,_,_,_,_,_,rfl⟩
    have hd4:[a0,a1,a2,a3].all Bc=true∧[a4,a5].all Bc=true∧[a6,a7].all Bc=true:=by
     rw[hs8]at hd;simp at hd ⊢;simp[hd]
    have et1:s.take 4=[a0,a1,a2,a3]:=JV;have et2:(s.drop 4).take 2=[a4,a5]:=JV;have et3:s.drop 6=[a6,a7]:=JV;rw[et1,et2,et3];clear et1 et2 et3;have HD:=Z hd4;have HA:=Z hat;have HS:=Z hs8;clear hd4 hat hd hs8;go_enter func212,ntmps212;go_wp2_with fail;go_loopg [4] 8 (fun g v4 wr=>∃k:Nat,k+g=8∧v4= .int .i64 k∧w=wr)
    case atStart=>exact⟨0,by omega,rfl,rfl⟩
    case round=>
     obtain⟨k,hk,rfl,rfl⟩:=hrel;cases gk with
     | succ gk=>
       have hkl:k<s.length:=Ab;have hk8:decide ((k:Int)<8)=true:=Ag;have hg:=fun h=>BI s k h hkl;have HC:=Z (HA.out k hkl);have Jg{P}(h:P:=by
       rw[HC.out];go_wp2;go_roundg gk
       case measure=>omega
       case rel=>exact⟨k+1,by omega,by go_num,rfl⟩):=Aa h;exact Jc
     | zero=>
       have hk8:decide ((k:Int)<8)=false:=Ag;go_wp2_with fail;have hs8:=HS.out;have hy:=GH _ HD.out.1 4 Ae;have hm:=GH _ HD.out.2.1 2 Ae;have hd':=GH _ HD.out.2.2 2 Ae;have hx1:(⟨s.toArray⟩:ByteArray).extract 0 4={data:=#[a0,a1,a2,a3]}:=JV;have hx2:(⟨s.toArray⟩:ByteArray).extract 4 6={data:=#[a4,a5]}:=JV;have hx3:(⟨s.toArray⟩:ByteArray).extract 6 8={data:=#[a6,a7]}:=JV;have hl4:(4:Int)≤s.length:=Ab;have hl6:(6:Int)≤s.length:=Ab;clear hs8;have iG{P}(h:P:=by
       have hda:=uM Y M D Ab Ab Ab Ab Ab Ab;have hv1:∀w,Calls Tryz.prog 246 #[.string ⟨#[a0,a1,a2,a3]⟩] w fun e w'=>e= .returned (.int .i64 Y)∧w'=w:=fun w=>by rw[←HN.out.1];exact Mw [a0,a1,a2,a3] HD.out.1 Ae Ae w
       have hv2:∀w,Calls Tryz.prog 246 #[.string ⟨#[a4,a5]⟩] w fun e w'=>e= .returned (.int .i64 M)∧w'=w:=fun w=>by rw[←HN.out.2.1];exact Mw [a4,a5] HD.out.2.1 Ae Ae w
       have hv3:∀w,Calls Tryz.prog 246 #[.string ⟨#[a6,a7]⟩] w fun e w'=>e= .returned (.int .i64 D)∧w'=w:=fun w=>by rw[←HN.out.2.2];exact Mw [a6,a7] HD.out.2.2 Ae Ae w
       have HV:=Z (Ac hda (Ac hv1 (Ac hv2 hv3)));clear hda hv1 hv2 hv3;go_region_with(first| (go_at_call 245;with_reducible refine(HV.out.1 _).mono ?_;rintro e w5 ⟨rfl,rfl⟩)| (with_reducible refine(HV.out.2.1 _).mono ?_;rintro e w2 ⟨rfl,rfl⟩)| (with_reducible refine(HV.out.2.2.1 _).mono ?_;rintro e w3 ⟨rfl,rfl⟩)| (with_reducible refine(HV.out.2.2.2 _).mono ?_;rintro e w4 ⟨rfl,rfl⟩));all_goals
        go_wp2;exact bodyPost_ret (v:= .tuple #[.int .i64 (Bq Y M D).1,.bool ((Bq Y M D).2==0)]) MS rfl ⟨by rw[←HN.out.1,←HN.out.2.1,←HN.out.2.2],An (Aj _ _)⟩):=Aa h
       exact ZL):=Aa h
    exact Sp
 ·have hm:BD s=(0,false):=by simp[BD,hb,h8]
  rw[hm];have h8n:((s.length:Int)==8)=false:=Ag;have h8m:((s.length:Int) !=8)=true:=Ag;go_enter func212,ntmps212;go_wp2;exact bodyPost_ret (v:= .tuple #[.int .i64 0,.bool false]) MS rfl ⟨rfl,Aj _ _⟩
def K2(w:World)(t:Bs)(e:Ending)(w':World):Prop:=w.grownBy w' none∧match BB t with
 |some (d,n)=>e= .returned (.tuple #[str d,.int .i64 n])
 |none=>e= .returned (.tuple #[str [],.int .i64 0])
section
variable {w w':World}{t d:Bs}{m:Int}{n:Nat}
theorem Ul(h:BB t=some (d,n))(g:w.grownBy w' none)(hm:m=n):K2 w t (.returned (.tuple #[str d,.int .i64 m])) w':=by
 subst hm;refine⟨g,?_⟩;rw[h]
theorem Si(h:BB t=none)(g:w.grownBy w' none):K2 w t (.returned (.tuple #[str [],.int .i64 0])) w':=by
 refine⟨g,?_⟩;rw[h]
end
theorem M1(s:Bs)(i a c:Nat){l:Bs}(h:((s.drop i).drop a).take c=l):(⟨s.toArray⟩:ByteArray).extract (i+a) (i+(a+c))=⟨l.toArray⟩:=by
 rw[Ed,show i+(a+c)-(i+a)=c by omega,←List.drop_drop,h]
theorem lE{D:Bs}(h:(BD D).2=true){c:UInt8}{r:Bs}(hD:D=c::r):(((c.toNat:Int)==32)=true→D=Ew)∧(((c.toNat:Int)==32)=false→D≠Ew):=by
 refine⟨fun hc=>?_,fun hc e=>?_⟩
 ·by_cases hb:D=Ew
  ·exact hb
  ·exfalso;unfold BD at h;rw[if_neg hb]at h;split at h
   ·cases h
   ·rename_i h2;have hd:D.all Bc=true:=by
     cases hx:D.all Bc with
     |true=>rfl
     |false=>exact absurd (.inr hx) h2
    rw[hD]at hd;simp[Bc]at hd hc;omega
 ·rw[hD]at e;simp[Ew]at e;rw[e.1]at hc;simp at hc
theorem Va(s:Bs)(hs:s.length≤4000)(i:Nat)(hi:i<s.length)(w:World):
 Calls Tryz.prog 175 #[str s,.int .i64 i] w (K2 w (s.drop i)):=by
 have htl:(s.drop i).length=s.length-i:=Ae;have H2:=M1 s i 0 2 rfl;have H26:=fun l=>M1 s i 2 4 (l:=l);have H79:=fun l=>M1 s i 7 2 (l:=l);have H1012:=fun l=>M1 s i 10 2 (l:=l);have hb6:=fun h6 h=>BI s (i+6) h h6;have hb9:=fun h6 h=>BI s (i+9) h h6;have hb12:=fun h6 h=>BI s (i+12) h h6;have hbt:∀k,bAt s (i+k)=bAt (s.drop i) k:=by intro k;simp[bAt]
 rw[hbt]at hb6 hb9 hb12;rw[List.drop_zero]at H2;simp only[Nat.add_zero,Nat.zero_add,Nat.reduceAdd]at H2 H26 H79 H1012;clear hbt;generalize hts:s.drop i=t at*;clear hts;cases hp:[123,125].isPrefixOf t with
 | true=>
   have HM:=Z (Uu hp);have hpl:=(List.isPrefixOf_iff_prefix.1 hp).length_le;simp at hpl;have hl1:decide ((i:Int)+1<s.length)=true:=Ag;have hl2:i+2≤s.length:=Ab;have ht2:t.take 2=[123,125]:=by
    obtain⟨r,hr⟩:=List.isPrefixOf_iff_prefix.1 hp;rw[←hr];rfl
   rw[ht2]at H2;clear H26 H79 H1012 hb6 hb9 hb12 hp ht2 htl;go_enter func175,ntmps175;go_wp2;exact bodyPost_ret (v:= .tuple #[str [],.int .i64 2]) MH rfl (Ul HM.out (Aj _ _) rfl)
 | false=>
   have hn2:(t.take 2==[123,125])=false:=by
    cases hx:t.take 2==[123,125]with
    |false=>rfl
    | true=>
      exfalso;have hx':t.take 2=[123,125]:=by simpa using hx
      have:[123,125].isPrefixOf t=true:=by
       rw[List.isPrefixOf_iff_prefix];exact⟨t.drop 2,by rw[←hx'];exact List.take_append_drop 2 t⟩
      rw[hp]at this;cases this
   by_cases h13:13≤t.length
   ·obtain⟨a0,a1,a2,a3,a4,a5,a6,a7,a8,a9,a10,a11,a12,r,ht⟩:=Wq h13;have hil:i+13≤s.length:=Ab;have hl1:decide ((i:Int)+1<s.length)=true:=Ag;have hl2:i+2≤s.length:=Ab;have hl13:decide ((s.length:Int)<(i:Int)+13)=false:=Ag;have X26:=H26 [a2,a3,a4,a5] (by rw[ht];rfl);have X79:=H79 [a7,a8] (by rw[ht];rfl);have X1012:=H1012 [a10,a11] (by rw[ht];rfl);have g6:=hb6 Ab;have g9:=hb9 Ab;have g12:=hb12 Ab;rw[show bAt t 6=a6 by rw[ht];rfl]at g6;rw[show bAt t 9=a9 by rw[ht];rfl]at g9;rw[show bAt t 12=a12 by rw[ht];rfl]at g12;have hform:DH t=((t.take 2==[123,94])&&a6==45&&a9==45&&a12==125):=by rw[ht];simp[DH,bAt]
    have hdig:F4 t=[a2,a3,a4,a5,a7,a8,a10,a11]:=by rw[ht];rfl
    generalize t.take 2=p at*;have HF:=Z (Ac hform hdig);have i6:i+6<s.length:=Ab;have i9:i+9<s.length:=Ab;have i12:i+12<s.length:=Ab;clear hform hdig ht H26 H79 H1012 hb6 hb9 hb12 htl;cases e1:(p==[123,94])with
    | false=>
      have HM:=Z (FY hp (by rw[HF.out.1,e1];rfl));exact JZ
    | true=>
      cases e6:((a6.toNat:Int) !=45)with
      | true=>
        have HM:=Z (FY hp (by rw[HF.out.1,H7 e6];simp));exact JZ
      | false=>
        cases e9:((a9.toNat:Int) !=45)with
        | true=>
          have HM:=Z (FY hp (by rw[HF.out.1,H7 e9];simp));exact JZ
        | false=>
          cases e12:((a12.toNat:Int) !=125)with
          | true=>
            have HM:=Z (FY hp (by rw[HF.out.1,M7 e12];simp));exact JZ
          | false=>
            have hfo:DH t=true:=by rw[HF.out.1,e1,H7 e6,H7 e9,M7 e12];rfl
            have hdi:=HF.out.2;have HH:=Z (Ac hfo hdi);have HP:=Z hp;clear hfo hdi HF hp h13;go_enter func175,ntmps175;have bN{P}(h:P:=by
            have hul:=U0 [a2,a3,a4,a5,a7,a8,a10,a11] Ae;have hgD:∀h,(⟨[a2,a3,a4,a5,a7,a8,a10,a11].toArray⟩:ByteArray)[0]'h=a2:=fun h=>rfl;have hUB:=fun h=>lE (D:=[a2,a3,a4,a5,a7,a8,a10,a11]) h rfl;have hDl:0<[a2,a3,a4,a5,a7,a8,a10,a11].length:=Ae;clear hcat X26 X79 X1012;generalize [a2,a3,a4,a5,a7,a8,a10,a11]=D at*;have HU:=Z hul;have HB:=Z hUB;clear hul hUB;go_wp2_with fail;refine(HU.out _).mono ?_;rintro e w1 ⟨rfl,g1⟩;cases hok:(BD D).2 with
            | false=>
              have HM:=Z (Mu HP.out HH.out.1 (.inl MW));exact Z7
            | true=>
              have hub:=HB.out hok;cases hbl:((a2.toNat:Int)==32)with
              | true=>
                have HM:=Z (Mu HP.out HH.out.1 (.inr (by rw[HH.out.2];exact hub.1 hbl)));clear hub;exact Z7
              | false=>
                have HM:=Z (VQ HP.out HH.out.1 MW (by rw[HH.out.2];exact hub.2 hbl));have HD:=Z HH.out.2;clear hub;generalize(BD D).1=v at*;go_wp2;exact bodyPost_ret (v:= .tuple #[str D,.int .i64 13]) MH rfl (Ul (HD.out ▸ HM.out) (A0 (AA (Aj _ _) _) g1) rfl)):=Aa h
            exact Sl
   ·have HM:=Z (FY hp (by simp[DH,h13]));have hl13:decide ((s.length:Int)<(i:Int)+13)=true:=Ag;clear H26 H79 H1012 hb6 hb9 hb12;by_cases hl:i+1<s.length
    ·have hl1:decide ((i:Int)+1<s.length)=true:=by simp;omega
     have hl2:i+2≤s.length:=Ab;generalize t.take 2=two at*;clear hp h13 htl;exact JZ
    ·have hl1:decide ((i:Int)+1<s.length)=false:=by simp;omega
     clear hp h13 htl H2;exact JZ
end Go.Proofs.YtmcajbhljbbglaaGreatDoor
