/-
  The lexer: classes of bytes. The reference: digits, letters, days. The lexer: short, end, continues.
-/
import Derived.Test.YtgjdhajcnechdaaGreatDoorSv12
import Derived.Laws.Rows
import Derived.Test.YtgjdhajcnechdaaGreatDoorSv09
import Derived.Test.YtgjdhajcnechdaaGreatDoorSv02
set_option linter.all false
set_option maxRecDepth 100000
set_option maxHeartbeats 8000000
namespace Go.Proofs.YtgjdhajcnechdaaGreatDoor
open Go.Proofs.Tryz
open Go.RowKit
theorem Hr(k:Nat)(hk:k<256):(AD k).set k (.int .u8 (BA k))=AD (k+1):=by
 apply List.ext_getElem?;intro j;by_cases hj:j<256
 ·rw[List.getElem?_set];rw[EY _ _ hj];by_cases e:k=j
  ·subst e;simp[AD,hk]
  ·rw[if_neg e,EY _ _ hj];have:(j<k+1)=(j<k):=by apply propext;omega
   simp[this]
 ·rw[List.getElem?_eq_none (by simp[AD];omega),List.getElem?_eq_none (by simp[AD];omega)]
theorem Ka(k:Nat)(hk:k<256)(h0:BA k=0):AD k=AD (k+1):=by
 rw[←Hr k hk,h0];apply List.ext_getElem?;intro j;rw[List.getElem?_set];by_cases e:k=j
 ·subst e;simp[AD,hk]
 ·simp[e]
theorem Kv:(Tryz.prog.info? 99).map (fun i=>(i.size,i.bytes))=some (256,256):=by kernel_rfl
theorem Ok{w w1:World}{r:Option Nat}(h:w.grownBy w1 r)(k:Nat)(cs:Array Value)(hk:w.heap.size≤k):w.grownBy (w1.setRow k cs) r:=by
 refine⟨h.os,h.tape,h.output,by simpa using h.size,fun i hi hr=>?_⟩;rw[←h.block i hi hr];have hne:k≠i:=by omega
 simp[World.setRow,Array.getElem?_modify,hne]
theorem NV:∃n e,Tryz.prog.underlying 99=some (.array n e):=by
 have h:(match(Tryz.prog.underlying 99)with|some (.array _ _)=>true|_=>false)=true:=by kernel_rfl
 cases hu:Tryz.prog.underlying 99 with
 |none=>rw[hu]at h;cases h
 | some d=>
   rw[hu]at h;cases d with
   |array n e=>exact⟨n,e,rfl⟩
   |_=>cases h
theorem IR:(Tryz.prog.info? 99).map (·.size)=some (AD 256).toArray.size:=by
 have h1:=Kv;cases hq:Tryz.prog.info? 99 with
 |none=>rw[hq]at h1;simp at h1
 |some i=>rw[hq]at h1;simp at h1;simp[AD,h1.1]
theorem E7(k:Nat):(BA k=3∧(k=9∨k=32))∨(BA k=1∧(k=95∨(97≤k∧k≤122)∨(65≤k∧k≤90)))∨(BA k=2∧48≤k∧k≤57)∨(BA k=4∧(k<9∨(10<k∧k<32)∨126<k))∨
 (BA k=0∧(k=10∨(32<k∧k<48)∨(57<k∧k<65)∨(90<k∧k<95)∨k=96∨(122<k∧k≤126))):=by
 unfold BA
 (repeat' split)<;>simp<;>omega
def GL(w:World)(g:Nat)(v4:Value)(wr:World):Prop:=∃k:Nat,k+g=256∧v4= .int .i64 k∧Blk wr (w.heap.size+1) (AD k) 99∧Blk wr w.heap.size (AD 0) 99∧w.grownBy wr none
theorem Ff{w wr:World}{k g:Nat}{c:Int}(hk:k+(g+1)=256)(hc:BA k=c)(hL:Blk wr (w.heap.size+1) (AD k) 99)(hZ:Blk wr w.heap.size (AD 0) 99)(gr:w.grownBy wr none):
 GL w g (.int .i64 ((k:Int)+1)) (wr.setCell ⟨w.heap.size+1,k,none⟩ (.int .u8 c)):=
 ⟨k+1,by omega,by simp,(hL.set k _).of_eq rfl (by rw[←hc];exact Hr k (by omega)),hZ.set_other _ _ (by simp),Ay gr _ _ (.inr (by simp))⟩
theorem KQ{w wr:World}{k g:Nat}(hk:k+(g+1)=256)(hc:BA k=0)(hL:Blk wr (w.heap.size+1) (AD k) 99)(hZ:Blk wr w.heap.size (AD 0) 99)(gr:w.grownBy wr none):
 GL w g (.int .i64 ((k:Int)+1)) wr:=
 ⟨k+1,by omega,by simp,hL.of_eq rfl (Ka k (by omega) hc),hZ,gr⟩
theorem KP(w:World):Calls Tryz.prog 62 #[] w fun e w'=>e= .returned (.agg (AD 256).toArray)∧w.grownBy w' none:=by
 go_enter func62,ntmps62;go_wp2_with fail;have hz:zeroCells99=(AD 0).toArray:=by kernel_rfl
 have hA:Blk ((w.alloc (.cells (AD 0).toArray 99 (0,0))).alloc (.cells (AD 0).toArray 99 (0,0))) (w.heap.size+1) (AD 0) 99:=(Blk.new _ _ _).of_eq (by simp) rfl;have hB:Blk ((w.alloc (.cells (AD 0).toArray 99 (0,0))).alloc (.cells (AD 0).toArray 99 (0,0))) w.heap.size (AD 0) 99:=(Blk.new _ _ _).alloc _;have g0:w.grownBy ((w.alloc (.cells (AD 0).toArray 99 (0,0))).alloc (.cells (AD 0).toArray 99 (0,0))) none:=Ad (World.grownBy_alloc _ _ _) _;rw[hz];go_loopg [2,3,4] 256 (fun g v2 v3 v4 wr=>GL w g v4 wr)
 case atStart=>exact⟨0,rfl,rfl,hA,hB,g0⟩
 case round=>
  obtain⟨k,hk,rfl,hL,hZ,gr⟩:=hrel;clear hA hB g0;cases gk with
  | zero=>
    have e:k=256:=by omega
    subst e;obtain⟨an,ae,H⟩:=NV;have H:=O H;go_wp2_with fail;refine wp_load_row 99 (.tmp 1) rfl (w.heap.size+1) rfl 99 (AD 256).toArray (0,0) (.array an ae) hL H.out rfl IR ?_;have HS:=O IR;have HL:=O (Z hL hZ);have h1:((AD 256).toArray.all (·.oneCell'))=true:=by simp[AD,Value.oneCell']
    have HO:=O h1;have hzs:(AD 0).toArray.size=(AD 256).toArray.size:=by simp[AD]
    have HZ:=O hzs;have HR:=O (setRow_heap wr w.heap.size (AD 0).toArray (AD 256).toArray 99 (0,0) hZ);clear hL hZ h1 hzs;generalize hcc:(AD 256).toArray=cc at*;have HC:=O hcc;clear hcc;go_wp2_with (refine wpList_store_row rfl 99 (.tmp 0) (.tmp 62) rfl w.heap.size cc rfl rfl 99 (AD 0).toArray HL.out.2 HS.out HZ.out HO.out ?_);refine bodyPost_ret (v:= .agg (AD 256).toArray) ?_ rfl ⟨rfl,Ok gr _ _ (Nat.le_refl _)⟩;rw[HC.out];exact results_cell_row rfl _ _ w.heap.size 99 cc (0,0) (.array an ae) rfl HR.out H.out rfl HS.out
  | succ gk=>
    have ck:=(hL.cell k).trans (EY k k (by omega));have fk:=hL.frozen k;have HL:=O (Z hL (Z hZ gr));have HK:=O hk;have hk2:k<256:=by omega
    have hwr:w.heap.size+1<wr.heap.size:=hL.lt;clear hL hZ gr hk;rcases E7 k with⟨hc,h⟩| ⟨hc,h⟩| ⟨hc,h⟩| ⟨hc,h⟩| ⟨hc,h⟩
    ·have HR:=O (Ff HK.out hc HL.out.1 HL.out.2.1 HL.out.2.2);clear hc HK HL;rcases h with rfl|rfl
     all_goals
      go_wp2_with fail;go_roundg gk
      case measure=>omega
      case rel=>exact HR.out
    ·have HR:=O (Ff HK.out hc HL.out.1 HL.out.2.1 HL.out.2.2);clear hc HK HL;rcases h with rfl| ⟨h,h'⟩| ⟨h,h'⟩
     rotate_left 1;all_goals try
      have e9:((k:Int)==9)=false:=by simp;omega
      have e32:((k:Int)==32)=false:=by simp;omega
      have e95:((k:Int)==95)=false:=by simp;omega
      have i1:=Int.ofNat_le.2 h;have i2:=Int.ofNat_le.2 h';simp only[Int.cast_ofNat_Int]at i1 i2;clear h h'
     all_goals
      go_wp2_with fail;go_roundg gk
      case measure=>omega
      case rel=>exact HR.out
    ·have HR:=O (Ff HK.out hc HL.out.1 HL.out.2.1 HL.out.2.2);clear hc HK HL;obtain⟨h,h'⟩:=h;have e9:((k:Int)==9)=false:=by simp;omega
     have e32:((k:Int)==32)=false:=by simp;omega
     have e95:((k:Int)==95)=false:=by simp;omega
     have i1:=Int.ofNat_le.2 h;have i2:=Int.ofNat_le.2 h';simp only[Int.cast_ofNat_Int]at i1 i2;clear h h';go_wp2_with fail;go_roundg gk
     case measure=>omega
     case rel=>exact HR.out
    ·have HR:=O (Ff HK.out hc HL.out.1 HL.out.2.1 HL.out.2.2);clear hc HK HL;have e9:((k:Int)==9)=false:=by simp;omega
     have e32:((k:Int)==32)=false:=by simp;omega
     have e95:((k:Int)==95)=false:=by simp;omega
     have e10:((k:Int) !=10)=true:=by simp;omega
     rcases h with h| ⟨h,h'⟩|h
     all_goals
      have i1:=Int.ofNat_lt.2 h;try have i2:=Int.ofNat_lt.2 h'
      simp only[Int.cast_ofNat_Int]at i1;try simp only[Int.cast_ofNat_Int]at i2
      clear h;go_wp2_with fail;go_roundg gk
      case measure=>omega
      case rel=>exact HR.out
    ·have HR:=O (KQ HK.out hc HL.out.1 HL.out.2.1 HL.out.2.2);clear hc HK HL;rcases h with rfl| ⟨h,h'⟩| ⟨h,h'⟩| ⟨h,h'⟩|rfl| ⟨h,h'⟩
     all_goals try
      have e9:((k:Int)==9)=false:=by simp;omega
      have e32:((k:Int)==32)=false:=by simp;omega
      have e95:((k:Int)==95)=false:=by simp;omega
      have e10:((k:Int) !=10)=true:=by simp;omega
      have i1:=Int.ofNat_lt.2 h;have i2:(k:Int)<127∧(k:Int)≤126:=by omega
      obtain⟨i2,i3⟩:=i2;simp only[Int.cast_ofNat_Int]at i1
     all_goals
      go_wp2_with fail;go_roundg gk
      case measure=>omega
      case rel=>exact HR.out
theorem Ea(b:UInt8)(w:World):Calls Tryz.prog 217 #[.int .u8 b.toNat] w fun e w'=>e= .returned (.bool (cls 2 b))∧w=w':=by
 unfold cls;rcases E7 b.toNat with⟨hc,h⟩| ⟨hc,h⟩| ⟨hc,h⟩| ⟨hc,h⟩| ⟨hc,h⟩
 all_goals rw[hc]
 ·rcases h with h|h
  all_goals
   rw[h];go_enter func217,ntmps217;go_wp2;go_ret;exact⟨by first|rfl| (simp;done)| (simp;omega),rfl⟩
 ·rcases h with h| ⟨h,h'⟩| ⟨h,h'⟩
  ·rw[h];go_enter func217,ntmps217;go_wp2;go_ret;exact⟨by first|rfl| (simp;done)| (simp;omega),rfl⟩
  all_goals
   go_enter func217,ntmps217;go_wp2;go_ret;exact⟨by first|rfl| (simp;done)| (simp;omega),rfl⟩
 ·obtain⟨h,h'⟩:=h;go_enter func217,ntmps217;go_wp2;go_ret;exact⟨by first|rfl| (simp;done)| (simp;omega),rfl⟩
 ·rcases h with h| ⟨h,h'⟩|h
  all_goals
   go_enter func217,ntmps217;go_wp2;go_ret;exact⟨by first|rfl| (simp;done)| (simp;omega),rfl⟩
 ·rcases h with h| ⟨h,h'⟩| ⟨h,h'⟩| ⟨h,h'⟩|h| ⟨h,h'⟩
  all_goals
   try rw[h]
   go_enter func217,ntmps217;go_wp2;go_ret;exact⟨by first|rfl| (simp;done)| (simp;omega),rfl⟩
theorem Ed(b:UInt8)(w:World):Calls Tryz.prog 216 #[.int .u8 b.toNat] w fun e w'=>e= .returned (.bool (cls 1 b))∧w=w':=by
 unfold cls;rcases E7 b.toNat with⟨hc,h⟩| ⟨hc,h⟩| ⟨hc,h⟩| ⟨hc,h⟩| ⟨hc,h⟩
 all_goals rw[hc]
 ·rcases h with h|h
  all_goals
   rw[h];go_enter func216,ntmps216;go_wp2;go_ret;exact⟨by first|rfl| (simp;done)| (simp;omega),rfl⟩
 ·rcases h with h| ⟨h,h'⟩| ⟨h,h'⟩
  ·rw[h];go_enter func216,ntmps216;go_wp2;go_ret;exact⟨by first|rfl| (simp;done)| (simp;omega),rfl⟩
  all_goals
   go_enter func216,ntmps216;go_wp2;go_ret;exact⟨by first|rfl| (simp;done)| (simp;omega),rfl⟩
 ·obtain⟨h,h'⟩:=h;go_enter func216,ntmps216;go_wp2;go_ret;exact⟨by first|rfl| (simp;done)| (simp;omega),rfl⟩
 ·rcases h with h| ⟨h,h'⟩|h
  all_goals
   go_enter func216,ntmps216;go_wp2;go_ret;exact⟨by first|rfl| (simp;done)| (simp;omega),rfl⟩
 ·rcases h with h| ⟨h,h'⟩| ⟨h,h'⟩| ⟨h,h'⟩|h| ⟨h,h'⟩
  all_goals
   try rw[h]
   go_enter func216,ntmps216;go_wp2;go_ret;exact⟨by first|rfl| (simp;done)| (simp;omega),rfl⟩
theorem OK(y:Int)(h0:0≤y)(h1:y≤100000)(w:World):Calls Tryz.prog 282 #[.int .i64 y] w fun e w'=>e= .returned (.bool (Cm y))∧w'=w:=by
 have b4:=Int.tmod_lt_of_pos y (b:=4) (by decide);have b100:=Int.tmod_lt_of_pos y (b:=100) (by decide);have b400:=Int.tmod_lt_of_pos y (b:=400) (by decide);have c4:=Int.tmod_nonneg (a:=y) 4 h0;have c100:=Int.tmod_nonneg (a:=y) 100 h0;have c400:=Int.tmod_nonneg (a:=y) 400 h0;have hl:Cm y=((y.tmod 4==0)&&(y.tmod 100 !=0)||(y.tmod 400==0)):=by
  unfold Cm;by_cases h:y.tmod 400=0
  ·have h4 : y.tmod 4 = 0 := by
    have e:y=400*(y.tdiv 400)+y.tmod 400:=(Int.mul_tdiv_add_tmod y 400).symm;rw[h]at e;rw[e,Int.tmod_eq_emod_of_nonneg (by omega)];omega
   simp[h,h4]
  ·have hf:(y.tmod 400==0)=false:=by simpa using h
   rw[hf];simp
 rw[hl];generalize e4:y.tmod 4=a at*;generalize e100:y.tmod 100=b at*;generalize e400:y.tmod 400=c at*;clear hl;by_cases h4:a=0
 ·by_cases h100:b=0
  ·go_enter func282,ntmps282;go_wp2;go_ret;exact⟨by simp[h4,h100],rfl⟩
  ·go_enter func282,ntmps282;go_wp2;go_ret;exact⟨by simp[h4,h100],rfl⟩
 ·go_enter func282,ntmps282;go_wp2;go_ret;exact⟨by simp[h4],rfl⟩
theorem FM(y m:Int)(h0:0≤y)(h1:y≤100000)(hm0:1≤m)(hm1:m≤12)(w:World):Calls Tryz.prog 249 #[.int .i64 y,.int .i64 m] w fun e w'=>e= .returned (.int .i64 (AW y m))∧w'=w:=by
 have hm:m=1∨m=2∨m=3∨m=4∨m=5∨m=6∨m=7∨m=8∨m=9∨m=10∨m=11∨m=12:=by omega
 rcases hm with rfl|rfl|rfl|rfl|rfl|rfl|rfl|rfl|rfl|rfl|rfl|rfl
 case inr.inl=>
  go_enter func249,ntmps249;go_wp2_with fail;refine(OK y h0 h1 _).mono ?_;rintro e w1 ⟨rfl,rfl⟩;cases hl:Cm y with
  | true=>
    go_wp2;go_ret;exact⟨by simp[AW,hl],rfl⟩
  | false=>
    go_wp2;go_ret;exact⟨by simp[AW,hl],rfl⟩
 all_goals
  go_enter func249,ntmps249;go_wp2;go_ret;exact⟨rfl,rfl⟩
theorem Fc(y m d:Int)(hy0:0≤y)(hy1:y≤9999)(hm0:0≤m)(hm1:m≤99)(hd0:0≤d)(hd1:d≤99)(w:World):
 Calls Tryz.prog 215 #[.int .i64 y,.int .i64 m,.int .i64 d] w fun e w'=>e= .returned (.tuple #[.int .i64 (AH y m d).1,.int .i64 (AH y m d).2])∧w'=w:=by
 by_cases h1:y<1
 ·have hB:AH y m d=(0,1):=by simp[AH,Ca,h1]
  rw[hB];go_enter func215,ntmps215;go_wp2;exact bodyPost_ret (v:= .tuple #[_,_]) (by simp[results,results215,go_sem];try(congr 1;omega)) rfl ⟨rfl,rfl⟩
 by_cases h2:m<1
 ·have hB:AH y m d=(0,1):=by simp[AH,Ca,h2]
  rw[hB];go_enter func215,ntmps215;go_wp2;exact bodyPost_ret (v:= .tuple #[_,_]) (by simp[results,results215,go_sem];try(congr 1;omega)) rfl ⟨rfl,rfl⟩
 by_cases h3:12<m
 ·have hB:AH y m d=(0,1):=by simp[AH,Ca,h3]
  rw[hB];go_enter func215,ntmps215;go_wp2;exact bodyPost_ret (v:= .tuple #[_,_]) (by simp[results,results215,go_sem];try(congr 1;omega)) rfl ⟨rfl,rfl⟩
 by_cases h4:d<1
 ·have hB:AH y m d=(0,1):=by simp[AH,Ca,h4]
  rw[hB];go_enter func215,ntmps215;go_wp2;exact bodyPost_ret (v:= .tuple #[_,_]) (by simp[results,results215,go_sem];try(congr 1;omega)) rfl ⟨rfl,rfl⟩
 have hml:=Ew y m (by omega) (by omega);by_cases h5:AW y m<d
 ·have hB:AH y m d=(0,1):=by simp[AH,Ca,h5]
  rw[hB];go_enter func215,ntmps215;go_wp2_with fail;refine(FM y m (by omega) (by omega) (by omega) (by omega) _).mono ?_;rintro e w1 ⟨rfl,rfl⟩;go_wp2;exact bodyPost_ret (v:= .tuple #[_,_]) (by simp[results,results215,go_sem];try(congr 1;omega)) rfl ⟨rfl,rfl⟩
 have hB:AH y m d=(Ak y+d+Ap y (m-1).toNat,0):=by simp[AH,Ca,h1,h2,h3,h4,h5];omega
 rw[hB];clear hB;have b4:(y-1).tdiv 4=(y-1)/4:=Int.tdiv_eq_ediv_of_nonneg (by omega);have b100:(y-1).tdiv 100=(y-1)/100:=Int.tdiv_eq_ediv_of_nonneg (by omega);have b400:(y-1).tdiv 400=(y-1)/400:=Int.tdiv_eq_ediv_of_nonneg (by omega);have hY:Ak y=365*(y-1)+(y-1).tdiv 4-(y-1).tdiv 100+(y-1).tdiv 400:=rfl;have q4:0≤(y-1).tdiv 4∧(y-1).tdiv 4≤9999:=by omega
 have q100:0≤(y-1).tdiv 100∧(y-1).tdiv 100≤9999:=by omega
 have q400:0≤(y-1).tdiv 400∧(y-1).tdiv 400≤9999:=by omega
 rw[b4,b100,b400]at hY;have HY:=O hY;clear hY b4 b100 b400 q4 q100 q400;go_enter func215,ntmps215;go_wp2_with fail;refine(FM y m (by omega) (by omega) (by omega) (by omega) _).mono ?_;rintro e w1 ⟨rfl,rfl⟩;go_wp2_with fail;generalize hM:(m-1).toNat=M at*;go_loopg [8,9] M (fun g v8 v9 wr=>∃k:Nat,k+g=M∧v8= .int .i64 (d+Ap y k)∧v9= .int .i64 (k+1)∧wr=w1)
 case atStart=>exact⟨0,by omega,by simp[Ap],rfl,rfl⟩
 case round=>
  obtain⟨k,hk,rfl,rfl,rfl⟩:=hrel;have hbl:=Fe y k (by omega);cases gk with
  | zero=>
    have hkM:k=M:=by omega
    subst hkM;have HB:=O (show Ap y (m.toNat-1)=Ap y k by congr 1;omega);go_wp2;exact bodyPost_ret (v:= .tuple #[_,_]) (by simp[results,results215,go_sem];rw[HY.out,HB.out];omega) rfl ⟨rfl,rfl⟩
  | succ gk=>
    go_wp2_with fail;refine(FM y (k+1) (by omega) (by omega) (by omega) (by omega) _).mono ?_;rintro e w3 ⟨rfl,rfl⟩;have hm2:=Ew y (k+1) (by omega) (by omega);go_wp2_with fail;go_roundg gk
    case measure=>omega
    case rel=>exact⟨k+1,by omega,by simp[Ap];omega,by simp,rfl⟩
abbrev tok0:Value:= .agg #[.int .i64 0,.int .i64 0,str []]
def MZ(w:World)(b:Nat)(s:Bs)(i:Nat)(line begun:Bool)(bad:Int)(t:Tok)(most:Nat)(e:Ending)(w':World):Prop:=
 w.grownBy w' (some b)∧if most<t.text.length then e= .returned (.bool false)∧Sc w' b s i line begun t.pos else e= .returned (.bool true)∧Sc w' b s i line begun bad
theorem IH{w:World}{b:Nat}{s:Bs}{i:Nat}{line begun:Bool}{bad:Int}(h:Sc w b s i line begun bad)(t:Tok)(most:Nat):
 Calls Tryz.prog 198 #[.pointer (some ⟨b,0,none⟩),AY t,.int .i64 most] w (MZ w b s i line begun bad t most):=by
 have hb:=h.lt;have f1:=h.fr 260;have c260:=h.c260;by_cases hl:most<t.text.length
 ·have HP:=O hl;have hl1:decide (most<t.text.length)=true:=by simpa using hl
  clear hl;go_enter func198,ntmps198;go_wp2;go_ret;exact⟨(by repeat(first| (with_reducible exact Ac _ _)| (with_reducible assumption)| (with_reducible exact AU (by assumption))| (with_reducible refine Ad ?_ _)| (with_reducible refine Am ?_)| (with_reducible refine A3 ?_ _)| ((with_reducible refine Ay ?_ _ _ ?h2);case h2=>first|exact .inl rfl|exact .inr (Nat.le_refl _)|exact .inr (by simp<;>omega))| (with_reducible refine Ah ?_ (by assumption))| (with_reducible refine Aa ?_ (by assumption)))),by rw[if_pos HP.out];exact⟨rfl,(h.setBad _).alloc _⟩⟩
 ·have HP:=O hl;have hl1:decide (most<t.text.length)=false:=by simpa using hl
  clear hl;go_enter func198,ntmps198;go_wp2;go_ret;exact⟨(by repeat(first| (with_reducible exact Ac _ _)| (with_reducible assumption)| (with_reducible exact AU (by assumption))| (with_reducible refine Ad ?_ _)| (with_reducible refine Am ?_)| (with_reducible refine A3 ?_ _)| ((with_reducible refine Ay ?_ _ _ ?h2);case h2=>first|exact .inl rfl|exact .inr (Nat.le_refl _)|exact .inr (by simp<;>omega))| (with_reducible refine Ah ?_ (by assumption))| (with_reducible refine Aa ?_ (by assumption)))),by rw[if_neg HP.out];exact⟨rfl,h.alloc _⟩⟩
def Qp(w:World)(b:Nat)(s:Bs)(i:Nat)(line:Bool)(bad:Int)(e:Ending)(w':World):Prop:=
 w.grownBy w' (some b)∧Sc w' b s (if i<s.length then i+1 else i) false false bad∧
  e= .returned (.tuple #[if line then AY ⟨5,i,[]⟩else tok0,.bool (line||!decide (i<s.length))])
theorem H9{w:World}{b:Nat}{s:Bs}{i:Nat}{line:Bool}{bad:Int}(h:Sc w b s i line line bad):
 Calls Tryz.prog 153 #[.pointer (some ⟨b,0,none⟩)] w (Qp w b s i line bad):=by
 have hb:=h.lt;have hf:=h.few;have c0:=h.c0;have c1:=h.c1;have c258:=h.c258;have c259:=h.c259;have f1:=h.fr 1;have f258:=h.fr 258;have f259:=h.fr 259;by_cases hl:i<s.length
 ·have HP:=O hl;have hl1:((i:Int)==(s.length:Int))=false:=by simp;omega
  cases line with
  | true=>
    go_enter func153,ntmps153;go_wp2;go_quiet(fail);go_wp2;refine bodyPost_ret (v:= .tuple #[AY ⟨5,i,[]⟩,.bool true]) (by simp[results,results153,go_sem]) rfl ⟨(by repeat(first| (with_reducible exact Ac _ _)| (with_reducible assumption)| (with_reducible exact AU (by assumption))| (with_reducible refine Ad ?_ _)| (with_reducible refine Am ?_)| (with_reducible refine A3 ?_ _)| ((with_reducible refine Ay ?_ _ _ ?h2);case h2=>first|exact .inl rfl|exact .inr (Nat.le_refl _)|exact .inr (by simp<;>omega))| (with_reducible refine Ah ?_ (by assumption))| (with_reducible refine Aa ?_ (by assumption)))),?_,by simp⟩;rw[if_pos HP.out];exact(by repeat(first| (with_reducible assumption)| (with_reducible apply Sc.alloc)| (with_reducible apply Sc.drew)| (with_reducible apply Sc.drewN)| (with_reducible apply Sc.setLine)| (with_reducible apply Sc.setBegun)| (with_reducible apply Sc.setBad)| (with_reducible apply Sc.go)| (with_reducible apply Sc.set_other)|omega| (simp<;>omega)))
  | false=>
    go_enter func153,ntmps153;go_wp2;go_quiet(fail);go_wp2;refine bodyPost_ret (v:= .tuple #[tok0,.bool false]) (by simp[results,results153,go_sem]) rfl ⟨(by repeat(first| (with_reducible exact Ac _ _)| (with_reducible assumption)| (with_reducible exact AU (by assumption))| (with_reducible refine Ad ?_ _)| (with_reducible refine Am ?_)| (with_reducible refine A3 ?_ _)| ((with_reducible refine Ay ?_ _ _ ?h2);case h2=>first|exact .inl rfl|exact .inr (Nat.le_refl _)|exact .inr (by simp<;>omega))| (with_reducible refine Ah ?_ (by assumption))| (with_reducible refine Aa ?_ (by assumption)))),?_,by simp[HP.out]⟩;rw[if_pos HP.out];exact(by repeat(first| (with_reducible assumption)| (with_reducible apply Sc.alloc)| (with_reducible apply Sc.drew)| (with_reducible apply Sc.drewN)| (with_reducible apply Sc.setLine)| (with_reducible apply Sc.setBegun)| (with_reducible apply Sc.setBad)| (with_reducible apply Sc.go)| (with_reducible apply Sc.set_other)|omega| (simp<;>omega)))
 ·have HP:=O hl;have hl1:((i:Int)==(s.length:Int))=true:=by have:=h.le;simp;omega
  cases line with
  | true=>
    go_enter func153,ntmps153;go_wp2;go_quiet(fail);go_wp2;refine bodyPost_ret (v:= .tuple #[AY ⟨5,i,[]⟩,.bool true]) (by simp[results,results153,go_sem]) rfl ⟨(by repeat(first| (with_reducible exact Ac _ _)| (with_reducible assumption)| (with_reducible exact AU (by assumption))| (with_reducible refine Ad ?_ _)| (with_reducible refine Am ?_)| (with_reducible refine A3 ?_ _)| ((with_reducible refine Ay ?_ _ _ ?h2);case h2=>first|exact .inl rfl|exact .inr (Nat.le_refl _)|exact .inr (by simp<;>omega))| (with_reducible refine Ah ?_ (by assumption))| (with_reducible refine Aa ?_ (by assumption)))),?_,by simp⟩;rw[if_neg HP.out];exact(by repeat(first| (with_reducible assumption)| (with_reducible apply Sc.alloc)| (with_reducible apply Sc.drew)| (with_reducible apply Sc.drewN)| (with_reducible apply Sc.setLine)| (with_reducible apply Sc.setBegun)| (with_reducible apply Sc.setBad)| (with_reducible apply Sc.go)| (with_reducible apply Sc.set_other)|omega| (simp<;>omega)))
  | false=>
    go_enter func153,ntmps153;go_wp2;go_quiet(fail);go_wp2;refine bodyPost_ret (v:= .tuple #[tok0,.bool true]) (by simp[results,results153,go_sem]) rfl ⟨(by repeat(first| (with_reducible exact Ac _ _)| (with_reducible assumption)| (with_reducible exact AU (by assumption))| (with_reducible refine Ad ?_ _)| (with_reducible refine Am ?_)| (with_reducible refine A3 ?_ _)| ((with_reducible refine Ay ?_ _ _ ?h2);case h2=>first|exact .inl rfl|exact .inr (Nat.le_refl _)|exact .inr (by simp<;>omega))| (with_reducible refine Ah ?_ (by assumption))| (with_reducible refine Aa ?_ (by assumption)))),?_,by simp[HP.out]⟩;rw[if_neg HP.out];exact(by repeat(first| (with_reducible assumption)| (with_reducible apply Sc.alloc)| (with_reducible apply Sc.drew)| (with_reducible apply Sc.drewN)| (with_reducible apply Sc.setLine)| (with_reducible apply Sc.setBegun)| (with_reducible apply Sc.setBad)| (with_reducible apply Sc.go)| (with_reducible apply Sc.set_other)|omega| (simp<;>omega)))
def Fl(w:World)(b:Nat)(s:Bs)(i:Nat)(line begun:Bool)(bad:Int)(e:Ending)(w':World):Prop:=
 w.grownBy w' (some b)∧if BT s (AP s (i+1))then(match Bp s (AP s (i+1))with
  |some k=>e= .returned (.tuple #[.bool true,.bool false])∧∃j,Sc w' b s j line begun k
  |none=>e= .returned (.tuple #[.bool true,.bool true])∧Sc w' b s (B0 s (AP s (i+1))) line begun bad)
  else e= .returned (.tuple #[.bool false,.bool true])∧Sc w' b s i line begun bad
theorem Gc(s:Bs)(k:Nat)(p:Bs){r:Bool}(hr:p.isPrefixOf (s.drop k)=r)(w:World):
 Calls Tryz.prog 154 #[.string ((⟨s.toArray⟩:ByteArray).extract k s.length),.string ⟨p.toArray⟩] w fun e w'=>e= .returned (.bool r)∧w=w':=by
 subst hr;refine(strings_HasPrefix _ _ _).mono ?_;rintro e w' ⟨rfl,rfl⟩;rw[Fy];exact⟨rfl,rfl⟩
section
variable {w w':World}{b:Nat}{s:Bs}{i k j q:Nat}{line begun:Bool}{bad:Int}
theorem Ec(hk:k=AP s (i+1))(hg:BT s k=true)(hc:Bp s k=none)(hj:B0 s k=j)(g:w.grownBy w' (some b))(hs:Sc w' b s j line begun bad):
 Fl w b s i line begun bad (.returned (.tuple #[.bool true,.bool true])) w':=by
 subst hk hj;refine⟨g,?_⟩;rw[if_pos hg,hc];exact⟨rfl,hs⟩
theorem F8(hk:k=AP s (i+1))(hg:BT s k=true)(hc:Bp s k=some q)(g:w.grownBy w' (some b))(hs:Sc w' b s j line begun q):
 Fl w b s i line begun bad (.returned (.tuple #[.bool true,.bool false])) w':=by
 subst hk;refine⟨g,?_⟩;rw[if_pos hg,hc];exact⟨rfl,j,hs⟩
theorem KV(hk:k=AP s (i+1))(hg:BT s k=false)(g:w.grownBy w' (some b))(hs:Sc w' b s i line begun bad):
 Fl w b s i line begun bad (.returned (.tuple #[.bool false,.bool true])) w':=by
 subst hk;refine⟨g,?_⟩;rw[if_neg (by rw[hg];simp)];exact⟨rfl,hs⟩
end
theorem GZ{w:World}{b:Nat}{s:Bs}{i:Nat}{line begun:Bool}{bad:Int}(h:Sc w b s i line begun bad)(hi:i<s.length):
 Calls Tryz.prog 156 #[.pointer (some ⟨b,0,none⟩)] w (Fl w b s i line begun bad):=by
 have c0:=h.c0;have c1:=h.c1;have hf:=h.few;have hb:=h.lt;go_enter func156,ntmps156;go_wp2_with fail;go_loopg [4] (s.length-(i+1)) (fun g v4 wr=>∃k:Nat,k+g=s.length∧v4= .int .i64 k∧Sc wr b s i line begun bad∧AP s k=AP s (i+1)∧w.grownBy wr none)
 case atStart=>exact⟨i+1,by omega,by simp,h,rfl,Ac _ _⟩
 case round=>
  obtain⟨k,hk,rfl,hs,hq,g⟩:=hrel;have HQ:=O hq;clear hq c0 c1 hb;have hb:=hs.lt;cases hc:(decide (k<s.length)&&cls 3 (bAt s k))with
  | true=>
    simp only[Bool.and_eq_true,decide_eq_true_eq]at hc;cases gk with
    |zero=>omega
    |succ gk=>
    have HC:=O hc.2;have hkl:=hc.1;clear hc h;go_wp2_with fail;refine(BG hs k 3 (r:=true) (by simp[hkl,HC.out])).mono ?_;rintro e w1 ⟨rfl,g1⟩;have hs1:=hs.gbN g1;go_wp2;go_roundg gk
    case measure=>omega
    case rel=>exact⟨k+1,by omega,by simp,hs1,by rw[←HQ.out];exact(BO hkl HC.out).symm,Ah g g1⟩
  | false=>
    have HC:=O hc;clear hc h;go_wp2_with fail;refine(BG hs k 3 (r:=false) HC.out).mono ?_;rintro e w1 ⟨rfl,g1⟩;have hs1:=hs.gbN g1;have hk2:AP s k=k:=by
     have h2:=HC.out;by_cases hkl:k<s.length
     ·exact Cz hkl (by simpa[hkl]using h2)
     ·exact CC (by omega)
    have HK:=O (hk2.symm.trans HQ.out);clear hk2;have c0:=hs1.c0;have c1:=hs1.c1;have f1:=hs1.fr 1;have hb1:=hs1.lt;by_cases hkl:k<s.length
    ·have hl1:((k:Int)==(s.length:Int))=false:=by simp;omega
     have hg:=fun h=>Cr s k h hkl;have hkl2:k≤s.length:=by omega
     cases h10:((bAt s k).toNat:Int)==10 with
     | true=>
       have HG:=O (show BT s k=true by
        have h2:bAt s k=10:=by simp at h10;apply UInt8.toNat_inj.1;simpa using(by omega:(bAt s k).toNat=10)
        simp[BT,h2])
       have hs2:=hs1.go (k:Int) k rfl hkl2;go_wp2_with fail;refine(Eb hs2).mono ?_;rintro e w2 ⟨g2,h2⟩;have g12:w1.grownBy w2 (some b):=Aa (Ay (Ac _ _) _ _ (.inl rfl)) g2;cases hcm:Bp s k with
       | some j=>
         have HM:=O hcm;rw[hcm]at h2;clear hcm;obtain⟨rfl,j',hs3⟩:=h2;go_wp2;exact bodyPost_ret (v:= .tuple #[.bool true,.bool false]) (by simp[results,results156,go_sem]) rfl (F8 HK.out HG.out HM.out (Aa (AU (Ah g g1)) g12) hs3)
       | none=>
         have HM:=O hcm;rw[hcm]at h2;clear hcm;obtain⟨rfl,hs3⟩:=h2;have d0:=hs3.c0;have d1:=hs3.c1;have e1:=hs3.fr 1;have hb3:=hs3.lt;by_cases hle:An s k<s.length
         ·have hl3:decide (An s k<s.length)=true:=by simpa using hle
          have HN:=O (show B0 s k=An s k+1 by unfold B0;rw[if_pos hle]);generalize An s k=q at*;go_wp2;go_quiet(fail);go_wp2;exact bodyPost_ret (v:= .tuple #[.bool true,.bool true]) (by simp[results,results156,go_sem]) rfl (Ec (j:=q+1) HK.out HG.out HM.out HN.out (Ay (A3 (Aa (AU (Ah g g1)) g12) _) _ _ (.inl rfl)) (by repeat(first| (with_reducible assumption)| (with_reducible apply Sc.alloc)| (with_reducible apply Sc.drew)| (with_reducible apply Sc.drewN)| (with_reducible apply Sc.setLine)| (with_reducible apply Sc.setBegun)| (with_reducible apply Sc.setBad)| (with_reducible apply Sc.go)| (with_reducible apply Sc.set_other)|omega| (simp<;>omega))))
         ·have hl3:decide (An s k<s.length)=false:=by simpa using hle
          have HN:=O (show B0 s k=An s k by unfold B0;rw[if_neg hle]);generalize An s k=q at*;go_wp2;go_quiet(fail);go_wp2;exact bodyPost_ret (v:= .tuple #[.bool true,.bool true]) (by simp[results,results156,go_sem]) rfl (Ec (j:=q) HK.out HG.out HM.out HN.out (A3 (Aa (AU (Ah g g1)) g12) _) (by repeat(first| (with_reducible assumption)| (with_reducible apply Sc.alloc)| (with_reducible apply Sc.drew)| (with_reducible apply Sc.drewN)| (with_reducible apply Sc.setLine)| (with_reducible apply Sc.setBegun)| (with_reducible apply Sc.setBad)| (with_reducible apply Sc.go)| (with_reducible apply Sc.set_other)|omega| (simp<;>omega))))
     | false=>
       cases ha:Dy s k with
       | true=>
         have HG:=O (show BT s k=true by simp[BT,ha]);have hkI:decide ((k:Int)≤s.length)=true:=by simp;omega
         go_wp2_with fail;refine(Gc s k [38,38] (r:=true) ha _).mono ?_;rintro e w0 ⟨rfl,rfl⟩;have hs2:=hs1.go (k:Int) k rfl hkl2;go_wp2_with fail;refine(Eb hs2).mono ?_;rintro e w2 ⟨g2,h2⟩;have g12:w1.grownBy w2 (some b):=Aa (Ay (Ac _ _) _ _ (.inl rfl)) g2;cases hcm:Bp s k with
         | some j=>
           have HM:=O hcm;rw[hcm]at h2;clear hcm;obtain⟨rfl,j',hs3⟩:=h2;go_wp2;exact bodyPost_ret (v:= .tuple #[.bool true,.bool false]) (by simp[results,results156,go_sem]) rfl (F8 HK.out HG.out HM.out (Aa (AU (Ah g g1)) g12) hs3)
         | none=>
           have HM:=O hcm;rw[hcm]at h2;clear hcm;obtain⟨rfl,hs3⟩:=h2;have d0:=hs3.c0;have d1:=hs3.c1;have e1:=hs3.fr 1;have hb3:=hs3.lt;by_cases hle:An s k<s.length
           ·have hl3:decide (An s k<s.length)=true:=by simpa using hle
            have HN:=O (show B0 s k=An s k+1 by unfold B0;rw[if_pos hle]);generalize An s k=q at*;go_wp2;go_quiet(fail);go_wp2;exact bodyPost_ret (v:= .tuple #[.bool true,.bool true]) (by simp[results,results156,go_sem]) rfl (Ec (j:=q+1) HK.out HG.out HM.out HN.out (Ay (A3 (Aa (AU (Ah g g1)) g12) _) _ _ (.inl rfl)) (by repeat(first| (with_reducible assumption)| (with_reducible apply Sc.alloc)| (with_reducible apply Sc.drew)| (with_reducible apply Sc.drewN)| (with_reducible apply Sc.setLine)| (with_reducible apply Sc.setBegun)| (with_reducible apply Sc.setBad)| (with_reducible apply Sc.go)| (with_reducible apply Sc.set_other)|omega| (simp<;>omega))))
           ·have hl3:decide (An s k<s.length)=false:=by simpa using hle
            have HN:=O (show B0 s k=An s k by unfold B0;rw[if_neg hle]);generalize An s k=q at*;go_wp2;go_quiet(fail);go_wp2;exact bodyPost_ret (v:= .tuple #[.bool true,.bool true]) (by simp[results,results156,go_sem]) rfl (Ec (j:=q) HK.out HG.out HM.out HN.out (A3 (Aa (AU (Ah g g1)) g12) _) (by repeat(first| (with_reducible assumption)| (with_reducible apply Sc.alloc)| (with_reducible apply Sc.drew)| (with_reducible apply Sc.drewN)| (with_reducible apply Sc.setLine)| (with_reducible apply Sc.setBegun)| (with_reducible apply Sc.setBad)| (with_reducible apply Sc.go)| (with_reducible apply Sc.set_other)|omega| (simp<;>omega))))
       | false=>
         have HG:=O (show BT s k=false by
          have h2:bAt s k≠10:=by rintro e;rw[e]at h10;simp at h10
          simp[BT,ha,h2];omega)
         have hkI:decide ((k:Int)≤s.length)=true:=by simp;omega
         go_wp2_with fail;refine(Gc s k [38,38] (r:=false) ha _).mono ?_;rintro e w0 ⟨rfl,rfl⟩;go_wp2;exact bodyPost_ret (v:= .tuple #[.bool false,.bool true]) (by simp[results,results156,go_sem]) rfl (KV HK.out HG.out (AU (Ah g g1)) hs1)
    ·have hl1:((k:Int)==(s.length:Int))=true:=by simp;omega
     have hkl2:k≤s.length:=by omega
     have HG:=O (show BT s k=true by simp[BT];left;omega);have hs2:=hs1.go (k:Int) k rfl hkl2;go_wp2_with fail;refine(Eb hs2).mono ?_;rintro e w2 ⟨g2,h2⟩;have g12:w1.grownBy w2 (some b):=Aa (Ay (Ac _ _) _ _ (.inl rfl)) g2;cases hcm:Bp s k with
     | some j=>
       have HM:=O hcm;rw[hcm]at h2;clear hcm;obtain⟨rfl,j',hs3⟩:=h2;go_wp2;exact bodyPost_ret (v:= .tuple #[.bool true,.bool false]) (by simp[results,results156,go_sem]) rfl (F8 HK.out HG.out HM.out (Aa (AU (Ah g g1)) g12) hs3)
     | none=>
       have HM:=O hcm;rw[hcm]at h2;clear hcm;obtain⟨rfl,hs3⟩:=h2;have d0:=hs3.c0;have d1:=hs3.c1;have e1:=hs3.fr 1;have hb3:=hs3.lt;by_cases hle:An s k<s.length
       ·have hl3:decide (An s k<s.length)=true:=by simpa using hle
        have HN:=O (show B0 s k=An s k+1 by unfold B0;rw[if_pos hle]);generalize An s k=q at*;go_wp2;go_quiet(fail);go_wp2;exact bodyPost_ret (v:= .tuple #[.bool true,.bool true]) (by simp[results,results156,go_sem]) rfl (Ec (j:=q+1) HK.out HG.out HM.out HN.out (Ay (A3 (Aa (AU (Ah g g1)) g12) _) _ _ (.inl rfl)) (by repeat(first| (with_reducible assumption)| (with_reducible apply Sc.alloc)| (with_reducible apply Sc.drew)| (with_reducible apply Sc.drewN)| (with_reducible apply Sc.setLine)| (with_reducible apply Sc.setBegun)| (with_reducible apply Sc.setBad)| (with_reducible apply Sc.go)| (with_reducible apply Sc.set_other)|omega| (simp<;>omega))))
       ·have hl3:decide (An s k<s.length)=false:=by simpa using hle
        have HN:=O (show B0 s k=An s k by unfold B0;rw[if_neg hle]);generalize An s k=q at*;go_wp2;go_quiet(fail);go_wp2;exact bodyPost_ret (v:= .tuple #[.bool true,.bool true]) (by simp[results,results156,go_sem]) rfl (Ec (j:=q) HK.out HG.out HM.out HN.out (A3 (Aa (AU (Ah g g1)) g12) _) (by repeat(first| (with_reducible assumption)| (with_reducible apply Sc.alloc)| (with_reducible apply Sc.drew)| (with_reducible apply Sc.drewN)| (with_reducible apply Sc.setLine)| (with_reducible apply Sc.setBegun)| (with_reducible apply Sc.setBad)| (with_reducible apply Sc.go)| (with_reducible apply Sc.set_other)|omega| (simp<;>omega))))
end Go.Proofs.YtgjdhajcnechdaaGreatDoor
