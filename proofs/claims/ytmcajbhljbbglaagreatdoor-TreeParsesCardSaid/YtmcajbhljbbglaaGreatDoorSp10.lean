/-
  The lexer: classes of bytes.
-/
import Derived.Test.YtmcajbhljbbglaaGreatDoorSpF
import Derived.Test.YtmcajbhljbbglaaGreatDoorSp07
import Derived.Laws.Rows
set_option linter.all false
set_option maxRecDepth 100000
set_option maxHeartbeats 8000000
namespace Go.Proofs.YtmcajbhljbbglaaGreatDoor
open Tryz
open Go.RowKit
theorem Us(k:Nat)(hk:k<256):(AU k).set k (.int .u8 (Cl k))=AU (k+1):=by
 apply List.ext_getElem?;intro j;by_cases hj:j<256
 ·rw[List.getElem?_set];rw[Md _ _ hj];by_cases e:k=j
  ·subst e;simp[AU,hk]
  ·rw[if_neg e,Md _ _ hj];have:(j<k+1)=(j<k):=by apply propext;omega
   simp[this]
 ·rw[List.getElem?_eq_none (by simp[AU];omega),List.getElem?_eq_none (by simp[AU];omega)]
theorem lK(k:Nat)(hk:k<256)(h0:Cl k=0):AU k=AU (k+1):=by
 rw[←Us k hk,h0];apply List.ext_getElem?;intro j;rw[List.getElem?_set];by_cases e:k=j
 ·subst e;simp[AU,hk]
 ·simp[e]
theorem mP:(Tryz.prog.info? 83).map (fun i=>(i.size,i.bytes))=some (256,256):=Bk
theorem vF{w w1:World}{r:Option Nat}(h:w.grownBy w1 r)(k:Nat)(cs:Array Value)(hk:w.heap.size≤k):w.grownBy (w1.setRow k cs) r:=by
 refine⟨h.os,h.tape,h.output,by simpa using h.size,fun i hi hr=>?_⟩;rw[←h.block i hi hr];have hne:k≠i:=Ab;simp[World.setRow,Array.getElem?_modify,hne]
theorem sK:∃n e,Tryz.prog.underlying 83=some (.array n e):=by
 have h:(match(Tryz.prog.underlying 83)with|some (.array _ _)=>true|_=>false)=true:=Bk;cases hu:Tryz.prog.underlying 83 with
 |none=>rw[hu]at h;cases h
 | some d=>
   rw[hu]at h;cases d with
   |array n e=>exact⟨n,e,rfl⟩
   |_=>cases h
theorem Wy:(Tryz.prog.info? 83).map (·.size)=some (AU 256).toArray.size:=by
 have h1:=mP;cases hq:Tryz.prog.info? 83 with
 |none=>rw[hq]at h1;simp at h1
 |some i=>rw[hq]at h1;simp at h1;simp[AU,h1.1]
theorem I2(k:Nat):(Cl k=3∧(k=9∨k=32))∨(Cl k=1∧(k=95∨(97≤k∧k≤122)∨(65≤k∧k≤90)))∨(Cl k=2∧48≤k∧k≤57)∨(Cl k=4∧(k<9∨(10<k∧k<32)∨126<k))∨
 (Cl k=0∧(k=10∨(32<k∧k<48)∨(57<k∧k<65)∨(90<k∧k<95)∨k=96∨(122<k∧k≤126))):=by
 unfold Cl;(repeat' split)<;>simp<;>omega
def PS(w:World)(g:Nat)(v4:Value)(wr:World):Prop:=∃k:Nat,k+g=256∧v4= .int .i64 k∧Blk wr (w.heap.size+1) (AU k) 83∧Blk wr w.heap.size (AU 0) 83∧w.grownBy wr none
theorem Ml{w wr:World}{k g:Nat}{c:Int}(hk:k+(g+1)=256)(hc:Cl k=c)(hL:Blk wr (w.heap.size+1) (AU k) 83)(hZ:Blk wr w.heap.size (AU 0) 83)(gr:w.grownBy wr none):
 PS w g (.int .i64 ((k:Int)+1)) (wr.setCell ⟨w.heap.size+1,k,none⟩ (.int .u8 c)):=
 ⟨k+1,by omega,by simp,(hL.set k _).of_eq rfl (by rw[←hc];exact Us k Ab),hZ.set_other _ _ Ae,A7 gr _ _ (.inr Ae)⟩
theorem m6{w wr:World}{k g:Nat}(hk:k+(g+1)=256)(hc:Cl k=0)(hL:Blk wr (w.heap.size+1) (AU k) 83)(hZ:Blk wr w.heap.size (AU 0) 83)(gr:w.grownBy wr none):
 PS w g (.int .i64 ((k:Int)+1)) wr:=
 ⟨k+1,by omega,by simp,hL.of_eq rfl (lK k Ab hc),hZ,gr⟩
theorem m5(w:World):Calls Tryz.prog 51 #[] w fun e w'=>e= .returned (.agg (AU 256).toArray)∧w.grownBy w' none:=by
 go_enter func51,ntmps51;go_wp2_with fail;have hz:zeroCells83=(AU 0).toArray:=Bk;have hA:Blk ((w.alloc (.cells (AU 0).toArray 83 (0,0))).alloc (.cells (AU 0).toArray 83 (0,0))) (w.heap.size+1) (AU 0) 83:=(Blk.new _ _ _).of_eq Ae rfl;have hB:Blk ((w.alloc (.cells (AU 0).toArray 83 (0,0))).alloc (.cells (AU 0).toArray 83 (0,0))) w.heap.size (AU 0) 83:=(Blk.new _ _ _).alloc _;have g0:w.grownBy ((w.alloc (.cells (AU 0).toArray 83 (0,0))).alloc (.cells (AU 0).toArray 83 (0,0))) none:=Ar (World.grownBy_alloc _ _ _) _;rw[hz];go_loopg [2,3,4] 256 (fun g v2 v3 v4 wr=>PS w g v4 wr)
 case atStart=>exact⟨0,rfl,rfl,hA,hB,g0⟩
 case round=>
  obtain⟨k,hk,rfl,hL,hZ,gr⟩:=hrel;clear hA hB g0;cases gk with
  | zero=>
    have e:k=256:=Ab;subst e;obtain⟨an,ae,H⟩:=sK;have H:=Z H;go_wp2_with fail;refine wp_load_row 83 (.tmp 1) rfl (w.heap.size+1) rfl 83 (AU 256).toArray (0,0) (.array an ae) hL H.out rfl Wy ?_;have HS:=Z Wy;have HL:=Z (Ac hL hZ);have h1:((AU 256).toArray.all (·.oneCell'))=true:=by simp[AU,Value.oneCell']
    have HO:=Z h1;have hzs:(AU 0).toArray.size=(AU 256).toArray.size:=by simp[AU]
    have HZ:=Z hzs;have HR:=Z (setRow_heap wr w.heap.size (AU 0).toArray (AU 256).toArray 83 (0,0) hZ);clear hL hZ h1 hzs;generalize hcc:(AU 256).toArray=cc at*;have HC:=Z hcc;clear hcc;go_wp2_with (refine wpList_store_row rfl 83 (.tmp 0) (.tmp 62) rfl w.heap.size cc rfl rfl 83 (AU 0).toArray HL.out.2 HS.out HZ.out HO.out ?_);refine bodyPost_ret (v:= .agg (AU 256).toArray) ?_ rfl ⟨rfl,vF gr _ _ (Nat.le_refl _)⟩;rw[HC.out];exact results_cell_row rfl _ _ w.heap.size 83 cc (0,0) (.array an ae) rfl HR.out H.out rfl HS.out
  | succ gk=>
    have ck:=(hL.cell k).trans (Md k k Ab);have fk:=hL.frozen k;have HL:=Z (Ac hL (Ac hZ gr));have HK:=Z hk;have hk2:k<256:=Ab;have hwr:w.heap.size+1<wr.heap.size:=hL.lt;clear hL hZ gr hk;rcases I2 k with⟨hc,h⟩| ⟨hc,h⟩| ⟨hc,h⟩| ⟨hc,h⟩| ⟨hc,h⟩
    ·have HR:=Z (Ml HK.out hc HL.out.1 HL.out.2.1 HL.out.2.2);clear hc HK HL;rcases h with rfl|rfl
     all_goals
      exact Ly
    ·have HR:=Z (Ml HK.out hc HL.out.1 HL.out.2.1 HL.out.2.2);clear hc HK HL;rcases h with rfl| ⟨h,h'⟩| ⟨h,h'⟩
     rotate_left 1;all_goals try
      have e9:((k:Int)==9)=false:=Ag;have e32:((k:Int)==32)=false:=Ag;have e95:((k:Int)==95)=false:=Ag;have i1:=Int.ofNat_le.2 h;have i2:=Int.ofNat_le.2 h';simp only[Int.cast_ofNat_Int]at i1 i2;clear h h'
     all_goals
      exact Ly
    ·have HR:=Z (Ml HK.out hc HL.out.1 HL.out.2.1 HL.out.2.2);clear hc HK HL;obtain⟨h,h'⟩:=h;have e9:((k:Int)==9)=false:=Ag;have e32:((k:Int)==32)=false:=Ag;have e95:((k:Int)==95)=false:=Ag;have i1:=Int.ofNat_le.2 h;have i2:=Int.ofNat_le.2 h';simp only[Int.cast_ofNat_Int]at i1 i2;clear h h';exact Ly
    ·have HR:=Z (Ml HK.out hc HL.out.1 HL.out.2.1 HL.out.2.2);clear hc HK HL;have e9:((k:Int)==9)=false:=Ag;have e32:((k:Int)==32)=false:=Ag;have e95:((k:Int)==95)=false:=Ag;have e10:((k:Int) !=10)=true:=Ag;rcases h with h| ⟨h,h'⟩|h
     all_goals
      have i1:=Int.ofNat_lt.2 h;try have i2:=Int.ofNat_lt.2 h'
      simp only[Int.cast_ofNat_Int]at i1;try simp only[Int.cast_ofNat_Int]at i2
      clear h;exact Ly
    ·have HR:=Z (m6 HK.out hc HL.out.1 HL.out.2.1 HL.out.2.2);clear hc HK HL;rcases h with rfl| ⟨h,h'⟩| ⟨h,h'⟩| ⟨h,h'⟩|rfl| ⟨h,h'⟩
     all_goals try
      have e9:((k:Int)==9)=false:=Ag;have e32:((k:Int)==32)=false:=Ag;have e95:((k:Int)==95)=false:=Ag;have e10:((k:Int) !=10)=true:=Ag;have i1:=Int.ofNat_lt.2 h;have i2:(k:Int)<127∧(k:Int)≤126:=Ab;obtain⟨i2,i3⟩:=i2;simp only[Int.cast_ofNat_Int]at i1
     all_goals
      exact Ly
end Go.Proofs.YtmcajbhljbbglaaGreatDoor
