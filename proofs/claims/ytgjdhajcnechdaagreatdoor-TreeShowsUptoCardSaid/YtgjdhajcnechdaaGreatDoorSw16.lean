/-
  The reference's reader: end, name, sign, names. The lexer: classes of bytes. The lexer: the tables that ToUpper reads; signs, sign. The lexer: texts between quotes. The lexer: dates.
-/
import Derived.Test.YtgjdhajcnechdaaGreatDoorSw14
import Derived.Test.YtgjdhajcnechdaaGreatDoorSw09
import Derived.Test.YtgjdhajcnechdaaGreatDoorSw12
import Derived.Laws.Rows
import Derived.IntWalk
import Derived.Test.YtgjdhajcnechdaaGreatDoorSw15
set_option linter.all false
set_option maxRecDepth 100000
set_option maxHeartbeats 8000000
namespace Go.Proofs.YtgjdhajcnechdaaGreatDoor
open Go.Proofs.Tryz
open Go.RowKit
section
variable {w:World}{b:Nat}{tv:Value}{l:List Tok}{st:RS}
theorem En(h:Rr w b tv l st):
 Calls Tryz.prog 323 #[.pointer (some ⟨b,0,none⟩)] w (B9 b tv l w VStr (A3 l st)):=by
 have HT:=O (DW h);have hf:=h.few;have hb:=h.lt;cases hn:D9 l st with
 | true=>
   obtain⟨i,f⟩:=st;simp only[D9,Bool.and_eq_true,Bool.not_eq_true',beq_iff_eq,decide_eq_true_eq]at hn;obtain⟨rfl,hk,hl⟩:=hn;have hi:=La hk (by decide);have HQ:=O (show A3 l (i,false)=((Ab l i).text,(i+1,false))by simp[A3,D9,hk,hl]);have hl1:decide ((10:Int)<(Ab l i).text.length)=false:=by simp;omega
   have HK:=O hk;clear hk;simp only at HT;generalize Ab l i=t at*;go_enter func323,ntmps323;go_wp2_with fail;refine HT.out.mono ?_;rintro e w1 ⟨rfl,g1⟩;rw[Bc,HK.out];have h1:=h.gbN g1;have c1:=h1.c1;have c2:=h1.c2;have f1:=h1.fr 1;simp only at c1 c2;have hb1:=h1.lt;go_wp2;go_ret;refine⟨(by repeat(first| (with_reducible exact Ac _ _)| (with_reducible assumption)| (with_reducible exact AX (by assumption))| (with_reducible refine Ad ?_ _)| (with_reducible refine Am ?_)| (with_reducible refine Ay ?_ _)| ((with_reducible refine Az ?_ _ _ ?h2);case h2=>first|exact .inl rfl|exact .inr (Nat.le_refl _)|exact .inr (by simp<;>omega))| (with_reducible refine Ag ?_ (by assumption))| (with_reducible refine Aa ?_ (by assumption)))),_,rfl,by rw[HQ.out];rfl,?_⟩;rw[HQ.out];exact(h1.go _ (i+1) rfl (by omega)).alloc _
 | false=>
   have HQ:=O (show A3 l st=([],(st.1,true))by unfold A3;rw[hn];rfl);obtain⟨i,f⟩:=st;have hc:f=true∨(f=false∧(Ab l i).kind≠0)∨(f=false∧(Ab l i).kind=0∧10<(Ab l i).text.length):=by
    cases f with
    |true=>exact .inl rfl
    | false=>
      by_cases hk:(Ab l i).kind=0
      ·right;right;refine⟨rfl,hk,?_⟩;simp[D9,hk]at hn;omega
      ·exact .inr (.inl ⟨rfl,hk⟩)
   clear hn;simp only at HT HQ;generalize Ab l i=t at*;rcases hc with rfl| ⟨rfl,hk⟩| ⟨rfl,hk,hl⟩
   ·go_enter func323,ntmps323;go_wp2_with fail;refine HT.out.mono ?_;rintro e w1 ⟨rfl,g1⟩;have h1:=h.gbN g1;have c2:=h1.c2;simp only at c2;have HA:=O (h1.alloc (.cells #[.int .i64 t.kind,.int .i64 t.pos,str t.text] 105 (0,0)));have HG:=O (Ad (AX g1) (.cells #[.int .i64 t.kind,.int .i64 t.pos,str t.text] 105 (0,0)):World.grownBy w _ (some b));have hb1:=h1.lt;go_wp2_with fail;refine(Eo HA.out).mono ?_;rintro e w2 ⟨g2,v,rfl,rfl,h2⟩;go_wp2;go_ret;exact⟨Aa HG.out g2,_,rfl,by rw[HQ.out];rfl,by rw[HQ.out];exact h2⟩
   ·have hk':(t.kind==0)=false:=by simpa using hk
    have hk2:(t.kind !=0)=true:=by simpa using hk
    clear hk;go_enter func323,ntmps323;go_wp2_with fail;refine HT.out.mono ?_;rintro e w1 ⟨rfl,g1⟩;have h1:=h.gbN g1;have c2:=h1.c2;simp only at c2;have HA:=O (h1.alloc (.cells #[.int .i64 t.kind,.int .i64 t.pos,str t.text] 105 (0,0)));have HG:=O (Ad (AX g1) (.cells #[.int .i64 t.kind,.int .i64 t.pos,str t.text] 105 (0,0)):World.grownBy w _ (some b));have hb1:=h1.lt;go_wp2_with fail;refine(Eo HA.out).mono ?_;rintro e w2 ⟨g2,v,rfl,rfl,h2⟩;go_wp2;go_ret;exact⟨Aa HG.out g2,_,rfl,by rw[HQ.out];rfl,by rw[HQ.out];exact h2⟩
   ·have hl1:decide ((10:Int)<t.text.length)=true:=by simp;omega
    have HK:=O hk;clear hk;go_enter func323,ntmps323;go_wp2_with fail;refine HT.out.mono ?_;rintro e w1 ⟨rfl,g1⟩;rw[Bc,HK.out];have h1:=h.gbN g1;have c2:=h1.c2;simp only at c2;have HA:=O (h1.alloc (.cells #[.int .i64 0,.int .i64 t.pos,str t.text] 105 (0,0)));have HG:=O (Ad (AX g1) (.cells #[.int .i64 0,.int .i64 t.pos,str t.text] 105 (0,0)):World.grownBy w _ (some b));have hb1:=h1.lt;go_wp2_with fail;refine(Eo HA.out).mono ?_;rintro e w2 ⟨g2,v,rfl,rfl,h2⟩;go_wp2;go_ret;exact⟨Aa HG.out g2,_,rfl,by rw[HQ.out];rfl,by rw[HQ.out];exact h2⟩
theorem M3{L:List Bs}(h:∀k,(hk:k<L.length)→A4 l L[k] st=false):Au l L st=[]:=by
 unfold Au;split
 ·rfl
 ·rename_i hs;have:L.find? (Ae (Ab l st.1))=none:=by
   rw[List.find?_eq_none];intro x hx;obtain⟨k,hk,rfl⟩:=List.mem_iff_getElem.1 hx;have:=h k hk;simpa[A4,hs]using this
  rw[this];rfl
theorem M4{L:List Bs}{k:Nat}(hk:k<L.length)(h:∀j,(hj:j<k)→A4 l (L[j]'(by omega)) st=false)(hx:A4 l L[k] st=true):Au l L st=L[k]:=by
 simp only[A4,Bool.and_eq_true,Bool.not_eq_true']at hx;unfold Au;rw[if_neg (by rw[hx.1];simp)];have:L.find? (Ae (Ab l st.1))=some L[k]:=by
  rw[List.find?_eq_some_iff_getElem];exact⟨hx.2,k,hk,rfl,fun j hj=>by have:=h j hj;simpa[A4,hx.1]using this⟩
 rw[this];rfl
theorem OK(h:Rr w b tv l st){L:List Bs}{la:Option Addr}{lc:Nat}{ok:Nat→Prop}(hL:Cells w (.slice la L.length lc) 1 L.length (L.map str) ok)(hok:∀k,ok k→k≠b)(hne:∀s∈L,s≠[])(hl:L.length≤100):
 Calls Tryz.prog 177 #[.pointer (some ⟨b,0,none⟩),.slice la L.length lc] w (B9 b tv l w VStr (A6 l L st)):=by
 obtain⟨_,_,e,_,_,_,hc⟩:=hL;cases e;have HC:=O hc;clear hc;go_enter func177,ntmps177;go_wp2_with fail;go_loopg [5] L.length (fun g v5 wr=>∃k:Nat,k+g=L.length∧v5= .int .i64 k∧Rr wr b tv l st∧w.grownBy wr (some b)∧∀j,(hj:j<k)→(hjl:j<L.length)→A4 l L[j] st=false)
 case atStart=>exact⟨0,by omega,rfl,h,Ac _ _,fun j hj=>by omega⟩
 case round=>
  obtain⟨k,hk,rfl,hr,gr,hno⟩:=hrel;cases gk with
  | zero=>
    have hkl:k=L.length:=by omega
    have hj1:decide (k<L.length)=false:=by simp;omega
    have HQ:=O (M3 (l:=l) (st:=st) (fun j hj=>hno j (by omega) hj));clear hno;go_wp2;go_ret;refine⟨gr,_,rfl,by simp only[A6,HQ.out];rfl,?_⟩;simp only[A6,HQ.out,Da];exact hr
  | succ gk=>
    have hkl:k<L.length:=by omega
    have hj1:decide (k<L.length)=true:=by simpa using hkl
    obtain⟨g,o,rfl,ho,hc⟩:=HC.out k (str L[k]) (by simp[hkl]);have hcr:=Bz gr hc (by have:=hok g ho;simp;omega);have HT:=O (Cg hr L[k]);have HN:=O hno;have HM:=O (hne L[k] (List.getElem_mem hkl));clear hno;have hlt:=gr.size;have hg:=hok g ho;have hgl:=World.block_lt_of_cell? w _ hc;simp only at hgl;cases hh:A4 l L[k] st with
    | true=>
      have HQ:=O (M4 hkl (fun j hj=>HN.out j hj (by omega)) hh);rw[hh]at HT;have HT2:=O (show Ak l L[k] st=(st.1+1,st.2)by unfold Ak;rw[if_pos hh]);clear hh;generalize L[k]=x at*;go_wp2_with fail;refine HT.out.mono ?_;rintro e w1 ⟨g1,v,rfl,rfl,h1⟩;have hc1:=Bz g1 hcr (by simp;omega);have HR:=O (Z g1 h1);clear g1 h1;go_wp2;go_ret;refine⟨Aa gr HR.out.1,_,rfl,by simp only[A6,HQ.out];rfl,?_⟩;simp only[A6,HQ.out,Dj HM.out];rw[←HT2.out];exact HR.out.2
    | false=>
      have HN2:=O (show ∀j,(hj:j<k+1)→(hjl:j<L.length)→A4 l L[j] st=false from fun j hj hjl=>by
       by_cases e:j=k
       ·subst e;exact hh
       ·exact HN.out j (by omega) hjl)
      rw[hh]at HT;have HT2:=O (show Ak l L[k] st=st by unfold Ak;rw[if_neg (by rw[hh];simp)]);clear hh;generalize L[k]=x at*;go_wp2_with fail;refine HT.out.mono ?_;rintro e w1 ⟨g1,v,rfl,rfl,h1⟩;have HR:=O (Z g1 h1);clear g1 h1;go_wp2;go_roundg gk
      case measure=>omega
      case rel=>exact⟨k+1,by omega,by go_num,HT2.out ▸ HR.out.2,Aa gr HR.out.1,HN2.out⟩
end
theorem Il(k:Nat)(hk:k<256):(AF k).set k (.int .u8 (BF k))=AF (k+1):=by
 apply List.ext_getElem?;intro j;by_cases hj:j<256
 ·rw[List.getElem?_set];rw[Fl _ _ hj];by_cases e:k=j
  ·subst e;simp[AF,hk]
  ·rw[if_neg e,Fl _ _ hj];have:(j<k+1)=(j<k):=by apply propext;omega
   simp[this]
 ·rw[List.getElem?_eq_none (by simp[AF];omega),List.getElem?_eq_none (by simp[AF];omega)]
theorem Ld(k:Nat)(hk:k<256)(h0:BF k=0):AF k=AF (k+1):=by
 rw[←Il k hk,h0];apply List.ext_getElem?;intro j;rw[List.getElem?_set];by_cases e:k=j
 ·subst e;simp[AF,hk]
 ·simp[e]
theorem L3:(Tryz.prog.info? 99).map (fun i=>(i.size,i.bytes))=some (256,256):=by kernel_rfl
theorem OY{w w1:World}{r:Option Nat}(h:w.grownBy w1 r)(k:Nat)(cs:Array Value)(hk:w.heap.size≤k):w.grownBy (w1.setRow k cs) r:=by
 refine⟨h.os,h.tape,h.output,by simpa using h.size,fun i hi hr=>?_⟩;rw[←h.block i hi hr];have hne:k≠i:=by omega
 simp[World.setRow,Array.getElem?_modify,hne]
theorem NL:∃n e,Tryz.prog.underlying 99=some (.array n e):=by
 have h:(match(Tryz.prog.underlying 99)with|some (.array _ _)=>true|_=>false)=true:=by kernel_rfl
 cases hu:Tryz.prog.underlying 99 with
 |none=>rw[hu]at h;cases h
 | some d=>
   rw[hu]at h;cases d with
   |array n e=>exact⟨n,e,rfl⟩
   |_=>cases h
theorem J2:(Tryz.prog.info? 99).map (·.size)=some (AF 256).toArray.size:=by
 have h1:=L3;cases hq:Tryz.prog.info? 99 with
 |none=>rw[hq]at h1;simp at h1
 |some i=>rw[hq]at h1;simp at h1;simp[AF,h1.1]
theorem EI(k:Nat):(BF k=3∧(k=9∨k=32))∨(BF k=1∧(k=95∨(97≤k∧k≤122)∨(65≤k∧k≤90)))∨(BF k=2∧48≤k∧k≤57)∨(BF k=4∧(k<9∨(10<k∧k<32)∨126<k))∨
 (BF k=0∧(k=10∨(32<k∧k<48)∨(57<k∧k<65)∨(90<k∧k<95)∨k=96∨(122<k∧k≤126))):=by
 unfold BF
 (repeat' split)<;>simp<;>omega
def Hn(w:World)(g:Nat)(v4:Value)(wr:World):Prop:=∃k:Nat,k+g=256∧v4= .int .i64 k∧Blk wr (w.heap.size+1) (AF k) 99∧Blk wr w.heap.size (AF 0) 99∧w.grownBy wr none
theorem Fy{w wr:World}{k g:Nat}{c:Int}(hk:k+(g+1)=256)(hc:BF k=c)(hL:Blk wr (w.heap.size+1) (AF k) 99)(hZ:Blk wr w.heap.size (AF 0) 99)(gr:w.grownBy wr none):
 Hn w g (.int .i64 ((k:Int)+1)) (wr.setCell ⟨w.heap.size+1,k,none⟩ (.int .u8 c)):=
 ⟨k+1,by omega,by simp,(hL.set k _).of_eq rfl (by rw[←hc];exact Il k (by omega)),hZ.set_other _ _ (by simp),Az gr _ _ (.inr (by simp))⟩
theorem Mj{w wr:World}{k g:Nat}(hk:k+(g+1)=256)(hc:BF k=0)(hL:Blk wr (w.heap.size+1) (AF k) 99)(hZ:Blk wr w.heap.size (AF 0) 99)(gr:w.grownBy wr none):
 Hn w g (.int .i64 ((k:Int)+1)) wr:=
 ⟨k+1,by omega,by simp,hL.of_eq rfl (Ld k (by omega) hc),hZ,gr⟩
theorem Mi(w:World):Calls Tryz.prog 62 #[] w fun e w'=>e= .returned (.agg (AF 256).toArray)∧w.grownBy w' none:=by
 go_enter func62,ntmps62;go_wp2_with fail;have hz:zeroCells99=(AF 0).toArray:=by kernel_rfl
 have hA:Blk ((w.alloc (.cells (AF 0).toArray 99 (0,0))).alloc (.cells (AF 0).toArray 99 (0,0))) (w.heap.size+1) (AF 0) 99:=(Blk.new _ _ _).of_eq (by simp) rfl;have hB:Blk ((w.alloc (.cells (AF 0).toArray 99 (0,0))).alloc (.cells (AF 0).toArray 99 (0,0))) w.heap.size (AF 0) 99:=(Blk.new _ _ _).alloc _;have g0:w.grownBy ((w.alloc (.cells (AF 0).toArray 99 (0,0))).alloc (.cells (AF 0).toArray 99 (0,0))) none:=Ad (World.grownBy_alloc _ _ _) _;rw[hz];go_loopg [2,3,4] 256 (fun g v2 v3 v4 wr=>Hn w g v4 wr)
 case atStart=>exact⟨0,rfl,rfl,hA,hB,g0⟩
 case round=>
  obtain⟨k,hk,rfl,hL,hZ,gr⟩:=hrel;clear hA hB g0;cases gk with
  | zero=>
    have e:k=256:=by omega
    subst e;obtain⟨an,ae,H⟩:=NL;have H:=O H;go_wp2_with fail;refine wp_load_row 99 (.tmp 1) rfl (w.heap.size+1) rfl 99 (AF 256).toArray (0,0) (.array an ae) hL H.out rfl J2 ?_;have HS:=O J2;have HL:=O (Z hL hZ);have h1:((AF 256).toArray.all (·.oneCell'))=true:=by simp[AF,Value.oneCell']
    have HO:=O h1;have hzs:(AF 0).toArray.size=(AF 256).toArray.size:=by simp[AF]
    have HZ:=O hzs;have HR:=O (setRow_heap wr w.heap.size (AF 0).toArray (AF 256).toArray 99 (0,0) hZ);clear hL hZ h1 hzs;generalize hcc:(AF 256).toArray=cc at*;have HC:=O hcc;clear hcc;go_wp2_with (refine wpList_store_row rfl 99 (.tmp 0) (.tmp 62) rfl w.heap.size cc rfl rfl 99 (AF 0).toArray HL.out.2 HS.out HZ.out HO.out ?_);refine bodyPost_ret (v:= .agg (AF 256).toArray) ?_ rfl ⟨rfl,OY gr _ _ (Nat.le_refl _)⟩;rw[HC.out];exact results_cell_row rfl _ _ w.heap.size 99 cc (0,0) (.array an ae) rfl HR.out H.out rfl HS.out
  | succ gk=>
    have ck:=(hL.cell k).trans (Fl k k (by omega));have fk:=hL.frozen k;have HL:=O (Z hL (Z hZ gr));have HK:=O hk;have hk2:k<256:=by omega
    have hwr:w.heap.size+1<wr.heap.size:=hL.lt;clear hL hZ gr hk;rcases EI k with⟨hc,h⟩| ⟨hc,h⟩| ⟨hc,h⟩| ⟨hc,h⟩| ⟨hc,h⟩
    ·have HR:=O (Fy HK.out hc HL.out.1 HL.out.2.1 HL.out.2.2);clear hc HK HL;rcases h with rfl|rfl
     all_goals
      go_wp2_with fail;go_roundg gk
      case measure=>omega
      case rel=>exact HR.out
    ·have HR:=O (Fy HK.out hc HL.out.1 HL.out.2.1 HL.out.2.2);clear hc HK HL;rcases h with rfl| ⟨h,h'⟩| ⟨h,h'⟩
     rotate_left 1;all_goals try
      have e9:((k:Int)==9)=false:=by simp;omega
      have e32:((k:Int)==32)=false:=by simp;omega
      have e95:((k:Int)==95)=false:=by simp;omega
      have i1:=Int.ofNat_le.2 h;have i2:=Int.ofNat_le.2 h';simp only[Int.cast_ofNat_Int]at i1 i2;clear h h'
     all_goals
      go_wp2_with fail;go_roundg gk
      case measure=>omega
      case rel=>exact HR.out
    ·have HR:=O (Fy HK.out hc HL.out.1 HL.out.2.1 HL.out.2.2);clear hc HK HL;obtain⟨h,h'⟩:=h;have e9:((k:Int)==9)=false:=by simp;omega
     have e32:((k:Int)==32)=false:=by simp;omega
     have e95:((k:Int)==95)=false:=by simp;omega
     have i1:=Int.ofNat_le.2 h;have i2:=Int.ofNat_le.2 h';simp only[Int.cast_ofNat_Int]at i1 i2;clear h h';go_wp2_with fail;go_roundg gk
     case measure=>omega
     case rel=>exact HR.out
    ·have HR:=O (Fy HK.out hc HL.out.1 HL.out.2.1 HL.out.2.2);clear hc HK HL;have e9:((k:Int)==9)=false:=by simp;omega
     have e32:((k:Int)==32)=false:=by simp;omega
     have e95:((k:Int)==95)=false:=by simp;omega
     have e10:((k:Int) !=10)=true:=by simp;omega
     rcases h with h| ⟨h,h'⟩|h
     all_goals
      have i1:=Int.ofNat_lt.2 h;try have i2:=Int.ofNat_lt.2 h'
      simp only[Int.cast_ofNat_Int]at i1;try simp only[Int.cast_ofNat_Int]at i2
      clear h;go_wp2_with fail;go_roundg gk
      case measure=>omega
      case rel=>exact HR.out
    ·have HR:=O (Mj HK.out hc HL.out.1 HL.out.2.1 HL.out.2.2);clear hc HK HL;rcases h with rfl| ⟨h,h'⟩| ⟨h,h'⟩| ⟨h,h'⟩|rfl| ⟨h,h'⟩
     all_goals try
      have e9:((k:Int)==9)=false:=by simp;omega
      have e32:((k:Int)==32)=false:=by simp;omega
      have e95:((k:Int)==95)=false:=by simp;omega
      have e10:((k:Int) !=10)=true:=by simp;omega
      have i1:=Int.ofNat_lt.2 h;have i2:(k:Int)<127∧(k:Int)≤126:=by omega
      obtain⟨i2,i3⟩:=i2;simp only[Int.cast_ofNat_Int]at i1
     all_goals
      go_wp2_with fail;go_roundg gk
      case measure=>omega
      case rel=>exact HR.out
structure Tabs(B:Nat)(w:World):Prop where
 utf8:Lib.Utf8Tabs 5 6 w
 low:11≤B
 case:∃R oR cap,R<B∧w.cell? ⟨4,0,none⟩=some (.slice (some ⟨R,oR,none⟩) Lib.caseA.size cap)∧Lib.CaseTab R oR Lib.caseA w
 glob:Glob w
theorem Tabs.gb{B:Nat}{w w1:World}{r:Option Nat}(h:Tabs B w)(g:w.grownBy w1 r)(hr:∀k,r=some k→B≤k):Tabs B w1:=by
 have hlow:=h.low;have hne:∀k,k<B→some k≠r:=fun k hk e=>by have:=hr k e.symm;omega
 refine⟨⟨fun c hc=>Bz g (h.utf8.1 c hc) (hne _ (by omega)),fun i hi=>⟨Bz g (h.utf8.2 i hi).1 (hne _ (by omega)),Bz g (h.utf8.2 i hi).2 (hne _ (by omega))⟩⟩,hlow,?_,h.glob.gb g (hne 0 (by omega))⟩;obtain⟨R,oR,cap,hR,hc,ht⟩:=h.case;refine⟨R,oR,cap,hR,Bz g hc (hne _ (by omega)),fun i hi=>?_⟩;have:=ht i hi;exact⟨Bz g this.1 (hne _ hR),Bz g this.2.1 (hne _ hR),Bz g this.2.2.1 (hne _ hR),Bz g this.2.2.2.1 (hne _ hR),Bz g this.2.2.2.2 (hne _ hR)⟩
theorem Tabs.gbN{B:Nat}{w w1:World}(h:Tabs B w)(g:w.grownBy w1 none):Tabs B w1:=h.gb g (by simp)
theorem Tabs.caseV{B:Nat}{w:World}(h:Tabs B w):Lib.CaseVar 4 Lib.caseA w:=by
 obtain⟨R,oR,cap,_,hc,ht⟩:=h.case;exact⟨R,oR,cap,hc,ht⟩
theorem Qj{B:Nat}{w:World}(h:Tabs B w)(s:Bs)(hs:s.length≤1000000):
 Calls Tryz.prog 197 #[.string ⟨s.toArray⟩] w fun e w'=>e= .returned (str (Lib.toUpperD s))∧w.grownBy w' none:=by
 refine(strings_ToUpper_any ⟨s.toArray⟩ w (by simp[ByteArray.size];omega) h.caseV h.utf8).mono ?_;rintro e w' ⟨rfl,hb⟩;exact⟨rfl,gbB hb none⟩
theorem Gi{B:Nat}{w:World}(h:Tabs B w)(s:Bs)(i j:Nat)(hs:s.length≤4000):
 Calls Tryz.prog 197 #[.string ((⟨s.toArray⟩:ByteArray).extract i j)] w fun e w'=>e= .returned (str (Lib.toUpperD (AD s i j)))∧w.grownBy w' none:=by
 rw[Dm];exact Qj h _ (by simp;omega)
theorem OP(w:World):Calls Tryz.prog 242 #[] w fun e w'=>e= .returned (.slice (some ⟨w.heap.size,0,none⟩) 38 38)∧w'=w.alloc (.cells (signsL.map str).toArray 9 (0,0)):=by
 go_enter func242,ntmps242;go_wp2;go_ret;exact⟨rfl,rfl⟩
def TokPost(w:World)(b:Nat)(s:Bs)(r:St)(e:Ending)(w':World):Prop:=
 w.grownBy w' (some b)∧match r with
  | .tok t j l=>e= .returned (.tuple #[Bc t,.bool true])∧Sc w' b s j l l (-1)
  | .bad k=>(∃t,e= .returned (.tuple #[Bc t,.bool false]))∧∃j l,Sc w' b s j l l k
  |_=>False
theorem Blk.set3{w:World}{k:Nat}{a0 a1 a2:Value}{t:TypeId}(h:Blk w k [a0,a1,a2] t)(v0 v1 v2:Value):Blk (((w.setCell ⟨k,0,none⟩ v0).setCell ⟨k,1,none⟩ v1).setCell ⟨k,2,none⟩ v2) k [v0,v1,v2] t:=
 (((h.set 0 v0).set 1 v1).set 2 v2).of_eq rfl rfl
theorem Bt{fn:Func}{p q:Tmp}(h:fn.results=#[.cell p 105,.tmp q])(tmps:Array Value){w:World}{k:Nat}{t:Tok}{r:Bool}(hb:Blk w k [.int .i64 t.kind,.int .i64 t.pos,str t.text] 105)
 (hp:tmps.getD p undef= .pointer (some ⟨k,0,none⟩)) (hq:tmps.getD q undef= .bool r):(results fn tmps).run Tryz.prog w= .ok (.tuple #[Bc t,.bool r]) w:=by
 have c0:=hb.cell 0;have c1:=hb.cell 1;have c2:=hb.cell 2;have hp':tmps[p]?.getD undef= .pointer (some ⟨k,0,none⟩):=by simpa using hp
 have hq':tmps[q]?.getD undef= .bool r:=by simpa using hq
 simp only[List.getElem?_cons_zero,List.getElem?_cons_succ]at c0 c1 c2;simp[results,h,hp',hq',go_sem,c0,c1,c2]
def FT(s:Bs)(i:Nat):St:=match Dt s i with
 |some x=> .tok ⟨4,i,x⟩ (i+x.length) true
 |none=> .bad i
theorem Oh{s:Bs}{i:Nat}(h:∀j,(hj:j<signsL.length)→C9 s i signsL[j]=false):Dt s i=none:=by
 rw[Dt,List.find?_eq_none];intro x hx;obtain⟨j,hj,rfl⟩:=List.mem_iff_getElem.1 hx;rw[h j hj];simp
theorem Oi{s:Bs}{i k:Nat}(hk:k<signsL.length)(h:∀j,(hj:j<k)→C9 s i (signsL[j]'(by omega))=false)(hx:C9 s i signsL[k]=true):Dt s i=some signsL[k]:=by
 rw[Dt,List.find?_eq_some_iff_getElem];exact⟨hx,k,hk,rfl,fun j hj=>by rw[h j hj];simp⟩
theorem Lr{w:Bs}(h:w∈signsL):∀b∈w,b.toNat<128:=by
 have h0:signsL.all (fun w=>w.all fun b=>decide (b.toNat<128))=true:=by decide
 have h1:=List.all_eq_true.1 h0 w h;intro b hb;simpa using List.all_eq_true.1 h1 b hb
theorem H8{s:Bs}{i k:Nat}(hk:k<signsL.length)(he:i+signsL[k].length≤s.length){r:Bool}(h:C9 s i signsL[k]=r):(Lib.toUpperD (AD s i (i+signsL[k].length))==signsL[k])=r:=by
 have h1:C9 s i signsL[k]=(Lib.toUpperA (AD s i (i+signsL[k].length))==signsL[k]):=by simp[C9,he]
 rw[O1 _ _ (by rw[D6 (by omega) he];omega) (Lr (List.getElem_mem hk)),←h1,h]
structure SignRel(w:World)(b:Nat)(s:Bs)(i:Nat)(k:Nat)(wr:World):Prop where
 sc:Sc wr b s i true true (-1)
 tok:Blk wr w.heap.size [.int .i64 4,.int .i64 i,str []] 105
 res:Blk wr (w.heap.size+1) [.int .i64 0,.int .i64 0,str []] 105
 row:Blk wr (w.heap.size+2) (signsL.map str) 9
 no:∀j,(hj:j<k)→(hl:j<signsL.length)→C9 s i signsL[j]=false
 g:w.grownBy wr none
 tabs:Tabs b wr
theorem SignRel.go{w:World}{b:Nat}{s:Bs}{i k:Nat}{wr w1:World}(h:SignRel w b s i k wr)(hk:k<signsL.length)(hx:C9 s i signsL[k]=false)(g:wr.grownBy w1 none):SignRel w b s i (k+1) w1:=
 ⟨h.sc.gbN g,h.tok.gb g (by simp),h.res.gb g (by simp),h.row.gb g (by simp),fun j hj hl=>by
  by_cases e:j=k
  ·subst e;exact hx
  ·exact h.no j (by omega) hl,Ag h.g g,h.tabs.gbN g⟩
theorem Qz{w:World}{b:Nat}{s:Bs}{i:Nat}(h:Sc w b s i true true (-1))(ht:Tabs b w):
 Calls Tryz.prog 201 #[.pointer (some ⟨b,0,none⟩),Bc ⟨0,i,[]⟩] w (TokPost w b s (FT s i)):=by
 have hb:=h.lt;have hA:SignRel w b s i 0 (((w.alloc (.cells #[.int .i64 4,.int .i64 i,str []] 105 (0,0))).alloc (.cells #[.int .i64 0,.int .i64 0,str []] 105 (0,0))).alloc (.cells (signsL.map str).toArray 9 (0,0))):=by
  have g:w.grownBy (((w.alloc (.cells #[.int .i64 4,.int .i64 i,str []] 105 (0,0))).alloc (.cells #[.int .i64 0,.int .i64 0,str []] 105 (0,0))).alloc (.cells (signsL.map str).toArray 9 (0,0))) none:=Ad (Ad (World.grownBy_alloc w _ none) _) _;exact⟨h.gbN g,((Blk.new w _ _).alloc _).alloc _,((Blk.new _ [.int .i64 0,.int .i64 0,str []] _).of_eq (by simp) rfl).alloc _,(Blk.new _ (signsL.map str) _).of_eq (by simp) rfl,fun j hj=>by omega,g,ht.gbN g⟩
 go_enter func201,ntmps201;go_wp2_with fail;refine(OP _).mono ?_;rintro e w1 ⟨rfl,rfl⟩;go_wp2_with fail;go_loopg [7,8,12] 38 (fun g v7 v8 v12 wr=>∃k:Nat,k+g=38∧v12= .int .i64 k∧SignRel w b s i k wr)
 case atStart=>exact⟨0,rfl,rfl,hA⟩
 case round=>
  obtain⟨k,hk,rfl,hr⟩:=hrel;clear hA h ht;have hsc:=hr.sc;have c0:=hsc.c0;have c1:=hsc.c1;have hb1:=hsc.lt;have hf:=hsc.few;have hi:=hsc.le;have gwx:=hr.g.size;have hlt:=hr.row.lt;cases gk with
  | zero=>
    have e:k=38:=by omega
    subst e;have HM:=O (Oh (s:=s) (i:=i) (fun j hj=>hr.no j hj hj));have t0:=hr.tok.cell 0;have t1:=hr.tok.cell 1;have t2:=hr.tok.cell 2;have r0:=hr.res.cell 0;have r1:=hr.res.cell 1;have r2:=hr.res.cell 2;have rf:=fun k=>hr.res.frozen k;have f260:=hsc.fr 260;have c260:=hsc.c260;simp only[List.getElem?_cons_zero,List.getElem?_cons_succ]at t0 t1 t2 r0 r1 r2;have hs1:=hsc.setBad (i:Int);go_wp2;refine bodyPost_ret (Bt (t:=⟨4,i,[]⟩) (r:=false) rfl _ ((hr.res.set_other _ _ (by simp;omega)).set3 _ _ _) rfl rfl) rfl ⟨?_,?_⟩
    ·have g:=AX (r:=some b) hr.g;clear hs1;exact (by repeat(first| (with_reducible exact Ac _ _)| (with_reducible assumption)| (with_reducible exact AX (by assumption))| (with_reducible refine Ad ?_ _)| (with_reducible refine Am ?_)| (with_reducible refine Ay ?_ _)| ((with_reducible refine Az ?_ _ _ ?h2);case h2=>first|exact .inl rfl|exact .inr (Nat.le_refl _)|exact .inr (by simp<;>omega))| (with_reducible refine Ag ?_ (by assumption))| (with_reducible refine Aa ?_ (by assumption))))
    ·unfold FT;rw[HM.out];exact⟨⟨_,rfl⟩,i,true,(by repeat(first| (with_reducible assumption)| (with_reducible apply Sc.alloc)| (with_reducible apply Sc.drew)| (with_reducible apply Sc.drewN)| (with_reducible apply Sc.setLine)| (with_reducible apply Sc.setBegun)| (with_reducible apply Sc.setBad)| (with_reducible apply Sc.go)| (with_reducible apply Sc.set_other)|omega| (simp<;>omega)))⟩
  | succ gk=>
    have hkl:k<signsL.length:=by show k<38;omega
    have ck:=(hr.row.cell k).trans (show(signsL.map str)[k]? =some (str signsL[k])by simp[hkl]);have hx6:=Gm (List.getElem_mem hkl);have hkI:decide ((k:Int)<38)=true:=by simp;omega
    have HN:=O (fun hx=>hr.go hkl (w1:=wr) hx (Ac _ _));cases hh:C9 s i signsL[k]with
    | false=>
      have HR:=O (fun w1 g=>hr.go hkl (w1:=w1) hh g);by_cases hend:i+signsL[k].length≤s.length
      ·have hz:=H8 hkl hend hh;have HU:=O (fun(W:World)(g:wr.grownBy W none)=>Gi (hr.tabs.gbN g) s i (i+signsL[k].length) hf);clear hh;generalize Lib.toUpperD (AD s i (i+signsL[k].length))=z at*;generalize signsL[k]=x at*;have he1:decide ((i:Int)+x.length≤s.length)=true:=by simp;omega
       have he2:decide ((i:Int)≤i+x.length)=true:=by simp;omega
       have hw1:IntKind.i64.wrap ((i:Int)+(x.length:Int))=(i:Int)+x.length:=IntWalk.i64_in _ (by omega);have hw2:(0:Int)≤(i:Int)+x.length:=by omega
       have hw3:(i:Int)+x.length≤s.length:=by omega
       have hw4:((i:Int)+x.length).toNat=i+x.length:=by omega
       have hw5:(i:Int)≤(i:Int)+x.length:=by omega
       clear hw1;go_wp2_with fail;go_region_held3 (fun W=>W.cell? ⟨b,0,none⟩=some (str s)∧W.cell? ⟨b,1,none⟩=some (.int .i64 i)∧wr.grownBy W none) (first|exact⟨c0,c1,Am (Ac wr none)⟩|exact⟨Af g5 c0,Af g5 c1,Ag (Am (Ac wr none)) g5⟩) (first| (go_at_call 197;refine(HU.out _ ?_).mono ?_;(simp[*]);rintro e w5 ⟨rfl,g5⟩));go_wp2;go_roundg gk
       case measure=>omega
       case rel=>exact⟨k+1,by omega,by simp,HR.out w5 (Ag (Am (Ac wr none)) g5)⟩
      ·clear hh;generalize signsL[k]=x at*;have he1:decide ((i:Int)+x.length≤s.length)=false:=by simp;omega
       go_wp2_with fail;go_quiet(fail);go_wp2;go_roundg gk
       case measure=>omega
       case rel=>exact⟨k+1,by omega,by simp,HR.out _ (Ay (Ac wr none) _)⟩
    | true=>
      have hend:i+signsL[k].length≤s.length:=by simp[C9]at hh;exact hh.1
      have hz:=H8 hkl hend hh;have HU:=O (fun(W:World)(g:wr.grownBy W none)=>Gi (hr.tabs.gbN g) s i (i+signsL[k].length) hf);have HM:=O (Oi hkl (fun j hj=>hr.no j hj (by omega)) hh);clear hh;generalize Lib.toUpperD (AD s i (i+signsL[k].length))=z at*;generalize signsL[k]=x at*;have he1:decide ((i:Int)+x.length≤s.length)=true:=by simp;omega
      have he2:decide ((i:Int)≤i+x.length)=true:=by simp;omega
      have hw1:IntKind.i64.wrap ((i:Int)+(x.length:Int))=(i:Int)+x.length:=IntWalk.i64_in _ (by omega);have hw2:(0:Int)≤(i:Int)+x.length:=by omega
      have hw3:(i:Int)+x.length≤s.length:=by omega
      have hw4:((i:Int)+x.length).toNat=i+x.length:=by omega
      have hw5:(i:Int)≤(i:Int)+x.length:=by omega
      clear hw1;go_wp2_with fail;go_region_held3 (fun W=>W.cell? ⟨b,0,none⟩=some (str s)∧W.cell? ⟨b,1,none⟩=some (.int .i64 i)∧wr.grownBy W none) (first|exact⟨c0,c1,Am (Ac wr none)⟩|exact⟨Af g5 c0,Af g5 c1,Ag (Am (Ac wr none)) g5⟩) (first| (go_at_call 197;refine(HU.out _ ?_).mono ?_;(simp[*]);rintro e w5 ⟨rfl,g5⟩));have gA:wr.grownBy w5 none:=Ag (Am (Ac wr none)) g5;have hs5:=hsc.gbN gA;have ht5:=hr.tok.gb gA (by simp);have hr5:=hr.res.gb gA (by simp);have d1:=hs5.c1;have d0:=hs5.c0;have t0:=ht5.cell 0;have t1:=ht5.cell 1;have t2:=ht5.cell 2;have tf:=fun k=>ht5.frozen k;have r0:=hr5.cell 0;have r1:=hr5.cell 1;have r2:=hr5.cell 2;have rf:=fun k=>hr5.frozen k;have f1:=hs5.fr 1;have h5:=hr5.lt;simp only[List.getElem?_cons_zero,List.getElem?_cons_succ]at t0 t1 t2 r0 r1 r2;go_wp2;refine bodyPost_ret (Bt (t:=⟨4,i,x⟩) (r:=true) rfl _ (((hr5.set_other _ _ (by simp)).set_other _ _ (by simp;omega)).set3 _ _ _) rfl rfl) rfl ⟨?_,?_⟩
      ·have g:=AX (r:=some b) (Ag hr.g gA);exact (by repeat(first| (with_reducible exact Ac _ _)| (with_reducible assumption)| (with_reducible exact AX (by assumption))| (with_reducible refine Ad ?_ _)| (with_reducible refine Am ?_)| (with_reducible refine Ay ?_ _)| ((with_reducible refine Az ?_ _ _ ?h2);case h2=>first|exact .inl rfl|exact .inr (Nat.le_refl _)|exact .inr (by simp<;>omega))| (with_reducible refine Ag ?_ (by assumption))| (with_reducible refine Aa ?_ (by assumption))))
      ·unfold FT;rw[HM.out];exact⟨rfl,(by repeat(first| (with_reducible assumption)| (with_reducible apply Sc.alloc)| (with_reducible apply Sc.drew)| (with_reducible apply Sc.drewN)| (with_reducible apply Sc.setLine)| (with_reducible apply Sc.setBegun)| (with_reducible apply Sc.setBad)| (with_reducible apply Sc.go)| (with_reducible apply Sc.set_other)|omega| (simp<;>omega)))⟩
theorem IA{s:Bs}{j e:Nat}(h:j<e)(he:e≤s.length):AD s j e=bAt s j::AD s (j+1) e:=by
 unfold AD;rw[Fw (by omega),show e-j=(e-(j+1))+1 by omega,List.take_succ_cons]
theorem IB(s:Bs)(j:Nat):AD s j j=[]:=by simp[AD]
theorem Pf(s:Bs)(c:UInt8)(j:Nat)(hj:j≤s.length):Lib.indexByte (AD s j (Aq s j)) c=
 if Ar s (fun b=>b !=10&&b !=c) j<s.length∧bAt s (Ar s (fun b=>b !=10&&b !=c) j)≠10 then((Ar s (fun b=>b !=10&&b !=c) j-j:Nat):Int)else -1:=by
 induction hn:s.length-j generalizing j with
 | zero=>
   have e:j=s.length:=by omega
   have h1:Aq s j=j:=CV (by omega);rw[h1,IB,CV (by omega),if_neg (by omega)];rfl
 | succ n ih=>
   have hk:j<s.length:=by omega
   have hle:Aq s (j+1)≤s.length:=Cf (by omega);have hge:j+1≤Aq s (j+1):=B2 _ _ _;by_cases h10:bAt s j=10
   ·have h1:Aq s j=j:=CB hk (by simp[h10]);rw[h1,IB,CB hk (by simp[h10]),if_neg (by simp[h10])];rfl
   ·have h1:Aq s j=Aq s (j+1):=BT hk (by simpa using h10);rw[h1,IA (by omega) hle,Lib.indexByte];cases hb:(bAt s j==c)with
    | true=>
      rw[CB hk (by simp;intro _;simpa using hb)];simp[hk,h10]
    | false=>
      rw[BT hk (by simp at hb;simp[h10,hb]),ih (j+1) (by omega) (by omega)];have h2:=B2 s (fun b=>b !=10&&b !=c) (j+1);simp only[Bool.false_eq_true,if_false];by_cases h3:Ar s (fun b=>b !=10&&b !=c) (j+1)<s.length∧bAt s (Ar s (fun b=>b !=10&&b !=c) (j+1))≠10
      ·simp only[if_pos h3];rw[if_neg (by simp;try omega)];omega
      ·simp[h3]
def Bw(s:Bs)(i:Nat):Nat:=Ar s (fun b=>b !=10&&b !=bAt s i) (i+1)
def Ff(t:Bs):Nat:=Ar t (fun b=>!cls 4 b) 0
theorem OC{s:Bs}{i:Nat}(h:¬(Bw s i<s.length∧bAt s (Bw s i)≠10)):Dp s i= .bad i:=if_neg h
theorem MV{s:Bs}{i:Nat}(h:Bw s i<s.length∧bAt s (Bw s i)≠10)(hb:Ff (AD s (i+1) (Bw s i))<Bw s i-(i+1)):Dp s i= .bad (i+1+Ff (AD s (i+1) (Bw s i))):=
 (if_pos h).trans (if_pos hb)
theorem OD{s:Bs}{i:Nat}(h:Bw s i<s.length∧bAt s (Bw s i)≠10)(hb:¬Ff (AD s (i+1) (Bw s i))<Bw s i-(i+1)):Dp s i= .tok ⟨2,i,AD s (i+1) (Bw s i)⟩ (Bw s i+1) true:=
 (if_pos h).trans (if_neg hb)
theorem Qq(s:Bs)(i:Nat):Bw s i≤Aq s (i+1):=Ja (by intro b hb;simp at hb ⊢;exact hb.1) _
theorem RA(c:UInt8):((c.toNat:Int)).toNat.toUInt8=c:=by simp
theorem I1(s:Bs)(i j:Nat)(c:UInt8){z:Int}(hz:Lib.indexByte (AD s i j) c=z)(w:World):
 Calls Tryz.prog 237 #[.string ((⟨s.toArray⟩:ByteArray).extract i j),.int .u8 c.toNat] w fun e w'=>e= .returned (.int .i64 z)∧w'=w:=by
 subst hz;refine(strings_IndexByte _ _ _).mono ?_;rintro e w' ⟨rfl,rfl⟩;rw[Dm,RA];exact⟨rfl,rfl⟩
structure TextRel(w:World)(b:Nat)(s:Bs)(i:Nat)(t:Bs)(k:Nat)(wr:World):Prop where
 sc:Sc wr b s i true true (-1)
 tok:Blk wr w.heap.size [.int .i64 2,.int .i64 i,str t] 105
 res:Blk wr (w.heap.size+1) [.int .i64 0,.int .i64 0,str []] 105
 no:Ff t=Ar t (fun b=>!cls 4 b) k
 g:w.grownBy wr none
theorem TextRel.go{w:World}{b:Nat}{s:Bs}{i:Nat}{t:Bs}{k:Nat}{wr w1:World}(h:TextRel w b s i t k wr)(hk:k<t.length)(hx:cls 4 (bAt t k)=false)(g:wr.grownBy w1 none):TextRel w b s i t (k+1) w1:=
 ⟨h.sc.gbN g,h.tok.gb g (by simp),h.res.gb g (by simp),by rw[h.no];exact BT hk (by simp[hx]),Ag h.g g⟩
theorem QH{w:World}{b:Nat}{s:Bs}{i:Nat}(h:Sc w b s i true true (-1))(hi:i<s.length)(hq:bAt s i≠10):
 Calls Tryz.prog 199 #[.pointer (some ⟨b,0,none⟩),Bc ⟨0,i,[]⟩] w (TokPost w b s (Dp s i)):=by
 have hb:=h.lt;have hf:=h.few;have c0:=h.c0;have c1:=h.c1;have hz:=Pf s (bAt s i) (i+1) (by omega);have hline:Aq s i=Aq s (i+1):=BT hi (by simpa using hq);have hle:Aq s i≤s.length:=Cf (by omega);have hge:i+1≤Aq s i:=by rw[hline];exact B2 _ _ _
 have hgQ:i+1≤Bw s i:=B2 _ _ _;rw[←hline]at hz;have hg:=fun h=>C3 s i h hi;change _=if Bw s i<s.length∧bAt s (Bw s i)≠10 then((Bw s i-(i+1):Nat):Int)else -1 at hz;have HE:=O hline;clear hline;by_cases hq2:Bw s i<s.length∧bAt s (Bw s i)≠10
 ·rw[if_pos hq2]at hz;have hQl:=Qq s i;rw[←HE.out]at hQl;have hQs:=hq2.1;have hO:=O (OD hq2);have hB:=O (MV hq2);have hTl:(AD s (i+1) (Bw s i)).length=Bw s i-(i+1):=D6 hgQ (by omega);have hl:=Gc (h.alloc (.cells #[.int .i64 0,.int .i64 i,str []] 105 (0,0))|>.alloc (.cells #[.int .i64 0,.int .i64 0,str []] 105 (0,0))) i (by omega);obtain⟨d,hd⟩:∃d,Bw s i=i+1+d:=⟨Bw s i-(i+1),by omega⟩;rw[hd]at hO hB hTl hQl hz hQs;rw[show i+1+d-(i+1)=d by omega]at hO hB hTl hz;clear hd hq2 hgQ;generalize Aq s i=e at*;have HI:=O (I1 s (i+1) e (bAt s i) hz);have HL:=O hl;clear hz hl;generalize bAt s i=q at*;have hx:({data:=s.toArray}:ByteArray).extract (i+1) (i+1+d)=⟨(AD s (i+1) (i+1+d)).toArray⟩:=Dm _ _ _;have HX:=O hx;clear hx;have HT:=O hTl;have he2:decide ((i:Int)+1+d≤s.length)=true:=by simp;omega
  go_enter func199,ntmps199;go_wp2_with fail;refine HL.out.mono ?_;rintro e w1 ⟨rfl,rfl⟩;go_wp2_with fail;go_quiet((go_at_call 237;exact Calls.quiet_of_same (HI.out _)));go_wp2_with fail;go_region;rw[HX.out];generalize hts:AD s (i+1) (i+1+d)=t at*;have HS:=O hts;clear hts hTl;have g0:w.grownBy ((w.alloc (.cells #[.int .i64 0,.int .i64 i,str []] 105 (0,0))).alloc (.cells #[.int .i64 0,.int .i64 0,str []] 105 (0,0))) none:=Ad (World.grownBy_alloc w _ none) _;have hA:TextRel w b s i t 0 (((((w.alloc (.cells #[.int .i64 0,.int .i64 i,str []] 105 (0,0))).alloc (.cells #[.int .i64 0,.int .i64 0,str []] 105 (0,0))).drewN (nq+1)).setCell ⟨w.heap.size,0,none⟩ (.int .i64 2)).setCell ⟨w.heap.size,2,none⟩ (str t)):=
   ⟨(by repeat(first| (with_reducible assumption)| (with_reducible apply Sc.alloc)| (with_reducible apply Sc.drew)| (with_reducible apply Sc.drewN)| (with_reducible apply Sc.setLine)| (with_reducible apply Sc.setBegun)| (with_reducible apply Sc.setBad)| (with_reducible apply Sc.go)| (with_reducible apply Sc.set_other)|omega| (simp<;>omega))),(((((Blk.new w [.int .i64 0,.int .i64 i,str []] 105).alloc _).drewN _).set 0 _).set 2 _).of_eq rfl rfl,(((((Blk.new (w.alloc _) [.int .i64 0,.int .i64 0,str []] 105).of_eq (by simp) rfl).drewN _).set_other _ _ (by simp)).set_other _ _ (by simp)),rfl,
    Az (Az (Ay g0 _) _ _ (.inr (Nat.le_refl _))) _ _ (.inr (Nat.le_refl _))⟩
  have t0:=hA.tok.cell 2;simp only[List.getElem?_cons_zero,List.getElem?_cons_succ]at t0;generalize(((((w.alloc (.cells #[.int .i64 0,.int .i64 i,str []] 105 (0,0))).alloc (.cells #[.int .i64 0,.int .i64 0,str []] 105 (0,0))).drewN (nq+1)).setCell ⟨w.heap.size,0,none⟩ (.int .i64 2)).setCell ⟨w.heap.size,2,none⟩ (str t))=W at*;have HA:=O hA;clear hA g0 h c0 c1 hg;have hTl2:t.length≤4000:=by rw[HT.out];omega
  go_wp2_with fail;go_loopg [8,68] t.length (fun g v8 v68 wr=>∃k:Nat,k+g=t.length∧v68= .int .i64 k∧TextRel w b s i t k wr)
  case atStart=>exact⟨0,by omega,rfl,HA.out⟩
  case round=>
   obtain⟨k,hk,rfl,hr⟩:=hrel;have hsc:=hr.sc;have d0:=hsc.c0;have d1:=hsc.c1;have hb1:=hsc.lt;have gwx:=hr.g.size;have hrl:=hr.res.lt;have u0:=hr.tok.cell 0;have u1:=hr.tok.cell 1;have u2:=hr.tok.cell 2;have r0:=hr.res.cell 0;have r1:=hr.res.cell 1;have r2:=hr.res.cell 2;have rf:=fun k=>hr.res.frozen k;simp only[List.getElem?_cons_zero,List.getElem?_cons_succ]at u0 u1 u2 r0 r1 r2;cases gk with
   | zero=>
     have hkt:k=t.length:=by omega
     have HQ:=O (hO.out (by rw[hr.no,CV (by omega),HT.out]at*;omega));have f1:=hsc.fr 1;have hlt:decide (k<t.length)=false:=by simp;omega
     clear hk hkt;go_wp2;refine bodyPost_ret (Bt (t:=⟨2,i,t⟩) (r:=true) rfl _ ((hr.res.set_other _ _ (by simp;omega)).set3 _ _ _) rfl rfl) rfl ⟨?_,?_⟩
     ·have g:=AX (r:=some b) hr.g;exact (by repeat(first| (with_reducible exact Ac _ _)| (with_reducible assumption)| (with_reducible exact AX (by assumption))| (with_reducible refine Ad ?_ _)| (with_reducible refine Am ?_)| (with_reducible refine Ay ?_ _)| ((with_reducible refine Az ?_ _ _ ?h2);case h2=>first|exact .inl rfl|exact .inr (Nat.le_refl _)|exact .inr (by simp<;>omega))| (with_reducible refine Ag ?_ (by assumption))| (with_reducible refine Aa ?_ (by assumption))))
     ·rw[HQ.out];exact⟨rfl,(by repeat(first| (with_reducible assumption)| (with_reducible apply Sc.alloc)| (with_reducible apply Sc.drew)| (with_reducible apply Sc.drewN)| (with_reducible apply Sc.setLine)| (with_reducible apply Sc.setBegun)| (with_reducible apply Sc.setBad)| (with_reducible apply Sc.go)| (with_reducible apply Sc.set_other)|omega| (simp<;>omega)))⟩
   | succ gk=>
     have hkl:k<t.length:=by omega
     have hlt:decide (k<t.length)=true:=by simp;omega
     have hcl:=hsc.cls (bAt t k);have hgt:=fun h=>C3 t k h hkl;have hx:=Km (bAt t k);cases hc:cls 4 (bAt t k)with
     | true=>
       have HC:=O hc;have hbi:Ff t=k:=by rw[hr.no];exact CB hkl (by rw[hc];rfl)
       have HQ:=O (hB.out (by rw[hbi];have:=HT.out;omega));have HK:=O hbi;have f260:=hsc.fr 260;have c260:=hsc.c260;clear hbi hk;change(BF (bAt t k).toNat==4)=true at hc;generalize bAt t k=x at*;go_wp2_with fail;go_quiet(fail);go_wp2;refine bodyPost_ret (Bt (t:=⟨2,i,t⟩) (r:=false) rfl _ (((hr.res.drewN _).set_other _ _ (by simp;omega)).set3 _ _ _) rfl rfl) rfl ⟨?_,?_⟩
       ·have g:=AX (r:=some b) hr.g;exact (by repeat(first| (with_reducible exact Ac _ _)| (with_reducible assumption)| (with_reducible exact AX (by assumption))| (with_reducible refine Ad ?_ _)| (with_reducible refine Am ?_)| (with_reducible refine Ay ?_ _)| ((with_reducible refine Az ?_ _ _ ?h2);case h2=>first|exact .inl rfl|exact .inr (Nat.le_refl _)|exact .inr (by simp<;>omega))| (with_reducible refine Ag ?_ (by assumption))| (with_reducible refine Aa ?_ (by assumption))))
       ·rw[HQ.out,HK.out];exact⟨⟨_,rfl⟩,i,true,by push_cast;exact(by repeat(first| (with_reducible assumption)| (with_reducible apply Sc.alloc)| (with_reducible apply Sc.drew)| (with_reducible apply Sc.drewN)| (with_reducible apply Sc.setLine)| (with_reducible apply Sc.setBegun)| (with_reducible apply Sc.setBad)| (with_reducible apply Sc.go)| (with_reducible apply Sc.set_other)|omega| (simp<;>omega)))⟩
     | false=>
       have HR:=O (fun w1 g=>hr.go hkl (w1:=w1) hc g);change(BF (bAt t k).toNat==4)=false at hc;generalize bAt t k=x at*;go_wp2_with fail;go_quiet(fail);go_wp2;go_roundg gk
       case measure=>omega
       case rel=>exact⟨k+1,by omega,by simp,HR.out _ (Ay (Ac wr none) _)⟩
 ·rw[if_neg hq2]at hz;have HQ:=O (OC hq2);have hl:=Gc (h.alloc (.cells #[.int .i64 0,.int .i64 i,str []] 105 (0,0))|>.alloc (.cells #[.int .i64 0,.int .i64 0,str []] 105 (0,0))) i (by omega);generalize Aq s i=e at*;have HI:=O (I1 s (i+1) e (bAt s i) hz);have HL:=O hl;clear hz hl;generalize bAt s i=q at*;have f260:=h.fr 260;have c260:=h.c260;go_enter func199,ntmps199;go_wp2_with fail;refine HL.out.mono ?_;rintro e w1 ⟨rfl,rfl⟩;go_wp2_with fail;go_quiet((go_at_call 237;exact Calls.quiet_of_same (HI.out _)));go_wp2;refine bodyPost_ret (Bt (t:=⟨0,i,[]⟩) (r:=false) rfl _ (((((Blk.new (w.alloc _) [.int .i64 0,.int .i64 0,str []] 105).of_eq (by simp) rfl).drewN nq).set_other _ _ (by simp;omega)).set3 _ _ _) rfl rfl) rfl ⟨(by repeat(first| (with_reducible exact Ac _ _)| (with_reducible assumption)| (with_reducible exact AX (by assumption))| (with_reducible refine Ad ?_ _)| (with_reducible refine Am ?_)| (with_reducible refine Ay ?_ _)| ((with_reducible refine Az ?_ _ _ ?h2);case h2=>first|exact .inl rfl|exact .inr (Nat.le_refl _)|exact .inr (by simp<;>omega))| (with_reducible refine Ag ?_ (by assumption))| (with_reducible refine Aa ?_ (by assumption)))),?_⟩;rw[HQ.out];exact⟨⟨_,rfl⟩,i,true,(by repeat(first| (with_reducible assumption)| (with_reducible apply Sc.alloc)| (with_reducible apply Sc.drew)| (with_reducible apply Sc.drewN)| (with_reducible apply Sc.setLine)| (with_reducible apply Sc.setBegun)| (with_reducible apply Sc.setBad)| (with_reducible apply Sc.go)| (with_reducible apply Sc.set_other)|omega| (simp<;>omega)))⟩
def ER(w:World)(t:Bs)(e:Ending)(w':World):Prop:=w.grownBy w' none∧match BU t with
 |some (d,n)=>e= .returned (.tuple #[str d,.int .i64 n,.bool true])
 |none=>∃d n,e= .returned (.tuple #[str d,.int .i64 n,.bool false])
section
variable {w w':World}{t d:Bs}{n:Nat}{m:Int}
theorem Ie(h:BU t=some (d,n))(g:w.grownBy w' none)(hm:m=n):ER w t (.returned (.tuple #[str d,.int .i64 m,.bool true])) w':=by
 subst hm;unfold ER;rw[h];exact⟨g,rfl⟩
theorem DU(h:BU t=none)(g:w.grownBy w' none):ER w t (.returned (.tuple #[str d,.int .i64 m,.bool false])) w':=by
 unfold ER;rw[h];exact⟨g,d,m,rfl⟩
end
theorem L0{t:Bs}(h:[123,125].isPrefixOf t=true):BU t=some ([],2):=if_pos h
theorem EN{t:Bs}(h:[123,125].isPrefixOf t=false)(hf:Di t=false):BU t=none:=by
 unfold BU;rw[if_neg (by rw[h];simp),if_neg (by rw[hf];simp)]
theorem NP{t:Bs}(h:[123,125].isPrefixOf t=false)(hf:Di t=true)(h1:(Bo (CY t)).2=true)(h2:CY t≠Df):BU t=some (CY t,13):=by
 unfold BU;rw[if_neg (by rw[h];simp),if_pos hf,if_pos (by simp[h1,h2])]
theorem J7{t:Bs}(h:[123,125].isPrefixOf t=false)(hf:Di t=true)(h1:(Bo (CY t)).2=false∨CY t=Df):BU t=none:=by
 unfold BU;rw[if_neg (by rw[h];simp),if_pos hf,if_neg (by rcases h1 with h1|h1<;>simp[h1])]
theorem DR(t p:Bs){r:Bool}(hr:p.isPrefixOf t=r)(w:World):
 Calls Tryz.prog 154 #[.string ⟨t.toArray⟩,.string ⟨p.toArray⟩] w fun e w'=>e= .returned (.bool r)∧w=w':=by
 subst hr;refine(strings_HasPrefix _ _ _).mono ?_;rintro e w' ⟨rfl,rfl⟩;exact⟨rfl,rfl⟩
theorem QI{t:Bs}(h:13≤t.length):∃a0 a1 a2 a3 a4 a5 a6 a7 a8 a9 a10 a11 a12 r,t=a0::a1::a2::a3::a4::a5::a6::a7::a8::a9::a10::a11::a12::r:=by
 match t,h with
 |a0::a1::a2::a3::a4::a5::a6::a7::a8::a9::a10::a11::a12::r,_=>exact⟨_,_,_,_,_,_,_,_,_,_,_,_,_,_,rfl⟩
theorem FW{a:UInt8}{r:Bool}(h:((a.toNat:Int) !=45)=r):(a==45)= !r:=by
 subst h;by_cases e:a=45
 ·subst e;rfl
 ·have h1:a.toNat≠45:=fun h=>e (UInt8.toNat_inj.1 h);have h2:((a.toNat:Int)==45)=false:=by simp;omega
  have h3:(a==45)=false:=by simpa using e
  simp[bne,h2,h3]
theorem Kk{a:UInt8}{r:Bool}(h:((a.toNat:Int) !=125)=r):(a==125)= !r:=by
 subst h;by_cases e:a=125
 ·subst e;rfl
 ·have h1:a.toNat≠125:=fun h=>e (UInt8.toNat_inj.1 h);have h2:((a.toNat:Int)==125)=false:=by simp;omega
  have h3:(a==125)=false:=by simpa using e
  simp[bne,h2,h3]
theorem PB{w:World}{b:Nat}{s:Bs}{i:Nat}{line begun:Bool}{bad:Int}(h:Sc w b s i line begun bad):
 Calls Tryz.prog 200 #[.pointer (some ⟨b,0,none⟩)] w (ER w (s.drop i)):=by
 have hb:=h.lt;have hf:=h.few;have hi:=h.le;have c0:=h.c0;have c1:=h.c1;have hx:=FP s i;have HX:=O hx;have hle:decide ((i:Int)≤s.length)=true:=by simp;omega
 have htl:(s.drop i).length≤4000:=by simp;omega
 clear hx h;generalize hts:s.drop i=t at*;clear hts;cases hp:[123,125].isPrefixOf t with
 | true=>
   have HM:=O (L0 hp);go_enter func200,ntmps200;go_wp2_with fail;go_quiet(fail);rw[HX.out];go_wp2_with fail;refine(DR t [123,125] hp _).mono ?_;rintro e w1 ⟨rfl,rfl⟩;go_wp2;exact bodyPost_ret (v:= .tuple #[str [],.int .i64 2,.bool true]) (by simp[results,results200,go_sem]) rfl (Ie HM.out (by repeat(first| (with_reducible exact Ac _ _)| (with_reducible assumption)| (with_reducible exact AX (by assumption))| (with_reducible refine Ad ?_ _)| (with_reducible refine Am ?_)| (with_reducible refine Ay ?_ _)| ((with_reducible refine Az ?_ _ _ ?h2);case h2=>first|exact .inl rfl|exact .inr (Nat.le_refl _)|exact .inr (by simp<;>omega))| (with_reducible refine Ag ?_ (by assumption))| (with_reducible refine Aa ?_ (by assumption)))) rfl)
 | false=>
   by_cases h13:13≤t.length
   ·obtain⟨a0,a1,a2,a3,a4,a5,a6,a7,a8,a9,a10,a11,a12,r,ht⟩:=QI h13;have hx1:(⟨t.toArray⟩:ByteArray).extract 0 2=⟨[a0,a1].toArray⟩:=by rw[Dm,ht];rfl
    have hx2:(⟨t.toArray⟩:ByteArray).extract 2 6=⟨[a2,a3,a4,a5].toArray⟩:=by rw[Dm,ht];rfl
    have hx3:(⟨t.toArray⟩:ByteArray).extract 7 9=⟨[a7,a8].toArray⟩:=by rw[Dm,ht];rfl
    have hx4:(⟨t.toArray⟩:ByteArray).extract 10 12=⟨[a10,a11].toArray⟩:=by rw[Dm,ht];rfl
    have hg6:∀h,(⟨t.toArray⟩:ByteArray)[6]'h=a6:=by subst ht;intro h;rfl
    have hg9:∀h,(⟨t.toArray⟩:ByteArray)[9]'h=a9:=by subst ht;intro h;rfl
    have hg12:∀h,(⟨t.toArray⟩:ByteArray)[12]'h=a12:=by subst ht;intro h;rfl
    have hform:Di t=(([a0,a1]==[123,94])&&a6==45&&a9==45&&a12==125):=by rw[ht];simp[Di,bAt]
    have hdig:CY t=[a2,a3,a4,a5,a7,a8,a10,a11]:=by rw[ht];rfl
    have hl:decide ((t.length:Int)<13)=false:=by simp;omega
    generalize [a0,a1]=p at*;have HF:=O (Z hform hdig);clear hform hdig ht;cases e1:(p==[123,94])with
    | false=>
      have HM:=O (EN hp (by rw[HF.out.1,e1];rfl));go_enter func200,ntmps200;go_wp2_with fail;go_quiet(fail);rw[HX.out];go_wp2_with fail;refine(DR t [123,125] hp _).mono ?_;rintro e w1 ⟨rfl,rfl⟩;go_wp2;exact bodyPost_ret (v:= .tuple #[str [],.int .i64 0,.bool false]) (by simp[results,results200,go_sem]) rfl (DU HM.out (by repeat(first| (with_reducible exact Ac _ _)| (with_reducible assumption)| (with_reducible exact AX (by assumption))| (with_reducible refine Ad ?_ _)| (with_reducible refine Am ?_)| (with_reducible refine Ay ?_ _)| ((with_reducible refine Az ?_ _ _ ?h2);case h2=>first|exact .inl rfl|exact .inr (Nat.le_refl _)|exact .inr (by simp<;>omega))| (with_reducible refine Ag ?_ (by assumption))| (with_reducible refine Aa ?_ (by assumption)))))
    | true=>
      cases e6:((a6.toNat:Int) !=45)with
      | true=>
        have HM:=O (EN hp (by rw[HF.out.1,FW e6];simp));go_enter func200,ntmps200;go_wp2_with fail;go_quiet(fail);rw[HX.out];go_wp2_with fail;refine(DR t [123,125] hp _).mono ?_;rintro e w1 ⟨rfl,rfl⟩;go_wp2;exact bodyPost_ret (v:= .tuple #[str [],.int .i64 0,.bool false]) (by simp[results,results200,go_sem]) rfl (DU HM.out (by repeat(first| (with_reducible exact Ac _ _)| (with_reducible assumption)| (with_reducible exact AX (by assumption))| (with_reducible refine Ad ?_ _)| (with_reducible refine Am ?_)| (with_reducible refine Ay ?_ _)| ((with_reducible refine Az ?_ _ _ ?h2);case h2=>first|exact .inl rfl|exact .inr (Nat.le_refl _)|exact .inr (by simp<;>omega))| (with_reducible refine Ag ?_ (by assumption))| (with_reducible refine Aa ?_ (by assumption)))))
      | false=>
        cases e9:((a9.toNat:Int) !=45)with
        | true=>
          have HM:=O (EN hp (by rw[HF.out.1,FW e9];simp));go_enter func200,ntmps200;go_wp2_with fail;go_quiet(fail);rw[HX.out];go_wp2_with fail;refine(DR t [123,125] hp _).mono ?_;rintro e w1 ⟨rfl,rfl⟩;go_wp2;exact bodyPost_ret (v:= .tuple #[str [],.int .i64 0,.bool false]) (by simp[results,results200,go_sem]) rfl (DU HM.out (by repeat(first| (with_reducible exact Ac _ _)| (with_reducible assumption)| (with_reducible exact AX (by assumption))| (with_reducible refine Ad ?_ _)| (with_reducible refine Am ?_)| (with_reducible refine Ay ?_ _)| ((with_reducible refine Az ?_ _ _ ?h2);case h2=>first|exact .inl rfl|exact .inr (Nat.le_refl _)|exact .inr (by simp<;>omega))| (with_reducible refine Ag ?_ (by assumption))| (with_reducible refine Aa ?_ (by assumption)))))
        | false=>
          cases e12:((a12.toNat:Int) !=125)with
          | true=>
            have HM:=O (EN hp (by rw[HF.out.1,Kk e12];simp));go_enter func200,ntmps200;go_wp2_with fail;go_quiet(fail);rw[HX.out];go_wp2_with fail;refine(DR t [123,125] hp _).mono ?_;rintro e w1 ⟨rfl,rfl⟩;go_wp2;exact bodyPost_ret (v:= .tuple #[str [],.int .i64 0,.bool false]) (by simp[results,results200,go_sem]) rfl (DU HM.out (by repeat(first| (with_reducible exact Ac _ _)| (with_reducible assumption)| (with_reducible exact AX (by assumption))| (with_reducible refine Ad ?_ _)| (with_reducible refine Am ?_)| (with_reducible refine Ay ?_ _)| ((with_reducible refine Az ?_ _ _ ?h2);case h2=>first|exact .inl rfl|exact .inr (Nat.le_refl _)|exact .inr (by simp<;>omega))| (with_reducible refine Ag ?_ (by assumption))| (with_reducible refine Aa ?_ (by assumption)))))
          | false=>
            have hfo:Di t=true:=by rw[HF.out.1,e1,FW e6,FW e9,Kk e12];rfl
            have hdi:=HF.out.2;have HH:=O (Z hfo hdi);clear hfo hdi HF;go_enter func200,ntmps200;go_wp2_with fail;go_quiet(fail);rw[HX.out];go_wp2_with fail;refine(DR t [123,125] hp _).mono ?_;rintro e w1 ⟨rfl,rfl⟩;go_wp2_with fail;go_quiet(fail);have hcat:(({data:=#[a2,a3,a4,a5]}:ByteArray)++{data:=#[a7,a8]}++{data:=#[a10,a11]})=⟨[a2,a3,a4,a5,a7,a8,a10,a11].toArray⟩:=rfl;rw[hcat];have hul:=Ix [a2,a3,a4,a5,a7,a8,a10,a11] (by simp);clear hcat hx2 hx3 hx4;generalize [a2,a3,a4,a5,a7,a8,a10,a11]=D at*;have HU:=O hul;clear hul;go_wp2_with fail;refine(HU.out _).mono ?_;rintro e w1 ⟨rfl,g1⟩;cases hok:(Bo D).2 with
            | false=>
              have HM:=O (J7 hp HH.out.1 (.inl (by rw[HH.out.2,hok])));generalize(Bo D).1=v at*;go_wp2;exact bodyPost_ret (v:= .tuple #[str D,.int .i64 13,.bool false]) (by simp[results,results200,go_sem]) rfl (DU HM.out (Ag (Ay (Ac _ _) _) g1))
            | true=>
              cases hbl:(D==Df)with
              | true=>
                have HM:=O (J7 hp HH.out.1 (.inr (by rw[HH.out.2];simpa using hbl)));change(D==[32,32,32,32,32,32,32,32])=true at hbl;generalize(Bo D).1=v at*;go_wp2;exact bodyPost_ret (v:= .tuple #[str D,.int .i64 13,.bool false]) (by simp[results,results200,go_sem]) rfl (DU HM.out (Ag (Ay (Ac _ _) _) g1))
              | false=>
                have HM:=O (NP hp HH.out.1 (by rw[HH.out.2,hok]) (by rw[HH.out.2];simpa using hbl));have HD:=O HH.out.2;change(D==[32,32,32,32,32,32,32,32])=false at hbl;generalize(Bo D).1=v at*;go_wp2;exact bodyPost_ret (v:= .tuple #[str D,.int .i64 13,.bool true]) (by simp[results,results200,go_sem]) rfl (Ie (HD.out ▸ HM.out) (Ag (Ay (Ac _ _) _) g1) rfl)
   ·have HM:=O (EN hp (by simp[Di,h13]));have hl:decide ((t.length:Int)<13)=true:=by simp;omega
    go_enter func200,ntmps200;go_wp2_with fail;go_quiet(fail);rw[HX.out];go_wp2_with fail;refine(DR t [123,125] hp _).mono ?_;rintro e w1 ⟨rfl,rfl⟩;go_wp2;exact bodyPost_ret (v:= .tuple #[str [],.int .i64 0,.bool false]) (by simp[results,results200,go_sem]) rfl (DU HM.out (by repeat(first| (with_reducible exact Ac _ _)| (with_reducible assumption)| (with_reducible exact AX (by assumption))| (with_reducible refine Ad ?_ _)| (with_reducible refine Am ?_)| (with_reducible refine Ay ?_ _)| ((with_reducible refine Az ?_ _ _ ?h2);case h2=>first|exact .inl rfl|exact .inr (Nat.le_refl _)|exact .inr (by simp<;>omega))| (with_reducible refine Ag ?_ (by assumption))| (with_reducible refine Aa ?_ (by assumption)))))
end Go.Proofs.YtgjdhajcnechdaaGreatDoor
