/-
  The reference's lexer: Capitals, signs, signAt. The reference: In, Begins, Full. The reference: Full. The words of statements on the reference's side; tree.Words; SameTexts.
-/
import Derived.Test.YtmcajbhljbbglaaGreatDoorSpF
import Derived.Test.YtmcajbhljbbglaaGreatDoorSp26
import Derived.Laws.IdiomStrings
import Derived.Test.YtmcajbhljbbglaaGreatDoorSp27
import Derived.Test.YtmcajbhljbbglaaGreatDoorSp09
import Derived.Test.YtmcajbhljbbglaaGreatDoorSp13
set_option linter.all false
set_option maxRecDepth 100000
set_option maxHeartbeats 8000000
namespace Go.Proofs.YtmcajbhljbbglaaGreatDoor
open Tryz
open Go.RowKit
def ER(s:Bs)(k j:Nat):UInt8:=if j<k then Lib.upperB (bAt s j)else bAt s j
theorem OM(s:Bs):(Lib.toUpperA s).length=s.length:=by simp[Lib.toUpperA]
theorem qF(s:Bs)(j:Nat)(hj:j<(Lib.toUpperA s).length):(Lib.toUpperA s)[j]=Lib.upperB (bAt s j):=by
 have hj':j<s.length:=by rwa[OM]at hj
 simp[Lib.toUpperA,Gg hj']
structure CapR(w:World)(s:Bs)(H k:Nat)(wr:World):Prop where
 cell:∀j,j<s.length→wr.cell? ⟨H,j,none⟩=some (.int .u8 (ER s k j).toNat)
 fr:∀j,j<s.length→wr.frozen? ⟨H,j,none⟩=false
 lt:H<wr.heap.size
 g:w.grownBy wr none
theorem CapR.step{w wr:World}{s:Bs}{H k:Nat}(h:CapR w s H k wr)(hH:w.heap.size≤H)(hk:k<s.length):CapR w s H (k+1) (wr.setCell ⟨H,k,none⟩ (.int .u8 (Lib.upperB (bAt s k)).toNat)):=by
 refine⟨fun j hj=>?_,fun j hj=>by rw[World.frozen?_setCell];exact h.fr j hj,by simpa using h.lt,A7 h.g _ _ (.inr hH)⟩;by_cases e:j=k
 ·subst e;rw[World.cell?_setCell_same _ _ _ (h.cell j hj)];simp[ER]
 ·rw[World.cell?_setCell_other _ _ _ _ (by simp[e]),h.cell j hj];have:(j<k+1)=(j<k):=by apply propext;omega
  simp[ER,this]
theorem U4(s:Bs)(hs:s.length≤1000000)(w:World):Calls Tryz.prog 141 #[str s] w fun e w'=>e= .returned (str (Lib.toUpperA s))∧w.grownBy w' none:=by
 have eQ{P}(h:P:=by
 go_enter func141,ntmps141;go_wp2_with fail;go_loopg [4] s.length (fun g v4 wr=>∃k:Nat,k+g=s.length∧v4= .int .i64 k∧CapR w s w.heap.size k wr)
 case atStart=>exact⟨0,by omega,rfl,H0.out⟩
 case round=>
  obtain⟨k,hk,rfl,hr⟩:=hrel;clear H0 hconv;cases gk with
  | zero=>
    exact YK
  | succ gk=>
    have hkl:k<s.length:=Ab;have hj1:decide (k<s.length)=true:=Ag;have ck:=hr.cell k hkl;have fk:=hr.fr k hkl;have hlt:=hr.lt;have ek:ER s k k=bAt s k:=by simp[ER]
    rw[ek]at ck;have HR:=Z (hr.step (Nat.le_refl _) hkl);clear hr ek;go_wp2_with fail;refine(l2 _ _).mono ?_;rintro e w1 ⟨rfl,rfl⟩;exact QX):=Aa h
 exact Yt
theorem qZ(w:World):Calls Tryz.prog 213 #[] w fun e w'=>e= .returned (.slice (some ⟨w.heap.size,0,none⟩) 38 38)∧w'=w.alloc (.cells (signsL.map str).toArray 9 (0,0)):=by
 go_enter func213,ntmps213;exact I5
theorem UC{α:Type}{L r:List α}{i:Nat}{c:α}(h:L.drop i=c::r):L[i]? =some c∧L.drop (i+1)=r∧i<L.length:=by
 have h1:(L.drop i)[0]? =some c:=by rw[h];rfl
 have h2:(L.drop i).drop 1=r:=by rw[h];rfl
 have h3:L[i]? =some c:=JP;exact⟨h3,by simpa[List.drop_drop]using h2,(List.getElem?_eq_some_iff.1 h3).1⟩
theorem zI{w:World}{wv:Value}{L:List Bs}{ok:Nat→Prop}(h:SRow w wv L ok)(s:Bs):
 Calls Tryz.prog 142 #[wv,str s] w fun e w'=>e= .returned (.bool (L.contains s))∧w.grownBy w' none:=by
 have NV{P}(h:P:=by clear hat hle hmx;generalize hT:L.contains s=T;go_enter func142,ntmps142;exact XU):=Aa h;exact Nt
theorem AaR{s t:Bs}:t.length≤s.length→(s.take t.length==t)=t.isPrefixOf s:=by
 intro h;rw[Bool.eq_iff_iff,List.isPrefixOf_iff_prefix,beq_iff_eq,List.prefix_iff_eq_take];exact eq_comm
theorem pX(s t:Bs)(hs:s.length≤1000000)(ht:t.length≤1000000)(w:World):
 Calls Tryz.prog 143 #[str s,str t] w fun e w'=>e= .returned (.bool (t.isPrefixOf s))∧w.grownBy w' none:=by
 by_cases h:t.length≤s.length
 ·have h1:decide ((t.length:Int)≤(s.length:Int))=true:=by simp;omega
  have h2:(0:Int)≤(t.length:Int):=Ab;have h3:(t.length:Int)≤(s.length:Int):=Ab;have HT:=Z (AaR h);go_enter func143,ntmps143;go_wp2;go_ret;have e:((⟨s.toArray⟩:ByteArray).extract 0 t.length).toList=s.take t.length:=by rw[Ed,Nat.sub_zero,List.drop_zero];simp
  refine⟨?_,Aj _ _⟩;show Ending.returned (Value.bool (((⟨s.toArray⟩:ByteArray).extract 0 t.length).toList==t))=_;rw[e,HT.out]
 ·have h1:decide ((t.length:Int)≤(s.length:Int))=false:=by simp;omega
  have HT:=Z (show t.isPrefixOf s=false by
   rw[Bool.eq_false_iff];intro e;have:=(List.isPrefixOf_iff_prefix.1 e).length_le;omega)
  go_enter func143,ntmps143;go_wp2;go_ret;exact⟨by rw[HT.out];rfl,Aj _ _⟩
def NoneF(f:Bool)(x:Bs):Prop:=f=false→x=[]
def Wv(w:World)(L:List Bs)(s:Bs)(e:Ending)(w':World):Prop:=(∃f:Bool,e= .returned (.tuple #[str (Da L s),.bool f])∧NoneF f (Da L s))∧w.grownBy w' none
theorem wW{w:World}{wv:Value}{L:List Bs}{ok:Nat→Prop}(h:SRow w wv L ok)(s:Bs)(hs:s.length≤4000)(hu:Lib.toUpperA s=s)(hL:∀x∈L,x.length≤100)(hp0:0<L.length):
 Calls Tryz.prog 104 #[str s,wv] w (Wv w L s):=by
 have HC:=Z (U4 s Ab w);rw[hu]at HC;have HI:=Z (fun(W:World)(g:w.grownBy W none)=>zI (h.gb g Ae) s);have NV{P}(h:P:=by
 clear hat hle hmx hu;cases hcc:L.contains s with
 | true=>
   have HF:=Z (show Da L s=s by unfold Da;rw[hcc,if_pos rfl]);have iX{P}(h:P:=by go_wp2;refine bodyPost_ret (v:= .tuple #[str s,.bool true]) Qt rfl ⟨⟨true,by rw[HF.out],fun h=>by cases h⟩,Ah g1 g2⟩):=Aa h;exact aJ
 | false=>
   have HF:=Z (show Da L s=if 4≤s.length then(L.find? fun w=>s.isPrefixOf w).getD []else []by unfold Da;rw[hcc,if_neg Ae]);have iX{P}(h:P:=by
   have gwx:=Ah g1 g2;clear HC HI g1 g2;by_cases h4:4≤s.length
   ·have h41:decide ((4:Int)≤(s.length:Int))=true:=by simp;omega
    have HT:=Z (show Da L s=(L.find? fun w=>s.isPrefixOf w).getD []by rw[HF.out,if_pos h4]);generalize hT:L.find? (fun w=>s.isPrefixOf w)=T at HT;go_wp2_with fail;go_loopg [7] L.length (fun g v7 wr=>∃i:Nat,∃r:List Bs,i+g=L.length∧v7= .int .i64 i∧L.drop i=r∧r.find? (fun w=>s.isPrefixOf w)=T∧w.grownBy wr none)
    case atStart=>exact⟨0,L,by omega,rfl,rfl,hT,gwx⟩
    case round=>
     obtain⟨i,r,hg,rfl,hd,hc,hgr⟩:=hrel;clear hT gwx;cases r with
     | nil=>
       have hi:L.length≤i:=XH;have hi1:decide (i<L.length)=false:=Ag;have HN:=Z (show Da L s=[]by rw[HT.out,←hc];rfl);clear hd hc;exact TB
     | cons c r=>
       obtain⟨h1,h2,hi⟩:=UC hd;have hi1:decide (i<L.length)=true:=Lg;have hcl:=hL c (List.mem_of_getElem? h1);obtain⟨lb,lo,rfl,_,c0⟩:=HA.out i hi;have c1:=Am hgr c0;have e:L.getD i []=c:=Xy;rw[e]at c0 c1;have HC0:=Z c0;have i0:(0:Int)≤(i:Int):=Ab;have i2:(i:Int)<(L.length:Int):=Ab;have HB:=Z (pX c s Ab Ab);clear c0 h1 hd e;go_wp2_with fail;refine(HB.out _).mono ?_;rintro e w3 ⟨rfl,g3⟩;have hg3:=Ah hgr g3;have c3:=Am hg3 HC0.out;cases hp:s.isPrefixOf c with
       | true=>
         have HN:=Z (show Da L s=c by rw[HT.out,←hc,List.find?_cons,hp];rfl);clear hc hp g3 hgr c1;go_wp2;refine bodyPost_ret (v:= .tuple #[str c,.bool true]) Qt rfl ⟨⟨true,by rw[HN.out],fun h=>by cases h⟩,hg3⟩
       | false=>
         have HN:=Z (show r.find? (fun w=>s.isPrefixOf w)=T by rw[←hc,List.find?_cons,hp]);have HG:=Z hg3;clear hc hp g3 hgr c1 c3 hg3;go_wp2;go_roundg (L.length-(i+1))
         case measure=>omega
         case rel=>exact⟨i+1,r,by omega,by go_num,h2,HN.out,HG.out⟩
   ·have h41:decide ((4:Int)≤(s.length:Int))=false:=by simp;omega
    have HN:=Z (show Da L s=[]by rw[HF.out,if_neg h4]);have hl1:decide ((0:Int)<(L.length:Int))=true:=decide_eq_true Ab;have hl2:decide (0<L.length)=true:=decide_eq_true hp0;go_wp2_with fail;go_loopg [7] L.length (fun g v7 wr=>g=L.length∧v7= .int .i64 0∧w.grownBy wr none)
    case atStart=>exact⟨rfl,rfl,gwx⟩
    case round=>
     obtain⟨hg,rfl,hgr⟩:=hrel;exact TB):=Aa h
   exact aJ):=Aa h
 exact Nt
open Go.Sort
theorem mA(w:World):Calls Tryz.prog 21 #[] w fun e w'=>∃wv,e= .returned wv∧SRow w' wv wordsL (Ap w.heap.size)∧w.grownBy w' none:=by
 go_enter func21,ntmps21;go_wp2_with fail;refine(sort_Strings w.heap.size 0 wordsRaw.length wordsRaw _ (OT w) Ae En).mono ?_;exact Ys
end Go.Proofs.YtmcajbhljbbglaaGreatDoor
