/-
  The reference's lexer: signAt, quoted. The reference's lexer: quoted.
-/
import Derived.Test.YtmcajbhljbbglaaGreatDoorSpF
import Derived.Test.YtmcajbhljbbglaaGreatDoorSp28
import Derived.Test.YtmcajbhljbbglaaGreatDoorSp29
set_option linter.all false
set_option maxRecDepth 100000
set_option maxHeartbeats 8000000
namespace Go.Proofs.YtmcajbhljbbglaaGreatDoor
open Tryz
open Go.RowKit
structure SgR(w:World)(s:Bs)(i k:Nat)(wr:World):Prop where
 row:Blk wr w.heap.size (signsL.map str) 9
 no:∀j,(hj:j<k)→(hl:j<signsL.length)→C3 s i signsL[j]=false
 g:w.grownBy wr none
theorem SgR.go{w:World}{s:Bs}{i k:Nat}{wr w1:World}(h:SgR w s i k wr)(hk:k<signsL.length)(hx:C3 s i signsL[k]=false)(g:wr.grownBy w1 none):SgR w s i (k+1) w1:=
 ⟨h.row.gb g Ae,fun j hj hl=>by
  by_cases e:j=k
  ·subst e;exact hx
  ·exact h.no j Ab hl,A0 h.g g⟩
theorem Pm(s:Bs)(hs:s.length≤4000)(i j:Nat)(w:World):
 Calls Tryz.prog 141 #[.string ((⟨s.toArray⟩:ByteArray).extract i j)] w fun e w'=>e= .returned (str (Lib.toUpperA (A3 s i j)))∧w.grownBy w' none:=by
 rw[Ed];exact U4 _ Ag w
theorem U8{s:Bs}{i k:Nat}(hk:k<signsL.length)(he:i+signsL[k].length≤s.length){r:Bool}(h:C3 s i signsL[k]=r):(Lib.toUpperA (A3 s i (i+signsL[k].length))==signsL[k])=r:=by
 rw[←h];simp[C3,he]
theorem s8(s:Bs)(hf:s.length≤4000)(i:Nat)(hi:i≤s.length)(w:World):
 Calls Tryz.prog 176 #[str s,.int .i64 i] w fun e w'=>e= .returned (str ((Dc s i).getD []))∧w.grownBy w' none:=by
 have hA:SgR w s i 0 (w.alloc (.cells (signsL.map str).toArray 9 (0,0))):=
  ⟨Blk.new w _ _,fun j hj=>by omega,World.grownBy_alloc w _ none⟩
 go_enter func176,ntmps176;go_wp2_with fail;refine(qZ _).mono ?_;rintro e w1 ⟨rfl,rfl⟩;go_wp2_with fail;go_loopg [6,7] 38 (fun g v6 v7 wr=>∃k:Nat,k+g=38∧v6= .int .i64 k∧SgR w s i k wr)
 case atStart=>exact⟨0,rfl,rfl,hA⟩
 case round=>
  obtain⟨k,hk,rfl,hr⟩:=hrel;clear hA;have gwx:=hr.g.size;have hlt:=hr.row.lt;cases gk with
  | zero=>
    have e:k=38:=Ab;subst e;have HM:=Z (V5 (s:=s) (i:=i) (fun j hj=>hr.no j hj hj));have HG:=Z hr.g;clear hr;go_wp2;go_ret;exact⟨by rw[HM.out];rfl,HG.out⟩
  | succ gk=>
    have cJ{P}(h:P:=by
    have hk0:(0:Int)≤(k:Int):=Ab;have hk1:(k:Int)<38:=Ab;cases hh:C3 s i signsL[k]with
    | false=>
      have HR:=Z (fun w1 g=>hr.go hkl (w1:=w1) hh g);by_cases hend:i+signsL[k].length≤s.length
      ·have hz:=U8 hkl hend hh;have HU:=Z (fun(W:World)=>Pm s hf i (i+signsL[k].length) W);have eK{P}(h:P:=by exact Sn):=Aa h;exact Yi
      ·clear hh hr;exact To
    | true=>
      have hend:i+signsL[k].length≤s.length:=by simp[C3]at hh;exact hh.1
      have hz:=U8 hkl hend hh;have HU:=Z (fun(W:World)=>Pm s hf i (i+signsL[k].length) W);have HM:=Z (V6 hkl (fun j hj=>hr.no j hj Ab) hh);have HG:=Z hr.g;have eK{P}(h:P:=by have gA:wr.grownBy w5 none:=A0 (An (Aj wr none)) g5;have c5:=Am gA ck;go_wp2;go_ret;exact⟨by rw[HM.out];rfl,A0 HG.out gA⟩):=Aa h;exact Yi):=Aa h
    exact SP
def Cu(w:World)(b:Nat)(s:Bs)(r:St)(pre:List Tok)(e:Ending)(w':World):Prop:=
 e= .returned (.tuple #[])∧Below b w w'∧match r with
  | .tok t j l=>∃ov,Rl w' b s j l (-1) ov (pre++[t])
  | .again j l=>∃ov,Rl w' b s j l (-1) ov pre
  | .bad k=>∃j l ov pre',Rl w' b s j l k ov pre'
  | .stop=>False
section
variable {w w':World}{b:Nat}{s:Bs}{pre pre':List Tok}{r:St}{t:Tok}{j k:Nat}{l:Bool}{ov:Value}
theorem Jv(hr:r= .tok t j l)(g:Below b w w')(h:Rl w' b s j l (-1) ov (pre++[t])):Cu w b s r pre (.returned (.tuple #[])) w':=by subst hr;exact⟨rfl,g,_,h⟩
theorem Mo(hr:r= .again j l)(g:Below b w w')(h:Rl w' b s j l (-1) ov pre):Cu w b s r pre (.returned (.tuple #[])) w':=by subst hr;exact⟨rfl,g,_,h⟩
theorem Ju(hr:r= .bad k)(g:Below b w w')(h:Rl w' b s j l k ov pre'):Cu w b s r pre (.returned (.tuple #[])) w':=by subst hr;exact⟨rfl,g,_,_,_,_,h⟩
end
def Ei(s:Bs)(i k:Nat):Int:=if Au s (fun b=>!cls 4 b) i<k then Au s (fun b=>!cls 4 b) i else -1
theorem uK{s:Bs}{i:Nat}(hi:i<s.length)(hq:bAt s i=34∨bAt s i=39)(hn:Bn s i<s.length)(h10:bAt s (Bn s i)≠10):
 (Ei s i (Bn s i)= -1∧Dz s i= .tok ⟨2,i,A3 s (i+1) (Bn s i)⟩ (Bn s i+1) true)∨∃k:Nat,Ei s i (Bn s i)=k∧Dz s i= .bad k:=by
 have hle:i+1≤Bn s i:=By _ _ _;have h4:cls 4 (bAt s i)=false:=Ld;have hB:Au s (fun b=>!cls 4 b) i=Au s (fun b=>!cls 4 b) (i+1):=BK hi (by simp[h4]);have hge:=By s (fun b=>!cls 4 b) (i+1);have hp:=yP (s:=s) (p:=fun b=>!cls 4 b) hle (Nat.le_of_lt hn);unfold Ei;rw[hB];by_cases h:Au s (fun b=>!cls 4 b) (i+1)<Bn s i
 ·right;refine⟨Au s (fun b=>!cls 4 b) (i+1),by rw[if_pos h],?_⟩;have hb:GP (A3 s (i+1) (Bn s i))=Au s (fun b=>!cls 4 b) (i+1)-(i+1):=by unfold GP;rw[hp];omega
  rw[Vq ⟨hn,h10⟩ (by rw[hb];omega),hb];congr 1;omega
 ·left;refine⟨by rw[if_neg h],?_⟩;have hb:GP (A3 s (i+1) (Bn s i))=Bn s i-(i+1):=by unfold GP;rw[hp];omega
  rw[VJ ⟨hn,h10⟩ (by rw[hb];omega)]
theorem pW{s:Bs}{i k:Nat}(hk:k<s.length)(hc:cls 4 (bAt s k)=false):Ei s i (k+1)=Ei s i k:=by
 unfold Ei;by_cases h2:Au s (fun b=>!cls 4 b) i<k
 ·rw[if_pos h2,if_pos Ab]
 ·rw[if_neg h2,if_neg];intro h3;have e:Au s (fun b=>!cls 4 b) i=k:=Ab;have:=Jw (s:=s) (p:=fun b=>!cls 4 b) (i:=i) Ab;rw[e]at this;simp[hc]at this
theorem sL{s:Bs}{i k:Nat}(hik:i≤k)(hc:cls 4 (bAt s k)=true):(Ei s i k= -1∧Ei s i (k+1)=k)∨∃q:Nat,q≤k∧Ei s i k=q∧Ei s i (k+1)=q:=by
 have hle:Au s (fun b=>!cls 4 b) i≤k:=by
  by_cases h2:k<Au s (fun b=>!cls 4 b) i
  ·have:=(Hr (p:=fun b=>!cls 4 b) hik h2).2;simp[hc]at this
  ·omega
 unfold Ei;by_cases h:Au s (fun b=>!cls 4 b) i<k
 ·right;exact⟨_,hle,by rw[if_pos h],by rw[if_pos Ab]⟩
 ·left;exact⟨by rw[if_neg h],by rw[if_pos Ab];congr 1;omega⟩
theorem V7(s:Bs)(i j:Nat):(⟨s.toArray⟩:ByteArray).extract i j=⟨(A3 s i j).toArray⟩:=Ed s i j
theorem xY{w:World}{b:Nat}{s:Bs}{i:Nat}{line:Bool}{wrong:Int}{ov:Value}{pre:List Tok}(h:Rl w b s i line wrong ov pre)(k:Int)(t:Bs)(z:Int)(n:Nat)(hz:z=n)(hn:i+n≤s.length)(hc:pre.length≤100000):
 Calls Tryz.prog 172 #[.pointer (some ⟨b,0,none⟩),.int .i64 k,str t,.int .i64 z] w (PF w b s (i+n) true wrong (pre++[⟨k,i,t⟩])):=by
 subst hz;exact KK h k t n hn hc
section
variable {w:World}{b:Nat}{s:Bs}{i:Nat}{line:Bool}{ov:Value}{pre:List Tok}
theorem qX(h:Rl w b s i line (-1) ov pre)(hi:i<s.length)(hq:bAt s i=34∨bAt s i=39)(hc:pre.length≤100000):
 Calls Tryz.prog 174 #[.pointer (some ⟨b,0,none⟩)] w (Cu w b s (Dz s i) pre):=by
 have Gz{P}(h:P:=by
 have HQ:=Z hq;have HH:=Z h;clear hq h;go_enter func174,ntmps174;go_wp2_with fail;go_quiet(fail);have h1:=HH.out.drewN nq;have d1:=h1.c1;have H1:=Z h1;have hW:Below b w (w.drewN nq):=I4 (AA (Aj _ _) _) Ab;have HW:=Z hW;have hsz:b<(w.drewN nq).heap.size:=h1.lt;clear h1 HH hW c0 c1 hg;generalize hw0:w.drewN nq=w0 at*;clear hw0;go_wp2_with fail;go_loopg [3] (s.length-(i+1)) (fun g v3 wr=>∃k:Nat,k+g=s.length∧v3= .int .i64 k∧Au s (fun x=>x !=10&&x !=bAt s i) k=Bn s i∧w0=wr)
 case atStart=>exact⟨i+1,by omega,by go_num,rfl,rfl⟩
 case round=>
  obtain⟨k,hk,rfl,hr,rfl⟩:=hrel;have h0:=H1.out;have c0:=h0.c0;have c1:=h0.c1;clear d1;by_cases hend:k<s.length∧(bAt s k !=10&&bAt s k !=bAt s i)=true
  ·obtain⟨hkl,hx⟩:=hend;obtain⟨gk',rfl⟩:∃g',gk=g'+1:=⟨gk-1,by omega⟩;have hj1:decide (k<s.length)=true:=Ag;have hg:=fun h=>BI s k h hkl;have HN:=Z (show Au s (fun x=>x !=10&&x !=bAt s i) (k+1)=Bn s i by rw[←hr];exact(BK hkl hx).symm);simp only[Bool.and_eq_true,bne_iff_ne,ne_eq]at hx;have e10:(((bAt s k).toNat:Int) !=10)=true:=by
    simp only[bne_iff_ne,ne_eq];intro e;exact hx.1 (by apply UInt8.toNat_inj.1;simpa using(by omega:(bAt s k).toNat=10))
   have eq:(((bAt s k).toNat:Int) !=((bAt s i).toNat:Int))=true:=by
    simp only[bne_iff_ne,ne_eq];intro e;exact hx.2 (by apply UInt8.toNat_inj.1;omega)
   clear hx hr h0;go_wp2;go_roundg gk'
   case measure=>omega
   case rel=>exact⟨k+1,by omega,by go_num,HN.out,rfl⟩
  ·have hkq : k = Bn s i := by
    rw[←hr];by_cases hkl:k<s.length
    ·rw[Dq hkl];cases hx:(bAt s k !=10&&bAt s k !=bAt s i)with
     |false=>rfl
     |true=>exact absurd ⟨hkl,hx⟩ hend
    ·rw[DZ Ab]
   clear hr;by_cases hbad:k<s.length∧bAt s k≠10
   ·obtain⟨hkl,h10⟩:=hbad;have hxi:bAt s k=bAt s i:=by
     by_cases e:bAt s k=bAt s i
     ·exact e
     ·exact absurd ⟨hkl,by simp[h10,e]⟩ hend
    have hj1:decide (k<s.length)=true:=Ag;have hj2:decide (s.length≤k)=false:=Ag;have hg:=fun h=>BI s k h hkl;rw[hxi]at hg;have e10:(((bAt s i).toNat:Int) !=10)=true:=by
     rcases HQ.out with e|e<;>rw[e]<;>rfl
    have e10':(((bAt s i).toNat:Int)==10)=false:=by
     rcases HQ.out with e|e<;>rw[e]<;>rfl
    have hR:=uK hi HQ.out (by rw[←hkq];exact hkl) (by rw[←hkq];exact h10);rw[←hkq]at hR;have hik:i+1≤k:=by rw[hkq];exact By _ _ _
    have HR:=Z hR;clear hR hend hkq h10 hxi h0;go_wp2_with fail;go_loopg [4] (k-i) (fun g v4 wr=>∃j:Nat,j+g=k∧i≤j∧v4= .int .i64 j∧Rl wr b s i line (Ei s i j) ov pre∧w0.grownBy wr (some b))
    case atStart=>
     refine⟨i,by omega,Nat.le_refl _,rfl,H1.out.wr_eq ?_,Aj _ _⟩;unfold Ei;rw[if_neg (by have:=By s (fun b=>!cls 4 b) i;omega)]
    case round=>
     obtain⟨j,hj,hij,rfl,hs,gr⟩:=hrel;have HG:=Z gr;clear gr;have c0:=hs.c0;have c1:=hs.c1;have hbl:=hs.lt;cases gk with
     | zero=>
       have hjk:j=k:=Ab;subst hjk;have hkI:decide (j<j)=false:=Ae;have HS:=Z hs;have hx:=V7 s (i+1) j;have HP:=Z (fun(W:World)(h:Rl W b s i line (Ei s i j) ov pre)=>xY h 2 (A3 s (i+1) j) ((j:Int)+1-i) (j+1-i) Ab Ab hc);have hw1:IntKind.i64.wrap ((i:Int)+1)=(i:Int)+1:=IntWalk.i64_in _ Ab;have hw2:IntKind.i64.wrap ((j:Int)+1)=(j:Int)+1:=IntWalk.i64_in _ Ab;have hw3:IntKind.i64.wrap ((j:Int)+1-i)=(j:Int)+1-i:=IntWalk.i64_in _ Ab;have hl2:(i:Int)+1≤j:=Ab;have hl3:(j:Int)≤s.length:=Ab;have hl7:j≤s.length:=Ab;clear hs HQ;go_wp2_with fail;go_region_with(go_at_call 172;refine(HP.out _ (HS.out.drewN 1)).mono ?_;rintro e w5 ⟨rfl,hB5,ov5,h5⟩);all_goals
        have HE:=Z (Ac hB5 h5);clear hB5 h5;go_wp2;go_end0;have gB:=(HW.out.trans (EA HG.out Ab)).trans ((I4 (An (Aj _ _)) Ab).trans HE.out.1);rcases HR.out with⟨hw,hM⟩| ⟨q,hw,hM⟩
        ·have h6:=HE.out.2.wr_eq hw;exact Jv hM gB (h6.at_eq Ab)
        ·exact Ju hM gB (HE.out.2.wr_eq hw)
     | succ gk=>
       have hjk:j<k:=Ab;have hkI:decide (j<k)=true:=by simpa using hjk
       have hjl:j<s.length:=Ab;have hg:=fun h=>BI s j h hjl;clear HQ;cases hc4:cls 4 (bAt s j)with
       | false=>
         have HN:=Z (pW (i:=i) hjl hc4);have HC:=Z hc4;have HS:=Z hs;clear hc4 hs;go_wp2_with fail;refine(OE _ _).mono ?_;rintro e w1 ⟨rfl,rfl⟩;rw[HC.out];go_wp2;go_roundg gk
         case measure=>omega
         case rel=>exact⟨j+1,by omega,by omega,by go_num,HS.out.wr_eq HN.out.symm,HG.out⟩
       | true=>
         have hN:=sL (s:=s) hij hc4;have HC:=Z hc4;clear hc4;go_wp2_with fail;refine(OE _ _).mono ?_;rintro e w1 ⟨rfl,rfl⟩;rw[HC.out];rcases hN with⟨e1,e2⟩| ⟨q,hqj,e1,e2⟩
         ·rw[e1]at hs;have E2:=Z e2;clear e1 e2;go_wp2_with fail;refine(Kx hs j).mono ?_;exact Zt
         ·rw[e1]at hs;have E2:=Z e2;clear e1 e2;go_wp2_with fail;refine(VW hs j hqj).mono ?_;exact Zt
   ·have HM:=Z (show Dz s i= .bad i from VI (by rw[←hkq];exact hbad));by_cases hkl:k<s.length
    ·have h10 : bAt s k = 10 := by
      by_cases e:bAt s k=10
      ·exact e
      ·exact absurd ⟨hkl,e⟩ hbad
     have hj1:decide (k<s.length)=true:=Ag;have hj2:decide (s.length≤k)=false:=Ag;have hg:=fun h=>BI s k h hkl;rw[h10]at hg;clear h10 hbad hend hkq HQ;exact ZC
    ·have hj1:decide (k<s.length)=false:=by simp;omega
     have hj2:decide (s.length≤k)=true:=Ag;clear hbad hend hkq HQ;exact ZC):=Aa h
 exact Gw
end
end Go.Proofs.YtmcajbhljbbglaaGreatDoor
