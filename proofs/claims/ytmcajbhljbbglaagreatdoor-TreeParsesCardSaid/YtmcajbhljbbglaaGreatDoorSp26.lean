/-
  The reference's lexer: its reader in memory; fails, end, first, run, isComment. The reference's lexer: run, goesOn, skips. The reference's lexer: put, ends.
-/
import Derived.Test.YtmcajbhljbbglaaGreatDoorSpF
import Derived.Test.YtmcajbhljbbglaaGreatDoorSp23
import Derived.Deep.AppendLies
import Derived.Deep.RegionLaw
set_option linter.all false
set_option maxRecDepth 100000
set_option maxHeartbeats 8000000
namespace Go.Proofs.YtmcajbhljbbglaaGreatDoor
open Tryz
open Go.RowKit
structure Rl(w:World)(b:Nat)(s:Bs)(i:Nat)(line:Bool)(wrong:Int)(ov:Value)(pre:List Tok):Prop where
 blk:Blk w b [str s,.int .i64 i,.bool line,.int .i64 wrong,ov] 122
 row:w.ownsRow (b+1) 89 3 ov pre.length (Cr pre)
 le:i≤s.length
 few:s.length≤4000
section
variable {w w1:World}{b:Nat}{s:Bs}{i:Nat}{line:Bool}{wrong:Int}{ov:Value}{pre:List Tok}
theorem Rl.lt(h:Rl w b s i line wrong ov pre):b<w.heap.size:=h.blk.lt
theorem Rl.c0(h:Rl w b s i line wrong ov pre):w.cell? ⟨b,0,none⟩=some (str s):=h.blk.cell 0
theorem Rl.c1(h:Rl w b s i line wrong ov pre):w.cell? ⟨b,1,none⟩=some (.int .i64 i):=h.blk.cell 1
theorem Rl.c2(h:Rl w b s i line wrong ov pre):w.cell? ⟨b,2,none⟩=some (.bool line):=h.blk.cell 2
theorem Rl.c3(h:Rl w b s i line wrong ov pre):w.cell? ⟨b,3,none⟩=some (.int .i64 wrong):=h.blk.cell 3
theorem Rl.c4(h:Rl w b s i line wrong ov pre):w.cell? ⟨b,4,none⟩=some ov:=h.blk.cell 4
theorem Rl.fr(h:Rl w b s i line wrong ov pre)(k:Nat):w.frozen? ⟨b,k,none⟩=false:=h.blk.frozen k
theorem Rl.gbN(h:Rl w b s i line wrong ov pre)(g:w.grownBy w1 none):Rl w1 b s i line wrong ov pre:=⟨h.blk.gb g Ae,E7 h.row g Ae,h.le,h.few⟩
theorem Rl.alloc(h:Rl w b s i line wrong ov pre)(o:Obj):Rl (w.alloc o) b s i line wrong ov pre:=h.gbN (World.grownBy_alloc w o none)
theorem Rl.drewN(h:Rl w b s i line wrong ov pre)(n:Nat):Rl (w.drewN n) b s i line wrong ov pre:=h.gbN (AA (Aj w none) n)
theorem Rl.rowSet(h:Rl w b s i line wrong ov pre)(k:Nat)(v:Value):(w.setCell ⟨b,k,none⟩ v).ownsRow (b+1) 89 3 ov pre.length (Cr pre):=
 E7 h.row (As (Aj w (some b)) k v) JI
theorem Rl.go(h:Rl w b s i line wrong ov pre)(z:Int)(j:Nat)(hz:z=j)(hj:j≤s.length):Rl (w.setCell ⟨b,1,none⟩ (.int .i64 z)) b s j line wrong ov pre:=by
 subst hz;exact⟨(h.blk.set 1 _).of_eq rfl rfl,h.rowSet _ _,hj,h.few⟩
theorem Rl.setLine(h:Rl w b s i line wrong ov pre)(l:Bool):Rl (w.setCell ⟨b,2,none⟩ (.bool l)) b s i l wrong ov pre:=⟨(h.blk.set 2 _).of_eq rfl rfl,h.rowSet _ _,h.le,h.few⟩
theorem Rl.setWrong(h:Rl w b s i line wrong ov pre)(k:Int):Rl (w.setCell ⟨b,3,none⟩ (.int .i64 k)) b s i line k ov pre:=⟨(h.blk.set 3 _).of_eq rfl rfl,h.rowSet _ _,h.le,h.few⟩
theorem Rl.at_eq{j:Nat}(h:Rl w b s i line wrong ov pre)(e:i=j):Rl w b s j line wrong ov pre:=e ▸ h
theorem Rl.wr_eq{k:Int}(h:Rl w b s i line wrong ov pre)(e:wrong=k):Rl w b s i line k ov pre:=e ▸ h
end
section
variable {w:World}{b:Nat}{s:Bs}{i:Nat}{line:Bool}{wrong:Int}{ov:Value}{pre:List Tok}
theorem Kx(h:Rl w b s i line (-1) ov pre)(k:Nat):
 Calls Tryz.prog 169 #[.pointer (some ⟨b,0,none⟩),.int .i64 k] w fun e w'=>e= .returned (.tuple #[])∧Rl w' b s i line k ov pre∧w.grownBy w' (some b):=by
 have c3:=h.c3;have f3:=h.fr 3;go_enter func169,ntmps169;go_wp2;go_end0;exact⟨rfl,h.setWrong _,A7 (Aj _ _) _ _ (.inl rfl)⟩
theorem VW{q:Nat}(h:Rl w b s i line q ov pre)(k:Nat)(hk:q≤k):
 Calls Tryz.prog 169 #[.pointer (some ⟨b,0,none⟩),.int .i64 k] w fun e w'=>e= .returned (.tuple #[])∧Rl w' b s i line q ov pre∧w.grownBy w' (some b):=by
 have c3:=h.c3;have hq1:decide ((k:Int)<q)=false:=Ag;go_enter func169,ntmps169;go_wp2;go_end0;exact⟨rfl,h,Aj _ _⟩
theorem P0(h:Rl w b s i line wrong ov pre)(k:Nat)(hk:k≤s.length):
 Calls Tryz.prog 123 #[.pointer (some ⟨b,0,none⟩),.int .i64 k] w fun e w'=>e= .returned (.int .i64 (Az s k))∧w.grownBy w' none:=by
 go_enter func123,ntmps123;go_wp2_with fail;go_loopg [1] (s.length-k) (fun g v1 wr=>∃j:Nat,j+g=s.length∧v1= .int .i64 j∧Az s j=Az s k∧w.grownBy wr none)
 case atStart=>exact⟨k,by omega,rfl,rfl,Aj _ _⟩
 case round=>
  obtain⟨j,hj,rfl,hq,g⟩:=hrel;have hf:=h.few;have c0:=Am g h.c0;have HG:=Z g;have HQ:=Z hq;clear hq;cases gk with
  | zero=>
    have hjl:j=s.length:=Ab;have hj1:decide (j<s.length)=false:=Ag;have HE:=Z (show j=Az s k by rw[←HQ.out,Az,DZ Ab]);clear g;go_wp2;go_ret;exact⟨by rw[←HE.out];rfl,HG.out⟩
  | succ gk=>
    have hj1:decide (j<s.length)=true:=Ag;have hjl:j<s.length:=Ab;have hg:=fun h=>BI s j h hjl;cases h10:((bAt s j).toNat:Int) !=10 with
    | true=>
      have HN:=Z (show Az s (j+1)=Az s k by
       rw[←HQ.out];exact(BK hjl (by simp at h10 ⊢;rintro e;rw[e]at h10;simp at h10)).symm)
      clear g;go_wp2;go_roundg gk
      case measure=>omega
      case rel=>exact⟨j+1,by omega,by go_num,HN.out,HG.out⟩
    | false=>
      have HN:=Z (show j=Az s k by
       rw[←HQ.out];have h2:bAt s j=10:=by simp at h10;apply UInt8.toNat_inj.1;simpa using(by omega:(bAt s j).toNat=10)
       exact(Dq hjl (by rw[h2];rfl)).symm)
      clear g;go_wp2;go_ret;exact⟨by rw[←HN.out];rfl,HG.out⟩
theorem qY(h:Rl w b s i line wrong ov pre):
 Calls Tryz.prog 121 #[.pointer (some ⟨b,0,none⟩)] w fun e w'=>e= .returned (.bool (Dw s i))∧w.grownBy w' none:=by
 have c1:=h.c1;have hf:=h.few;have hle:=h.le;go_enter func121,ntmps121;go_wp2_with fail;go_loopg [3] i (fun g v3 wr=>g≤i∧v3= .int .i64 ((g:Int)-1)∧Dw s g=Dw s i∧w.grownBy wr none)
 case atStart=>exact⟨Nat.le_refl _,rfl,rfl,Aj _ _⟩
 case round=>
  obtain⟨hj,rfl,hq,g⟩:=hrel;have c0:=Am g h.c0;have HG:=Z g;have HQ:=Z hq;clear hq;cases gk with
  | zero=>
    have HE:=Z (show true=Dw s i by rw[←HQ.out];rfl);clear g;go_wp2;go_ret;exact⟨by rw[←HE.out];rfl,HG.out⟩
  | succ gk=>
    have hjl:gk<s.length:=Ab;have hg:=fun h=>BI s gk h hjl;have e0:((gk+1:Nat):Int)-1=(gk:Int):=Ab;rw[e0];cases hb:cls 3 (bAt s gk)with
    | true=>
      have HN:=Z (show Dw s gk=Dw s i by rw[←HQ.out,Uv hb]);have HB:=Z hb;clear g hb;have Hf{P}(h:P:=by
      rw[HB.out];go_wp2;go_roundg gk
      case measure=>omega
      case rel=>exact⟨by omega,rfl,HN.out,HG.out⟩):=Aa h;exact Ha
    | false=>
      have HN:=Z (show(bAt s gk==10)=Dw s i by rw[←HQ.out,Uw hb]);have HB:=Z hb;clear g hb;have Hf{P}(h:P:=by rw[HB.out];go_wp2;go_ret;refine⟨?_,HG.out⟩;rw[←HN.out,show(bAt s gk==10)=(((bAt s gk).toNat:Int)==10)from(u8i (n:=10) Ad).symm];rfl):=Aa h;exact Ha
theorem Od(h:Rl w b s i line wrong ov pre)(hi:i<s.length):
 Calls Tryz.prog 120 #[.pointer (some ⟨b,0,none⟩)] w fun e w'=>e= .returned (.bool (Cf s i))∧w.grownBy w' none:=by
 have c0:=h.c0;have c1:=h.c1;have hb:=h.lt;have hf:=h.few;have H:=Z (Wx s i);have hg:=fun h=>BI s i h hi;by_cases hk:i+1<s.length
 ·have hk1:decide ((i:Int)+1<s.length)=true:=by simp;omega
  have hg2:=fun h=>BI s (i+1) h hk;rw[H.out,show(bAt s i==38)=(((bAt s i).toNat:Int)==38)from(u8i (n:=38) Ad).symm,show(bAt s (i+1)==38)=(((bAt s (i+1)).toNat:Int)==38)from(u8i (n:=38) Ad).symm];clear h H;cases h38:((bAt s i).toNat:Int)==38 with
  | true=>
    go_enter func120,ntmps120;go_wp2;go_quiet(fail);go_wp2;go_ret;exact⟨by simp[hk],gw⟩
  | false=>
    go_enter func120,ntmps120;go_wp2;go_quiet(fail);go_wp2;go_ret;exact⟨by simp,gw⟩
 ·have hk1:decide ((i:Int)+1<s.length)=false:=by simp;omega
  rw[H.out];clear h H;go_enter func120,ntmps120;go_wp2;go_quiet(fail);go_wp2;go_ret;refine⟨?_,gw⟩;simp[hk]
end
section
variable {w:World}{b:Nat}{s:Bs}{i:Nat}{line:Bool}{wrong:Int}{ov:Value}{pre:List Tok}
theorem WP(h:Rl w b s i line wrong ov pre)(word:Bool)(p:UInt8→Bool)(hp:∀x,p x=(cls 2 x||(word&&cls 1 x))):
 Calls Tryz.prog 171 #[.pointer (some ⟨b,0,none⟩),.bool word] w fun e w'=>e= .returned (.int .i64 ((Au s p i-i:Nat):Int))∧w.grownBy w' none:=by
 have hle:=h.le;have hb:=h.lt;go_enter func171,ntmps171;go_wp2_with fail;go_loopg [5,6] (s.length-i) (fun g v5 v6 wr=>∃k:Nat,i+k+g=s.length∧v5= .int .i64 k∧Au s p (i+k)=Au s p i∧w.grownBy wr none)
 case atStart=>exact⟨0,by omega,rfl,rfl,Aj _ _⟩
 case round=>
  obtain⟨k,hj,rfl,hq,g⟩:=hrel;have hf:=h.few;have c0:=Am g h.c0;have c1:=Am g h.c1;have hbl:=(h.gbN g).lt;have HG:=Z g;have HQ:=Z hq;clear hq g;cases gk with
  | zero=>
    have hj1:decide ((i:Int)+k<s.length)=false:=Ag;have HE:=Z (show(k:Int)=((Au s p i-i:Nat):Int)by rw[←HQ.out,DZ Ab];simp);go_wp2;go_quiet(fail);exact Oz
  | succ gk=>
    have hj1:decide ((i:Int)+k<s.length)=true:=Ag;have hjl:i+k<s.length:=Ab;have hj2:(0:Int)≤(i:Int)+k:=Ab;have hj3:(i:Int)+k<(s.length:Int):=Ab;have hg:=fun h=>BI s (i+k) h hjl;have hX:=hp (bAt s (i+k));have HX:=Z hX;clear hX;cases hpx:p (bAt s (i+k))with
    | true=>
      have HN:=Z (show Au s p (i+(k+1))=Au s p i by rw[←HQ.out];exact(BK hjl hpx).symm);have HX2:=Z (hpx ▸ HX.out);clear hpx;generalize hxx:bAt s (i+k)=x at*;clear hxx;cases hc:cls 2 x with
      | true=>
        have HC:=Z hc;clear hc;have NL{P}(h:P:=by rw[HC.out];exact S1):=Aa h;exact Ni
      | false=>
        have hw:word=true∧cls 1 x=true:=by have:=HX2.out;rw[hc]at this;simpa using this.symm
        obtain⟨rfl,hc1⟩:=hw;have HC:=Z (Ac hc hc1);clear hc hc1;have NL{P}(h:P:=by rw[HC.out.1];go_wp2_with fail;refine(Of _ _).mono ?_;rintro e w1 ⟨rfl,rfl⟩;rw[HC.out.2];exact S1):=Aa h;exact Ni
    | false=>
      have HE:=Z (show(k:Int)=((Au s p i-i:Nat):Int)by rw[←HQ.out,Dq hjl hpx];simp);have hx2:=hpx ▸ HX.out;clear hpx;generalize hxx:bAt s (i+k)=x at*;clear hxx;have hc:cls 2 x=false:=by cases h:cls 2 x with|false=>rfl|true=>rw[h]at hx2;simp at hx2
      rw[hc]at hx2;have HC:=Z hc;clear hc;cases word with
      | false=>
        clear hx2;have NL{P}(h:P:=by rw[HC.out];exact Oz):=Aa h;exact Ni
      | true=>
        have HL:=Z (show cls 1 x=false by simpa using hx2.symm);clear hx2;have NL{P}(h:P:=by rw[HC.out];go_wp2_with fail;refine(Of _ _).mono ?_;rintro e w1 ⟨rfl,rfl⟩;rw[HL.out];exact Oz):=Aa h;exact Ni
theorem wK(s:Bs)(k:Nat):((s.drop k).take 2==[38,38])=Cf s k:=by
 unfold Cf;generalize s.drop k=t;match t with
 | []=>rfl
 | [a]=>simp[List.isPrefixOf]
 | a::c::t=>
   have e1:(a==38)=(38==a):=Bool.beq_comm;have e2:(c==38)=(38==c):=Bool.beq_comm;show((a==38)&&((c==38)&&true))=((38==a)&&((38==c)&&true));rw[e1,e2]
theorem Aak(s:Bs)(k:Nat):(⟨s.toArray⟩:ByteArray).extract k (k+2)=⟨((s.drop k).take 2).toArray⟩:=by rw[Ed,show k+2-k=2 by omega]
theorem UO(h:Rl w b s i line wrong ov pre)(hi:i<s.length):
 Calls Tryz.prog 124 #[.pointer (some ⟨b,0,none⟩)] w fun e w'=>e= .returned (.bool (BF s (AE s (i+1))))∧w.grownBy w' none:=by
 have hf:=h.few;have c1:=h.c1;go_enter func124,ntmps124;go_wp2_with fail;go_loopg [3] (s.length-(i+1)) (fun g v3 wr=>∃k:Nat,k+g=s.length∧v3= .int .i64 k∧AE s k=AE s (i+1)∧w.grownBy wr none)
 case atStart=>exact⟨i+1,by omega,by go_num,rfl,Aj _ _⟩
 case round=>
  obtain⟨k,hj,rfl,hq,g⟩:=hrel;have c0:=Am g h.c0;have HG:=Z g;have HQ:=Z hq;clear hq g c1;cases gk with
  | zero=>
    have hj1:decide ((k:Int)<s.length)=false:=Ag;have hj2:decide ((s.length:Int)≤k)=true:=Ag;have HE:=Z (show BF s (AE s (i+1))=true by rw[←HQ.out];unfold AE;rw[DZ Ab];simp[BF];left;omega);go_wp2;go_ret;exact⟨by rw[HE.out];rfl,HG.out⟩
  | succ gk=>
    have hjl:k<s.length:=Ab;have hj1:decide ((k:Int)<s.length)=true:=Ag;have hj2:decide (s.length≤k)=false:=Ag;have hg:=fun h=>BI s k h hjl;cases hb:cls 3 (bAt s k)with
    | true=>
      have HN:=Z (show AE s (k+1)=AE s (i+1)by rw[←HQ.out];exact(BK hjl hb).symm);have HB:=Z hb;clear hb;have Hf{P}(h:P:=by
      rw[HB.out];go_wp2;go_roundg gk
      case measure=>omega
      case rel=>exact⟨k+1,by omega,by go_num,HN.out,HG.out⟩):=Aa h;exact Ha
    | false=>
      have HE:=Z (show BF s (AE s (i+1))=(bAt s k==10||Cf s k)by
       rw[←HQ.out];unfold AE;rw[Dq hjl hb];unfold BF;rw[show decide (s.length≤k)=false by simp;omega];rfl)
      have HB:=Z hb;clear hb;cases h10:((bAt s k).toNat:Int)==10 with
      | true=>
        have HT:=Z (show(bAt s k==10)=true by rw[←h10];exact(u8i (n:=10) Ad).symm);have Hf{P}(h:P:=by rw[HB.out];go_wp2;go_ret;exact⟨by rw[HE.out,HT.out];rfl,HG.out⟩):=Aa h;exact Ha
      | false=>
        have HT:=Z (show(bAt s k==10)=false by rw[←h10];exact(u8i (n:=10) Ad).symm);by_cases h2:k+1<s.length
        ·have hk2:decide ((k:Int)+1<s.length)=true:=by simp;omega
         have HX:=Z (wK s k);have hx:=Aak s k;generalize(s.drop k).take 2=two at*;have Hf{P}(h:P:=by rw[HB.out];go_wp2;go_ret;refine⟨?_,HG.out⟩;rw[HE.out,HT.out,←HX.out];simp):=Aa h;exact Ha
        ·have hk2:decide ((k:Int)+1<s.length)=false:=by simp;omega
         have HX:=Z (show Cf s k=false by rw[Wx];simp[h2]);have Hf{P}(h:P:=by rw[HB.out];go_wp2;go_ret;exact⟨by rw[HE.out,HT.out,HX.out];simp,HG.out⟩):=Aa h;exact Ha
def Cq(s:Bs)(i:Nat)(k:Nat):Int:=if BO s i<k then BO s i else -1
theorem V2(s:Bs)(i:Nat):Cq s i (Az s i)=match Bw s i with
 |some k=>(k:Int)
 |none=>-1:=by
 unfold Cq Bw;by_cases h:BO s i<Az s i
 ·rw[if_pos h,if_pos h]
 ·rw[if_neg h,if_neg h]
theorem OY(h:Rl w b s i line (-1) ov pre):
 Calls Tryz.prog 122 #[.pointer (some ⟨b,0,none⟩),.int .i64 (Az s i)] w fun e w'=>e= .returned (.tuple #[])∧Rl w' b s (Az s i) line (Cq s i (Az s i)) ov pre∧w.grownBy w' (some b):=by
 have hf:=h.few;have hle:Az s i≤s.length:=Cp h.le;have hge:i≤Az s i:=By _ _ _;have h0:Cq s i i= -1:=by
  have:=By s (fun b=>b !=10&&!cls 4 b) i;unfold Cq BO;rw[if_neg Ab]
 go_enter func122,ntmps122;go_wp2_with fail;go_loopg [] (Az s i-i) (fun g wr=>∃k:Nat,k+g=Az s i∧i≤k∧Rl wr b s k line (Cq s i k) ov pre∧w.grownBy wr (some b))
 case atStart=>exact⟨i,by omega,Nat.le_refl _,h.wr_eq h0.symm,Aj _ _⟩
 case round=>
  obtain⟨k,hk,hik,hs,g⟩:=hrel;clear h h0;have hb:=hs.lt;have c1:=hs.c1;have c0:=hs.c0;cases gk with
  | zero=>
    have hkI2:decide (k<Az s i)=false:=Ag;have hs':=hs.at_eq (show k=Az s i by omega);have HS:=Z (show Rl wr b s (Az s i) line (Cq s i (Az s i)) ov pre from hs'.wr_eq (by rw[show k=Az s i by omega]));have HG:=Z g;clear hs hs' g;go_wp2;go_end0;exact⟨rfl,HS.out,HG.out⟩
  | succ gk=>
    have hlt:k<Az s i:=Ab;have hkl:k<s.length:=Ab;have hltI:decide ((k:Int)<Az s i)=true:=Ag;have hg:=fun h=>BI s k h hkl;have h10:bAt s k≠10:=by have:=(Hr hik hlt).2;simpa using this
    cases hc:cls 4 (bAt s k)with
    | false=>
      have HN:=Z (show Cq s i k=Cq s i (k+1)by
       unfold Cq;by_cases h2:BO s i<k
       ·rw[if_pos h2,if_pos Ab]
       ·rw[if_neg h2,if_neg];intro h3;have e:BO s i=k:=Ab;have:=Jw (s:=s) (p:=fun b=>b !=10&&!cls 4 b) (i:=i) (by unfold BO at e;omega);change((bAt s (BO s i) !=10)&&!cls 4 (bAt s (BO s i)))=false at this;rw[e,hc]at this;simp[h10]at this)
      have iD{P}(h:P:=by
      have c1:=hs1.c1;have f1:=hs1.fr 1;go_wp2;go_roundg gk
      case measure=>omega
      case rel=>exact⟨k+1,by omega,by omega,(hs1.go _ (k+1) Ab Ab).wr_eq HN.out,A7 (AA HG.out _) _ _ (.inl rfl)⟩):=Aa h;exact Z6
    | true=>
      have hcl:BO s i≤k:=by
       by_cases h2:k<BO s i
       ·have:=(Hr (p:=fun b=>b !=10&&!cls 4 b) hik h2).2;simp[hc]at this
       ·omega
      have iD{P}(h:P:=by
      by_cases h2:BO s i<k
      ·have e1:Cq s i k=(BO s i:Nat):=by unfold Cq;rw[if_pos h2]
       have e2:Cq s i (k+1)=(BO s i:Nat):=by unfold Cq;rw[if_pos Ab]
       rw[e1]at hs1;have c1:=hs1.c1;go_wp2_with fail;refine(VW hs1 k Ab).mono ?_;exact YL
      ·have e1:Cq s i k= -1:=by unfold Cq;rw[if_neg h2]
       have e2:Cq s i (k+1)=(k:Nat):=by
        have:BO s i=k:=Ab;unfold Cq;rw[if_pos Ab,this]
       rw[e1]at hs1;have c1:=hs1.c1;go_wp2_with fail;refine(Kx hs1 k).mono ?_;exact YL):=Aa h
      exact Z6
end
theorem EA{w w1:World}{b:Nat}(g:w.grownBy w1 (some b))(hb:b≤w.heap.size):Below b w w1:=⟨g.os,g.tape,g.output,g.size,fun k hk=>g.block k Ab Ag⟩
theorem I4{w w1:World}{b:Nat}(g:w.grownBy w1 none)(hb:b≤w.heap.size):Below b w w1:=⟨g.os,g.tape,g.output,g.size,fun k hk=>g.block k Ab Ae⟩
section
variable {w:World}{b:Nat}{s:Bs}{i:Nat}{line:Bool}{wrong:Int}{ov:Value}{pre:List Tok}
theorem Rl.append{w1:World}{t:Tok}{g cap:Nat}(h:Rl w b s i line wrong ov pre)(hO:w1.ownsRow (b+1) 89 3 (.slice (some ⟨g,0,none⟩) (pre.length+1) cap) (pre.length+1) (Cr pre++FP t))
 (hG:w.grownBy w1 ov.ownBlock):Rl (w1.setCell ⟨b,4,none⟩ (.slice (some ⟨g,0,none⟩) (pre.length+1) cap)) b s i line wrong (.slice (some ⟨g,0,none⟩) (pre.length+1) cap) (pre++[t])∧
  Below b w (w1.setCell ⟨b,4,none⟩ (.slice (some ⟨g,0,none⟩) (pre.length+1) cap)):=by
 have hne:∀k,k<b+1→some k≠ov.ownBlock:=fun k hk e=>by have:=(h.row.lt _ e.symm).1;omega
 have hb:=h.blk.gb hG (hne b Ab);refine⟨⟨(hb.set 4 _).of_eq rfl rfl,?_,h.le,h.few⟩,⟨hG.os,hG.tape,hG.output,by have:=hG.size;simpa using this,fun k hk=>?_⟩⟩
 ·rw[UA,List.length_append];exact E7 hO (As (Aj w1 (some b)) 4 _) JI
 ·exact(Below.heap_setCell _ _ _ _ Ag).trans (hG.block k (by have:=h.lt;omega) (hne k Ab))
def PF(w:World)(b:Nat)(s:Bs)(j:Nat)(l:Bool)(wrong:Int)(pre:List Tok)(e:Ending)(w':World):Prop:=
 e= .returned (.tuple #[])∧Below b w w'∧∃ov',Rl w' b s j l wrong ov' pre
theorem KK(h:Rl w b s i line wrong ov pre)(k:Int)(t:Bs)(n:Nat)(hn:i+n≤s.length)(hc:pre.length≤100000):
 Calls Tryz.prog 172 #[.pointer (some ⟨b,0,none⟩),.int .i64 k,str t,.int .i64 n] w (PF w b s (i+n) true wrong (pre++[⟨k,i,t⟩])):=by
 have hb:=h.lt;have hf:=h.few;obtain⟨i0,hi,hz0,hz1,hz2⟩:=info_parts PD;have HI:=Z (Ac hi (Ac hz0 (Ac hz1 hz2)));have c1:=h.c1;have c4:=h.c4;have HH:=Z h;clear hi hz0 hz1 hz2 h;go_enter func172,ntmps172;go_wp2_with fail;go_region_law((refine step_append_lies _ Ao _ _ 51 Ao (b+1) 89 i0 _ 3 32 underlying51 HI.out.1 HI.out.2.1 HI.out.2.2.1 HI.out.2.2.2 rfl Ad ov pre.length (Cr pre) Ao ((HH.out.drewN 1).alloc _).row ⟨w.heap.size,0,none⟩ 1 1 (FP ⟨k,i,t⟩) Ao rfl (World.news_of_block (heap_alloc_new _ _)) Qr Ad AI Ab Ag _ rfl ?_;intro g cap w1 hown hgrow hat hlt;(have hX:=((HH.out.drewN 1).alloc _).append hown hgrow);(have HX:=Z hX);(have hb1:=(((HH.out.drewN 1).alloc _).blk).gb hgrow (fun e=>by have:=(HH.out.row.lt _ e.symm).1;omega));(have f4:=hb1.frozen 4);(have d4:=hb1.cell 4);clear hown hgrow hX));all_goals
  obtain⟨hR,hB⟩:=HX.out;generalize hov:Value.slice (some ⟨g,0,none⟩) (pre.length+1) cap=ov' at*;generalize hW:w1.setCell ⟨b,4,none⟩ ov'=W at*;have e1:=hR.c1;have fr:=fun k=>hR.fr k;have e2:=hR.c2;have HR:=Z (Ac hR hB);clear hR hB HX;go_wp2;go_end0;refine⟨rfl,((I4 ?_ Ab).trans HR.out.2).trans (EA (A7 (A7 (Aj _ _) _ _ (.inl rfl)) _ _ (.inl rfl)) (by have:=HR.out.1.lt;omega)),_,(HR.out.1.go _ (i+n) Ab hn).setLine true⟩;exact gw
theorem WI(h:Rl w b s i line wrong ov pre)(hc:pre.length≤100000):
 Calls Tryz.prog 92 #[.pointer (some ⟨b,0,none⟩)] w (PF w b s i false wrong (if line then pre++[⟨5,i,[]⟩]else pre)):=by
 have hb:=h.lt;have hf:=h.few;cases line with
 | false=>
   have c2:=h.c2;have f2:=h.fr 2;have HH:=Z h;clear h;go_enter func92,ntmps92;go_wp2;go_end0;exact⟨rfl,EA (A7 (Aj _ _) _ _ (.inl rfl)) Ab,_,HH.out.setLine false⟩
 | true=>
   obtain⟨i0,hi,hz0,hz1,hz2⟩:=info_parts PD;have HI:=Z (Ac hi (Ac hz0 (Ac hz1 hz2)));have c1:=h.c1;have c2:=h.c2;have c4:=h.c4;have HH:=Z h;clear hi hz0 hz1 hz2 h;go_enter func92,ntmps92;go_wp2_with fail;go_region_law((refine step_append_lies _ Ao _ _ 51 Ao (b+1) 89 i0 _ 3 32 underlying51 HI.out.1 HI.out.2.1 HI.out.2.2.1 HI.out.2.2.2 rfl Ad ov pre.length (Cr pre) Ao ((HH.out.drewN 1).alloc _).row ⟨w.heap.size,0,none⟩ 1 1 (FP ⟨5,i,[]⟩) Ao rfl (World.news_of_block (heap_alloc_new _ _)) Qr Ad AI Ab Ag _ rfl ?_;intro g cap w1 hown hgrow hat hlt;(have hX:=((HH.out.drewN 1).alloc _).append hown hgrow);(have HX:=Z hX);(have hb1:=(((HH.out.drewN 1).alloc _).blk).gb hgrow (fun e=>by have:=(HH.out.row.lt _ e.symm).1;omega));(have f4:=hb1.frozen 4);(have d4:=hb1.cell 4);clear hown hgrow hX));all_goals
    obtain⟨hR,hB⟩:=HX.out;generalize hov:Value.slice (some ⟨g,0,none⟩) (pre.length+1) cap=ov' at*;generalize hW:w1.setCell ⟨b,4,none⟩ ov'=W at*;have e2:=hR.c2;have fr:=fun k=>hR.fr k;have HR:=Z (Ac hR hB);clear hR hB HX;go_wp2;go_end0;refine⟨rfl,((I4 ?_ Ab).trans HR.out.2).trans (EA (A7 (Aj _ _) _ _ (.inl rfl)) (by have:=HR.out.1.lt;omega)),_,HR.out.1.setLine false⟩;exact gw
end
end Go.Proofs.YtmcajbhljbbglaaGreatDoor
