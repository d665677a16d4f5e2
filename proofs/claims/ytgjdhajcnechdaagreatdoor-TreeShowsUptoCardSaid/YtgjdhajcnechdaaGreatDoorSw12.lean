/-
  The lexer's scanner in memory; is, skip, lineEnd. The lexer: short, end, continues.
-/
import Derived.Test.YtgjdhajcnechdaaGreatDoorSw10
import Derived.Test.YtgjdhajcnechdaaGreatDoorSw04
import Derived.Test.YtgjdhajcnechdaaGreatDoorPlain
import Derived.Test.YtgjdhajcnechdaaGreatDoorSw02
set_option linter.all false
set_option maxRecDepth 100000
set_option maxHeartbeats 8000000
namespace Go.Proofs.YtgjdhajcnechdaaGreatDoor
open Go.Proofs.Tryz
open Go.RowKit
def AF(k:Nat):List Value:=(List.range 256).map fun j=> .int .u8 (if j<k then BF j else 0)
theorem Fl(k j:Nat)(hj:j<256):(AF k)[j]? =some (.int .u8 (if j<k then BF j else 0)):=by simp[AF,hj]
theorem Er(k:Nat):(AF k).length=256:=by simp[AF]
def Ds(s:Bs)(i:Int)(line begun:Bool)(bad:Int):List Value:=str s :: .int .i64 i::(AF 256++[.bool line,.bool begun,.int .i64 bad])
theorem M0(s:Bs)(i:Int)(line begun:Bool)(bad:Int)(j:Nat)(hj:j<256):(Ds s i line begun bad)[2+j]? =some (.int .u8 (BF j)):=by
 rw[show 2+j=j+1+1 by omega];simp only[Ds,List.getElem?_cons_succ];rw[List.getElem?_append_left (by rw[Er];exact hj),Fl _ _ hj];simp[hj]
theorem GR(s:Bs)(i:Int)(line begun:Bool)(bad:Int)(j:Nat):(Ds s i line begun bad)[258+j]? =[.bool line,.bool begun,.int .i64 bad][j]?:=by
 rw[show 258+j=256+j+1+1 by omega];simp only[Ds,List.getElem?_cons_succ];rw[List.getElem?_append_right (by rw[Er];omega),Er,show 256+j-256=j by omega]
theorem Og(s:Bs)(i j:Int)(line begun:Bool)(bad:Int):(Ds s i line begun bad).set 1 (.int .i64 j)=Ds s j line begun bad:=rfl
theorem Gh(s:Bs)(i:Int)(line begun:Bool)(bad:Int)(j:Nat)(v:Value):(Ds s i line begun bad).set (258+j) v=str s :: .int .i64 i::(AF 256++[.bool line,.bool begun,.int .i64 bad].set j v):=by
 rw[show 258+j=256+j+1+1 by omega];simp only[Ds,List.set_cons_succ];rw[List.set_append_right _ _ (by rw[Er];omega),Er,show 256+j-256=j by omega]
structure Sc(w:World)(b:Nat)(s:Bs)(i:Nat)(line begun:Bool)(bad:Int):Prop where
 blk:Blk w b (Ds s i line begun bad) 102
 le:i≤s.length
 few:s.length≤4000
section
variable {w w1:World}{b:Nat}{s:Bs}{i:Nat}{line begun:Bool}{bad:Int}
theorem Sc.lt(h:Sc w b s i line begun bad):b<w.heap.size:=h.blk.lt
theorem Sc.c0(h:Sc w b s i line begun bad):w.cell? ⟨b,0,none⟩=some (str s):=h.blk.cell 0
theorem Sc.c1(h:Sc w b s i line begun bad):w.cell? ⟨b,1,none⟩=some (.int .i64 i):=h.blk.cell 1
theorem Sc.cls(h:Sc w b s i line begun bad)(x:UInt8):w.cell? ⟨b,2+x.toNat,none⟩=some (.int .u8 (BF x.toNat)):=(h.blk.cell _).trans (M0 _ _ _ _ _ _ x.toNat_lt)
theorem Sc.c258(h:Sc w b s i line begun bad):w.cell? ⟨b,258,none⟩=some (.bool line):=(h.blk.cell _).trans (GR _ _ _ _ _ 0)
theorem Sc.c259(h:Sc w b s i line begun bad):w.cell? ⟨b,259,none⟩=some (.bool begun):=(h.blk.cell _).trans (GR _ _ _ _ _ 1)
theorem Sc.c260(h:Sc w b s i line begun bad):w.cell? ⟨b,260,none⟩=some (.int .i64 bad):=(h.blk.cell _).trans (GR _ _ _ _ _ 2)
theorem Sc.fr(h:Sc w b s i line begun bad)(k:Nat):w.frozen? ⟨b,k,none⟩=false:=h.blk.frozen k
theorem Sc.gb{r:Option Nat}(h:Sc w b s i line begun bad)(g:w.grownBy w1 r)(hr:some b≠r):Sc w1 b s i line begun bad:=⟨h.blk.gb g hr,h.le,h.few⟩
theorem Sc.gbN(h:Sc w b s i line begun bad)(g:w.grownBy w1 none):Sc w1 b s i line begun bad:=h.gb g (by simp)
theorem Sc.alloc(h:Sc w b s i line begun bad)(o:Obj):Sc (w.alloc o) b s i line begun bad:=h.gbN (World.grownBy_alloc w o none)
theorem Sc.drewN(h:Sc w b s i line begun bad)(n:Nat):Sc (w.drewN n) b s i line begun bad:=h.gbN (Ay (Ac w none) n)
theorem Sc.go(h:Sc w b s i line begun bad)(z:Int)(j:Nat)(hz:z=j)(hj:j≤s.length):Sc (w.setCell ⟨b,1,none⟩ (.int .i64 z)) b s j line begun bad:=by
 subst hz;exact⟨(h.blk.set 1 _).of_eq rfl (Og _ _ _ _ _ _),hj,h.few⟩
theorem Sc.at_eq{j:Nat}(h:Sc w b s i line begun bad)(e:i=j):Sc w b s j line begun bad:=e ▸ h
theorem Sc.setLine(h:Sc w b s i line begun bad)(l:Bool):Sc (w.setCell ⟨b,258,none⟩ (.bool l)) b s i l begun bad:=⟨(h.blk.set 258 _).of_eq rfl (Gh _ _ _ _ _ 0 _),h.le,h.few⟩
theorem Sc.setBegun(h:Sc w b s i line begun bad)(l:Bool):Sc (w.setCell ⟨b,259,none⟩ (.bool l)) b s i line l bad:=⟨(h.blk.set 259 _).of_eq rfl (Gh _ _ _ _ _ 1 _),h.le,h.few⟩
theorem Sc.setBad(h:Sc w b s i line begun bad)(k:Int):Sc (w.setCell ⟨b,260,none⟩ (.int .i64 k)) b s i line begun k:=⟨(h.blk.set 260 _).of_eq rfl (Gh _ _ _ _ _ 2 _),h.le,h.few⟩
theorem Sc.set_other(h:Sc w b s i line begun bad)(a:Addr)(v:Value)(hne:b≠a.block):Sc (w.setCell a v) b s i line begun bad:=⟨h.blk.set_other a v hne,h.le,h.few⟩
end
theorem C3(s:Bs)(k:Nat)(h:k<(⟨s.toArray⟩:ByteArray).size)(h2:k<s.length):(⟨s.toArray⟩:ByteArray)[k]'h=bAt s k:=by rw[Dn h2];rfl
theorem Km(x:UInt8):x.toNat<256:=x.toNat_lt
theorem Tb{w:World}{b:Nat}{s:Bs}{i:Nat}{line begun:Bool}{bad:Int}(h:Sc w b s i line begun bad)(k:Nat)(c:Int):
 Calls Tryz.prog 194 #[.pointer (some ⟨b,0,none⟩),.int .i64 k,.int .u8 c] w fun e w'=>e= .returned (.bool (decide (k<s.length)&&(BF (bAt s k).toNat==c)))∧w.grownBy w' none:=by
 have c0:=h.c0;have hb:=h.lt;have hf:=h.few;by_cases hk:k<s.length
 ·have cc:=h.cls (bAt s k);have hg:=fun h=>C3 s k h hk;have hx:=Km (bAt s k);generalize bAt s k=x at*;have hk1:decide ((k:Int)<s.length)=true:=by simp;omega
  generalize hn:s.length=n at*;clear h;go_enter func194,ntmps194;go_wp2;go_quiet(fail);go_wp2;go_ret;exact⟨by simp[hk],(by repeat(first| (with_reducible exact Ac _ _)| (with_reducible assumption)| (with_reducible exact AX (by assumption))| (with_reducible refine Ad ?_ _)| (with_reducible refine Am ?_)| (with_reducible refine Ay ?_ _)| ((with_reducible refine Az ?_ _ _ ?h2);case h2=>first|exact .inl rfl|exact .inr (Nat.le_refl _)|exact .inr (by simp<;>omega))| (with_reducible refine Ag ?_ (by assumption))| (with_reducible refine Aa ?_ (by assumption))))⟩
 ·have hk1:decide ((k:Int)<s.length)=false:=by simp;omega
  generalize hn:s.length=n at*;clear h;go_enter func194,ntmps194;go_wp2;go_quiet(fail);go_wp2;go_ret;exact⟨by simp[hk],(by repeat(first| (with_reducible exact Ac _ _)| (with_reducible assumption)| (with_reducible exact AX (by assumption))| (with_reducible refine Ad ?_ _)| (with_reducible refine Am ?_)| (with_reducible refine Ay ?_ _)| ((with_reducible refine Az ?_ _ _ ?h2);case h2=>first|exact .inl rfl|exact .inr (Nat.le_refl _)|exact .inr (by simp<;>omega))| (with_reducible refine Ag ?_ (by assumption))| (with_reducible refine Aa ?_ (by assumption))))⟩
theorem BM{w:World}{b:Nat}{s:Bs}{i:Nat}{line begun:Bool}{bad:Int}(h:Sc w b s i line begun bad)(k:Nat)(c:Int){r:Bool}(hr:(decide (k<s.length)&&cls c (bAt s k))=r):
 Calls Tryz.prog 194 #[.pointer (some ⟨b,0,none⟩),.int .i64 k,.int .u8 c] w fun e w'=>e= .returned (.bool r)∧w.grownBy w' none:=by
 subst hr;exact Tb h k c
theorem Q5{w:World}{b:Nat}{s:Bs}{i:Nat}{line begun:Bool}{bad:Int}(h:Sc w b s i line begun bad):
 Calls Tryz.prog 152 #[.pointer (some ⟨b,0,none⟩)] w fun e w'=>e= .returned (.tuple #[])∧Sc w' b s (AQ s i) line begun bad∧w.grownBy w' (some b):=by
 go_enter func152,ntmps152;go_wp2_with fail;have hi:=h.le;go_loopg [] (s.length-i) (fun g wr=>∃k:Nat,k+g=s.length∧Sc wr b s k line begun bad∧AQ s k=AQ s i∧w.grownBy wr (some b))
 case atStart=>exact⟨i,by omega,h,rfl,Ac _ _⟩
 case round=>
  obtain⟨k,hk,hs,hq,g⟩:=hrel;have HQ:=O hq;clear hq h hi;have hc1:=hs.c1;have hb:=hs.lt;cases hc:(decide (k<s.length)&&cls 3 (bAt s k))with
  | true=>
    simp only[Bool.and_eq_true,decide_eq_true_eq]at hc;cases gk with
    |zero=>omega
    |succ gk=>
    have HC:=O hc.2;have hkl:=hc.1;clear hc;go_wp2_with fail;refine(BM hs k 3 (r:=true) (by simp[hkl,HC.out])).mono ?_;rintro e w1 ⟨rfl,g1⟩;have hs1:=hs.gbN g1;have c1:=hs1.c1;have f1:=hs1.fr 1;have hf:=hs.few;go_wp2;go_roundg gk
    case measure=>omega
    case rel=>exact⟨k+1,by omega,hs1.go _ (k+1) (by omega) (by omega),by rw[←HQ.out];exact(BT hkl HC.out).symm,Az (Ag g g1) _ _ (.inl rfl)⟩
  | false=>
    have HC:=O hc;go_wp2_with fail;refine(BM hs k 3 (r:=false) HC.out).mono ?_;rintro e w1 ⟨rfl,g1⟩;have hs1:=hs.gbN g1;have hk2:AQ s k=k:=by
     have h2:=HC.out;by_cases hkl:k<s.length
     ·exact CB hkl (by simpa[hkl]using h2)
     ·exact CV (by omega)
    have HK:=O (hk2.symm.trans HQ.out);clear hk2;go_wp2;go_end0;exact⟨rfl,hs1.at_eq HK.out,Ag g g1⟩
theorem Dm(s:Bs)(i j:Nat):(⟨s.toArray⟩:ByteArray).extract i j=⟨((s.drop i).take (j-i)).toArray⟩:=by
 apply ByteArray.ext;apply Array.ext';rw[Lib.extract_data]
theorem FP(s:Bs)(i:Nat):(⟨s.toArray⟩:ByteArray).extract i s.length=⟨(s.drop i).toArray⟩:=by
 rw[Dm,List.take_of_length_le (by simp)]
theorem Ry(s:Bs)(c:UInt8)(k:Nat):Lib.indexByte (s.drop k) c=if Ar s (fun b=>b !=c) k<s.length then((Ar s (fun b=>b !=c) k-k:Nat):Int)else -1:=by
 induction hn:s.length-k generalizing k with
 |zero=>rw[CV (by omega),List.drop_eq_nil_of_le (by omega),if_neg (by omega)];rfl
 | succ n ih=>
   have hk:k<s.length:=by omega
   rw[Fw hk,Lib.indexByte];cases hc:(bAt s k==c)with
   | true=>
     rw[CB hk (by simpa using hc)];simp[hk]
   | false=>
     rw[BT hk (by simpa using hc),ih (k+1) (by omega)];have h1:=B2 s (fun b=>b !=c) (k+1);by_cases h2:Ar s (fun b=>b !=c) (k+1)<s.length
     ·simp only[if_pos h2];simp only[Bool.false_eq_true,if_false];rw[if_neg (by simp;try omega)];omega
     ·simp[h2]
theorem Gc{w:World}{b:Nat}{s:Bs}{i:Nat}{line begun:Bool}{bad:Int}(h:Sc w b s i line begun bad)(k:Nat)(hk:k≤s.length):
 Calls Tryz.prog 196 #[.pointer (some ⟨b,0,none⟩),.int .i64 k] w fun e w'=>e= .returned (.int .i64 (Aq s k))∧w=w':=by
 have c0:=h.c0;have hb:=h.lt;have hf:=h.few;have H0:=Ry s 10 k;have hr:=B2 s (fun b=>b !=10) k;have hr2:=Cf (p:=fun b=>b !=10) hk;have hkI:decide ((k:Int)≤s.length)=true:=by simp;omega
 rw[show Ar s (fun b=>b !=10) k=Aq s k from rfl]at*;by_cases hl:Aq s k<s.length
 ·rw[if_pos hl]at H0;obtain⟨d,hd⟩:∃d,Aq s k=k+d:=⟨Aq s k-k,by omega⟩;rw[hd]at H0 ⊢;rw[show k+d-k=d by omega]at H0;rw[hd]at hl hr2;have H:=O H0;clear H0 hd;go_enter func196,ntmps196;go_wp2_with fail;refine(strings_IndexByte _ _ _).mono ?_;rintro e w1 ⟨rfl,rfl⟩;rw[FP];rw[show Lib.indexByte (ByteArray.mk (List.drop k s).toArray).data.toList ((10:Int).toNat.toUInt8)=_ from H.out];go_wp2;go_ret;exact⟨by simp,rfl⟩
 ·have he:Aq s k=s.length:=by omega
  rw[if_neg hl]at H0;rw[he];have H:=O H0;clear H0 he;go_enter func196,ntmps196;go_wp2_with fail;refine(strings_IndexByte _ _ _).mono ?_;rintro e w1 ⟨rfl,rfl⟩;rw[FP];rw[show Lib.indexByte (ByteArray.mk (List.drop k s).toArray).data.toList ((10:Int).toNat.toUInt8)=_ from H.out];go_wp2;go_ret;exact⟨rfl,rfl⟩
def Mf(w:World)(b:Nat)(s:Bs)(i:Nat)(line begun:Bool)(bad:Int)(e:Ending)(w':World):Prop:=w.grownBy w' (some b)∧match Bv s i with
 |some k=>e= .returned (.bool false)∧∃j,Sc w' b s j line begun k
 |none=>e= .returned (.bool true)∧Sc w' b s (Aq s i) line begun bad
theorem Et{w:World}{b:Nat}{s:Bs}{i:Nat}{line begun:Bool}{bad:Int}(h:Sc w b s i line begun bad):
 Calls Tryz.prog 155 #[.pointer (some ⟨b,0,none⟩)] w (Mf w b s i line begun bad):=by
 have hi:=h.le;have c1:=h.c1;have hle:Aq s i≤s.length:=Cf hi;have hge:i≤Aq s i:=B2 _ _ _;go_enter func155,ntmps155;go_wp2_with fail;refine(Gc h i hi).mono ?_;rintro e w1 ⟨rfl,rfl⟩;go_wp2_with fail;go_loopg [] (Aq s i-i) (fun g wr=>∃k:Nat,k+g=Aq s i∧i≤k∧Sc wr b s k line begun bad∧Ea s k=Ea s i∧w.grownBy wr (some b))
 case atStart=>exact⟨i,by omega,Nat.le_refl _,h,rfl,Ac _ _⟩
 case round=>
  obtain⟨k,hk,hik,hs,hq,g⟩:=hrel;have HQ:=O hq;have HL:=O hle;clear hq h hi c1 hle;have c1:=hs.c1;have hf:=hs.few;have hb:=hs.lt;cases gk with
  | zero=>
    have HM:=O (show Bv s i=none by unfold Bv;rw[if_neg (by have h1:=P7 s i;have h2:=B2 s (fun b=>b !=10&&!cls 4 b) k;change k≤Ea s k at h2;rw[HQ.out]at h2;omega)]);have hs':=hs.at_eq (show k=Aq s i by omega);have hkI:(k:Int)=Aq s i:=by omega
    have hkI2:decide (k<Aq s i)=false:=by simp;omega
    clear hk hkI;go_wp2;go_ret;exact⟨g,by rw[HM.out];exact⟨rfl,hs'⟩⟩
  | succ gk=>
    have hlt:k<Aq s i:=by omega
    have h10:=FE hik hlt;have HT:=O h10;have hkl:=h10.1;have hltI:decide ((k:Int)<Aq s i)=true:=by simp;omega
    clear h10;cases hc:cls 4 (bAt s k)with
    | true=>
      have HC:=O hc;have HM:=O (show Bv s i=some k by
       have h2:Ea s k=k:=CB hkl (by simp[HC.out]);rw[HQ.out]at h2;unfold Bv;rw[h2,if_pos hlt])
      clear hc;go_wp2_with fail;refine(BM hs k 4 (r:=true) (by simp[hkl,HC.out])).mono ?_;rintro e w1 ⟨rfl,g1⟩;have hs1:=hs.gbN g1;have d1:=hs1.c1;have f1:=hs1.fr 260;have c260:=hs1.c260;go_wp2;go_ret;exact⟨Az (Ag g g1) _ _ (.inl rfl),by rw[HM.out];exact⟨rfl,k,hs1.setBad k⟩⟩
    | false=>
      have HC:=O hc;clear hc;go_wp2_with fail;refine(BM hs k 4 (r:=false) (by simp[hkl,HC.out])).mono ?_;rintro e w1 ⟨rfl,g1⟩;have hs1:=hs.gbN g1;have d1:=hs1.c1;have f1:=hs1.fr 1;go_wp2;go_roundg gk
      case measure=>omega
      case rel=>exact⟨k+1,by omega,by omega,hs1.go _ (k+1) (by omega) (by omega),by rw[←HQ.out];exact(BT hkl (by simp[HC.out];simpa using HT.out.2)).symm,Az (Ag g g1) _ _ (.inl rfl)⟩
abbrev tok0:Value:= .agg #[.int .i64 0,.int .i64 0,str []]
def NJ(w:World)(b:Nat)(s:Bs)(i:Nat)(line begun:Bool)(bad:Int)(t:Tok)(most:Nat)(e:Ending)(w':World):Prop:=
 w.grownBy w' (some b)∧if most<t.text.length then e= .returned (.bool false)∧Sc w' b s i line begun t.pos else e= .returned (.bool true)∧Sc w' b s i line begun bad
theorem Jd{w:World}{b:Nat}{s:Bs}{i:Nat}{line begun:Bool}{bad:Int}(h:Sc w b s i line begun bad)(t:Tok)(most:Nat):
 Calls Tryz.prog 198 #[.pointer (some ⟨b,0,none⟩),Bc t,.int .i64 most] w (NJ w b s i line begun bad t most):=by
 have hb:=h.lt;have f1:=h.fr 260;have c260:=h.c260;by_cases hl:most<t.text.length
 ·have HP:=O hl;have hl1:decide (most<t.text.length)=true:=by simpa using hl
  clear hl;go_enter func198,ntmps198;go_wp2;go_ret;exact⟨(by repeat(first| (with_reducible exact Ac _ _)| (with_reducible assumption)| (with_reducible exact AX (by assumption))| (with_reducible refine Ad ?_ _)| (with_reducible refine Am ?_)| (with_reducible refine Ay ?_ _)| ((with_reducible refine Az ?_ _ _ ?h2);case h2=>first|exact .inl rfl|exact .inr (Nat.le_refl _)|exact .inr (by simp<;>omega))| (with_reducible refine Ag ?_ (by assumption))| (with_reducible refine Aa ?_ (by assumption)))),by rw[if_pos HP.out];exact⟨rfl,(h.setBad _).alloc _⟩⟩
 ·have HP:=O hl;have hl1:decide (most<t.text.length)=false:=by simpa using hl
  clear hl;go_enter func198,ntmps198;go_wp2;go_ret;exact⟨(by repeat(first| (with_reducible exact Ac _ _)| (with_reducible assumption)| (with_reducible exact AX (by assumption))| (with_reducible refine Ad ?_ _)| (with_reducible refine Am ?_)| (with_reducible refine Ay ?_ _)| ((with_reducible refine Az ?_ _ _ ?h2);case h2=>first|exact .inl rfl|exact .inr (Nat.le_refl _)|exact .inr (by simp<;>omega))| (with_reducible refine Ag ?_ (by assumption))| (with_reducible refine Aa ?_ (by assumption)))),by rw[if_neg HP.out];exact⟨rfl,h.alloc _⟩⟩
def Ri(w:World)(b:Nat)(s:Bs)(i:Nat)(line:Bool)(bad:Int)(e:Ending)(w':World):Prop:=
 w.grownBy w' (some b)∧Sc w' b s (if i<s.length then i+1 else i) false false bad∧
  e= .returned (.tuple #[if line then Bc ⟨5,i,[]⟩else tok0,.bool (line||!decide (i<s.length))])
theorem I4{w:World}{b:Nat}{s:Bs}{i:Nat}{line:Bool}{bad:Int}(h:Sc w b s i line line bad):
 Calls Tryz.prog 153 #[.pointer (some ⟨b,0,none⟩)] w (Ri w b s i line bad):=by
 have hb:=h.lt;have hf:=h.few;have c0:=h.c0;have c1:=h.c1;have c258:=h.c258;have c259:=h.c259;have f1:=h.fr 1;have f258:=h.fr 258;have f259:=h.fr 259;by_cases hl:i<s.length
 ·have HP:=O hl;have hl1:((i:Int)==(s.length:Int))=false:=by simp;omega
  cases line with
  | true=>
    go_enter func153,ntmps153;go_wp2;go_quiet(fail);go_wp2;refine bodyPost_ret (v:= .tuple #[Bc ⟨5,i,[]⟩,.bool true]) (by simp[results,results153,go_sem]) rfl ⟨(by repeat(first| (with_reducible exact Ac _ _)| (with_reducible assumption)| (with_reducible exact AX (by assumption))| (with_reducible refine Ad ?_ _)| (with_reducible refine Am ?_)| (with_reducible refine Ay ?_ _)| ((with_reducible refine Az ?_ _ _ ?h2);case h2=>first|exact .inl rfl|exact .inr (Nat.le_refl _)|exact .inr (by simp<;>omega))| (with_reducible refine Ag ?_ (by assumption))| (with_reducible refine Aa ?_ (by assumption)))),?_,by simp⟩;rw[if_pos HP.out];exact(by repeat(first| (with_reducible assumption)| (with_reducible apply Sc.alloc)| (with_reducible apply Sc.drew)| (with_reducible apply Sc.drewN)| (with_reducible apply Sc.setLine)| (with_reducible apply Sc.setBegun)| (with_reducible apply Sc.setBad)| (with_reducible apply Sc.go)| (with_reducible apply Sc.set_other)|omega| (simp<;>omega)))
  | false=>
    go_enter func153,ntmps153;go_wp2;go_quiet(fail);go_wp2;refine bodyPost_ret (v:= .tuple #[tok0,.bool false]) (by simp[results,results153,go_sem]) rfl ⟨(by repeat(first| (with_reducible exact Ac _ _)| (with_reducible assumption)| (with_reducible exact AX (by assumption))| (with_reducible refine Ad ?_ _)| (with_reducible refine Am ?_)| (with_reducible refine Ay ?_ _)| ((with_reducible refine Az ?_ _ _ ?h2);case h2=>first|exact .inl rfl|exact .inr (Nat.le_refl _)|exact .inr (by simp<;>omega))| (with_reducible refine Ag ?_ (by assumption))| (with_reducible refine Aa ?_ (by assumption)))),?_,by simp[HP.out]⟩;rw[if_pos HP.out];exact(by repeat(first| (with_reducible assumption)| (with_reducible apply Sc.alloc)| (with_reducible apply Sc.drew)| (with_reducible apply Sc.drewN)| (with_reducible apply Sc.setLine)| (with_reducible apply Sc.setBegun)| (with_reducible apply Sc.setBad)| (with_reducible apply Sc.go)| (with_reducible apply Sc.set_other)|omega| (simp<;>omega)))
 ·have HP:=O hl;have hl1:((i:Int)==(s.length:Int))=true:=by have:=h.le;simp;omega
  cases line with
  | true=>
    go_enter func153,ntmps153;go_wp2;go_quiet(fail);go_wp2;refine bodyPost_ret (v:= .tuple #[Bc ⟨5,i,[]⟩,.bool true]) (by simp[results,results153,go_sem]) rfl ⟨(by repeat(first| (with_reducible exact Ac _ _)| (with_reducible assumption)| (with_reducible exact AX (by assumption))| (with_reducible refine Ad ?_ _)| (with_reducible refine Am ?_)| (with_reducible refine Ay ?_ _)| ((with_reducible refine Az ?_ _ _ ?h2);case h2=>first|exact .inl rfl|exact .inr (Nat.le_refl _)|exact .inr (by simp<;>omega))| (with_reducible refine Ag ?_ (by assumption))| (with_reducible refine Aa ?_ (by assumption)))),?_,by simp⟩;rw[if_neg HP.out];exact(by repeat(first| (with_reducible assumption)| (with_reducible apply Sc.alloc)| (with_reducible apply Sc.drew)| (with_reducible apply Sc.drewN)| (with_reducible apply Sc.setLine)| (with_reducible apply Sc.setBegun)| (with_reducible apply Sc.setBad)| (with_reducible apply Sc.go)| (with_reducible apply Sc.set_other)|omega| (simp<;>omega)))
  | false=>
    go_enter func153,ntmps153;go_wp2;go_quiet(fail);go_wp2;refine bodyPost_ret (v:= .tuple #[tok0,.bool true]) (by simp[results,results153,go_sem]) rfl ⟨(by repeat(first| (with_reducible exact Ac _ _)| (with_reducible assumption)| (with_reducible exact AX (by assumption))| (with_reducible refine Ad ?_ _)| (with_reducible refine Am ?_)| (with_reducible refine Ay ?_ _)| ((with_reducible refine Az ?_ _ _ ?h2);case h2=>first|exact .inl rfl|exact .inr (Nat.le_refl _)|exact .inr (by simp<;>omega))| (with_reducible refine Ag ?_ (by assumption))| (with_reducible refine Aa ?_ (by assumption)))),?_,by simp[HP.out]⟩;rw[if_neg HP.out];exact(by repeat(first| (with_reducible assumption)| (with_reducible apply Sc.alloc)| (with_reducible apply Sc.drew)| (with_reducible apply Sc.drewN)| (with_reducible apply Sc.setLine)| (with_reducible apply Sc.setBegun)| (with_reducible apply Sc.setBad)| (with_reducible apply Sc.go)| (with_reducible apply Sc.set_other)|omega| (simp<;>omega)))
def F5(w:World)(b:Nat)(s:Bs)(i:Nat)(line begun:Bool)(bad:Int)(e:Ending)(w':World):Prop:=
 w.grownBy w' (some b)∧if Cd s (AQ s (i+1))then(match Bv s (AQ s (i+1))with
  |some k=>e= .returned (.tuple #[.bool true,.bool false])∧∃j,Sc w' b s j line begun k
  |none=>e= .returned (.tuple #[.bool true,.bool true])∧Sc w' b s (B3 s (AQ s (i+1))) line begun bad)
  else e= .returned (.tuple #[.bool false,.bool true])∧Sc w' b s i line begun bad
theorem Gx(s:Bs)(k:Nat)(p:Bs){r:Bool}(hr:p.isPrefixOf (s.drop k)=r)(w:World):
 Calls Tryz.prog 154 #[.string ((⟨s.toArray⟩:ByteArray).extract k s.length),.string ⟨p.toArray⟩] w fun e w'=>e= .returned (.bool r)∧w=w':=by
 subst hr;refine(strings_HasPrefix _ _ _).mono ?_;rintro e w' ⟨rfl,rfl⟩;rw[FP];exact⟨rfl,rfl⟩
section
variable {w w':World}{b:Nat}{s:Bs}{i k j q:Nat}{line begun:Bool}{bad:Int}
theorem Eu(hk:k=AQ s (i+1))(hg:Cd s k=true)(hc:Bv s k=none)(hj:B3 s k=j)(g:w.grownBy w' (some b))(hs:Sc w' b s j line begun bad):
 F5 w b s i line begun bad (.returned (.tuple #[.bool true,.bool true])) w':=by
 subst hk hj;refine⟨g,?_⟩;rw[if_pos hg,hc];exact⟨rfl,hs⟩
theorem Gk(hk:k=AQ s (i+1))(hg:Cd s k=true)(hc:Bv s k=some q)(g:w.grownBy w' (some b))(hs:Sc w' b s j line begun q):
 F5 w b s i line begun bad (.returned (.tuple #[.bool true,.bool false])) w':=by
 subst hk;refine⟨g,?_⟩;rw[if_pos hg,hc];exact⟨rfl,j,hs⟩
theorem LA(hk:k=AQ s (i+1))(hg:Cd s k=false)(g:w.grownBy w' (some b))(hs:Sc w' b s i line begun bad):
 F5 w b s i line begun bad (.returned (.tuple #[.bool false,.bool true])) w':=by
 subst hk;refine⟨g,?_⟩;rw[if_neg (by rw[hg];simp)];exact⟨rfl,hs⟩
end
theorem Ic{w:World}{b:Nat}{s:Bs}{i:Nat}{line begun:Bool}{bad:Int}(h:Sc w b s i line begun bad)(hi:i<s.length):
 Calls Tryz.prog 156 #[.pointer (some ⟨b,0,none⟩)] w (F5 w b s i line begun bad):=by
 have c0:=h.c0;have c1:=h.c1;have hf:=h.few;have hb:=h.lt;go_enter func156,ntmps156;go_wp2_with fail;go_loopg [4] (s.length-(i+1)) (fun g v4 wr=>∃k:Nat,k+g=s.length∧v4= .int .i64 k∧Sc wr b s i line begun bad∧AQ s k=AQ s (i+1)∧w.grownBy wr none)
 case atStart=>exact⟨i+1,by omega,by simp,h,rfl,Ac _ _⟩
 case round=>
  obtain⟨k,hk,rfl,hs,hq,g⟩:=hrel;have HQ:=O hq;clear hq c0 c1 hb;have hb:=hs.lt;cases hc:(decide (k<s.length)&&cls 3 (bAt s k))with
  | true=>
    simp only[Bool.and_eq_true,decide_eq_true_eq]at hc;cases gk with
    |zero=>omega
    |succ gk=>
    have HC:=O hc.2;have hkl:=hc.1;clear hc h;go_wp2_with fail;refine(BM hs k 3 (r:=true) (by simp[hkl,HC.out])).mono ?_;rintro e w1 ⟨rfl,g1⟩;have hs1:=hs.gbN g1;go_wp2;go_roundg gk
    case measure=>omega
    case rel=>exact⟨k+1,by omega,by simp,hs1,by rw[←HQ.out];exact(BT hkl HC.out).symm,Ag g g1⟩
  | false=>
    have HC:=O hc;clear hc h;go_wp2_with fail;refine(BM hs k 3 (r:=false) HC.out).mono ?_;rintro e w1 ⟨rfl,g1⟩;have hs1:=hs.gbN g1;have hk2:AQ s k=k:=by
     have h2:=HC.out;by_cases hkl:k<s.length
     ·exact CB hkl (by simpa[hkl]using h2)
     ·exact CV (by omega)
    have HK:=O (hk2.symm.trans HQ.out);clear hk2;have c0:=hs1.c0;have c1:=hs1.c1;have f1:=hs1.fr 1;have hb1:=hs1.lt;by_cases hkl:k<s.length
    ·have hl1:((k:Int)==(s.length:Int))=false:=by simp;omega
     have hg:=fun h=>C3 s k h hkl;have hkl2:k≤s.length:=by omega
     cases h10:((bAt s k).toNat:Int)==10 with
     | true=>
       have HG:=O (show Cd s k=true by
        have h2:bAt s k=10:=by simp at h10;apply UInt8.toNat_inj.1;simpa using(by omega:(bAt s k).toNat=10)
        simp[Cd,h2])
       have hs2:=hs1.go (k:Int) k rfl hkl2;go_wp2_with fail;refine(Et hs2).mono ?_;rintro e w2 ⟨g2,h2⟩;have g12:w1.grownBy w2 (some b):=Aa (Az (Ac _ _) _ _ (.inl rfl)) g2;cases hcm:Bv s k with
       | some j=>
         have HM:=O hcm;rw[hcm]at h2;clear hcm;obtain⟨rfl,j',hs3⟩:=h2;go_wp2;exact bodyPost_ret (v:= .tuple #[.bool true,.bool false]) (by simp[results,results156,go_sem]) rfl (Gk HK.out HG.out HM.out (Aa (AX (Ag g g1)) g12) hs3)
       | none=>
         have HM:=O hcm;rw[hcm]at h2;clear hcm;obtain⟨rfl,hs3⟩:=h2;have d0:=hs3.c0;have d1:=hs3.c1;have e1:=hs3.fr 1;have hb3:=hs3.lt;by_cases hle:Aq s k<s.length
         ·have hl3:decide (Aq s k<s.length)=true:=by simpa using hle
          have HN:=O (show B3 s k=Aq s k+1 by unfold B3;rw[if_pos hle]);generalize Aq s k=q at*;go_wp2;go_quiet(fail);go_wp2;exact bodyPost_ret (v:= .tuple #[.bool true,.bool true]) (by simp[results,results156,go_sem]) rfl (Eu (j:=q+1) HK.out HG.out HM.out HN.out (Az (Ay (Aa (AX (Ag g g1)) g12) _) _ _ (.inl rfl)) (by repeat(first| (with_reducible assumption)| (with_reducible apply Sc.alloc)| (with_reducible apply Sc.drew)| (with_reducible apply Sc.drewN)| (with_reducible apply Sc.setLine)| (with_reducible apply Sc.setBegun)| (with_reducible apply Sc.setBad)| (with_reducible apply Sc.go)| (with_reducible apply Sc.set_other)|omega| (simp<;>omega))))
         ·have hl3:decide (Aq s k<s.length)=false:=by simpa using hle
          have HN:=O (show B3 s k=Aq s k by unfold B3;rw[if_neg hle]);generalize Aq s k=q at*;go_wp2;go_quiet(fail);go_wp2;exact bodyPost_ret (v:= .tuple #[.bool true,.bool true]) (by simp[results,results156,go_sem]) rfl (Eu (j:=q) HK.out HG.out HM.out HN.out (Ay (Aa (AX (Ag g g1)) g12) _) (by repeat(first| (with_reducible assumption)| (with_reducible apply Sc.alloc)| (with_reducible apply Sc.drew)| (with_reducible apply Sc.drewN)| (with_reducible apply Sc.setLine)| (with_reducible apply Sc.setBegun)| (with_reducible apply Sc.setBad)| (with_reducible apply Sc.go)| (with_reducible apply Sc.set_other)|omega| (simp<;>omega))))
     | false=>
       cases ha:DE s k with
       | true=>
         have HG:=O (show Cd s k=true by simp[Cd,ha]);have hkI:decide ((k:Int)≤s.length)=true:=by simp;omega
         go_wp2_with fail;refine(Gx s k [38,38] (r:=true) ha _).mono ?_;rintro e w0 ⟨rfl,rfl⟩;have hs2:=hs1.go (k:Int) k rfl hkl2;go_wp2_with fail;refine(Et hs2).mono ?_;rintro e w2 ⟨g2,h2⟩;have g12:w1.grownBy w2 (some b):=Aa (Az (Ac _ _) _ _ (.inl rfl)) g2;cases hcm:Bv s k with
         | some j=>
           have HM:=O hcm;rw[hcm]at h2;clear hcm;obtain⟨rfl,j',hs3⟩:=h2;go_wp2;exact bodyPost_ret (v:= .tuple #[.bool true,.bool false]) (by simp[results,results156,go_sem]) rfl (Gk HK.out HG.out HM.out (Aa (AX (Ag g g1)) g12) hs3)
         | none=>
           have HM:=O hcm;rw[hcm]at h2;clear hcm;obtain⟨rfl,hs3⟩:=h2;have d0:=hs3.c0;have d1:=hs3.c1;have e1:=hs3.fr 1;have hb3:=hs3.lt;by_cases hle:Aq s k<s.length
           ·have hl3:decide (Aq s k<s.length)=true:=by simpa using hle
            have HN:=O (show B3 s k=Aq s k+1 by unfold B3;rw[if_pos hle]);generalize Aq s k=q at*;go_wp2;go_quiet(fail);go_wp2;exact bodyPost_ret (v:= .tuple #[.bool true,.bool true]) (by simp[results,results156,go_sem]) rfl (Eu (j:=q+1) HK.out HG.out HM.out HN.out (Az (Ay (Aa (AX (Ag g g1)) g12) _) _ _ (.inl rfl)) (by repeat(first| (with_reducible assumption)| (with_reducible apply Sc.alloc)| (with_reducible apply Sc.drew)| (with_reducible apply Sc.drewN)| (with_reducible apply Sc.setLine)| (with_reducible apply Sc.setBegun)| (with_reducible apply Sc.setBad)| (with_reducible apply Sc.go)| (with_reducible apply Sc.set_other)|omega| (simp<;>omega))))
           ·have hl3:decide (Aq s k<s.length)=false:=by simpa using hle
            have HN:=O (show B3 s k=Aq s k by unfold B3;rw[if_neg hle]);generalize Aq s k=q at*;go_wp2;go_quiet(fail);go_wp2;exact bodyPost_ret (v:= .tuple #[.bool true,.bool true]) (by simp[results,results156,go_sem]) rfl (Eu (j:=q) HK.out HG.out HM.out HN.out (Ay (Aa (AX (Ag g g1)) g12) _) (by repeat(first| (with_reducible assumption)| (with_reducible apply Sc.alloc)| (with_reducible apply Sc.drew)| (with_reducible apply Sc.drewN)| (with_reducible apply Sc.setLine)| (with_reducible apply Sc.setBegun)| (with_reducible apply Sc.setBad)| (with_reducible apply Sc.go)| (with_reducible apply Sc.set_other)|omega| (simp<;>omega))))
       | false=>
         have HG:=O (show Cd s k=false by
          have h2:bAt s k≠10:=by rintro e;rw[e]at h10;simp at h10
          simp[Cd,ha,h2];omega)
         have hkI:decide ((k:Int)≤s.length)=true:=by simp;omega
         go_wp2_with fail;refine(Gx s k [38,38] (r:=false) ha _).mono ?_;rintro e w0 ⟨rfl,rfl⟩;go_wp2;exact bodyPost_ret (v:= .tuple #[.bool false,.bool true]) (by simp[results,results156,go_sem]) rfl (LA HK.out HG.out (AX (Ag g g1)) hs1)
    ·have hl1:((k:Int)==(s.length:Int))=true:=by simp;omega
     have hkl2:k≤s.length:=by omega
     have HG:=O (show Cd s k=true by simp[Cd];left;omega);have hs2:=hs1.go (k:Int) k rfl hkl2;go_wp2_with fail;refine(Et hs2).mono ?_;rintro e w2 ⟨g2,h2⟩;have g12:w1.grownBy w2 (some b):=Aa (Az (Ac _ _) _ _ (.inl rfl)) g2;cases hcm:Bv s k with
     | some j=>
       have HM:=O hcm;rw[hcm]at h2;clear hcm;obtain⟨rfl,j',hs3⟩:=h2;go_wp2;exact bodyPost_ret (v:= .tuple #[.bool true,.bool false]) (by simp[results,results156,go_sem]) rfl (Gk HK.out HG.out HM.out (Aa (AX (Ag g g1)) g12) hs3)
     | none=>
       have HM:=O hcm;rw[hcm]at h2;clear hcm;obtain⟨rfl,hs3⟩:=h2;have d0:=hs3.c0;have d1:=hs3.c1;have e1:=hs3.fr 1;have hb3:=hs3.lt;by_cases hle:Aq s k<s.length
       ·have hl3:decide (Aq s k<s.length)=true:=by simpa using hle
        have HN:=O (show B3 s k=Aq s k+1 by unfold B3;rw[if_pos hle]);generalize Aq s k=q at*;go_wp2;go_quiet(fail);go_wp2;exact bodyPost_ret (v:= .tuple #[.bool true,.bool true]) (by simp[results,results156,go_sem]) rfl (Eu (j:=q+1) HK.out HG.out HM.out HN.out (Az (Ay (Aa (AX (Ag g g1)) g12) _) _ _ (.inl rfl)) (by repeat(first| (with_reducible assumption)| (with_reducible apply Sc.alloc)| (with_reducible apply Sc.drew)| (with_reducible apply Sc.drewN)| (with_reducible apply Sc.setLine)| (with_reducible apply Sc.setBegun)| (with_reducible apply Sc.setBad)| (with_reducible apply Sc.go)| (with_reducible apply Sc.set_other)|omega| (simp<;>omega))))
       ·have hl3:decide (Aq s k<s.length)=false:=by simpa using hle
        have HN:=O (show B3 s k=Aq s k by unfold B3;rw[if_neg hle]);generalize Aq s k=q at*;go_wp2;go_quiet(fail);go_wp2;exact bodyPost_ret (v:= .tuple #[.bool true,.bool true]) (by simp[results,results156,go_sem]) rfl (Eu (j:=q) HK.out HG.out HM.out HN.out (Ay (Aa (AX (Ag g g1)) g12) _) (by repeat(first| (with_reducible assumption)| (with_reducible apply Sc.alloc)| (with_reducible apply Sc.drew)| (with_reducible apply Sc.drewN)| (with_reducible apply Sc.setLine)| (with_reducible apply Sc.setBegun)| (with_reducible apply Sc.setBad)| (with_reducible apply Sc.go)| (with_reducible apply Sc.set_other)|omega| (simp<;>omega))))
end Go.Proofs.YtgjdhajcnechdaaGreatDoor
