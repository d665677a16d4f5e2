/-
  The lexer's scanner in memory; is, skip, lineEnd. The reference's reader of tokens in memory; token, wrong, isSign, next, take, want, end, name, sign. The reference's reader: end, name, sign, names. T
-/
import Derived.Test.YtmcajbhljbbglaaGreatDoorSpF
import Derived.Test.YtmcajbhljbbglaaGreatDoorSp05
import Derived.Test.YtmcajbhljbbglaaGreatDoorSp02
import Derived.Test.YtmcajbhljbbglaaGreatDoorPlain
import Derived.Test.YtmcajbhljbbglaaGreatDoorSp06
set_option linter.all false
set_option maxRecDepth 100000
set_option maxHeartbeats 8000000
namespace Go.Proofs.YtmcajbhljbbglaaGreatDoor
open Tryz
open Go.RowKit
def AU(k:Nat):List Value:=(List.range 256).map fun j=> .int .u8 (if j<k then Cl j else 0)
theorem Md(k j:Nat)(hj:j<256):(AU k)[j]? =some (.int .u8 (if j<k then Cl j else 0)):=by simp[AU,hj]
theorem Jh(k:Nat):(AU k).length=256:=by simp[AU]
def GN(s:Bs)(i:Int)(line begun:Bool)(bad:Int):List Value:=str s :: .int .i64 i::(AU 256++[.bool line,.bool begun,.int .i64 bad])
theorem oP(s:Bs)(i:Int)(line begun:Bool)(bad:Int)(j:Nat)(hj:j<256):(GN s i line begun bad)[2+j]? =some (.int .u8 (Cl j)):=by
 rw[show 2+j=j+1+1 by omega];simp only[GN,List.getElem?_cons_succ];rw[List.getElem?_append_left (by rw[Jh];exact hj),Md _ _ hj];simp[hj]
theorem P1(s:Bs)(i:Int)(line begun:Bool)(bad:Int)(j:Nat):(GN s i line begun bad)[258+j]? =[.bool line,.bool begun,.int .i64 bad][j]?:=by
 rw[show 258+j=256+j+1+1 by omega];simp only[GN,List.getElem?_cons_succ];rw[List.getElem?_append_right (by rw[Jh];omega),Jh,show 256+j-256=j by omega]
theorem sX(s:Bs)(i j:Int)(line begun:Bool)(bad:Int):(GN s i line begun bad).set 1 (.int .i64 j)=GN s j line begun bad:=rfl
theorem OK(s:Bs)(i:Int)(line begun:Bool)(bad:Int)(j:Nat)(v:Value):(GN s i line begun bad).set (258+j) v=str s :: .int .i64 i::(AU 256++[.bool line,.bool begun,.int .i64 bad].set j v):=by
 rw[show 258+j=256+j+1+1 by omega];simp only[GN,List.set_cons_succ];rw[List.set_append_right _ _ (by rw[Jh];omega),Jh,show 256+j-256=j by omega]
structure Sc(w:World)(b:Nat)(s:Bs)(i:Nat)(line begun:Bool)(bad:Int):Prop where
 blk:Blk w b (GN s i line begun bad) 86
 le:i≤s.length
 few:s.length≤4000
section
variable {w w1:World}{b:Nat}{s:Bs}{i:Nat}{line begun:Bool}{bad:Int}
theorem Sc.lt(h:Sc w b s i line begun bad):b<w.heap.size:=h.blk.lt
theorem Sc.c0(h:Sc w b s i line begun bad):w.cell? ⟨b,0,none⟩=some (str s):=h.blk.cell 0
theorem Sc.c1(h:Sc w b s i line begun bad):w.cell? ⟨b,1,none⟩=some (.int .i64 i):=h.blk.cell 1
theorem Sc.cls(h:Sc w b s i line begun bad)(x:UInt8):w.cell? ⟨b,2+x.toNat,none⟩=some (.int .u8 (Cl x.toNat)):=(h.blk.cell _).trans (oP _ _ _ _ _ _ x.toNat_lt)
theorem Sc.c258(h:Sc w b s i line begun bad):w.cell? ⟨b,258,none⟩=some (.bool line):=(h.blk.cell _).trans (P1 _ _ _ _ _ 0)
theorem Sc.c259(h:Sc w b s i line begun bad):w.cell? ⟨b,259,none⟩=some (.bool begun):=(h.blk.cell _).trans (P1 _ _ _ _ _ 1)
theorem Sc.c260(h:Sc w b s i line begun bad):w.cell? ⟨b,260,none⟩=some (.int .i64 bad):=(h.blk.cell _).trans (P1 _ _ _ _ _ 2)
theorem Sc.fr(h:Sc w b s i line begun bad)(k:Nat):w.frozen? ⟨b,k,none⟩=false:=h.blk.frozen k
theorem Sc.gb{r:Option Nat}(h:Sc w b s i line begun bad)(g:w.grownBy w1 r)(hr:some b≠r):Sc w1 b s i line begun bad:=⟨h.blk.gb g hr,h.le,h.few⟩
theorem Sc.gbN(h:Sc w b s i line begun bad)(g:w.grownBy w1 none):Sc w1 b s i line begun bad:=h.gb g Ae
theorem Sc.alloc(h:Sc w b s i line begun bad)(o:Obj):Sc (w.alloc o) b s i line begun bad:=h.gbN (World.grownBy_alloc w o none)
theorem Sc.drewN(h:Sc w b s i line begun bad)(n:Nat):Sc (w.drewN n) b s i line begun bad:=h.gbN (AA (Aj w none) n)
theorem Sc.go(h:Sc w b s i line begun bad)(z:Int)(j:Nat)(hz:z=j)(hj:j≤s.length):Sc (w.setCell ⟨b,1,none⟩ (.int .i64 z)) b s j line begun bad:=by
 subst hz;exact⟨(h.blk.set 1 _).of_eq rfl (sX _ _ _ _ _ _),hj,h.few⟩
theorem Sc.at_eq{j:Nat}(h:Sc w b s i line begun bad)(e:i=j):Sc w b s j line begun bad:=e ▸ h
theorem Sc.setLine(h:Sc w b s i line begun bad)(l:Bool):Sc (w.setCell ⟨b,258,none⟩ (.bool l)) b s i l begun bad:=⟨(h.blk.set 258 _).of_eq rfl (OK _ _ _ _ _ 0 _),h.le,h.few⟩
theorem Sc.setBegun(h:Sc w b s i line begun bad)(l:Bool):Sc (w.setCell ⟨b,259,none⟩ (.bool l)) b s i line l bad:=⟨(h.blk.set 259 _).of_eq rfl (OK _ _ _ _ _ 1 _),h.le,h.few⟩
theorem Sc.setBad(h:Sc w b s i line begun bad)(k:Int):Sc (w.setCell ⟨b,260,none⟩ (.int .i64 k)) b s i line begun k:=⟨(h.blk.set 260 _).of_eq rfl (OK _ _ _ _ _ 2 _),h.le,h.few⟩
theorem Sc.set_other(h:Sc w b s i line begun bad)(a:Addr)(v:Value)(hne:b≠a.block):Sc (w.setCell a v) b s i line begun bad:=⟨h.blk.set_other a v hne,h.le,h.few⟩
end
theorem BI(s:Bs)(k:Nat)(h:k<(⟨s.toArray⟩:ByteArray).size)(h2:k<s.length):(⟨s.toArray⟩:ByteArray)[k]'h=bAt s k:=by rw[Gg h2];rfl
theorem Xj(x:UInt8):x.toNat<256:=x.toNat_lt
theorem Aap{w:World}{b:Nat}{s:Bs}{i:Nat}{line begun:Bool}{bad:Int}(h:Sc w b s i line begun bad)(k:Nat)(c:Int):
 Calls Tryz.prog 156 #[.pointer (some ⟨b,0,none⟩),.int .i64 k,.int .u8 c] w fun e w'=>e= .returned (.bool (decide (k<s.length)&&(Cl (bAt s k).toNat==c)))∧w.grownBy w' none:=by
 have c0:=h.c0;have hb:=h.lt;have hf:=h.few;by_cases hk:k<s.length
 ·have cc:=h.cls (bAt s k);have hg:=fun h=>BI s k h hk;have hx:=Xj (bAt s k);generalize bAt s k=x at*;have hk1:decide ((k:Int)<s.length)=true:=Ag;exact Ty
 ·have hk1:decide ((k:Int)<s.length)=false:=by simp;omega
  exact Ty
theorem Dn{w:World}{b:Nat}{s:Bs}{i:Nat}{line begun:Bool}{bad:Int}(h:Sc w b s i line begun bad)(k:Nat)(c:Int){r:Bool}(hr:(decide (k<s.length)&&cls c (bAt s k))=r):
 Calls Tryz.prog 156 #[.pointer (some ⟨b,0,none⟩),.int .i64 k,.int .u8 c] w fun e w'=>e= .returned (.bool r)∧w.grownBy w' none:=by
 subst hr;exact Aap h k c
theorem AaP{w:World}{b:Nat}{s:Bs}{i:Nat}{line begun:Bool}{bad:Int}(h:Sc w b s i line begun bad):
 Calls Tryz.prog 109 #[.pointer (some ⟨b,0,none⟩)] w fun e w'=>e= .returned (.tuple #[])∧Sc w' b s (AE s i) line begun bad∧w.grownBy w' (some b):=by
 go_enter func109,ntmps109;go_wp2_with fail;have hi:=h.le;go_loopg [] (s.length-i) (fun g wr=>∃k:Nat,k+g=s.length∧Sc wr b s k line begun bad∧AE s k=AE s i∧w.grownBy wr (some b))
 case atStart=>exact⟨i,by omega,h,rfl,Aj _ _⟩
 case round=>
  obtain⟨k,hk,hs,hq,g⟩:=hrel;have HQ:=Z hq;clear hq h hi;have hc1:=hs.c1;have hb:=hs.lt;cases hc:(decide (k<s.length)&&cls 3 (bAt s k))with
  | true=>
    simp only[Bool.and_eq_true,decide_eq_true_eq]at hc;cases gk with
    |zero=>omega
    |succ gk=>
    have HC:=Z hc.2;have hkl:=hc.1;clear hc;go_wp2_with fail;refine(Dn hs k 3 (r:=true) MX).mono ?_;rintro e w1 ⟨rfl,g1⟩;have hs1:=hs.gbN g1;have c1:=hs1.c1;have f1:=hs1.fr 1;have hf:=hs.few;go_wp2;go_roundg gk
    case measure=>omega
    case rel=>exact⟨k+1,by omega,hs1.go _ (k+1) Ab Ab,by rw[←HQ.out];exact(BK hkl HC.out).symm,A7 (A0 g g1) _ _ (.inl rfl)⟩
  | false=>
    have HC:=Z hc;have fV{P}(h:P:=by go_wp2;go_end0;exact⟨rfl,hs1.at_eq HK.out,A0 g g1⟩):=Aa h;exact Ze
theorem Ed(s:Bs)(i j:Nat):(⟨s.toArray⟩:ByteArray).extract i j=⟨((s.drop i).take (j-i)).toArray⟩:=by
 apply ByteArray.ext;apply Array.ext';rw[Lib.extract_data]
theorem P8(s:Bs)(i:Nat):(⟨s.toArray⟩:ByteArray).extract i s.length=⟨(s.drop i).toArray⟩:=by
 rw[Ed,List.take_of_length_le Ae]
theorem Aav(s:Bs)(c:UInt8)(k:Nat):Lib.indexByte (s.drop k) c=if Au s (fun b=>b !=c) k<s.length then((Au s (fun b=>b !=c) k-k:Nat):Int)else -1:=by
 induction hn:s.length-k generalizing k with
 |zero=>rw[DZ Ab,List.drop_eq_nil_of_le Ab,if_neg Ab];rfl
 | succ n ih=>
   have hk:k<s.length:=Ab;rw[GB hk,Lib.indexByte];cases hc:(bAt s k==c)with
   | true=>
     rw[Dq hk (by simpa using hc)];simp[hk]
   | false=>
     rw[BK hk (by simpa using hc),ih (k+1) Ab];have h1:=By s (fun b=>b !=c) (k+1);by_cases h2:Au s (fun b=>b !=c) (k+1)<s.length
     ·simp only[if_pos h2];simp only[Bool.false_eq_true,if_false];rw[if_neg (by simp;try omega)];omega
     ·simp[h2]
theorem OU{w:World}{b:Nat}{s:Bs}{i:Nat}{line begun:Bool}{bad:Int}(h:Sc w b s i line begun bad)(k:Nat)(hk:k≤s.length):
 Calls Tryz.prog 158 #[.pointer (some ⟨b,0,none⟩),.int .i64 k] w fun e w'=>e= .returned (.int .i64 (Az s k))∧w=w':=by
 have c0:=h.c0;have hb:=h.lt;have hf:=h.few;have H0:=Aav s 10 k;have hr:=By s (fun b=>b !=10) k;have hr2:=Cp (p:=fun b=>b !=10) hk;have hkI:decide ((k:Int)≤s.length)=true:=Ag;rw[show Au s (fun b=>b !=10) k=Az s k from rfl]at*;by_cases hl:Az s k<s.length
 ·rw[if_pos hl]at H0;obtain⟨d,hd⟩:∃d,Az s k=k+d:=⟨Az s k-k,by omega⟩;rw[hd]at H0 ⊢;rw[show k+d-k=d by omega]at H0;rw[hd]at hl hr2;have H:=Z H0;clear H0 hd;have gR{P}(h:P:=by exact⟨by simp,rfl⟩):=Aa h;exact Zu
 ·have he:Az s k=s.length:=by omega
  rw[if_neg hl]at H0;rw[he];have H:=Z H0;clear H0 he;have gR{P}(h:P:=by exact⟨rfl,rfl⟩):=Aa h;exact Zu
def mY(w:World)(b:Nat)(s:Bs)(i:Nat)(line begun:Bool)(bad:Int)(e:Ending)(w':World):Prop:=w.grownBy w' (some b)∧match Bw s i with
 |some k=>e= .returned (.bool false)∧∃j,Sc w' b s j line begun k
 |none=>e= .returned (.bool true)∧Sc w' b s (Az s i) line begun bad
theorem Se{w:World}{b:Nat}{s:Bs}{i:Nat}{line begun:Bool}{bad:Int}(h:Sc w b s i line begun bad):
 Calls Tryz.prog 112 #[.pointer (some ⟨b,0,none⟩)] w (mY w b s i line begun bad):=by
 have hi:=h.le;have c1:=h.c1;have hle:Az s i≤s.length:=Cp hi;have hge:i≤Az s i:=By _ _ _;go_enter func112,ntmps112;go_wp2_with fail;refine(OU h i hi).mono ?_;rintro e w1 ⟨rfl,rfl⟩;go_wp2_with fail;go_loopg [] (Az s i-i) (fun g wr=>∃k:Nat,k+g=Az s i∧i≤k∧Sc wr b s k line begun bad∧BO s k=BO s i∧w.grownBy wr (some b))
 case atStart=>exact⟨i,by omega,Nat.le_refl _,h,rfl,Aj _ _⟩
 case round=>
  obtain⟨k,hk,hik,hs,hq,g⟩:=hrel;have HQ:=Z hq;have HL:=Z hle;clear hq h hi c1 hle;have c1:=hs.c1;have hf:=hs.few;have hb:=hs.lt;cases gk with
  | zero=>
    have HM:=Z (show Bw s i=none by unfold Bw;rw[if_neg (by have h1:=yX s i;have h2:=By s (fun b=>b !=10&&!cls 4 b) k;change k≤BO s k at h2;rw[HQ.out]at h2;omega)]);have hs':=hs.at_eq (show k=Az s i by omega);have hkI:(k:Int)=Az s i:=Ab;have hkI2:decide (k<Az s i)=false:=Ag;clear hk hkI;go_wp2;go_ret;exact⟨g,by rw[HM.out];exact⟨rfl,hs'⟩⟩
  | succ gk=>
    have hlt:k<Az s i:=Ab;have h10:=Hr hik hlt;have HT:=Z h10;have hkl:=h10.1;have hltI:decide ((k:Int)<Az s i)=true:=Ag;clear h10;cases hc:cls 4 (bAt s k)with
    | true=>
      have HC:=Z hc;have HM:=Z (show Bw s i=some k by
       have h2:BO s k=k:=Dq hkl (by simp[HC.out]);rw[HQ.out]at h2;unfold Bw;rw[h2,if_pos hlt])
      clear hc;go_wp2_with fail;refine(Dn hs k 4 (r:=true) MX).mono ?_;rintro e w1 ⟨rfl,g1⟩;have hs1:=hs.gbN g1;have d1:=hs1.c1;have f1:=hs1.fr 260;have c260:=hs1.c260;go_wp2;go_ret;exact⟨A7 (A0 g g1) _ _ (.inl rfl),by rw[HM.out];exact⟨rfl,k,hs1.setBad k⟩⟩
    | false=>
      have HC:=Z hc;clear hc;go_wp2_with fail;refine(Dn hs k 4 (r:=false) MX).mono ?_;rintro e w1 ⟨rfl,g1⟩;have hs1:=hs.gbN g1;have d1:=hs1.c1;have f1:=hs1.fr 1;go_wp2;go_roundg gk
      case measure=>omega
      case rel=>exact⟨k+1,by omega,by omega,hs1.go _ (k+1) Ab Ab,by rw[←HQ.out];exact(BK hkl (by simp[HC.out];simpa using HT.out.2)).symm,A7 (A0 g g1) _ _ (.inl rfl)⟩
structure Rr(w:World)(b:Nat)(tv:Value)(l:List Tok)(st:RS):Prop where
 blk:Blk w b [tv,.int .i64 st.1,.bool st.2,.slice none 0 0] 62
 toks:TRow w tv l (· < b)
 le:st.1≤l.length
 few:l.length≤4001
section
variable {w w1:World}{b:Nat}{tv:Value}{l:List Tok}{st:RS}
theorem Rr.lt(h:Rr w b tv l st):b<w.heap.size:=h.blk.lt
theorem Rr.c0(h:Rr w b tv l st):w.cell? ⟨b,0,none⟩=some tv:=h.blk.cell 0
theorem Rr.c1(h:Rr w b tv l st):w.cell? ⟨b,1,none⟩=some (.int .i64 st.1):=h.blk.cell 1
theorem Rr.c2(h:Rr w b tv l st):w.cell? ⟨b,2,none⟩=some (.bool st.2):=h.blk.cell 2
theorem Rr.c3(h:Rr w b tv l st):w.cell? ⟨b,3,none⟩=some (.slice none 0 0):=h.blk.cell 3
theorem Rr.fr(h:Rr w b tv l st)(k:Nat):w.frozen? ⟨b,k,none⟩=false:=h.blk.frozen k
theorem Rr.gb{r:Option Nat}(h:Rr w b tv l st)(g:w.grownBy w1 r)(hr:∀k,r=some k→b<k):Rr w1 b tv l st:=
 ⟨h.blk.gb g (fun e=>by have:=hr _ e.symm;omega),h.toks.gb g (fun k hk e=>by have:=hr _ e.symm;omega),h.le,h.few⟩
theorem Rr.gbN(h:Rr w b tv l st)(g:w.grownBy w1 none):Rr w1 b tv l st:=h.gb g Ae
theorem Rr.alloc(h:Rr w b tv l st)(o:Obj):Rr (w.alloc o) b tv l st:=h.gbN (World.grownBy_alloc w o none)
theorem Rr.drewN(h:Rr w b tv l st)(n:Nat):Rr (w.drewN n) b tv l st:=h.gbN (AA (Aj w none) n)
theorem Rr.go(h:Rr w b tv l st)(z:Int)(j:Nat)(hz:z=j)(hj:j≤l.length):Rr (w.setCell ⟨b,1,none⟩ (.int .i64 z)) b tv l (j,st.2):=by
 subst hz;have g:w.grownBy (w.setCell ⟨b,1,none⟩ (.int .i64 j)) (some b):=A7 (Aj w _) _ _ (.inl rfl);exact⟨(h.blk.set 1 (.int .i64 j)).of_eq rfl rfl,h.toks.gb g MN,hj,h.few⟩
theorem Rr.fail(h:Rr w b tv l st):Rr (w.setCell ⟨b,2,none⟩ (.bool true)) b tv l (st.1,true):=by
 have g:w.grownBy (w.setCell ⟨b,2,none⟩ (.bool true)) (some b):=A7 (Aj w _) _ _ (.inl rfl);exact⟨(h.blk.set 2 (.bool true)).of_eq rfl rfl,h.toks.gb g MN,h.le,h.few⟩
theorem Rr.tok(h:Rr w b tv l st){j:Nat}(hj:j<l.length):∃lb lo cap,tv= .slice (some ⟨lb,lo,none⟩) l.length cap∧lb<w.heap.size∧lb≠b∧
 w.cell? ⟨lb,lo+j*3,none⟩=some (.int .i64 (Af l j).kind)∧w.cell? ⟨lb,lo+j*3+1,none⟩=some (.int .i64 (Af l j).pos)∧
 w.cell? ⟨lb,lo+j*3+2,none⟩=some (.string ⟨(Af l j).text.toArray⟩):=by
 exact Sk
theorem Rr.tv_eq(h:Rr w b tv l st):∃a cap,tv= .slice a l.length cap:=by
 obtain⟨a,cap,e,_⟩:=h.toks;exact⟨a,cap,e⟩
end
def AM(b:Nat)(tv:Value)(l:List Tok)(w:World){α:Type}(V:World→Value→α→Prop)(r:α×RS)(e:Ending)(w':World):Prop:=
 w.grownBy w' (some b)∧∃v,e= .returned v∧V w' v r.1∧Rr w' b tv l r.2
abbrev VB:World→Value→Bool→Prop:=fun _ v x=>v= .bool x
abbrev VU:World→Value→Unit→Prop:=fun _ v _=>v= .tuple #[]
abbrev VStr:World→Value→Bs→Prop:=fun _ v x=>v=str x
section
variable {w:World}{b:Nat}{tv:Value}{l:List Tok}{st:RS}
theorem rM(h:Rr w b tv l st)(k:Nat)(hk:st.1+k<l.length)(hk2:k≤4):
 Calls Tryz.prog 63 #[.pointer (some ⟨b,0,none⟩),.int .i64 k] w fun e w'=>e= .returned (AG (Af l (st.1+k)))∧w.grownBy w' none:=by
 obtain⟨lb,lo,cap,e,hlb,_,t0,t1,t2⟩:=h.tok hk;have c0:=h.c0;have c1:=h.c1;have hb:=h.lt;have hf:=h.few;rw[e]at c0;obtain⟨i,f⟩:=st;simp only at hk c1 t0 t1 t2 ⊢;have hlt':decide ((i:Int)+k<(l.length:Int))=true:=Ag;unfold AG;generalize(Af l (i+k)).kind=x at*;generalize(Af l (i+k)).pos=y at*;generalize(Af l (i+k)).text=s at*;generalize l.length=n at*;clear e h;have hw1:IntKind.i64.wrap ((i:Int)+k)=(i:Int)+k:=IntWalk.i64_in _ Ab;have h1:(0:Int)≤(i:Int)+k:=Ab;have h2:(i:Int)+k<n:=Ab;go_enter func63,ntmps63;go_wp2;go_quiet(fail);go_wp2;go_region;go_wp2;refine bodyPost_ret (v:= .agg #[.int .i64 x,.int .i64 y,str s]) ?_ rfl ⟨rfl,?_⟩
 ·simp[results,results63,go_sem]
 ·exact gw
theorem xG(h:Rr w b tv l st)(k:Nat)(hk:l.length≤st.1+k)(hk2:k≤4):
 Calls Tryz.prog 63 #[.pointer (some ⟨b,0,none⟩),.int .i64 k] w fun e w'=>e= .returned (AG (Af l (st.1+k)))∧w.grownBy w' none:=by
 have et:Af l (st.1+k)=⟨-1,0,[]⟩:=by simp[Af,List.getElem?_eq_none hk]
 rw[et];clear et;obtain⟨a,cap,e⟩:=h.tv_eq;have c0:=h.c0;have c1:=h.c1;have hb:=h.lt;have hf:=h.few;have hle:=h.le;rw[e]at c0;obtain⟨i,f⟩:=st;simp only at hk c1 hle ⊢;have hlt':decide ((i:Int)+k<(l.length:Int))=false:=Ag;have hw1:IntKind.i64.wrap ((i:Int)+k)=(i:Int)+k:=IntWalk.i64_in _ Ab;generalize l.length=n at*;clear e h;go_enter func63,ntmps63;go_wp2;go_quiet(fail);go_wp2;refine bodyPost_ret (v:= .agg #[.int .i64 (-1),.int .i64 0,str []]) ?_ rfl ⟨rfl,?_⟩
 ·simp[results,results63,go_sem]
 ·exact gw
theorem Mb(h:Rr w b tv l st)(k:Nat)(hk2:k≤4):
 Calls Tryz.prog 63 #[.pointer (some ⟨b,0,none⟩),.int .i64 k] w fun e w'=>e= .returned (AG (Af l (st.1+k)))∧w.grownBy w' none:=by
 by_cases hk:st.1+k<l.length
 ·exact rM h k hk hk2
 ·exact xG h k Ab hk2
theorem ED(h:Rr w b tv l st):
 Calls Tryz.prog 63 #[.pointer (some ⟨b,0,none⟩),.int .i64 0] w fun e w'=>e= .returned (AG (Af l st.1))∧w.grownBy w' none:=Mb h 0 Ab
theorem Ga(h:Rr w b tv l st):
 Calls Tryz.prog 64 #[.pointer (some ⟨b,0,none⟩)] w (AM b tv l w VU ((),(st.1,true))):=by
 have c2:=h.c2;have f2:=h.fr 2;go_enter func64,ntmps64;go_wp2;go_end0;exact⟨A7 (Aj _ _) _ _ (.inl rfl),_,rfl,rfl,h.fail⟩
theorem Jj(h:Rr w b tv l st)(k:Nat)(hk2:k≤4)(s:Bs):
 Calls Tryz.prog 94 #[.pointer (some ⟨b,0,none⟩),.int .i64 k,str s] w fun e w'=>e= .returned (.bool (Ak (Af l (st.1+k)) s))∧w.grownBy w' none:=by
 have HT:=Z (Mb h k hk2);generalize Af l (st.1+k)=t at*;clear h;by_cases hk:t.kind=4
 ·have HK:=Z hk;clear hk;go_enter func94,ntmps94;have GA{P}(h:P:=by rw[AG,HK.out];go_wp2;go_ret;exact⟨by simp[Ak,HK.out],gw⟩):=Aa h;exact Gy
 ·have HK:=Z hk;have hk':(t.kind==4)=false:=BE;clear hk;go_enter func94,ntmps94;have GA{P}(h:P:=by go_wp2;go_ret;exact⟨by simp[Ak,hk'],gw⟩):=Aa h;exact Gy
theorem U9{l:List Tok}{i:Nat}{k:Int}(h:(Af l i).kind=k)(hk:0≤k):i<l.length:=ID Ab
theorem Gc(h:Rr w b tv l st)(hi:st.2=false→st.1<l.length):
 Calls Tryz.prog 72 #[.pointer (some ⟨b,0,none⟩)] w (AM b tv l w VU ((),BT st)):=by
 obtain⟨i,f⟩:=st;have c1:=h.c1;have c2:=h.c2;have f1:=h.fr 1;have hf:=h.few;have hle:=h.le;simp only at c1 c2 hi hle;cases f with
 | true=>
   go_enter func72,ntmps72;go_wp2;go_end0;exact⟨Aj _ _,_,rfl,rfl,h⟩
 | false=>
   have hi:=hi rfl;go_enter func72,ntmps72;go_wp2;go_end0;exact⟨A7 (Aj _ _) _ _ (.inl rfl),_,rfl,rfl,h.go _ (i+1) rfl Ab⟩
theorem B9(h:Rr w b tv l st)(s:Bs):
 Calls Tryz.prog 61 #[.pointer (some ⟨b,0,none⟩),str s] w (AM b tv l w VB (A2 l s st,Aq l s st)):=by
 obtain⟨i,f⟩:=st;have c2:=h.c2;simp only at c2;cases f with
 | true=>
   go_enter func61,ntmps61;go_wp2;go_ret;exact⟨Aj _ _,_,rfl,rfl,h⟩
 | false=>
   have HS:=Z (Jj h 0 Ab s);have hf:=h.few;cases hs:Ak (Af l i) s with
   | true=>
     have hi:=Xe hs;have HQ:=Z (Ac (show A2 l s (i,false)=true by simp[A2,hs]) (P5 hs));have HK:=Z hs;clear hs;go_enter func61,ntmps61;have Iy{P}(h:P:=by rw[Nat.add_zero,HK.out];have h1:=h.gbN g1;have c1:=h1.c1;have f1:=h1.fr 1;simp only at c1;go_wp2;go_ret;refine⟨gw,_,rfl,by rw[HQ.out.1];rfl,?_⟩;rw[HQ.out.2];exact h1.go _ (i+1) rfl Ab):=Aa h;exact Ip
   | false=>
     have HQ:=Z (Ac (show A2 l s (i,false)=false by simp[A2,hs]) (PN hs));have HK:=Z hs;clear hs;go_enter func61,ntmps61;have Iy{P}(h:P:=by rw[Nat.add_zero,HK.out];go_wp2;go_ret;refine⟨AY g1,_,rfl,by rw[HQ.out.1];rfl,?_⟩;rw[HQ.out.2];exact h.gbN g1):=Aa h;exact Ip
theorem Aae(l:List Tok)(s:Bs)(st:RS):AZ l s st=if A2 l s st then Aq l s st else((Aq l s st).1,true):=by
 unfold AZ Aq;cases A2 l s st<;>rfl
theorem E8(h:Rr w b tv l st)(s:Bs):
 Calls Tryz.prog 75 #[.pointer (some ⟨b,0,none⟩),str s] w (AM b tv l w VU ((),AZ l s st)):=by
 have HQ:=Z (Aae l s st);have HT:=Z (B9 h s);clear h;cases hs:A2 l s st with
 | true=>
   rw[hs]at HT HQ;clear hs;go_enter func75,ntmps75;have Hc{P}(h:P:=by go_wp2;go_end0;exact⟨g1,_,rfl,rfl,by rw[HQ.out];exact h1⟩):=Aa h;exact GY
 | false=>
   rw[hs]at HT HQ;clear hs;go_enter func75,ntmps75;have Hc{P}(h:P:=by go_wp2_with fail;refine(Ga h1).mono ?_;rintro e w2 ⟨g2,v,rfl,rfl,h2⟩;go_wp2;go_end0;exact⟨Ah g1 g2,_,rfl,rfl,by rw[HQ.out];exact h2⟩):=Aa h;exact GY
end
section
variable {w:World}{b:Nat}{tv:Value}{l:List Tok}{st:RS}
theorem BR(h:Rr w b tv l st):
 Calls Tryz.prog 29 #[.pointer (some ⟨b,0,none⟩)] w (AM b tv l w VU ((),Fi l st)):=by
 obtain⟨i,f⟩:=st;have c2:=h.c2;simp only at c2;cases f with
 | true=>
   go_enter func29,ntmps29;go_wp2_with fail;refine(Ga h).mono ?_;rintro e w1 ⟨g1,v,rfl,rfl,h1⟩;exact LM
 | false=>
   have hf:=h.few;by_cases hk:(Af l i).kind=5
   ·have hi:=U9 hk Ad;have HK:=Z hk;have HQ:=Z (show Fi l (i,false)=(i+1,false)by simp[Fi,hk]);clear hk;go_enter func29,ntmps29;go_wp2_with fail;refine(ED h).mono ?_;rintro e w1 ⟨rfl,g1⟩;rw[AG,HK.out];have h1:=h.gbN g1;have c1:=h1.c1;have f1:=h1.fr 1;simp only at c1;go_wp2;go_end0;exact⟨gw,_,rfl,rfl,by rw[HQ.out];exact h1.go _ (i+1) rfl Ab⟩
   ·have HQ:=Z (show Fi l (i,false)=(i,true)by simp[Fi,hk]);have hk':((Af l i).kind==5)=false:=BE;have hk2:((Af l i).kind !=5)=true:=BE;clear hk;go_enter func29,ntmps29;go_wp2_with fail;refine(ED h).mono ?_;rintro e w1 ⟨rfl,g1⟩;go_wp2_with fail;refine(Ga (h.gbN g1)).mono ?_;rintro e w2 ⟨g2,v,rfl,rfl,h2⟩;go_wp2;go_end0;exact⟨Ah (AY g1) g2,_,rfl,rfl,by rw[HQ.out];exact h2⟩
theorem BY(h:Rr w b tv l st):
 Calls Tryz.prog 73 #[.pointer (some ⟨b,0,none⟩)] w (AM b tv l w VStr (Ax l st)):=by
 have HT:=Z (ED h);have hf:=h.few;have hb:=h.lt;cases hn:Hp l st with
 | true=>
   obtain⟨i,f⟩:=st;simp only[Hp,Bool.and_eq_true,Bool.not_eq_true',beq_iff_eq,decide_eq_true_eq]at hn;obtain⟨rfl,hk,hl⟩:=hn;have hi:=U9 hk Ad;have HQ:=Z (show Ax l (i,false)=((Af l i).text,(i+1,false))by simp[Ax,Hp,hk,hl]);have hl1:decide ((10:Int)<(Af l i).text.length)=false:=Ag;have HK:=Z hk;clear hk;simp only at HT;generalize Af l i=t at*;go_enter func73,ntmps73;have GA{P}(h:P:=by rw[AG,HK.out];have h1:=h.gbN g1;have c1:=h1.c1;have c2:=h1.c2;have f1:=h1.fr 1;simp only at c1 c2;have hb1:=h1.lt;go_wp2;go_ret;refine⟨gw,_,rfl,by rw[HQ.out];rfl,?_⟩;rw[HQ.out];exact(h1.go _ (i+1) rfl Ab).alloc _):=Aa h;exact Gy
 | false=>
   have HQ:=Z (show Ax l st=([],(st.1,true))by unfold Ax;rw[hn];rfl);obtain⟨i,f⟩:=st;have hc:f=true∨(f=false∧(Af l i).kind≠0)∨(f=false∧(Af l i).kind=0∧10<(Af l i).text.length):=by
    cases f with
    |true=>exact .inl rfl
    | false=>
      by_cases hk:(Af l i).kind=0
      ·right;right;refine⟨rfl,hk,?_⟩;simp[Hp,hk]at hn;omega
      ·exact .inr (.inl ⟨rfl,hk⟩)
   clear hn;simp only at HT HQ;generalize Af l i=t at*;rcases hc with rfl| ⟨rfl,hk⟩| ⟨rfl,hk,hl⟩
   ·exact Yn
   ·have hk':(t.kind==0)=false:=by simpa using hk
    have hk2:(t.kind !=0)=true:=BE;clear hk;exact Yn
   ·have hl1:decide ((10:Int)<t.text.length)=true:=by simp;omega
    have HK:=Z hk;clear hk;go_enter func73,ntmps73;have GA{P}(h:P:=by rw[AG,HK.out];have h1:=h.gbN g1;have c2:=h1.c2;simp only at c2;have HA:=Z (h1.alloc (.cells #[.int .i64 0,.int .i64 t.pos,str t.text] 89 (0,0)));have HG:=Z (Ar (AY g1) (.cells #[.int .i64 0,.int .i64 t.pos,str t.text] 89 (0,0)):World.grownBy w _ (some b));exact aH):=Aa h;exact Gy
theorem oQ{L:List Bs}(h:∀k,(hk:k<L.length)→A2 l L[k] st=false):A9 l L st=[]:=by
 unfold A9;split
 ·rfl
 ·rename_i hs;have:L.find? (Ak (Af l st.1))=none:=by
   rw[List.find?_eq_none];intro x hx;obtain⟨k,hk,rfl⟩:=List.mem_iff_getElem.1 hx;have:=h k hk;simpa[A2,hs]using this
  rw[this];rfl
theorem oS{L:List Bs}{k:Nat}(hk:k<L.length)(h:∀j,(hj:j<k)→A2 l (L[j]' Ab) st=false)(hx:A2 l L[k] st=true):A9 l L st=L[k]:=by
 simp only[A2,Bool.and_eq_true,Bool.not_eq_true']at hx;unfold A9;rw[if_neg (by rw[hx.1];simp)];have:L.find? (Ak (Af l st.1))=some L[k]:=by
  rw[List.find?_eq_some_iff_getElem];exact⟨hx.2,k,hk,rfl,fun j hj=>by have:=h j hj;simpa[A2,hx.1]using this⟩
 rw[this];rfl
theorem xD(h:Rr w b tv l st){L:List Bs}{la:Option Addr}{lc:Nat}{ok:Nat→Prop}(hL:Cells w (.slice la L.length lc) 1 L.length (L.map str) ok)(hok:∀k,ok k→k≠b)(hne:∀s∈L,s≠[])(hl:L.length≤100):
 Calls Tryz.prog 126 #[.pointer (some ⟨b,0,none⟩),.slice la L.length lc] w (AM b tv l w VStr (AJ l L st)):=by
 obtain⟨_,_,e,_,_,_,hc⟩:=hL;cases e;have HC:=Z hc;clear hc;go_enter func126,ntmps126;go_wp2_with fail;go_loopg [5] L.length (fun g v5 wr=>∃k:Nat,k+g=L.length∧v5= .int .i64 k∧Rr wr b tv l st∧w.grownBy wr (some b)∧∀j,(hj:j<k)→(hjl:j<L.length)→A2 l L[j] st=false)
 case atStart=>exact⟨0,by omega,rfl,h,Aj _ _,fun j hj=>by omega⟩
 case round=>
  obtain⟨k,hk,rfl,hr,gr,hno⟩:=hrel;cases gk with
  | zero=>
    have hkl:k=L.length:=Ab;have hj1:decide (k<L.length)=false:=Ag;have HQ:=Z (oQ (l:=l) (st:=st) (fun j hj=>hno j Ab hj));clear hno;go_wp2;go_ret;refine⟨gr,_,rfl,by simp only[AJ,HQ.out];rfl,?_⟩;simp only[AJ,HQ.out,GC];exact hr
  | succ gk=>
    have hkl:k<L.length:=Ab;have hj1:decide (k<L.length)=true:=by simpa using hkl
    obtain⟨g,o,rfl,ho,hc⟩:=HC.out k (str L[k]) (by simp[hkl]);have hcr:=B6 gr hc (by have:=hok g ho;simp;omega);have HT:=Z (B9 hr L[k]);have HN:=Z hno;have HM:=Z (hne L[k] (List.getElem_mem hkl));clear hno;have hlt:=gr.size;have hg:=hok g ho;have hgl:=World.block_lt_of_cell? w _ hc;simp only at hgl;cases hh:A2 l L[k] st with
    | true=>
      have HQ:=Z (oS hkl (fun j hj=>HN.out j hj Ab) hh);rw[hh]at HT;have HT2:=Z (show Aq l L[k] st=(st.1+1,st.2)by unfold Aq;rw[if_pos hh]);clear hh;generalize L[k]=x at*;have Hc{P}(h:P:=by have hc1:=B6 g1 hcr Ag;have HR:=Z (Ac g1 h1);clear g1 h1;go_wp2;go_ret;refine⟨Ah gr HR.out.1,_,rfl,by simp only[AJ,HQ.out];rfl,?_⟩;simp only[AJ,HQ.out,GG HM.out];rw[←HT2.out];exact HR.out.2):=Aa h;exact GY
    | false=>
      have HN2:=Z (show ∀j,(hj:j<k+1)→(hjl:j<L.length)→A2 l L[j] st=false from fun j hj hjl=>by
       by_cases e:j=k
       ·subst e;exact hh
       ·exact HN.out j Ab hjl)
      rw[hh]at HT;have HT2:=Z (show Aq l L[k] st=st by unfold Aq;rw[if_neg (by rw[hh];simp)]);clear hh;generalize L[k]=x at*;have Hc{P}(h:P:=by
      have HR:=Z (Ac g1 h1);clear g1 h1;go_wp2;go_roundg gk
      case measure=>omega
      case rel=>exact⟨k+1,by omega,by go_num,HT2.out ▸ HR.out.2,Ah gr HR.out.1,HN2.out⟩):=Aa h;exact GY
end
abbrev VEx(w:World):World→Value→Ex→Prop:=fun w' v x=>VE (Ap w.heap.size) w' v x
abbrev VFo(w:World):World→Value→Fo→Prop:=fun w' v f=>VL w.heap.size w' v f
abbrev VNs(w:World):World→Value→List Bs→Prop:=fun w' v p=>VS w.heap.size w' v p
def CR(f:FuncId)(b:Nat)(tv:Value)(l:List Tok)(g:FR Ex):Prop:=
 ∀w st r,Rr w b tv l st→g st=some r→Calls Tryz.prog f #[.pointer (some ⟨b,0,none⟩)] w (AM b tv l w (VEx w) r)
section
variable {w:World}{b:Nat}{tv:Value}{l:List Tok}{st:RS}
def zV(l:List Tok)(b:Nat)(tv:Value)(n:Nat)(w:World)(r:List Bs×RS)(m:Nat)(v:Value)(wr:World):Prop:=
 ∃acc st,wr.ownsRow w.heap.size 9 1 v acc.length (acc.map str)∧Rr wr b tv l st∧Hi l m acc st=some r∧w.grownBy wr (some b)∧acc.length+m≤n+1
theorem Ur(h:Rr w b tv l st)(n:Nat)(hn:n≤100000){r:List Bs×RS}(ho:IP l n st=some r):
 Calls Tryz.prog 74 #[.pointer (some ⟨b,0,none⟩)] w (AM b tv l w (VNs w) r):=by
 have hb:=h.lt;have H:=Z ho;clear ho;go_enter func74,ntmps74;go_wp2_with fail;refine(BY h).mono ?_;rintro e w1 ⟨g1,v,rfl,rfl,h1⟩;generalize hx:(Ax l st).1=x at*;have HR:=Z (show Hi l n [x] (Ax l st).2=some r by rw[←H.out,IP,hx]);clear hx;have iM{P}(h:P:=by
 clear H;go_wp2_with fail;go_loopg [3] n (fun m v wr=>zV l b tv n w r m v wr)
 case atStart=>exact⟨[x],_,ho1,h1',HR.out,g1',by simp;omega⟩
 case round=>
  obtain⟨acc,st',hown,hp,hloop,gr,hlen⟩:=hrel;clear ho1 h1' g1' h1 g1 HR;cases gk with
  |zero=>cases hloop
  |succ m=>
  have HT:=Z (B9 hp [44]);have HO:=Z hown;rw[Hi]at hloop;cases hs:A2 l [44] st' with
  | false=>
    rw[hs]at HT hloop;have HQ:=Z (show some (acc,Aq l [44] st')=some r from hloop);clear hloop hown hs;have Dk{P}(h:P:=by have HE:=Z (Ac g2 h2);clear g2 h2;go_wp2;go_ret;have e1:=HQ.out;cases e1;have hpb:=hp.lt;exact⟨Ah gr HE.out.1,_,rfl,VS.of_owns (E7 HO.out HE.out.1 If),HE.out.2⟩):=Aa h;exact Dh
  | true=>
    rw[hs]at HT hloop;have HQ:=Z (show Hi l m (acc++[(Ax l (Aq l [44] st')).1]) (Ax l (Aq l [44] st')).2=some r from hloop);clear hloop hown hs;have Dk{P}(h:P:=by
    have hp2:=h2.lt;go_wp2_with fail;refine(BY h2).mono ?_;rintro e w3 ⟨g3,v,rfl,rfl,h3⟩;generalize(Ax l (Aq l [44] st')).1=y at*;have g23:=Ah g2 g3;have hown3:=E7 HO.out g23 If;have hown4:=hown3.alloc (.cells [str y].toArray 9 (0,0));have iP{P}(h:P:=by
    clear hown3;have e8{P}(h:P:=by
    go_roundg m
    case measure=>omega
    case rel=>
     have dR{P}(h:P:=by refine⟨acc++[y],_,by simpa using HO5.out,hA.gb g5 hob,HQ.out,?_,by simp;omega⟩;exact Z8):=Aa h;exact TL):=Aa h
    exact Y4):=Aa h;exact ZW):=Aa h;exact Dh):=Aa h
 exact ZT
def Aag(l:List Tok)(E:FR Ex)(b:Nat)(tv:Value)(n:Nat)(w:World)(r:Fo×RS)(m:Nat)(v:Value)(wr:World):Prop:=
 ∃acc st,OwnF wr w.heap.size v acc∧Rr wr b tv l st∧IS l E m acc st=some r∧w.grownBy wr (some b)∧acc.len+m≤n+1
theorem Mr{E:FR Ex}(hE:CR 28 b tv l E)(h:Rr w b tv l st)(n:Nat)(hn:n≤100000){r:Fo×RS}(ho:FG l E n st=some r):
 Calls Tryz.prog 137 #[.pointer (some ⟨b,0,none⟩)] w (AM b tv l w (VFo w) r):=by
 have hb:=h.lt;unfold FG at ho;have L7{P}(h:P:=by
 have H:=Z (Ac hE ho);have HX:=Z (hE _ _ _ h hx);clear hE ho hx;go_enter func137,ntmps137;have Ix{P}(h:P:=by
 have eL{P}(h:P:=by
 clear ho1 rp rl HX;go_wp2_with fail;go_loopg [3] n (fun m v wr=>Aag l E b tv n w r m v wr)
 case atStart=>exact⟨.one x,_,HO.out,h1',H.out.2,g1',by simp[Fo.one,Ex.fo,Fo.len];omega⟩
 case round=>
  obtain⟨acc,st',hown,hp,hloop,gr,hlen⟩:=hrel;clear HO h1' g1' h1 g1;cases gk with
  |zero=>cases hloop
  |succ m=>
  have HT:=Z (B9 hp [44]);have HO:=Z hown;rw[IS]at hloop;cases hs:A2 l [44] st' with
  | false=>
    rw[hs]at HT hloop;have HQ:=Z (show some (acc,Aq l [44] st')=some r from hloop);clear hloop hown hs;have Dk{P}(h:P:=by have HE:=Z (Ac g2 h2);clear g2 h2;go_wp2;go_ret;have e1:=HQ.out;cases e1;have hpb:=hp.lt;exact⟨Ah gr HE.out.1,_,rfl,VL.of_owns (HO.out.gb HE.out.1 If),HE.out.2⟩):=Aa h;exact Dh
  | true=>
    rw[hs]at HT hloop;have hq:(E (Aq l [44] st')).bind (fun r=>IS l E m (acc.snoc r.1) r.2)=some r:=hloop;obtain⟨⟨y,st2⟩,hy,hq⟩:=Option.bind_eq_some_iff.1 hq;simp only at hq;have HQ:=Z hq;have HY:=Z hy;clear hloop hown hs hq hy;have Dk{P}(h:P:=by
    have hp2:=h2.lt;go_wp2_with fail;refine(H.out.1 _ _ _ h2 HY.out).mono ?_;rintro e w3 ⟨g3,v',rfl,⟨ya,yc,ma,mc,rfl,ry,rm⟩,h3⟩;simp only at ry rm h3 ⊢;have dH{P}(h:P:=by
    have eI{P}(h:P:=by
    have HYY:=Z (Ac (hrep3.gb gB Ae) (Ac (ry.gb gB Ae) (rm.gb gB Ae)));have HX:=Z (Ac hi (Ac hz0 (Ac hz1 (Ac hz2 (Ac hnc (Ac hml (Ac hown4 hol)))))));clear hown3 hrep3 ry rm hi hz0 hz1 hz2 hnc hml hown4 hol;have fC{P}(h:P:=by
    go_roundg m
    case measure=>omega
    case rel=>
     have hol:=HX.out.2.2.2.2.2.2.2;have g5':World.grownBy (w3.alloc _) w5 u3.ownBlock:=g5;refine⟨acc.snoc y,st2,?_,hA.gb g5' (fun k hk=>by have:=(hol k hk).1;omega),HQ.out,?_,by rw[Fo.len_snoc];omega⟩
     ·exact OwnF.snoc (v:=u3) (okx:=Ap w2.heap.size) HYY.out.1 rfl HYY.out.2.1 HYY.out.2.2 Xu HO5.out.1 g5' HO5.out.2
     ·exact Tp):=Aa h
    exact YA):=Aa h;exact Yg):=Aa h;exact T3):=Aa h;exact Dh):=Aa h
 exact Yj):=Aa h;exact Io):=Aa h;exact Ku
theorem UP{E:FR Ex}(hE:CR 28 b tv l E)(h:Rr w b tv l st)(n:Nat)(hn:n≤100000)(s:Bs){r:Fo×RS}(ho:GJ l E n s st=some r):
 Calls Tryz.prog 140 #[.pointer (some ⟨b,0,none⟩),str s] w (AM b tv l w (VFo w) r):=by
 have hb:=h.lt;have HT:=Z (B9 h s);unfold GJ at ho;cases hs:A2 l s st with
 | true=>
   rw[hs]at HT ho;have HQ:=Z (show some (Fo.nil,Aq l s st)=some r from ho);clear ho hs hE;go_enter func140,ntmps140;have Hc{P}(h:P:=by have HE:=Z (Ac g1 h1);clear g1 h1;go_wp2;go_ret;have e1:=HQ.out;cases e1;exact⟨HE.out.1,_,rfl,⟨none,0,rfl,RepL.nil _ _⟩,HE.out.2⟩):=Aa h;exact GY
 | false=>
   rw[hs]at HT ho;have hq:(FG l E n (Aq l s st)).bind (fun r=>some (r.1,AZ l s r.2))=some r:=ho;obtain⟨⟨f,st1⟩,hf,hq⟩:=Option.bind_eq_some_iff.1 hq;simp only at hq;cases hq;have HF:=Z (Ac hE hf);clear ho hs hE hf;go_enter func140,ntmps140;have Hc{P}(h:P:=by have hb1:=h1.lt;go_wp2_with fail;refine(Mr HF.out.1 h1 n hn HF.out.2).mono ?_;rintro e w2 ⟨g2,v,rfl,⟨la,lc,rfl,rl⟩,h2⟩;simp only at rl h2 ⊢;have HL:=Z rl;clear rl;go_wp2_with fail;refine(E8 h2 s).mono ?_;rintro e w3 ⟨g3,v,rfl,rfl,h3⟩;have HE:=Z (Ac g3 h3);have hs1:=g1.size;clear g3 h3;go_wp2;go_ret;exact⟨Ah (Ah g1 g2) HE.out.1,_,rfl,⟨_,_,rfl,(HL.out.gb HE.out.1 XJ).mono (by intro k hk _;have:w1.heap.size≤k:=hk;show w.heap.size≤k;omega)⟩,HE.out.2⟩):=Aa h;exact GY
end
end Go.Proofs.YtmcajbhljbbglaaGreatDoor
