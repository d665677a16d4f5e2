/-
  The lexer: short, end, continues.
-/
import Derived.Test.YtmcajbhljbbglaaGreatDoorSpF
import Derived.Test.YtmcajbhljbbglaaGreatDoorSp07
import Derived.Test.YtmcajbhljbbglaaGreatDoorSp02
set_option linter.all false
set_option maxRecDepth 100000
set_option maxHeartbeats 8000000
namespace Go.Proofs.YtmcajbhljbbglaaGreatDoor
open Tryz
open Go.RowKit
abbrev tok0:Value:= .agg #[.int .i64 0,.int .i64 0,str []]
def sH(w:World)(b:Nat)(s:Bs)(i:Nat)(line begun:Bool)(bad:Int)(t:Tok)(most:Nat)(e:Ending)(w':World):Prop:=
 w.grownBy w' (some b)∧if most<t.text.length then e= .returned (.bool false)∧Sc w' b s i line begun t.pos else e= .returned (.bool true)∧Sc w' b s i line begun bad
theorem Wc{w:World}{b:Nat}{s:Bs}{i:Nat}{line begun:Bool}{bad:Int}(h:Sc w b s i line begun bad)(t:Tok)(most:Nat):
 Calls Tryz.prog 160 #[.pointer (some ⟨b,0,none⟩),AG t,.int .i64 most] w (sH w b s i line begun bad t most):=by
 have hb:=h.lt;have f1:=h.fr 260;have c260:=h.c260;by_cases hl:most<t.text.length
 ·have HP:=Z hl;have hl1:decide (most<t.text.length)=true:=by simpa using hl
  clear hl;go_enter func160,ntmps160;go_wp2;go_ret;exact⟨gw,by rw[if_pos HP.out];exact⟨rfl,(h.setBad _).alloc _⟩⟩
 ·have HP:=Z hl;have hl1:decide (most<t.text.length)=false:=by simpa using hl
  clear hl;go_enter func160,ntmps160;go_wp2;go_ret;exact⟨gw,by rw[if_neg HP.out];exact⟨rfl,h.alloc _⟩⟩
def zU(w:World)(b:Nat)(s:Bs)(i:Nat)(line:Bool)(bad:Int)(e:Ending)(w':World):Prop:=
 w.grownBy w' (some b)∧Sc w' b s (if i<s.length then i+1 else i) false false bad∧
  e= .returned (.tuple #[if line then AG ⟨5,i,[]⟩else tok0,.bool (line||!decide (i<s.length))])
theorem Vg{w:World}{b:Nat}{s:Bs}{i:Nat}{line:Bool}{bad:Int}(h:Sc w b s i line line bad):
 Calls Tryz.prog 110 #[.pointer (some ⟨b,0,none⟩)] w (zU w b s i line bad):=by
 have hb:=h.lt;have hf:=h.few;have c0:=h.c0;have c1:=h.c1;have c258:=h.c258;have c259:=h.c259;have f1:=h.fr 1;have f258:=h.fr 258;have f259:=h.fr 259;by_cases hl:i<s.length
 ·have HP:=Z hl;have hl1:((i:Int)==(s.length:Int))=false:=Ag;cases line with
  | true=>
    have dQ{P}(h:P:=by rw[if_pos HP.out];exact De):=Aa h;exact TJ
  | false=>
    go_enter func110,ntmps110;go_wp2;go_quiet(fail);go_wp2;refine bodyPost_ret (v:= .tuple #[tok0,.bool false]) Qu rfl ⟨gw,?_,by simp[HP.out]⟩;rw[if_pos HP.out];exact De
 ·have HP:=Z hl;have hl1:((i:Int)==(s.length:Int))=true:=by have:=h.le;simp;omega
  cases line with
  | true=>
    have dQ{P}(h:P:=by rw[if_neg HP.out];exact De):=Aa h;exact TJ
  | false=>
    go_enter func110,ntmps110;go_wp2;go_quiet(fail);go_wp2;refine bodyPost_ret (v:= .tuple #[tok0,.bool true]) Qu rfl ⟨gw,?_,by simp[HP.out]⟩;rw[if_neg HP.out];exact De
def Mt(w:World)(b:Nat)(s:Bs)(i:Nat)(line begun:Bool)(bad:Int)(e:Ending)(w':World):Prop:=
 w.grownBy w' (some b)∧if BF s (AE s (i+1))then(match Bw s (AE s (i+1))with
  |some k=>e= .returned (.tuple #[.bool true,.bool false])∧∃j,Sc w' b s j line begun k
  |none=>e= .returned (.tuple #[.bool true,.bool true])∧Sc w' b s (BJ s (AE s (i+1))) line begun bad)
  else e= .returned (.tuple #[.bool false,.bool true])∧Sc w' b s i line begun bad
theorem OV(s:Bs)(k:Nat)(p:Bs){r:Bool}(hr:p.isPrefixOf (s.drop k)=r)(w:World):
 Calls Tryz.prog 111 #[.string ((⟨s.toArray⟩:ByteArray).extract k s.length),.string ⟨p.toArray⟩] w fun e w'=>e= .returned (.bool r)∧w=w':=by
 subst hr;refine(strings_HasPrefix _ _ _).mono ?_;rintro e w' ⟨rfl,rfl⟩;rw[P8];exact⟨rfl,rfl⟩
section
variable {w w':World}{b:Nat}{s:Bs}{i k j q:Nat}{line begun:Bool}{bad:Int}
theorem Sf(hk:k=AE s (i+1))(hg:BF s k=true)(hc:Bw s k=none)(hj:BJ s k=j)(g:w.grownBy w' (some b))(hs:Sc w' b s j line begun bad):
 Mt w b s i line begun bad (.returned (.tuple #[.bool true,.bool true])) w':=by
 subst hk hj;refine⟨g,?_⟩;rw[if_pos hg,hc];exact⟨rfl,hs⟩
theorem jR(hk:k=AE s (i+1))(hg:BF s k=true)(hc:Bw s k=some q)(g:w.grownBy w' (some b))(hs:Sc w' b s j line begun q):
 Mt w b s i line begun bad (.returned (.tuple #[.bool true,.bool false])) w':=by
 subst hk;refine⟨g,?_⟩;rw[if_pos hg,hc];exact⟨rfl,j,hs⟩
theorem m8(hk:k=AE s (i+1))(hg:BF s k=false)(g:w.grownBy w' (some b))(hs:Sc w' b s i line begun bad):
 Mt w b s i line begun bad (.returned (.tuple #[.bool false,.bool true])) w':=by
 subst hk;refine⟨g,?_⟩;rw[if_neg (by rw[hg];simp)];exact⟨rfl,hs⟩
end
theorem jT{w:World}{b:Nat}{s:Bs}{i:Nat}{line begun:Bool}{bad:Int}(h:Sc w b s i line begun bad)(hi:i<s.length):
 Calls Tryz.prog 113 #[.pointer (some ⟨b,0,none⟩)] w (Mt w b s i line begun bad):=by
 have c0:=h.c0;have c1:=h.c1;have hf:=h.few;have hb:=h.lt;go_enter func113,ntmps113;go_wp2_with fail;go_loopg [4] (s.length-(i+1)) (fun g v4 wr=>∃k:Nat,k+g=s.length∧v4= .int .i64 k∧Sc wr b s i line begun bad∧AE s k=AE s (i+1)∧w.grownBy wr none)
 case atStart=>exact⟨i+1,by omega,by simp,h,rfl,Aj _ _⟩
 case round=>
  obtain⟨k,hk,rfl,hs,hq,g⟩:=hrel;have HQ:=Z hq;clear hq c0 c1 hb;have hb:=hs.lt;cases hc:(decide (k<s.length)&&cls 3 (bAt s k))with
  | true=>
    simp only[Bool.and_eq_true,decide_eq_true_eq]at hc;cases gk with
    |zero=>omega
    |succ gk=>
    have HC:=Z hc.2;have hkl:=hc.1;clear hc h;go_wp2_with fail;refine(Dn hs k 3 (r:=true) MX).mono ?_;rintro e w1 ⟨rfl,g1⟩;have hs1:=hs.gbN g1;go_wp2;go_roundg gk
    case measure=>omega
    case rel=>exact⟨k+1,by omega,by simp,hs1,by rw[←HQ.out];exact(BK hkl HC.out).symm,A0 g g1⟩
  | false=>
    have HC:=Z hc;clear hc h;have fV{P}(h:P:=by
    have c0:=hs1.c0;have c1:=hs1.c1;have f1:=hs1.fr 1;have hb1:=hs1.lt;by_cases hkl:k<s.length
    ·have hl1:((k:Int)==(s.length:Int))=false:=by simp;omega
     have hg:=fun h=>BI s k h hkl;have hkl2:k≤s.length:=Ab;cases h10:((bAt s k).toNat:Int)==10 with
     | true=>
       have HG:=Z (show BF s k=true by
        have h2:bAt s k=10:=by simp at h10;apply UInt8.toNat_inj.1;simpa using(by omega:(bAt s k).toNat=10)
        simp[BF,h2])
       exact Qv
     | false=>
       cases ha:Cf s k with
       | true=>
         have HG:=Z (show BF s k=true by simp[BF,ha]);have hkI:decide ((k:Int)≤s.length)=true:=Ag;go_wp2_with fail;refine(OV s k [38,38] (r:=true) ha _).mono ?_;rintro e w0 ⟨rfl,rfl⟩;exact Qv
       | false=>
         have HG:=Z (show BF s k=false by
          have h2:bAt s k≠10:=by rintro e;rw[e]at h10;simp at h10
          simp[BF,ha,h2];omega)
         have hkI:decide ((k:Int)≤s.length)=true:=Ag;go_wp2_with fail;refine(OV s k [38,38] (r:=false) ha _).mono ?_;rintro e w0 ⟨rfl,rfl⟩;go_wp2;exact bodyPost_ret (v:= .tuple #[.bool false,.bool true]) MG rfl (m8 HK.out HG.out (AY (A0 g g1)) hs1)
    ·have hl1:((k:Int)==(s.length:Int))=true:=by simp;omega
     have hkl2:k≤s.length:=Ab;have HG:=Z (show BF s k=true by simp[BF];left;omega);exact Qv):=Aa h
    exact Ze
end Go.Proofs.YtmcajbhljbbglaaGreatDoor
