/-
  The lexer: short, end, continues. Plain laws: strings.ToUpper against capitals byte by byte, where what comes out is to be a word of ASCII of the same length. The lexer: the tables that ToUpper reads;
-/
import Derived.Test.YtgjdhajcnechdaaGreatDoorSb11
import Derived.Test.YtgjdhajcnechdaaGreatDoorSb01
import Derived.Shelf.Strings.CaseAny
import Derived.Lib.MapLaws
import Derived.IntWalk
import Derived.Test.YtgjdhajcnechdaaGreatDoorSb08
set_option linter.all false
set_option maxRecDepth 100000
set_option maxHeartbeats 8000000
namespace Go.Proofs.YtgjdhajcnechdaaGreatDoor
open Go.Proofs.Tryz
open Go.RowKit
abbrev tok0:Value:= .agg #[.int .i64 0,.int .i64 0,str []]
def JW(w:World)(b:Nat)(s:Bs)(i:Nat)(line begun:Bool)(bad:Int)(t:Tok)(most:Nat)(e:Ending)(w':World):Prop:=
 w.grownBy w' (some b)∧if most<t.text.length then e= .returned (.bool false)∧Sc w' b s i line begun t.pos else e= .returned (.bool true)∧Sc w' b s i line begun bad
theorem Gb{w:World}{b:Nat}{s:Bs}{i:Nat}{line begun:Bool}{bad:Int}(h:Sc w b s i line begun bad)(t:Tok)(most:Nat):
 Calls Tryz.prog 198 #[.pointer (some ⟨b,0,none⟩),Bg t,.int .i64 most] w (JW w b s i line begun bad t most):=by
 have hb:=h.lt;have f1:=h.fr 260;have c260:=h.c260;by_cases hl:most<t.text.length
 ·have HP:=I hl;have hl1:decide (most<t.text.length)=true:=by simpa using hl
  clear hl;go_enter func198,ntmps198;go_wp2;go_ret;exact⟨(by repeat(first| (with_reducible exact Ac _ _)| (with_reducible assumption)| (with_reducible exact AW (by assumption))| (with_reducible refine Aa ?_ _)| (with_reducible refine Aj ?_)| (with_reducible refine AH ?_ _)| ((with_reducible refine Ax ?_ _ _ ?h2);case h2=>first|exact .inl rfl|exact .inr (Nat.le_refl _)|exact .inr (by simp<;>omega))| (with_reducible refine Ae ?_ (by assumption))| (with_reducible refine O ?_ (by assumption)))),by rw[if_pos HP.out];exact⟨rfl,(h.setBad _).alloc _⟩⟩
 ·have HP:=I hl;have hl1:decide (most<t.text.length)=false:=by simpa using hl
  clear hl;go_enter func198,ntmps198;go_wp2;go_ret;exact⟨(by repeat(first| (with_reducible exact Ac _ _)| (with_reducible assumption)| (with_reducible exact AW (by assumption))| (with_reducible refine Aa ?_ _)| (with_reducible refine Aj ?_)| (with_reducible refine AH ?_ _)| ((with_reducible refine Ax ?_ _ _ ?h2);case h2=>first|exact .inl rfl|exact .inr (Nat.le_refl _)|exact .inr (by simp<;>omega))| (with_reducible refine Ae ?_ (by assumption))| (with_reducible refine O ?_ (by assumption)))),by rw[if_neg HP.out];exact⟨rfl,h.alloc _⟩⟩
def Nk(w:World)(b:Nat)(s:Bs)(i:Nat)(line:Bool)(bad:Int)(e:Ending)(w':World):Prop:=
 w.grownBy w' (some b)∧Sc w' b s (if i<s.length then i+1 else i) false false bad∧
  e= .returned (.tuple #[if line then Bg ⟨5,i,[]⟩else tok0,.bool (line||!decide (i<s.length))])
theorem FI{w:World}{b:Nat}{s:Bs}{i:Nat}{line:Bool}{bad:Int}(h:Sc w b s i line line bad):
 Calls Tryz.prog 153 #[.pointer (some ⟨b,0,none⟩)] w (Nk w b s i line bad):=by
 have hb:=h.lt;have hf:=h.few;have c0:=h.c0;have c1:=h.c1;have c258:=h.c258;have c259:=h.c259;have f1:=h.fr 1;have f258:=h.fr 258;have f259:=h.fr 259;by_cases hl:i<s.length
 ·have HP:=I hl;have hl1:((i:Int)==(s.length:Int))=false:=by simp;omega
  cases line with
  | true=>
    go_enter func153,ntmps153;go_wp2;go_quiet(fail);go_wp2;refine bodyPost_ret (v:= .tuple #[Bg ⟨5,i,[]⟩,.bool true]) (by simp[results,results153,go_sem]) rfl ⟨(by repeat(first| (with_reducible exact Ac _ _)| (with_reducible assumption)| (with_reducible exact AW (by assumption))| (with_reducible refine Aa ?_ _)| (with_reducible refine Aj ?_)| (with_reducible refine AH ?_ _)| ((with_reducible refine Ax ?_ _ _ ?h2);case h2=>first|exact .inl rfl|exact .inr (Nat.le_refl _)|exact .inr (by simp<;>omega))| (with_reducible refine Ae ?_ (by assumption))| (with_reducible refine O ?_ (by assumption)))),?_,by simp⟩;rw[if_pos HP.out];exact(by repeat(first| (with_reducible assumption)| (with_reducible apply Sc.alloc)| (with_reducible apply Sc.drew)| (with_reducible apply Sc.drewN)| (with_reducible apply Sc.setLine)| (with_reducible apply Sc.setBegun)| (with_reducible apply Sc.setBad)| (with_reducible apply Sc.go)| (with_reducible apply Sc.set_other)|omega| (simp<;>omega)))
  | false=>
    go_enter func153,ntmps153;go_wp2;go_quiet(fail);go_wp2;refine bodyPost_ret (v:= .tuple #[tok0,.bool false]) (by simp[results,results153,go_sem]) rfl ⟨(by repeat(first| (with_reducible exact Ac _ _)| (with_reducible assumption)| (with_reducible exact AW (by assumption))| (with_reducible refine Aa ?_ _)| (with_reducible refine Aj ?_)| (with_reducible refine AH ?_ _)| ((with_reducible refine Ax ?_ _ _ ?h2);case h2=>first|exact .inl rfl|exact .inr (Nat.le_refl _)|exact .inr (by simp<;>omega))| (with_reducible refine Ae ?_ (by assumption))| (with_reducible refine O ?_ (by assumption)))),?_,by simp[HP.out]⟩;rw[if_pos HP.out];exact(by repeat(first| (with_reducible assumption)| (with_reducible apply Sc.alloc)| (with_reducible apply Sc.drew)| (with_reducible apply Sc.drewN)| (with_reducible apply Sc.setLine)| (with_reducible apply Sc.setBegun)| (with_reducible apply Sc.setBad)| (with_reducible apply Sc.go)| (with_reducible apply Sc.set_other)|omega| (simp<;>omega)))
 ·have HP:=I hl;have hl1:((i:Int)==(s.length:Int))=true:=by have:=h.le;simp;omega
  cases line with
  | true=>
    go_enter func153,ntmps153;go_wp2;go_quiet(fail);go_wp2;refine bodyPost_ret (v:= .tuple #[Bg ⟨5,i,[]⟩,.bool true]) (by simp[results,results153,go_sem]) rfl ⟨(by repeat(first| (with_reducible exact Ac _ _)| (with_reducible assumption)| (with_reducible exact AW (by assumption))| (with_reducible refine Aa ?_ _)| (with_reducible refine Aj ?_)| (with_reducible refine AH ?_ _)| ((with_reducible refine Ax ?_ _ _ ?h2);case h2=>first|exact .inl rfl|exact .inr (Nat.le_refl _)|exact .inr (by simp<;>omega))| (with_reducible refine Ae ?_ (by assumption))| (with_reducible refine O ?_ (by assumption)))),?_,by simp⟩;rw[if_neg HP.out];exact(by repeat(first| (with_reducible assumption)| (with_reducible apply Sc.alloc)| (with_reducible apply Sc.drew)| (with_reducible apply Sc.drewN)| (with_reducible apply Sc.setLine)| (with_reducible apply Sc.setBegun)| (with_reducible apply Sc.setBad)| (with_reducible apply Sc.go)| (with_reducible apply Sc.set_other)|omega| (simp<;>omega)))
  | false=>
    go_enter func153,ntmps153;go_wp2;go_quiet(fail);go_wp2;refine bodyPost_ret (v:= .tuple #[tok0,.bool true]) (by simp[results,results153,go_sem]) rfl ⟨(by repeat(first| (with_reducible exact Ac _ _)| (with_reducible assumption)| (with_reducible exact AW (by assumption))| (with_reducible refine Aa ?_ _)| (with_reducible refine Aj ?_)| (with_reducible refine AH ?_ _)| ((with_reducible refine Ax ?_ _ _ ?h2);case h2=>first|exact .inl rfl|exact .inr (Nat.le_refl _)|exact .inr (by simp<;>omega))| (with_reducible refine Ae ?_ (by assumption))| (with_reducible refine O ?_ (by assumption)))),?_,by simp[HP.out]⟩;rw[if_neg HP.out];exact(by repeat(first| (with_reducible assumption)| (with_reducible apply Sc.alloc)| (with_reducible apply Sc.drew)| (with_reducible apply Sc.drewN)| (with_reducible apply Sc.setLine)| (with_reducible apply Sc.setBegun)| (with_reducible apply Sc.setBad)| (with_reducible apply Sc.go)| (with_reducible apply Sc.set_other)|omega| (simp<;>omega)))
def DO(w:World)(b:Nat)(s:Bs)(i:Nat)(line begun:Bool)(bad:Int)(e:Ending)(w':World):Prop:=
 w.grownBy w' (some b)∧if BB s (A7 s (i+1))then(match Bc s (A7 s (i+1))with
  |some k=>e= .returned (.tuple #[.bool true,.bool false])∧∃j,Sc w' b s j line begun k
  |none=>e= .returned (.tuple #[.bool true,.bool true])∧Sc w' b s (Bl s (A7 s (i+1))) line begun bad)
  else e= .returned (.tuple #[.bool false,.bool true])∧Sc w' b s i line begun bad
theorem EA(s:Bs)(k:Nat)(p:Bs){r:Bool}(hr:p.isPrefixOf (s.drop k)=r)(w:World):
 Calls Tryz.prog 154 #[.string ((⟨s.toArray⟩:ByteArray).extract k s.length),.string ⟨p.toArray⟩] w fun e w'=>e= .returned (.bool r)∧w=w':=by
 subst hr;refine(strings_HasPrefix _ _ _).mono ?_;rintro e w' ⟨rfl,rfl⟩;rw[DX];exact⟨rfl,rfl⟩
section
variable {w w':World}{b:Nat}{s:Bs}{i k j q:Nat}{line begun:Bool}{bad:Int}
theorem Df(hk:k=A7 s (i+1))(hg:BB s k=true)(hc:Bc s k=none)(hj:Bl s k=j)(g:w.grownBy w' (some b))(hs:Sc w' b s j line begun bad):
 DO w b s i line begun bad (.returned (.tuple #[.bool true,.bool true])) w':=by
 subst hk hj;refine⟨g,?_⟩;rw[if_pos hg,hc];exact⟨rfl,hs⟩
theorem Ew(hk:k=A7 s (i+1))(hg:BB s k=true)(hc:Bc s k=some q)(g:w.grownBy w' (some b))(hs:Sc w' b s j line begun q):
 DO w b s i line begun bad (.returned (.tuple #[.bool true,.bool false])) w':=by
 subst hk;refine⟨g,?_⟩;rw[if_pos hg,hc];exact⟨rfl,j,hs⟩
theorem Jb(hk:k=A7 s (i+1))(hg:BB s k=false)(g:w.grownBy w' (some b))(hs:Sc w' b s i line begun bad):
 DO w b s i line begun bad (.returned (.tuple #[.bool false,.bool true])) w':=by
 subst hk;refine⟨g,?_⟩;rw[if_neg (by rw[hg];simp)];exact⟨rfl,hs⟩
end
theorem Fe{w:World}{b:Nat}{s:Bs}{i:Nat}{line begun:Bool}{bad:Int}(h:Sc w b s i line begun bad)(hi:i<s.length):
 Calls Tryz.prog 156 #[.pointer (some ⟨b,0,none⟩)] w (DO w b s i line begun bad):=by
 have c0:=h.c0;have c1:=h.c1;have hf:=h.few;have hb:=h.lt;go_enter func156,ntmps156;go_wp2_with fail;go_loopg [4] (s.length-(i+1)) (fun g v4 wr=>∃k:Nat,k+g=s.length∧v4= .int .i64 k∧Sc wr b s i line begun bad∧A7 s k=A7 s (i+1)∧w.grownBy wr none)
 case atStart=>exact⟨i+1,by omega,by simp,h,rfl,Ac _ _⟩
 case round=>
  obtain⟨k,hk,rfl,hs,hq,g⟩:=hrel;have HQ:=I hq;clear hq c0 c1 hb;have hb:=hs.lt;cases hc:(decide (k<s.length)&&cls 3 (bAt s k))with
  | true=>
    simp only[Bool.and_eq_true,decide_eq_true_eq]at hc;cases gk with
    |zero=>omega
    |succ gk=>
    have HC:=I hc.2;have hkl:=hc.1;clear hc h;go_wp2_with fail;refine(B3 hs k 3 (r:=true) (by simp[hkl,HC.out])).mono ?_;rintro e w1 ⟨rfl,g1⟩;have hs1:=hs.gbN g1;go_wp2;go_roundg gk
    case measure=>omega
    case rel=>exact⟨k+1,by omega,by simp,hs1,by rw[←HQ.out];exact(B4 hkl HC.out).symm,Ae g g1⟩
  | false=>
    have HC:=I hc;clear hc h;go_wp2_with fail;refine(B3 hs k 3 (r:=false) HC.out).mono ?_;rintro e w1 ⟨rfl,g1⟩;have hs1:=hs.gbN g1;have hk2:A7 s k=k:=by
     have h2:=HC.out;by_cases hkl:k<s.length
     ·exact Cd hkl (by simpa[hkl]using h2)
     ·exact Cr (by omega)
    have HK:=I (hk2.symm.trans HQ.out);clear hk2;have c0:=hs1.c0;have c1:=hs1.c1;have f1:=hs1.fr 1;have hb1:=hs1.lt;by_cases hkl:k<s.length
    ·have hl1:((k:Int)==(s.length:Int))=false:=by simp;omega
     have hg:=fun h=>Dj s k h hkl;have hkl2:k≤s.length:=by omega
     cases h10:((bAt s k).toNat:Int)==10 with
     | true=>
       have HG:=I (show BB s k=true by
        have h2:bAt s k=10:=by simp at h10;apply UInt8.toNat_inj.1;simpa using(by omega:(bAt s k).toNat=10)
        simp[BB,h2])
       have hs2:=hs1.go (k:Int) k rfl hkl2;go_wp2_with fail;refine(De hs2).mono ?_;rintro e w2 ⟨g2,h2⟩;have g12:w1.grownBy w2 (some b):=O (Ax (Ac _ _) _ _ (.inl rfl)) g2;cases hcm:Bc s k with
       | some j=>
         have HM:=I hcm;rw[hcm]at h2;clear hcm;obtain⟨rfl,j',hs3⟩:=h2;go_wp2;exact bodyPost_ret (v:= .tuple #[.bool true,.bool false]) (by simp[results,results156,go_sem]) rfl (Ew HK.out HG.out HM.out (O (AW (Ae g g1)) g12) hs3)
       | none=>
         have HM:=I hcm;rw[hcm]at h2;clear hcm;obtain⟨rfl,hs3⟩:=h2;have d0:=hs3.c0;have d1:=hs3.c1;have e1:=hs3.fr 1;have hb3:=hs3.lt;by_cases hle:Ah s k<s.length
         ·have hl3:decide (Ah s k<s.length)=true:=by simpa using hle
          have HN:=I (show Bl s k=Ah s k+1 by unfold Bl;rw[if_pos hle]);generalize Ah s k=q at*;go_wp2;go_quiet(fail);go_wp2;exact bodyPost_ret (v:= .tuple #[.bool true,.bool true]) (by simp[results,results156,go_sem]) rfl (Df (j:=q+1) HK.out HG.out HM.out HN.out (Ax (AH (O (AW (Ae g g1)) g12) _) _ _ (.inl rfl)) (by repeat(first| (with_reducible assumption)| (with_reducible apply Sc.alloc)| (with_reducible apply Sc.drew)| (with_reducible apply Sc.drewN)| (with_reducible apply Sc.setLine)| (with_reducible apply Sc.setBegun)| (with_reducible apply Sc.setBad)| (with_reducible apply Sc.go)| (with_reducible apply Sc.set_other)|omega| (simp<;>omega))))
         ·have hl3:decide (Ah s k<s.length)=false:=by simpa using hle
          have HN:=I (show Bl s k=Ah s k by unfold Bl;rw[if_neg hle]);generalize Ah s k=q at*;go_wp2;go_quiet(fail);go_wp2;exact bodyPost_ret (v:= .tuple #[.bool true,.bool true]) (by simp[results,results156,go_sem]) rfl (Df (j:=q) HK.out HG.out HM.out HN.out (AH (O (AW (Ae g g1)) g12) _) (by repeat(first| (with_reducible assumption)| (with_reducible apply Sc.alloc)| (with_reducible apply Sc.drew)| (with_reducible apply Sc.drewN)| (with_reducible apply Sc.setLine)| (with_reducible apply Sc.setBegun)| (with_reducible apply Sc.setBad)| (with_reducible apply Sc.go)| (with_reducible apply Sc.set_other)|omega| (simp<;>omega))))
     | false=>
       cases ha:B2 s k with
       | true=>
         have HG:=I (show BB s k=true by simp[BB,ha]);have hkI:decide ((k:Int)≤s.length)=true:=by simp;omega
         go_wp2_with fail;refine(EA s k [38,38] (r:=true) ha _).mono ?_;rintro e w0 ⟨rfl,rfl⟩;have hs2:=hs1.go (k:Int) k rfl hkl2;go_wp2_with fail;refine(De hs2).mono ?_;rintro e w2 ⟨g2,h2⟩;have g12:w1.grownBy w2 (some b):=O (Ax (Ac _ _) _ _ (.inl rfl)) g2;cases hcm:Bc s k with
         | some j=>
           have HM:=I hcm;rw[hcm]at h2;clear hcm;obtain⟨rfl,j',hs3⟩:=h2;go_wp2;exact bodyPost_ret (v:= .tuple #[.bool true,.bool false]) (by simp[results,results156,go_sem]) rfl (Ew HK.out HG.out HM.out (O (AW (Ae g g1)) g12) hs3)
         | none=>
           have HM:=I hcm;rw[hcm]at h2;clear hcm;obtain⟨rfl,hs3⟩:=h2;have d0:=hs3.c0;have d1:=hs3.c1;have e1:=hs3.fr 1;have hb3:=hs3.lt;by_cases hle:Ah s k<s.length
           ·have hl3:decide (Ah s k<s.length)=true:=by simpa using hle
            have HN:=I (show Bl s k=Ah s k+1 by unfold Bl;rw[if_pos hle]);generalize Ah s k=q at*;go_wp2;go_quiet(fail);go_wp2;exact bodyPost_ret (v:= .tuple #[.bool true,.bool true]) (by simp[results,results156,go_sem]) rfl (Df (j:=q+1) HK.out HG.out HM.out HN.out (Ax (AH (O (AW (Ae g g1)) g12) _) _ _ (.inl rfl)) (by repeat(first| (with_reducible assumption)| (with_reducible apply Sc.alloc)| (with_reducible apply Sc.drew)| (with_reducible apply Sc.drewN)| (with_reducible apply Sc.setLine)| (with_reducible apply Sc.setBegun)| (with_reducible apply Sc.setBad)| (with_reducible apply Sc.go)| (with_reducible apply Sc.set_other)|omega| (simp<;>omega))))
           ·have hl3:decide (Ah s k<s.length)=false:=by simpa using hle
            have HN:=I (show Bl s k=Ah s k by unfold Bl;rw[if_neg hle]);generalize Ah s k=q at*;go_wp2;go_quiet(fail);go_wp2;exact bodyPost_ret (v:= .tuple #[.bool true,.bool true]) (by simp[results,results156,go_sem]) rfl (Df (j:=q) HK.out HG.out HM.out HN.out (AH (O (AW (Ae g g1)) g12) _) (by repeat(first| (with_reducible assumption)| (with_reducible apply Sc.alloc)| (with_reducible apply Sc.drew)| (with_reducible apply Sc.drewN)| (with_reducible apply Sc.setLine)| (with_reducible apply Sc.setBegun)| (with_reducible apply Sc.setBad)| (with_reducible apply Sc.go)| (with_reducible apply Sc.set_other)|omega| (simp<;>omega))))
       | false=>
         have HG:=I (show BB s k=false by
          have h2:bAt s k≠10:=by rintro e;rw[e]at h10;simp at h10
          simp[BB,ha,h2];omega)
         have hkI:decide ((k:Int)≤s.length)=true:=by simp;omega
         go_wp2_with fail;refine(EA s k [38,38] (r:=false) ha _).mono ?_;rintro e w0 ⟨rfl,rfl⟩;go_wp2;exact bodyPost_ret (v:= .tuple #[.bool false,.bool true]) (by simp[results,results156,go_sem]) rfl (Jb HK.out HG.out (AW (Ae g g1)) hs1)
    ·have hl1:((k:Int)==(s.length:Int))=true:=by simp;omega
     have hkl2:k≤s.length:=by omega
     have HG:=I (show BB s k=true by simp[BB];left;omega);have hs2:=hs1.go (k:Int) k rfl hkl2;go_wp2_with fail;refine(De hs2).mono ?_;rintro e w2 ⟨g2,h2⟩;have g12:w1.grownBy w2 (some b):=O (Ax (Ac _ _) _ _ (.inl rfl)) g2;cases hcm:Bc s k with
     | some j=>
       have HM:=I hcm;rw[hcm]at h2;clear hcm;obtain⟨rfl,j',hs3⟩:=h2;go_wp2;exact bodyPost_ret (v:= .tuple #[.bool true,.bool false]) (by simp[results,results156,go_sem]) rfl (Ew HK.out HG.out HM.out (O (AW (Ae g g1)) g12) hs3)
     | none=>
       have HM:=I hcm;rw[hcm]at h2;clear hcm;obtain⟨rfl,hs3⟩:=h2;have d0:=hs3.c0;have d1:=hs3.c1;have e1:=hs3.fr 1;have hb3:=hs3.lt;by_cases hle:Ah s k<s.length
       ·have hl3:decide (Ah s k<s.length)=true:=by simpa using hle
        have HN:=I (show Bl s k=Ah s k+1 by unfold Bl;rw[if_pos hle]);generalize Ah s k=q at*;go_wp2;go_quiet(fail);go_wp2;exact bodyPost_ret (v:= .tuple #[.bool true,.bool true]) (by simp[results,results156,go_sem]) rfl (Df (j:=q+1) HK.out HG.out HM.out HN.out (Ax (AH (O (AW (Ae g g1)) g12) _) _ _ (.inl rfl)) (by repeat(first| (with_reducible assumption)| (with_reducible apply Sc.alloc)| (with_reducible apply Sc.drew)| (with_reducible apply Sc.drewN)| (with_reducible apply Sc.setLine)| (with_reducible apply Sc.setBegun)| (with_reducible apply Sc.setBad)| (with_reducible apply Sc.go)| (with_reducible apply Sc.set_other)|omega| (simp<;>omega))))
       ·have hl3:decide (Ah s k<s.length)=false:=by simpa using hle
        have HN:=I (show Bl s k=Ah s k by unfold Bl;rw[if_neg hle]);generalize Ah s k=q at*;go_wp2;go_quiet(fail);go_wp2;exact bodyPost_ret (v:= .tuple #[.bool true,.bool true]) (by simp[results,results156,go_sem]) rfl (Df (j:=q) HK.out HG.out HM.out HN.out (AH (O (AW (Ae g g1)) g12) _) (by repeat(first| (with_reducible assumption)| (with_reducible apply Sc.alloc)| (with_reducible apply Sc.drew)| (with_reducible apply Sc.drewN)| (with_reducible apply Sc.setLine)| (with_reducible apply Sc.setBegun)| (with_reducible apply Sc.setBad)| (with_reducible apply Sc.go)| (with_reducible apply Sc.set_other)|omega| (simp<;>omega))))
open Go.Lib
theorem Kd(x:Int)(h:∀b∈encodeRune x,b.toNat<128):(0≤x∧x≤127)∧encodeRune x=[x.toNat.toUInt8]:=by
 have hz:∀y∈encodeRuneZ x,y<128:=by
  intro y hy;have hb:=encodeRuneZ_byte x y hy;have:=h y.toNat.toUInt8 (List.mem_map.2 ⟨y,hy,rfl⟩);simp[UInt8.toNat_ofNat']at this;omega
 by_cases h0:0≤x∧x≤127
 ·exact⟨h0,by simp[encodeRune,encodeRuneZ_one h0.1 h0.2]⟩
 ·exfalso;by_cases h1:128≤x∧x≤2047
  ·have:=hz (192+x/64) (by rw[encodeRuneZ_two h1.1 h1.2];simp);omega
  ·by_cases h2:(2048≤x∧x<55296)∨(57343<x∧x≤65535)
   ·have:=hz (224+x/4096) (by rw[encodeRuneZ_three h2];simp);omega
   ·by_cases h3:65536≤x∧x≤1114111
    ·have:=hz (240+x/262144) (by rw[encodeRuneZ_four h3.1 h3.2];simp);omega
    ·have:=hz 239 (by rw[encodeRuneZ_bad (by omega)];simp);omega
theorem Nw:toUpperU 65533=65533:=by decide+kernel
theorem Jr{l:List UInt8}(hne:l≠[])(h1:(decodeL l).2=1):(decodeL l).1=65533∨∀b∈l.take 1,b.toNat<128:=by
 by_cases hv:(decodeL l).1=65533
 ·exact .inl hv
 ·refine .inr ?_;have he:=encode_decode l hne (fun h=>hv h.1);rw[h1]at he;by_cases h0:((decodeL l).1:Int)≤127
  ·rw[←he];intro b hb;rw[encodeRune,encodeRuneZ_one (by omega) h0]at hb;simp at hb;subst hb;simp[UInt8.toNat_ofNat'];omega
  ·exfalso;have hlen:(encodeRune ((decodeL l).1:Int)).length≤1:=by rw[he];simp;omega
   generalize((decodeL l).1:Int)=x at*;unfold encodeRune at hlen;rw[List.length_map]at hlen;by_cases h1:128≤x∧x≤2047
   ·rw[encodeRuneZ_two h1.1 h1.2]at hlen;simp at hlen
   ·by_cases h2:(2048≤x∧x<55296)∨(57343<x∧x≤65535)
    ·rw[encodeRuneZ_three h2]at hlen;simp at hlen
    ·by_cases h3:65536≤x∧x≤1114111
     ·rw[encodeRuneZ_four h3.1 h3.2]at hlen;simp at hlen
     ·rw[encodeRuneZ_bad (by omega)]at hlen;simp at hlen
theorem Js(l:List UInt8):1≤(decodeL l).2:=by
 unfold decodeL Utf8.decode;simp only[];repeat' split
 all_goals simp
theorem KV:∀(n:Nat)(l:List UInt8),l.length≤n→(∀b∈toUpperD l,b.toNat<128)→(toUpperD l).length≤l.length∧((toUpperD l).length=l.length→∀b∈l,b.toNat<128):=by
 intro n;induction n with
 | zero=>
   intro l hl _;have:l=[]:=List.eq_nil_of_length_eq_zero (by omega);subst this;exact⟨Nat.le_refl _,by simp⟩
 | succ n ih=>
   intro l hl h;by_cases hne:l=[]
   ·subst hne;exact⟨Nat.le_refl _,by simp⟩
   ·have hp:=Js l;have hk:=decodeL_le l hne;have hlen:0<l.length:=List.length_pos_iff.2 hne;unfold toUpperD at h ⊢;rw[mapD_step _ _ hne]at h ⊢;have ih':=ih (l.drop (decodeL l).2) (by simp;omega);unfold toUpperD at ih';have h2:=ih' (fun b hb=>h b (List.mem_append.2 (.inr hb)));rw[List.length_drop]at h2;by_cases h0:0≤toUpperU (decodeL l).1
    ·rw[if_pos h0]at h ⊢;obtain⟨hx,he⟩:=Kd _ (fun b hb=>h b (List.mem_append.2 (.inl hb)));rw[he];simp only[List.length_append,List.length_cons,List.length_nil];refine⟨by omega,fun e=>?_⟩;have hk1:(decodeL l).2=1:=by omega
     rcases Jr hne hk1 with h3|h3
     ·rw[h3]at hx;have:=Nw;simp at hx;omega
     ·intro b hb;rw[hk1]at h2;rw[←List.take_append_drop 1 l]at hb;rcases List.mem_append.1 hb with hb|hb
      ·exact h3 b hb
      ·exact h2.2 (by rw[hk1]at e;omega) b hb
    ·rw[if_neg h0];simp only[List.nil_append];exact⟨by omega,fun e=>by omega⟩
theorem IP(b:UInt8)(h:128≤b.toNat):upperB b=b:=by
 unfold upperB isLowerB;split
 ·rename_i h1;simp[UInt8.le_iff_toNat_le]at h1;omega
 ·rfl
theorem K9(x w:List UInt8)(hl:x.length=w.length)(hw:∀b∈w,b.toNat<128):(toUpperD x==w)=(toUpperA x==w):=by
 by_cases ha:∀b∈x,b.toNat<128
 ·rw[toUpperD_ascii x ha]
 ·have h1 : toUpperA x ≠ w := by
   rintro rfl;apply ha;intro b hb;by_cases hh:b.toNat<128
   ·exact hh
   ·exact absurd (hw (upperB b) (List.mem_map.2 ⟨b,hb,rfl⟩)) (by rw[IP b (by omega)];exact hh)
  have h2:toUpperD x≠w:=by
   intro e;apply ha;exact(KV x.length x (Nat.le_refl _) (by rw[e];exact hw)).2 (by rw[e,hl])
  rw[beq_eq_false_iff_ne.2 h1,beq_eq_false_iff_ne.2 h2]
structure Tabs(B:Nat)(w:World):Prop where
 utf8:Lib.Utf8Tabs 5 6 w
 low:11≤B
 case:∃R oR cap,R<B∧w.cell? ⟨4,0,none⟩=some (.slice (some ⟨R,oR,none⟩) Lib.caseA.size cap)∧Lib.CaseTab R oR Lib.caseA w
 glob:Glob w
theorem Tabs.gb{B:Nat}{w w1:World}{r:Option Nat}(h:Tabs B w)(g:w.grownBy w1 r)(hr:∀k,r=some k→B≤k):Tabs B w1:=by
 have hlow:=h.low;have hne:∀k,k<B→some k≠r:=fun k hk e=>by have:=hr k e.symm;omega
 refine⟨⟨fun c hc=>Bw g (h.utf8.1 c hc) (hne _ (by omega)),fun i hi=>⟨Bw g (h.utf8.2 i hi).1 (hne _ (by omega)),Bw g (h.utf8.2 i hi).2 (hne _ (by omega))⟩⟩,hlow,?_,h.glob.gb g (hne 0 (by omega))⟩;obtain⟨R,oR,cap,hR,hc,ht⟩:=h.case;refine⟨R,oR,cap,hR,Bw g hc (hne _ (by omega)),fun i hi=>?_⟩;have:=ht i hi;exact⟨Bw g this.1 (hne _ hR),Bw g this.2.1 (hne _ hR),Bw g this.2.2.1 (hne _ hR),Bw g this.2.2.2.1 (hne _ hR),Bw g this.2.2.2.2 (hne _ hR)⟩
theorem Tabs.gbN{B:Nat}{w w1:World}(h:Tabs B w)(g:w.grownBy w1 none):Tabs B w1:=h.gb g (by simp)
theorem Tabs.caseV{B:Nat}{w:World}(h:Tabs B w):Lib.CaseVar 4 Lib.caseA w:=by
 obtain⟨R,oR,cap,_,hc,ht⟩:=h.case;exact⟨R,oR,cap,hc,ht⟩
theorem KW{B:Nat}{w:World}(h:Tabs B w)(s:Bs)(hs:s.length≤1000000):
 Calls Tryz.prog 197 #[.string ⟨s.toArray⟩] w fun e w'=>e= .returned (str (Lib.toUpperD s))∧w.grownBy w' none:=by
 refine(strings_ToUpper_any ⟨s.toArray⟩ w (by simp[ByteArray.size];omega) h.caseV h.utf8).mono ?_;rintro e w' ⟨rfl,hb⟩;exact⟨rfl,gbB hb none⟩
theorem Eu{B:Nat}{w:World}(h:Tabs B w)(s:Bs)(i j:Nat)(hs:s.length≤4000):
 Calls Tryz.prog 197 #[.string ((⟨s.toArray⟩:ByteArray).extract i j)] w fun e w'=>e= .returned (str (Lib.toUpperD (Aq s i j)))∧w.grownBy w' none:=by
 rw[C0];exact KW h _ (by simp;omega)
theorem L2(w:World):Calls Tryz.prog 242 #[] w fun e w'=>e= .returned (.slice (some ⟨w.heap.size,0,none⟩) 38 38)∧w'=w.alloc (.cells (signsL.map str).toArray 9 (0,0)):=by
 go_enter func242,ntmps242;go_wp2;go_ret;exact⟨rfl,rfl⟩
def TokPost(w:World)(b:Nat)(s:Bs)(r:St)(e:Ending)(w':World):Prop:=
 w.grownBy w' (some b)∧match r with
  | .tok t j l=>e= .returned (.tuple #[Bg t,.bool true])∧Sc w' b s j l l (-1)
  | .bad k=>(∃t,e= .returned (.tuple #[Bg t,.bool false]))∧∃j l,Sc w' b s j l l k
  |_=>False
theorem Blk.set3{w:World}{k:Nat}{a0 a1 a2:Value}{t:TypeId}(h:Blk w k [a0,a1,a2] t)(v0 v1 v2:Value):Blk (((w.setCell ⟨k,0,none⟩ v0).setCell ⟨k,1,none⟩ v1).setCell ⟨k,2,none⟩ v2) k [v0,v1,v2] t:=
 (((h.set 0 v0).set 1 v1).set 2 v2).of_eq rfl rfl
theorem Bb{fn:Func}{p q:Tmp}(h:fn.results=#[.cell p 105,.tmp q])(tmps:Array Value){w:World}{k:Nat}{t:Tok}{r:Bool}(hb:Blk w k [.int .i64 t.kind,.int .i64 t.pos,str t.text] 105)
 (hp:tmps.getD p undef= .pointer (some ⟨k,0,none⟩)) (hq:tmps.getD q undef= .bool r):(results fn tmps).run Tryz.prog w= .ok (.tuple #[Bg t,.bool r]) w:=by
 have c0:=hb.cell 0;have c1:=hb.cell 1;have c2:=hb.cell 2;have hp':tmps[p]?.getD undef= .pointer (some ⟨k,0,none⟩):=by simpa using hp
 have hq':tmps[q]?.getD undef= .bool r:=by simpa using hq
 simp only[List.getElem?_cons_zero,List.getElem?_cons_succ]at c0 c1 c2;simp[results,h,hp',hq',go_sem,c0,c1,c2]
def Ed(s:Bs)(i:Nat):St:=match Ck s i with
 |some x=> .tok ⟨4,i,x⟩ (i+x.length) true
 |none=> .bad i
theorem Kv{s:Bs}{i:Nat}(h:∀j,(hj:j<signsL.length)→BR s i signsL[j]=false):Ck s i=none:=by
 rw[Ck,List.find?_eq_none];intro x hx;obtain⟨j,hj,rfl⟩:=List.mem_iff_getElem.1 hx;rw[h j hj];simp
theorem Kw{s:Bs}{i k:Nat}(hk:k<signsL.length)(h:∀j,(hj:j<k)→BR s i (signsL[j]'(by omega))=false)(hx:BR s i signsL[k]=true):Ck s i=some signsL[k]:=by
 rw[Ck,List.find?_eq_some_iff_getElem];exact⟨hx,k,hk,rfl,fun j hj=>by rw[h j hj];simp⟩
theorem Ig{w:Bs}(h:w∈signsL):∀b∈w,b.toNat<128:=by
 have h0:signsL.all (fun w=>w.all fun b=>decide (b.toNat<128))=true:=by decide
 have h1:=List.all_eq_true.1 h0 w h;intro b hb;simpa using List.all_eq_true.1 h1 b hb
theorem Fk{s:Bs}{i k:Nat}(hk:k<signsL.length)(he:i+signsL[k].length≤s.length){r:Bool}(h:BR s i signsL[k]=r):(Lib.toUpperD (Aq s i (i+signsL[k].length))==signsL[k])=r:=by
 have h1:BR s i signsL[k]=(Lib.toUpperA (Aq s i (i+signsL[k].length))==signsL[k]):=by simp[BR,he]
 rw[K9 _ _ (by rw[CC (by omega) he];omega) (Ig (List.getElem_mem hk)),←h1,h]
structure SignRel(w:World)(b:Nat)(s:Bs)(i:Nat)(k:Nat)(wr:World):Prop where
 sc:Sc wr b s i true true (-1)
 tok:Blk wr w.heap.size [.int .i64 4,.int .i64 i,str []] 105
 res:Blk wr (w.heap.size+1) [.int .i64 0,.int .i64 0,str []] 105
 row:Blk wr (w.heap.size+2) (signsL.map str) 9
 no:∀j,(hj:j<k)→(hl:j<signsL.length)→BR s i signsL[j]=false
 g:w.grownBy wr none
 tabs:Tabs b wr
theorem SignRel.go{w:World}{b:Nat}{s:Bs}{i k:Nat}{wr w1:World}(h:SignRel w b s i k wr)(hk:k<signsL.length)(hx:BR s i signsL[k]=false)(g:wr.grownBy w1 none):SignRel w b s i (k+1) w1:=
 ⟨h.sc.gbN g,h.tok.gb g (by simp),h.res.gb g (by simp),h.row.gb g (by simp),fun j hj hl=>by
  by_cases e:j=k
  ·subst e;exact hx
  ·exact h.no j (by omega) hl,Ae h.g g,h.tabs.gbN g⟩
theorem LO{w:World}{b:Nat}{s:Bs}{i:Nat}(h:Sc w b s i true true (-1))(ht:Tabs b w):
 Calls Tryz.prog 201 #[.pointer (some ⟨b,0,none⟩),Bg ⟨0,i,[]⟩] w (TokPost w b s (Ed s i)):=by
 have hb:=h.lt;have hA:SignRel w b s i 0 (((w.alloc (.cells #[.int .i64 4,.int .i64 i,str []] 105 (0,0))).alloc (.cells #[.int .i64 0,.int .i64 0,str []] 105 (0,0))).alloc (.cells (signsL.map str).toArray 9 (0,0))):=by
  have g:w.grownBy (((w.alloc (.cells #[.int .i64 4,.int .i64 i,str []] 105 (0,0))).alloc (.cells #[.int .i64 0,.int .i64 0,str []] 105 (0,0))).alloc (.cells (signsL.map str).toArray 9 (0,0))) none:=Aa (Aa (World.grownBy_alloc w _ none) _) _;exact⟨h.gbN g,((Blk.new w _ _).alloc _).alloc _,((Blk.new _ [.int .i64 0,.int .i64 0,str []] _).of_eq (by simp) rfl).alloc _,(Blk.new _ (signsL.map str) _).of_eq (by simp) rfl,fun j hj=>by omega,g,ht.gbN g⟩
 go_enter func201,ntmps201;go_wp2_with fail;refine(L2 _).mono ?_;rintro e w1 ⟨rfl,rfl⟩;go_wp2_with fail;go_loopg [7,8,12] 38 (fun g v7 v8 v12 wr=>∃k:Nat,k+g=38∧v12= .int .i64 k∧SignRel w b s i k wr)
 case atStart=>exact⟨0,rfl,rfl,hA⟩
 case round=>
  obtain⟨k,hk,rfl,hr⟩:=hrel;clear hA h ht;have hsc:=hr.sc;have c0:=hsc.c0;have c1:=hsc.c1;have hb1:=hsc.lt;have hf:=hsc.few;have hi:=hsc.le;have gwx:=hr.g.size;have hlt:=hr.row.lt;cases gk with
  | zero=>
    have e:k=38:=by omega
    subst e;have HM:=I (Kv (s:=s) (i:=i) (fun j hj=>hr.no j hj hj));have t0:=hr.tok.cell 0;have t1:=hr.tok.cell 1;have t2:=hr.tok.cell 2;have r0:=hr.res.cell 0;have r1:=hr.res.cell 1;have r2:=hr.res.cell 2;have rf:=fun k=>hr.res.frozen k;have f260:=hsc.fr 260;have c260:=hsc.c260;simp only[List.getElem?_cons_zero,List.getElem?_cons_succ]at t0 t1 t2 r0 r1 r2;have hs1:=hsc.setBad (i:Int);go_wp2;refine bodyPost_ret (Bb (t:=⟨4,i,[]⟩) (r:=false) rfl _ ((hr.res.set_other _ _ (by simp;omega)).set3 _ _ _) rfl rfl) rfl ⟨?_,?_⟩
    ·have g:=AW (r:=some b) hr.g;clear hs1;exact (by repeat(first| (with_reducible exact Ac _ _)| (with_reducible assumption)| (with_reducible exact AW (by assumption))| (with_reducible refine Aa ?_ _)| (with_reducible refine Aj ?_)| (with_reducible refine AH ?_ _)| ((with_reducible refine Ax ?_ _ _ ?h2);case h2=>first|exact .inl rfl|exact .inr (Nat.le_refl _)|exact .inr (by simp<;>omega))| (with_reducible refine Ae ?_ (by assumption))| (with_reducible refine O ?_ (by assumption))))
    ·unfold Ed;rw[HM.out];exact⟨⟨_,rfl⟩,i,true,(by repeat(first| (with_reducible assumption)| (with_reducible apply Sc.alloc)| (with_reducible apply Sc.drew)| (with_reducible apply Sc.drewN)| (with_reducible apply Sc.setLine)| (with_reducible apply Sc.setBegun)| (with_reducible apply Sc.setBad)| (with_reducible apply Sc.go)| (with_reducible apply Sc.set_other)|omega| (simp<;>omega)))⟩
  | succ gk=>
    have hkl:k<signsL.length:=by show k<38;omega
    have ck:=(hr.row.cell k).trans (show(signsL.map str)[k]? =some (str signsL[k])by simp[hkl]);have hx6:=DI (List.getElem_mem hkl);have hkI:decide ((k:Int)<38)=true:=by simp;omega
    have HN:=I (fun hx=>hr.go hkl (w1:=wr) hx (Ac _ _));cases hh:BR s i signsL[k]with
    | false=>
      have HR:=I (fun w1 g=>hr.go hkl (w1:=w1) hh g);by_cases hend:i+signsL[k].length≤s.length
      ·have hz:=Fk hkl hend hh;have HU:=I (fun(W:World)(g:wr.grownBy W none)=>Eu (hr.tabs.gbN g) s i (i+signsL[k].length) hf);clear hh;generalize Lib.toUpperD (Aq s i (i+signsL[k].length))=z at*;generalize signsL[k]=x at*;have he1:decide ((i:Int)+x.length≤s.length)=true:=by simp;omega
       have he2:decide ((i:Int)≤i+x.length)=true:=by simp;omega
       have hw1:IntKind.i64.wrap ((i:Int)+(x.length:Int))=(i:Int)+x.length:=IntWalk.i64_in _ (by omega);have hw2:(0:Int)≤(i:Int)+x.length:=by omega
       have hw3:(i:Int)+x.length≤s.length:=by omega
       have hw4:((i:Int)+x.length).toNat=i+x.length:=by omega
       have hw5:(i:Int)≤(i:Int)+x.length:=by omega
       clear hw1;go_wp2_with fail;go_region_held3 (fun W=>W.cell? ⟨b,0,none⟩=some (str s)∧W.cell? ⟨b,1,none⟩=some (.int .i64 i)∧wr.grownBy W none) (first|exact⟨c0,c1,Aj (Ac wr none)⟩|exact⟨Ab g5 c0,Ab g5 c1,Ae (Aj (Ac wr none)) g5⟩) (first| (go_at_call 197;refine(HU.out _ ?_).mono ?_;(simp[*]);rintro e w5 ⟨rfl,g5⟩));go_wp2;go_roundg gk
       case measure=>omega
       case rel=>exact⟨k+1,by omega,by simp,HR.out w5 (Ae (Aj (Ac wr none)) g5)⟩
      ·clear hh;generalize signsL[k]=x at*;have he1:decide ((i:Int)+x.length≤s.length)=false:=by simp;omega
       go_wp2_with fail;go_quiet(fail);go_wp2;go_roundg gk
       case measure=>omega
       case rel=>exact⟨k+1,by omega,by simp,HR.out _ (AH (Ac wr none) _)⟩
    | true=>
      have hend:i+signsL[k].length≤s.length:=by simp[BR]at hh;exact hh.1
      have hz:=Fk hkl hend hh;have HU:=I (fun(W:World)(g:wr.grownBy W none)=>Eu (hr.tabs.gbN g) s i (i+signsL[k].length) hf);have HM:=I (Kw hkl (fun j hj=>hr.no j hj (by omega)) hh);clear hh;generalize Lib.toUpperD (Aq s i (i+signsL[k].length))=z at*;generalize signsL[k]=x at*;have he1:decide ((i:Int)+x.length≤s.length)=true:=by simp;omega
      have he2:decide ((i:Int)≤i+x.length)=true:=by simp;omega
      have hw1:IntKind.i64.wrap ((i:Int)+(x.length:Int))=(i:Int)+x.length:=IntWalk.i64_in _ (by omega);have hw2:(0:Int)≤(i:Int)+x.length:=by omega
      have hw3:(i:Int)+x.length≤s.length:=by omega
      have hw4:((i:Int)+x.length).toNat=i+x.length:=by omega
      have hw5:(i:Int)≤(i:Int)+x.length:=by omega
      clear hw1;go_wp2_with fail;go_region_held3 (fun W=>W.cell? ⟨b,0,none⟩=some (str s)∧W.cell? ⟨b,1,none⟩=some (.int .i64 i)∧wr.grownBy W none) (first|exact⟨c0,c1,Aj (Ac wr none)⟩|exact⟨Ab g5 c0,Ab g5 c1,Ae (Aj (Ac wr none)) g5⟩) (first| (go_at_call 197;refine(HU.out _ ?_).mono ?_;(simp[*]);rintro e w5 ⟨rfl,g5⟩));have gA:wr.grownBy w5 none:=Ae (Aj (Ac wr none)) g5;have hs5:=hsc.gbN gA;have ht5:=hr.tok.gb gA (by simp);have hr5:=hr.res.gb gA (by simp);have d1:=hs5.c1;have d0:=hs5.c0;have t0:=ht5.cell 0;have t1:=ht5.cell 1;have t2:=ht5.cell 2;have tf:=fun k=>ht5.frozen k;have r0:=hr5.cell 0;have r1:=hr5.cell 1;have r2:=hr5.cell 2;have rf:=fun k=>hr5.frozen k;have f1:=hs5.fr 1;have h5:=hr5.lt;simp only[List.getElem?_cons_zero,List.getElem?_cons_succ]at t0 t1 t2 r0 r1 r2;go_wp2;refine bodyPost_ret (Bb (t:=⟨4,i,x⟩) (r:=true) rfl _ (((hr5.set_other _ _ (by simp)).set_other _ _ (by simp;omega)).set3 _ _ _) rfl rfl) rfl ⟨?_,?_⟩
      ·have g:=AW (r:=some b) (Ae hr.g gA);exact (by repeat(first| (with_reducible exact Ac _ _)| (with_reducible assumption)| (with_reducible exact AW (by assumption))| (with_reducible refine Aa ?_ _)| (with_reducible refine Aj ?_)| (with_reducible refine AH ?_ _)| ((with_reducible refine Ax ?_ _ _ ?h2);case h2=>first|exact .inl rfl|exact .inr (Nat.le_refl _)|exact .inr (by simp<;>omega))| (with_reducible refine Ae ?_ (by assumption))| (with_reducible refine O ?_ (by assumption))))
      ·unfold Ed;rw[HM.out];exact⟨rfl,(by repeat(first| (with_reducible assumption)| (with_reducible apply Sc.alloc)| (with_reducible apply Sc.drew)| (with_reducible apply Sc.drewN)| (with_reducible apply Sc.setLine)| (with_reducible apply Sc.setBegun)| (with_reducible apply Sc.setBad)| (with_reducible apply Sc.go)| (with_reducible apply Sc.set_other)|omega| (simp<;>omega)))⟩
end Go.Proofs.YtgjdhajcnechdaaGreatDoor
