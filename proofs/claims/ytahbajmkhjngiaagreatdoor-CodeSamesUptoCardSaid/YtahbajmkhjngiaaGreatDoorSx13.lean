/-
  SameTexts of two rows of texts, alone.
-/
import Derived.Test.YtahbajmkhjngiaaGreatDoorSx04
import Derived.Test.YtahbajmkhjngiaaGreatDoorSx05
import Derived.Deep.LoopGhost
set_option linter.all false
set_option maxRecDepth 100000
set_option maxHeartbeats 8000000
namespace Go.Proofs.YtahbajmkhjngiaaGreatDoor
open Go.Proofs.Tryz
open Go.RowKit
def A8(l m:List Bs):Bool:=decide (l=m)
theorem Cells.at1{w:World}{pa:Option Addr}{n pc:Nat}{l:List Bs}{ok:Nat→Prop}(h:Cells w (.slice pa n pc) 1 l.length (l.map str) ok):n=l.length∧∀k,k<l.length→∃g o,pa=some ⟨g,o,none⟩∧w.cell? ⟨g,o+k,none⟩=some (str (l.getD k [])):=by
 obtain⟨a,cap,e,_,_,_,h4⟩:=h;cases e;refine⟨rfl,fun k hk=>?_⟩;obtain⟨g,o,e,_,hc⟩:=h4 k (str (l.getD k [])) (by simp[List.getD,List.getElem?_eq_getElem hk]);exact⟨g,o,e,hc⟩
theorem CW{l m:List Bs}(h:l.length≠m.length):A8 l m=false:=by
 unfold A8;simp;rintro rfl;exact h rfl
theorem CF{l m:List Bs}{k:Nat}(h:l.getD k []≠m.getD k []):A8 l m=false:=by
 unfold A8;simp;rintro rfl;exact h rfl
theorem CV{l m:List Bs}(hn:l.length=m.length)(h:∀j,j<l.length→l.getD j []=m.getD j []):A8 l m=true:=by
 unfold A8;simp;apply List.ext_getElem hn;intro j h1 h2;have:=h j h1;simpa[List.getD,List.getElem?_eq_getElem h1,List.getElem?_eq_getElem h2]using this
theorem Dn{w:World}{pa pb:Option Addr}{pc pd:Nat}{l m:List Bs}{ok ok':Nat→Prop}(h1:Cells w (.slice pa l.length pc) 1 l.length (l.map str) ok)(h2:Cells w (.slice pb m.length pd) 1 m.length (m.map str) ok'):
 Calls Tryz.prog 13 #[.slice pa l.length pc,.slice pb m.length pd] w fun e w'=>e= .returned (.bool (A8 l m))∧w.grownBy w' none:=by
 have hc1:=h1.at1.2;have hc2:=h2.at1.2;have hl:l.length≤maxLen:=by obtain⟨_,_,e,h3,h4,_⟩:=h1;omega
 unfold maxLen at hl;clear h1 h2;by_cases hn:l.length=m.length
 ·have HC:=D (I hc1 hc2);clear hc1 hc2;have hnI:((l.length:Int) !=(m.length:Int))=false:=by simp;omega
  have hnI2:((l.length:Int)==(m.length:Int))=true:=by simp;omega
  have HN:=D hn;clear hn;go_enter func13,ntmps13;go_wp2_with fail;go_loopg [5] l.length (fun g v5 wr=>∃k:Nat,k+g=l.length∧v5= .int .i64 k∧(∀j,j<k→l.getD j []=m.getD j [])∧w.grownBy wr none)
  case atStart=>exact⟨0,by omega,rfl,fun j hj=>by omega,N _ _⟩
  case round=>
   obtain⟨k,hg,rfl,hp,hgr⟩:=hrel;by_cases hk:k<l.length
   ·obtain⟨g1,o1,rfl,c1⟩:=HC.out.1 k hk;obtain⟨g2,o2,rfl,c2⟩:=HC.out.2 k (by have:=HN.out;omega);have d1:=J hgr c1;have d2:=J hgr c2;have hkm:k<m.length:=by have:=HN.out;omega
    have hkI:decide (k<l.length)=true:=by simpa using hk
    have HP:=D hp;have HG:=D hgr;clear hp hgr c1 c2;generalize hs1:l.getD k []=s at*;generalize hs2:m.getD k []=t at*;by_cases he:s=t
    ·have HE:=D (show l.getD k []=m.getD k []by rw[hs1,hs2,he]);have he1:(s==t)=true:=by simpa using he
     have he2:(s !=t)=false:=by simpa using he
     clear he hs1 hs2;go_wp2_with fail;go_quiet(fail);go_wp2;go_roundg (l.length-(k+1))
     case measure=>omega
     case rel=>exact⟨k+1,by omega,by go_num,fun j hj=>by rcases Nat.lt_succ_iff_lt_or_eq.1 hj with h|rfl;exact HP.out j h;exact HE.out,Af HG.out _⟩
    ·have HE:=D (CF (l:=l) (m:=m) (k:=k) (by rw[hs1,hs2];exact he));have he1:(s==t)=false:=by simpa using he
     have he2:(s !=t)=true:=by simpa using he
     clear he hs1 hs2;go_wp2_with fail;go_quiet(fail);go_wp2;go_ret;exact⟨by rw[HE.out];rfl,Af HG.out _⟩
   ·have hkI:decide (k<l.length)=false:=by simpa using hk
    have HE:=D (CV HN.out (fun j hj=>hp j (by omega)));have HG:=D hgr;clear hp hgr;go_wp2;go_ret;exact⟨by rw[HE.out];rfl,HG.out⟩
 ·have hnI:((l.length:Int) !=(m.length:Int))=true:=by simp;omega
  have hnI2:((l.length:Int)==(m.length:Int))=false:=by simp;omega
  have HN:=D (CW hn);clear hn hc1 hc2;go_enter func13,ntmps13;go_wp2;go_ret;exact⟨by rw[HN.out];rfl,(by repeat(first| (with_reducible exact N _ _)| (with_reducible assumption)| (with_reducible exact AQ (by assumption))| (with_reducible refine Y ?_ _)| (with_reducible refine Ae ?_)| (with_reducible refine Af ?_ _)| ((with_reducible refine Am ?_ _ _ ?h2);case h2=>first|exact .inl rfl|exact .inr (Nat.le_refl _)|exact .inr (by simp<;>omega))| (with_reducible refine AO ?_ (by assumption))| (with_reducible refine M ?_ (by assumption))))⟩
end Go.Proofs.YtahbajmkhjngiaaGreatDoor
