/-
  Code: rows of numbers and of instructions held against each other.
-/
import Derived.Test.YtahbajmkhjngiaaGreatDoorSx10
set_option linter.all false
set_option maxRecDepth 100000
set_option maxHeartbeats 8000000
namespace Go.Proofs.YtahbajmkhjngiaaGreatDoor
open Go.Proofs.Tryz
open Go.RowKit
theorem AG{α:Type}{l m:List α}{k:Nat}{x:α}(h:l.take k=m.take k)(h1:l[k]? =some x)(h2:m[k]? =some x):l.take (k+1)=m.take (k+1):=by
 rw[List.take_add_one,List.take_add_one,h,h1,h2]
theorem Ax{α:Type}{l m:List α}{k:Nat}{x y:α}(h1:l[k]? =some x)(h2:m[k]? =some y)(h:x≠y):l≠m:=by
 rintro rfl;rw[h1]at h2;exact h (by cases h2;rfl)
theorem AC{α:Type}{l m:List α}(hl:l.length=m.length)(h:l.take l.length=m.take l.length):l=m:=by
 rw[List.take_of_length_le (Nat.le_refl _),List.take_of_length_le (by omega)]at h;exact h
theorem BK{w:World}{a b:Option Addr}{c d:Nat}{l m:List Int}{ok ok':Nat→Prop}(h1:Cells w (.slice a l.length c) 1 l.length (V l) ok)(h2:Cells w (.slice b m.length d) 1 m.length (V m) ok'):
 Calls Tryz.prog 23 #[.slice a l.length c,.slice b m.length d] w fun e w'=>e= .returned (.bool (decide (l=m)))∧w.grownBy w' none:=by
 have hlm:l.length≤9223372036854775807:=by obtain⟨_,_,e,h3,h4,_⟩:=h1;cases e;unfold maxLen at h4;omega
 have hmm:m.length≤9223372036854775807:=by obtain⟨_,_,e,h3,h4,_⟩:=h2;cases e;unfold maxLen at h4;omega
 by_cases hl:l.length=m.length
 ·have HH:=D (I h1 (I h2 hl));have i0:((l.length:Int) !=(m.length:Int))=false:=by simp;omega
  have i1:((l.length:Int)==(m.length:Int))=true:=by simp;omega
  clear h1 h2 hl;go_enter func23,ntmps23;go_wp2_with fail;go_loopg [5,13] l.length (fun g v5 v13 wr=>∃k:Nat,k+g=l.length∧v13= .int .i64 k∧l.take k=m.take k∧w.grownBy wr none)
  case atStart=>exact⟨0,by omega,rfl,rfl,N _ _⟩
  case round=>
   obtain⟨k,hk,rfl,ht,hG⟩:=hrel;cases gk with
   | zero=>
     have hkl:k=l.length:=by omega
     have hj1:decide (k<l.length)=false:=by simp;omega
     have HE:=D (I (AC HH.out.2.2 (by rw[←hkl];exact ht)) hG);clear ht hG;subst hkl;go_wp2;go_ret;exact⟨by rw[decide_eq_true HE.out.1];rfl,HE.out.2⟩
   | succ gk=>
     have hkl:k<l.length:=by omega
     have hkm:k<m.length:=by have:=HH.out.2.2;omega
     have hj1:decide (k<l.length)=true:=by simp;omega
     obtain⟨x,hx⟩:∃x,l[k]? =some x:=⟨_,X hkl⟩;obtain⟨y,hy⟩:∃y,m[k]? =some y:=⟨_,X hkm⟩;obtain⟨ga,oa,rfl,_,_,ca⟩:=HH.out.1.int hx;obtain⟨gb,ob,rfl,_,_,cb⟩:=HH.out.2.1.int hy;have da:=J hG ca;have db:=J hG cb;clear ca cb;by_cases hxy:x=y
     ·subst hxy;have j1:(x==x)=true:=by simp
      have j2:(x !=x)=false:=by simp
      have HE:=D (I (AG ht hx hy) hG);clear ht hG hx hy;go_wp2_with fail;go_quiet(fail);go_wp2;go_roundg gk
      case measure=>omega
      case rel=>exact⟨k+1,by omega,by go_num,HE.out.1,Af HE.out.2 _⟩
     ·have j1:(x==y)=false:=by simpa using hxy
      have j2:(x !=y)=true:=by simpa using hxy
      have HE:=D (I (Ax hx hy hxy) hG);clear ht hG hx hy hxy;go_wp2_with fail;go_quiet(fail);go_wp2;go_ret;exact⟨by rw[decide_eq_false HE.out.1];rfl,Af HE.out.2 _⟩
 ·have HE:=D (show l≠m by rintro rfl;exact hl rfl);have i0:((l.length:Int) !=(m.length:Int))=true:=by simp;omega
  have i1:((l.length:Int)==(m.length:Int))=false:=by simp;omega
  clear h1 h2;go_enter func23,ntmps23;go_wp2;go_ret;exact⟨by rw[decide_eq_false HE.out];rfl,N _ _⟩
theorem CR{w:World}{a b:Option Addr}{c d:Nat}{l m:List Cd}{ok ok':Nat→Prop}(h1:Cells w (.slice a l.length c) 4 l.length (O l) ok)(h2:Cells w (.slice b m.length d) 4 m.length (O m) ok'):
 Calls Tryz.prog 24 #[.slice a l.length c,.slice b m.length d] w fun e w'=>e= .returned (.bool (decide (l=m)))∧w.grownBy w' none:=by
 have hlm:l.length≤9223372036854775807:=by obtain⟨_,_,e,h3,h4,_⟩:=h1;cases e;unfold maxLen at h4;omega
 have hmm:m.length≤9223372036854775807:=by obtain⟨_,_,e,h3,h4,_⟩:=h2;cases e;unfold maxLen at h4;omega
 by_cases hl:l.length=m.length
 ·have HH:=D (I h1 (I h2 hl));have i0:((l.length:Int) !=(m.length:Int))=false:=by simp;omega
  have i1:((l.length:Int)==(m.length:Int))=true:=by simp;omega
  clear h1 h2 hl;go_enter func24,ntmps24;go_wp2_with fail;go_loopg [5,13] l.length (fun g v5 v13 wr=>∃k:Nat,k+g=l.length∧v13= .int .i64 k∧l.take k=m.take k∧w.grownBy wr none)
  case atStart=>exact⟨0,by omega,rfl,rfl,N _ _⟩
  case round=>
   obtain⟨k,hk,rfl,ht,hG⟩:=hrel;cases gk with
   | zero=>
     have hkl:k=l.length:=by omega
     have hj1:decide (k<l.length)=false:=by simp;omega
     have HE:=D (I (AC HH.out.2.2 (by rw[←hkl];exact ht)) hG);clear ht hG;subst hkl;go_wp2;go_ret;exact⟨by rw[decide_eq_true HE.out.1];rfl,HE.out.2⟩
   | succ gk=>
     have hkl:k<l.length:=by omega
     have hkm:k<m.length:=by have:=HH.out.2.2;omega
     have hj1:decide (k<l.length)=true:=by simp;omega
     obtain⟨x,hx⟩:∃x,l[k]? =some x:=⟨_,X hkl⟩;obtain⟨y,hy⟩:∃y,m[k]? =some y:=⟨_,X hkm⟩;obtain⟨ga,oa,rfl,_,_,ca0,ca1,ca2,ca3⟩:=HH.out.1.cd hx;obtain⟨gb,ob,rfl,_,_,cb0,cb1,cb2,cb3⟩:=HH.out.2.1.cd hy;have da0:=J hG ca0;have da1:=J hG ca1;have da2:=J hG ca2;have da3:=J hG ca3;have db0:=J hG cb0;have db1:=J hG cb1;have db2:=J hG cb2;have db3:=J hG cb3;clear ca0 ca1 ca2 ca3 cb0 cb1 cb2 cb3;obtain⟨x0,x1,x2,x3⟩:=x;obtain⟨y0,y1,y2,y3⟩:=y;by_cases hxy:(⟨x0,x1,x2,x3⟩:Cd)=⟨y0,y1,y2,y3⟩
     ·cases hxy;have HE:=D (I (AG ht hx hy) hG);clear ht hG hx hy;go_wp2_with fail;go_quiet(fail);go_wp2;go_roundg gk
      case measure=>omega
      case rel=>exact⟨k+1,by omega,by go_num,HE.out.1,Af HE.out.2 _⟩
     ·have HE:=D (I (Ax hx hy hxy) hG);clear ht hG hx hy;by_cases e0:x0=y0
      ·by_cases e1:x1=y1
       ·by_cases e2:x2=y2
        ·have e3:¬x3=y3:=fun e=>hxy (by rw[e0,e1,e2,e]);have f3:(x3==y3)=false:=by simpa using e3
         subst e0 e1 e2;clear hxy;go_wp2_with fail;go_quiet(fail);go_wp2;go_ret;exact⟨by rw[decide_eq_false HE.out.1];rfl,Af HE.out.2 _⟩
        ·have f2:(x2==y2)=false:=by simpa using e2
         subst e0 e1;clear hxy;go_wp2_with fail;go_quiet(fail);go_wp2;go_ret;exact⟨by rw[decide_eq_false HE.out.1];rfl,Af HE.out.2 _⟩
       ·have f1:(x1==y1)=false:=by simpa using e1
        subst e0;clear hxy;go_wp2_with fail;go_quiet(fail);go_wp2;go_ret;exact⟨by rw[decide_eq_false HE.out.1];rfl,Af HE.out.2 _⟩
      ·have f0:(x0==y0)=false:=by simpa using e0
       clear hxy;go_wp2_with fail;go_quiet(fail);go_wp2;go_ret;exact⟨by rw[decide_eq_false HE.out.1];rfl,Af HE.out.2 _⟩
 ·have HE:=D (show l≠m by rintro rfl;exact hl rfl);have i0:((l.length:Int) !=(m.length:Int))=true:=by simp;omega
  have i1:((l.length:Int)==(m.length:Int))=false:=by simp;omega
  clear h1 h2;go_enter func24,ntmps24;go_wp2;go_ret;exact⟨by rw[decide_eq_false HE.out];rfl,N _ _⟩
end Go.Proofs.YtahbajmkhjngiaaGreatDoor
