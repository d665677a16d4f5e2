/-
  Code: how much there is of it: Size on both sides, Weight.
-/
import Derived.Test.YtahbajmkhjngiaaGreatDoorSx06
set_option linter.all false
set_option maxRecDepth 100000
set_option maxHeartbeats 8000000
namespace Go.Proofs.YtahbajmkhjngiaaGreatDoor
open Go.Proofs.Tryz
open Go.RowKit
def pfx{α:Type}(f:α→Nat)(l:List α):Nat→Nat
 | 0=>0
 |k+1=>pfx f l k+(match l[k]? with|some u=>f u|none=>0)
theorem Aj{α:Type}{f:α→Nat}{l:List α}{k:Nat}{u:α}(h:l[k]? =some u):pfx f l (k+1)=pfx f l k+f u:=by simp[pfx,h]
theorem An{α:Type}(f:α→Nat)(l:List α){k m:Nat}(h:k≤m):pfx f l k≤pfx f l m:=by
 induction m with
 | zero => have : k = 0 := by omega
           subst this;exact Nat.le_refl _
 | succ m ih=>
   by_cases e:k=m+1
   ·subst e;exact Nat.le_refl _
   ·have:=ih (by omega);rw[pfx];omega
def szU(us:List Un):Nat:=pfx (fun u=>u.code.length) us us.length
def wtC(c:Cd):Nat:=3+c.s.length
def wtU(u:Un):Nat:=u.name.length+u.row.length+pfx wtC u.code u.code.length
def Z(us:List Un):Nat:=us.length+pfx wtU us us.length
theorem X{α:Type}{l:List α}{k:Nat}(h:k<l.length):l[k]? =some l[k]:=List.getElem?_eq_getElem h
theorem Bk{w:World}{v:Value}{us:List Un}{ok:Nat→Prop}(h:VU ok w v us)(hb:szU us≤100000000):
 Calls Tryz.prog 9 #[v] w fun e w'=>e= .returned (.int .i64 (szU us))∧w.grownBy w' none:=by
 obtain⟨a,cap,rfl,hle,hmx,hat⟩:=h.open;have hlen:us.length≤9223372036854775807:=by unfold maxLen at hmx;omega
 have HA:=D hat;clear hat hle hmx h;go_enter func9,ntmps9;go_wp2_with fail;go_loopg [3,5,8] us.length (fun g v3 v5 v8 wr=>∃k:Nat,k+g=us.length∧v8= .int .i64 k∧v3= .int .i64 (pfx (fun u=>u.code.length) us k:Nat)∧w.grownBy wr none)
 case atStart=>exact⟨0,by omega,rfl,rfl,N _ _⟩
 case round=>
  obtain⟨k,hk,rfl,rfl,hG⟩:=hrel;cases gk with
  | zero=>
    have hkl:k=us.length:=by omega
    have hj1:decide (k<us.length)=false:=by simp;omega
    subst hkl;go_wp2;go_ret;exact⟨rfl,hG⟩
  | succ gk=>
    have hkl:k<us.length:=by omega
    have hj1:decide (k<us.length)=true:=by simp;omega
    obtain⟨g,o,ra,rc,ca,cc,rfl,_,_,c0,c1,c2,_,_⟩:=HA.out k _ (X hkl);have d0:=J hG c0;have d1:=J hG c1;have d2:=J hG c2;have hs:=Aj (f:=fun u:Un=>u.code.length) (X hkl);have hm:=An (fun u:Un=>u.code.length) us (show k+1≤us.length from hkl);have hm1:pfx (fun u:Un=>u.code.length) us (k+1)≤100000000:=Nat.le_trans hm hb;rw[hs]at hm1;have HS:=D hs;have HG:=D (Y hG (.cells #[str us[k].name,.slice ra us[k].row.length rc,.slice ca us[k].code.length cc] 33 (0,0)));clear c0 c1 c2 hs hm hG;go_wp2;go_roundg gk
    case measure=>omega
    case rel=>exact⟨k+1,by omega,by go_num,by rw[HS.out];go_num,HG.out⟩
theorem Cw{w:World}{v:Value}{us:List Un}{ok:Nat→Prop}(h:VU ok w v us)(hb:szU us≤100000000):
 Calls Tryz.prog 10 #[v] w fun e w'=>e= .returned (.int .i64 (szU us))∧w=w':=by
 obtain⟨a,cap,rfl,hle,hmx,hat⟩:=h.open;have hlen:us.length≤9223372036854775807:=by unfold maxLen at hmx;omega
 have HA:=D hat;clear hat hle hmx h;go_enter func10,ntmps10;go_wp2_with fail;go_loopg [3,4] us.length (fun g v3 v4 wr=>∃k:Nat,k+g=us.length∧v4= .int .i64 k∧v3= .int .i64 (pfx (fun u=>u.code.length) us k:Nat)∧w=wr)
 case atStart=>exact⟨0,by omega,rfl,rfl,rfl⟩
 case round=>
  obtain⟨k,hk,rfl,rfl,rfl⟩:=hrel;cases gk with
  | zero=>
    have hkl:k=us.length:=by omega
    have hj1:decide (k<us.length)=false:=by simp;omega
    subst hkl;go_wp2;go_ret;exact⟨rfl,rfl⟩
  | succ gk=>
    have hkl:k<us.length:=by omega
    have hj1:decide (k<us.length)=true:=by simp;omega
    obtain⟨g,o,ra,rc,ca,cc,rfl,_,_,c0,c1,c2,_,_⟩:=HA.out k _ (X hkl);have hs:=Aj (f:=fun u:Un=>u.code.length) (X hkl);have hm:=An (fun u:Un=>u.code.length) us (show k+1≤us.length from hkl);have hm1:pfx (fun u:Un=>u.code.length) us (k+1)≤100000000:=Nat.le_trans hm hb;rw[hs]at hm1;have HS:=D hs;clear hs hm;go_wp2;go_roundg gk
    case measure=>omega
    case rel=>exact⟨k+1,by omega,by go_num,by rw[HS.out];go_num,rfl⟩
theorem AL{w:World}{v:Value}{us:List Un}{ok:Nat→Prop}(h:VU ok w v us)(hb:Z us≤100000000):
 Calls Tryz.prog 4 #[v] w fun e w'=>e= .returned (.int .i64 (Z us))∧w.grownBy w' none:=by
 obtain⟨a,cap,rfl,hle,hmx,hat⟩:=h.open;have hlen:us.length≤9223372036854775807:=by unfold maxLen at hmx;omega
 have HA:=D hat;have HB:=D hb;clear hat hle hmx h hb;go_enter func4,ntmps4;go_wp2_with fail;go_loopg [3,4,5] us.length (fun g v3 v4 v5 wr=>∃k:Nat,∃n:Int,k+g=us.length∧v4= .int .i64 k∧v3= .int .i64 n∧n=((us.length+pfx wtU us k:Nat):Int)∧w.grownBy wr none)
 case atStart=>exact⟨0,_,by omega,rfl,rfl,by simp[pfx],N _ _⟩
 case round=>
  obtain⟨k,n,hk,rfl,rfl,hn,hG⟩:=hrel;cases gk with
  | zero=>
    have hkl:k=us.length:=by omega
    have hj1:decide (k<us.length)=false:=by simp;omega
    subst hkl;have HN:=D (I (show n=((Z us:Nat):Int)from hn) hG);clear hn hG;go_wp2;go_ret;exact⟨by rw[←HN.out.1];rfl,HN.out.2⟩
  | succ gk=>
    have hkl:k<us.length:=by omega
    have hj1:decide (k<us.length)=true:=by simp;omega
    obtain⟨u,hu⟩:∃u,us[k]? =some u:=⟨_,X hkl⟩;obtain⟨g,o,ra,rc,ca,cc,rfl,_,_,c0,c1,c2,_,hcd⟩:=HA.out k u hu;have d0:=J hG c0;have d1:=J hG c1;have d2:=J hG c2;have hs:=Aj (f:=wtU) hu;have hm:=An wtU us (show k+1≤us.length from hkl);have hb1:us.length+pfx wtU us us.length≤100000000:=HB.out;have hw:wtU u=u.name.length+u.row.length+pfx wtC u.code u.code.length:=rfl;have i0:(0:Int)≤n:=by omega
    have i1:n+((u.name.length:Int)+(u.row.length:Int))≤100000000:=by omega
    have i2:u.name.length≤100000000:=by omega
    have i3:u.row.length≤100000000:=by omega
    have hcl:u.code.length≤maxLen:=by obtain⟨_,_,e,h3,h4,_⟩:=hcd;cases e;omega
    unfold maxLen at hcl;have HC:=D (I hcd hG);have HS:=D (I hs (I hm (I hb1 (I hw hn))));clear c0 c1 c2 hs hm hb1 hw hn hcd hG;go_wp2_with fail;go_quiet(fail);have gq:wr.grownBy (wr.drewN nq) none:=Af (N _ _) _;have HQ:=D gq;clear gq;go_wp2_with fail;go_loopg [3,5] u.code.length (fun g v3 v5 w2=>∃j:Nat,∃m:Int,j+g=u.code.length∧v5= .int .i64 j∧v3= .int .i64 m∧m=n+((u.name.length:Int)+(u.row.length:Int))+((pfx wtC u.code j:Nat):Int)∧wr.grownBy w2 none)
    case atStart=>exact⟨0,_,by omega,rfl,rfl,by simp[pfx],HQ.out⟩
    case round=>
     obtain⟨j,m,hj,rfl,rfl,hm,hg2⟩:=hrel;have e2:=J hg2 d2;by_cases hjl:j<u.code.length
     ·have hjI:decide (j<u.code.length)=true:=by simpa using hjl
      obtain⟨c,hc⟩:∃c,u.code[j]? =some c:=⟨_,X hjl⟩;obtain⟨gc,oc,rfl,_,_,_,_,_,t3⟩:=HC.out.1.cd hc;have f3:=J (M HC.out.2 hg2) t3;have hs:=Aj (f:=wtC) hc;have hp:=An wtC u.code (show j+1≤u.code.length from hjl);have hbd:=HS.out;have hwc:wtC c=3+c.s.length:=rfl;have j0:(0:Int)≤m:=by omega
      have j1:m+(3+(c.s.length:Int))≤100000000:=by omega
      have j2:c.s.length≤100000000:=by omega
      have HX:=D (I hs (I hm (I hwc hg2)));clear t3 hs hp hbd hwc hm hg2;go_wp2;go_roundg (u.code.length-(j+1))
      case measure=>omega
      case rel=>exact⟨j+1,_,by omega,by go_num,rfl,by have:=HX.out.1;have:=HX.out.2.1;have:=HX.out.2.2.1;omega,HX.out.2.2.2⟩
     ·have hjI:decide (j<u.code.length)=false:=by simpa using hjl
      have hje:j=u.code.length:=by omega
      subst hje;have HX:=D (I hm (M HC.out.2 hg2));clear hm hg2;go_wp2;go_roundg (us.length-(k+1))
      case measure=>omega
      case rel=>exact⟨k+1,_,by omega,by go_num,rfl,by have:=HS.out;have:=HX.out.1;omega,HX.out.2⟩
end Go.Proofs.YtahbajmkhjngiaaGreatDoor
