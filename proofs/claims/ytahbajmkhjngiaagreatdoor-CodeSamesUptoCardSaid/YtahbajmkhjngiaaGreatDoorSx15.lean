/-
  Code: the names of units, on both sides.
-/
import Derived.Test.YtahbajmkhjngiaaGreatDoorSx10
import Derived.Test.YtahbajmkhjngiaaGreatDoorSx05
set_option linter.all false
set_option maxRecDepth 100000
set_option maxHeartbeats 8000000
namespace Go.Proofs.YtahbajmkhjngiaaGreatDoor
open Go.Proofs.Tryz
open Go.RowKit
def A1(us:List Un)(k:Nat):List Bs:=(us.take k).map (·.name)
theorem BF{us:List Un}{k:Nat}{u:Un}(h:us[k]? =some u):A1 us (k+1)=A1 us k++[u.name]:=by
 have hk:=(List.getElem?_eq_some_iff.1 h).1;have e:=(List.getElem?_eq_some_iff.1 h).2;simp[A1,List.take_succ,h]
theorem B9(us:List Un):A1 us us.length=us.map (·.name):=by simp[A1]
theorem Cr{w:World}{v:Value}{us:List Un}{ok:Nat→Prop}(h:VU ok w v us)(hb:us.length≤100000000):
 Calls Tryz.prog 14 #[v] w fun e w'=>∃r,e= .returned r∧w'.ownsRow w.heap.size 9 1 r us.length ((us.map (·.name)).map str)∧w.grownBy w' none:=by
 obtain⟨a,cap,rfl,hle,hmx,hat⟩:=h.open;obtain⟨i0,hi0,hz0,hz1,hz2⟩:=info_parts B7;have HI:=D (I hi0 (I hz0 (I hz1 hz2)));have HA:=D hat;clear hat hle hmx h hi0 hz0 hz1 hz2;go_enter func14,ntmps14;go_wp2_with fail;go_loopg [3,5,8] us.length (fun g v3 v5 v8 wr=>∃k:Nat,k+g=us.length∧v8= .int .i64 k∧wr.ownsRow w.heap.size 9 1 v3 k ((A1 us k).map str)∧w.grownBy wr none)
 case atStart=>exact⟨0,by omega,rfl,At _ _ _ _,N _ _⟩
 case round=>
  obtain⟨k,hk,rfl,hO,hG⟩:=hrel;cases gk with
  | zero=>
    have hkl:k=us.length:=by omega
    have hj1:decide (k<us.length)=false:=by simp;omega
    subst hkl;have HO:=D (I (show wr.ownsRow w.heap.size 9 1 u3 us.length ((us.map (·.name)).map str)by rw[←B9];exact hO) hG);clear hO hG;go_wp2;go_ret;exact⟨_,rfl,HO.out.1,HO.out.2⟩
  | succ gk=>
    have hkl:k<us.length:=by omega
    have hj1:decide (k<us.length)=true:=by simp;omega
    obtain⟨u,hu⟩:∃u,us[k]? =some u:=⟨_,X hkl⟩;obtain⟨g,o,ra,rc,ca,cc,rfl,_,_,c0,c1,c2,_,_⟩:=HA.out k u hu;have d0:=J hG c0;have d1:=J hG c1;have d2:=J hG c2;have hgs:=hG.size;have gA:wr.grownBy (wr.alloc (.cells #[str u.name,.slice ra u.row.length rc,.slice ca u.code.length cc] 33 (0,0))) none:=World.grownBy_alloc _ _ _;have HO:=D (I (Ap hO gA (by simp)) (I (M hG gA) (BF hu)));clear hO hG c0 c1 c2 gA;go_wp2_with (at_builtin;go_loud(refine wpList_append_lies _ rfl _ _ 28 rfl w.heap.size 9 i0 (str []) 1 16 underlying28 HI.out.1 HI.out.2.1 HI.out.2.2.1 HI.out.2.2.2 rfl (by decide) _ k ((A1 us k).map str) rfl (Ap HO.out.1 (World.grownBy_alloc _ _ none) (by simp)) ⟨wr.heap.size+1,0,none⟩ 1 1 [str u.name] rfl rfl (by have h9:=Az (wr.alloc (.cells #[str u.name,.slice ra u.row.length rc,.slice ca u.code.length cc] 33 (0,0))) [str u.name] 9;simpa using h9) (by simp[Value.oneCell']) (by decide) (by unfold maxLen;omega) (by omega) (by simp;omega) _ rfl ?_;intro g6 cap6 w6 hown hgrow hat6 hlt6;(have HX:=D (I hown hgrow));clear hown hgrow hat6));go_roundg gk
    case measure=>omega
    case rel=>exact⟨k+1,by omega,by go_num,by rw[HO.out.2.2];simpa using HX.out.1,Ad (M HO.out.2.1 (World.grownBy_alloc _ _ _)) HX.out.2 (fun x hx=>(HO.out.1.lt x hx).1)⟩
theorem C8{w:World}{v:Value}{us:List Un}{ok:Nat→Prop}(h:VU ok w v us)(hb:us.length≤100000000):
 Calls Tryz.prog 15 #[v] w fun e w'=>∃r,e= .returned r∧w'.ownsRow w.heap.size 9 1 r us.length ((us.map (·.name)).map str)∧w.grownBy w' none:=by
 obtain⟨a,cap,rfl,hle,hmx,hat⟩:=h.open;obtain⟨i0,hi0,hz0,hz1,hz2⟩:=info_parts B7;have HI:=D (I hi0 (I hz0 (I hz1 hz2)));have HA:=D hat;clear hat hle hmx h hi0 hz0 hz1 hz2;go_enter func15,ntmps15;go_wp2_with fail;go_loopg [3,4] us.length (fun g v3 v4 wr=>∃k:Nat,k+g=us.length∧v4= .int .i64 k∧wr.ownsRow w.heap.size 9 1 v3 k ((A1 us k).map str)∧w.grownBy wr none)
 case atStart=>exact⟨0,by omega,rfl,At _ _ _ _,N _ _⟩
 case round=>
  obtain⟨k,hk,rfl,hO,hG⟩:=hrel;cases gk with
  | zero=>
    have hkl:k=us.length:=by omega
    have hj1:decide (k<us.length)=false:=by simp;omega
    subst hkl;have HO:=D (I (show wr.ownsRow w.heap.size 9 1 u3 us.length ((us.map (·.name)).map str)by rw[←B9];exact hO) hG);clear hO hG;go_wp2;go_ret;exact⟨_,rfl,HO.out.1,HO.out.2⟩
  | succ gk=>
    have hkl:k<us.length:=by omega
    have hj1:decide (k<us.length)=true:=by simp;omega
    obtain⟨u,hu⟩:∃u,us[k]? =some u:=⟨_,X hkl⟩;obtain⟨g,o,ra,rc,ca,cc,rfl,_,_,c0,c1,c2,_,_⟩:=HA.out k u hu;have d0:=J hG c0;have hgs:=hG.size;have HO:=D (I hO (I hG (BF hu)));clear hO hG c0 c1 c2;go_wp2_with (at_builtin;go_loud(refine wpList_append_lies _ rfl _ _ 28 rfl w.heap.size 9 i0 (str []) 1 16 underlying28 HI.out.1 HI.out.2.1 HI.out.2.2.1 HI.out.2.2.2 rfl (by decide) _ k ((A1 us k).map str) rfl (Ap HO.out.1 (World.grownBy_alloc _ _ none) (by simp)) ⟨wr.heap.size,0,none⟩ 1 1 [str u.name] rfl rfl (Az _ _ _) (by simp[Value.oneCell']) (by decide) (by unfold maxLen;omega) (by omega) (by simp;omega) _ rfl ?_;intro g6 cap6 w6 hown hgrow hat6 hlt6;(have HX:=D (I hown hgrow));clear hown hgrow hat6));go_roundg gk
    case measure=>omega
    case rel=>exact⟨k+1,by omega,by go_num,by rw[HO.out.2.2];simpa using HX.out.1,Ad (M HO.out.2.1 (World.grownBy_alloc _ _ _)) HX.out.2 (fun x hx=>(HO.out.1.lt x hx).1)⟩
end Go.Proofs.YtahbajmkhjngiaaGreatDoor
