/-
  CodeSames: the walk of the law.
-/
import Derived.Test.YtahbajmkhjngiaaGreatDoorSx34
import Derived.Test.YtahbajmkhjngiaaGreatDoorSx30
import Derived.Test.YtahbajmkhjngiaaGreatDoorSx22
import Derived.Test.YtahbajmkhjngiaaGreatDoorSx21
import Derived.Test.YtahbajmkhjngiaaGreatDoorSx15
import Derived.Test.YtahbajmkhjngiaaGreatDoorSx38
import Derived.Test.YtahbajmkhjngiaaGreatDoorSx13
set_option linter.all false
set_option maxRecDepth 100000
set_option maxHeartbeats 8000000
namespace Go.Proofs.YtahbajmkhjngiaaGreatDoor
open Go.Proofs.Tryz
open Go.RowKit
theorem De{w:World}{B1 B2:Nat}{r1 r2:Value}{us:List Un} (h1:w.ownsRow B1 9 1 r1 us.length ((us.map (·.name)).map str)) (h2:w.ownsRow B2 9 1 r2 us.length ((us.map (·.name)).map str)):
 Calls Tryz.prog 13 #[r1,r2] w fun e w'=>e= .returned (.bool true)∧w.grownBy w' none:=by
 have c1:=Av h1;have c2:=Av h2;obtain⟨a1,cap1,rfl⟩:=AF h1;obtain⟨a2,cap2,rfl⟩:=AF h2;have e:us.length=(us.map (·.name)).length:=by simp
 rw[e]at c1 c2 ⊢;refine(Dn c1 c2).mono ?_;rintro e w' ⟨rfl,g⟩;exact⟨by simp[A8],g⟩
structure CS(w:World)(ok ok':Nat→Prop)(va vb vc:Value)(us vs:List Un)(B:Nat)(W:World):Prop where
 a:VU ok W va us
 b:VU ok' W vb vs
 c:OwnU2 W B vc us
 g:w.grownBy W none
 p:Pow W
theorem CS.gb{w:World}{ok ok':Nat→Prop}{va vb vc:Value}{us vs:List Un}{B:Nat}{W W1:World}(h:CS w ok ok' va vb vc us vs B W)(g:W.grownBy W1 none):CS w ok ok' va vb vc us vs B W1:=
 ⟨h.a.gb g (by simp),h.b.gb g (by simp),h.c.gbN g,M h.g g,h.p.gb g⟩
theorem CS.vc{w:World}{ok ok':Nat→Prop}{va vb vc:Value}{us vs:List Un}{B:Nat}{W:World}(h:CS w ok ok' va vb vc us vs B W):VU (Al B) W vc us:=h.c.vu
theorem D0(us:List Un):szU us≤Z us:=by
 have h1:∀u:Un,u.code.length≤1*wtU u:=by
  intro u;have h4:=AK (fun _:Cd=>1) wtC 1 (fun c=>by unfold wtC;omega) u.code u.code.length;have h5:=AT u.code u.code.length (Nat.le_refl _);have h6:wtU u=u.name.length+u.row.length+pfx wtC u.code u.code.length:=rfl;omega
 have h2:=AK (fun u:Un=>u.code.length) wtU 1 h1 us us.length;unfold szU Z;omega
theorem CY{w:World}{va vb:Value}{us vs:List Un}{ok ok':Nat→Prop}(ha:VU ok w va us)(hb:VU ok' w vb vs)(h1:Z us≤100000000)(h2:Z vs≤100000000)(hw:A3 us)(hp:Pow w):
 Calls Tryz.prog 3 #[va,vb] w fun e w'=>e= .returned (.bool true)∧w.grownBy w' none:=by
 have H0:=D (I ha (I hb (I h1 (I h2 (I hw hp)))));have hul:us.length≤100000000:=by unfold Z at h1;omega
 clear ha hb h1 h2 hw hp;by_cases hA:1048576<Z us
 ·have hAI:decide ((1048576:Int)<((Z us:Nat):Int))=true:=by simp;omega
  clear hA;go_enter Tryz.func3,ntmps3;go_wp2_with fail;refine(AL H0.out.1 H0.out.2.2.1).mono ?_;rintro e w1 ⟨rfl,g1⟩;have H1:=D g1;clear g1;go_wp2_with fail;refine(Bf w1).mono ?_;rintro e w2 ⟨rfl,g2⟩;have H2:=D (M H1.out g2);clear g2;go_wp2;go_ret;exact⟨rfl,H2.out⟩
 have hAI:decide ((1048576:Int)<((Z us:Nat):Int))=false:=by simp;omega
 by_cases hB:1048576<Z vs
 ·have hBI:decide ((1048576:Int)<((Z vs:Nat):Int))=true:=by simp;omega
  clear hA hB;go_enter Tryz.func3,ntmps3;go_wp2_with fail;refine(AL H0.out.1 H0.out.2.2.1).mono ?_;rintro e w1 ⟨rfl,g1⟩;have H1:=D g1;clear g1;go_wp2_with fail;refine(AL (H0.out.2.1.gb H1.out (by simp)) H0.out.2.2.2.1).mono ?_;rintro e w2 ⟨rfl,g2⟩;have H2:=D (M H1.out g2);clear g2;go_wp2_with fail;refine(Bf w2).mono ?_;rintro e w3 ⟨rfl,g3⟩;have H3:=D (M H2.out g3);clear g3;go_wp2;go_ret;exact⟨rfl,H3.out⟩
 have hBI:decide ((1048576:Int)<((Z vs:Nat):Int))=false:=by simp;omega
 clear hA hB;go_enter Tryz.func3,ntmps3;go_wp2_with fail;refine(AL H0.out.1 H0.out.2.2.1).mono ?_;rintro e w1 ⟨rfl,g1⟩;have H1:=D g1;clear g1;go_wp2_with fail;refine(AL (H0.out.2.1.gb H1.out (by simp)) H0.out.2.2.2.1).mono ?_;rintro e w2 ⟨rfl,g2⟩;have H2:=D (M H1.out g2);clear g2 H1;go_wp2_with fail;refine(Cl (H0.out.1.gb H2.out (by simp)) H0.out.2.2.1).mono ?_;rintro e w3 ⟨vc,rfl,hc3,g3⟩;have hB3:=H2.out.size;generalize hBB:w2.heap.size=B at*;obtain⟨a5,cap5,rfl,_⟩:=hc3.vu.open;have hs3:CS w ok ok' va vb (.slice a5 us.length cap5) us vs B w3:=⟨H0.out.1.gb (M H2.out g3) (by simp),H0.out.2.1.gb (M H2.out g3) (by simp),hc3,M H2.out g3,H0.out.2.2.2.2.2.gb (M H2.out g3)⟩;have H3:=D hs3;clear hs3 hc3 g3 H2 hBB;go_wp2_with fail;refine(Bt H3.out.vc H3.out.a).mono ?_;rintro e w4 ⟨rfl,g4⟩;have H4:=D (H3.out.gb g4);have ed:decide (us=us)=true:=by simp
 rw[ed];clear g4 H3 ed;go_wp2_with fail;refine(BC H4.out.a H4.out.b).mono ?_;rintro e w5 ⟨rfl,g5⟩;have H5:=D (H4.out.gb g5);clear g5 H4;generalize hdd:decide (us=vs)=dd;go_wp2_with fail;refine(Bt H5.out.a H5.out.b).mono ?_;rintro e w6 ⟨rfl,g6⟩;have H6:=D (H5.out.gb g6);rw[hdd];clear g6 H5 hdd;have hdn:(dd !=dd)=false:=by cases dd<;>rfl
 go_wp2_with fail;refine(BC H6.out.a H6.out.vc).mono ?_;rintro e w7 ⟨rfl,g7⟩;have H7:=D (H6.out.gb g7);have ed:decide (us=us)=true:=by simp
 rw[ed];clear g7 H6 ed;go_wp2_with fail;have hsz:szU us≤100000000:=Nat.le_trans (D0 us) H0.out.2.2.1;refine(Bk H7.out.a hsz).mono ?_;rintro e w8 ⟨rfl,g8⟩;have H8:=D (H7.out.gb g8);clear g8 H7;go_wp2_with fail;refine(Cw H8.out.a hsz).mono ?_;rintro e w9 ⟨rfl,rfl⟩;clear hsz;go_wp2_with fail;refine(Dy H8.out.a H0.out.2.2.1 H0.out.2.2.2.2.1 H8.out.p).mono ?_;rintro e w10 ⟨rfl,g10⟩;have H10:=D (H8.out.gb g10);clear g10 H8;go_wp2_with fail;refine(Cx H10.out.a H0.out.2.2.1 H0.out.2.2.2.2.1 H10.out.p).mono ?_;rintro e w11 ⟨rfl,g11⟩;have H11:=D (H10.out.gb g11);clear g11 H10;go_wp2_with fail;refine(Cr H11.out.a hul).mono ?_;rintro e w12 ⟨r1,rfl,hr1,g12⟩;have H12:=D (I (H11.out.gb g12) hr1);clear g12 hr1 H11;go_wp2_with fail;refine(C8 H12.out.1.a hul).mono ?_;rintro e w13 ⟨r2,rfl,hr2,g13⟩;have H13:=D (I (H12.out.1.gb g13) (I (A7 H12.out.2 g13 (by simp)) hr2));clear g13 hr2 H12;go_wp2_with fail;refine(De H13.out.2.1 H13.out.2.2).mono ?_;rintro e w14 ⟨rfl,g14⟩;have H14:=D (H13.out.1.gb g14);clear g14 H13;go_wp2_with fail;refine(Cv H14.out.a H0.out.2.2.1).mono ?_;rintro e w15 ⟨vo,rfl,ho,g15⟩;generalize hC:w14.heap.size=C at*;have H15:=D (I ((H14.out.c.cm (B2:=C) (by omega)).gb g15) (I (show VU (Al C) w15 vo us from by obtain⟨cs,h5,h6⟩:=ho;exact⟨cs,Av h5,h6.mono (fun k hk _=>hk.1)⟩) (M H14.out.g g15)));clear ho g15 H14 hC;go_wp2_with fail
 go_loopg [7,8,9] us.length (fun g v7 v8 v9 wr=>∃i:Nat,i+g=us.length∧v7= .int .i64 i∧CM wr B C (.slice a5 us.length cap5) us∧VU (Al C) wr vo us∧w.grownBy wr none)
 case atStart=>exact⟨0,by omega,rfl,H15.out.1,H15.out.2.1,H15.out.2.2⟩
 case round=>
  obtain⟨i,hi,rfl,hcm,hvo,hg⟩:=hrel;clear H15;cases gk with
  | zero=>
    have hil:i=us.length:=by omega
    have hj1:decide (i<us.length)=false:=by simp;omega
    have HX:=D (I hvo hg);clear hcm hvo hg;go_wp2_with fail;refine(Bt (H0.out.1.gb HX.out.2 (by simp)) HX.out.1).mono ?_;rintro e w17 ⟨rfl,g17⟩;have ed:decide (us=us)=true:=by simp
    rw[ed];have H17:=D (M HX.out.2 g17);clear g17 ed;go_wp2_with fail;refine(Bf w17).mono ?_;rintro e w18 ⟨rfl,g18⟩;have H18:=D (M H17.out g18);clear g18;go_wp2;go_ret;exact⟨rfl,H18.out⟩
  | succ gk=>
    have hil:i<us.length:=by omega
    have hj1:decide (i<us.length)=true:=by simp;omega
    obtain⟨u,hu⟩:∃u,us[i]? =some u:=⟨_,X hil⟩;have HS:=D (I hcm (I hvo hg));clear hcm hvo hg;obtain⟨G,_,_,_,_,rfl,_,_,_,_,_⟩:=HS.out.1.at hu;have hwu:=Bb hu;have hrl:u.row.length≤100000000:=by
     have h6:wtU u=u.name.length+u.row.length+pfx wtC u.code u.code.length:=rfl;have:=H0.out.2.2.1;omega
    have hcl:u.code.length≤100000000:=by
     have h6:wtU u=u.name.length+u.row.length+pfx wtC u.code u.code.length:=rfl;have:=H0.out.2.2.1;have h4:=AK (fun _:Cd=>1) wtC 1 (fun c=>by unfold wtC;omega) u.code u.code.length;have h5:=AT u.code u.code.length (Nat.le_refl _);omega
    clear hwu;go_wp2_with fail;go_loopg [8] u.code.length (fun g v8 wr=>∃j:Nat,j+g=u.code.length∧v8= .int .i64 j∧CM wr B C (.slice (some ⟨G,0,none⟩) us.length cap5) us∧VU (Al C) wr vo us∧w.grownBy wr none)
    case atStart=>exact⟨0,by omega,rfl,HS.out.1,HS.out.2.1,HS.out.2.2⟩
    case round=>
     obtain⟨j,hj,rfl,hcm,hvo,hg⟩:=hrel;clear HS;obtain⟨G',ra,rc,ca,cc,e,hGl,c1,c2,n1,n2⟩:=hcm.at hu;cases e;by_cases hjl:j<u.code.length
     ·have hjI:decide (j<u.code.length)=true:=by simpa using hjl
      obtain⟨q,cs,rfl,hq1,hq2,hblk,x,hx⟩:=n2.el hjl;have d1:=hblk.cell' _ hx;have f1:=hblk.frozen (j*4+1);have hql:=hblk.lt;have HX:=D (I hcm (I hvo (I hg hblk)));clear hcm hvo hg hblk n1 n2 c1;go_wp2;go_roundg (u.code.length-(j+1))
      case measure=>omega
      case rel=>exact⟨j+1,by omega,by go_num,HX.out.1.set HX.out.2.2.2 (by decide) _ _,HX.out.2.1.gb (Am (N _ (some q)) _ _ (.inl rfl)) (fun k hk _ e=>by have h9:C≤k:=hk;cases e;omega),Am HX.out.2.2.1 _ _ (.inr (by show w.heap.size≤q;omega))⟩
     ·have hjI:decide (j<u.code.length)=false:=by simpa using hjl
      have hje:j=u.code.length:=by omega
      subst hje;have HX:=D (I hcm (I hvo hg));clear hcm hvo hg n1 n2 c1;go_wp2_with fail;go_loopg [9] u.row.length (fun g v9 wr=>∃j:Nat,j+g=u.row.length∧v9= .int .i64 j∧CM wr B C (.slice (some ⟨G,0,none⟩) us.length cap5) us∧VU (Al C) wr vo us∧w.grownBy wr none)
      case atStart=>exact⟨0,by omega,rfl,HX.out.1,HX.out.2.1,HX.out.2.2⟩
      case round=>
       obtain⟨j,hj,rfl,hcm,hvo,hg⟩:=hrel;clear HX c2 hGl;obtain⟨G',ra,rc,ca,cc,e,hGl,c1,c2,n1,n2⟩:=hcm.at hu;cases e;by_cases hjl:j<u.row.length
       ·have hjI:decide (j<u.row.length)=true:=by simpa using hjl
        obtain⟨q,cs,rfl,hq1,hq2,hblk,x,hx⟩:=n1.el hjl;have d1:=hblk.cell' _ hx;have f1:=hblk.frozen j;have hql:=hblk.lt;have HX:=D (I hcm (I hvo (I hg hblk)));clear hcm hvo hg hblk n1 n2 c2;go_wp2;go_roundg (u.row.length-(j+1))
        case measure=>omega
        case rel=>exact⟨j+1,by omega,by go_num,HX.out.1.set HX.out.2.2.2 (by decide) _ _,HX.out.2.1.gb (Am (N _ (some q)) _ _ (.inl rfl)) (fun k hk _ e=>by have h9:C≤k:=hk;cases e;omega),Am HX.out.2.2.1 _ _ (.inr (by show w.heap.size≤q;omega))⟩
       ·have hjI:decide (j<u.row.length)=false:=by simpa using hjl
        have hje:j=u.row.length:=by omega
        subst hje;have HX:=D (I hcm (I hvo hg));clear hcm hvo hg n1 n2 c2;go_wp2;go_roundg (us.length-(i+1))
        case measure=>omega
        case rel=>exact⟨i+1,by omega,by go_num,HX.out.1,HX.out.2.1,HX.out.2.2⟩
end Go.Proofs.YtahbajmkhjngiaaGreatDoor
