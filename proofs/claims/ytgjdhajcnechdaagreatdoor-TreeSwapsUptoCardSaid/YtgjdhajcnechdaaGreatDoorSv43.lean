/-
  The reference's writer: every expression. The reference's names. The reference's names: operands. The reference's names: blocks; every expression. slices.Concat of two rows of texts. copied: an expres
-/
import Derived.Test.YtgjdhajcnechdaaGreatDoorSv41
import Derived.Test.YtgjdhajcnechdaaGreatDoorSv10
import Derived.Test.YtgjdhajcnechdaaGreatDoorSv30
import Derived.Test.YtgjdhajcnechdaaGreatDoorSv13
import Derived.Test.YtgjdhajcnechdaaGreatDoorPlain
import Derived.Shelf.Spec.SlicesGrow
set_option linter.all false
set_option maxRecDepth 100000
set_option maxHeartbeats 8000000
namespace Go.Proofs.YtgjdhajcnechdaaGreatDoor
open Go.Proofs.Tryz
open Go.RowKit
theorem WPost.le{m m2:OW}{n n2 kk k2:Nat}{w w1:World}{b:Nat}{out:Bs}{pre:List Tok}{wrong:Bool}{ov:Value}{e:Ending}(h:WPost m n kk w b out pre wrong ov e w1)(he:m=m2)(hn:n≤n2)(hk:kk≤k2):WPost m2 n2 k2 w b out pre wrong ov e w1:=by
 obtain⟨h1,o1,p1,r1,v1,h2,h3,h4⟩:=h;exact⟨h1,o1,p1,r1,v1,h2,h3,(h4.of_eq he).le hn hk⟩
section
variable (h a a2:Hd)(k k2 nx:Fo)
theorem JP:10+2*h.p.length≤nX h k:=Nat.le_add_right _ _
theorem kX_ge:9000000+2000002*h.p.length≤kX h k:=Nat.le_add_right _ _
theorem RU:10+k.nT≤nX h k:=Nat.add_le_add_right (Nat.le_add_right _ _) _
theorem RP:9000000+k.kT≤kX h k:=Nat.add_le_add_right (Nat.le_add_right _ _) _
theorem JD:2*h.p.length+nX a k+10≤nX h (.cons a k .nil):=by
 show 2*h.p.length+(10+2*a.p.length+k.nT)+10≤10+2*h.p.length+(14+2*a.p.length+k.nT+0);omega
theorem JB:2000002*h.p.length+kX a k+8000000≤kX h (.cons a k .nil):=by
 show 2000002*h.p.length+(9000000+2000002*a.p.length+k.kT)+8000000≤9000000+2000002*h.p.length+(10000000+2000002*a.p.length+k.kT+0);generalize 2000002*h.p.length=x;generalize 2000002*a.p.length=y;omega
theorem JE:nX a k+nX a2 k2+10≤nX h (.cons a k (.cons a2 k2 .nil)):=by
 show 10+2*a.p.length+k.nT+(10+2*a2.p.length+k2.nT)+10≤10+2*h.p.length+(14+2*a.p.length+k.nT+(14+2*a2.p.length+k2.nT+0));omega
theorem JC:kX a k+kX a2 k2+8000000≤kX h (.cons a k (.cons a2 k2 .nil)):=by
 show 9000000+2000002*a.p.length+k.kT+(9000000+2000002*a2.p.length+k2.kT)+8000000≤9000000+2000002*h.p.length+(10000000+2000002*a.p.length+k.kT+(10000000+2000002*a2.p.length+k2.kT+0));generalize 2000002*h.p.length=x;generalize 2000002*a.p.length=y;generalize 2000002*a2.p.length=z;omega
end
theorem Ry(h a:Hd)(k:Fo):nX a k+10≤nX h (.cons a k .nil):=Nat.le_trans (Nat.add_le_add_right (Nat.le_add_left _ _) _) (JD h a k)
theorem Rt(h a:Hd)(k:Fo):kX a k+8000000≤kX h (.cons a k .nil):=Nat.le_trans (Nat.add_le_add_right (Nat.le_add_left _ _) _) (JB h a k)
theorem bnd{x y z m:Nat}(h:y≤z)(hc:x+z≤m):x+y≤m:=Nat.le_trans (Nat.add_le_add_left h _) hc
theorem Ru{w:World}{b:Nat}{a:Hd}{k nx:Fo}{la:Option Addr}{lc:Nat}(hr:RepL (fun g=>g<b) w (.slice la (Fo.cons a k nx).len lc) (.cons a k nx))(E:ExC b a k):
 ∃g o qa qc ra rc,la=some ⟨g,o,none⟩∧KidS w b g o a k qa qc ra rc∧(∀a2 k2 n2,nx= .cons a2 k2 n2→ExC b a2 k2→∃qa2 qc2 ra2 rc2,KidS w b g (o+7) a2 k2 qa2 qc2 ra2 rc2):=by
 obtain⟨cs,hcs,hrf⟩:=hr;obtain⟨_,_,e,_,_,_,hcc⟩:=hcs;cases e;have hgb:∀{g o:Nat},la=some ⟨g,o,none⟩→g<b:=by
  intro g o el;obtain⟨gg,oo,e2,hlt,_⟩:=hcc 0 (.int .i64 a.op) (by
   obtain⟨pv,lv,kcs,rcs,hcs2,_⟩:=hrf;rw[hcs2];rfl)
  rw[el]at e2;cases e2;exact hlt
 obtain⟨g,o,qa,qc,ra,rc,e,h1,h2,hnx,h4⟩:=CL (k:=0) (n:=(Fo.cons a k nx).len) (lc:=lc) hcc (by simpa using hrf);refine⟨g,o,qa,qc,ra,rc,e,⟨⟨by simpa using h4,hgb e⟩,h1,h2,E⟩,?_⟩;rintro a2 k2 n2 rfl E2;obtain⟨g2,o2,qa2,qc2,ra2,rc2,e2,h12,h22,_,h42⟩:=CL (k:=1) (n:=(Fo.cons a k (.cons a2 k2 n2)).len) (lc:=lc) hcc hnx;rw[e]at e2;cases e2;exact⟨qa2,qc2,ra2,rc2,⟨⟨by simpa using h42,hgb e⟩,h12,h22,E2⟩⟩
theorem RK(b:Nat):∀(N:Nat)(a:Hd)(k:Fo),k.wt<N→a.fit→k.fit→ExC b a k:=by
 intro N;induction N with
 |zero=>intro a k hN;omega
 | succ N ih=>
   intro a k hN hf hkf w out pre wrong ov pa la pc lc h hp hr hc ho;have E:∀a2 k2,k2.wt<k.wt→a2.fit→k2.fit→ExC b a2 k2:=fun a2 k2 hk=>ih a2 k2 (by omega);have g1:=JP a k;have g2:=kX_ge a k;have g3:=RU a k;have g4:=RP a k;obtain⟨op,s,vk,vn,vs,p⟩:=a;have hs:s.length≤2000000:=hf.1;have hp':Cells w (.slice pa p.length pc) 1 p.length (p.map str) (fun g=>g<b):=hp;by_cases h0:op=0
   ·subst h0;exact(Ra h hf.2.1 (by omega) (by omega)).mono fun e w1 q=>q.le rfl (by omega) (by omega)
   by_cases h1:op=1
   ·subst h1;exact(Rb h hs (by omega) (by omega)).mono fun e w1 q=>q.le rfl (by omega) (by omega)
   by_cases h3:op=3
   ·subst h3;exact(Rc h hs hr E hkf (by omega) (by omega)).mono fun e w1 q=>q.le rfl (by omega) (by omega)
   by_cases h7:op=7
   ·subst h7;refine EH h (by simp) (by simp) (by simp) (by simp) (by simp) (by simp) (by simp) fun W hW kW=>?_;exact(Qj hW (hr.kept kW h.low) E hkf (by omega) (by omega)).mono fun e w1 q=>q.le rfl (by omega) (by omega)
   by_cases h10:op=10
   ·subst h10;refine EH h (by simp) (by simp) (by simp) (by simp) (by simp) (by simp) (by simp) fun W hW kW=>?_;exact(OF hW hs (by omega) (by omega)).mono fun e w1 q=>q.le rfl (by omega) (by omega)
   cases k with
   | nil=>
     by_cases h2:op=2
     ·subst h2;exact(Jp (n:=0) h (by decide)).mono fun e w1 q=>q
     by_cases h4:op=4
     ·subst h4;exact(Jq (n:=0) h (by decide)).mono fun e w1 q=>q
     by_cases h5:op=5
     ·subst h5;exact(Gp (n:=0) h (by decide)).mono fun e w1 q=>q
     by_cases h6:op=6
     ·subst h6;exact(Gq (n:=0) h (by decide)).mono fun e w1 q=>q
     refine EH h h0 h1 h2 h3 h4 h5 h6 fun W hW kW=>?_;by_cases h8:op=8
     ·subst h8;exact(I7 (n:=0) hW (by decide)).mono fun e w1 q=>q
     by_cases h9:op=9
     ·subst h9;exact(I8 (n:=0) hW hs (by decide) (by omega) (by omega)).mono fun e w1 q=>q.le rfl (by omega) (by omega)
     exact(Gr hW h7 h8 h9 h10).mono fun e w1 q=>q.le (by simp[AM, *]) (Nat.le_refl _) (Nat.le_refl _)
   | cons a1 k1 nx=>
     obtain⟨g,o,qa,qc,ra,rc,rfl,hk,hk2⟩:=Ru hr (E a1 k1 (by simp only[Fo.wt];omega) hkf.1 hkf.2.1);cases nx with
     | nil=>
       have b1:=JD ⟨op,s,vk,vn,vs,p⟩ a1 k1;have b2:=JB ⟨op,s,vk,vn,vs,p⟩ a1 k1;have b3:=Ry ⟨op,s,vk,vn,vs,p⟩ a1 k1;have b4:=Rt ⟨op,s,vk,vn,vs,p⟩ a1 k1;by_cases h2:op=2
       ·subst h2;by_cases ha:a1.op=1
        ·exact(Qf h hs hkf.1.1 ha hk (bnd b3 hc) (bnd b4 ho)).mono fun e w1 q=>q.le (by simp[AM,A5,ha]) b3 b4
        ·exact(Qg h hs ha hk (bnd b3 hc) (bnd b4 ho)).mono fun e w1 q=>q.le (by simp[AM,A5,ha]) b3 b4
       by_cases h4:op=4
       ·subst h4;by_cases ha:s=[46,78,79,84,46]
        ·exact(Qh h ha hk (bnd b3 hc) (bnd b4 ho)).mono fun e w1 q=>q.le (by simp[AM,A5,ha]) b3 b4
        ·exact(Qi h hs ha hk (bnd b3 hc) (bnd b4 ho)).mono fun e w1 q=>q.le (by simp[AM,A5,ha]) b3 b4
       by_cases h5:op=5
       ·subst h5;exact(Gp (n:=1) h (by decide)).mono fun e w1 q=>q
       by_cases h6:op=6
       ·subst h6;exact(Gq (n:=1) h (by decide)).mono fun e w1 q=>q
       refine EH h h0 h1 h2 h3 h4 h5 h6 fun W hW kW=>?_;by_cases h8:op=8
       ·subst h8;exact(Qk hW (hp'.kept kW h.low) hf.2.2.2 hf.2.2.1 (hk.kept kW h.low) (bnd b1 hc) (bnd b2 ho)).mono fun e w1 q=>q.le (by simp[AM,A5]) b1 b2
       by_cases h9:op=9
       ·subst h9;exact(OG hW (hk.kept kW h.low) (bnd b3 hc) (bnd b4 ho)).mono fun e w1 q=>q.le (by simp[AM,A5]) b3 b4
       exact(Gr hW h7 h8 h9 h10).mono fun e w1 q=>q.le (by simp[AM, *]) (Nat.le_refl _) (Nat.le_refl _)
     | cons a2 k2 nx2=>
       have hn1:(Fo.cons a1 k1 (.cons a2 k2 nx2)).len≠1:=by simp only[Fo.len];omega
       by_cases h2:op=2
       ·subst h2;exact(Jp h hn1).mono fun e w1 q=>q
       by_cases h4:op=4
       ·subst h4;exact(Jq h hn1).mono fun e w1 q=>q
       by_cases h5:op=5
       ·subst h5;cases nx2 with
        | nil=>
          obtain⟨qa2,qc2,ra2,rc2,hK2⟩:=hk2 a2 k2 .nil rfl (E a2 k2 (by simp only[Fo.wt];omega) hkf.2.2.1 hkf.2.2.2.1);have b1:=JE ⟨5,s,vk,vn,vs,p⟩ a1 a2 k1 k2;have b2:=JC ⟨5,s,vk,vn,vs,p⟩ a1 a2 k1 k2;exact(Rd h hs hk hK2 (bnd b1 hc) (bnd b2 ho)).mono fun e w1 q=>q.le (by simp[AM,A5]) b1 b2
        |cons a3 k3 nx3=>exact(Gp h (by simp only[Fo.len];omega)).mono fun e w1 q=>q
       by_cases h6:op=6
       ·subst h6;cases nx2 with
        | nil=>
          obtain⟨qa2,qc2,ra2,rc2,hK2⟩:=hk2 a2 k2 .nil rfl (E a2 k2 (by simp only[Fo.wt];omega) hkf.2.2.1 hkf.2.2.2.1);have b1:=JE ⟨6,s,vk,vn,vs,p⟩ a1 a2 k1 k2;have b2:=JC ⟨6,s,vk,vn,vs,p⟩ a1 a2 k1 k2;exact(Re h hk hK2 (bnd b1 hc) (bnd b2 ho)).mono fun e w1 q=>q.le (by simp[AM,A5]) b1 b2
        |cons a3 k3 nx3=>exact(Gq h (by simp only[Fo.len];omega)).mono fun e w1 q=>q
       refine EH h h0 h1 h2 h3 h4 h5 h6 fun W hW kW=>?_;by_cases h8:op=8
       ·subst h8;exact(I7 hW hn1).mono fun e w1 q=>q
       by_cases h9:op=9
       ·subst h9;exact(I8 hW hs hn1 (by omega) (by omega)).mono fun e w1 q=>q.le (by simp[AM,A5]) (by omega) (by omega)
       exact(Gr hW h7 h8 h9 h10).mono fun e w1 q=>q.le (by simp[AM, *]) (Nat.le_refl _) (Nat.le_refl _)
theorem OD{w:World}{b:Nat}{out:Bs}{pre:List Tok}{wrong:Bool}{ov:Value}{a:Hd}{k:Fo}{pa la:Option Addr}{pc lc:Nat}(h:Ww w b out pre wrong ov)(hp:Cells w (.slice pa a.p.length pc) 1 a.p.length (a.p.map str) (fun g=>g<b))(hr:RepL (fun g=>g<b) w (.slice la k.len lc) k)(hf:a.fit)(hkf:k.fit)
 (hc:pre.length+nX a k≤9000000) (ho:out.length+kX a k≤700000000000000):
 Calls Tryz.prog 47 #[.pointer (some ⟨b,0,none⟩),exV a (.slice pa a.p.length pc) (.slice la k.len lc)] w (WPost (AM wdM a (A5 wdM k)) (nX a k) (kX a k) w b out pre wrong ov):=
 RK b (k.wt+1) a k (Nat.lt_succ_self _) hf hkf w out pre wrong ov pa la pc lc h hp hr hc ho
section
variable {w:World}{h:Hd}{k:Fo}{p:List Bs}{pv lv:Value}{pa la ba:Option Addr}{pc lc bc:Nat}
end
section
variable {w:World}{h:Hd}{k:Fo}{p:List Bs}{pv:Value}{pa la ba:Option Addr}{pc lc bc:Nat}
end
theorem Eo{w w1 w2:World}{B e size n:Nat}{v:Value}{xs:List Value}(hrow:w1.ownsRow B e size v n xs)(gR:w.grownBy w1 none)(g:w1.grownBy w2 v.ownBlock)(hB:w.heap.size≤B):w.grownBy w2 none:=by
 generalize hob:v.ownBlock=ob at g;cases ob with
 |none=>exact Aa gR g
 |some q=>exact Ar gR g (.inr (Nat.le_trans hB (hrow.lt q hob).1))
theorem QM{w1 w2:World}{B e size n b:Nat}{v:Value}{xs cs:List Value}{t:TypeId}(hrow:w1.ownsRow B e size v n xs)(hb:Blk w1 b cs t)(g:w1.grownBy w2 v.ownBlock)(hB:b<B):Blk w2 b cs t:=
 hb.gb g (fun e=>by have:=(hrow.lt b e.symm).1;omega)
section
variable {w:World}{r:List Bs}{h:Hd}{k:Fo}{p:List Bs}{pv:Value}{pa la ba:Option Addr}{pc lc bc:Nat}
end
theorem N3(n:Nat)(hn:n≤16000000)(w:World):Calls Tryz.prog 95 #[.slice none 0 0,.int .i64 n] w fun e w'=>∃v,e= .returned v∧w'.ownsRow w.heap.size 9 1 v 0 []∧w.grownBy w' none:=by
 rcases Nat.eq_zero_or_pos n with rfl|h0
 ·refine(Any8.slices_Grow_room growStr none 0 0 0 w (by omega) (by omega) (by omega) (by omega)).mono ?_;rintro e w' ⟨rfl,rfl⟩;exact⟨_,rfl,World.ownsRow_nil _ _ _ _,Ac _ _⟩
 obtain⟨i0,hi,hz0,hz1,hz2⟩:=info_parts Eh;refine(Any8.slices_Grow_grow growStr i0 _ hi hz0 (by rw[hz1];decide) none 0 0 n [] w (Nat.le_refl _) (by omega) (by rw[hz2];omega) (by omega) (by simp) (fun _=>rfl) (by simp)).mono ?_;rintro e w' ⟨rfl,rfl⟩;refine⟨_,rfl,?_,?_⟩
 ·refine⟨rfl,.inr ⟨w.heap.size,_,_,rfl,Nat.le_refl _,heap_alloc_new _ _,Nat.zero_le _,?_,?_,?_⟩⟩
  ·exact grownCap_le_maxLen _ _ _ _ (by unfold maxLen;omega)
  ·have hge:=grownCap_ge w (0+n) 0 (Tryz.growStr_ren.t 25);generalize grownCap w (0+n) 0 (Tryz.growStr_ren.t 25)=c at*;rw[Array.size_append,Array.size_append,size_zeroCells,size_zeroCells];have e1:(str []).cells.size=1:=rfl;rw[e1];simp;omega
  ·simp
 ·exact Ad (Am (Ac _ _)) _
def accM(p r:List Bs)(k:Nat):List Bs:=if k=0 then []else if k=1 then p else r
section
variable {w:World}{p q r:List Bs}{R:Nat}{pa ba:Option Addr}{pc bc:Nat}{ok:Nat→Prop}
theorem KU(h0:w.cell? ⟨R,0,none⟩=some (.slice ba p.length bc))(h1:w.cell? ⟨R,1,none⟩=some (.slice pa q.length pc))(hb:Cells w (.slice ba p.length bc) 1 p.length (p.map str) ok)(hp:Cells w (.slice pa q.length pc) 1 q.length (q.map str) ok)
 (hl:p.length+q.length≤8000000) (hre:r=p++q):
 Calls Tryz.prog 53 #[.slice (some ⟨R,0,none⟩) 2 2] w fun e w'=>∃v,e= .returned v∧w'.ownsRow w.heap.size 9 1 v r.length (r.map str)∧w.grownBy w' none:=by
 have HC:=O (Z h0 (Z h1 (Z hb (Z hp (Z hl hre)))));have hw1:IntKind.i64.wrap ((p.length:Int)+(q.length:Int))=(p.length:Int)+(q.length:Int):=IntWalk.i64_in _ (by omega);have hw2:IntKind.i64.wrap ((0:Int)+(p.length:Int))=(p.length:Int):=by rw[Int.zero_add];exact IntWalk.i64_in _ (by omega)
 have hw3:IntKind.i64.wrap (p.length:Int)=(p.length:Int):=IntWalk.i64_in _ (by omega);have n1:decide ((p.length:Int)<0)=false:=by simp
 have n2:decide ((p.length:Int)+(q.length:Int)<0)=false:=by simp;omega
 have hRl:=World.block_lt_of_cell? _ _ h0;clear hb hp hre;go_enter func53,ntmps53;go_wp2_with fail;go_loopg [3,11] 3 (fun g v3 v11 wr=>∃k:Nat,k+g=3∧k≤2∧v11= .int .i64 k∧v3= .int .i64 (if k=0 then 0 else if k=1 then(p.length:Int)else(p.length:Int)+(q.length:Int))∧wr=w)
 case atStart=>exact⟨0,rfl,by omega,rfl,rfl,rfl⟩
 case round=>
  obtain⟨k,hg,hk,rfl,rfl,hw⟩:=hrel;have hw':=hw.symm;clear hw;subst hw';have hcases:k=0∨k=1∨k=2:=by omega
  rcases hcases with rfl|rfl|rfl
  ·go_wp2_with fail;go_roundg 2
   case measure=>omega
   case rel=>exact⟨1,by omega,by omega,rfl,by simp,rfl⟩
  ·go_wp2_with fail;go_roundg 1
   case measure=>omega
   case rel=>exact⟨2,by omega,by omega,rfl,by simp,rfl⟩
  ·go_wp2_with fail;have hGr:=N3 (p.length+q.length) (by omega) w;rw[show((p.length+q.length:Nat):Int)=(p.length:Int)+(q.length:Int)by simp]at hGr;refine hGr.mono ?_;rintro e w1 ⟨v,rfl,hO,g1⟩;have HO1:=O (Z hO g1);obtain⟨va,vc,rfl,_⟩:=B1 hO;have d0:=Af g1 HC.out.1;have d1:=Af g1 HC.out.2.1;clear hO g1 h0 h1 hGr hl;go_wp2_with fail;clear d0 d1;go_loopg [6,27] 3 (fun g v6 v27 wr=>∃k:Nat,k+g=3∧k≤2∧v27= .int .i64 k∧wr.ownsRow w.heap.size 9 1 v6 (accM p r k).length ((accM p r k).map str)∧w.grownBy wr none)
   case atStart=>exact⟨0,rfl,by omega,rfl,HO1.out.1,HO1.out.2⟩
   case round=>
    obtain⟨k,hg2,hk2,rfl,hown,hgr⟩:=hrel;clear HO1;have hcases:k=0∨k=1∨k=2:=by omega
    rcases hcases with rfl|rfl|rfl
    ·have hb0:=HC.out.2.2.1.gb hgr (by simp);have d0:=Af hgr HC.out.1;have d1:=Af hgr HC.out.2.1;have hRl2:=World.block_lt_of_cell? _ _ d0;obtain⟨i0,hi0,hz0,hz1,hz2⟩:=info_parts Eh;have HZ:=O (Z hi0 (Z hz0 (Z hz1 (Z hz2 (Z hb0 (Z hown (Z hgr hgr.size)))))));clear hb0 hi0 hz0 hz1 hz2 hown hgr;go_wp2_with (at_builtin;refine GY rfl _ _ 24 rfl w.heap.size 9 i0 (str []) 1 16 underlying24 HZ.out.1 HZ.out.2.1 HZ.out.2.2.1 HZ.out.2.2.2.1 rfl (by decide) _ (([]:List Bs)).length ((([]:List Bs)).map str) rfl HZ.out.2.2.2.2.2.1 (.slice ba p.length bc) p.length (p.map str) _ rfl HZ.out.2.2.2.2.1 (by intro u hu;obtain⟨c,_,rfl⟩:=List.mem_map.1 hu;rfl) (by have:=HC.out.2.2.2.2.1;(try simp only[List.length_nil]);unfold maxLen;omega) (by have:=HC.out.2.2.2.2.1;(try simp only[List.length_nil]);omega) HZ.out.2.2.2.2.2.2.2 ?_;intro v' w6 hown5 g7;have HO:=O (Z hown5 g7);clear hown5 g7);go_roundg 2
     case measure=>omega
     case rel=>exact⟨1,by omega,by omega,rfl,by have:=HO.out.1;rw[List.length_nil,Nat.zero_add,List.map_nil,List.nil_append]at this;exact this,Eo HZ.out.2.2.2.2.2.1 HZ.out.2.2.2.2.2.2.1 HO.out.2 (Nat.le_refl _)⟩
    ·have hb0:=HC.out.2.2.2.1.gb hgr (by simp);have d0:=Af hgr HC.out.1;have d1:=Af hgr HC.out.2.1;have hRl2:=World.block_lt_of_cell? _ _ d0;obtain⟨i0,hi0,hz0,hz1,hz2⟩:=info_parts Eh;have HZ:=O (Z hi0 (Z hz0 (Z hz1 (Z hz2 (Z hb0 (Z hown (Z hgr hgr.size)))))));clear hb0 hi0 hz0 hz1 hz2 hown hgr;go_wp2_with (at_builtin;refine GY rfl _ _ 24 rfl w.heap.size 9 i0 (str []) 1 16 underlying24 HZ.out.1 HZ.out.2.1 HZ.out.2.2.1 HZ.out.2.2.2.1 rfl (by decide) _ (p).length ((p).map str) rfl HZ.out.2.2.2.2.2.1 (.slice pa q.length pc) q.length (q.map str) _ rfl HZ.out.2.2.2.2.1 (by intro u hu;obtain⟨c,_,rfl⟩:=List.mem_map.1 hu;rfl) (by have:=HC.out.2.2.2.2.1;(try simp only[List.length_nil]);unfold maxLen;omega) (by have:=HC.out.2.2.2.2.1;(try simp only[List.length_nil]);omega) HZ.out.2.2.2.2.2.2.2 ?_;intro v' w6 hown5 g7;have HO:=O (Z hown5 g7);clear hown5 g7);go_roundg 1
     case measure=>omega
     case rel=>exact⟨2,by omega,by omega,rfl,by have:=HO.out.1;rw[←List.length_append,←List.map_append,←HC.out.2.2.2.2.2]at this;exact this,Eo HZ.out.2.2.2.2.2.1 HZ.out.2.2.2.2.2.2.1 HO.out.2 (Nat.le_refl _)⟩
    ·have hown:wr.ownsRow w.heap.size 9 1 u6 r.length (r.map str):=hown;have HX:=O (Z hown hgr);obtain⟨ua,uc,rfl,_⟩:=B1 hown;clear hown hgr;go_wp2;go_ret;exact⟨_,rfl,HX.out.1,HX.out.2⟩
end
def frN(B:Nat)(lv:Value)(q:Nat):Prop:=B≤q∧lv.ownBlock≠some q
structure CK(B b:Nat)(h:Hd)(pv lv:Value)(acc:Fo)(wr:World):Prop where
 blk:Blk wr b (hdC h pv lv) 27
 hp:Cells wr pv 1 h.p.length (h.p.map str) (frN B lv)
 row:∃cs,wr.ownsRow B 27 7 lv acc.len cs∧RepF (frN B lv) wr acc cs
 lo:b<B
section
variable {B b j cap:Nat}{h:Hd}{pv lv px lx:Value}{acc:Fo}{wr w1:World}{x:Ex}{cs:List Value}
theorem CK.gb(c:CK B b h pv lv acc wr)(g:wr.grownBy w1 none):CK B b h pv lv acc w1:=by
 refine⟨c.blk.gb g (by simp),c.hp.gb g (by simp),?_,c.lo⟩;obtain⟨cs,h1,h2⟩:=c.row;exact⟨cs,h1.kept g (by cases lv.ownBlock with|none=>exact .inl rfl|some _=>exact .inr (by simp)),RepF.gb g (by simp) h2⟩
theorem CK.shape(c:CK B b h pv lv acc wr):∃a n,lv= .slice a acc.len n:=by
 obtain⟨cs,h1,_⟩:=c.row;obtain⟨a,n,e,_⟩:=B1 h1;exact⟨a,n,e⟩
theorem CK.own(c:CK B b h pv lv acc wr):∀q,lv.ownBlock=some q→B≤q∧q<wr.heap.size:=by
 obtain⟨cs,h1,_⟩:=c.row;exact fun q e=>h1.lt q e
theorem CK.append(c:CK B b h pv lv acc wr)(hrep:RepF (frN B lv) wr acc cs)(hx1:Cells wr px 1 x.h.p.length (x.h.p.map str) (frN B lv))(hx2:RepL (frN B lv) wr lx x.kids)
 (hown:w1.ownsRow B 27 7 (.slice (some ⟨j,0,none⟩) (acc.len+1) cap) (acc.len+1) (cs++hdC x.h px lx)) (hg:wr.grownBy w1 lv.ownBlock) (hat:lv.ownBlock=some j∨j=wr.heap.size):
 CK B b h pv (.slice (some ⟨j,0,none⟩) (acc.len+1) cap) (acc.snoc x) (w1.setCell ⟨b,6,none⟩ (.slice (some ⟨j,0,none⟩) (acc.len+1) cap)):=by
 have hlo:=c.lo;have hB:B≤j:=by
  have:=hown.lt j rfl;omega
 have hf:∀q,frN B lv q→q<wr.heap.size→frN B (.slice (some ⟨j,0,none⟩) (acc.len+1) cap) q:=fun q hq hl=>⟨hq.1,fun e=>by
  simp[Value.ownBlock]at e;subst e;rcases hat with h1|h1
  ·exact hq.2 h1
  ·omega⟩
 have hne:∀q,(frN B lv q∧frN B (.slice (some ⟨j,0,none⟩) (acc.len+1) cap) q)→some q≠lv.ownBlock:=fun q hq e=>hq.1.2 e.symm;have gs:w1.grownBy (w1.setCell ⟨b,6,none⟩ (.slice (some ⟨j,0,none⟩) (acc.len+1) cap)) (some b):=AE (Ac w1 (some b)) 6 _;have hnb:∀q,frN B (.slice (some ⟨j,0,none⟩) (acc.len+1) cap) q→some q≠some b:=fun q hq e=>by cases e;have:=hq.1;omega
 have mv:∀{v:Value}{size n:Nat}{ds:List Value},Cells wr v size n ds (frN B lv)→Cells (w1.setCell ⟨b,6,none⟩ (.slice (some ⟨j,0,none⟩) (acc.len+1) cap)) v size n ds (frN B (.slice (some ⟨j,0,none⟩) (acc.len+1) cap)):=fun hc=>
  (((hc.mono (ok':=fun q=>frN B lv q∧frN B (.slice (some ⟨j,0,none⟩) (acc.len+1) cap) q) (fun q hq hl=>⟨hq,hf q hq hl⟩)).gb hg (fun q hq _=>hne q hq)).mono (fun q hq _=>hq.2)).gb gs (fun q hq _=>hnb q hq)
 have mr:∀{f:Fo}{ds:List Value},RepF (frN B lv) wr f ds→RepF (frN B (.slice (some ⟨j,0,none⟩) (acc.len+1) cap)) (w1.setCell ⟨b,6,none⟩ (.slice (some ⟨j,0,none⟩) (acc.len+1) cap)) f ds:=by
  intro f;induction f with
  |nil=>intro ds hr;exact hr
  | cons a k n ih1 ih2=>
    rintro ds ⟨pv1,lv1,kcs,rest,e,h1,h2,h3,h4⟩;exact⟨pv1,lv1,kcs,rest,e,mv h1,mv h2,ih1 h3,ih2 h4⟩
 refine⟨((c.blk.gb hg (fun e=>by have:=c.own b e.symm;omega)).set 6 _).of_eq rfl rfl,mv c.hp,⟨cs++hdC x.h px lx,?_,?_⟩,hlo⟩
 ·rw[Fo.len_snoc];exact Cy hown gs (by intro q hq _ e;cases e;omega)
 ·obtain⟨kcs,k1,k2⟩:=hx2;exact RepF.app (mr hrep) (VE.rep (mv hx1) ⟨kcs,mv k1,mr k2⟩)
end
end Go.Proofs.YtgjdhajcnechdaaGreatDoor
