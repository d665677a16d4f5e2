/-
  The reference's writer: every expression. The reference's names. The reference's names: operands. The reference's names: blocks; every expression.
-/
import Derived.Test.YtgjdhajcnechdaaGreatDoorSw42
import Derived.Test.YtgjdhajcnechdaaGreatDoorSw24
import Derived.Test.YtgjdhajcnechdaaGreatDoorSw33
set_option linter.all false
set_option maxRecDepth 100000
set_option maxHeartbeats 8000000
namespace Go.Proofs.YtgjdhajcnechdaaGreatDoor
open Go.Proofs.Tryz
open Go.RowKit
theorem WPost.le{m m2:OW}{n n2 kk k2:Nat}{w w1:World}{b:Nat}{out:Bs}{pre:List Tok}{wrong:Bool}{ov:Value}{e:Ending}(h:WPost m n kk w b out pre wrong ov e w1)(he:m=m2)(hn:n≤n2)(hk:kk≤k2):WPost m2 n2 k2 w b out pre wrong ov e w1:=by
 obtain⟨h1,o1,p1,r1,v1,h2,h3,h4⟩:=h;exact⟨h1,o1,p1,r1,v1,h2,h3,(h4.of_eq he).le hn hk⟩
section
variable (h a a2:Hd)(k k2 nx:Fo)
theorem Hx:10+2*h.p.length≤nX h k:=Nat.le_add_right _ _
theorem kX_ge:9000000+2000002*h.p.length≤kX h k:=Nat.le_add_right _ _
theorem Tg:10+k.nT≤nX h k:=Nat.add_le_add_right (Nat.le_add_right _ _) _
theorem Tc:9000000+k.kT≤kX h k:=Nat.add_le_add_right (Nat.le_add_right _ _) _
theorem Kq:2*h.p.length+nX a k+10≤nX h (.cons a k .nil):=by
 show 2*h.p.length+(10+2*a.p.length+k.nT)+10≤10+2*h.p.length+(14+2*a.p.length+k.nT+0);omega
theorem Ko:2000002*h.p.length+kX a k+8000000≤kX h (.cons a k .nil):=by
 show 2000002*h.p.length+(9000000+2000002*a.p.length+k.kT)+8000000≤9000000+2000002*h.p.length+(10000000+2000002*a.p.length+k.kT+0);generalize 2000002*h.p.length=x;generalize 2000002*a.p.length=y;omega
theorem Kr:nX a k+nX a2 k2+10≤nX h (.cons a k (.cons a2 k2 .nil)):=by
 show 10+2*a.p.length+k.nT+(10+2*a2.p.length+k2.nT)+10≤10+2*h.p.length+(14+2*a.p.length+k.nT+(14+2*a2.p.length+k2.nT+0));omega
theorem Kp:kX a k+kX a2 k2+8000000≤kX h (.cons a k (.cons a2 k2 .nil)):=by
 show 9000000+2000002*a.p.length+k.kT+(9000000+2000002*a2.p.length+k2.kT)+8000000≤9000000+2000002*h.p.length+(10000000+2000002*a.p.length+k.kT+(10000000+2000002*a2.p.length+k2.kT+0));generalize 2000002*h.p.length=x;generalize 2000002*a.p.length=y;generalize 2000002*a2.p.length=z;omega
end
theorem R5(h a:Hd)(k:Fo):nX a k+10≤nX h (.cons a k .nil):=Nat.le_trans (Nat.add_le_add_right (Nat.le_add_left _ _) _) (Kq h a k)
theorem R0(h a:Hd)(k:Fo):kX a k+8000000≤kX h (.cons a k .nil):=Nat.le_trans (Nat.add_le_add_right (Nat.le_add_left _ _) _) (Ko h a k)
theorem bnd{x y z m:Nat}(h:y≤z)(hc:x+z≤m):x+y≤m:=Nat.le_trans (Nat.add_le_add_left h _) hc
theorem R1{w:World}{b:Nat}{a:Hd}{k nx:Fo}{la:Option Addr}{lc:Nat}(hr:RepL (fun g=>g<b) w (.slice la (Fo.cons a k nx).len lc) (.cons a k nx))(E:ExC b a k):
 ∃g o qa qc ra rc,la=some ⟨g,o,none⟩∧KidS w b g o a k qa qc ra rc∧(∀a2 k2 n2,nx= .cons a2 k2 n2→ExC b a2 k2→∃qa2 qc2 ra2 rc2,KidS w b g (o+7) a2 k2 qa2 qc2 ra2 rc2):=by
 obtain⟨cs,hcs,hrf⟩:=hr;obtain⟨_,_,e,_,_,_,hcc⟩:=hcs;cases e;have hgb:∀{g o:Nat},la=some ⟨g,o,none⟩→g<b:=by
  intro g o el;obtain⟨gg,oo,e2,hlt,_⟩:=hcc 0 (.int .i64 a.op) (by
   obtain⟨pv,lv,kcs,rcs,hcs2,_⟩:=hrf;rw[hcs2];rfl)
  rw[el]at e2;cases e2;exact hlt
 obtain⟨g,o,qa,qc,ra,rc,e,h1,h2,hnx,h4⟩:=C6 (k:=0) (n:=(Fo.cons a k nx).len) (lc:=lc) hcc (by simpa using hrf);refine⟨g,o,qa,qc,ra,rc,e,⟨⟨by simpa using h4,hgb e⟩,h1,h2,E⟩,?_⟩;rintro a2 k2 n2 rfl E2;obtain⟨g2,o2,qa2,qc2,ra2,rc2,e2,h12,h22,_,h42⟩:=C6 (k:=1) (n:=(Fo.cons a k (.cons a2 k2 n2)).len) (lc:=lc) hcc hnx;rw[e]at e2;cases e2;exact⟨qa2,qc2,ra2,rc2,⟨⟨by simpa using h42,hgb e⟩,h12,h22,E2⟩⟩
theorem SZ(b:Nat):∀(N:Nat)(a:Hd)(k:Fo),k.wt<N→a.fit→k.fit→ExC b a k:=by
 intro N;induction N with
 |zero=>intro a k hN;omega
 | succ N ih=>
   intro a k hN hf hkf w out pre wrong ov pa la pc lc h hp hr hc ho;have E:∀a2 k2,k2.wt<k.wt→a2.fit→k2.fit→ExC b a2 k2:=fun a2 k2 hk=>ih a2 k2 (by omega);have g1:=Hx a k;have g2:=kX_ge a k;have g3:=Tg a k;have g4:=Tc a k;obtain⟨op,s,vk,vn,vs,p⟩:=a;have hs:s.length≤2000000:=hf.1;have hp':Cells w (.slice pa p.length pc) 1 p.length (p.map str) (fun g=>g<b):=hp;by_cases h0:op=0
   ·subst h0;exact(Sg h hf.2.1 (by omega) (by omega)).mono fun e w1 q=>q.le rfl (by omega) (by omega)
   by_cases h1:op=1
   ·subst h1;exact(Sh h hs (by omega) (by omega)).mono fun e w1 q=>q.le rfl (by omega) (by omega)
   by_cases h3:op=3
   ·subst h3;exact(Si h hs hr E hkf (by omega) (by omega)).mono fun e w1 q=>q.le rfl (by omega) (by omega)
   by_cases h7:op=7
   ·subst h7;refine EX h (by simp) (by simp) (by simp) (by simp) (by simp) (by simp) (by simp) fun W hW kW=>?_;exact(RI hW (hr.kept kW h.low) E hkf (by omega) (by omega)).mono fun e w1 q=>q.le rfl (by omega) (by omega)
   by_cases h10:op=10
   ·subst h10;refine EX h (by simp) (by simp) (by simp) (by simp) (by simp) (by simp) (by simp) fun W hW kW=>?_;exact(Pv hW hs (by omega) (by omega)).mono fun e w1 q=>q.le rfl (by omega) (by omega)
   cases k with
   | nil=>
     by_cases h2:op=2
     ·subst h2;exact(JQ (n:=0) h (by decide)).mono fun e w1 q=>q
     by_cases h4:op=4
     ·subst h4;exact(JR (n:=0) h (by decide)).mono fun e w1 q=>q
     by_cases h5:op=5
     ·subst h5;exact(GU (n:=0) h (by decide)).mono fun e w1 q=>q
     by_cases h6:op=6
     ·subst h6;exact(GV (n:=0) h (by decide)).mono fun e w1 q=>q
     refine EX h h0 h1 h2 h3 h4 h5 h6 fun W hW kW=>?_;by_cases h8:op=8
     ·subst h8;exact(Jx (n:=0) hW (by decide)).mono fun e w1 q=>q
     by_cases h9:op=9
     ·subst h9;exact(Jy (n:=0) hW hs (by decide) (by omega) (by omega)).mono fun e w1 q=>q.le rfl (by omega) (by omega)
     exact(GW hW h7 h8 h9 h10).mono fun e w1 q=>q.le (by simp[AC, *]) (Nat.le_refl _) (Nat.le_refl _)
   | cons a1 k1 nx=>
     obtain⟨g,o,qa,qc,ra,rc,rfl,hk,hk2⟩:=R1 hr (E a1 k1 (by simp only[Fo.wt];omega) hkf.1 hkf.2.1);cases nx with
     | nil=>
       have b1:=Kq ⟨op,s,vk,vn,vs,p⟩ a1 k1;have b2:=Ko ⟨op,s,vk,vn,vs,p⟩ a1 k1;have b3:=R5 ⟨op,s,vk,vn,vs,p⟩ a1 k1;have b4:=R0 ⟨op,s,vk,vn,vs,p⟩ a1 k1;by_cases h2:op=2
       ·subst h2;by_cases ha:a1.op=1
        ·exact(RD h hs hkf.1.1 ha hk (bnd b3 hc) (bnd b4 ho)).mono fun e w1 q=>q.le (by simp[AC,Ao,ha]) b3 b4
        ·exact(RE h hs ha hk (bnd b3 hc) (bnd b4 ho)).mono fun e w1 q=>q.le (by simp[AC,Ao,ha]) b3 b4
       by_cases h4:op=4
       ·subst h4;by_cases ha:s=[46,78,79,84,46]
        ·exact(RG h ha hk (bnd b3 hc) (bnd b4 ho)).mono fun e w1 q=>q.le (by simp[AC,Ao,ha]) b3 b4
        ·exact(RH h hs ha hk (bnd b3 hc) (bnd b4 ho)).mono fun e w1 q=>q.le (by simp[AC,Ao,ha]) b3 b4
       by_cases h5:op=5
       ·subst h5;exact(GU (n:=1) h (by decide)).mono fun e w1 q=>q
       by_cases h6:op=6
       ·subst h6;exact(GV (n:=1) h (by decide)).mono fun e w1 q=>q
       refine EX h h0 h1 h2 h3 h4 h5 h6 fun W hW kW=>?_;by_cases h8:op=8
       ·subst h8;exact(RJ hW (hp'.kept kW h.low) hf.2.2.2 hf.2.2.1 (hk.kept kW h.low) (bnd b1 hc) (bnd b2 ho)).mono fun e w1 q=>q.le (by simp[AC,Ao]) b1 b2
       by_cases h9:op=9
       ·subst h9;exact(Pw hW (hk.kept kW h.low) (bnd b3 hc) (bnd b4 ho)).mono fun e w1 q=>q.le (by simp[AC,Ao]) b3 b4
       exact(GW hW h7 h8 h9 h10).mono fun e w1 q=>q.le (by simp[AC, *]) (Nat.le_refl _) (Nat.le_refl _)
     | cons a2 k2 nx2=>
       have hn1:(Fo.cons a1 k1 (.cons a2 k2 nx2)).len≠1:=by simp only[Fo.len];omega
       by_cases h2:op=2
       ·subst h2;exact(JQ h hn1).mono fun e w1 q=>q
       by_cases h4:op=4
       ·subst h4;exact(JR h hn1).mono fun e w1 q=>q
       by_cases h5:op=5
       ·subst h5;cases nx2 with
        | nil=>
          obtain⟨qa2,qc2,ra2,rc2,hK2⟩:=hk2 a2 k2 .nil rfl (E a2 k2 (by simp only[Fo.wt];omega) hkf.2.2.1 hkf.2.2.2.1);have b1:=Kr ⟨5,s,vk,vn,vs,p⟩ a1 a2 k1 k2;have b2:=Kp ⟨5,s,vk,vn,vs,p⟩ a1 a2 k1 k2;exact(Sj h hs hk hK2 (bnd b1 hc) (bnd b2 ho)).mono fun e w1 q=>q.le (by simp[AC,Ao]) b1 b2
        |cons a3 k3 nx3=>exact(GU h (by simp only[Fo.len];omega)).mono fun e w1 q=>q
       by_cases h6:op=6
       ·subst h6;cases nx2 with
        | nil=>
          obtain⟨qa2,qc2,ra2,rc2,hK2⟩:=hk2 a2 k2 .nil rfl (E a2 k2 (by simp only[Fo.wt];omega) hkf.2.2.1 hkf.2.2.2.1);have b1:=Kr ⟨6,s,vk,vn,vs,p⟩ a1 a2 k1 k2;have b2:=Kp ⟨6,s,vk,vn,vs,p⟩ a1 a2 k1 k2;exact(Sk h hk hK2 (bnd b1 hc) (bnd b2 ho)).mono fun e w1 q=>q.le (by simp[AC,Ao]) b1 b2
        |cons a3 k3 nx3=>exact(GV h (by simp only[Fo.len];omega)).mono fun e w1 q=>q
       refine EX h h0 h1 h2 h3 h4 h5 h6 fun W hW kW=>?_;by_cases h8:op=8
       ·subst h8;exact(Jx hW hn1).mono fun e w1 q=>q
       by_cases h9:op=9
       ·subst h9;exact(Jy hW hs hn1 (by omega) (by omega)).mono fun e w1 q=>q.le (by simp[AC,Ao]) (by omega) (by omega)
       exact(GW hW h7 h8 h9 h10).mono fun e w1 q=>q.le (by simp[AC, *]) (Nat.le_refl _) (Nat.le_refl _)
theorem Jw{w:World}{b:Nat}{out:Bs}{pre:List Tok}{wrong:Bool}{ov:Value}{a:Hd}{k:Fo}{pa la:Option Addr}{pc lc:Nat}(h:Ww w b out pre wrong ov)(hp:Cells w (.slice pa a.p.length pc) 1 a.p.length (a.p.map str) (fun g=>g<b))(hr:RepL (fun g=>g<b) w (.slice la k.len lc) k)(hf:a.fit)(hkf:k.fit)
 (hc:pre.length+nX a k≤9000000) (ho:out.length+kX a k≤700000000000000):
 Calls Tryz.prog 47 #[.pointer (some ⟨b,0,none⟩),exV a (.slice pa a.p.length pc) (.slice la k.len lc)] w (WPost (AC wdM a (Ao wdM k)) (nX a k) (kX a k) w b out pre wrong ov):=
 SZ b (k.wt+1) a k (Nat.lt_succ_self _) hf hkf w out pre wrong ov pa la pc lc h hp hr hc ho
theorem Fm{w:World}{b b' e size n:Nat}{v:Value}{xs:List Value}(h:w.ownsRow b e size v n xs)(hb:b'≤b):w.ownsRow b' e size v n xs:=by
 refine⟨h.1,?_⟩;rcases h.2 with h1| ⟨g,cap,cur,e1,hg,h2⟩
 ·exact .inl h1
 ·exact .inr ⟨g,cap,cur,e1,Nat.le_trans hb hg,h2⟩
theorem R6:∀(f:Fo)(p:List Bs),(AT f p).length≤f.nodes:=by
 intro f;induction f with
 |nil=>intro p;exact Nat.le_refl _
 | cons h k n ihk ihn=>
   intro p;have h1:=ihn p;have h2:(Ck h p (AT k)).length≤1+k.nodes:=by
    unfold Ck;split
    ·split
     ·simp
     ·simp
    ·split
     ·simp
     ·split
      ·have:=ihk (p++h.p);omega
      ·have:=ihk p;omega
   show(Ck h p (AT k)++AT n p).length≤1+k.nodes+n.nodes;rw[List.length_append];omega
theorem GM(h:Hd)(p:List Bs)(k:Fo):(Ck h p (AT k)).length≤1+k.nodes:=by
 have:=R6 (.cons h k .nil) p;have e:AT (.cons h k .nil) p=Ck h p (AT k):=by show Ck h p (AT k)++[]=_;simp
 rw[e]at this;exact this
def E3(w:World)(L:List Bs)(e:Ending)(w':World):Prop:=∃v,e= .returned v∧w'.ownsRow w.heap.size 9 1 v L.length (L.map str)∧w.grownBy w' none
def NmC(h:Hd)(k:Fo)(p:List Bs):Prop:=∀(W:World)(pa la ba:Option Addr)(pc lc bc:Nat),Cells W (.slice pa h.p.length pc) 1 h.p.length (h.p.map str) (fun _=>True)→RepL (fun _=>True) W (.slice la k.len lc) k→Cells W (.slice ba p.length bc) 1 p.length (p.map str) (fun _=>True)→
 Calls Tryz.prog 45 #[exV h (.slice pa h.p.length pc) (.slice la k.len lc),.slice ba p.length bc] W (E3 W (Ck h p (AT k)))
section
variable {w:World}{h:Hd}{k:Fo}{p:List Bs}{pv lv:Value}{pa la ba:Option Addr}{pc lc bc:Nat}
theorem R8(h2:h.op=2):Calls Tryz.prog 45 #[exV h pv lv,.slice ba p.length bc] w (E3 w []):=by
 obtain⟨op,s,vk,vn,vs,q⟩:=h;simp only at h2;subst h2;go_enter func45,ntmps45;go_wp2;go_ret;exact⟨_,rfl,World.ownsRow_nil _ _ _ _,World.grownBy_alloc w _ none⟩
theorem R7(h1:h.op=1)(hb:Cells w (.slice ba p.length bc) 1 p.length (p.map str) (fun _=>True)):Calls Tryz.prog 45 #[exV h pv lv,.slice ba p.length bc] w (E3 w (if p.contains h.s=true then []else [h.s])):=by
 obtain⟨op,s,vk,vn,vs,q⟩:=h;simp only at h1;subst h1;have gA:=World.grownBy_alloc w (.cells (hdC ⟨1,s,vk,vn,vs,q⟩ pv lv).toArray 27 (0,0)) none;have HI:=O (QL (SRow.of_cells (hb.gb gA (by simp))) s);have HB:=O (Blk.new w (hdC ⟨1,s,vk,vn,vs,q⟩ pv lv) 27);have HG:=O gA;have HT:=O (show Hd.s ⟨1,s,vk,vn,vs,q⟩=s from rfl);rw[HT.out];clear hb gA HT;cases hc:p.contains s with
 | true=>
   rw[hc]at HI;clear hc;rw[if_pos rfl];go_enter func45,ntmps45;go_wp2_with fail;refine HI.out.mono ?_;rintro e w1 ⟨rfl,g1⟩;have HG1:=O (Aa HG.out g1);clear g1;go_wp2;go_ret;exact⟨_,rfl,World.ownsRow_nil _ _ _ _,HG1.out⟩
 | false=>
   rw[hc]at HI;clear hc;rw[if_neg (by simp)];go_enter func45,ntmps45;go_wp2_with fail;refine HI.out.mono ?_;rintro e w1 ⟨rfl,g1⟩;have HG1:=O (Aa HG.out g1);have hb1:=HB.out.gb g1 (by simp);obtain⟨x_0,x_1,x_2,x_3,x_4,x_5,x_6,x_f⟩:=(hb1).c7;clear g1 hb1;have gA:=World.grownBy_alloc w1 (.cells [str s].toArray 9 (0,0)) none;obtain⟨i0,hi0,hz0,hz1,hz2⟩:=info_parts C0;have hnc:=BZ w1 [str s] 9;have hml:0+1≤maxLen:=by decide
   have hbs:w1.heap.size≤(w1.alloc (.cells [str s].toArray 9 (0,0))).heap.size:=gA.size;have HZ:=O (Z hi0 (Z hz0 (Z hz1 (Z hz2 (Z hnc (Z hml (Z gA hbs)))))));clear hi0 hz0 hz1 hz2 hnc hml gA hbs;go_wp2_with (at_builtin;obtain⟨hi0,hz0,hz1,hz2,hnc,hml,hgA,hbs⟩:=HZ.out;refine wpList_append_own _ rfl _ _ 24 rfl w1.heap.size 9 i0 (str []) 1 16 underlying24 hi0 hz0 hz1 hz2 rfl (by decide) (.slice none 0 0) 0 [] rfl (World.ownsRow_nil _ _ _ _) ⟨w1.heap.size,0,none⟩ 1 1 [str s] rfl rfl hnc (by simp[Value.oneCell']) hml (by decide) hbs ?_;intro v' w6 hown5 g7 hnb;clear hi0 hz0 hz1 hz2 hnc hml hnb;have HO:=O (Z hown5 (Aa hgA g7));clear hown5 g7 hgA hbs);go_ret;exact⟨_,rfl,Fm HO.out.1 HG1.out.size,Aa HG1.out HO.out.2⟩
end
section
variable {w:World}{h:Hd}{k:Fo}{p:List Bs}{pv:Value}{pa la ba:Option Addr}{pc lc bc:Nat}
theorem Sy(h1:h.op≠1)(h2:h.op≠2)(h8:h.op≠8)(hr:RepL (fun _=>True) w (.slice la k.len lc) k)(hb:Cells w (.slice ba p.length bc) 1 p.length (p.map str) (fun _=>True))
 (E:∀a k2,k2.wt<k.wt→k2.nodes≤k.nodes→nX a k2≤k.nT→NmC a k2 p) (hn:k.nodes≤1000000):
 Calls Tryz.prog 45 #[exV h pv (.slice la k.len lc),.slice ba p.length bc] w (E3 w (AT k p)):=by
 have gA:=World.grownBy_alloc w (.cells (hdC h pv (.slice la k.len lc)).toArray 27 (0,0)) none;obtain⟨cs,hcs,hrf⟩:=hr.gb gA (by simp);obtain⟨_,_,e,_,hmx,_,hcc⟩:=hcs;cases e;have hmx2:k.len≤maxLen:=by omega
 unfold maxLen at hmx2;have HCC:=O hcc;have HR:=O hrf;have HB:=O (Blk.new w (hdC h pv (.slice la k.len lc)) 27);have HP:=O (hb.gb gA (by simp));have HE:=O E;have HN:=O hn;have HG:=O gA;have c1:(h.op==1)=false:=by simpa using h1
 have c2:(h.op==2)=false:=by simpa using h2
 have c8:(h.op==8)=false:=by simpa using h8
 clear hcc hrf hb E gA h1 h2 h8;go_enter func45,ntmps45;go_wp2_with fail;go_loopg [5,6] k.len (fun n v5 v6 wr=>∃(rf:Fo)(xs:List Bs)(i:Nat),rf.len=n∧i+n=k.len∧v6= .int .i64 i∧wr.ownsRow (w.heap.size+1) 9 1 v5 xs.length (xs.map str)∧xs.length+rf.nodes≤k.nodes∧xs++AT rf (p)=AT k (p)∧rf.wt≤k.wt∧rf.nodes≤k.nodes∧rf.nT≤k.nT∧RepF (fun _=>True) (w.alloc (.cells (hdC h pv (.slice la k.len lc)).toArray 27 (0,0))) rf (cs.drop (i*7))∧World.grownBy (w.alloc (.cells (hdC h pv (.slice la k.len lc)).toArray 27 (0,0))) wr none)
 case atStart=>exact⟨k,[],0,rfl,by omega,rfl,World.ownsRow_nil _ _ _ _,by simp,rfl,Nat.le_refl _,Nat.le_refl _,Nat.le_refl _,by simpa using HR.out,Ac _ _⟩
 case round=>
  obtain⟨rf,xs,i,hn,hk,rfl,hown,hxl,hxs,hwt,hnd,hnt,hrf,hgr⟩:=hrel;have hb1:=HB.out.gb hgr (by simp);have hbl:=hb1.lt;obtain⟨x_0,x_1,x_2,x_3,x_4,x_5,x_6,x_f⟩:=(hb1).c7;clear hb1 HR;cases rf with
  | nil=>
    have hkI:decide (i<k.len)=false:=by simp[Fo.len]at hn;simp;omega
    have HX:=O (Z (show xs=AT k (p)by rw[←hxs];simp[AT]) (Z hown hgr));clear hxs hown hgr hrf hn;go_wp2;go_ret;rw[←HX.out.1];exact⟨_,rfl,Fm HX.out.2.1 (by have hz:=(World.grownBy.size HG.out);first|omega| (simp at hz;omega)),Aa HG.out HX.out.2.2⟩
  | cons h1 k1 n1=>
    simp only[Fo.len]at hn;simp only[Fo.wt]at hwt;simp only[Fo.nodes]at hxl hnd;simp only[Fo.nT]at hnt;subst hn;have hkI:decide (i<k.len)=true:=by simp;omega
    have hkf:i+1≤k.len:=by omega
    obtain⟨g1,o1,pa1,pc1,lb1,ld1,rfl,hp1,hl1,hx1,hkid⟩:=C6 (k:=i) (n:=k.len) (lc:=lc) HCC.out hrf;have HE1:=O (HE.out h1 k1 (by omega) (by omega) (by show 10+2*h1.p.length+k1.nT≤k.nT;omega) wr pa1 lb1 _ pc1 ld1 _ (hp1.gb hgr (by simp)) (hl1.gb hgr (by simp)) (HP.out.gb hgr (by simp)));have hL:=GM h1 (p) k1;have hxs2:(xs++Ck h1 (p) (AT k1))++AT n1 (p)=AT k (p):=by rw[←hxs];simp[AT]
    generalize Ck h1 (p) (AT k1)=L at*;have hkn:=HN.out;have HN1:=O (Z (show n1.wt≤k.wt by omega) (Z (show n1.nodes≤k.nodes by omega) (Z (show n1.nT≤k.nT by omega) (Z hx1 (Z hgr (Z hown hxs2))))));have hkid2:=hkid.gb' hgr;have hgl:=hkid2.1;obtain⟨z0,z1,z2,z3,z4,z5,z6⟩:=hkid2.c7;clear hxs hwt hnd hnt hrf hp1 hl1 hx1 hown hxs2 hkid hkid2 hgr;go_wp2_with fail;refine HE1.out.mono ?_;rintro e w5 ⟨v,rfl,hov,g5⟩;have hown4:=HN1.out.2.2.2.2.2.1.kept g5 (by cases Value.ownBlock _ with|none=>exact .inl rfl|some _=>exact .inr (by simp));have hbs:(w.heap.size+1)≤w5.heap.size:=by have:=Nat.le_trans (World.grownBy.size HN1.out.2.2.2.2.1) g5.size;simpa using this
    obtain⟨va,vc,rfl,_⟩:=id (AU hov);obtain⟨i0,hi0,hz0,hz1,hz2⟩:=info_parts C0;have hml:xs.length+L.length≤maxLen:=by unfold maxLen;omega
    have hyb:(xs.length+L.length)*16≤140737488355328:=by omega
    have HZ:=O (Z hi0 (Z hz0 (Z hz1 (Z hz2 (Z (AU hov) (Z hml (Z hown4 (Z hyb hbs))))))));have HW:=O g5;clear hi0 hz0 hz1 hz2 hml hown4 hyb hbs g5 hov x_0 x_1 x_2 x_3 x_4 x_5 x_6 x_f z0 z1 z2 z3 z4 z5 z6;go_wp2_with (at_builtin;(obtain⟨hi0,hz0,hz1,hz2,hcs,hml,hown4,hyb,hbs⟩:=HZ.out;refine Fu rfl _ _ 24 rfl (w.heap.size+1) 9 i0 (str []) 1 16 underlying24 hi0 hz0 hz1 hz2 rfl (by decide) _ _ _ rfl hown4 (.slice va L.length vc) L.length (L.map str) _ rfl hcs (by intro u hu;obtain⟨c,_,rfl⟩:=List.mem_map.1 hu;rfl) hml hyb hbs ?_;intro v' w6 hown5 g7;clear hi0 hz0 hz1 hz2 hcs hml hyb hbs hown4;have HO5:=O (Z hown5 g7);clear hown5 g7));go_roundg n1.len
    case measure=>omega
    case rel=>
     have g8:=HO5.out.2;refine⟨n1,xs++L,i+1,rfl,by omega,by go_num,by rw[List.length_append,List.map_append];exact HO5.out.1,by rw[List.length_append];omega,HN1.out.2.2.2.2.2.2,HN1.out.1,HN1.out.2.1,HN1.out.2.2.1,HN1.out.2.2.2.1,?_⟩;have gR:=Aa HN1.out.2.2.2.2.1 HW.out;have hlow:=HN1.out.2.2.2.2.2.1;generalize hob:Value.ownBlock _=ob at g8;cases ob with
     |none=>exact Aa gR g8
     |some q=>exact A9 gR g8 (.inr (by have:=(hlow.lt q hob).1;simpa using this))
end
theorem Dq{w w1 w2:World}{B e size n:Nat}{v:Value}{xs:List Value}(hrow:w1.ownsRow B e size v n xs)(gR:w.grownBy w1 none)(g:w1.grownBy w2 v.ownBlock)(hB:w.heap.size≤B):w.grownBy w2 none:=by
 generalize hob:v.ownBlock=ob at g;cases ob with
 |none=>exact Aa gR g
 |some q=>exact A9 gR g (.inr (Nat.le_trans hB (hrow.lt q hob).1))
theorem JZ{w1 w2:World}{B e size n b:Nat}{v:Value}{xs cs:List Value}{t:TypeId}(hrow:w1.ownsRow B e size v n xs)(hb:Blk w1 b cs t)(g:w1.grownBy w2 v.ownBlock)(hB:b<B):Blk w2 b cs t:=
 hb.gb g (fun e=>by have:=(hrow.lt b e.symm).1;omega)
section
variable {w:World}{r:List Bs}{h:Hd}{k:Fo}{p:List Bs}{pv:Value}{pa la ba:Option Addr}{pc lc bc:Nat}
theorem Sv(h8:h.op=8)(hr:RepL (fun _=>True) w (.slice la k.len lc) k)(hp:Cells w (.slice pa h.p.length pc) 1 h.p.length (h.p.map str) (fun _=>True))(hb:Cells w (.slice ba p.length bc) 1 p.length (p.map str) (fun _=>True))
 (E:∀a k2,k2.wt<k.wt→k2.nodes≤k.nodes→nX a k2≤k.nT→NmC a k2 r) (hn:k.nodes≤1000000) (hl:p.length+h.p.length≤8000000) (hre:r=p++h.p):
 Calls Tryz.prog 45 #[exV h (.slice pa h.p.length pc) (.slice la k.len lc),.slice ba p.length bc] w (E3 w (AT k r)):=by
 obtain⟨op,s,vk,vn,vs,q⟩:=h;simp only at h8 hp hl hre ⊢;subst h8;have gA:=World.grownBy_alloc w (.cells (hdC ⟨8,s,vk,vn,vs,q⟩ (.slice pa q.length pc) (.slice la k.len lc)).toArray 27 (0,0)) none;have HX:=O (Blk.new w (hdC ⟨8,s,vk,vn,vs,q⟩ (.slice pa q.length pc) (.slice la k.len lc)) 27);have HBC:=O (fun(W:World)(g:w.grownBy W none)=>hb.gb g (by simp));have HPC:=O (fun(W:World)(g:w.grownBy W none)=>hp.gb g (by simp));have H0:=O (Z hr (Z hn (Z gA (Z E hre))));obtain⟨i0,hi0,hz0,hz1,hz2⟩:=info_parts C0;have HI:=O (Z hi0 (Z hz0 (Z hz1 hz2)));have hb0:=HX.out;obtain⟨x_0,x_1,x_2,x_3,x_4,x_5,x_6,x_f⟩:=(hb0).c7;clear hr hn gA E hre hb hp hi0 hz0 hz1 hz2 hb0;have HL:=O hl;clear hl;go_enter func45,ntmps45;go_wp2_with fail;go_region_law(first
  | (refine Hz (by rfl) _ _ 24 (by rfl) (w.heap.size+1) 9 i0 (str []) 1 16 underlying24 HI.out.1 HI.out.2.1 HI.out.2.2.1 HI.out.2.2.2 rfl (by decide) (.slice none 0 0) 0 [] (by rfl) (World.ownsRow_nil _ _ _ _) (.slice ba p.length bc) p.length (p.map str) (fun _=>True) (by rfl) (HBC.out _ (by repeat(first| (with_reducible exact Ac _ _)| (with_reducible assumption)| (with_reducible exact AX (by assumption))| (with_reducible refine Ad ?_ _)| (with_reducible refine Am ?_)| (with_reducible refine Ay ?_ _)| ((with_reducible refine Az ?_ _ _ ?h2);case h2=>first|exact .inl rfl|exact .inr (Nat.le_refl _)|exact .inr (by simp<;>omega))| (with_reducible refine Ag ?_ (by assumption))| (with_reducible refine Aa ?_ (by assumption))))) (by intro u hu;obtain⟨c,_,rfl⟩:=List.mem_map.1 hu;rfl) (by have:=HL.out;unfold maxLen;omega) (by have:=HL.out;omega) (by simp) ?_;intro v1 w1 hown1 g1;have g1:World.grownBy _ w1 none:=g1;rw[Nat.zero_add,List.nil_append]at hown1;obtain⟨va,vc,rfl,_⟩:=id (AU hown1);have gW:w.grownBy w1 none:=Aa (by repeat(first| (with_reducible exact Ac _ _)| (with_reducible assumption)| (with_reducible exact AX (by assumption))| (with_reducible refine Ad ?_ _)| (with_reducible refine Am ?_)| (with_reducible refine Ay ?_ _)| ((with_reducible refine Az ?_ _ _ ?h2);case h2=>first|exact .inl rfl|exact .inr (Nat.le_refl _)|exact .inr (by simp<;>omega))| (with_reducible refine Ag ?_ (by assumption))| (with_reducible refine Aa ?_ (by assumption)))) g1;have hb1:=Blk.gb (Blk.gb HX.out (Ay (Ac _ none) 1) (by simp)) g1 (by simp);have hbl1:=hb1.lt;have HA:=O (Z hown1 gW);clear hown1 g1 gW;obtain⟨y_0,y_1,y_2,y_3,y_4,y_5,y_6,y_f⟩:=(hb1).c7;have HB1:=O hb1;clear hb1)
  | (refine Hz (by rfl) _ _ 24 (by rfl) (w.heap.size+1) 9 i0 (str []) 1 16 underlying24 HI.out.1 HI.out.2.1 HI.out.2.2.1 HI.out.2.2.2 rfl (by decide) (.slice va p.length vc) p.length (p.map str) (by rfl) HA.out.1 (.slice pa q.length pc) q.length (q.map str) (fun _=>True) (by rfl) (HPC.out _ HA.out.2) (by intro u hu;obtain⟨c,_,rfl⟩:=List.mem_map.1 hu;rfl) (by have:=HL.out;unfold maxLen;omega) (by have:=HL.out;omega) (Nat.succ_le_of_lt hbl1) ?_;intro v2 w2 hown2 g2;have hown2:w2.ownsRow (w.heap.size+1) 9 1 v2 r.length (r.map str):=(by rw[H0.out.2.2.2.2,List.length_append,List.map_append];exact hown2);obtain⟨vb,vd,rfl,_⟩:=id (AU hown2);have HA2:=O (Z hown2 g2);clear hown2 g2))
 all_goals
  have gW2:=Dq HA.out.1 HA.out.2 HA2.out.2 (by omega);have HB:=O (JZ HA.out.1 HB1.out HA2.out.2 (by omega));have HP:=O ((AU HA2.out.1).mono (ok':=fun _=>True) (fun _ _ _=>trivial));obtain⟨cs,hcs,hrf⟩:=H0.out.1.gb gW2 (by simp);obtain⟨_,_,e,_,hmx,_,hcc⟩:=hcs;cases e;have hmx2:k.len≤maxLen:=by omega
  unfold maxLen at hmx2;have HCC:=O hcc;have HR:=O hrf;have HE:=O H0.out.2.2.2.1;have HN:=O H0.out.2.1;have hn:=H0.out.2.1;have HG:=O gW2;have hwz:=gW2.size;clear hcc hrf gW2 y_0 y_1 y_2 y_3 y_4 y_5 y_6 y_f x_0 x_1 x_2 x_3 x_4 x_5 x_6 x_f HX HBC HPC HI HA HA2 H0 HL;go_wp2_with fail;go_loopg [5,6] k.len (fun n v5 v6 wr=>∃(rf:Fo)(xs:List Bs)(i:Nat),rf.len=n∧i+n=k.len∧v6= .int .i64 i∧wr.ownsRow w2.heap.size 9 1 v5 xs.length (xs.map str)∧xs.length+rf.nodes≤k.nodes∧xs++AT rf (r)=AT k (r)∧rf.wt≤k.wt∧rf.nodes≤k.nodes∧rf.nT≤k.nT∧RepF (fun _=>True) (w2) rf (cs.drop (i*7))∧World.grownBy (w2) wr none)
  case atStart=>exact⟨k,[],0,rfl,by omega,rfl,World.ownsRow_nil _ _ _ _,by simp,rfl,Nat.le_refl _,Nat.le_refl _,Nat.le_refl _,by simpa using HR.out,Ac _ _⟩
  case round=>
   obtain⟨rf,xs,i,hn,hk,rfl,hown,hxl,hxs,hwt,hnd,hnt,hrf,hgr⟩:=hrel;have hb1:=HB.out.gb hgr (by simp);have hbl:=hb1.lt;obtain⟨x_0,x_1,x_2,x_3,x_4,x_5,x_6,x_f⟩:=(hb1).c7;clear hb1 HR;cases rf with
   | nil=>
     have hkI:decide (i<k.len)=false:=by simp[Fo.len]at hn;simp;omega
     have HX:=O (Z (show xs=AT k (r)by rw[←hxs];simp[AT]) (Z hown hgr));clear hxs hown hgr hrf hn;go_wp2;go_ret;rw[←HX.out.1];exact⟨_,rfl,Fm HX.out.2.1 (by have hz:=(World.grownBy.size HG.out);first|omega| (simp at hz;omega)),Aa HG.out HX.out.2.2⟩
   | cons h1 k1 n1=>
     simp only[Fo.len]at hn;simp only[Fo.wt]at hwt;simp only[Fo.nodes]at hxl hnd;simp only[Fo.nT]at hnt;subst hn;have hkI:decide (i<k.len)=true:=by simp;omega
     have hkf:i+1≤k.len:=by omega
     obtain⟨g1,o1,pa1,pc1,lb1,ld1,rfl,hp1,hl1,hx1,hkid⟩:=C6 (k:=i) (n:=k.len) (lc:=lc) HCC.out hrf;have HE1:=O (HE.out h1 k1 (by omega) (by omega) (by show 10+2*h1.p.length+k1.nT≤k.nT;omega) wr pa1 lb1 _ pc1 ld1 _ (hp1.gb hgr (by simp)) (hl1.gb hgr (by simp)) (HP.out.gb hgr (by simp)));have hL:=GM h1 (r) k1;have hxs2:(xs++Ck h1 (r) (AT k1))++AT n1 (r)=AT k (r):=by rw[←hxs];simp[AT]
     generalize Ck h1 (r) (AT k1)=L at*;have hkn:=HN.out;have HN1:=O (Z (show n1.wt≤k.wt by omega) (Z (show n1.nodes≤k.nodes by omega) (Z (show n1.nT≤k.nT by omega) (Z hx1 (Z hgr (Z hown hxs2))))));have hkid2:=hkid.gb' hgr;have hgl:=hkid2.1;obtain⟨z0,z1,z2,z3,z4,z5,z6⟩:=hkid2.c7;clear hxs hwt hnd hnt hrf hp1 hl1 hx1 hown hxs2 hkid hkid2 hgr;go_wp2_with fail;refine HE1.out.mono ?_;rintro e w5 ⟨v,rfl,hov,g5⟩;have hown4:=HN1.out.2.2.2.2.2.1.kept g5 (by cases Value.ownBlock _ with|none=>exact .inl rfl|some _=>exact .inr (by simp));have hbs:w2.heap.size≤w5.heap.size:=by have:=Nat.le_trans (World.grownBy.size HN1.out.2.2.2.2.1) g5.size;simpa using this
     obtain⟨va,vc,rfl,_⟩:=id (AU hov);obtain⟨i0,hi0,hz0,hz1,hz2⟩:=info_parts C0;have hml:xs.length+L.length≤maxLen:=by unfold maxLen;omega
     have hyb:(xs.length+L.length)*16≤140737488355328:=by omega
     have HZ:=O (Z hi0 (Z hz0 (Z hz1 (Z hz2 (Z (AU hov) (Z hml (Z hown4 (Z hyb hbs))))))));have HW:=O g5;clear hi0 hz0 hz1 hz2 hml hown4 hyb hbs g5 hov x_0 x_1 x_2 x_3 x_4 x_5 x_6 x_f z0 z1 z2 z3 z4 z5 z6;go_wp2_with (at_builtin;(obtain⟨hi0,hz0,hz1,hz2,hcs,hml,hown4,hyb,hbs⟩:=HZ.out;refine Fu rfl _ _ 24 rfl w2.heap.size 9 i0 (str []) 1 16 underlying24 hi0 hz0 hz1 hz2 rfl (by decide) _ _ _ rfl hown4 (.slice va L.length vc) L.length (L.map str) _ rfl hcs (by intro u hu;obtain⟨c,_,rfl⟩:=List.mem_map.1 hu;rfl) hml hyb hbs ?_;intro v' w6 hown5 g7;clear hi0 hz0 hz1 hz2 hcs hml hyb hbs hown4;have HO5:=O (Z hown5 g7);clear hown5 g7));go_roundg n1.len
     case measure=>omega
     case rel=>
      have g8:=HO5.out.2;refine⟨n1,xs++L,i+1,rfl,by omega,by go_num,by rw[List.length_append,List.map_append];exact HO5.out.1,by rw[List.length_append];omega,HN1.out.2.2.2.2.2.2,HN1.out.1,HN1.out.2.1,HN1.out.2.2.1,HN1.out.2.2.2.1,?_⟩;have gR:=Aa HN1.out.2.2.2.2.1 HW.out;have hlow:=HN1.out.2.2.2.2.2.1;generalize hob:Value.ownBlock _=ob at g8;cases ob with
      |none=>exact Aa gR g8
      |some q=>exact A9 gR g8 (.inr (by have:=(hlow.lt q hob).1;simpa using this))
end
theorem Sw:∀(N:Nat)(h:Hd)(k:Fo)(p:List Bs),k.wt<N→k.nodes≤1000000→p.length+nX h k≤8000000→NmC h k p:=by
 intro N;induction N with
 |zero=>intro h k p hN;omega
 | succ N ih=>
   intro h k p hN hn hl W pa la ba pc lc bc hp hr hb;have g1:=Hx h k;have g2:10+2*h.p.length+k.nT=nX h k:=rfl;unfold Ck;by_cases h1:h.op=1
   ·rw[if_pos h1];exact R7 h1 hb
   rw[if_neg h1];by_cases h2:h.op=2
   ·rw[if_pos h2];exact R8 h2
   rw[if_neg h2];by_cases h8:h.op=8
   ·rw[if_pos h8];exact Sv h8 hr hp hb (fun a k2 hw hk hx=>ih a k2 (p++h.p) (by omega) (by omega) (by rw[List.length_append];omega)) hn (by omega) rfl
   rw[if_neg h8];exact Sy h1 h2 h8 hr hb (fun a k2 hw hk hx=>ih a k2 p (by omega) (by omega) (by omega)) hn
def DG(x:Ex):List Bs:=Ck x.h [] (AT x.kids)
theorem Ln{w:World}{v:Value}{x:Ex}{ok:Nat→Prop}(hx:VE ok w v x)(hn:x.kids.nodes≤1000000)(hf:nX x.h x.kids≤8000000):
 Calls Tryz.prog 45 #[v,.slice none 0 0] w (E3 w (DG x)):=by
 obtain⟨pa,pc,la,lc,rfl,hp,hl⟩:=hx;exact Sw _ x.h x.kids [] (Nat.lt_succ_self _) hn (by simpa using hf) w pa la none pc lc 0 (hp.mono fun _ _ _=>trivial) (hl.mono fun _ _ _=>trivial) (Cells.nil _ _ _)
end Go.Proofs.YtgjdhajcnechdaaGreatDoor
