/-
  Contracts of the parser: call, macro, braced. Contracts of the parser: braced, signed, named.
-/
import Derived.Test.YtgjdhajcnechdaaGreatDoorSw09
set_option linter.all false
set_option maxRecDepth 100000
set_option maxHeartbeats 8000000
namespace Go.Proofs.YtgjdhajcnechdaaGreatDoor
open Go.Proofs.Tryz
open Go.RowKit
section
variable {b:Nat}{tv wv:Value}{l:List Tok}{wl:List Bs}
theorem Post.split{w w':World}{α:Type}{V:World→Value→α→Prop}{r:Res α}{e:Ending}(h:Post b tv wv l wl w V r e w'):
 w.grownBy w' (some b)∧((∃q,r= .bad q∧e= .panicked (Fj q))∨∃x j v,r= .ok x j∧e= .returned v∧V w' v x∧Par w' b tv wv l wl j):=by
 obtain⟨g,h⟩:=h;cases r with
 |out=>exact h.elim
 |bad q=>exact⟨g,.inl ⟨q,rfl,h⟩⟩
 | ok x j=>
   obtain⟨v,h1,h2,h3⟩:=h;exact⟨g,.inr ⟨x,j,v,rfl,h1,h2,h3⟩⟩
variable {w wr w1:World}{L j k:Nat}{x y z:Ex}{pa la ya ma:Option Addr}{pc lc yc mc:Nat}
theorem Kept.new(hb:b<w.heap.size)(gr:w.grownBy wr (some b))(hz:Blk wr w.heap.size zeroE 27)(hp:Par wr b tv wv l wl j)
 (rp:Cells wr (.slice pa x.h.p.length pc) 1 x.h.p.length (x.h.p.map str) (fun g=>w.heap.size<g)) (rl:RepL (fun g=>w.heap.size<g) wr (.slice la x.kids.len lc) x.kids) {n:Nat} (hn:n=wr.heap.size):
 Kept b tv wv l wl w n (wr.alloc (.cells (hdC x.h (.slice pa x.h.p.length pc) (.slice la x.kids.len lc)).toArray 27 (0,0))) x pa pc la lc j:=by
 subst hn;have g:=World.grownBy_alloc wr (.cells (hdC x.h (.slice pa x.h.p.length pc) (.slice la x.kids.len lc)).toArray 27 (0,0)) none;have hz1:=hz.lt;have hp1:=hp.lt;refine⟨hp.alloc _,Blk.new wr _ _,(rp.mono ?_).gb g (by simp),(rl.mono ?_).gb g (by simp),Ad gr _,hp1,hz1,hz.alloc _⟩;all_goals
  intro q hq hq2;exact⟨hq,by omega⟩
theorem Kept.leaf(hb:b<w.heap.size)(gr:w.grownBy wr (some b))(hz:Blk wr w.heap.size zeroE 27)(hp:Par wr b tv wv l wl j)(op:Int)(s:Bs){n:Nat}(hn:n=wr.heap.size):
 Kept b tv wv l wl w n (wr.alloc (.cells (hdC (hd0 op s) (.slice none 0 0) (.slice none 0 0)).toArray 27 (0,0))) ⟨hd0 op s,.nil⟩ none 0 none 0 j:=
 Kept.new (x:=⟨hd0 op s,.nil⟩) (pa:=none) (pc:=0) (la:=none) (lc:=0) hb gr hz hp (Cells.nil _ _ _) (RepL.nil _ _) hn
theorem Kept.one(hb:b<w.heap.size)(gr:w.grownBy wr (some b))(hz:Blk wr w.heap.size zeroE 27)(hp:Par wr b tv wv l wl j)(op:Int)(s:Bs)
 (zp:Cells wr (.slice ya z.h.p.length yc) 1 z.h.p.length (z.h.p.map str) (fun g=>w.heap.size<g)) (zl:RepL (fun g=>w.heap.size<g) wr (.slice ma z.kids.len mc) z.kids):
 Kept b tv wv l wl w (wr.heap.size+1) ((wr.alloc (.cells (hdC z.h (.slice ya z.h.p.length yc) (.slice ma z.kids.len mc)).toArray 27 (0,0))).alloc (.cells (hdC (hd0 op s) (.slice none 0 0) (.slice (some ⟨wr.heap.size,0,none⟩) 1 1)).toArray 27 (0,0)))
  ⟨hd0 op s,.one z⟩ none 0 (some ⟨wr.heap.size,0,none⟩) 1 j:=
 Kept.new (x:=⟨hd0 op s,.one z⟩) (pa:=none) (pc:=0) (lc:=1) hb (Ad gr _) (hz.alloc _) (hp.alloc _) (Cells.nil _ _ _) (RepL.one rfl (by have:=hz.lt;show w.heap.size<_;omega) zp zl) (by simp)
theorem Kept.kid1(h:Kept b tv wv l wl w L wr x pa pc la lc j)(hb:b<w.heap.size)(zp:Cells wr (.slice ya z.h.p.length yc) 1 z.h.p.length (z.h.p.map str) (but w L))(zl:RepL (but w L) wr (.slice ma z.kids.len mc) z.kids):
 Kept b tv wv l wl w L ((wr.setCell ⟨L,6,none⟩ (.slice (some ⟨wr.heap.size,0,none⟩) 1 1)).alloc (.cells (hdC z.h (.slice ya z.h.p.length yc) (.slice ma z.kids.len mc)).toArray 27 (0,0)))
  ⟨x.h,.one z⟩ pa pc (some ⟨wr.heap.size,0,none⟩) 1 j:=by
 have g7:wr.grownBy (wr.setCell ⟨L,6,none⟩ (.slice (some ⟨wr.heap.size,0,none⟩) 1 1)) (some L):=Az (Ac _ _) _ _ (.inl rfl);have hsz:(wr.setCell ⟨L,6,none⟩ (.slice (some ⟨wr.heap.size,0,none⟩) 1 1)).heap.size=wr.heap.size:=by simp
 have hbL:=h.bL;have hwL:=h.wL;have hlt:=h.blk.lt;have hk:∀q,but w L q→q<wr.heap.size→some q≠some L:=fun q hq _ e=>by cases e;exact hq.2 rfl
 exact⟨(h.par.gb g7 (by intro q e;cases e;exact hbL)).alloc _,((h.blk.set 6 _).of_eq rfl rfl).alloc _,(h.rp.gb g7 hk).gb (World.grownBy_alloc _ _ none) (by simp),RepL.one hsz.symm ⟨by omega,by omega⟩ (zp.gb g7 hk) (zl.gb g7 hk),Ad (A9 h.gr g7 (.inr (by omega))) _,hbL,hwL,(h.zero.gb g7 (by simp;omega)).alloc _⟩
theorem Ha{L:Nat}(i:Nat)(v:Value):wr.grownBy (wr.setCell ⟨L,i,none⟩ v) (some L):=Az (Ac _ _) _ _ (.inl rfl)
theorem Kept.kids(h:Kept b tv wv l wl w L wr x pa pc la lc j)(hb:b<w.heap.size){f:Fo}(rl:RepL (but w L) wr (.slice ma f.len mc) f):
 Kept b tv wv l wl w L (wr.setCell ⟨L,6,none⟩ (.slice ma f.len mc)) ⟨x.h,f⟩ pa pc ma mc j:=by
 have g7:wr.grownBy (wr.setCell ⟨L,6,none⟩ (.slice ma f.len mc)) (some L):=Ha 6 _;have hbL:=h.bL;have hwL:=h.wL;have hlt:=h.blk.lt;have hk:∀q,but w L q→q<wr.heap.size→some q≠some L:=fun q hq _ e=>by cases e;exact hq.2 rfl
 exact⟨h.par.gb g7 (by intro q e;cases e;exact hbL),(h.blk.set 6 _).of_eq rfl rfl,h.rp.gb g7 hk,rl.gb g7 hk,A9 h.gr g7 (.inr (by omega)),hbL,hwL,h.zero.gb g7 (by simp;omega)⟩
theorem Kept.names(h:Kept b tv wv l wl w L wr x pa pc la lc j)(hb:b<w.heap.size){p:List Bs}(rp:Cells wr (.slice ma p.length mc) 1 p.length (p.map str) (but w L)):
 Kept b tv wv l wl w L (wr.setCell ⟨L,5,none⟩ (.slice ma p.length mc)) ⟨{x.h with p:=p},x.kids⟩ ma mc la lc j:=by
 have g7:wr.grownBy (wr.setCell ⟨L,5,none⟩ (.slice ma p.length mc)) (some L):=Ha 5 _;have hbL:=h.bL;have hwL:=h.wL;have hlt:=h.blk.lt;have hk:∀q,but w L q→q<wr.heap.size→some q≠some L:=fun q hq _ e=>by cases e;exact hq.2 rfl
 exact⟨h.par.gb g7 (by intro q e;cases e;exact hbL),(h.blk.set 5 _).of_eq rfl rfl,rp.gb g7 hk,h.rl.gb g7 hk,A9 h.gr g7 (.inr (by omega)),hbL,hwL,h.zero.gb g7 (by simp;omega)⟩
theorem Kept.op(h:Kept b tv wv l wl w L wr x pa pc la lc j)(hb:b<w.heap.size)(op:Int):
 Kept b tv wv l wl w L (wr.setCell ⟨L,0,none⟩ (.int .i64 op)) ⟨{x.h with op:=op},x.kids⟩ pa pc la lc j:=by
 have g7:wr.grownBy (wr.setCell ⟨L,0,none⟩ (.int .i64 op)) (some L):=Ha 0 _;have hbL:=h.bL;have hwL:=h.wL;have hlt:=h.blk.lt;have hk:∀q,but w L q→q<wr.heap.size→some q≠some L:=fun q hq _ e=>by cases e;exact hq.2 rfl
 exact⟨h.par.gb g7 (by intro q e;cases e;exact hbL),(h.blk.set 0 _).of_eq rfl rfl,h.rp.gb g7 hk,h.rl.gb g7 hk,A9 h.gr g7 (.inr (by omega)),hbL,hwL,h.zero.gb g7 (by simp;omega)⟩
theorem P2{E:Nat→Res Ex}(hE:CE 67 b tv wv l wl E)(hgo:Ej E)(hl:CD l)(n:Nat):CE 221 b tv wv l wl (C4 l E n):=by
 intro w i hp ho;have hb:=hp.lt;have gr:w.grownBy (w.alloc (.cells zeroE.toArray 27 (0,0))) (some b):=Ad (Ac _ _) _;have hz:=Blk.new w zeroE 27;replace hp:=hp.alloc (.cells zeroE.toArray 27 (0,0));have H:=O (Z hE (Z hgo (Z hl ho)));generalize hR:C4 l E n i=R at*;have HQ:=O hR;rw[C4]at HQ;clear hE hgo hl ho hR;go_enter func221,ntmps221;go_wp2_with fail;refine(Dz hp H.out.2.2.1).mono ?_;intro e w1 hq;obtain⟨g,⟨q,hr,rfl⟩| ⟨s,j,v,hr,rfl,rfl,hp⟩⟩:=hq.split
 ·exact⟨rfl,Post.bad (Aa gr g) (by rw[←HQ.out,hr];rfl)⟩
 replace gr:=Aa gr g;replace HQ:=HQr HQ (by rw[hr,Res.bind_ok]);clear hr;have hk:=Kept.leaf hb gr (hz.gb g (by simp;omega)) hp 3 s rfl;have HK:=O hk;have hs1:=hk.blk.lt;clear hk g hz;go_wp2_with fail;replace gr:=HK.out.gr;refine(CA HK.out.par [40]).mono ?_;intro e w2 hq;obtain⟨g,⟨q,hr,rfl⟩| ⟨_,j2,v,hr,rfl,rfl,hp⟩⟩:=hq.split
 ·exact⟨rfl,Post.bad (Aa gr g) (by rw[←HQ.out,hr];rfl)⟩
 replace gr:=Aa gr g;replace HQ:=HQr HQ (by rw[hr,Res.bind_ok]);clear hr;have hk:=HK.out.gb hb g hp;cases hs:Ae (Ab l j2) [41]with
 | true=>
   replace HQ:=HQr HQ (by rw[if_pos hs]);go_wp2_with fail;refine(B1 hp _ hs).mono ?_;rintro e w3 ⟨rfl,hp,g⟩;replace hk:=hk.gb hb g hp;have hL:=hk.blk;have hZ:=hk.zero;have hwL:=hk.wL;have HK:=O hk;clear hk hp;obtain⟨cl_0,cl_1,cl_2,cl_3,cl_4,cl_5,cl_6,cl_f⟩:=(hL).c7;obtain⟨cz_0,cz_1,cz_2,cz_3,cz_4,cz_5,cz_6,cz_f⟩:=(hZ).c7;go_wp2;have hk:=HK.out;exact bodyPost_ret (Al rfl _ (hZ.set7 _ _ _ _ _ _ _) rfl) rfl (Bj hb HQ.out.symm hk.gr ⟨_,_,_,_,rfl,hk.rp,hk.rl⟩ (by intro k hk;exact hk.1) hk.par (Ah _ _ _ _ _ _ _ _ _))
 | false=>
   replace HQ:=HQr HQ (by rw[if_neg (ne_true_of_eq_false hs)]);go_wp2_with fail;refine(Bu hp _ hs).mono ?_;rintro e w3 ⟨rfl,g⟩;replace hk:=hk.gbN hb g;replace hp:=hk.par;replace gr:=hk.gr;have hlt:=hk.blk.lt;have hwL:=hk.wL;go_wp2_with fail;refine(JD H.out.1 H.out.2.1 hp n (fun e=>H.out.2.2.2 (by rw[←HQ.out,e];rfl))).mono ?_;intro e w4 hq;obtain⟨g,⟨q,hr,rfl⟩| ⟨f,j3,v,hr,rfl,⟨ma,mc,rfl,rl⟩,hp⟩⟩:=hq.split
   ·exact⟨rfl,Post.bad (Aa gr g) (by rw[←HQ.out,hr];rfl)⟩
   replace gr:=Aa gr g;replace HQ:=HQr HQ (by rw[hr,Res.bind_ok]);clear hr;replace hk:=hk.gb hb g hp;have hk2:=hk.kids hb (rl.mono fun g hg _=>(⟨by have:w3.heap.size≤g:=hg;omega,by have:w3.heap.size≤g:=hg;omega⟩:but w w1.heap.size g));have hL:=hk.blk;obtain⟨cl_0,cl_1,cl_2,cl_3,cl_4,cl_5,cl_6,cl_f⟩:=(hL).c7;clear hk rl;go_wp2_with fail;replace gr:=hk2.gr;refine(CA hk2.par [41]).mono ?_;intro e w5 hq;obtain⟨g,⟨q,hr,rfl⟩| ⟨_,j4,v,hr,rfl,rfl,hp⟩⟩:=hq.split
   ·exact⟨rfl,Post.bad (Aa gr g) (by rw[←HQ.out,hr];rfl)⟩
   replace gr:=Aa gr g;replace HQ:=HQr HQ (by rw[hr,Res.bind_ok]);clear hr;have hk:=hk2.gb hb g hp;clear cl_0 cl_1 cl_2 cl_3 cl_4 cl_5 cl_6 cl_f hk2 hL g;have hL:=hk.blk;have hZ:=hk.zero;have hwL:=hk.wL;have HK:=O hk;clear hk hp;obtain⟨cl_0,cl_1,cl_2,cl_3,cl_4,cl_5,cl_6,cl_f⟩:=(hL).c7;obtain⟨cz_0,cz_1,cz_2,cz_3,cz_4,cz_5,cz_6,cz_f⟩:=(hZ).c7;go_wp2;have hk:=HK.out;exact bodyPost_ret (Al rfl _ (hZ.set7 _ _ _ _ _ _ _) rfl) rfl (Bj hb HQ.out.symm hk.gr ⟨_,_,_,_,rfl,hk.rp,hk.rl⟩ (by intro k hk;exact hk.1) hk.par (Ah _ _ _ _ _ _ _ _ _))
theorem IU{E:Nat→Res Ex}(hE:CE 67 b tv wv l wl E)(hl:CD l):CE 258 b tv wv l wl (Co l E):=by
 intro w i hp ho;have hb:=hp.lt;have gr:w.grownBy (w.alloc (.cells zeroE.toArray 27 (0,0))) (some b):=Ad (Ac _ _) _;have hz:=Blk.new w zeroE 27;replace hp:=hp.alloc (.cells zeroE.toArray 27 (0,0));have H:=O (Z hE (Z hl ho));generalize hR:Co l E i=R at*;have HQ:=O hR;rw[Co]at HQ;clear hE hl ho hR;go_enter func258,ntmps258;go_wp2_with fail;refine(CA hp [38]).mono ?_;intro e w1 hq;obtain⟨g,⟨q,hr,rfl⟩| ⟨_,j,v,hr,rfl,rfl,hp⟩⟩:=hq.split
 ·exact⟨rfl,Post.bad (Aa gr g) (by rw[←HQ.out,hr];rfl)⟩
 replace gr:=Aa gr g;replace HQ:=HQr HQ (by rw[hr,Res.bind_ok]);clear hr;replace hz:=hz.gb g (by simp;omega);cases hs:Ae (Ab l j) [40]with
 | true=>
   replace HQ:=HQr HQ (by rw[if_pos hs]);go_wp2_with fail;refine(B1 hp _ hs).mono ?_;rintro e w2 ⟨rfl,hp,g⟩;replace hz:=hz.gb g (by simp;omega);replace gr:=Aa gr g;have hs2:=hz.lt;clear g;go_wp2_with fail;refine(H.out.1 _ _ hp (fun e=>H.out.2.2 (by rw[←HQ.out,e];rfl))).mono ?_;intro e w3 hq;obtain⟨g,⟨q,hr,rfl⟩| ⟨x,j2,v,hr,rfl,⟨pa,pc,la,lc,rfl,rp,rl⟩,hp⟩⟩:=hq.split
   ·exact⟨rfl,Post.bad (Aa gr g) (by rw[←HQ.out,hr];rfl)⟩
   replace gr:=Aa gr g;replace HQ:=HQr HQ (by rw[hr,Res.bind_ok]);clear hr;replace hz:=hz.gb g (by simp;omega);have hk:=Kept.one hb gr hz hp 9 [] (rp.mono fun g hg _=>by have:w2.heap.size≤g:=hg;show w.heap.size<g;omega) (rl.mono fun g hg _=>by have:w2.heap.size≤g:=hg;show w.heap.size<g;omega);clear rp rl hz g;go_wp2_with fail;replace gr:=hk.gr;refine(CA hk.par [41]).mono ?_;intro e w4 hq;obtain⟨g,⟨q,hr,rfl⟩| ⟨_,j3,v,hr,rfl,rfl,hp⟩⟩:=hq.split
   ·exact⟨rfl,Post.bad (Aa gr g) (by rw[←HQ.out,hr];rfl)⟩
   replace gr:=Aa gr g;replace HQ:=HQr HQ (by rw[hr,Res.bind_ok]);clear hr;replace hk:=hk.gb hb g hp;clear g;have hL:=hk.blk;have hZ:=hk.zero;have hwL:=hk.wL;have HK:=O hk;clear hk hp;obtain⟨cl_0,cl_1,cl_2,cl_3,cl_4,cl_5,cl_6,cl_f⟩:=(hL).c7;obtain⟨cz_0,cz_1,cz_2,cz_3,cz_4,cz_5,cz_6,cz_f⟩:=(hZ).c7;go_wp2;have hk:=HK.out;exact bodyPost_ret (Al rfl _ (hZ.set7 _ _ _ _ _ _ _) rfl) rfl (Bj hb HQ.out.symm hk.gr ⟨_,_,_,_,rfl,hk.rp,hk.rl⟩ (by intro k hk;exact hk.1) hk.par (Ah _ _ _ _ _ _ _ _ _))
 | false=>
   replace HQ:=HQr HQ (by rw[if_neg (ne_true_of_eq_false hs)]);go_wp2_with fail;refine(Bu hp _ hs).mono ?_;rintro e w2 ⟨rfl,g⟩;replace hz:=hz.gb g (by simp);replace gr:=Ag gr g;replace hp:=hp.gbN g;clear g;go_wp2_with fail;refine(Dz hp H.out.2.1).mono ?_;intro e w3 hq;obtain⟨g,⟨q,hr,rfl⟩| ⟨s,j2,v,hr,rfl,rfl,hp⟩⟩:=hq.split
   ·exact⟨rfl,Post.bad (Aa gr g) (by rw[←HQ.out,hr];rfl)⟩
   replace gr:=Aa gr g;replace HQ:=HQr HQ (by rw[hr,Res.bind_ok]);clear hr;replace hz:=hz.gb g (by simp;omega);have hk:=Kept.leaf hb gr hz hp 9 s rfl;clear hz g;have hs3:=hk.blk.lt;cases hs:Ae (Ab l j2) [46]with
   | true=>
     replace HQ:=HQr HQ (by rw[if_pos hs]);go_wp2_with fail;refine(B1 hk.par _ hs).mono ?_;rintro e w4 ⟨rfl,hp,g⟩;replace hk:=hk.gb hb g hp;have hL:=hk.blk;have hZ:=hk.zero;have hwL:=hk.wL;have HK:=O hk;clear hk hp;obtain⟨cl_0,cl_1,cl_2,cl_3,cl_4,cl_5,cl_6,cl_f⟩:=(hL).c7;obtain⟨cz_0,cz_1,cz_2,cz_3,cz_4,cz_5,cz_6,cz_f⟩:=(hZ).c7;go_wp2;have hk:=HK.out;exact bodyPost_ret (Al rfl _ (hZ.set7 _ _ _ _ _ _ _) rfl) rfl (Bj hb HQ.out.symm hk.gr ⟨_,_,_,_,rfl,hk.rp,hk.rl⟩ (by intro k hk;exact hk.1) hk.par (Ah _ _ _ _ _ _ _ _ _))
   | false=>
     replace HQ:=HQr HQ (by rw[if_neg (ne_true_of_eq_false hs)]);go_wp2_with fail;refine(Bu hk.par _ hs).mono ?_;rintro e w4 ⟨rfl,g⟩;replace hk:=hk.gbN hb g;have hL:=hk.blk;have hZ:=hk.zero;have hwL:=hk.wL;have HK:=O hk;clear hk hp;obtain⟨cl_0,cl_1,cl_2,cl_3,cl_4,cl_5,cl_6,cl_f⟩:=(hL).c7;obtain⟨cz_0,cz_1,cz_2,cz_3,cz_4,cz_5,cz_6,cz_f⟩:=(hZ).c7;go_wp2;have hk:=HK.out;exact bodyPost_ret (Al rfl _ (hZ.set7 _ _ _ _ _ _ _) rfl) rfl (Bj hb HQ.out.symm hk.gr ⟨_,_,_,_,rfl,hk.rp,hk.rl⟩ (by intro k hk;exact hk.1) hk.par (Ah _ _ _ _ _ _ _ _ _))
end
section
variable {b:Nat}{tv wv:Value}{l:List Tok}{wl:List Bs}
theorem Res.bind_assoc{α β γ:Type}(r:Res α)(f:α→Nat→Res β)(g:β→Nat→Res γ):(r.bind f).bind g=r.bind fun a i=>(f a i).bind g:=by cases r<;>rfl
theorem Nn{E:Nat→Res Ex}(hE:CE 67 b tv wv l wl E)(hgo:Ej E)(hl:CD l)(n:Nat):CE 313 b tv wv l wl (Cp l E n):=by
 intro w i hp ho;have hb:=hp.lt;have gr:w.grownBy (w.alloc (.cells zeroE.toArray 27 (0,0))) (some b):=Ad (Ac _ _) _;have hz:=Blk.new w zeroE 27;replace hp:=hp.alloc (.cells zeroE.toArray 27 (0,0));have H:=O (Z hE (Z hgo (Z hl ho)));generalize hR:Cp l E n i=R at*;have HQ:=O hR;rw[Cp]at HQ;have hk:=Kept.leaf (n:=w.heap.size+1) hb gr hz hp 7 [] (by simp);clear hE hgo hl ho hR hz gr;go_enter func313,ntmps313;go_wp2_with fail;cases hs:Ae (Ab l i) [124]with
 | true=>
   replace HQ:=HQr HQ (by rw[if_pos hs]);refine(B1 hk.par _ hs).mono ?_;rintro e w1 ⟨rfl,hp,g⟩;replace hk:=hk.gb hb g hp;have hk8:=hk.op hb 8;have hL:=hk.blk;obtain⟨cl_0,cl_1,cl_2,cl_3,cl_4,cl_5,cl_6,cl_f⟩:=(hL).c7;have hlt:=hL.lt;clear hk g;cases hs:Ae (Ab l (i+1)) [124]with
   | true=>
     replace HQ:=HQr HQ (by rw[if_pos hs]);replace HQ:=HQr HQ (by rw[Res.bind_ok]);go_wp2_with fail;refine(B1 hk8.par _ hs).mono ?_;rintro e w2 ⟨rfl,hp,g⟩;have hk:=hk8.gb hb g hp;clear cl_0 cl_1 cl_2 cl_3 cl_4 cl_5 cl_6 cl_f hL;clear hk8 g hp hlt;have hp:=hk.par;have gr:=hk.gr;have hltW:=hk.blk.lt;have hwL:=hk.wL;go_wp2_with fail;refine(H.out.1 _ _ hp (fun e=>H.out.2.2.2 (by rw[←HQ.out,e];rfl))).mono ?_;intro e wx hq;obtain⟨g,⟨q,hr,rfl⟩| ⟨x,jx,v,hr,rfl,⟨pa,pc,la,lc,rfl,rp,rl⟩,hp⟩⟩:=hq.split
     ·exact⟨rfl,Post.bad (Aa gr g) (by rw[←HQ.out,hr];rfl)⟩
     replace gr:=Aa gr g;replace HQ:=HQr HQ (by rw[hr,Res.bind_ok]);clear hr;replace hk:=hk.gb hb g hp;have HK1:=O (hk.kid1 hb (rp.mono fun g hg _=>(⟨by have:_≤g:=hg;omega,by have:_≤g:=hg;omega⟩:but w _ g)) (rl.mono fun g hg _=>(⟨by have:_≤g:=hg;omega,by have:_≤g:=hg;omega⟩:but w _ g)));have hL:=hk.blk;obtain⟨cl_0,cl_1,cl_2,cl_3,cl_4,cl_5,cl_6,cl_f⟩:=(hL).c7;have hlt:=hL.lt;clear hk rp rl g;go_wp2_with fail;have hk:=HK1.out;replace gr:=hk.gr;refine(CA hk.par [125]).mono ?_;intro e wy hq;obtain⟨g,⟨q,hr,rfl⟩| ⟨_,jy,v,hr,rfl,rfl,hp⟩⟩:=hq.split
     ·exact⟨rfl,Post.bad (Aa gr g) (by rw[←HQ.out,hr];rfl)⟩
     replace gr:=Aa gr g;replace HQ:=HQr HQ (by rw[hr,Res.bind_ok]);clear hr;replace hk:=hk.gb hb g hp;clear cl_0 cl_1 cl_2 cl_3 cl_4 cl_5 cl_6 cl_f hL;clear g HK1 hlt;have hL:=hk.blk;have hZ:=hk.zero;have hwL:=hk.wL;have HK:=O hk;clear hk hp;obtain⟨cl_0,cl_1,cl_2,cl_3,cl_4,cl_5,cl_6,cl_f⟩:=(hL).c7;obtain⟨cz_0,cz_1,cz_2,cz_3,cz_4,cz_5,cz_6,cz_f⟩:=(hZ).c7;go_wp2;have hk:=HK.out;exact bodyPost_ret (Al rfl _ (hZ.set7 _ _ _ _ _ _ _) rfl) rfl (Bj hb HQ.out.symm hk.gr ⟨_,_,_,_,rfl,hk.rp,hk.rl⟩ (by intro k hk;exact hk.1) hk.par (Ah _ _ _ _ _ _ _ _ _))
   | false=>
     replace HQ:=HQr HQ (by rw[if_neg (ne_true_of_eq_false hs)]);replace HQ:=HQr HQ (by rw[Res.bind_assoc]);go_wp2_with fail;refine(Bu hk8.par _ hs).mono ?_;rintro e w2 ⟨rfl,g⟩;have hk:=hk8.gbN hb g;clear cl_0 cl_1 cl_2 cl_3 cl_4 cl_5 cl_6 cl_f hL;clear hk8 g hp hlt;have hp:=hk.par;have gr:=hk.gr;have hltW:=hk.blk.lt;have hwL:=hk.wL;go_wp2_with fail;refine(Pp hp H.out.2.2.1 n (fun e=>H.out.2.2.2 (by rw[←HQ.out,e];rfl))).mono ?_;intro e w3 hq;obtain⟨g,⟨q,hr,rfl⟩| ⟨p,j3,v,hr,rfl,⟨ma,mc,rfl,rp⟩,hp⟩⟩:=hq.split
     ·exact⟨rfl,Post.bad (Aa gr g) (by rw[←HQ.out,hr];rfl)⟩
     replace gr:=Aa gr g;replace HQ:=HQr HQ (by rw[hr,Res.bind_ok]);clear hr;replace hk:=hk.gb hb g hp;have hk2:=hk.names hb (rp.mono fun g hg _=>(⟨by have:w2.heap.size≤g:=hg;omega,by have:w2.heap.size≤g:=hg;omega⟩:but w (w.heap.size+1) g));have hL:=hk.blk;obtain⟨cl_0,cl_1,cl_2,cl_3,cl_4,cl_5,cl_6,cl_f⟩:=(hL).c7;have hlt:=hL.lt;clear hk rp g;go_wp2_with fail;replace gr:=hk2.gr;replace HQ:=HQr HQ (by rw[Res.bind_assoc]);refine(CA hk2.par [124]).mono ?_;intro e w4 hq;obtain⟨g,⟨q,hr,rfl⟩| ⟨_,j4,v,hr,rfl,rfl,hp⟩⟩:=hq.split
     ·exact⟨rfl,Post.bad (Aa gr g) (by rw[←HQ.out,hr];rfl)⟩
     replace gr:=Aa gr g;replace HQ:=HQr HQ (by rw[hr,Res.bind_ok]);clear hr;replace HQ:=HQr HQ (by rw[Res.bind_ok]);have hk:=hk2.gb hb g hp;clear cl_0 cl_1 cl_2 cl_3 cl_4 cl_5 cl_6 cl_f hL;clear hk2 g hp gr hltW hwL hlt;have hp:=hk.par;have gr:=hk.gr;have hltW:=hk.blk.lt;have hwL:=hk.wL;go_wp2_with fail;refine(H.out.1 _ _ hp (fun e=>H.out.2.2.2 (by rw[←HQ.out,e];rfl))).mono ?_;intro e wx hq;obtain⟨g,⟨q,hr,rfl⟩| ⟨x,jx,v,hr,rfl,⟨pa,pc,la,lc,rfl,rp,rl⟩,hp⟩⟩:=hq.split
     ·exact⟨rfl,Post.bad (Aa gr g) (by rw[←HQ.out,hr];rfl)⟩
     replace gr:=Aa gr g;replace HQ:=HQr HQ (by rw[hr,Res.bind_ok]);clear hr;replace hk:=hk.gb hb g hp;have HK1:=O (hk.kid1 hb (rp.mono fun g hg _=>(⟨by have:_≤g:=hg;omega,by have:_≤g:=hg;omega⟩:but w _ g)) (rl.mono fun g hg _=>(⟨by have:_≤g:=hg;omega,by have:_≤g:=hg;omega⟩:but w _ g)));have hL:=hk.blk;obtain⟨cl_0,cl_1,cl_2,cl_3,cl_4,cl_5,cl_6,cl_f⟩:=(hL).c7;have hlt:=hL.lt;clear hk rp rl g;go_wp2_with fail;have hk:=HK1.out;replace gr:=hk.gr;refine(CA hk.par [125]).mono ?_;intro e wy hq;obtain⟨g,⟨q,hr,rfl⟩| ⟨_,jy,v,hr,rfl,rfl,hp⟩⟩:=hq.split
     ·exact⟨rfl,Post.bad (Aa gr g) (by rw[←HQ.out,hr];rfl)⟩
     replace gr:=Aa gr g;replace HQ:=HQr HQ (by rw[hr,Res.bind_ok]);clear hr;replace hk:=hk.gb hb g hp;clear cl_0 cl_1 cl_2 cl_3 cl_4 cl_5 cl_6 cl_f hL;clear g HK1 hlt;have hL:=hk.blk;have hZ:=hk.zero;have hwL:=hk.wL;have HK:=O hk;clear hk hp;obtain⟨cl_0,cl_1,cl_2,cl_3,cl_4,cl_5,cl_6,cl_f⟩:=(hL).c7;obtain⟨cz_0,cz_1,cz_2,cz_3,cz_4,cz_5,cz_6,cz_f⟩:=(hZ).c7;go_wp2;have hk:=HK.out;exact bodyPost_ret (Al rfl _ (hZ.set7 _ _ _ _ _ _ _) rfl) rfl (Bj hb HQ.out.symm hk.gr ⟨_,_,_,_,rfl,hk.rp,hk.rl⟩ (by intro k hk;exact hk.1) hk.par (Ah _ _ _ _ _ _ _ _ _))
 | false=>
   replace HQ:=HQr HQ (by rw[if_neg (ne_true_of_eq_false hs)]);refine(Bu hk.par _ hs).mono ?_;rintro e w3 ⟨rfl,g⟩;replace hk:=hk.gbN hb g;replace hp:=hk.par;have gr:=hk.gr;have hlt:=hk.blk.lt;have hwL:=hk.wL;go_wp2_with fail;refine(JD H.out.1 H.out.2.1 hp n (fun e=>H.out.2.2.2 (by rw[←HQ.out,e];rfl))).mono ?_;intro e w4 hq;obtain⟨g,⟨q,hr,rfl⟩| ⟨f,j3,v,hr,rfl,⟨ma,mc,rfl,rl⟩,hp⟩⟩:=hq.split
   ·exact⟨rfl,Post.bad (Aa gr g) (by rw[←HQ.out,hr];rfl)⟩
   replace gr:=Aa gr g;replace HQ:=HQr HQ (by rw[hr,Res.bind_ok]);clear hr;replace hk:=hk.gb hb g hp;have hk2:=hk.kids hb (rl.mono fun g hg _=>(⟨by have:w3.heap.size≤g:=hg;omega,by have:w3.heap.size≤g:=hg;omega⟩:but w (w.heap.size+1) g));have hL:=hk.blk;obtain⟨cl_0,cl_1,cl_2,cl_3,cl_4,cl_5,cl_6,cl_f⟩:=(hL).c7;have hlt:=hL.lt;clear hk rl;go_wp2_with fail;replace gr:=hk2.gr;refine(CA hk2.par [125]).mono ?_;intro e w5 hq;obtain⟨g,⟨q,hr,rfl⟩| ⟨_,j4,v,hr,rfl,rfl,hp⟩⟩:=hq.split
   ·exact⟨rfl,Post.bad (Aa gr g) (by rw[←HQ.out,hr];rfl)⟩
   replace gr:=Aa gr g;replace HQ:=HQr HQ (by rw[hr,Res.bind_ok]);clear hr;have hk:=hk2.gb hb g hp;clear cl_0 cl_1 cl_2 cl_3 cl_4 cl_5 cl_6 cl_f hL;clear hk2 g;have hL:=hk.blk;have hZ:=hk.zero;have hwL:=hk.wL;have HK:=O hk;clear hk hp;obtain⟨cl_0,cl_1,cl_2,cl_3,cl_4,cl_5,cl_6,cl_f⟩:=(hL).c7;obtain⟨cz_0,cz_1,cz_2,cz_3,cz_4,cz_5,cz_6,cz_f⟩:=(hZ).c7;go_wp2;have hk:=HK.out;exact bodyPost_ret (Al rfl _ (hZ.set7 _ _ _ _ _ _ _) rfl) rfl (Bj hb HQ.out.symm hk.gr ⟨_,_,_,_,rfl,hk.rp,hk.rl⟩ (by intro k hk;exact hk.1) hk.par (Ah _ _ _ _ _ _ _ _ _))
end
end Go.Proofs.YtgjdhajcnechdaaGreatDoor
