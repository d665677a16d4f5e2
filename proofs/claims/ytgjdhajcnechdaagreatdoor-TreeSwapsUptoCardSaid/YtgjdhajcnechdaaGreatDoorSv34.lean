/-
  Sizes of statements that set a value: ofStmt. Sizes of a program of one statement that sets a value: ofStmts, ofProcs; isTwice at one procedure. Sizes of a program of one statement that sets a value: 
-/
import Derived.Test.YtgjdhajcnechdaaGreatDoorSv31
import Derived.Lib.MapLaws
set_option linter.all false
set_option maxRecDepth 100000
set_option maxHeartbeats 8000000
namespace Go.Proofs.YtgjdhajcnechdaaGreatDoor
open Go.Proofs.Tryz
open Go.RowKit
structure SzS(ok:Nat→Prop)(w v:World)(la:Option Addr)(lc:Nat)(f rest:Fo)(cs:List Value)(k n m:Nat)(wr:World):Prop where
 len:f.len=k+rest.len
 row:RepF ok v rest (cs.drop (k*7))
 nodes:n+rest.nodes=1+f.nodes
 levels:max m (1+rest.levels)=1+f.levels
 pos:1≤m∧1≤n
 st:Blk wr w.heap.size (stC 0 (.slice la 2 lc)) 56
 acc:Blk wr (w.heap.size+2) [.int .i64 n,.int .i64 m] 61
 res:Blk wr (w.heap.size+1) [.int .i64 0,.int .i64 0] 61
 g:w.grownBy wr none
 gv:v.grownBy wr (some (w.heap.size+2))
theorem SzS.next{ok:Nat→Prop}{w v:World}{la:Option Addr}{lc:Nat}{f kids next:Fo}{h':Hd}{cs:List Value}{k n m:Nat}{wr w1:World}(h:SzS ok w v la lc f (.cons h' kids next) cs k n m wr)
 (hst:Blk w1 w.heap.size (stC 0 (.slice la 2 lc)) 56) (hacc:Blk w1 (w.heap.size+2) [.int .i64 ((n+(1+kids.nodes):Nat):Int),.int .i64 ((max m (1+kids.levels+1):Nat):Int)] 61) (hres:Blk w1 (w.heap.size+1) [.int .i64 0,.int .i64 0] 61) (g:w.grownBy w1 none) (gv:v.grownBy w1 (some (w.heap.size+2))):
 SzS ok w v la lc f next cs (k+1) (n+(1+kids.nodes)) (max m (1+kids.levels+1)) w1:=by
 have h1:=h.len;have h3:=h.nodes;have h4:=h.levels;have h5:=h.pos;simp only[Fo.len,Fo.nodes,Fo.levels]at h1 h3 h4;refine⟨by omega,?_,by omega,by omega,⟨by omega,by omega⟩,hst,hacc,hres,g,gv⟩;obtain⟨pv,lv,kcs,rcs,hcs,_,_,_,hn⟩:=h.row;have e:cs.drop ((k+1)*7)=rcs:=by
  rw[show(k+1)*7=k*7+7 by omega,←List.drop_drop,hcs];exact List.drop_left' rfl
 rw[e];exact hn
abbrev F5(w:World)(la:Option Addr)(lc:Nat):World:=(((w.alloc (.cells (stC 0 (.slice la 2 lc)).toArray 56 (0,0))).alloc (.cells #[.int .i64 0,.int .i64 0] 61 (0,0))).alloc (.cells #[.int .i64 1,.int .i64 1] 61 (0,0))).alloc (.cells #[.slice la 2 lc,.slice none 0 0,.slice none 0 0,.slice none 0 0] 25 (0,0))
theorem stmtW_blk{w:World}{la:Option Addr}{lc:Nat}:Blk (F5 w la lc) (w.heap.size+1+1+1) [.slice la 2 lc,.slice none 0 0,.slice none 0 0,.slice none 0 0] 25:=
 (Blk.new _ [.slice la 2 lc,.slice none 0 0,.slice none 0 0,.slice none 0 0] _).of_eq (by simp) rfl
theorem QA(w:World)(la:Option Addr)(lc:Nat):w.grownBy (F5 w la lc) none:=Ad (Ad (Ad (World.grownBy_alloc w _ none) _) _) _
theorem Na{ok:Nat→Prop}{w:World}{la:Option Addr}{lc:Nat}{f:Fo}(hf:f.len=2)(hn:f.nodes≤1000000)(hrep:RepL ok w (.slice la 2 lc) f):
 Calls Tryz.prog 145 #[.agg (stC 0 (.slice la 2 lc)).toArray] w fun e w'=>e= .returned (szV ((1+f.nodes:Nat):Int) ((1+f.levels:Nat):Int))∧w.grownBy w' none:=by
 replace hrep:=hrep.mono (ok':=fun q=>q<w.heap.size) (fun _ _ h=>h);clear ok;have gW:=QA w la lc;have HC:=O (Mb (w:=F5 w la lc) (R:=w.heap.size+1+1+1) (la:=la) (lc:=lc) (ok:=fun q=>q<w.heap.size) (f:=f) (stmtW_blk.cell 0) (stmtW_blk.cell 1) (stmtW_blk.cell 2) (stmtW_blk.cell 3) hf (hrep.gb gW (by simp)));have HR:=O (Z hf (Z hn (Z hrep gW)));clear gW;clear hf hn hrep;go_enter func145,ntmps145;go_wp2_with fail;refine HC.out.mono ?_;rintro e w1 ⟨v,cs,rfl,hO,hF,g1⟩;have g0:w.grownBy w1 none:=Aa HR.out.2.2.2 g1;have hA:SzS (fun q=>q<w.heap.size) w w1 la lc f f cs 0 1 1 w1:=by
  refine⟨by simp,by simpa using hF,rfl,by omega,⟨Nat.le_refl _,Nat.le_refl _⟩,?_,?_,?_,g0,Ac _ _⟩
  ·exact((((Blk.new w (stC 0 (.slice la 2 lc)) 56).alloc _).alloc _).alloc _).gb g1 (by simp)
  ·exact Blk.gb (((Blk.new _ [.int .i64 1,.int .i64 1] _).of_eq (by simp) rfl).alloc _) g1 (by simp)
  ·exact Blk.gb ((((Blk.new _ [.int .i64 0,.int .i64 0] _).of_eq (by simp) rfl).alloc _).alloc _) g1 (by simp)
 obtain⟨G,cap,rfl,hGb,hat0⟩:∃G cap,v= .slice (some ⟨G,0,none⟩) 2 cap∧w.heap.size+3<G∧∀j u,cs[j]? =some u→w1.cell? ⟨G,j,none⟩=some u:=by
  rcases id hO.2 with h| ⟨G,cap,cur,rfl,hGb,_⟩
  ·exact absurd h.2 (by decide)
  ·refine⟨G,cap,rfl,by simp[F5]at hGb;omega,fun j u hj=>?_⟩;have h1:=hO.cells (g:=G) rfl j u hj;have e:(⟨G,0,none⟩:Addr).add j=⟨G,j,none⟩:=by unfold Addr.add;split<;>simp_all
   rw[e]at h1;exact h1
 have HO:=O (Z hat0 hF);have HA:=O hA;clear hO hF g1 g0 hat0 hA;go_wp2_with fail;go_loopg [23] 2 (fun g v23 wr=>∃rest:Fo,∃k n m:Nat,rest.len=g∧v23= .int .i64 k∧SzS (fun q=>q<w.heap.size) w w1 la lc f rest cs k n m wr)
 case atStart=>exact⟨f,0,1,1,HR.out.1,rfl,HA.out⟩
 case round=>
  obtain⟨rest,k,n,m,hg,rfl,hr⟩:=hrel;clear HA;have a0:=hr.acc.cell 0;have a1:=hr.acc.cell 1;have r0:=hr.res.cell 0;have r1:=hr.res.cell 1;have rf:=fun k=>hr.res.frozen k;have af:=fun k=>hr.acc.frozen k;have al:=hr.acc.lt;have s5:=hr.st.cell 5;simp only[List.getElem?_cons_zero,List.getElem?_cons_succ]at a0 a1 r0 r1 s5;cases rest with
  | nil=>
    have hlen:=hr.len;have hk:k=2:=by have:=HR.out.1;simp[Fo.len]at hlen;omega
    subst hk;have hnm:n=1+f.nodes∧m=1+f.levels:=by
     have h1:=hr.nodes;have h2:=hr.levels;have h3:=hr.pos;simp[Fo.nodes,Fo.levels]at h1 h2;omega
    have HN:=O hnm;clear hnm hlen hg;go_wp2_with fail;go_loopg [35] 1 (fun g v35 w2=>v35= .int .i64 0∧w2=wr)
    case atStart=>exact⟨rfl,rfl⟩
    case round=>
     obtain⟨rfl,rfl⟩:=hrel;go_wp2;refine bodyPost_ret (Fj rfl _ (hr.res.set2 _ _) rfl) rfl ⟨by rw[HN.out.1,HN.out.2],?_⟩;have g:=hr.g;exact (by repeat(first| (with_reducible exact Ac _ _)| (with_reducible assumption)| (with_reducible exact AU (by assumption))| (with_reducible refine Ad ?_ _)| (with_reducible refine Am ?_)| (with_reducible refine A3 ?_ _)| ((with_reducible refine Ay ?_ _ _ ?h2);case h2=>first|exact .inl rfl|exact .inr (Nat.le_refl _)|exact .inr (by simp<;>omega))| (with_reducible refine Ah ?_ (by assumption))| (with_reducible refine Aa ?_ (by assumption))))
  | cons h' kids next=>
    simp only[Fo.len]at hg;subst hg;have hlen:=hr.len;simp only[Fo.len]at hlen;have hkI:decide (k<f.len)=true:=by simp;omega
    have hf2:=HR.out.1;have hfn:=HR.out.2.1;have hkI2:decide (k<2)=true:=by simp;omega
    obtain⟨pv',lv',kcs,rcs,hcs,hp,hl,hkids,hnext⟩:=hr.row;obtain⟨pa',pc',rfl,_⟩:=hp;have hL:RepL (fun q=>q<w.heap.size) w1 lv' kids:=⟨kcs,hl,hkids⟩;obtain⟨la2,lc2,rfl,_⟩:=hl;have hat:∀i u,(hdC h' (.slice pa' h'.p.length pc') (.slice la2 kids.len lc2))[i]? =some u→wr.cell? ⟨G,k*7+i,none⟩=some u:=by
     intro i u hu;have:cs[k*7+i]? =(cs.drop (k*7))[i]?:=by simp
     refine Bu hr.gv (HO.out.1 (k*7+i) u ?_) (by simp;omega);rw[this,hcs,List.getElem?_append_left (by have:=(List.getElem?_eq_some_iff.1 hu).1;exact this)];exact hu
    have z0:=hat 0 _ rfl;have z1:=hat 1 _ rfl;have z2:=hat 2 _ rfl;have z3:=hat 3 _ rfl;have z4:=hat 4 _ rfl;have z5:=hat 5 _ rfl;have z6:=hat 6 _ rfl;simp only[Nat.add_zero]at z0;have hgl:=World.block_lt_of_cell? wr _ z0;clear hat;have hno:=hr.nodes;simp only[Fo.nodes]at hno;have hmo:=hr.levels;simp only[Fo.levels]at hmo;have hkl:=kids.len_nodes;have hpo:=hr.pos;have hfll:=f.len_nodes;have HL:=O (fun(W:World)(gW:wr.grownBy W none)=>Jh (kids.nodes+1) kids (by omega) (by omega) (fun q=>q<w.heap.size) h' pa' h'.p.length pc' la2 lc2 W ((hL.gb hr.gv (by intro q hq _ e;cases e;omega)).gb gW (by simp)));have HI:=O (fun(W:World)=>Ik n m (1+kids.nodes) (1+kids.levels) (by omega) (by omega) (by omega) W);have HK:=O hr;have hkl2:k+1≤2:=by omega
    clear hL hnext hkids hcs hr hno hmo hlen hpo;have hy:=Blk.new wr (hdC h' (.slice pa' h'.p.length pc') (.slice la2 kids.len lc2)) 27;have hac:=HK.out.acc.alloc (.cells (hdC h' (.slice pa' h'.p.length pc') (.slice la2 kids.len lc2)).toArray 27 (0,0));have HY:=O (Z hy hac);clear hy hac;have hws:=HK.out.g.size;go_wp2_with fail;go_region_with(first
     | (go_at_call 28;refine(HL.out _ ?gg).mono ?_;(case gg=>exact (by repeat(first| (with_reducible exact Ac _ _)| (with_reducible assumption)| (with_reducible exact AU (by assumption))| (with_reducible refine Ad ?_ _)| (with_reducible refine Am ?_)| (with_reducible refine A3 ?_ _)| ((with_reducible refine Ay ?_ _ _ ?h2);case h2=>first|exact .inl rfl|exact .inr (Nat.le_refl _)|exact .inr (by simp<;>omega))| (with_reducible refine Ah ?_ (by assumption))| (with_reducible refine Aa ?_ (by assumption)))));rintro e w5 ⟨rfl,g5⟩;(have y5:=(HY.out.1.drewN 1).gb g5 (by simp));(have ac5:=(HY.out.2.drewN 1).gb g5 (by simp));(have b0:=y5.cell 0);(have b1:=y5.cell 1);(have b2:=y5.cell 2);(have b3:=y5.cell 3);(have b4:=y5.cell 4);(have b5:=y5.cell 5);(have b6:=y5.cell 6);(have d0:=ac5.cell 0);(have d1:=ac5.cell 1);(have df:=fun k=>ac5.frozen k);(have dl:=ac5.lt);(simp only[hdC,List.getElem?_cons_zero,List.getElem?_cons_succ]at b0 b1 b2 b3 b4 b5 b6 d0 d1))
     | (go_at_call 55;refine(HI.out _).mono ?_;rintro e w6 ⟨rfl,g6⟩;(have ac6:=ac5.gb g6 (by simp));(have m0:=ac6.cell 0);(have m1:=ac6.cell 1);(have mf:=fun k=>ac6.frozen k);(have ml:=ac6.lt);(simp only[List.getElem?_cons_zero,List.getElem?_cons_succ]at m0 m1)))
    all_goals
     have hre:=((((HK.out.res.alloc (.cells (hdC h' (.slice pa' h'.p.length pc') (.slice la2 kids.len lc2)).toArray 27 (0,0))).drewN 1).gb g5 (by simp)).gb g6 (by simp));have gg:=Ah (Ah (Am (Ad HK.out.g (.cells (hdC h' (.slice pa' h'.p.length pc') (.slice la2 kids.len lc2)).toArray 27 (0,0)))) g5) g6;have hst6:=(((HK.out.st.alloc (.cells (hdC h' (.slice pa' h'.p.length pc') (.slice la2 kids.len lc2)).toArray 27 (0,0))).drewN 1).gb g5 (by simp)).gb g6 (by simp);have gv6:=Ah (Ah (Am (Ad HK.out.gv (.cells (hdC h' (.slice pa' h'.p.length pc') (.slice la2 kids.len lc2)).toArray 27 (0,0)))) g5) g6;have HX:=O (Z ac6 (Z hre (Z gg (Z hst6 gv6))));clear hre gg hst6 gv6;go_wp2;go_roundg next.len
     case measure=>omega
     case rel=>
      refine⟨next,k+1,n+(1+kids.nodes),max m (1+kids.levels+1),rfl,by simp,HK.out.next ((HX.out.2.2.2.1.set_other _ _ (by simp<;>omega)).set_other _ _ (by simp<;>omega)) ((HX.out.1.set2 _ _).of_eq (by omega) (by push_cast;rfl)) ((HX.out.2.1.set_other _ _ (by simp)).set_other _ _ (by simp)) (Ay (Ay HX.out.2.2.1 _ _ (.inr (by simp;omega))) _ _ (.inr (by simp;omega))) (Ay (Ay HX.out.2.2.2.2 _ _ (.inl rfl)) _ _ (.inl rfl))⟩
theorem SetRow.open{B:Nat}{w:World}{bv:Value}{t x:Ex}(h:SetRow B w bv t x):∃G cap la lc,bv= .slice (some ⟨G,0,none⟩) 1 cap∧B≤G∧RepL (AA B) w (.slice la 2 lc) (.two t x)∧∀i u,(stC 0 (.slice la 2 lc))[i]? =some u→w.cell? ⟨G,i,none⟩=some u:=by
 obtain⟨la,lc,ho,hl⟩:=h;rcases id ho.2 with h| ⟨G,cap,cur,rfl,hb,_⟩
 ·exact absurd h.2 (by decide)
 ·refine⟨G,cap,la,lc,rfl,hb,hl,fun j u hj=>?_⟩;have h1:=ho.cells (g:=G) rfl j u hj;have e:(⟨G,0,none⟩:Addr).add j=⟨G,j,none⟩:=by unfold Addr.add;split<;>simp_all
  rw[e]at h1;exact h1
structure Acc1(w:World)(n m:Int)(wr:World):Prop where
 res:Blk wr w.heap.size [.int .i64 0,.int .i64 0] 61
 acc:Blk wr (w.heap.size+1) [.int .i64 n,.int .i64 m] 61
 g:w.grownBy wr none
theorem Acc1.start(w:World):Acc1 w 0 0 ((w.alloc (.cells #[.int .i64 0,.int .i64 0] 61 (0,0))).alloc (.cells #[.int .i64 0,.int .i64 0] 61 (0,0))):=
 ⟨(Blk.new w [.int .i64 0,.int .i64 0] _).alloc _,(Blk.new _ [.int .i64 0,.int .i64 0] _).of_eq (by simp) rfl,Ad (World.grownBy_alloc w _ none) _⟩
theorem LV{B:Nat}{w:World}{bv:Value}{t x:Ex}(h:SetRow B w bv t x)(hn:(Fo.two t x).nodes≤1000000):
 Calls Tryz.prog 93 #[bv] w fun e w'=>e= .returned (szV ((1+(Fo.two t x).nodes:Nat):Int) ((1+(Fo.two t x).levels:Nat):Int))∧w.grownBy w' none:=by
 obtain⟨G,cap,la,lc,rfl,hB,hl,hat⟩:=h.open;have hll:=(Fo.two t x).len_nodes;have HS:=O (fun(W:World)(g:w.grownBy W none)=>Na (la:=la) (lc:=lc) (f:= .two t x) rfl hn (hl.gb g (by simp)));have HI:=O (fun(W:World)=>Hj 0 0 (1+(Fo.two t x).nodes) (1+(Fo.two t x).levels) (by omega) (by omega) (by omega) W);have HZ:=O hat;clear h hat hl hB;generalize(Fo.two t x).nodes=NN at*;generalize(Fo.two t x).levels=LL at*;simp only[Nat.zero_add,Nat.zero_max]at HI;have HA:=O (Acc1.start w);go_enter func93,ntmps93;go_wp2_with fail;go_loopg [8] 1 (fun g v8 wr=>∃n m:Int,Acc1 w n m wr∧((g=1∧v8= .int .i64 0∧n=0∧m=0)∨(g=0∧v8= .int .i64 1∧n=((1+NN:Nat):Int)∧m=((1+LL:Nat):Int))))
 case atStart=>exact⟨0,0,HA.out,.inl ⟨rfl,rfl,rfl,rfl⟩⟩
 case round=>
  obtain⟨n,m,hA,hq|hq⟩:=hrel
  ·obtain⟨rfl,rfl,rfl,rfl⟩:=hq;have z0:=Af hA.g (HZ.out 0 _ rfl);have z1:=Af hA.g (HZ.out 1 _ rfl);have z2:=Af hA.g (HZ.out 2 _ rfl);have z3:=Af hA.g (HZ.out 3 _ rfl);have z4:=Af hA.g (HZ.out 4 _ rfl);have z5:=Af hA.g (HZ.out 5 _ rfl);have z6:=Af hA.g (HZ.out 6 _ rfl);have z7:=Af hA.g (HZ.out 7 _ rfl);have z8:=Af hA.g (HZ.out 8 _ rfl);have z9:=Af hA.g (HZ.out 9 _ rfl);have hgl:=World.block_lt_of_cell? wr _ z0;have a0:=hA.acc.cell 0;have a1:=hA.acc.cell 1;have af:=fun k=>hA.acc.frozen k;have al:=hA.acc.lt;simp only[List.getElem?_cons_zero,List.getElem?_cons_succ]at a0 a1;have hgw:=hA.g;have HL:=O (fun(W:World)(g:wr.grownBy W none)=>HS.out W (Aa hgw g));have HG:=O hA;have hy:=Blk.new wr (stC 0 (.slice la 2 lc)) 56;have hac:=HG.out.acc.alloc (.cells (stC 0 (.slice la 2 lc)).toArray 56 (0,0));have HY:=O (Z hy hac);clear hy hac hA hgw;have hws:=HG.out.g.size;go_wp2_with fail;go_region_with(first
    | (go_at_call 145;refine(HL.out _ ?gg).mono ?_;(case gg=>exact (by repeat(first| (with_reducible exact Ac _ _)| (with_reducible assumption)| (with_reducible exact AU (by assumption))| (with_reducible refine Ad ?_ _)| (with_reducible refine Am ?_)| (with_reducible refine A3 ?_ _)| ((with_reducible refine Ay ?_ _ _ ?h2);case h2=>first|exact .inl rfl|exact .inr (Nat.le_refl _)|exact .inr (by simp<;>omega))| (with_reducible refine Ah ?_ (by assumption))| (with_reducible refine Aa ?_ (by assumption)))));rintro e w5 ⟨rfl,g5⟩;(have y5:=(HY.out.1.drewN 1).gb g5 (by simp));(have ac5:=(HY.out.2.drewN 1).gb g5 (by simp));obtain⟨b_0,b_1,b_2,b_3,b_4,b_5,b_6,b_7,b_8,b_9,b_f⟩:=(y5).c10;(have d0:=ac5.cell 0);(have d1:=ac5.cell 1);(have df:=fun k=>ac5.frozen k);(have dl:=ac5.lt);(simp only[List.getElem?_cons_zero,List.getElem?_cons_succ]at d0 d1))
    | (go_at_call 92;refine(HI.out _).mono ?_;rintro e w6 ⟨rfl,g6⟩;(have ac6:=ac5.gb g6 (by simp));(have m0:=ac6.cell 0);(have m1:=ac6.cell 1);(have mf:=fun k=>ac6.frozen k);(have ml:=ac6.lt);(simp only[List.getElem?_cons_zero,List.getElem?_cons_succ]at m0 m1)))
   all_goals
    have hre:=((((HG.out.res.alloc (.cells (stC 0 (.slice la 2 lc)).toArray 56 (0,0))).drewN 1).gb g5 (by simp)).gb g6 (by simp));have gg:=Ah (Ah (Am (Ad HG.out.g (.cells (stC 0 (.slice la 2 lc)).toArray 56 (0,0)))) g5) g6;have HX:=O (Z ac6 (Z hre gg));clear hre gg;go_wp2;go_roundg 0
    case measure=>omega
    case rel=>exact⟨_,_,⟨(HX.out.2.1.set_other _ _ (by simp)).set_other _ _ (by simp),HX.out.1.set2 _ _,Ay (Ay HX.out.2.2 _ _ (.inr (by simp))) _ _ (.inr (by simp))⟩,.inr ⟨rfl,rfl,rfl,rfl⟩⟩
  ·obtain⟨rfl,rfl,rfl,rfl⟩:=hq;have HG:=O hA;have a0:=hA.acc.cell 0;have a1:=hA.acc.cell 1;have r0:=hA.res.cell 0;have r1:=hA.res.cell 1;have rf:=fun k=>hA.res.frozen k;have rl:=hA.res.lt;simp only[List.getElem?_cons_zero,List.getElem?_cons_succ]at a0 a1 r0 r1;clear hA;go_wp2;refine bodyPost_ret (Fj rfl _ (HG.out.res.set2 _ _) rfl) rfl ⟨rfl,?_⟩;have g:=HG.out.g;exact (by repeat(first| (with_reducible exact Ac _ _)| (with_reducible assumption)| (with_reducible exact AU (by assumption))| (with_reducible refine Ad ?_ _)| (with_reducible refine Am ?_)| (with_reducible refine A3 ?_ _)| ((with_reducible refine Ay ?_ _ _ ?h2);case h2=>first|exact .inl rfl|exact .inr (Nat.le_refl _)|exact .inr (by simp<;>omega))| (with_reducible refine Ah ?_ (by assumption))| (with_reducible refine Aa ?_ (by assumption))))
theorem LU{B:Nat}{w:World}{v:Value}{t x:Ex}(h:SetProg B w v t x)(hn:(Fo.two t x).nodes≤1000000):
 Calls Tryz.prog 51 #[v] w fun e w'=>e= .returned (szV ((1+(Fo.two t x).nodes:Nat):Int) ((1+(Fo.two t x).levels:Nat):Int))∧w.grownBy w' none:=by
 obtain⟨kP,bv,rfl,hB,hblk,hrow⟩:=h;obtain⟨G,cap,la,lc,e,_⟩:=hrow.open;subst e;have hll:=(Fo.two t x).len_nodes;have HS:=O (fun(W:World)(g:w.grownBy W none)=>LV (hrow.gb g (by simp)) hn);have HI:=O (fun(W:World)=>Hj 0 0 (1+(Fo.two t x).nodes) (1+(Fo.two t x).levels) (by omega) (by omega) (by omega) W);have HZ:=O hblk;clear hblk hrow hB;generalize(Fo.two t x).nodes=NN at*;generalize(Fo.two t x).levels=LL at*;simp only[Nat.zero_add,Nat.zero_max]at HI;have HA:=O (Acc1.start w);go_enter func51,ntmps51;go_wp2_with fail;go_loopg [8] 1 (fun g v8 wr=>∃n m:Int,Acc1 w n m wr∧((g=1∧v8= .int .i64 0∧n=0∧m=0)∨(g=0∧v8= .int .i64 1∧n=((1+NN:Nat):Int)∧m=((1+LL:Nat):Int))))
 case atStart=>exact⟨0,0,HA.out,.inl ⟨rfl,rfl,rfl,rfl⟩⟩
 case round=>
  obtain⟨n,m,hA,hq|hq⟩:=hrel
  ·obtain⟨rfl,rfl,rfl,rfl⟩:=hq;have hbk:=HZ.out.gb hA.g (by simp);have z0:=hbk.cell 0;have z1:=hbk.cell 1;have z2:=hbk.cell 2;have z3:=hbk.cell 3;simp only[List.getElem?_cons_zero,List.getElem?_cons_succ]at z0 z1 z2 z3;have hgl:=hbk.lt;clear hbk;have a0:=hA.acc.cell 0;have a1:=hA.acc.cell 1;have af:=fun k=>hA.acc.frozen k;have al:=hA.acc.lt;simp only[List.getElem?_cons_zero,List.getElem?_cons_succ]at a0 a1;have hgw:=hA.g;have HL:=O (fun(W:World)(g:wr.grownBy W none)=>HS.out W (Aa hgw g));have HG:=O hA;have hy:=Blk.new wr [str mainL,.bool false,.slice none 0 0,.slice (some ⟨G,0,none⟩) 1 cap] 51;have hac:=HG.out.acc.alloc (.cells #[str mainL,.bool false,.slice none 0 0,.slice (some ⟨G,0,none⟩) 1 cap] 51 (0,0));have HY:=O (Z hy hac);clear hy hac hA hgw;have hws:=HG.out.g.size;go_wp2_with fail;go_region_with(first
    | (go_at_call 93;refine(HL.out _ ?gg).mono ?_;(case gg=>exact (by repeat(first| (with_reducible exact Ac _ _)| (with_reducible assumption)| (with_reducible exact AU (by assumption))| (with_reducible refine Ad ?_ _)| (with_reducible refine Am ?_)| (with_reducible refine A3 ?_ _)| ((with_reducible refine Ay ?_ _ _ ?h2);case h2=>first|exact .inl rfl|exact .inr (Nat.le_refl _)|exact .inr (by simp<;>omega))| (with_reducible refine Ah ?_ (by assumption))| (with_reducible refine Aa ?_ (by assumption)))));rintro e w5 ⟨rfl,g5⟩;(have y5:=(HY.out.1.drewN 1).gb g5 (by simp));(have ac5:=(HY.out.2.drewN 1).gb g5 (by simp));(have b0:=y5.cell 0);(have b1:=y5.cell 1);(have b2:=y5.cell 2);(have b3:=y5.cell 3);(have d0:=ac5.cell 0);(have d1:=ac5.cell 1);(have df:=fun k=>ac5.frozen k);(have dl:=ac5.lt);(simp only[List.getElem?_cons_zero,List.getElem?_cons_succ]at d0 d1 b0 b1 b2 b3))
    | (go_at_call 92;refine(HI.out _).mono ?_;rintro e w6 ⟨rfl,g6⟩;(have ac6:=ac5.gb g6 (by simp));(have m0:=ac6.cell 0);(have m1:=ac6.cell 1);(have mf:=fun k=>ac6.frozen k);(have ml:=ac6.lt);(simp only[List.getElem?_cons_zero,List.getElem?_cons_succ]at m0 m1)))
   all_goals
    have hre:=((((HG.out.res.alloc (.cells #[str mainL,.bool false,.slice none 0 0,.slice (some ⟨G,0,none⟩) 1 cap] 51 (0,0))).drewN 1).gb g5 (by simp)).gb g6 (by simp));have gg:=Ah (Ah (Am (Ad HG.out.g (.cells #[str mainL,.bool false,.slice none 0 0,.slice (some ⟨G,0,none⟩) 1 cap] 51 (0,0)))) g5) g6;have HX:=O (Z ac6 (Z hre gg));clear hre gg;go_wp2;go_roundg 0
    case measure=>omega
    case rel=>exact⟨_,_,⟨(HX.out.2.1.set_other _ _ (by simp)).set_other _ _ (by simp),HX.out.1.set2 _ _,Ay (Ay HX.out.2.2 _ _ (.inr (by simp))) _ _ (.inr (by simp))⟩,.inr ⟨rfl,rfl,rfl,rfl⟩⟩
  ·obtain⟨rfl,rfl,rfl,rfl⟩:=hq;have HG:=O hA;have a0:=hA.acc.cell 0;have a1:=hA.acc.cell 1;have r0:=hA.res.cell 0;have r1:=hA.res.cell 1;have rf:=fun k=>hA.res.frozen k;have rl:=hA.res.lt;simp only[List.getElem?_cons_zero,List.getElem?_cons_succ]at a0 a1 r0 r1;clear hA;go_wp2;refine bodyPost_ret (Fj rfl _ (HG.out.res.set2 _ _) rfl) rfl ⟨rfl,?_⟩;have g:=HG.out.g;exact (by repeat(first| (with_reducible exact Ac _ _)| (with_reducible assumption)| (with_reducible exact AU (by assumption))| (with_reducible refine Ad ?_ _)| (with_reducible refine Am ?_)| (with_reducible refine A3 ?_ _)| ((with_reducible refine Ay ?_ _ _ ?h2);case h2=>first|exact .inl rfl|exact .inr (Nat.le_refl _)|exact .inr (by simp<;>omega))| (with_reducible refine Ah ?_ (by assumption))| (with_reducible refine Aa ?_ (by assumption))))
end Go.Proofs.YtgjdhajcnechdaaGreatDoor
