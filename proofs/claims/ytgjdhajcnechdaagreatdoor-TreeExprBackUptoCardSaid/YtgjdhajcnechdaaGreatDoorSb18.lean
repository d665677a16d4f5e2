/-
  tree.ParseExpr. Contracts of the statement parser: target, isEnding. Contracts of the statement parser: isEnding, keyword where a value is set. Contracts of the statement parser: a statement that sets
-/
import Derived.Test.YtgjdhajcnechdaaGreatDoorSb17
set_option linter.all false
set_option maxRecDepth 100000
set_option maxHeartbeats 8000000
namespace Go.Proofs.YtgjdhajcnechdaaGreatDoor
open Go.Proofs.Tryz
open Go.RowKit
def Cx(s:Bs):Except (Int×Int) (List Tok):=
 if 4000<s.length then .error (0,3)else match Cw s with
  | .ok l=>if 1200<l.length then .error (0,3)else .ok l
  | .bad k=> .error (k,2)
  | .out=> .error (0,2)
def JO(w:World)(s:Bs)(e:Ending)(w':World):Prop:=w.grownBy w' none∧
 match Cx s with
  | .ok l=>∃v,e= .returned (.tuple #[v,.int .i64 l.length,.int .i64 0])∧TRow w' v l (AD w.heap.size)∧C2 Bn l∧l.length≤1200
  | .error pc=>e= .returned (.tuple #[.slice none 0 0,.int .i64 pc.1,.int .i64 pc.2])∧(pc.2=2∨pc.2=3)
theorem FK{w:World}(ht:Tabs w.heap.size w)(s:Bs)(hs:s.length≤1000000):Calls Tryz.prog 36 #[str s] w (JO w s):=by
 refine(MC ht s hs).mono ?_;rintro e w1 ⟨g,h⟩;refine⟨g,?_⟩;unfold Cx;by_cases h4:4000<s.length
 ·rw[if_pos h4]at h ⊢;exact⟨h,.inr rfl⟩
 rw[if_neg h4]at h ⊢;cases hl:Cw s with
 |out=>exact absurd hl (Ep s)
 |bad k=>rw[hl]at h;exact⟨h,.inl rfl⟩
 | ok l=>
   rw[hl]at h;replace h:ite _ _ _:=h;simp only[];by_cases hm:1200<l.length
   ·rw[if_pos hm]at h ⊢;exact⟨h,.inr rfl⟩
   ·rw[if_neg hm]at h ⊢;obtain⟨v,rfl,ht⟩:=h;exact⟨v,rfl,ht,I3 (by omega) hl,by omega⟩
inductive PeR (α:Type) where
 |ok (x:α) (n:Nat)
 |no (p c:Int)
def Dx(l:List Tok):Res Ex:=Bt l Bn (l.length+2)
def CS(l:List Tok):PeR Ex:=
 match Dx l with
 | .ok x j=>if j<l.length then .no j 2 else if BK x.nodes x.levels then .no 0 3 else .ok x l.length
 | .bad q=> .no q 2
 | .out=> .no 0 2
def peM(s:Bs):PeR Ex:=match Cx s with
 | .ok l=>CS l
 | .error pc=> .no pc.1 pc.2
abbrev exV0:Value:= .agg zeroE.toArray
def PePost(w:World)(s:Bs)(e:Ending)(w':World):Prop:=w.grownBy w' none∧
 match peM s with
  | .ok x n=>∃v,e= .returned (.tuple #[v,.int .i64 n,.int .i64 0])∧VE (AD w.heap.size) w' v x
  | .no p c=>e= .returned (.tuple #[exV0,.int .i64 p,.int .i64 c])
theorem DG{fn:Func}{p i j:Tmp}(h:fn.results=#[.cell p 27,.tmp i,.tmp j])(tmps:Array Value){w:World}{k:Nat}{a0 a1 a2 a3 a4 a5 a6 u v:Value}(hb:Blk w k [a0,a1,a2,a3,a4,a5,a6] 27)
 (hp:tmps.getD p undef= .pointer (some ⟨k,0,none⟩)) (hi:tmps.getD i undef=u) (hj:tmps.getD j undef=v):(results fn tmps).run Tryz.prog w= .ok (.tuple #[.agg #[a0,a1,a2,a3,a4,a5,a6],u,v]) w:=by
 have c0:=hb.cell 0;have c1:=hb.cell 1;have c2:=hb.cell 2;have c3:=hb.cell 3;have c4:=hb.cell 4;have c5:=hb.cell 5;have c6:=hb.cell 6;have hp':tmps[p]?.getD undef= .pointer (some ⟨k,0,none⟩):=by simpa using hp
 have hi':tmps[i]?.getD undef=u:=by simpa using hi
 have hj':tmps[j]?.getD undef=v:=by simpa using hj
 simp only[List.getElem?_cons_zero,List.getElem?_cons_succ]at c0 c1 c2 c3 c4 c5 c6;simp[results,h,hp',hi',hj',go_sem,c0,c1,c2,c3,c4,c5,c6]
theorem LG{l:List Tok}{q:Nat}(hq:BC l (Bt l Bn (l.length+2))=q):CS l= .no q 2:=by
 have hex:=Ej (l:=l) Bn (l.length+2) (Nat.le_refl _);unfold CS Dx;cases hr:Bt l Bn (l.length+2)with
 | ok x j=>
   rw[hr]at hq;simp only[BC]at hq ⊢;by_cases hj:j<l.length
   ·rw[if_pos hj]at hq ⊢;rw[hq]
   ·rw[if_neg hj]at hq;omega
 |bad k=>rw[hr]at hq;simp only[BC]at hq ⊢;rw[hq]
 |out=>exact absurd hr hex
theorem I0{α:Type}(R:Res α)(l:List Tok):BC l R= -1∨∃q:Nat,BC l R=q:=by
 cases R with
 | ok x j=>
   simp only[BC];split
   ·exact .inr ⟨j,rfl⟩
   ·exact .inl rfl
 |bad k=>exact .inr ⟨k,rfl⟩
 |out=>exact .inr ⟨0,rfl⟩
theorem Lv{l:List Tok}(hq:BC l (Bt l Bn (l.length+2))= -1):∃x j,Bt l Bn (l.length+2)= .ok x j∧CS l=if BK x.nodes x.levels then .no 0 3 else .ok x l.length:=by
 have hex:=Ej (l:=l) Bn (l.length+2) (Nat.le_refl _);unfold CS Dx;cases hr:Bt l Bn (l.length+2)with
 | ok x j=>
   rw[hr]at hq;refine⟨x,j,rfl,?_⟩;simp only[BC]at hq ⊢;by_cases hj:j<l.length
   ·rw[if_pos hj]at hq;omega
   ·rw[if_neg hj]
 |bad k=>rw[hr]at hq;simp only[BC]at hq;omega
 |out=>exact absurd hr hex
theorem Fi{w:World}(ht:Tabs w.heap.size w)(s:Bs)(hs:s.length≤1000000):Calls Tryz.prog 13 #[str s] w (PePost w s):=by
 have g0:=World.grownBy_alloc w (.cells zeroE.toArray 27 (0,0)) none;have hB:=Blk.new w zeroE 27;have ht0:=(ht.gbN g0).mono g0.size;go_enter func13,ntmps13;go_wp2_with fail;refine(FK ht0 s hs).mono ?_;rintro e w1 ⟨g1,h1⟩;have hB1:=hB.gb g1 (by simp);have gA:=I (O g0 g1);have HT0:=I (ht0.gbN g1).glob;have hPM:∀l,Cx s= .ok l→peM s=CS l:=fun l h=>by unfold peM;rw[h]
 have hlt:=hB1.lt;clear ht0 g0 hB ht hs g1;cases hq:Cx s with
 | error pc=>
   rw[hq]at h1;obtain⟨rfl,hc⟩:=h1;have HQ:=I (show peM s= .no pc.1 pc.2 by unfold peM;rw[hq]);have hc1:decide (pc.2=0)=false:=by simp;omega
   clear hq hPM;obtain⟨cb_0,cb_1,cb_2,cb_3,cb_4,cb_5,cb_6,cb_f⟩:=(hB1).c7;have HB:=I hB1;clear hB1;go_wp2;exact bodyPost_ret (DG rfl _ (HB.out.set7 (.int .i64 0) (str []) (.int .i64 0) (.int .i64 0) (str []) (.slice none 0 0) (.slice none 0 0)) rfl rfl rfl) rfl ⟨AN gA.out (Av w1 w.heap.size (.int .i64 0) (str []) (.int .i64 0) (.int .i64 0) (str []) (.slice none 0 0) (.slice none 0 0)) (.inr (Nat.le_refl _)),by rw[HQ.out];rfl⟩
 | ok l=>
   rw[hq]at h1;obtain⟨v,rfl,hT,hTame,hl⟩:=h1;have hex:=Ej (l:=l) Bn (l.length+2) (Nat.le_refl _);obtain⟨ta,tc,rfl,_⟩:=id hT;have HL:=L7 HT0.out hTame (hT.mono fun _ _ _=>trivial) (by omega) (l.length+2) hex;have HQ:=I (hPM l hq);have HB:=I hB1;have HLL:=I HL;clear hPM hq hTame hT HL hex hB1;go_wp2_with fail;refine HLL.out.mono ?_;rintro e w2 ⟨h,pa,pn,pc,la,ln,lc,rfl,g2,hV⟩;have hB2:=HB.out.gb g2 (by simp);have gB:=I (O gA.out g2);have hs2:=g2.size;have hlt2:w.heap.size<w2.heap.size:=by omega
   have hno:=fun q=>LG (l:=l) (q:=q);have hgo:=Lv (l:=l);have hyes:=I0 (Bt l Bn (l.length+2)) l;clear HLL HT0;rcases hyes with hy| ⟨q,hy⟩
   ·obtain⟨x,j,hr,hP⟩:=hgo hy;have hX:=hV x j hr;have hxn:=Lk Bn _ hr;rw[hy];clear hgo hno hV hr hy;have HX:=I hX;obtain⟨pa',pc',la',lc',e1,rp,rl⟩:=hX;rw[e1]at HX ⊢;have HPP:=I (hP ▸ HQ.out);have HR:=I (X rp rl);clear rp rl e1 hP;have hc1:decide ((0:Int)≤-1)=false:=by decide
    obtain⟨cb_0,cb_1,cb_2,cb_3,cb_4,cb_5,cb_6,cb_f⟩:=(hB2).c7;have HB2:=I hB2;clear hB2;have gK:=World.grownBy_alloc w2 (.cells (hdC x.h (.slice pa' x.h.p.length pc') (.slice la' x.kids.len lc')).toArray 27 (0,0)) none;have hE:=Blk.new w2 (hdC x.h (.slice pa' x.h.p.length pc') (.slice la' x.kids.len lc')) 27;have HS:=I (FQ (HX.out.gb gK (by simp)) (by unfold Ex.nodes at hxn;omega));have HE:=I (X gK hE);clear gK hE;go_wp2_with fail;refine HS.out.mono ?_;rintro e w3 ⟨rfl,g3⟩;go_wp2_with fail;refine(Eo _ _ _).mono ?_;rintro e w4 ⟨rfl,g4⟩;have gM:=O (O HE.out.1 g3) g4;have hE4:=(HE.out.2.gb g3 (by simp)).gb g4 (by simp);have hR4:=HB2.out.gb gM (by simp);have hX4:=HX.out.gb gM (by simp);have gT:=I (X (O gB.out gM) hX4);have hlt4:=gM.size;clear cb_0 cb_1 cb_2 cb_3 cb_4 cb_5 cb_6 cb_f gM hX4;obtain⟨ce_0,ce_1,ce_2,ce_3,ce_4,ce_5,ce_6,ce_f⟩:=(hE4).c7;obtain⟨cb_0,cb_1,cb_2,cb_3,cb_4,cb_5,cb_6,cb_f⟩:=(hR4).c7;have HR4:=I hR4;have hltE:=hE4.lt;clear hE4 hR4 g3 g4;cases hLL:BK x.nodes x.levels with
    | true=>
      have HF:=I (show peM s= .no 0 3 by rw[HPP.out];rw[hLL];rfl);clear hLL;go_wp2;exact bodyPost_ret (DG rfl _ (HR4.out.set7 (.int .i64 0) (str []) (.int .i64 0) (.int .i64 0) (str []) (.slice none 0 0) (.slice none 0 0)) rfl rfl rfl) rfl ⟨AN gT.out.1 (Av w4 w.heap.size (.int .i64 0) (str []) (.int .i64 0) (.int .i64 0) (str []) (.slice none 0 0) (.slice none 0 0)) (.inr (Nat.le_refl _)),by rw[HF.out];rfl⟩
    | false=>
      have HF:=I (show peM s= .ok x l.length by rw[HPP.out];rw[hLL];rfl);clear hLL;go_wp2;have g7:=Av w4 w.heap.size (.int .i64 x.h.op) (str x.h.s) (.int .i64 x.h.vk) (.int .i64 x.h.vn) (str x.h.vs) (.slice pa' x.h.p.length pc') (.slice la' x.kids.len lc');refine bodyPost_ret (DG rfl _ (HR4.out.set7 (.int .i64 x.h.op) (str x.h.s) (.int .i64 x.h.vk) (.int .i64 x.h.vn) (str x.h.vs) (.slice pa' x.h.p.length pc') (.slice la' x.kids.len lc')) rfl rfl rfl) rfl ⟨AN gT.out.1 g7 (.inr (Nat.le_refl _)),?_⟩;rw[HF.out];exact⟨_,rfl,(gT.out.2.gb g7 (by intro q hq _ e;cases e;simp at hq;omega)).mono (by intro q hq _;simp at hq ⊢;omega)⟩
   ·rw[hy];have HQ2:=I (show peM s= .no q 2 by rw[HQ.out,hno q hy]);clear hgo hno hV;have hc1:decide ((0:Int)≤(q:Int))=true:=by simp
    obtain⟨cb_0,cb_1,cb_2,cb_3,cb_4,cb_5,cb_6,cb_f⟩:=(hB2).c7;have HB2:=I hB2;clear hB2;go_wp2;have hBA:=(HB2.out.set7 (.int .i64 0) (str []) (.int .i64 0) (.int .i64 0) (str []) (.slice none 0 0) (.slice none 0 0)).alloc (.cells (hdC h (.slice pa pn pc) (.slice la ln lc)).toArray 27 (0,0));have gBA:=Aa (AN gB.out (Av w2 w.heap.size (.int .i64 0) (str []) (.int .i64 0) (.int .i64 0) (str []) (.slice none 0 0) (.slice none 0 0)) (.inr (Nat.le_refl _))) (.cells (hdC h (.slice pa pn pc) (.slice la ln lc)).toArray 27 (0,0));exact bodyPost_ret (DG rfl _ hBA rfl rfl rfl) rfl ⟨gBA,by rw[HQ2.out];rfl⟩
section
variable {b:Nat}{tv wv:Value}{l:List Tok}{wl:List Bs}
def CG(l:List Tok)(expr:Nat→Res Ex)(i:Nat):Res Ex:=
 if Ad (Z l i) [38]then BO l expr i
 else(AM l i).bind fun s j=>
  if Ad (Z l j) [91]then(expr (j+1)).bind fun x k=>(A8 l [93] k).bind fun _ k=> .ok (CQ (A1 s) x) k
  else if Ad (Z l j) [45,62]then(AM l (j+1)).bind fun t k=> .ok ⟨hd0 2 s,.one (A1 t)⟩ k
  else .ok (A1 s) j
theorem ML{b:Nat}{tv wv:Value}{l:List Tok}{wl:List Bs}{w w1 w2:World}{op:Int}{s t:Bs}{x:Ex}{pa la:Option Addr}{pc lc j:Nat}{r:Res Ex}{ok:Nat→Prop}(hb:b<w.heap.size)
 (hr:r= .ok ⟨hd0 op s,.two (A1 t) x⟩ j) (gr:w.grownBy w1 (some b)) (rp:Cells w1 (.slice pa x.h.p.length pc) 1 x.h.p.length (x.h.p.map str) ok) (rl:RepL ok w1 (.slice la x.kids.len lc) x.kids) (hok:∀k,ok k→w.heap.size<k)
 (hp:Par w1 b tv wv l wl j) (g7:w1.grownBy w2 (some w.heap.size)) (hsz:w2.heap.size=w1.heap.size):
 PE b tv wv l wl w r (.returned (exV (hd0 op s) (.slice none 0 0) (.slice (some ⟨w1.heap.size,0,none⟩) 2 2))) (w2.alloc (.cells (hdC (A1 t).h (.slice none 0 0) (.slice none 0 0)++hdC x.h (.slice pa x.h.p.length pc) (.slice la x.kids.len lc)).toArray 27 (0,0))):=by
 have hlt:=gr.size;have rp':=rp.gb g7 (by intro q hq _ e;have:=hok q hq;cases e;omega);have rl':=rl.gb g7 (by intro q hq _ e;have:=hok q hq;cases e;omega);have hV:VE (AD w.heap.size) (w2.alloc (.cells (hdC (A1 t).h (.slice none 0 0) (.slice none 0 0)++hdC x.h (.slice pa x.h.p.length pc) (.slice la x.kids.len lc)).toArray 27 (0,0))) (exV (hd0 op s) (.slice none 0 0) (.slice (some ⟨w1.heap.size,0,none⟩) 2 2)) ⟨hd0 op s,.two (A1 t) x⟩:=
  VE.node (f:= .two (A1 t) x) (RepL.two (ok:=AD w.heap.size) (n:=w1.heap.size) hsz.symm (by show w.heap.size≤_;omega) (Cells.nil _ _ _) (RepL.nil _ _) (rp'.mono (by intro q hq _;have:=hok q hq;show w.heap.size≤q;omega)) (rl'.mono (by intro q hq _;have:=hok q hq;show w.heap.size≤q;omega)))
 exact Post.ok (Aa (AN gr g7 (.inr (Nat.le_refl _))) _) hr hV ((hp.gb g7 (by intro q e;cases e;omega)).alloc _)
theorem K2{E:Nat→Res Ex}(hE:CE 67 b tv wv l wl E)(hl:Ce l):CE 222 b tv wv l wl (CG l E):=by
 intro w i hp ho;have hb:=hp.lt;have gr:w.grownBy (w.alloc (.cells zeroE.toArray 27 (0,0))) (some b):=Aa (Ac _ _) _;have hz:=Blk.new w zeroE 27;replace hp:=hp.alloc (.cells zeroE.toArray 27 (0,0));have H:=I (X hE (X hl ho));generalize hR:CG l E i=R at*;have HQ:=I hR;rw[CG]at HQ;clear hE hl ho hR;go_enter func222,ntmps222;go_wp2_with fail;refine(BG hp).mono ?_;rintro e w1 ⟨rfl,g⟩;replace hz:=hz.gb g (by simp);replace gr:=Ae gr g;replace hp:=hp.gbN g;clear g;have hs0:=hz.lt;go_wp2_with fail;refine(CL _ _ _ [38] _).mono ?_;rintro e w2 ⟨rfl,g⟩;replace hz:=hz.gb g (by simp);replace gr:=Ae gr g;replace hp:=hp.gbN g;replace hs0:=hz.lt;clear g;cases hs:Ad (Z l i) [38]with
 | true=>
   have hs':((Z l i).kind==4&&(Z l i).text==[38])=true:=hs;rw[hs'];replace HQ:=HQr HQ (by rw[if_pos hs]);go_wp2_with fail;refine(F_S H.out.1 H.out.2.1 _ _ hp (fun e=>H.out.2.2 (by rw[←HQ.out,e]))).mono ?_;intro e w3 hq;obtain⟨g,⟨q,hr,rfl⟩| ⟨x,j,v,hr,rfl,⟨pa,pc,la,lc,rfl,rp,rl⟩,hp⟩⟩:=hq.split
   ·exact⟨rfl,Post.bad (O gr g) (by rw[←HQ.out,hr])⟩
   replace gr:=O gr g;replace HQ:=HQr HQ (by rw[hr]);clear hr;replace hz:=hz.gb g (by simp;omega);obtain⟨cz_0,cz_1,cz_2,cz_3,cz_4,cz_5,cz_6,cz_f⟩:=(hz).c7;have HV:=I (X rp rl);clear rp rl g;go_wp2;exact bodyPost_ret (A3 rfl _ (hz.set7 _ _ _ _ _ _ _) rfl) rfl (AT hb HQ.out.symm gr ⟨_,_,_,_,rfl,HV.out.1,HV.out.2⟩ (by intro k hk;have:_≤k:=hk;omega) hp (Av _ _ _ _ _ _ _ _ _))
 |false=>
 have hs':((Z l i).kind==4&&(Z l i).text==[38])=false:=hs;rw[hs'];clear hs';replace HQ:=HQr HQ (by rw[if_neg (ne_true_of_eq_false hs)]);go_wp2_with fail;refine(CA hp H.out.2.1).mono ?_;intro e w3 hq;obtain⟨g,⟨q,hr,rfl⟩| ⟨s,j,v,hr,rfl,rfl,hp⟩⟩:=hq.split
 ·exact⟨rfl,Post.bad (O gr g) (by rw[←HQ.out,hr];rfl)⟩
 replace gr:=O gr g;replace HQ:=HQr HQ (by rw[hr,Res.bind_ok]);clear hr;replace hz:=hz.gb g (by simp;omega);clear g;go_wp2_with fail;cases hs:Ad (Z l j) [91]with
 | true=>
   refine(Bj hp _ hs).mono ?_;rintro e w4 ⟨rfl,hp',g⟩;replace hz:=hz.gb g (by simp;omega);replace gr:=O gr g;replace hp:=hp';have hs0:=hz.lt;clear g;replace HQ:=HQr HQ (by rw[if_pos hs]);go_wp2_with fail;refine(H.out.1 _ _ hp (fun e=>H.out.2.2 (by rw[←HQ.out,e];rfl))).mono ?_;intro e w6 hq;obtain⟨g,⟨q,hr,rfl⟩| ⟨x,j2,v,hr,rfl,⟨pa,pc,la,lc,rfl,rp,rl⟩,hp⟩⟩:=hq.split
   ·exact⟨rfl,Post.bad (O gr g) (by rw[←HQ.out,hr];rfl)⟩
   replace gr:=O gr g;replace HQ:=HQr HQ (by rw[hr,Res.bind_ok]);clear hr;replace hz:=hz.gb g (by simp;omega);have hk:=Kept.new hb gr hz hp (rp.mono fun g hg _=>by have:w4.heap.size≤g:=hg;show w.heap.size<g;omega) (rl.mono fun g hg _=>by have:w4.heap.size≤g:=hg;show w.heap.size<g;omega) rfl;clear rp rl g hz;go_wp2_with fail;replace gr:=hk.gr;refine(Cc hk.par [93]).mono ?_;intro e w7 hq;obtain⟨g,⟨q,hr,rfl⟩| ⟨_,j3,v,hr,rfl,rfl,hp⟩⟩:=hq.split
   ·exact⟨rfl,Post.bad (O gr g) (by rw[←HQ.out,hr];rfl)⟩
   replace gr:=O gr g;replace HQ:=HQr HQ (by rw[hr,Res.bind_ok]);clear hr;replace hk:=hk.gb hb g hp;clear g;have hz:=hk.zero;have hL:=hk.blk;have rp:=hk.rp.mono (ok':=fun g=>w.heap.size<g) (fun g hg _=>hg.1);have rl:=hk.rl.mono (ok':=fun g=>w.heap.size<g) (fun g hg _=>hg.1);have hwL:=hk.wL;have hltL:=hL.lt;clear hk;obtain⟨cl_0,cl_1,cl_2,cl_3,cl_4,cl_5,cl_6,cl_f⟩:=(hL).c7;have HV:=I (X rp rl);clear rp rl;obtain⟨cz_0,cz_1,cz_2,cz_3,cz_4,cz_5,cz_6,cz_f⟩:=(hz).c7;have hltz:=hz.lt;go_wp2;have g7:=Av w7 w.heap.size (.int .i64 6) (str []) (.int .i64 0) (.int .i64 0) (str []) (.slice none 0 0) (.slice (some ⟨w7.heap.size,0,none⟩) 2 2);have hW:=hz.set7 (.int .i64 6) (str []) (.int .i64 0) (.int .i64 0) (str []) (.slice none 0 0) (.slice (some ⟨w7.heap.size,0,none⟩) 2 2);have hsz:(set7 w7 w.heap.size (.int .i64 6) (str []) (.int .i64 0) (.int .i64 0) (str []) (.slice none 0 0) (.slice (some ⟨w7.heap.size,0,none⟩) 2 2)).heap.size=w7.heap.size:=by simp[set7]
   simp only[set7]at hW g7 hsz;generalize(((((((w7.setCell {block:=w.heap.size,off:=0} (.int .i64 6)).setCell {block:=w.heap.size,off:=1} (str [])).setCell {block:=w.heap.size,off:=2} (.int .i64 0)).setCell {block:=w.heap.size,off:=3} (.int .i64 0)).setCell {block:=w.heap.size,off:=4} (str [])).setCell {block:=w.heap.size,off:=5} (.slice none 0 0)).setCell {block:=w.heap.size,off:=6} (.slice (some ⟨w7.heap.size,0,none⟩) 2 2))=W' at*;exact bodyPost_ret (A3 (hd:=hd0 6 []) (pv:= .slice none 0 0) (lv:= .slice (some ⟨w7.heap.size,0,none⟩) 2 2) rfl _ (Blk.alloc hW (.cells (hdC (A1 s).h (.slice none 0 0) (.slice none 0 0)++hdC x.h (.slice pa x.h.p.length pc) (.slice la x.kids.len lc)).toArray 27 (0,0))) rfl) rfl (ML (op:=6) (s:=[]) (t:=s) hb HQ.out.symm gr HV.out.1 HV.out.2 (fun k hk=>hk) hp g7 hsz)
 | false=>
   refine(Be hp _ hs).mono ?_;rintro e w4 ⟨rfl,g⟩;replace hz:=hz.gb g (by simp);replace gr:=Ae gr g;replace hp:=hp.gbN g;clear g;replace HQ:=HQr HQ (by rw[if_neg (ne_true_of_eq_false hs)]);go_wp2_with fail;cases hs:Ad (Z l j) [45,62]with
   | false=>
     refine(Be hp _ hs).mono ?_;rintro e w5 ⟨rfl,g⟩;replace hz:=hz.gb g (by simp);replace gr:=Ae gr g;replace hp:=hp.gbN g;clear g;replace HQ:=HQr HQ (by rw[if_neg (ne_true_of_eq_false hs)]);obtain⟨cz_0,cz_1,cz_2,cz_3,cz_4,cz_5,cz_6,cz_f⟩:=(hz).c7;go_wp2;exact bodyPost_ret (A3 (hd:=(A1 s:Ex).h) (pv:= .slice none 0 0) (lv:= .slice none 0 0) rfl _ (hz.set7 _ _ _ _ _ _ _) rfl) rfl (AT (ok:=fun k=>w.heap.size<k) (x:=A1 s) hb HQ.out.symm gr ⟨none,0,none,0,rfl,Cells.nil _ _ _,RepL.nil _ _⟩ (fun k hk=>hk) hp (Av _ _ _ _ _ _ _ _ _))
   |true=>
   refine(Bj hp _ hs).mono ?_;rintro e w5 ⟨rfl,hp',g⟩;replace hz:=hz.gb g (by simp;omega);replace gr:=O gr g;replace hp:=hp';have hs0:=hz.lt;clear g;replace HQ:=HQr HQ (by rw[if_pos hs]);go_wp2_with fail;refine(CA hp H.out.2.1).mono ?_;intro e w6 hq;obtain⟨g,⟨q,hr,rfl⟩| ⟨t,j2,v,hr,rfl,rfl,hp⟩⟩:=hq.split
   ·exact⟨rfl,Post.bad (O gr g) (by rw[←HQ.out,hr];rfl)⟩
   replace gr:=O gr g;replace HQ:=HQr HQ (by rw[hr,Res.bind_ok]);clear hr;replace hz:=hz.gb g (by simp;omega);clear g;have rp:=Cells.nil w6 1 (fun g=>w.heap.size<g);have rl:=RepL.nil w6 (fun g=>w.heap.size<g);have HV:=I (X rp rl);clear rp rl;obtain⟨cz_0,cz_1,cz_2,cz_3,cz_4,cz_5,cz_6,cz_f⟩:=(hz).c7;have hltz:=hz.lt;go_wp2;have g7:=Av w6 w.heap.size (.int .i64 2) (str s) (.int .i64 0) (.int .i64 0) (str []) (.slice none 0 0) (.slice (some ⟨w6.heap.size,0,none⟩) 1 1);have hW:=hz.set7 (.int .i64 2) (str s) (.int .i64 0) (.int .i64 0) (str []) (.slice none 0 0) (.slice (some ⟨w6.heap.size,0,none⟩) 1 1);have hsz:(set7 w6 w.heap.size (.int .i64 2) (str s) (.int .i64 0) (.int .i64 0) (str []) (.slice none 0 0) (.slice (some ⟨w6.heap.size,0,none⟩) 1 1)).heap.size=w6.heap.size:=by simp[set7]
   simp only[set7]at hW g7 hsz;generalize(((((((w6.setCell {block:=w.heap.size,off:=0} (.int .i64 2)).setCell {block:=w.heap.size,off:=1} (str s)).setCell {block:=w.heap.size,off:=2} (.int .i64 0)).setCell {block:=w.heap.size,off:=3} (.int .i64 0)).setCell {block:=w.heap.size,off:=4} (str [])).setCell {block:=w.heap.size,off:=5} (.slice none 0 0)).setCell {block:=w.heap.size,off:=6} (.slice (some ⟨w6.heap.size,0,none⟩) 1 1))=W' at*;exact bodyPost_ret (A3 (hd:=hd0 2 s) (pv:= .slice none 0 0) (lv:= .slice (some ⟨w6.heap.size,0,none⟩) 1 1) rfl _ (Blk.alloc hW (Obj.cells #[Value.int IntKind.i64 (A1 t).h.op,str (A1 t).h.s,Value.int IntKind.i64 (A1 t).h.vk,Value.int IntKind.i64 (A1 t).h.vn,str (A1 t).h.vs,Value.slice none (A1 t).h.p.length 0,Value.slice none (A1 t).kids.len 0] 27)) rfl) rfl (Dh (op:=2) (s:=s) hb HQ.out.symm gr HV.out.1 HV.out.2 (fun k hk=>hk) hp g7 hsz)
end
section
variable {b:Nat}{tv wv:Value}{l:List Tok}{wl:List Bs}
def endsText:Bs:=[69,76,83,69,73,70,32,69,76,83,69,32,69,78,68,73,70,32,67,65,83,69,32,79,84,72,69,82,87,73,83,69,32,69,78,68,67,65,83,69,32,69,78,68,68,79,32,78,69,88,84,32,82,69,67,79,86,69,82,32,69,78,68,32,80,82,79,67,69,68,85,82,69,32,70,85,78,67,84,73,79,78]
theorem Jt:endsText.all (fun b=>decide (b.toNat<128))=true:=by decide+kernel
def endsL:List Bs:=[[69,76,83,69,73,70],[69,76,83,69],[69,78,68,73,70],[67,65,83,69],[79,84,72,69,82,87,73,83,69],[69,78,68,67,65,83,69],[69,78,68,68,79],[78,69,88,84],[82,69,67,79,86,69,82],[69,78,68],[80,82,79,67,69,68,85,82,69],[70,85,78,67,84,73,79,78]]
theorem Jd:Lib.fields endsText=endsL:=by decide+kernel
def E0(s:Bs):Bool:=Lib.containsS (endsL.map fun x=>⟨x.toArray⟩) ⟨s.toArray⟩
theorem Ix(s:Bs){w:World}(hg:Glob w):Calls Tryz.prog 180 #[str s] w fun e w'=>e= .returned (.bool (E0 s))∧w.grownBy w' none:=by
 have HG:=I hg;clear hg;go_enter func180,ntmps180;go_wp2_with fail;refine(strings_Fields ⟨endsText.toArray⟩ w (by decide+kernel) ?_ HG.out).mono ?_
 ·intro j b hb;have hb:endsText[j]? =some b:=hb;have h2:=List.all_eq_true.1 Jt b (List.mem_of_getElem? hb);simpa using h2
 rintro e w1 ⟨rfl,rfl⟩;rw[show(Lib.fields (ByteArray.mk endsText.toArray).data.toList)=endsL from Jd];have hn:endsL.length=12:=rfl;have HN:=I hn;clear hn;generalize hE:endsL=E at*;go_wp2_with fail;refine(slices_Contains_string w.heap.size 0 E.length E.length (E.map fun x=>⟨x.toArray⟩) ⟨s.toArray⟩ _ (by simp) (by have:=HN.out;omega) ?_).mono ?_
 ·intro j hj;simp at hj;simp[List.getD,hj]
 rintro e w2 ⟨rfl,rfl⟩;go_wp2;go_ret;exact⟨by rw[List.take_of_length_le (by simp),E0,hE];rfl,World.grownBy_alloc w _ none⟩
theorem Fv{w:World}{i:Nat}(h:Par w b tv wv l wl i)(hs:Ad (Z l (i+1)) [61]=true):
 Calls Tryz.prog 181 #[.pointer (some ⟨b,0,none⟩)] w fun e w'=>e= .returned (str [])∧w.grownBy w' none:=by
 have hs':((Z l (i+1)).kind==4&&(Z l (i+1)).text==[61])=true:=hs;have HS:=I hs';clear hs hs';go_enter func181,ntmps181;go_wp2_with fail;refine(ET h).mono ?_;rintro e w1 ⟨rfl,g⟩;go_wp2_with fail;go_loopg [10] 1 (fun g v10 wr=>v10= .int .i64 0∧wr=((w1.alloc (.cells #[.int .i64 (Z l (i+1)).kind,.int .i64 (Z l (i+1)).pos,str (Z l (i+1)).text] 105 (0,0))).alloc (.cells #[str [61],str [58,61],str [91],str [45,62]] 9 (0,0))))
 case atStart=>exact⟨rfl,rfl⟩
 case round=>
  obtain⟨rfl,rfl⟩:=hrel;go_wp2_with fail;refine(CL _ _ _ [61] _).mono ?_;rintro e w2 ⟨rfl,g2⟩;rw[HS.out];go_wp2;go_ret;exact⟨rfl,(by repeat(first| (with_reducible exact Ac _ _)| (with_reducible assumption)| (with_reducible exact AW (by assumption))| (with_reducible refine Aa ?_ _)| (with_reducible refine Aj ?_)| (with_reducible refine AH ?_ _)| ((with_reducible refine Ax ?_ _ _ ?h2);case h2=>first|exact .inl rfl|exact .inr (Nat.le_refl _)|exact .inr (by simp<;>omega))| (with_reducible refine Ae ?_ (by assumption))| (with_reducible refine O ?_ (by assumption))))⟩
end
def set10(w:World)(k:Nat)(v0 v1 v2 v3 v4 v5 v6 v7 v8 v9:Value):World:=
 (((set7 w k v0 v1 v2 v3 v4 v5 v6).setCell ⟨k,7,none⟩ v7).setCell ⟨k,8,none⟩ v8).setCell ⟨k,9,none⟩ v9
theorem Blk.set10{w:World}{k:Nat}{a0 a1 a2 a3 a4 a5 a6 a7 a8 a9:Value}{t:TypeId}(h:Blk w k [a0,a1,a2,a3,a4,a5,a6,a7,a8,a9] t)(v0 v1 v2 v3 v4 v5 v6 v7 v8 v9:Value):Blk (set10 w k v0 v1 v2 v3 v4 v5 v6 v7 v8 v9) k [v0,v1,v2,v3,v4,v5,v6,v7,v8,v9] t:=
 ((((((((((h.set 0 v0).set 1 v1).set 2 v2).set 3 v3).set 4 v4).set 5 v5).set 6 v6).set 7 v7).set 8 v8).set 9 v9).of_eq rfl rfl
theorem DS(w:World)(k:Nat)(v0 v1 v2 v3 v4 v5 v6 v7 v8 v9:Value):w.grownBy (set10 w k v0 v1 v2 v3 v4 v5 v6 v7 v8 v9) (some k):=
 BD (BD (BD (Av w k v0 v1 v2 v3 v4 v5 v6) 7 v7) 8 v8) 9 v9
theorem KI:(match(Tryz.prog.underlying 56)with|some (.struct _)=>true|_=>false)=true:=by kernel_rfl
theorem Ks{fn:Func}{p:Tmp}(h:fn.results=#[.cell p 56])(tmps:Array Value){w:World}{k:Nat}{cs:List Value}(hb:Blk w k cs 56)(hn:cs.length=10)(hp:tmps.getD p undef= .pointer (some ⟨k,0,none⟩)):
 (results fn tmps).run Tryz.prog w= .ok (.agg cs.toArray) w:=by
 have hs:=KI;cases hu:Tryz.prog.underlying 56 with
 |none=>rw[hu]at hs;cases hs
 | some d=>
   rw[hu]at hs;exact results_cell_row h tmps w k 56 cs.toArray (0,0) d hp hb hu (by cases d<;>simp_all) (by rw[List.size_toArray,hn];show(Tryz.prog.info? 56).map (·.size)=some 10;kernel_rfl)
abbrev stC(op:Int)(xv:Value):List Value:=[.int .i64 op,str [],str [],.slice none 0 0,xv,.slice none 0 0,.int .i64 0,.slice none 0 0,.slice none 0 0,.slice none 0 0]
section
variable {b:Nat}{tv wv:Value}{l:List Tok}{wl:List Bs}
def GH(b:Nat)(tv wv:Value)(l:List Tok)(wl:List Bs)(w:World)(t x:Ex)(k:Nat)(e:Ending)(w':World):Prop:=
 ∃la lc,e= .returned (.agg (stC 0 (.slice la 2 lc)).toArray)∧RepL (AD w.heap.size) w' (.slice la 2 lc) (.two t x)∧Par w' b tv wv l wl k∧w.grownBy w' (some b)
structure SetPre(b:Nat)(tv wv:Value)(l:List Tok)(wl:List Bs)(w:World)(t x:Ex)(pa la pa2 la2:Option Addr)(pc lc pc2 lc2 k:Nat)(ok:Nat→Prop)(W:World):Prop where
 par:Par W b tv wv l wl k
 tp:Cells W (.slice pa t.h.p.length pc) 1 t.h.p.length (t.h.p.map str) ok
 tl:RepL ok W (.slice la t.kids.len lc) t.kids
 xp:Cells W (.slice pa2 x.h.p.length pc2) 1 x.h.p.length (x.h.p.map str) ok
 xl:RepL ok W (.slice la2 x.kids.len lc2) x.kids
 gr:w.grownBy W (some b)
 zero:Blk W w.heap.size (stC 0 (.slice none 0 0)) 56
 lt:b<w.heap.size
 hok:∀q,ok q→w.heap.size<q
structure Dk(b:Nat)(tv wv:Value)(l:List Tok)(wl:List Bs)(w:World)(t x:Ex)(k kS kR:Nat)(W:World):Prop where
 par:Par W b tv wv l wl k
 row:RepL (fun q=>w.heap.size<q) W (.slice (some ⟨kR,0,none⟩) 2 2) (.two t x)
 st:Blk W kS (stC 0 (.slice (some ⟨kR,0,none⟩) 2 2)) 56
 gr:w.grownBy W (some b)
 zero:Blk W w.heap.size (stC 0 (.slice none 0 0)) 56
 ne:w.heap.size<kS
 lt:b<w.heap.size
section
variable {w W:World}{t x:Ex}{pa la pa2 la2:Option Addr}{pc lc pc2 lc2 k:Nat}
abbrev rowO(t x:Ex)(pa la pa2 la2:Option Addr)(pc lc pc2 lc2:Nat):Obj:= .cells (hdC t.h (.slice pa t.h.p.length pc) (.slice la t.kids.len lc)++hdC x.h (.slice pa2 x.h.p.length pc2) (.slice la2 x.kids.len lc2)).toArray 27 (0,0)
abbrev stO(kR:Nat):Obj:= .cells (stC 0 (.slice (some ⟨kR,0,none⟩) 2 2)).toArray 56 (0,0)
theorem SetPre.A{ok:Nat→Prop}(h:SetPre b tv wv l wl w t x pa la pa2 la2 pc lc pc2 lc2 k ok W):Dk b tv wv l wl w t x k (W.heap.size+1) W.heap.size ((W.alloc (rowO t x pa la pa2 la2 pc lc pc2 lc2)).alloc (stO W.heap.size)):=by
 have hs:=h.gr.size;have hz:=h.zero.lt;have ho:∀q,ok q→q<W.heap.size→w.heap.size<q:=fun q hq _=>h.hok q hq;have g2:=World.grownBy_alloc (W.alloc (rowO t x pa la pa2 la2 pc lc pc2 lc2)) (stO W.heap.size) none;exact⟨(h.par.alloc _).alloc _,(RepL.two (ok:=fun q=>w.heap.size<q) rfl hz (h.tp.mono ho) (h.tl.mono ho) (h.xp.mono ho) (h.xl.mono ho)).gb g2 (by simp),(Blk.new _ _ _).of_eq (by simp) rfl,Aa (Aa h.gr _) _,(h.zero.alloc _).alloc _,by omega,h.lt⟩
theorem SetPre.B{ok:Nat→Prop}(h:SetPre b tv wv l wl w t x pa la pa2 la2 pc lc pc2 lc2 k ok W):Dk b tv wv l wl w t x k W.heap.size (W.heap.size+1) ((W.alloc (stO (W.heap.size+1))).alloc (rowO t x pa la pa2 la2 pc lc pc2 lc2)):=by
 have hs:=h.gr.size;have hz:=h.zero.lt;have ho:∀q,ok q→q<W.heap.size→w.heap.size<q:=fun q hq _=>h.hok q hq;have g1:=World.grownBy_alloc W (stO (W.heap.size+1)) none;exact⟨(h.par.alloc _).alloc _,RepL.two (ok:=fun q=>w.heap.size<q) (by simp) (by show w.heap.size<_;omega) ((h.tp.mono ho).gb g1 (by simp)) ((h.tl.mono ho).gb g1 (by simp)) ((h.xp.mono ho).gb g1 (by simp)) ((h.xl.mono ho).gb g1 (by simp)),(Blk.new _ _ _).alloc _,Aa (Aa h.gr _) _,(h.zero.alloc _).alloc _,hz,h.lt⟩
theorem SetPre.C{ok:Nat→Prop}(h:SetPre b tv wv l wl w t x pa la pa2 la2 pc lc pc2 lc2 k ok W){kS:Nat}(hS:Blk W kS (stC 0 (.slice none 0 0)) 56)(h8:w.heap.size<kS)(hk:∀q,ok q→q≠kS):
 Dk b tv wv l wl w t x k kS W.heap.size ((set10 W kS (.int .i64 0) (str []) (str []) (.slice none 0 0) (.slice (some ⟨W.heap.size,0,none⟩) 2 2) (.slice none 0 0) (.int .i64 0) (.slice none 0 0) (.slice none 0 0) (.slice none 0 0)).alloc (rowO t x pa la pa2 la2 pc lc pc2 lc2)):=by
 have hs:=h.gr.size;have hz:=h.zero.lt;have hb:=h.lt;have g1:=DS W kS (.int .i64 0) (str []) (str []) (.slice none 0 0) (.slice (some ⟨W.heap.size,0,none⟩) 2 2) (.slice none 0 0) (.int .i64 0) (.slice none 0 0) (.slice none 0 0) (.slice none 0 0);have hsz:(set10 W kS (.int .i64 0) (str []) (str []) (.slice none 0 0) (.slice (some ⟨W.heap.size,0,none⟩) 2 2) (.slice none 0 0) (.int .i64 0) (.slice none 0 0) (.slice none 0 0) (.slice none 0 0)).heap.size=W.heap.size:=by simp[set10,set7]
 have ho:∀q,ok q→q<(set10 W kS (.int .i64 0) (str []) (str []) (.slice none 0 0) (.slice (some ⟨W.heap.size,0,none⟩) 2 2) (.slice none 0 0) (.int .i64 0) (.slice none 0 0) (.slice none 0 0) (.slice none 0 0)).heap.size→w.heap.size<q:=fun q hq _=>h.hok q hq;have hn:∀q,ok q→q<W.heap.size→some q≠some kS:=fun q hq _ e=>by cases e;exact hk _ hq rfl
 exact⟨(h.par.gb g1 (by intro q e;cases e;omega)).alloc _,RepL.two (ok:=fun q=>w.heap.size<q) hsz.symm (by show w.heap.size<_;omega) ((h.tp.gb g1 hn).mono ho) ((h.tl.gb g1 hn).mono ho) ((h.xp.gb g1 hn).mono ho) ((h.xl.gb g1 hn).mono ho),(hS.set10 _ _ _ _ _ _ _ _ _ _).alloc _,Aa (AN h.gr g1 (.inr (by omega))) _,(h.zero.gb g1 (by simp;omega)).alloc _,h8,h.lt⟩
end
end
section
variable {b:Nat}{tv wv:Value}{l:List Tok}{wl:List Bs}
theorem LW{E:Nat→Res Ex}(hE:CE 67 b tv wv l wl E)(hl:Ce l){w:World}{i:Nat}(hp:Par w b tv wv l wl i)(hk:(Z l i).kind=0)(hs:Ad (Z l (i+1)) [61]=true)
 {t x:Ex} {j k:Nat} (ht:CG l E i= .ok t j) (hs2:Ad (Z l j) [61]=true) (he:E (j+1)= .ok x k) (hend:BZ l k= .ok () (k+1)):
 Calls Tryz.prog 182 #[.pointer (some ⟨b,0,none⟩)] w (GH b tv wv l wl w t x (k+1)):=by
 have hb:=hp.lt;have hq:Ad (Z l i) [63]=false:=by simp[Ad,hk]
 have hpar:Ad (Z l (i+1)) [40]=false:=by
  simp[Ad]at hs ⊢;intro _ h;rw[hs.2]at h;exact absurd h (by decide)
 have H:=I (X hE (X hl (X hs (X ht (X hs2 (X he (X hend (X hq hpar))))))));have HK:=I hk;clear hE hl hk hs ht hs2 he hend hq hpar;have gr:w.grownBy (w.alloc (.cells (stC 0 (.slice none 0 0)).toArray 56 (0,0))) (some b):=Aa (Ac _ _) _;have hz:=Blk.new w (stC 0 (.slice none 0 0)) 56;replace hp:=hp.alloc (.cells (stC 0 (.slice none 0 0)).toArray 56 (0,0));go_enter func182,ntmps182;go_wp2_with fail;refine(BG hp).mono ?_;rintro e w1 ⟨rfl,g⟩;have gA:=Aa g (.cells #[.int .i64 (Z l i).kind,.int .i64 (Z l i).pos,str (Z l i).text] 105 (0,0));have hT:=Blk.new w1 [.int .i64 (Z l i).kind,.int .i64 (Z l i).pos,str (Z l i).text] 105;have hbs:=g.size;simp at hbs;replace hz:=hz.gb gA (by simp);replace gr:=Ae gr gA;replace hp:=hp.gbN gA;clear g gA;go_wp2_with fail;refine(Fv hp H.out.2.2.1).mono ?_;rintro e w2 ⟨rfl,g⟩;replace hz:=hz.gb g (by simp);replace gr:=Ae gr g;replace hp:=hp.gbN g;replace hT:=hT.gb g (by simp);clear g;go_wp2_with fail;refine(Be hp [63] H.out.2.2.2.2.2.2.2.1).mono ?_;rintro e w3 ⟨rfl,g⟩;replace hz:=hz.gb g (by simp);replace gr:=Ae gr g;replace hp:=hp.gbN g;replace hT:=hT.gb g (by simp);have t0:=hT.cell 0;simp only[List.getElem?_cons_zero]at t0;rw[HK.out]at t0;have hTl:=hT.lt;clear g;go_wp2_with fail;refine(ET hp).mono ?_;rintro e w4 ⟨rfl,g⟩;replace hz:=hz.gb g (by simp);replace gr:=Ae gr g;replace hp:=hp.gbN g;clear g;go_wp2_with fail;refine(CL _ _ _ [40] _).mono ?_;rintro e w5 ⟨rfl,g⟩;replace hz:=hz.gb g (by simp);replace gr:=Ae gr g;replace hp:=hp.gbN g;clear g t0 hTl hT
 rw[show((Z l (i+1)).kind==4&&(Z l (i+1)).text==[40])=false from H.out.2.2.2.2.2.2.2.2];go_wp2_with fail;refine(K2 H.out.1 H.out.2.1 _ _ hp (by rw[H.out.2.2.2.1];simp)).mono ?_;rintro e w6 ⟨g,h6⟩;rw[H.out.2.2.2.1]at h6;obtain⟨v,rfl,⟨pa,pc,la,lc,rfl,rp,rl⟩,hp6⟩:=h6;have hbs6:=g.size;have hbs5:=gr.size;have hL:=Blk.new w6 (hdC t.h (.slice pa t.h.p.length pc) (.slice la t.kids.len lc)) 27;have hzl5:=hz.lt;have hsince:∀q,AD w5.heap.size q→q<w6.heap.size→w.heap.size<q:=fun q hq _=>by have:w5.heap.size≤q:=hq;omega
 have gN:=World.grownBy_alloc w6 (.cells (hdC t.h (.slice pa t.h.p.length pc) (.slice la t.kids.len lc)).toArray 27 (0,0)) none;have HX:=I (X (((rp.mono (ok':=fun q=>w.heap.size<q) hsince)).gb gN (by simp)) (((rl.mono (ok':=fun q=>w.heap.size<q) hsince)).gb gN (by simp)));replace gr:=Ae (O gr g) gN;have hp7:=hp6.gbN gN;replace hz:=(hz.gb g (by simp;omega)).gb gN (by simp);have hzlt:=hz.lt;clear rp rl g gN hp6 hp hsince;go_wp2_with fail;refine(Bj hp7 [61] H.out.2.2.2.2.1).mono ?_;rintro e w8 ⟨rfl,hp8,g8⟩;have hL8:=hL.gb g8 (by simp;omega);replace hz:=hz.gb g8 (by simp;omega);replace gr:=O gr g8;have hok:∀q,w.heap.size<q→some q≠some b:=fun q hq e=>by cases e;omega
 have HX8:=I (X (HX.out.1.gb g8 (fun q hq _=>hok q hq)) (HX.out.2.gb g8 (fun q hq _=>hok q hq)));have hLb:=hL8.lt;have hzlt2:w.heap.size<w8.heap.size:=by have:=hz.lt;omega
 obtain⟨cl_0,cl_1,cl_2,cl_3,cl_4,cl_5,cl_6,cl_f⟩:=(hL8).c7;clear HX g8 hL hp7;go_wp2_with fail;go_region_with(first| (go_at_call 67;refine(H.out.1 _ _ (hp8.gbN (Aj (Ac w8 none))) (by rw[H.out.2.2.2.2.2.1];simp)).mono ?_;rintro e w9 ⟨g9,h9⟩;rw[H.out.2.2.2.2.2.1]at h9;obtain⟨v,rfl,⟨pa2,pc2,la2,lc2,rfl,rp2,rl2⟩,hp9⟩:=h9;have gD:=O (Aj (Ac w8 (some b))) g9;have hL9:=hL8.gb gD (by simp;omega);have hL9t:=hL9.lt;obtain⟨dl_0,dl_1,dl_2,dl_3,dl_4,dl_5,dl_6,dl_f⟩:=(hL9).c7;have HY:=I (X rp2 rl2);clear rp2 rl2)| (go_at_call 67;refine(H.out.1 _ _ ((hp8.alloc (.cells (stC 0 (.slice none 0 0)).toArray 56 (0,0))).gbN (Aj (Ac _ none))) (by rw[H.out.2.2.2.2.2.1];simp)).mono ?_;rintro e w9 ⟨g9,h9⟩;rw[H.out.2.2.2.2.2.1]at h9;obtain⟨v,rfl,⟨pa2,pc2,la2,lc2,rfl,rp2,rl2⟩,hp9⟩:=h9;have gD:=O (Aj (Aa (Ac w8 (some b)) (.cells (stC 0 (.slice none 0 0)).toArray 56 (0,0)))) g9;have hL9:=hL8.gb gD (by simp;omega);have hL9t:=hL9.lt;obtain⟨dl_0,dl_1,dl_2,dl_3,dl_4,dl_5,dl_6,dl_f⟩:=(hL9).c7;have HY:=I (X rp2 rl2);clear rp2 rl2;have hS9:=((Blk.new w8 (stC 0 (.slice none 0 0)) 56).drew).gb g9 (by have:=hp8.lt;simp;omega);obtain⟨sl_0,sl_1,sl_2,sl_3,sl_4,sl_5,sl_6,sl_7,sl_8,sl_9,sl_f⟩:=(hS9).c10;have hS9t:=hS9.lt));all_goals
  have hzD:=hz.gb gD (by simp;omega);have grD:=O gr gD;have hs89:=gD.size;first
  | have hP:SetPre b tv wv l wl w t x pa la pa2 la2 pc lc pc2 lc2 k (fun q=>w.heap.size<q∧q≠w8.heap.size) w9:=⟨hp9,(HX8.out.1.mono (ok':=fun q=>w.heap.size<q∧q≠w8.heap.size) (fun q hq h=>⟨hq,by omega⟩)).gb gD (by intro q hq _ e;cases e;have:=hq.1;omega),(HX8.out.2.mono (ok':=fun q=>w.heap.size<q∧q≠w8.heap.size) (fun q hq h=>⟨hq,by omega⟩)).gb gD (by intro q hq _ e;cases e;have:=hq.1;omega),HY.out.1.mono (fun q hq _=>by simp at hq;exact⟨by omega,by omega⟩),HY.out.2.mono (fun q hq _=>by simp at hq;exact⟨by omega,by omega⟩),grD,hzD,hb,fun q hq=>hq.1⟩
    refine Dq (Dk b tv wv l wl w t x k w8.heap.size w9.heap.size) (hP.C hS9 hzlt2 (fun q hq=>hq.2)) ?_;clear hP hS9 sl_0 sl_1 sl_2 sl_3 sl_4 sl_5 sl_6 sl_7 sl_8 sl_9 sl_f
  | have hP:SetPre b tv wv l wl w t x pa la pa2 la2 pc lc pc2 lc2 k (fun q=>w.heap.size<q) w9:=⟨hp9,HX8.out.1.gb gD (fun q hq _=>hok q hq),HX8.out.2.gb gD (fun q hq _=>hok q hq),HY.out.1.mono (fun q hq _=>by simp at hq;omega),HY.out.2.mono (fun q hq _=>by simp at hq;omega),grD,hzD,hb,fun q hq=>hq⟩
    first
    |refine Dq (Dk b tv wv l wl w t x k (w9.heap.size+1) w9.heap.size) hP.A ?_
    |refine Dq (Dk b tv wv l wl w t x k w9.heap.size (w9.heap.size+1)) hP.B ?_
    clear hP
  clear hzD grD hp9 g9 gD hL9 HY dl_0 dl_1 dl_2 dl_3 dl_4 dl_5 dl_6 dl_f cl_0 cl_1 cl_2 cl_3 cl_4 cl_5 cl_6 cl_f hL8 HX8 hz gr hp8;intro W hW;have hne:=hW.ne;go_wp2_with fail;refine(GC hW.par).mono ?_;rintro e w10 ⟨g,h10⟩;rw[H.out.2.2.2.2.2.2.1]at h10;obtain⟨v,rfl,rfl,hp10⟩:=h10;have hS:=hW.st.gb g (by simp;omega);have hZ:=hW.zero.gb g (by simp;omega);have HF:=I (X hp10 (X (O hW.gr g) (hW.row.gb g (fun q hq _=>hok q hq))));clear hp10 hW g;obtain⟨sl_0,sl_1,sl_2,sl_3,sl_4,sl_5,sl_6,sl_7,sl_8,sl_9,sl_f⟩:=(hS).c10;obtain⟨zl_0,zl_1,zl_2,zl_3,zl_4,zl_5,zl_6,zl_7,zl_8,zl_9,zl_f⟩:=(hZ).c10;have hSl:=hS.lt;have HZ:=I hZ;clear hZ hS;go_wp2;refine bodyPost_ret (Ks rfl _ (HZ.out.set10 _ _ _ _ _ _ _ _ _ _) rfl rfl) rfl ⟨_,_,rfl,(HF.out.2.2.gb (DS _ _ _ _ _ _ _ _ _ _ _ _) (fun q hq _ e=>by cases e;omega)).mono (fun q hq _=>Nat.le_of_lt hq),HF.out.1.gb (DS _ _ _ _ _ _ _ _ _ _ _ _) (by intro q e;cases e;exact hb),AN HF.out.2.1 (DS _ _ _ _ _ _ _ _ _ _ _ _) (.inr (Nat.le_refl _))⟩
end
section
variable {b:Nat}{tv wv:Value}{l:List Tok}{wl:List Bs}
theorem MA:(Tryz.prog.info? 56).map (fun i=>(i.zero,i.size,i.bytes))=some (some (.agg (stC 0 (.slice none 0 0)).toArray),10,192):=by kernel_rfl
theorem Ke:E0 []=false:=by decide+kernel
def SetRow(B:Nat)(w:World)(v:Value)(t x:Ex):Prop:=∃la lc,w.ownsRow B 56 10 v 1 (stC 0 (.slice la 2 lc))∧RepL (AD B) w (.slice la 2 lc) (.two t x)
theorem SetRow.gb{B:Nat}{w w1:World}{v:Value}{t x:Ex}{r:Option Nat}(h:SetRow B w v t x)(g:w.grownBy w1 r)(hr:∀q,r=some q→q<B):SetRow B w1 v t x:=by
 obtain⟨la,lc,ho,hl⟩:=h;exact⟨la,lc,Dc ho g (by intro k hk _ e;have:=hr k e.symm;omega),hl.gb g (by intro k hk _ e;have:=hr k e.symm;have:B≤k:=hk;omega)⟩
def BlkR(b:Nat)(tv wv:Value)(l:List Tok)(wl:List Bs)(w:World)(t x:Ex)(g:Nat)(v:Value)(wr:World):Prop:=
 match g with
 | 0=>SetRow w.heap.size wr v t x∧Par wr b tv wv l wl l.length∧w.grownBy wr (some b)
 |_=>v= .slice none 0 0∧wr=w
theorem JZ{E:Nat→Res Ex}(hE:CE 67 b tv wv l wl E)(hl:Ce l){w:World}(hg:Glob w)(hgb:0<b){i:Nat}(hp:Par w b tv wv l wl i)(hk:(Z l i).kind=0)(hs:Ad (Z l (i+1)) [61]=true)
 {t x:Ex} {j k:Nat} (ht:CG l E i= .ok t j) (hs2:Ad (Z l j) [61]=true) (he:E (j+1)= .ok x k) (hend:BZ l k= .ok () (k+1)) (hlen:k+1=l.length) (hi:i<l.length):
 Calls Tryz.prog 140 #[.pointer (some ⟨b,0,none⟩)] w fun e w'=>∃v,e= .returned v∧SetRow w.heap.size w' v t x∧Par w' b tv wv l wl l.length∧w.grownBy w' (some b):=by
 have hb:=hp.lt;have hf:=hp.few;have HST:∀w1,Par w1 b tv wv l wl i→Calls Tryz.prog 182 #[.pointer (some ⟨b,0,none⟩)] w1 (GH b tv wv l wl w1 t x l.length):=fun w1 h=>by rw[←hlen];exact LW hE hl h hk hs ht hs2 he hend
 have HS:=I (X HST (X hs hg));obtain⟨ta,tc,rfl⟩:=hp.tv_eq;clear HST hE hk hs ht hs2 he hend hg hl;go_enter func140,ntmps140;go_wp2_with fail;go_loopg [3] 1 (fun g v wr=>BlkR b (.slice ta l.length tc) wv l wl w t x g v wr)
 case atStart=>exact⟨rfl,rfl⟩
 case round=>
  cases gk with
  | zero=>
    obtain⟨hR,hpe,gr⟩:=hrel;have HR:=I (X hR (X hpe gr));clear hR;have c0:=hpe.c0;have c1:=hpe.c1;clear hp hpe gr;have hd:decide ((l.length:Int)<(l.length:Int))=false:=by simp
    go_wp2_with fail;go_quiet(fail);go_wp2;go_ret;exact⟨_,rfl,HR.out.1.gb (AH (Ac _ none) _) (by simp),HR.out.2.1.drewN _,AH HR.out.2.2 _⟩
  | succ gk=>
    obtain⟨rfl,rfl⟩:=hrel;have c0:=hp.c0;have c1:=hp.c1;have hd:decide ((i:Int)<(l.length:Int))=true:=by simp;omega
    go_wp2_with fail;go_region_with(first| (go_at_call 181;refine(Fv (hp.gbN (Aj (Ac wr none))) HS.out.2.1).mono ?_;rintro e w1 ⟨rfl,g1⟩)| (go_at_call 180;refine(Ix [] ((HS.out.2.2.gb (Aj (Ac wr none)) (by simp)).gb g1 (by simp))).mono ?_;rintro e w2 ⟨rfl,g2⟩;rw[Ke]));all_goals
     have gA:wr.grownBy w2 none:=O (O (Aj (Ac wr none)) g1) g2;clear g1 g2;go_wp2_with fail;refine(HS.out.1 _ (hp.gbN gA)).mono ?_;rintro e w3 ⟨la,lc,rfl,hrep,hpar,g3⟩;have hsA:=gA.size;have hs3:=g3.size;have hpl:=hpar.lt;have hown4:(w3.alloc (.cells (stC 0 (.slice la 2 lc)).toArray 56 (0,0))).ownsRow wr.heap.size 56 10 (.slice none 0 0) 0 []:=⟨rfl,.inl ⟨rfl,rfl⟩⟩;have gB:=World.grownBy_alloc w3 (.cells (stC 0 (.slice la 2 lc)).toArray 56 (0,0)) none;have hbs:wr.heap.size≤(w3.alloc (.cells (stC 0 (.slice la 2 lc)).toArray 56 (0,0))).heap.size:=by simp;omega
     obtain⟨i0,hi0,hz0,hz1,hz2⟩:=info_parts MA;have hnc:=Db w3 (stC 0 (.slice la 2 lc)) 56;have HX:=I (X hi0 (X hz0 (X hz1 (X hz2 (X hnc hown4)))));clear hi0 hz0 hz1 hz2 hnc hown4;go_wp2_with (at_builtin;obtain⟨hi0,hz0,hz1,hz2,hnc,hown4⟩:=HX.out;refine Dg rfl _ _ 49 rfl wr.heap.size 56 i0 _ 10 192 underlying49 hi0 hz0 hz1 hz2 rfl (by decide) _ _ _ rfl hown4 ⟨w3.heap.size,0,none⟩ 1 1 (stC 0 (.slice la 2 lc)) rfl rfl hnc (by simp[Value.oneCell']) (by decide) (by omega) hbs ?_;intro v' w5 hown5 g5 hn5;clear hi0 hz0 hz1 hz2 hnc hown4);have g5':(w3.alloc (.cells (stC 0 (.slice la 2 lc)).toArray 56 (0,0))).grownBy w5 none:=g5;have gC:=O gB g5';go_roundg 0
     case measure=>omega
     case rel=>exact⟨⟨la,lc,hown5,(hrep.gb gC (by simp)).mono (by intro q hq _;have:w2.heap.size≤q:=hq;show wr.heap.size≤q;omega)⟩,hpar.gbN gC,Ae (O (AW gA) g3) gC⟩
end
end Go.Proofs.YtgjdhajcnechdaaGreatDoor
