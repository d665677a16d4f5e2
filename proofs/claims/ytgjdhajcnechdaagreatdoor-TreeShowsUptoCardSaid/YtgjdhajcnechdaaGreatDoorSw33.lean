/-
  Plain laws: the names that stand in an expression by themselves: both ways collect the same. The reference's reader: prim. What the reference says of an expression: plain facts. heavy and overExpr: th
-/
import Derived.Test.YtgjdhajcnechdaaGreatDoorSw22
import Derived.Test.YtgjdhajcnechdaaGreatDoorSw28
import Derived.Test.YtgjdhajcnechdaaGreatDoorSw26
import Derived.Test.YtgjdhajcnechdaaGreatDoorSw25
import Derived.Test.YtgjdhajcnechdaaGreatDoorSw30
import Derived.Test.YtgjdhajcnechdaaGreatDoorSw03
import Derived.Test.YtgjdhajcnechdaaGreatDoorSw04
import Derived.OpenShut
import Derived.SliceStrings
set_option linter.all false
set_option maxRecDepth 100000
set_option maxHeartbeats 8000000
namespace Go.Proofs.YtgjdhajcnechdaaGreatDoor
open Go.Proofs.Tryz
def Bp(h:Hd)(p:List Bs)(k':List Bs→List Bs):List Bs:=
 if h.op=1∧p.contains h.s=false then [h.s]else if h.op=2 then []else if h.op=8 then k' (p++h.p)else k' p
def AA:Fo→List Bs→List Bs
 | .nil,_=>[]
 | .cons h k n,p=>Bp h p (AA k)++AA n p
def Ck(h:Hd)(p:List Bs)(k':List Bs→List Bs):List Bs:=
 if h.op=1 then(if p.contains h.s=true then []else [h.s])else if h.op=2 then []else if h.op=8 then k' (p++h.p)else k' p
def AT:Fo→List Bs→List Bs
 | .nil,_=>[]
 | .cons h k n,p=>Ck h p (AT k)++AT n p
theorem Ru:∀(f:Fo)(p:List Bs),okF f=true→AA f p=AT f p:=by
 intro f;induction f with
 |nil=>intro p _;rfl
 | cons h k n ihk ihn=>
   intro p ho;simp only[okF,Bool.and_eq_true]at ho;show Bp h p (AA k)++AA n p=Ck h p (AT k)++AT n p;rw[ihn p ho.2];congr 1;have L:h.op=1→k= .nil:=fun h1=>Ta (O5 ho.1.1 h1);unfold Bp Ck;by_cases h1:h.op=1
   ·have hk:=L h1;subst hk;cases hc:p.contains h.s with
    |false=>rw[if_pos ⟨h1,rfl⟩,if_pos h1,if_neg (by simp)]
    | true=>
      rw[if_neg (by simp),if_neg (by omega),if_neg (by omega),if_pos h1,if_pos rfl];rfl
   ·rw[if_neg (fun e=>h1 e.1),if_neg h1];split
    ·rfl
    ·split
     ·exact ihk _ ho.1.2
     ·exact ihk _ ho.1.2
open Go.RowKit
structure TokW(t:Tok):Prop where
 num:t.kind=1→1≤t.text.length∧t.text.length≤15∧t.text.all AJ=true
 day:t.kind=3→t.text.length≤4000
theorem Qr(n:Int)(w:World):Calls Tryz.prog 22 #[.int .i64 n] w fun e w'=>e= .returned (.agg #[.int .i64 2,.int .i64 n,str []])∧w.grownBy w' none:=by
 go_enter func22,ntmps22;go_wp2;refine bodyPost_ret (v:= .agg #[.int .i64 2,.int .i64 n,str []]) (by simp[results,results22,go_sem]) rfl ⟨rfl,(by repeat(first| (with_reducible exact Ac _ _)| (with_reducible assumption)| (with_reducible exact AX (by assumption))| (with_reducible refine Ad ?_ _)| (with_reducible refine Am ?_)| (with_reducible refine Ay ?_ _)| ((with_reducible refine Az ?_ _ _ ?h2);case h2=>first|exact .inl rfl|exact .inr (Nat.le_refl _)|exact .inr (by simp<;>omega))| (with_reducible refine Ag ?_ (by assumption))| (with_reducible refine Aa ?_ (by assumption))))⟩
theorem OE(n:Int)(w:World):Calls Tryz.prog 318 #[.int .i64 n] w fun e w'=>e= .returned (.agg #[.int .i64 3,.int .i64 n,str []])∧w.grownBy w' none:=by
 go_enter func318,ntmps318;go_wp2;refine bodyPost_ret (v:= .agg #[.int .i64 3,.int .i64 n,str []]) (by simp[results,results318,go_sem]) rfl ⟨rfl,(by repeat(first| (with_reducible exact Ac _ _)| (with_reducible assumption)| (with_reducible exact AX (by assumption))| (with_reducible refine Ad ?_ _)| (with_reducible refine Am ?_)| (with_reducible refine Ay ?_ _)| ((with_reducible refine Az ?_ _ _ ?h2);case h2=>first|exact .inl rfl|exact .inr (Nat.le_refl _)|exact .inr (by simp<;>omega))| (with_reducible refine Ag ?_ (by assumption))| (with_reducible refine Aa ?_ (by assumption))))⟩
theorem OG(s:Bs)(w:World):Calls Tryz.prog 316 #[str s] w fun e w'=>e= .returned (.agg #[.int .i64 4,.int .i64 0,str s])∧w.grownBy w' none:=by
 go_enter func316,ntmps316;go_wp2;refine bodyPost_ret (v:= .agg #[.int .i64 4,.int .i64 0,str s]) (by simp[results,results316,go_sem]) rfl ⟨rfl,(by repeat(first| (with_reducible exact Ac _ _)| (with_reducible assumption)| (with_reducible exact AX (by assumption))| (with_reducible refine Ad ?_ _)| (with_reducible refine Am ?_)| (with_reducible refine Ay ?_ _)| ((with_reducible refine Az ?_ _ _ ?h2);case h2=>first|exact .inl rfl|exact .inr (Nat.le_refl _)|exact .inr (by simp<;>omega))| (with_reducible refine Ag ?_ (by assumption))| (with_reducible refine Aa ?_ (by assumption))))⟩
theorem IJ(q:Bool)(w:World):Calls Tryz.prog 321 #[.bool q] w fun e w'=>e= .returned (.agg #[.int .i64 1,.int .i64 (if q then 1 else 0),str []])∧w.grownBy w' none:=by
 cases q with
 | true=>
   go_enter func321,ntmps321;go_wp2;refine bodyPost_ret (v:= .agg #[.int .i64 1,.int .i64 1,str []]) (by simp[results,results321,go_sem]) rfl ⟨rfl,(by repeat(first| (with_reducible exact Ac _ _)| (with_reducible assumption)| (with_reducible exact AX (by assumption))| (with_reducible refine Ad ?_ _)| (with_reducible refine Am ?_)| (with_reducible refine Ay ?_ _)| ((with_reducible refine Az ?_ _ _ ?h2);case h2=>first|exact .inl rfl|exact .inr (Nat.le_refl _)|exact .inr (by simp<;>omega))| (with_reducible refine Ag ?_ (by assumption))| (with_reducible refine Aa ?_ (by assumption))))⟩
 | false=>
   go_enter func321,ntmps321;go_wp2;refine bodyPost_ret (v:= .agg #[.int .i64 1,.int .i64 0,str []]) (by simp[results,results321,go_sem]) rfl ⟨rfl,(by repeat(first| (with_reducible exact Ac _ _)| (with_reducible assumption)| (with_reducible exact AX (by assumption))| (with_reducible refine Ad ?_ _)| (with_reducible refine Am ?_)| (with_reducible refine Ay ?_ _)| ((with_reducible refine Az ?_ _ _ ?h2);case h2=>first|exact .inl rfl|exact .inr (Nat.le_refl _)|exact .inr (by simp<;>omega))| (with_reducible refine Ag ?_ (by assumption))| (with_reducible refine Aa ?_ (by assumption))))⟩
section
variable {b:Nat}{tv:Value}{l:List Tok}
theorem Gg{E:FR Ex}(hE:CR 48 b tv l E)(n:Nat)(hok:∀i,TokW (Ab l i)){w:World}{i:Nat}(h:Rr w b tv l (i,false)){r:Ex×RS}
 (ho:Ci l AO E n (i,false)=some r) (hk:(Ab l i).kind=1∨((Ab l i).kind=2∧(Ab l i).text.length≤2048)∨(Ab l i).kind=3):
 Calls Tryz.prog 304 #[.pointer (some ⟨b,0,none⟩)] w (B9 b tv l w (VEx w) r):=by
 have hb:=h.lt;have gz:w.grownBy (w.alloc (.cells zeroE.toArray 27 (0,0))) (some b):=Ad (Ac _ _) _;have hz:=Blk.new w zeroE 27;have h0:=h.alloc (.cells zeroE.toArray 27 (0,0));have c2:=h0.c2;have hi:i<l.length:=by rcases hk with h|h|h<;>exact DM (by omega)
 have HT0:=O (DW h0);have hOk:=hok i;unfold Ci at ho;simp only[Bool.false_eq_true,if_false]at ho;have H:=O (Z hE (Z hz (Z gz h0)));simp only at HT0 c2;generalize htt:Ab l i=t at*;clear hE hz gz h0 htt hok;rcases hk with hk| ⟨hk,hlen⟩|hk
 ·rw[if_pos hk]at ho;cases ho;have hn:=hOk.num hk;have HK:=O hk;have hk1:(t.kind==1)=true:=by simpa using hk
  have HV:=O (fun(W:World)=>FD t.text hn.2.2 hn.1 hn.2.1 W);clear hn hOk hk;go_enter func304,ntmps304;go_wp2_with fail;refine HT0.out.mono ?_;rintro e w1 ⟨rfl,g1⟩;have hZ1:=(H.out.2.1.gb g1 (by simp)).alloc (.cells #[.int .i64 t.kind,.int .i64 t.pos,str t.text] 105 (0,0));have hR1:=(H.out.2.2.2.gbN g1).alloc (.cells #[.int .i64 t.kind,.int .i64 t.pos,str t.text] 105 (0,0));have hTk:=Blk.new w1 [.int .i64 t.kind,.int .i64 t.pos,str t.text] 105;have G1:=O (Ad (Ag H.out.2.2.1 g1) (.cells #[.int .i64 t.kind,.int .i64 t.pos,str t.text] 105 (0,0)));have hb1:b<w1.heap.size:=Nat.lt_of_lt_of_le H.out.2.2.2.lt g1.size;have hw1:w.heap.size<w1.heap.size:=Nat.lt_of_lt_of_le (by simp) g1.size;clear g1 HT0;have HN:=O (GH hR1 (fun _=>hi));clear hR1;go_wp2_with fail;refine HN.out.mono ?_;rintro e w2 ⟨g2,v,rfl,rfl,h2⟩;have hZ:=hZ1.gb g2 (by simp;omega);have hT2:=hTk.gb g2 (by simp;omega);have HR:=O (Z (Aa G1.out g2) h2);have hlt2:=hZ.lt;have t2:=hT2.cell 2;simp only[List.getElem?_cons_zero,List.getElem?_cons_succ]at t2;clear g2 h2 hZ1 hTk HN;go_wp2_with fail;refine(HV.out _).mono ?_;rintro e w3 ⟨rfl,rfl⟩;generalize As t.text=z at*;go_wp2_with fail;refine(Qr _ _).mono ?_;rintro e w4 ⟨rfl,g4⟩;replace hZ:=hZ.gb g4 (by simp);replace HR:=O (Z (Ag HR.out.1 g4) (HR.out.2.gbN g4));have hlt4:=hZ.lt;clear g4;obtain⟨cz_0,cz_1,cz_2,cz_3,cz_4,cz_5,cz_6,cz_f⟩:=(hZ).c7;go_wp2
  exact bodyPost_ret (Al (hd:=(A0 2 z []:Ex).h) (pv:= .slice none 0 0) (lv:= .slice none 0 0) rfl _ (hZ.set7 _ _ _ _ _ _ _) rfl) rfl (Bh (ok:=fun k=>w.heap.size<k) (x:=A0 2 z []) hb HR.out.1 ⟨none,0,none,0,rfl,Cells.nil _ _ _,RepL.nil _ _⟩ (fun k hk=>hk) HR.out.2 (Ah _ _ _ _ _ _ _ _ _))
 ·have h1:¬t.kind=1:=by omega
  rw[if_neg h1,if_pos ⟨hk,hlen⟩]at ho;cases ho;have hk1:(t.kind==1)=false:=by simpa using h1
  have hk2:(t.kind==2)=true:=by simpa using hk
  have hl1:decide ((t.text.length:Int)≤2048)=true:=by simp;omega
  clear hk h1 hOk;go_enter func304,ntmps304;go_wp2_with fail;refine HT0.out.mono ?_;rintro e w1 ⟨rfl,g1⟩;have hZ1:=(H.out.2.1.gb g1 (by simp)).alloc (.cells #[.int .i64 t.kind,.int .i64 t.pos,str t.text] 105 (0,0));have hR1:=(H.out.2.2.2.gbN g1).alloc (.cells #[.int .i64 t.kind,.int .i64 t.pos,str t.text] 105 (0,0));have hTk:=Blk.new w1 [.int .i64 t.kind,.int .i64 t.pos,str t.text] 105;have G1:=O (Ad (Ag H.out.2.2.1 g1) (.cells #[.int .i64 t.kind,.int .i64 t.pos,str t.text] 105 (0,0)));have hb1:b<w1.heap.size:=Nat.lt_of_lt_of_le H.out.2.2.2.lt g1.size;have hw1:w.heap.size<w1.heap.size:=Nat.lt_of_lt_of_le (by simp) g1.size;clear g1 HT0;have t2:=hTk.cell 2;simp only[List.getElem?_cons_zero,List.getElem?_cons_succ]at t2;go_wp2_with fail;refine(GH hR1 (fun _=>hi)).mono ?_;rintro e w2 ⟨g2,v,rfl,rfl,h2⟩;have hZ:=hZ1.gb g2 (by simp;omega);have hT2:=hTk.gb g2 (by simp;omega);have HR:=O (Z (Aa G1.out g2) h2);have hlt2:=hZ.lt;have s2:=hT2.cell 2;simp only[List.getElem?_cons_zero,List.getElem?_cons_succ]at s2;clear g2 h2 hZ1 hTk t2;go_wp2_with fail;refine(OG _ _).mono ?_;rintro e w4 ⟨rfl,g4⟩;replace hZ:=hZ.gb g4 (by simp);replace HR:=O (Z (Ag HR.out.1 g4) (HR.out.2.gbN g4));have hlt4:=hZ.lt;clear g4 s2;obtain⟨cz_0,cz_1,cz_2,cz_3,cz_4,cz_5,cz_6,cz_f⟩:=(hZ).c7;go_wp2
  exact bodyPost_ret (Al (hd:=(A0 4 0 t.text:Ex).h) (pv:= .slice none 0 0) (lv:= .slice none 0 0) rfl _ (hZ.set7 _ _ _ _ _ _ _) rfl) rfl (Bh (ok:=fun k=>w.heap.size<k) (x:=A0 4 0 t.text) hb HR.out.1 ⟨none,0,none,0,rfl,Cells.nil _ _ _,RepL.nil _ _⟩ (fun k hk=>hk) HR.out.2 (Ah _ _ _ _ _ _ _ _ _))
 ·have h1:¬t.kind=1:=by omega
  have h2:¬(t.kind=2∧t.text.length≤2048):=by omega
  rw[if_neg h1,if_neg h2,if_pos hk]at ho;cases ho;have hk1:(t.kind==1)=false:=by simpa using h1
  have hk2:(t.kind==2)=false:=by simp;omega
  have hk3:(t.kind==3)=true:=by simpa using hk
  have HV:=O (fun(W:World)=>Lm t.text (by have:=hOk.day hk;omega) W);clear hk h1 h2 hOk;go_enter func304,ntmps304;go_wp2_with fail;refine HT0.out.mono ?_;rintro e w1 ⟨rfl,g1⟩;have hZ1:=(H.out.2.1.gb g1 (by simp)).alloc (.cells #[.int .i64 t.kind,.int .i64 t.pos,str t.text] 105 (0,0));have hR1:=(H.out.2.2.2.gbN g1).alloc (.cells #[.int .i64 t.kind,.int .i64 t.pos,str t.text] 105 (0,0));have hTk:=Blk.new w1 [.int .i64 t.kind,.int .i64 t.pos,str t.text] 105;have G1:=O (Ad (Ag H.out.2.2.1 g1) (.cells #[.int .i64 t.kind,.int .i64 t.pos,str t.text] 105 (0,0)));have hb1:b<w1.heap.size:=Nat.lt_of_lt_of_le H.out.2.2.2.lt g1.size;have hw1:w.heap.size<w1.heap.size:=Nat.lt_of_lt_of_le (by simp) g1.size;clear g1 HT0;have HN:=O (GH hR1 (fun _=>hi));clear hR1;go_wp2_with fail;refine HN.out.mono ?_;rintro e w2 ⟨g2,v,rfl,rfl,h2⟩;have hZ:=hZ1.gb g2 (by simp;omega);have hT2:=hTk.gb g2 (by simp;omega);have HR:=O (Z (Aa G1.out g2) h2);have hlt2:=hZ.lt;have t2:=hT2.cell 2;simp only[List.getElem?_cons_zero,List.getElem?_cons_succ]at t2;clear g2 h2 hZ1 hTk HN;go_wp2_with fail;refine(HV.out _).mono ?_;rintro e w3 ⟨rfl,g3⟩;replace hZ:=hZ.gb g3 (by simp);replace HR:=O (Z (Ag HR.out.1 g3) (HR.out.2.gbN g3));have hd:(Bo t.text).1=AO t.text:=rfl;rw[hd];generalize AO t.text=z at*;clear g3 hd;go_wp2_with fail;refine(OE _ _).mono ?_;rintro e w4 ⟨rfl,g4⟩;replace hZ:=hZ.gb g4 (by simp);replace HR:=O (Z (Ag HR.out.1 g4) (HR.out.2.gbN g4));have hlt4:=hZ.lt;clear g4
  obtain⟨cz_0,cz_1,cz_2,cz_3,cz_4,cz_5,cz_6,cz_f⟩:=(hZ).c7;go_wp2;exact bodyPost_ret (Al (hd:=(A0 3 z []:Ex).h) (pv:= .slice none 0 0) (lv:= .slice none 0 0) rfl _ (hZ.set7 _ _ _ _ _ _ _) rfl) rfl (Bh (ok:=fun k=>w.heap.size<k) (x:=A0 3 z []) hb HR.out.1 ⟨none,0,none,0,rfl,Cells.nil _ _ _,RepL.nil _ _⟩ (fun k hk=>hk) HR.out.2 (Ah _ _ _ _ _ _ _ _ _))
end
open Go.Lib
theorem MJ{s:Bs}(h:An s=true):s.length≤10:=by
 unfold An at h;simp only[Bool.and_eq_true,decide_eq_true_eq]at h;omega
theorem NV{d:Wd}{x:Ex}{t:List Tok}{s:Bs}(h:exW d x=some (t,s)):CC t:=
 G8 (P:=fun c=>c.kind=0→An c.text=decide (c.text.length≤10)) (fun c hc k=>by
  have h1:=(Hg x t s h c hc).name k
  rw[h1]
  exact(decide_eq_true (MJ h1)).symm) (fun k=>by cases k)
theorem SX(u:Nat):decDigits u≠[]:=by
 rw[decDigits];split
 ·simp
 ·simp
theorem PG{x:Ex}{t:List Tok}{s:Bs}(h:exW wdM x=some (t,s)):∀i,TokW (Ab t i):=
 G8 (fun c hc=>by
  have hv:=Hg x t s h c hc
  refine⟨fun k=>?_,fun k=>?_⟩
  ·obtain⟨n,h0,_,e,hl⟩:=hv.num k
   have e2:c.text=decDigits n.toNat:=e.trans (GL n h0)
   refine⟨?_,hl,?_⟩
   ·rw[e2]
    cases hd:decDigits n.toNat with
    |nil=>exact absurd hd (SX _)
    |cons a r=>simp
   ·rw[e2];exact J8 _
  ·rcases hv.day k with e| ⟨n,h0,h1,e⟩
   ·rw[e];exact Nat.zero_le _
   ·rw[e]
    show(B6 n).length≤4000
    rw[FJ h0 h1];omega) ⟨by simp,by simp⟩
theorem rexp{l:List Tok}(hn:CC l):∃y st,FU l AO (l.length+2) (0,false)=some (y,st)∧((st.2=false∧AB l AO (l.length+2) 0= .ok y st.1)∨(st.2=true∧∃k,AB l AO (l.length+2) 0= .bad k)):=by
 have hs:=(Q1 hn AO (l.length+2)).go 0;have hex:=(Gs (l:=l) AO (l.length+2) 0);cases hr:AB l AO (l.length+2) 0 with
 |out=>rw[hr]at hex;exact(hex (by omega)).elim
 | ok x j=>
   rw[hr,D1]at hs;exact⟨x,(j,false),hs,.inl ⟨rfl,rfl⟩⟩
 | bad k=>
   rw[hr,Jg]at hs;obtain⟨x,hx⟩:=hs;exact⟨x,(k,true),hx,.inr ⟨rfl,k,rfl⟩⟩
theorem Rh{x:Ex}(h:exW wdM x=none):okX x=false:=by
 rw[←JJ wdM_ok x 0 (by intro t s e;rw[h]at e;cases e)];unfold Ee;rw[h]
theorem JX{x:Ex}{t:List Tok}{s:Bs}(h:exW wdM x=some (t,s)):okX x=Ee wdM AO x (t.length+2):=
 (JJ wdM_ok x (t.length+2) (by intro t' s' e;rw[h]at e;cases e;omega)).symm
theorem SB{x:Ex}{t:List Tok}{s:Bs}{k:Nat}(h:exW wdM x=some (t,s))(e:AB t AO (t.length+2) 0= .bad k):okX x=false:=by
 rw[JX h];unfold Ee;rw[h];simp only;rw[e]
theorem Ks{x y:Ex}{t:List Tok}{s:Bs}{j:Nat}(h:exW wdM x=some (t,s))(e:AB t AO (t.length+2) 0= .ok y j):okX x=(!decide (j<t.length)&&Dr x y):=by
 rw[JX h];unfold Ee;rw[h];simp only;rw[e]
def Ku(w:World)(e:Ending)(w':World):Prop:=∃n:Int,e= .returned (.int .i64 n)∧w.grownBy w' none
def SomeB(w:World)(e:Ending)(w':World):Prop:=∃b:Bool,e= .returned (.bool b)∧w.grownBy w' none
theorem Rx:∀(N:Nat)(f:Fo),f.wt<N→∀(ok:Nat→Prop)(la:Option Addr)(lc:Nat)(w:World),RepL ok w (.slice la f.len lc) f→
 Calls Tryz.prog 21 #[.slice la f.len lc] w (Ku w):=by
 intro N;induction N with
 |zero=>intro f hN;omega
 | succ N ih=>
   intro f hN ok la lc w hf;obtain⟨cs,hc1,hr1⟩:=hf;obtain⟨_,_,e,hle,hmx,_,hc1⟩:=hc1;cases e;have hmax:f.len≤maxLen:=by omega
   unfold maxLen at hmax;clear hle hmx;have HC:=O (Z hc1 ih);have HR:=O hr1;clear hc1 ih hr1;go_enter func21,ntmps21;go_wp2_with fail;go_loopg [3,4] f.len (fun g v3 v4 wr=>∃rf:Fo,∃k:Nat,∃n:Int,rf.len=g∧k+g=f.len∧v3= .int .i64 n∧v4= .int .i64 k∧rf.wt≤f.wt∧RepF ok w rf (cs.drop (k*7))∧w.grownBy wr none)
   case atStart=>exact⟨f,0,_,rfl,by omega,rfl,rfl,Nat.le_refl _,by simpa using HR.out,Ac _ _⟩
   case round=>
    obtain⟨rf,k,n,hn,hk,rfl,rfl,hno,hrf,hgr⟩:=hrel;clear HR;cases rf with
    | nil=>
      have hkI:decide (k<f.len)=false:=by simp[Fo.len]at hn;simp;omega
      have HG:=O hgr;clear hgr hn hrf;go_wp2;go_ret;exact⟨_,rfl,HG.out⟩
    | cons h1 k1 n1=>
      simp only[Fo.len]at hn;simp only[Fo.wt]at hno;subst hn;have hkI:decide (k<f.len)=true:=by simp;omega
      by_cases hlim:n<65536
      ·have hnI:decide (n<65536)=true:=by simpa using hlim
       obtain⟨pa1,pc1,lb1,ld1,hp1,hl1,hx1,ha1⟩:=RepF.elem (n:=f.len) (lc:=lc) (f:=f) HC.out.1 hrf;have hkf:k+1≤f.len:=by omega
       have HE:=O (fun(W:World)(gW:wr.grownBy W none)=>HC.out.2 k1 (by omega) ok lb1 ld1 W (hl1.gb (Aa hgr gW) (by simp)));have hpm:h1.p.length≤maxLen:=by obtain⟨_,_,e,h3,h4,_⟩:=hp1;omega
       unfold maxLen at hpm;have HN:=O (Z (show n1.wt≤f.wt by omega) (Z hx1 (Z hgr hp1.at1.2)));clear hno hrf hp1 hl1 hx1;obtain⟨g1,o1,rfl,hokz,y0⟩:=ha1 0 _ rfl;obtain⟨_,_,e1,_,y1⟩:=ha1 1 _ rfl;cases e1;obtain⟨_,_,e1,_,y2⟩:=ha1 2 _ rfl;cases e1;obtain⟨_,_,e1,_,y3⟩:=ha1 3 _ rfl;cases e1;obtain⟨_,_,e1,_,y4⟩:=ha1 4 _ rfl;cases e1;obtain⟨_,_,e1,_,y5⟩:=ha1 5 _ rfl;cases e1;obtain⟨_,_,e1,_,y6⟩:=ha1 6 _ rfl;cases e1;have hglz:=World.block_lt_of_cell? w _ y0;have z0:=Af hgr y0;have z1:=Af hgr y1;have z2:=Af hgr y2;have z3:=Af hgr y3;have z4:=Af hgr y4;have z5:=Af hgr y5;have z6:=Af hgr y6;simp only[Nat.add_zero,←Nat.add_assoc]at z0 z1 z2 z3 z4 z5 z6;clear y0 y1 y2 y3 y4 y5 y6;clear ha1 hgr;have hws:=HN.out.2.2.1.size;have HZ5:=O z5;have i0:(0:Int)≤(k:Int):=by omega
       have i1:(k:Int)<(f.len:Int):=by omega
       have i2:k<f.len:=by omega
       clear z0 z2 z3 z5;go_wp2_with fail;go_region_held3 (fun W=>W.cell? ⟨g1,o1+k*7+1,none⟩=some (str h1.s)∧W.cell? ⟨g1,o1+k*7+4,none⟩=some (str h1.vs)∧W.cell? ⟨g1,o1+k*7+6,none⟩=some (.slice lb1 k1.len ld1)∧wr.grownBy W none) (first|exact⟨z1,z4,z6,Am (Ac wr none)⟩|exact⟨Af g5 z1,Af g5 z4,Af g5 z6,Ag (Am (Ac wr none)) g5⟩) (first| (go_at_call 21;refine(HE.out _ ?_).mono ?_;(simp[*]);rintro e w5 ⟨n5,rfl,g5⟩));all_goals
        have gA:wr.grownBy w5 none:=Ag (Am (Ac wr none)) g5;have HZ:=O (Z gA HZ5.out);clear gA g5;go_wp2_with fail;go_loopg [3,5] h1.p.length (fun g v3 v5 w2=>∃j:Nat,∃n:Int,j+g=h1.p.length∧v3= .int .i64 n∧v5= .int .i64 j∧wr.grownBy w2 none)
        case atStart=>exact⟨0,_,by omega,rfl,rfl,HZ.out.1⟩
        case round=>
         obtain⟨j,n2,hj,rfl,rfl,hg2⟩:=hrel;have y5:=Af hg2 HZ.out.2;by_cases hjl:j<h1.p.length
         ·have hjI:decide (j<h1.p.length)=true:=by simpa using hjl
          obtain⟨gp,op,rfl,hcp⟩:=HN.out.2.2.2 j hjl;have t0:=Af (Aa HN.out.2.2.1 hg2) hcp;have HG:=O hg2;clear hcp hg2;generalize h1.p.getD j []=s at*;go_wp2;go_roundg (h1.p.length-(j+1))
          case measure=>omega
          case rel=>exact⟨j+1,_,by omega,rfl,by go_num,HG.out⟩
         ·have hjI:decide (j<h1.p.length)=false:=by simpa using hjl
          have HG:=O (Aa HN.out.2.2.1 hg2);clear hg2;go_wp2;go_roundg n1.len
          case measure=>omega
          case rel=>exact⟨n1,k+1,_,rfl,by omega,rfl,by go_num,HN.out.1,HN.out.2.1,HG.out⟩
      ·have hnI:decide (n<65536)=false:=by simpa using hlim
       have HG:=O hgr;clear hgr hrf;go_wp2;go_ret;exact⟨_,rfl,HG.out⟩
open Go.ChangeShapes
theorem co29:Tryz.prog.cellsOf 27=7:=by kernel_rfl
theorem co3:Tryz.prog.cellsOf 3=1:=by kernel_rfl
theorem co9:Tryz.prog.cellsOf 9=1:=by kernel_rfl
theorem co25:Tryz.prog.cellsOf 23=3:=by kernel_rfl
theorem co26:Tryz.prog.cellsOf 24=1:=by kernel_rfl
theorem co27:Tryz.prog.cellsOf 25=1:=by kernel_rfl
theorem Kj(s:ByteArray):Value.string s=str s.data.toList:=by cases s;simp[str]
section
variable {H:Type}{enc:TypeId×Value→H}{W:World}{base:Nat}{sp:Nat→Bool}{held:Bool}
theorem IZ{a:Addr}{len cap size:Nat}{cs:List Value}(h1:len≤cap)(h2:cap≤maxLen)(hl:cs.length=len*size)(hc:∀j u,cs[j]? =some u→W.cell? (a.add j)=some u):
 Cells W (.slice (some a) len cap) size len cs (fun _=>True):=by
 refine⟨_,_,rfl,h1,h2,hl,fun j u hj=>?_⟩;have h0:∃v,cs[0]? =some v:=by
  cases cs with
  |nil=>simp at hj
  |cons v r=>exact⟨v,rfl⟩
 obtain⟨v,hv⟩:=h0;have hs:=World.cell?_spot (hc 0 v hv);have ha:a.add 0=a:=by unfold Addr.add;simp
 rw[ha]at hs;obtain⟨g,o,spot⟩:=a;simp only at hs;subst hs;refine⟨g,o,rfl,trivial,?_⟩;have:=hc j u hj;rwa[Addr.add_lit]at this
end
end Go.Proofs.YtgjdhajcnechdaaGreatDoor
