/-
  Plain laws: what Swap answers; how large it is at most. The reference's reader: prim. What the reference says of an expression: plain facts. known: it is true.
-/
import Derived.Test.YtgjdhajcnechdaaGreatDoorSv20
import Derived.Test.YtgjdhajcnechdaaGreatDoorSv37
import Derived.Test.YtgjdhajcnechdaaGreatDoorSv38
import Derived.Test.YtgjdhajcnechdaaGreatDoorSv28
import Derived.Test.YtgjdhajcnechdaaGreatDoorSv30
import Derived.Test.YtgjdhajcnechdaaGreatDoorSv04
import Derived.Test.YtgjdhajcnechdaaGreatDoorSv36
set_option linter.all false
set_option maxRecDepth 100000
set_option maxHeartbeats 8000000
namespace Go.Proofs.YtgjdhajcnechdaaGreatDoor
open Go.Proofs.Tryz
def noEx:Ex:=⟨⟨0,[],0,0,[],[]⟩,.nil⟩
def swM(name:Bs)(x y:Ex):Ex:=swX name y x.h x.kids (swF name y x.kids)
def Cg(name:Bs)(x y:Ex):Ex×Int:=if AG x=0 then(if AG y=0 then(if AL (swM name x y).nodes (swM name x y).levels then(noEx,3)else(swM name x y,0))else(noEx,AG y))else(noEx,AG x)
theorem RL{a b:Ex}(h:a.fo .nil=b.fo .nil):a=b:=by
 obtain⟨h1,k1⟩:=a;obtain⟨h2,k2⟩:=b;simp only[Ex.fo,Fo.cons.injEq,and_true]at h;obtain⟨rfl,rfl⟩:=h;rfl
theorem QK{name:Bs}{x y:Ex}(hv:AG x=0):AO (byM name y) x.h [] x.kids (A0 (byM name y) x.kids)=swM name x y:=by
 have ho:=(I6 hv).1;have:=PC name y (.one x) [] (by rw[Dk];exact ho) (by simp);exact RL this
theorem Ow(name:Bs)(y:Ex):∀f:Fo,(swF name y f).nodes≤f.nodes*(1+y.kids.nodes):=by
 intro f;induction f with
 |nil=>simp[swF,Fo.nodes]
 | cons h k n ihk ihn=>
   show((swX name y h k (swF name y k)).fo (swF name y n)).nodes≤(1+k.nodes+n.nodes)*(1+y.kids.nodes);have e:(swX name y h k (swF name y k)).kids.nodes≤y.kids.nodes+k.nodes*(1+y.kids.nodes):=by
    have h1:k.nodes≤k.nodes*(1+y.kids.nodes):=Nat.le_mul_of_pos_right _ (by omega);unfold swX;split
    ·show y.kids.nodes≤_;omega
    ·split
     ·show k.nodes≤_;omega
     ·show(swF name y k).nodes≤_;omega
   unfold Ex.fo;simp only[Fo.nodes,Nat.add_mul,Nat.one_mul];omega
theorem Ir{x:Ex}(hv:AG x=0):x.kids.nodes≤399:=by
 have:=(I6 hv).2;unfold AL at this;simp only[Bool.or_eq_false_iff,decide_eq_false_iff_not]at this;have h2:x.nodes=1+x.kids.nodes:=rfl;omega
theorem IM{name:Bs}{x y:Ex}(hx:AG x=0)(hy:AG y=0):(swM name x y).kids.nodes≤1000000:=by
 have h1:=Ir hx;have h2:=Ir hy;have h3:=Ow name y (x.fo .nil);have h4:(swF name y (x.fo .nil)).nodes=1+(swM name x y).kids.nodes+0:=rfl;have h5:(x.fo .nil).nodes=1+x.kids.nodes+0:=rfl;rw[h4,h5]at h3;have h6:(1+x.kids.nodes+0)*(1+y.kids.nodes)≤400*400:=Nat.mul_le_mul (by omega) (by omega);omega
open Go.RowKit
structure TokW(t:Tok):Prop where
 num:t.kind=1→1≤t.text.length∧t.text.length≤15∧t.text.all AF=true
 day:t.kind=3→t.text.length≤4000
theorem PA(n:Int)(w:World):Calls Tryz.prog 22 #[.int .i64 n] w fun e w'=>e= .returned (.agg #[.int .i64 2,.int .i64 n,str []])∧w.grownBy w' none:=by
 go_enter func22,ntmps22;go_wp2;refine bodyPost_ret (v:= .agg #[.int .i64 2,.int .i64 n,str []]) (by simp[results,results22,go_sem]) rfl ⟨rfl,(by repeat(first| (with_reducible exact Ac _ _)| (with_reducible assumption)| (with_reducible exact AU (by assumption))| (with_reducible refine Ad ?_ _)| (with_reducible refine Am ?_)| (with_reducible refine A3 ?_ _)| ((with_reducible refine Ay ?_ _ _ ?h2);case h2=>first|exact .inl rfl|exact .inr (Nat.le_refl _)|exact .inr (by simp<;>omega))| (with_reducible refine Ah ?_ (by assumption))| (with_reducible refine Aa ?_ (by assumption))))⟩
theorem OJ(n:Int)(w:World):Calls Tryz.prog 318 #[.int .i64 n] w fun e w'=>e= .returned (.agg #[.int .i64 3,.int .i64 n,str []])∧w.grownBy w' none:=by
 go_enter func318,ntmps318;go_wp2;refine bodyPost_ret (v:= .agg #[.int .i64 3,.int .i64 n,str []]) (by simp[results,results318,go_sem]) rfl ⟨rfl,(by repeat(first| (with_reducible exact Ac _ _)| (with_reducible assumption)| (with_reducible exact AU (by assumption))| (with_reducible refine Ad ?_ _)| (with_reducible refine Am ?_)| (with_reducible refine A3 ?_ _)| ((with_reducible refine Ay ?_ _ _ ?h2);case h2=>first|exact .inl rfl|exact .inr (Nat.le_refl _)|exact .inr (by simp<;>omega))| (with_reducible refine Ah ?_ (by assumption))| (with_reducible refine Aa ?_ (by assumption))))⟩
theorem OM(s:Bs)(w:World):Calls Tryz.prog 316 #[str s] w fun e w'=>e= .returned (.agg #[.int .i64 4,.int .i64 0,str s])∧w.grownBy w' none:=by
 go_enter func316,ntmps316;go_wp2;refine bodyPost_ret (v:= .agg #[.int .i64 4,.int .i64 0,str s]) (by simp[results,results316,go_sem]) rfl ⟨rfl,(by repeat(first| (with_reducible exact Ac _ _)| (with_reducible assumption)| (with_reducible exact AU (by assumption))| (with_reducible refine Ad ?_ _)| (with_reducible refine Am ?_)| (with_reducible refine A3 ?_ _)| ((with_reducible refine Ay ?_ _ _ ?h2);case h2=>first|exact .inl rfl|exact .inr (Nat.le_refl _)|exact .inr (by simp<;>omega))| (with_reducible refine Ah ?_ (by assumption))| (with_reducible refine Aa ?_ (by assumption))))⟩
theorem Ii(q:Bool)(w:World):Calls Tryz.prog 321 #[.bool q] w fun e w'=>e= .returned (.agg #[.int .i64 1,.int .i64 (if q then 1 else 0),str []])∧w.grownBy w' none:=by
 cases q with
 | true=>
   go_enter func321,ntmps321;go_wp2;refine bodyPost_ret (v:= .agg #[.int .i64 1,.int .i64 1,str []]) (by simp[results,results321,go_sem]) rfl ⟨rfl,(by repeat(first| (with_reducible exact Ac _ _)| (with_reducible assumption)| (with_reducible exact AU (by assumption))| (with_reducible refine Ad ?_ _)| (with_reducible refine Am ?_)| (with_reducible refine A3 ?_ _)| ((with_reducible refine Ay ?_ _ _ ?h2);case h2=>first|exact .inl rfl|exact .inr (Nat.le_refl _)|exact .inr (by simp<;>omega))| (with_reducible refine Ah ?_ (by assumption))| (with_reducible refine Aa ?_ (by assumption))))⟩
 | false=>
   go_enter func321,ntmps321;go_wp2;refine bodyPost_ret (v:= .agg #[.int .i64 1,.int .i64 0,str []]) (by simp[results,results321,go_sem]) rfl ⟨rfl,(by repeat(first| (with_reducible exact Ac _ _)| (with_reducible assumption)| (with_reducible exact AU (by assumption))| (with_reducible refine Ad ?_ _)| (with_reducible refine Am ?_)| (with_reducible refine A3 ?_ _)| ((with_reducible refine Ay ?_ _ _ ?h2);case h2=>first|exact .inl rfl|exact .inr (Nat.le_refl _)|exact .inr (by simp<;>omega))| (with_reducible refine Ah ?_ (by assumption))| (with_reducible refine Aa ?_ (by assumption))))⟩
section
variable {b:Nat}{tv:Value}{l:List Tok}
theorem FC{E:FR Ex}(hE:CR 48 b tv l E)(n:Nat)(hok:∀i,TokW (Ab l i)){w:World}{i:Nat}(h:Rr w b tv l (i,false)){r:Ex×RS}
 (ho:BY l AJ E n (i,false)=some r) (hk:(Ab l i).kind=1∨((Ab l i).kind=2∧(Ab l i).text.length≤2048)∨(Ab l i).kind=3):
 Calls Tryz.prog 304 #[.pointer (some ⟨b,0,none⟩)] w (B5 b tv l w (VEx w) r):=by
 have hb:=h.lt;have gz:w.grownBy (w.alloc (.cells zeroE.toArray 27 (0,0))) (some b):=Ad (Ac _ _) _;have hz:=Blk.new w zeroE 27;have h0:=h.alloc (.cells zeroE.toArray 27 (0,0));have c2:=h0.c2;have hi:i<l.length:=by rcases hk with h|h|h<;>exact D6 (by omega)
 have HT0:=O (DG h0);have hOk:=hok i;unfold BY at ho;simp only[Bool.false_eq_true,if_false]at ho;have H:=O (Z hE (Z hz (Z gz h0)));simp only at HT0 c2;generalize htt:Ab l i=t at*;clear hE hz gz h0 htt hok;rcases hk with hk| ⟨hk,hlen⟩|hk
 ·rw[if_pos hk]at ho;cases ho;have hn:=hOk.num hk;have HK:=O hk;have hk1:(t.kind==1)=true:=by simpa using hk
  have HV:=O (fun(W:World)=>Fu t.text hn.2.2 hn.1 hn.2.1 W);clear hn hOk hk;go_enter func304,ntmps304;go_wp2_with fail;refine HT0.out.mono ?_;rintro e w1 ⟨rfl,g1⟩;have hZ1:=(H.out.2.1.gb g1 (by simp)).alloc (.cells #[.int .i64 t.kind,.int .i64 t.pos,str t.text] 105 (0,0));have hR1:=(H.out.2.2.2.gbN g1).alloc (.cells #[.int .i64 t.kind,.int .i64 t.pos,str t.text] 105 (0,0));have hTk:=Blk.new w1 [.int .i64 t.kind,.int .i64 t.pos,str t.text] 105;have G1:=O (Ad (Ah H.out.2.2.1 g1) (.cells #[.int .i64 t.kind,.int .i64 t.pos,str t.text] 105 (0,0)));have hb1:b<w1.heap.size:=Nat.lt_of_lt_of_le H.out.2.2.2.lt g1.size;have hw1:w.heap.size<w1.heap.size:=Nat.lt_of_lt_of_le (by simp) g1.size;clear g1 HT0;have HN:=O (FU hR1 (fun _=>hi));clear hR1;go_wp2_with fail;refine HN.out.mono ?_;rintro e w2 ⟨g2,v,rfl,rfl,h2⟩;have hZ:=hZ1.gb g2 (by simp;omega);have hT2:=hTk.gb g2 (by simp;omega);have HR:=O (Z (Aa G1.out g2) h2);have hlt2:=hZ.lt;have t2:=hT2.cell 2;simp only[List.getElem?_cons_zero,List.getElem?_cons_succ]at t2;clear g2 h2 hZ1 hTk HN;go_wp2_with fail;refine(HV.out _).mono ?_;rintro e w3 ⟨rfl,rfl⟩;generalize Aq t.text=z at*;go_wp2_with fail;refine(PA _ _).mono ?_;rintro e w4 ⟨rfl,g4⟩;replace hZ:=hZ.gb g4 (by simp);replace HR:=O (Z (Ah HR.out.1 g4) (HR.out.2.gbN g4));have hlt4:=hZ.lt;clear g4;obtain⟨cz_0,cz_1,cz_2,cz_3,cz_4,cz_5,cz_6,cz_f⟩:=(hZ).c7;go_wp2
  exact bodyPost_ret (Ai (hd:=(Az 2 z []:Ex).h) (pv:= .slice none 0 0) (lv:= .slice none 0 0) rfl _ (hZ.set7 _ _ _ _ _ _ _) rfl) rfl (Bf (ok:=fun k=>w.heap.size<k) (x:=Az 2 z []) hb HR.out.1 ⟨none,0,none,0,rfl,Cells.nil _ _ _,RepL.nil _ _⟩ (fun k hk=>hk) HR.out.2 (Ag _ _ _ _ _ _ _ _ _))
 ·have h1:¬t.kind=1:=by omega
  rw[if_neg h1,if_pos ⟨hk,hlen⟩]at ho;cases ho;have hk1:(t.kind==1)=false:=by simpa using h1
  have hk2:(t.kind==2)=true:=by simpa using hk
  have hl1:decide ((t.text.length:Int)≤2048)=true:=by simp;omega
  clear hk h1 hOk;go_enter func304,ntmps304;go_wp2_with fail;refine HT0.out.mono ?_;rintro e w1 ⟨rfl,g1⟩;have hZ1:=(H.out.2.1.gb g1 (by simp)).alloc (.cells #[.int .i64 t.kind,.int .i64 t.pos,str t.text] 105 (0,0));have hR1:=(H.out.2.2.2.gbN g1).alloc (.cells #[.int .i64 t.kind,.int .i64 t.pos,str t.text] 105 (0,0));have hTk:=Blk.new w1 [.int .i64 t.kind,.int .i64 t.pos,str t.text] 105;have G1:=O (Ad (Ah H.out.2.2.1 g1) (.cells #[.int .i64 t.kind,.int .i64 t.pos,str t.text] 105 (0,0)));have hb1:b<w1.heap.size:=Nat.lt_of_lt_of_le H.out.2.2.2.lt g1.size;have hw1:w.heap.size<w1.heap.size:=Nat.lt_of_lt_of_le (by simp) g1.size;clear g1 HT0;have t2:=hTk.cell 2;simp only[List.getElem?_cons_zero,List.getElem?_cons_succ]at t2;go_wp2_with fail;refine(FU hR1 (fun _=>hi)).mono ?_;rintro e w2 ⟨g2,v,rfl,rfl,h2⟩;have hZ:=hZ1.gb g2 (by simp;omega);have hT2:=hTk.gb g2 (by simp;omega);have HR:=O (Z (Aa G1.out g2) h2);have hlt2:=hZ.lt;have s2:=hT2.cell 2;simp only[List.getElem?_cons_zero,List.getElem?_cons_succ]at s2;clear g2 h2 hZ1 hTk t2;go_wp2_with fail;refine(OM _ _).mono ?_;rintro e w4 ⟨rfl,g4⟩;replace hZ:=hZ.gb g4 (by simp);replace HR:=O (Z (Ah HR.out.1 g4) (HR.out.2.gbN g4));have hlt4:=hZ.lt;clear g4 s2;obtain⟨cz_0,cz_1,cz_2,cz_3,cz_4,cz_5,cz_6,cz_f⟩:=(hZ).c7;go_wp2
  exact bodyPost_ret (Ai (hd:=(Az 4 0 t.text:Ex).h) (pv:= .slice none 0 0) (lv:= .slice none 0 0) rfl _ (hZ.set7 _ _ _ _ _ _ _) rfl) rfl (Bf (ok:=fun k=>w.heap.size<k) (x:=Az 4 0 t.text) hb HR.out.1 ⟨none,0,none,0,rfl,Cells.nil _ _ _,RepL.nil _ _⟩ (fun k hk=>hk) HR.out.2 (Ag _ _ _ _ _ _ _ _ _))
 ·have h1:¬t.kind=1:=by omega
  have h2:¬(t.kind=2∧t.text.length≤2048):=by omega
  rw[if_neg h1,if_neg h2,if_pos hk]at ho;cases ho;have hk1:(t.kind==1)=false:=by simpa using h1
  have hk2:(t.kind==2)=false:=by simp;omega
  have hk3:(t.kind==3)=true:=by simpa using hk
  have HV:=O (fun(W:World)=>Lh t.text (by have:=hOk.day hk;omega) W);clear hk h1 h2 hOk;go_enter func304,ntmps304;go_wp2_with fail;refine HT0.out.mono ?_;rintro e w1 ⟨rfl,g1⟩;have hZ1:=(H.out.2.1.gb g1 (by simp)).alloc (.cells #[.int .i64 t.kind,.int .i64 t.pos,str t.text] 105 (0,0));have hR1:=(H.out.2.2.2.gbN g1).alloc (.cells #[.int .i64 t.kind,.int .i64 t.pos,str t.text] 105 (0,0));have hTk:=Blk.new w1 [.int .i64 t.kind,.int .i64 t.pos,str t.text] 105;have G1:=O (Ad (Ah H.out.2.2.1 g1) (.cells #[.int .i64 t.kind,.int .i64 t.pos,str t.text] 105 (0,0)));have hb1:b<w1.heap.size:=Nat.lt_of_lt_of_le H.out.2.2.2.lt g1.size;have hw1:w.heap.size<w1.heap.size:=Nat.lt_of_lt_of_le (by simp) g1.size;clear g1 HT0;have HN:=O (FU hR1 (fun _=>hi));clear hR1;go_wp2_with fail;refine HN.out.mono ?_;rintro e w2 ⟨g2,v,rfl,rfl,h2⟩;have hZ:=hZ1.gb g2 (by simp;omega);have hT2:=hTk.gb g2 (by simp;omega);have HR:=O (Z (Aa G1.out g2) h2);have hlt2:=hZ.lt;have t2:=hT2.cell 2;simp only[List.getElem?_cons_zero,List.getElem?_cons_succ]at t2;clear g2 h2 hZ1 hTk HN;go_wp2_with fail;refine(HV.out _).mono ?_;rintro e w3 ⟨rfl,g3⟩;replace hZ:=hZ.gb g3 (by simp);replace HR:=O (Z (Ah HR.out.1 g3) (HR.out.2.gbN g3));have hd:(Bj t.text).1=AJ t.text:=rfl;rw[hd];generalize AJ t.text=z at*;clear g3 hd;go_wp2_with fail;refine(OJ _ _).mono ?_;rintro e w4 ⟨rfl,g4⟩;replace hZ:=hZ.gb g4 (by simp);replace HR:=O (Z (Ah HR.out.1 g4) (HR.out.2.gbN g4));have hlt4:=hZ.lt;clear g4
  obtain⟨cz_0,cz_1,cz_2,cz_3,cz_4,cz_5,cz_6,cz_f⟩:=(hZ).c7;go_wp2;exact bodyPost_ret (Ai (hd:=(Az 3 z []:Ex).h) (pv:= .slice none 0 0) (lv:= .slice none 0 0) rfl _ (hZ.set7 _ _ _ _ _ _ _) rfl) rfl (Bf (ok:=fun k=>w.heap.size<k) (x:=Az 3 z []) hb HR.out.1 ⟨none,0,none,0,rfl,Cells.nil _ _ _,RepL.nil _ _⟩ (fun k hk=>hk) HR.out.2 (Ag _ _ _ _ _ _ _ _ _))
end
open Go.Lib
theorem M1{s:Bs}(h:Al s=true):s.length≤10:=by
 unfold Al at h;simp only[Bool.and_eq_true,decide_eq_true_eq]at h;omega
theorem Of{d:Wd}{x:Ex}{t:List Tok}{s:Bs}(h:exW d x=some (t,s)):C0 t:=
 Gn (P:=fun c=>c.kind=0→Al c.text=decide (c.text.length≤10)) (fun c hc k=>by
  have h1:=(G8 x t s h c hc).name k
  rw[h1]
  exact(decide_eq_true (M1 h1)).symm) (fun k=>by cases k)
theorem RI(u:Nat):decDigits u≠[]:=by
 rw[decDigits];split
 ·simp
 ·simp
theorem PX{x:Ex}{t:List Tok}{s:Bs}(h:exW wdM x=some (t,s)):∀i,TokW (Ab t i):=
 Gn (fun c hc=>by
  have hv:=G8 x t s h c hc
  refine⟨fun k=>?_,fun k=>?_⟩
  ·obtain⟨n,h0,_,e,hl⟩:=hv.num k
   have e2:c.text=decDigits n.toNat:=e.trans (Gs n h0)
   refine⟨?_,hl,?_⟩
   ·rw[e2]
    cases hd:decDigits n.toNat with
    |nil=>exact absurd hd (RI _)
    |cons a r=>simp
   ·rw[e2];exact IY _
  ·rcases hv.day k with e| ⟨n,h0,h1,e⟩
   ·rw[e];exact Nat.zero_le _
   ·rw[e]
    show(Cp n).length≤4000
    rw[IL h0 h1];omega) ⟨by simp,by simp⟩
theorem rexp{l:List Tok}(hn:C0 l):∃y st,F4 l AJ (l.length+2) (0,false)=some (y,st)∧((st.2=false∧A8 l AJ (l.length+2) 0= .ok y st.1)∨(st.2=true∧∃k,A8 l AJ (l.length+2) 0= .bad k)):=by
 have hs:=(Q0 hn AJ (l.length+2)).go 0;have hex:=(FV (l:=l) AJ (l.length+2) 0);cases hr:A8 l AJ (l.length+2) 0 with
 |out=>rw[hr]at hex;exact(hex (by omega)).elim
 | ok x j=>
   rw[hr,Do]at hs;exact⟨x,(j,false),hs,.inl ⟨rfl,rfl⟩⟩
 | bad k=>
   rw[hr,IK]at hs;obtain⟨x,hx⟩:=hs;exact⟨x,(k,true),hx,.inr ⟨rfl,k,rfl⟩⟩
theorem P2{x:Ex}(h:exW wdM x=none):okX x=false:=by
 rw[←Jj JK x 0 (by intro t s e;rw[h]at e;cases e)];unfold DN;rw[h]
theorem Jv{x:Ex}{t:List Tok}{s:Bs}(h:exW wdM x=some (t,s)):okX x=DN wdM AJ x (t.length+2):=
 (Jj JK x (t.length+2) (by intro t' s' e;rw[h]at e;cases e;omega)).symm
theorem R4{x:Ex}{t:List Tok}{s:Bs}{k:Nat}(h:exW wdM x=some (t,s))(e:A8 t AJ (t.length+2) 0= .bad k):okX x=false:=by
 rw[Jv h];unfold DN;rw[h];simp only;rw[e]
theorem JF{x y:Ex}{t:List Tok}{s:Bs}{j:Nat}(h:exW wdM x=some (t,s))(e:A8 t AJ (t.length+2) 0= .ok y j):okX x=(!decide (j<t.length)&&Dc x y):=by
 rw[Jv h];unfold DN;rw[h];simp only;rw[e]
theorem R1(n:Int)(w:World):Calls Tryz.prog 22 #[.int .i64 n] w fun e w'=>e= .returned (.agg #[.int .i64 2,.int .i64 n,str []])∧w.grownBy w' none:=by
 go_enter func22,ntmps22;go_wp2;exact bodyPost_ret (v:= .agg #[.int .i64 2,.int .i64 n,str []]) (by simp[results,results22,go_sem]) rfl ⟨rfl,(by repeat(first| (with_reducible exact Ac _ _)| (with_reducible assumption)| (with_reducible exact AU (by assumption))| (with_reducible refine Ad ?_ _)| (with_reducible refine Am ?_)| (with_reducible refine A3 ?_ _)| ((with_reducible refine Ay ?_ _ _ ?h2);case h2=>first|exact .inl rfl|exact .inr (Nat.le_refl _)|exact .inr (by simp<;>omega))| (with_reducible refine Ah ?_ (by assumption))| (with_reducible refine Aa ?_ (by assumption))))⟩
abbrev DT:Value:= .slice none 0 0
theorem QJ{w1 w2:World}{o1:Obj}{n1:Nat}(hn1:n1=w1.heap.size+1) (g2:((w1.alloc o1).alloc (.cells (hdC (hd0 1 [66]) DT DT).toArray 27 (0,0))).grownBy w2 none) (o4:Obj):
 VE (fun _=>True) ((w2.alloc (.cells (hdC (hd0 2 [65]) DT (.slice (some ⟨n1,0,none⟩) 1 1)++hdC (Az 2 1 []).h DT DT).toArray 27 (0,0))).alloc o4) (exV (hd0 5 [43]) DT (.slice (some ⟨w2.heap.size,0,none⟩) 2 2)) xAb:=by
 have r1:RepL (fun _=>True) w2 (.slice (some ⟨n1,0,none⟩) 1 1) (.one (A6 [66])):=
  (RepL.one (x:=A6 [66]) (w:=w1.alloc o1) (by rw[hn1];simp) trivial (Cells.nil _ _ _) (RepL.nil _ _)).gb g2 (by simp)
 have r2:=RepL.two (x:=⟨hd0 2 [65],.one (A6 [66])⟩) (y:=Az 2 1 []) (w:=w2) (n:=w2.heap.size) (ok:=fun _=>True) rfl trivial (Cells.nil _ 1 _) r1 (Cells.nil _ 1 _) (RepL.nil _ _);exact VE.node (f:= .two ⟨hd0 2 [65],.one (A6 [66])⟩ (Az 2 1 [])) (r2.gb (World.grownBy_alloc _ o4 none) (by simp))
theorem N6{w:World}(ht:Tabs w.heap.size w):Calls Tryz.prog 8 #[] w fun e w'=>e= .returned (.bool true)∧w.grownBy w' none:=by
 have HE:=O (KA ht GU (by decide));have HP:=O (fun(W:World)(g:w.grownBy W none)=>P4 ((ht.gbN g).mono g.size));clear ht;generalize hsrc:GU=src at*;generalize hsrc2:EP=src2 at*;go_enter func8,ntmps8;rw[show(Value.string {data:=#[97,45,62,98,32,43,32,49]})=str src by rw[←hsrc];rfl,show(Value.string {data:=#[105,102,32,61,32,49]})=str src2 by rw[←hsrc2];rfl];go_wp2_with fail;refine HE.out.mono ?_;rintro e w1 ⟨g1,h1⟩;rw[←hsrc,pe_ab]at h1;obtain⟨v,rfl,hV⟩:=h1;obtain⟨pa,pc,la,lc,rfl,hp,hl⟩:=hV;have HV:=O (Z hp (Z hl g1));clear hp hl g1 HE hsrc;go_wp2_with fail;refine(R1 1 _).mono ?_;rintro e w2 ⟨rfl,g2⟩;have HW:=O (QJ (n1:=w1.heap.size+1) rfl g2);have hb1:=((Blk.new w1 (hdC xAb.h (.slice pa xAb.h.p.length pc) (.slice la xAb.kids.len lc)) 27).alloc _).gb g2 (by simp);have gw2:w1.grownBy w2 none:=Aa (Ad (World.grownBy_alloc _ _ _) _) g2;have HB1:=O (Z hb1 gw2);clear hb1 gw2 g2;go_wp2_with fail;refine(HP.out _ (Ad (Ad (Aa HV.out.2.2 HB1.out.2) _) _)).mono ?_;rintro e w3 ⟨v3,rfl,hS,g3⟩;obtain⟨kP,bv,rfl,hB,hblk,hrow⟩:=hS;obtain⟨G,cap,la',lc',e,_,_,hat⟩:=hrow.open;subst e;have gw3:w2.grownBy w3 none:=Aa (Ad (World.grownBy_alloc _ _ _) _) g3;have hx:VE (AA w.heap.size) w3 (exV xAb.h (.slice pa xAb.h.p.length pc) (.slice la xAb.kids.len lc)) xAb:=⟨pa,pc,la,lc,rfl,(HV.out.1.gb HB1.out.2 (by simp)).gb gw3 (by simp),(HV.out.2.1.gb HB1.out.2 (by simp)).gb gw3 (by simp)⟩;have hy:=(HW.out _).gb g3 (by simp);have HS:=O (F9 hx hy);have b1:=HB1.out.1.gb gw3 (by simp)
 have b4:Blk w3 (w2.heap.size+1) (hdC (hd0 5 [43]) DT (.slice (some ⟨w2.heap.size,0,none⟩) 2 2)) 27:=((Blk.new _ _ _).of_eq (by simp) rfl).gb g3 (by simp);have HN:=O (Z hblk (Z (hat 0 _ rfl) (Aa (Aa HV.out.2.2 HB1.out.2) gw3)));clear hx hy hblk hat hrow hB gw3 g3;obtain⟨x_0,x_1,x_2,x_3,x_4,x_5,x_6,x_f⟩:=(b1).c7;obtain⟨y_0,y_1,y_2,y_3,y_4,y_5,y_6,y_f⟩:=(b4).c7;clear b1 b4;rw[Gd]at HS;go_wp2_with fail;refine HS.out.mono ?_;rintro e w4 ⟨rfl,g4⟩;have z0:=Af g4 (HN.out.1.cell' 0 rfl);have z1:=Af g4 (HN.out.1.cell' 1 rfl);have z2:=Af g4 (HN.out.1.cell' 2 rfl);have z3:=Af g4 (HN.out.1.cell' 3 rfl);have t0:=Af g4 HN.out.2.1;have HG:=O (Aa HN.out.2.2 g4);clear g4;go_wp2;go_ret;exact⟨rfl,HG.out⟩
end Go.Proofs.YtgjdhajcnechdaaGreatDoor
