/-
  A reading's expression has no more nodes than the tokens read. tree.ParseExpr.
-/
import Derived.Test.YtgjdhajcnechdaaGreatDoorSv26
set_option linter.all false
set_option maxRecDepth 100000
set_option maxHeartbeats 8000000
namespace Go.Proofs.YtgjdhajcnechdaaGreatDoor
open Go.Proofs.Tryz
def Big{α:Type}(m:α→Nat)(i:Nat):Res α→Prop
 | .ok a j=>m a+i≤j
 |_=>True
theorem Big.bind{α β:Type}{m:α→Nat}{m':β→Nat}{i i':Nat}{r:Res α}{f:α→Nat→Res β}(h:Big m i' r)(hf:∀a j,m a+i'≤j→Big m' i (f a j)):Big m' i (r.bind f):=by
 cases r with
 |ok a j=>exact hf a j h
 |bad k=>trivial
 |out=>trivial
theorem Fo.nodes_app(f g:Fo):(f.app g).nodes=f.nodes+g.nodes:=by
 induction f with
 |nil=>simp[Fo.app,Fo.nodes]
 |cons h k n _ ih=>simp[Fo.app,Fo.nodes,ih];omega
theorem Fo.nodes_snoc(f:Fo)(x:Ex):(f.snoc x).nodes=f.nodes+x.nodes:=by simp[Fo.snoc,Fo.nodes_app,Ex.fo,Fo.nodes,Ex.nodes]
theorem Fo.nodes_one(x:Ex):(Fo.one x).nodes=x.nodes:=by simp[Fo.one,Ex.fo,Fo.nodes,Ex.nodes]
theorem Fo.nodes_two(x y:Ex):(Fo.two x y).nodes=x.nodes+y.nodes:=by simp[Fo.two,Ex.fo,Fo.nodes,Ex.nodes]
abbrev BC{α:Type}:α→Nat:=fun _=>1
section
variable {l:List Tok}{i:Nat}
theorem CF(s:Bs)(q:Nat):Big BC q (Ba l s q):=by
 unfold Ba;split
 ·show 1+q≤q+1;omega
 ·trivial
theorem D4(q:Nat):Big BC q (AT l q):=by
 unfold AT;split
 ·show 1+q≤q+1;omega
 ·trivial
theorem Kx{k:Nat}{opnd:Nat→Res Ex}(h:∀q,Big Ex.nodes q (opnd q)):∀n x j,x.nodes+i≤j→Big Ex.nodes i (BJ l k opnd n x j):=by
 intro n;induction n with
 |zero=>intro x j _;trivial
 | succ n ih=>
   intro x j h1;unfold BJ;split
   ·exact h1
   ·refine Big.bind (h _) fun y q hq=>ih _ _ ?_;simp only[Aw,Ex.nodes,Fo.nodes_two]at hq h1 ⊢;omega
theorem Fb{k n:Nat}{opnd:Nat→Res Ex}(h:∀q,Big Ex.nodes q (opnd q))(q:Nat):Big Ex.nodes q (AK l k n opnd q):=
 Big.bind (h q) fun x j hj=>Kx h n x j hj
theorem P6{un:Nat→Res Ex}(h:∀q,Big Ex.nodes q (un q)):∀n q,Big Ex.nodes q (AV l un n q):=by
 intro n;induction n with
 |zero=>intro q;trivial
 | succ n ih=>
   intro q;unfold AV;refine Big.bind (h q) fun x j hj=>?_;split
   ·exact hj
   ·refine Big.bind (ih _) fun y k hk=>?_;simp only[Big,Aw,Ex.nodes,Fo.nodes_two]at hj hk ⊢;omega
theorem P0{sum:Nat→Res Ex}(h:∀q,Big Ex.nodes q (sum q)):∀n q,Big Ex.nodes q (Bd l sum n q):=by
 intro n;induction n with
 |zero=>intro q;trivial
 | succ n ih=>
   intro q;unfold Bd;split
   ·refine Big.bind (ih _) fun y k hk=>?_;simp only[Big,unE,Ex.nodes,Fo.nodes_one]at hk ⊢;omega
   ·refine Big.bind (h q) fun x j hj=>?_;split
    ·exact hj
    ·refine Big.bind (h _) fun y k hk=>?_;simp only[Big,Aw,Ex.nodes,Fo.nodes_two]at hj hk ⊢;omega
theorem LE{E:Nat→Res Ex}(h:∀q,Big Ex.nodes q (E q)):∀n x j,x.nodes+i≤j→Big Ex.nodes i (B4 l E n x j):=by
 intro n;induction n with
 |zero=>intro x j _;trivial
 | succ n ih=>
   intro x j h1;unfold B4;split
   ·refine Big.bind (h _) fun y q hq=>Big.bind (CF _ _) fun _ k hk=>ih _ _ ?_;simp only[BC,Ct,Ex.nodes,Fo.nodes_two]at hq hk h1 ⊢;omega
   ·exact h1
theorem MQ{E prim:Nat→Res Ex}(hE:∀q,Big Ex.nodes q (E q))(hP:∀q,Big Ex.nodes q (prim q)):∀n q,Big Ex.nodes q (Bi l E prim n q):=by
 intro n;induction n with
 |zero=>intro q;trivial
 | succ n ih=>
   intro q;unfold Bi;split
   ·refine Big.bind (ih _) fun y k hk=>?_;simp only[Big,unE,Ex.nodes,Fo.nodes_one]at hk ⊢;omega
   ·exact Big.bind (hP q) fun x j hj=>LE hE n x j hj
theorem K0{E:Nat→Res Ex}(h:∀q,Big Ex.nodes q (E q)):∀n f j,f.nodes+i≤j→Big Fo.nodes i (BK l E n f j):=by
 intro n;induction n with
 |zero=>intro x j _;trivial
 | succ n ih=>
   intro x j h1;unfold BK;split
   ·refine Big.bind (h _) fun y q hq=>ih _ _ ?_;rw[Fo.nodes_snoc];omega
   ·exact h1
theorem I0{E:Nat→Res Ex}{n:Nat}(h:∀q,Big Ex.nodes q (E q))(q:Nat):Big Fo.nodes q (Ch l E n q):=
 Big.bind (h q) fun x j hj=>K0 h n _ j (by rw[Fo.nodes_one];exact hj)
theorem K8:∀n f j,1+i≤j→Big BC i (BN l n f j):=by
 intro n;induction n with
 |zero=>intro x j _;trivial
 | succ n ih=>
   intro x j h1;unfold BN;split
   ·exact Big.bind (D4 _) fun y q hq=>ih _ _ (by simp only[BC]at hq;omega)
   ·exact h1
theorem M4{n:Nat}(q:Nat):Big BC q (Ck l n q):=
 Big.bind (D4 _) fun x j hj=>K8 n _ j hj
theorem NY{E:Nat→Res Ex}{n:Nat}(hE:∀q,Big Ex.nodes q (E q))(q:Nat):Big Ex.nodes q (Cs l E n q):=by
 unfold Cs;refine Big.bind (D4 _) fun s j hj=>Big.bind (CF _ _) fun _ k hk=>?_;split
 ·simp only[Big,BC,Ex.nodes,Fo.nodes]at hj hk ⊢;omega
 ·refine Big.bind (I0 hE _) fun f p hp=>Big.bind (CF _ _) fun _ r hr=>?_;simp only[Big,BC,Ex.nodes,Fo.nodes]at hj hk hp hr ⊢;omega
theorem Mx{E:Nat→Res Ex}(hE:∀q,Big Ex.nodes q (E q))(q:Nat):Big Ex.nodes q (Cb l E q):=by
 unfold Cb;refine Big.bind (CF _ _) fun s j hj=>?_;split
 ·refine Big.bind (hE _) fun f p hp=>Big.bind (CF _ _) fun _ k hk=>?_;simp only[Big,BC,Ex.nodes,Fo.nodes_one]at hj hk hp ⊢;omega
 ·refine Big.bind (D4 _) fun s p hp=>?_;simp only[Big,BC,Ex.nodes,Fo.nodes]at hj hp ⊢;split<;>omega
theorem KO{E:Nat→Res Ex}{n:Nat}(hE:∀q,Big Ex.nodes q (E q))(q:Nat):Big Ex.nodes q (Cc l E n q):=by
 unfold Cc;split
 ·have h1 : Big BC (q + 1) (if Ae (Ab l (q + 1)) [124] then (.ok [] (q + 2) : Res (List Bs)) else (Ck l n (q + 1)).bind fun p j => (Ba l [124] j).bind fun _ j => .ok p j) := by
   split
   ·show 1+(q+1)≤q+2;omega
   ·refine Big.bind (M4 _) fun p j hj=>Big.bind (CF _ _) fun _ k hk=>?_;simp only[Big,BC]at hj hk ⊢;omega
  refine Big.bind h1 fun p j hj=>Big.bind (hE _) fun f p hp=>Big.bind (CF _ _) fun _ k hk=>?_;simp only[Big,BC,Ex.nodes,Fo.nodes_one]at hj hk hp ⊢;omega
 ·refine Big.bind (I0 hE _) fun f p hp=>Big.bind (CF _ _) fun _ k hk=>?_;simp only[Big,BC,Ex.nodes]at hk hp ⊢;omega
theorem L1{E:Nat→Res Ex}{n:Nat}(hE:∀q,Big Ex.nodes q (E q))(q:Nat):Big Ex.nodes q (Bv l E n q):=by
 unfold Bv;split
 ·exact Mx hE q
 split
 ·simp only[Big,Az,Ex.nodes,Fo.nodes];omega
 split
 ·simp only[Big,Az,Ex.nodes,Fo.nodes];omega
 split
 ·simp only[Big,Az,Ex.nodes,Fo.nodes];omega
 split
 ·refine Big.bind (hE _) fun f p hp=>Big.bind (CF _ _) fun _ k hk=>?_;simp only[Big,BC]at hk hp ⊢;omega
 split
 ·refine Big.bind (D4 _) fun s p hp=>?_;simp only[Big,BC,Ex.nodes,Fo.nodes]at hp ⊢;omega
 split
 ·have h:=KO (n:=n) hE (l:=l) (q+1);revert h;generalize Cc l E n (q+1)=r;intro h;cases r with
  |ok a j=>simp only[Big]at h ⊢;omega
  |bad k=>trivial
  |out=>trivial
 ·trivial
theorem M3{E:Nat→Res Ex}{n:Nat}(hE:∀q,Big Ex.nodes q (E q))(q:Nat):Big Ex.nodes q (BH l E n q):=by
 unfold BH;split
 ·exact NY hE q
 refine Big.bind (D4 _) fun s j hj=>?_;split
 ·split
  ·refine Big.bind (hE _) fun f p hp=>Big.bind (CF _ _) fun _ k hk=>?_;simp only[Big,BC,Ex.nodes,Fo.nodes_one]at hj hk hp ⊢;omega
  ·refine Big.bind (D4 _) fun s p hp=>?_;simp only[Big,BC,A6,Ex.nodes,Fo.nodes_one,Fo.nodes]at hj hp ⊢;omega
 ·simp only[Big,BC,A6,Ex.nodes,Fo.nodes]at hj ⊢;omega
theorem NP{day:Bs→Int}{E:Nat→Res Ex}{n:Nat}(hE:∀q,Big Ex.nodes q (E q))(q:Nat):Big Ex.nodes q (AZ l day E n q):=by
 have hc:∀a b c,Big Ex.nodes q (.ok (Az a b c) (q+1)):=by
  intro a b c;simp only[Big,Az,Ex.nodes,Fo.nodes];omega
 unfold AZ;split
 ·exact hc _ _ _
 split
 ·split
  ·trivial
  ·exact hc _ _ _
 split
 ·exact hc _ _ _
 split
 ·exact M3 hE q
 ·exact L1 hE q
theorem Oi(day:Bs→Int):∀n q,Big Ex.nodes q (A8 l day n q):=by
 intro n;induction n with
 |zero=>intro q;trivial
 | succ n ih=>
   intro q;unfold A8;exact Fb (Fb fun p=>P0 (fun p=>Fb (Fb fun p=>P6 (fun p=>MQ ih (fun p=>NP ih p) n p) n p) p) n p) q
theorem N9(day:Bs→Int)(n:Nat){x:Ex}{j:Nat}(h:B9 l day n= .ok x j):x.nodes+1≤l.length:=by
 have h1:=Oi (l:=l) day n 0;unfold B9 at h;cases hr:A8 l day n 0 with
 | ok y i=>
   rw[hr,Res.bind_ok]at h;rw[hr]at h1;have h2:=PW (l:=l) (o:=True) i;cases he:C2 l i with
   | ok u k=>
     rw[he,Res.bind_ok]at h;rw[he]at h2;cases h;have:=h2.2;have:=h2.1;simp only[Big]at h1;omega
   |bad k=>rw[he]at h;cases h
   |out=>rw[he]at h;cases h
 |bad k=>rw[hr]at h;cases h
 |out=>rw[hr]at h;cases h
theorem FY(day:Bs→Int)(n:Nat)(hn:l.length+2≤n):B9 l day n ≠ .out:=by
 have h:=FV (l:=l) day n 0;unfold B9;cases hr:A8 l day n 0 with
 | ok y i=>
   rw[Res.bind_ok];unfold C2;split<;>simp[Res.bind]
 |bad k=>simp[Res.bind]
 |out=>rw[hr]at h;exact absurd (by omega) h
end
open Go.RowKit
def Em(s:Bs):Except (Int×Int) (List Tok):=
 if 4000<s.length then .error (0,3)else match El s with
  | .ok l=>if 1200<l.length then .error (0,3)else .ok l
  | .bad k=> .error (k,2)
  | .out=> .error (0,2)
def M8(w:World)(s:Bs)(e:Ending)(w':World):Prop:=w.grownBy w' none∧
 match Em s with
  | .ok l=>∃v,e= .returned (.tuple #[v,.int .i64 l.length,.int .i64 0])∧TRow w' v l (AA w.heap.size)∧Dg AJ l∧l.length≤1200
  | .error pc=>e= .returned (.tuple #[.slice none 0 0,.int .i64 pc.1,.int .i64 pc.2])∧(pc.2=2∨pc.2=3)
theorem Ib{w:World}(ht:Tabs w.heap.size w)(s:Bs)(hs:s.length≤1000000):Calls Tryz.prog 36 #[str s] w (M8 w s):=by
 refine(Rw ht s hs).mono ?_;rintro e w1 ⟨g,h⟩;refine⟨g,?_⟩;unfold Em;by_cases h4:4000<s.length
 ·rw[if_pos h4]at h ⊢;exact⟨h,.inr rfl⟩
 rw[if_neg h4]at h ⊢;cases hl:El s with
 |out=>exact absurd hl (FK s)
 |bad k=>rw[hl]at h;exact⟨h,.inl rfl⟩
 | ok l=>
   rw[hl]at h;replace h:ite _ _ _:=h;simp only[];by_cases hm:1200<l.length
   ·rw[if_pos hm]at h ⊢;exact⟨h,.inr rfl⟩
   ·rw[if_neg hm]at h ⊢;obtain⟨v,rfl,ht⟩:=h;exact⟨v,rfl,ht,LK (by omega) hl,by omega⟩
inductive PeR (α:Type) where
 |ok (x:α) (n:Nat)
 |no (p c:Int)
def GA(l:List Tok):Res Ex:=B9 l AJ (l.length+2)
def Es(l:List Tok):PeR Ex:=
 match GA l with
 | .ok x j=>if j<l.length then .no j 2 else if AL x.nodes x.levels then .no 0 3 else .ok x l.length
 | .bad q=> .no q 2
 | .out=> .no 0 2
def peM(s:Bs):PeR Ex:=match Em s with
 | .ok l=>Es l
 | .error pc=> .no pc.1 pc.2
abbrev exV0:Value:= .agg zeroE.toArray
def Rj(w:World)(s:Bs)(e:Ending)(w':World):Prop:=w.grownBy w' none∧
 match peM s with
  | .ok x n=>∃v,e= .returned (.tuple #[v,.int .i64 n,.int .i64 0])∧VE (AA w.heap.size) w' v x
  | .no p c=>e= .returned (.tuple #[exV0,.int .i64 p,.int .i64 c])
theorem Fi{fn:Func}{p i j:Tmp}(h:fn.results=#[.cell p 27,.tmp i,.tmp j])(tmps:Array Value){w:World}{k:Nat}{a0 a1 a2 a3 a4 a5 a6 u v:Value}(hb:Blk w k [a0,a1,a2,a3,a4,a5,a6] 27)
 (hp:tmps.getD p undef= .pointer (some ⟨k,0,none⟩)) (hi:tmps.getD i undef=u) (hj:tmps.getD j undef=v):(results fn tmps).run Tryz.prog w= .ok (.tuple #[.agg #[a0,a1,a2,a3,a4,a5,a6],u,v]) w:=by
 have c0:=hb.cell 0;have c1:=hb.cell 1;have c2:=hb.cell 2;have c3:=hb.cell 3;have c4:=hb.cell 4;have c5:=hb.cell 5;have c6:=hb.cell 6;have hp':tmps[p]?.getD undef= .pointer (some ⟨k,0,none⟩):=by simpa using hp
 have hi':tmps[i]?.getD undef=u:=by simpa using hi
 have hj':tmps[j]?.getD undef=v:=by simpa using hj
 simp only[List.getElem?_cons_zero,List.getElem?_cons_succ]at c0 c1 c2 c3 c4 c5 c6;simp[results,h,hp',hi',hj',go_sem,c0,c1,c2,c3,c4,c5,c6]
theorem P5{l:List Tok}{q:Nat}(hq:BU l (B9 l AJ (l.length+2))=q):Es l= .no q 2:=by
 have hex:=FY (l:=l) AJ (l.length+2) (Nat.le_refl _);unfold Es GA;cases hr:B9 l AJ (l.length+2)with
 | ok x j=>
   rw[hr]at hq;simp only[BU]at hq ⊢;by_cases hj:j<l.length
   ·rw[if_pos hj]at hq ⊢;rw[hq]
   ·rw[if_neg hj]at hq;omega
 |bad k=>rw[hr]at hq;simp only[BU]at hq ⊢;rw[hq]
 |out=>exact absurd hr hex
theorem Kz{α:Type}(R:Res α)(l:List Tok):BU l R= -1∨∃q:Nat,BU l R=q:=by
 cases R with
 | ok x j=>
   simp only[BU];split
   ·exact .inr ⟨j,rfl⟩
   ·exact .inl rfl
 |bad k=>exact .inr ⟨k,rfl⟩
 |out=>exact .inr ⟨0,rfl⟩
theorem NM{l:List Tok}(hq:BU l (B9 l AJ (l.length+2))= -1):∃x j,B9 l AJ (l.length+2)= .ok x j∧Es l=if AL x.nodes x.levels then .no 0 3 else .ok x l.length:=by
 have hex:=FY (l:=l) AJ (l.length+2) (Nat.le_refl _);unfold Es GA;cases hr:B9 l AJ (l.length+2)with
 | ok x j=>
   rw[hr]at hq;refine⟨x,j,rfl,?_⟩;simp only[BU]at hq ⊢;by_cases hj:j<l.length
   ·rw[if_pos hj]at hq;omega
   ·rw[if_neg hj]
 |bad k=>rw[hr]at hq;simp only[BU]at hq;omega
 |out=>exact absurd hr hex
theorem KA{w:World}(ht:Tabs w.heap.size w)(s:Bs)(hs:s.length≤1000000):Calls Tryz.prog 13 #[str s] w (Rj w s):=by
 have g0:=World.grownBy_alloc w (.cells zeroE.toArray 27 (0,0)) none;have hB:=Blk.new w zeroE 27;have ht0:=(ht.gbN g0).mono g0.size;go_enter func13,ntmps13;go_wp2_with fail;refine(Ib ht0 s hs).mono ?_;rintro e w1 ⟨g1,h1⟩;have hB1:=hB.gb g1 (by simp);have gA:=O (Aa g0 g1);have HT0:=O (ht0.gbN g1).glob;have hPM:∀l,Em s= .ok l→peM s=Es l:=fun l h=>by unfold peM;rw[h]
 have hlt:=hB1.lt;clear ht0 g0 hB ht hs g1;cases hq:Em s with
 | error pc=>
   rw[hq]at h1;obtain⟨rfl,hc⟩:=h1;have HQ:=O (show peM s= .no pc.1 pc.2 by unfold peM;rw[hq]);have hc1:decide (pc.2=0)=false:=by simp;omega
   clear hq hPM;obtain⟨cb_0,cb_1,cb_2,cb_3,cb_4,cb_5,cb_6,cb_f⟩:=(hB1).c7;have HB:=O hB1;clear hB1;go_wp2;exact bodyPost_ret (Fi rfl _ (HB.out.set7 (.int .i64 0) (str []) (.int .i64 0) (.int .i64 0) (str []) (.slice none 0 0) (.slice none 0 0)) rfl rfl rfl) rfl ⟨Ar gA.out (Ag w1 w.heap.size (.int .i64 0) (str []) (.int .i64 0) (.int .i64 0) (str []) (.slice none 0 0) (.slice none 0 0)) (.inr (Nat.le_refl _)),by rw[HQ.out];rfl⟩
 | ok l=>
   rw[hq]at h1;obtain⟨v,rfl,hT,hTame,hl⟩:=h1;have hex:=FY (l:=l) AJ (l.length+2) (Nat.le_refl _);obtain⟨ta,tc,rfl,_⟩:=id hT;have HL:=Pu HT0.out hTame (hT.mono fun _ _ _=>trivial) (by omega) (l.length+2) hex;have HQ:=O (hPM l hq);have HB:=O hB1;have HLL:=O HL;clear hPM hq hTame hT HL hex hB1;go_wp2_with fail;refine HLL.out.mono ?_;rintro e w2 ⟨h,pa,pn,pc,la,ln,lc,rfl,g2,hV⟩;have hB2:=HB.out.gb g2 (by simp);have gB:=O (Aa gA.out g2);have hs2:=g2.size;have hlt2:w.heap.size<w2.heap.size:=by omega
   have hno:=fun q=>P5 (l:=l) (q:=q);have hgo:=NM (l:=l);have hyes:=Kz (B9 l AJ (l.length+2)) l;clear HLL HT0;rcases hyes with hy| ⟨q,hy⟩
   ·obtain⟨x,j,hr,hP⟩:=hgo hy;have hX:=hV x j hr;have hxn:=N9 AJ _ hr;rw[hy];clear hgo hno hV hr hy;have HX:=O hX;obtain⟨pa',pc',la',lc',e1,rp,rl⟩:=hX;rw[e1]at HX ⊢;have HPP:=O (hP ▸ HQ.out);have HR:=O (Z rp rl);clear rp rl e1 hP;have hc1:decide ((0:Int)≤-1)=false:=by decide
    obtain⟨cb_0,cb_1,cb_2,cb_3,cb_4,cb_5,cb_6,cb_f⟩:=(hB2).c7;have HB2:=O hB2;clear hB2;have gK:=World.grownBy_alloc w2 (.cells (hdC x.h (.slice pa' x.h.p.length pc') (.slice la' x.kids.len lc')).toArray 27 (0,0)) none;have hE:=Blk.new w2 (hdC x.h (.slice pa' x.h.p.length pc') (.slice la' x.kids.len lc')) 27;have HS:=O (Ga (HX.out.gb gK (by simp)) (by unfold Ex.nodes at hxn;omega));have HE:=O (Z gK hE);clear gK hE;go_wp2_with fail;refine HS.out.mono ?_;rintro e w3 ⟨rfl,g3⟩;go_wp2_with fail;refine(EU _ _ _).mono ?_;rintro e w4 ⟨rfl,g4⟩;have gM:=Aa (Aa HE.out.1 g3) g4;have hE4:=(HE.out.2.gb g3 (by simp)).gb g4 (by simp);have hR4:=HB2.out.gb gM (by simp);have hX4:=HX.out.gb gM (by simp);have gT:=O (Z (Aa gB.out gM) hX4);have hlt4:=gM.size;clear cb_0 cb_1 cb_2 cb_3 cb_4 cb_5 cb_6 cb_f gM hX4;obtain⟨ce_0,ce_1,ce_2,ce_3,ce_4,ce_5,ce_6,ce_f⟩:=(hE4).c7;obtain⟨cb_0,cb_1,cb_2,cb_3,cb_4,cb_5,cb_6,cb_f⟩:=(hR4).c7;have HR4:=O hR4;have hltE:=hE4.lt;clear hE4 hR4 g3 g4;cases hLL:AL x.nodes x.levels with
    | true=>
      have HF:=O (show peM s= .no 0 3 by rw[HPP.out];rw[hLL];rfl);clear hLL;go_wp2;exact bodyPost_ret (Fi rfl _ (HR4.out.set7 (.int .i64 0) (str []) (.int .i64 0) (.int .i64 0) (str []) (.slice none 0 0) (.slice none 0 0)) rfl rfl rfl) rfl ⟨Ar gT.out.1 (Ag w4 w.heap.size (.int .i64 0) (str []) (.int .i64 0) (.int .i64 0) (str []) (.slice none 0 0) (.slice none 0 0)) (.inr (Nat.le_refl _)),by rw[HF.out];rfl⟩
    | false=>
      have HF:=O (show peM s= .ok x l.length by rw[HPP.out];rw[hLL];rfl);clear hLL;go_wp2;have g7:=Ag w4 w.heap.size (.int .i64 x.h.op) (str x.h.s) (.int .i64 x.h.vk) (.int .i64 x.h.vn) (str x.h.vs) (.slice pa' x.h.p.length pc') (.slice la' x.kids.len lc');refine bodyPost_ret (Fi rfl _ (HR4.out.set7 (.int .i64 x.h.op) (str x.h.s) (.int .i64 x.h.vk) (.int .i64 x.h.vn) (str x.h.vs) (.slice pa' x.h.p.length pc') (.slice la' x.kids.len lc')) rfl rfl rfl) rfl ⟨Ar gT.out.1 g7 (.inr (Nat.le_refl _)),?_⟩;rw[HF.out];exact⟨_,rfl,(gT.out.2.gb g7 (by intro q hq _ e;cases e;simp at hq;omega)).mono (by intro q hq _;simp at hq ⊢;omega)⟩
   ·rw[hy];have HQ2:=O (show peM s= .no q 2 by rw[HQ.out,hno q hy]);clear hgo hno hV;have hc1:decide ((0:Int)≤(q:Int))=true:=by simp
    obtain⟨cb_0,cb_1,cb_2,cb_3,cb_4,cb_5,cb_6,cb_f⟩:=(hB2).c7;have HB2:=O hB2;clear hB2;go_wp2;have hBA:=(HB2.out.set7 (.int .i64 0) (str []) (.int .i64 0) (.int .i64 0) (str []) (.slice none 0 0) (.slice none 0 0)).alloc (.cells (hdC h (.slice pa pn pc) (.slice la ln lc)).toArray 27 (0,0));have gBA:=Ad (Ar gB.out (Ag w2 w.heap.size (.int .i64 0) (str []) (.int .i64 0) (.int .i64 0) (str []) (.slice none 0 0) (.slice none 0 0)) (.inr (Nat.le_refl _))) (.cells (hdC h (.slice pa pn pc) (.slice la ln lc)).toArray 27 (0,0));exact bodyPost_ret (Fi rfl _ hBA rfl rfl rfl) rfl ⟨gBA,by rw[HQ2.out];rfl⟩
end Go.Proofs.YtgjdhajcnechdaaGreatDoor
