/-
  RsB RsC Nodes Pex StA StB StC RsE KsA KsB StmE RpB WrO WrS Code: its lines, the program's. Code: its lines, the reference's. CkE CkF
-/
import Derived.Test.YtbjfaimkiclhgaaGreatDoorCr08
import Derived.Test.YtbjfaimkiclhgaaGreatDoorCr04
import Derived.Test.YtbjfaimkiclhgaaGreatDoorCr03
import Derived.Test.YtbjfaimkiclhgaaGreatDoorCr02
import Derived.Test.YtbjfaimkiclhgaaGreatDoorCr05
import Derived.Laws.AppendOwn
import Derived.Laws.OwnMore
import Derived.Lib.ItoaLen
import Derived.Lib.AppendStr
set_option linter.all false
set_option maxRecDepth 100000
set_option maxHeartbeats 8000000
namespace Go.Proofs.YtbjfaimkiclhgaaGreatDoor
open Go.Proofs.Tryz
open Go.RowKit
variable{s y:Bs}{w w1 wr w0:World}{b i k n j q pc lc L c cc e size H:Nat}{tv a0 a1 a2 a3 a4 a5 a6 v wv pv xv bv nv fv pv' xv' bv' nv' fv' wv' v':Value}{l:List Tok}{st:RS}{α β:Type}{opnd E:Nat->Res Ex}{day:Bs->Int}{fn:Func}{p wl:List Bs}{op o:Int}{t:TypeId}{pa la ca:Option Addr}{ok ok' okx:Nat->Prop}{cs xs ds:List Value}{f:Fo}{h h':Sd}{g g':Bl}{u:Un}{us:List Un}
def NoneF(f:Bool)(x:Bs):Prop:=f=false->x=[]
def WF(w:World)(L:List Bs)(s:Bs)(e:Ending)(w':World):Prop:=(∃f:Bool,e= .returned (.tuple #[str (ET L s),.bool f])/\NoneF f (ET L s))/\w.grownBy w' none
def Yn(h:s.all DY=true):Lib.toUpperA s=s:=by
 have hall:∀n:Fin 256,DY (UInt8.ofNat n.val)=true->Lib.upperB (UInt8.ofNat n.val)=UInt8.ofNat n.val:=by decide+kernel
 have h1:∀b:UInt8,DY b=true->Lib.upperB b=b:=λb hb=>by
  have:=hall ⟨b.toNat,b.toNat_lt⟩;simp only[show UInt8.ofNat b.toNat=b by simp]at this;exact this hb
 unfold Lib.toUpperA;rw[List.all_eq_true]at h;exact(List.map_congr_left λb hb=>h1 b (h b hb)).trans (List.map_id s)
def Big{α:Type}(m:α->Nat)(i:Nat):Res α->Prop
 | .ok a j=>m a+i<=j
 |_=>True
def Big.bind{m:α->Nat}{m':β->Nat}{i':Nat}{r:Res α}{f:α->Nat->Res β}(h:Big m i' r)(hf:∀a j,m a+i'<=j->Big m' i (f a j)):Big m' i (r.bind f):=by
 cases r with
 |ok a j=>exact hf a j h
 |bad k=>trivial
 |out=>trivial
def Fo.nodes_app(f g:Fo):(f.app g).nodes=f.nodes+g.nodes:=by
 induction f with
 |nil=>simp[Fo.app,Fo.nodes]
 |cons h k n _ ih=>simp[Fo.app,Fo.nodes,ih];omega
def Fo.nodes_snoc(f:Fo)(x:Ex):(f.snoc x).nodes=f.nodes+x.nodes:=by simp[Fo.snoc,Fo.nodes_app,Ex.fo,Fo.nodes,Ex.nodes]
def Fo.nodes_one(x:Ex):(Fo.one x).nodes=x.nodes:=by simp[Fo.one,Ex.fo,Fo.nodes,Ex.nodes]
def Fo.nodes_two(x y:Ex):(Fo.two x y).nodes=x.nodes+y.nodes:=by simp[Fo.two,Ex.fo,Fo.nodes,Ex.nodes]
abbrev AJ{α:Type}:α->Nat:=λ_=>1
def DZ(s:Bs)(q:Nat):Big AJ q (AW l s q):=by
 unfold AW;split
 ·show 1+q<=q+1;omega
 ·trivial
def YR(q:Nat):Big AJ q (B3 l q):=by
 unfold B3;split
 ·show 1+q<=q+1;omega
 ·trivial
def Fq(q:Nat):Big AJ q (AD l q):=by
 unfold AD;split
 ·show 1+q<=q+1;omega
 ·trivial
def PT(h:∀q,Big Ex.nodes q (opnd q)):∀n x j,x.nodes+i<=j->Big Ex.nodes i (Dl l k opnd n x j):=by
 intro n;induction n with
 |zero=>intro x j _;trivial
 | succ n ih=>
   intro x j h1;unfold Dl;split
   ·exact h1
   ·refine Big.bind (h _) λy q hq=>ih _ _ ?_;simp only[Bn,Ex.nodes,Fo.nodes_two]at hq h1 ⊢;omega
def IT(h:∀q,Big Ex.nodes q (opnd q))(q:Nat):Big Ex.nodes q (Bf l k n opnd q):=
 Big.bind (h q) λx j hj=>PT h n x j hj
def WQ{un:Nat->Res Ex}(h:∀q,Big Ex.nodes q (un q)):∀n q,Big Ex.nodes q (D5 l un n q):=by
 intro n;induction n with
 |zero=>intro q;trivial
 | succ n ih=>
   intro q;unfold D5;refine Big.bind (h q) λx j hj=>?_;split
   ·exact hj
   ·refine Big.bind (ih _) λy k hk=>?_;simp only[Big,Bn,Ex.nodes,Fo.nodes_two]at hj hk ⊢;omega
def XH{sum:Nat->Res Ex}(h:∀q,Big Ex.nodes q (sum q)):∀n q,Big Ex.nodes q (Dq l sum n q):=by
 intro n;induction n with
 |zero=>intro q;trivial
 | succ n ih=>
   intro q;unfold Dq;split
   ·refine Big.bind (ih _) λy k hk=>?_;simp only[Big,unE,Ex.nodes,Fo.nodes_one]at hk ⊢;omega
   ·refine Big.bind (h q) λx j hj=>?_;split
    ·exact hj
    ·refine Big.bind (h _) λy k hk=>?_;simp only[Big,Bn,Ex.nodes,Fo.nodes_two]at hj hk ⊢;omega
def QS(h:∀q,Big Ex.nodes q (E q)):∀n x j,x.nodes+i<=j->Big Ex.nodes i (CI l E n x j):=by
 intro n;induction n with
 |zero=>intro x j _;trivial
 | succ n ih=>
   intro x j h1;unfold CI;split
   ·refine Big.bind (h _) λy q hq=>Big.bind (DZ _ _) λ_ k hk=>ih _ _ ?_;simp only[AJ,Eg,Ex.nodes,Fo.nodes_two]at hq hk h1 ⊢;omega
   ·exact h1
def TT{prim:Nat->Res Ex}(hE:∀q,Big Ex.nodes q (E q))(hP:∀q,Big Ex.nodes q (prim q)):∀n q,Big Ex.nodes q (CH l E prim n q):=by
 intro n;induction n with
 |zero=>intro q;trivial
 | succ n ih=>
   intro q;unfold CH;split
   ·refine Big.bind (ih _) λy k hk=>?_;simp only[Big,unE,Ex.nodes,Fo.nodes_one]at hk ⊢;omega
   ·exact Big.bind (hP q) λx j hj=>QS hE n x j hj
def Qz(h:∀q,Big Ex.nodes q (E q)):∀n f j,f.nodes+i<=j->Big Fo.nodes i (Di l E n f j):=by
 intro n;induction n with
 |zero=>intro x j _;trivial
 | succ n ih=>
   intro x j h1;unfold Di;split
   ·refine Big.bind (h _) λy q hq=>ih _ _ ?_;rw[Fo.nodes_snoc];omega
   ·exact h1
def Kt(h:∀q,Big Ex.nodes q (E q))(q:Nat):Big Fo.nodes q (Dd l E n q):=
 Big.bind (h q) λx j hj=>Qz h n _ j (by rw[Fo.nodes_one];exact hj)
def P3:∀n f j,1+i<=j->Big AJ i (Dk l n f j):=by
 intro n;induction n with
 |zero=>intro x j _;trivial
 | succ n ih=>
   intro x j h1;unfold Dk;split
   ·exact Big.bind (Fq _) λy q hq=>ih _ _ (by simp only[AJ]at hq;omega)
   ·exact h1
def Ke(q:Nat):Big AJ q (CG l n q):=
 Big.bind (Fq _) λx j hj=>P3 n _ j hj
def Tz(hE:∀q,Big Ex.nodes q (E q))(q:Nat):Big Ex.nodes q (DN l E n q):=by
 unfold DN;refine Big.bind (Fq _) λs j hj=>Big.bind (DZ _ _) λ_ k hk=>?_;split
 ·simp only[Big,AJ,Ex.nodes,Fo.nodes]at hj hk ⊢;omega
 ·refine Big.bind (Kt hE _) λf p hp=>Big.bind (DZ _ _) λ_ r hr=>?_;simp only[Big,AJ,Ex.nodes,Fo.nodes]at hj hk hp hr ⊢;omega
def M6(hE:∀q,Big Ex.nodes q (E q))(q:Nat):Big Ex.nodes q (DJ l E q):=by
 unfold DJ;refine Big.bind (DZ _ _) λs j hj=>?_;split
 ·refine Big.bind (hE _) λf p hp=>Big.bind (DZ _ _) λ_ k hk=>?_;simp only[Big,AJ,Ex.nodes,Fo.nodes_one]at hj hk hp ⊢;omega
 ·refine Big.bind (Fq _) λs p hp=>?_;simp only[Big,AJ,Ex.nodes,Fo.nodes]at hj hp ⊢;split<;>omega
def Q8(hE:∀q,Big Ex.nodes q (E q))(q:Nat):Big Ex.nodes q (DU l E n q):=by
 unfold DU;split
 ·have h1 : Big AJ (q + 1) (if Ah (Ab l (q + 1)) [124] then (.ok [] (q + 2) : Res (List Bs)) else (CG l n (q + 1)).bind λp j => (AW l [124] j).bind λ_ j => .ok p j) := by
   split
   ·show 1+(q+1)<=q+2;omega
   ·refine Big.bind (Ke _) λp j hj=>Big.bind (DZ _ _) λ_ k hk=>?_;simp only[Big,AJ]at hj hk ⊢;omega
  refine Big.bind h1 λp j hj=>Big.bind (hE _) λf p hp=>Big.bind (DZ _ _) λ_ k hk=>?_;simp only[Big,AJ,Ex.nodes,Fo.nodes_one]at hj hk hp ⊢;omega
 ·refine Big.bind (Kt hE _) λf p hp=>Big.bind (DZ _ _) λ_ k hk=>?_;simp only[Big,AJ,Ex.nodes]at hk hp ⊢;omega
def Ry(hE:∀q,Big Ex.nodes q (E q))(q:Nat):Big Ex.nodes q (Ev l E n q):=by
 unfold Ev;split
 ·exact M6 hE q
 split
 ·simp only[Big,A7,Ex.nodes,Fo.nodes];omega
 split
 ·simp only[Big,A7,Ex.nodes,Fo.nodes];omega
 split
 ·simp only[Big,A7,Ex.nodes,Fo.nodes];omega
 split
 ·refine Big.bind (hE _) λf p hp=>Big.bind (DZ _ _) λ_ k hk=>?_;simp only[Big,AJ]at hk hp ⊢;omega
 split
 ·refine Big.bind (Fq _) λs p hp=>?_;simp only[Big,AJ,Ex.nodes,Fo.nodes]at hp ⊢;omega
 split
 ·have h:=Q8 (n:=n) hE (l:=l) (q+1);revert h;generalize DU l E n (q+1)=r;intro h;cases r with
  |ok a j=>simp only[Big]at h ⊢;omega
  |bad k=>trivial
  |out=>trivial
 ·trivial
def S6(hE:∀q,Big Ex.nodes q (E q))(q:Nat):Big Ex.nodes q (E4 l E n q):=by
 unfold E4;split
 ·exact Tz hE q
 refine Big.bind (Fq _) λs j hj=>?_;split
 ·split
  ·refine Big.bind (hE _) λf p hp=>Big.bind (DZ _ _) λ_ k hk=>?_;simp only[Big,AJ,Ex.nodes,Fo.nodes_one]at hj hk hp ⊢;omega
  ·refine Big.bind (Fq _) λs p hp=>?_;simp only[Big,AJ,AH,Ex.nodes,Fo.nodes_one,Fo.nodes]at hj hp ⊢;omega
 ·simp only[Big,AJ,AH,Ex.nodes,Fo.nodes]at hj ⊢;omega
def V1(hE:∀q,Big Ex.nodes q (E q))(q:Nat):Big Ex.nodes q (DQ l day E n q):=by
 have hc:∀a b c,Big Ex.nodes q (.ok (A7 a b c) (q+1)):=by
  intro a b c;simp only[Big,A7,Ex.nodes,Fo.nodes];omega
 unfold DQ;split
 ·exact hc _ _ _
 split
 ·split
  ·trivial
  ·exact hc _ _ _
 split
 ·exact hc _ _ _
 split
 ·exact S6 hE q
 ·exact Ry hE q
def IQ(day:Bs->Int):∀n q,Big Ex.nodes q (Ak l day n q):=by
 intro n;induction n with
 |zero=>intro q;trivial
 | succ n ih=>
   intro q;unfold Ak;exact IT (IT λp=>XH (λp=>IT (IT λp=>WQ (λp=>TT ih (λp=>V1 ih p) n p) n p) p) n p) q
def Ud(day:Bs->Int)(n:Nat){x:Ex}(h:BX l day n= .ok x j):x.nodes+1<=l.length:=by
 have h1:=IQ (l:=l) day n 0;unfold BX at h;cases hr:Ak l day n 0 with
 | ok y i=>
   rw[hr,Res.bind_ok]at h;rw[hr]at h1;have h2:=NW (l:=l) (o:=True) i;cases he:B3 l i with
   | ok u k=>
     rw[he,Res.bind_ok]at h;rw[he]at h2;cases h;have:=h2.2;have:=h2.1;simp only[Big]at h1;omega
   |bad k=>rw[he]at h;cases h
   |out=>rw[he]at h;cases h
 |bad k=>rw[hr]at h;cases h
 |out=>rw[hr]at h;cases h
def Kb(day:Bs->Int)(n:Nat)(hn:l.length+2<=n):BX l day n ≠ .out:=by
 have h:=GX (l:=l) day n 0;unfold BX;cases hr:Ak l day n 0 with
 | ok y i=>
   rw[Res.bind_ok];unfold B3;split<;>simp[Res.bind]
 |bad k=>simp[Res.bind]
 |out=>rw[hr]at h;exact absurd (by omega) h
def CF(s:Bs):Except (Int×Int) (List Tok):=
 if 4000<s.length then .error (0,3)else match F7 s with
  | .ok l=>if 1200<l.length then .error (0,3)else .ok l
  | .bad k=> .error (k,2)
  | .out=> .error (0,2)
def RX(w:World)(s:Bs)(e:Ending)(w':World):Prop:=w.grownBy w' none/\
 match CF s with
  | .ok l=>∃v,e= .returned (.tuple #[v,.int .i64 l.length,.int .i64 0])/\TRow w' v l (An w.heap.size)/\En AE l/\l.length<=1200
  | .error pc=>e= .returned (.tuple #[.slice none 0 0,.int .i64 pc.1,.int .i64 pc.2])/\(pc.2=2\/pc.2=3)
def Mz(ht:Tabs w.heap.size w)(s:Bs)(hs:s.length<=1000000):Calls Tryz.prog 156 #[str s] w (RX w s):=by
 refine(Zh ht s hs).mono ?_;rintro e w1 ⟨g,h⟩;refine⟨g,?_⟩;unfold CF;by_cases h4:4000<s.length
 ·rw[if_pos h4]at h ⊢;exact⟨h,.inr rfl⟩
 rw[if_neg h4]at h ⊢;cases hl:F7 s with
 |out=>exact absurd hl (JP s)
 |bad k=>rw[hl]at h;exact⟨h,.inl rfl⟩
 | ok l=>
   rw[hl]at h;replace h:ite _ _ _:=h;simp only[];by_cases hm:1200<l.length
   ·rw[if_pos hm]at h ⊢;exact⟨h,.inr rfl⟩
   ·rw[if_neg hm]at h ⊢;obtain⟨v,rfl,ht⟩:=h;exact⟨v,rfl,ht,RA (by omega) hl,by omega⟩
inductive PeR (α:Type) where
 |ok (x:α) (n:Nat)
 |no (p c:Int)
def Hy(l:List Tok):Res Ex:=BX l AE (l.length+2)
def FB(l:List Tok):PeR Ex:=
 match Hy l with
 | .ok x j=>if j<l.length then .no j 2 else if Cq x.nodes x.levels then .no 0 3 else .ok x l.length
 | .bad q=> .no q 2
 | .out=> .no 0 2
def peM(s:Bs):PeR Ex:=match CF s with
 | .ok l=>FB l
 | .error pc=> .no pc.1 pc.2
abbrev exV0:Value:= .agg zeroE.toArray
def ZU(w:World)(s:Bs)(e:Ending)(w':World):Prop:=w.grownBy w' none/\
 match peM s with
  | .ok x n=>∃v,e= .returned (.tuple #[v,.int .i64 n,.int .i64 0])/\VE (An w.heap.size) w' v x
  | .no p c=>e= .returned (.tuple #[exV0,.int .i64 p,.int .i64 c])
def ID{p i j:Tmp}(h:fn.results=#[.cell p 163,.tmp i,.tmp j])(tmps:Array Value){u:Value}(hb:Blk w k [a0,a1,a2,a3,a4,a5,a6] 163)
 (hp:tmps.getD p undef= .pointer (some ⟨k,0,none⟩)) (hi:tmps.getD i undef=u) (hj:tmps.getD j undef=v):(results fn tmps).run Tryz.prog w= .ok (.tuple #[.agg #[a0,a1,a2,a3,a4,a5,a6],u,v]) w:=by
 have c0:=hb.cell' 0 rfl;have c1:=hb.cell' 1 rfl;have c2:=hb.cell' 2 rfl;have c3:=hb.cell' 3 rfl;have c4:=hb.cell' 4 rfl;have c5:=hb.cell' 5 rfl;have c6:=hb.cell' 6 rfl;have hp':tmps[p]?.getD undef= .pointer (some ⟨k,0,none⟩):=by simpa using hp
 have hi':tmps[i]?.getD undef=u:=by simpa using hi
 have hj':tmps[j]?.getD undef=v:=by simpa using hj
 simp[results,h,hp',hi',hj',go_sem,c0,c1,c2,c3,c4,c5,c6]
def WM(hq:BP l (BX l AE (l.length+2))=q):FB l= .no q 2:=by
 have hex:=Kb (l:=l) AE (l.length+2) (nR _);unfold FB Hy;cases hr:BX l AE (l.length+2)with
 | ok x j=>
   rw[hr]at hq;simp only[BP]at hq ⊢;by_cases hj:j<l.length
   ·rw[if_pos hj]at hq ⊢;rw[hq]
   ·rw[if_neg hj]at hq;omega
 |bad k=>rw[hr]at hq;simp only[BP]at hq ⊢;rw[hq]
 |out=>exact absurd hr hex
def Qy(R:Res α)(l:List Tok):BP l R= -1\/∃q:Nat,BP l R=q:=by
 cases R with
 | ok x j=>
   simp only[BP];split
   ·exact .inr ⟨j,rfl⟩
   ·exact .inl rfl
 |bad k=>exact .inr ⟨k,rfl⟩
 |out=>exact .inr ⟨0,rfl⟩
def Vx(hq:BP l (BX l AE (l.length+2))= -1):∃x j,BX l AE (l.length+2)= .ok x j/\FB l=if Cq x.nodes x.levels then .no 0 3 else .ok x l.length:=by
 have hex:=Kb (l:=l) AE (l.length+2) (nR _);unfold FB Hy;cases hr:BX l AE (l.length+2)with
 | ok x j=>
   rw[hr]at hq;refine⟨x,j,rfl,?_⟩;simp only[BP]at hq ⊢;by_cases hj:j<l.length
   ·rw[if_pos hj]at hq;omega
   ·rw[if_neg hj]
 |bad k=>rw[hr]at hq;simp only[BP]at hq;omega
 |out=>exact absurd hr hex
def P6(ht:Tabs w.heap.size w)(s:Bs)(hs:s.length<=1000000):Calls Tryz.prog 113 #[str s] w (ZU w s):=by
 have g0:=gZ w (.cells zeroE.toArray 163 (0,0)) none;have hB:=Blk.new w zeroE 163;have ht0:=(ht.gbN g0).mono g0.size;go_enter func113,ntmps113;go_wp2_with fail;refine(Mz ht0 s hs).mono ?_;rintro e w1 ⟨g1,h1⟩;have hB1:=hB.gb g1 (by simp);have gA:=S (Z g0 g1);have HT0:=S (ht0.gbN g1).glob;have hPM:∀l,CF s= .ok l->peM s=FB l:=λl h=>by unfold peM;rw[h]
 have hlt:=hB1.lt;clear ht0 g0 hB ht hs g1;cases hq:CF s with
 | error pc=>
   rw[hq]at h1;obtain⟨rfl,hc⟩:=h1;have HQ:=S (show peM s= .no pc.1 pc.2 by unfold peM;rw[hq]);have hc1:decide (pc.2=0)=false:=by simp;omega
   clear hq hPM;obtain⟨cb_0,cb_1,cb_2,cb_3,cb_4,cb_5,cb_6,cb_f⟩:=(hB1).c7;have HB:=S hB1;clear hB1;go_wp2;exact bZ (ID rfl _ (HB.1.set7 (.int .i64 0) (str []) (.int .i64 0) (.int .i64 0) (str []) (.slice none 0 0) (.slice none 0 0)) rfl rfl rfl) rfl ⟨Aq gA.1 (A2 w1 w.heap.size (.int .i64 0) (str []) (.int .i64 0) (.int .i64 0) (str []) (.slice none 0 0) (.slice none 0 0)) (.inr (nR _)),by rw[HQ.1];rfl⟩
 | ok l=>
   rw[hq]at h1;obtain⟨v,rfl,hT,hTame,hl⟩:=h1;have hex:=Kb (l:=l) AE (l.length+2) (nR _);obtain⟨ta,tc,rfl,_⟩:=id hT;have HL:=X6 HT0.1 hTame (hT.mono λ_ _ _=>trivial) (by omega) (l.length+2) hex;have HQ:=S (hPM l hq);have HB:=S hB1;have HLL:=S HL;clear hPM hq hTame hT HL hex hB1;go_wp2_with fail;refine HLL.1.mono ?_;rintro e w2 ⟨h,pa,pn,pc,la,ln,lc,rfl,g2,hV⟩;have hB2:=HB.1.gb g2 (by simp);have gB:=S (Z gA.1 g2);have hs2:=g2.size;have hlt2:w.heap.size<w2.heap.size:=by omega
   have hno:=λq=>WM (l:=l) (q:=q);have hgo:=Vx (l:=l);have hyes:=Qy (BX l AE (l.length+2)) l;clear HLL HT0;rcases hyes with hy| ⟨q,hy⟩
   ·obtain⟨x,j,hr,hP⟩:=hgo hy;have hX:=hV x j hr;have hxn:=Ud AE _ hr;rw[hy];clear hgo hno hV hr hy;have HX:=S hX;obtain⟨pa',pc',la',lc',e1,rp,rl⟩:=hX;rw[e1]at HX ⊢;have HPP:=S (hP ▸ HQ.1);have HR:=S (X rp rl);clear rp rl e1 hP;have hc1:decide ((0:Int)<=-1)=false:=by decide
    obtain⟨cb_0,cb_1,cb_2,cb_3,cb_4,cb_5,cb_6,cb_f⟩:=(hB2).c7;have HB2:=S hB2;clear hB2;have gK:=gZ w2 (.cells (hdC x.h (.slice pa' x.h.p.length pc') (.slice la' x.kids.len lc')).toArray 163 (0,0)) none;have hE:=Blk.new w2 (hdC x.h (.slice pa' x.h.p.length pc') (.slice la' x.kids.len lc')) 163;have HS:=S (M9 (HX.1.gb gK (by simp)) (by unfold Ex.nodes at hxn;omega));have HE:=S (X gK hE);clear gK hE;go_wp2_with fail;refine mR HS.1 λw3 g3=>?_;go_wp2_with fail;refine mR (JO _ _ _) λw4 g4=>?_;have gM:=Z (Z HE.1.1 g3) g4;have hE4:=(HE.1.2.gb g3 (by simp)).gb g4 (by simp);have hR4:=HB2.1.gb gM (by simp);have hX4:=HX.1.gb gM (by simp);have gT:=S (X (Z gB.1 gM) hX4);have hlt4:=gM.size;clear cb_0 cb_1 cb_2 cb_3 cb_4 cb_5 cb_6 cb_f gM hX4;have ce_:=hE4.c7;obtain⟨cb_0,cb_1,cb_2,cb_3,cb_4,cb_5,cb_6,cb_f⟩:=(hR4).c7;have HR4:=S hR4;have hltE:=hE4.lt;clear hE4 hR4 g3 g4;cases hLL:Cq x.nodes x.levels with
    | true=>
      have HF:=S (show peM s= .no 0 3 by rw[HPP.1];rw[hLL];rfl);clear hLL;go_wp2;exact bZ (ID rfl _ (HR4.1.set7 (.int .i64 0) (str []) (.int .i64 0) (.int .i64 0) (str []) (.slice none 0 0) (.slice none 0 0)) rfl rfl rfl) rfl ⟨Aq gT.1.1 (A2 w4 w.heap.size (.int .i64 0) (str []) (.int .i64 0) (.int .i64 0) (str []) (.slice none 0 0) (.slice none 0 0)) (.inr (nR _)),by rw[HF.1];rfl⟩
    | false=>
      have HF:=S (show peM s= .ok x l.length by rw[HPP.1];rw[hLL];rfl);clear hLL;go_wp2;have g7:=A2 w4 w.heap.size (.int .i64 x.h.op) (str x.h.s) (.int .i64 x.h.vk) (.int .i64 x.h.vn) (str x.h.vs) (.slice pa' x.h.p.length pc') (.slice la' x.kids.len lc');refine bZ (ID rfl _ (HR4.1.set7 (.int .i64 x.h.op) (str x.h.s) (.int .i64 x.h.vk) (.int .i64 x.h.vn) (str x.h.vs) (.slice pa' x.h.p.length pc') (.slice la' x.kids.len lc')) rfl rfl rfl) rfl ⟨Aq gT.1.1 g7 (.inr (nR _)),?_⟩;rw[HF.1];exact⟨_,rfl,(gT.1.2.gb g7 (by intro q hq _ e;cases e;simp at hq;omega)).mono (by intro q hq _;simp at hq ⊢;omega)⟩
   ·rw[hy];have HQ2:=S (show peM s= .no q 2 by rw[HQ.1,hno q hy]);clear hgo hno hV;have hc1:decide ((0:Int)<=(q:Int))=true:=by simp
    obtain⟨cb_0,cb_1,cb_2,cb_3,cb_4,cb_5,cb_6,cb_f⟩:=(hB2).c7;have HB2:=S hB2;clear hB2;go_wp2;have hBA:=(HB2.1.set7 (.int .i64 0) (str []) (.int .i64 0) (.int .i64 0) (str []) (.slice none 0 0) (.slice none 0 0)).alloc (.cells (hdC h (.slice pa pn pc) (.slice la ln lc)).toArray 163 (0,0));have gBA:=Ac (Aq gB.1 (A2 w2 w.heap.size (.int .i64 0) (str []) (.int .i64 0) (.int .i64 0) (str []) (.slice none 0 0) (.slice none 0 0)) (.inr (nR _))) (.cells (hdC h (.slice pa pn pc) (.slice la ln lc)).toArray 163 (0,0));exact bZ (ID rfl _ hBA rfl rfl rfl) rfl ⟨gBA,by rw[HQ2.1];rfl⟩
def Gj(l:List Tok)(expr:Nat->Res Ex)(i:Nat):Res Ex:=
 if Ah (Ab l i) [38]then DJ l expr i
 else(AD l i).bind λs j=>
  if Ah (Ab l j) [91]then(expr (j+1)).bind λx k=>(AW l [93] k).bind λ_ k=> .ok (Eg (AH s) x) k
  else if Ah (Ab l j) [45,62]then(AD l (j+1)).bind λt k=> .ok ⟨hd0 2 s,.one (AH t)⟩ k
  else .ok (AH s) j
def Yz{w2:World}{t:Bs}{x:Ex}{r:Res Ex}(hb:b<w.heap.size)
 (hr:r= .ok ⟨hd0 op s,.two (AH t) x⟩ j) (gr:w.grownBy w1 (some b)) (rp:Cells w1 (.slice pa x.h.p.length pc) 1 x.h.p.length (x.h.p.map str) ok) (rl:RepL ok w1 (.slice la x.kids.len lc) x.kids) (hok:∀k,ok k->w.heap.size<k)
 (hp:Par w1 b tv wv l wl j) (g7:w1.grownBy w2 (some w.heap.size)) (hsz:w2.heap.size=w1.heap.size):
 PE b tv wv l wl w r (.returned (exV (hd0 op s) (.slice none 0 0) (.slice (some ⟨w1.heap.size,0,none⟩) 2 2))) (w2.alloc (.cells (hdC (AH t).h (.slice none 0 0) (.slice none 0 0)++hdC x.h (.slice pa x.h.p.length pc) (.slice la x.kids.len lc)).toArray 163 (0,0))):=by
 have hlt:=gr.size;have rp':=rp.gb g7 (by intro q hq _ e;have:=hok q hq;cases e;omega);have rl':=rl.gb g7 (by intro q hq _ e;have:=hok q hq;cases e;omega);have hV:VE (An w.heap.size) (w2.alloc (.cells (hdC (AH t).h (.slice none 0 0) (.slice none 0 0)++hdC x.h (.slice pa x.h.p.length pc) (.slice la x.kids.len lc)).toArray 163 (0,0))) (exV (hd0 op s) (.slice none 0 0) (.slice (some ⟨w1.heap.size,0,none⟩) 2 2)) ⟨hd0 op s,.two (AH t) x⟩:=
  VE.node (f:= .two (AH t) x) (RepL.two (ok:=An w.heap.size) (n:=w1.heap.size) hsz.symm (by show w.heap.size<=_;omega) (Cells.nil _ _ _) (RepL.nil _ _) (rp'.mono (by intro q hq _;have:=hok q hq;show w.heap.size<=q;omega)) (rl'.mono (by intro q hq _;have:=hok q hq;show w.heap.size<=q;omega)))
 exact Post.ok (Ac (Aq gr g7 (.inr (nR _))) _) hr hV ((hp.gb g7 (by intro q e;cases e;omega)).alloc _)
def MJ(hE:CE 208 b tv wv l wl E)(hl:A0 l):CE 304 b tv wv l wl (Gj l E):=by
 intro w i hp ho;have hb:=hp.lt;have gr:w.grownBy (w.alloc (.cells zeroE.toArray 163 (0,0))) (some b):=Ac (Aa _ _) _;have hz:=Blk.new w zeroE 163;replace hp:=hp.alloc (.cells zeroE.toArray 163 (0,0));have H:=S (X hE (X hl ho));generalize hR:Gj l E i=R at*;have HQ:=S hR;rw[Gj]at HQ;clear hE hl ho hR;go_enter func304,ntmps304;go_wp2_with fail;refine mR (Bj hp) λw1 g=>?_;replace hz:=hz.gb g (by simp);replace gr:=Ag gr g;replace hp:=hp.gbN g;clear g;have hs0:=hz.lt;go_wp2_with fail;refine mR (Fg _ _ _ [38] _) λw2 g=>?_;replace hz:=hz.gb g (by simp);replace gr:=Ag gr g;replace hp:=hp.gbN g;replace hs0:=hz.lt;clear g;cases hs:Ah (Ab l i) [38]with
 | true=>
   have hs':((Ab l i).kind==4&&(Ab l i).text==[38])=true:=hs;rw[hs'];rw[if_pos hs]at HQ;go_wp2_with fail;refine(Nu H.1.1 H.1.2.1 _ _ hp (λe=>H.1.2.2 (by rw[<-HQ.1,e]))).mono ?_;intro e w3 hq;obtain⟨g,⟨q,hr,rfl⟩| ⟨x,j,v,hr,rfl,⟨pa,pc,la,lc,rfl,rp,rl⟩,hp⟩⟩:=hq.split
   ·exact⟨rfl,Post.bad (Z gr g) (by rw[<-HQ.1,hr])⟩
   replace gr:=Z gr g;rw[hr]at HQ;clear hr;replace hz:=hz.gb g (by simp;omega);have cz_:=hz.c7;have HV:=S (X rp rl);clear rp rl g;go_wp2;exact bZ (AK rfl _ (hz.set7 _ _ _ _ _ _ _) rfl) rfl (Br hb HQ.1.symm gr ⟨_,_,_,_,rfl,HV.1.1,HV.1.2⟩ (by intro k hk;have:_<=k:=hk;omega) hp (A2 _ _ _ _ _ _ _ _ _))
 |false=>
 have hs':((Ab l i).kind==4&&(Ab l i).text==[38])=false:=hs;rw[hs'];clear hs';rw[if_neg (nF hs)]at HQ;go_wp2_with fail;refine(B7 hp H.1.2.1).mono ?_;intro e w3 hq;obtain⟨g,⟨q,hr,rfl⟩| ⟨s,j,v,hr,rfl,rfl,hp⟩⟩:=hq.split
 ·exact PBd gr g HQ hr
 replace gr:=Z gr g;replace HQ:=HQo HQ hr;clear hr;replace hz:=hz.gb g (by simp;omega);clear g;go_wp2_with fail;cases hs:Ah (Ab l j) [91]with
 | true=>
   refine(Bm hp _ hs).mono ?_;rintro e w4 ⟨rfl,hp',g⟩;replace hz:=hz.gb g (by simp;omega);replace gr:=Z gr g;replace hp:=hp';have hs0:=hz.lt;clear g;rw[if_pos hs]at HQ;go_wp2_with fail;refine(H.1.1 _ _ hp (λe=>H.1.2.2 (by rw[<-HQ.1,e];rfl))).mono ?_;intro e w6 hq;obtain⟨g,⟨q,hr,rfl⟩| ⟨x,j2,v,hr,rfl,⟨pa,pc,la,lc,rfl,rp,rl⟩,hp⟩⟩:=hq.split
   ·exact PBd gr g HQ hr
   replace gr:=Z gr g;replace HQ:=HQo HQ hr;clear hr;replace hz:=hz.gb g (by simp;omega);have hk:=Kept.new hb gr hz hp (rp.mono λg hg _=>by have:w4.heap.size<=g:=hg;show w.heap.size<g;omega) (rl.mono λg hg _=>by have:w4.heap.size<=g:=hg;show w.heap.size<g;omega) rfl;clear rp rl g hz;go_wp2_with fail;replace gr:=hk.gr;refine(CM hk.par [93]).mono ?_;intro e w7 hq;obtain⟨g,⟨q,hr,rfl⟩| ⟨_,j3,v,hr,rfl,rfl,hp⟩⟩:=hq.split
   ·exact PBd gr g HQ hr
   replace gr:=Z gr g;replace HQ:=HQo HQ hr;clear hr;replace hk:=hk.gb hb g hp;clear g;have hz:=hk.zero;have hL:=hk.blk;have rp:=hk.rp.mono (ok':=λg=>w.heap.size<g) (λg hg _=>hg.1);have rl:=hk.rl.mono (ok':=λg=>w.heap.size<g) (λg hg _=>hg.1);have hwL:=hk.wL;have hltL:=hL.lt;clear hk;have cl_:=hL.c7;have HV:=S (X rp rl);clear rp rl;have cz_:=hz.c7;have hltz:=hz.lt;go_wp2;have g7:=A2 w7 w.heap.size (.int .i64 6) (str []) (.int .i64 0) (.int .i64 0) (str []) (.slice none 0 0) (.slice (some ⟨w7.heap.size,0,none⟩) 2 2);have hW:=hz.set7 (.int .i64 6) (str []) (.int .i64 0) (.int .i64 0) (str []) (.slice none 0 0) (.slice (some ⟨w7.heap.size,0,none⟩) 2 2);have hsz:(set7 w7 w.heap.size (.int .i64 6) (str []) (.int .i64 0) (.int .i64 0) (str []) (.slice none 0 0) (.slice (some ⟨w7.heap.size,0,none⟩) 2 2)).heap.size=w7.heap.size:=by simp[set7]
   simp only[set7]at hW g7 hsz;generalize(((((((w7.setCell {block:=w.heap.size,off:=0} (.int .i64 6)).setCell {block:=w.heap.size,off:=1} (str [])).setCell {block:=w.heap.size,off:=2} (.int .i64 0)).setCell {block:=w.heap.size,off:=3} (.int .i64 0)).setCell {block:=w.heap.size,off:=4} (str [])).setCell {block:=w.heap.size,off:=5} (.slice none 0 0)).setCell {block:=w.heap.size,off:=6} (.slice (some ⟨w7.heap.size,0,none⟩) 2 2))=W' at*;exact bZ (AK (hd:=hd0 6 []) (pv:= .slice none 0 0) (lv:= .slice (some ⟨w7.heap.size,0,none⟩) 2 2) rfl _ (Blk.alloc hW (.cells (hdC (AH s).h (.slice none 0 0) (.slice none 0 0)++hdC x.h (.slice pa x.h.p.length pc) (.slice la x.kids.len lc)).toArray 163 (0,0))) rfl) rfl (Yz (op:=6) (s:=[]) (t:=s) hb HQ.1.symm gr HV.1.1 HV.1.2 (λk hk=>hk) hp g7 hsz)
 | false=>
   refine mR (Bb hp _ hs) λw4 g=>?_;replace hz:=hz.gb g (by simp);replace gr:=Ag gr g;replace hp:=hp.gbN g;clear g;rw[if_neg (nF hs)]at HQ;go_wp2_with fail;cases hs:Ah (Ab l j) [45,62]with
   | false=>
     refine mR (Bb hp _ hs) λw5 g=>?_;replace hz:=hz.gb g (by simp);replace gr:=Ag gr g;replace hp:=hp.gbN g;clear g;rw[if_neg (nF hs)]at HQ;have cz_:=hz.c7;go_wp2;exact bZ (AK (hd:=(AH s:Ex).h) (pv:= .slice none 0 0) (lv:= .slice none 0 0) rfl _ (hz.set7 _ _ _ _ _ _ _) rfl) rfl (Br (ok:=λk=>w.heap.size<k) (x:=AH s) hb HQ.1.symm gr ⟨none,0,none,0,rfl,Cells.nil _ _ _,RepL.nil _ _⟩ (λk hk=>hk) hp (A2 _ _ _ _ _ _ _ _ _))
   |true=>
   refine(Bm hp _ hs).mono ?_;rintro e w5 ⟨rfl,hp',g⟩;replace hz:=hz.gb g (by simp;omega);replace gr:=Z gr g;replace hp:=hp';have hs0:=hz.lt;clear g;rw[if_pos hs]at HQ;go_wp2_with fail;refine(B7 hp H.1.2.1).mono ?_;intro e w6 hq;obtain⟨g,⟨q,hr,rfl⟩| ⟨t,j2,v,hr,rfl,rfl,hp⟩⟩:=hq.split
   ·exact PBd gr g HQ hr
   replace gr:=Z gr g;replace HQ:=HQo HQ hr;clear hr;replace hz:=hz.gb g (by simp;omega);clear g;have rp:=Cells.nil w6 1 (λg=>w.heap.size<g);have rl:=RepL.nil w6 (λg=>w.heap.size<g);have HV:=S (X rp rl);clear rp rl;have cz_:=hz.c7;have hltz:=hz.lt;go_wp2;have g7:=A2 w6 w.heap.size (.int .i64 2) (str s) (.int .i64 0) (.int .i64 0) (str []) (.slice none 0 0) (.slice (some ⟨w6.heap.size,0,none⟩) 1 1);have hW:=hz.set7 (.int .i64 2) (str s) (.int .i64 0) (.int .i64 0) (str []) (.slice none 0 0) (.slice (some ⟨w6.heap.size,0,none⟩) 1 1);have hsz:(set7 w6 w.heap.size (.int .i64 2) (str s) (.int .i64 0) (.int .i64 0) (str []) (.slice none 0 0) (.slice (some ⟨w6.heap.size,0,none⟩) 1 1)).heap.size=w6.heap.size:=by simp[set7]
   simp only[set7]at hW g7 hsz;generalize(((((((w6.setCell {block:=w.heap.size,off:=0} (.int .i64 2)).setCell {block:=w.heap.size,off:=1} (str s)).setCell {block:=w.heap.size,off:=2} (.int .i64 0)).setCell {block:=w.heap.size,off:=3} (.int .i64 0)).setCell {block:=w.heap.size,off:=4} (str [])).setCell {block:=w.heap.size,off:=5} (.slice none 0 0)).setCell {block:=w.heap.size,off:=6} (.slice (some ⟨w6.heap.size,0,none⟩) 1 1))=W' at*;exact bZ (AK (hd:=hd0 2 s) (pv:= .slice none 0 0) (lv:= .slice (some ⟨w6.heap.size,0,none⟩) 1 1) rfl _ (Blk.alloc hW (Obj.cells #[Value.int IntKind.i64 (AH t).h.op,str (AH t).h.s,Value.int IntKind.i64 (AH t).h.vk,Value.int IntKind.i64 (AH t).h.vn,str (AH t).h.vs,Value.slice none (AH t).h.p.length 0,Value.slice none (AH t).kids.len 0] 163)) rfl) rfl (Ih (op:=2) (s:=s) hb HQ.1.symm gr HV.1.1 HV.1.2 (λk hk=>hk) hp g7 hsz)
def endsText:Bs:=[69,76,83,69,73,70,32,69,76,83,69,32,69,78,68,73,70,32,67,65,83,69,32,79,84,72,69,82,87,73,83,69,32,69,78,68,67,65,83,69,32,69,78,68,68,79,32,78,69,88,84,32,82,69,67,79,86,69,82,32,69,78,68,32,80,82,79,67,69,68,85,82,69,32,70,85,78,67,84,73,79,78]
def Sq:endsText.all (λb=>decide (b.toNat<128))=true:=by decide+kernel
def endsL:List Bs:=[[69,76,83,69,73,70],[69,76,83,69],[69,78,68,73,70],[67,65,83,69],[79,84,72,69,82,87,73,83,69],[69,78,68,67,65,83,69],[69,78,68,68,79],[78,69,88,84],[82,69,67,79,86,69,82],[69,78,68],[80,82,79,67,69,68,85,82,69],[70,85,78,67,84,73,79,78]]
def QK:Lib.fields endsText=endsL:=by decide+kernel
def IR(s:Bs):Bool:=Lib.containsS (endsL.map λx=>⟨x.toArray⟩) ⟨s.toArray⟩
def LQ(s:Bs)(hg:Glob w):Calls Tryz.prog 273 #[str s] w (ρ w (.bool (IR s))):=by
 have HG:=S hg;clear hg;go_enter func273,ntmps273;go_wp2_with fail;refine(strings_Fields ⟨endsText.toArray⟩ w (by decide+kernel) ?_ HG.1).mono ?_
 ·intro j b hb;have hb:endsText[j]? =some b:=hb;have h2:=List.all_eq_true.1 Sq b (List.mem_of_getElem? hb);simpa using h2
 rintro e w1 ⟨rfl,rfl⟩;rw[show(Lib.fields (ByteArray.mk endsText.toArray).data.toList)=endsL from QK];have hn:endsL.length=12:=rfl;have HN:=S hn;clear hn;generalize hE:endsL=E at*;go_wp2_with fail;refine(slices_Contains_string w.heap.size 0 E.length E.length (E.map λx=>⟨x.toArray⟩) ⟨s.toArray⟩ _ (by simp) (by have:=HN.1;omega) ?_).mono ?_
 ·intro j hj;simp at hj;simp[List.getD,hj]
 rintro e w2 ⟨rfl,rfl⟩;go_wp2;go_ret;exact⟨by rw[List.take_of_length_le (by simp),IR,hE];rfl,gZ w _ none⟩
def set10(w:World)(k:Nat)(v0 v1 v2 v3 v4 v5 v6 v7 v8 v9:Value):World:=
 (((set7 w k v0 v1 v2 v3 v4 v5 v6).setCell ⟨k,7,none⟩ v7).setCell ⟨k,8,none⟩ v8).setCell ⟨k,9,none⟩ v9
def Blk.set10{a7 a8 a9:Value}(h:Blk w k [a0,a1,a2,a3,a4,a5,a6,a7,a8,a9] t)(v0 v1 v2 v3 v4 v5 v6 v7 v8 v9:Value):Blk (set10 w k v0 v1 v2 v3 v4 v5 v6 v7 v8 v9) k [v0,v1,v2,v3,v4,v5,v6,v7,v8,v9] t:=
 ((((((((((h.set 0 v0).set 1 v1).set 2 v2).set 3 v3).set 4 v4).set 5 v5).set 6 v6).set 7 v7).set 8 v8).set 9 v9).of_eq rfl rfl
def DW(w:World)(k:Nat)(v0 v1 v2 v3 v4 v5 v6 v7 v8 v9:Value):w.grownBy (set10 w k v0 v1 v2 v3 v4 v5 v6 v7 v8 v9) (some k):=
 Ai (Ai (Ai (A2 w k v0 v1 v2 v3 v4 v5 v6) 7 v7) 8 v8) 9 v9
def Vc:(match(Tryz.prog.underlying 134)with|some (.struct _)=>true|_=>false)=true:=by kernel_rfl
def A8{p:Tmp}(h:fn.results=#[.cell p 134])(tmps:Array Value)(hb:Blk w k cs 134)(hn:cs.length=10)(hp:tmps.getD p undef= .pointer (some ⟨k,0,none⟩)):
 (results fn tmps).run Tryz.prog w= .ok (.agg cs.toArray) w:=by
 have hs:=Vc;cases hu:Tryz.prog.underlying 134 with
 |none=>rw[hu]at hs;cases hs
 | some d=>
   rw[hu]at hs;exact results_cell_row h tmps w k 134 cs.toArray (0,0) d hp hb hu (by cases d<;>simp_all) (by rw[List.size_toArray,hn];show(Tryz.prog.info? 134).map (·.size)=some 10;kernel_rfl)
abbrev stC(op:Int)(xv:Value):List Value:=[.int .i64 op,str [],str [],.slice none 0 0,xv,.slice none 0 0,.int .i64 0,.slice none 0 0,.slice none 0 0,.slice none 0 0]
section
structure SetPre(b:Nat)(tv wv:Value)(l:List Tok)(wl:List Bs)(w:World)(t x:Ex)(pa la pa2 la2:Option Addr)(pc lc pc2 lc2 k:Nat)(ok:Nat->Prop)(W:World):Prop where
 par:Par W b tv wv l wl k
 tp:Cells W (.slice pa t.h.p.length pc) 1 t.h.p.length (t.h.p.map str) ok
 tl:RepL ok W (.slice la t.kids.len lc) t.kids
 xp:Cells W (.slice pa2 x.h.p.length pc2) 1 x.h.p.length (x.h.p.map str) ok
 xl:RepL ok W (.slice la2 x.kids.len lc2) x.kids
 gr:w.grownBy W (some b)
 zero:Blk W w.heap.size (stC 0 (.slice none 0 0)) 134
 lt:b<w.heap.size
 hok:∀q,ok q->w.heap.size<q
structure Iv(b:Nat)(tv wv:Value)(l:List Tok)(wl:List Bs)(w:World)(t x:Ex)(k kS kR:Nat)(W:World):Prop where
 par:Par W b tv wv l wl k
 row:RepL (λq=>w.heap.size<q) W (.slice (some ⟨kR,0,none⟩) 2 2) (.two t x)
 st:Blk W kS (stC 0 (.slice (some ⟨kR,0,none⟩) 2 2)) 134
 gr:w.grownBy W (some b)
 zero:Blk W w.heap.size (stC 0 (.slice none 0 0)) 134
 ne:w.heap.size<kS
 lt:b<w.heap.size
section
variable {W:World}{t x:Ex}{pa2 la2:Option Addr}{pc2 lc2:Nat}
abbrev rowO(t x:Ex)(pa la pa2 la2:Option Addr)(pc lc pc2 lc2:Nat):Obj:= .cells (hdC t.h (.slice pa t.h.p.length pc) (.slice la t.kids.len lc)++hdC x.h (.slice pa2 x.h.p.length pc2) (.slice la2 x.kids.len lc2)).toArray 163 (0,0)
abbrev stO(kR:Nat):Obj:= .cells (stC 0 (.slice (some ⟨kR,0,none⟩) 2 2)).toArray 134 (0,0)
def SetPre.A(h:SetPre b tv wv l wl w t x pa la pa2 la2 pc lc pc2 lc2 k ok W):Iv b tv wv l wl w t x k (W.heap.size+1) W.heap.size ((W.alloc (rowO t x pa la pa2 la2 pc lc pc2 lc2)).alloc (stO W.heap.size)):=by
 have hs:=h.gr.size;have hz:=h.zero.lt;have ho:∀q,ok q->q<W.heap.size->w.heap.size<q:=λq hq _=>h.hok q hq;have g2:=gZ (W.alloc (rowO t x pa la pa2 la2 pc lc pc2 lc2)) (stO W.heap.size) none;exact⟨(h.par.alloc _).alloc _,(RepL.two (ok:=λq=>w.heap.size<q) rfl hz (h.tp.mono ho) (h.tl.mono ho) (h.xp.mono ho) (h.xl.mono ho)).gb g2 (by simp),(Blk.new _ _ _).of_eq (by simp) rfl,Ac (Ac h.gr _) _,(h.zero.alloc _).alloc _,by omega,h.lt⟩
def SetPre.B(h:SetPre b tv wv l wl w t x pa la pa2 la2 pc lc pc2 lc2 k ok W):Iv b tv wv l wl w t x k W.heap.size (W.heap.size+1) ((W.alloc (stO (W.heap.size+1))).alloc (rowO t x pa la pa2 la2 pc lc pc2 lc2)):=by
 have hs:=h.gr.size;have hz:=h.zero.lt;have ho:∀q,ok q->q<W.heap.size->w.heap.size<q:=λq hq _=>h.hok q hq;have g1:=gZ W (stO (W.heap.size+1)) none;exact⟨(h.par.alloc _).alloc _,RepL.two (ok:=λq=>w.heap.size<q) (by simp) (by show w.heap.size<_;omega) ((h.tp.mono ho).gb g1 (by simp)) ((h.tl.mono ho).gb g1 (by simp)) ((h.xp.mono ho).gb g1 (by simp)) ((h.xl.mono ho).gb g1 (by simp)),(Blk.new _ _ _).alloc _,Ac (Ac h.gr _) _,(h.zero.alloc _).alloc _,hz,h.lt⟩
def SetPre.C(h:SetPre b tv wv l wl w t x pa la pa2 la2 pc lc pc2 lc2 k ok W){kS:Nat}(hS:Blk W kS (stC 0 (.slice none 0 0)) 134)(h8:w.heap.size<kS)(hk:∀q,ok q->q≠kS):
 Iv b tv wv l wl w t x k kS W.heap.size ((set10 W kS (.int .i64 0) (str []) (str []) (.slice none 0 0) (.slice (some ⟨W.heap.size,0,none⟩) 2 2) (.slice none 0 0) (.int .i64 0) (.slice none 0 0) (.slice none 0 0) (.slice none 0 0)).alloc (rowO t x pa la pa2 la2 pc lc pc2 lc2)):=by
 have hs:=h.gr.size;have hz:=h.zero.lt;have hb:=h.lt;have g1:=DW W kS (.int .i64 0) (str []) (str []) (.slice none 0 0) (.slice (some ⟨W.heap.size,0,none⟩) 2 2) (.slice none 0 0) (.int .i64 0) (.slice none 0 0) (.slice none 0 0) (.slice none 0 0);have hsz:(set10 W kS (.int .i64 0) (str []) (str []) (.slice none 0 0) (.slice (some ⟨W.heap.size,0,none⟩) 2 2) (.slice none 0 0) (.int .i64 0) (.slice none 0 0) (.slice none 0 0) (.slice none 0 0)).heap.size=W.heap.size:=by simp[set10,set7]
 have ho:∀q,ok q->q<(set10 W kS (.int .i64 0) (str []) (str []) (.slice none 0 0) (.slice (some ⟨W.heap.size,0,none⟩) 2 2) (.slice none 0 0) (.int .i64 0) (.slice none 0 0) (.slice none 0 0) (.slice none 0 0)).heap.size->w.heap.size<q:=λq hq _=>h.hok q hq;have hn:∀q,ok q->q<W.heap.size->some q≠some kS:=λq hq _ e=>by cases e;exact hk _ hq rfl
 exact⟨(h.par.gb g1 (by intro q e;cases e;omega)).alloc _,RepL.two (ok:=λq=>w.heap.size<q) hsz.symm (by show w.heap.size<_;omega) ((h.tp.gb g1 hn).mono ho) ((h.tl.gb g1 hn).mono ho) ((h.xp.gb g1 hn).mono ho) ((h.xl.gb g1 hn).mono ho),(hS.set10 _ _ _ _ _ _ _ _ _ _).alloc _,Ac (Aq h.gr g1 (.inr (by omega))) _,(h.zero.gb g1 (by simp;omega)).alloc _,h8,h.lt⟩
end
end
def StV(ok:Nat->Prop)(w:World)(v:Value)(r:StB):Prop:=∃pa xa na fa wa ba,∃pc xc nc fc wc bc,
 v= .agg (sdC r.1 (.slice pa r.1.p.length pc) (.slice xa r.1.x.len xc) (.slice ba r.2.len bc) (.slice na r.1.n.len nc) (.slice fa r.1.f.len fc) (.slice wa r.1.w.len wc)).toArray/\
 SdRep ok w r.1 pa xa na fa wa pc xc nc fc wc/\RepV ok w true (.slice ba r.2.len bc) r.2
def RepV.nil(ok:Nat->Prop)(w:World)(k:Bool):RepV ok w k (.slice none 0 0) .nil:=⟨[],Cells.nil _ _ _,rfl⟩
def StV.x{xa:Option Addr}{xc:Nat}(h:RepL ok w (.slice xa f.len xc) f):
 StV ok w (.agg #[.int .i64 op,str s,str [],.slice none 0 0,.slice xa f.len xc,.slice none 0 0,.int .i64 0,.slice none 0 0,.slice none 0 0,.slice none 0 0]) ({sd0 op s with x:=f},.nil):=
 ⟨none,xa,none,none,none,none,0,xc,0,0,0,0,rfl,⟨Cells.nil _ _ _,h,RepL.nil _ _,RepL.nil _ _,RepL.nil _ _⟩,RepV.nil _ _ _⟩
def RepF.mono'(h:RepF ok w f cs)(hk:∀k,ok k->k<w.heap.size->ok' k):RepF ok' w f cs:=RepF.mono hk h
def RepT.mono(hk:∀k,ok k->k<w.heap.size->ok' k):∀{b:Bl}{k:Bool}{cs:List Value},RepT ok w b k cs->RepT ok' w b k cs:=by
 intro b;induction b with
 |nil=>intro k cs h;exact h
 | st h b n ih1 ih2=>
   intro k cs hr;cases k with
   |true=>exact hr
   | false=>
     obtain⟨pa,xa,na,fa,wa,ba,pc,xc,nc,fc,wc,bc,kcs,rest,e,h1,h2,h3,h4⟩:=hr;exact⟨pa,xa,na,fa,wa,ba,pc,xc,nc,fc,wc,bc,kcs,rest,e,⟨h1.p.mono hk,h1.x.mono hk,h1.n.mono hk,h1.f.mono hk,h1.w.mono hk⟩,h2.mono hk,ih1 h3,ih2 h4⟩
 | bl b n ih1 ih2=>
   intro k cs hr;cases k with
   |false=>exact hr
   | true=>
     obtain⟨ba,bc,kcs,rest,e,h2,h3,h4⟩:=hr;exact⟨ba,bc,kcs,rest,e,h2.mono hk,ih1 h3,ih2 h4⟩
def RepT.mono'{f:Bl}{k:Bool}(h:RepT ok w f k cs)(hk:∀k,ok k->k<w.heap.size->ok' k):RepT ok' w f k cs:=RepT.mono hk h
def RepV.mono'{k:Bool}{b:Bl}(h:RepV ok w k v b)(hk:∀k,ok k->k<w.heap.size->ok' k):RepV ok' w k v b:=by
 obtain⟨cs,h1,h2⟩:=h;exact⟨cs,h1.mono hk,RepT.mono hk h2⟩
def Bl.len_app(a c:Bl):(a.app c).len=a.len+c.len:=by
 induction a with
 |nil=>simp[Bl.app,Bl.len]
 |st h b n _ ih=>simp[Bl.app,Bl.len,ih];omega
 |bl b n _ ih=>simp[Bl.app,Bl.len,ih];omega
def RepT.app:∀{a c:Bl}{k:Bool}{cs ds:List Value},RepT ok w a k cs->RepT ok w c k ds->RepT ok w (a.app c) k (cs++ds):=by
 intro a;induction a with
 |nil=>intro c k cs ds h g;cases k<;>(have h:cs=[]:=h;subst h;exact g)
 | st h b n ih1 ih2=>
   intro c k cs ds hr g;cases k with
   |true=>exact hr.elim
   | false=>
     obtain⟨pa,xa,na,fa,wa,ba,pc,xc,nc,fc,wc,bc,kcs,rest,rfl,h1,h2,h3,h4⟩:=hr;exact⟨pa,xa,na,fa,wa,ba,pc,xc,nc,fc,wc,bc,kcs,rest++ds,by simp,h1,h2,h3,ih2 h4 g⟩
 | bl b n ih1 ih2=>
   intro c k cs ds hr g;cases k with
   |false=>exact hr.elim
   | true=>
     obtain⟨ba,bc,kcs,rest,rfl,h2,h3,h4⟩:=hr;exact⟨ba,bc,kcs,rest++ds,rfl,h2,h3,ih2 h4 g⟩
structure KS(b:Nat)(w:World)(L:Nat)(wr:World)(h:Sd)(g:Bl)(pv xv bv nv fv wv:Value):Prop where
 blk:Blk wr L (sdC h pv xv bv nv fv wv) 134
 p:Cells wr pv 1 h.p.length (h.p.map str) (but w L)
 x:RepL (but w L) wr xv h.x
 bb:RepV (but w L) wr true bv g
 n:RepL (but w L) wr nv h.n
 f:RepL (but w L) wr fv h.f
 wl:RepL (but w L) wr wv h.w
 gr:w.grownBy wr (some b)
 bw:b<w.heap.size
 wL:w.heap.size<L
 zero:Blk wr w.heap.size (stC 0 (.slice none 0 0)) 134
def KS.gb(k:KS b w L wr h g pv xv bv nv fv wv)(gr:wr.grownBy w1 (some b)):KS b w L w1 h g pv xv bv nv fv wv:=by
 have hbw:=k.bw;have hwL:=k.wL;have hne:∀q,but w L q->q<wr.heap.size->some q≠some b:=λq hq _ e=>by cases e;have:=hq.1;omega
 exact⟨k.blk.gb gr (by simp;omega),k.p.gb gr hne,k.x.gb gr hne,k.bb.gb gr hne,k.n.gb gr hne,k.f.gb gr hne,k.wl.gb gr hne,Z k.gr gr,hbw,hwL,k.zero.gb gr (by simp;omega)⟩
def KS.gbN(k:KS b w L wr h g pv xv bv nv fv wv)(gr:wr.grownBy w1 none):KS b w L w1 h g pv xv bv nv fv wv:=k.gb (Ao gr)
def KS.lt(k:KS b w L wr h g pv xv bv nv fv wv):L<wr.heap.size:=k.blk.lt
def KS.fresh(k:KS b w L wr h g pv xv bv nv fv wv)(q:Nat)(hq:wr.heap.size<=q):but w L q:=by
 have h1:=k.lt;have h2:=k.wL;exact⟨by omega,by omega⟩
def KS.start(hz:Blk wr w.heap.size (stC 0 (.slice none 0 0)) 134)(gr:w.grownBy wr (some b))(hb:b<w.heap.size)(hw:w.heap.size<wr.heap.size):
 KS b w wr.heap.size (wr.alloc (.cells #[.int .i64 o,str s,str [],.slice none 0 0,.slice none 0 0,.slice none 0 0,.int .i64 0,.slice none 0 0,.slice none 0 0,.slice none 0 0] 134 (0,0))) (sd0 o s) .nil (.slice none 0 0) (.slice none 0 0) (.slice none 0 0) (.slice none 0 0) (.slice none 0 0) (.slice none 0 0):=
 ⟨Blk.new _ _ _,Cells.nil _ _ _,RepL.nil _ _,RepV.nil _ _ _,RepL.nil _ _,RepL.nil _ _,RepL.nil _ _,Ac gr _,hb,hw,hz.alloc _⟩
def KS.put(k:KS b w L wr h g pv xv bv nv fv wv)(i:Nat)(v:Value)
 (e:(sdC h pv xv bv nv fv wv).set i v=sdC h' pv' xv' bv' nv' fv' wv')
 (p:Cells wr pv' 1 h'.p.length (h'.p.map str) (but w L)) (x:RepL (but w L) wr xv' h'.x) (bb:RepV (but w L) wr true bv' g') (n:RepL (but w L) wr nv' h'.n) (f:RepL (but w L) wr fv' h'.f) (w':RepL (but w L) wr wv' h'.w):
 KS b w L (wr.setCell ⟨L,i,none⟩ v) h' g' pv' xv' bv' nv' fv' wv':=by
 have hwL:=k.wL;have g1:=Ai (Aa wr (some L)) i v;have hne:∀q,but w L q->q<wr.heap.size->some q≠some L:=λq hq _ e=>by cases e;exact hq.2 rfl
 exact⟨(k.blk.set i v).of_eq rfl e,p.gb g1 hne,x.gb g1 hne,bb.gb g1 hne,n.gb g1 hne,f.gb g1 hne,w'.gb g1 hne,Aq k.gr g1 (.inr (by omega)),k.bw,hwL,k.zero.gb g1 (by simp;omega)⟩
def KS.putS(k:KS b w L wr h g pv xv bv nv fv wv)(s:Bs):KS b w L (wr.setCell ⟨L,1,none⟩ (str s)) {h with s:=s} g pv xv bv nv fv wv:=k.put 1 _ rfl k.p k.x k.bb k.n k.f k.wl
def KS.putT(k:KS b w L wr h g pv xv bv nv fv wv)(s:Bs):KS b w L (wr.setCell ⟨L,2,none⟩ (str s)) {h with t:=s} g pv xv bv nv fv wv:=k.put 2 _ rfl k.p k.x k.bb k.n k.f k.wl
def KS.putX(k:KS b w L wr h g pv xv bv nv fv wv){x:Fo}(hx:RepL (but w L) wr v x):KS b w L (wr.setCell ⟨L,4,none⟩ v) {h with x:=x} g pv v bv nv fv wv:=k.put 4 _ rfl k.p hx k.bb k.n k.f k.wl
def KS.putC(k:KS b w L wr h g pv xv bv nv fv wv){c:ScM}(hn:RepL (but w L) wr nv' c.n)(hf:RepL (but w L) wr fv' c.f)(hw:RepL (but w L) wr wv' c.w)(w2:World)
 (e2:w2=(((wr.setCell ⟨L,6,none⟩ (.int .i64 c.kind)).setCell ⟨L,7,none⟩ nv').setCell ⟨L,8,none⟩ fv').setCell ⟨L,9,none⟩ wv'):KS b w L w2 (Db h c) g pv xv bv nv' fv' wv':=by
 subst e2;have hwL:=k.wL;have hne:∀q,but w L q->q<wr.heap.size->some q≠some L:=λq hq _ e=>by cases e;exact hq.2 rfl
 have g1:=Ai (Ai (Ai (Ai (Aa wr (some L)) 6 (.int .i64 c.kind)) 7 nv') 8 fv') 9 wv';exact⟨((((k.blk.set 6 _).set 7 _).set 8 _).set 9 _).of_eq rfl rfl,k.p.gb g1 hne,k.x.gb g1 hne,k.bb.gb g1 hne,hn.gb g1 hne,hf.gb g1 hne,hw.gb g1 hne,Aq k.gr g1 (.inr (by omega)),k.bw,hwL,k.zero.gb g1 (by simp;omega)⟩
def KS.shapes(k:KS b w L wr h g pv xv bv nv fv wv):∃pa xa ba na fa wa,∃pc xc bc nc fc wc,pv= .slice pa h.p.length pc/\xv= .slice xa h.x.len xc/\bv= .slice ba g.len bc/\nv= .slice na h.n.len nc/\fv= .slice fa h.f.len fc/\wv= .slice wa h.w.len wc:=by
 obtain⟨pa,pc,e1,_⟩:=k.p;obtain⟨_,⟨xa,xc,e2,_⟩,_⟩:=k.x;obtain⟨_,⟨ba,bc,e3,_⟩,_⟩:=k.bb;obtain⟨_,⟨na,nc,e4,_⟩,_⟩:=k.n;obtain⟨_,⟨fa,fc,e5,_⟩,_⟩:=k.f;obtain⟨_,⟨wa,wc,e6,_⟩,_⟩:=k.wl;exact⟨pa,xa,ba,na,fa,wa,pc,xc,bc,nc,fc,wc,e1,e2,e3,e4,e5,e6⟩
def KS.out(k:KS b w L wr h g pv xv bv nv fv wv):
 w.grownBy (set10 wr w.heap.size (.int .i64 h.op) (str h.s) (str h.t) pv xv bv (.int .i64 h.kind) nv fv wv) (some b)/\
 wr.grownBy (set10 wr w.heap.size (.int .i64 h.op) (str h.s) (str h.t) pv xv bv (.int .i64 h.kind) nv fv wv) (some w.heap.size)/\
 Blk (set10 wr w.heap.size (.int .i64 h.op) (str h.s) (str h.t) pv xv bv (.int .i64 h.kind) nv fv wv) w.heap.size (sdC h pv xv bv nv fv wv) 134/\
 StV (An w.heap.size) (set10 wr w.heap.size (.int .i64 h.op) (str h.s) (str h.t) pv xv bv (.int .i64 h.kind) nv fv wv) (.agg (sdC h pv xv bv nv fv wv).toArray) (h,g):=by
 have hwL:=k.wL;have g1:=DW wr w.heap.size (.int .i64 h.op) (str h.s) (str h.t) pv xv bv (.int .i64 h.kind) nv fv wv;have hne:∀q,but w L q->q<wr.heap.size->some q≠some w.heap.size:=λq hq _ e=>by cases e;have:=hq.1;omega
 have hs:∀q,but w L q->q<(set10 wr w.heap.size (.int .i64 h.op) (str h.s) (str h.t) pv xv bv (.int .i64 h.kind) nv fv wv).heap.size->An w.heap.size q:=λq hq _=>by have:=hq.1;show w.heap.size<=q;omega
 refine⟨Aq k.gr g1 (.inr (nR _)),g1,k.zero.set10 _ _ _ _ _ _ _ _ _ _,?_⟩;have hp:=(k.p.gb g1 hne).mono hs;have hx:=(k.x.gb g1 hne).mono hs;have hb:=RepV.mono' (k.bb.gb g1 hne) hs;have hn:=(k.n.gb g1 hne).mono hs;have hf:=(k.f.gb g1 hne).mono hs;have hw:=(k.wl.gb g1 hne).mono hs;obtain⟨pa,pc,rfl,_⟩:=id hp;obtain⟨_,⟨xa,xc,rfl,_⟩,_⟩:=id hx;obtain⟨_,⟨ba,bc,rfl,_⟩,_⟩:=id hb;obtain⟨_,⟨na,nc,rfl,_⟩,_⟩:=id hn;obtain⟨_,⟨fa,fc,rfl,_⟩,_⟩:=id hf;obtain⟨_,⟨wa,wc,rfl,_⟩,_⟩:=id hw;exact⟨pa,xa,na,fa,wa,ba,pc,xc,nc,fc,wc,bc,rfl,⟨hp,hx,hn,hf,hw⟩,hb⟩
def KS.lay(k:KS b w L wr h g pv xv bv nv fv wv)(i:Nat)(v:Value)(ob:Obj)
 (e:(sdC h pv xv bv nv fv wv).set i v=sdC h' pv' xv' bv' nv fv wv) (en:h'.n=h.n) (ef:h'.f=h.f) (ew:h'.w=h.w)
 (p:Cells ((wr.setCell ⟨L,i,none⟩ v).alloc ob) pv' 1 h'.p.length (h'.p.map str) (but w L)) (x:RepL (but w L) ((wr.setCell ⟨L,i,none⟩ v).alloc ob) xv' h'.x) (bb:RepV (but w L) ((wr.setCell ⟨L,i,none⟩ v).alloc ob) true bv' g'):
 KS b w L ((wr.setCell ⟨L,i,none⟩ v).alloc ob) h' g' pv' xv' bv' nv fv wv:=by
 have hwL:=k.wL;have g1:=Ai (Aa wr (some L)) i v;have hne:∀q,but w L q->q<wr.heap.size->some q≠some L:=λq hq _ e=>by cases e;exact hq.2 rfl
 have g2:=gZ (wr.setCell ⟨L,i,none⟩ v) ob none;exact⟨((k.blk.set i v).of_eq rfl e).alloc _,p,x,bb,en ▸ (k.n.gb g1 hne).gb g2 (by simp),ef ▸ (k.f.gb g1 hne).gb g2 (by simp),ew ▸ (k.wl.gb g1 hne).gb g2 (by simp),Ac (Aq k.gr g1 (.inr (by omega))) _,k.bw,hwL,(k.zero.gb g1 (by simp;omega)).alloc _⟩
def KS.layX(k:KS b w L wr h g pv xv bv nv fv wv){m:Nat}(hl:f.len=m)(hm:m<=maxLen)(hr:RepF (but w L) wr f cs):
 KS b w L ((wr.setCell ⟨L,4,none⟩ (.slice (some ⟨wr.heap.size,0,none⟩) m m)).alloc (.cells cs.toArray 163 (0,0))) {h with x:=f} g pv (.slice (some ⟨wr.heap.size,0,none⟩) m m) bv nv fv wv:=by
 have hwL:=k.wL;have hlt:=k.lt;have g1:=Ai (Aa wr (some L)) 4 (.slice (some ⟨wr.heap.size,0,none⟩) m m);have hne:∀q,but w L q->q<wr.heap.size->some q≠some L:=λq hq _ e=>by cases e;exact hq.2 rfl
 have g2:=gZ (wr.setCell ⟨L,4,none⟩ (.slice (some ⟨wr.heap.size,0,none⟩) m m)) (.cells cs.toArray 163 (0,0)) none;subst hl;exact k.lay 4 _ _ rfl rfl rfl rfl ((k.p.gb g1 hne).gb g2 (by simp)) ⟨cs,Cells.new' (size:=7) (by simp) hr.len hm ⟨by omega,by omega⟩,(hr.gb g1 hne).gb g2 (by simp)⟩ ((k.bb.gb g1 hne).gb g2 (by simp))
def KS.layB(k:KS b w L wr h g pv xv bv nv fv wv){c:Bl}(hr:RepV (but w L) wr false (.slice ca c.len cc) c):
 KS b w L ((wr.setCell ⟨L,5,none⟩ (.slice (some ⟨wr.heap.size,0,none⟩) 1 1)).alloc (.cells #[.slice ca c.len cc] 38 (0,0))) h (.bl c .nil) pv xv (.slice (some ⟨wr.heap.size,0,none⟩) 1 1) nv fv wv:=by
 have hwL:=k.wL;have hlt:=k.lt;have g1:=Ai (Aa wr (some L)) 5 (.slice (some ⟨wr.heap.size,0,none⟩) 1 1);have hne:∀q,but w L q->q<wr.heap.size->some q≠some L:=λq hq _ e=>by cases e;exact hq.2 rfl
 have g2:=gZ (wr.setCell ⟨L,5,none⟩ (.slice (some ⟨wr.heap.size,0,none⟩) 1 1)) (.cells #[.slice ca c.len cc] 38 (0,0)) none;obtain⟨kcs,c1,c2⟩:=(hr.gb g1 hne).gb g2 (by simp);exact k.lay 5 _ _ rfl rfl rfl rfl ((k.p.gb g1 hne).gb g2 (by simp)) ((k.x.gb g1 hne).gb g2 (by simp)) ⟨[.slice ca c.len cc],Cells.new' (cs:=[.slice ca c.len cc]) (size:=1) (n:=1) (by simp) rfl (by decide) ⟨by omega,by omega⟩,ca,cc,kcs,[],rfl,c1,c2,rfl⟩
def KS.layP(k:KS b w L wr h g pv xv bv nv fv wv)(s:Bs):
 KS b w L ((wr.setCell ⟨L,3,none⟩ (.slice (some ⟨wr.heap.size,0,none⟩) 1 1)).alloc (.cells #[str s] 9 (0,0))) {h with p:=[s]} g (.slice (some ⟨wr.heap.size,0,none⟩) 1 1) xv bv nv fv wv:=by
 have hwL:=k.wL;have hlt:=k.lt;have g1:=Ai (Aa wr (some L)) 3 (.slice (some ⟨wr.heap.size,0,none⟩) 1 1);have hne:∀q,but w L q->q<wr.heap.size->some q≠some L:=λq hq _ e=>by cases e;exact hq.2 rfl
 have g2:=gZ (wr.setCell ⟨L,3,none⟩ (.slice (some ⟨wr.heap.size,0,none⟩) 1 1)) (.cells #[str s] 9 (0,0)) none;exact k.lay 3 _ _ rfl rfl rfl rfl (Cells.new' (cs:=[str s]) (size:=1) (n:=1) (by simp) rfl (by decide) ⟨by omega,by omega⟩) ((k.x.gb g1 hne).gb g2 (by simp)) ((k.bb.gb g1 hne).gb g2 (by simp))
abbrev fre(w:World)(L:Nat)(pv xv bv:Value):Nat->Prop:=λq=>w.heap.size<q/\q≠L/\pv.ownBlock≠some q/\xv.ownBlock≠some q/\bv.ownBlock≠some q
structure KA(b:Nat)(w:World)(L:Nat)(wr:World)(o:Int)(s t:Bs)(p:List Bs)(f:Fo)(g:Bl)(pv xv bv:Value):Prop where
 blk:Blk wr L [.int .i64 o,str s,str t,pv,xv,bv,.int .i64 0,.slice none 0 0,.slice none 0 0,.slice none 0 0] 134
 p:wr.ownsRow (w.heap.size+1) 9 1 pv p.length (p.map str)
 x:∃cs,wr.ownsRow (w.heap.size+1) 163 7 xv f.len cs/\RepF (fre w L pv xv bv) wr f cs
 bb:∃cs,wr.ownsRow (w.heap.size+1) 38 1 bv g.len cs/\RepT (fre w L pv xv bv) wr g true cs
 gr:w.grownBy wr (some b)
 bw:b<w.heap.size
 wL:w.heap.size<L
 zero:Blk wr w.heap.size (stC 0 (.slice none 0 0)) 134
def JS{B:Nat}(h:w.ownsRow B e size v n xs)(hk:v.ownBlock=some k):∃cur,w.heap[k]? =some (.cells cur e (0,0)):=by
 rcases h.2 with⟨rfl,rfl⟩| ⟨g,cap,cur,rfl,hb,hg,_⟩
 ·cases hk
 ·have:g=k:=by simpa[Value.ownBlock]using hk
  subst this;exact⟨cur,hg⟩
def EO{B B' e' size' n':Nat}{xs':List Value}(h:w.ownsRow B e size v n xs)(h':w.ownsRow B' e' size' v' n' xs')(hne:e≠e')(k:Nat)(hk:v.ownBlock=some k):v'.ownBlock≠some k:=by
 intro hk';obtain⟨c,h1⟩:=JS h hk;obtain⟨c',h2⟩:=JS h' hk';rw[h1]at h2;cases h2;exact hne rfl
def BI{B:Nat}(h:w.ownsRow B e size v n xs)(hL:Blk w L cs t)(hne:e≠t):v.ownBlock≠some L:=by
 intro hk;obtain⟨c,h1⟩:=JS h hk;have h2:w.heap[L]? =some (.cells cs.toArray t (0,0)):=hL;rw[h1]at h2;cases h2;exact hne rfl
section
variable {t:Bs}
def KA.lt(k:KA b w L wr o s t p f g pv xv bv):L<wr.heap.size:=k.blk.lt
def KA.gb(k:KA b w L wr o s t p f g pv xv bv)(gr:wr.grownBy w1 (some b)):KA b w L w1 o s t p f g pv xv bv:=by
 have hbw:=k.bw;have hwL:=k.wL;obtain⟨cs,h1,h2⟩:=k.x;obtain⟨ds,h3,h4⟩:=k.bb;have hn:∀q,w.heap.size+1<=q->q<wr.heap.size->some q≠some b:=λq hq _ e=>by cases e;omega
 have hne:∀q,fre w L pv xv bv q->q<wr.heap.size->some q≠some b:=λq hq _ e=>by cases e;have:=hq.1;omega
 exact⟨k.blk.gb gr (by simp;omega),Cs k.p gr hn,⟨cs,Cs h1 gr hn,h2.gb gr hne⟩,⟨ds,Cs h3 gr hn,h4.gb gr hne⟩,Z k.gr gr,hbw,hwL,k.zero.gb gr (by simp;omega)⟩
def KA.gbN(k:KA b w L wr o s t p f g pv xv bv)(gr:wr.grownBy w1 none):KA b w L w1 o s t p f g pv xv bv:=k.gb (Ao gr)
def KA.alloc(k:KA b w L wr o s t p f g pv xv bv)(ob:Obj):KA b w L (wr.alloc ob) o s t p f g pv xv bv:=k.gbN (gZ _ _ _)
def KA.start(hz:Blk wr w.heap.size (stC 0 (.slice none 0 0)) 134)(gr:w.grownBy wr (some b))(hb:b<w.heap.size)(hw:w.heap.size<wr.heap.size)(o:Int)(s:Bs):
 KA b w wr.heap.size (wr.alloc (.cells #[.int .i64 o,str s,str [],.slice none 0 0,.slice none 0 0,.slice none 0 0,.int .i64 0,.slice none 0 0,.slice none 0 0,.slice none 0 0] 134 (0,0))) o s [] [] .nil .nil (.slice none 0 0) (.slice none 0 0) (.slice none 0 0):=
 ⟨Blk.new _ _ _,World.ownsRow_nil _ _ _ _,⟨[],World.ownsRow_nil _ _ _ _,rfl⟩,⟨[],World.ownsRow_nil _ _ _ _,rfl⟩,Ac gr _,hb,hw,hz.alloc _⟩
def KA.fresh(k:KA b w L wr o s t p f g pv xv bv)(q:Nat)(hq:wr.heap.size<=q):fre w L pv xv bv q:=by
 have h1:=k.lt;have h2:=k.wL;obtain⟨cs,hx,_⟩:=k.x;obtain⟨ds,hb,_⟩:=k.bb;exact⟨by omega,by omega,λe=>by have:=(k.p.lt q e).2;omega,λe=>by have:=(hx.lt q e).2;omega,λe=>by have:=(hb.lt q e).2;omega⟩
def KA.toKS(k:KA b w L wr o s t p f g pv xv bv):KS b w L wr ⟨o,s,t,p,f,0,.nil,.nil,.nil⟩ g pv xv bv (.slice none 0 0) (.slice none 0 0) (.slice none 0 0):=by
 obtain⟨cs,hx,hx2⟩:=k.x;obtain⟨ds,hb,hb2⟩:=k.bb;have hfr:∀q,fre w L pv xv bv q->q<wr.heap.size->but w L q:=λq hq _=>⟨hq.1,hq.2.1⟩;have ow:∀{e size n:Nat}{v:Value}{xs:List Value},wr.ownsRow (w.heap.size+1) e size v n xs->e≠134->Cells wr v size n xs (but w L):=by
  intro e size n v xs h hne;have h1:=BI h k.blk hne;obtain⟨a,cap,e1,c1,c2,c3,c4⟩:=C0 h;refine⟨a,cap,e1,c1,c2,c3,λj u hj=>?_⟩;obtain⟨gg,oo,ea,ho,hc⟩:=c4 j u hj;refine⟨gg,oo,ea,⟨by have:w.heap.size+1<=gg:=ho;omega,λe2=>h1 ?_⟩,hc⟩;subst e1 ea e2;rfl
 exact⟨k.blk,ow k.p (by decide),⟨cs,ow hx (by decide),hx2.mono hfr⟩,⟨ds,ow hb (by decide),hb2.mono hfr⟩,RepL.nil _ _,RepL.nil _ _,RepL.nil _ _,k.gr,k.bw,k.wL,k.zero⟩
def KA.putS(k:KA b w L wr o s t p f g pv xv bv)(s':Bs):KA b w L (wr.setCell ⟨L,1,none⟩ (str s')) o s' t p f g pv xv bv:=by
 have hwL:=k.wL;have g1:=Ai (Aa wr (some L)) 1 (str s');obtain⟨cs,h1,h2⟩:=k.x;obtain⟨ds,h3,h4⟩:=k.bb;have keep:∀{e size n:Nat}{v:Value}{xs:List Value},wr.ownsRow (w.heap.size+1) e size v n xs->e≠134->(wr.setCell ⟨L,1,none⟩ (str s')).ownsRow (w.heap.size+1) e size v n xs:=by
  intro e size n v xs h hne;have h1:=BI h k.blk hne;refine h.kept g1 ?_;cases hv:v.ownBlock with
  |none=>exact .inl rfl
  |some q=>exact .inr λe=>by cases e;exact h1 hv
 have hne2:∀q,fre w L pv xv bv q->q<wr.heap.size->some q≠some L:=λq hq _ e=>by cases e;exact hq.2.1 rfl
 exact⟨(k.blk.set 1 _).of_eq rfl rfl,keep k.p (by decide),⟨cs,keep h1 (by decide),h2.gb g1 hne2⟩,⟨ds,keep h3 (by decide),h4.gb g1 hne2⟩,Aq k.gr g1 (.inr (by omega)),k.bw,hwL,k.zero.gb g1 (by simp;omega)⟩
def EM{r o:Option Nat}(h:w.grownBy wr r)(g:wr.grownBy w1 o)(ho:∀k,o=some k->w.heap.size<=k):w.grownBy w1 r:=by
 cases o with
 |none=>exact Ag h g
 |some k=>exact Aq h g (.inr (ho k rfl))
def KA.belowP(k:KA b w L wr o s t p f g pv xv bv)(q:Nat)(h:pv.ownBlock=some q):b<q/\w.heap.size<q:=by
 have:=(k.p.lt q h).1;have:=k.bw;exact⟨by omega,by omega⟩
def KA.belowX(k:KA b w L wr o s t p f g pv xv bv)(q:Nat)(h:xv.ownBlock=some q):b<q/\w.heap.size<q:=by
 obtain⟨cs,h1,_⟩:=k.x;have:=(h1.lt q h).1;have:=k.bw;exact⟨by omega,by omega⟩
def KA.belowB(k:KA b w L wr o s t p f g pv xv bv)(q:Nat)(h:bv.ownBlock=some q):b<q/\w.heap.size<q:=by
 obtain⟨cs,h1,_⟩:=k.bb;have:=(h1.lt q h).1;have:=k.bw;exact⟨by omega,by omega⟩
def KA.addX(k:KA b w L wr o s t p f g pv xv bv)(hx:wr.ownsRow (w.heap.size+1) 163 7 xv f.len cs)(hr:RepF (fre w L pv xv bv) wr f cs)
 {x:Ex}    (rp:Cells wr (.slice pa x.h.p.length pc) 1 x.h.p.length (x.h.p.map str) okx) (rl:RepL okx wr (.slice la x.kids.len lc) x.kids) (hok:∀q,okx q->fre w L pv xv bv q)
  (ho:w1.ownsRow (w.heap.size+1) 163 7 v' (f.len+1) (cs++hdC x.h (.slice pa x.h.p.length pc) (.slice la x.kids.len lc))) (hg:wr.grownBy w1 xv.ownBlock) (hnew:∀q,v'.ownBlock=some q->xv.ownBlock=some q\/wr.heap.size<=q):
 KA b w L (w1.setCell ⟨L,4,none⟩ v') o s t p (f.snoc x) g pv v' bv:=by
 have hwL:=k.wL;have hLt:=k.lt;have hbw:=k.bw;obtain⟨ds,h3,h4⟩:=k.bb;have nL:=BI hx k.blk (by decide);have nP:=EO k.p hx (by decide);have nB:=EO h3 hx (by decide);have nLp:=BI k.p k.blk (by decide);have nLb:=BI h3 k.blk (by decide);have nZ:xv.ownBlock≠some w.heap.size:=λe=>by have:=(k.belowX _ e).2;omega
 have nL':v'.ownBlock≠some L:=λe=>by(rcases hnew _ e with h|h;exact nL h;omega)
 have g1:=Ai (Aa w1 (some L)) 4 v';have hs:=hg.size;have hfre:∀q,fre w L pv xv bv q->q<wr.heap.size->fre w L pv v' bv q/\xv.ownBlock≠some q:=λq hq hlt=>⟨⟨hq.1,hq.2.1,hq.2.2.1,λe=>by(rcases hnew _ e with h|h;exact hq.2.2.2.1 h;omega),hq.2.2.2.2⟩,hq.2.2.2.1⟩;have hne:∀q,(fre w L pv v' bv q/\xv.ownBlock≠some q)->q<wr.heap.size->some q≠xv.ownBlock:=λq hq _ e=>hq.2 e.symm;have hne2:∀q,(fre w L pv v' bv q/\xv.ownBlock≠some q)->q<w1.heap.size->some q≠some L:=λq hq _ e=>by cases e;exact hq.1.2.1 rfl
 have keep:∀{e size n:Nat}{v:Value}{xs:List Value},wr.ownsRow (w.heap.size+1) e size v n xs->(∀q,v.ownBlock=some q->xv.ownBlock≠some q)->v.ownBlock≠some L->(w1.setCell ⟨L,4,none⟩ v').ownsRow (w.heap.size+1) e size v n xs:=by
  intro e size n v xs h a1 a2;refine(h.kept hg ?_).kept g1 ?_
  ·cases hv:v.ownBlock with
   |none=>exact .inl rfl
   |some q=>exact .inr λe=>a1 q hv e.symm
  ·cases hv:v.ownBlock with
   |none=>exact .inl rfl
   |some q=>exact .inr λe=>by cases e;exact a2 hv
 refine⟨((k.blk.gb hg (λe=>nL e.symm)).set 4 v').of_eq rfl rfl,keep k.p nP nLp,⟨cs++hdC x.h (.slice pa x.h.p.length pc) (.slice la x.kids.len lc),?_,?_⟩,⟨ds,keep h3 nB nLb,?_⟩,Aq (EM k.gr hg λq hq=>by have:=(k.belowX q hq).2;omega) g1 (.inr (by omega)),hbw,hwL,(k.zero.gb hg (λe=>nZ e.symm)).gb g1 (by simp;omega)⟩
 ·rw[Fo.len_snoc];refine ho.kept g1 ?_;cases hv:v'.ownBlock with
  |none=>exact .inl rfl
  |some q=>exact .inr λe=>by cases e;exact nL' hv
 ·have h1:RepF (fre w L pv xv bv) wr (f.snoc x) _:=hr.app (VE.rep (rp.mono λq hq _=>hok q hq) (rl.mono λq hq _=>hok q hq));exact(((h1.mono' hfre).gb hg hne).gb g1 hne2).mono' λq hq _=>hq.1
 ·exact(((RepT.mono hfre h4).gb hg hne).gb g1 hne2).mono' λq hq _=>hq.1
def KA.addP(k:KA b w L wr o s t p f g pv xv bv)
  (ho:w1.ownsRow (w.heap.size+1) 9 1 v' (p.length+1) (p.map str++[str y])) (hg:wr.grownBy w1 pv.ownBlock) (hnew:∀q,v'.ownBlock=some q->pv.ownBlock=some q\/wr.heap.size<=q):
 KA b w L (w1.setCell ⟨L,3,none⟩ v') o s t (p++[y]) f g v' xv bv:=by
 have hwL:=k.wL;have hLt:=k.lt;have hbw:=k.bw;obtain⟨cs,hx,hr⟩:=k.x;obtain⟨ds,h3,h4⟩:=k.bb;have nL:=BI k.p k.blk (by decide);have nX:=EO hx k.p (by decide);have nB:=EO h3 k.p (by decide);have nLx:=BI hx k.blk (by decide);have nLb:=BI h3 k.blk (by decide);have nZ:pv.ownBlock≠some w.heap.size:=λe=>by have:=(k.belowP _ e).2;omega
 have nL':v'.ownBlock≠some L:=λe=>by(rcases hnew _ e with h|h;exact nL h;omega)
 have g1:=Ai (Aa w1 (some L)) 3 v';have hs:=hg.size;have hfre:∀q,fre w L pv xv bv q->q<wr.heap.size->fre w L v' xv bv q/\pv.ownBlock≠some q:=λq hq hlt=>⟨⟨hq.1,hq.2.1,λe=>by(rcases hnew _ e with h|h;exact hq.2.2.1 h;omega),hq.2.2.2⟩,hq.2.2.1⟩;have hne:∀q,(fre w L v' xv bv q/\pv.ownBlock≠some q)->q<wr.heap.size->some q≠pv.ownBlock:=λq hq _ e=>hq.2 e.symm;have hne2:∀q,(fre w L v' xv bv q/\pv.ownBlock≠some q)->q<w1.heap.size->some q≠some L:=λq hq _ e=>by cases e;exact hq.1.2.1 rfl
 have keep:∀{e size n:Nat}{v:Value}{xs:List Value},wr.ownsRow (w.heap.size+1) e size v n xs->(∀q,v.ownBlock=some q->pv.ownBlock≠some q)->v.ownBlock≠some L->(w1.setCell ⟨L,3,none⟩ v').ownsRow (w.heap.size+1) e size v n xs:=by
  intro e size n v xs h a1 a2;refine(h.kept hg ?_).kept g1 ?_
  ·cases hv:v.ownBlock with
   |none=>exact .inl rfl
   |some q=>exact .inr λe=>a1 q hv e.symm
  ·cases hv:v.ownBlock with
   |none=>exact .inl rfl
   |some q=>exact .inr λe=>by cases e;exact a2 hv
 refine⟨((k.blk.gb hg (λe=>nL e.symm)).set 3 v').of_eq rfl rfl,?_,⟨cs,keep hx nX nLx,?_⟩,⟨ds,keep h3 nB nLb,?_⟩,Aq (EM k.gr hg λq hq=>by have:=(k.belowP q hq).2;omega) g1 (.inr (by omega)),hbw,hwL,(k.zero.gb hg (λe=>nZ e.symm)).gb g1 (by simp;omega)⟩
 ·rw[lA,List.map_append];refine World.ownsRow.kept ho g1 ?_;cases hv:v'.ownBlock with
  |none=>exact .inl rfl
  |some q=>exact .inr λe=>by cases e;exact nL' hv
 ·exact(((hr.mono' hfre).gb hg hne).gb g1 hne2).mono' λq hq _=>hq.1
 ·exact(((RepT.mono hfre h4).gb hg hne).gb g1 hne2).mono' λq hq _=>hq.1
def KA.addB(k:KA b w L wr o s t p f g pv xv bv)(hx:wr.ownsRow (w.heap.size+1) 38 1 bv g.len ds)(hr:RepT (fre w L pv xv bv) wr g true ds)
 {c:Bl}    (rc:RepV okx wr false (.slice ca c.len cc) c) (hok:∀q,okx q->fre w L pv xv bv q)
  (ho:w1.ownsRow (w.heap.size+1) 38 1 v' (g.len+1) (ds++[.slice ca c.len cc])) (hg:wr.grownBy w1 bv.ownBlock) (hnew:∀q,v'.ownBlock=some q->bv.ownBlock=some q\/wr.heap.size<=q):
 KA b w L (w1.setCell ⟨L,5,none⟩ v') o s t p f (g.app (.bl c .nil)) pv xv v':=by
 have hwL:=k.wL;have hLt:=k.lt;have hbw:=k.bw;obtain⟨cs,h3,h4⟩:=k.x;have nL:=BI hx k.blk (by decide);have nP:=EO k.p hx (by decide);have nX:=EO h3 hx (by decide);have nLp:=BI k.p k.blk (by decide);have nLx:=BI h3 k.blk (by decide);have nZ:bv.ownBlock≠some w.heap.size:=λe=>by have:=(k.belowB _ e).2;omega
 have nL':v'.ownBlock≠some L:=λe=>by(rcases hnew _ e with h|h;exact nL h;omega)
 have g1:=Ai (Aa w1 (some L)) 5 v';have hs:=hg.size;have hfre:∀q,fre w L pv xv bv q->q<wr.heap.size->fre w L pv xv v' q/\bv.ownBlock≠some q:=λq hq hlt=>⟨⟨hq.1,hq.2.1,hq.2.2.1,hq.2.2.2.1,λe=>by(rcases hnew _ e with h|h;exact hq.2.2.2.2 h;omega)⟩,hq.2.2.2.2⟩;have hne:∀q,(fre w L pv xv v' q/\bv.ownBlock≠some q)->q<wr.heap.size->some q≠bv.ownBlock:=λq hq _ e=>hq.2 e.symm;have hne2:∀q,(fre w L pv xv v' q/\bv.ownBlock≠some q)->q<w1.heap.size->some q≠some L:=λq hq _ e=>by cases e;exact hq.1.2.1 rfl
 have keep:∀{e size n:Nat}{v:Value}{xs:List Value},wr.ownsRow (w.heap.size+1) e size v n xs->(∀q,v.ownBlock=some q->bv.ownBlock≠some q)->v.ownBlock≠some L->(w1.setCell ⟨L,5,none⟩ v').ownsRow (w.heap.size+1) e size v n xs:=by
  intro e size n v xs h a1 a2;refine(h.kept hg ?_).kept g1 ?_
  ·cases hv:v.ownBlock with
   |none=>exact .inl rfl
   |some q=>exact .inr λe=>a1 q hv e.symm
  ·cases hv:v.ownBlock with
   |none=>exact .inl rfl
   |some q=>exact .inr λe=>by cases e;exact a2 hv
 refine⟨((k.blk.gb hg (λe=>nL e.symm)).set 5 v').of_eq rfl rfl,keep k.p nP nLp,⟨cs,keep h3 nX nLx,?_⟩,⟨ds++[.slice ca c.len cc],?_,?_⟩,Aq (EM k.gr hg λq hq=>by have:=(k.belowB q hq).2;omega) g1 (.inr (by omega)),hbw,hwL,(k.zero.gb hg (λe=>nZ e.symm)).gb g1 (by simp;omega)⟩
 ·exact(((h4.mono' hfre).gb hg hne).gb g1 hne2).mono' λq hq _=>hq.1
 ·rw[Bl.len_app];refine World.ownsRow.kept ho g1 ?_;cases hv:v'.ownBlock with
  |none=>exact .inl rfl
  |some q=>exact .inr λe=>by cases e;exact nL' hv
 ·obtain⟨kcs,c1,c2⟩:=rc;have h1:RepT (fre w L pv xv bv) wr (g.app (.bl c .nil)) true (ds++[.slice ca c.len cc]):=hr.app ⟨ca,cc,kcs,[],rfl,c1.mono λq hq _=>hok q hq,RepT.mono (λq hq _=>hok q hq) c2,rfl⟩;exact(((RepT.mono hfre h1).gb hg hne).gb g1 hne2).mono' λq hq _=>hq.1
end
namespace Rd
variable {q:α->Rd l β}{r:β×RS}
end Rd
abbrev VBl(w:World):World->Value->Bl->Prop:=λw' v x=>RepV (An w.heap.size) w' false v x
abbrev VSt(w:World):World->Value->StB->Prop:=λw' v x=>StV (An w.heap.size) w' v x
section
variable {t:Bs}
def FR(hat:v.ownBlock=some k\/k=H)(h:(Value.slice (some ⟨k,0,none⟩) n c).ownBlock=some q):v.ownBlock=some q\/H<=q:=by
 have e:k=q:=by simpa[Value.ownBlock]using h
 subst e;rcases hat with h|h
 ·exact .inl h
 ·exact .inr (Nat.le_of_eq h.symm)
def KA.addX'(k:KA b w L wr o s t p f g pv xv bv)(hx:wr.ownsRow (w.heap.size+1) 163 7 xv f.len cs)(hr:RepF (fre w L pv xv bv) wr f cs)
 {x:Ex}    (rp:Cells wr (.slice pa x.h.p.length pc) 1 x.h.p.length (x.h.p.map str) okx) (rl:RepL okx wr (.slice la x.kids.len lc) x.kids) (hok:∀q,okx q->fre w L pv xv bv q)
  (ho:w1.ownsRow (w.heap.size+1) 163 7 (.slice (some ⟨j,0,none⟩) (f.len+1) c) (f.len+1) (cs++hdC x.h (.slice pa x.h.p.length pc) (.slice la x.kids.len lc))) (hg:wr.grownBy w1 xv.ownBlock) (hat:xv.ownBlock=some j\/j=wr.heap.size):
 KA b w L (w1.setCell ⟨L,4,none⟩ (.slice (some ⟨j,0,none⟩) (f.len+1) c)) o s t p (f.snoc x) g pv (.slice (some ⟨j,0,none⟩) (f.len+1) c) bv:=
 k.addX hx hr rp rl hok ho hg (λq hq=>FR hat hq)
def KA.addP'(k:KA b w L wr o s t p f g pv xv bv)
  (ho:w1.ownsRow (w.heap.size+1) 9 1 (.slice (some ⟨j,0,none⟩) (p.length+1) c) (p.length+1) (p.map str++[str y])) (hg:wr.grownBy w1 pv.ownBlock) (hat:pv.ownBlock=some j\/j=wr.heap.size):
 KA b w L (w1.setCell ⟨L,3,none⟩ (.slice (some ⟨j,0,none⟩) (p.length+1) c)) o s t (p++[y]) f g (.slice (some ⟨j,0,none⟩) (p.length+1) c) xv bv:=
 k.addP ho hg (λq hq=>FR hat hq)
def KA.addB'(k:KA b w L wr o s t p f g pv xv bv)(hx:wr.ownsRow (w.heap.size+1) 38 1 bv g.len ds)(hr:RepT (fre w L pv xv bv) wr g true ds)
 {c:Bl}    (rc:RepV okx wr false (.slice ca c.len cc) c) (hok:∀q,okx q->fre w L pv xv bv q)
  (ho:w1.ownsRow (w.heap.size+1) 38 1 (.slice (some ⟨j,0,none⟩) (g.len+1) n) (g.len+1) (ds++[.slice ca c.len cc])) (hg:wr.grownBy w1 bv.ownBlock) (hat:bv.ownBlock=some j\/j=wr.heap.size):
 KA b w L (w1.setCell ⟨L,5,none⟩ (.slice (some ⟨j,0,none⟩) (g.len+1) n)) o s t p f (g.app (.bl c .nil)) pv xv (.slice (some ⟨j,0,none⟩) (g.len+1) n):=
 k.addB hx hr rc hok ho hg (λq hq=>FR hat hq)
def KA.bL(k:KA b w L wr o s t p f g pv xv bv):b<L:=by have:=k.bw;have:=k.wL;omega
def KA.neX(k:KA b w L wr o s t p f g pv xv bv):some L≠xv.ownBlock:=by
 obtain⟨cs,h,_⟩:=k.x;exactλe=>BI h k.blk (by decide) e.symm
def KA.neP(k:KA b w L wr o s t p f g pv xv bv):some L≠pv.ownBlock:=λe=>BI k.p k.blk (by decide) e.symm
def KA.neB(k:KA b w L wr o s t p f g pv xv bv):some L≠bv.ownBlock:=by
 obtain⟨cs,h,_⟩:=k.bb;exactλe=>BI h k.blk (by decide) e.symm
def EV(w:World)(v:Value)(t:TypeId):∀j u,[v][j]? =some u->(w.alloc (.cells #[v] t (0,0))).cell? ((⟨w.heap.size,0,none⟩:Addr).add j)=some u:=AP w [v] t
end
def RepT.monoE(hk:∀k,ok k->k<w.heap.size->ok' k):∀{b:Bl}{k:Bool}{cs:List Value},RepT ok w b k cs->RepT ok' w b k cs:=by
 intro b;induction b with
 |nil=>intro k cs h;exact h
 | st h b n ih1 ih2=>
   intro k cs hr;cases k with
   |true=>exact hr
   | false=>
     obtain⟨pa,xa,na,fa,wa,ba,pc,xc,nc,fc,wc,bc,kcs,rest,e,h1,h2,h3,h4⟩:=hr;exact⟨pa,xa,na,fa,wa,ba,pc,xc,nc,fc,wc,bc,kcs,rest,e,⟨h1.p.mono hk,h1.x.mono hk,h1.n.mono hk,h1.f.mono hk,h1.w.mono hk⟩,h2.mono hk,ih1 h3,ih2 h4⟩
 | bl b n ih1 ih2=>
   intro k cs hr;cases k with
   |false=>exact hr
   | true=>
     obtain⟨ba,bc,kcs,rest,e,h2,h3,h4⟩:=hr;exact⟨ba,bc,kcs,rest,e,h2.mono hk,ih1 h3,ih2 h4⟩
structure WdOk(d:Wd)(day:Bs->Int):Prop where
 nums:∀n:Int,0<=n->n<=999999999999999->(d.num n).length<=15/\AA (d.num n)=n
 days:∀n:Int,0<n->n<=3652059->day (d.day n)=n
 zero:day []=0
def Zg{k:Fo}(h:k.len=0):k= .nil:=by
 cases k with
 |nil=>rfl
 |cons a b c=>simp[Fo.len]at h
def Hp{k:Fo}(h:k.len=1):∃a b,k= .cons a b .nil:=by
 cases k with
 |nil=>simp[Fo.len]at h
 |cons a b c=>exact⟨a,b,by rw[Zg (k:=c) (by simpa[Fo.len]using h)]⟩
def Ou{k:Fo}(h:k.len=2):∃a b a' b',k= .cons a b (.cons a' b' .nil):=by
 cases k with
 |nil=>simp[Fo.len]at h
 | cons a b c=>
   obtain⟨a',b',rfl⟩:=Hp (k:=c) (by simpa[Fo.len]using h);exact⟨a,b,a',b',rfl⟩
section
variable {d:Wd}{N:Nat}
end
def okX(x:Ex):Bool:=BZ x.h x.kids.len&&okF x.kids
def A5(x:Int):Prop:= -9223372036854775808<=x/\x<=9223372036854775807
def CQ(c:Cd):Prop:=A5 c.op/\A5 c.a/\A5 c.b
def Dn(u:Un):Prop:=(∀x∈u.row,A5 x)/\∀c∈u.code,CQ c
def WideUs(us:List Un):Prop:=∀u∈us,Dn u
def IC{l:List α}{x:α}(h:l[k]? =some x):x∈l:=List.mem_of_getElem? h
def F6{x:Int}(h:A5 x):(Lib.itoa x).length<=21:=Lib.itoa_length_le x h.1 h.2
def KU{f:α->Bs}{g:α->Nat}{l:List α}(hf:∀x∈l,(f x).length<=30*g x)(k:Nat):(Bv f l k).length<=30*pfx g l k:=by
 induction k with
 |zero=>simp[Bv,pfx]
 | succ k ih=>
   rw[Bv,lA,pfx,Nat.mul_add];cases h:l[k]? with
   |none=>simpa using ih
   |some x=>have:=hf x (IC h);simp only;omega
def MO{c:Cd}(h:CQ c):(AO c).length<=30*wtC c:=by
 have h1:=F6 h.1;have h2:=F6 h.2.1;have h3:=F6 h.2.2;have h4:=Js c.s;simp only[AO,wtC,lA,List.length_cons,List.length_nil];omega
def Jg(h:Dn u)(j:Nat)(hj:j<=u.row.length):(Bv A3 u.row j).length<=30*u.row.length:=by
 have h1:=KU (f:=A3) (g:=λ_=>1) (l:=u.row) (λx hx=>by have:=F6 (h.1 x hx);simp[A3];omega) j;have h2:pfx (λ_:Int=>1) u.row j<=pfx (λ_=>1) u.row u.row.length:=E5 _ _ hj;have h3:∀k,k<=u.row.length->pfx (λ_:Int=>1) u.row k=k:=by
  intro k;induction k with
  |zero=>intro _;rfl
  |succ k ih=>intro hk;rw[DC (B4 (show k<u.row.length by omega)),ih (by omega)]
 rw[h3 _ (nR _)]at h2;omega
def MQ(h:Dn u)(j:Nat)(hj:j<=u.code.length):(Bv AO u.code j).length<=30*pfx wtC u.code u.code.length:=by
 have h1:=KU (f:=AO) (g:=wtC) (l:=u.code) (λx hx=>MO (h.2 x hx)) j;have h2:=E5 wtC u.code hj;omega
def Ja(u:Un):(CR u).length<=3*u.name.length+7:=by
 have:=Js u.name;simp only[CR,lA,List.length_cons,List.length_nil];omega
def Wt(h:Dn u):(BM u).length<=30*(wtU u+1):=by
 have h1:=Jg h u.row.length (nR _);have h2:=MQ h u.code.length (nR _);have h3:=Ja u;have h4:wtU u=u.name.length+u.row.length+pfx wtC u.code u.code.length:=rfl;simp only[BM,lA,List.length_cons,List.length_nil];omega
def WN(f:α->Nat)(l:List α)(k:Nat)(hk:k<=l.length):pfx (λx=>f x+1) l k=pfx f l k+k:=by
 induction k with
 |zero=>rfl
 |succ k ih=>rw[DC (B4 hk),DC (B4 hk),ih (by omega)];omega
def RD(h:WideUs us)(k:Nat)(hk:k<=us.length):(Bv BM us k).length<=30*Bq us:=by
 have h1:=KU (f:=BM) (g:=λu=>wtU u+1) (l:=us) (λu hu=>Wt (h u hu)) k;have h2:=E5 (λu=>wtU u+1) us hk;rw[WN wtU us us.length (nR _)]at h2;unfold Bq;omega
def ZG(h:us[k]? =some u):wtU u<=Bq us:=by
 have hk:=(List.getElem?_eq_some_iff.1 h).1;have h1:=E5 wtU us (show k+1<=us.length from hk);rw[DC h]at h1;unfold Bq;omega
def ZF{c:Cd}(h:u.code[k]? =some c):wtC c<=wtU u:=by
 have hk:=(List.getElem?_eq_some_iff.1 h).1;have h1:=E5 wtC u.code (show k+1<=u.code.length from hk);rw[DC h]at h1;unfold wtU;omega
section
variable {p:Value}{l:Bs}
def TN(h:Bld w b p v l):
 Calls Tryz.prog 48 #[.pointer (some ⟨b,0,none⟩)] w λe w'=>e= .returned (str l)/\∀w0:World,w0.grownBy w none->w0.heap.size<=b->w0.grownBy w' none:=by
 have hb:Lib.IsBuilder 86 5 b b (Lib.byteCells l) w:=by
  have hr:w.ownsRow b 5 1 v (Lib.byteCells l).length (Lib.byteCells l):=by
   have e:Lib.byteCells l=AQ l:=rfl;rw[e,NT];obtain⟨h1,h2⟩:=h.row;refine⟨h1,?_⟩;rcases h2 with h2| ⟨g,cap,cur,e1,hbg,hrest⟩
   ·exact .inl h2
   ·exact .inr ⟨g,cap,cur,e1,by omega,hrest⟩
  have hne:v.ownBlock≠some b:=λe=>by have:=(h.own b e).1;omega
  rcases h.par with e|e
  ·exact .inl ⟨nR _,v,by rw[<-e];exact h.blk,hr,hne⟩
  ·exact .inr ⟨nR _,v,by rw[<-e];exact h.blk,hr,hne⟩
 refine(Builder_String_any b b l w hb (Nat.le_of_lt h.lt)).mono ?_;rintro e w' ⟨rfl,k⟩;exact⟨rfl,λw0 g hb=>⟨k.os.trans g.os,k.tape.trans g.tape,k.output.trans g.output,nT g.size k.size,λi hi hn=>(k.block i (by omega)).trans (g.block i hi hn)⟩⟩
def Bld.ne_blk(h:Bld w b p v l)(hH:Blk w H cs t)(ht:t≠5):v.ownBlock≠some H:=by
 intro e;rcases h.row.2 with⟨rfl,_⟩| ⟨g,cap,cur,rfl,_,hg,_⟩
 ·simp[Value.ownBlock]at e
 ·simp only[Value.ownBlock,Option.some.injEq]at e;subst e;have hH':w.heap[g]? =some (.cells cs.toArray t (0,0)):=hH;rw[hg]at hH';simp only[Option.some.injEq,Obj.cells.injEq]at hH';exact ht hH'.2.1.symm
def Bld.stepB(h:Bld w b p v l)(f:FRb w w1 b v)(hX:Blk w H cs t)(ht:t≠5)(hb:H≠b)(g:w0.grownBy w none)(h0:w0.heap.size<=b):Blk w1 H cs t/\w0.grownBy w1 none:=
 ⟨(f.block H hX.lt hb (h.ne_blk hX ht)).trans hX,f.below (λk e=>(h.own k e).1) h0 rfl g⟩
end
section
variable {P:Program}
end
def OwnBs(w:World)(B:Nat)(v:Value)(l:Bs):Prop:=w.ownsRow B 5 1 v l.length (AQ l)
def Oh(w:World)(B:Nat):OwnBs w B (.slice none 0 0) []:=D7 _ _ _ _
def OwnBs.gb{B:Nat}{l:Bs}(h:OwnBs w B v l)(g:w.grownBy w1 none):OwnBs w1 B v l:=Cs h g (by simp)
def OwnBs.fr{l:Bs}(h:OwnBs w w0.heap.size v l)(g0:w0.grownBy w none)(g:w.grownBy w1 v.ownBlock):w0.grownBy w1 none:=BB g0 g λq hq=>(World.ownsRow.lt h q hq).1
def Jf{B:Nat}{l:Bs}(c:UInt8)(h:w.ownsRow B 5 1 v (l.length+1) (AQ l++[.int .u8 c.toNat])):OwnBs w B v (l++[c]):=by
 unfold OwnBs;rw[lA,show AQ (l++[c])=AQ l++[.int .u8 c.toNat]by simp[AQ]];exact h
open Go.Maps Go.WideMaps Go.ChangeMaps Go.MapKept
def T4{G:Nat}(h:Blk w G mainC 40):
 Calls Tryz.prog 14 #[.slice (some ⟨G,0,none⟩) 1 c] w λe w'=>∃v,e= .returned (.tuple #[v,.int .i64 0])/\VU (An w.heap.size) w' v [knU]/\w.grownBy w' none:=by
 have hmm:=@run_makeMap Tryz.prog;obtain⟨n0,hn0,hv0,hv1,hv2⟩:=info_parts Lk;have HU:=S (X hn0 (X hv0 (X hv1 hv2)));have HB:=S h;clear h hn0 hv0 hv1 hv2;go_enter func14,ntmps14;go_wp2_with fail;refine mR (Pl HB.1) λw1 g1=>?_;have H1:=S (X (HB.1.gb g1 (by simp)) g1);clear g1;go_wp2_with fail;go_loopg [7,19] 1 (λg v7 v19 wr=>(g=1/\v19= .int .i64 0/\wr=w1.alloc (.map #[] 0))\/(g=0/\v19= .int .i64 1/\w1.grownBy wr none))
 case atStart=>exact .inl ⟨rfl,rfl,rfl⟩
 case round=>
  rcases hrel with⟨rfl,rfl,rfl⟩| ⟨rfl,rfl,hg⟩
  ·have g0:=gZ w1 (.map #[] 0) none;have hbk:=H1.1.1.gb g0 (by simp);have z0:=hbk.cell' 0 rfl;have z1:=hbk.cell' 1 rfl;have z2:=hbk.cell' 2 rfl;have z3:=hbk.cell' 3 rfl;have hgl:=hbk.lt;have HM:=S (World.ownsMap_made (H:=Unit) w1 Tryz.prog 9 (plainElem Tryz.prog 3));clear hbk;have hkey:keyOf Tryz.prog 9 (str mainB)=some _:=keyOf_string_mk (s:=⟨mainB.toArray⟩) underlying9 (by decide);go_wp2_with (at_mapUpdate;refine wpList_mapUpdate_own _ rfl _ _ _ 68 rfl 9 3 L8 underlying68 (plainElem (H:=Unit) Tryz.prog 3) w1.heap.size 0 _ rfl (HM.1.alloc _) (by unfold maxLen;omega) _ _ _ rfl rfl hkey _ [] (plainElem_int underlying3 (by decide)) ?_;intro w2 hown1 hgrow1);have gwx:w1.grownBy w2 none:=Aq (Ac (gZ w1 _ none) _) hgrow1 (.inr (nR _));clear hown1 hgrow1;go_roundg 0
   case measure=>omega
   case rel=>exact .inr ⟨rfl,rfl,gwx⟩
  ·have H2:=S (X (H1.1.1.gb hg (by simp)) (Z H1.1.2 hg));clear hg;go_wp2_with fail;go_loopg [8,10,32] 1 (λg v8 v10 v32 wr=>(g=1/\v32= .int .i64 0/\v8= .slice none 0 0/\Blk wr G mainC 40/\w.grownBy wr none)\/(g=0/\v32= .int .i64 1/\VU (An w.heap.size) wr v8 [knU]/\w.grownBy wr none))
   case atStart=>exact .inl ⟨rfl,rfl,rfl,H2.1.1,H2.1.2⟩
   case round=>
    rcases hrel with⟨rfl,rfl,rfl,hb,hg⟩| ⟨rfl,rfl,hv,hg⟩
    ·have z0:=hb.cell' 0 rfl;have z1:=hb.cell' 1 rfl;have z2:=hb.cell' 2 rfl;have z3:=hb.cell' 3 rfl;have hgl:=hb.lt;have gA:=Z hg (gZ wr (.cells mainC.toArray 40 (0,0)) none);have hgs:=hg.size;have HX:=S gA;clear hb hg gA H2;go_wp2_with fail;refine(ZD _ _).mono ?_;rintro e w5 ⟨r,q,cp,rfl,hr,hc,g5⟩;have hs5:w.heap.size<=w5.heap.size:=(Z HX.1 g5).size;have gA5:=gZ w5 (.cells [str mainB,.slice (some ⟨r,0,none⟩) 2 2,.slice (some ⟨q,0,none⟩) 1 cp].toArray 58 (0,0)) none;have HR:=S (X (hr.gb gA5 (by simp)) (X (hc.gb gA5 (by simp)) (Z (Z HX.1 g5) gA5)));clear hr hc g5 gA5;go_wp2_with (at_builtin;go_loud(refine wpList_append_lies _ rfl _ _ 23 rfl w.heap.size 58 n0 (.agg #[str [],.slice none 0 0,.slice none 0 0]) 3 64 underlying23 HU.1.1 HU.1.2.1 HU.1.2.2.1 HU.1.2.2.2 rfl (by decide) (.slice none 0 0) 0 [] rfl (D7 _ _ _ _) ⟨w5.heap.size,0,none⟩ 1 1 [str mainB,.slice (some ⟨r,0,none⟩) 2 2,.slice (some ⟨q,0,none⟩) 1 cp] rfl rfl (AP _ _ _) (by simp[Value.oneCell']) (by decide) (by decide) (by decide) (by simp;omega) _ rfl ?_;intro g6 cap6 w6 hown hgrow hat6 hlt6;(have HE:=S (X hown hgrow));clear hown hgrow hat6));go_roundg 0
     case measure=>omega
     case rel=>
      refine .inr ⟨rfl,rfl,⟨[str mainB,.slice (some ⟨r,0,none⟩) 2 2,.slice (some ⟨q,0,none⟩) 1 cp],?_,?_⟩,?_⟩
      ·exact C0 (by simpa using HE.1.1)
      ·refine RepU.one (u:=knU) ?_ ?_
       ·exact(HR.1.1.gb HE.1.2 (by simp[Value.ownBlock])).mono (λk hk _=>by have h1:_<=k:=hk;simp at h1;show w.heap.size<=k;omega)
       ·exact(HR.1.2.1.gb HE.1.2 (by simp[Value.ownBlock])).mono (λk hk _=>by have h1:_<=k:=hk;simp at h1;show w.heap.size<=k;omega)
      ·exact BB HR.1.2.2 HE.1.2 (by simp[Value.ownBlock])
    ·have HV:=S (X hv hg);clear hv hg H2;go_wp2_with fail;refine mR (NH HV.1.1 (by decide)) λw3 g3=>?_;have H3:=S (X (HV.1.1.gb g3 (by simp)) (Z HV.1.2 g3));have hsz:szU [knU]=1:=by decide
     rw[hsz];clear g3 hsz;go_wp2_with fail;refine mR (Pf H3.1.1 (Tb _)) λw4 g4=>?_;have H4:=S (X (H3.1.1.gb g4 (by simp)) (Z H3.1.2 g4));clear g4;go_wp2;exact bZ (v:= .tuple #[u8,.int .i64 0]) (by simp[results,results14,go_sem]) rfl ⟨_,rfl,H4.1.1,H4.1.2⟩
end Go.Proofs.YtbjfaimkiclhgaaGreatDoor
