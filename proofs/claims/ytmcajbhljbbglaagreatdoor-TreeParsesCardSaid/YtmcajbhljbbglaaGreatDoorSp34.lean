/-
  Plain laws: what is read has no more nodes than tokens. The reference's lexer: token. The reference's lexer: step. The reference's lexer: Lex. The reference's lexed; what the reference's reader wants 
-/
import Derived.Test.YtmcajbhljbbglaaGreatDoorSpF
import Derived.Test.YtmcajbhljbbglaaGreatDoorSp27
import Derived.Test.YtmcajbhljbbglaaGreatDoorSp30
import Derived.Test.YtmcajbhljbbglaaGreatDoorSp25
import Derived.Test.YtmcajbhljbbglaaGreatDoorSp05
set_option linter.all false
set_option maxRecDepth 100000
set_option maxHeartbeats 8000000
namespace Go.Proofs.YtmcajbhljbbglaaGreatDoor
open Tryz
def Sd.nodes(s:Sd):Nat:=s.x.nodes+s.n.nodes+s.f.nodes+s.w.nodes
def Sd.levels(s:Sd):Nat:=max (max s.x.levels s.n.levels) (max s.f.levels s.w.levels)
def Bl.nodes:Bl→Nat
 | .nil=>0
 | .st h b n=>1+h.nodes+b.nodes+n.nodes
 | .bl b n=>b.nodes+n.nodes
def Bl.levels:Bl→Nat
 | .nil=>0
 | .st h b n=>max (1+max h.levels b.levels) n.levels
 | .bl b n=>max b.levels n.levels
theorem Bl.nodes_app:∀a b:Bl,(a.app b).nodes=a.nodes+b.nodes:=by
 intro a;induction a with
 |nil=>intro b;simp[Bl.app,Bl.nodes]
 |st h k n _ ih=>intro b;simp[Bl.app,Bl.nodes,ih];omega
 |bl k n _ ih=>intro b;simp[Bl.app,Bl.nodes,ih];omega
abbrev sb(r:StB):Nat:=1+r.1.nodes+r.2.nodes
def Bg{l:List Tok}{α:Type}(P:Rd l α)(m:α→Nat)(c:Nat):Prop:=∀i a j,P.f i= .ok a j→m a+i≤j+c
section
open Rd
variable {l:List Tok}{α β:Type}
theorem Bg.le{P:Rd l α}{m:α→Nat}{c d:Nat}(h:Bg P m c)(hc:c≤d):Bg P m d:=fun i a j e=>by have:=h i a j e;omega
theorem Bg.pure{a:α}{m:α→Nat}{c:Nat}(h:m a≤c):Bg (pure a:Rd l α) m c:=fun i b j e=>by
 have e':Res.ok a i=Res.ok b j:=e
 cases e';omega
theorem Bg.bad{a:α}{m:α→Nat}{c:Nat}:Bg (bad a:Rd l α) m c:=fun i b j e=>by
 have e':Res.bad i=Res.ok b j:=e
 cases e'
theorem Bg.out{a:α}{m:α→Nat}{c:Nat}:Bg (out a:Rd l α) m c:=fun i b j e=>by
 have e':Res.out=Res.ok b j:=e
 cases e'
theorem Bg.bind{P:Rd l α}{Q:α→Rd l β}{m:β→Nat}{c:Nat}(m1:α→Nat)(c1 d:Nat)(h1:Bg P m1 c1)(h2:∀x,Bg (Q x) m (m1 x+d))(hc:c1+d≤c):Bg (P.bind Q) m c:=by
 intro i b k e;have e':(P.f i).bind (fun x j=>(Q x).f j)= .ok b k:=e;cases hr:P.f i with
 | ok a j=>
   rw[hr,Res.bind_ok]at e';have:=h1 i a j hr;have:=h2 a j b k e';omega
 |bad q=>rw[hr]at e';cases e'
 |out=>rw[hr]at e';cases e'
theorem Bg.of{P:Rd l α}{m:α→Nat}(h:∀i,Big m i (P.f i)):Bg P m 0:=fun i a j e=>by
 have:=h i
 rw[e]at this
 simp only[Big]at this
 omega
theorem Ht{s:Bs}:Bg (want s:Rd l Unit) Bv 0:=Bg.of fun i=>FX s i
theorem Bd:Bg (fin:Rd l Unit) Bv 0:=Bg.of fun i=>AaH i
theorem WV(hn:Al l):Bg (name hn:Rd l Bs) Bv 0:=Bg.of fun i=>Hm i
theorem WD(hn:Al l){c:Nat}:Bg (name hn:Rd l Bs) (fun _=>0) c:=fun i a j e=>by
 have:=WV hn i a j e
 simp only[Bv]at this
 show 0+i≤j+c
 omega
theorem Aa6:Bg (skip:Rd l Unit) Bv 0:=fun i a j e=>by
 have e':Res.ok () (i+1)=Res.ok a j:=e
 cases e';simp only[Bv];omega
theorem DM{s:Bs}{p q:Rd l α}{m:α→Nat}{c:Nat}(hp:Bg p m (c+1))(hq:Bg q m c):Bg (ifs s p q) m c:=fun i a j e=>by
 have e':(if Ak (Af l i) s then p.f (i+1)else q.f i)= .ok a j:=e
 split at e'
 ·have:=hp _ _ _ e';omega
 ·exact hq _ _ _ e'
theorem GI{t:Nat→Bool}{p q:Rd l α}{m:α→Nat}{c:Nat}(hp:Bg p m c)(hq:Bg q m c):Bg (cond t p q) m c:=fun i a j e=>by
 have e':(if t i then p.f i else q.f i)= .ok a j:=e
 split at e'
 ·exact hp _ _ _ e'
 ·exact hq _ _ _ e'
theorem WA{t:Nat→Bool}{p q:Rd l α}{m:α→Nat}{c:Nat}(hp:Bg p m c)(hq:Bg q m c):Bg (condW t p q) m c:=GI (t:=t) hp hq
theorem K9{t:Nat→Bool}{p q:Rd l α}{m:α→Nat}{c:Nat}(hp:Bg p m c)(hq:Bg q m c):Bg (KU t p q) m c:=GI (t:=t) hp hq
theorem B1{p:Rd l α}{m:α→Nat}{c:Nat}(hp:Bg p m (c+1)):Bg (skip.bind fun _=>p) m c:=Bg.bind Bv 0 c Aa6 (fun _=>hp.le JQ) Ab
theorem Cy{W:List Bs}{w:Bs}{p q:Rd l α}{m:α→Nat}{c:Nat}(hp:Bg p m (c+1))(hq:Bg q m c):Bg (ifw W w p q) m c:=K9 (B1 hp) hq
theorem BX{W:List Bs}{w:Bs}:Bg (must W w:Rd l Unit) Bv 0:=Cy (Bg.pure JQ) Bg.bad
theorem Aa1{W:List Bs}:Bg (here W:Rd l Bs) (fun _=>0) 0:=fun i a j e=>by
 have e':Res.ok (Av l W i) i=Res.ok a j:=e
 cases e';exact Nat.le_of_eq Ae
theorem DK{c:Prop} [Decidable c] {p q:Rd l α} {m:α→Nat} {d:Nat} (hp:Bg p m d) (hq:Bg q m d):Bg (if c then p else q) m d:=by
 by_cases h:c
 ·rw[if_pos h];exact hp
 ·rw[if_neg h];exact hq
theorem A4{P:Rd l Unit}{q:Rd l α}{m:α→Nat}{c:Nat}(h:Bg P Bv 0)(hq:Bg q m (c+1)):Bg (P.bind fun _=>q) m c:=Bg.bind Bv 0 c h (fun _=>hq.le JQ) Ab
theorem Ct{hn:Al l}{q:Bs→Rd l α}{m:α→Nat}{c:Nat}(hq:∀s,Bg (q s) m (c+1)):Bg ((name hn).bind q) m c:=Bg.bind Bv 0 c (WV hn) (fun s=>(hq s).le JQ) Ab
theorem IL{W:List Bs}{q:Bs→Rd l α}{m:α→Nat}{c:Nat}(hq:∀s,Bg (q s) m c):Bg ((here W).bind q) m c:=Bg.bind (fun _=>0) 0 c Aa1 (fun s=>(hq s).le Ab) Ab
theorem P9{s:Bs}{step:α→Rd l α}{m:α→Nat}(h:∀a,Bg (step a) m (m a)):∀k a,Bg (moreS s step k a) m (m a):=by
 intro k;induction k with
 |zero=>exact fun a=>Bg.out
 |succ k ih=>exact fun a=>DM (Bg.bind m (m a) 0 (h a) (fun x=>ih x) Ab) (Bg.pure (Nat.le_refl _))
theorem WC{W:List Bs}{w:Bs}{step:α→Rd l α}{m:α→Nat}(h:∀a,Bg (step a) m (m a)):∀k a,Bg (moreW W w step k a) m (m a):=by
 intro k;induction k with
 |zero=>exact fun a=>Bg.out
 |succ k ih=>exact fun a=>Cy (Bg.bind m (m a) 0 (h a) (fun x=>ih x) Ab) (Bg.pure (Nat.le_refl _))
end
section
open Rd
variable {l:List Tok}(hn:Al l)(W:List Bs)(day:Bs→Int){n:Nat}{block:Rd l Bl}
theorem M2:Bg (B2 hn day n) Ex.nodes 0:=Bg.of fun i=>Mi (l:=l) day n i
theorem KL:Bg (J5 hn day n) Fo.nodes 0:=Bg.of fun i=>Ph (fun q=>Mi (l:=l) day n q) i
theorem WB:Bg (PU hn day n) Ex.nodes 0:=Bg.of fun i=>Vn (fun q=>Mi (l:=l) day n q) i
theorem BZ{α:Type}{q:Ex→Rd l α}{m:α→Nat}{c:Nat}(hq:∀x,Bg (q x) m (x.nodes+c)):Bg ((B2 hn day n).bind q) m c:=Bg.bind Ex.nodes 0 c (M2 hn day) hq Ab
theorem KM:Bg (GO hn day n) Fo.nodes 0:=WA (Bg.pure (Nat.le_refl _)) (BZ hn day fun x=>Bg.pure (by rw[Fo.nodes_one];omega))
theorem Mc(a:List Bs×Fo):Bg (Ez hn day n a) (fun p=>p.2.nodes) a.2.nodes:=
 Ct fun s=>Bg.bind Ex.nodes 1 a.2.nodes (DM ((M2 hn day).le Ab) (Bg.pure (by simp[Bi,Ex.nodes,Fo.nodes]))) (fun x=>Bg.pure (by simp only[Fo.nodes_snoc];omega)) Ab
theorem pY(w:Bs):Bg (CH hn day n w) sb 1:=
 Bg.bind (fun p=>p.2.nodes) 0 1 ((Mc hn day ([],.nil)).le IV) (fun a=>Bg.bind (fun p=>p.2.nodes) a.2.nodes 1 (P9 (m:=fun p:List Bs×Fo=>p.2.nodes) (Mc hn day) n a) (fun a=>A4 Bd (Bg.pure La)) Ab) Ab
abbrev pb(a:Fo×Bl):Nat:=a.1.nodes+a.2.nodes
theorem PG(hb:Bg block Bl.nodes 0)(a:Fo×Bl):Bg (BS hn day n block a) pb (pb a):=
 BZ hn day fun x=>A4 Bd (Bg.bind Bl.nodes 0 (x.nodes+pb a) hb (fun b=>Bg.pure (by simp only[pb,Fo.nodes_snoc,Bl.nodes_app,Bl.nodes];omega)) Ab)
theorem VM(hb:Bg block Bl.nodes 0)(more other last:Bs):Bg (DY hn W day n block more other last) sb 1:=
 Bg.bind pb 0 1 ((PG hn day hb (.nil,.nil)).le (by simp[pb,Fo.nodes,Bl.nodes])) (fun a=>Bg.bind pb (pb a) 1 (WC (m:=pb) (PG hn day hb) n a) (fun a=>
  Bg.bind Bl.nodes a.2.nodes (a.1.nodes+1) (Cy (A4 Bd (Bg.bind Bl.nodes 0 a.2.nodes hb (fun b=>Bg.pure (by simp only[Bl.nodes_app,Bl.nodes];omega)) Ab)) (Bg.pure (Nat.le_refl _)))
   (fun b=>A4 BX (A4 Bd (Bg.pure (by simp[sb,Sd.nodes,sd0,Fo.nodes];omega)))) (by simp only[pb];omega)) Ab) Ab
theorem bg_do(hb:Bg block Bl.nodes 0):Bg (doP hn W day n block) sb 1:=
 Cy (A4 Bd (A4 BX ((VM hn W day hb _ _ _).le Ab)))
  (Cy (Bg.bind pb 0 1 ((PG hn day hb (.nil,.nil)).le (by simp[pb,Fo.nodes,Bl.nodes])) (fun a=>A4 BX (A4 Bd (Bg.pure (by simp[sb,pb,Sd.nodes,sd0,Fo.nodes];omega)))) Ab)
   (Ct fun s=>Bg.bind Fo.nodes 0 1 (Cy ((KL hn day).le Ab) (Bg.pure IV)) (fun f=>A4 Bd (Bg.pure La)) Ab))
theorem Aa2(hb:Bg block Bl.nodes 0):Bg (Fb hn W day n block) sb 1:=
 Ct fun s=>A4 Ht (BZ hn day fun x=>A4 BX (BZ hn day fun y=>Bg.bind Ex.nodes 1 (y.nodes+x.nodes+1) (Cy ((M2 hn day).le Ab) (Bg.pure (by simp[A1,Ex.nodes,Fo.nodes])))
  (fun z=>A4 Bd (Bg.bind Bl.nodes 0 (z.nodes+y.nodes+x.nodes+1) hb (fun b=>A4 BX (A4 Bd (Bg.pure (by simp[sb,Sd.nodes,sd0,Fo.nodes,Bl.nodes,Fo.nodes_snoc,Fo.nodes_one];omega)))) Ab)) Ab))
theorem wN(hb:Bg block Bl.nodes 0):Bg (ET hn W block) sb 1:=
 A4 BX (A4 Bd (Bg.bind Bl.nodes 0 1 hb (fun b=>Bg.bind (fun r=>r.2.nodes) b.nodes 1
  (Cy (Bg.bind (fun _=>0) 0 b.nodes (Cy (WD hn) (Bg.pure (Nat.le_refl _))) (fun s=>A4 Bd (Bg.bind Bl.nodes 0 b.nodes hb (fun c=>Bg.pure (by simp[Bl.nodes];omega)) Ab)) Ab)
   (Bg.pure (by simp[Bl.nodes]))) (fun r=>A4 BX (A4 Bd (Bg.pure (by simp[sb,Sd.nodes,sd0,Fo.nodes];omega)))) Ab) Ab))
def ScM.nodes(c:ScM):Nat:=c.n.nodes+c.f.nodes+c.w.nodes
theorem mV(s:Sd)(c:ScM):(Cb s c).nodes≤s.nodes+c.nodes:=by simp only[Cb,Sd.nodes,ScM.nodes];omega
theorem wQ:∀k c,Bg (Ba hn W day n k c) ScM.nodes c.nodes:=by
 intro k;induction k with
 |zero=>exact fun c=>Bg.out
 | succ k ih=>
   intro c;unfold Ba;refine WA (Bg.pure (Nat.le_refl _)) (IL fun w=>DK (B1 (DK (BZ hn day fun x=>(ih _).le ?_) ((ih _).le ?_))) (DK (B1 (BZ hn day fun x=>(ih _).le ?_)) (DK (B1 (BZ hn day fun x=>(ih _).le ?_)) (Bg.pure (Nat.le_refl _)))));all_goals(simp only[ScM.nodes,Fo.nodes_one];omega)
theorem sM:Bg (Ba hn W day n n B7) ScM.nodes 0:=(wQ hn W day n B7).le (by simp[B7,ScM.nodes,Fo.nodes])
theorem MB{s:Sd}{c:Nat}(h:s.nodes≤c):Bg ((Ba hn W day n n B7).bind fun k=>pure (Cb s k)) Sd.nodes c:=
 Bg.bind ScM.nodes 0 c (sM hn W day) (fun k=>Bg.pure (by have:=mV s k;omega)) Ab
theorem US(a:List Bs×Fo):Bg (CX hn W day n a) (fun p=>p.2.nodes) a.2.nodes:=
 Ct fun s=>A4 BX (BZ hn day fun x=>Bg.pure (by simp only[Fo.nodes_snoc];omega))
theorem wO(s:Sd)(hs:s.nodes=0):Bg (FC hn W day n s) Sd.nodes 0:=by
 have h0:s.n.nodes=0∧s.f.nodes=0∧s.w.nodes=0:=Qn;refine A4 BX (BZ hn day fun x=>A4 BX (Ct fun p=>Bg.bind Fo.nodes x.nodes 0 (Cy (BZ hn day fun y=>Bg.pure (by rw[Fo.nodes_two];omega)) (Bg.pure (by rw[Fo.nodes_one];omega))) (fun f=>IL fun w=>?_) Ab));refine Bg.bind (fun _=>0) 0 f.nodes (DK (B1 (Bg.pure (Nat.zero_le _))) (Bg.pure (Nat.zero_le _))) (fun t=>?_) Ab;refine Bg.bind (fun _=>0) 0 f.nodes (Cy (Bg.pure (Nat.zero_le _)) (Bg.pure (Nat.zero_le _))) (fun ps=>Bg.pure ?_) Ab;simp only[Sd.nodes];omega
theorem pZ(s:Sd)(hs:s.nodes=0):Bg (F2 hn W day n s) Sd.nodes 0:=by
 have h0:s.x.nodes=0∧s.n.nodes=0∧s.f.nodes=0∧s.w.nodes=0:=Qn;refine IL fun w=>DK (B1 (IL fun t=>DK (B1 (Bg.pure ?_)) Bg.bad)) (DK (B1 (A4 BX (GI (Bg.pure ?_) (DK (Ct fun p=>Bg.pure ?_) (DK (BZ hn day fun x=>Bg.pure ?_) (BZ hn day fun x=>A4 BX (Ct fun p=>Bg.pure ?_))))))) Bg.bad);all_goals(simp only[Sd.nodes,Fo.nodes_one];omega)
theorem bg_go(s:Sd)(hs:s.nodes=0):Bg (goP hn W day n s) Sd.nodes 0:=by
 have h0:s.x.nodes=0∧s.n.nodes=0∧s.f.nodes=0∧s.w.nodes=0:=Qn;refine IL fun w=>GI (B1 (Bg.pure ?_)) (BZ hn day fun x=>Bg.pure ?_);all_goals(simp only[Sd.nodes,Fo.nodes_one];omega)
theorem xL(k:Int)(w:Bs):(sd0 k w).nodes=0:=rfl
theorem UX(w:Bs):Bg (BG hn W day n w) Sd.nodes 0:=by
 unfold BG;have hz:=xL 13 w;repeat' refine DK ?_ ?_
 ·exact Ct fun p=>Bg.pure Lh
 ·exact GI (Bg.pure Ab) (Ct fun p=>Bg.bind (fun _=>0) 1 0 (Cy (Ct fun q=>Bg.pure (Nat.zero_le _)) (Bg.pure (Nat.zero_le _))) (fun ps=>Bg.pure Lh) Ab)
 ·exact bg_go hn W day _ hz
 ·exact Bg.bind Fo.nodes 0 0 (KM hn day) (fun x=>Bg.pure Lh) Ab
 ·exact BZ hn day fun x=>Bg.pure (by simp[Sd.nodes,sd0,Fo.nodes,Fo.nodes_one])
 ·exact Bg.pure Ab
 ·exact A4 BX (Bg.pure Ab)
 ·exact MB hn W day Ab
 ·exact Bg.bind (fun p=>p.2.nodes) 0 0 (US hn W day ([],.nil)) (fun a=>Bg.bind (fun p=>p.2.nodes) a.2.nodes 0 (P9 (m:=fun p:List Bs×Fo=>p.2.nodes) (US hn W day) n a) (fun a=>MB hn W day Lh) Ab) Ab
 ·exact A4 BX (Ct fun p=>MB hn W day Lh)
 ·exact BZ hn day fun x=>A4 BX (Ct fun p=>MB hn W day (by simp[Sd.nodes,sd0,Fo.nodes,Fo.nodes_one];omega))
 ·exact wO hn W day _ hz
 ·exact pZ hn W day _ hz
theorem Aa5(hb:Bg block Bl.nodes 0)(w:Bs):Bg (Bx hn W day n block w) sb 0:=by
 unfold Bx;repeat' refine DK ?_ ?_
 ·exact B1 (pY hn day w)
 ·exact B1 (VM hn W day hb _ _ _)
 ·exact B1 (bg_do hn W day hb)
 ·exact B1 (Aa2 hn W day hb)
 ·exact B1 (A4 Bd (Bg.pure (by simp[sb,Sd.nodes,sd0,Fo.nodes,Bl.nodes])))
 ·exact B1 (A4 Bd (Bg.pure (by simp[sb,Sd.nodes,sd0,Fo.nodes,Bl.nodes])))
 ·exact B1 (Bg.bind Fo.nodes 0 1 (KM hn day) (fun x=>A4 Bd (Bg.pure La)) Ab)
 ·exact B1 (Bg.bind Fo.nodes 0 1 (KM hn day) (fun x=>A4 Bd (Bg.pure La)) Ab)
 ·exact B1 (wN hn W hb)
 ·exact B1 (Bg.bind Sd.nodes 0 1 (UX hn W day w) (fun s=>A4 Bd (Bg.pure (by simp only[sb,Bl.nodes];omega))) Ab)
 ·exact Bg.bad
theorem M9(t:Ex):Bg (setP hn day n t) sb t.nodes:=
 Bg.bind Bv 0 t.nodes (DM (Bg.pure JQ) Ht) (fun _=>BZ hn day fun x=>A4 Bd (Bg.pure (by simp[sb,Sd.nodes,sd0,Fo.nodes,Bl.nodes,Fo.nodes_two];omega))) Ab
theorem VN:Bg (WX hn day n) Fo.nodes 0:=
 DM (Bg.pure IV) (Bg.bind Fo.nodes 0 0 (KL hn day) (fun f=>A4 Ht (Bg.pure Ab)) Ab)
theorem Aa8(s:Bs):Bg (JB hn day n s) sb 1:=
 DM (Bg.bind Fo.nodes 0 2 (VN hn day) (fun f=>A4 Bd (Bg.pure (by simp[sb,Sd.nodes,sd0,Fo.nodes,Bl.nodes,Fo.nodes_one,Ex.nodes];omega))) Ab)
  (DM (BZ hn day fun x=>A4 Ht ((M9 hn day _).le Xw))
   (DM (Ct fun t=>(M9 hn day _).le X2) ((M9 hn day _).le (by simp only[AC,Ex.nodes,Fo.nodes];omega))))
theorem wP:Bg (Dy hn day n) sb 0:=
 DM (Bg.bind Fo.nodes 0 1 (GI (Bg.pure IV) (KL hn day)) (fun x=>A4 Bd (Bg.pure La)) Ab)
  (GI (Bg.bind Ex.nodes 0 0 (WB hn day) (fun t=>(M9 hn day t).le Ab) Ab) (Ct fun s=>Aa8 hn day s))
theorem Aa7(hb:Bg block Bl.nodes 0):Bg (C7 hn W day n block) sb 0:=fun i a j e=>by
 have e':(if AR l W i=[]then Dy hn day n else Bx hn W day n block (AR l W i)).f i= .ok a j:=e
 split at e'
 ·exact wP hn day i a j e'
 ·exact Aa5 hn W day hb _ i a j e'
end
section
open Rd
variable {l:List Tok}(hn:Al l)(W:List Bs)(day:Bs→Int)
theorem lG{st:Rd l StB}(h:Bg st sb 0):∀k a,Bg (CY W st k a) Bl.nodes a.nodes:=by
 intro k;induction k with
 |zero=>exact fun a=>Bg.out
 |succ k ih=>exact fun a=>K9 (Bg.bind sb 0 a.nodes h (fun r=>(ih _).le (by simp only[sb,Bl.nodes_app,Bl.nodes];omega)) Ab) (Bg.pure (Nat.le_refl _))
theorem W4:∀n,Bg (Dv hn W day n) Bl.nodes 0:=by
 intro n;induction n with
 |zero=>exact Bg.out
 |succ n ih=>exact lG W (Aa7 hn W day ih) n .nil
def Cs(a:List Pq):Nat:=(a.map fun p=>p.2.2.2.nodes).sum
theorem jZ(a:List Pq)(p:Pq):Cs (a++[p])=Cs a+p.2.2.2.nodes:=by simp[Cs]
theorem Aa3(n:Nat)(a:List Pq)(fn:Bool):Bg (Fd hn W day n a fn) Cs (Cs a):=by
 refine Ct fun s=>Bg.bind (fun _=>0) 0 (Cs a) ?_ (fun p=>A4 Bd (Bg.bind Bl.nodes 0 (Cs a) (W4 hn W day n) (fun b=>Bg.pure (by rw[jZ];show Cs a+b.nodes≤b.nodes+Cs a;omega)) Ab)) Ab;exact YU
theorem m2(n:Nat):∀k a,Bg (Dp hn W day n k a) Cs (Cs a):=by
 intro k;induction k with
 |zero=>exact fun a=>Bg.out
 |succ k ih=>exact fun a=>K9 (IL fun w=>DK (B1 (Bg.bind Cs (Cs a) 0 (Aa3 hn W day n a _) (fun a=>ih a) Ab)|> fun h=>h.le (Nat.le_refl _)) Bg.bad) (Bg.pure (Nat.le_refl _))
theorem Aa4(n:Nat):Bg (BM hn W day n) Cs 0:=
 Bg.bind Bl.nodes 0 0 (W4 hn W day n) (fun b=>(m2 hn W day n n _).le (by simp[Cs])) Ab
end
open Go.RowKit
theorem oZ{s:Bs}{i n:Nat}(hc:cls 1 (bAt s i)=true)(hn:Au s Bm i=i+n):AK s i=if 24<n then .bad i else .tok ⟨0,i,Lib.toUpperA (A3 s i (i+n))⟩ (i+n) true:=by
 unfold AK;rw[if_pos hc,hn,show i+n-i=n by omega]
theorem tJ{s:Bs}{i n:Nat}(h1:cls 1 (bAt s i)=false)(hc:cls 2 (bAt s i)=true)(hn:Au s (cls 2) i=i+n):AK s i=if 15<n then .bad i else .tok ⟨1,i,A3 s i (i+n)⟩ (i+n) true:=by
 unfold AK;rw[if_neg (by rw[h1];simp),if_pos hc,hn,show i+n-i=n by omega]
theorem n4{s:Bs}{i:Nat}(hq:bAt s i=34∨bAt s i=39):AK s i=Dz s i:=by
 have h1:cls 1 (bAt s i)=false:=Ld;have h2:cls 2 (bAt s i)=false:=Ld;unfold AK;rw[if_neg (by rw[h1];simp),if_neg (by rw[h2];simp),if_pos hq]
theorem oX{s:Bs}{i:Nat}(h1:cls 1 (bAt s i)=false)(h2:cls 2 (bAt s i)=false)(hq:¬(bAt s i=34∨bAt s i=39)):AK s i=match BB (s.drop i)with
 |some (d,n)=> .tok ⟨3,i,d⟩ (i+n) true
 | none=>match Dc s i with
   |some w=> .tok ⟨4,i,w⟩ (i+w.length) true
   |none=> .bad i:=by
 unfold AK;rw[if_neg (by rw[h1];simp),if_neg (by rw[h2];simp),if_neg hq];rfl
structure TkS(w:World)(b:Nat)(s:Bs)(i:Nat)(line:Bool)(ov:Value)(pre:List Tok)(W:World):Prop where
 rl:Rl W b s i line (-1) ov pre
 below:Below b w W
theorem TkS.gbN{w W W1:World}{b:Nat}{s:Bs}{i:Nat}{line:Bool}{ov:Value}{pre:List Tok}(h:TkS w b s i line ov pre W)(g:W.grownBy W1 none):TkS w b s i line ov pre W1:=
 ⟨h.rl.gbN g,h.below.trans (I4 g (Nat.le_of_lt h.rl.lt))⟩
section
variable {w:World}{b:Nat}{s:Bs}{i:Nat}{line:Bool}{ov:Value}{pre:List Tok}
theorem pR(h:Rl w b s i line (-1) ov pre)(hi:i<s.length)(hc:pre.length≤100000)(h1:cls 1 (bAt s i)=true):
 Calls Tryz.prog 125 #[.pointer (some ⟨b,0,none⟩)] w (Cu w b s (AK s i) pre):=by
 have Gz{P}(h:P:=by
 have hge:=By s Bm i;have hle:=Cp (p:=Bm) (Nat.le_of_lt hi);obtain⟨n,hn⟩:∃n,Au s Bm i=i+n:=⟨Au s Bm i-i,by omega⟩;have hrun:=fun(W:World)(hW:Rl W b s i line (-1) ov pre)=>WP hW true Bm (fun x=>by simp[Bm,Bool.or_comm]);rw[hn,show i+n-i=n by omega]at hrun;have HM:=Z (oZ h1 hn);have HR:=Z hrun;have HC:=Z h1;have HH:=Z h;rw[hn]at hge hle;clear h hrun hn h1;have ND{P}(h:P:=by
 rw[HC.out];have b8{P}(h:P:=by
 by_cases hm:24<n
 ·have HQ:=Z (show AK s i= .bad i by rw[HM.out,if_pos hm]);have hm1:decide ((24:Int)<n)=true:=Ag;exact aS
 ·have HQ:=Z (show AK s i= .tok ⟨0,i,Lib.toUpperA (A3 s i (i+n))⟩ (i+n) true by rw[HM.out,if_neg hm]);have hm1:decide ((24:Int)<n)=false:=Ag;have cE{P}(h:P:=by
  have HU:=Z (fun(W:World)=>Pm s hf i (i+n) W);have HP:=Z (fun(W:World)(h:Rl W b s i line (-1) ov pre)=>KK h 0 (Lib.toUpperA (A3 s i (i+n))) n Ab hc);generalize Lib.toUpperA (A3 s i (i+n))=T at*;go_wp2_with fail;go_region_with(first| (go_at_call 141;refine(HU.out _).mono ?_;rintro e w5 ⟨rfl,g5⟩)| (go_at_call 172;refine(HP.out _ ((HT1.out.rl.drewN 1).gbN g5)).mono ?_;rintro e w6 ⟨rfl,hB6,ov6,h6⟩));all_goals
   have HE:=Z (Ac hB6 h6);clear hB6 h6;go_wp2;go_end0;exact Jv HQ.out (((HT1.out.gbN (An (Aj _ _))).gbN g5).below.trans HE.out.1) HE.out.2):=Aa h
  exact SG):=Aa h
 exact S7):=Aa h;exact MZ):=Aa h;exact Gw
theorem q7(h:Rl w b s i line (-1) ov pre)(hi:i<s.length)(hc:pre.length≤100000)(h0:cls 1 (bAt s i)=false)(h1:cls 2 (bAt s i)=true):
 Calls Tryz.prog 125 #[.pointer (some ⟨b,0,none⟩)] w (Cu w b s (AK s i) pre):=by
 have Gz{P}(h:P:=by
 have hge:=By s (cls 2) i;have hle:=Cp (p:=cls 2) (Nat.le_of_lt hi);obtain⟨n,hn⟩:∃n,Au s (cls 2) i=i+n:=⟨Au s (cls 2) i-i,by omega⟩;have hrun:=fun(W:World)(hW:Rl W b s i line (-1) ov pre)=>WP hW false (cls 2) (fun x=>by simp);rw[hn,show i+n-i=n by omega]at hrun;have HM:=Z (tJ h0 h1 hn);have HR:=Z hrun;have HC:=Z (Ac h0 h1);have HH:=Z h;rw[hn]at hge hle;clear h hrun hn h1 h0;have ND{P}(h:P:=by
 rw[HC.out.1];have Jg{P}(h:P:=by
 rw[HC.out.2];have b8{P}(h:P:=by
 by_cases hm:15<n
 ·have HQ:=Z (show AK s i= .bad i by rw[HM.out,if_pos hm]);have hm1:decide ((15:Int)<n)=true:=Ag;exact aS
 ·have HQ:=Z (show AK s i= .tok ⟨1,i,A3 s i (i+n)⟩ (i+n) true by rw[HM.out,if_neg hm]);have hm1:decide ((15:Int)<n)=false:=Ag;have cE{P}(h:P:=by
  have hx:=V7 s i (i+n);have HP:=Z (fun(W:World)(h:Rl W b s i line (-1) ov pre)=>KK h 1 (A3 s i (i+n)) n Ab hc);generalize A3 s i (i+n)=T at*;go_wp2_with fail;go_region_with(go_at_call 172;refine(HP.out _ (HT1.out.rl.drewN 1)).mono ?_;rintro e w6 ⟨rfl,hB6,ov6,h6⟩);all_goals
   have HE:=Z (Ac hB6 h6);clear hB6 h6;go_wp2;go_end0;exact Jv HQ.out ((HT1.out.gbN (An (Aj _ _))).below.trans HE.out.1) HE.out.2):=Aa h
  exact SG):=Aa h
 exact S7):=Aa h;exact Jc):=Aa h;exact MZ):=Aa h;exact Gw
theorem OX(x:UInt8):(x=34∨x=39)↔(((x.toNat:Int)==34)=true∨((x.toNat:Int)==39)=true):=by
 rw[show((x.toNat:Int)==34)=(x==34)from u8i (n:=34) Ad,show((x.toNat:Int)==39)=(x==39)from u8i (n:=39) Ad];simp
theorem OO{w W w':World}{b:Nat}{s:Bs}{r:St}{pre:List Tok}{e:Ending}(g:Below b w W)(h:Cu W b s r pre e w'):Cu w b s r pre e w':=⟨h.1,g.trans h.2.1,h.2.2⟩
theorem l3(h:Rl w b s i line (-1) ov pre)(hi:i<s.length)(hc:pre.length≤100000)(hq:bAt s i=34∨bAt s i=39):
 Calls Tryz.prog 125 #[.pointer (some ⟨b,0,none⟩)] w (Cu w b s (AK s i) pre):=by
 have Gz{P}(h:P:=by
 have h1:cls 1 (bAt s i)=false:=Ld;have h2:cls 2 (bAt s i)=false:=Ld;have HM:=Z (n4 hq);have HC:=Z (Ac h1 h2);have HH:=Z h;have HQ:=Z hq;have hq2:=(OX _).1 hq;clear h h1 h2 hq;have ND{P}(h:P:=by
 rw[HC.out.1];have Jg{P}(h:P:=by
 rw[HC.out.2];have hqf:((((bAt s i).toNat:Int)==34)=true)∨((((bAt s i).toNat:Int)==34)=false∧(((bAt s i).toNat:Int)==39)=true):=by
  cases hx:(((bAt s i).toNat:Int)==34)with
  |true=>exact .inl rfl
  |false=>rw[hx]at hq2;simp only[Bool.false_eq_true,false_or]at hq2;exact .inr ⟨rfl,hq2⟩
 clear hq2;rcases hqf with hx| ⟨hx,hy⟩
 all_goals
  go_wp2_with fail;refine(qX HT.out.rl hi HQ.out hc).mono ?_;rintro e w2 h2;obtain⟨rfl,_⟩:=id h2;have H2:=Z h2;clear h2;go_wp2;go_end0;rw[HM.out];exact OO HT.out.below H2.out):=Aa h
 exact Jc):=Aa h;exact MZ):=Aa h;exact Gw
theorem pQ(h:Rl w b s i line (-1) ov pre)(hi:i<s.length)(hc:pre.length≤100000)(h1:cls 1 (bAt s i)=false)(h2:cls 2 (bAt s i)=false)(hq:¬(bAt s i=34∨bAt s i=39)):
 Calls Tryz.prog 125 #[.pointer (some ⟨b,0,none⟩)] w (Cu w b s (AK s i) pre):=by
 have Gz{P}(h:P:=by
 have HM:=Z (oX h1 h2 hq);have HC:=Z (Ac h1 h2);have HH:=Z h;have hq34:(((bAt s i).toNat:Int)==34)=false:=by
  cases hx:(((bAt s i).toNat:Int)==34)with
  |false=>rfl
  |true=>exact absurd ((OX _).2 (.inl hx)) hq
 have hq39:(((bAt s i).toNat:Int)==39)=false:=by
  cases hx:(((bAt s i).toNat:Int)==39)with
  |false=>rfl
  |true=>exact absurd ((OX _).2 (.inr hx)) hq
 clear h h1 h2 hq;have ND{P}(h:P:=by
 rw[HC.out.1];have Jg{P}(h:P:=by
 rw[HC.out.2];have c0:=HT.out.rl.c0;have c1:=HT.out.rl.c1;have hb1:=HT.out.rl.lt;cases hd:BB (s.drop i)with
 | some p=>
   obtain⟨d,n⟩:=p;have hdl:=Pn hd;simp only[List.length_drop]at hdl;have HQ:=Z (show AK s i= .tok ⟨3,i,d⟩ (i+n) true by rw[HM.out,hd]);have HD:=Z (fun(W:World)=>(Va s hf i hi W).mono (fun e w' (hp:K2 W (s.drop i) e w')=>(show e= .returned (.tuple #[str d,.int .i64 n])∧W.grownBy w' none from⟨by have:=hp.2;rw[hd]at this;exact this,hp.1⟩)));have hn0:decide ((0:Int)<n)=true:=Ag;clear hd;go_wp2_with fail;go_region_with(go_at_call 175;refine(HD.out _).mono ?_;rintro e w5 ⟨rfl,g5⟩);all_goals
    have HT5:=Z ((HT.out.gbN (An (Aj _ _))).gbN g5);have HP:=Z (KK HT5.out.rl 3 d n Ab hc);go_wp2_with fail;refine HP.out.mono ?_;rintro e w6 ⟨rfl,hB6,ov6,h6⟩;have HE:=Z (Ac hB6 h6);clear hB6 h6;go_wp2;go_end0;exact Jv HQ.out (HT5.out.below.trans HE.out.1) HE.out.2
 | none=>
   have HM2:=Z (show AK s i=match Dc s i with
    |some w=> .tok ⟨4,i,w⟩ (i+w.length) true
    |none=> .bad i by rw[HM.out,hd])
   have HD:=Z (fun(W:World)=>(Va s hf i hi W).mono (fun e w' (hp:K2 W (s.drop i) e w')=>(show e= .returned (.tuple #[str [],.int .i64 0])∧W.grownBy w' none from⟨by have:=hp.2;rw[hd]at this;exact this,hp.1⟩)));have HS:=Z (fun(W:World)=>s8 s hf i (Nat.le_of_lt hi) W);clear hd;cases hs:Dc s i with
   | none=>
     have HQ:=Z (show AK s i= .bad i by rw[HM2.out,hs]);rw[hs]at HS;clear hs;go_wp2_with fail;go_region_with(go_at_call 175;refine(HD.out _).mono ?_;rintro e w5 ⟨rfl,g5⟩);all_goals
      have bU{P}(h:P:=by
      go_region_with(go_at_call 176;refine(HS.out _).mono ?_;rintro e w6 ⟨rfl,g6⟩);all_goals
       have HT6:=Z ((HT5.out.gbN (An (Aj _ _))).gbN g6);have f1:=HT6.out.rl.c1;go_wp2_with fail;refine(Kx HT6.out.rl i).mono ?_;rintro e w7 ⟨rfl,h7,g7⟩;have HE:=Z (Ac g7 h7);have hb6:=HT6.out.rl.lt;clear g7 h7;go_wp2;go_end0;exact Ju HQ.out (HT6.out.below.trans (EA HE.out.1 Ab)) HE.out.2):=Aa h
      exact Su
   | some x=>
     obtain⟨hx1,hx2,_⟩:=Pu hs;have hx3:=Kv hx1;have HQ:=Z (show AK s i= .tok ⟨4,i,x⟩ (i+x.length) true by rw[HM2.out,hs]);rw[hs]at HS;have hne:(x==[])=false:=by
      cases x with
      |nil=>simp at hx3
      |cons a r=>rfl
     clear hs hx1;go_wp2_with fail;go_region_with(go_at_call 175;refine(HD.out _).mono ?_;rintro e w5 ⟨rfl,g5⟩);all_goals
      have bU{P}(h:P:=by
      go_region_with(go_at_call 176;refine(HS.out _).mono ?_;rintro e w6 ⟨rfl,g6⟩);all_goals
       have HT6:=Z ((HT5.out.gbN (An (Aj _ _))).gbN g6);have HP:=Z (KK HT6.out.rl 4 x x.length Ab hc);go_wp2_with fail;refine HP.out.mono ?_;rintro e w7 ⟨rfl,hB6,ov6,h6⟩;have HE:=Z (Ac hB6 h6);clear hB6 h6;go_wp2;go_end0;exact Jv HQ.out (HT6.out.below.trans HE.out.1) HE.out.2):=Aa h
      exact Su):=Aa h
 exact Jc):=Aa h;exact MZ):=Aa h;exact Gw
theorem Uq(h:Rl w b s i line (-1) ov pre)(hi:i<s.length)(hc:pre.length≤100000):
 Calls Tryz.prog 125 #[.pointer (some ⟨b,0,none⟩)] w (Cu w b s (AK s i) pre):=by
 cases h1:cls 1 (bAt s i)with
 |true=>exact pR h hi hc h1
 | false=>
   cases h2:cls 2 (bAt s i)with
   |true=>exact q7 h hi hc h1 h2
   | false=>
     by_cases hq:bAt s i=34∨bAt s i=39
     ·exact l3 h hi hc hq
     ·exact pQ h hi hc h1 h2 hq
end
theorem tH{s:Bs}{j:Nat}{l:Bool}(h:j<s.length)(hb:cls 3 (bAt s j)=true):Bt s j l= .again (j+1) l:=by
 unfold Bt;rw[if_neg Ab,if_neg (PA hb),if_pos hb]
section
variable {w:World}{b:Nat}{s:Bs}{i:Nat}{line:Bool}{ov:Value}{pre:List Tok}
theorem yD(h:Rl w b s i line (-1) ov pre)(hi:i<s.length)(hc:pre.length≤100000)(h10:bAt s i=10):
 Calls Tryz.prog 91 #[.pointer (some ⟨b,0,none⟩)] w (Cu w b s (Bt s i line) pre):=by
 have Gz{P}(h:P:=by
 rw[h10]at hg;have HM:=Z (Xc (l:=line) hi h10);have HH:=Z h;clear h h10;have It{P}(h:P:=by
 go_wp2_with fail;refine(WI HT.out.rl hc).mono ?_;rintro e w1 ⟨rfl,hB,ov1,h1⟩;have HE:=Z (Ac hB h1);have c1:=h1.c1;have f1:=h1.fr 1;have hb1:=h1.lt;clear hB h1;go_wp2;go_end0;have h2:=HE.out.2.go _ (i+1) rfl Ab;have gB:=HT.out.below.trans (HE.out.1.trans (EA (A7 (Aj _ _) ⟨b,1,none⟩ (.int .i64 ((i:Int)+1)) (.inl rfl)) Ab));rw[HM.out];cases line with
 |true=>exact Jv rfl gB h2
 |false=>exact Mo rfl gB h2):=Aa h;exact Ij):=Aa h;exact Gw
theorem pP(h:Rl w b s i line (-1) ov pre)(hi:i<s.length)(hb3:cls 3 (bAt s i)=true):
 Calls Tryz.prog 91 #[.pointer (some ⟨b,0,none⟩)] w (Cu w b s (Bt s i line) pre):=by
 have Gz{P}(h:P:=by
 have h10:(((bAt s i).toNat:Int)==10)=false:=by
  rw[show(((bAt s i).toNat:Int)==10)=(bAt s i==10)from u8i (n:=10) Ad];simpa using PA hb3
 have HM:=Z (tH (l:=line) hi hb3);have HH:=Z h;have HC:=Z hb3;clear h hb3;have It{P}(h:P:=by have c1:=HT.out.rl.c1;have f1:=HT.out.rl.fr 1;have Hf{P}(h:P:=by rw[HC.out];go_wp2;go_end0;exact Mo HM.out (HT.out.below.trans (EA (A7 (Aj _ _) ⟨b,1,none⟩ (.int .i64 ((i:Int)+1)) (.inl rfl)) (by have:=HT.out.rl.lt;omega))) (HT.out.rl.go _ (i+1) rfl Ab)):=Aa h;exact Ha):=Aa h;exact Ij):=Aa h;exact Gw
theorem WZ{w W w':World}{line:Bool} (hM:Bt s i line=match Bw s i with
 |some k=> .bad k
 |none=> .again (Az s i) line) (hB:Below b w W) (hw:b≤W.heap.size) (g:W.grownBy w' (some b)) (h:Rl w' b s (Az s i) line (Cq s i (Az s i)) ov pre):Cu w b s (Bt s i line) pre (.returned (.tuple #[])) w':=by
 rw[hM];have e:=V2 s i;rw[e]at h;cases hc:Bw s i with
 |some k=>rw[hc]at h;exact Ju rfl (hB.trans (EA g hw)) h
 |none=>rw[hc]at h;exact Mo rfl (hB.trans (EA g hw)) h
theorem uP(h:Rl w b s i line (-1) ov pre)(hi:i<s.length)(hI:InvF s i line)(h10:bAt s i≠10)(hb3:cls 3 (bAt s i)=false)(hcom:((bAt s i==42&&!line)||Cf s i)=true):
 Calls Tryz.prog 91 #[.pointer (some ⟨b,0,none⟩)] w (Cu w b s (Bt s i line) pre):=by
 have Gz{P}(h:P:=by
 have HM:=Z (P3 hi h10 hb3 hcom);have h10':(((bAt s i).toNat:Int)==10)=false:=by
  rw[show(((bAt s i).toNat:Int)==10)=(bAt s i==10)from u8i (n:=10) Ad];simpa using h10
 have HH:=Z h;have HC:=Z hb3;clear h hb3 h10;cases ha:Cf s i with
 | true=>
   have HA:=Z ha;clear ha hcom;have It{P}(h:P:=by have Hf{P}(h:P:=by rw[HC.out];go_wp2_with fail;refine(Od HT.out.rl hi).mono ?_;rintro e w1 ⟨rfl,g1⟩;rw[HA.out];have HT1:=Z (HT.out.gbN g1);have c1:=HT1.out.rl.c1;go_wp2_with fail;refine(P0 HT1.out.rl i Ab).mono ?_;rintro e w2 ⟨rfl,g2⟩;have HT2:=Z (HT1.out.gbN g2);go_wp2_with fail;refine(OY HT2.out.rl).mono ?_;rintro e w3 ⟨rfl,h3,g3⟩;have HE:=Z (Ac h3 g3);clear h3 g3;go_wp2;go_end0;exact WZ HM.out HT2.out.below (Nat.le_of_lt HT2.out.rl.lt) HE.out.2 HE.out.1):=Aa h;exact Ha):=Aa h;exact Ij
 | false=>
   rw[ha,Bool.or_false]at hcom;simp only[Bool.and_eq_true,beq_iff_eq,Bool.not_eq_true']at hcom;obtain⟨h42,rfl⟩:=hcom;have hfi:Dw s i=true:=by
    rcases hI rfl hi with h|h
    ·exact h
    ·rw[h42]at h;cases h
   have h42':(((bAt s i).toNat:Int)==42)=true:=by rw[h42];rfl
   have HA:=Z (Ac ha hfi);clear ha h42 hfi;have It{P}(h:P:=by have Hf{P}(h:P:=by rw[HC.out];go_wp2_with fail;refine(Od HT.out.rl hi).mono ?_;rintro e w1 ⟨rfl,g1⟩;rw[HA.out.1];have HT1:=Z (HT.out.gbN g1);have c1:=HT1.out.rl.c1;have c2:=HT1.out.rl.c2;go_wp2_with fail;refine(qY HT1.out.rl).mono ?_;rintro e w2 ⟨rfl,g2⟩;rw[HA.out.2];have HT2:=Z (HT1.out.gbN g2);have d1:=HT2.out.rl.c1;go_wp2_with fail;refine(P0 HT2.out.rl i Ab).mono ?_;rintro e w3 ⟨rfl,g3⟩;have HT3:=Z (HT2.out.gbN g3);go_wp2_with fail;refine(OY HT3.out.rl).mono ?_;rintro e w4 ⟨rfl,h4,g4⟩;have HE:=Z (Ac h4 g4);clear h4 g4;go_wp2;go_end0;exact WZ HM.out HT3.out.below (Nat.le_of_lt HT3.out.rl.lt) HE.out.2 HE.out.1):=Aa h;exact Ha):=Aa h;exact Ij):=Aa h
 exact Gw
theorem Wm{w W w':World}{line:Bool}{j:Nat} (hM:Bt s i line=if BF s (AE s (i+1))then
 match Bw s (AE s (i+1))with
 |some k=> .bad k
 |none=> .again (BJ s (AE s (i+1))) line
 else .bad i) (hg:BF s (AE s (i+1))=true) (hj:j=BJ s (i+1)) (hB:Below b w W) (hw:b≤W.heap.size) (g:W.grownBy w' (some b)) (h:Rl w' b s j line (Cq s (i+1) (Az s (i+1))) ov pre):Cu w b s (Bt s i line) pre (.returned (.tuple #[])) w':=by
 rw[hM,if_pos hg,nU,lC];have e:=V2 s (i+1);rw[e]at h;subst hj;cases hc:Bw s (i+1)with
 |some k=>rw[hc]at h;exact Ju rfl (hB.trans (EA g hw)) h
 |none=>rw[hc]at h;exact Mo rfl (hB.trans (EA g hw)) h
theorem q5(h:Rl w b s i line (-1) ov pre)(hi:i<s.length)(hb3:cls 3 (bAt s i)=false)(hcom:((bAt s i==42&&!line)||Cf s i)=false)(h59:bAt s i=59)(hgo:BF s (AE s (i+1))=true):
 Calls Tryz.prog 91 #[.pointer (some ⟨b,0,none⟩)] w (Cu w b s (Bt s i line) pre):=by
 have Gz{P}(h:P:=by
 have h10:bAt s i≠10:=by rw[h59];decide
 have HM:=Z (Px hi h10 hb3 hcom h59);have ha:Cf s i=false:=by rw[Bool.or_eq_false_iff]at hcom;exact hcom.2
 rw[h59]at hg hb3;have HH:=Z h;have HC:=Z (Ac hb3 (Ac ha hgo));clear h hb3 h10 hcom ha hgo;have hle:Az s (i+1)≤s.length:=Cp Ab;have It{P}(h:P:=by
 have h59':((59:UInt8).toNat:Int)=59:=rfl;go_wp2_with fail;refine(Kr 59 _).mono ?_;have NK{P}(h:P:=by
 go_wp2_with fail;refine(UO HT1.out.rl hi).mono ?_;rintro e w2 ⟨rfl,g2⟩;rw[HC.out.2.2];have HT2:=Z (HT1.out.gbN g2);have c1:=HT2.out.rl.c1;have f1:=HT2.out.rl.fr 1;have HG:=Z (HT2.out.rl.go _ (i+1) (Int.natCast_succ i).symm Ab);have hb2:=HT2.out.rl.lt;go_wp2_with fail;refine(P0 HG.out (i+1) Ab).mono ?_;rintro e w3 ⟨rfl,g3⟩;have HG3:=Z (HG.out.gbN g3);go_wp2_with fail;refine(OY HG3.out).mono ?_;rintro e w4 ⟨rfl,h4,g4⟩;have gA:w2.grownBy w4 (some b):=Ah (Ah (A7 (Aj _ _) _ _ (.inl rfl)) (AY g3)) g4;have HE:=Z (Ac h4 gA);have d0:=h4.c0;have d1:=h4.c1;have hb4:=h4.lt;clear h4 g4 gA;by_cases hl:Az s (i+1)<s.length
 ·have hl1:decide (Az s (i+1)<s.length)=true:=by simpa using hl
  go_wp2_with fail;go_quiet(fail);have f1:=(HE.out.1.drewN nq).fr 1;have e1:=(HE.out.1.drewN nq).c1;have HJ:=Z (show Az s (i+1)+1=BJ s (i+1)by unfold BJ;rw[if_pos hl]);have HR:=Z ((HE.out.1.drewN nq).go _ (Az s (i+1)+1) (Int.natCast_succ _).symm Ab);go_wp2;go_end0;exact Wm HM.out HC.out.2.2 HJ.out HT2.out.below Ab (A7 (AA HE.out.2 _) _ _ (.inl rfl)) HR.out
 ·have hl1:decide (Az s (i+1)<s.length)=false:=by simpa using hl
  have HJ:=Z (show Az s (i+1)=BJ s (i+1)by unfold BJ;rw[if_neg hl]);go_wp2_with fail;go_quiet(fail);go_wp2;go_end0;exact Wm HM.out HC.out.2.2 HJ.out HT2.out.below Ab (AA HE.out.2 _) (HE.out.1.drewN nq)):=Aa h
 exact Nh):=Aa h;exact Ij):=Aa h;exact Gw
theorem VK(h:Rl w b s i line (-1) ov pre)(hi:i<s.length)(hc:pre.length≤100000)(h10:bAt s i≠10)(hb3:cls 3 (bAt s i)=false)(hcom:((bAt s i==42&&!line)||Cf s i)=false)
 (hsemi:bAt s i=59→BF s (AE s (i+1))=false):
 Calls Tryz.prog 91 #[.pointer (some ⟨b,0,none⟩)] w (Cu w b s (Bt s i line) pre):=by
 have hM:Bt s i line=AK s i:=by
  by_cases h59:bAt s i=59
  ·rw[Px hi h10 hb3 hcom h59,if_neg (by rw[hsemi h59];simp),oY hi h59]
  ·exact Wp hi h10 hb3 hcom h59
 rw[hM];have Gz{P}(h:P:=by
 have h10':(((bAt s i).toNat:Int)==10)=false:=by
  rw[show(((bAt s i).toNat:Int)==10)=(bAt s i==10)from u8i (n:=10) Ad];simpa using h10
 rw[Bool.or_eq_false_iff]at hcom;have HH:=Z h;have HC:=Z (Ac hb3 (Ac hcom.2 hsemi));have h42:(((bAt s i).toNat:Int)==42)=false∨line=true:=by
  rw[show(((bAt s i).toNat:Int)==42)=(bAt s i==42)from u8i (n:=42) Ad];have:=hcom.1;cases hx:bAt s i==42 with
  |false=>exact .inl rfl
  |true=>rw[hx]at this;simp at this;exact .inr this
 have h59:(((bAt s i).toNat:Int)==59)=(bAt s i==59):=u8i (n:=59) Ad;clear h hb3 h10 hcom hsemi hM;cases hx:bAt s i==59 with
 | true=>
   have hx2:bAt s i=59:=by simpa using hx
   rw[hx]at h59;have h42':(((bAt s i).toNat:Int)==42)=false:=by rw[hx2];rfl
   have HS:=Z (HC.out.2.2 hx2);clear h42 hx hx2;have It{P}(h:P:=by go_wp2_with fail;refine(Kr _ _).mono ?_;have NK{P}(h:P:=by go_wp2_with fail;refine(UO HT1.out.rl hi).mono ?_;rintro e w2 ⟨rfl,g2⟩;rw[HS.out];have HT2:=Z (HT1.out.gbN g2);go_wp2_with fail;refine(Uq HT2.out.rl hi hc).mono ?_;rintro e w3 h3;obtain⟨rfl,_⟩:=id h3;have H3:=Z h3;clear h3;go_wp2;go_end0;exact OO HT2.out.below H3.out):=Aa h;exact Nh):=Aa h;exact Ij
 | false=>
   rw[hx]at h59;clear hx;have h42c:(((bAt s i).toNat:Int)==42)=false∨((((bAt s i).toNat:Int)==42)=true∧line=true):=by
    cases hq:(((bAt s i).toNat:Int)==42)with
    |false=>exact .inl rfl
    |true=>rw[hq]at h42;rcases h42 with h|h;cases h;exact .inr ⟨rfl,h⟩
   clear h42;rcases h42c with h42| ⟨h42,rfl⟩
   ·skip;have It{P}(h:P:=by go_wp2_with fail;refine(Kr _ _).mono ?_;have NK{P}(h:P:=by exact ZZ):=Aa h;exact Nh):=Aa h;exact Ij
   ·skip;have It{P}(h:P:=by go_wp2_with fail;refine(Kr _ _).mono ?_;have NK{P}(h:P:=by have c2:=HT1.out.rl.c2;exact ZZ):=Aa h;exact Nh):=Aa h;exact Ij):=Aa h
 exact Gw
theorem uO(h:Rl w b s i line (-1) ov pre)(hi:i<s.length)(hI:InvF s i line)(hc:pre.length≤100000):
 Calls Tryz.prog 91 #[.pointer (some ⟨b,0,none⟩)] w (Cu w b s (Bt s i line) pre):=by
 by_cases h10:bAt s i=10
 ·exact yD h hi hc h10
 cases hb3:cls 3 (bAt s i)with
 |true=>exact pP h hi hb3
 | false=>
   cases hcom:((bAt s i==42&&!line)||Cf s i)with
   |true=>exact uP h hi hI h10 hb3 hcom
   | false=>
     cases hgo:BF s (AE s (i+1))with
     |false=>exact VK h hi hc h10 hb3 hcom (fun _=>hgo)
     | true=>
       by_cases h59:bAt s i=59
       ·exact q5 h hi hb3 hcom h59 hgo
       ·exact VK h hi hc h10 hb3 hcom (fun e=>absurd e h59)
end
def LxJ(w:World)(s:Bs)(m:Nat)(wr:World):Prop:=Below w.heap.size w wr∧
 ((∃i l ov pre n,Rl wr w.heap.size s i l (-1) ov pre∧InvF s i l∧pre.length+2*(s.length-i)+l.toNat≤2*s.length∧(BU s n i l).pre pre=EU s∧2*(s.length-i)+l.toNat<n∧2*(s.length-i)+l.toNat≤m)∨
  ∃(k:Nat)(j:Nat)(l:Bool)(ov:Value)(pre:List Tok),Rl wr w.heap.size s j l k ov pre∧EU s= .bad k)
theorem tQ{w W:World}{s:Bs}{ov:Value}(g:Below w.heap.size w W)(h:Rl W w.heap.size s 0 false (-1) ov []):LxJ w s (2*s.length) W:=
 ⟨g,.inl ⟨0,false,ov,[],2*s.length+1,h,InvF.start s,by simp,LexR.pre_nil _,by simp,by simp⟩⟩
theorem zN{w wr w':World}{s:Bs}{i n m:Nat}{l:Bool}{pre:List Tok}{e:Ending}(g:Below w.heap.size w wr)(hi:i<s.length)(hI:InvF s i l)(hp:pre.length+2*(s.length-i)+l.toNat≤2*s.length)
 (hL:(BU s n i l).pre pre=EU s) (hn:2*(s.length-i)+l.toNat<n) (hm:2*(s.length-i)+l.toNat≤m+1) (h:Cu wr w.heap.size s (Bt s i l) pre e w'):LxJ w s m w':=by
 obtain⟨_,hB,hr⟩:=h;have hI2:=vI hI;have hgo:=Uy s l (Nat.le_of_lt hi);obtain⟨n,rfl⟩:∃k,n=k+1:=⟨n-1,by omega⟩;rw[BU]at hL;refine⟨g.trans hB,?_⟩;cases hs:Bt s i l with
 | tok t j l'=>
   rw[hs]at hr hL hI2 hgo;obtain⟨ov,hR⟩:=hr;simp only[LexR.pre_cons]at hL;obtain⟨g1,g2,g3⟩:=hgo;exact .inl ⟨j,l',ov,pre++[t],n,hR,hI2,by simp;omega,hL,by omega,by omega⟩
 | again j l'=>
   rw[hs]at hr hL hI2 hgo;obtain⟨ov,hR⟩:=hr;obtain⟨g1,g2,g3⟩:=hgo;exact .inl ⟨j,l',ov,pre,n,hR,hI2,by omega,hL,by omega,by omega⟩
 | bad k=>
   rw[hs]at hr hL;obtain⟨j,l',ov,pre',hR⟩:=hr;exact .inr ⟨k,j,l',ov,pre',hR,hL.symm⟩
 |stop=>rw[hs]at hr;exact hr.elim
theorem zJ{s:Bs}{i n:Nat}{l:Bool}(hi:s.length≤i)(hn:l.toNat<n):BU s n i l= .ok (if l then [⟨5,i,[]⟩]else []):=by
 obtain⟨n,rfl⟩:∃k,n=k+1:=⟨n-1,by omega⟩;rw[BU,P4 hi];cases l with
 |false=>rfl
 | true=>
   simp only[Bool.toNat_true]at hn;obtain⟨n,rfl⟩:∃k,n=k+1:=⟨n-1,by omega⟩;simp only[if_true];rw[BU,P4 hi];rfl
theorem yC(w:World)(s:Bs):Calls Tryz.prog 59 #[str s] w (WQ w s):=by
 by_cases hl:4000<s.length
 ·have HP:=Z hl;have hl1:decide ((4000:Int)<s.length)=true:=Ag;go_enter func59,ntmps59;go_wp2;exact bodyPost_ret (v:= .tuple #[.slice none 0 0,.int .i64 0,.int .i64 3]) MK rfl ⟨Aj _ _,by rw[if_pos HP.out]⟩
 ·have HP:=Z hl;have hl1:decide ((4000:Int)<s.length)=false:=Ag;have hs4:s.length≤4000:=Ab;have h0:=Blk.new w [str s,.int .i64 0,.bool false,.int .i64 (-1),.slice none 0 0] 122;have hR:Rl (w.alloc (.cells [str s,.int .i64 0,.bool false,.int .i64 (-1),.slice none 0 0].toArray 122 (0,0))) w.heap.size s 0 false (-1) (.slice none 0 0) []:=
   ⟨h0,World.ownsRow_nil _ _ _ _,Nat.zero_le _,hs4⟩
  have HJ:=Z (tQ (PB (World.grownBy_alloc w _ none)) hR);clear h0 hR hl;go_enter func59,ntmps59;go_wp2_with fail;go_loopg [] (2*s.length) (fun g wr=>LxJ w s g wr)
  case atStart=>exact HJ.out
  case round=>
   obtain⟨hB,⟨i,l,ov,pre,n,hr,hI,hp,hL,hn,hm⟩| ⟨k,j,l,ov,pre,hr,hL⟩⟩:=hrel
   ·have c1:=hr.c1;have c3:=hr.c3;by_cases hi:i<s.length
    ·have hj1:decide (i<s.length)=true:=by simpa using hi
     obtain⟨gk,rfl⟩:∃g',gk=g'+1:=⟨gk-1,by omega⟩;have HX:=Z (Ac hB (Ac hI (Ac hp (Ac hL (Ac hn hm)))));have HS:=Z (uO hr hi hI Ab);clear hB hI hp hL hn hm hr HJ;go_wp2_with fail;refine HS.out.mono ?_;rintro e w1 h1;obtain⟨rfl,_⟩:=id h1;have H1:=Z h1;clear h1;go_wp2;go_roundg gk
     case measure=>omega
     case rel=>exact zN HX.out.1 hi HX.out.2.1 HX.out.2.2.1 HX.out.2.2.2.1 HX.out.2.2.2.2.1 HX.out.2.2.2.2.2 H1.out
    ·have hj1:decide (i<s.length)=false:=by simpa using hi
     have hA:=zJ (s:=s) (i:=i) (l:=l) (n:=n) Ab Ab;rw[hA]at hL;have hLa:EU s= .ok (if l then pre++[⟨5,i,[]⟩]else pre):=by
      rw[←hL];cases l<;>simp[LexR.pre]
     have HE:=Z (WI hr Ab);have HB:=Z hB;have HL:=Z hLa;have hlen:(if l then pre++[(⟨5,i,[]⟩:Tok)]else pre).length≤100000:=by split<;>(try simp)<;>omega
     clear hB hI hp hL hn hm hr HJ hA hLa;generalize(if l then pre++[(⟨5,i,[]⟩:Tok)]else pre)=T at*;go_wp2_with fail;refine HE.out.mono ?_;rintro e w1 ⟨rfl,hB1,ov1,h1⟩;have hT:=U2 h1.row;obtain⟨a,cap,rfl,_⟩:=id hT;have d4:=h1.c4;have hb1:=h1.lt;have HT:=Z (hT.mono (ok':=Ap w.heap.size) fun k hk _=>by simp at hk ⊢;omega);have HG:=Z (OS (HB.out.trans hB1));clear hT h1 hB1;by_cases hm:1200<T.length
     ·have HM:=Z hm;have hm1:decide ((1200:Int)<T.length)=true:=Ag;clear hm;go_wp2;exact bodyPost_ret (v:= .tuple #[.slice none 0 0,.int .i64 0,.int .i64 3]) MK rfl ⟨HG.out,by rw[if_neg HP.out,HL.out];show ite _ _ _;rw[if_pos HM.out]⟩
     ·have HM:=Z hm;have hm1:decide ((1200:Int)<T.length)=false:=Ag;clear hm;go_wp2;go_quiet(fail);go_wp2;refine bodyPost_ret (v:= .tuple #[.slice a T.length cap,.int .i64 T.length,.int .i64 0]) MK rfl ⟨AA HG.out _,?_⟩;rw[if_neg HP.out,HL.out];show ite _ _ _;rw[if_neg HM.out];exact⟨_,rfl,HT.out.gb (AA (Aj _ none) _) Ae⟩
   ·have c1:=hr.c1;have c3:=hr.c3;have hlt:=hr.lt;have HG:=Z (OS hB);have HL:=Z hL;have hk0:decide ((0:Int)≤k)=true:=Ae;have hk1:decide ((k:Int)<0)=false:=Ae;clear hr hB hL HJ;by_cases hj:j<s.length
    ·have hj1:decide (j<s.length)=true:=by simpa using hj
     exact Z9
    ·have hj1:decide (j<s.length)=false:=by simpa using hj
     exact Z9
theorem Aao(b:UInt8):(decide (48≤b)&&decide (b≤57))=Bc b:=by
 unfold Bc;rw[Bool.eq_iff_iff];simp only[Bool.and_eq_true,decide_eq_true_eq,UInt8.le_iff_toNat_le];exact Iff.rfl
theorem OG{l:List Tok}(h:∀i,At (Af l i)):Al l:=by
 intro i hk;obtain⟨⟨c,r,e,hc⟩,ha⟩:=(h i).word hk;rw[e]at ha ⊢;unfold DG;simp only[Aao,hc,ha,List.isEmpty_cons,Bool.not_false,Bool.true_and,Bool.and_true]
def WS(w:World)(s:Bs)(e:Ending)(w':World):Prop:=w.grownBy w' none∧
 match Dx s with
  | .ok l=>∃v,e= .returned (.tuple #[v,.int .i64 l.length,.int .i64 0])∧TRow w' v l (Ap w.heap.size)∧(∀i,At (Af l i))∧l.length≤1200
  | .error pc=>e= .returned (.tuple #[.slice none 0 0,.int .i64 pc.1,.int .i64 pc.2])∧(pc.2=2∨pc.2=3)
theorem pO(w:World)(s:Bs):Calls Tryz.prog 59 #[str s] w (WS w s):=by
 refine(yC w s).mono ?_;rintro e w1 ⟨g,h⟩;refine⟨g,?_⟩;unfold Dx;by_cases h4:4000<s.length
 ·rw[if_pos h4]at h ⊢;exact⟨h,.inr rfl⟩
 rw[if_neg h4]at h ⊢;cases hl:EU s with
 |out=>exact absurd hl (LZ s)
 |bad k=>rw[hl]at h;exact⟨h,.inl rfl⟩
 | ok l=>
   rw[hl]at h;replace h:ite _ _ _:=h;simp only[];by_cases hm:1200<l.length
   ·rw[if_pos hm]at h ⊢;exact⟨h,.inr rfl⟩
   ·rw[if_neg hm]at h ⊢;obtain⟨v,rfl,ht⟩:=h;exact⟨v,rfl,ht,fun i=>KG (PL Ab _ _ _ _ hl) i,by omega⟩
theorem rE(w:World)(s:Bs):Calls Tryz.prog 27 #[str s] w (WS w s):=by
 have HL:=Z (pO w s);go_enter func27,ntmps27;go_wp2_with fail;refine HL.out.mono ?_;rintro e w1 ⟨g1,h1⟩;cases hq:Dx s with
 | error pc=>
   rw[hq]at h1;obtain⟨rfl,hc⟩:=h1;have HQ:=Z (Ac hq (Ac hc g1));have hc1:(pc.2 !=0)=true:=Ag;clear hq hc g1;go_wp2;refine bodyPost_ret (v:= .tuple #[.slice none 0 0,.int .i64 pc.1,.int .i64 pc.2]) (by simp[results,results27,go_sem]) rfl ⟨HQ.out.2.2,?_⟩;rw[HQ.out.1];exact⟨rfl,HQ.out.2.1⟩
 | ok l=>
   rw[hq]at h1;obtain⟨v,rfl,hT,hok,hl⟩:=h1;obtain⟨ta,tc,rfl,_⟩:=id hT;have HQ:=Z (Ac hq (Ac hT (Ac hok (Ac hl g1))));clear hq hT hok hl g1;go_wp2;refine bodyPost_ret (v:= .tuple #[.slice ta l.length tc,.int .i64 l.length,.int .i64 0]) (by simp[results,results27,go_sem]) rfl ⟨HQ.out.2.2.2.2,?_⟩;rw[HQ.out.1];exact⟨_,rfl,HQ.out.2.1,HQ.out.2.2.1,HQ.out.2.2.2.1⟩
end Go.Proofs.YtmcajbhljbbglaaGreatDoor
