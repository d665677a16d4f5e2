/-
  An append whose last element is stored behind it: the kept statement while the element is pending. A scope that a function keeps in a block of its own, beside the map of the words of scopes. The refer
-/
import Derived.Test.YtmcajbhljbbglaaGreatDoorSpF
import Derived.Test.YtmcajbhljbbglaaGreatDoorSp32
import Derived.Test.YtmcajbhljbbglaaGreatDoorSp27
set_option linter.all false
set_option maxRecDepth 100000
set_option maxHeartbeats 8000000
namespace Go.Proofs.YtmcajbhljbbglaaGreatDoor
open Tryz
open Go.RowKit
theorem KB{w:World}{g i:Nat}{u:Value}(h:w.cell? ⟨g,i,none⟩=some u):w.cell? ((⟨g,0,none⟩:Addr).add i)=some u:=by
 have e:(⟨g,0,none⟩:Addr).add i=⟨g,i,none⟩:=MJ;rw[e];exact h
structure KX(b:Nat)(w:World)(L:Nat)(wr:World)(o:Int)(s t:Bs)(p:List Bs)(f:Fo)(g:Bl)(c4 pv xv bv:Value):Prop where
 blk:Blk wr L [.int .i64 o,str s,str t,pv,c4,bv,.int .i64 0,.slice none 0 0,.slice none 0 0,.slice none 0 0] 50
 p:wr.ownsRow (w.heap.size+1) 9 1 pv p.length (p.map str)
 x:∃cs,wr.ownsRow (w.heap.size+1) 29 7 xv f.len cs∧RepF (fre w L pv xv bv) wr f cs
 bb:∃cs,wr.ownsRow (w.heap.size+1) 43 1 bv g.len cs∧RepT (fre w L pv xv bv) wr g true cs
 gr:w.grownBy wr (some b)
 bw:b<w.heap.size
 wL:w.heap.size<L
 zero:Blk wr w.heap.size (stC 0 (.slice none 0 0)) 50
structure KP(b:Nat)(w:World)(L:Nat)(wr:World)(o:Int)(s t:Bs)(p:List Bs)(f:Fo)(g:Bl)(c4 pv:Value)(j cap:Nat)(bv:Value):Prop where
 blk:Blk wr L [.int .i64 o,str s,str t,pv,c4,bv,.int .i64 0,.slice none 0 0,.slice none 0 0,.slice none 0 0] 50
 p:wr.ownsRow (w.heap.size+1) 9 1 pv p.length (p.map str)
 x:∃cs z,z.length=7∧cs.length=f.len*7∧wr.ownsRow (w.heap.size+1) 29 7 (.slice (some ⟨j,0,none⟩) (f.len+1) cap) (f.len+1) (cs++z)∧RepF (fre w L pv (.slice (some ⟨j,0,none⟩) (f.len+1) cap) bv) wr f cs
 bb:∃cs,wr.ownsRow (w.heap.size+1) 43 1 bv g.len cs∧RepT (fre w L pv (.slice (some ⟨j,0,none⟩) (f.len+1) cap) bv) wr g true cs
 gr:w.grownBy wr (some b)
 bw:b<w.heap.size
 wL:w.heap.size<L
 zero:Blk wr w.heap.size (stC 0 (.slice none 0 0)) 50
section
variable {b:Nat}{w wr w1:World}{L:Nat}{o:Int}{s t:Bs}{p:List Bs}{f:Fo}{g:Bl}{c4 pv xv bv:Value}{j cap:Nat}
theorem KP.lt(k:KP b w L wr o s t p f g c4 pv j cap bv):L<wr.heap.size:=k.blk.lt
theorem KP.bj(k:KP b w L wr o s t p f g c4 pv j cap bv):b<j∧w.heap.size<j∧j<wr.heap.size:=by
 obtain⟨cs,z,_,_,hx,_⟩:=k.x;have h:=hx.lt j (by simp[Value.ownBlock]);have:=k.bw;exact⟨by omega,by omega,h.2⟩
theorem KP.bL(k:KP b w L wr o s t p f g c4 pv j cap bv):b<L:=Qp
theorem KA.shapeX(k:KA b w L wr o s t p f g pv xv bv):∃xa xc,xv= .slice xa f.len xc:=by
 obtain⟨cs,h,_⟩:=k.x;obtain⟨a,c,e,_⟩:=GE h;exact⟨a,c,e⟩
theorem KA.pend(k:KA b w L wr o s t p f g pv xv bv){cs z:List Value}(hz:z.length=7)(hx:wr.ownsRow (w.heap.size+1) 29 7 xv f.len cs)(hr:RepF (fre w L pv xv bv) wr f cs)
 (ho:w1.ownsRow (w.heap.size+1) 29 7 (.slice (some ⟨j,0,none⟩) (f.len+1) cap) (f.len+1) (cs++z)) (hg:wr.grownBy w1 xv.ownBlock) (hat:xv.ownBlock=some j∨j=wr.heap.size):
 KP b w L w1 o s t p f g xv pv j cap bv:=by
 have hwL:=k.wL;have hLt:=k.lt;have hbw:=k.bw;have hnew:∀q,(Value.slice (some ⟨j,0,none⟩) (f.len+1) cap).ownBlock=some q→xv.ownBlock=some q∨wr.heap.size≤q:=fun q hq=>I6 hat hq;obtain⟨ds,h3,h4⟩:=k.bb;have nL:=Cm hx k.blk Ad;have nP:=GL k.p hx Ad;have nB:=GL h3 hx Ad;have nZ:xv.ownBlock≠some w.heap.size:=fun e=>by have:=(k.belowX _ e).2;omega
 have hfre:∀q,fre w L pv xv bv q→q<wr.heap.size→fre w L pv (.slice (some ⟨j,0,none⟩) (f.len+1) cap) bv q∧xv.ownBlock≠some q:=fun q hq hlt=>⟨⟨hq.1,hq.2.1,hq.2.2.1,fun e=>by(rcases hnew _ e with h|h;exact hq.2.2.2.1 h;omega),hq.2.2.2.2⟩,hq.2.2.2.1⟩;have hne:∀q,(fre w L pv (.slice (some ⟨j,0,none⟩) (f.len+1) cap) bv q∧xv.ownBlock≠some q)→q<wr.heap.size→some q≠xv.ownBlock:=fun q hq _ e=>hq.2 e.symm;have keep:∀{e size n:Nat}{v:Value}{xs:List Value},wr.ownsRow (w.heap.size+1) e size v n xs→(∀q,v.ownBlock=some q→xv.ownBlock≠some q)→w1.ownsRow (w.heap.size+1) e size v n xs:=by
  intro e size n v xs h a1;refine h.kept hg ?_;cases hv:v.ownBlock with
  |none=>exact .inl rfl
  |some q=>exact .inr fun e=>a1 q hv e.symm
 exact⟨k.blk.gb hg (fun e=>nL e.symm),keep k.p nP,⟨cs,z,hz,hr.len,ho,((hr.mono' hfre).gb hg hne).mono' fun q hq _=>hq.1⟩,⟨ds,keep h3 nB,((RepT.mono hfre h4).gb hg hne).mono' fun q hq _=>hq.1⟩,C0 k.gr hg fun q hq=>by(have:=(k.belowX q hq).2;omega),hbw,hwL,k.zero.gb hg (fun e=>nZ e.symm)⟩
theorem KP.put4(k:KP b w L wr o s t p f g c4 pv j cap bv)(v:Value):KP b w L (wr.setCell ⟨L,4,none⟩ v) o s t p f g v pv j cap bv:=by
 have hwL:=k.wL;have g1:=As (Aj wr (some L)) 4 v;obtain⟨cs,z,hz,hc,h1,h2⟩:=k.x;obtain⟨ds,h3,h4⟩:=k.bb;have keep:∀{e size n:Nat}{u:Value}{xs:List Value},wr.ownsRow (w.heap.size+1) e size u n xs→e≠50→(wr.setCell ⟨L,4,none⟩ v).ownsRow (w.heap.size+1) e size u n xs:=by
  intro e size n u xs h hne;have h1:=Cm h k.blk hne;refine h.kept g1 ?_;exact QN
 have hne2:∀q,fre w L pv (.slice (some ⟨j,0,none⟩) (f.len+1) cap) bv q→q<wr.heap.size→some q≠some L:=fun q hq _ e=>by cases e;exact hq.2.1 rfl
 exact⟨(k.blk.set 4 _).of_eq rfl rfl,keep k.p Ad,⟨cs,z,hz,hc,keep h1 Ad,h2.gb g1 hne2⟩,⟨ds,keep h3 Ad,h4.gb g1 hne2⟩,A5 k.gr g1 (.inr Ab),k.bw,hwL,k.zero.gb g1 Ag⟩
def Dd(w:World)(j n:Nat)(v0 v1 v2 v3 v4 v5 v6:Value):World:=
 ((((((w.setCell ⟨j,n,none⟩ v0).setCell ⟨j,n+1,none⟩ v1).setCell ⟨j,n+2,none⟩ v2).setCell ⟨j,n+3,none⟩ v3).setCell ⟨j,n+4,none⟩ v4).setCell ⟨j,n+5,none⟩ v5).setCell ⟨j,n+6,none⟩ v6
theorem KJ(w:World)(j n:Nat)(v0 v1 v2 v3 v4 v5 v6:Value):w.grownBy (Dd w j n v0 v1 v2 v3 v4 v5 v6) (some j):=
 As (As (As (As (As (As (As (Aj w (some j)) n v0) (n+1) v1) (n+2) v2) (n+3) v3) (n+4) v4) (n+5) v5) (n+6) v6
theorem yR{cs z:List Value}{n:Nat}(hn:cs.length=n)(hz:z.length=7)(v0 v1 v2 v3 v4 v5 v6:Value):
 (((((((cs++z).set n v0).set (n+1) v1).set (n+2) v2).set (n+3) v3).set (n+4) v4).set (n+5) v5).set (n+6) v6=cs++[v0,v1,v2,v3,v4,v5,v6]:=by
 subst hn;match z,hz with
 | [a0,a1,a2,a3,a4,a5,a6],_=>simp[List.set_append]
theorem tU{B e j m cap n:Nat}{cs z:List Value}(h:wr.ownsRow B e 7 (.slice (some ⟨j,0,none⟩) m cap) m (cs++z))(hn:cs.length=n)(hz:z.length=7)(v0 v1 v2 v3 v4 v5 v6:Value):
 (Dd wr j n v0 v1 v2 v3 v4 v5 v6).ownsRow B e 7 (.slice (some ⟨j,0,none⟩) m cap) m (cs++[v0,v1,v2,v3,v4,v5,v6]):=by
 rw[←yR hn hz];exact(((((((h.stored n v0).1.stored (n+1) v1).1.stored (n+2) v2).1.stored (n+3) v3).1.stored (n+4) v4).1.stored (n+5) v5).1.stored (n+6) v6).1
theorem KP.last(k:KP b w L wr o s t p f g c4 pv j cap bv){x:Ex}{pa la:Option Addr}{pc lc:Nat}
 (rp:Cells wr (.slice pa x.h.p.length pc) 1 x.h.p.length (x.h.p.map str) (fre w L pv (.slice (some ⟨j,0,none⟩) (f.len+1) cap) bv)) (rl:RepL (fre w L pv (.slice (some ⟨j,0,none⟩) (f.len+1) cap) bv) wr (.slice la x.kids.len lc) x.kids):
 KX b w L (Dd wr j (f.len*7) (.int .i64 x.h.op) (str x.h.s) (.int .i64 x.h.vk) (.int .i64 x.h.vn) (str x.h.vs) (.slice pa x.h.p.length pc) (.slice la x.kids.len lc)) o s t p (f.snoc x) g c4 pv (.slice (some ⟨j,0,none⟩) (f.len+1) cap) bv:=by
 have hwL:=k.wL;have hbj:=k.bj;obtain⟨cs,z,hz,hc,h1,h2⟩:=k.x;obtain⟨ds,h3,h4⟩:=k.bb;have g1:=KJ wr j (f.len*7) (.int .i64 x.h.op) (str x.h.s) (.int .i64 x.h.vk) (.int .i64 x.h.vn) (str x.h.vs) (.slice pa x.h.p.length pc) (.slice la x.kids.len lc);have hown:(Value.slice (some ⟨j,0,none⟩) (f.len+1) cap).ownBlock=some j:=by simp[Value.ownBlock]
 have nL:=Cm h1 k.blk Ad;have keep:∀{e size n:Nat}{u:Value}{xs:List Value},wr.ownsRow (w.heap.size+1) e size u n xs→e≠29→(Dd wr j (f.len*7) (.int .i64 x.h.op) (str x.h.s) (.int .i64 x.h.vk) (.int .i64 x.h.vn) (str x.h.vs) (.slice pa x.h.p.length pc) (.slice la x.kids.len lc)).ownsRow (w.heap.size+1) e size u n xs:=by
  intro e size n u xs h hne;have h5:=GL h h1 hne;refine h.kept g1 ?_;cases hv:u.ownBlock with
  |none=>exact .inl rfl
  |some q=>exact .inr fun e=>by cases e;exact h5 _ hv hown
 have hne2:∀q,fre w L pv (.slice (some ⟨j,0,none⟩) (f.len+1) cap) bv q→q<wr.heap.size→some q≠some j:=fun q hq _ e=>by cases e;exact hq.2.2.2.1 hown
 refine⟨k.blk.gb g1 (fun e=>nL (by cases e;exact hown)),keep k.p Ad,⟨cs++hdC x.h (.slice pa x.h.p.length pc) (.slice la x.kids.len lc),?_,?_⟩,⟨ds,keep h3 Ad,h4.gb g1 hne2⟩,A5 k.gr g1 (.inr Ab),k.bw,hwL,k.zero.gb g1 Ag⟩
 ·rw[Fo.len_snoc];exact tU h1 hc hz _ _ _ _ _ _ _
 ·exact(h2.app (VE.rep rp rl)).gb g1 hne2
theorem KX.put4(k:KX b w L wr o s t p f g c4 pv xv bv):KA b w L (wr.setCell ⟨L,4,none⟩ xv) o s t p f g pv xv bv:=by
 have hwL:=k.wL;have g1:=As (Aj wr (some L)) 4 xv;obtain⟨cs,h1,h2⟩:=k.x;obtain⟨ds,h3,h4⟩:=k.bb;have keep:∀{e size n:Nat}{u:Value}{xs:List Value},wr.ownsRow (w.heap.size+1) e size u n xs→e≠50→(wr.setCell ⟨L,4,none⟩ xv).ownsRow (w.heap.size+1) e size u n xs:=by
  intro e size n u xs h hne;have h1:=Cm h k.blk hne;refine h.kept g1 ?_;exact QN
 have Rs{P}(h:P:=by exact⟨(k.blk.set 4 _).of_eq rfl rfl,keep k.p Ad,⟨cs,keep h1 Ad,h2.gb g1 hne2⟩,⟨ds,keep h3 Ad,h4.gb g1 hne2⟩,A5 k.gr g1 (.inr Ab),k.bw,hwL,k.zero.gb g1 Ag⟩):=Aa h;exact Ot
theorem KX.toKA(k:KX b w L wr o s t p f g xv pv xv bv):KA b w L wr o s t p f g pv xv bv:=⟨k.blk,k.p,k.x,k.bb,k.gr,k.bw,k.wL,k.zero⟩
theorem KA.freP{B:Nat}(hB:∀q,B≤q→fre w L pv xv bv q)(hat:xv.ownBlock=some j∨j=wr.heap.size)(q:Nat)(hq:B≤q)(hl:q<wr.heap.size):fre w L pv (.slice (some ⟨j,0,none⟩) (f.len+1) cap) bv q:=by
 have h:=hB q hq;refine⟨h.1,h.2.1,h.2.2.1,fun e=>?_,h.2.2.2.2⟩;rcases I6 hat e with h1|h1
 ·exact h.2.2.2.1 h1
 ·omega
theorem KA.layX(k:KA b w L wr o s t p f g pv xv bv){x:Ex}{pa la:Option Addr}{pc lc:Nat}{okx:Nat→Prop}(rp:Cells wr (.slice pa x.h.p.length pc) 1 x.h.p.length (x.h.p.map str) okx)(rl:RepL okx wr (.slice la x.kids.len lc) x.kids)(hok:∀q,okx q→fre w L pv xv bv q):
 KA b w L ((wr.setCell ⟨L,4,none⟩ (.slice (some ⟨wr.heap.size,0,none⟩) 1 1)).alloc (.cells (hdC x.h (.slice pa x.h.p.length pc) (.slice la x.kids.len lc)).toArray 29 (0,0))) o s t p (.one x) g pv (.slice (some ⟨wr.heap.size,0,none⟩) 1 1) bv:=by
 have hwL:=k.wL;have hLt:=k.lt;obtain⟨cs0,hx,hr⟩:=k.x;obtain⟨ds,h3,h4⟩:=k.bb;have g1:=As (Aj wr (some L)) 4 (.slice (some ⟨wr.heap.size,0,none⟩) 1 1);have g2:=World.grownBy_alloc (wr.setCell ⟨L,4,none⟩ (.slice (some ⟨wr.heap.size,0,none⟩) 1 1)) (.cells (hdC x.h (.slice pa x.h.p.length pc) (.slice la x.kids.len lc)).toArray 29 (0,0)) none;have keep:∀{e size n:Nat}{u:Value}{xs:List Value},wr.ownsRow (w.heap.size+1) e size u n xs→e≠50→((wr.setCell ⟨L,4,none⟩ (.slice (some ⟨wr.heap.size,0,none⟩) 1 1)).alloc (.cells (hdC x.h (.slice pa x.h.p.length pc) (.slice la x.kids.len lc)).toArray 29 (0,0))).ownsRow (w.heap.size+1) e size u n xs:=by
  intro e size n u xs h hne;exact S5
 have hfr:∀q,fre w L pv xv bv q→q<wr.heap.size→fre w L pv (.slice (some ⟨wr.heap.size,0,none⟩) 1 1) bv q∧some q≠some L:=fun q hq hlt=>⟨⟨hq.1,hq.2.1,hq.2.2.1,by simp[Value.ownBlock];omega,hq.2.2.2.2⟩,fun e=>by cases e;exact hq.2.1 rfl⟩;refine⟨((k.blk.set 4 _).of_eq rfl rfl).alloc _,keep k.p Ad,⟨hdC x.h (.slice pa x.h.p.length pc) (.slice la x.kids.len lc),Ji Ae Ag rfl Ad,?_⟩,⟨ds,keep h3 Ad,?_⟩,Ar (A5 k.gr g1 (.inr Ab)) _,k.bw,hwL,(k.zero.gb g1 Ag).alloc _⟩
 ·have h1:RepF okx wr (.one x) (hdC x.h (.slice pa x.h.p.length pc) (.slice la x.kids.len lc)):=VE.rep rp rl;exact(((h1.mono' (fun q hq hl=>hfr q (hok q hq) hl)).gb g1 (fun q hq _=>hq.2)).gb g2 Ae).mono' fun q hq _=>hq.1
 ·exact((((RepT.mono hfr h4)).gb g1 (fun q hq _=>hq.2)).gb g2 Ae).mono' fun q hq _=>hq.1
theorem KA.layP(k:KA b w L wr o s t p f g pv xv bv)(y:Bs):
 KA b w L ((wr.setCell ⟨L,3,none⟩ (.slice (some ⟨wr.heap.size,0,none⟩) 1 1)).alloc (.cells #[str y] 9 (0,0))) o s t [y] f g (.slice (some ⟨wr.heap.size,0,none⟩) 1 1) xv bv:=by
 have hwL:=k.wL;have hLt:=k.lt;obtain⟨cs0,hx,hr⟩:=k.x;obtain⟨ds,h3,h4⟩:=k.bb;have g1:=As (Aj wr (some L)) 3 (.slice (some ⟨wr.heap.size,0,none⟩) 1 1);have g2:=World.grownBy_alloc (wr.setCell ⟨L,3,none⟩ (.slice (some ⟨wr.heap.size,0,none⟩) 1 1)) (.cells #[str y] 9 (0,0)) none;have keep:∀{e size n:Nat}{u:Value}{xs:List Value},wr.ownsRow (w.heap.size+1) e size u n xs→e≠50→((wr.setCell ⟨L,3,none⟩ (.slice (some ⟨wr.heap.size,0,none⟩) 1 1)).alloc (.cells #[str y] 9 (0,0))).ownsRow (w.heap.size+1) e size u n xs:=by
  intro e size n u xs h hne;exact S5
 have hfr:∀q,fre w L pv xv bv q→q<wr.heap.size→fre w L (.slice (some ⟨wr.heap.size,0,none⟩) 1 1) xv bv q∧some q≠some L:=fun q hq hlt=>⟨⟨hq.1,hq.2.1,by simp[Value.ownBlock];omega,hq.2.2.2⟩,fun e=>by cases e;exact hq.2.1 rfl⟩;have hO:((wr.setCell ⟨L,3,none⟩ (.slice (some ⟨wr.heap.size,0,none⟩) 1 1)).alloc (.cells [str y].toArray 9 (0,0))).ownsRow (w.heap.size+1) 9 1 (.slice (some ⟨wr.heap.size,0,none⟩) 1 1) 1 [str y]:=Ji Ae Ag rfl Ad;exact⟨((k.blk.set 3 _).of_eq rfl rfl).alloc _,hO,⟨cs0,keep hx Ad,(((hr.mono' hfr).gb g1 (fun q hq _=>hq.2)).gb g2 Ae).mono' fun q hq _=>hq.1⟩,⟨ds,keep h3 Ad,((((RepT.mono hfr h4)).gb g1 (fun q hq _=>hq.2)).gb g2 Ae).mono' fun q hq _=>hq.1⟩,Ar (A5 k.gr g1 (.inr Ab)) _,k.bw,hwL,(k.zero.gb g1 Ag).alloc _⟩
theorem KA.putT(k:KA b w L wr o s t p f g pv xv bv)(t':Bs):KA b w L (wr.setCell ⟨L,2,none⟩ (str t')) o s t' p f g pv xv bv:=by
 have hwL:=k.wL;have g1:=As (Aj wr (some L)) 2 (str t');obtain⟨cs,h1,h2⟩:=k.x;obtain⟨ds,h3,h4⟩:=k.bb;have keep:∀{e size n:Nat}{v:Value}{xs:List Value},wr.ownsRow (w.heap.size+1) e size v n xs→e≠50→(wr.setCell ⟨L,2,none⟩ (str t')).ownsRow (w.heap.size+1) e size v n xs:=by
  intro e size n v xs h hne;exact Tx
 have Rs{P}(h:P:=by exact⟨(k.blk.set 2 _).of_eq rfl rfl,keep k.p Ad,⟨cs,keep h1 Ad,h2.gb g1 hne2⟩,⟨ds,keep h3 Ad,h4.gb g1 hne2⟩,A5 k.gr g1 (.inr Ab),k.bw,hwL,k.zero.gb g1 Ag⟩):=Aa h;exact Ot
theorem KP.cellE(k:KP b w L wr o s t p f g c4 pv j cap bv)(i:Nat)(hi:i<7):∃u,wr.cell? ⟨j,f.len*7+i,none⟩=some u:=by
 obtain⟨cs,z,hz,hc,h1,_⟩:=k.x;have h:=h1.cellAt (f.len*7+i) Ab;rw[h];have hl:f.len*7+i<(cs++z).length:=by rw[List.length_append];omega
 exact⟨(cs++z)[f.len*7+i],by simp[hl]⟩
theorem KP.frozenE(k:KP b w L wr o s t p f g c4 pv j cap bv)(i:Nat):wr.frozen? ⟨j,i,none⟩=false:=by
 obtain⟨cs,z,hz,hc,h1,_⟩:=k.x;exact h1.frozenAt i
theorem KP.neL(k:KP b w L wr o s t p f g c4 pv j cap bv):j≠L:=by
 obtain⟨cs,z,hz,hc,h1,_⟩:=k.x;intro e;exact Cm h1 k.blk Ad (by rw[e];simp[Value.ownBlock])
theorem KP.end1(k:KP b w L wr o s t p f g c4 pv j cap bv){x:Ex}{pa la:Option Addr}{pc lc:Nat}
 (rp:Cells wr (.slice pa x.h.p.length pc) 1 x.h.p.length (x.h.p.map str) (fre w L pv (.slice (some ⟨j,0,none⟩) (f.len+1) cap) bv)) (rl:RepL (fre w L pv (.slice (some ⟨j,0,none⟩) (f.len+1) cap) bv) wr (.slice la x.kids.len lc) x.kids):
 KA b w L ((Dd wr j (f.len*7) (.int .i64 x.h.op) (str x.h.s) (.int .i64 x.h.vk) (.int .i64 x.h.vn) (str x.h.vs) (.slice pa x.h.p.length pc) (.slice la x.kids.len lc)).setCell ⟨L,4,none⟩ (.slice (some ⟨j,0,none⟩) (f.len+1) cap)) o s t p (f.snoc x) g pv (.slice (some ⟨j,0,none⟩) (f.len+1) cap) bv:=(k.last rp rl).put4
theorem KP.end2(k:KP b w L wr o s t p f g c4 pv j cap bv){x:Ex}{pa la:Option Addr}{pc lc:Nat}
 (rp:Cells wr (.slice pa x.h.p.length pc) 1 x.h.p.length (x.h.p.map str) (fre w L pv (.slice (some ⟨j,0,none⟩) (f.len+1) cap) bv)) (rl:RepL (fre w L pv (.slice (some ⟨j,0,none⟩) (f.len+1) cap) bv) wr (.slice la x.kids.len lc) x.kids):
 KA b w L (Dd (wr.setCell ⟨L,4,none⟩ (.slice (some ⟨j,0,none⟩) (f.len+1) cap)) j (f.len*7) (.int .i64 x.h.op) (str x.h.s) (.int .i64 x.h.vk) (.int .i64 x.h.vn) (str x.h.vs) (.slice pa x.h.p.length pc) (.slice la x.kids.len lc)) o s t p (f.snoc x) g pv (.slice (some ⟨j,0,none⟩) (f.len+1) cap) bv:=by
 have g1:=As (Aj wr (some L)) 4 (.slice (some ⟨j,0,none⟩) (f.len+1) cap);have hne:∀q,fre w L pv (.slice (some ⟨j,0,none⟩) (f.len+1) cap) bv q→q<wr.heap.size→some q≠some L:=fun q hq _ e=>by cases e;exact hq.2.1 rfl
 exact((k.put4 _).last (rp.gb g1 hne) (rl.gb g1 hne)).toKA
theorem Kz{okx:Nat→Prop}{x:Ex}{pa la:Option Addr}{pc lc B:Nat}(rp:Cells wr (.slice pa x.h.p.length pc) 1 x.h.p.length (x.h.p.map str) okx)(rl:RepL okx wr (.slice la x.kids.len lc) x.kids)(hB:∀q,okx q→q<wr.heap.size→B≤q)
 (hF:∀q,B≤q→fre w L pv xv bv q) (hg:wr.grownBy w1 xv.ownBlock) (hat:xv.ownBlock=some j∨j=wr.heap.size):
 Cells w1 (.slice pa x.h.p.length pc) 1 x.h.p.length (x.h.p.map str) (fre w L pv (.slice (some ⟨j,0,none⟩) (f.len+1) cap) bv)∧RepL (fre w L pv (.slice (some ⟨j,0,none⟩) (f.len+1) cap) bv) w1 (.slice la x.kids.len lc) x.kids:=by
 have hfr:∀q,okx q→q<wr.heap.size→fre w L pv (.slice (some ⟨j,0,none⟩) (f.len+1) cap) bv q∧some q≠xv.ownBlock:=fun q hq hl=>⟨KA.freP hF hat q (hB q hq hl) hl,fun e=>(hF q (hB q hq hl)).2.2.2.1 e.symm⟩;exact⟨((rp.mono hfr).gb hg (fun q hq _=>hq.2)).mono fun q hq _=>hq.1,((rl.mono hfr).gb hg (fun q hq _=>hq.2)).mono fun q hq _=>hq.1⟩
end
theorem Rr.two{tv:Value}{l:List Tok}{st:RS}{b j L:Nat}{w w1 w2:World}(h:Rr w b tv l st)(g1:w.grownBy w1 (some j))(g2:w1.grownBy w2 (some L))(hj:b<j)(hL:b<L):Rr w2 b tv l st:=
 (h.gb g1 (by intro q e;cases e;exact hj)).gb g2 MM
section
variable {b:Nat}{w wr w1:World}{L:Nat}{o:Int}{s t:Bs}{p:List Bs}{f:Fo}{g:Bl}{c4 pv xv bv:Value}{j cap:Nat}{tv:Value}{l:List Tok}{st:RS}
theorem KP.endR1(k:KP b w L wr o s t p f g c4 pv j cap bv)(hR:Rr wr b tv l st){x:Ex}{pa la:Option Addr}{pc lc:Nat}
 (rp:Cells wr (.slice pa x.h.p.length pc) 1 x.h.p.length (x.h.p.map str) (fre w L pv (.slice (some ⟨j,0,none⟩) (f.len+1) cap) bv)) (rl:RepL (fre w L pv (.slice (some ⟨j,0,none⟩) (f.len+1) cap) bv) wr (.slice la x.kids.len lc) x.kids):
 KA b w L ((Dd wr j (f.len*7) (.int .i64 x.h.op) (str x.h.s) (.int .i64 x.h.vk) (.int .i64 x.h.vn) (str x.h.vs) (.slice pa x.h.p.length pc) (.slice la x.kids.len lc)).setCell ⟨L,4,none⟩ (.slice (some ⟨j,0,none⟩) (f.len+1) cap)) o s t p (f.snoc x) g pv (.slice (some ⟨j,0,none⟩) (f.len+1) cap) bv∧
 Rr ((Dd wr j (f.len*7) (.int .i64 x.h.op) (str x.h.s) (.int .i64 x.h.vk) (.int .i64 x.h.vn) (str x.h.vs) (.slice pa x.h.p.length pc) (.slice la x.kids.len lc)).setCell ⟨L,4,none⟩ (.slice (some ⟨j,0,none⟩) (f.len+1) cap)) b tv l st:=
 ⟨k.end1 rp rl,hR.two (KJ _ _ _ _ _ _ _ _ _ _) (As (Aj _ _) 4 _) k.bj.1 k.bL⟩
theorem KP.endR2(k:KP b w L wr o s t p f g c4 pv j cap bv)(hR:Rr wr b tv l st){x:Ex}{pa la:Option Addr}{pc lc:Nat}
 (rp:Cells wr (.slice pa x.h.p.length pc) 1 x.h.p.length (x.h.p.map str) (fre w L pv (.slice (some ⟨j,0,none⟩) (f.len+1) cap) bv)) (rl:RepL (fre w L pv (.slice (some ⟨j,0,none⟩) (f.len+1) cap) bv) wr (.slice la x.kids.len lc) x.kids):
 KA b w L (Dd (wr.setCell ⟨L,4,none⟩ (.slice (some ⟨j,0,none⟩) (f.len+1) cap)) j (f.len*7) (.int .i64 x.h.op) (str x.h.s) (.int .i64 x.h.vk) (.int .i64 x.h.vn) (str x.h.vs) (.slice pa x.h.p.length pc) (.slice la x.kids.len lc)) o s t p (f.snoc x) g pv (.slice (some ⟨j,0,none⟩) (f.len+1) cap) bv∧
 Rr (Dd (wr.setCell ⟨L,4,none⟩ (.slice (some ⟨j,0,none⟩) (f.len+1) cap)) j (f.len*7) (.int .i64 x.h.op) (str x.h.s) (.int .i64 x.h.vk) (.int .i64 x.h.vn) (str x.h.vs) (.slice pa x.h.p.length pc) (.slice la x.kids.len lc)) b tv l st:=
 ⟨k.end2 rp rl,hR.two (As (Aj _ _) 4 _) (KJ _ _ _ _ _ _ _ _ _ _) k.bL k.bj.1⟩
end
def Jz:List (Bs×Value):=[(Fj,.int .i64 1),(BL,.int .i64 2),(Fg,.int .i64 3),(Cc,.int .i64 4)]
theorem Vk(s:Bs):(match CO s Jz 0 with|some (_,v)=>v|none=> .int .i64 0)=Value.int .i64 (AQ s)∧(CO s Jz 0).isSome= !(AQ s==0):=by
 unfold AQ Jz;simp only[CO];by_cases h1:s=Fj
 ·subst h1;exact⟨rfl,rfl⟩
 ·have e1:(s==Fj)=false:=by simpa using h1
  rw[if_neg h1,e1];by_cases h2:s=BL
  ·subst h2;exact⟨rfl,rfl⟩
  ·have e2:(s==BL)=false:=by simpa using h2
   rw[if_neg h2,e2];by_cases h3:s=Fg
   ·subst h3;exact⟨rfl,rfl⟩
   ·have e3:(s==Fg)=false:=by simpa using h3
    rw[if_neg h3,e3];by_cases h4:s=Cc
    ·subst h4;exact⟨rfl,rfl⟩
    ·have e4:(s==Cc)=false:=by simpa using h4
     rw[if_neg h4,e4];exact⟨rfl,rfl⟩
theorem Uz{w:World}{m:Nat}(h:w.heap[m]? =some (Bh Jz))(s:Bs):
 (Instr.lookup 181 (.map (some m)) (str s) true).run Tryz.prog w= .ok (.tuple #[.int .i64 (AQ s),.bool (!(AQ s==0))]) w:=by
 rw[r5 h s,(Vk s).2];exact congrArg (fun v=>Result.ok (Value.tuple #[v,.bool (!(AQ s==0))]) w) (Vk s).1
abbrev scC(c:ScM)(nv fv wv:Value):List Value:=[.int .i64 c.kind,nv,fv,wv]
def ScV(ok:Nat→Prop)(w:World)(v:Value)(c:ScM):Prop:=∃na fa wa,∃nc fc wc,
 v= .agg #[.int .i64 c.kind,.slice na c.n.len nc,.slice fa c.f.len fc,.slice wa c.w.len wc]∧RepL ok w (.slice na c.n.len nc) c.n∧RepL ok w (.slice fa c.f.len fc) c.f∧RepL ok w (.slice wa c.w.len wc) c.w
abbrev VSc(w:World):World→Value→ScM→Prop:=fun w' v c=>ScV (Ap w.heap.size) w' v c
structure KC(b:Nat)(w:World)(L mp:Nat)(wr:World)(c:ScM)(na fa wa:Option Addr)(nc fc wc:Nat):Prop where
 blk:Blk wr L (scC c (.slice na c.n.len nc) (.slice fa c.f.len fc) (.slice wa c.w.len wc)) 48
 n:RepL (but w L) wr (.slice na c.n.len nc) c.n
 f:RepL (but w L) wr (.slice fa c.f.len fc) c.f
 wl:RepL (but w L) wr (.slice wa c.w.len wc) c.w
 gr:w.grownBy wr (some b)
 bw:b<w.heap.size
 wL:w.heap.size<L
 wm:w.heap.size<mp
 mL:mp≠L
 map:wr.heap[mp]? =some (Bh Jz)
 zero:Blk wr w.heap.size [.int .i64 0,.slice none 0 0,.slice none 0 0,.slice none 0 0] 48
section
variable {b:Nat}{w wr w1:World}{L mp:Nat}{c:ScM}{na fa wa:Option Addr}{nc fc wc:Nat}
theorem KC.lt(k:KC b w L mp wr c na fa wa nc fc wc):L<wr.heap.size:=k.blk.lt
theorem KC.gb(k:KC b w L mp wr c na fa wa nc fc wc)(gr:wr.grownBy w1 (some b)):KC b w L mp w1 c na fa wa nc fc wc:=by
 have hbw:=k.bw;have hwL:=k.wL;have hwm:=k.wm;have hne:∀q,but w L q→q<wr.heap.size→some q≠some b:=fun q hq _ e=>by cases e;have:=hq.1;omega
 exact⟨k.blk.gb gr Ag,k.n.gb gr hne,k.f.gb gr hne,k.wl.gb gr hne,Ah k.gr gr,hbw,hwL,hwm,k.mL,E0 gr k.map Ag,k.zero.gb gr Ag⟩
theorem KC.gbN(k:KC b w L mp wr c na fa wa nc fc wc)(gr:wr.grownBy w1 none):KC b w L mp w1 c na fa wa nc fc wc:=k.gb (AY gr)
theorem KC.putK(k:KC b w L mp wr c na fa wa nc fc wc)(i:Int):KC b w L mp (wr.setCell ⟨L,0,none⟩ (.int .i64 i)) {c with kind:=i} na fa wa nc fc wc:=by
 have hwL:=k.wL;have g1:=As (Aj wr (some L)) 0 (.int .i64 i);have Iv{P}(h:P:=by exact⟨(k.blk.set 0 _).of_eq rfl rfl,k.n.gb g1 hne,k.f.gb g1 hne,k.wl.gb g1 hne,A5 k.gr g1 (.inr Ab),k.bw,hwL,k.wm,k.mL,E0 g1 k.map MP,k.zero.gb g1 Ag⟩):=Aa h;exact Im
theorem KC.lay(k:KC b w L mp wr c na fa wa nc fc wc)(i:Nat){x:Ex}{pa la:Option Addr}{pc lc:Nat}(rp:Cells wr (.slice pa x.h.p.length pc) 1 x.h.p.length (x.h.p.map str) (but w L))(rl:RepL (but w L) wr (.slice la x.kids.len lc) x.kids):
 ∃W,W=(wr.setCell ⟨L,i,none⟩ (.slice (some ⟨wr.heap.size,0,none⟩) 1 1)).alloc (.cells (hdC x.h (.slice pa x.h.p.length pc) (.slice la x.kids.len lc)).toArray 29 (0,0))∧
  wr.grownBy W (some L)∧RepL (but w L) W (.slice (some ⟨wr.heap.size,0,none⟩) 1 1) (.one x)∧RepL (but w L) W (.slice na c.n.len nc) c.n∧RepL (but w L) W (.slice fa c.f.len fc) c.f∧RepL (but w L) W (.slice wa c.w.len wc) c.w:=by
 have hwL:=k.wL;have hlt:=k.lt;have g1:=As (Aj wr (some L)) i (.slice (some ⟨wr.heap.size,0,none⟩) 1 1);have Iv{P}(h:P:=by have g2:=World.grownBy_alloc (wr.setCell ⟨L,i,none⟩ (.slice (some ⟨wr.heap.size,0,none⟩) 1 1)) (.cells (hdC x.h (.slice pa x.h.p.length pc) (.slice la x.kids.len lc)).toArray 29 (0,0)) none;exact⟨_,rfl,A0 g1 g2,RepL.one Ae ⟨by omega,by omega⟩ (rp.gb g1 hne) (rl.gb g1 hne),(k.n.gb g1 hne).gb g2 Ae,(k.f.gb g1 hne).gb g2 Ae,(k.wl.gb g1 hne).gb g2 Ae⟩):=Aa h;exact Im
theorem KC.layN(k:KC b w L mp wr c na fa wa nc fc wc){x:Ex}{pa la:Option Addr}{pc lc:Nat}(rp:Cells wr (.slice pa x.h.p.length pc) 1 x.h.p.length (x.h.p.map str) (but w L))(rl:RepL (but w L) wr (.slice la x.kids.len lc) x.kids):
 KC b w L mp ((wr.setCell ⟨L,1,none⟩ (.slice (some ⟨wr.heap.size,0,none⟩) 1 1)).alloc (.cells (hdC x.h (.slice pa x.h.p.length pc) (.slice la x.kids.len lc)).toArray 29 (0,0))) {c with n:= .one x} (some ⟨wr.heap.size,0,none⟩) fa wa 1 fc wc:=by
 obtain⟨W,e,g,h0,h1,h2,h3⟩:=k.lay 1 rp rl;have hwL:=k.wL;have hb:Blk W L (scC {c with n:= .one x} (.slice (some ⟨wr.heap.size,0,none⟩) 1 1) (.slice fa c.f.len fc) (.slice wa c.w.len wc)) 48:=by subst e;exact((k.blk.set 1 _).of_eq rfl rfl).alloc _
 rw[←e];exact⟨hb,h0,h2,h3,A5 k.gr g (.inr Ab),k.bw,hwL,k.wm,k.mL,E0 g k.map MP,k.zero.gb g Ag⟩
theorem KC.layF(k:KC b w L mp wr c na fa wa nc fc wc){x:Ex}{pa la:Option Addr}{pc lc:Nat}(rp:Cells wr (.slice pa x.h.p.length pc) 1 x.h.p.length (x.h.p.map str) (but w L))(rl:RepL (but w L) wr (.slice la x.kids.len lc) x.kids):
 KC b w L mp ((wr.setCell ⟨L,2,none⟩ (.slice (some ⟨wr.heap.size,0,none⟩) 1 1)).alloc (.cells (hdC x.h (.slice pa x.h.p.length pc) (.slice la x.kids.len lc)).toArray 29 (0,0))) {c with f:= .one x} na (some ⟨wr.heap.size,0,none⟩) wa nc 1 wc:=by
 obtain⟨W,e,g,h0,h1,h2,h3⟩:=k.lay 2 rp rl;have hwL:=k.wL;have hb:Blk W L (scC {c with f:= .one x} (.slice na c.n.len nc) (.slice (some ⟨wr.heap.size,0,none⟩) 1 1) (.slice wa c.w.len wc)) 48:=by subst e;exact((k.blk.set 2 _).of_eq rfl rfl).alloc _
 rw[←e];exact⟨hb,h1,h0,h3,A5 k.gr g (.inr Ab),k.bw,hwL,k.wm,k.mL,E0 g k.map MP,k.zero.gb g Ag⟩
theorem KC.layW(k:KC b w L mp wr c na fa wa nc fc wc){x:Ex}{pa la:Option Addr}{pc lc:Nat}(rp:Cells wr (.slice pa x.h.p.length pc) 1 x.h.p.length (x.h.p.map str) (but w L))(rl:RepL (but w L) wr (.slice la x.kids.len lc) x.kids):
 KC b w L mp ((wr.setCell ⟨L,3,none⟩ (.slice (some ⟨wr.heap.size,0,none⟩) 1 1)).alloc (.cells (hdC x.h (.slice pa x.h.p.length pc) (.slice la x.kids.len lc)).toArray 29 (0,0))) {c with w:= .one x} na fa (some ⟨wr.heap.size,0,none⟩) nc fc 1:=by
 obtain⟨W,e,g,h0,h1,h2,h3⟩:=k.lay 3 rp rl;have hwL:=k.wL;have hb:Blk W L (scC {c with w:= .one x} (.slice na c.n.len nc) (.slice fa c.f.len fc) (.slice (some ⟨wr.heap.size,0,none⟩) 1 1)) 48:=by subst e;exact((k.blk.set 3 _).of_eq rfl rfl).alloc _
 rw[←e];exact⟨hb,h1,h2,h0,A5 k.gr g (.inr Ab),k.bw,hwL,k.wm,k.mL,E0 g k.map MP,k.zero.gb g Ag⟩
abbrev JF(w:World)(k:Nat)(v0 v1 v2 v3:Value):World:=(((w.setCell ⟨k,0,none⟩ v0).setCell ⟨k,1,none⟩ v1).setCell ⟨k,2,none⟩ v2).setCell ⟨k,3,none⟩ v3
theorem AaK(w:World)(k:Nat)(v0 v1 v2 v3:Value):w.grownBy (JF w k v0 v1 v2 v3) (some k):=As (As (As (As (Aj w (some k)) 0 v0) 1 v1) 2 v2) 3 v3
theorem KC.out(k:KC b w L mp wr c na fa wa nc fc wc):
 w.grownBy (JF wr w.heap.size (.int .i64 c.kind) (.slice na c.n.len nc) (.slice fa c.f.len fc) (.slice wa c.w.len wc)) (some b)∧
 wr.grownBy (JF wr w.heap.size (.int .i64 c.kind) (.slice na c.n.len nc) (.slice fa c.f.len fc) (.slice wa c.w.len wc)) (some w.heap.size)∧
 Blk (JF wr w.heap.size (.int .i64 c.kind) (.slice na c.n.len nc) (.slice fa c.f.len fc) (.slice wa c.w.len wc)) w.heap.size (scC c (.slice na c.n.len nc) (.slice fa c.f.len fc) (.slice wa c.w.len wc)) 48∧
 ScV (Ap w.heap.size) (JF wr w.heap.size (.int .i64 c.kind) (.slice na c.n.len nc) (.slice fa c.f.len fc) (.slice wa c.w.len wc)) (.agg (scC c (.slice na c.n.len nc) (.slice fa c.f.len fc) (.slice wa c.w.len wc)).toArray) c:=by
 have g1:=AaK wr w.heap.size (.int .i64 c.kind) (.slice na c.n.len nc) (.slice fa c.f.len fc) (.slice wa c.w.len wc);have hne:∀q,but w L q→q<wr.heap.size→some q≠some w.heap.size:=fun q hq _ e=>by cases e;have:=hq.1;omega
 have hs:∀q,but w L q→q<(JF wr w.heap.size (.int .i64 c.kind) (.slice na c.n.len nc) (.slice fa c.f.len fc) (.slice wa c.w.len wc)).heap.size→Ap w.heap.size q:=fun q hq _=>by have:=hq.1;show w.heap.size≤q;omega
 exact⟨A5 k.gr g1 (.inr (Nat.le_refl _)),g1,((((k.zero.set 0 _).set 1 _).set 2 _).set 3 _).of_eq rfl rfl,na,fa,wa,nc,fc,wc,rfl,(k.n.gb g1 hne).mono hs,(k.f.gb g1 hne).mono hs,(k.wl.gb g1 hne).mono hs⟩
end
theorem xK:(match(Tryz.prog.underlying 48)with|some (.struct _)=>true|_=>false)=true:=Bk
theorem jL{fn:Func}{p:Tmp}(h:fn.results=#[.cell p 48])(tmps:Array Value){w:World}{k:Nat}{cs:List Value}(hb:Blk w k cs 48)(hn:cs.length=4)(hp:tmps.getD p undef= .pointer (some ⟨k,0,none⟩)):
 (results fn tmps).run Tryz.prog w= .ok (.agg cs.toArray) w:=by
 have hs:=xK;cases hu:Tryz.prog.underlying 48 with
 |none=>rw[hu]at hs;cases hs
 | some d=>
   rw[hu]at hs;exact results_cell_row h tmps w k 48 cs.toArray (0,0) d hp hb hu (by cases d<;>simp_all) (by rw[List.size_toArray,hn];show(Tryz.prog.info? 48).map (·.size)=some 4;kernel_rfl)
section
variable {w:World}{b:Nat}{tv:Value}{l:List Tok}{st:RS}
def ScRel(hn:Al l)(day:Bs→Int)(n:Nat)(b:Nat)(tv:Value)(w:World)(q:ScM×RS)(g:Nat)(wr:World):Prop:=
 ∃(c:ScM)(st:RS),(∃na fa wa nc fc wc,KC b w (w.heap.size+1) (w.heap.size+2) wr c na fa wa nc fc wc)∧Rr wr b tv l st∧(Ba hn wordsL day n g c).g st=some q
theorem sY{hn:Al l}{W:List Bs}{day:Bs→Int}{n k:Nat}{c:ScM}{i:Nat}{q:ScM×RS}(h:(Ba hn W day n k c).g (i,true)=some q):q=(c,(i,true)):=by
 cases k with
 | zero => have h : some (c, ((i, true) : RS)) = some q := h
           cases h;rfl
 | succ k => have h : some (c, ((i, true) : RS)) = some q := h
             cases h;rfl
theorem yQ{hn:Al l}{W:List Bs}{day:Bs→Int}{n k:Nat}{c:ScM}{i:Nat}{q:ScM×RS}(h:(Ba hn W day n k c).g (i,false)=some q):∃k',k=k'+1∧
 ((AQ (Av l W i)≠0∧c.kind=0∧(((Av l W i=BL∨Av l W i=Cc)∧∃x st2,(AN l day n) (BT (i,false))=some (x,st2)∧(Ba hn W day n k' {c with kind:=AQ (Av l W i),n:= .one x}).g st2=some q)∨
  Av l W i≠BL∧Av l W i≠Cc∧(Ba hn W day n k' {c with kind:=AQ (Av l W i)}).g (BT (i,false))=some q))∨
  (¬(AQ (Av l W i)≠0∧c.kind=0)∧Av l W i=BH∧c.f.len=0∧∃x st2,(AN l day n) (BT (i,false))=some (x,st2)∧(Ba hn W day n k' {c with f:= .one x}).g st2=some q)∨
  (¬(AQ (Av l W i)≠0∧c.kind=0)∧¬(Av l W i=BH∧c.f.len=0)∧Av l W i=CC∧c.w.len=0∧∃x st2,(AN l day n) (BT (i,false))=some (x,st2)∧(Ba hn W day n k' {c with w:= .one x}).g st2=some q)∨
  (¬(AQ (Av l W i)≠0∧c.kind=0)∧¬(Av l W i=BH∧c.f.len=0)∧¬(Av l W i=CC∧c.w.len=0)∧q=(c,(i,false)))):=by
 cases k with
 |zero=>cases h
 | succ k=>
   refine⟨k,rfl,?_⟩;unfold Ba at h;rw[Rd.condW_g]at h;simp only[Bool.false_or,Bool.false_eq_true,if_false]at h;rw[Rd.here_g]at h;simp only at h;generalize Av l W i=s at*;by_cases h1:AQ s≠0∧c.kind=0
   ·rw[if_pos h1,Rd.skip_g]at h;by_cases h2:s=BL∨s=Cc
    ·rw[if_pos h2]at h;obtain⟨x,st2,hx,h⟩:=Rd.bind_g h;exact .inl ⟨h1.1,h1.2,.inl ⟨h2,x,st2,hx,h⟩⟩
    ·rw[if_neg h2]at h;exact .inl ⟨h1.1,h1.2,.inr ⟨fun e=>h2 (.inl e),fun e=>h2 (.inr e),h⟩⟩
   ·rw[if_neg h1]at h;by_cases h2:s=BH∧c.f.len=0
    ·rw[if_pos h2,Rd.skip_g]at h;obtain⟨x,st2,hx,h⟩:=Rd.bind_g h;exact .inr (.inl ⟨h1,h2.1,h2.2,x,st2,hx,h⟩)
    ·rw[if_neg h2]at h;by_cases h3:s=CC∧c.w.len=0
     ·rw[if_pos h3,Rd.skip_g]at h;obtain⟨x,st2,hx,h⟩:=Rd.bind_g h;exact .inr (.inr (.inl ⟨h1,h2,h3.1,h3.2,x,st2,hx,h⟩))
     ·rw[if_neg h3,Rd.pure_g]at h;cases h;exact .inr (.inr (.inr ⟨h1,h2,h3,rfl⟩))
theorem VY{s:Bs}(h:AQ s≠0):s≠[]:=by rintro rfl;exact h Ad
theorem Co{W:List Bs}{i:Nat}(h:Av l W i≠[]):i<l.length:=by
 apply GK;intro e;apply h;unfold Av;rw[e];rfl
theorem TZ(hn:Al l){day:Bs→Int}{n k:Nat}(hE:CR 28 b tv l (AN l day n))(hok:∀i,At (Af l i))(h:Rr w b tv l st){r:ScM×RS}(ho:(Ba hn wordsL day n k B7).g st=some r):
 Calls Tryz.prog 230 #[.pointer (some ⟨b,0,none⟩)] w (AM b tv l w (VSc w) r):=by
 have hb:=h.lt;have H:=Z (Ac hE (Ac hok ho));have HH:=Z h;have hmm:=Mq;have hup:=OQ;have hfn:=OA;have hfc:=Ob;clear hE hok ho h;go_enter func230,ntmps230;go_wp2_with fail;clear hmm hup hfn hfc;go_loopg [] k (fun g wr=>ScRel hn day n b tv w r g wr)
 case atStart=>
  have iE{P}(h:P:=by refine⟨B7,st,⟨none,none,none,0,0,0,?_⟩,HH.out.gbN g3,H.out.2.2⟩;exact SO):=Aa h;exact ZB
 case round=>
  obtain⟨c,⟨i,f⟩,⟨na,fa,wa,nc,fc,wc,hK⟩,hR,hq⟩:=hrel;have HK:=Z hK;have c2:=hR.c2;have hbr:=hR.lt;clear hK HH;simp only at c2;cases f with
  | true=>
    have e:=sY hq;subst e;clear hq;have R6{P}(h:P:=by have hres9:AM b tv l w (VSc w) (_,_) _ _:=⟨HK.out.out.1,_,rfl,HK.out.out.2.2.2,(hR).gb HK.out.out.2.1 A6⟩;exact QA):=Aa h;exact Q2
  | false=>
    obtain⟨k',rfl,hqq⟩:=yQ hq;have HS:=Z (Hk hR H.out.2.1 0 Ab);have HI:=Z (fun h=>Co (l:=l) (W:=wordsL) (i:=i) h);have HQ:=Z hqq;clear hq hqq;have Iy{P}(h:P:=by
    rw[Nat.add_zero];have hR1:=hR.gbN g1;replace HK:=Z (HK.out.gbN g1);simp only at HQ HI ⊢;generalize Av l wordsL i=s at*;have hlk:=Uz HK.out.map s;clear g1 HS hR c2;rcases HQ.out with⟨hk1,hk2,hq⟩| ⟨hk1,hs,hf0,x,st2,hx,hq⟩| ⟨hk1,hk2,hs,hw0,x,st2,hx,hq⟩| ⟨hk1,hk2,hk3,hq⟩
    ·have hb1:(!(AQ s==0))=true:=by simpa using hk1
     rw[hb1]at hlk;have hi:=HI.out (VY hk1);have hkl:=HK.out.lt;have c0:w1.cell? ⟨w.heap.size+1,0,none⟩=some (.int .i64 0):=by have:=HK.out.blk.cell' 0 rfl;rw[hk2]at this;exact this
     have hN:=Z (Gc hR1 (fun _=>hi));clear hb1;go_wp2_with fail;refine hN.out.mono ?_;rintro e w2 ⟨g2,v,rfl,rfl,h2⟩;replace HK:=Z (HK.out.gb g2);have hkl:=HK.out.lt;have d0:=HK.out.blk.cell' 0 rfl;have f0:=HK.out.blk.frozen 0;have hK3:=HK.out.putK (AQ s);have hR3:=h2.gb (As (Aj w2 (some (w.heap.size+1))) 0 (.int .i64 (AQ s))) A6;have HK3:=Z (Ac hK3 hR3);clear g2 hN hK3 hR3 c0 hlk;rcases hq with⟨hs,x,st2,hx,hq⟩| ⟨hs1,hs2,hq⟩
     ·have HX:=Z (Ac hx hq);clear hx hq;rcases hs with hs|hs
      ·exact XR
      ·exact XR
     ·have hs3:(s==[78,69,88,84])=false:=by simpa using hs1
      have hs4:(s==[82,69,67,79,82,68])=false:=by simpa using hs2
      have HX:=Z hq;clear hq;go_wp2;go_roundg k'
      case measure=>omega
      case rel=>exact⟨_,_,⟨_,_,_,_,_,_,HK3.out.1⟩,HK3.out.2,HX.out⟩
    ·subst hs;have hi:=HI.out Ad;have hkl:=HK.out.lt;have hb1:(!(AQ BH==0))=false:=Ad;rw[hb1]at hlk;have c2:w1.cell? ⟨w.heap.size+1,2,none⟩=some (.slice fa 0 fc):=XI;have cH{P}(h:P:=by
     clear g2 hN hlk c2 hR1;have eH{P}(h:P:=by
     have d4:=hK4.blk.cell' 2 rfl;have f4:=hK4.blk.frozen 2;have hfr:∀q,Ap (w2).heap.size q→q<w4.heap.size→but w (w.heap.size+1) q:=fun q hq _=>by have h1:(w2).heap.size≤q:=hq;exact⟨by omega,by omega⟩
     have hK5:=hK4.layF (rp.mono hfr) (rl.mono hfr);have hR5:=(h4.gb (As (Aj w4 (some (w.heap.size+1))) 2 (.slice (some ⟨w4.heap.size,0,none⟩) 1 1)) A6).alloc (.cells (hdC x.h (.slice pa x.h.p.length pc) (.slice la x.kids.len lc)).toArray 29 (0,0));exact Yo):=Aa h;exact Yf):=Aa h;exact SL
    ·subst hs;have hi:=HI.out Ad;have hkl:=HK.out.lt;have hb1:(!(AQ CC==0))=false:=Ad;rw[hb1]at hlk;have c3:w1.cell? ⟨w.heap.size+1,3,none⟩=some (.slice wa 0 wc):=by have:=HK.out.blk.cell' 3 rfl;rw[hw0]at this;exact this
     have cH{P}(h:P:=by
     clear g2 hN hlk c3 hR1;have eH{P}(h:P:=by
     have d4:=hK4.blk.cell' 3 rfl;have f4:=hK4.blk.frozen 3;have hfr:∀q,Ap (w2).heap.size q→q<w4.heap.size→but w (w.heap.size+1) q:=fun q hq _=>by have h1:(w2).heap.size≤q:=hq;exact⟨by omega,by omega⟩
     have hK5:=hK4.layW (rp.mono hfr) (rl.mono hfr);have hR5:=(h4.gb (As (Aj w4 (some (w.heap.size+1))) 3 (.slice (some ⟨w4.heap.size,0,none⟩) 1 1)) A6).alloc (.cells (hdC x.h (.slice pa x.h.p.length pc) (.slice la x.kids.len lc)).toArray 29 (0,0));exact Yo):=Aa h;exact Yf):=Aa h;exact SL
    ·subst hq;by_cases h0:AQ s=0
     ·have hb1:(!(AQ s==0))=false:=by simpa using h0
      rw[hb1]at hlk;clear hb1;by_cases h1:s=BH
      ·subst h1;have hfl:((c.f.len:Int)==0)=false:=by have:c.f.len≠0:=fun e=>hk2 ⟨rfl,e⟩;simp;omega
       exact Ny
      ·have hs1:(s==[70,79,82])=false:=by simpa using h1
       by_cases h2:s=CC
       ·subst h2;have hfl:((c.w.len:Int)==0)=false:=by have:c.w.len≠0:=fun e=>hk3 ⟨rfl,e⟩;simp;omega
        exact Ny
       ·have hs2:(s==[87,72,73,76,69])=false:=by simpa using h2
        exact Ny
     ·have hb1:(!(AQ s==0))=true:=by simpa using h0
      rw[hb1]at hlk;have hc0:(c.kind==0)=false:=by have:c.kind≠0:=fun e=>hk1 ⟨h0,e⟩;simpa using this
      have hs1:(s==[70,79,82])=false:=XC;have hs2:(s==[87,72,73,76,69])=false:=XD;clear hb1;exact Ny):=Aa h
    exact Ip
end
theorem ON{w:World}{wv:Value}{L:List Bs}{ok:Nat→Prop}(h:SRow w wv L ok)(s:Bs):
 Calls Tryz.prog 101 #[wv,str s] w fun e w'=>e= .returned (.bool (L.contains s))∧w.grownBy w' none:=by
 have NV{P}(h:P:=by clear hat hle hmx;generalize hT:L.contains s=T;go_enter func101,ntmps101;exact XU):=Aa h;exact Nt
theorem lD(w:World)(L:List Bs)(hn:L.length≤maxLen):SRow (w.alloc (.cells (L.map str).toArray 9 (0,0))) (.slice (some ⟨w.heap.size,0,none⟩) L.length L.length) L (Ap w.heap.size):=by
 refine⟨_,_,rfl,Nat.le_refl _,hn,fun j hj=>⟨w.heap.size,0,rfl,Nat.le_refl _,?_⟩⟩;rw[Nat.zero_add];refine(Blk.new w (L.map str) 9).cell' j ?_;simp[List.getD_eq_getElem?_getD,List.getElem?_eq_getElem hj]
abbrev setWords:List Bs:=[Hx,IK,I7,KQ,KH]
def WT(b:Nat)(tv:Value)(l:List Tok)(w0:World)(L:Nat)(r:Sd×RS)(e:Ending)(w':World):Prop:=
 e= .returned (.tuple #[])∧(∃pv xv,KS b w0 L w' r.1 .nil pv xv (.slice none 0 0) (.slice none 0 0) (.slice none 0 0) (.slice none 0 0))∧Rr w' b tv l r.2
section
variable {w0 w:World}{b:Nat}{tv:Value}{l:List Tok}{st:RS}
theorem mG(hn:Al l){day:Bs→Int}{n L:Nat}(hE:CR 28 b tv l (AN l day n))(hok:∀i,At (Af l i)){wd:Bs}(k:KS b w0 L w (sd0 13 wd) .nil (.slice none 0 0) (.slice none 0 0) (.slice none 0 0) (.slice none 0 0) (.slice none 0 0) (.slice none 0 0))(h:Rr w b tv l st){r:Sd×RS}(ho:(F2 hn wordsL day n (sd0 13 wd)).g st=some r):
 Calls Tryz.prog 232 #[.pointer (some ⟨b,0,none⟩),.pointer (some ⟨L,0,none⟩)] w (WT b tv l w0 L r):=by
 have hb:=h.lt;unfold F2 at ho;rw[Rd.here_g]at ho;have HS:=Z (Hk h hok 0 Ab);have HI:=Z (fun h=>Co (l:=l) (W:=wordsL) (i:=st.1) h);have H:=Z (Ac True.intro (Ac hE hok));have HK:=Z k;have HH:=Z h;rw[Nat.add_zero]at HS;clear hE hok k h;generalize Av l wordsL st.1=s at*;by_cases h1:s=KQ∨s=KH
 ·rw[if_pos h1,Rd.skip_g,Rd.here_g]at ho;have hin:setWords.contains s=true:=Qk;have hi:=HI.out Qk;have eE{P}(h:P:=by
  have hT:=Z (Hk h4 H.out.2.2 0 Ab);have HI2:=Z (fun h=>Co (l:=l) (W:=wordsL) (i:=(BT st).1) h);have HO:=Z HO.out;rw[Nat.add_zero]at hT;generalize Av l wordsL (BT st).1=t at*;have hto:(t=wON∨t=JD)∨¬(t=wON∨t=JD):=Classical.em _;rcases h1 with rfl|rfl
  all_goals
   rcases hto with hto|hto
   ·have ho:=HO.out;rw[if_pos hto,Rd.skip_g,Rd.pure_g]at ho;cases ho;have hi2:=HI2.out (by rcases hto with rfl|rfl<;>decide);rcases hto with rfl|rfl
    all_goals
     go_wp2_with fail;refine hT.out.mono ?_;rintro e w5 ⟨rfl,g5⟩;have hK5:=HK.out.gbN g5;have hR5:=h4.gbN g5;have d2:=hK5.blk.cell' 2 rfl;have f2:=hK5.blk.frozen 2;have hl5:=hK5.lt;have HK6:=Z (fun s2=>hK5.putT s2);clear hK5 g5;go_upto_region 10 with fail;have hR6:=fun(s2:Bs)=>hR5.gb (As (Aj w5 (some L)) 2 (str s2)) A6;have HN:=Z (fun s2=>Gc (hR6 s2) (fun _=>hi2));clear hR5 hR6 d2 f2;go_wp2_with fail;refine(HN.out _).mono ?_;rintro e w7 ⟨g7,v,rfl,rfl,h7⟩;go_wp2;go_end0;exact⟨rfl,⟨_,_,(HK6.out _).gb g7⟩,h7⟩
   ·have ho:=HO.out;rw[if_neg hto]at ho;cases ho;have hs1:(t !=[79,78])=true:=X1;have hs2:(t !=[79,70,70])=true:=X0;have hs3:(t==[79,78])=false:=X1;have hs4:(t==[79,70,70])=false:=X0;go_wp2_with fail;refine hT.out.mono ?_;rintro e w5 ⟨rfl,g5⟩;have hR5:=h4.gbN g5;go_wp2_with fail;refine(Ga hR5).mono ?_;rintro e w6 ⟨g6,v,rfl,rfl,h6⟩;go_wp2;go_end0;exact⟨rfl,⟨_,_,(HK.out.gbN g5).gb g6⟩,h6⟩):=Aa h
  exact Yc
 ·rw[if_neg h1]at ho;by_cases h2:s=Hx∨s=IK∨s=I7
  ·rw[if_pos h2,Rd.skip_g,Rd.must_gb,Rd.cond_g]at ho;have hin:setWords.contains s=true:=Qi;have hi:=HI.out Qi;have eE{P}(h:P:=by
   have hM:=Z (C5 h4 H.out.2.2 wTO Ad);generalize DP l wordsL wTO (BT st)=st5 at*;have HT:=Z (fun(W:World)(h:Rr W b tv l st5)=>ED h);cases hk:(Af l st5.1).kind==5 with
   | true=>
     have ho:=HO.out;rw[show Rd.atEnd l st5.1=true from hk,if_pos rfl,Rd.pure_g]at ho;cases ho;have hk5:(Af l st5.1).kind=5:=BE;clear hk;rcases h2 with rfl|rfl|rfl
     all_goals
      have fF{P}(h:P:=by rw[AG,hk5];have HE:=Z (Ac (hK5.gbN g6) (h5.gbN g6));clear hK5 g6;go_wp2;go_end0;exact⟨rfl,⟨_,_,HE.out.1⟩,HE.out.2⟩):=Aa h;exact YI
   | false=>
     have ho:=HO.out;rw[show Rd.atEnd l st5.1=false from hk,if_neg Ae]at ho;have HO:=Z ho;clear ho;rcases h2 with rfl|rfl|rfl
     ·have ho:=HO.out;rw[if_pos rfl,Rd.name_g,Rd.pure_g]at ho;cases ho;have fF{P}(h:P:=by rw[AG];have hR:=h5.gbN g6;replace HK:=Z (hK5.gbN g6);clear hK5 g6 h5;have Ck{P}(h:P:=by refine(BY hR).mono ?_;have NQ{P}(h:P:=by have hbL:b<L:=Df;have hR3:=(h3.gb (As (Aj w7 (some L)) 3 (.slice (some ⟨(w7).heap.size,0,none⟩) 1 1)) A6).alloc (.cells #[str (Ax l st5).1] 9 (0,0));replace HK:=Z (hK3.layP (Ax l st5).1);exact Tl):=Aa h;exact No):=Aa h;exact Ci):=Aa h;exact YI
     ·have ho:=HO.out;rw[if_neg Ad,if_pos rfl]at ho;obtain⟨x,st6,hx,ho⟩:=Rd.bind_g ho;rw[Rd.pure_g]at ho;have d5{P}(h:P:=by have HE:=Z hR3;clear hR3;go_wp2;go_end0;exact⟨rfl,⟨_,_,HK.out⟩,HE.out⟩):=Aa h;exact XS
     ·have ho:=HO.out;rw[if_neg Ad,if_neg Ad]at ho;obtain⟨x,st6,hx,ho⟩:=Rd.bind_g ho;rw[Rd.must_gb,Rd.name_g,Rd.pure_g]at ho;have d5{P}(h:P:=by have HM2:=Z (C5 hR3 H.out.2.2 J7 Ad);clear hR3;go_wp2_with fail;refine HM2.out.mono ?_;rintro e w8 ⟨g8,v,rfl,rfl,h8⟩;replace HK:=Z (HK.out.gb g8);clear g8 HM2;have hR:=h8;clear h8 d3 f3;have Ck{P}(h:P:=by refine(BY hR).mono ?_;rintro e w9 ⟨g3,v,rfl,rfl,h3⟩;have hK3:=HK.out.gb g3;have hkl3:=hK3.lt;have d3:=hK3.blk.cell' 3 rfl;have f3:=hK3.blk.frozen 3;have hbL:b<L:=Df;have hR3:=(h3.gb (As (Aj w9 (some L)) 3 (.slice (some ⟨(w9).heap.size,0,none⟩) 1 1)) A6).alloc (.cells #[str (Ax l (DP l wordsL J7 st6)).1] 9 (0,0));replace HK:=Z (hK3.layP (Ax l (DP l wordsL J7 st6)).1);exact Tl):=Aa h;exact Ci):=Aa h;exact XS):=Aa h
   exact Yc
  ·rw[if_neg h2]at ho;have e:r=(sd0 13 wd,(st.1,true)):=by cases ho;rfl
   subst e;have hin:setWords.contains s=false:=by
    have:s ∉ setWords:=by
     intro hm;simp at hm;rcases hm with h|h|h|h|h
     ·exact h2 (.inl h)
     ·exact h2 (.inr (.inl h))
     ·exact h2 (.inr (.inr h))
     ·exact h1 (.inl h)
     ·exact h1 (.inr h)
    simpa using this
   have HIN:=Z hin;clear ho hin;go_enter func232,ntmps232;have Iy{P}(h:P:=by have dK{P}(h:P:=by clear g1 g2 g3;go_wp2_with fail;refine(Ga (HH.out.gbN gA)).mono ?_;rintro e w4 ⟨g4,v,rfl,rfl,h4⟩;go_wp2;go_end0;exact⟨rfl,⟨_,_,(HK.out.gbN gA).gb g4⟩,h4⟩):=Aa h;exact T8):=Aa h;exact Ip
end
end Go.Proofs.YtmcajbhljbbglaaGreatDoor
