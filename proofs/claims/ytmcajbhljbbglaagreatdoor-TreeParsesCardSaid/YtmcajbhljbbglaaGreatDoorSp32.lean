/-
  A statement that a function keeps in a block of its own while it reads the parts. The reference's reader of statements: contracts of blocks; how the parts of a reading come one behind the other.
-/
import Derived.Test.YtmcajbhljbbglaaGreatDoorSpF
import Derived.Test.YtmcajbhljbbglaaGreatDoorSp31
set_option linter.all false
set_option maxRecDepth 100000
set_option maxHeartbeats 8000000
namespace Go.Proofs.YtmcajbhljbbglaaGreatDoor
open Tryz
open Go.RowKit
theorem RepF.mono'{w:World}{ok ok':Nat→Prop}{f:Fo}{cs:List Value}(h:RepF ok w f cs)(hk:∀k,ok k→k<w.heap.size→ok' k):RepF ok' w f cs:=RepF.mono hk h
theorem RepT.mono{ok ok':Nat→Prop}{w:World}(hk:∀k,ok k→k<w.heap.size→ok' k):∀{b:Bl}{k:Bool}{cs:List Value},RepT ok w b k cs→RepT ok' w b k cs:=by
 intro b
 induction b with
 |nil=>intro k cs h;exact h
 | st h b n ih1 ih2=>
   intro k cs hr;cases k with
   |true=>exact hr
   | false=>
     obtain⟨pa,xa,na,fa,wa,ba,pc,xc,nc,fc,wc,bc,kcs,rest,e,h1,h2,h3,h4⟩:=hr;exact⟨pa,xa,na,fa,wa,ba,pc,xc,nc,fc,wc,bc,kcs,rest,e,⟨h1.p.mono hk,h1.x.mono hk,h1.n.mono hk,h1.f.mono hk,h1.w.mono hk⟩,h2.mono hk,ih1 h3,ih2 h4⟩
 | bl b n ih1 ih2=>
   intro k cs hr;cases k with
   |false=>exact hr
   | true=>
     obtain⟨ba,bc,kcs,rest,e,h2,h3,h4⟩:=hr;exact⟨ba,bc,kcs,rest,e,h2.mono hk,ih1 h3,ih2 h4⟩
theorem RepT.mono'{w:World}{ok ok':Nat→Prop}{f:Bl}{k:Bool}{cs:List Value}(h:RepT ok w f k cs)(hk:∀k,ok k→k<w.heap.size→ok' k):RepT ok' w f k cs:=RepT.mono hk h
theorem RepV.mono'{w:World}{ok ok':Nat→Prop}{k:Bool}{v:Value}{b:Bl}(h:RepV ok w k v b)(hk:∀k,ok k→k<w.heap.size→ok' k):RepV ok' w k v b:=by
 obtain⟨cs,h1,h2⟩:=h;exact⟨cs,h1.mono hk,RepT.mono hk h2⟩
theorem Bl.len_app(a c:Bl):(a.app c).len=a.len+c.len:=by
 induction a with
 |nil=>simp[Bl.app,Bl.len]
 |st h b n _ ih=>simp[Bl.app,Bl.len,ih];omega
 |bl b n _ ih=>simp[Bl.app,Bl.len,ih];omega
theorem RepT.app{ok:Nat→Prop}{w:World}:∀{a c:Bl}{k:Bool}{cs ds:List Value},RepT ok w a k cs→RepT ok w c k ds→RepT ok w (a.app c) k (cs++ds):=by
 intro a;induction a with
 |nil=>intro c k cs ds h g;cases k<;>(have h:cs=[]:=h;subst h;exact g)
 | st h b n ih1 ih2=>
   intro c k cs ds hr g;cases k with
   |true=>exact hr.elim
   | false=>
     obtain⟨pa,xa,na,fa,wa,ba,pc,xc,nc,fc,wc,bc,kcs,rest,rfl,h1,h2,h3,h4⟩:=hr;exact⟨pa,xa,na,fa,wa,ba,pc,xc,nc,fc,wc,bc,kcs,rest++ds,by simp,h1,h2,h3,ih2 h4 g⟩
 | bl b n ih1 ih2=>
   intro c k cs ds hr g;cases k with
   |false=>exact hr.elim
   | true=>
     obtain⟨ba,bc,kcs,rest,rfl,h2,h3,h4⟩:=hr;exact⟨ba,bc,kcs,rest++ds,rfl,h2,h3,ih2 h4 g⟩
structure KS(b:Nat)(w:World)(L:Nat)(wr:World)(h:Sd)(g:Bl)(pv xv bv nv fv wv:Value):Prop where
 blk:Blk wr L (sdC h pv xv bv nv fv wv) 50
 p:Cells wr pv 1 h.p.length (h.p.map str) (but w L)
 x:RepL (but w L) wr xv h.x
 bb:RepV (but w L) wr true bv g
 n:RepL (but w L) wr nv h.n
 f:RepL (but w L) wr fv h.f
 wl:RepL (but w L) wr wv h.w
 gr:w.grownBy wr (some b)
 bw:b<w.heap.size
 wL:w.heap.size<L
 zero:Blk wr w.heap.size (stC 0 (.slice none 0 0)) 50
section
variable {b:Nat}{w wr w1:World}{L:Nat}{h:Sd}{g:Bl}{pv xv bv nv fv wv:Value}
theorem KS.gb(k:KS b w L wr h g pv xv bv nv fv wv)(gr:wr.grownBy w1 (some b)):KS b w L w1 h g pv xv bv nv fv wv:=by
 have hbw:=k.bw;have hwL:=k.wL;have hne:∀q,but w L q→q<wr.heap.size→some q≠some b:=fun q hq _ e=>by cases e;have:=hq.1;omega
 exact⟨k.blk.gb gr Ag,k.p.gb gr hne,k.x.gb gr hne,k.bb.gb gr hne,k.n.gb gr hne,k.f.gb gr hne,k.wl.gb gr hne,Ah k.gr gr,hbw,hwL,k.zero.gb gr Ag⟩
theorem KS.gbN(k:KS b w L wr h g pv xv bv nv fv wv)(gr:wr.grownBy w1 none):KS b w L w1 h g pv xv bv nv fv wv:=k.gb (AY gr)
theorem KS.alloc(k:KS b w L wr h g pv xv bv nv fv wv)(o:Obj):KS b w L (wr.alloc o) h g pv xv bv nv fv wv:=k.gbN (World.grownBy_alloc _ _ _)
theorem KS.lt(k:KS b w L wr h g pv xv bv nv fv wv):L<wr.heap.size:=k.blk.lt
theorem KS.fresh(k:KS b w L wr h g pv xv bv nv fv wv)(q:Nat)(hq:wr.heap.size≤q):but w L q:=by
 have h1:=k.lt;have h2:=k.wL;exact⟨by omega,by omega⟩
theorem KS.start{o:Int}{s:Bs}(hz:Blk wr w.heap.size (stC 0 (.slice none 0 0)) 50)(gr:w.grownBy wr (some b))(hb:b<w.heap.size)(hw:w.heap.size<wr.heap.size):
 KS b w wr.heap.size (wr.alloc (.cells #[.int .i64 o,str s,str [],.slice none 0 0,.slice none 0 0,.slice none 0 0,.int .i64 0,.slice none 0 0,.slice none 0 0,.slice none 0 0] 50 (0,0))) (sd0 o s) .nil (.slice none 0 0) (.slice none 0 0) (.slice none 0 0) (.slice none 0 0) (.slice none 0 0) (.slice none 0 0):=
 ⟨Blk.new _ _ _,Cells.nil _ _ _,RepL.nil _ _,RepV.nil _ _ _,RepL.nil _ _,RepL.nil _ _,RepL.nil _ _,Ar gr _,hb,hw,hz.alloc _⟩
theorem KS.bare{o:Int}{s:Bs} (blk:Blk wr L [.int .i64 o,str s,str [],.slice none 0 0,.slice none 0 0,.slice none 0 0,.int .i64 0,.slice none 0 0,.slice none 0 0,.slice none 0 0] 50) (gr:w.grownBy wr (some b)) (hb:b<w.heap.size) (hwL:w.heap.size<L) (hz:Blk wr w.heap.size (stC 0 (.slice none 0 0)) 50):
 KS b w L wr (sd0 o s) .nil (.slice none 0 0) (.slice none 0 0) (.slice none 0 0) (.slice none 0 0) (.slice none 0 0) (.slice none 0 0):=
 ⟨blk,Cells.nil _ _ _,RepL.nil _ _,RepV.nil _ _ _,RepL.nil _ _,RepL.nil _ _,RepL.nil _ _,gr,hb,hwL,hz⟩
theorem KS.put(k:KS b w L wr h g pv xv bv nv fv wv)(i:Nat)(v:Value){h':Sd}{g':Bl}{pv' xv' bv' nv' fv' wv':Value}
 (e:(sdC h pv xv bv nv fv wv).set i v=sdC h' pv' xv' bv' nv' fv' wv')
 (p:Cells wr pv' 1 h'.p.length (h'.p.map str) (but w L)) (x:RepL (but w L) wr xv' h'.x) (bb:RepV (but w L) wr true bv' g') (n:RepL (but w L) wr nv' h'.n) (f:RepL (but w L) wr fv' h'.f) (w':RepL (but w L) wr wv' h'.w):
 KS b w L (wr.setCell ⟨L,i,none⟩ v) h' g' pv' xv' bv' nv' fv' wv':=by
 have hwL:=k.wL;have g1:=As (Aj wr (some L)) i v;have Iv{P}(h:P:=by exact⟨(k.blk.set i v).of_eq rfl e,p.gb g1 hne,x.gb g1 hne,bb.gb g1 hne,n.gb g1 hne,f.gb g1 hne,w'.gb g1 hne,A5 k.gr g1 (.inr Ab),k.bw,hwL,k.zero.gb g1 Ag⟩):=Aa h;exact Im
theorem KS.putS(k:KS b w L wr h g pv xv bv nv fv wv)(s:Bs):KS b w L (wr.setCell ⟨L,1,none⟩ (str s)) {h with s:=s} g pv xv bv nv fv wv:=k.put 1 _ rfl k.p k.x k.bb k.n k.f k.wl
theorem KS.putT(k:KS b w L wr h g pv xv bv nv fv wv)(s:Bs):KS b w L (wr.setCell ⟨L,2,none⟩ (str s)) {h with t:=s} g pv xv bv nv fv wv:=k.put 2 _ rfl k.p k.x k.bb k.n k.f k.wl
theorem KS.putX(k:KS b w L wr h g pv xv bv nv fv wv){v:Value}{x:Fo}(hx:RepL (but w L) wr v x):KS b w L (wr.setCell ⟨L,4,none⟩ v) {h with x:=x} g pv v bv nv fv wv:=k.put 4 _ rfl k.p hx k.bb k.n k.f k.wl
theorem KS.putC(k:KS b w L wr h g pv xv bv nv fv wv){c:ScM}{nv' fv' wv':Value}(hn:RepL (but w L) wr nv' c.n)(hf:RepL (but w L) wr fv' c.f)(hw:RepL (but w L) wr wv' c.w)(w2:World)
 (e2:w2=(((wr.setCell ⟨L,6,none⟩ (.int .i64 c.kind)).setCell ⟨L,7,none⟩ nv').setCell ⟨L,8,none⟩ fv').setCell ⟨L,9,none⟩ wv'):KS b w L w2 (Cb h c) g pv xv bv nv' fv' wv':=by
 subst e2;have hwL:=k.wL;have Iv{P}(h:P:=by have g1:=As (As (As (As (Aj wr (some L)) 6 (.int .i64 c.kind)) 7 nv') 8 fv') 9 wv';exact⟨((((k.blk.set 6 _).set 7 _).set 8 _).set 9 _).of_eq rfl rfl,k.p.gb g1 hne,k.x.gb g1 hne,k.bb.gb g1 hne,hn.gb g1 hne,hf.gb g1 hne,hw.gb g1 hne,A5 k.gr g1 (.inr Ab),k.bw,hwL,k.zero.gb g1 Ag⟩):=Aa h;exact Im
theorem KS.shapes(k:KS b w L wr h g pv xv bv nv fv wv):∃pa xa ba na fa wa,∃pc xc bc nc fc wc,pv= .slice pa h.p.length pc∧xv= .slice xa h.x.len xc∧bv= .slice ba g.len bc∧nv= .slice na h.n.len nc∧fv= .slice fa h.f.len fc∧wv= .slice wa h.w.len wc:=by
 obtain⟨pa,pc,e1,_⟩:=k.p;obtain⟨_,⟨xa,xc,e2,_⟩,_⟩:=k.x;obtain⟨_,⟨ba,bc,e3,_⟩,_⟩:=k.bb;obtain⟨_,⟨na,nc,e4,_⟩,_⟩:=k.n;obtain⟨_,⟨fa,fc,e5,_⟩,_⟩:=k.f;obtain⟨_,⟨wa,wc,e6,_⟩,_⟩:=k.wl;exact⟨pa,xa,ba,na,fa,wa,pc,xc,bc,nc,fc,wc,e1,e2,e3,e4,e5,e6⟩
theorem KS.out(k:KS b w L wr h g pv xv bv nv fv wv):
 w.grownBy (set10 wr w.heap.size (.int .i64 h.op) (str h.s) (str h.t) pv xv bv (.int .i64 h.kind) nv fv wv) (some b)∧
 wr.grownBy (set10 wr w.heap.size (.int .i64 h.op) (str h.s) (str h.t) pv xv bv (.int .i64 h.kind) nv fv wv) (some w.heap.size)∧
 Blk (set10 wr w.heap.size (.int .i64 h.op) (str h.s) (str h.t) pv xv bv (.int .i64 h.kind) nv fv wv) w.heap.size (sdC h pv xv bv nv fv wv) 50∧
 StV (Ap w.heap.size) (set10 wr w.heap.size (.int .i64 h.op) (str h.s) (str h.t) pv xv bv (.int .i64 h.kind) nv fv wv) (.agg (sdC h pv xv bv nv fv wv).toArray) (h,g):=by
 have hwL:=k.wL;have g1:=FZ wr w.heap.size (.int .i64 h.op) (str h.s) (str h.t) pv xv bv (.int .i64 h.kind) nv fv wv;have hne:∀q,but w L q→q<wr.heap.size→some q≠some w.heap.size:=fun q hq _ e=>by cases e;have:=hq.1;omega
 have hs:∀q,but w L q→q<(set10 wr w.heap.size (.int .i64 h.op) (str h.s) (str h.t) pv xv bv (.int .i64 h.kind) nv fv wv).heap.size→Ap w.heap.size q:=fun q hq _=>by have:=hq.1;show w.heap.size≤q;omega
 refine⟨A5 k.gr g1 (.inr (Nat.le_refl _)),g1,k.zero.set10 _ _ _ _ _ _ _ _ _ _,?_⟩;have hp:=(k.p.gb g1 hne).mono hs;have hx:=(k.x.gb g1 hne).mono hs;have hb:=RepV.mono' (k.bb.gb g1 hne) hs;have hn:=(k.n.gb g1 hne).mono hs;have hf:=(k.f.gb g1 hne).mono hs;have hw:=(k.wl.gb g1 hne).mono hs;obtain⟨pa,pc,rfl,_⟩:=id hp;obtain⟨_,⟨xa,xc,rfl,_⟩,_⟩:=id hx;obtain⟨_,⟨ba,bc,rfl,_⟩,_⟩:=id hb;obtain⟨_,⟨na,nc,rfl,_⟩,_⟩:=id hn;obtain⟨_,⟨fa,fc,rfl,_⟩,_⟩:=id hf;obtain⟨_,⟨wa,wc,rfl,_⟩,_⟩:=id hw;exact⟨pa,xa,na,fa,wa,ba,pc,xc,nc,fc,wc,bc,rfl,⟨hp,hx,hn,hf,hw⟩,hb⟩
end
section
variable {b:Nat}{w wr:World}{L:Nat}{h:Sd}{g:Bl}{pv xv bv nv fv wv:Value}
theorem KS.lay(k:KS b w L wr h g pv xv bv nv fv wv)(i:Nat)(v:Value)(ob:Obj){h':Sd}{g':Bl}{pv' xv' bv':Value}
 (e:(sdC h pv xv bv nv fv wv).set i v=sdC h' pv' xv' bv' nv fv wv) (en:h'.n=h.n) (ef:h'.f=h.f) (ew:h'.w=h.w)
 (p:Cells ((wr.setCell ⟨L,i,none⟩ v).alloc ob) pv' 1 h'.p.length (h'.p.map str) (but w L)) (x:RepL (but w L) ((wr.setCell ⟨L,i,none⟩ v).alloc ob) xv' h'.x) (bb:RepV (but w L) ((wr.setCell ⟨L,i,none⟩ v).alloc ob) true bv' g'):
 KS b w L ((wr.setCell ⟨L,i,none⟩ v).alloc ob) h' g' pv' xv' bv' nv fv wv:=by
 have hwL:=k.wL;have g1:=As (Aj wr (some L)) i v;have Iv{P}(h:P:=by have g2:=World.grownBy_alloc (wr.setCell ⟨L,i,none⟩ v) ob none;exact⟨((k.blk.set i v).of_eq rfl e).alloc _,p,x,bb,en ▸ (k.n.gb g1 hne).gb g2 Ae,ef ▸ (k.f.gb g1 hne).gb g2 Ae,ew ▸ (k.wl.gb g1 hne).gb g2 Ae,Ar (A5 k.gr g1 (.inr Ab)) _,k.bw,hwL,(k.zero.gb g1 Ag).alloc _⟩):=Aa h;exact Im
theorem KS.layX(k:KS b w L wr h g pv xv bv nv fv wv){f:Fo}{cs:List Value}{m:Nat}(hl:f.len=m)(hm:m≤maxLen)(hr:RepF (but w L) wr f cs):
 KS b w L ((wr.setCell ⟨L,4,none⟩ (.slice (some ⟨wr.heap.size,0,none⟩) m m)).alloc (.cells cs.toArray 29 (0,0))) {h with x:=f} g pv (.slice (some ⟨wr.heap.size,0,none⟩) m m) bv nv fv wv:=by
 have hwL:=k.wL;have hlt:=k.lt;have g1:=As (Aj wr (some L)) 4 (.slice (some ⟨wr.heap.size,0,none⟩) m m);have Iv{P}(h:P:=by have g2:=World.grownBy_alloc (wr.setCell ⟨L,4,none⟩ (.slice (some ⟨wr.heap.size,0,none⟩) m m)) (.cells cs.toArray 29 (0,0)) none;subst hl;exact k.lay 4 _ _ rfl rfl rfl rfl ((k.p.gb g1 hne).gb g2 Ae) ⟨cs,Cells.new' (size:=7) Ae hr.len hm ⟨by omega,by omega⟩,(hr.gb g1 hne).gb g2 Ae⟩ ((k.bb.gb g1 hne).gb g2 Ae)):=Aa h;exact Im
theorem KS.layB(k:KS b w L wr h g pv xv bv nv fv wv){c:Bl}{ca:Option Addr}{cc:Nat}(hr:RepV (but w L) wr false (.slice ca c.len cc) c):
 KS b w L ((wr.setCell ⟨L,5,none⟩ (.slice (some ⟨wr.heap.size,0,none⟩) 1 1)).alloc (.cells #[.slice ca c.len cc] 43 (0,0))) h (.bl c .nil) pv xv (.slice (some ⟨wr.heap.size,0,none⟩) 1 1) nv fv wv:=by
 have hwL:=k.wL;have hlt:=k.lt;have g1:=As (Aj wr (some L)) 5 (.slice (some ⟨wr.heap.size,0,none⟩) 1 1);have Iv{P}(h:P:=by have g2:=World.grownBy_alloc (wr.setCell ⟨L,5,none⟩ (.slice (some ⟨wr.heap.size,0,none⟩) 1 1)) (.cells #[.slice ca c.len cc] 43 (0,0)) none;obtain⟨kcs,c1,c2⟩:=(hr.gb g1 hne).gb g2 Ae;exact k.lay 5 _ _ rfl rfl rfl rfl ((k.p.gb g1 hne).gb g2 Ae) ((k.x.gb g1 hne).gb g2 Ae) ⟨[.slice ca c.len cc],Cells.new' (cs:=[.slice ca c.len cc]) (size:=1) (n:=1) Ae rfl Ad ⟨by omega,by omega⟩,ca,cc,kcs,[],rfl,c1,c2,rfl⟩):=Aa h;exact Im
theorem KS.layP(k:KS b w L wr h g pv xv bv nv fv wv)(s:Bs):
 KS b w L ((wr.setCell ⟨L,3,none⟩ (.slice (some ⟨wr.heap.size,0,none⟩) 1 1)).alloc (.cells #[str s] 9 (0,0))) {h with p:=[s]} g (.slice (some ⟨wr.heap.size,0,none⟩) 1 1) xv bv nv fv wv:=by
 have hwL:=k.wL;have hlt:=k.lt;have g1:=As (Aj wr (some L)) 3 (.slice (some ⟨wr.heap.size,0,none⟩) 1 1);have Iv{P}(h:P:=by have g2:=World.grownBy_alloc (wr.setCell ⟨L,3,none⟩ (.slice (some ⟨wr.heap.size,0,none⟩) 1 1)) (.cells #[str s] 9 (0,0)) none;exact k.lay 3 _ _ rfl rfl rfl rfl (Cells.new' (cs:=[str s]) (size:=1) (n:=1) Ae rfl Ad ⟨by omega,by omega⟩) ((k.x.gb g1 hne).gb g2 Ae) ((k.bb.gb g1 hne).gb g2 Ae)):=Aa h;exact Im
end
abbrev fre(w:World)(L:Nat)(pv xv bv:Value):Nat→Prop:=fun q=>w.heap.size<q∧q≠L∧pv.ownBlock≠some q∧xv.ownBlock≠some q∧bv.ownBlock≠some q
structure KA(b:Nat)(w:World)(L:Nat)(wr:World)(o:Int)(s t:Bs)(p:List Bs)(f:Fo)(g:Bl)(pv xv bv:Value):Prop where
 blk:Blk wr L [.int .i64 o,str s,str t,pv,xv,bv,.int .i64 0,.slice none 0 0,.slice none 0 0,.slice none 0 0] 50
 p:wr.ownsRow (w.heap.size+1) 9 1 pv p.length (p.map str)
 x:∃cs,wr.ownsRow (w.heap.size+1) 29 7 xv f.len cs∧RepF (fre w L pv xv bv) wr f cs
 bb:∃cs,wr.ownsRow (w.heap.size+1) 43 1 bv g.len cs∧RepT (fre w L pv xv bv) wr g true cs
 gr:w.grownBy wr (some b)
 bw:b<w.heap.size
 wL:w.heap.size<L
 zero:Blk wr w.heap.size (stC 0 (.slice none 0 0)) 50
theorem OH{w:World}{B e size n:Nat}{v:Value}{xs:List Value}(h:w.ownsRow B e size v n xs){k:Nat}(hk:v.ownBlock=some k):∃cur,w.heap[k]? =some (.cells cur e (0,0)):=by
 rcases h.2 with⟨rfl,rfl⟩| ⟨g,cap,cur,rfl,hb,hg,_⟩
 ·cases hk
 ·have:g=k:=by simpa[Value.ownBlock]using hk
  subst this;exact⟨cur,hg⟩
theorem GL{w:World}{B e size n B' e' size' n':Nat}{v v':Value}{xs xs':List Value}(h:w.ownsRow B e size v n xs)(h':w.ownsRow B' e' size' v' n' xs')(hne:e≠e')(k:Nat)(hk:v.ownBlock=some k):v'.ownBlock≠some k:=by
 intro hk';obtain⟨c,h1⟩:=OH h hk;obtain⟨c',h2⟩:=OH h' hk';rw[h1]at h2;cases h2;exact hne rfl
theorem Cm{w:World}{B e size n:Nat}{v:Value}{xs:List Value}(h:w.ownsRow B e size v n xs){L:Nat}{cs:List Value}{t:TypeId}(hL:Blk w L cs t)(hne:e≠t):v.ownBlock≠some L:=by
 intro hk;obtain⟨c,h1⟩:=OH h hk;have h2:w.heap[L]? =some (.cells cs.toArray t (0,0)):=hL;rw[h1]at h2;cases h2;exact hne rfl
section
variable {b:Nat}{w wr w1:World}{L:Nat}{o:Int}{s t:Bs}{p:List Bs}{f:Fo}{g:Bl}{pv xv bv:Value}
theorem KA.lt(k:KA b w L wr o s t p f g pv xv bv):L<wr.heap.size:=k.blk.lt
theorem KA.gb(k:KA b w L wr o s t p f g pv xv bv)(gr:wr.grownBy w1 (some b)):KA b w L w1 o s t p f g pv xv bv:=by
 have hbw:=k.bw;have hwL:=k.wL;obtain⟨cs,h1,h2⟩:=k.x;obtain⟨ds,h3,h4⟩:=k.bb;have hn:∀q,w.heap.size+1≤q→q<wr.heap.size→some q≠some b:=fun q hq _ e=>by cases e;omega
 have hne:∀q,fre w L pv xv bv q→q<wr.heap.size→some q≠some b:=fun q hq _ e=>by cases e;have:=hq.1;omega
 exact⟨k.blk.gb gr Ag,E7 k.p gr hn,⟨cs,E7 h1 gr hn,h2.gb gr hne⟩,⟨ds,E7 h3 gr hn,h4.gb gr hne⟩,Ah k.gr gr,hbw,hwL,k.zero.gb gr Ag⟩
theorem KA.gbN(k:KA b w L wr o s t p f g pv xv bv)(gr:wr.grownBy w1 none):KA b w L w1 o s t p f g pv xv bv:=k.gb (AY gr)
theorem KA.alloc(k:KA b w L wr o s t p f g pv xv bv)(ob:Obj):KA b w L (wr.alloc ob) o s t p f g pv xv bv:=k.gbN (World.grownBy_alloc _ _ _)
theorem KA.start(hz:Blk wr w.heap.size (stC 0 (.slice none 0 0)) 50)(gr:w.grownBy wr (some b))(hb:b<w.heap.size)(hw:w.heap.size<wr.heap.size)(o:Int)(s:Bs):
 KA b w wr.heap.size (wr.alloc (.cells #[.int .i64 o,str s,str [],.slice none 0 0,.slice none 0 0,.slice none 0 0,.int .i64 0,.slice none 0 0,.slice none 0 0,.slice none 0 0] 50 (0,0))) o s [] [] .nil .nil (.slice none 0 0) (.slice none 0 0) (.slice none 0 0):=
 ⟨Blk.new _ _ _,World.ownsRow_nil _ _ _ _,⟨[],World.ownsRow_nil _ _ _ _,rfl⟩,⟨[],World.ownsRow_nil _ _ _ _,rfl⟩,Ar gr _,hb,hw,hz.alloc _⟩
theorem KA.fresh(k:KA b w L wr o s t p f g pv xv bv)(q:Nat)(hq:wr.heap.size≤q):fre w L pv xv bv q:=by
 have h1:=k.lt;have h2:=k.wL;obtain⟨cs,hx,_⟩:=k.x;obtain⟨ds,hb,_⟩:=k.bb;exact⟨by omega,by omega,fun e=>by have:=(k.p.lt q e).2;omega,fun e=>by have:=(hx.lt q e).2;omega,fun e=>by have:=(hb.lt q e).2;omega⟩
theorem KA.toKS(k:KA b w L wr o s t p f g pv xv bv):KS b w L wr ⟨o,s,t,p,f,0,.nil,.nil,.nil⟩ g pv xv bv (.slice none 0 0) (.slice none 0 0) (.slice none 0 0):=by
 obtain⟨cs,hx,hx2⟩:=k.x;obtain⟨ds,hb,hb2⟩:=k.bb;have hfr:∀q,fre w L pv xv bv q→q<wr.heap.size→but w L q:=fun q hq _=>⟨hq.1,hq.2.1⟩;have ow:∀{e size n:Nat}{v:Value}{xs:List Value},wr.ownsRow (w.heap.size+1) e size v n xs→e≠50→Cells wr v size n xs (but w L):=by
  intro e size n v xs h hne;have h1:=Cm h k.blk hne;obtain⟨a,cap,e1,c1,c2,c3,c4⟩:=GE h;refine⟨a,cap,e1,c1,c2,c3,fun j u hj=>?_⟩;obtain⟨gg,oo,ea,ho,hc⟩:=c4 j u hj;refine⟨gg,oo,ea,⟨by have:w.heap.size+1≤gg:=ho;omega,fun e2=>h1 ?_⟩,hc⟩;subst e1 ea e2;rfl
 exact⟨k.blk,ow k.p Ad,⟨cs,ow hx Ad,hx2.mono hfr⟩,⟨ds,ow hb Ad,hb2.mono hfr⟩,RepL.nil _ _,RepL.nil _ _,RepL.nil _ _,k.gr,k.bw,k.wL,k.zero⟩
theorem KA.putS(k:KA b w L wr o s t p f g pv xv bv)(s':Bs):KA b w L (wr.setCell ⟨L,1,none⟩ (str s')) o s' t p f g pv xv bv:=by
 have hwL:=k.wL;have g1:=As (Aj wr (some L)) 1 (str s');obtain⟨cs,h1,h2⟩:=k.x;obtain⟨ds,h3,h4⟩:=k.bb;have keep:∀{e size n:Nat}{v:Value}{xs:List Value},wr.ownsRow (w.heap.size+1) e size v n xs→e≠50→(wr.setCell ⟨L,1,none⟩ (str s')).ownsRow (w.heap.size+1) e size v n xs:=by
  intro e size n v xs h hne;exact Tx
 have Rs{P}(h:P:=by exact⟨(k.blk.set 1 _).of_eq rfl rfl,keep k.p Ad,⟨cs,keep h1 Ad,h2.gb g1 hne2⟩,⟨ds,keep h3 Ad,h4.gb g1 hne2⟩,A5 k.gr g1 (.inr Ab),k.bw,hwL,k.zero.gb g1 Ag⟩):=Aa h;exact Ot
theorem C0{w wr w1:World}{r o:Option Nat}(h:w.grownBy wr r)(g:wr.grownBy w1 o)(ho:∀k,o=some k→w.heap.size≤k):w.grownBy w1 r:=by
 cases o with
 |none=>exact A0 h g
 |some k=>exact A5 h g (.inr (ho k rfl))
theorem KA.belowP(k:KA b w L wr o s t p f g pv xv bv)(q:Nat)(h:pv.ownBlock=some q):b<q∧w.heap.size<q:=by
 have:=(k.p.lt q h).1;have:=k.bw;exact⟨by omega,by omega⟩
theorem KA.belowX(k:KA b w L wr o s t p f g pv xv bv)(q:Nat)(h:xv.ownBlock=some q):b<q∧w.heap.size<q:=by
 obtain⟨cs,h1,_⟩:=k.x;have:=(h1.lt q h).1;have:=k.bw;exact⟨by omega,by omega⟩
theorem KA.belowB(k:KA b w L wr o s t p f g pv xv bv)(q:Nat)(h:bv.ownBlock=some q):b<q∧w.heap.size<q:=by
 obtain⟨cs,h1,_⟩:=k.bb;have:=(h1.lt q h).1;have:=k.bw;exact⟨by omega,by omega⟩
theorem KA.addX(k:KA b w L wr o s t p f g pv xv bv){cs:List Value}(hx:wr.ownsRow (w.heap.size+1) 29 7 xv f.len cs)(hr:RepF (fre w L pv xv bv) wr f cs)
 {x:Ex} {pa la:Option Addr} {pc lc:Nat} {okx:Nat→Prop} (rp:Cells wr (.slice pa x.h.p.length pc) 1 x.h.p.length (x.h.p.map str) okx) (rl:RepL okx wr (.slice la x.kids.len lc) x.kids) (hok:∀q,okx q→fre w L pv xv bv q)
 {v':Value} (ho:w1.ownsRow (w.heap.size+1) 29 7 v' (f.len+1) (cs++hdC x.h (.slice pa x.h.p.length pc) (.slice la x.kids.len lc))) (hg:wr.grownBy w1 xv.ownBlock) (hnew:∀q,v'.ownBlock=some q→xv.ownBlock=some q∨wr.heap.size≤q):
 KA b w L (w1.setCell ⟨L,4,none⟩ v') o s t p (f.snoc x) g pv v' bv:=by
 have hwL:=k.wL;have hLt:=k.lt;have hbw:=k.bw;obtain⟨ds,h3,h4⟩:=k.bb;have nL:=Cm hx k.blk Ad;have nP:=GL k.p hx Ad;have nB:=GL h3 hx Ad;have nLp:=Cm k.p k.blk Ad;have nLb:=Cm h3 k.blk Ad;have nZ:xv.ownBlock≠some w.heap.size:=fun e=>by have:=(k.belowX _ e).2;omega
 have nL':v'.ownBlock≠some L:=fun e=>by(rcases hnew _ e with h|h;exact nL h;omega)
 have g1:=As (Aj w1 (some L)) 4 v';have hs:=hg.size;have hfre:∀q,fre w L pv xv bv q→q<wr.heap.size→fre w L pv v' bv q∧xv.ownBlock≠some q:=fun q hq hlt=>⟨⟨hq.1,hq.2.1,hq.2.2.1,fun e=>by(rcases hnew _ e with h|h;exact hq.2.2.2.1 h;omega),hq.2.2.2.2⟩,hq.2.2.2.1⟩;have hne:∀q,(fre w L pv v' bv q∧xv.ownBlock≠some q)→q<wr.heap.size→some q≠xv.ownBlock:=fun q hq _ e=>hq.2 e.symm;have hne2:∀q,(fre w L pv v' bv q∧xv.ownBlock≠some q)→q<w1.heap.size→some q≠some L:=fun q hq _ e=>by cases e;exact hq.1.2.1 rfl
 have keep:∀{e size n:Nat}{v:Value}{xs:List Value},wr.ownsRow (w.heap.size+1) e size v n xs→(∀q,v.ownBlock=some q→xv.ownBlock≠some q)→v.ownBlock≠some L→(w1.setCell ⟨L,4,none⟩ v').ownsRow (w.heap.size+1) e size v n xs:=by
  intro e size n v xs h a1 a2;exact QD
 refine⟨((k.blk.gb hg (fun e=>nL e.symm)).set 4 v').of_eq rfl rfl,keep k.p nP nLp,⟨cs++hdC x.h (.slice pa x.h.p.length pc) (.slice la x.kids.len lc),?_,?_⟩,⟨ds,keep h3 nB nLb,?_⟩,A5 (C0 k.gr hg fun q hq=>by have:=(k.belowX q hq).2;omega) g1 (.inr Ab),hbw,hwL,(k.zero.gb hg (fun e=>nZ e.symm)).gb g1 Ag⟩
 ·rw[Fo.len_snoc];refine ho.kept g1 ?_;exact QS
 ·have h1:RepF (fre w L pv xv bv) wr (f.snoc x) _:=hr.app (VE.rep (rp.mono fun q hq _=>hok q hq) (rl.mono fun q hq _=>hok q hq));exact(((h1.mono' hfre).gb hg hne).gb g1 hne2).mono' fun q hq _=>hq.1
 ·exact(((RepT.mono hfre h4).gb hg hne).gb g1 hne2).mono' fun q hq _=>hq.1
theorem KA.addP(k:KA b w L wr o s t p f g pv xv bv){y:Bs}
 {v':Value} (ho:w1.ownsRow (w.heap.size+1) 9 1 v' (p.length+1) (p.map str++[str y])) (hg:wr.grownBy w1 pv.ownBlock) (hnew:∀q,v'.ownBlock=some q→pv.ownBlock=some q∨wr.heap.size≤q):
 KA b w L (w1.setCell ⟨L,3,none⟩ v') o s t (p++[y]) f g v' xv bv:=by
 have hwL:=k.wL;have hLt:=k.lt;have hbw:=k.bw;obtain⟨cs,hx,hr⟩:=k.x;obtain⟨ds,h3,h4⟩:=k.bb;have nL:=Cm k.p k.blk Ad;have nX:=GL hx k.p Ad;have nB:=GL h3 k.p Ad;have nLx:=Cm hx k.blk Ad;have nLb:=Cm h3 k.blk Ad;have nZ:pv.ownBlock≠some w.heap.size:=fun e=>by have:=(k.belowP _ e).2;omega
 have nL':v'.ownBlock≠some L:=fun e=>by(rcases hnew _ e with h|h;exact nL h;omega)
 have g1:=As (Aj w1 (some L)) 3 v';have hs:=hg.size;have hfre:∀q,fre w L pv xv bv q→q<wr.heap.size→fre w L v' xv bv q∧pv.ownBlock≠some q:=fun q hq hlt=>⟨⟨hq.1,hq.2.1,fun e=>by(rcases hnew _ e with h|h;exact hq.2.2.1 h;omega),hq.2.2.2⟩,hq.2.2.1⟩;have hne:∀q,(fre w L v' xv bv q∧pv.ownBlock≠some q)→q<wr.heap.size→some q≠pv.ownBlock:=fun q hq _ e=>hq.2 e.symm;have hne2:∀q,(fre w L v' xv bv q∧pv.ownBlock≠some q)→q<w1.heap.size→some q≠some L:=fun q hq _ e=>by cases e;exact hq.1.2.1 rfl
 have keep:∀{e size n:Nat}{v:Value}{xs:List Value},wr.ownsRow (w.heap.size+1) e size v n xs→(∀q,v.ownBlock=some q→pv.ownBlock≠some q)→v.ownBlock≠some L→(w1.setCell ⟨L,3,none⟩ v').ownsRow (w.heap.size+1) e size v n xs:=by
  intro e size n v xs h a1 a2;exact QD
 refine⟨((k.blk.gb hg (fun e=>nL e.symm)).set 3 v').of_eq rfl rfl,?_,⟨cs,keep hx nX nLx,?_⟩,⟨ds,keep h3 nB nLb,?_⟩,A5 (C0 k.gr hg fun q hq=>by have:=(k.belowP q hq).2;omega) g1 (.inr Ab),hbw,hwL,(k.zero.gb hg (fun e=>nZ e.symm)).gb g1 Ag⟩
 ·rw[List.length_append,List.map_append];refine World.ownsRow.kept ho g1 ?_;exact QS
 ·exact(((hr.mono' hfre).gb hg hne).gb g1 hne2).mono' fun q hq _=>hq.1
 ·exact(((RepT.mono hfre h4).gb hg hne).gb g1 hne2).mono' fun q hq _=>hq.1
theorem KA.addB(k:KA b w L wr o s t p f g pv xv bv){ds:List Value}(hx:wr.ownsRow (w.heap.size+1) 43 1 bv g.len ds)(hr:RepT (fre w L pv xv bv) wr g true ds)
 {c:Bl} {ca:Option Addr} {cc:Nat} {okx:Nat→Prop} (rc:RepV okx wr false (.slice ca c.len cc) c) (hok:∀q,okx q→fre w L pv xv bv q)
 {v':Value} (ho:w1.ownsRow (w.heap.size+1) 43 1 v' (g.len+1) (ds++[.slice ca c.len cc])) (hg:wr.grownBy w1 bv.ownBlock) (hnew:∀q,v'.ownBlock=some q→bv.ownBlock=some q∨wr.heap.size≤q):
 KA b w L (w1.setCell ⟨L,5,none⟩ v') o s t p f (g.app (.bl c .nil)) pv xv v':=by
 have hwL:=k.wL;have hLt:=k.lt;have hbw:=k.bw;obtain⟨cs,h3,h4⟩:=k.x;have nL:=Cm hx k.blk Ad;have nP:=GL k.p hx Ad;have nX:=GL h3 hx Ad;have nLp:=Cm k.p k.blk Ad;have nLx:=Cm h3 k.blk Ad;have nZ:bv.ownBlock≠some w.heap.size:=fun e=>by have:=(k.belowB _ e).2;omega
 have nL':v'.ownBlock≠some L:=fun e=>by(rcases hnew _ e with h|h;exact nL h;omega)
 have g1:=As (Aj w1 (some L)) 5 v';have hs:=hg.size;have hfre:∀q,fre w L pv xv bv q→q<wr.heap.size→fre w L pv xv v' q∧bv.ownBlock≠some q:=fun q hq hlt=>⟨⟨hq.1,hq.2.1,hq.2.2.1,hq.2.2.2.1,fun e=>by(rcases hnew _ e with h|h;exact hq.2.2.2.2 h;omega)⟩,hq.2.2.2.2⟩;have hne:∀q,(fre w L pv xv v' q∧bv.ownBlock≠some q)→q<wr.heap.size→some q≠bv.ownBlock:=fun q hq _ e=>hq.2 e.symm;have hne2:∀q,(fre w L pv xv v' q∧bv.ownBlock≠some q)→q<w1.heap.size→some q≠some L:=fun q hq _ e=>by cases e;exact hq.1.2.1 rfl
 have keep:∀{e size n:Nat}{v:Value}{xs:List Value},wr.ownsRow (w.heap.size+1) e size v n xs→(∀q,v.ownBlock=some q→bv.ownBlock≠some q)→v.ownBlock≠some L→(w1.setCell ⟨L,5,none⟩ v').ownsRow (w.heap.size+1) e size v n xs:=by
  intro e size n v xs h a1 a2;exact QD
 refine⟨((k.blk.gb hg (fun e=>nL e.symm)).set 5 v').of_eq rfl rfl,keep k.p nP nLp,⟨cs,keep h3 nX nLx,?_⟩,⟨ds++[.slice ca c.len cc],?_,?_⟩,A5 (C0 k.gr hg fun q hq=>by have:=(k.belowB q hq).2;omega) g1 (.inr Ab),hbw,hwL,(k.zero.gb hg (fun e=>nZ e.symm)).gb g1 Ag⟩
 ·exact(((h4.mono' hfre).gb hg hne).gb g1 hne2).mono' fun q hq _=>hq.1
 ·rw[Bl.len_app];refine World.ownsRow.kept ho g1 ?_;exact QS
 ·obtain⟨kcs,c1,c2⟩:=rc;have h1:RepT (fre w L pv xv bv) wr (g.app (.bl c .nil)) true (ds++[.slice ca c.len cc]):=hr.app ⟨ca,cc,kcs,[],rfl,c1.mono fun q hq _=>hok q hq,RepT.mono (fun q hq _=>hok q hq) c2,rfl⟩;exact(((RepT.mono hfre h1).gb hg hne).gb g1 hne2).mono' fun q hq _=>hq.1
end
namespace Rd
variable {l : List Tok} {α β : Type} {q : α → Rd l β} {st : RS} {r : β × RS}
theorem bind_g {p : Rd l α} (h : (bind p q).g st = some r) : ∃ a st', p.g st = some (a, st') ∧ (q a).g st' = some r := by
  obtain ⟨⟨a, st'⟩, h1, h2⟩ := Option.bind_eq_some_iff.1 (show (p.g st).bind (fun r => (q r.1).g r.2) = some r from h)
  exact ⟨a, st', h1, h2⟩
theorem pure_g (a : α) (st : RS) : (pure a : Rd l α).g st = some (a, st) := rfl
theorem skip_g {q : Unit → Rd l β} (st : RS) : (skip.bind q).g st = (q ()).g (BT st) := rfl
theorem fin_g {q : Unit → Rd l β} (st : RS) : (fin.bind q).g st = (q ()).g (Fi l st) := rfl
theorem want_g {q : Unit → Rd l β} (s : Bs) (st : RS) : ((want s).bind q).g st = (q ()).g (AZ l s st) := rfl
theorem must_gb {q : Unit → Rd l β} (W : List Bs) (w : Bs) (st : RS) : ((must W w).bind q).g st = (q ()).g (DP l W w st) := by
  show ((must W w : Rd l Unit).g st).bind _ = _
  rw [must_g]; rfl
theorem name_g (hn : Al l) {q : Bs → Rd l β} (st : RS) : ((name hn).bind q).g st = (q (Ax l st).1).g (Ax l st).2 := rfl
theorem ifs_g (s : Bs) (p q : Rd l α) (st : RS) : (ifs s p q).g st = if A2 l s st then p.g (Aq l s st) else q.g (Aq l s st) := rfl
theorem here_g (W : List Bs) {q : Bs → Rd l β} (st : RS) : ((here W).bind q).g st = (q (Av l W st.1)).g st := rfl
theorem cond_g (c : Nat → Bool) (p q : Rd l α) (st : RS) : (cond c p q).g st = if c st.1 then p.g st else q.g st := rfl
theorem condW_g (c : Nat → Bool) (p q : Rd l α) (st : RS) : (condW c p q).g st = if st.2 || c st.1 then p.g st else q.g st := rfl
theorem condN_g (c : Nat → Bool) (p q : Rd l α) (st : RS) : (KU c p q).g st = if !st.2 && c st.1 then p.g st else q.g st := rfl
theorem moreW_g {W : List Bs} {w : Bs} {step : β → Rd l β} {m : Nat} {a : β} {st : RS} {q : β × RS} (h : (moreW W w step m a).g st = some q) :
    ((B4 l W w st).1 = true ∧ ∃ m', m = m' + 1 ∧ ((step a).bind (moreW W w step m')).g (B4 l W w st).2 = some q) ∨ ((B4 l W w st).1 = false ∧ q = (a, (B4 l W w st).2)) := by
  cases m with
  | zero =>
    have h : (if st.2 then some (a, st) else none) = some q := h
    split at h
    · rename_i h2
      cases h
      have e : B4 l W w st = (false, st) := by unfold B4; rw [h2]; rfl
      rw [e]
      exact .inr ⟨rfl, rfl⟩
    · cases h
  | succ m =>
    have h : (ifw W w ((step a).bind (moreW W w step m)) (pure a)).g st = some q := h
    rw [FF] at h
    cases hw : (B4 l W w st).1 with
    | true => rw [hw] at h; exact .inl ⟨rfl, m, rfl, h⟩
    | false => rw [hw] at h; cases h; exact .inr ⟨rfl, rfl⟩
theorem moreS_g {s : Bs} {step : β → Rd l β} {m : Nat} {a : β} {st : RS} {q : β × RS} (h : (moreS s step m a).g st = some q) :
    (A2 l s st = true ∧ ∃ m', m = m' + 1 ∧ ((step a).bind (moreS s step m')).g (Aq l s st) = some q) ∨ (A2 l s st = false ∧ q = (a, Aq l s st)) := by
  cases m with
  | zero =>
    have h : (if st.2 then some (a, st) else none) = some q := h
    split at h
    · rename_i h2
      cases h
      have e : A2 l s st = false := by unfold A2; rw [h2]; rfl
      have e2 : Aq l s st = st := by unfold Aq; rw [e]; rfl
      rw [e2]
      exact .inr ⟨e, rfl⟩
    · cases h
  | succ m =>
    have h : (ifs s ((step a).bind (moreS s step m)) (pure a)).g st = some q := h
    rw [ifs_g] at h
    cases hw : A2 l s st with
    | true => rw [hw] at h; exact .inl ⟨rfl, m, rfl, h⟩
    | false => rw [hw] at h; cases h; exact .inr ⟨rfl, rfl⟩
end Rd
abbrev VBl(w:World):World→Value→Bl→Prop:=fun w' v x=>RepV (Ap w.heap.size) w' false v x
abbrev VSt(w:World):World→Value→StB→Prop:=fun w' v x=>StV (Ap w.heap.size) w' v x
def CRB(b:Nat)(tv:Value)(l:List Tok)(g:FR Bl):Prop:=
 ∀w st r,Rr w b tv l st→g st=some r→Calls Tryz.prog 70 #[.pointer (some ⟨b,0,none⟩)] w (AM b tv l w (VBl w) r)
theorem Jl{b:Nat}{tv:Value}{l:List Tok}{w wr:World}{L:Nat}{h:Sd}{g:Bl}{pv xv bv nv fv wv:Value}{st:RS}(k:KS b w L wr h g pv xv bv nv fv wv)(hR:Rr wr b tv l st):
 AM b tv l w (VSt w) ((h,g),st) (.returned (.agg (sdC h pv xv bv nv fv wv).toArray)) (set10 wr w.heap.size (.int .i64 h.op) (str h.s) (str h.t) pv xv bv (.int .i64 h.kind) nv fv wv):=by
 obtain⟨g1,g2,_,h4⟩:=k.out;have:=k.bw;exact⟨g1,_,rfl,h4,hR.gb g2 A6⟩
section
variable {b:Nat}{tv:Value}{l:List Tok}{w wr w1:World}{L:Nat}{o:Int}{s t:Bs}{p:List Bs}{f:Fo}{g:Bl}{pv xv bv:Value}{st:RS}
theorem I6{v:Value}{n c q k H:Nat}(hat:v.ownBlock=some k∨k=H)(h:(Value.slice (some ⟨k,0,none⟩) n c).ownBlock=some q):v.ownBlock=some q∨H≤q:=by
 have e:k=q:=by simpa[Value.ownBlock]using h
 subst e;rcases hat with h|h
 ·exact .inl h
 ·exact .inr (Nat.le_of_eq h.symm)
theorem KA.addX'(k:KA b w L wr o s t p f g pv xv bv){cs:List Value}(hx:wr.ownsRow (w.heap.size+1) 29 7 xv f.len cs)(hr:RepF (fre w L pv xv bv) wr f cs)
 {x:Ex} {pa la:Option Addr} {pc lc:Nat} {okx:Nat→Prop} (rp:Cells wr (.slice pa x.h.p.length pc) 1 x.h.p.length (x.h.p.map str) okx) (rl:RepL okx wr (.slice la x.kids.len lc) x.kids) (hok:∀q,okx q→fre w L pv xv bv q)
 {j c:Nat} (ho:w1.ownsRow (w.heap.size+1) 29 7 (.slice (some ⟨j,0,none⟩) (f.len+1) c) (f.len+1) (cs++hdC x.h (.slice pa x.h.p.length pc) (.slice la x.kids.len lc))) (hg:wr.grownBy w1 xv.ownBlock) (hat:xv.ownBlock=some j∨j=wr.heap.size):
 KA b w L (w1.setCell ⟨L,4,none⟩ (.slice (some ⟨j,0,none⟩) (f.len+1) c)) o s t p (f.snoc x) g pv (.slice (some ⟨j,0,none⟩) (f.len+1) c) bv:=
 k.addX hx hr rp rl hok ho hg (fun q hq=>I6 hat hq)
theorem KA.addP'(k:KA b w L wr o s t p f g pv xv bv){y:Bs}
 {j c:Nat} (ho:w1.ownsRow (w.heap.size+1) 9 1 (.slice (some ⟨j,0,none⟩) (p.length+1) c) (p.length+1) (p.map str++[str y])) (hg:wr.grownBy w1 pv.ownBlock) (hat:pv.ownBlock=some j∨j=wr.heap.size):
 KA b w L (w1.setCell ⟨L,3,none⟩ (.slice (some ⟨j,0,none⟩) (p.length+1) c)) o s t (p++[y]) f g (.slice (some ⟨j,0,none⟩) (p.length+1) c) xv bv:=
 k.addP ho hg (fun q hq=>I6 hat hq)
theorem KA.addB'(k:KA b w L wr o s t p f g pv xv bv){ds:List Value}(hx:wr.ownsRow (w.heap.size+1) 43 1 bv g.len ds)(hr:RepT (fre w L pv xv bv) wr g true ds)
 {c:Bl} {ca:Option Addr} {cc:Nat} {okx:Nat→Prop} (rc:RepV okx wr false (.slice ca c.len cc) c) (hok:∀q,okx q→fre w L pv xv bv q)
 {j n:Nat} (ho:w1.ownsRow (w.heap.size+1) 43 1 (.slice (some ⟨j,0,none⟩) (g.len+1) n) (g.len+1) (ds++[.slice ca c.len cc])) (hg:wr.grownBy w1 bv.ownBlock) (hat:bv.ownBlock=some j∨j=wr.heap.size):
 KA b w L (w1.setCell ⟨L,5,none⟩ (.slice (some ⟨j,0,none⟩) (g.len+1) n)) o s t p f (g.app (.bl c .nil)) pv xv (.slice (some ⟨j,0,none⟩) (g.len+1) n):=
 k.addB hx hr rc hok ho hg (fun q hq=>I6 hat hq)
theorem Rr.app{tv:Value}{l:List Tok}(hR:Rr wr b tv l st){o:Option Nat}(hg:wr.grownBy w1 o)(ho:∀q,o=some q→b<q)(hL:b<L)(i:Nat)(v:Value):Rr (w1.setCell ⟨L,i,none⟩ v) b tv l st:=
 (hR.gb hg ho).gb (As (Aj w1 (some L)) i v) (fun q e=>by cases e;exact hL)
theorem KA.bL(k:KA b w L wr o s t p f g pv xv bv):b<L:=Qp
theorem KA.neX(k:KA b w L wr o s t p f g pv xv bv):some L≠xv.ownBlock:=by
 obtain⟨cs,h,_⟩:=k.x;exact fun e=>Cm h k.blk Ad e.symm
theorem KA.neP(k:KA b w L wr o s t p f g pv xv bv):some L≠pv.ownBlock:=fun e=>Cm k.p k.blk Ad e.symm
theorem KA.neB(k:KA b w L wr o s t p f g pv xv bv):some L≠bv.ownBlock:=by
 obtain⟨cs,h,_⟩:=k.bb;exact fun e=>Cm h k.blk Ad e.symm
theorem D0(w:World)(v:Value)(t:TypeId):∀j u,[v][j]? =some u→(w.alloc (.cells #[v] t (0,0))).cell? ((⟨w.heap.size,0,none⟩:Addr).add j)=some u:=Bu w [v] t
end
end Go.Proofs.YtmcajbhljbbglaaGreatDoor
