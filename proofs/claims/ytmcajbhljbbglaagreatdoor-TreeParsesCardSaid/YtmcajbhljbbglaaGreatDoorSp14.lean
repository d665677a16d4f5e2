/-
  SameExprs of the reference: rows of expressions. sameExprs of the program: slices.EqualFunc over SameExpr. Statements as plain trees, how they lie in memory, and when they are equal. The reference's r
-/
import Derived.Test.YtmcajbhljbbglaaGreatDoorSpF
import Derived.Test.YtmcajbhljbbglaaGreatDoorSp13
import Derived.Test.YtmcajbhljbbglaaGreatDoorSp07
import Derived.Test.YtmcajbhljbbglaaGreatDoorSp08
set_option linter.all false
set_option maxRecDepth 100000
set_option maxHeartbeats 8000000
namespace Go.Proofs.YtmcajbhljbbglaaGreatDoor
open Tryz
open Go.RowKit
def Fo.wt:Fo→Nat
 | .nil=>0
 | .cons _ kids next=>1+kids.wt+next.wt
theorem RepF.elem{ok:Nat→Prop}{w:World}{la:Option Addr}{n lc:Nat}{cs:List Value}{f:Fo}{h:Hd}{kids next:Fo}{k:Nat}(hc:∀j u,cs[j]? =some u→∃g o,la=some ⟨g,o,none⟩∧ok g∧w.cell? ⟨g,o+j,none⟩=some u)
 (hr:RepF ok w (.cons h kids next) (cs.drop (k*7))):∃pa pc lb ld,Cells w (.slice pa h.p.length pc) 1 h.p.length (h.p.map str) ok∧RepL ok w (.slice lb kids.len ld) kids∧RepF ok w next (cs.drop ((k+1)*7))∧
  ∀i u,(hdC h (.slice pa h.p.length pc) (.slice lb kids.len ld))[i]? =some u→∃g o,la=some ⟨g,o,none⟩∧ok g∧w.cell? ⟨g,o+(k*7+i),none⟩=some u:=by
 obtain⟨pv,lv,kcs,rcs,hcs,hp,hl,hkids,hnext⟩:=hr;have hp':=hp;have hl':=hl;obtain⟨pa,pc,rfl,_⟩:=hp;obtain⟨lb,ld,rfl,_⟩:=hl;refine⟨pa,pc,lb,ld,hp',⟨kcs,hl',hkids⟩,?_,?_⟩
 ·have e : cs.drop ((k + 1) * 7) = rcs := by
   rw[show(k+1)*7=k*7+7 by omega,←List.drop_drop,hcs];exact List.drop_left' rfl
  rw[e];exact hnext
 ·intro i u hu;refine hc (k*7+i) u ?_;exact TK
theorem Kp:∀(N:Nat)(f g:Fo),f.wt<N→∀(ok ok':Nat→Prop)(la lb:Option Addr)(lc ld:Nat)(w:World),RepL ok w (.slice la f.len lc) f→RepL ok' w (.slice lb g.len ld) g→
 Calls Tryz.prog 33 #[.slice la f.len lc,.slice lb g.len ld] w fun e w'=>e= .returned (.bool (B3 f g))∧w.grownBy w' none:=by
 intro N;induction N with
 |zero=>intro f g hN;omega
 | succ N ih=>
   intro f g hN ok ok' la lb lc ld w hf hg;by_cases hlen:f.len=g.len
   ·obtain⟨cs,hc1,hr1⟩:=hf;obtain⟨ds,hc2,hr2⟩:=hg;obtain⟨_,_,e,hle,hmx,_,hc1⟩:=hc1;cases e;obtain⟨_,_,e,_,_,_,hc2⟩:=hc2;cases e;have hmax:f.len≤maxLen:=Ab;unfold maxLen at hmax;clear hle hmx;have hnI:((f.len:Int) !=(g.len:Int))=false:=Ag;have hnI2:((f.len:Int)==(g.len:Int))=true:=Ag;have HC:=Z (Ac hc1 (Ac hc2 (Ac ih hlen)));have HR:=Z (Ac hr1 hr2);clear hc1 hc2 ih hlen hr1 hr2;go_enter func33,ntmps33;go_wp2_with fail;go_loopg [5] f.len (fun n v5 wr=>∃rf rg:Fo,∃k:Nat,rf.len=n∧k+n=f.len∧rf.len=rg.len∧v5= .int .i64 k∧rf.wt≤f.wt∧B3 f g=B3 rf rg∧RepF ok w rf (cs.drop (k*7))∧RepF ok' w rg (ds.drop (k*7))∧w.grownBy wr none)
    case atStart=>exact⟨f,g,0,rfl,by omega,HC.out.2.2.2,rfl,Nat.le_refl _,rfl,by simpa using HR.out.1,by simpa using HR.out.2,Aj _ _⟩
    case round=>
     obtain⟨rf,rg,k,hn,hk,hl,rfl,hno,hs,hrf,hrg,hgr⟩:=hrel;clear HR;cases rf with
     | nil=>
       cases rg with
       |cons=>simp[Fo.len]at hl
       | nil=>
         have hkI:decide (k<f.len)=false:=by simp[Fo.len]at hn;simp;omega
         have HS:=Z (show B3 f g=true by rw[hs];rfl);have HG:=Z hgr;clear hs hgr hn hl hrf hrg;go_wp2;go_ret;exact⟨by rw[HS.out];rfl,HG.out⟩
     | cons h1 k1 n1=>
       cases rg with
       |nil=>simp[Fo.len]at hl
       | cons h2 k2 n2=>
         simp only[Fo.len]at hn hl;simp only[Fo.wt]at hno;subst hn;obtain⟨pa1,pc1,lb1,ld1,hp1,hl1,hx1,ha1⟩:=RepF.elem (n:=f.len) (lc:=lc) (f:=f) HC.out.1 hrf;obtain⟨pa2,pc2,lb2,ld2,hp2,hl2,hx2,ha2⟩:=RepF.elem (n:=g.len) (lc:=ld) (f:=g) HC.out.2.1 hrg;have hkI:decide (k<f.len)=true:=Ag;have hkg:k<g.len:=by have:=HC.out.2.2.2;omega
         have hkf:k+1≤f.len:=Ab;have HS:=Z (Ac (show B3 f g=((DR h1 h2&&B3 k1 k2)&&B3 n1 n2)from hs) (show n1.len=n2.len by omega));have HE:=Z (fun(W:World)(gW:wr.grownBy W none)=>Ua (hp1.gb (Ah hgr gW) Ae) (hp2.gb (Ah hgr gW) Ae) (b:=B3 k1 k2) (fun W2 gW2=>HC.out.2.2.1 k1 k2 Ab ok ok' lb1 lb2 ld1 ld2 W2 (hl1.gb (Ah hgr (Ah gW gW2)) Ae) (hl2.gb (Ah hgr (Ah gW gW2)) Ae)));have HN:=Z (Ac (show n1.wt≤f.wt by omega) (Ac hx1 (Ac hx2 hgr)));clear hs hl hno hrf hrg hp1 hl1 hx1 hp2 hl2 hx2;have eV{P}(h:P:=by
         have iN{P}(h:P:=by
         simp only[Nat.add_zero,←Nat.add_assoc]at z0 z1 z2 z3 z4 z5 z6;clear y0 y1 y2 y3 y4 y5 y6;have eW{P}(h:P:=by
         have iO{P}(h:P:=by
         simp only[Nat.add_zero,←Nat.add_assoc]at t0 t1 t2 t3 t4 t5 t6;clear y0 y1 y2 y3 y4 y5 y6;clear ha1 ha2 hgr;have hws:=HN.out.2.2.2.size;cases hb:(DR h1 h2&&B3 k1 k2)with
         | true=>
           rw[hb]at HE;have HB:=Z (show B3 f g=B3 n1 n2 by rw[HS.out.1,hb];rfl);clear hb;go_wp2_with fail;go_region_with(go_at_call 11;refine(HE.out _ ?gg).mono ?_;(case gg=>exact gw);rintro e w5 ⟨rfl,g5⟩);all_goals
            go_wp2;go_roundg n1.len
            case measure=>omega
            case rel=>exact⟨n1,n2,k+1,rfl,by omega,HS.out.2,by go_num,HN.out.1,HB.out,HN.out.2.1,HN.out.2.2.1,Ah (AA HN.out.2.2.2 _) g5⟩
         | false=>
           rw[hb]at HE;have HB:=Z (show B3 f g=false by rw[HS.out.1,hb];rfl);clear hb;go_wp2_with fail;go_region_with(go_at_call 11;refine(HE.out _ ?gg).mono ?_;(case gg=>exact gw);rintro e w5 ⟨rfl,g5⟩);all_goals
            go_wp2;go_ret;exact⟨by rw[HB.out];rfl,Ah (AA HN.out.2.2.2 _) g5⟩):=Aa h
         exact ZV):=Aa h;exact Y0):=Aa h;exact ZU):=Aa h;exact Yz
   ·have hnI:((f.len:Int) !=(g.len:Int))=true:=by simp;omega
    have hnI2:((f.len:Int)==(g.len:Int))=false:=Ag;have HN:=Z (show B3 f g=false by cases h:B3 f g with|false=>rfl|true=>exact absurd (xI h) hlen);clear hlen hf hg ih;go_enter func33,ntmps33;go_wp2;go_ret;exact⟨by rw[HN.out];rfl,gw⟩
def Qc(x y:Ex):Bool:=DR x.h y.h&&B3 x.kids y.kids
theorem sW(x:Ex):Qc x x=true:=by simp[Qc,DR,V4]
theorem kC{w:World}{ok ok':Nat→Prop}{u v:Value}{x y:Ex}(hx:VE ok w u x)(hy:VE ok' w v y):
 Calls Tryz.prog 11 #[u,v] w fun e w'=>e= .returned (.bool (Qc x y))∧w.grownBy w' none:=by
 obtain⟨pa,pc,la,lc,rfl,hp,hl⟩:=hx;obtain⟨pb,pd,lb,ld,rfl,hp2,hl2⟩:=hy;exact Ua hp hp2 (fun W g=>Kp _ x.kids y.kids (Nat.lt_succ_self _) _ _ la lb lc ld W (hl.gb g Ae) (hl2.gb g Ae))
structure Sd where
 op:Int
 s:Bs
 t:Bs
 p:List Bs
 x:Fo
 kind:Int
 n:Fo
 f:Fo
 w:Fo
inductive Bl where
 |nil
 |st (h:Sd) (b:Bl) (next:Bl)
 |bl (b:Bl) (next:Bl)
def Bl.len:Bl→Nat
 | .nil=>0
 | .st _ _ n=>n.len+1
 | .bl _ n=>n.len+1
def Bl.wt:Bl→Nat
 | .nil=>0
 | .st _ b n=>1+b.wt+n.wt
 | .bl b n=>1+b.wt+n.wt
def Fe(h k:Sd):Bool:=h.op==k.op&&h.s==k.s&&h.t==k.t&&CF h.p k.p&&B3 h.x k.x
def Ff(h k:Sd):Bool:=h.kind==k.kind&&B3 h.n k.n&&B3 h.f k.f&&B3 h.w k.w
def Ek(h k:Sd):Bool:=Fe h k&&Ff h k
def AP:Bl→Bl→Bool
 | .nil,.nil=>true
 | .st h b n,.st h' b' n'=>(Ek h h'&&AP b b')&&AP n n'
 | .bl b n,.bl b' n'=>AP b b'&&AP n n'
 |_,_=>false
theorem xM(h:Sd):Ek h h=true:=by simp[Ek,Fe,Ff,V4,CF]
theorem sU:∀b:Bl,AP b b=true:=by
 intro b;induction b with
 |nil=>rfl
 |st h b n ih1 ih2=>simp[AP,xM,ih1,ih2]
 |bl b n ih1 ih2=>simp[AP,ih1,ih2]
theorem Wb:∀{a b:Bl},AP a b=true→a.len=b.len:=by
 intro a;induction a with
 |nil=>intro b h;cases b<;>first|rfl|cases h
 | st h k n ih1 ih2=>
   intro b hb;cases b with
   | st h' k' n'=>
     simp only[AP,Bool.and_eq_true]at hb;simp[Bl.len,ih2 hb.2]
   |_=>cases hb
 | bl k n ih1 ih2=>
   intro b hb;cases b with
   | bl k' n'=>
     simp only[AP,Bool.and_eq_true]at hb;simp[Bl.len,ih2 hb.2]
   |_=>cases hb
def sdC(h:Sd)(pv xv bv nv fv wv:Value):List Value:=[.int .i64 h.op,str h.s,str h.t,pv,xv,bv,.int .i64 h.kind,nv,fv,wv]
structure SdRep(ok:Nat→Prop)(w:World)(h:Sd)(pa xa na fa wa:Option Addr)(pc xc nc fc wc:Nat):Prop where
 p:Cells w (.slice pa h.p.length pc) 1 h.p.length (h.p.map str) ok
 x:RepL ok w (.slice xa h.x.len xc) h.x
 n:RepL ok w (.slice na h.n.len nc) h.n
 f:RepL ok w (.slice fa h.f.len fc) h.f
 w:RepL ok w (.slice wa h.w.len wc) h.w
theorem SdRep.gb{w w1:World}{ok:Nat→Prop}{h:Sd}{pa xa na fa wa:Option Addr}{pc xc nc fc wc:Nat}{r:Option Nat}(k:SdRep ok w h pa xa na fa wa pc xc nc fc wc)(g:w.grownBy w1 r)(hk:∀k,ok k→k<w.heap.size→some k≠r):SdRep ok w1 h pa xa na fa wa pc xc nc fc wc:=
 ⟨k.p.gb g hk,k.x.gb g hk,k.n.gb g hk,k.f.gb g hk,k.w.gb g hk⟩
def RepT(ok:Nat→Prop)(w:World):Bl→Bool→List Value→Prop
 | .nil,_,cs=>cs=[]
 | .st h b next,false,cs=>∃pa xa na fa wa ba,∃pc xc nc fc wc bc,∃kcs rest,cs=sdC h (.slice pa h.p.length pc) (.slice xa h.x.len xc) (.slice ba b.len bc) (.slice na h.n.len nc) (.slice fa h.f.len fc) (.slice wa h.w.len wc)++rest∧
  SdRep ok w h pa xa na fa wa pc xc nc fc wc∧Cells w (.slice ba b.len bc) 1 b.len kcs ok∧RepT ok w b true kcs∧RepT ok w next false rest
 | .bl b next,true,cs=>∃ba bc,∃kcs rest,cs= .slice ba b.len bc::rest∧Cells w (.slice ba b.len bc) 10 b.len kcs ok∧RepT ok w b false kcs∧RepT ok w next true rest
 |_,_,_=>False
abbrev szT(k:Bool):Nat:=if k then 1 else 10
def RepV(ok:Nat→Prop)(w:World)(k:Bool)(v:Value)(b:Bl):Prop:=∃cs,Cells w v (szT k) b.len cs ok∧RepT ok w b k cs
theorem RepT.gb{w w1:World}{ok:Nat→Prop}{r:Option Nat}(g:w.grownBy w1 r)(hk:∀k,ok k→k<w.heap.size→some k≠r):∀{b:Bl}{k:Bool}{cs:List Value},RepT ok w b k cs→RepT ok w1 b k cs:=by
 intro b;induction b with
 |nil=>intro k cs h;exact h
 | st h b n ih1 ih2=>
   intro k cs hr;cases k with
   |true=>exact hr
   | false=>
     obtain⟨pa,xa,na,fa,wa,ba,pc,xc,nc,fc,wc,bc,kcs,rest,e,h1,h2,h3,h4⟩:=hr;exact⟨pa,xa,na,fa,wa,ba,pc,xc,nc,fc,wc,bc,kcs,rest,e,h1.gb g hk,h2.gb g hk,ih1 h3,ih2 h4⟩
 | bl b n ih1 ih2=>
   intro k cs hr;cases k with
   |false=>exact hr
   | true=>
     obtain⟨ba,bc,kcs,rest,e,h2,h3,h4⟩:=hr;exact⟨ba,bc,kcs,rest,e,h2.gb g hk,ih1 h3,ih2 h4⟩
theorem RepV.gb{w w1:World}{ok:Nat→Prop}{r:Option Nat}{k:Bool}{v:Value}{b:Bl}(h:RepV ok w k v b)(g:w.grownBy w1 r)(hk:∀k,ok k→k<w.heap.size→some k≠r):RepV ok w1 k v b:=by
 exact O6
theorem Po{cs rest a:List Value}{k n:Nat}(hn:a.length=n)(h:cs.drop (k*n)=a++rest):cs.drop ((k+1)*n)=rest:=by
 rw[show(k+1)*n=k*n+n by rw[Nat.succ_mul],←List.drop_drop,h];exact List.drop_left' hn
theorem PC{cs rest a:List Value}{m:Nat}(h:cs.drop m=a++rest){i:Nat}{u:Value}(hu:a[i]? =some u):cs[m+i]? =some u:=by
 have:cs[m+i]? =(cs.drop m)[i]?:=Ae;rw[this,h,List.getElem?_append_left Qe];exact hu
theorem RepT.elem{ok:Nat→Prop}{w:World}{la:Option Addr}{cs:List Value}{h:Sd}{b next:Bl}{k:Nat}(hc:∀j u,cs[j]? =some u→∃g o,la=some ⟨g,o,none⟩∧ok g∧w.cell? ⟨g,o+j,none⟩=some u)
 (hr:RepT ok w (.st h b next) false (cs.drop (k*10))):∃pa xa na fa wa ba,∃pc xc nc fc wc bc,SdRep ok w h pa xa na fa wa pc xc nc fc wc∧RepV ok w true (.slice ba b.len bc) b∧RepT ok w next false (cs.drop ((k+1)*10))∧
  ∀i u,(sdC h (.slice pa h.p.length pc) (.slice xa h.x.len xc) (.slice ba b.len bc) (.slice na h.n.len nc) (.slice fa h.f.len fc) (.slice wa h.w.len wc))[i]? =some u→∃g o,la=some ⟨g,o,none⟩∧ok g∧w.cell? ⟨g,o+(k*10+i),none⟩=some u:=by
 obtain⟨pa,xa,na,fa,wa,ba,pc,xc,nc,fc,wc,bc,kcs,rest,e,h1,h2,h3,h4⟩:=hr;exact⟨pa,xa,na,fa,wa,ba,pc,xc,nc,fc,wc,bc,h1,⟨kcs,h2,h3⟩,(Po (n:=10) rfl e) ▸ h4,fun i u hu=>hc _ u (PC e hu)⟩
theorem RepT.elemB{ok:Nat→Prop}{w:World}{la:Option Addr}{cs:List Value}{b next:Bl}{k:Nat}(hc:∀j u,cs[j]? =some u→∃g o,la=some ⟨g,o,none⟩∧ok g∧w.cell? ⟨g,o+j,none⟩=some u)
 (hr:RepT ok w (.bl b next) true (cs.drop k)):∃ba bc,RepV ok w false (.slice ba b.len bc) b∧RepT ok w next true (cs.drop (k+1))∧∃g o,la=some ⟨g,o,none⟩∧ok g∧w.cell? ⟨g,o+k,none⟩=some (.slice ba b.len bc):=by
 obtain⟨ba,bc,kcs,rest,e,h2,h3,h4⟩:=hr;refine⟨ba,bc,⟨kcs,h2,h3⟩,?_,?_⟩
 ·have:=Po (k:=k) (n:=1) (a:=[.slice ba b.len bc]) rfl (by simpa using e);rw[Nat.mul_one]at this;rw[this];exact h4
 ·have:=hc _ _ (PC (m:=k) (a:=[.slice ba b.len bc]) (rest:=rest) (by simpa using e) (i:=0) rfl);simpa using this
theorem IF(s:Bs)(x y:Ex){xv yv:Value}(w:World)(ok:Nat→Prop)(hok:∀k,w.heap.size≤k→ok k)(hx:VE ok w xv x)(hy:VE ok w yv y):
 Calls Tryz.prog 62 #[str s,xv,yv] w fun e w'=>∃v,e= .returned v∧VE ok w' v (AH s x y)∧w.grownBy w' none:=by
 have dU{P}(h:P:=by
 go_enter func62,ntmps62;go_wp2;obtain⟨hok,hx,hx',hy,hy'⟩:=H.out;refine bodyPost_ret (v:=exV (hd0 5 s) (.slice none 0 0) (.slice (some ⟨w.heap.size+1+1+1,0,none⟩) 2 2)) ?_ rfl ⟨_,rfl,VE.node (f:= .two x y) ?_,?_⟩
 ·simp[results,results62,go_sem,hd0]
 ·exact Zx
 ·exact gw):=Aa h
 exact TQ
structure KpR(b:Nat)(tv:Value)(l:List Tok)(w:World)(L:Nat)(wr:World)(x:Ex)(pa:Option Addr)(pc:Nat)(la:Option Addr)(lc:Nat)(st:RS):Prop where
 rr:Rr wr b tv l st
 blk:Blk wr L (hdC x.h (.slice pa x.h.p.length pc) (.slice la x.kids.len lc)) 29
 rp:Cells wr (.slice pa x.h.p.length pc) 1 x.h.p.length (x.h.p.map str) (but w L)
 rl:RepL (but w L) wr (.slice la x.kids.len lc) x.kids
 gr:w.grownBy wr (some b)
 bL:b<L
 wL:w.heap.size<L
 zero:Blk wr w.heap.size zeroE 29
section
variable {b:Nat}{tv:Value}{l:List Tok}{w wr w1:World}{L:Nat}{x y z:Ex}{pa la ya ma:Option Addr}{pc lc yc mc:Nat}{st st':RS}
theorem KpR.gb(h:KpR b tv l w L wr x pa pc la lc st)(hb:b<w.heap.size)(g:wr.grownBy w1 (some b))(hp:Rr w1 b tv l st'):KpR b tv l w L w1 x pa pc la lc st':=
 ⟨hp,h.blk.gb g (by have:=h.bL;simp;omega),h.rp.gb g JG,h.rl.gb g JG,Ah h.gr g,h.bL,h.wL,h.zero.gb g Ag⟩
theorem KpR.gbN(h:KpR b tv l w L wr x pa pc la lc st)(hb:b<w.heap.size)(g:wr.grownBy w1 none):KpR b tv l w L w1 x pa pc la lc st:=
 h.gb hb (AY g) (h.rr.gbN g)
theorem KpR.store(h:KpR b tv l w L wr x pa pc la lc st)(hb:b<w.heap.size)(zp:Cells wr (.slice ya z.h.p.length yc) 1 z.h.p.length (z.h.p.map str) (but w L))(zl:RepL (but w L) wr (.slice ma z.kids.len mc) z.kids):
 KpR b tv l w L (set7 wr L (.int .i64 z.h.op) (str z.h.s) (.int .i64 z.h.vk) (.int .i64 z.h.vn) (str z.h.vs) (.slice ya z.h.p.length yc) (.slice ma z.kids.len mc)) z ya yc ma mc st:=by
 have g7:=AD wr L (.int .i64 z.h.op) (str z.h.s) (.int .i64 z.h.vk) (.int .i64 z.h.vn) (str z.h.vs) (.slice ya z.h.p.length yc) (.slice ma z.kids.len mc);have hbL:=h.bL;have hwL:=h.wL;have Rx{P}(h:P:=by exact⟨h.rr.gb g7 GT,(h.blk.set7 _ _ _ _ _ _ _).of_eq rfl rfl,zp.gb g7 hk,zl.gb g7 hk,A5 h.gr g7 (.inr Ab),hbL,hwL,h.zero.gb g7 Ag⟩):=Aa h;exact O2
theorem KpR.new{w0:World}(h0:b<w.heap.size)(hz:Blk w0 w.heap.size zeroE 29)(g0:w.grownBy w0 (some b))(hw0:w.heap.size<w0.heap.size)(g1:w0.grownBy w1 (some b))
 (rp:Cells w1 (.slice pa x.h.p.length pc) 1 x.h.p.length (x.h.p.map str) (Ap w0.heap.size)) (rl:RepL (Ap w0.heap.size) w1 (.slice la x.kids.len lc) x.kids) (h1:Rr w1 b tv l st):
 KpR b tv l w w1.heap.size (w1.alloc (.cells (hdC x.h (.slice pa x.h.p.length pc) (.slice la x.kids.len lc)).toArray 29 (0,0))) x pa pc la lc st:=by
 have hs1:=g1.size;have hb1:=h1.lt;have Ro{P}(h:P:=by
 refine⟨h1.alloc _,Blk.new w1 _ _,(rp.mono ?_).gb g Ae,(rl.mono ?_).gb g Ae,Ar (Ah g0 g1) _,hb1,by omega,(hz.gb g1 Ag).alloc _⟩;all_goals
  intro q hq hq2;have:w0.heap.size≤q:=hq;exact⟨by omega,by omega⟩):=Aa h
 exact Om
theorem KpR.two(h:KpR b tv l w L wr x pa pc la lc st)(hb:b<w.heap.size)(op:Int)(s:Bs)(zp:Cells wr (.slice ya z.h.p.length yc) 1 z.h.p.length (z.h.p.map str) (but w L))(zl:RepL (but w L) wr (.slice ma z.kids.len mc) z.kids):
 KpR b tv l w L ((set7 wr L (.int .i64 op) (str s) (.int .i64 0) (.int .i64 0) (str []) (.slice none 0 0) (.slice (some ⟨wr.heap.size,0,none⟩) 2 2)).alloc (.cells (hdC x.h (.slice pa x.h.p.length pc) (.slice la x.kids.len lc)++hdC z.h (.slice ya z.h.p.length yc) (.slice ma z.kids.len mc)).toArray 29 (0,0)))
  ⟨hd0 op s,.two x z⟩ none 0 (some ⟨wr.heap.size,0,none⟩) 2 st:=by
 have fT{P}(h:P:=by
 have Je{P}(h:P:=by
 refine⟨(h.rr.gb g7 GT).alloc _,((h.blk.set7 _ _ _ _ _ _ _).of_eq rfl rfl).alloc _,Cells.nil _ 1 _,?_,Ar (A5 h.gr g7 (.inr Ab)) _,hbL,hwL,?_⟩
 ·exact TP
 ·exact(h.zero.gb g7 Ag).alloc _):=Aa h
 exact Ja):=Aa h;exact Zb
theorem KpR.ve(h:KpR b tv l w L wr x pa pc la lc st):VE (but w L) wr (exV x.h (.slice pa x.h.p.length pc) (.slice la x.kids.len lc)) x:=⟨_,_,_,_,rfl,h.rp,h.rl⟩
theorem CK{w2:World}{ok:Nat→Prop}(h0:b<w.heap.size)(g:w.grownBy w1 (some b)){v:Value}(hv:VE ok w1 v x)(hok:∀k,ok k→w.heap.size<k)(hp:Rr w1 b tv l st)(g2:w1.grownBy w2 (some w.heap.size)):AM b tv l w (VEx w) (x,st) (.returned v) w2:=
 ⟨A5 g g2 (.inr (Nat.le_refl _)),v,rfl,(hv.gb g2 JN).mono JM,hp.gb g2 A6⟩
theorem KN{W:World}{op:Int}{s:Bs}{ok:Nat→Prop}(h0:b<w.heap.size)(g:w.grownBy w1 (some b))
 (rp:Cells w1 (.slice pa x.h.p.length pc) 1 x.h.p.length (x.h.p.map str) ok) (rl:RepL ok w1 (.slice la x.kids.len lc) x.kids) (hok:∀k,ok k→w.heap.size<k) (hp:Rr w1 b tv l st) (g7:w1.grownBy W (some w.heap.size)) (hsz:W.heap.size=w1.heap.size):
 AM b tv l w (VEx w) (⟨hd0 op s,.one x⟩,st) (.returned (exV (hd0 op s) (.slice none 0 0) (.slice (some ⟨w1.heap.size,0,none⟩) 1 1))) (W.alloc (Obj.cells #[Value.int IntKind.i64 x.h.op,str x.h.s,Value.int IntKind.i64 x.h.vk,Value.int IntKind.i64 x.h.vn,str x.h.vs,Value.slice pa x.h.p.length pc,Value.slice la x.kids.len lc] 29)):=by
 have eU{P}(h:P:=by exact⟨Ar (A5 g g7 (.inr (Nat.le_refl _))) _,_,rfl,hV,(hp.gb g7 A6).alloc _⟩):=Aa h;exact Yy
end
theorem tB(l:List Tok){s:Bs}(hs:s≠[])(st:RS):A9 l [s] st=if A2 l s st then s else []:=by
 unfold A9 A2;cases st.2 with
 |true=>simp
 | false=>
   simp only[Bool.false_eq_true,if_false,Bool.not_false,Bool.true_and,List.find?_cons,List.find?_nil];cases Ak (Af l st.1) s<;>simp
theorem Vm{l:List Tok}{s:Bs}(hs:s≠[])(opnd:FR Ex)(n:Nat)(x:Ex)(st:RS):
 CM l [s] opnd (n+1) x st=if A2 l s st then(opnd (Aq l s st)).bind fun r=>CM l [s] opnd n (AH s x r.1) r.2 else some (x,Aq l s st):=by
 rw[CM];unfold AJ;rw[tB l hs];unfold Aq;cases A2 l s st with
 |true=>simp[hs,GG hs]
 |false=>simp[GC]
end Go.Proofs.YtmcajbhljbbglaaGreatDoor
