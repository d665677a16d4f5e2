/-
  Contracts of the parser: unary. Contracts of the parser: call, macro, braced. Contracts of the parser: braced, signed, named.
-/
import Derived.Test.YtmcajbhljbbglaaGreatDoorSpF
import Derived.Test.YtmcajbhljbbglaaGreatDoorSp06
set_option linter.all false
set_option maxRecDepth 100000
set_option maxHeartbeats 8000000
namespace Go.Proofs.YtmcajbhljbbglaaGreatDoor
open Tryz
open Go.RowKit
section
variable {b:Nat}{tv wv:Value}{l:List Tok}{wl:List Bs}
abbrev but(w:World)(L:Nat):Nat→Prop:=fun g=>w.heap.size<g∧g≠L
structure Kept(b:Nat)(tv wv:Value)(l:List Tok)(wl:List Bs)(w:World)(L:Nat)(wr:World)(x:Ex)(pa:Option Addr)(pc:Nat)(la:Option Addr)(lc:Nat)(j:Nat):Prop where
 par:Par wr b tv wv l wl j
 blk:Blk wr L (hdC x.h (.slice pa x.h.p.length pc) (.slice la x.kids.len lc)) 29
 rp:Cells wr (.slice pa x.h.p.length pc) 1 x.h.p.length (x.h.p.map str) (but w L)
 rl:RepL (but w L) wr (.slice la x.kids.len lc) x.kids
 gr:w.grownBy wr (some b)
 bL:b<L
 wL:w.heap.size<L
 zero:Blk wr w.heap.size zeroE 29
variable {w wr w1:World}{L j k:Nat}{x y z:Ex}{pa la ya ma:Option Addr}{pc lc yc mc:Nat}
theorem Kept.gb(h:Kept b tv wv l wl w L wr x pa pc la lc j)(hb:b<w.heap.size)(g:wr.grownBy w1 (some b))(hp:Par w1 b tv wv l wl k):Kept b tv wv l wl w L w1 x pa pc la lc k:=
 ⟨hp,h.blk.gb g (by have:=h.bL;simp;omega),h.rp.gb g JG,h.rl.gb g JG,Ah h.gr g,h.bL,h.wL,h.zero.gb g Ag⟩
theorem Kept.gbN(h:Kept b tv wv l wl w L wr x pa pc la lc j)(hb:b<w.heap.size)(g:wr.grownBy w1 none):Kept b tv wv l wl w L w1 x pa pc la lc j:=
 h.gb hb (AY g) (h.par.gbN g)
theorem Kept.two(h:Kept b tv wv l wl w L wr x pa pc la lc j)(hb:b<w.heap.size)(op:Int)(s:Bs)(zp:Cells wr (.slice ya z.h.p.length yc) 1 z.h.p.length (z.h.p.map str) (but w L))(zl:RepL (but w L) wr (.slice ma z.kids.len mc) z.kids):
 Kept b tv wv l wl w L ((set7 wr L (.int .i64 op) (str s) (.int .i64 0) (.int .i64 0) (str []) (.slice none 0 0) (.slice (some ⟨wr.heap.size,0,none⟩) 2 2)).alloc (.cells (hdC x.h (.slice pa x.h.p.length pc) (.slice la x.kids.len lc)++hdC z.h (.slice ya z.h.p.length yc) (.slice ma z.kids.len mc)).toArray 29 (0,0)))
  ⟨hd0 op s,.two x z⟩ none 0 (some ⟨wr.heap.size,0,none⟩) 2 j:=by
 have fT{P}(h:P:=by
 have Je{P}(h:P:=by
 refine⟨(h.par.gb g7 GT).alloc _,((h.blk.set7 _ _ _ _ _ _ _).of_eq rfl rfl).alloc _,Cells.nil _ 1 _,?_,Ar (A5 h.gr g7 (.inr Ab)) _,hbL,hwL,?_⟩
 ·exact TP
 ·exact(h.zero.gb g7 Ag).alloc _):=Aa h
 exact Ja):=Aa h;exact Zb
def IdxR(l:List Tok)(wl:List Bs)(E:Nat→Res Ex)(b:Nat)(tv wv:Value)(w:World)(L:Nat)(r:Res Ex)(m:Nat)(wr:World):Prop:=
 ∃x pa pc la lc j,Kept b tv wv l wl w L wr x pa pc la lc j∧DF l E m x j=r
theorem vY{E prim:Nat→Res Ex}(hE:CE 56 b tv wv l wl E)(hP:CE 244 b tv wv l wl prim):∀m,CE 211 b tv wv l wl (DL l E prim m):=by
 have iS{P}(h:P:=by
 by_cases hn1:Ak (Af l i) [45]=true
 ·have H:=Z (Ac ih ho);have HN:=Z (Ac True.intro hn1);generalize hR:DL l E prim (m+1) i=R at*;have hR':(DL l E prim m (i+1)).bind (fun x j=> .ok (unE [45] x) j)=R:=by rw[←hR];simp[DL,hn1]
  have HR:=Z hR';clear hR hR' hn1 hE hP ih ho;go_enter func211,ntmps211;have cK{P}(h:P:=by
  go_wp2_with fail;refine(H.out.1 _ _ h0 (fun e=>H.out.2 Li)).mono ?_;rintro e w1 ⟨g1,h1⟩;cases ho:DL l E prim m (i+1)with
  |out=>rw[ho]at h1;exact h1.elim
  | bad q=>
    exact L2
  | ok x j=>
    have cM{P}(h:P:=by have hQ:R= .ok (unE [45] x) j:=Qf;have H2:=Z (Ac rp (Ac rl hQ));clear rp rl hQ hB h0;have Fy{P}(h:P:=by obtain⟨rp,rl,hQ⟩:=H2.out;have eR{P}(h:P:=by exact bodyPost_ret (AX (hd:=hd0 4 [45]) (pv:= .slice none 0 0) (lv:= .slice (some ⟨w1.heap.size,0,none⟩) 1 1) rfl _ (Blk.alloc hW (Obj.cells #[Value.int IntKind.i64 x.h.op,str x.h.s,Value.int IntKind.i64 x.h.vk,Value.int IntKind.i64 x.h.vn,str x.h.vs,Value.slice pa x.h.p.length pc,Value.slice la x.kids.len lc] 29)) rfl) rfl (Mz (op:=4) (s:=[45]) hb hQ (Ah g0 g1) rp rl XA h1 g7 hsz)):=Aa h;exact Yu):=Aa h;exact Fr):=Aa h;exact SU):=Aa h
  exact SR
 have hn1':Ak (Af l i) [45]=false:=by simpa using hn1
 have H:=Z (Ac hE (Ac hP ho));have HN:=Z hn1';generalize hR:DL l E prim (m+1) i=R at*;have hR':(prim i).bind (fun x j=>DF l E m x j)=R:=by rw[←hR];simp[DL,hn1']
 have HR:=Z hR';clear hR hR' hn1 hn1' hE hP ih ho;go_enter func211,ntmps211;go_wp2_with fail;refine(B5 hp _ HN.out).mono ?_;rintro e wb ⟨rfl,gb⟩;have h0:=hp.gbN gb;have g0:w.grownBy wb (some b):=A0 gz gb;have hB:=Blk.gb hz gb Ae;have hw0:w.heap.size<wb.heap.size:=X7;clear hz hp gb gz;go_wp2_with fail;refine(H.out.2.1 _ _ h0 (fun e=>H.out.2.2 Li)).mono ?_;rintro e w1 ⟨g1,h1⟩;cases ho:prim i with
 |out=>rw[ho]at h1;exact h1.elim
 | bad q=>
   exact L2
 | ok x j=>
   rw[ho]at h1;obtain⟨v,rfl,⟨pa,pc,la,lc,rfl,rp,rl⟩,h1⟩:=h1;have hs1:=g1.size;have hb1:=h1.lt;have HQ:=Z (show DF l E m x j=R by rw[←HR.out,ho];rfl);have hK:Kept b tv wv l wl w w1.heap.size (w1.alloc (.cells (hdC x.h (.slice pa x.h.p.length pc) (.slice la x.kids.len lc)).toArray 29 (0,0))) x pa pc la lc j:=by
    have Ro{P}(h:P:=by
    refine⟨h1.alloc _,Blk.new w1 _ _,(rp.mono ?_).gb g Ae,(rl.mono ?_).gb g Ae,Ar (Ah g0 g1) _,hb1,by omega,((hB.gb g1 Ag)).alloc _⟩;all_goals
     intro q hq hq2;have:wb.heap.size≤q:=hq;exact⟨by omega,by omega⟩):=Aa h
    exact Om
   have HK:=Z hK;clear hK rp rl ho HR h1 hB g1 g0 h0;go_wp2_with fail;go_loopg [] m (fun n wr=>IdxR l wl E b tv wv w w1.heap.size R n wr)
   case atStart=>exact⟨x,pa,pc,la,lc,j,HK.out,HQ.out⟩
   case round=>
    obtain⟨y,ya,yc,ma,mc,q,hk,hloop⟩:=hrel;clear HQ HK;have hp:=hk.par;cases gk with
    |zero=>exact absurd hloop.symm H.out.2.2
    |succ n=>
    cases hs:Ak (Af l q) [91]with
    | false=>
      have HQ:=Z (show R= .ok y q by rw[←hloop];simp[DF,hs]);have HS:=Z hs;have HK:=Z hk;clear hloop hs hk;go_wp2_with fail;refine(B5 hp _ HS.out).mono ?_;rintro e w2 ⟨rfl,g2⟩;have hk:=HK.out.gbN hb g2;have hL:=hk.blk;have hZ:=hk.zero;have hwL:=hk.wL;have HK2:=Z hk;clear HK hk hp g2;have Fv{P}(h:P:=by go_wp2;have hk:=HK2.out;have g7:=AD w2 w.heap.size (.int .i64 y.h.op) (str y.h.s) (.int .i64 y.h.vk) (.int .i64 y.h.vn) (str y.h.vs) (.slice ya y.h.p.length yc) (.slice ma y.kids.len mc);exact bodyPost_ret (AX rfl _ (hZ.set7 _ _ _ _ _ _ _) rfl) rfl (E9 hb HQ.out hk.gr ⟨_,_,_,_,rfl,hk.rp,hk.rl⟩ FT hk.par g7)):=Aa h;exact Fm
    | true=>
      have HQ:=Z (show(E (q+1)).bind (fun z j=>(Br l [93] j).bind fun _ k=>DF l E n (DN y z) k)=R by rw[←hloop];simp[DF,hs]);have HS:=Z hs;have HK:=Z hk;clear hloop hs hk;go_wp2_with fail;refine(BC hp _ HS.out).mono ?_;rintro e w2 ⟨rfl,h2,g2⟩;have hk:=HK.out.gb hb g2 h2;have hL:=hk.blk;have hwL:=hk.wL;have hbL:=hk.bL;have HK2:=Z hk;clear HK hk hp g2;have Fx{P}(h:P:=by
      have hLb:=hL.lt;cases ho2:E (q+1)with
      |out=>exact absurd (show R= .out by rw[←HQ.out,ho2];rfl) H.out.2.2
      | bad z=>
        go_wp2_with fail;go_region_with(go_at_call 56;refine(H.out.1 _ _ (h2.gbN (An (Aj _ _))) Ih).mono ?_;rintro e w4 ⟨g4,h4⟩;rw[ho2]at h4;subst h4;refine Cd (P:=Tryz.prog) ⟨rfl,Post.bad (Ah (An HK2.out.gr) g4) (by rw[←HQ.out,ho2];rfl)⟩ ⟨#[],[]⟩ w4 ?_);all_goals trivial
      | ok z p=>
        go_wp2_with fail;go_region_with(go_at_call 56;refine(H.out.1 _ _ (h2.gbN (An (Aj _ _))) Ih).mono ?_;rintro e w4 ⟨g4,h4⟩;rw[ho2]at h4;obtain⟨v,rfl,⟨za,zc,na,nc,rfl,zp,zl⟩,h4⟩:=h4;have hk4:=HK2.out.gb hb (Ah (An (Aj _ _)) g4) h4;have hL4:=hk4.blk;have hlt4:=hL4.lt;have HZ:=Z (Ac hk4 (Ac zp zl));clear hk4 zp zl;obtain⟨dl_0,dl_1,dl_2,dl_3,dl_4,dl_5,dl_6,dl_f⟩:=(hL4).c7);all_goals
         have hin:∀g,w2.heap.size≤g→but w w1.heap.size g:=fun g hg=>⟨by omega,by omega⟩;have hK5:=HZ.out.1.two hb 6 [] (z:=z) (HZ.out.2.1.mono fun g hg _=>hin g hg) (HZ.out.2.2.mono fun g hg _=>hin g hg);have HQ2:=Z (show(Br l [93] p).bind (fun _ k=>DF l E n (DN y z) k)=R by rw[←HQ.out,ho2];rfl);clear HZ HK2 cl_0 cl_1 cl_2 cl_3 cl_4 cl_5 cl_6 cl_f dl_0 dl_1 dl_2 dl_3 dl_4 dl_5 dl_6 dl_f hL hL4 HQ ho2 h4 h2;go_wp2_with fail;refine(Ec hK5.par [93]).mono ?_;rintro e w6 ⟨g6,h6⟩;cases hw:Br l [93] p with
         |out=>rw[hw]at h6;exact h6.elim
         | bad f=>
           rw[hw]at h6;subst h6;exact⟨rfl,Post.bad (Ah hK5.gr g6) (by rw[←HQ2.out,hw];rfl)⟩
         | ok _ f=>
           rw[hw]at h6;obtain⟨v,rfl,rfl,h6⟩:=h6;have HQ3:=Z (show DF l E n (DN y z) f=R by rw[←HQ2.out,hw];rfl);clear HQ2 hw;go_wp2_with fail;go_roundg n
           case measure=>omega
           case rel=>exact⟨DN y z,none,0,_,2,f,hK5.gb hb g6 h6,HQ3.out⟩):=Aa h
      exact Fq):=Aa h
 exact aA
end
section
variable {b:Nat}{tv wv:Value}{l:List Tok}{wl:List Bs}
theorem Post.split{w w':World}{α:Type}{V:World→Value→α→Prop}{r:Res α}{e:Ending}(h:Post b tv wv l wl w V r e w'):
 w.grownBy w' (some b)∧((∃q,r= .bad q∧e= .panicked (JA q))∨∃x j v,r= .ok x j∧e= .returned v∧V w' v x∧Par w' b tv wv l wl j):=by
 obtain⟨g,h⟩:=h;cases r with
 |out=>exact h.elim
 |bad q=>exact⟨g,.inl ⟨q,rfl,h⟩⟩
 | ok x j=>
   obtain⟨v,h1,h2,h3⟩:=h;exact⟨g,.inr ⟨x,j,v,rfl,h1,h2,h3⟩⟩
variable {w wr w1:World}{L j k:Nat}{x y z:Ex}{pa la ya ma:Option Addr}{pc lc yc mc:Nat}
theorem Kept.new(hb:b<w.heap.size)(gr:w.grownBy wr (some b))(hz:Blk wr w.heap.size zeroE 29)(hp:Par wr b tv wv l wl j)
 (rp:Cells wr (.slice pa x.h.p.length pc) 1 x.h.p.length (x.h.p.map str) (fun g=>w.heap.size<g)) (rl:RepL (fun g=>w.heap.size<g) wr (.slice la x.kids.len lc) x.kids) {n:Nat} (hn:n=wr.heap.size):
 Kept b tv wv l wl w n (wr.alloc (.cells (hdC x.h (.slice pa x.h.p.length pc) (.slice la x.kids.len lc)).toArray 29 (0,0))) x pa pc la lc j:=by
 subst hn;have g:=World.grownBy_alloc wr (.cells (hdC x.h (.slice pa x.h.p.length pc) (.slice la x.kids.len lc)).toArray 29 (0,0)) none;have hz1:=hz.lt;have hp1:=hp.lt;refine⟨hp.alloc _,Blk.new wr _ _,(rp.mono ?_).gb g Ae,(rl.mono ?_).gb g Ae,Ar gr _,hp1,hz1,hz.alloc _⟩;all_goals
  intro q hq hq2;exact⟨hq,by omega⟩
theorem Kept.leaf(hb:b<w.heap.size)(gr:w.grownBy wr (some b))(hz:Blk wr w.heap.size zeroE 29)(hp:Par wr b tv wv l wl j)(op:Int)(s:Bs){n:Nat}(hn:n=wr.heap.size):
 Kept b tv wv l wl w n (wr.alloc (.cells (hdC (hd0 op s) (.slice none 0 0) (.slice none 0 0)).toArray 29 (0,0))) ⟨hd0 op s,.nil⟩ none 0 none 0 j:=
 Kept.new (x:=⟨hd0 op s,.nil⟩) (pa:=none) (pc:=0) (la:=none) (lc:=0) hb gr hz hp (Cells.nil _ _ _) (RepL.nil _ _) hn
theorem Kept.one(hb:b<w.heap.size)(gr:w.grownBy wr (some b))(hz:Blk wr w.heap.size zeroE 29)(hp:Par wr b tv wv l wl j)(op:Int)(s:Bs)
 (zp:Cells wr (.slice ya z.h.p.length yc) 1 z.h.p.length (z.h.p.map str) (fun g=>w.heap.size<g)) (zl:RepL (fun g=>w.heap.size<g) wr (.slice ma z.kids.len mc) z.kids):
 Kept b tv wv l wl w (wr.heap.size+1) ((wr.alloc (.cells (hdC z.h (.slice ya z.h.p.length yc) (.slice ma z.kids.len mc)).toArray 29 (0,0))).alloc (.cells (hdC (hd0 op s) (.slice none 0 0) (.slice (some ⟨wr.heap.size,0,none⟩) 1 1)).toArray 29 (0,0)))
  ⟨hd0 op s,.one z⟩ none 0 (some ⟨wr.heap.size,0,none⟩) 1 j:=
 Kept.new (x:=⟨hd0 op s,.one z⟩) (pa:=none) (pc:=0) (lc:=1) hb (Ar gr _) (hz.alloc _) (hp.alloc _) (Cells.nil _ _ _) (RepL.one rfl (by have:=hz.lt;show w.heap.size<_;omega) zp zl) Ae
theorem Kept.kid1(h:Kept b tv wv l wl w L wr x pa pc la lc j)(hb:b<w.heap.size)(zp:Cells wr (.slice ya z.h.p.length yc) 1 z.h.p.length (z.h.p.map str) (but w L))(zl:RepL (but w L) wr (.slice ma z.kids.len mc) z.kids):
 Kept b tv wv l wl w L ((wr.setCell ⟨L,6,none⟩ (.slice (some ⟨wr.heap.size,0,none⟩) 1 1)).alloc (.cells (hdC z.h (.slice ya z.h.p.length yc) (.slice ma z.kids.len mc)).toArray 29 (0,0)))
  ⟨x.h,.one z⟩ pa pc (some ⟨wr.heap.size,0,none⟩) 1 j:=by
 have g7:wr.grownBy (wr.setCell ⟨L,6,none⟩ (.slice (some ⟨wr.heap.size,0,none⟩) 1 1)) (some L):=A7 (Aj _ _) _ _ (.inl rfl);have hsz:(wr.setCell ⟨L,6,none⟩ (.slice (some ⟨wr.heap.size,0,none⟩) 1 1)).heap.size=wr.heap.size:=Ae;have Je{P}(h:P:=by exact⟨(h.par.gb g7 GT).alloc _,((h.blk.set 6 _).of_eq rfl rfl).alloc _,(h.rp.gb g7 hk).gb (World.grownBy_alloc _ _ none) Ae,RepL.one hsz.symm ⟨by omega,by omega⟩ (zp.gb g7 hk) (zl.gb g7 hk),Ar (A5 h.gr g7 (.inr Ab)) _,hbL,hwL,(h.zero.gb g7 Ag).alloc _⟩):=Aa h;exact Ja
theorem PJ{L:Nat}(i:Nat)(v:Value):wr.grownBy (wr.setCell ⟨L,i,none⟩ v) (some L):=A7 (Aj _ _) _ _ (.inl rfl)
theorem Kept.kids(h:Kept b tv wv l wl w L wr x pa pc la lc j)(hb:b<w.heap.size){f:Fo}(rl:RepL (but w L) wr (.slice ma f.len mc) f):
 Kept b tv wv l wl w L (wr.setCell ⟨L,6,none⟩ (.slice ma f.len mc)) ⟨x.h,f⟩ pa pc ma mc j:=by
 have g7:wr.grownBy (wr.setCell ⟨L,6,none⟩ (.slice ma f.len mc)) (some L):=PJ 6 _;have Je{P}(h:P:=by exact⟨h.par.gb g7 GT,(h.blk.set 6 _).of_eq rfl rfl,h.rp.gb g7 hk,rl.gb g7 hk,A5 h.gr g7 (.inr Ab),hbL,hwL,h.zero.gb g7 Ag⟩):=Aa h;exact Ja
theorem Kept.names(h:Kept b tv wv l wl w L wr x pa pc la lc j)(hb:b<w.heap.size){p:List Bs}(rp:Cells wr (.slice ma p.length mc) 1 p.length (p.map str) (but w L)):
 Kept b tv wv l wl w L (wr.setCell ⟨L,5,none⟩ (.slice ma p.length mc)) ⟨{x.h with p:=p},x.kids⟩ ma mc la lc j:=by
 have g7:wr.grownBy (wr.setCell ⟨L,5,none⟩ (.slice ma p.length mc)) (some L):=PJ 5 _;have Je{P}(h:P:=by exact⟨h.par.gb g7 GT,(h.blk.set 5 _).of_eq rfl rfl,rp.gb g7 hk,h.rl.gb g7 hk,A5 h.gr g7 (.inr Ab),hbL,hwL,h.zero.gb g7 Ag⟩):=Aa h;exact Ja
theorem Kept.op(h:Kept b tv wv l wl w L wr x pa pc la lc j)(hb:b<w.heap.size)(op:Int):
 Kept b tv wv l wl w L (wr.setCell ⟨L,0,none⟩ (.int .i64 op)) ⟨{x.h with op:=op},x.kids⟩ pa pc la lc j:=by
 have g7:wr.grownBy (wr.setCell ⟨L,0,none⟩ (.int .i64 op)) (some L):=PJ 0 _;have Je{P}(h:P:=by exact⟨h.par.gb g7 GT,(h.blk.set 0 _).of_eq rfl rfl,h.rp.gb g7 hk,h.rl.gb g7 hk,A5 h.gr g7 (.inr Ab),hbL,hwL,h.zero.gb g7 Ag⟩):=Aa h;exact Ja
theorem WF{E:Nat→Res Ex}(hE:CE 56 b tv wv l wl E)(hgo:H9 E)(hl:AF l)(n:Nat):CE 181 b tv wv l wl (FK l E n):=by
 have Jf{P}(h:P:=by
 have H:=Z (Ac hE (Ac hgo (Ac hl ho)));generalize hR:FK l E n i=R at*;have HQ:=Z hR;rw[FK]at HQ;clear hE hgo hl ho hR;go_enter func181,ntmps181;go_wp2_with fail;refine(C4 hp H.out.2.2.1).mono ?_;intro e w1 hq;have N5{P}(h:P:=by
 have BW{P}(h:P:=by
 have hk:=Kept.leaf hb gr (hz.gb g Ag) hp 3 s rfl;have HK:=Z hk;have hs1:=hk.blk.lt;clear hk g hz;go_wp2_with fail;replace gr:=HK.out.gr;refine(Ec HK.out.par [40]).mono ?_;intro e w2 hq;obtain⟨g,⟨q,hr,rfl⟩| ⟨_,j2,v,hr,rfl,rfl,hp⟩⟩:=hq.split
 ·exact CV
 have BW{P}(h:P:=by
 have hk:=HK.out.gb hb g hp;cases hs:Ak (Af l j2) [41]with
 | true=>
   replace HQ:=HQr HQ EI;go_wp2_with fail;refine(BC hp _ hs).mono ?_;rintro e w3 ⟨rfl,hp,g⟩;replace hk:=hk.gb hb g hp;exact Ik
 | false=>
   replace HQ:=HQr HQ Cx;go_wp2_with fail;refine(B5 hp _ hs).mono ?_;rintro e w3 ⟨rfl,g⟩;replace hk:=hk.gbN hb g;replace hp:=hk.par;replace gr:=hk.gr;have iU{P}(h:P:=by
   have BW{P}(h:P:=by
   replace hk:=hk.gb hb g hp;have hk2:=hk.kids hb (rl.mono fun g hg _=>(⟨by have:w3.heap.size≤g:=hg;omega,by have:w3.heap.size≤g:=hg;omega⟩:but w w1.heap.size g));have hL:=hk.blk;have Fx{P}(h:P:=by
   clear hk rl;go_wp2_with fail;replace gr:=hk2.gr;refine(Ec hk2.par [41]).mono ?_;intro e w5 hq;obtain⟨g,⟨q,hr,rfl⟩| ⟨_,j4,v,hr,rfl,rfl,hp⟩⟩:=hq.split
   ·exact CV
   have BW{P}(h:P:=by have hk:=hk2.gb hb g hp;clear cl_0 cl_1 cl_2 cl_3 cl_4 cl_5 cl_6 cl_f hk2 hL g;exact Ik):=Aa h;exact BV):=Aa h;exact Fq):=Aa h;exact BV):=Aa h;exact aE):=Aa h
 exact BV):=Aa h;exact BV):=Aa h;exact LQ):=Aa h;exact Jb
theorem VA{E:Nat→Res Ex}(hE:CE 56 b tv wv l wl E)(hl:AF l):CE 223 b tv wv l wl (EW l E):=by
 have Jf{P}(h:P:=by
 have H:=Z (Ac hE (Ac hl ho));generalize hR:EW l E i=R at*;have HQ:=Z hR;rw[EW]at HQ;clear hE hl ho hR;go_enter func223,ntmps223;go_wp2_with fail;refine(Ec hp [38]).mono ?_;intro e w1 hq;obtain⟨g,⟨q,hr,rfl⟩| ⟨_,j,v,hr,rfl,rfl,hp⟩⟩:=hq.split
 ·exact CV
 have BW{P}(h:P:=by
 replace hz:=hz.gb g Ag;cases hs:Ak (Af l j) [40]with
 | true=>
   replace HQ:=HQr HQ EI;go_wp2_with fail;refine(BC hp _ hs).mono ?_;rintro e w2 ⟨rfl,hp,g⟩;replace hz:=hz.gb g Ag;replace gr:=Ah gr g;have hs2:=hz.lt;clear g;go_wp2_with fail;refine(H.out.1 _ _ hp (fun e=>H.out.2.2 B8)).mono ?_;intro e w3 hq;have R0{P}(h:P:=by
   have BW{P}(h:P:=by
   replace hz:=hz.gb g Ag;have hk:=Kept.one hb gr hz hp 9 [] (rp.mono fun g hg _=>by have:w2.heap.size≤g:=hg;show w.heap.size<g;omega) (rl.mono fun g hg _=>by have:w2.heap.size≤g:=hg;show w.heap.size<g;omega);clear rp rl hz g;go_wp2_with fail;replace gr:=hk.gr;refine(Ec hk.par [41]).mono ?_;intro e w4 hq;obtain⟨g,⟨q,hr,rfl⟩| ⟨_,j3,v,hr,rfl,rfl,hp⟩⟩:=hq.split
   ·exact CV
   exact TG):=Aa h;exact BV):=Aa h;exact O5
 | false=>
   replace HQ:=HQr HQ Cx;go_wp2_with fail;refine(B5 hp _ hs).mono ?_;rintro e w2 ⟨rfl,g⟩;have DB{P}(h:P:=by
   go_wp2_with fail;refine(C4 hp H.out.2.1).mono ?_;intro e w3 hq;obtain⟨g,⟨q,hr,rfl⟩| ⟨s,j2,v,hr,rfl,rfl,hp⟩⟩:=hq.split
   ·exact CV
   have BW{P}(h:P:=by
   replace hz:=hz.gb g Ag;have hk:=Kept.leaf hb gr hz hp 9 s rfl;clear hz g;have hs3:=hk.blk.lt;cases hs:Ak (Af l j2) [46]with
   | true=>
     replace HQ:=HQr HQ EI;go_wp2_with fail;refine(BC hk.par _ hs).mono ?_;rintro e w4 ⟨rfl,hp,g⟩;replace hk:=hk.gb hb g hp;exact Ik
   | false=>
     replace HQ:=HQr HQ Cx;go_wp2_with fail;refine(B5 hk.par _ hs).mono ?_;rintro e w4 ⟨rfl,g⟩;replace hk:=hk.gbN hb g;exact Ik):=Aa h
   exact BV):=Aa h;exact D7):=Aa h
 exact BV):=Aa h;exact Jb
end
section
variable {b:Nat}{tv wv:Value}{l:List Tok}{wl:List Bs}
theorem Res.bind_assoc{α β γ:Type}(r:Res α)(f:α→Nat→Res β)(g:β→Nat→Res γ):(r.bind f).bind g=r.bind fun a i=>(f a i).bind g:=by cases r<;>rfl
theorem p0{E:Nat→Res Ex}(hE:CE 56 b tv wv l wl E)(hgo:H9 E)(hl:AF l)(n:Nat):CE 289 b tv wv l wl (Gi l E n):=by
 have Jf{P}(h:P:=by
 have H:=Z (Ac hE (Ac hgo (Ac hl ho)));generalize hR:Gi l E n i=R at*;have HQ:=Z hR;rw[Gi]at HQ;have hk:=Kept.leaf (n:=w.heap.size+1) hb gr hz hp 7 [] Ae;clear hE hgo hl ho hR hz gr;go_enter func289,ntmps289;go_wp2_with fail;cases hs:Ak (Af l i) [124]with
 | true=>
   replace HQ:=HQr HQ EI;refine(BC hk.par _ hs).mono ?_;rintro e w1 ⟨rfl,hp,g⟩;replace hk:=hk.gb hb g hp;have hk8:=hk.op hb 8;have hL:=hk.blk;have Fx{P}(h:P:=by
   have hlt:=hL.lt;clear hk g;cases hs:Ak (Af l (i+1)) [124]with
   | true=>
     replace HQ:=HQr HQ EI;replace HQ:=HQr HQ CU;go_wp2_with fail;refine(BC hk8.par _ hs).mono ?_;rintro e w2 ⟨rfl,hp,g⟩;have hk:=hk8.gb hb g hp;clear cl_0 cl_1 cl_2 cl_3 cl_4 cl_5 cl_6 cl_f hL;clear hk8 g hp hlt;have eB{P}(h:P:=by exact Ik):=Aa h;exact XX
   | false=>
     replace HQ:=HQr HQ Cx;replace HQ:=HQr HQ Qm;go_wp2_with fail;refine(B5 hk8.par _ hs).mono ?_;rintro e w2 ⟨rfl,g⟩;have hk:=hk8.gbN hb g;clear cl_0 cl_1 cl_2 cl_3 cl_4 cl_5 cl_6 cl_f hL;clear hk8 g hp hlt;have hp:=hk.par;have gr:=hk.gr;have hltW:=hk.blk.lt;have hwL:=hk.wL;go_wp2_with fail;refine(VC hp H.out.2.2.1 n (fun e=>H.out.2.2.2 B8)).mono ?_;intro e w3 hq;obtain⟨g,⟨q,hr,rfl⟩| ⟨p,j3,v,hr,rfl,⟨ma,mc,rfl,rp⟩,hp⟩⟩:=hq.split
     ·exact CV
     have BW{P}(h:P:=by
     replace hk:=hk.gb hb g hp;have hk2:=hk.names hb (rp.mono fun g hg _=>(⟨by have:w2.heap.size≤g:=hg;omega,by have:w2.heap.size≤g:=hg;omega⟩:but w (w.heap.size+1) g));have hL:=hk.blk;have Fx{P}(h:P:=by
     have hlt:=hL.lt;clear hk rp g;go_wp2_with fail;replace gr:=hk2.gr;replace HQ:=HQr HQ Qm;refine(Ec hk2.par [124]).mono ?_;intro e w4 hq;obtain⟨g,⟨q,hr,rfl⟩| ⟨_,j4,v,hr,rfl,rfl,hp⟩⟩:=hq.split
     ·exact CV
     have BW{P}(h:P:=by replace HQ:=HQr HQ CU;have hk:=hk2.gb hb g hp;clear cl_0 cl_1 cl_2 cl_3 cl_4 cl_5 cl_6 cl_f hL;clear hk2 g hp gr hltW hwL hlt;have eB{P}(h:P:=by exact Ik):=Aa h;exact XX):=Aa h;exact BV):=Aa h;exact Fq):=Aa h;exact BV):=Aa h
   exact Fq
 | false=>
   replace HQ:=HQr HQ Cx;refine(B5 hk.par _ hs).mono ?_;rintro e w3 ⟨rfl,g⟩;replace hk:=hk.gbN hb g;replace hp:=hk.par;have gr:=hk.gr;have iU{P}(h:P:=by
   have BW{P}(h:P:=by
   replace hk:=hk.gb hb g hp;have hk2:=hk.kids hb (rl.mono fun g hg _=>(⟨by have:w3.heap.size≤g:=hg;omega,by have:w3.heap.size≤g:=hg;omega⟩:but w (w.heap.size+1) g));have hL:=hk.blk;have Fx{P}(h:P:=by
   have hlt:=hL.lt;clear hk rl;go_wp2_with fail;replace gr:=hk2.gr;refine(Ec hk2.par [125]).mono ?_;intro e w5 hq;obtain⟨g,⟨q,hr,rfl⟩| ⟨_,j4,v,hr,rfl,rfl,hp⟩⟩:=hq.split
   ·exact CV
   have BW{P}(h:P:=by have hk:=hk2.gb hb g hp;clear cl_0 cl_1 cl_2 cl_3 cl_4 cl_5 cl_6 cl_f hL;clear hk2 g;exact Ik):=Aa h;exact BV):=Aa h;exact Fq):=Aa h;exact BV):=Aa h;exact aE):=Aa h
 exact Jb
end
end Go.Proofs.YtmcajbhljbbglaaGreatDoor
