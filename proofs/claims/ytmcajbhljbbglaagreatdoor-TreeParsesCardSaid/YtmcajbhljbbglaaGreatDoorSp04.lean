/-
  Contracts of the parser: binary, joined. Contracts of the parser: expr, not, sum, pow.
-/
import Derived.Test.YtmcajbhljbbglaaGreatDoorSpF
import Derived.Test.YtmcajbhljbbglaaGreatDoorSp02
import Derived.Deep.LoopGhost
set_option linter.all false
set_option maxRecDepth 100000
set_option maxHeartbeats 8000000
namespace Go.Proofs.YtmcajbhljbbglaaGreatDoor
open Tryz
open Go.RowKit
theorem VE.node{ok:Nat→Prop}{w:World}{op:Int}{s:Bs}{la:Option Addr}{lc:Nat}{f:Fo}(h:RepL ok w (.slice la f.len lc) f):VE ok w (exV (hd0 op s) (.slice none 0 0) (.slice la f.len lc)) ⟨hd0 op s,f⟩:=
 ⟨none,0,la,lc,rfl,Cells.nil w 1 ok,h⟩
theorem Cells.new'{w:World}{cs:List Value}{t:TypeId}{size n m:Nat}{ok:Nat→Prop}(hm:m=w.heap.size)(h:cs.length=n*size)(hn:n≤maxLen)(hok:ok m):
 Cells (w.alloc (.cells cs.toArray t (0,0))) (.slice (some ⟨m,0,none⟩) n n) size n cs ok:=by
 subst hm;refine⟨_,_,rfl,Nat.le_refl _,hn,h,fun j u hj=>⟨w.heap.size,0,rfl,hok,?_⟩⟩;rw[Nat.zero_add];exact(Blk.new w cs t).cell' j hj
theorem RepL.two{w:World}{n:Nat}{ok:Nat→Prop}{x y:Ex}{px lx py ly:Value}(hn:n=w.heap.size)(hok:ok n)(px':Cells w px 1 x.h.p.length (x.h.p.map str) ok)(lx':RepL ok w lx x.kids)(py':Cells w py 1 y.h.p.length (y.h.p.map str) ok)(ly':RepL ok w ly y.kids):
 RepL ok (w.alloc (.cells (hdC x.h px lx++hdC y.h py ly).toArray 29 (0,0))) (.slice (some ⟨n,0,none⟩) 2 2) (.two x y):=by
 have g:=World.grownBy_alloc w (.cells (hdC x.h px lx++hdC y.h py ly).toArray 29 (0,0)) none;exact⟨_,Cells.new' (size:=7) hn rfl Ad hok,((VE.rep px' lx').app (VE.rep py' ly')).gb g Ae⟩
theorem RepL.one{w:World}{n:Nat}{ok:Nat→Prop}{x:Ex}{px lx:Value}(hn:n=w.heap.size)(hok:ok n)(px':Cells w px 1 x.h.p.length (x.h.p.map str) ok)(lx':RepL ok w lx x.kids):
 RepL ok (w.alloc (.cells (hdC x.h px lx).toArray 29 (0,0))) (.slice (some ⟨n,0,none⟩) 1 1) (.one x):=by
 have g:=World.grownBy_alloc w (.cells (hdC x.h px lx).toArray 29 (0,0)) none;exact⟨_,Cells.new' (size:=7) hn rfl Ad hok,(VE.rep px' lx').gb g Ae⟩
theorem Pb(s:Bs)(x y:Ex){xv yv:Value}(w:World)(ok:Nat→Prop)(hok:∀k,w.heap.size≤k→ok k)(hx:VE ok w xv x)(hy:VE ok w yv y):
 Calls Tryz.prog 116 #[str s,xv,yv] w fun e w'=>∃v,e= .returned v∧VE ok w' v (AH s x y)∧w.grownBy w' none:=by
 have dU{P}(h:P:=by
 go_enter func116,ntmps116;go_wp2;obtain⟨hok,hx,hx',hy,hy'⟩:=H.out;refine bodyPost_ret (v:=exV (hd0 5 s) (.slice none 0 0) (.slice (some ⟨w.heap.size+1+1+1,0,none⟩) 2 2)) ?_ rfl ⟨_,rfl,VE.node (f:= .two x y) ?_,?_⟩
 ·simp[results,results116,go_sem,hd0]
 ·exact Zx
 ·exact gw):=Aa h
 exact TQ
abbrev PE(b:Nat)(tv wv:Value)(l:List Tok)(wl:List Bs)(w:World)(r:Res Ex):Ending→World→Prop:=Post b tv wv l wl w (VE (Ap w.heap.size)) r
abbrev zeroE:List Value:=[.int .i64 0,str [],.int .i64 0,.int .i64 0,str [],.slice none 0 0,.slice none 0 0]
def JoinR(l:List Tok)(wl:List Bs)(k:Nat)(opnd:Nat→Res Ex)(b:Nat)(tv wv:Value)(w:World)(L:Nat)(r:Res Ex)(m:Nat)(s:Value)(wr:World):Prop:=
 ∃x pa pc la lc j,s=str (AO l k j)∧Par wr b tv wv l wl (J9 (AO l k j) j)∧Blk wr L (hdC x.h (.slice pa x.h.p.length pc) (.slice la x.kids.len lc)) 29∧
  VE (fun g=>w.heap.size<g∧g≠L) wr (exV x.h (.slice pa x.h.p.length pc) (.slice la x.kids.len lc)) x∧E1 l k opnd m x j=r∧w.grownBy wr (some b)∧b<L∧w.heap.size<L∧Blk wr w.heap.size zeroE 29
theorem Mn{w:World}{b:Nat}{tv wv:Value}{l:List Tok}{wl:List Bs}{i:Nat}(h:Par w b tv wv l wl i)(k:Nat)(hk:k<6)(n g:Nat)(first captured:Array Value)(opnd:Nat→Res Ex)(hcf:∀w,(callFunc g (first++captured)).run Tryz.prog w= .ok (.enter g (first++captured)) w)
 (hop:∀w1 j,w.grownBy w1 (some b)→Par w1 b tv wv l wl j→opnd j ≠ .out→Calls Tryz.prog g (first++captured) w1 (PE b tv wv l wl w1 (opnd j)))
 (hn:B0 l k n opnd i ≠ .out):
 Calls Tryz.prog 87 #[.pointer (some ⟨b,0,none⟩),.int .i64 k,.func (.func g) first captured] w (PE b tv wv l wl w (B0 l k n opnd i)):=by
 have HOP:=Z hop;have HN:=Z hn;clear hop hn;go_enter func87,ntmps87;go_wp2_with fail;have g0:w.grownBy (w.alloc (Obj.cells #[Value.int IntKind.i64 0,Value.string {data:=#[]},Value.int IntKind.i64 0,Value.int IntKind.i64 0,Value.string {data:=#[]},Value.slice none 0 0,Value.slice none 0 0] 29)) (some b):=gw;have h0:=h.alloc (Obj.cells #[Value.int IntKind.i64 0,Value.string {data:=#[]},Value.int IntKind.i64 0,Value.int IntKind.i64 0,Value.string {data:=#[]},Value.slice none 0 0,Value.slice none 0 0] 29);refine(HOP.out _ _ g0 h0 ?_).mono ?_
 ·intro e;exact HN.out (by simp[B0,e,Res.bind])
 have HCF:=Z hcf;clear hcf;rintro e w1 ⟨g1,h1⟩;cases ho:opnd i with
 |out=>rw[ho]at h1;exact h1.elim
 | bad q=>
   rw[ho]at h1;subst h1;exact⟨rfl,Post.bad (Ah g0 g1) (by simp[B0,ho,Res.bind])⟩
 | ok x j=>
   rw[ho]at h1;obtain⟨v,rfl,⟨pa,pc,la,lc,rfl,rp,rl⟩,h1⟩:=h1;have hR:B0 l k n opnd i=E1 l k opnd n x j:=by simp[B0,ho,Res.bind]
   rw[hR]at HN;have HJ:=Z hR;clear hR ho;have HV:=Z (Ac rp rl);clear rp rl;have gA:w.grownBy (w1.alloc (.cells (hdC x.h (.slice pa x.h.p.length pc) (.slice la x.kids.len lc)).toArray 29 (0,0))) (some b):=Ar (Ah g0 g1) _;have hA:Par (w1.alloc (.cells (hdC x.h (.slice pa x.h.p.length pc) (.slice la x.kids.len lc)).toArray 29 (0,0))) b tv wv l wl j:=h1.alloc _;have hB:Blk (w1.alloc (.cells (hdC x.h (.slice pa x.h.p.length pc) (.slice la x.kids.len lc)).toArray 29 (0,0))) w1.heap.size (hdC x.h (.slice pa x.h.p.length pc) (.slice la x.kids.len lc)) 29:=Blk.new w1 _ _;go_wp2_with fail;refine(LX hA k hk).mono ?_;rintro e w2 ⟨rfl,g2,h2⟩;have hb1:b<w1.heap.size:=h1.lt;go_wp2_with fail;go_loopg [8] n (fun m s wr=>JoinR l wl k opnd b tv wv w w1.heap.size (E1 l k opnd n x j) m s wr)
   case atStart=>
    obtain⟨rp,rl⟩:=HV.out;have g3:w1.grownBy w2 (some b):=Ah (Ar (Aj _ _) _) g2;refine⟨x,pa,pc,la,lc,j,rfl,h2,hB.gb g2 Ag,?_,rfl,Ah gA g2,hb1,?_,?_⟩
    ·refine VE.gb (VE.mono (ok:=Ap _) ⟨_,_,_,_,rfl,rp,rl⟩ ?_) g3 ?_
     ·intro q hq1 hq2;have:=g0.size;simp at hq1;exact⟨by omega,by omega⟩
     ·intro q hq1 hq2 e;have:=h.lt;simp at e;omega
    ·have:=g1.size;simp at this;omega
    ·exact Blk.gb (Blk.gb (Blk.new w zeroE _) g1 (by have:=h.lt;simp;omega)) g3 (by have:=h.lt;simp;omega)
   case round=>
    obtain⟨y,ya,yc,ma,mc,j2,rfl,h3,hL,hV,hR,gr,hbL,hwL,hZ⟩:=hrel;rw[←HJ.out]at hR HN;cases gk with
    |zero=>exact absurd hR.symm HN.out
    |succ m=>
    have hb0:=h.lt;by_cases he:AO l k j2=[]
    ·rw[he,GC]at h3;have HR:=Z (show B0 l k n opnd i= .ok y j2 by rw[←hR];simp[E1,he]);have HV2:=Z hV;rw[he];clear hR hV HV he hA hB gA h1;have Fv{P}(h:P:=by
     go_wp2;have g7:=AD wr w.heap.size (.int .i64 y.h.op) (str y.h.s) (.int .i64 y.h.vk) (.int .i64 y.h.vn) (str y.h.vs) (.slice ya y.h.p.length yc) (.slice ma y.kids.len mc);refine bodyPost_ret (AX rfl _ (hZ.set7 _ _ _ _ _ _ _) rfl) rfl ?_;refine Post.ok (A5 gr g7 (.inr (Nat.le_refl _))) HR.out (VE.mono (HV2.out.gb g7 ?_) ?_) (h3.gb g7 A6)
     ·intro q hq _ e;simp at e;omega
     ·intro q hq _;simp;omega):=Aa h
     exact Fm
    ·rw[GG he]at h3;have hR':(opnd (j2+1)).bind (fun z q=>E1 l k opnd m (AH (AO l k j2) y z) q)=B0 l k n opnd i:=by
      rw[←hR];simp[E1,he]
     have HR:=Z hR';have HV2:=Z hV;have hs0:(AO l k j2==[])=false:=D3;have hs1:(AO l k j2).isEmpty=false:=D3;have HE:=Z he;clear hR hR' hV HV hA hB gA h1 he;generalize hO:AO l k j2=o at*;have HO:=Z hO;clear hO;have Fx{P}(h:P:=by
     have hLb:=hL.lt;have hcf:=HCF.out;cases ho2:opnd (j2+1)with
     |out=>exact absurd (by rw[←HR.out,ho2];rfl) HN.out
     | bad q=>
       go_wp2_with fail;go_region_with(refine(HOP.out _ _ (An gr) (h3.gbN (An (Aj _ _))) Ih).mono ?_;rintro e w4 ⟨g4,h4⟩;rw[ho2]at h4;subst h4;refine Cd (P:=Tryz.prog) ⟨rfl,Post.bad (Ah (An gr) g4) (by rw[←HR.out,ho2];rfl)⟩ ⟨#[],[]⟩ w4 ?_);all_goals trivial
     | ok z q=>
       have hwr:=gr.size;go_wp2_with fail;go_region_with(first| ((with_reducible refine(HOP.out _ _ (An gr) (h3.gbN (An (Aj _ _))) Ih).mono ?_);rintro e w4 ⟨g4,h4⟩;rw[ho2]at h4;obtain⟨v,rfl,hv,h4⟩:=h4;have hg4:=Ah (An (Aj wr (some b))) g4;have hL4:=hL.gb hg4 Ag;obtain⟨dl_0,dl_1,dl_2,dl_3,dl_4,dl_5,dl_6,dl_f⟩:=(hL4).c7;have hok:∀q,w4.heap.size≤q→w.heap.size<q∧q≠w1.heap.size:=(fun q hq=>by have:=hL4.lt;exact⟨by omega,by omega⟩);have hy:VE (fun g=>w.heap.size<g∧g≠w1.heap.size) w4 _ y:=HV2.out.gb hg4 (fun q hq _ e=>by cases e;omega);have hz:VE (fun g=>w.heap.size<g∧g≠w1.heap.size) w4 v z:=hv.mono (fun q hq _=>⟨by have:wr.heap.size≤q:=hq;omega,by have:wr.heap.size≤q:=hq;omega⟩))| (go_at_call 116;refine(Pb o y z _ _ hok hy hz).mono ?_;rintro e w5 ⟨u,rfl,hu,g5⟩;obtain⟨ua,uc,va,vc,rfl,ru,rv⟩:=hu;have hL5:=hL4.gb g5 Ae;obtain⟨el_0,el_1,el_2,el_3,el_4,el_5,el_6,el_f⟩:=(hL5).c7));all_goals
        have g7:=AD w5 w1.heap.size (.int .i64 (AH o y z).h.op) (str (AH o y z).h.s) (.int .i64 (AH o y z).h.vk) (.int .i64 (AH o y z).h.vn) (str (AH o y z).h.vs) (.slice ua (AH o y z).h.p.length uc) (.slice va (AH o y z).kids.len vc);have hL7:=hL5.set7 (.int .i64 (AH o y z).h.op) (str (AH o y z).h.s) (.int .i64 (AH o y z).h.vk) (.int .i64 (AH o y z).h.vn) (str (AH o y z).h.vs) (.slice ua (AH o y z).h.p.length uc) (.slice va (AH o y z).kids.len vc);have h7:=(h4.gbN g5).gb g7 A6;have hV7:VE (fun g=>w.heap.size<g∧g≠w1.heap.size) _ _ (AH o y z):=VE.gb ⟨_,_,_,_,rfl,ru,rv⟩ g7 XF;have gW:=A5 (A0 (Ah (An gr) g4) g5) g7 (.inr (by have:=g0.size;have:=g1.size;simp at*;omega));have hZ7:=Blk.gb (Blk.gb (hZ.gb hg4 Ag) g5 Ae) g7 Ag;go_wp2_with fail;refine(LX h7 k hk).mono ?_;rintro e w6 ⟨rfl,g6,h6⟩;go_wp2_with fail;go_roundg m
        case measure=>omega
        case rel=>
         exact⟨AH o y z,ua,uc,va,vc,q,rfl,h6,hL7.gb g6 Ag,hV7.gb g6 JI,by rw[←HJ.out,←HR.out,ho2];rfl,Ah gW g6,hbL,hwL,hZ7.gb g6 Ag⟩):=Aa h
     exact Fq
def CE(f:FuncId)(b:Nat)(tv wv:Value)(l:List Tok)(wl:List Bs)(M:Nat→Res Ex):Prop:=
 ∀w i,Par w b tv wv l wl i→M i ≠ .out→Calls Tryz.prog f #[.pointer (some ⟨b,0,none⟩)] w (PE b tv wv l wl w (M i))
section
variable {b:Nat}{tv wv:Value}{l:List Tok}{wl:List Bs}
theorem Aal(w:World):(callFunc 89 (#[.pointer (some ⟨b,0,none⟩)]++#[])).run Tryz.prog w= .ok (.enter 89 (#[.pointer (some ⟨b,0,none⟩)]++#[])) w:=Bk
theorem Aam(w:World):(callFunc 167 (#[.pointer (some ⟨b,0,none⟩)]++#[])).run Tryz.prog w= .ok (.enter 167 (#[.pointer (some ⟨b,0,none⟩)]++#[])) w:=Bk
theorem wU(k:Nat)(w:World):(callFunc 88 (#[]++#[.pointer (some ⟨k,0,none⟩)])).run Tryz.prog w= .ok (.enter 88 (#[]++#[.pointer (some ⟨k,0,none⟩)])) w:=Bk
theorem AaG(k:Nat)(w:World):(callFunc 166 (#[]++#[.pointer (some ⟨k,0,none⟩)])).run Tryz.prog w= .ok (.enter 166 (#[]++#[.pointer (some ⟨k,0,none⟩)])) w:=Bk
theorem kX{w w0 w1:World}{r:Res Ex}{i:Nat}{x:Ex}(hb:b<w.heap.size)(g0:w.grownBy w0 (some b))(hr:r= .ok x i)(g1:w0.grownBy w1 (some b)){v:Value}(hv:VE (Ap w0.heap.size) w1 v x)(hp:Par w1 b tv wv l wl i)
 {k:Nat} (hk:w.heap.size≤k) (hk2:k<w0.heap.size) {w2:World} (g2:w1.grownBy w2 (some k)):PE b tv wv l wl w r (.returned v) w2:=
 Post.ok (A5 (Ah g0 g1) g2 (.inr hk)) hr ((hv.gb g2 (by intro q hq _ e;have:w0.heap.size≤q:=hq;cases e;omega)).mono (by intro q hq _;have:w0.heap.size≤q:=hq;have:=g0.size;show w.heap.size≤q;omega)) (hp.gb g2 (by intro q' e;cases e;omega))
theorem vC{notf:Nat→Res Ex}(hnot:CE 89 b tv wv l wl notf)(n:Nat){w:World}{i k:Nat}(h:Par w b tv wv l wl i)(hk:w.cell? ⟨k,0,none⟩=some (.pointer (some ⟨b,0,none⟩)))(ho:B0 l 1 n notf i ≠ .out):
 Calls Tryz.prog 88 #[.pointer (some ⟨k,0,none⟩)] w (PE b tv wv l wl w (B0 l 1 n notf i)):=by
 have cQ{P}(h:P:=by have H:=Z (Ac hnot ho);clear hnot ho;go_enter func88,ntmps88;go_wp2_with fail;refine(Mn (h.alloc _) 1 Ad n 89 #[.pointer (some ⟨b,0,none⟩)] #[] notf Aal (fun w1 j _ hp hn=>H.out.1 w1 j hp hn) H.out.2).mono ?_;rintro e w1 ⟨g1,h1⟩;generalize hr:B0 l 1 n notf i=r at*;exact YD):=Aa h;exact Ta
theorem zF{notf:Nat→Res Ex}(hnot:CE 89 b tv wv l wl notf)(n:Nat):CE 56 b tv wv l wl (B0 l 0 n (B0 l 1 n notf)):=by
 have eZ{P}(h:P:=by have H:=Z (Ac hnot (Ac ho hk));clear hnot ho hk;go_enter func56,ntmps56;go_wp2_with fail;refine(Mn ((h.alloc _).alloc _) 0 Ad n 88 #[] #[.pointer (some ⟨w.heap.size,0,none⟩)] (B0 l 1 n notf) (wU _) (fun w1 j g hp hn=>vC H.out.1 n hp (B6 g H.out.2.2 Ag) hn) H.out.2.1).mono ?_;rintro e w1 ⟨g1,h1⟩;generalize hr:B0 l 0 n (B0 l 1 n notf) i=r at*;exact YC):=Aa h;exact Y3
theorem AaQ{powf:Nat→Res Ex}(hpow:CE 167 b tv wv l wl powf)(n:Nat){w:World}{i k:Nat}(h:Par w b tv wv l wl i)(hk:w.cell? ⟨k,0,none⟩=some (.pointer (some ⟨b,0,none⟩)))(ho:B0 l 4 n powf i ≠ .out):
 Calls Tryz.prog 166 #[.pointer (some ⟨k,0,none⟩)] w (PE b tv wv l wl w (B0 l 4 n powf i)):=by
 have cQ{P}(h:P:=by have H:=Z (Ac hpow ho);clear hpow ho;go_enter func166,ntmps166;go_wp2_with fail;refine(Mn (h.alloc _) 4 Ad n 167 #[.pointer (some ⟨b,0,none⟩)] #[] powf Aam (fun w1 j _ hp hn=>H.out.1 w1 j hp hn) H.out.2).mono ?_;rintro e w1 ⟨g1,h1⟩;generalize hr:B0 l 4 n powf i=r at*;exact YD):=Aa h;exact Ta
theorem Aaa{powf:Nat→Res Ex}(hpow:CE 167 b tv wv l wl powf)(n:Nat):CE 118 b tv wv l wl (B0 l 3 n (B0 l 4 n powf)):=by
 have eZ{P}(h:P:=by have H:=Z (Ac hpow (Ac ho hk));clear hpow ho hk;go_enter func118,ntmps118;go_wp2_with fail;refine(Mn ((h.alloc _).alloc _) 3 Ad n 166 #[] #[.pointer (some ⟨w.heap.size,0,none⟩)] (B0 l 4 n powf) (AaG _) (fun w1 j g hp hn=>AaQ H.out.1 n hp (B6 g H.out.2.2 Ag) hn) H.out.2.1).mono ?_;rintro e w1 ⟨g1,h1⟩;generalize hr:B0 l 3 n (B0 l 4 n powf) i=r at*;exact YC):=Aa h;exact Y3
end
end Go.Proofs.YtmcajbhljbbglaaGreatDoor
