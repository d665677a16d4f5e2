/-
  Contracts of the parser: binary, joined. Contracts of the parser: expr, not, sum, pow.
-/
import Derived.Test.YtgjdhajcnechdaaGreatDoorSv04
import Derived.Test.YtgjdhajcnechdaaGreatDoorSv05
import Derived.Deep.LoopGhost
set_option linter.all false
set_option maxRecDepth 100000
set_option maxHeartbeats 8000000
namespace Go.Proofs.YtgjdhajcnechdaaGreatDoor
open Go.Proofs.Tryz
open Go.RowKit
theorem VE.node{ok:Nat→Prop}{w:World}{op:Int}{s:Bs}{la:Option Addr}{lc:Nat}{f:Fo}(h:RepL ok w (.slice la f.len lc) f):VE ok w (exV (hd0 op s) (.slice none 0 0) (.slice la f.len lc)) ⟨hd0 op s,f⟩:=
 ⟨none,0,la,lc,rfl,Cells.nil w 1 ok,h⟩
theorem Cells.new'{w:World}{cs:List Value}{t:TypeId}{size n m:Nat}{ok:Nat→Prop}(hm:m=w.heap.size)(h:cs.length=n*size)(hn:n≤maxLen)(hok:ok m):
 Cells (w.alloc (.cells cs.toArray t (0,0))) (.slice (some ⟨m,0,none⟩) n n) size n cs ok:=by
 subst hm;refine⟨_,_,rfl,Nat.le_refl _,hn,h,fun j u hj=>⟨w.heap.size,0,rfl,hok,?_⟩⟩;rw[Nat.zero_add];exact(Blk.new w cs t).cell' j hj
theorem RepL.two{w:World}{n:Nat}{ok:Nat→Prop}{x y:Ex}{px lx py ly:Value}(hn:n=w.heap.size)(hok:ok n)(px':Cells w px 1 x.h.p.length (x.h.p.map str) ok)(lx':RepL ok w lx x.kids)(py':Cells w py 1 y.h.p.length (y.h.p.map str) ok)(ly':RepL ok w ly y.kids):
 RepL ok (w.alloc (.cells (hdC x.h px lx++hdC y.h py ly).toArray 27 (0,0))) (.slice (some ⟨n,0,none⟩) 2 2) (.two x y):=by
 have g:=World.grownBy_alloc w (.cells (hdC x.h px lx++hdC y.h py ly).toArray 27 (0,0)) none;exact⟨_,Cells.new' (size:=7) hn rfl (by decide) hok,((VE.rep px' lx').app (VE.rep py' ly')).gb g (by simp)⟩
theorem RepL.one{w:World}{n:Nat}{ok:Nat→Prop}{x:Ex}{px lx:Value}(hn:n=w.heap.size)(hok:ok n)(px':Cells w px 1 x.h.p.length (x.h.p.map str) ok)(lx':RepL ok w lx x.kids):
 RepL ok (w.alloc (.cells (hdC x.h px lx).toArray 27 (0,0))) (.slice (some ⟨n,0,none⟩) 1 1) (.one x):=by
 have g:=World.grownBy_alloc w (.cells (hdC x.h px lx).toArray 27 (0,0)) none;exact⟨_,Cells.new' (size:=7) hn rfl (by decide) hok,(VE.rep px' lx').gb g (by simp)⟩
theorem FG(s:Bs)(x y:Ex){xv yv:Value}(w:World)(ok:Nat→Prop)(hok:∀k,w.heap.size≤k→ok k)(hx:VE ok w xv x)(hy:VE ok w yv y):
 Calls Tryz.prog 160 #[str s,xv,yv] w fun e w'=>∃v,e= .returned v∧VE ok w' v (Aw s x y)∧w.grownBy w' none:=by
 obtain⟨pxa,pxc,lxa,lxc,rfl,hx,hx'⟩:=hx;obtain⟨pya,pyc,lya,lyc,rfl,hy,hy'⟩:=hy;have H:=O (Z hok (Z hx (Z hx' (Z hy hy'))));clear hok hx hx' hy hy';go_enter func160,ntmps160;go_wp2;obtain⟨hok,hx,hx',hy,hy'⟩:=H.out;refine bodyPost_ret (v:=exV (hd0 5 s) (.slice none 0 0) (.slice (some ⟨w.heap.size+1+1+1,0,none⟩) 2 2)) ?_ rfl ⟨_,rfl,VE.node (f:= .two x y) ?_,?_⟩
 ·simp[results,results160,go_sem,hd0]
 ·have g:∀a b c,w.grownBy (((w.alloc a).alloc b).alloc c) none:=fun a b c=>(by repeat(first| (with_reducible exact Ac _ _)| (with_reducible assumption)| (with_reducible exact AU (by assumption))| (with_reducible refine Ad ?_ _)| (with_reducible refine Am ?_)| (with_reducible refine A3 ?_ _)| ((with_reducible refine Ay ?_ _ _ ?h2);case h2=>first|exact .inl rfl|exact .inr (Nat.le_refl _)|exact .inr (by simp<;>omega))| (with_reducible refine Ah ?_ (by assumption))| (with_reducible refine Aa ?_ (by assumption))));exact RepL.two (by simp) (hok _ (by omega)) (hx.gb (g _ _ _) (by simp)) (hx'.gb (g _ _ _) (by simp)) (hy.gb (g _ _ _) (by simp)) (hy'.gb (g _ _ _) (by simp))
 ·exact (by repeat(first| (with_reducible exact Ac _ _)| (with_reducible assumption)| (with_reducible exact AU (by assumption))| (with_reducible refine Ad ?_ _)| (with_reducible refine Am ?_)| (with_reducible refine A3 ?_ _)| ((with_reducible refine Ay ?_ _ _ ?h2);case h2=>first|exact .inl rfl|exact .inr (Nat.le_refl _)|exact .inr (by simp<;>omega))| (with_reducible refine Ah ?_ (by assumption))| (with_reducible refine Aa ?_ (by assumption))))
abbrev PE(b:Nat)(tv wv:Value)(l:List Tok)(wl:List Bs)(w:World)(r:Res Ex):Ending→World→Prop:=Post b tv wv l wl w (VE (AA w.heap.size)) r
abbrev zeroE:List Value:=[.int .i64 0,str [],.int .i64 0,.int .i64 0,str [],.slice none 0 0,.slice none 0 0]
def JoinR(l:List Tok)(wl:List Bs)(k:Nat)(opnd:Nat→Res Ex)(b:Nat)(tv wv:Value)(w:World)(L:Nat)(r:Res Ex)(m:Nat)(s:Value)(wr:World):Prop:=
 ∃x pa pc la lc j,s=str (Av l k j)∧Par wr b tv wv l wl (Er (Av l k j) j)∧Blk wr L (hdC x.h (.slice pa x.h.p.length pc) (.slice la x.kids.len lc)) 27∧
  VE (fun g=>w.heap.size<g∧g≠L) wr (exV x.h (.slice pa x.h.p.length pc) (.slice la x.kids.len lc)) x∧BJ l k opnd m x j=r∧w.grownBy wr (some b)∧b<L∧w.heap.size<L∧Blk wr w.heap.size zeroE 27
theorem Fh{w:World}{b:Nat}{tv wv:Value}{l:List Tok}{wl:List Bs}{i:Nat}(h:Par w b tv wv l wl i)(k:Nat)(hk:k<6)(n g:Nat)(first captured:Array Value)(opnd:Nat→Res Ex)(hcf:∀w,(callFunc g (first++captured)).run Tryz.prog w= .ok (.enter g (first++captured)) w)
 (hop:∀w1 j,w.grownBy w1 (some b)→Par w1 b tv wv l wl j→opnd j ≠ .out→Calls Tryz.prog g (first++captured) w1 (PE b tv wv l wl w1 (opnd j)))
 (hn:AK l k n opnd i ≠ .out):
 Calls Tryz.prog 108 #[.pointer (some ⟨b,0,none⟩),.int .i64 k,.func (.func g) first captured] w (PE b tv wv l wl w (AK l k n opnd i)):=by
 have HOP:=O hop;have HN:=O hn;clear hop hn;go_enter func108,ntmps108;go_wp2_with fail;have g0:w.grownBy (w.alloc (Obj.cells #[Value.int IntKind.i64 0,Value.string {data:=#[]},Value.int IntKind.i64 0,Value.int IntKind.i64 0,Value.string {data:=#[]},Value.slice none 0 0,Value.slice none 0 0] 27)) (some b):=(by repeat(first| (with_reducible exact Ac _ _)| (with_reducible assumption)| (with_reducible exact AU (by assumption))| (with_reducible refine Ad ?_ _)| (with_reducible refine Am ?_)| (with_reducible refine A3 ?_ _)| ((with_reducible refine Ay ?_ _ _ ?h2);case h2=>first|exact .inl rfl|exact .inr (Nat.le_refl _)|exact .inr (by simp<;>omega))| (with_reducible refine Ah ?_ (by assumption))| (with_reducible refine Aa ?_ (by assumption))));have h0:=h.alloc (Obj.cells #[Value.int IntKind.i64 0,Value.string {data:=#[]},Value.int IntKind.i64 0,Value.int IntKind.i64 0,Value.string {data:=#[]},Value.slice none 0 0,Value.slice none 0 0] 27);refine(HOP.out _ _ g0 h0 ?_).mono ?_
 ·intro e;exact HN.out (by simp[AK,e,Res.bind])
 have HCF:=O hcf;clear hcf;rintro e w1 ⟨g1,h1⟩;cases ho:opnd i with
 |out=>rw[ho]at h1;exact h1.elim
 | bad q=>
   rw[ho]at h1;subst h1;exact⟨rfl,Post.bad (Aa g0 g1) (by simp[AK,ho,Res.bind])⟩
 | ok x j=>
   rw[ho]at h1;obtain⟨v,rfl,⟨pa,pc,la,lc,rfl,rp,rl⟩,h1⟩:=h1;have hR:AK l k n opnd i=BJ l k opnd n x j:=by simp[AK,ho,Res.bind]
   rw[hR]at HN;have HJ:=O hR;clear hR ho;have HV:=O (Z rp rl);clear rp rl;have gA:w.grownBy (w1.alloc (.cells (hdC x.h (.slice pa x.h.p.length pc) (.slice la x.kids.len lc)).toArray 27 (0,0))) (some b):=Ad (Aa g0 g1) _;have hA:Par (w1.alloc (.cells (hdC x.h (.slice pa x.h.p.length pc) (.slice la x.kids.len lc)).toArray 27 (0,0))) b tv wv l wl j:=h1.alloc _;have hB:Blk (w1.alloc (.cells (hdC x.h (.slice pa x.h.p.length pc) (.slice la x.kids.len lc)).toArray 27 (0,0))) w1.heap.size (hdC x.h (.slice pa x.h.p.length pc) (.slice la x.kids.len lc)) 27:=Blk.new w1 _ _;go_wp2_with fail;refine(EW hA k hk).mono ?_;rintro e w2 ⟨rfl,g2,h2⟩;have hb1:b<w1.heap.size:=h1.lt;go_wp2_with fail;go_loopg [8] n (fun m s wr=>JoinR l wl k opnd b tv wv w w1.heap.size (BJ l k opnd n x j) m s wr)
   case atStart=>
    obtain⟨rp,rl⟩:=HV.out;have g3:w1.grownBy w2 (some b):=Aa (Ad (Ac _ _) _) g2;refine⟨x,pa,pc,la,lc,j,rfl,h2,hB.gb g2 (by simp;omega),?_,rfl,Aa gA g2,hb1,?_,?_⟩
    ·refine VE.gb (VE.mono (ok:=AA _) ⟨_,_,_,_,rfl,rp,rl⟩ ?_) g3 ?_
     ·intro q hq1 hq2;have:=g0.size;simp at hq1;exact⟨by omega,by omega⟩
     ·intro q hq1 hq2 e;have:=h.lt;simp at e;omega
    ·have:=g1.size;simp at this;omega
    ·exact Blk.gb (Blk.gb (Blk.new w zeroE _) g1 (by have:=h.lt;simp;omega)) g3 (by have:=h.lt;simp;omega)
   case round=>
    obtain⟨y,ya,yc,ma,mc,j2,rfl,h3,hL,hV,hR,gr,hbL,hwL,hZ⟩:=hrel;rw[←HJ.out]at hR HN;cases gk with
    |zero=>exact absurd hR.symm HN.out
    |succ m=>
    have hb0:=h.lt;by_cases he:Av l k j2=[]
    ·rw[he,CH]at h3;have HR:=O (show AK l k n opnd i= .ok y j2 by rw[←hR];simp[BJ,he]);have HV2:=O hV;rw[he];clear hR hV HV he hA hB gA h1;obtain⟨cl_0,cl_1,cl_2,cl_3,cl_4,cl_5,cl_6,cl_f⟩:=(hL).c7;obtain⟨cz_0,cz_1,cz_2,cz_3,cz_4,cz_5,cz_6,cz_f⟩:=(hZ).c7;go_wp2;have g7:=Ag wr w.heap.size (.int .i64 y.h.op) (str y.h.s) (.int .i64 y.h.vk) (.int .i64 y.h.vn) (str y.h.vs) (.slice ya y.h.p.length yc) (.slice ma y.kids.len mc);refine bodyPost_ret (Ai rfl _ (hZ.set7 _ _ _ _ _ _ _) rfl) rfl ?_;refine Post.ok (Ar gr g7 (.inr (Nat.le_refl _))) HR.out (VE.mono (HV2.out.gb g7 ?_) ?_) (h3.gb g7 (by intro q e;cases e;omega))
     ·intro q hq _ e;simp at e;omega
     ·intro q hq _;simp;omega
    ·rw[CV he]at h3;have hR':(opnd (j2+1)).bind (fun z q=>BJ l k opnd m (Aw (Av l k j2) y z) q)=AK l k n opnd i:=by
      rw[←hR];simp[BJ,he]
     have HR:=O hR';have HV2:=O hV;have hs0:(Av l k j2==[])=false:=by simpa using he
     have hs1:(Av l k j2).isEmpty=false:=by simpa using he
     have HE:=O he;clear hR hR' hV HV hA hB gA h1 he;generalize hO:Av l k j2=o at*;have HO:=O hO;clear hO;obtain⟨cl_0,cl_1,cl_2,cl_3,cl_4,cl_5,cl_6,cl_f⟩:=(hL).c7;have hLb:=hL.lt;have hcf:=HCF.out;cases ho2:opnd (j2+1)with
     |out=>exact absurd (by rw[←HR.out,ho2];rfl) HN.out
     | bad q=>
       go_wp2_with fail;go_region_with(refine(HOP.out _ _ (Am gr) (h3.gbN (Am (Ac _ _))) (by rw[ho2];simp)).mono ?_;rintro e w4 ⟨g4,h4⟩;rw[ho2]at h4;subst h4;refine Fp (P:=Tryz.prog) ⟨rfl,Post.bad (Aa (Am gr) g4) (by rw[←HR.out,ho2];rfl)⟩ ⟨#[],[]⟩ w4 ?_);all_goals trivial
     | ok z q=>
       have hwr:=gr.size;go_wp2_with fail;go_region_with(first| ((with_reducible refine(HOP.out _ _ (Am gr) (h3.gbN (Am (Ac _ _))) (by rw[ho2];simp)).mono ?_);rintro e w4 ⟨g4,h4⟩;rw[ho2]at h4;obtain⟨v,rfl,hv,h4⟩:=h4;have hg4:=Aa (Am (Ac wr (some b))) g4;have hL4:=hL.gb hg4 (by simp;omega);obtain⟨dl_0,dl_1,dl_2,dl_3,dl_4,dl_5,dl_6,dl_f⟩:=(hL4).c7;have hok:∀q,w4.heap.size≤q→w.heap.size<q∧q≠w1.heap.size:=(fun q hq=>by have:=hL4.lt;exact⟨by omega,by omega⟩);have hy:VE (fun g=>w.heap.size<g∧g≠w1.heap.size) w4 _ y:=HV2.out.gb hg4 (fun q hq _ e=>by cases e;omega);have hz:VE (fun g=>w.heap.size<g∧g≠w1.heap.size) w4 v z:=hv.mono (fun q hq _=>⟨by have:wr.heap.size≤q:=hq;omega,by have:wr.heap.size≤q:=hq;omega⟩))| (go_at_call 160;refine(FG o y z _ _ hok hy hz).mono ?_;rintro e w5 ⟨u,rfl,hu,g5⟩;obtain⟨ua,uc,va,vc,rfl,ru,rv⟩:=hu;have hL5:=hL4.gb g5 (by simp);obtain⟨el_0,el_1,el_2,el_3,el_4,el_5,el_6,el_f⟩:=(hL5).c7));all_goals
        have g7:=Ag w5 w1.heap.size (.int .i64 (Aw o y z).h.op) (str (Aw o y z).h.s) (.int .i64 (Aw o y z).h.vk) (.int .i64 (Aw o y z).h.vn) (str (Aw o y z).h.vs) (.slice ua (Aw o y z).h.p.length uc) (.slice va (Aw o y z).kids.len vc);have hL7:=hL5.set7 (.int .i64 (Aw o y z).h.op) (str (Aw o y z).h.s) (.int .i64 (Aw o y z).h.vk) (.int .i64 (Aw o y z).h.vn) (str (Aw o y z).h.vs) (.slice ua (Aw o y z).h.p.length uc) (.slice va (Aw o y z).kids.len vc);have h7:=(h4.gbN g5).gb g7 (by intro q e;cases e;omega);have hV7:VE (fun g=>w.heap.size<g∧g≠w1.heap.size) _ _ (Aw o y z):=VE.gb ⟨_,_,_,_,rfl,ru,rv⟩ g7 (by intro q hq _ e;cases e;exact hq.2 rfl);have gW:=Ar (Ah (Aa (Am gr) g4) g5) g7 (.inr (by have:=g0.size;have:=g1.size;simp at*;omega));have hZ7:=Blk.gb (Blk.gb (hZ.gb hg4 (by simp;omega)) g5 (by simp)) g7 (by simp;omega);go_wp2_with fail;refine(EW h7 k hk).mono ?_;rintro e w6 ⟨rfl,g6,h6⟩;go_wp2_with fail;go_roundg m
        case measure=>omega
        case rel=>
         exact⟨Aw o y z,ua,uc,va,vc,q,rfl,h6,hL7.gb g6 (by simp;omega),hV7.gb g6 (by intro q hq _ e;cases e;omega),by rw[←HJ.out,←HR.out,ho2];rfl,Aa gW g6,hbL,hwL,hZ7.gb g6 (by simp;omega)⟩
def CE(f:FuncId)(b:Nat)(tv wv:Value)(l:List Tok)(wl:List Bs)(M:Nat→Res Ex):Prop:=
 ∀w i,Par w b tv wv l wl i→M i ≠ .out→Calls Tryz.prog f #[.pointer (some ⟨b,0,none⟩)] w (PE b tv wv l wl w (M i))
section
variable {b:Nat}{tv wv:Value}{l:List Tok}{wl:List Bs}
theorem RC(w:World):(callFunc 110 (#[.pointer (some ⟨b,0,none⟩)]++#[])).run Tryz.prog w= .ok (.enter 110 (#[.pointer (some ⟨b,0,none⟩)]++#[])) w:=by kernel_rfl
theorem RD(w:World):(callFunc 206 (#[.pointer (some ⟨b,0,none⟩)]++#[])).run Tryz.prog w= .ok (.enter 206 (#[.pointer (some ⟨b,0,none⟩)]++#[])) w:=by kernel_rfl
theorem PN(k:Nat)(w:World):(callFunc 109 (#[]++#[.pointer (some ⟨k,0,none⟩)])).run Tryz.prog w= .ok (.enter 109 (#[]++#[.pointer (some ⟨k,0,none⟩)])) w:=by kernel_rfl
theorem Rm(k:Nat)(w:World):(callFunc 205 (#[]++#[.pointer (some ⟨k,0,none⟩)])).run Tryz.prog w= .ok (.enter 205 (#[]++#[.pointer (some ⟨k,0,none⟩)])) w:=by kernel_rfl
theorem F1{w w0 w1:World}{r:Res Ex}{i:Nat}{x:Ex}(hb:b<w.heap.size)(g0:w.grownBy w0 (some b))(hr:r= .ok x i)(g1:w0.grownBy w1 (some b)){v:Value}(hv:VE (AA w0.heap.size) w1 v x)(hp:Par w1 b tv wv l wl i)
 {k:Nat} (hk:w.heap.size≤k) (hk2:k<w0.heap.size) {w2:World} (g2:w1.grownBy w2 (some k)):PE b tv wv l wl w r (.returned v) w2:=
 Post.ok (Ar (Aa g0 g1) g2 (.inr hk)) hr ((hv.gb g2 (by intro q hq _ e;have:w0.heap.size≤q:=hq;cases e;omega)).mono (by intro q hq _;have:w0.heap.size≤q:=hq;have:=g0.size;show w.heap.size≤q;omega)) (hp.gb g2 (by intro q' e;cases e;omega))
theorem Oh{notf:Nat→Res Ex}(hnot:CE 110 b tv wv l wl notf)(n:Nat){w:World}{i k:Nat}(h:Par w b tv wv l wl i)(hk:w.cell? ⟨k,0,none⟩=some (.pointer (some ⟨b,0,none⟩)))(ho:AK l 1 n notf i ≠ .out):
 Calls Tryz.prog 109 #[.pointer (some ⟨k,0,none⟩)] w (PE b tv wv l wl w (AK l 1 n notf i)):=by
 have hkl:=World.block_lt_of_cell? w _ hk;have hb:=h.lt;simp only at hkl;have g0:w.grownBy (w.alloc (.cells zeroE.toArray 27 (0,0))) (some b):=Ad (Ac _ _) _;have hB:=Blk.new w zeroE 27;have H:=O (Z hnot ho);clear hnot ho;go_enter func109,ntmps109;go_wp2_with fail;refine(Fh (h.alloc _) 1 (by decide) n 110 #[.pointer (some ⟨b,0,none⟩)] #[] notf RC (fun w1 j _ hp hn=>H.out.1 w1 j hp hn) H.out.2).mono ?_;rintro e w1 ⟨g1,h1⟩;generalize hr:AK l 1 n notf i=r at*;cases r with
 |out=>exact h1.elim
 | bad q=>
   subst h1;exact⟨rfl,Post.bad (Aa g0 g1) rfl⟩
 | ok x j=>
   obtain⟨v,rfl,hv,h1⟩:=h1;have HV:=O hv;obtain⟨pa,pc,la,lc,rfl,-,-⟩:=hv;have hZ:=(hB).gb g1 (by simp;omega);obtain⟨cz_0,cz_1,cz_2,cz_3,cz_4,cz_5,cz_6,cz_f⟩:=(hZ).c7;have HR:=O hr;clear hr;go_wp2;have g7:=Ag w1 w.heap.size (.int .i64 x.h.op) (str x.h.s) (.int .i64 x.h.vk) (.int .i64 x.h.vn) (str x.h.vs) (.slice pa x.h.p.length pc) (.slice la x.kids.len lc);exact bodyPost_ret (Ai rfl _ (hZ.set7 _ _ _ _ _ _ _) rfl) rfl (F1 h.lt g0 rfl g1 HV.out h1 (by simp) (by simp) g7)
theorem PY{notf:Nat→Res Ex}(hnot:CE 110 b tv wv l wl notf)(n:Nat):CE 67 b tv wv l wl (AK l 0 n (AK l 1 n notf)):=by
 intro w i h ho;have hb:=h.lt;have g0:w.grownBy ((w.alloc (.cells #[.pointer (some ⟨b,0,none⟩)] 110 (0,0))).alloc (.cells zeroE.toArray 27 (0,0))) (some b):=Ad (Ad (Ac _ _) _) _;have hB:=Blk.new (w.alloc (.cells #[.pointer (some ⟨b,0,none⟩)] 110 (0,0))) zeroE 27;have hk:((w.alloc (.cells #[.pointer (some ⟨b,0,none⟩)] 110 (0,0))).alloc (.cells zeroE.toArray 27 (0,0))).cell? ⟨w.heap.size,0,none⟩=some (.pointer (some ⟨b,0,none⟩)):=by simp
 rw[World.size_alloc]at hB;have H:=O (Z hnot (Z ho hk));clear hnot ho hk;go_enter func67,ntmps67;go_wp2_with fail;refine(Fh ((h.alloc _).alloc _) 0 (by decide) n 109 #[] #[.pointer (some ⟨w.heap.size,0,none⟩)] (AK l 1 n notf) (PN _) (fun w1 j g hp hn=>Oh H.out.1 n hp (Bu g H.out.2.2 (by simp;omega)) hn) H.out.2.1).mono ?_;rintro e w1 ⟨g1,h1⟩;generalize hr:AK l 0 n (AK l 1 n notf) i=r at*;cases r with
 |out=>exact h1.elim
 | bad q=>
   subst h1;exact⟨rfl,Post.bad (Aa g0 g1) rfl⟩
 | ok x j=>
   obtain⟨v,rfl,hv,h1⟩:=h1;have HV:=O hv;obtain⟨pa,pc,la,lc,rfl,-,-⟩:=hv;have hZ:=(hB).gb g1 (by simp;omega);obtain⟨cz_0,cz_1,cz_2,cz_3,cz_4,cz_5,cz_6,cz_f⟩:=(hZ).c7;have HR:=O hr;clear hr;go_wp2;have g7:=Ag w1 (w.heap.size+1) (.int .i64 x.h.op) (str x.h.s) (.int .i64 x.h.vk) (.int .i64 x.h.vn) (str x.h.vs) (.slice pa x.h.p.length pc) (.slice la x.kids.len lc);exact bodyPost_ret (Ai rfl _ (hZ.set7 _ _ _ _ _ _ _) rfl) rfl (F1 h.lt g0 rfl g1 HV.out h1 (by simp) (by simp) g7)
theorem QD{powf:Nat→Res Ex}(hpow:CE 206 b tv wv l wl powf)(n:Nat){w:World}{i k:Nat}(h:Par w b tv wv l wl i)(hk:w.cell? ⟨k,0,none⟩=some (.pointer (some ⟨b,0,none⟩)))(ho:AK l 4 n powf i ≠ .out):
 Calls Tryz.prog 205 #[.pointer (some ⟨k,0,none⟩)] w (PE b tv wv l wl w (AK l 4 n powf i)):=by
 have hkl:=World.block_lt_of_cell? w _ hk;have hb:=h.lt;simp only at hkl;have g0:w.grownBy (w.alloc (.cells zeroE.toArray 27 (0,0))) (some b):=Ad (Ac _ _) _;have hB:=Blk.new w zeroE 27;have H:=O (Z hpow ho);clear hpow ho;go_enter func205,ntmps205;go_wp2_with fail;refine(Fh (h.alloc _) 4 (by decide) n 206 #[.pointer (some ⟨b,0,none⟩)] #[] powf RD (fun w1 j _ hp hn=>H.out.1 w1 j hp hn) H.out.2).mono ?_;rintro e w1 ⟨g1,h1⟩;generalize hr:AK l 4 n powf i=r at*;cases r with
 |out=>exact h1.elim
 | bad q=>
   subst h1;exact⟨rfl,Post.bad (Aa g0 g1) rfl⟩
 | ok x j=>
   obtain⟨v,rfl,hv,h1⟩:=h1;have HV:=O hv;obtain⟨pa,pc,la,lc,rfl,-,-⟩:=hv;have hZ:=(hB).gb g1 (by simp;omega);obtain⟨cz_0,cz_1,cz_2,cz_3,cz_4,cz_5,cz_6,cz_f⟩:=(hZ).c7;have HR:=O hr;clear hr;go_wp2;have g7:=Ag w1 w.heap.size (.int .i64 x.h.op) (str x.h.s) (.int .i64 x.h.vk) (.int .i64 x.h.vn) (str x.h.vs) (.slice pa x.h.p.length pc) (.slice la x.kids.len lc);exact bodyPost_ret (Ai rfl _ (hZ.set7 _ _ _ _ _ _ _) rfl) rfl (F1 h.lt g0 rfl g1 HV.out h1 (by simp) (by simp) g7)
theorem QU{powf:Nat→Res Ex}(hpow:CE 206 b tv wv l wl powf)(n:Nat):CE 162 b tv wv l wl (AK l 3 n (AK l 4 n powf)):=by
 intro w i h ho;have hb:=h.lt;have g0:w.grownBy ((w.alloc (.cells #[.pointer (some ⟨b,0,none⟩)] 110 (0,0))).alloc (.cells zeroE.toArray 27 (0,0))) (some b):=Ad (Ad (Ac _ _) _) _;have hB:=Blk.new (w.alloc (.cells #[.pointer (some ⟨b,0,none⟩)] 110 (0,0))) zeroE 27;have hk:((w.alloc (.cells #[.pointer (some ⟨b,0,none⟩)] 110 (0,0))).alloc (.cells zeroE.toArray 27 (0,0))).cell? ⟨w.heap.size,0,none⟩=some (.pointer (some ⟨b,0,none⟩)):=by simp
 rw[World.size_alloc]at hB;have H:=O (Z hpow (Z ho hk));clear hpow ho hk;go_enter func162,ntmps162;go_wp2_with fail;refine(Fh ((h.alloc _).alloc _) 3 (by decide) n 205 #[] #[.pointer (some ⟨w.heap.size,0,none⟩)] (AK l 4 n powf) (Rm _) (fun w1 j g hp hn=>QD H.out.1 n hp (Bu g H.out.2.2 (by simp;omega)) hn) H.out.2.1).mono ?_;rintro e w1 ⟨g1,h1⟩;generalize hr:AK l 3 n (AK l 4 n powf) i=r at*;cases r with
 |out=>exact h1.elim
 | bad q=>
   subst h1;exact⟨rfl,Post.bad (Aa g0 g1) rfl⟩
 | ok x j=>
   obtain⟨v,rfl,hv,h1⟩:=h1;have HV:=O hv;obtain⟨pa,pc,la,lc,rfl,-,-⟩:=hv;have hZ:=(hB).gb g1 (by simp;omega);obtain⟨cz_0,cz_1,cz_2,cz_3,cz_4,cz_5,cz_6,cz_f⟩:=(hZ).c7;have HR:=O hr;clear hr;go_wp2;have g7:=Ag w1 (w.heap.size+1) (.int .i64 x.h.op) (str x.h.s) (.int .i64 x.h.vk) (.int .i64 x.h.vn) (str x.h.vs) (.slice pa x.h.p.length pc) (.slice la x.kids.len lc);exact bodyPost_ret (Ai rfl _ (hZ.set7 _ _ _ _ _ _ _) rfl) rfl (F1 h.lt g0 rfl g1 HV.out h1 (by simp) (by simp) g7)
end
end Go.Proofs.YtgjdhajcnechdaaGreatDoor
