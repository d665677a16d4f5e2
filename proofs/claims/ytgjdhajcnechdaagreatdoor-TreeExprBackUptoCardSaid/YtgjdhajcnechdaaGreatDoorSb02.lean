/-
  How expressions lie in memory: a row of expressions is a slice of seven cells each; their names and operands lie in blocks that 'ok' lets by. Contracts of the parser: binary, joined. Contracts of the 
-/
import Derived.Test.YtgjdhajcnechdaaGreatDoorSb01
import Derived.Test.YtgjdhajcnechdaaGreatDoorProg
import Derived.KernelRfl
import Derived.Deep.LoopGhost
set_option linter.all false
set_option maxRecDepth 100000
set_option maxHeartbeats 8000000
namespace Go.Proofs.YtgjdhajcnechdaaGreatDoor
open Go.Proofs.Tryz
open Go.RowKit
def Cells(w:World)(v:Value)(size n:Nat)(cs:List Value)(ok:Nat→Prop):Prop:=
 ∃a cap,v= .slice a n cap∧n≤cap∧cap≤maxLen∧cs.length=n*size∧∀j u,cs[j]? =some u→∃g o,a=some ⟨g,o,none⟩∧ok g∧w.cell? ⟨g,o+j,none⟩=some u
def hdC(h:Hd)(pv lv:Value):List Value:=[.int .i64 h.op,str h.s,.int .i64 h.vk,.int .i64 h.vn,str h.vs,pv,lv]
abbrev exV(h:Hd)(pv lv:Value):Value:= .agg #[.int .i64 h.op,str h.s,.int .i64 h.vk,.int .i64 h.vn,str h.vs,pv,lv]
def RepF(ok:Nat→Prop)(w:World):Fo→List Value→Prop
 | .nil,cs=>cs=[]
 | .cons h kids next,cs=>∃pv lv kcs rest,cs=hdC h pv lv++rest∧Cells w pv 1 h.p.length (h.p.map str) ok∧Cells w lv 7 kids.len kcs ok∧RepF ok w kids kcs∧RepF ok w next rest
def RepL(ok:Nat→Prop)(w:World)(v:Value)(f:Fo):Prop:=∃cs,Cells w v 7 f.len cs ok∧RepF ok w f cs
def VE(ok:Nat→Prop)(w:World)(v:Value)(x:Ex):Prop:=∃pa pc la lc,v=exV x.h (.slice pa x.h.p.length pc) (.slice la x.kids.len lc)∧Cells w (.slice pa x.h.p.length pc) 1 x.h.p.length (x.h.p.map str) ok∧RepL ok w (.slice la x.kids.len lc) x.kids
theorem Cells.gb{w w1:World}{v:Value}{size n:Nat}{cs:List Value}{ok:Nat→Prop}{r:Option Nat}(h:Cells w v size n cs ok)(g:w.grownBy w1 r)(hk:∀k,ok k→k<w.heap.size→some k≠r):Cells w1 v size n cs ok:=by
 obtain⟨a,cap,e,h1,h2,h3,h4⟩:=h;refine⟨a,cap,e,h1,h2,h3,fun j u hj=>?_⟩;obtain⟨gg,o,ea,ho,hc⟩:=h4 j u hj;exact⟨gg,o,ea,ho,Bw g hc (hk _ ho (World.block_lt_of_cell? w _ hc))⟩
theorem Cells.mono{w:World}{v:Value}{size n:Nat}{cs:List Value}{ok ok':Nat→Prop}(h:Cells w v size n cs ok)(hk:∀k,ok k→k<w.heap.size→ok' k):Cells w v size n cs ok':=by
 obtain⟨a,cap,e,h1,h2,h3,h4⟩:=h;refine⟨a,cap,e,h1,h2,h3,fun j u hj=>?_⟩;obtain⟨gg,o,ea,ho,hc⟩:=h4 j u hj;exact⟨gg,o,ea,hk _ ho (World.block_lt_of_cell? w _ hc),hc⟩
theorem Cells.nil(w:World)(size:Nat)(ok:Nat→Prop):Cells w (.slice none 0 0) size 0 [] ok:=⟨none,0,rfl,Nat.le_refl _,Nat.zero_le _,by simp,fun j u h=>by simp at h⟩
theorem RepF.gb{w w1:World}{ok:Nat→Prop}{r:Option Nat}(g:w.grownBy w1 r)(hk:∀k,ok k→k<w.heap.size→some k≠r):∀{f:Fo}{cs:List Value},RepF ok w f cs→RepF ok w1 f cs:=by
 intro f;induction f with
 |nil=>intro cs h;exact h
 | cons hd kids next ih1 ih2=>
   rintro cs ⟨pv,lv,kcs,rest,e,h1,h2,h3,h4⟩;exact⟨pv,lv,kcs,rest,e,h1.gb g hk,h2.gb g hk,ih1 h3,ih2 h4⟩
theorem RepF.mono{w:World}{ok ok':Nat→Prop}(hk:∀k,ok k→k<w.heap.size→ok' k):∀{f:Fo}{cs:List Value},RepF ok w f cs→RepF ok' w f cs:=by
 intro f;induction f with
 |nil=>intro cs h;exact h
 | cons hd kids next ih1 ih2=>
   rintro cs ⟨pv,lv,kcs,rest,e,h1,h2,h3,h4⟩;exact⟨pv,lv,kcs,rest,e,h1.mono hk,h2.mono hk,ih1 h3,ih2 h4⟩
theorem RepL.gb{w w1:World}{v:Value}{ok:Nat→Prop}{r:Option Nat}{f:Fo}(h:RepL ok w v f)(g:w.grownBy w1 r)(hk:∀k,ok k→k<w.heap.size→some k≠r):RepL ok w1 v f:=by
 obtain⟨cs,h1,h2⟩:=h;exact⟨cs,h1.gb g hk,h2.gb g hk⟩
theorem RepL.mono{w:World}{v:Value}{ok ok':Nat→Prop}{f:Fo}(h:RepL ok w v f)(hk:∀k,ok k→k<w.heap.size→ok' k):RepL ok' w v f:=by
 obtain⟨cs,h1,h2⟩:=h;exact⟨cs,h1.mono hk,h2.mono hk⟩
theorem RepL.nil(w:World)(ok:Nat→Prop):RepL ok w (.slice none 0 0) .nil:=⟨[],Cells.nil w 7 ok,rfl⟩
theorem VE.gb{w w1:World}{v:Value}{ok:Nat→Prop}{r:Option Nat}{x:Ex}(h:VE ok w v x)(g:w.grownBy w1 r)(hk:∀k,ok k→k<w.heap.size→some k≠r):VE ok w1 v x:=by
 obtain⟨pa,pc,la,lc,e,h1,h2⟩:=h;exact⟨pa,pc,la,lc,e,h1.gb g hk,h2.gb g hk⟩
theorem VE.mono{w:World}{v:Value}{ok ok':Nat→Prop}{x:Ex}(h:VE ok w v x)(hk:∀k,ok k→k<w.heap.size→ok' k):VE ok' w v x:=by
 obtain⟨pa,pc,la,lc,e,h1,h2⟩:=h;exact⟨pa,pc,la,lc,e,h1.mono hk,h2.mono hk⟩
theorem RepF.app{ok:Nat→Prop}{w:World}:∀{f g:Fo}{cs ds:List Value},RepF ok w f cs→RepF ok w g ds→RepF ok w (f.app g) (cs++ds):=by
 intro f;induction f with
 |nil=>intro g cs ds h k;subst h;exact k
 | cons hd kids next ih1 ih2=>
   rintro g cs ds ⟨pv,lv,kcs,rest,rfl,h1,h2,h3,h4⟩ k;exact⟨pv,lv,kcs,rest++ds,by simp,h1,h2,h3,ih2 h4 k⟩
theorem VE.rep{ok:Nat→Prop}{w:World}{pv lv:Value}{x:Ex}(h1:Cells w pv 1 x.h.p.length (x.h.p.map str) ok)(h2:RepL ok w lv x.kids):RepF ok w (.one x) (hdC x.h pv lv):=by
 obtain⟨cs,h3,h4⟩:=h2;exact⟨pv,lv,cs,[],by simp,h1,h3,h4,rfl⟩
abbrev AD(B:Nat):Nat→Prop:=fun g=>B≤g
def OwnF(w:World)(B:Nat)(v:Value)(f:Fo):Prop:=∃cs,w.ownsRow B 27 7 v f.len cs∧RepF (fun g=>B≤g∧v.ownBlock≠some g) w f cs
theorem Dc{w w1:World}{B e size n:Nat}{v:Value}{xs:List Value}{r:Option Nat}(h:w.ownsRow B e size v n xs)(g:w.grownBy w1 r)(hk:∀k,B≤k→k<w.heap.size→some k≠r):w1.ownsRow B e size v n xs:=by
 refine h.kept g ?_;cases hv:v.ownBlock with
 |none=>exact .inl rfl
 |some k=>exact .inr (hk k (h.lt k hv).1 (h.lt k hv).2)
theorem OwnF.gb{w w1:World}{B:Nat}{v:Value}{f:Fo}{r:Option Nat}(h:OwnF w B v f)(g:w.grownBy w1 r)(hk:∀k,B≤k→k<w.heap.size→some k≠r):OwnF w1 B v f:=by
 obtain⟨cs,h1,h2⟩:=h;exact⟨cs,Dc h1 g hk,h2.gb g fun k hk1 hk2=>hk k hk1.1 hk2⟩
theorem Dw{w:World}{B e size n:Nat}{v:Value}{xs:List Value}(h:w.ownsRow B e size v n xs):Cells w v size n xs (AD B):=by
 rcases h.2 with⟨rfl,rfl⟩| ⟨g,cap,cur,rfl,hb,hg,hnc,hcm,hcs,htake⟩
 ·exact ⟨none, 0, rfl, Nat.le_refl _, Nat.zero_le _, h.1, fun j u hj => by
   have:xs=[]:=List.eq_nil_of_length_eq_zero (by simpa using h.1);subst this;simp at hj⟩
 ·refine⟨_,_,rfl,hnc,hcm,h.1,fun j u hj=>⟨g,0,rfl,hb,?_⟩⟩;have:=h.cells (g:=g) rfl j u hj;rw[Nat.zero_add];unfold Addr.add at this;split at this
  ·rename_i h0;subst h0;exact this
  ·simpa using this
theorem OwnF.rep{w:World}{B:Nat}{v:Value}{f:Fo}(h:OwnF w B v f):RepL (AD B) w v f:=by
 obtain⟨cs,h1,h2⟩:=h;exact⟨cs,Dw h1,h2.mono fun k hk _=>hk.1⟩
abbrev set7(w:World)(k:Nat)(v0 v1 v2 v3 v4 v5 v6:Value):World:=
 ((((((w.setCell ⟨k,0,none⟩ v0).setCell ⟨k,1,none⟩ v1).setCell ⟨k,2,none⟩ v2).setCell ⟨k,3,none⟩ v3).setCell ⟨k,4,none⟩ v4).setCell ⟨k,5,none⟩ v5).setCell ⟨k,6,none⟩ v6
theorem Blk.set7{w:World}{k:Nat}{a0 a1 a2 a3 a4 a5 a6:Value}{t:TypeId}(h:Blk w k [a0,a1,a2,a3,a4,a5,a6] t)(v0 v1 v2 v3 v4 v5 v6:Value):Blk (set7 w k v0 v1 v2 v3 v4 v5 v6) k [v0,v1,v2,v3,v4,v5,v6] t:=
 (((((((h.set 0 v0).set 1 v1).set 2 v2).set 3 v3).set 4 v4).set 5 v5).set 6 v6).of_eq rfl rfl
theorem BD{w w1:World}{k:Nat}(h:w.grownBy w1 (some k))(i:Nat)(v:Value):w.grownBy (w1.setCell ⟨k,i,none⟩ v) (some k):=Ax h ⟨k,i,none⟩ v (.inl rfl)
theorem Av(w:World)(k:Nat)(v0 v1 v2 v3 v4 v5 v6:Value):w.grownBy (set7 w k v0 v1 v2 v3 v4 v5 v6) (some k):=by
 have h0:=BD (Ac w (some k)) 0 v0;have h1:=BD h0 1 v1;have h2:=BD h1 2 v2;have h3:=BD h2 3 v3;have h4:=BD h3 4 v4;have h5:=BD h4 5 v5;exact BD h5 6 v6
theorem Kf:(match(Tryz.prog.underlying 27)with|some (.struct _)=>true|_=>false)=true:=by kernel_rfl
theorem A3{fn:Func}{p:Tmp}(h:fn.results=#[.cell p 27])(tmps:Array Value){w:World}{k:Nat}{hd:Hd}{pv lv:Value}(hb:Blk w k (hdC hd pv lv) 27)(hp:tmps.getD p undef= .pointer (some ⟨k,0,none⟩)):
 (results fn tmps).run Tryz.prog w= .ok (exV hd pv lv) w:=by
 have hs:=Kf;cases hu:Tryz.prog.underlying 27 with
 |none=>rw[hu]at hs;cases hs
 | some d=>
   rw[hu]at hs;exact results_cell_row h tmps w k 27 (hdC hd pv lv).toArray (0,0) d hp hb hu (by cases d<;>simp_all) (by show(Tryz.prog.info? 27).map (·.size)=some 7;kernel_rfl)
theorem VE.node{ok:Nat→Prop}{w:World}{op:Int}{s:Bs}{la:Option Addr}{lc:Nat}{f:Fo}(h:RepL ok w (.slice la f.len lc) f):VE ok w (exV (hd0 op s) (.slice none 0 0) (.slice la f.len lc)) ⟨hd0 op s,f⟩:=
 ⟨none,0,la,lc,rfl,Cells.nil w 1 ok,h⟩
theorem Cells.new'{w:World}{cs:List Value}{t:TypeId}{size n m:Nat}{ok:Nat→Prop}(hm:m=w.heap.size)(h:cs.length=n*size)(hn:n≤maxLen)(hok:ok m):
 Cells (w.alloc (.cells cs.toArray t (0,0))) (.slice (some ⟨m,0,none⟩) n n) size n cs ok:=by
 subst hm;refine⟨_,_,rfl,Nat.le_refl _,hn,h,fun j u hj=>⟨w.heap.size,0,rfl,hok,?_⟩⟩;rw[Nat.zero_add];exact(Blk.new w cs t).cell' j hj
theorem RepL.two{w:World}{n:Nat}{ok:Nat→Prop}{x y:Ex}{px lx py ly:Value}(hn:n=w.heap.size)(hok:ok n)(px':Cells w px 1 x.h.p.length (x.h.p.map str) ok)(lx':RepL ok w lx x.kids)(py':Cells w py 1 y.h.p.length (y.h.p.map str) ok)(ly':RepL ok w ly y.kids):
 RepL ok (w.alloc (.cells (hdC x.h px lx++hdC y.h py ly).toArray 27 (0,0))) (.slice (some ⟨n,0,none⟩) 2 2) (.two x y):=by
 have g:=World.grownBy_alloc w (.cells (hdC x.h px lx++hdC y.h py ly).toArray 27 (0,0)) none;exact⟨_,Cells.new' (size:=7) hn rfl (by decide) hok,((VE.rep px' lx').app (VE.rep py' ly')).gb g (by simp)⟩
theorem RepL.one{w:World}{n:Nat}{ok:Nat→Prop}{x:Ex}{px lx:Value}(hn:n=w.heap.size)(hok:ok n)(px':Cells w px 1 x.h.p.length (x.h.p.map str) ok)(lx':RepL ok w lx x.kids):
 RepL ok (w.alloc (.cells (hdC x.h px lx).toArray 27 (0,0))) (.slice (some ⟨n,0,none⟩) 1 1) (.one x):=by
 have g:=World.grownBy_alloc w (.cells (hdC x.h px lx).toArray 27 (0,0)) none;exact⟨_,Cells.new' (size:=7) hn rfl (by decide) hok,(VE.rep px' lx').gb g (by simp)⟩
theorem Eh(s:Bs)(x y:Ex){xv yv:Value}(w:World)(ok:Nat→Prop)(hok:∀k,w.heap.size≤k→ok k)(hx:VE ok w xv x)(hy:VE ok w yv y):
 Calls Tryz.prog 160 #[str s,xv,yv] w fun e w'=>∃v,e= .returned v∧VE ok w' v (AK s x y)∧w.grownBy w' none:=by
 obtain⟨pxa,pxc,lxa,lxc,rfl,hx,hx'⟩:=hx;obtain⟨pya,pyc,lya,lyc,rfl,hy,hy'⟩:=hy;have H:=I (X hok (X hx (X hx' (X hy hy'))));clear hok hx hx' hy hy';go_enter func160,ntmps160;go_wp2;obtain⟨hok,hx,hx',hy,hy'⟩:=H.out;refine bodyPost_ret (v:=exV (hd0 5 s) (.slice none 0 0) (.slice (some ⟨w.heap.size+1+1+1,0,none⟩) 2 2)) ?_ rfl ⟨_,rfl,VE.node (f:= .two x y) ?_,?_⟩
 ·simp[results,results160,go_sem,hd0]
 ·have g:∀a b c,w.grownBy (((w.alloc a).alloc b).alloc c) none:=fun a b c=>(by repeat(first| (with_reducible exact Ac _ _)| (with_reducible assumption)| (with_reducible exact AW (by assumption))| (with_reducible refine Aa ?_ _)| (with_reducible refine Aj ?_)| (with_reducible refine AH ?_ _)| ((with_reducible refine Ax ?_ _ _ ?h2);case h2=>first|exact .inl rfl|exact .inr (Nat.le_refl _)|exact .inr (by simp<;>omega))| (with_reducible refine Ae ?_ (by assumption))| (with_reducible refine O ?_ (by assumption))));exact RepL.two (by simp) (hok _ (by omega)) (hx.gb (g _ _ _) (by simp)) (hx'.gb (g _ _ _) (by simp)) (hy.gb (g _ _ _) (by simp)) (hy'.gb (g _ _ _) (by simp))
 ·exact (by repeat(first| (with_reducible exact Ac _ _)| (with_reducible assumption)| (with_reducible exact AW (by assumption))| (with_reducible refine Aa ?_ _)| (with_reducible refine Aj ?_)| (with_reducible refine AH ?_ _)| ((with_reducible refine Ax ?_ _ _ ?h2);case h2=>first|exact .inl rfl|exact .inr (Nat.le_refl _)|exact .inr (by simp<;>omega))| (with_reducible refine Ae ?_ (by assumption))| (with_reducible refine O ?_ (by assumption))))
abbrev PE(b:Nat)(tv wv:Value)(l:List Tok)(wl:List Bs)(w:World)(r:Res Ex):Ending→World→Prop:=Post b tv wv l wl w (VE (AD w.heap.size)) r
abbrev zeroE:List Value:=[.int .i64 0,str [],.int .i64 0,.int .i64 0,str [],.slice none 0 0,.slice none 0 0]
def JoinR(l:List Tok)(wl:List Bs)(k:Nat)(opnd:Nat→Res Ex)(b:Nat)(tv wv:Value)(w:World)(L:Nat)(r:Res Ex)(m:Nat)(s:Value)(wr:World):Prop:=
 ∃x pa pc la lc j,s=str (As l k j)∧Par wr b tv wv l wl (D6 (As l k j) j)∧Blk wr L (hdC x.h (.slice pa x.h.p.length pc) (.slice la x.kids.len lc)) 27∧
  VE (fun g=>w.heap.size<g∧g≠L) wr (exV x.h (.slice pa x.h.p.length pc) (.slice la x.kids.len lc)) x∧joinLoop l k opnd m x j=r∧w.grownBy wr (some b)∧b<L∧w.heap.size<L∧Blk wr w.heap.size zeroE 27
theorem DF{w:World}{b:Nat}{tv wv:Value}{l:List Tok}{wl:List Bs}{i:Nat}(h:Par w b tv wv l wl i)(k:Nat)(hk:k<6)(n g:Nat)(first captured:Array Value)(opnd:Nat→Res Ex)(hcf:∀w,(callFunc g (first++captured)).run Tryz.prog w= .ok (.enter g (first++captured)) w)
 (hop:∀w1 j,w.grownBy w1 (some b)→Par w1 b tv wv l wl j→opnd j ≠ .out→Calls Tryz.prog g (first++captured) w1 (PE b tv wv l wl w1 (opnd j)))
 (hn:A0 l k n opnd i ≠ .out):
 Calls Tryz.prog 108 #[.pointer (some ⟨b,0,none⟩),.int .i64 k,.func (.func g) first captured] w (PE b tv wv l wl w (A0 l k n opnd i)):=by
 have HOP:=I hop;have HN:=I hn;clear hop hn;go_enter func108,ntmps108;go_wp2_with fail;have g0:w.grownBy (w.alloc (Obj.cells #[Value.int IntKind.i64 0,Value.string {data:=#[]},Value.int IntKind.i64 0,Value.int IntKind.i64 0,Value.string {data:=#[]},Value.slice none 0 0,Value.slice none 0 0] 27)) (some b):=(by repeat(first| (with_reducible exact Ac _ _)| (with_reducible assumption)| (with_reducible exact AW (by assumption))| (with_reducible refine Aa ?_ _)| (with_reducible refine Aj ?_)| (with_reducible refine AH ?_ _)| ((with_reducible refine Ax ?_ _ _ ?h2);case h2=>first|exact .inl rfl|exact .inr (Nat.le_refl _)|exact .inr (by simp<;>omega))| (with_reducible refine Ae ?_ (by assumption))| (with_reducible refine O ?_ (by assumption))));have h0:=h.alloc (Obj.cells #[Value.int IntKind.i64 0,Value.string {data:=#[]},Value.int IntKind.i64 0,Value.int IntKind.i64 0,Value.string {data:=#[]},Value.slice none 0 0,Value.slice none 0 0] 27);refine(HOP.out _ _ g0 h0 ?_).mono ?_
 ·intro e;exact HN.out (by simp[A0,e,Res.bind])
 have HCF:=I hcf;clear hcf;rintro e w1 ⟨g1,h1⟩;cases ho:opnd i with
 |out=>rw[ho]at h1;exact h1.elim
 | bad q=>
   rw[ho]at h1;subst h1;exact⟨rfl,Post.bad (O g0 g1) (by simp[A0,ho,Res.bind])⟩
 | ok x j=>
   rw[ho]at h1;obtain⟨v,rfl,⟨pa,pc,la,lc,rfl,rp,rl⟩,h1⟩:=h1;have hR:A0 l k n opnd i=joinLoop l k opnd n x j:=by simp[A0,ho,Res.bind]
   rw[hR]at HN;have HJ:=I hR;clear hR ho;have HV:=I (X rp rl);clear rp rl;have gA:w.grownBy (w1.alloc (.cells (hdC x.h (.slice pa x.h.p.length pc) (.slice la x.kids.len lc)).toArray 27 (0,0))) (some b):=Aa (O g0 g1) _;have hA:Par (w1.alloc (.cells (hdC x.h (.slice pa x.h.p.length pc) (.slice la x.kids.len lc)).toArray 27 (0,0))) b tv wv l wl j:=h1.alloc _;have hB:Blk (w1.alloc (.cells (hdC x.h (.slice pa x.h.p.length pc) (.slice la x.kids.len lc)).toArray 27 (0,0))) w1.heap.size (hdC x.h (.slice pa x.h.p.length pc) (.slice la x.kids.len lc)) 27:=Blk.new w1 _ _;go_wp2_with fail;refine(DN hA k hk).mono ?_;rintro e w2 ⟨rfl,g2,h2⟩;have hb1:b<w1.heap.size:=h1.lt;go_wp2_with fail;go_loopg [8] n (fun m s wr=>JoinR l wl k opnd b tv wv w w1.heap.size (joinLoop l k opnd n x j) m s wr)
   case atStart=>
    obtain⟨rp,rl⟩:=HV.out;have g3:w1.grownBy w2 (some b):=O (Aa (Ac _ _) _) g2;refine⟨x,pa,pc,la,lc,j,rfl,h2,hB.gb g2 (by simp;omega),?_,rfl,O gA g2,hb1,?_,?_⟩
    ·refine VE.gb (VE.mono (ok:=AD _) ⟨_,_,_,_,rfl,rp,rl⟩ ?_) g3 ?_
     ·intro q hq1 hq2;have:=g0.size;simp at hq1;exact⟨by omega,by omega⟩
     ·intro q hq1 hq2 e;have:=h.lt;simp at e;omega
    ·have:=g1.size;simp at this;omega
    ·exact Blk.gb (Blk.gb (Blk.new w zeroE _) g1 (by have:=h.lt;simp;omega)) g3 (by have:=h.lt;simp;omega)
   case round=>
    obtain⟨y,ya,yc,ma,mc,j2,rfl,h3,hL,hV,hR,gr,hbL,hwL,hZ⟩:=hrel;rw[←HJ.out]at hR HN;cases gk with
    |zero=>exact absurd hR.symm HN.out
    |succ m=>
    have hb0:=h.lt;by_cases he:As l k j2=[]
    ·rw[he,DD]at h3;have HR:=I (show A0 l k n opnd i= .ok y j2 by rw[←hR];simp[joinLoop,he]);have HV2:=I hV;rw[he];clear hR hV HV he hA hB gA h1;obtain⟨cl_0,cl_1,cl_2,cl_3,cl_4,cl_5,cl_6,cl_f⟩:=(hL).c7;obtain⟨cz_0,cz_1,cz_2,cz_3,cz_4,cz_5,cz_6,cz_f⟩:=(hZ).c7;go_wp2;have g7:=Av wr w.heap.size (.int .i64 y.h.op) (str y.h.s) (.int .i64 y.h.vk) (.int .i64 y.h.vn) (str y.h.vs) (.slice ya y.h.p.length yc) (.slice ma y.kids.len mc);refine bodyPost_ret (A3 rfl _ (hZ.set7 _ _ _ _ _ _ _) rfl) rfl ?_;refine Post.ok (AN gr g7 (.inr (Nat.le_refl _))) HR.out (VE.mono (HV2.out.gb g7 ?_) ?_) (h3.gb g7 (by intro q e;cases e;omega))
     ·intro q hq _ e;simp at e;omega
     ·intro q hq _;simp;omega
    ·rw[DW he]at h3;have hR':(opnd (j2+1)).bind (fun z q=>joinLoop l k opnd m (AK (As l k j2) y z) q)=A0 l k n opnd i:=by
      rw[←hR];simp[joinLoop,he]
     have HR:=I hR';have HV2:=I hV;have hs0:(As l k j2==[])=false:=by simpa using he
     have hs1:(As l k j2).isEmpty=false:=by simpa using he
     have HE:=I he;clear hR hR' hV HV hA hB gA h1 he;generalize hO:As l k j2=o at*;have HO:=I hO;clear hO;obtain⟨cl_0,cl_1,cl_2,cl_3,cl_4,cl_5,cl_6,cl_f⟩:=(hL).c7;have hLb:=hL.lt;have hcf:=HCF.out;cases ho2:opnd (j2+1)with
     |out=>exact absurd (by rw[←HR.out,ho2];rfl) HN.out
     | bad q=>
       go_wp2_with fail;go_region_with(refine(HOP.out _ _ (Aj gr) (h3.gbN (Aj (Ac _ _))) (by rw[ho2];simp)).mono ?_;rintro e w4 ⟨g4,h4⟩;rw[ho2]at h4;subst h4;refine DQ (P:=Tryz.prog) ⟨rfl,Post.bad (O (Aj gr) g4) (by rw[←HR.out,ho2];rfl)⟩ ⟨#[],[]⟩ w4 ?_);all_goals trivial
     | ok z q=>
       have hwr:=gr.size;go_wp2_with fail;go_region_with(first| ((with_reducible refine(HOP.out _ _ (Aj gr) (h3.gbN (Aj (Ac _ _))) (by rw[ho2];simp)).mono ?_);rintro e w4 ⟨g4,h4⟩;rw[ho2]at h4;obtain⟨v,rfl,hv,h4⟩:=h4;have hg4:=O (Aj (Ac wr (some b))) g4;have hL4:=hL.gb hg4 (by simp;omega);obtain⟨dl_0,dl_1,dl_2,dl_3,dl_4,dl_5,dl_6,dl_f⟩:=(hL4).c7;have hok:∀q,w4.heap.size≤q→w.heap.size<q∧q≠w1.heap.size:=(fun q hq=>by have:=hL4.lt;exact⟨by omega,by omega⟩);have hy:VE (fun g=>w.heap.size<g∧g≠w1.heap.size) w4 _ y:=HV2.out.gb hg4 (fun q hq _ e=>by cases e;omega);have hz:VE (fun g=>w.heap.size<g∧g≠w1.heap.size) w4 v z:=hv.mono (fun q hq _=>⟨by have:wr.heap.size≤q:=hq;omega,by have:wr.heap.size≤q:=hq;omega⟩))| (go_at_call 160;refine(Eh o y z _ _ hok hy hz).mono ?_;rintro e w5 ⟨u,rfl,hu,g5⟩;obtain⟨ua,uc,va,vc,rfl,ru,rv⟩:=hu;have hL5:=hL4.gb g5 (by simp);obtain⟨el_0,el_1,el_2,el_3,el_4,el_5,el_6,el_f⟩:=(hL5).c7));all_goals
        have g7:=Av w5 w1.heap.size (.int .i64 (AK o y z).h.op) (str (AK o y z).h.s) (.int .i64 (AK o y z).h.vk) (.int .i64 (AK o y z).h.vn) (str (AK o y z).h.vs) (.slice ua (AK o y z).h.p.length uc) (.slice va (AK o y z).kids.len vc);have hL7:=hL5.set7 (.int .i64 (AK o y z).h.op) (str (AK o y z).h.s) (.int .i64 (AK o y z).h.vk) (.int .i64 (AK o y z).h.vn) (str (AK o y z).h.vs) (.slice ua (AK o y z).h.p.length uc) (.slice va (AK o y z).kids.len vc);have h7:=(h4.gbN g5).gb g7 (by intro q e;cases e;omega);have hV7:VE (fun g=>w.heap.size<g∧g≠w1.heap.size) _ _ (AK o y z):=VE.gb ⟨_,_,_,_,rfl,ru,rv⟩ g7 (by intro q hq _ e;cases e;exact hq.2 rfl);have gW:=AN (Ae (O (Aj gr) g4) g5) g7 (.inr (by have:=g0.size;have:=g1.size;simp at*;omega));have hZ7:=Blk.gb (Blk.gb (hZ.gb hg4 (by simp;omega)) g5 (by simp)) g7 (by simp;omega);go_wp2_with fail;refine(DN h7 k hk).mono ?_;rintro e w6 ⟨rfl,g6,h6⟩;go_wp2_with fail;go_roundg m
        case measure=>omega
        case rel=>
         exact⟨AK o y z,ua,uc,va,vc,q,rfl,h6,hL7.gb g6 (by simp;omega),hV7.gb g6 (by intro q hq _ e;cases e;omega),by rw[←HJ.out,←HR.out,ho2];rfl,O gW g6,hbL,hwL,hZ7.gb g6 (by simp;omega)⟩
def CE(f:FuncId)(b:Nat)(tv wv:Value)(l:List Tok)(wl:List Bs)(M:Nat→Res Ex):Prop:=
 ∀w i,Par w b tv wv l wl i→M i ≠ .out→Calls Tryz.prog f #[.pointer (some ⟨b,0,none⟩)] w (PE b tv wv l wl w (M i))
section
variable {b:Nat}{tv wv:Value}{l:List Tok}{wl:List Bs}
theorem N2(w:World):(callFunc 110 (#[.pointer (some ⟨b,0,none⟩)]++#[])).run Tryz.prog w= .ok (.enter 110 (#[.pointer (some ⟨b,0,none⟩)]++#[])) w:=by kernel_rfl
theorem N3(w:World):(callFunc 206 (#[.pointer (some ⟨b,0,none⟩)]++#[])).run Tryz.prog w= .ok (.enter 206 (#[.pointer (some ⟨b,0,none⟩)]++#[])) w:=by kernel_rfl
theorem Le(k:Nat)(w:World):(callFunc 109 (#[]++#[.pointer (some ⟨k,0,none⟩)])).run Tryz.prog w= .ok (.enter 109 (#[]++#[.pointer (some ⟨k,0,none⟩)])) w:=by kernel_rfl
theorem Nq(k:Nat)(w:World):(callFunc 205 (#[]++#[.pointer (some ⟨k,0,none⟩)])).run Tryz.prog w= .ok (.enter 205 (#[]++#[.pointer (some ⟨k,0,none⟩)])) w:=by kernel_rfl
theorem Ea{w w0 w1:World}{r:Res Ex}{i:Nat}{x:Ex}(hb:b<w.heap.size)(g0:w.grownBy w0 (some b))(hr:r= .ok x i)(g1:w0.grownBy w1 (some b)){v:Value}(hv:VE (AD w0.heap.size) w1 v x)(hp:Par w1 b tv wv l wl i)
 {k:Nat} (hk:w.heap.size≤k) (hk2:k<w0.heap.size) {w2:World} (g2:w1.grownBy w2 (some k)):PE b tv wv l wl w r (.returned v) w2:=
 Post.ok (AN (O g0 g1) g2 (.inr hk)) hr ((hv.gb g2 (by intro q hq _ e;have:w0.heap.size≤q:=hq;cases e;omega)).mono (by intro q hq _;have:w0.heap.size≤q:=hq;have:=g0.size;show w.heap.size≤q;omega)) (hp.gb g2 (by intro q' e;cases e;omega))
theorem Kg{notf:Nat→Res Ex}(hnot:CE 110 b tv wv l wl notf)(n:Nat){w:World}{i k:Nat}(h:Par w b tv wv l wl i)(hk:w.cell? ⟨k,0,none⟩=some (.pointer (some ⟨b,0,none⟩)))(ho:A0 l 1 n notf i ≠ .out):
 Calls Tryz.prog 109 #[.pointer (some ⟨k,0,none⟩)] w (PE b tv wv l wl w (A0 l 1 n notf i)):=by
 have hkl:=World.block_lt_of_cell? w _ hk;have hb:=h.lt;simp only at hkl;have g0:w.grownBy (w.alloc (.cells zeroE.toArray 27 (0,0))) (some b):=Aa (Ac _ _) _;have hB:=Blk.new w zeroE 27;have H:=I (X hnot ho);clear hnot ho;go_enter func109,ntmps109;go_wp2_with fail;refine(DF (h.alloc _) 1 (by decide) n 110 #[.pointer (some ⟨b,0,none⟩)] #[] notf N2 (fun w1 j _ hp hn=>H.out.1 w1 j hp hn) H.out.2).mono ?_;rintro e w1 ⟨g1,h1⟩;generalize hr:A0 l 1 n notf i=r at*;cases r with
 |out=>exact h1.elim
 | bad q=>
   subst h1;exact⟨rfl,Post.bad (O g0 g1) rfl⟩
 | ok x j=>
   obtain⟨v,rfl,hv,h1⟩:=h1;have HV:=I hv;obtain⟨pa,pc,la,lc,rfl,-,-⟩:=hv;have hZ:=(hB).gb g1 (by simp;omega);obtain⟨cz_0,cz_1,cz_2,cz_3,cz_4,cz_5,cz_6,cz_f⟩:=(hZ).c7;have HR:=I hr;clear hr;go_wp2;have g7:=Av w1 w.heap.size (.int .i64 x.h.op) (str x.h.s) (.int .i64 x.h.vk) (.int .i64 x.h.vn) (str x.h.vs) (.slice pa x.h.p.length pc) (.slice la x.kids.len lc);exact bodyPost_ret (A3 rfl _ (hZ.set7 _ _ _ _ _ _ _) rfl) rfl (Ea h.lt g0 rfl g1 HV.out h1 (by simp) (by simp) g7)
theorem Ml{notf:Nat→Res Ex}(hnot:CE 110 b tv wv l wl notf)(n:Nat):CE 67 b tv wv l wl (A0 l 0 n (A0 l 1 n notf)):=by
 intro w i h ho;have hb:=h.lt;have g0:w.grownBy ((w.alloc (.cells #[.pointer (some ⟨b,0,none⟩)] 110 (0,0))).alloc (.cells zeroE.toArray 27 (0,0))) (some b):=Aa (Aa (Ac _ _) _) _;have hB:=Blk.new (w.alloc (.cells #[.pointer (some ⟨b,0,none⟩)] 110 (0,0))) zeroE 27;have hk:((w.alloc (.cells #[.pointer (some ⟨b,0,none⟩)] 110 (0,0))).alloc (.cells zeroE.toArray 27 (0,0))).cell? ⟨w.heap.size,0,none⟩=some (.pointer (some ⟨b,0,none⟩)):=by simp
 rw[World.size_alloc]at hB;have H:=I (X hnot (X ho hk));clear hnot ho hk;go_enter func67,ntmps67;go_wp2_with fail;refine(DF ((h.alloc _).alloc _) 0 (by decide) n 109 #[] #[.pointer (some ⟨w.heap.size,0,none⟩)] (A0 l 1 n notf) (Le _) (fun w1 j g hp hn=>Kg H.out.1 n hp (Bw g H.out.2.2 (by simp;omega)) hn) H.out.2.1).mono ?_;rintro e w1 ⟨g1,h1⟩;generalize hr:A0 l 0 n (A0 l 1 n notf) i=r at*;cases r with
 |out=>exact h1.elim
 | bad q=>
   subst h1;exact⟨rfl,Post.bad (O g0 g1) rfl⟩
 | ok x j=>
   obtain⟨v,rfl,hv,h1⟩:=h1;have HV:=I hv;obtain⟨pa,pc,la,lc,rfl,-,-⟩:=hv;have hZ:=(hB).gb g1 (by simp;omega);obtain⟨cz_0,cz_1,cz_2,cz_3,cz_4,cz_5,cz_6,cz_f⟩:=(hZ).c7;have HR:=I hr;clear hr;go_wp2;have g7:=Av w1 (w.heap.size+1) (.int .i64 x.h.op) (str x.h.s) (.int .i64 x.h.vk) (.int .i64 x.h.vn) (str x.h.vs) (.slice pa x.h.p.length pc) (.slice la x.kids.len lc);exact bodyPost_ret (A3 rfl _ (hZ.set7 _ _ _ _ _ _ _) rfl) rfl (Ea h.lt g0 rfl g1 HV.out h1 (by simp) (by simp) g7)
theorem LY{powf:Nat→Res Ex}(hpow:CE 206 b tv wv l wl powf)(n:Nat){w:World}{i k:Nat}(h:Par w b tv wv l wl i)(hk:w.cell? ⟨k,0,none⟩=some (.pointer (some ⟨b,0,none⟩)))(ho:A0 l 4 n powf i ≠ .out):
 Calls Tryz.prog 205 #[.pointer (some ⟨k,0,none⟩)] w (PE b tv wv l wl w (A0 l 4 n powf i)):=by
 have hkl:=World.block_lt_of_cell? w _ hk;have hb:=h.lt;simp only at hkl;have g0:w.grownBy (w.alloc (.cells zeroE.toArray 27 (0,0))) (some b):=Aa (Ac _ _) _;have hB:=Blk.new w zeroE 27;have H:=I (X hpow ho);clear hpow ho;go_enter func205,ntmps205;go_wp2_with fail;refine(DF (h.alloc _) 4 (by decide) n 206 #[.pointer (some ⟨b,0,none⟩)] #[] powf N3 (fun w1 j _ hp hn=>H.out.1 w1 j hp hn) H.out.2).mono ?_;rintro e w1 ⟨g1,h1⟩;generalize hr:A0 l 4 n powf i=r at*;cases r with
 |out=>exact h1.elim
 | bad q=>
   subst h1;exact⟨rfl,Post.bad (O g0 g1) rfl⟩
 | ok x j=>
   obtain⟨v,rfl,hv,h1⟩:=h1;have HV:=I hv;obtain⟨pa,pc,la,lc,rfl,-,-⟩:=hv;have hZ:=(hB).gb g1 (by simp;omega);obtain⟨cz_0,cz_1,cz_2,cz_3,cz_4,cz_5,cz_6,cz_f⟩:=(hZ).c7;have HR:=I hr;clear hr;go_wp2;have g7:=Av w1 w.heap.size (.int .i64 x.h.op) (str x.h.s) (.int .i64 x.h.vk) (.int .i64 x.h.vn) (str x.h.vs) (.slice pa x.h.p.length pc) (.slice la x.kids.len lc);exact bodyPost_ret (A3 rfl _ (hZ.set7 _ _ _ _ _ _ _) rfl) rfl (Ea h.lt g0 rfl g1 HV.out h1 (by simp) (by simp) g7)
theorem MR{powf:Nat→Res Ex}(hpow:CE 206 b tv wv l wl powf)(n:Nat):CE 162 b tv wv l wl (A0 l 3 n (A0 l 4 n powf)):=by
 intro w i h ho;have hb:=h.lt;have g0:w.grownBy ((w.alloc (.cells #[.pointer (some ⟨b,0,none⟩)] 110 (0,0))).alloc (.cells zeroE.toArray 27 (0,0))) (some b):=Aa (Aa (Ac _ _) _) _;have hB:=Blk.new (w.alloc (.cells #[.pointer (some ⟨b,0,none⟩)] 110 (0,0))) zeroE 27;have hk:((w.alloc (.cells #[.pointer (some ⟨b,0,none⟩)] 110 (0,0))).alloc (.cells zeroE.toArray 27 (0,0))).cell? ⟨w.heap.size,0,none⟩=some (.pointer (some ⟨b,0,none⟩)):=by simp
 rw[World.size_alloc]at hB;have H:=I (X hpow (X ho hk));clear hpow ho hk;go_enter func162,ntmps162;go_wp2_with fail;refine(DF ((h.alloc _).alloc _) 3 (by decide) n 205 #[] #[.pointer (some ⟨w.heap.size,0,none⟩)] (A0 l 4 n powf) (Nq _) (fun w1 j g hp hn=>LY H.out.1 n hp (Bw g H.out.2.2 (by simp;omega)) hn) H.out.2.1).mono ?_;rintro e w1 ⟨g1,h1⟩;generalize hr:A0 l 3 n (A0 l 4 n powf) i=r at*;cases r with
 |out=>exact h1.elim
 | bad q=>
   subst h1;exact⟨rfl,Post.bad (O g0 g1) rfl⟩
 | ok x j=>
   obtain⟨v,rfl,hv,h1⟩:=h1;have HV:=I hv;obtain⟨pa,pc,la,lc,rfl,-,-⟩:=hv;have hZ:=(hB).gb g1 (by simp;omega);obtain⟨cz_0,cz_1,cz_2,cz_3,cz_4,cz_5,cz_6,cz_f⟩:=(hZ).c7;have HR:=I hr;clear hr;go_wp2;have g7:=Av w1 (w.heap.size+1) (.int .i64 x.h.op) (str x.h.s) (.int .i64 x.h.vk) (.int .i64 x.h.vn) (str x.h.vs) (.slice pa x.h.p.length pc) (.slice la x.kids.len lc);exact bodyPost_ret (A3 rfl _ (hZ.set7 _ _ _ _ _ _ _) rfl) rfl (Ea h.lt g0 rfl g1 HV.out h1 (by simp) (by simp) g7)
end
end Go.Proofs.YtgjdhajcnechdaaGreatDoor
