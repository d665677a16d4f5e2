/-
  The lexer: the iterator over the tokens. The lexer: all tokens in a slice.
-/
import Derived.Test.YtgjdhajcnechdaaGreatDoorSw20
import Derived.RangeFuncNested
import Derived.RangeFuncBound
import Derived.RangeFuncCalls
import Derived.RangeFuncLeaves
import Derived.RangeFuncBox
import Derived.Shelf.Abstract
import Derived.OwnWalkIn
import Derived.TacticsInMore
import Derived.LoopNIn
import Derived.LoopIn
import Derived.Maps.AppendAt
import Derived.Test.YtgjdhajcnechdaaGreatDoorSw05
set_option linter.all false
set_option maxRecDepth 100000
set_option maxHeartbeats 8000000
namespace Go.Proofs.YtgjdhajcnechdaaGreatDoor
open Go.Proofs.Tryz
open Go.RowKit Go.Shelf
attribute [local go_sem] Oper.semAt_some
theorem K7{F:Fence}{n:Nat}{P:Program}{c:Code}{Q:Exit→Act→World→Prop}(J:Nat→Act→World→Prop)(h0:∀a w,¬J 0 a w)(hJ:∀g a w,J (g+1) a w→c.wpIn F n P (Exit.then (J g) Q) a w):
 ∀g a w,J g a w→(Code.loop c).wpIn F n P Q a w:=by
 have key:∀g a w,J g a w→Code.roundsIn F n P c Q g a w:=by
  intro g;induction g with
  |zero=>intro a w h;exact(h0 a w h).elim
  | succ g ih=>
    intro a w h;rw[roundsIn_succ];refine wpIn_mono (hJ g a w h) ?_;intro e a' w' h';cases e with
    |normal=>exact ih a' w' h'
    |_=>exact h'
 intro g a w h;exact wpIn_loop_rounds g (key g a w h)
theorem El{w w1:World}{r:Option Nat}(h:w.grownBy w1 r)(k:Nat)(o:Obj)(hk:w.heap.size≤k):w.grownBy (w1.putObj k o) r:=by
 refine⟨h.os,h.tape,h.output,by simpa[World.putObj]using h.size,fun i hi hr=>?_⟩;rw[←h.block i hi hr];exact World.putObj_heap_other (by omega)
theorem JF(s:Bs):∀n i line t j l m,AN s n i line= .tok t j l m→m<n:=by
 intro n;induction n with
 |zero=>intro i line t j l m h;cases h
 | succ n ih=>
   intro i line t j l m h;rw[AN]at h;cases hs:BO s i line with
   |tok t' j' l'=>rw[hs]at h;cases h;omega
   |again j' l'=>rw[hs]at h;have:=ih _ _ _ _ _ _ h;omega
   |stop=>rw[hs]at h;cases h
   |bad k=>rw[hs]at h;cases h
def Hm(b:Nat)(s:Bs)(J:List Tok→World→Prop)(R:LexR)(w:World):Prop:=match R with
 | .ok l=>J l w∧∃j l,Sc w b s j l l (-1)
 | .bad k=>(∃l,J l w)∧∃j l,Sc w b s j l l k
 | .out=>False
theorem Sc.below{n₀:Nat}{w w1:World}{b:Nat}{s:Bs}{i:Nat}{line begun:Bool}{bad:Int}(h:Sc w b s i line begun bad)(g:Below n₀ w w1)(hb:b<n₀):Sc w1 b s i line begun bad:=⟨(g.block b hb).trans h.blk,h.le,h.few⟩
theorem Rm(m:Nat)(l cb b n₀:Nat)(s:Bs)(J:List Tok→World→Prop)(hn₀:b<n₀∧cb<n₀∧b≠cb)
 (hJ:∀pre A B,J pre A→A.grownBy B (some b)→J pre B)
 (hY:∀pre t W,J pre W→pre.length<100000→YieldAt Fence.wide m Tryz.prog l #[Bc t] W fun e W'=>e= .returned (.bool true)∧J (pre++[t]) W'∧Below n₀ W W')
 (htab:∀A B,Tabs b A→Below n₀ A B→Tabs b B)
 (n i:Nat) (line:Bool) (R:LexR) (hR:R ≠ .out) (hl:Cc s n i line=R) (hn:n<100000)
 (W:World) (hcb:W.cell? ⟨cb,0,none⟩=some (.pointer (some ⟨b,0,none⟩))) (hs:Sc W b s i line line (-1)) (ht:Tabs b W) (h0:J [] W):
 CallsIn Fence.wide (m+1) Tryz.prog 103 #[.func (.yield l) #[] #[],.pointer (some ⟨cb,0,none⟩)] W fun e W'=>(∃v,e= .returned v)∧Hm b s J R W':=by
 refine callsIn_of_wp func103 rfl trivial ?_ rfl;simp only[ntmps103,List.size_toArray,List.length_cons,List.length_nil,Nat.reduceAdd,Nat.reduceSub,Array.replicate_succ,Array.replicate_zero,List.push_toArray,List.append_toArray,List.nil_append,List.cons_append];gi_wp2;refine K7 (fun g a w=>∃u2 u3 u4 u5 u6 u7 u8 u9 u10 u11 u12 u13 u14 u15 u16 u17,a={tmps:=#[.func (.yield l) #[] #[],.pointer (some ⟨cb,0,none⟩),u2,u3,u4,u5,u6,u7,u8,u9,u10,u11,u12,u13,u14,u15,u16,u17],defers:=[]}∧
  ∃pre k q i' line',k<g∧pre.length+k<100000∧q≤k∧(Cc s q i' line').pre pre=R∧w.cell? ⟨cb,0,none⟩=some (.pointer (some ⟨b,0,none⟩))∧Sc w b s i' line' line' (-1)∧Tabs b w∧J pre w) ?_ ?_ (n+1) _ _ ?_
 ·rintro a w ⟨u2,u3,u4,u5,u6,u7,u8,u9,u10,u11,u12,u13,u14,u15,u16,u17,_,pre,k,q,i',line',h,_⟩;omega
 ·rintro g a w ⟨u2,u3,u4,u5,u6,u7,u8,u9,u10,u11,u12,u13,u14,u15,u16,u17,rfl,pre,k,q,i',line',hk,hlen,hqk,hR',hc,hsc,htb,hj⟩;have hnx:AN s q i' line' ≠ .out:=by
   intro e;rw[GD,e]at hR';exact hR hR'.symm
  have hlx:=GD s q i' line';have hN:=Rd hsc htb hnx;have HN:=O (Z hR' (Z hlx hN));have hlt:=JF s q i' line';have HLT:=O hlt;clear hN hlx hR' hnx hlt;have hcl:=World.block_lt_of_cell? w _ hc;have hbl:=hsc.lt;gi_wp2_with fail;refine⟨trivial,(callsIn_wide.2 HN.out.2.2).mono ?_⟩;intro e w1 hp;obtain⟨g1,hp⟩:=hp;have hc1:=Bz g1 hc (by simp;omega);have ht1:=htb.gb g1 (by simp);have hj1:=hJ _ _ _ hj g1;have hw1:=g1.size;cases hq:AN s q i' line' with
  |out=>rw[hq]at hp;exact hp.elim
  | stop=>
    rw[hq]at hp;obtain⟨⟨t,rfl⟩,j,l',hs1⟩:=hp;have HR:=O (show R= .ok pre by rw[←HN.out.1,HN.out.2.1,hq];simp[LexR.pre]);clear hq;gi_wp2;refine⟨fun _ h=>(by cases h),?_⟩;gi_wp2;refine bodyPost_ret (results_none rfl _ _ _) rfl ⟨⟨_,rfl⟩,?_⟩;rw[HR.out];exact⟨hJ _ _ _ hj1 (World.grownBy_alloc w1 _ _),j,l',hs1.alloc _⟩
  | bad k'=>
    rw[hq]at hp;obtain⟨⟨t,rfl⟩,j,l',hs1⟩:=hp;have HR:=O (show R= .bad k' by rw[←HN.out.1,HN.out.2.1,hq];simp[LexR.pre]);clear hq;gi_wp2;refine⟨fun _ h=>(by cases h),?_⟩;gi_wp2;refine bodyPost_ret (results_none rfl _ _ _) rfl ⟨⟨_,rfl⟩,?_⟩;rw[HR.out];exact⟨⟨_,hJ _ _ _ hj1 (World.grownBy_alloc w1 _ _)⟩,j,l',hs1.alloc _⟩
  | tok t j l' m'=>
    rw[hq]at hp;obtain⟨rfl,hs1⟩:=hp;have HR:=O (show(Cc s m' j l').pre (pre++[t])=R by rw[←HN.out.1,HN.out.2.1,hq,←LexR.pre_cons]);have hm':=HLT.out _ _ _ _ hq;clear hq;have gA:=World.grownBy_alloc w1 (.cells #[.int .i64 t.kind,.int .i64 t.pos,str t.text] 105 (0,0)) (some b);obtain⟨fn,tmps,assign,body,hy,hRd⟩:=hY pre t _ (hJ _ _ _ hj1 gA) (by omega);gi_wp2_with fail;refine hRd.mono ?_;rintro e W3 ⟨rfl,hj3,hb3⟩;have hc3:=(hb3.cell (p:=⟨cb,0,none⟩) hn₀.2.1).trans (Bz gA hc1 (by simp;omega));have hs3:=(hs1.alloc (.cells #[.int .i64 t.kind,.int .i64 t.pos,str t.text] 105 (0,0))).below hb3 hn₀.1;have ht3:=htab _ _ (ht1.gb gA (by simp)) hb3;clear hRd hy;gi_wp2;exact⟨_,_,_,_,_,_,_,_,_,_,_,_,_,_,_,_,rfl,pre++[t],k-1,m',j,l',by omega,by simp;omega,by omega,HR.out,hc3,hs3,ht3,hj3⟩
 ·exact⟨_,_,_,_,_,_,_,_,_,_,_,_,_,_,_,_,rfl,[],n,n,i,line,by omega,by simp;omega,Nat.le_refl _,by rw[LexR.pre_nil];exact hl,hcb,hs,ht,h0⟩
attribute [local go_sem] Oper.semAt_some
def CL(t:Tok):List Value:=[.int .i64 t.kind,.int .i64 t.pos,str t.text]
def BC(l:List Tok):List Value:=l.flatMap CL
theorem Iu(l:List Tok)(t:Tok):BC (l++[t])=BC l++CL t:=by simp[BC]
def ColJ(w:World)(b lr:Nat)(rec:Loop)(pre:List Tok)(W:World):Prop:=
 ∃v,Blk W w.heap.size [v] 71∧W.ownsRow (w.heap.size+3) 105 3 v pre.length (BC pre)∧W.heap[lr]? =some (.loop rec)∧W.heap[w.heap.size+1]? =some (.deferred (some []))∧w.grownBy W (some b)
theorem ColJ.gb{w:World}{b lr:Nat}{rec:Loop}{pre:List Tok}{A B:World}(h:ColJ w b lr rec pre A)(g:A.grownBy B (some b))(hb:b<w.heap.size)(hl:b<lr):ColJ w b lr rec pre B:=by
 obtain⟨v,h1,h2,h3,h4,h5⟩:=h;exact⟨v,h1.gb g (by simp;omega),C2 h2 g (by intro k hk _ e;cases e;omega),Dy g h3 (by simp;omega),Dy g h4 (by simp;omega),Aa h5 g⟩
theorem Tabs.below{B n:Nat}{w w1:World}(h:Tabs B w)(g:Below n w w1)(hB:B≤n):Tabs B w1:=by
 have hlow:=h.low;refine⟨⟨fun c hc=>(g.cell (p:=⟨_,_,none⟩) (by simp<;>omega)).trans (h.utf8.1 c hc),fun i hi=>⟨(g.cell (p:=⟨_,_,none⟩) (by simp<;>omega)).trans (h.utf8.2 i hi).1,(g.cell (p:=⟨_,_,none⟩) (by simp<;>omega)).trans (h.utf8.2 i hi).2⟩⟩,hlow,?_,?_⟩
 ·obtain⟨R,oR,cap,hR,hc,ht⟩:=h.case;refine⟨R,oR,cap,hR,(g.cell (p:=⟨_,_,none⟩) (by simp<;>omega)).trans hc,fun i hi=>?_⟩;have:=ht i hi;have hk:R<n:=by omega
  exact⟨(g.cell (p:=⟨_,_,none⟩) hk).trans this.1,(g.cell (p:=⟨_,_,none⟩) hk).trans this.2.1,(g.cell (p:=⟨_,_,none⟩) hk).trans this.2.2.1,(g.cell (p:=⟨_,_,none⟩) hk).trans this.2.2.2.1,(g.cell (p:=⟨_,_,none⟩) hk).trans this.2.2.2.2⟩
 ·have hg:=h.glob;unfold Glob Lib.TabIs World.var? at*;simp only[EZ,Option.bind_some]at hg ⊢;rw[g.block _ (by omega)];exact hg
theorem Sc.putObj{w:World}{b:Nat}{s:Bs}{i:Nat}{line begun:Bool}{bad:Int}(h:Sc w b s i line begun bad)(k:Nat)(o:Obj)(hk:k≠b):Sc (w.putObj k o) b s i line begun bad:=⟨(World.putObj_heap_other hk.symm).trans h.blk,h.le,h.few⟩
theorem J5{n k:Nat}(h:n≤k)(W3:World)(o:Obj):Below n W3 (W3.putObj k o):=
 ⟨rfl,rfl,rfl,by simp[World.putObj],fun i hi=>World.putObj_heap_other (by omega)⟩
structure ColR(w W:World)(b lr:Nat)(rec:Loop)(t:Tok)(v:Value)(pre:List Tok)(W2:World):Prop where
 box:Blk W2 w.heap.size [v] 71
 tok:Blk W2 W.heap.size [.int .i64 t.kind,.int .i64 t.pos,str t.text] 105
 row:W2.ownsRow (w.heap.size+3) 105 3 v pre.length (BC pre)
 loop:W2.heap[lr]? =some (.loop {rec with state:= .busy})
 dfr:W2.heap[w.heap.size+1]? =some (.deferred (some []))
 g:w.grownBy W2 (some b)
 below:Below w.heap.size W W2
theorem K5{F:Fence}{n:Nat}{P:Program}{g:Operand}{ps:Array Tmp}{assign body:Code}{Q:Exit→Act→World→Prop}{a:Act}{w:World}
 (hro:F.round=none) (h1:1≤n) {gf:Nat} {lb:Array Value} (hg:a.eval g= .func (.func gf) #[] lb) (hFg:F.fn gf) (eg:∀args w,(callFunc gf args).run P w= .ok (.enter gf args) w)
 (h:∀fn,F.fn fn→CallsIn F (n-1) P gf (#[.func (.yield (w.heap.size+1)) #[] #[]]++lb) ((w.alloc (.deferred (some []))).alloc (.loop {state:= .ready,pending:=none,fn:=fn,tmps:=a.tmps,params:=ps,assign:=assign,body:=body,defers:=w.heap.size}))
  fun e W=>(∃v,e= .returned v)∧∃r,W.heap[w.heap.size+1]? =some (.loop r)∧r.state ≠ .busy∧r.pending=none∧Q .normal {a with defers:={target:= .collected w.heap.size,args:=#[]}::a.defers} (W.putObj (w.heap.size+1) (.loop {r with state:= .exhausted}))):
 (Code.rangeFunc g ps assign body).wpIn F n P Q a w:=by
 refine wpIn_rangeFunc ?_;intro fn hfn;rw[hro];refine⟨w.heap.size+1,[{target:= .collected w.heap.size,args:=#[]}],(w.alloc (.deferred (some []))).alloc (.loop {state:= .ready,pending:=none,fn:=fn,tmps:=a.tmps,params:=ps,assign:=assign,body:=body,defers:=w.heap.size}),
  {target:= .fn (.func gf) lb,args:=#[.func (.yield (w.heap.size+1)) #[] #[]]},(w.alloc (.deferred (some []))).alloc (.loop {state:= .ready,pending:=none,fn:=fn,tmps:=a.tmps,params:=ps,assign:=assign,body:=body,defers:=w.heap.size}),gf,
  #[.func (.yield (w.heap.size+1)) #[] #[]]++lb,(w.alloc (.deferred (some []))).alloc (.loop {state:= .ready,pending:=none,fn:=fn,tmps:=a.tmps,params:=ps,assign:=assign,body:=body,defers:=w.heap.size}),run_enterLoop_outer _ _ _ _ _,?_,?_,?_,fun _=>h1,?_⟩
 ·simp only[resolve,hg];simp[go_sem]
 ·intro f' hf';simp[Target.leads]at hf';subst hf';exact hFg
 ·simp[invoke,go_sem,eg]
 ·refine(h fn hfn).mono ?_;rintro e W ⟨⟨v,rfl⟩,r,hr,hb,hp,hq⟩;exact⟨none,_,(run_endLoop (P:=P) hr hb).trans (congrArg (fun p=>Result.ok p _) hp),hq⟩
theorem Lb{w:World}{b cb i n:Nat}{s:Bs}{line:Bool}{R:LexR}(hbc:b≠cb)(hcb:w.cell? ⟨cb,0,none⟩=some (.pointer (some ⟨b,0,none⟩)))(hs:Sc w b s i line line (-1))(ht:Tabs b w)
 (hR:R ≠ .out) (hl:Cc s n i line=R) (hn:n<100000):
 Calls Tryz.prog 102 #[.slice none 0 0,.func (.func 103) #[] #[.pointer (some ⟨cb,0,none⟩)]] w
  fun e w'=>w.grownBy w' (some b)∧(∃v,e= .returned v∧Hm b s (fun l W=>W.ownsRow (w.heap.size+3) 105 3 v l.length (BC l)) R w'):=by
 have hb:=hs.lt;have hcl:=World.block_lt_of_cell? w _ hcb;refine(callsIn_wide (n:=6)).1 ?_;refine callsIn_of_wp_marks func102 rfl trivial ?_ rfl;simp only[ntmps102,List.size_toArray,List.length_cons,List.length_nil,Nat.reduceAdd,Nat.reduceSub,Array.replicate_succ,Array.replicate_zero,List.push_toArray,List.append_toArray,List.nil_append,List.cons_append];gi_wp2;refine K5 rfl (by omega) (gf:=103) (lb:=#[.pointer (some ⟨cb,0,none⟩)]) rfl trivial (enters_of func103 (by kernel_rfl) rfl) ?_;intro fn hfn;have hsz:(w.alloc (.cells #[.slice none 0 0] 71)).heap.size=w.heap.size+1:=by simp
 rw[hsz];generalize hrec:Loop.mk _ _ _ _ _ _ _ _=rec0;have g0:w.grownBy (((w.alloc (.cells #[.slice none 0 0] 71)).alloc (.deferred (some []))).alloc (.loop rec0)) none:=Ad (Ad (World.grownBy_alloc w _ none) _) _;have hJ0:ColJ w b (w.heap.size+1+1) rec0 [] (((w.alloc (.cells #[.slice none 0 0] 71)).alloc (.deferred (some []))).alloc (.loop rec0)):=by
  refine⟨.slice none 0 0,((Blk.new w [.slice none 0 0] 71).alloc _).alloc _,World.ownsRow_nil _ _ _ _,?_,?_,AX g0⟩
  ·have:=World.alloc_heap_new ((w.alloc (.cells #[.slice none 0 0] 71)).alloc (.deferred (some []))) (.loop rec0);simpa using this
  ·have:=World.alloc_heap_new (w.alloc (.cells #[.slice none 0 0] 71)) (.deferred (some []));rw[hsz]at this;exact(Below.heap_alloc _ _ _ (by simp)).trans this
 have hA:=Rm 4 (w.heap.size+1+1) cb b w.heap.size s (ColJ w b (w.heap.size+1+1) rec0) ⟨hb,hcl,hbc⟩ (fun pre A B h g=>h.gb g hb (by omega)) ?hY
  (fun A B h g=>?htab) n i line R hR hl hn _ (Af g0 hcb) (hs.gbN g0) (ht.gbN g0) hJ0
 case htab=>exact h.below g (by omega)
 case hY=>
  rintro pre t W ⟨v,hB,hO,hlr,hD,hg⟩ hlen;have hpar:rec0.params=#[7]:=by rw[←hrec]
  have hsize:=hg.size;have hlr1:(W.alloc (.cells #[.int .i64 t.kind,.int .i64 t.pos,str t.text] 105)).heap[w.heap.size+1+1]? =some (.loop rec0):=(Below.heap_alloc _ _ _ (Array.getElem?_eq_some_iff.1 hlr).1).trans hlr;refine⟨_,_,_,_,run_yield hlr (by rw[hpar];rfl),roundIn_of_wpIn trivial ?_⟩;obtain⟨post,hpost⟩:∃post:Ending→World→Prop,post=fun e W'=>e= .returned (.bool true)∧ColJ w b (w.heap.size+1+1) rec0 (pre++[t]) W'∧Below w.heap.size W W':=⟨_,rfl⟩;rw[←hpost];have hfin:∀(W3:World),W3.heap[w.heap.size+1+1]? =some (.loop {rec0 with state:= .busy})→(ColJ w b (w.heap.size+1+1) rec0 (pre++[t]) (W3.putObj (w.heap.size+1+1) (.loop rec0))∧Below w.heap.size W W3)→∀a,roundPost Tryz.prog (w.heap.size+1+1) post .normal a W3:=by
   intro W3 h3 hc a;refine⟨_,_,run_endRound none h3,?_⟩;have he:({({rec0 with state:= .busy}:Loop)with state:=if(Option.isNone (none:Option Code))then .ready else .done,pending:=none}:Loop)=rec0:=by rw[←hrec];rfl
   rw[he,hpost];exact⟨rfl,hc.1,hc.2.trans (J5 (n:=w.heap.size) (by omega) W3 _)⟩
  have hst:rec0.state= .ready:=by rw[←hrec]
  have HF:=O (Z hlr1 (Z hfin hst));clear hlr1 hfin hpar hst;clear hpost;rw[←hrec];simp only[];gi_wp2;refine⟨_,run_beginRound HF.out.1 HF.out.2.2,?_⟩;have gA:=World.grownBy_alloc W (.cells #[.int .i64 t.kind,.int .i64 t.pos,str t.text] 105 (0,0)) none;have hltR:=(Array.getElem?_eq_some_iff.1 hlr).1;have h2:ColR w W b (w.heap.size+1+1) rec0 t v pre ((W.alloc (.cells #[.int .i64 t.kind,.int .i64 t.pos,str t.text] 105 (0,0))).putObj (w.heap.size+1+1) (.loop {rec0 with state:= .busy})):=by
   have hlA:w.heap.size+1+1≠W.heap.size:=by omega
   have hne2:w.heap.size+1+1<(W.alloc (.cells #[.int .i64 t.kind,.int .i64 t.pos,str t.text] 105 (0,0))).heap.size:=by simp;omega
   refine⟨(World.putObj_heap_other (by omega)).trans (hB.alloc _),(World.putObj_heap_other (fun e=>hlA e.symm)).trans (Blk.new W [.int .i64 t.kind,.int .i64 t.pos,str t.text] _),ownsRow_putObj (hO.alloc _) _ ((Below.heap_alloc _ _ _ hltR).trans hlr) rfl,World.putObj_heap_same hne2,(World.putObj_heap_other (by omega)).trans ((Below.heap_alloc _ _ _ (by omega)).trans hD),El (Ad hg _) _ _ (by omega),(JA gA).mono hsize|>.trans (J5 (by omega) _ _)⟩
  generalize(W.alloc (.cells #[.int .i64 t.kind,.int .i64 t.pos,str t.text] 105 (0,0))).putObj (w.heap.size+1+1) (.loop {rec0 with state:= .busy})=W2 at*;have hb2:=h2.box.cell 0;have hf2:=h2.box.frozen 0;have k0:=h2.tok.cell 0;have k1:=h2.tok.cell 1;have k2:=h2.tok.cell 2;simp only[List.getElem?_cons_zero,List.getElem?_cons_succ]at hb2 k0 k1 k2;have hsz2:=h2.g.size;obtain⟨i0,hi,hz0,hz1,hz2⟩:=info_parts JB;have hsz3:=(Array.getElem?_eq_some_iff.1 h2.loop).1;gi_wp2_with (gi_at_builtin;refine wpListIn_append_own _ rfl (.tmp 8) (.tmp 10) 71 rfl (w.heap.size+3) 105 i0 _ 3 32 underlying71 hi hz0 hz1 hz2 rfl (by decide) v pre.length (BC pre) rfl (h2.row.alloc _) ⟨W2.heap.size,0,none⟩ 1 1 (CL t) rfl rfl (BZ W2 (CL t) 105) (by simp[CL,Value.oneCell']) (by unfold maxLen;omega) (by omega) (by simp;omega) ?_;intro v' w1 hown' hgrow _;obtain⟨g',cap',rfl⟩:=ownsRow_succ hown';(have hne:∀k,k<w.heap.size+3→some k≠v.ownBlock:=fun k hk e=>by have:=(h2.row.lt _ e.symm).1;omega);(have hbx:=(h2.box.alloc (.cells (CL t).toArray 105 (0,0))).gb hgrow (hne _ (by omega)));(have hx0:=hbx.cell 0);(have hxf:=hbx.frozen 0);(have hxl:=hbx.lt);(simp only[List.getElem?_cons_zero]at hx0));have hl5:=(Below.heap_setCell w1 ⟨w.heap.size,0,none⟩ (Value.slice (some ⟨g',0,none⟩) (pre.length+1) cap') (w.heap.size+1+1) (by simp;omega)).trans (Dy hgrow ((Below.heap_alloc _ _ _ hsz3).trans h2.loop) (hne _ (by omega)))
  have hd5:=(Below.heap_setCell w1 ⟨w.heap.size,0,none⟩ (Value.slice (some ⟨g',0,none⟩) (pre.length+1) cap') (w.heap.size+1) (by simp)).trans (Dy hgrow ((Below.heap_alloc _ _ _ (by omega)).trans h2.dfr) (hne _ (by omega)));have hb5:Below w.heap.size W2 (w1.setCell ⟨w.heap.size,0,none⟩ (Value.slice (some ⟨g',0,none⟩) (pre.length+1) cap')):=
   ⟨hgrow.os,hgrow.tape,hgrow.output,by have:=hgrow.size;simp at this ⊢;omega,fun k hk=>(Below.heap_setCell _ _ _ _ (by simp;omega)).trans ((hgrow.block k (by simp;omega) (fun e=>hne k (by omega) e)).trans (Below.heap_alloc _ _ _ (by omega)))⟩
  have hr5:=ownsRow_putObj (C2 hown' (AH (Ac w1 (some w.heap.size)) 0 (Value.slice (some ⟨g',0,none⟩) (pre.length+1) cap')) (by intro k hk _ e;cases e;omega)) (Obj.loop rec0) hl5 rfl;refine HF.out.2.1 _ hl5 ⟨⟨_,(World.putObj_heap_other (by omega)).trans (hbx.set 0 _),?_,World.putObj_heap_same (Array.getElem?_eq_some_iff.1 hl5).1,(World.putObj_heap_other (by omega)).trans hd5,?_⟩,h2.below.trans hb5⟩ _
  ·rw[Iu,List.length_append];exact hr5
  ·refine El ?_ _ _ (by omega);have g2:w.grownBy w1 (some b):=⟨hgrow.os.trans h2.g.os,hgrow.tape.trans h2.g.tape,hgrow.output.trans h2.g.output,by have:=hgrow.size;simp at this;omega,fun k hk hkb=>((hgrow.block k (by simp;omega) (fun e=>hne k (by omega) e)).trans (Below.heap_alloc _ _ _ (by omega))).trans (h2.g.block k hk hkb)⟩;exact Az g2 _ _ (.inr (Nat.le_refl _))
 simp only[List.append_toArray,List.cons_append,List.nil_append];refine hA.mono ?_;rintro e W ⟨⟨v0,rfl⟩,hE⟩;refine⟨⟨_,rfl⟩,rec0,?_⟩;cases R with
 |out=>exact absurd rfl hR
 | ok l=>
   obtain⟨⟨v,hB,hO,hlr,hD,hg⟩,j,l',hs2⟩:=hE;refine⟨hlr,by rw[←hrec];simp,by rw[←hrec],?_⟩;have hB6:=(World.putObj_heap_other (o:=Obj.loop {rec0 with state:= .exhausted}) (by omega:w.heap.size≠w.heap.size+1+1)).trans hB;have hD6:=(World.putObj_heap_other (o:=Obj.loop {rec0 with state:= .exhausted}) (by omega:w.heap.size+1≠w.heap.size+1+1)).trans hD;have hO6:=ownsRow_putObj hO (Obj.loop {rec0 with state:= .exhausted}) hlr rfl;have hg6:=El hg (w.heap.size+1+1) (Obj.loop {rec0 with state:= .exhausted}) (by omega);have hs6:=hs2.putObj (w.heap.size+1+1) (Obj.loop {rec0 with state:= .exhausted}) (by omega);generalize(W.putObj (w.heap.size+1+1) (Obj.loop {rec0 with state:= .exhausted}))=W6 at*;have hc6:=Blk.cell (cs:=[v]) hB6 0;simp only[List.getElem?_cons_zero]at hc6;clear hA hJ0 hrec;gi_wp2;refine⟨by simp,.inl ⟨_,_,rfl,run_takeDeferred hD6,?_⟩⟩;exact⟨_,results_tmp rfl _ _ _,El hg6 _ _ (by omega),_,rfl,ownsRow_putObj hO6 _ hD6 rfl,j,l',hs6.putObj _ _ (by omega)⟩
 | bad k=>
   obtain⟨⟨l,v,hB,hO,hlr,hD,hg⟩,j,l',hs2⟩:=hE;refine⟨hlr,by rw[←hrec];simp,by rw[←hrec],?_⟩;have hB6:=(World.putObj_heap_other (o:=Obj.loop {rec0 with state:= .exhausted}) (by omega:w.heap.size≠w.heap.size+1+1)).trans hB;have hD6:=(World.putObj_heap_other (o:=Obj.loop {rec0 with state:= .exhausted}) (by omega:w.heap.size+1≠w.heap.size+1+1)).trans hD;have hO6:=ownsRow_putObj hO (Obj.loop {rec0 with state:= .exhausted}) hlr rfl;have hg6:=El hg (w.heap.size+1+1) (Obj.loop {rec0 with state:= .exhausted}) (by omega);have hs6:=hs2.putObj (w.heap.size+1+1) (Obj.loop {rec0 with state:= .exhausted}) (by omega);generalize(W.putObj (w.heap.size+1+1) (Obj.loop {rec0 with state:= .exhausted}))=W6 at*;have hc6:=Blk.cell (cs:=[v]) hB6 0;simp only[List.getElem?_cons_zero]at hc6;clear hA hJ0 hrec;gi_wp2;refine⟨by simp,.inl ⟨_,_,rfl,run_takeDeferred hD6,?_⟩⟩;exact⟨_,results_tmp rfl _ _ _,El hg6 _ _ (by omega),_,rfl,⟨l,ownsRow_putObj hO6 _ hD6 rfl⟩,j,l',hs6.putObj _ _ (by omega)⟩
end Go.Proofs.YtgjdhajcnechdaaGreatDoor
