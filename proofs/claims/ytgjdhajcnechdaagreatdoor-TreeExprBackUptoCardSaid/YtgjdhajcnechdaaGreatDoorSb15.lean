/-
  The lexer: the iterator over the tokens. The lexer: all tokens in a slice. run, Line. Line.
-/
import Derived.Test.YtgjdhajcnechdaaGreatDoorSb14
import Derived.RangeFuncNested
import Derived.RangeFuncBound
import Derived.RangeFuncCalls
import Derived.RangeFuncLeaves
import Derived.RangeFuncBox
import Derived.Shelf.Abstract
import Derived.OwnWalkIn
import Derived.TacticsInMore
import Derived.LoopNIn
import Derived.LoopIn
import Derived.Maps.AppendAt
import Derived.Test.YtgjdhajcnechdaaGreatDoorSb03
import Derived.Test.YtgjdhajcnechdaaGreatDoorSb08
set_option linter.all false
set_option maxRecDepth 100000
set_option maxHeartbeats 8000000
namespace Go.Proofs.YtgjdhajcnechdaaGreatDoor
open Go.Proofs.Tryz
open Go.RowKit Go.Shelf
attribute [local go_sem] Oper.semAt_some
theorem GZ{F:Fence}{n:Nat}{P:Program}{c:Code}{Q:Exit→Act→World→Prop}(J:Nat→Act→World→Prop)(h0:∀a w,¬J 0 a w)(hJ:∀g a w,J (g+1) a w→c.wpIn F n P (Exit.then (J g) Q) a w):
 ∀g a w,J g a w→(Code.loop c).wpIn F n P Q a w:=by
 have key:∀g a w,J g a w→Code.roundsIn F n P c Q g a w:=by
  intro g;induction g with
  |zero=>intro a w h;exact(h0 a w h).elim
  | succ g ih=>
    intro a w h;rw[roundsIn_succ];refine wpIn_mono (hJ g a w h) ?_;intro e a' w' h';cases e with
    |normal=>exact ih a' w' h'
    |_=>exact h'
 intro g a w h;exact wpIn_loop_rounds g (key g a w h)
theorem Da{w w1:World}{r:Option Nat}(h:w.grownBy w1 r)(k:Nat)(o:Obj)(hk:w.heap.size≤k):w.grownBy (w1.putObj k o) r:=by
 refine⟨h.os,h.tape,h.output,by simpa[World.putObj]using h.size,fun i hi hr=>?_⟩;rw[←h.block i hi hr];exact World.putObj_heap_other (by omega)
theorem G2(s:Bs):∀n i line t j l m,A2 s n i line= .tok t j l m→m<n:=by
 intro n;induction n with
 |zero=>intro i line t j l m h;cases h
 | succ n ih=>
   intro i line t j l m h;rw[A2]at h;cases hs:A5 s i line with
   |tok t' j' l'=>rw[hs]at h;cases h;omega
   |again j' l'=>rw[hs]at h;have:=ih _ _ _ _ _ _ h;omega
   |stop=>rw[hs]at h;cases h
   |bad k=>rw[hs]at h;cases h
def EV(b:Nat)(s:Bs)(J:List Tok→World→Prop)(R:LexR)(w:World):Prop:=match R with
 | .ok l=>J l w∧∃j l,Sc w b s j l l (-1)
 | .bad k=>(∃l,J l w)∧∃j l,Sc w b s j l l k
 | .out=>False
theorem Sc.below{n₀:Nat}{w w1:World}{b:Nat}{s:Bs}{i:Nat}{line begun:Bool}{bad:Int}(h:Sc w b s i line begun bad)(g:Below n₀ w w1)(hb:b<n₀):Sc w1 b s i line begun bad:=⟨(g.block b hb).trans h.blk,h.le,h.few⟩
theorem Nn(m:Nat)(l cb b n₀:Nat)(s:Bs)(J:List Tok→World→Prop)(hn₀:b<n₀∧cb<n₀∧b≠cb)
 (hJ:∀pre A B,J pre A→A.grownBy B (some b)→J pre B)
 (hY:∀pre t W,J pre W→pre.length<100000→YieldAt Fence.wide m Tryz.prog l #[Bg t] W fun e W'=>e= .returned (.bool true)∧J (pre++[t]) W'∧Below n₀ W W')
 (htab:∀A B,Tabs b A→Below n₀ A B→Tabs b B)
 (n i:Nat) (line:Bool) (R:LexR) (hR:R ≠ .out) (hl:AO s n i line=R) (hn:n<100000)
 (W:World) (hcb:W.cell? ⟨cb,0,none⟩=some (.pointer (some ⟨b,0,none⟩))) (hs:Sc W b s i line line (-1)) (ht:Tabs b W) (h0:J [] W):
 CallsIn Fence.wide (m+1) Tryz.prog 103 #[.func (.yield l) #[] #[],.pointer (some ⟨cb,0,none⟩)] W fun e W'=>(∃v,e= .returned v)∧EV b s J R W':=by
 refine callsIn_of_wp func103 rfl trivial ?_ rfl;simp only[ntmps103,List.size_toArray,List.length_cons,List.length_nil,Nat.reduceAdd,Nat.reduceSub,Array.replicate_succ,Array.replicate_zero,List.push_toArray,List.append_toArray,List.nil_append,List.cons_append];gi_wp2;refine GZ (fun g a w=>∃u2 u3 u4 u5 u6 u7 u8 u9 u10 u11 u12 u13 u14 u15 u16 u17,a={tmps:=#[.func (.yield l) #[] #[],.pointer (some ⟨cb,0,none⟩),u2,u3,u4,u5,u6,u7,u8,u9,u10,u11,u12,u13,u14,u15,u16,u17],defers:=[]}∧
  ∃pre k q i' line',k<g∧pre.length+k<100000∧q≤k∧(AO s q i' line').pre pre=R∧w.cell? ⟨cb,0,none⟩=some (.pointer (some ⟨b,0,none⟩))∧Sc w b s i' line' line' (-1)∧Tabs b w∧J pre w) ?_ ?_ (n+1) _ _ ?_
 ·rintro a w ⟨u2,u3,u4,u5,u6,u7,u8,u9,u10,u11,u12,u13,u14,u15,u16,u17,_,pre,k,q,i',line',h,_⟩;omega
 ·rintro g a w ⟨u2,u3,u4,u5,u6,u7,u8,u9,u10,u11,u12,u13,u14,u15,u16,u17,rfl,pre,k,q,i',line',hk,hlen,hqk,hR',hc,hsc,htb,hj⟩;have hnx:A2 s q i' line' ≠ .out:=by
   intro e;rw[E4,e]at hR';exact hR hR'.symm
  have hlx:=E4 s q i' line';have hN:=LB hsc htb hnx;have HN:=I (X hR' (X hlx hN));have hlt:=G2 s q i' line';have HLT:=I hlt;clear hN hlx hR' hnx hlt;have hcl:=World.block_lt_of_cell? w _ hc;have hbl:=hsc.lt;gi_wp2_with fail;refine⟨trivial,(callsIn_wide.2 HN.out.2.2).mono ?_⟩;intro e w1 hp;obtain⟨g1,hp⟩:=hp;have hc1:=Bw g1 hc (by simp;omega);have ht1:=htb.gb g1 (by simp);have hj1:=hJ _ _ _ hj g1;have hw1:=g1.size;cases hq:A2 s q i' line' with
  |out=>rw[hq]at hp;exact hp.elim
  | stop=>
    rw[hq]at hp;obtain⟨⟨t,rfl⟩,j,l',hs1⟩:=hp;have HR:=I (show R= .ok pre by rw[←HN.out.1,HN.out.2.1,hq];simp[LexR.pre]);clear hq;gi_wp2;refine⟨fun _ h=>(by cases h),?_⟩;gi_wp2;refine bodyPost_ret (results_none rfl _ _ _) rfl ⟨⟨_,rfl⟩,?_⟩;rw[HR.out];exact⟨hJ _ _ _ hj1 (World.grownBy_alloc w1 _ _),j,l',hs1.alloc _⟩
  | bad k'=>
    rw[hq]at hp;obtain⟨⟨t,rfl⟩,j,l',hs1⟩:=hp;have HR:=I (show R= .bad k' by rw[←HN.out.1,HN.out.2.1,hq];simp[LexR.pre]);clear hq;gi_wp2;refine⟨fun _ h=>(by cases h),?_⟩;gi_wp2;refine bodyPost_ret (results_none rfl _ _ _) rfl ⟨⟨_,rfl⟩,?_⟩;rw[HR.out];exact⟨⟨_,hJ _ _ _ hj1 (World.grownBy_alloc w1 _ _)⟩,j,l',hs1.alloc _⟩
  | tok t j l' m'=>
    rw[hq]at hp;obtain⟨rfl,hs1⟩:=hp;have HR:=I (show(AO s m' j l').pre (pre++[t])=R by rw[←HN.out.1,HN.out.2.1,hq,←LexR.pre_cons]);have hm':=HLT.out _ _ _ _ hq;clear hq;have gA:=World.grownBy_alloc w1 (.cells #[.int .i64 t.kind,.int .i64 t.pos,str t.text] 105 (0,0)) (some b);obtain⟨fn,tmps,assign,body,hy,hRd⟩:=hY pre t _ (hJ _ _ _ hj1 gA) (by omega);gi_wp2_with fail;refine hRd.mono ?_;rintro e W3 ⟨rfl,hj3,hb3⟩;have hc3:=(hb3.cell (p:=⟨cb,0,none⟩) hn₀.2.1).trans (Bw gA hc1 (by simp;omega));have hs3:=(hs1.alloc (.cells #[.int .i64 t.kind,.int .i64 t.pos,str t.text] 105 (0,0))).below hb3 hn₀.1;have ht3:=htab _ _ (ht1.gb gA (by simp)) hb3;clear hRd hy;gi_wp2;exact⟨_,_,_,_,_,_,_,_,_,_,_,_,_,_,_,_,rfl,pre++[t],k-1,m',j,l',by omega,by simp;omega,by omega,HR.out,hc3,hs3,ht3,hj3⟩
 ·exact⟨_,_,_,_,_,_,_,_,_,_,_,_,_,_,_,_,rfl,[],n,n,i,line,by omega,by simp;omega,Nat.le_refl _,by rw[LexR.pre_nil];exact hl,hcb,hs,ht,h0⟩
attribute [local go_sem] Oper.semAt_some
def CF(t:Tok):List Value:=[.int .i64 t.kind,.int .i64 t.pos,str t.text]
def BL(l:List Tok):List Value:=l.flatMap CF
theorem Ip(l:List Tok)(t:Tok):BL (l++[t])=BL l++CF t:=by simp[BL]
def ColJ(w:World)(b lr:Nat)(rec:Loop)(pre:List Tok)(W:World):Prop:=
 ∃v,Blk W w.heap.size [v] 71∧W.ownsRow (w.heap.size+3) 105 3 v pre.length (BL pre)∧W.heap[lr]? =some (.loop rec)∧W.heap[w.heap.size+1]? =some (.deferred (some []))∧w.grownBy W (some b)
theorem ColJ.gb{w:World}{b lr:Nat}{rec:Loop}{pre:List Tok}{A B:World}(h:ColJ w b lr rec pre A)(g:A.grownBy B (some b))(hb:b<w.heap.size)(hl:b<lr):ColJ w b lr rec pre B:=by
 obtain⟨v,h1,h2,h3,h4,h5⟩:=h;exact⟨v,h1.gb g (by simp;omega),Dc h2 g (by intro k hk _ e;cases e;omega),C9 g h3 (by simp;omega),C9 g h4 (by simp;omega),O h5 g⟩
theorem Tabs.below{B n:Nat}{w w1:World}(h:Tabs B w)(g:Below n w w1)(hB:B≤n):Tabs B w1:=by
 have hlow:=h.low;refine⟨⟨fun c hc=>(g.cell (p:=⟨_,_,none⟩) (by simp<;>omega)).trans (h.utf8.1 c hc),fun i hi=>⟨(g.cell (p:=⟨_,_,none⟩) (by simp<;>omega)).trans (h.utf8.2 i hi).1,(g.cell (p:=⟨_,_,none⟩) (by simp<;>omega)).trans (h.utf8.2 i hi).2⟩⟩,hlow,?_,?_⟩
 ·obtain⟨R,oR,cap,hR,hc,ht⟩:=h.case;refine⟨R,oR,cap,hR,(g.cell (p:=⟨_,_,none⟩) (by simp<;>omega)).trans hc,fun i hi=>?_⟩;have:=ht i hi;have hk:R<n:=by omega
  exact⟨(g.cell (p:=⟨_,_,none⟩) hk).trans this.1,(g.cell (p:=⟨_,_,none⟩) hk).trans this.2.1,(g.cell (p:=⟨_,_,none⟩) hk).trans this.2.2.1,(g.cell (p:=⟨_,_,none⟩) hk).trans this.2.2.2.1,(g.cell (p:=⟨_,_,none⟩) hk).trans this.2.2.2.2⟩
 ·have hg:=h.glob;unfold Glob Lib.TabIs World.var? at*;simp only[Dy,Option.bind_some]at hg ⊢;rw[g.block _ (by omega)];exact hg
theorem Sc.putObj{w:World}{b:Nat}{s:Bs}{i:Nat}{line begun:Bool}{bad:Int}(h:Sc w b s i line begun bad)(k:Nat)(o:Obj)(hk:k≠b):Sc (w.putObj k o) b s i line begun bad:=⟨(World.putObj_heap_other hk.symm).trans h.blk,h.le,h.few⟩
theorem Gu{n k:Nat}(h:n≤k)(W3:World)(o:Obj):Below n W3 (W3.putObj k o):=
 ⟨rfl,rfl,rfl,by simp[World.putObj],fun i hi=>World.putObj_heap_other (by omega)⟩
structure ColR(w W:World)(b lr:Nat)(rec:Loop)(t:Tok)(v:Value)(pre:List Tok)(W2:World):Prop where
 box:Blk W2 w.heap.size [v] 71
 tok:Blk W2 W.heap.size [.int .i64 t.kind,.int .i64 t.pos,str t.text] 105
 row:W2.ownsRow (w.heap.size+3) 105 3 v pre.length (BL pre)
 loop:W2.heap[lr]? =some (.loop {rec with state:= .busy})
 dfr:W2.heap[w.heap.size+1]? =some (.deferred (some []))
 g:w.grownBy W2 (some b)
 below:Below w.heap.size W W2
theorem GW{F:Fence}{n:Nat}{P:Program}{g:Operand}{ps:Array Tmp}{assign body:Code}{Q:Exit→Act→World→Prop}{a:Act}{w:World}
 (hro:F.round=none) (h1:1≤n) {gf:Nat} {lb:Array Value} (hg:a.eval g= .func (.func gf) #[] lb) (hFg:F.fn gf) (eg:∀args w,(callFunc gf args).run P w= .ok (.enter gf args) w)
 (h:∀fn,F.fn fn→CallsIn F (n-1) P gf (#[.func (.yield (w.heap.size+1)) #[] #[]]++lb) ((w.alloc (.deferred (some []))).alloc (.loop {state:= .ready,pending:=none,fn:=fn,tmps:=a.tmps,params:=ps,assign:=assign,body:=body,defers:=w.heap.size}))
  fun e W=>(∃v,e= .returned v)∧∃r,W.heap[w.heap.size+1]? =some (.loop r)∧r.state ≠ .busy∧r.pending=none∧Q .normal {a with defers:={target:= .collected w.heap.size,args:=#[]}::a.defers} (W.putObj (w.heap.size+1) (.loop {r with state:= .exhausted}))):
 (Code.rangeFunc g ps assign body).wpIn F n P Q a w:=by
 refine wpIn_rangeFunc ?_;intro fn hfn;rw[hro];refine⟨w.heap.size+1,[{target:= .collected w.heap.size,args:=#[]}],(w.alloc (.deferred (some []))).alloc (.loop {state:= .ready,pending:=none,fn:=fn,tmps:=a.tmps,params:=ps,assign:=assign,body:=body,defers:=w.heap.size}),
  {target:= .fn (.func gf) lb,args:=#[.func (.yield (w.heap.size+1)) #[] #[]]},(w.alloc (.deferred (some []))).alloc (.loop {state:= .ready,pending:=none,fn:=fn,tmps:=a.tmps,params:=ps,assign:=assign,body:=body,defers:=w.heap.size}),gf,
  #[.func (.yield (w.heap.size+1)) #[] #[]]++lb,(w.alloc (.deferred (some []))).alloc (.loop {state:= .ready,pending:=none,fn:=fn,tmps:=a.tmps,params:=ps,assign:=assign,body:=body,defers:=w.heap.size}),run_enterLoop_outer _ _ _ _ _,?_,?_,?_,fun _=>h1,?_⟩
 ·simp only[resolve,hg];simp[go_sem]
 ·intro f' hf';simp[Target.leads]at hf';subst hf';exact hFg
 ·simp[invoke,go_sem,eg]
 ·refine(h fn hfn).mono ?_;rintro e W ⟨⟨v,rfl⟩,r,hr,hb,hp,hq⟩;exact⟨none,_,(run_endLoop (P:=P) hr hb).trans (congrArg (fun p=>Result.ok p _) hp),hq⟩
theorem Hf{w:World}{b cb i n:Nat}{s:Bs}{line:Bool}{R:LexR}(hbc:b≠cb)(hcb:w.cell? ⟨cb,0,none⟩=some (.pointer (some ⟨b,0,none⟩)))(hs:Sc w b s i line line (-1))(ht:Tabs b w)
 (hR:R ≠ .out) (hl:AO s n i line=R) (hn:n<100000):
 Calls Tryz.prog 102 #[.slice none 0 0,.func (.func 103) #[] #[.pointer (some ⟨cb,0,none⟩)]] w
  fun e w'=>w.grownBy w' (some b)∧(∃v,e= .returned v∧EV b s (fun l W=>W.ownsRow (w.heap.size+3) 105 3 v l.length (BL l)) R w'):=by
 have hb:=hs.lt;have hcl:=World.block_lt_of_cell? w _ hcb;refine(callsIn_wide (n:=6)).1 ?_;refine callsIn_of_wp_marks func102 rfl trivial ?_ rfl;simp only[ntmps102,List.size_toArray,List.length_cons,List.length_nil,Nat.reduceAdd,Nat.reduceSub,Array.replicate_succ,Array.replicate_zero,List.push_toArray,List.append_toArray,List.nil_append,List.cons_append];gi_wp2;refine GW rfl (by omega) (gf:=103) (lb:=#[.pointer (some ⟨cb,0,none⟩)]) rfl trivial (enters_of func103 (by kernel_rfl) rfl) ?_;intro fn hfn;have hsz:(w.alloc (.cells #[.slice none 0 0] 71)).heap.size=w.heap.size+1:=by simp
 rw[hsz];generalize hrec:Loop.mk _ _ _ _ _ _ _ _=rec0;have g0:w.grownBy (((w.alloc (.cells #[.slice none 0 0] 71)).alloc (.deferred (some []))).alloc (.loop rec0)) none:=Aa (Aa (World.grownBy_alloc w _ none) _) _;have hJ0:ColJ w b (w.heap.size+1+1) rec0 [] (((w.alloc (.cells #[.slice none 0 0] 71)).alloc (.deferred (some []))).alloc (.loop rec0)):=by
  refine⟨.slice none 0 0,((Blk.new w [.slice none 0 0] 71).alloc _).alloc _,World.ownsRow_nil _ _ _ _,?_,?_,AW g0⟩
  ·have:=World.alloc_heap_new ((w.alloc (.cells #[.slice none 0 0] 71)).alloc (.deferred (some []))) (.loop rec0);simpa using this
  ·have:=World.alloc_heap_new (w.alloc (.cells #[.slice none 0 0] 71)) (.deferred (some []));rw[hsz]at this;exact(Below.heap_alloc _ _ _ (by simp)).trans this
 have hA:=Nn 4 (w.heap.size+1+1) cb b w.heap.size s (ColJ w b (w.heap.size+1+1) rec0) ⟨hb,hcl,hbc⟩ (fun pre A B h g=>h.gb g hb (by omega)) ?hY
  (fun A B h g=>?htab) n i line R hR hl hn _ (Ab g0 hcb) (hs.gbN g0) (ht.gbN g0) hJ0
 case htab=>exact h.below g (by omega)
 case hY=>
  rintro pre t W ⟨v,hB,hO,hlr,hD,hg⟩ hlen;have hpar:rec0.params=#[7]:=by rw[←hrec]
  have hsize:=hg.size;have hlr1:(W.alloc (.cells #[.int .i64 t.kind,.int .i64 t.pos,str t.text] 105)).heap[w.heap.size+1+1]? =some (.loop rec0):=(Below.heap_alloc _ _ _ (Array.getElem?_eq_some_iff.1 hlr).1).trans hlr;refine⟨_,_,_,_,run_yield hlr (by rw[hpar];rfl),roundIn_of_wpIn trivial ?_⟩;obtain⟨post,hpost⟩:∃post:Ending→World→Prop,post=fun e W'=>e= .returned (.bool true)∧ColJ w b (w.heap.size+1+1) rec0 (pre++[t]) W'∧Below w.heap.size W W':=⟨_,rfl⟩;rw[←hpost];have hfin:∀(W3:World),W3.heap[w.heap.size+1+1]? =some (.loop {rec0 with state:= .busy})→(ColJ w b (w.heap.size+1+1) rec0 (pre++[t]) (W3.putObj (w.heap.size+1+1) (.loop rec0))∧Below w.heap.size W W3)→∀a,roundPost Tryz.prog (w.heap.size+1+1) post .normal a W3:=by
   intro W3 h3 hc a;refine⟨_,_,run_endRound none h3,?_⟩;have he:({({rec0 with state:= .busy}:Loop)with state:=if(Option.isNone (none:Option Code))then .ready else .done,pending:=none}:Loop)=rec0:=by rw[←hrec];rfl
   rw[he,hpost];exact⟨rfl,hc.1,hc.2.trans (Gu (n:=w.heap.size) (by omega) W3 _)⟩
  have hst:rec0.state= .ready:=by rw[←hrec]
  have HF:=I (X hlr1 (X hfin hst));clear hlr1 hfin hpar hst;clear hpost;rw[←hrec];simp only[];gi_wp2;refine⟨_,run_beginRound HF.out.1 HF.out.2.2,?_⟩;have gA:=World.grownBy_alloc W (.cells #[.int .i64 t.kind,.int .i64 t.pos,str t.text] 105 (0,0)) none;have hltR:=(Array.getElem?_eq_some_iff.1 hlr).1;have h2:ColR w W b (w.heap.size+1+1) rec0 t v pre ((W.alloc (.cells #[.int .i64 t.kind,.int .i64 t.pos,str t.text] 105 (0,0))).putObj (w.heap.size+1+1) (.loop {rec0 with state:= .busy})):=by
   have hlA:w.heap.size+1+1≠W.heap.size:=by omega
   have hne2:w.heap.size+1+1<(W.alloc (.cells #[.int .i64 t.kind,.int .i64 t.pos,str t.text] 105 (0,0))).heap.size:=by simp;omega
   refine⟨(World.putObj_heap_other (by omega)).trans (hB.alloc _),(World.putObj_heap_other (fun e=>hlA e.symm)).trans (Blk.new W [.int .i64 t.kind,.int .i64 t.pos,str t.text] _),ownsRow_putObj (hO.alloc _) _ ((Below.heap_alloc _ _ _ hltR).trans hlr) rfl,World.putObj_heap_same hne2,(World.putObj_heap_other (by omega)).trans ((Below.heap_alloc _ _ _ (by omega)).trans hD),Da (Aa hg _) _ _ (by omega),(Gy gA).mono hsize|>.trans (Gu (by omega) _ _)⟩
  generalize(W.alloc (.cells #[.int .i64 t.kind,.int .i64 t.pos,str t.text] 105 (0,0))).putObj (w.heap.size+1+1) (.loop {rec0 with state:= .busy})=W2 at*;have hb2:=h2.box.cell 0;have hf2:=h2.box.frozen 0;have k0:=h2.tok.cell 0;have k1:=h2.tok.cell 1;have k2:=h2.tok.cell 2;simp only[List.getElem?_cons_zero,List.getElem?_cons_succ]at hb2 k0 k1 k2;have hsz2:=h2.g.size;obtain⟨i0,hi,hz0,hz1,hz2⟩:=info_parts Mt;have hsz3:=(Array.getElem?_eq_some_iff.1 h2.loop).1;gi_wp2_with (gi_at_builtin;refine wpListIn_append_own _ rfl (.tmp 8) (.tmp 10) 71 rfl (w.heap.size+3) 105 i0 _ 3 32 underlying71 hi hz0 hz1 hz2 rfl (by decide) v pre.length (BL pre) rfl (h2.row.alloc _) ⟨W2.heap.size,0,none⟩ 1 1 (CF t) rfl rfl (Db W2 (CF t) 105) (by simp[CF,Value.oneCell']) (by unfold maxLen;omega) (by omega) (by simp;omega) ?_;intro v' w1 hown' hgrow _;obtain⟨g',cap',rfl⟩:=ownsRow_succ hown';(have hne:∀k,k<w.heap.size+3→some k≠v.ownBlock:=fun k hk e=>by have:=(h2.row.lt _ e.symm).1;omega);(have hbx:=(h2.box.alloc (.cells (CF t).toArray 105 (0,0))).gb hgrow (hne _ (by omega)));(have hx0:=hbx.cell 0);(have hxf:=hbx.frozen 0);(have hxl:=hbx.lt);(simp only[List.getElem?_cons_zero]at hx0));have hl5:=(Below.heap_setCell w1 ⟨w.heap.size,0,none⟩ (Value.slice (some ⟨g',0,none⟩) (pre.length+1) cap') (w.heap.size+1+1) (by simp;omega)).trans (C9 hgrow ((Below.heap_alloc _ _ _ hsz3).trans h2.loop) (hne _ (by omega)))
  have hd5:=(Below.heap_setCell w1 ⟨w.heap.size,0,none⟩ (Value.slice (some ⟨g',0,none⟩) (pre.length+1) cap') (w.heap.size+1) (by simp)).trans (C9 hgrow ((Below.heap_alloc _ _ _ (by omega)).trans h2.dfr) (hne _ (by omega)));have hb5:Below w.heap.size W2 (w1.setCell ⟨w.heap.size,0,none⟩ (Value.slice (some ⟨g',0,none⟩) (pre.length+1) cap')):=
   ⟨hgrow.os,hgrow.tape,hgrow.output,by have:=hgrow.size;simp at this ⊢;omega,fun k hk=>(Below.heap_setCell _ _ _ _ (by simp;omega)).trans ((hgrow.block k (by simp;omega) (fun e=>hne k (by omega) e)).trans (Below.heap_alloc _ _ _ (by omega)))⟩
  have hr5:=ownsRow_putObj (Dc hown' (BD (Ac w1 (some w.heap.size)) 0 (Value.slice (some ⟨g',0,none⟩) (pre.length+1) cap')) (by intro k hk _ e;cases e;omega)) (Obj.loop rec0) hl5 rfl;refine HF.out.2.1 _ hl5 ⟨⟨_,(World.putObj_heap_other (by omega)).trans (hbx.set 0 _),?_,World.putObj_heap_same (Array.getElem?_eq_some_iff.1 hl5).1,(World.putObj_heap_other (by omega)).trans hd5,?_⟩,h2.below.trans hb5⟩ _
  ·rw[Ip,List.length_append];exact hr5
  ·refine Da ?_ _ _ (by omega);have g2:w.grownBy w1 (some b):=⟨hgrow.os.trans h2.g.os,hgrow.tape.trans h2.g.tape,hgrow.output.trans h2.g.output,by have:=hgrow.size;simp at this;omega,fun k hk hkb=>((hgrow.block k (by simp;omega) (fun e=>hne k (by omega) e)).trans (Below.heap_alloc _ _ _ (by omega))).trans (h2.g.block k hk hkb)⟩;exact Ax g2 _ _ (.inr (Nat.le_refl _))
 simp only[List.append_toArray,List.cons_append,List.nil_append];refine hA.mono ?_;rintro e W ⟨⟨v0,rfl⟩,hE⟩;refine⟨⟨_,rfl⟩,rec0,?_⟩;cases R with
 |out=>exact absurd rfl hR
 | ok l=>
   obtain⟨⟨v,hB,hO,hlr,hD,hg⟩,j,l',hs2⟩:=hE;refine⟨hlr,by rw[←hrec];simp,by rw[←hrec],?_⟩;have hB6:=(World.putObj_heap_other (o:=Obj.loop {rec0 with state:= .exhausted}) (by omega:w.heap.size≠w.heap.size+1+1)).trans hB;have hD6:=(World.putObj_heap_other (o:=Obj.loop {rec0 with state:= .exhausted}) (by omega:w.heap.size+1≠w.heap.size+1+1)).trans hD;have hO6:=ownsRow_putObj hO (Obj.loop {rec0 with state:= .exhausted}) hlr rfl;have hg6:=Da hg (w.heap.size+1+1) (Obj.loop {rec0 with state:= .exhausted}) (by omega);have hs6:=hs2.putObj (w.heap.size+1+1) (Obj.loop {rec0 with state:= .exhausted}) (by omega);generalize(W.putObj (w.heap.size+1+1) (Obj.loop {rec0 with state:= .exhausted}))=W6 at*;have hc6:=Blk.cell (cs:=[v]) hB6 0;simp only[List.getElem?_cons_zero]at hc6;clear hA hJ0 hrec;gi_wp2;refine⟨by simp,.inl ⟨_,_,rfl,run_takeDeferred hD6,?_⟩⟩;exact⟨_,results_tmp rfl _ _ _,Da hg6 _ _ (by omega),_,rfl,ownsRow_putObj hO6 _ hD6 rfl,j,l',hs6.putObj _ _ (by omega)⟩
 | bad k=>
   obtain⟨⟨l,v,hB,hO,hlr,hD,hg⟩,j,l',hs2⟩:=hE;refine⟨hlr,by rw[←hrec];simp,by rw[←hrec],?_⟩;have hB6:=(World.putObj_heap_other (o:=Obj.loop {rec0 with state:= .exhausted}) (by omega:w.heap.size≠w.heap.size+1+1)).trans hB;have hD6:=(World.putObj_heap_other (o:=Obj.loop {rec0 with state:= .exhausted}) (by omega:w.heap.size+1≠w.heap.size+1+1)).trans hD;have hO6:=ownsRow_putObj hO (Obj.loop {rec0 with state:= .exhausted}) hlr rfl;have hg6:=Da hg (w.heap.size+1+1) (Obj.loop {rec0 with state:= .exhausted}) (by omega);have hs6:=hs2.putObj (w.heap.size+1+1) (Obj.loop {rec0 with state:= .exhausted}) (by omega);generalize(W.putObj (w.heap.size+1+1) (Obj.loop {rec0 with state:= .exhausted}))=W6 at*;have hc6:=Blk.cell (cs:=[v]) hB6 0;simp only[List.getElem?_cons_zero]at hc6;clear hA hJ0 hrec;gi_wp2;refine⟨by simp,.inl ⟨_,_,rfl,run_takeDeferred hD6,?_⟩⟩;exact⟨_,results_tmp rfl _ _ _,Da hg6 _ _ (by omega),_,rfl,⟨l,ownsRow_putObj hO6 _ hD6 rfl⟩,j,l',hs6.putObj _ _ (by omega)⟩
structure Grown2(w w':World)(b k:Nat):Prop where
 os:w'.os=w.os
 tape:w'.tape=w.tape
 output:w'.output=w.output
 size:w.heap.size≤w'.heap.size
 block:∀i,i<w.heap.size→i≠b→i≠k→w'.heap[i]? =w.heap[i]?
section
variable {w w1 w2:World}{b k:Nat}{r:Option Nat}
theorem Grown2.of(g:w.grownBy w1 r)(hr:r=none∨r=some b∨r=some k):Grown2 w w1 b k:=
 ⟨g.os,g.tape,g.output,g.size,fun i hi hb hk=>g.block i hi (by rcases hr with rfl|rfl|rfl<;>simp<;>assumption)⟩
theorem Grown2.trans(h:Grown2 w w1 b k)(g:Grown2 w1 w2 b k):Grown2 w w2 b k:=
 ⟨g.os.trans h.os,g.tape.trans h.tape,g.output.trans h.output,Nat.le_trans h.size g.size,fun i hi hb hk=>(g.block i (Nat.lt_of_lt_of_le hi h.size) hb hk).trans (h.block i hi hb hk)⟩
theorem Grown2.gb(g0:w.grownBy w1 none)(h:Grown2 w1 w2 b k)(hb:w.heap.size≤b):w.grownBy w2 (some k):=
 ⟨h.os.trans g0.os,h.tape.trans g0.tape,h.output.trans g0.output,Nat.le_trans g0.size h.size,fun i hi hk=>(h.block i (Nat.lt_of_lt_of_le hi g0.size) (by omega) (by simpa using hk)).trans (g0.block i hi (by simp))⟩
theorem Grown2.blk{cs:List Value}{t:TypeId}{i:Nat}(h:Grown2 w w1 b k)(hB:Blk w i cs t)(h1:i≠b)(h2:i≠k):Blk w1 i cs t:=(h.block i hB.lt h1 h2).trans hB
end
def BC{α:Type}(l:List Tok):Res α→Int
 | .ok _ j=>if j<l.length then j else -1
 | .bad q=>q
 | .out=>0
def EC{α:Type}(b k:Nat)(w1:World)(U:World→Prop)(V:Nat→World→α→Prop)(M:Res α)(e:Ending)(w2:World):Prop:=
 Grown2 w1 w2 b k∧U w2∧match M with
  | .ok a j=>e= .returned (.tuple #[])∧V w1.heap.size w2 a∧w2.cell? ⟨b,1,none⟩=some (.int .i64 j)
  | .bad q=>e= .panicked (D7 q)
  | .out=>False
def Nm{α:Type}(l:List Tok)(k:Nat)(w:World)(U:World→Prop)(V:Nat→World→α→Prop)(M:Res α)(e:Ending)(w':World):Prop:=
 e= .returned (.int .i64 (BC l M))∧w.grownBy w' (some k)∧U w'∧∀a j,M= .ok a j→∃B,w.heap.size≤B∧V B w' a
theorem GK{w:World}(hg:Glob w){tv:Value}{l:List Tok}(ht:TRow w tv l (fun _=>True))(hlen:l.length≤4001)(gf:Nat)(cap:Array Value)
 (hcf:∀v w,(callFunc gf (#[v]++cap)).run Tryz.prog w= .ok (.enter gf (#[v]++cap)) w) {α:Type} (M:Res α) (k:Nat) (hk:k<w.heap.size) (U:World→Prop) (hU:∀w2 w3 r,U w2→w2.grownBy w3 (some r)→w.heap.size≤r→U w3) (V:Nat→World→α→Prop)
 (hV:∀B w2 w3 a r,V B w2 a→w2.grownBy w3 (some r)→w.heap.size≤r→r<B→V B w3 a)
 (hrule:∀w1 b wv,w.grownBy w1 none→w.heap.size≤b→Par w1 b tv wv l wordsL 0→SRow w1 wv wordsL (fun g=>w.heap.size≤g∧g<b)→Calls Tryz.prog gf (#[.pointer (some ⟨b,0,none⟩)]++cap) w1 (EC b k w1 U V M)):
 Calls Tryz.prog 65 #[tv,.func (.func gf) #[] cap] w (Nm l k w U V M):=by
 have hmf:∀(fn:Fn)(first cap:Array Value)(w:World),(Instr.makeFunc fn first cap).run Tryz.prog w= .ok (.func fn first cap) w:=fun _ _ _ _=>rfl;obtain⟨ta,tc,rfl,_⟩:=id ht;have g0:w.grownBy (w.alloc (.cells #[.int .i64 0] 3 (0,0))) none:=World.grownBy_alloc w _ none;have hR:=Blk.new w [.int .i64 0] 3;go_enter_defers func65,ntmps65;go_wp2_with fail;refine(KY (hg.gb g0 (by simp))).mono ?_;rintro e wA ⟨wv,rfl,hS,gA⟩;obtain⟨wa,wc,rfl,_⟩:=id hS;have gA0:=O g0 gA;have hA:=World.grownBy_alloc wA (.cells #[.slice ta l.length tc,.int .i64 0,.slice wa wordsL.length wc,.slice none 0 0] 152 (0,0)) none;have hPar:Par (wA.alloc (.cells [.slice ta l.length tc,.int .i64 0,.slice wa wordsL.length wc,.slice none 0 0].toArray 152 (0,0))) wA.heap.size (.slice ta l.length tc) (.slice wa wordsL.length wc) l wordsL 0:=by
  refine⟨Blk.new wA _ _,?_,?_,Nat.zero_le _,hlen⟩
  ·obtain⟨a,c,e,h1,h2,h3⟩:=ht;refine⟨a,c,e,h1,h2,fun j hj=>?_⟩;obtain⟨lb,lo,ea,_,c0,c1,c2⟩:=h3 j hj;have hlt:=World.block_lt_of_cell? w _ c0;have:=gA0.size;exact⟨lb,lo,ea,by simp at hlt;omega,Ab hA (Ab gA0 c0),Ab hA (Ab gA0 c1),Ab hA (Ab gA0 c2)⟩
  ·obtain⟨a,c,e,h1,h2,h3⟩:=hS;refine⟨a,c,e,h1,h2,fun j hj=>?_⟩;obtain⟨lb,lo,ea,_,c0⟩:=h3 j hj;have hlt:=World.block_lt_of_cell? wA _ c0;exact⟨lb,lo,ea,hlt,Ab hA c0⟩
 have hWd:SRow (wA.alloc (.cells [.slice ta l.length tc,.int .i64 0,.slice wa wordsL.length wc,.slice none 0 0].toArray 152 (0,0))) (.slice wa wordsL.length wc) wordsL (fun g=>w.heap.size≤g∧g<wA.heap.size):=by
  obtain⟨a,c,e,h1,h2,h3⟩:=hS;refine⟨a,c,e,h1,h2,fun j hj=>?_⟩;obtain⟨lb,lo,ea,hge,c0⟩:=h3 j hj;have hlt:=World.block_lt_of_cell? wA _ c0;exact⟨lb,lo,ea,⟨by simp at hge;omega,hlt⟩,Ab hA c0⟩
 have gB:=O gA0 hA;have hsA:=gA.size;simp at hsA;have hR2:=(hR.gb gA (by simp)).gb hA (by simp);go_wp2_with fail;refine(hrule _ _ _ gB (by omega) hPar hWd).mono ?_;rintro e w2 ⟨g2,hu,h2⟩;have hR3:=g2.blk hR2 (by omega) (by omega);have gC:=Grown2.gb gB g2 (by omega);cases hM:M with
 |out=>rw[hM]at h2;exact h2.elim
 | bad q=>
   rw[hM]at h2;subst h2;refine leaves_cons (f:=105) (args:=#[.pointer (some ⟨w.heap.size,0,none⟩)]) (by simp) (by simp[go_sem]) ?_;refine(FD (hR3.cell 0) (hR3.frozen 0)).mono ?_;rintro e u' w3 ⟨rfl,rfl,rfl⟩;have hc:=((hR3.set 0 (.int .i64 q)).alloc (.cells #[.int .i64 q] 148 (0,0))).cell 0;refine⟨.int .i64 q,by simp[results,results65,go_sem,hc],rfl,Aa (Ax gC _ _ (.inr (Nat.le_refl _))) _,hU _ _ _ hu (Aa (Ax (Ac _ (some w.heap.size)) _ _ (.inl rfl)) _) (Nat.le_refl _),by simp⟩
 | ok a j=>
   rw[hM]at h2;obtain⟨rfl,hVa,c1⟩:=h2;by_cases hj:j<l.length
   ·go_wp2_with fail;refine(CH c1).mono ?_;rintro e w3 ⟨rfl,rfl⟩;refine leaves_cons (f:=105) (args:=#[.pointer (some ⟨w.heap.size,0,none⟩)]) (by simp) (by simp[go_sem]) ?_;refine(FD (hR3.cell 0) (hR3.frozen 0)).mono ?_;rintro e u' w3 ⟨rfl,rfl,rfl⟩;have hc:=((hR3.set 0 (.int .i64 j)).alloc (.cells #[.int .i64 j] 148 (0,0))).cell 0;refine⟨.int .i64 j,by simp[results,results65,go_sem,hc],by simp[BC,hj],Aa (Ax gC _ _ (.inr (Nat.le_refl _))) _,hU _ _ _ hu (Aa (Ax (Ac _ (some w.heap.size)) _ _ (.inl rfl)) _) (Nat.le_refl _),?_⟩;rintro a' j' ⟨⟩;exact⟨_,gB.size,hV _ _ _ _ _ hVa (Aa (Ax (Ac _ (some w.heap.size)) _ _ (.inl rfl)) _) (Nat.le_refl _) (by simp;omega)⟩
   ·have hc0:=hR3.cell 0;have hf0:=hR3.frozen 0;simp only[List.getElem?_cons_zero]at hc0;go_wp2;refine leaves_cons (f:=105) (args:=#[.pointer (some ⟨w.heap.size,0,none⟩)]) (by simp) (by simp[go_sem]) ?_;refine(JV ⟨w.heap.size,0,none⟩ _).mono ?_;rintro e u' w3 ⟨rfl,rfl,rfl⟩;have hc:=(hR3.set 0 (.int .i64 (-1))).cell 0;refine⟨.int .i64 (-1),by simp[results,results65,go_sem,hc],by simp[BC,hM,hj],Ax gC _ _ (.inr (Nat.le_refl _)),hU _ _ _ hu (Ax (Ac _ (some w.heap.size)) _ _ (.inl rfl)) (Nat.le_refl _),?_⟩;rintro a' j' e';rw[hM]at e';cases e';exact⟨_,gB.size,hV _ _ _ _ _ hVa (Ax (Ac _ (some w.heap.size)) _ _ (.inl rfl)) (Nat.le_refl _) (by simp;omega)⟩
def Bt(l:List Tok)(day:Bs→Int)(n:Nat):Res Ex:=(Ap l day n 0).bind fun x i=>(BZ l i).bind fun _ j=> .ok x j
def HoldsE(k B:Nat)(w:World)(x:Ex):Prop:=∃pa pc la lc,Blk w k (hdC x.h (.slice pa x.h.p.length pc) (.slice la x.kids.len lc)) 27∧
 Cells w (.slice pa x.h.p.length pc) 1 x.h.p.length (x.h.p.map str) (AD B)∧RepL (AD B) w (.slice la x.kids.len lc) x.kids
def SomeE(k:Nat)(w:World):Prop:=∃h pa pn pc la ln lc,Blk w k (hdC h (.slice pa pn pc) (.slice la ln lc)) 27
theorem SomeE.gb{k:Nat}{w w1:World}{r:Option Nat}(h:SomeE k w)(g:w.grownBy w1 r)(h1:r≠some k):SomeE k w1:=by
 obtain⟨h,pa,pn,pc,la,ln,lc,hb⟩:=h;exact⟨h,pa,pn,pc,la,ln,lc,hb.gb g (fun e=>h1 e.symm)⟩
theorem HoldsE.gb{k B:Nat}{w w1:World}{x:Ex}{r:Option Nat}(h:HoldsE k B w x)(g:w.grownBy w1 r)(h1:r≠some k)(h2:∀q,r=some q→q<B):HoldsE k B w1 x:=by
 obtain⟨pa,pc,la,lc,hb,hp,hl⟩:=h;have hk:∀q,AD B q→q<w.heap.size→some q≠r:=fun q hq _ e=>by have:=h2 q e.symm;simp at hq;omega
 exact⟨pa,pc,la,lc,hb.gb g (fun e=>h1 e.symm),hp.gb g hk,hl.gb g hk⟩
theorem TRow.mono{w:World}{v:Value}{l:List Tok}{ok ok':Nat→Prop}(h:TRow w v l ok)(hk:∀k,ok k→k<w.heap.size→ok' k):TRow w v l ok':=by
 obtain⟨a,cap,e,h1,h2,h3⟩:=h;refine⟨a,cap,e,h1,h2,fun j hj=>?_⟩;obtain⟨lb,lo,ea,ho,c0,c1,c2⟩:=h3 j hj;exact⟨lb,lo,ea,hk _ ho (World.block_lt_of_cell? w _ c0),c0,c1,c2⟩
theorem SRow.mono{w:World}{v:Value}{l:List Bs}{ok ok':Nat→Prop}(h:SRow w v l ok)(hk:∀k,ok k→k<w.heap.size→ok' k):SRow w v l ok':=by
 obtain⟨a,cap,e,h1,h2,h3⟩:=h;refine⟨a,cap,e,h1,h2,fun j hj=>?_⟩;obtain⟨lb,lo,ea,ho,c0⟩:=h3 j hj;exact⟨lb,lo,ea,hk _ ho (World.block_lt_of_cell? w _ c0),c0⟩
theorem Lj{w:World}{b k:Nat}{tv wv:Value}{l:List Tok}{wl:List Bs}{day:Bs→Int}(hl:C2 day l)(n:Nat)(hp:Par w b tv wv l wl 0)(hk:Blk w k zeroE 27)(hkb:k<b)
 (ht:TRow w tv l (· < k)) (hs:SRow w wv wl (fun g=>k<g∧g<b)) (ho:Bt l day n ≠ .out):
 Calls Tryz.prog 66 #[.pointer (some ⟨b,0,none⟩),.pointer (some ⟨k,0,none⟩)] w (EC b k w (SomeE k) (HoldsE k) (Bt l day n)):=by
 have hE:=Gn (b:=b) (tv:=tv) (wv:=wv) (wl:=wl) hl n;generalize hR:Bt l day n=R at*;have HQ:=I hR;rw[Bt]at HQ;have H:=I (X hE ho);clear hE ho hR hl;have hb:=hp.lt;go_enter func66,ntmps66;go_wp2_with fail;refine(H.out.1 _ _ hp (fun e=>H.out.2 (by rw[←HQ.out,e];rfl))).mono ?_;intro e w1 hq;obtain⟨g,⟨q,hr,rfl⟩| ⟨x,j,v,hr,rfl,⟨pa,pc,la,lc,rfl,rp,rl⟩,hp⟩⟩:=hq.split
 ·have e1:R= .bad q:=by rw[←HQ.out,hr];rfl
  subst e1;exact⟨rfl,Grown2.of g (.inr (.inl rfl)),⟨hd0 0 [],none,0,0,none,0,0,hk.gb g (by simp;omega)⟩,rfl⟩
 replace HQ:=HQr HQ (by rw[hr,Res.bind_ok]);clear hr;replace hk:=hk.gb g (by simp;omega);replace ht:=ht.gb g (by intro q hq e;cases e;have:b<k:=hq;omega);replace hs:=hs.gb g (by intro q hq e;cases e;have:=hq.2;omega);have hb1:=g.size;have g7:=Av w1 k (.int .i64 x.h.op) (str x.h.s) (.int .i64 x.h.vk) (.int .i64 x.h.vn) (str x.h.vs) (.slice pa x.h.p.length pc) (.slice la x.kids.len lc);have hk7:=hk.set7 (.int .i64 x.h.op) (str x.h.s) (.int .i64 x.h.vk) (.int .i64 x.h.vn) (str x.h.vs) (.slice pa x.h.p.length pc) (.slice la x.kids.len lc);have hok:∀q,AD w.heap.size q→q<w1.heap.size→some q≠some k:=fun q hq _ e=>by simp at hq;cases e;omega
 have hX:=I (X (rp.gb g7 hok) (rl.gb g7 hok));have hp7:Par (set7 w1 k (.int .i64 x.h.op) (str x.h.s) (.int .i64 x.h.vk) (.int .i64 x.h.vn) (str x.h.vs) (.slice pa x.h.p.length pc) (.slice la x.kids.len lc)) b tv wv l wl j:=
  ⟨hp.blk.gb g7 (by simp;omega),(ht.gb g7 (by intro q hq e;cases e;have:k<k:=hq;omega)).mono (fun q hq _=>by have:q<k:=hq;omega),(hs.gb g7 (by intro q hq e;cases e;have:=hq.1;omega)).mono (fun q hq _=>hq.2),hp.le,hp.few⟩
 have gX:Grown2 w (set7 w1 k (.int .i64 x.h.op) (str x.h.s) (.int .i64 x.h.vk) (.int .i64 x.h.vn) (str x.h.vs) (.slice pa x.h.p.length pc) (.slice la x.kids.len lc)) b k:=(Grown2.of g (.inr (.inl rfl))).trans (Grown2.of g7 (.inr (.inr rfl)));clear rp rl hp ht hs;obtain⟨cl_0,cl_1,cl_2,cl_3,cl_4,cl_5,cl_6,cl_f⟩:=(hk).c7;go_wp2_with fail;refine(GC hp7).mono ?_;intro e w2 hq;obtain⟨g2,⟨q,hr,rfl⟩| ⟨_,j2,v,hr,rfl,rfl,hp⟩⟩:=hq.split
 ·have e1:R= .bad q:=by rw[←HQ.out,hr];rfl
  subst e1;exact⟨rfl,gX.trans (Grown2.of g2 (.inr (.inl rfl))),⟨x.h,_,_,_,_,_,_,hk7.gb g2 (by simp;omega)⟩,rfl⟩
 have e1:R= .ok x j2:=by rw[←HQ.out,hr];rfl
 subst e1;have hk8:=hk7.gb g2 (by simp;omega);have hok2:∀q,AD w.heap.size q→q<(set7 w1 k (.int .i64 x.h.op) (str x.h.s) (.int .i64 x.h.vk) (.int .i64 x.h.vn) (str x.h.vs) (.slice pa x.h.p.length pc) (.slice la x.kids.len lc)).heap.size→some q≠some b:=fun q hq _ e=>by simp at hq;cases e;omega
 go_wp2;have hX2:=X (hX.out.1.gb g2 hok2) (hX.out.2.gb g2 hok2);exact⟨rfl,.tuple #[],by simp[results,results66,go_sem],gX.trans (Grown2.of g2 (.inr (.inl rfl))),⟨x.h,_,_,_,_,_,_,hk8⟩,rfl,⟨pa,pc,la,lc,hk8,hX2.1,hX2.2⟩,hp.c1⟩
theorem Lf(k:Nat)(v:Value)(w:World):(callFunc 66 (#[v]++#[.pointer (some ⟨k,0,none⟩)])).run Tryz.prog w= .ok (.enter 66 (#[v]++#[.pointer (some ⟨k,0,none⟩)])) w:=by kernel_rfl
def La(l:List Tok)(w:World)(M:Res Ex)(e:Ending)(w':World):Prop:=
 ∃h pa pn pc la ln lc,e= .returned (.tuple #[exV h (.slice pa pn pc) (.slice la ln lc),.int .i64 (BC l M)])∧w.grownBy w' none∧
  ∀x j,M= .ok x j→VE (AD w.heap.size) w' (exV h (.slice pa pn pc) (.slice la ln lc)) x
theorem L7{w:World}(hg:Glob w){tv:Value}{l:List Tok}{day:Bs→Int}(hl:C2 day l)(ht:TRow w tv l (fun _=>True))(hlen:l.length≤4001)(n:Nat)(ho:Bt l day n ≠ .out):
 Calls Tryz.prog 37 #[tv] w (La l w (Bt l day n)):=by
 have hmf:∀(fn:Fn)(first cap:Array Value)(w:World),(Instr.makeFunc fn first cap).run Tryz.prog w= .ok (.func fn first cap) w:=fun _ _ _ _=>rfl;have g0:w.grownBy ((w.alloc (.cells zeroE.toArray 27 (0,0))).alloc (.cells zeroE.toArray 27 (0,0))) none:=Aa (World.grownBy_alloc w _ none) _;have hz:=(Blk.new w zeroE 27).alloc (.cells zeroE.toArray 27 (0,0));have hk:=Blk.new (w.alloc (.cells zeroE.toArray 27 (0,0))) zeroE 27;replace hk:=hk.of_eq (k':=w.heap.size+1) (by simp) rfl;have ht0:=(ht.mono (ok':=fun g=>g<w.heap.size) (fun k _ h=>h)).gb g0 (by simp);have hg0:=hg.gb g0 (by simp);have hk0:=hk.lt;have hw0:0<w.heap.size:=by
  unfold Glob Lib.TabIs World.var? at hg;simp only[Dy,Option.bind_some]at hg;rcases Nat.lt_or_ge 0 w.heap.size with h' |h'
  ·exact h'
  ·rw[Array.getElem?_eq_none h']at hg;simp at hg
 have H:=I (X hl ho);clear hl ho hg;go_enter func37,ntmps37;go_wp2_with fail;refine(GK (k:=w.heap.size+1) hg0 (ht0.mono (fun _ _ _=>trivial)) hlen 66 #[.pointer (some ⟨w.heap.size+1,0,none⟩)] (Lf _) (Bt l day n) hk0 (SomeE (w.heap.size+1)) ?_ (HoldsE (w.heap.size+1)) ?_ ?_).mono ?_
 ·intro w2 w3 r h g hr;exact h.gb g (by simp;simp at hr;omega)
 ·intro B w2 w3 a r h g hr hB;exact h.gb g (by simp;simp at hr;omega) (by intro q e;cases e;exact hB)
 ·intro w1 b wv g1 hb1 hp hs;refine Lj H.out.1 n hp (hk.gb g1 (by simp)) (by simp at hb1;omega) ((ht0.gb g1 (by simp)).mono (fun q hq _=>by have:q<w.heap.size:=hq;omega)) (hs.mono (fun q hq _=>⟨by have:=hq.1;simp at this;omega,hq.2⟩)) H.out.2
 rintro e w1 ⟨rfl,g1,⟨h,pa,pn,pc,la,ln,lc,hB⟩,hV⟩;have hz1:=hz.gb g1 (by simp);obtain⟨cl_0,cl_1,cl_2,cl_3,cl_4,cl_5,cl_6,cl_f⟩:=(hB).c7;obtain⟨cz_0,cz_1,cz_2,cz_3,cz_4,cz_5,cz_6,cz_f⟩:=(hz1).c7;have hltz:=hz1.lt;go_wp2;have g7:=Av w1 w.heap.size (.int .i64 h.op) (str h.s) (.int .i64 h.vk) (.int .i64 h.vn) (str h.vs) (.slice pa pn pc) (.slice la ln lc);have hW:=hz1.set7 (.int .i64 h.op) (str h.s) (.int .i64 h.vk) (.int .i64 h.vn) (str h.vs) (.slice pa pn pc) (.slice la ln lc);simp only[set7]at hW g7;generalize(((((((w1.setCell {block:=w.heap.size,off:=0} (.int .i64 h.op)).setCell {block:=w.heap.size,off:=1} (str h.s)).setCell {block:=w.heap.size,off:=2} (.int .i64 h.vk)).setCell {block:=w.heap.size,off:=3} (.int .i64 h.vn)).setCell {block:=w.heap.size,off:=4} (str h.vs)).setCell {block:=w.heap.size,off:=5} (.slice pa pn pc)).setCell {block:=w.heap.size,off:=6} (.slice la ln lc))=W at*;obtain⟨dl_0,dl_1,dl_2,dl_3,dl_4,dl_5,dl_6,dl_f⟩:=(hW).c7;refine bodyPost_ret (v:= .tuple #[exV h (.slice pa pn pc) (.slice la ln lc),.int .i64 (BC l (Bt l day n))]) ?_ rfl ⟨h,pa,pn,pc,la,ln,lc,rfl,?_,?_⟩
 ·simp[results,results37,go_sem,dl_0,dl_1,dl_2,dl_3,dl_4,dl_5,dl_6]
 ·exact AN (AN g0 g1 (.inr (by omega))) g7 (.inr (Nat.le_refl _))
 ·intro x j e;obtain⟨B,hB',pa',pc',la',lc',hb',rp,rl⟩:=hV x j e;have hok:∀q,AD B q→q<w1.heap.size→some q≠some w.heap.size:=fun q hq _ e=>by simp at hB' hq;cases e;omega
  have hok2:∀q,AD B q→q<W.heap.size→AD w.heap.size q:=fun q hq _=>by simp at hB' hq ⊢;omega
  have e1:(hdC x.h (.slice pa' x.h.p.length pc') (.slice la' x.kids.len lc')).toArray=(hdC h (.slice pa pn pc) (.slice la ln lc)).toArray:=by
   have e2:=hb'.symm.trans hB;injection e2 with e2
   injection e2
  have e3:exV h (.slice pa pn pc) (.slice la ln lc)=exV x.h (.slice pa' x.h.p.length pc') (.slice la' x.kids.len lc'):=by rw[show exV h _ _= .agg (hdC h (.slice pa pn pc) (.slice la ln lc)).toArray from rfl,←e1];rfl
  rw[e3];exact⟨pa',pc',la',lc',rfl,(rp.gb g7 hok).mono hok2,(rl.gb g7 hok).mono hok2⟩
end Go.Proofs.YtgjdhajcnechdaaGreatDoor
