/-
  A row of procedures that a call builds up. Sizes of statements: ofStmts, ofProcs at every row. Sizes of programs: ofProcs at every row. The reference's reader of statements: blocks at any depth. The r
-/
import Derived.Test.YtmcajbhljbbglaaGreatDoorSpF
import Derived.Test.YtmcajbhljbbglaaGreatDoorSp42
import Derived.Test.YtmcajbhljbbglaaGreatDoorSp43
import Derived.Test.YtmcajbhljbbglaaGreatDoorSp44
import Derived.Test.YtmcajbhljbbglaaGreatDoorSp40
import Derived.Test.YtmcajbhljbbglaaGreatDoorSp35
import Derived.Test.YtmcajbhljbbglaaGreatDoorSp41
set_option linter.all false
set_option maxRecDepth 100000
set_option maxHeartbeats 8000000
namespace Go.Proofs.YtmcajbhljbbglaaGreatDoor
open Tryz
open Go.RowKit
theorem Ub:(Tryz.prog.info? 45).map (fun i=>(i.zero,i.size,i.bytes))=some (some (.agg #[str [],.bool false,.slice none 0 0,.slice none 0 0]),4,72):=Bk
def AB(q:Pq):Pd:=⟨q.1,q.2.1,q.2.2.1,q.2.2.2⟩
theorem RepP.mono{w:World}{ok ok':Nat→Prop}(hk:∀k,ok k→k<w.heap.size→ok' k):∀{l:List Pd}{cs:List Value},RepP ok w l cs→RepP ok' w l cs:=by
 intro l;induction l with
 |nil=>intro cs h;exact h
 | cons a s ih=>
   rintro cs ⟨pa,ba,pc,bc,rest,e,h1,h2,h3⟩;exact⟨pa,ba,pc,bc,rest,e,h1.mono hk,RepV.mono' h2 hk,ih h3⟩
theorem RepP.app{ok:Nat→Prop}{w:World}:∀{l m:List Pd}{cs ds:List Value},RepP ok w l cs→RepP ok w m ds→RepP ok w (l++m) (cs++ds):=by
 intro l;induction l with
 |nil=>intro m cs ds h1 h2;cases h1;exact h2
 | cons a s ih=>
   rintro m cs ds ⟨pa,ba,pc,bc,rest,rfl,h1,h2,h3⟩ h4;exact⟨pa,ba,pc,bc,rest++ds,by simp,h1,h2,ih h3 h4⟩
def OwnP(w:World)(B:Nat)(v:Value)(a:List Pq):Prop:=∃cs,w.ownsRow B 45 4 v a.length cs∧RepP (fun q=>B≤q∧v.ownBlock≠some q) w (a.map AB) cs
theorem OwnP.gb{w w1:World}{B:Nat}{v:Value}{a:List Pq}{r:Option Nat}(h:OwnP w B v a)(g:w.grownBy w1 r)(hk:∀k,B≤k→k<w.heap.size→some k≠r):OwnP w1 B v a:=by
 exact Oi
theorem OwnP.rep{w:World}{B:Nat}{v:Value}{a:List Pq}(h:OwnP w B v a):RepQ (Ap B) w v (a.map AB):=by
 obtain⟨cs,h1,h2⟩:=h;refine⟨cs,?_,RepP.mono (fun k hk _=>hk.1) h2⟩;rw[List.length_map];exact GE h1
theorem OwnP.fresh{w:World}{B:Nat}{v:Value}{a:List Pq}(h:OwnP w B v a)(hB:B≤w.heap.size)(q:Nat)(hq:w.heap.size≤q):B≤q∧v.ownBlock≠some q:=by
 obtain⟨cs,h1,_⟩:=h;exact⟨by omega,fun e=>by have:=(h1.lt q e).2;omega⟩
theorem OwnP.one{w:World}{B m:Nat}(hm:m=w.heap.size)(hB:B≤w.heap.size){q:Pq}{pa ba:Option Addr}{pc bc:Nat}
 (k1:Cells w (.slice pa q.2.2.1.length pc) 1 q.2.2.1.length (q.2.2.1.map str) (Ap B)) (k2:RepV (Ap B) w false (.slice ba q.2.2.2.len bc) q.2.2.2):
 OwnP (w.alloc (.cells (pdC (AB q) (.slice pa q.2.2.1.length pc) (.slice ba q.2.2.2.len bc)).toArray 45 (0,0))) B (.slice (some ⟨m,0,none⟩) 1 1) [q]:=by
 refine⟨_,Ji hm hB rfl Ad,?_⟩;have hR:RepP (fun p=>B≤p∧p<w.heap.size) w [AB q] (pdC (AB q) (.slice pa q.2.2.1.length pc) (.slice ba q.2.2.2.len bc)):=
  ⟨pa,ba,pc,bc,[],by simp[AB],k1.mono (fun p h1 h2=>⟨h1,h2⟩),RepV.mono' k2 (fun p h1 h2=>⟨h1,h2⟩),rfl⟩
 refine RepP.mono (fun p h1 _=>⟨h1.1,fun e=>?_⟩) (hR.gb (World.grownBy_alloc w _ none) Ae);have e':m=p:=by simpa[Value.ownBlock]using e
 omega
theorem OwnP.snoc{w w1:World}{B j cap:Nat}{v:Value}{a:List Pq}{cs:List Value}(h1:w.ownsRow B 45 4 v a.length cs)(h2:RepP (fun q=>B≤q∧v.ownBlock≠some q) w (a.map AB) cs)
 {q:Pq} {pa ba:Option Addr} {pc bc:Nat} {okx:Nat→Prop} (k1:Cells w (.slice pa q.2.2.1.length pc) 1 q.2.2.1.length (q.2.2.1.map str) okx) (k2:RepV okx w false (.slice ba q.2.2.2.len bc) q.2.2.2) (hok:∀p,okx p→p<w.heap.size→B≤p∧v.ownBlock≠some p)
 (ho:w1.ownsRow B 45 4 (.slice (some ⟨j,0,none⟩) (a.length+1) cap) (a.length+1) (cs++pdC (AB q) (.slice pa q.2.2.1.length pc) (.slice ba q.2.2.2.len bc))) (hg:w.grownBy w1 v.ownBlock) (hat:v.ownBlock=some j∨j=w.heap.size):
 OwnP w1 B (.slice (some ⟨j,0,none⟩) (a.length+1) cap) (a++[q]):=by
 have hfr:∀p,(B≤p∧v.ownBlock≠some p)→p<w.heap.size→(B≤p∧(Value.slice (some ⟨j,0,none⟩) (a.length+1) cap).ownBlock≠some p)∧some p≠v.ownBlock:=fun p hq hl=>⟨⟨hq.1,fun e=>by(rcases I6 hat e with h|h;exact hq.2 h;omega)⟩,fun e=>hq.2 e.symm⟩;have hT:RepP (fun p=>B≤p∧v.ownBlock≠some p) w ((a++[q]).map AB) (cs++pdC (AB q) (.slice pa q.2.2.1.length pc) (.slice ba q.2.2.2.len bc)):=by
  rw[List.map_append];exact h2.app ⟨pa,ba,pc,bc,[],by simp[AB],k1.mono hok,RepV.mono' k2 hok,rfl⟩
 exact⟨_,by rw[List.length_append];exact ho,RepP.mono (fun p hq _=>hq.1) ((RepP.mono hfr hT).gb hg (fun p hq _=>hq.2))⟩
abbrev VPr(w:World):World→Value→List Pq→Prop:=fun w' v a=>RepQ (Ap w.heap.size) w' v (a.map AB)
def OwnX(w:World)(B H:Nat)(v:Value)(a:List Pq):Prop:=∃cs,w.ownsRow B 45 4 v a.length cs∧v.ownBlock≠some H∧RepP (fun q=>(B≤q∧v.ownBlock≠some q)∧q≠H) w (a.map AB) cs
theorem OwnP.x{w:World}{B H:Nat}{v:Value}{a:List Pq}(h:OwnP w B v a)(hH:H=w.heap.size):OwnX w B H v a:=by
 obtain⟨cs,h1,h2⟩:=h;exact⟨cs,h1,fun e=>by have:=(h1.lt H e).2;omega,RepP.mono (fun q hq hl=>⟨hq,by omega⟩) h2⟩
theorem OwnX.gb{w w1:World}{B H:Nat}{v:Value}{a:List Pq}{r:Option Nat}(h:OwnX w B H v a)(g:w.grownBy w1 r)(hk:∀k,B≤k→k<w.heap.size→k≠H→some k≠r):OwnX w1 B H v a:=by
 obtain⟨cs,h1,h2,h3⟩:=h;refine⟨cs,World.ownsRow.kept h1 g ?_,h2,h3.gb g fun k hk1 hk2=>hk k hk1.1.1 hk2 hk1.2⟩;cases e:v.ownBlock with
 |none=>exact .inl rfl
 |some k=>exact .inr (hk k (h1.lt k e).1 (h1.lt k e).2 (fun e'=>h2 (by rw[e,e'])))
theorem OwnX.back{w:World}{B H:Nat}{v:Value}{a:List Pq}(h:OwnX w B H v a):OwnP w B v a:=by
 obtain⟨cs,h1,_,h3⟩:=h;exact⟨cs,h1,RepP.mono (fun q hq _=>hq.1) h3⟩
theorem Ab1:∀N,OfB N:=by
 intro N;induction N with
 |zero=>intro f h;omega
 | succ N ih=>
   intro f hw hn ok la lc w hf;have RR{P}(h:P:=by
   have HC:=Z hc1;have HR:=Z hr1;have HI0:=Z ih;have hfl:=f.levels_le;have HA:=Z (Acc1.start w);clear hc1 hr1 ih;go_enter func69,ntmps69;go_wp2_with fail;go_loopg [8] f.len (fun g v8 wr=>∃rest:Bl,∃k n m:Nat,rest.len=g∧f.len=k+rest.len∧v8= .int .i64 k∧n+rest.nodes=f.nodes∧max m rest.levels=f.levels∧rest.wt≤f.wt∧RepT ok w rest false (cs.drop (k*10))∧Acc1 w n m wr)
   case atStart=>exact⟨f,0,0,0,rfl,by simp,rfl,by omega,by omega,Nat.le_refl _,by simpa using HR.out,HA.out⟩
   case round=>
    obtain⟨rest,k,n,m,hg,hk,rfl,hno,hlv,hwt,hrow,hA⟩:=hrel;have fR{P}(h:P:=by
    cases rest with
    |bl _ _=>exact hrow.elim
    | nil=>
      have hkI:decide (k<f.len)=false:=by simp[Bl.len]at hk;simp;omega
      have HG:=Z (Ac hA (show n=f.nodes∧m=f.levels by simp[Bl.nodes,Bl.levels]at hno hlv;omega));clear hA hk hg hrow hno hlv hwt;exact SK
    | st s c next=>
      simp only[Bl.len]at hg hk;subst hg;have hkI:decide (k<f.len)=true:=Ag;have i0:(0:Int)≤(k:Int):=Ab;have i1:(k:Int)<(f.len:Int):=Ab;have hkl:k+1≤f.len:=Ab;obtain⟨pa,xa,na,fa,wa,ba,pc,xc,nc,fc,wc,bc,h1,h2,hnx,hat⟩:=RepT.elem (k:=k) HC.out hrow;simp only[Bl.nodes,Bl.levels,Bl.wt]at hno hlv hwt;have hsl:=s.levels_le;have hcl:=c.levels_le;have HL:=Z (fun(W:World)(gW:wr.grownBy W none)=>sD HI0.out (h1.gb (Ah hA.g gW) Ae) (h2.gb (Ah hA.g gW) Ae) Ab Ab);have HI:=Z (fun(W:World)=>Un n m (1+s.nodes+c.nodes) (1+max s.levels c.levels) Ab Ab Ab W);have HN:=Z (Ac hnx (show f.len=k+1+next.len∧n+(1+s.nodes+c.nodes)+next.nodes=f.nodes∧max (max m (1+max s.levels c.levels)) next.levels=f.levels∧next.wt≤f.wt from⟨by omega,by omega,by omega,by omega⟩));have jD{P}(h:P:=by
      obtain⟨_,_,e1,_,z4⟩:=hat 4 _ rfl;cases e1;obtain⟨_,_,e1,_,z5⟩:=hat 5 _ rfl;cases e1;obtain⟨_,_,e1,_,z6⟩:=hat 6 _ rfl;cases e1;obtain⟨_,_,e1,_,z7⟩:=hat 7 _ rfl;cases e1;obtain⟨_,_,e1,_,z8⟩:=hat 8 _ rfl;cases e1;obtain⟨_,_,e1,_,z9⟩:=hat 9 _ rfl;cases e1;rw[←Nat.add_assoc]at z0 z1 z2 z3 z4 z5 z6 z7 z8 z9;replace z0:=Am hA.g z0;replace z1:=Am hA.g z1;replace z2:=Am hA.g z2;replace z3:=Am hA.g z3;replace z4:=Am hA.g z4;replace z5:=Am hA.g z5;replace z6:=Am hA.g z6;replace z7:=Am hA.g z7;replace z8:=Am hA.g z8;replace z9:=Am hA.g z9;simp only[Nat.add_zero]at z0;have hgl:=World.block_lt_of_cell? wr _ z0;have HG:=Z hA;have hy:=Blk.new wr (sdC s (.slice pa s.p.length pc) (.slice xa s.x.len xc) (.slice ba c.len bc) (.slice na s.n.len nc) (.slice fa s.f.len fc) (.slice wa s.w.len wc)) 50;have hac:=HG.out.acc.alloc (.cells (sdC s (.slice pa s.p.length pc) (.slice xa s.x.len xc) (.slice ba c.len bc) (.slice na s.n.len nc) (.slice fa s.f.len fc) (.slice wa s.w.len wc)).toArray 50 (0,0));have HY:=Z (Ac hy hac);have hws:=HG.out.g.size;obtain⟨q_0,q_1,q_2,q_3,q_4,q_5,q_6,q_7,q_8,q_9,q_f⟩:=(hy).c10;clear hat hy hac hA h1 h2 hnx hrow hk hno hlv hwt hsl hcl;simp only[sdC]at HY HL ⊢;go_wp2_with fail;go_region_with(first
       | (go_at_call 100;refine(HL.out _ ?gg).mono ?_;(case gg=>exact gw);rintro e w5 ⟨rfl,g5⟩;(have y5:=(HY.out.1.drewN 1).gb g5 Ae);(have ac5:=(HY.out.2.drewN 1).gb g5 Ae);obtain⟨b_0,b_1,b_2,b_3,b_4,b_5,b_6,b_7,b_8,b_9,b_f⟩:=(y5).c10;(have d0:=ac5.cell 0);(have d1:=ac5.cell 1);(have df:=fun k=>ac5.frozen k);(have dl:=ac5.lt);(simp only[List.getElem?_cons_zero,List.getElem?_cons_succ]at d0 d1))
       | (go_at_call 68;refine(HI.out _).mono ?_;rintro e w6 ⟨rfl,g6⟩;(have ac6:=ac5.gb g6 Ae);(have m0:=ac6.cell 0);(have m1:=ac6.cell 1);(have mf:=fun k=>ac6.frozen k);(have ml:=ac6.lt);(simp only[List.getElem?_cons_zero,List.getElem?_cons_succ]at m0 m1)))
      all_goals
       have hre:=((((HG.out.res.alloc (.cells (sdC s (.slice pa s.p.length pc) (.slice xa s.x.len xc) (.slice ba c.len bc) (.slice na s.n.len nc) (.slice fa s.f.len fc) (.slice wa s.w.len wc)).toArray 50 (0,0))).drewN 1).gb g5 Ae).gb g6 Ae);have gg:=A0 (A0 (An (Ar HG.out.g (.cells (sdC s (.slice pa s.p.length pc) (.slice xa s.x.len xc) (.slice ba c.len bc) (.slice na s.n.len nc) (.slice fa s.f.len fc) (.slice wa s.w.len wc)).toArray 50 (0,0)))) g5) g6;have HX:=Z (Ac ac6 (Ac hre gg));clear hre gg;go_wp2;go_roundg next.len
       case measure=>omega
       case rel=>exact⟨next,k+1,_,_,rfl,HN.out.2.1,by go_num,HN.out.2.2.1,HN.out.2.2.2.1,HN.out.2.2.2.2,HN.out.1,(HX.out.2.1.set_other _ _ Ae).set_other _ _ Ae,HX.out.1.set2 _ _,A7 (A7 HX.out.2.2 _ _ (.inr EJ)) _ _ (.inr EJ)⟩):=Aa h
      exact aQ):=Aa h
    exact YZ):=Aa h
   exact QW
theorem nJ:∀l:List Bl,DI l≤IG l:=by
 intro l;induction l with
 |nil=>exact Nat.le_refl _
 | cons a r ih=>
   have:=a.levels_le;show max a.levels (DI r)≤a.nodes+IG r;omega
theorem pB{ok:Nat→Prop}{w:World}{la:Option Addr}{lc:Nat}{l:List Pd}(hf:RepQ ok w (.slice la l.length lc) l)(hn:C6 l≤1000000):
 Calls Tryz.prog 36 #[.slice la l.length lc] w fun e w'=>e= .returned (szV (C6 l:Int) (DI (l.map Pd.body):Int))∧w.grownBy w' none:=by
 have RN{P}(h:P:=by
 have HC:=Z hc1;have HR:=Z hr1;have hfl:DI (l.map Pd.body)≤C6 l:=nJ _;have HA:=Z (Acc1.start w);clear hc1 hr1;generalize hNN:C6 l=NN at*;generalize hLL:DI (l.map Pd.body)=LL at*;have HNL:=Z (Ac hNN hLL);clear hNN hLL;go_enter func36,ntmps36;go_wp2_with fail;go_loopg [8] l.length (fun g v8 wr=>∃rest:List Pd,∃k n m:Nat,rest.length=g∧l.length=k+rest.length∧v8= .int .i64 k∧n+C6 rest=NN∧max m (DI (rest.map Pd.body))=LL∧RepP ok w rest (cs.drop (k*4))∧Acc1 w n m wr)
 case atStart=>exact⟨l,0,0,0,rfl,by simp,rfl,by rw[HNL.out.1];omega,by rw[HNL.out.2];omega,by simpa using HR.out,HA.out⟩
 case round=>
  obtain⟨rest,k,n,m,hg,hk,rfl,hno,hlv,hrow,hA⟩:=hrel;have fR{P}(h:P:=by
  cases rest with
  | nil=>
    have hkI:decide (k<l.length)=false:=by simp at hk;simp;omega
    have HG:=Z (Ac hA (show n=NN∧m=LL by simp[C6,IG,DI]at hno hlv;omega));clear hA hk hg hrow hno hlv;exact SK
  | cons p next=>
    simp only[List.length_cons]at hg hk;subst hg;have hkI:decide (k<l.length)=true:=Ag;have i0:(0:Int)≤(k:Int):=Ab;have i1:(k:Int)<(l.length:Int):=Ab;have hkl:k+1≤l.length:=Ab;obtain⟨pa,ba,pc,bc,_,h2,hnx,hat⟩:=RepP.elem (k:=k) HC.out hrow;rw[Uk]at hno;have hlv:max m (max p.body.levels (DI (next.map Pd.body)))=LL:=hlv;have hcl:=p.body.levels_le;have HL:=Z (fun(W:World)(gW:wr.grownBy W none)=>Ab1 (p.body.wt+1) p.body (Nat.lt_succ_self _) Ab ok ba bc W (h2.gb (Ah hA.g gW) Ae));have HI:=Z (fun(W:World)=>Un n m p.body.nodes p.body.levels Ab Ab Ab W);have HN:=Z (Ac hnx (show l.length=k+1+next.length∧n+p.body.nodes+C6 next=NN∧max (max m p.body.levels) (DI (next.map Pd.body))=LL from⟨by omega,by omega,by omega⟩));have jD{P}(h:P:=by
    rw[←Nat.add_assoc]at z0 z1 z2 z3;replace z0:=Am hA.g z0;replace z1:=Am hA.g z1;replace z2:=Am hA.g z2;replace z3:=Am hA.g z3;simp only[Nat.add_zero]at z0;have hgl:=World.block_lt_of_cell? wr _ z0;have HG:=Z hA;have hy:=Blk.new wr (pdC p (.slice pa p.p.length pc) (.slice ba p.body.len bc)) 45;have hac:=HG.out.acc.alloc (.cells (pdC p (.slice pa p.p.length pc) (.slice ba p.body.len bc)).toArray 45 (0,0));have HY:=Z (Ac hy hac);have hws:=HG.out.g.size;have q0:=hy.cell' 0 rfl;have q1:=hy.cell' 1 rfl;have q2:=hy.cell' 2 rfl;have q3:=hy.cell' 3 rfl;have hyl:=hy.lt;clear hat hy hac hA h2 hnx hrow hk hno hlv hcl;simp only[pdC]at HY ⊢;go_wp2_with fail;go_region_with(first
     | (go_at_call 69;refine(HL.out _ ?gg).mono ?_;(case gg=>exact gw);rintro e w5 ⟨rfl,g5⟩;(have y5:=(HY.out.1.drewN 1).gb g5 Ae);(have ac5:=(HY.out.2.drewN 1).gb g5 Ae);(have b0:=y5.cell' 0 rfl);(have b1:=y5.cell' 1 rfl);(have b2:=y5.cell' 2 rfl);(have b3:=y5.cell' 3 rfl);(have d0:=ac5.cell 0);(have d1:=ac5.cell 1);(have df:=fun k=>ac5.frozen k);(have dl:=ac5.lt);(simp only[List.getElem?_cons_zero,List.getElem?_cons_succ]at d0 d1))
     | (go_at_call 68;refine(HI.out _).mono ?_;rintro e w6 ⟨rfl,g6⟩;(have ac6:=ac5.gb g6 Ae);(have m0:=ac6.cell 0);(have m1:=ac6.cell 1);(have mf:=fun k=>ac6.frozen k);(have ml:=ac6.lt);(simp only[List.getElem?_cons_zero,List.getElem?_cons_succ]at m0 m1)))
    all_goals
     have hre:=((((HG.out.res.alloc (.cells (pdC p (.slice pa p.p.length pc) (.slice ba p.body.len bc)).toArray 45 (0,0))).drewN 1).gb g5 Ae).gb g6 Ae);have gg:=A0 (A0 (An (Ar HG.out.g (.cells (pdC p (.slice pa p.p.length pc) (.slice ba p.body.len bc)).toArray 45 (0,0)))) g5) g6;have HX:=Z (Ac ac6 (Ac hre gg));clear hre gg;go_wp2;go_roundg next.length
     case measure=>omega
     case rel=>exact⟨next,k+1,_,_,rfl,HN.out.2.1,by go_num,HN.out.2.2.1,HN.out.2.2.2,HN.out.1,(HX.out.2.1.set_other _ _ Ae).set_other _ _ Ae,HX.out.1.set2 _ _,A7 (A7 HX.out.2.2 _ _ (.inr EJ)) _ _ (.inr EJ)⟩):=Aa h
    exact aQ):=Aa h
  exact YZ):=Aa h
 exact QQ
section
variable {b:Nat}{tv:Value}{l:List Tok}
def TwoR(b:Nat)(tv:Value)(l:List Tok)(hn:Al l):Prop:=∀(n:Nat)(block:Rd l Bl),n≤90000→
 CL b tv l hn A8 n block CD∧CL b tv l hn A8 n block CB
theorem xC(hn:Al l)(hok:∀i,At (Af l i))(h4:TwoR b tv l hn){n:Nat}(hnn:n≤90000){block:Rd l Bl}(hB:CRB b tv l block.g)(hE:CR 28 b tv l (AN l A8 n))(wd:Bs):CL b tv l hn A8 n block wd:=by
 cases hw:saidWords.contains wd with
 |false=>exact oK hn hnn hE hok hw
 | true=>
   have hm:wd∈saidWords:=GV;obtain⟨q3,q4⟩:=h4 n block hnn;simp only[saidWords,List.mem_cons,List.not_mem_nil,or_false]at hm;rcases hm with rfl|rfl|rfl|rfl|rfl|rfl|rfl|rfl|rfl|rfl|rfl|rfl
   ·exact oJ hn hnn hE
   ·exact k8 hn hnn hE
   ·exact mD hn hnn hE
   ·exact mF hn hnn hE
   ·exact yN hn hnn hB hE hok
   ·exact yM hn hnn hB hE hok
   ·exact xB hn hnn hB hE hok
   ·exact rJ hn
   ·exact rI hn
   ·exact q3
   ·exact q4
   ·exact oH hn hB hok
theorem pS(hn:Al l)(hok:∀i,At (Af l i))(h4:TwoR b tv l hn):∀n,n≤90000→CRB b tv l (Dv hn wordsL A8 n).g:=by
 intro n;induction n with
 | zero=>
   intro _ w st r h ho;obtain⟨i,f⟩:=st;have ho:(if f then some (Bl.nil,((i,f):RS))else none)=some r:=ho;cases f with
   |false=>rw[if_neg Ae]at ho;cases ho
   | true=>
     rw[if_pos rfl]at ho;cases ho;exact Vs (stp:=(Rd.out (sd0 0 [],.nil):Rd l StB)) (n:=0) Ab hok (fun i r _ hs=>by cases hs) h rfl
 | succ n ih=>
   intro hnn w st r h ho;have hB:=ih Ab;have hE:=OZ (b:=b) (tv:=tv) hok n Ab;exact Vs (n:=n) Ab hok (fun i r hi hs=>xF hn Ab hE hok (fun wd _=>xC hn hok h4 Ab hB hE wd) hi hs) h ho
end
section
variable {b:Nat}{tv:Value}{l:List Tok}{day:Bs→Int}{n:Nat}
theorem Wo(st st2:RS):IQ b (fun c W=>Rr W b tv l (if c then st2 else st)):=fun _ _ _ _ h g ho=>h.gb g ho
theorem mE{block:Rd l Bl}(hn:Al l)(hE:CR 28 b tv l (AN l day n)):CL b tv l hn day n block CD:=by
 intro w i r h hi ho;replace ho:(Rd.skip.bind fun _=>(GO hn day n).bind fun x=>Rd.fin.bind fun _=>Rd.pure ({sd0 8 []with x:=x},Bl.nil)).g (i,false)=some r:=ho;rw[Rd.skip_g]at ho;have N7{P}(h:P:=by
 rw[PW]at hf;have EO{P}(h:P:=by
 have HX:=Z (Ac hE hf);have HR1:=Z h1;clear hE hf h1;go_upto_region 20 with fail;refine Jr (b := b) (R := fun c W => Rr W b tv l (if c then st3 else BT (i, false))) (x := f) (k1 := CD) (v1 := 8) (k2 := CB) (v2 := 12) (op := 8) (k := 43) (fc := 190) (tp := 60) (wd := CD) (pos := "read.go:240")
  ⟨Wo _ _,by have:=HR1.out.lt;exact this,by omega,by simp,rfl,rfl,by decide,.inl ⟨rfl,rfl⟩,fun _ _=>by kernel_rfl,fun W _ hR=>?_⟩ (HR1.out.gbN (An (Aj _ _))) ?_
 ·exact Tb
 ·have NT{P}(h:P:=by have gW:w1.grownBy W (some b):=Ah (An (Aj w1 _)) g;have hR5:Rr W b tv l st3:=hR;have f6{P}(h:P:=by refine(BR hR5).mono ?_;exact Nz):=Aa h;exact Zk):=Aa h;exact Nq):=Aa h
 exact EL):=Aa h;exact LS
theorem oI{block:Rd l Bl}(hn:Al l)(hE:CR 28 b tv l (AN l day n)):CL b tv l hn day n block CB:=by
 intro w i r h hi ho;replace ho:(Rd.skip.bind fun _=>(GO hn day n).bind fun x=>Rd.fin.bind fun _=>Rd.pure ({sd0 12 []with x:=x},Bl.nil)).g (i,false)=some r:=ho;rw[Rd.skip_g]at ho;have N7{P}(h:P:=by
 rw[PW]at hf;have EO{P}(h:P:=by
 have HX:=Z (Ac hE hf);have HR1:=Z h1;clear hE hf h1;go_upto_region 20 with fail;refine Jr (b := b) (R := fun c W => Rr W b tv l (if c then st3 else BT (i, false))) (x := f) (k1 := CD) (v1 := 8) (k2 := CB) (v2 := 12) (op := 12) (k := 43) (fc := 190) (tp := 60) (wd := CB) (pos := "read.go:240")
  ⟨Wo _ _,by have:=HR1.out.lt;exact this,by omega,by simp,rfl,rfl,by decide,.inr ⟨rfl,rfl⟩,fun _ _=>by kernel_rfl,fun W _ hR=>?_⟩ (HR1.out.gbN (An (Aj _ _))) ?_
 ·exact Tb
 ·have NT{P}(h:P:=by have gW:w1.grownBy W (some b):=Ah (An (Aj w1 _)) g;have hR5:Rr W b tv l st3:=hR;have f5{P}(h:P:=by refine(BR hR5).mono ?_;exact Nz):=Aa h;exact Zj):=Aa h;exact Nq):=Aa h
 exact EL):=Aa h;exact LS
theorem Aab(hn:Al l)(hok:∀i,At (Af l i)):TwoR b tv l hn:=fun n block hnn=>⟨mE hn (OZ hok n Ab),oI hn (OZ hok n Ab)⟩
theorem AbC(hn:Al l)(hok:∀i,At (Af l i)){n:Nat}(hnn:n≤90000):CRB b tv l (Dv hn wordsL A8 n).g:=pS hn hok (Aab hn hok) n hnn
end
section
variable {l:List Tok}(hn:Al l){W:List Bs}{day:Bs→Int}{n:Nat}
theorem WM{st:RS}{r:List Bs×RS}(h:(M0 hn n).g st=some r):
 (A2 l [40] st=false∧r=([],Aq l [40] st))∨(A2 l [40] st=true∧A2 l [41] (Aq l [40] st)=true∧r=([],Aq l [41] (Aq l [40] st)))∨
 (A2 l [40] st=true∧A2 l [41] (Aq l [40] st)=false∧∃p st',IP l (n+1) (Aq l [41] (Aq l [40] st))=some (p,st')∧r=(p,AZ l [41] st')):=by
 unfold M0 at h;rw[Rd.ifs_g]at h;cases h40:A2 l [40] st with
 |false=>rw[h40,if_neg Ae,Rd.pure_g]at h;cases h;exact .inl ⟨rfl,rfl⟩
 | true=>
   rw[h40,if_pos rfl,Rd.ifs_g]at h;cases h41:A2 l [41] (Aq l [40] st)with
   |true=>rw[h41,if_pos rfl,Rd.pure_g]at h;cases h;exact .inr (.inl ⟨rfl,rfl,rfl⟩)
   | false=>
     rw[h41,if_neg Ae]at h;obtain⟨p,st',h1,h2⟩:=Rd.bind_g h;rw[Rd.want_g,Rd.pure_g]at h2;cases h2;exact .inr (.inr ⟨rfl,rfl,p,st',h1,rfl⟩)
theorem Aas{k:Nat}{a:List Pq}{i:Nat}{f:Bool}{r:List Pq×RS}(h:(Dp hn W day n k a).g (i,f)=some r):
 (f=true∧r=(a,(i,f)))∨(f=false∧¬i<l.length∧r=(a,(i,f)))∨
 (f=false∧i<l.length∧Av l W i≠Ee∧Av l W i≠Ce∧r=(a,(i,true)))∨
 (f=false∧i<l.length∧(Av l W i=Ee∨Av l W i=Ce)∧∃k' s st2 p st3 c st5,k=k'+1∧Ax l (BT (i,false))=(s,st2)∧(M0 hn n).g st2=some (p,st3)∧(Dv hn W day n).g (Fi l st3)=some (c,st5)∧(Dp hn W day n k' (a++[(s,Av l W i==Ce,p,c)])).g st5=some r):=by
 cases k with
 | zero=>
   exact ST
 | succ k=>
   unfold Dp at h;rw[Rd.condN_g]at h;cases f with
   |true=>cases h;exact .inl ⟨rfl,rfl⟩
   | false=>
     by_cases hi:i<l.length
     ·simp only[hi,Bool.not_false,Bool.and_true,decide_true,if_true]at h;rw[Rd.here_g]at h;simp only at h;by_cases hw:Av l W i=Ee∨Av l W i=Ce
      ·rw[if_pos hw,Rd.skip_g]at h;obtain⟨a',st',h1,h2⟩:=Rd.bind_g h;unfold Fd at h1;rw[Rd.name_g]at h1;obtain⟨p,st3,h3,h4⟩:=Rd.bind_g h1;rw[Rd.fin_g]at h4;obtain⟨c,st5,h5,h6⟩:=Rd.bind_g h4;rw[Rd.pure_g]at h6;cases h6;exact .inr (.inr (.inr ⟨rfl,hi,hw,k,_,_,p,st3,c,_,rfl,rfl,h3,h5,h2⟩))
      ·rw[if_neg hw]at h;cases h;exact .inr (.inr (.inl ⟨rfl,hi,fun e=>hw (.inl e),fun e=>hw (.inr e),rfl⟩))
     ·simp only[hi,Bool.not_false,Bool.and_false,decide_false,Bool.false_eq_true,if_false]at h;cases h;exact .inr (.inl ⟨rfl,hi,rfl⟩)
end
section
variable {w:World}{b:Nat}{tv:Value}{l:List Tok}{st:RS}{n:Nat}
def ProgR(hn:Al l)(m b:Nat)(tv:Value)(w:World)(r:List Pq×RS)(g:Nat)(v:Value)(wr:World):Prop:=
 ∃a st,OwnP wr w.heap.size v a∧Rr wr b tv l st∧w.grownBy wr (some b)∧a.length+g≤m+1∧(Dp hn wordsL A8 m g a).g st=some r
theorem mC(hn:Al l)(hok:∀i,At (Af l i))(hnn:n≤90000)(h:Rr w b tv l st){r:List Pq×RS}(ho:(BM hn wordsL A8 n).g st=some r):
 Calls Tryz.prog 37 #[.pointer (some ⟨b,0,none⟩)] w (AM b tv l w (VPr w) r):=by
 have hb:=h.lt;obtain⟨c,st1,h1,h2⟩:=Rd.bind_g ho;have HTk:=Z hok;have HBk:=Z (AbC (b:=b) (tv:=tv) hn hok hnn);have HQ0:=Z h2;have HC:=Z (HBk.out w st _ h h1);clear hok ho h1 h2 h;go_enter func37,ntmps37;go_wp2_with fail;refine HC.out.mono ?_;rintro e w1 ⟨g,v,rfl,hv,hp1⟩;simp only at hv hp1;obtain⟨ba,bc,rfl⟩:∃ba bc,v= .slice ba c.len bc:=XE;clear HC;have gE{P}(h:P:=by
 go_loopg [3] n (fun g v3 wr=>ProgR hn n b tv w r g v3 wr)
 case atStart=>exact⟨_,st1,HR0.out.1,HR0.out.2.1,HR0.out.2.2,by simp;omega,HQ0.out⟩
 case round=>
  obtain⟨a,⟨i,f⟩,hown,hR,hgr,hlen,hq⟩:=hrel;clear HQ0 HR0;obtain⟨ta,tc,rfl⟩:=hR.tv_eq;have c0:=hR.c0;have c1:=hR.c1;have c2:=hR.c2;have hbr:=hR.lt;have hfew:=hR.few;simp only at c1 c2;have hsr:=hgr.size;have HFr:=Z (fun q (hq:wr.heap.size≤q)=>hown.fresh hsr q hq);have HZ:=Z (Ac hown hgr);clear hown hgr;rcases Aas hn hq with⟨rfl,rfl⟩| ⟨rfl,hi,rfl⟩| ⟨rfl,hi,hw1,hw2,rfl⟩| ⟨rfl,hi,hw,k',s,st2,p,st3,c,st5,rfl,hnm,hx1,hx2,hx3⟩
  ·clear hq;exact SN
  ·clear hq;have hd:decide ((i:Int)<(l.length:Int))=false:=Ag;exact SN
  ·clear hq;have bO{P}(h:P:=by
   have bR{P}(h:P:=by
   rintro e w3 ⟨rfl,g⟩;rw[Nat.add_zero];simp only;have hq1:(Av l wordsL i==[80,82,79,67,69,68,85,82,69])=false:=by simpa using hw1
   have hq2:(Av l wordsL i==[70,85,78,67,84,73,79,78])=false:=by simpa using hw2
   replace HZ:=Z (Ac (HZ.out.1.gb g Ae) (A0 HZ.out.2 g));have HW:=Z (Ga (hR.gbN g));clear g HS hw1 hw2 hR;go_wp2_with fail;refine HW.out.mono ?_;rintro e w4 ⟨g,v,rfl,rfl,h9⟩;have HE:=Z (Ac (HZ.out.1.gb g GU) (Ac (Ah HZ.out.2 g) h9));clear g h9 HW;go_wp2;go_ret;exact⟨HE.out.2.1,_,rfl,HE.out.1.rep,HE.out.2.2⟩):=Aa h;exact Sq):=Aa h;exact Sm
  ·have HX:=Z (Ac hx1 (Ac hx2 hx3));clear hq hx1 hx2 hx3;have bO{P}(h:P:=by
   have hs2:wr.heap.size≤(wr.drewN nq).heap.size:=Nat.le_refl _;have bR{P}(h:P:=by
   rintro e w20 ⟨rfl,g⟩;rw[Nat.add_zero];simp only;replace HZ:=Z (Ac (HZ.out.1.gb g Ae) (A0 HZ.out.2 g));have hs20:=g.size;replace hR:=hR.gbN g;clear g HS;rcases hw with hw|hw
   ·have dG{P}(h:P:=by
    have NB{P}(h:P:=by
    have cS{P}(h:P:=by
    have NB{P}(h:P:=by
    have hs4:=g.size;clear g hN4;have hT:=Blk.new w4 [str s,.bool false,.slice none 0 0,.slice none 0 0] 45;have gN:=World.grownBy_alloc w4 (.cells [str s,.bool false,.slice none 0 0,.slice none 0 0].toArray 45 (0,0)) none;have jC{P}(h:P:=by
    rcases WM hn HX.out.1 with⟨h40,hpp⟩| ⟨h40,h41,hpp⟩| ⟨h40,h41,p',st',hnn',hpp⟩
    ·have NU{P}(h:P:=by rintro e w5 ⟨g,v,rfl,rfl,h9⟩;have Ki{P}(h:P:=by clear HK h40;exact bC):=Aa h;exact JU):=Aa h;exact Nr
    ·have NU{P}(h:P:=by rintro e w50 ⟨g,v,rfl,rfl,h9⟩;have Ki{P}(h:P:=by have Rm{P}(h:P:=by rintro e w5 ⟨g,v,rfl,rfl,h9⟩;have Ki{P}(h:P:=by clear HK h41;exact bC):=Aa h;exact JU):=Aa h;exact Oj):=Aa h;exact JU):=Aa h;exact Nr
    ·have dZ{P}(h:P:=by
     replace hT:=(hT.set 2 (.slice pa p.length pc)).of_eq (cs':=[str s,.bool false,.slice pa p.length pc,.slice none 0 0]) rfl rfl;have eY{P}(h:P:=by
     have NC{P}(h:P:=by
     have HG:=Z (Ac ((hT.set 3 (.slice ba c.len bc)).of_eq (cs':=[str s,.bool false,.slice pa p.length pc,.slice ba c.len bc]) rfl rfl) (Ac (HZ.out.1.gb gS GU).back (Ac (C0 HZ.out.2 gS IU) (Ac (h9.gb gS A6) (Ac (hV9.out.gb gS Ig) (RepV.gb hB gS MF))))));clear g gS hT hV9 hB HZ h9 hR;go_upto_region 13 with fail;refine AL (fun W=>Blk W w4.heap.size [str s,.bool false,.slice pa p.length pc,.slice ba c.len bc] 45∧OwnP W w.heap.size u3 a∧w.grownBy W (some b)∧Rr W b (.slice ta l.length tc) l st5∧Cells W (.slice pa p.length pc) 1 (p:List Bs).length ((p:List Bs).map str) (fun q=>w4.heap.size<q)∧RepV (Ap w11.heap.size) W false (.slice ba c.len bc) c) HG.out ?_;have Kl{P}(h:P:=by
     have gN:=World.grownBy_alloc W (.cells (pdC (AB (s,false,p,c)) (.slice pa p.length pc) (.slice ba c.len bc)).toArray 45 (0,0)) none;have NA{P}(h:P:=by go_wp2_with (at_builtin;go_loud(refine wpList_append_lies _ rfl _ _ 34 rfl w.heap.size 45 i0 _ 4 72 underlying34 HI.out.1 HI.out.2.1 HI.out.2.2.1 HI.out.2.2.2 rfl Ad _ _ cs rfl HB.out.1 ⟨W.heap.size,0,none⟩ 1 1 (pdC (AB (s,false,p,c)) (.slice pa p.length pc) (.slice ba c.len bc)) rfl rfl (Bu _ _ _) JJ Ad AI Ab Ag _ rfl ?_;intro j9 cap w9 hown hgrow hat hlt;(have HE:=Z (Ac (OwnP.snoc (pa:=pa) (pc:=pc) (q:=(s,false,p,c)) HB.out.1 HB.out.2.1 HB.out.2.2.1 HB.out.2.2.2.1 (fun q hq _=>HFr.out q hq) hown hgrow hat) (Ac (HB.out.2.2.2.2.1.gb hgrow (fun q hq=>by have:=(HB.out.1.lt q hq).1;omega)) (C0 HB.out.2.2.2.2.2 hgrow (fun q hq=>(HB.out.1.lt q hq).1)))));clear hown hgrow hat));exact N2):=Aa h;exact MU):=Aa h;exact Ka):=Aa h;exact MY):=Aa h;exact Y2):=Aa h;exact XP):=Aa h
    exact aP):=Aa h;exact MV):=Aa h;exact Td):=Aa h;exact MV):=Aa h;exact T1
   ·have dG{P}(h:P:=by
    have NB{P}(h:P:=by
    have cS{P}(h:P:=by
    have NB{P}(h:P:=by
    have hs4:=g.size;clear g hN4;have hT:=Blk.new w4 [str s,.bool true,.slice none 0 0,.slice none 0 0] 45;have gN:=World.grownBy_alloc w4 (.cells [str s,.bool true,.slice none 0 0,.slice none 0 0].toArray 45 (0,0)) none;have jC{P}(h:P:=by
    rcases WM hn HX.out.1 with⟨h40,hpp⟩| ⟨h40,h41,hpp⟩| ⟨h40,h41,p',st',hnn',hpp⟩
    ·have NU{P}(h:P:=by rintro e w5 ⟨g,v,rfl,rfl,h9⟩;have Ki{P}(h:P:=by clear HK h40;exact bD):=Aa h;exact JU):=Aa h;exact Nr
    ·have NU{P}(h:P:=by rintro e w50 ⟨g,v,rfl,rfl,h9⟩;have Ki{P}(h:P:=by have Rm{P}(h:P:=by rintro e w5 ⟨g,v,rfl,rfl,h9⟩;have Ki{P}(h:P:=by clear HK h41;exact bD):=Aa h;exact JU):=Aa h;exact Oj):=Aa h;exact JU):=Aa h;exact Nr
    ·have dZ{P}(h:P:=by
     replace hT:=(hT.set 2 (.slice pa p.length pc)).of_eq (cs':=[str s,.bool true,.slice pa p.length pc,.slice none 0 0]) rfl rfl;have eY{P}(h:P:=by
     have NC{P}(h:P:=by
     have HG:=Z (Ac ((hT.set 3 (.slice ba c.len bc)).of_eq (cs':=[str s,.bool true,.slice pa p.length pc,.slice ba c.len bc]) rfl rfl) (Ac (HZ.out.1.gb gS GU).back (Ac (C0 HZ.out.2 gS IU) (Ac (h9.gb gS A6) (Ac (hV9.out.gb gS Ig) (RepV.gb hB gS MF))))));clear g gS hT hV9 hB HZ h9 hR;go_upto_region 13 with fail;refine AL (fun W=>Blk W w4.heap.size [str s,.bool true,.slice pa p.length pc,.slice ba c.len bc] 45∧OwnP W w.heap.size u3 a∧w.grownBy W (some b)∧Rr W b (.slice ta l.length tc) l st5∧Cells W (.slice pa p.length pc) 1 (p:List Bs).length ((p:List Bs).map str) (fun q=>w4.heap.size<q)∧RepV (Ap w11.heap.size) W false (.slice ba c.len bc) c) HG.out ?_;have Kl{P}(h:P:=by
     have gN:=World.grownBy_alloc W (.cells (pdC (AB (s,true,p,c)) (.slice pa p.length pc) (.slice ba c.len bc)).toArray 45 (0,0)) none;have NA{P}(h:P:=by go_wp2_with (at_builtin;go_loud(refine wpList_append_lies _ rfl _ _ 34 rfl w.heap.size 45 i0 _ 4 72 underlying34 HI.out.1 HI.out.2.1 HI.out.2.2.1 HI.out.2.2.2 rfl Ad _ _ cs rfl HB.out.1 ⟨W.heap.size,0,none⟩ 1 1 (pdC (AB (s,true,p,c)) (.slice pa p.length pc) (.slice ba c.len bc)) rfl rfl (Bu _ _ _) JJ Ad AI Ab Ag _ rfl ?_;intro j9 cap w9 hown hgrow hat hlt;(have HE:=Z (Ac (OwnP.snoc (pa:=pa) (pc:=pc) (q:=(s,true,p,c)) HB.out.1 HB.out.2.1 HB.out.2.2.1 HB.out.2.2.2.1 (fun q hq _=>HFr.out q hq) hown hgrow hat) (Ac (HB.out.2.2.2.2.1.gb hgrow (fun q hq=>by have:=(HB.out.1.lt q hq).1;omega)) (C0 HB.out.2.2.2.2.2 hgrow (fun q hq=>(HB.out.1.lt q hq).1)))));clear hown hgrow hat));exact N2):=Aa h;exact MU):=Aa h;exact Ka):=Aa h;exact MY):=Aa h;exact Y2):=Aa h;exact XP):=Aa h
    exact aP):=Aa h;exact MV):=Aa h;exact Td):=Aa h;exact MV):=Aa h;exact T1):=Aa h
   exact Sq):=Aa h;exact Sm):=Aa h
 exact Zl
end
theorem Ue(w:World)(m n:Nat):(w.drewN m).drewN n=w.drewN (m+n):=by simp[World.drewN,Nat.add_assoc]
theorem kQ{w:World}{pa pb:Option Addr}{pc pd:Nat}{l m:List Bs}{ok ok':Nat→Prop}(h1:Cells w (.slice pa l.length pc) 1 l.length (l.map str) ok)(h2:Cells w (.slice pb m.length pd) 1 m.length (m.map str) ok'):
 Calls Tryz.prog 32 #[.slice pa l.length pc,.slice pb m.length pd] w fun e w'=>e= .returned (.bool (CF l m))∧∃q,w'=w.drewN q:=by
 have hc1:=h1.at1.2;have hc2:=h2.at1.2;have hl:l.length≤maxLen:=by obtain⟨_,_,e,h3,h4,_⟩:=h1;omega
 unfold maxLen at hl;clear h1 h2;by_cases hn:l.length=m.length
 ·have cI{P}(h:P:=by
  go_loopg [5] l.length (fun g v5 wr=>∃k:Nat,k+g=l.length∧v5= .int .i64 k∧(∀j,j<k→l.getD j []=m.getD j [])∧∃q,wr=w.drewN q)
  case atStart=>exact⟨0,by omega,rfl,fun j hj=>by omega,0,rfl⟩
  case round=>
   obtain⟨k,hg,rfl,hp,q,rfl⟩:=hrel;have hgr:w.grownBy (w.drewN q) none:=AA (Aj _ _) q;by_cases hk:k<l.length
   ·obtain⟨g1,o1,rfl,c1⟩:=HC.out.1 k hk;obtain⟨g2,o2,rfl,c2⟩:=HC.out.2 k Lf;have hkm:k<m.length:=Lf;have hkI:decide (k<l.length)=true:=BE;have HP:=Z hp;have HG:=Z hgr;clear hp hgr;generalize hs1:l.getD k []=s at*;generalize hs2:m.getD k []=t at*;by_cases he:s=t
    ·have bV{P}(h:P:=by
     go_roundg (l.length-(k+1))
     case measure=>omega
     case rel=>exact⟨k+1,by omega,by go_num,fun j hj=>by rcases Nat.lt_succ_iff_lt_or_eq.1 hj with h|rfl;exact HP.out j h;exact HE.out,Qs⟩):=Aa h;exact Sv
    ·have cC{P}(h:P:=by exact⟨by rw[HE.out];rfl,Qs⟩):=Aa h;exact SC
   ·have cZ{P}(h:P:=by exact⟨by rw[HE.out];rfl,Qs⟩):=Aa h;exact Tq):=Aa h
  exact SM
 ·have bZ{P}(h:P:=by exact⟨by rw[HN.out];rfl,0,rfl⟩):=Aa h;exact S3
theorem WG{w W W1:World}{a b m n:Nat}{u0 u1 u2 u3 u4 u5 u6 u7:Value}(h:W.cell? ⟨a,m,none⟩=some u0∧W.cell? ⟨a,m+1,none⟩=some u1∧W.cell? ⟨a,m+2,none⟩=some u2∧W.cell? ⟨a,m+3,none⟩=some u3∧W.cell? ⟨b,n,none⟩=some u4∧W.cell? ⟨b,n+1,none⟩=some u5∧W.cell? ⟨b,n+2,none⟩=some u6∧W.cell? ⟨b,n+3,none⟩=some u7∧w.grownBy W none)(g:W.grownBy W1 none):W1.cell? ⟨a,m,none⟩=some u0∧W1.cell? ⟨a,m+1,none⟩=some u1∧W1.cell? ⟨a,m+2,none⟩=some u2∧W1.cell? ⟨a,m+3,none⟩=some u3∧W1.cell? ⟨b,n,none⟩=some u4∧W1.cell? ⟨b,n+1,none⟩=some u5∧W1.cell? ⟨b,n+2,none⟩=some u6∧W1.cell? ⟨b,n+3,none⟩=some u7∧w.grownBy W1 none:=by
 obtain⟨h0,h1,h2,h3,h4,h5,h6,h7,k⟩:=h;exact⟨Am g h0,Am g h1,Am g h2,Am g h3,Am g h4,Am g h5,Am g h6,Am g h7,Ah k g⟩
theorem oE{w:World}{ok ok':Nat→Prop}{la lb:Option Addr}{lc ld:Nat}{a b:List Pd}(ha:RepQ ok w (.slice la a.length lc) a)(hb:RepQ ok' w (.slice lb b.length ld) b):
 Calls Tryz.prog 14 #[.slice la a.length lc,.slice lb b.length ld] w fun e w'=>e= .returned (.bool (C9 a b))∧w.grownBy w' none:=by
 by_cases hlen:a.length=b.length
 ·have dW{P}(h:P:=by
  have hmax:a.length≤maxLen:=Ab;unfold maxLen at hmax;clear hle hmx;have hnI:((a.length:Int) !=(b.length:Int))=false:=Ag;have hnI2:((a.length:Int)==(b.length:Int))=true:=Ag;have HC:=Z (Ac hc1 (Ac hc2 hlen));have HR:=Z (Ac hr1 hr2);clear hc1 hc2 hlen hr1 hr2;go_enter func14,ntmps14;go_wp2_with fail;go_loopg [5] a.length (fun n v5 wr=>∃ra rb:List Pd,∃k:Nat,ra.length=n∧k+n=a.length∧ra.length=rb.length∧v5= .int .i64 k∧C9 a b=C9 ra rb∧RepP ok w ra (cs.drop (k*4))∧RepP ok' w rb (ds.drop (k*4))∧w.grownBy wr none)
  case atStart=>exact⟨a,b,0,rfl,by omega,HC.out.2.2,rfl,rfl,by simpa using HR.out.1,by simpa using HR.out.2,Aj _ _⟩
  case round=>
   obtain⟨ra,rb,k,hn,hk,hl,rfl,hs,hra,hrb,hgr⟩:=hrel;clear HR;cases ra with
   | nil=>
     cases rb with
     |cons _ _=>simp at hl
     | nil=>
       have hkI:decide (k<a.length)=false:=by simp at hn;simp;omega
       have HS:=Z (show C9 a b=true by rw[hs];rfl);exact S4
   | cons h1 n1=>
     cases rb with
     |nil=>simp at hl
     | cons h2 n2=>
       simp only[List.length_cons]at hn hl;subst hn;obtain⟨pa1,ba1,pc1,bc1,hp1,hB1,hx1,ha1⟩:=RepP.elem HC.out.1 hra;obtain⟨pa2,ba2,pc2,bc2,hp2,hB2,hx2,ha2⟩:=RepP.elem HC.out.2.1 hrb;have hkI:decide (k<a.length)=true:=Ag;have hkg:k<b.length:=by have:=HC.out.2.2;omega
       have hkf:k+1≤a.length:=Ab;have i0:(0:Int)≤(k:Int):=Ab;have i1:(k:Int)<(a.length:Int):=Ab;have i2:k<a.length:=Ab;have i3:(k:Int)<(b.length:Int):=Ab;have HS:=Z (Ac (show C9 a b=(GS h1 h2&&C9 n1 n2)from hs) (show n1.length=n2.length by omega));have HT:=Z (fun(W:World)(gW:wr.grownBy W none)=>kQ (hp1.gb (Ah hgr gW) Ae) (hp2.gb (Ah hgr gW) Ae));have HB:=Z (fun(W:World)(gW:wr.grownBy W none)=>k9 (hB1.gb (Ah hgr gW) Ae) (hB2.gb (Ah hgr gW) Ae));have HN:=Z (Ac hx1 (Ac hx2 hgr));clear hs hl hra hrb hp1 hB1 hx1 hp2 hB2 hx2;have bS{P}(h:P:=by
       have hglz:=World.block_lt_of_cell? w _ y0;have z0:=Am hgr y0;have z1:=Am hgr y1;have z2:=Am hgr y2;have z3:=Am hgr y3;simp only[Nat.add_zero,←Nat.add_assoc]at z0 z1 z2 z3;clear y0 y1 y2 y3;have bT{P}(h:P:=by
       have hglt:=World.block_lt_of_cell? w _ y0;have t0:=Am hgr y0;have t1:=Am hgr y1;have t2:=Am hgr y2;have t3:=Am hgr y3;simp only[Nat.add_zero,←Nat.add_assoc]at t0 t1 t2 t3;clear y0 y1 y2 y3;have hws:=hgr.size;have hq1:g1<wr.heap.size:=Nat.lt_of_lt_of_le hglz hws;have hq2:g2<wr.heap.size:=Nat.lt_of_lt_of_le hglt hws;have HK:=Z (fun(W:World)(g:wr.grownBy W none)=>(show W.cell? ⟨g1,o1+k*4,none⟩=some (str h1.name)∧W.cell? ⟨g1,o1+k*4+1,none⟩=some (.bool h1.fn)∧W.cell? ⟨g1,o1+k*4+2,none⟩=some (.slice pa1 h1.p.length pc1)∧W.cell? ⟨g1,o1+k*4+3,none⟩=some (.slice ba1 h1.body.len bc1)∧W.cell? ⟨g2,o2+k*4,none⟩=some (str h2.name)∧W.cell? ⟨g2,o2+k*4+1,none⟩=some (.bool h2.fn)∧W.cell? ⟨g2,o2+k*4+2,none⟩=some (.slice pa2 h2.p.length pc2)∧W.cell? ⟨g2,o2+k*4+3,none⟩=some (.slice ba2 h2.body.len bc2)∧wr.grownBy W none from⟨Am g z0,Am g z1,Am g z2,Am g z3,Am g t0,Am g t1,Am g t2,Am g t3,g⟩));have HGR:=Z hgr;clear ha1 ha2 hgr;cases c_n:(h1.name==h2.name)with
       | false=>
         have d_n:(h1.name !=h2.name)=true:=by simp[bne,c_n]
         have HF:=Z (show C9 a b=false by rw[HS.out.1];simp[GS,c_n]);go_wp2_with fail;go_quiet(fail);exact Oq
       | true=>
         have d_n:(h1.name !=h2.name)=false:=by simp[bne,c_n]
         cases c_f:(h1.fn==h2.fn)with
         | false=>
           have d_f:(h1.fn !=h2.fn)=true:=by simp only[bne,c_f];rfl
           have HF:=Z (show C9 a b=false by rw[HS.out.1];unfold GS;rw[c_f];simp);go_wp2_with fail;go_quiet(fail);exact Oq
         | true=>
           have d_f:(h1.fn !=h2.fn)=false:=by simp only[bne,c_f];rfl
           cases c_p:CF h1.p h2.p with
           | false=>
             rw[c_p]at HT;have HF:=Z (show C9 a b=false by rw[HS.out.1];simp[GS,c_p]);clear c_p;go_wp2_with fail;go_quiet((go_at_call 32;refine(HT.out _ (AA (Aj _ _) _)).mono ?_;rintro e w9 ⟨rfl,q9,rfl⟩;exact⟨rfl,_,Ue _ _ _⟩));exact Oq
           | true=>
             rw[c_p]at HT;have HT2:=Z (fun(W:World)(gW:wr.grownBy W none)=>(HT.out W gW).mono (R':=fun e w'=>e= .returned (.bool true)∧W.grownBy w' none) (by rintro e w' ⟨rfl,q,rfl⟩;exact⟨rfl,AA (Aj _ _) _⟩));clear HT;have HT:=HT2;clear HT2 z0 z1 z2 z3 t0 t1 t2 t3;cases c_b:AP h1.body h2.body with
             | false=>
               rw[c_b]at HB;have HF:=Z (show C9 a b=false by rw[HS.out.1];simp[GS,c_b]);clear c_p c_b;go_wp2_with fail;go_region_held3 (fun W=>W.cell? ⟨g1,o1+k*4,none⟩=some (str h1.name)∧W.cell? ⟨g1,o1+k*4+1,none⟩=some (.bool h1.fn)∧W.cell? ⟨g1,o1+k*4+2,none⟩=some (.slice pa1 h1.p.length pc1)∧W.cell? ⟨g1,o1+k*4+3,none⟩=some (.slice ba1 h1.body.len bc1)∧W.cell? ⟨g2,o2+k*4,none⟩=some (str h2.name)∧W.cell? ⟨g2,o2+k*4+1,none⟩=some (.bool h2.fn)∧W.cell? ⟨g2,o2+k*4+2,none⟩=some (.slice pa2 h2.p.length pc2)∧W.cell? ⟨g2,o2+k*4+3,none⟩=some (.slice ba2 h2.body.len bc2)∧wr.grownBy W none) (first|exact HK.out _ (An (Aj wr none))|exact WG (by assumption) g5) (first| (go_at_call 32;refine(HT.out _ ?_).mono ?_;(simp[*]);rintro e w5 ⟨rfl,g5⟩)| (go_at_call 40;refine(HB.out _ ?_).mono ?_;(simp[*]);rintro e w5 ⟨rfl,g5⟩));all_goals
                rename_i hH;have HG:=Z (Ah HN.out.2.2 hH.2.2.2.2.2.2.2.2);clear hH;exact Fu
             | true=>
               rw[c_b]at HB;have HF:=Z (show C9 a b=C9 n1 n2 by rw[HS.out.1];unfold GS;rw[c_n,c_f,c_p,c_b];rfl);clear c_p c_b;go_wp2_with fail;go_region_held3 (fun W=>W.cell? ⟨g1,o1+k*4,none⟩=some (str h1.name)∧W.cell? ⟨g1,o1+k*4+1,none⟩=some (.bool h1.fn)∧W.cell? ⟨g1,o1+k*4+2,none⟩=some (.slice pa1 h1.p.length pc1)∧W.cell? ⟨g1,o1+k*4+3,none⟩=some (.slice ba1 h1.body.len bc1)∧W.cell? ⟨g2,o2+k*4,none⟩=some (str h2.name)∧W.cell? ⟨g2,o2+k*4+1,none⟩=some (.bool h2.fn)∧W.cell? ⟨g2,o2+k*4+2,none⟩=some (.slice pa2 h2.p.length pc2)∧W.cell? ⟨g2,o2+k*4+3,none⟩=some (.slice ba2 h2.body.len bc2)∧wr.grownBy W none) (first|exact HK.out _ (An (Aj wr none))|exact WG (by assumption) g5) (first| (go_at_call 32;refine(HT.out _ ?_).mono ?_;(simp[*]);rintro e w5 ⟨rfl,g5⟩)| (go_at_call 40;refine(HB.out _ ?_).mono ?_;(simp[*]);rintro e w5 ⟨rfl,g5⟩));all_goals
                rename_i hH;have HG:=Z (Ah HN.out.2.2 hH.2.2.2.2.2.2.2.2);clear hH;go_wp2;go_roundg n1.length
                case measure=>omega
                case rel=>exact⟨n1,n2,k+1,rfl,by omega,HS.out.2,by go_num,HF.out,HN.out.1,HN.out.2.1,HG.out⟩):=Aa h
       exact Ss):=Aa h;exact Sr):=Aa h
  exact TT
 ·have hnI:((a.length:Int) !=(b.length:Int))=true:=by simp;omega
  have hnI2:((a.length:Int)==(b.length:Int))=false:=Ag;have HN:=Z (show C9 a b=false by cases h:C9 a b with|false=>rfl|true=>exact absurd (xJ h) hlen);clear hlen ha hb;go_enter func14,ntmps14;go_wp2;go_ret;exact⟨by rw[HN.out];rfl,gw⟩
theorem WL(s:Bs)(w:World):Calls Tryz.prog 7 #[str s] w fun e w'=>e= .returned (.bool (decide (16000<s.length)))∧w.grownBy w' none:=by
 go_enter func7,ntmps7;go_wp2;go_ret;exact⟨by show Ending.returned (Value.bool (decide ((16000:Int)<(s.length:Int))))=_;congr 2;rw[decide_eq_decide];omega,gw⟩
end Go.Proofs.YtmcajbhljbbglaaGreatDoor
