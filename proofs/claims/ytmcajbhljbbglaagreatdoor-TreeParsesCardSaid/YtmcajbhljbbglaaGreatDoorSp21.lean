/-
  The lexer: the next token. The lexer: the iterator over the tokens. The lexer: all tokens in a slice.
-/
import Derived.Test.YtmcajbhljbbglaaGreatDoorSpF
import Derived.Test.YtmcajbhljbbglaaGreatDoorSp19
import Derived.RangeFuncNested
import Derived.RangeFuncBound
import Derived.RangeFuncCalls
import Derived.RangeFuncLeaves
import Derived.RangeFuncBox
import Derived.Shelf.Abstract
import Derived.OwnWalkIn
import Derived.TacticsInMore
import Derived.LoopNIn
import Derived.LoopIn
import Derived.Maps.AppendAt
import Derived.Test.YtmcajbhljbbglaaGreatDoorSp02
set_option linter.all false
set_option maxRecDepth 100000
set_option maxHeartbeats 8000000
namespace Go.Proofs.YtmcajbhljbbglaaGreatDoor
open Tryz
open Go.RowKit
theorem Sc.drew{w:World}{b:Nat}{s:Bs}{i:Nat}{line begun:Bool}{bad:Int}(h:Sc w b s i line begun bad):Sc w.drew b s i line begun bad:=h.drewN 1
theorem xR(s:Bs)(l:Bool)(R:NR)(hR:R ≠ .out):∀(d k m:Nat),s.length-k=d→k≤s.length→Bo s m k l=R→∃m',1≤m'∧m'≤m∧Bo s m' (AE s k) l=R:=by
 intro d;induction d with
 | zero=>
   intro k m hd hk h;rw[show AE s k=k from DZ Ab];cases m with
   |zero=>exact absurd h.symm hR
   |succ m=>exact⟨m+1,by omega,Nat.le_refl _,h⟩
 | succ d ih=>
   intro k m hd hk h;have hkl:k<s.length:=Ab;cases m with
   |zero=>exact absurd h.symm hR
   | succ m=>
     cases hb:cls 3 (bAt s k)with
     | false=>
       rw[show AE s k=k from Dq hkl hb];exact⟨m+1,by omega,Nat.le_refl _,h⟩
     | true=>
       rw[show AE s k=AE s (k+1)from BK hkl hb];have h10:bAt s k≠10:=by intro e;rw[e]at hb;revert hb;decide
       have hs:Bt s k l= .again (k+1) l:=by
        unfold Bt;rw[if_neg Ab,if_neg h10,if_pos hb]
       rw[Bo,hs]at h;obtain⟨m',h1,h2,h3⟩:=ih (k+1) m Ab Ab h;exact⟨m',h1,by omega,h3⟩
theorem WN(s:Bs)(k:Nat)(p:Bs){r:Bool}(hr:p.isPrefixOf (s.drop k)=r)(w:World):
 Calls Tryz.prog 111 #[.string ((⟨s.toArray⟩:ByteArray).extract k s.length),.string ⟨p.toArray⟩] w fun e w'=>e= .returned (.bool r)∧w'=w:=(OV s k p hr w).mono fun _ _ h=>⟨h.1,h.2.symm⟩
section
variable {s:Bs}{j:Nat}{l:Bool}
theorem P4(h:s.length≤j):Bt s j l=if l then .tok ⟨5,j,[]⟩ j false else .stop:=if_pos h
theorem Xc(h:j<s.length)(h10:bAt s j=10):Bt s j l=if l then .tok ⟨5,j,[]⟩ (j+1) false else .again (j+1) false:=(if_neg Ab).trans (if_pos h10)
theorem P3(h:j<s.length)(h10:bAt s j≠10)(hb:cls 3 (bAt s j)=false)(hc:((bAt s j==42&&!l)||Cf s j)=true):Bt s j l=match Bw s j with
 |some k=> .bad k
 |none=> .again (Az s j) l:=(if_neg Ab).trans ((if_neg h10).trans ((if_neg (by rw[hb];simp)).trans (if_pos hc)))
theorem Px(h:j<s.length)(h10:bAt s j≠10)(hb:cls 3 (bAt s j)=false)(hc:((bAt s j==42&&!l)||Cf s j)=false)(h59:bAt s j=59):Bt s j l=if BF s (AE s (j+1))then
 match Bw s (AE s (j+1))with
 |some k=> .bad k
 |none=> .again (BJ s (AE s (j+1))) l
 else .bad j:=(if_neg Ab).trans ((if_neg h10).trans ((if_neg (by rw[hb];simp)).trans ((if_neg (by rw[hc];simp)).trans (if_pos h59))))
theorem Wp(h:j<s.length)(h10:bAt s j≠10)(hb:cls 3 (bAt s j)=false)(hc:((bAt s j==42&&!l)||Cf s j)=false)(h59:bAt s j≠59):Bt s j l=AK s j:=(if_neg Ab).trans ((if_neg h10).trans ((if_neg (by rw[hb];simp)).trans ((if_neg (by rw[hc];simp)).trans (if_neg h59))))
end
theorem Vh{w:World}{b:Nat}{s:Bs}{i:Nat}{bad:Int}(h:Sc w b s i true true bad){j:Nat}(hj:j=if i<s.length then i+1 else i):
 Calls Tryz.prog 110 #[.pointer (some ⟨b,0,none⟩)] w fun e w'=>e= .returned (.tuple #[AG ⟨5,i,[]⟩,.bool true])∧w.grownBy w' (some b)∧Sc w' b s j false false bad:=by
 subst hj;refine(Vg h).mono ?_;rintro e w' ⟨g,hs,he⟩;exact⟨by rw[he];simp,g,hs⟩
theorem VZ{w:World}{b:Nat}{s:Bs}{i:Nat}{bad:Int}(h:Sc w b s i false false bad){j:Nat}(hj:j=if i<s.length then i+1 else i){r:Bool}(hr:(!decide (i<s.length))=r):
 Calls Tryz.prog 110 #[.pointer (some ⟨b,0,none⟩)] w fun e w'=>e= .returned (.tuple #[tok0,.bool r])∧w.grownBy w' (some b)∧Sc w' b s j false false bad:=by
 subst hj hr;refine(Vg h).mono ?_;rintro e w' ⟨g,hs,he⟩;exact⟨by rw[he];simp,g,hs⟩
def Ww(w:World)(b:Nat)(s:Bs)(r:NR)(e:Ending)(w':World):Prop:=
 w.grownBy w' (some b)∧match r with
  | .tok t j l _=>e= .returned (.tuple #[AG t,.bool true])∧Sc w' b s j l l (-1)
  | .stop=>(∃t,e= .returned (.tuple #[AG t,.bool false]))∧∃j l,Sc w' b s j l l (-1)
  | .bad k=>(∃t,e= .returned (.tuple #[AG t,.bool false]))∧∃j l,Sc w' b s j l l k
  | .out=>False
theorem qG{w w':World}{b:Nat}{s:Bs}{m j:Nat}{l:Bool}{R:NR}{t:Tok}{ok:Bool}(hF:TokFin b s (AK s j) t ok w')(hS:Bt s j l=AK s j)(hM:Bo s (m+1) j l=R)(g:w.grownBy w' (some b)):
 Ww w b s R (.returned (.tuple #[AG t,.bool ok])) w':=by
 subst hM;refine⟨g,?_⟩;rw[Bo,hS];cases ht:AK s j with
 |tok t' j' l'=>rw[ht]at hF;obtain⟨rfl,rfl,hs⟩:=hF;exact⟨rfl,hs⟩
 |bad k=>rw[ht]at hF;obtain⟨rfl,hs⟩:=hF;exact⟨⟨t,rfl⟩,hs⟩
 |again j' l'=>rw[ht]at hF;exact hF.elim
 |stop=>rw[ht]at hF;exact hF.elim
structure PY(w:World)(b:Nat)(s:Bs)(k:Nat)(l:Bool)(wr:World):Prop where
 sc:Sc wr b s k l l (-1)
 res:Blk wr w.heap.size [.int .i64 0,.int .i64 0,str []] 89
 g:w.grownBy wr (some b)
 tabs:Tabs b wr
theorem zQ{w:World}{b:Nat}{s:Bs}{i n:Nat}{line:Bool}(h:Sc w b s i line line (-1))(ht:Tabs b w)(hn:Bo s n i line ≠ .out):
 Calls Tryz.prog 84 #[.pointer (some ⟨b,0,none⟩)] w (Ww w b s (Bo s n i line)):=by
 have hb:=h.lt;generalize hR:Bo s n i line=R at*;have hA:PY w b s i line (w.alloc (.cells #[.int .i64 0,.int .i64 0,str []] 89 (0,0))):=
  ⟨h.alloc _,Blk.new _ [.int .i64 0,.int .i64 0,str []] _,World.grownBy_alloc w _ _,ht.gbN (World.grownBy_alloc w _ none)⟩
 have HR:=Z (Ac hR hn);clear h ht hR hn;go_enter func84,ntmps84;go_wp2_with fail;go_loopg [] n (fun g wr=>∃k l,Bo s g k l=R∧PY w b s k l wr)
 case atStart=>exact⟨i,line,HR.out.1,hA⟩
 case round=>
  obtain⟨k,l,hk,hr⟩:=hrel;clear hA;have hN:=xR s l R HR.out.2 _ k gk rfl hr.sc.le hk;have HN:=Z hN;clear hk hN;have hb1:=hr.sc.lt;have gs:=hr.g.size;go_wp2_with fail;refine(AaP hr.sc).mono ?_;rintro e w1 ⟨rfl,hs1,g1⟩;have hq:PY w b s (AE s k) l w1:=⟨hs1,hr.res.gb g1 Ag,Ah hr.g g1,hr.tabs.gb g1 Ae⟩;have hbl:AE s k<s.length→cls 3 (bAt s (AE s k))=false:=fun h=>Jw h;obtain⟨m,hm1,hm2,hm3⟩:=HN.out;have HM:=Z hm3;clear HN hs1 hr hm3 hb1 gs;generalize AE s k=j at*;have hb1:=hq.sc.lt;have gs:=hq.g.size;have hf:=hq.sc.few;have hjl:=hq.sc.le;have c0:=hq.sc.c0;have c1:=hq.sc.c1;have c258:=hq.sc.c258;have c259:=hq.sc.c259;have r0:=hq.res.cell 0;have r1:=hq.res.cell 1;have r2:=hq.res.cell 2;have rf:=fun k=>hq.res.frozen k;have rl:=hq.res.lt;simp only[List.getElem?_cons_zero,List.getElem?_cons_succ]at r0 r1 r2;obtain⟨m,rfl⟩:∃q,m=q+1:=⟨m-1,by omega⟩;by_cases hj:j<s.length
  ·have hj1:((j:Int)==(s.length:Int))=false:=by simp;omega
   have hg:=fun h=>BI s j h hj;have hb3:=hbl hj;by_cases h10:bAt s j=10
   ·have hS:=Xc (l:=l) hj h10;have e10:((bAt s j).toNat:Int)==10:=by rw[h10];rfl
    cases l with
    | true=>
      have HQ:=Z (show R= .tok ⟨5,j,[]⟩ (j+1) false m by rw[←HM.out,Bo,hS];rfl);have HE:=Z (fun(W:World)(g:w1.grownBy W none)=>Vh (hq.sc.gbN g) (j:=j+1) (by rw[if_pos hj]));clear hS h10 hbl hb3;generalize bAt s j=q at*;exact TW
    | false=>
      have HQ:=Z (show Bo s m (j+1) false=R by rw[←HM.out,Bo,hS];rfl);have HE:=Z (fun(W:World)(g:w1.grownBy W none)=>VZ (hq.sc.gbN g) (j:=j+1) (by rw[if_pos hj]) (r:=false) (by simp[hj]));clear hS h10 hbl hb3;generalize bAt s j=q at*;have RF{P}(h:P:=by
      have gg:=Ah (AA hq.g nq) g2;have ht2:=hq.tabs.gb (Ah (AA (Aj _ (some b)) nq) g2) Ae;go_wp2;go_roundg m
      case measure=>omega
      case rel=>exact⟨j+1,false,HQ.out,hs2.alloc _,hr2.alloc _,Ar gg _,ht2.gbN (World.grownBy_alloc _ _ _)⟩):=Aa h;exact QF
   ·have e10:(((bAt s j).toNat:Int)==10)=false:=FM (n:=10) Ad (by simpa using h10);by_cases hstar:bAt s j=42∧l=false
    ·obtain⟨h42,rfl⟩:=hstar;have HS:=Z (P3 (l:=false) hj h10 hb3 (by simp[h42]));have e42:(((bAt s j).toNat:Int)==42)=true:=FM (n:=42) Ad (by simpa using h42);clear h10 hbl hb3 h42;generalize bAt s j=q at*;go_wp2_with fail;go_quiet(fail);go_wp2_with fail;go_quiet(fail);go_wp2_with fail;have Rp{P}(h:P:=by
     cases hcm:Bw s j with
     | some k=>
       exact Qx
     | none=>
       have HQ:=Z (show Bo s m (Az s j) false=R by rw[←HM.out,Bo,HS.out,hcm]);have RK{P}(h:P:=by
       go_roundg m
       case measure=>omega
       case rel=>exact⟨Az s j,false,HQ.out,hs2,hr2,gg,ht2⟩):=Aa h;exact QL):=Aa h
     exact On
    ·have hor : ((((bAt s j).toNat : Int) == 42) = false) ∨ ((((bAt s j).toNat : Int) == 42) = true ∧ l = true) := by
      cases h42:bAt s j==42 with
      |false=>exact .inl (FM (n:=42) Ad h42)
      | true=>exact .inr ⟨FM (n:=42) Ad h42,by cases l with
        |true=>rfl
        |false=>exact absurd ⟨by simpa using h42,rfl⟩ hstar⟩
     have hs42:(bAt s j==42&&!l)=false:=by
      cases h42:bAt s j==42 with
      |false=>rfl
      | true=>cases l with
        |true=>rfl
        |false=>exact absurd ⟨by simpa using h42,rfl⟩ hstar
     have hleI:decide ((j:Int)≤s.length)=true:=Ag;cases ha:Cf s j with
     | true=>
       have HS:=Z (P3 (l:=l) hj h10 hb3 (by rw[ha];simp));have HP:=Z (WN s j [38,38] (r:=true) ha);clear h10 hbl hb3 hstar hs42 ha;generalize bAt s j=q at*;rcases hor with e42| ⟨e42,rfl⟩
       ·have NH{P}(h:P:=by
        have Rp{P}(h:P:=by
        cases hcm:Bw s j with
        | some k=>
          exact Qx
        | none=>
          have HQ:=Z (show Bo s m (Az s j) l=R by rw[←HM.out,Bo,HS.out,hcm]);have RK{P}(h:P:=by
          go_roundg m
          case measure=>omega
          case rel=>exact⟨Az s j,l,HQ.out,hs2,hr2,gg,ht2⟩):=Aa h;exact QL):=Aa h
        exact On):=Aa h;exact Nd
       ·have NH{P}(h:P:=by
        have Rp{P}(h:P:=by
        cases hcm:Bw s j with
        | some k=>
          exact Qx
        | none=>
          have HQ:=Z (show Bo s m (Az s j) true=R by rw[←HM.out,Bo,HS.out,hcm]);have RK{P}(h:P:=by
          go_roundg m
          case measure=>omega
          case rel=>exact⟨Az s j,true,HQ.out,hs2,hr2,gg,ht2⟩):=Aa h;exact QL):=Aa h
        exact On):=Aa h;exact Nd
     | false=>
       have HP:=Z (WN s j [38,38] (r:=false) ha);have hcc:((bAt s j==42&&!l)||Cf s j)=false:=by rw[hs42,ha];rfl
       by_cases h59:bAt s j=59
       ·have HS:=Z (Px (l:=l) hj h10 hb3 hcc h59);have e59:(((bAt s j).toNat:Int)==59)=true:=FM (n:=59) Ad (by simpa using h59);clear h10 hbl hb3 hstar hs42 ha hcc h59;generalize bAt s j=q at*;rcases hor with e42| ⟨e42,rfl⟩
        ·skip;have NH{P}(h:P:=by
         have gU{P}(h:P:=by
         have NG{P}(h:P:=by
         cases hgo:BF s (AE s (j+1))with
         | false=>
           exact Yk
         | true=>
           rw[if_pos hgo]at hp;cases hcm:Bw s (AE s (j+1))with
           | some k=>
             exact bJ
           | none=>
             have HQ:=Z (show Bo s m (BJ s (AE s (j+1))) l=R by rw[←HM.out,Bo,HS.out,if_pos hgo,hcm]);have cG{P}(h:P:=by
             go_roundg m
             case measure=>omega
             case rel=>exact⟨_,l,HQ.out,hs2,hr2,gg,ht2⟩):=Aa h;exact SJ):=Aa h
         exact Nc):=Aa h;exact Zv):=Aa h;exact Nd
        ·skip;have NH{P}(h:P:=by
         have gU{P}(h:P:=by
         have NG{P}(h:P:=by
         cases hgo:BF s (AE s (j+1))with
         | false=>
           exact Yk
         | true=>
           rw[if_pos hgo]at hp;cases hcm:Bw s (AE s (j+1))with
           | some k=>
             exact bJ
           | none=>
             have HQ:=Z (show Bo s m (BJ s (AE s (j+1))) true=R by rw[←HM.out,Bo,HS.out,if_pos hgo,hcm]);have cG{P}(h:P:=by
             go_roundg m
             case measure=>omega
             case rel=>exact⟨_,true,HQ.out,hs2,hr2,gg,ht2⟩):=Aa h;exact SJ):=Aa h
         exact Nc):=Aa h;exact Zv):=Aa h;exact Nd
       ·have HS:=Z (Wp (l:=l) hj h10 hb3 hcc h59);have e59:(((bAt s j).toNat:Int)==59)=false:=FM (n:=59) Ad (by simpa using h59);have HX:=Z (fun q=>vV (w:=((w1.drewN q).setCell ⟨b,258,none⟩ (.bool true)).setCell ⟨b,259,none⟩ (.bool true)) (((hq.sc.drewN q).setLine true).setBegun true) (hq.tabs.gb (A7 (A7 (AA (Aj _ (some b)) q) _ _ (.inl rfl)) _ _ (.inl rfl)) Ae) hj h10);clear h10 hbl hb3 hstar hs42 ha hcc h59;generalize bAt s j=q at*;rcases hor with e42| ⟨e42,rfl⟩
        ·exact XQ
        ·exact XQ
  ·have hj1:((j:Int)==(s.length:Int))=true:=by simp;omega
   have hS:=P4 (s:=s) (j:=j) (l:=l) Ab;cases l with
   | true=>
     have HQ:=Z (show R= .tok ⟨5,j,[]⟩ j false m by rw[←HM.out,Bo,hS];rfl);have HE:=Z (fun(W:World)(g:w1.grownBy W none)=>Vh (hq.sc.gbN g) (j:=j) (by rw[if_neg hj]));clear hS;exact TW
   | false=>
     have HQ:=Z (show R= .stop by rw[←HM.out,Bo,hS];rfl);have HE:=Z (fun(W:World)(g:w1.grownBy W none)=>VZ (hq.sc.gbN g) (j:=j) (by rw[if_neg hj]) (r:=true) (by simp[hj]));clear hS;have RF{P}(h:P:=by
     have NG{P}(h:P:=by
     go_wp2_with fail;go_region;go_wp2;refine bodyPost_ret (Du (t:=⟨0,0,[]⟩) (r:=false) rfl _ (((hr2.set3 _ _ _).alloc _).drew) rfl rfl) rfl ⟨?_,?_⟩
     ·have g:=Ah (AA hq.g nq) g2;exact gw
     ·rw[HQ.out];exact⟨⟨_,rfl⟩,j,false,((((hs2.set_other _ _ Ag).set_other _ _ Ag).set_other _ _ Ag).alloc _).drew⟩):=Aa h
     exact Nc):=Aa h;exact QF
open Go.Shelf
attribute [local go_sem] Oper.semAt_some
theorem kK{F:Fence}{n:Nat}{P:Program}{c:Code}{Q:Exit→Act→World→Prop}(J:Nat→Act→World→Prop)(h0:∀a w,¬J 0 a w)(hJ:∀g a w,J (g+1) a w→c.wpIn F n P (Exit.then (J g) Q) a w):
 ∀g a w,J g a w→(Code.loop c).wpIn F n P Q a w:=by
 have key:∀g a w,J g a w→Code.roundsIn F n P c Q g a w:=by
  intro g;induction g with
  |zero=>intro a w h;exact(h0 a w h).elim
  | succ g ih=>
    intro a w h;rw[roundsIn_succ];refine wpIn_mono (hJ g a w h) ?_;intro e a' w' h';cases e with
    |normal=>exact ih a' w' h'
    |_=>exact h'
 intro g a w h;exact wpIn_loop_rounds g (key g a w h)
theorem K6{w w1:World}{r:Option Nat}(h:w.grownBy w1 r)(k:Nat)(o:Obj)(hk:w.heap.size≤k):w.grownBy (w1.putObj k o) r:=by
 refine⟨h.os,h.tape,h.output,by simpa[World.putObj]using h.size,fun i hi hr=>?_⟩;rw[←h.block i hi hr];exact World.putObj_heap_other Ab
theorem WJ(s:Bs):∀n i line t j l m,Bo s n i line= .tok t j l m→m<n:=by
 intro n;induction n with
 |zero=>intro i line t j l m h;cases h
 | succ n ih=>
   intro i line t j l m h;rw[Bo]at h;cases hs:Bt s i line with
   |tok t' j' l'=>rw[hs]at h;cases h;omega
   |again j' l'=>rw[hs]at h;have:=ih _ _ _ _ _ _ h;omega
   |stop=>rw[hs]at h;cases h
   |bad k=>rw[hs]at h;cases h
def PR(b:Nat)(s:Bs)(J:List Tok→World→Prop)(R:LexR)(w:World):Prop:=match R with
 | .ok l=>J l w∧∃j l,Sc w b s j l l (-1)
 | .bad k=>(∃l,J l w)∧∃j l,Sc w b s j l l k
 | .out=>False
theorem Sc.below{n₀:Nat}{w w1:World}{b:Nat}{s:Bs}{i:Nat}{line begun:Bool}{bad:Int}(h:Sc w b s i line begun bad)(g:Below n₀ w w1)(hb:b<n₀):Sc w1 b s i line begun bad:=⟨(g.block b hb).trans h.blk,h.le,h.few⟩
theorem zY(m:Nat)(l cb b n₀:Nat)(s:Bs)(J:List Tok→World→Prop)(hn₀:b<n₀∧cb<n₀∧b≠cb)
 (hJ:∀pre A B,J pre A→A.grownBy B (some b)→J pre B)
 (hY:∀pre t W,J pre W→pre.length<100000→YieldAt Fence.wide m Tryz.prog l #[AG t] W fun e W'=>e= .returned (.bool true)∧J (pre++[t]) W'∧Below n₀ W W')
 (htab:∀A B,Tabs b A→Below n₀ A B→Tabs b B)
 (n i:Nat) (line:Bool) (R:LexR) (hR:R ≠ .out) (hl:BU s n i line=R) (hn:n<100000)
 (W:World) (hcb:W.cell? ⟨cb,0,none⟩=some (.pointer (some ⟨b,0,none⟩))) (hs:Sc W b s i line line (-1)) (ht:Tabs b W) (h0:J [] W):
 CallsIn Fence.wide (m+1) Tryz.prog 83 #[.func (.yield l) #[] #[],.pointer (some ⟨cb,0,none⟩)] W fun e W'=>(∃v,e= .returned v)∧PR b s J R W':=by
 refine callsIn_of_wp func83 rfl trivial ?_ rfl;simp only[ntmps83,List.size_toArray,List.length_cons,List.length_nil,Nat.reduceAdd,Nat.reduceSub,Array.replicate_succ,Array.replicate_zero,List.push_toArray,List.append_toArray,List.nil_append,List.cons_append];gi_wp2;refine kK (fun g a w=>∃u2 u3 u4 u5 u6 u7 u8 u9 u10 u11 u12 u13 u14 u15 u16 u17,a={tmps:=#[.func (.yield l) #[] #[],.pointer (some ⟨cb,0,none⟩),u2,u3,u4,u5,u6,u7,u8,u9,u10,u11,u12,u13,u14,u15,u16,u17],defers:=[]}∧
  ∃pre k q i' line',k<g∧pre.length+k<100000∧q≤k∧(BU s q i' line').pre pre=R∧w.cell? ⟨cb,0,none⟩=some (.pointer (some ⟨b,0,none⟩))∧Sc w b s i' line' line' (-1)∧Tabs b w∧J pre w) ?_ ?_ (n+1) _ _ ?_
 ·rintro a w ⟨u2,u3,u4,u5,u6,u7,u8,u9,u10,u11,u12,u13,u14,u15,u16,u17,_,pre,k,q,i',line',h,_⟩;omega
 ·rintro g a w ⟨u2,u3,u4,u5,u6,u7,u8,u9,u10,u11,u12,u13,u14,u15,u16,u17,rfl,pre,k,q,i',line',hk,hlen,hqk,hR',hc,hsc,htb,hj⟩;have hnx:Bo s q i' line' ≠ .out:=by
   intro e;rw[Pg,e]at hR';exact hR hR'.symm
  have hlx:=Pg s q i' line';have hN:=zQ hsc htb hnx;have HN:=Z (Ac hR' (Ac hlx hN));have hlt:=WJ s q i' line';have HLT:=Z hlt;clear hN hlx hR' hnx hlt;have hcl:=World.block_lt_of_cell? w _ hc;have hbl:=hsc.lt;gi_wp2_with fail;refine⟨trivial,(callsIn_wide.2 HN.out.2.2).mono ?_⟩;intro e w1 hp;obtain⟨g1,hp⟩:=hp;have hc1:=B6 g1 hc Ag;have ht1:=htb.gb g1 Ae;have hj1:=hJ _ _ _ hj g1;have hw1:=g1.size;cases hq:Bo s q i' line' with
  |out=>rw[hq]at hp;exact hp.elim
  | stop=>
    rw[hq]at hp;obtain⟨⟨t,rfl⟩,j,l',hs1⟩:=hp;have HR:=Z (show R= .ok pre by rw[←HN.out.1,HN.out.2.1,hq];simp[LexR.pre]);have dO{P}(h:P:=by exact⟨hJ _ _ _ hj1 (World.grownBy_alloc w1 _ _),j,l',hs1.alloc _⟩):=Aa h;exact TH
  | bad k'=>
    rw[hq]at hp;obtain⟨⟨t,rfl⟩,j,l',hs1⟩:=hp;have HR:=Z (show R= .bad k' by rw[←HN.out.1,HN.out.2.1,hq];simp[LexR.pre]);have dO{P}(h:P:=by exact⟨⟨_,hJ _ _ _ hj1 (World.grownBy_alloc w1 _ _)⟩,j,l',hs1.alloc _⟩):=Aa h;exact TH
  | tok t j l' m'=>
    rw[hq]at hp;obtain⟨rfl,hs1⟩:=hp;have HR:=Z (show(BU s m' j l').pre (pre++[t])=R by rw[←HN.out.1,HN.out.2.1,hq,←LexR.pre_cons]);have hm':=HLT.out _ _ _ _ hq;clear hq;have gA:=World.grownBy_alloc w1 (.cells #[.int .i64 t.kind,.int .i64 t.pos,str t.text] 89 (0,0)) (some b);obtain⟨fn,tmps,assign,body,hy,hRd⟩:=hY pre t _ (hJ _ _ _ hj1 gA) Ab;gi_wp2_with fail;refine hRd.mono ?_;rintro e W3 ⟨rfl,hj3,hb3⟩;have hc3:=(hb3.cell (p:=⟨cb,0,none⟩) hn₀.2.1).trans (B6 gA hc1 Ag);have hs3:=(hs1.alloc (.cells #[.int .i64 t.kind,.int .i64 t.pos,str t.text] 89 (0,0))).below hb3 hn₀.1;have ht3:=htab _ _ (ht1.gb gA Ae) hb3;clear hRd hy;gi_wp2;exact⟨_,_,_,_,_,_,_,_,_,_,_,_,_,_,_,_,rfl,pre++[t],k-1,m',j,l',by omega,by simp;omega,by omega,HR.out,hc3,hs3,ht3,hj3⟩
 ·exact⟨_,_,_,_,_,_,_,_,_,_,_,_,_,_,_,_,rfl,[],n,n,i,line,by omega,by simp;omega,Nat.le_refl _,by rw[LexR.pre_nil];exact hl,hcb,hs,ht,h0⟩
attribute [local go_sem] Oper.semAt_some
def FP(t:Tok):List Value:=[.int .i64 t.kind,.int .i64 t.pos,str t.text]
def Cr(l:List Tok):List Value:=l.flatMap FP
theorem UA(l:List Tok)(t:Tok):Cr (l++[t])=Cr l++FP t:=by simp[Cr]
def ColJ(w:World)(b lr:Nat)(rec:Loop)(pre:List Tok)(W:World):Prop:=
 ∃v,Blk W w.heap.size [v] 51∧W.ownsRow (w.heap.size+3) 89 3 v pre.length (Cr pre)∧W.heap[lr]? =some (.loop rec)∧W.heap[w.heap.size+1]? =some (.deferred (some []))∧w.grownBy W (some b)
theorem ColJ.gb{w:World}{b lr:Nat}{rec:Loop}{pre:List Tok}{A B:World}(h:ColJ w b lr rec pre A)(g:A.grownBy B (some b))(hb:b<w.heap.size)(hl:b<lr):ColJ w b lr rec pre B:=by
 obtain⟨v,h1,h2,h3,h4,h5⟩:=h;exact⟨v,h1.gb g Ag,E7 h2 g If,E0 g h3 Ag,E0 g h4 Ag,Ah h5 g⟩
theorem Tabs.below{B n:Nat}{w w1:World}(h:Tabs B w)(g:Below n w w1)(hB:B≤n):Tabs B w1:=by
 have hlow:=h.low;refine⟨⟨fun c hc=>(g.cell (p:=⟨_,_,none⟩) EJ).trans (h.utf8.1 c hc),fun i hi=>⟨(g.cell (p:=⟨_,_,none⟩) EJ).trans (h.utf8.2 i hi).1,(g.cell (p:=⟨_,_,none⟩) EJ).trans (h.utf8.2 i hi).2⟩⟩,hlow,?_,?_⟩
 ·obtain⟨R,oR,cap,hR,hc,ht⟩:=h.case;refine⟨R,oR,cap,hR,(g.cell (p:=⟨_,_,none⟩) EJ).trans hc,fun i hi=>?_⟩;have:=ht i hi;have hk:R<n:=Ab;exact⟨(g.cell (p:=⟨_,_,none⟩) hk).trans this.1,(g.cell (p:=⟨_,_,none⟩) hk).trans this.2.1,(g.cell (p:=⟨_,_,none⟩) hk).trans this.2.2.1,(g.cell (p:=⟨_,_,none⟩) hk).trans this.2.2.2.1,(g.cell (p:=⟨_,_,none⟩) hk).trans this.2.2.2.2⟩
 ·have hg:=h.glob;unfold Glob Lib.TabIs World.var? at*;simp only[Ms,Option.bind_some]at hg ⊢;rw[g.block _ Ab];exact hg
theorem Sc.putObj{w:World}{b:Nat}{s:Bs}{i:Nat}{line begun:Bool}{bad:Int}(h:Sc w b s i line begun bad)(k:Nat)(o:Obj)(hk:k≠b):Sc (w.putObj k o) b s i line begun bad:=⟨(World.putObj_heap_other hk.symm).trans h.blk,h.le,h.few⟩
theorem Wz{n k:Nat}(h:n≤k)(W3:World)(o:Obj):Below n W3 (W3.putObj k o):=
 ⟨rfl,rfl,rfl,by simp[World.putObj],fun i hi=>World.putObj_heap_other Ab⟩
structure ColR(w W:World)(b lr:Nat)(rec:Loop)(t:Tok)(v:Value)(pre:List Tok)(W2:World):Prop where
 box:Blk W2 w.heap.size [v] 51
 tok:Blk W2 W.heap.size [.int .i64 t.kind,.int .i64 t.pos,str t.text] 89
 row:W2.ownsRow (w.heap.size+3) 89 3 v pre.length (Cr pre)
 loop:W2.heap[lr]? =some (.loop {rec with state:= .busy})
 dfr:W2.heap[w.heap.size+1]? =some (.deferred (some []))
 g:w.grownBy W2 (some b)
 below:Below w.heap.size W W2
theorem jW{F:Fence}{n:Nat}{P:Program}{g:Operand}{ps:Array Tmp}{assign body:Code}{Q:Exit→Act→World→Prop}{a:Act}{w:World}
 (hro:F.round=none) (h1:1≤n) {gf:Nat} {lb:Array Value} (hg:a.eval g= .func (.func gf) #[] lb) (hFg:F.fn gf) (eg:∀args w,(callFunc gf args).run P w= .ok (.enter gf args) w)
 (h:∀fn,F.fn fn→CallsIn F (n-1) P gf (#[.func (.yield (w.heap.size+1)) #[] #[]]++lb) ((w.alloc (.deferred (some []))).alloc (.loop {state:= .ready,pending:=none,fn:=fn,tmps:=a.tmps,params:=ps,assign:=assign,body:=body,defers:=w.heap.size}))
  fun e W=>(∃v,e= .returned v)∧∃r,W.heap[w.heap.size+1]? =some (.loop r)∧r.state ≠ .busy∧r.pending=none∧Q .normal {a with defers:={target:= .collected w.heap.size,args:=#[]}::a.defers} (W.putObj (w.heap.size+1) (.loop {r with state:= .exhausted}))):
 (Code.rangeFunc g ps assign body).wpIn F n P Q a w:=by
 refine wpIn_rangeFunc ?_;intro fn hfn;rw[hro];refine⟨w.heap.size+1,[{target:= .collected w.heap.size,args:=#[]}],(w.alloc (.deferred (some []))).alloc (.loop {state:= .ready,pending:=none,fn:=fn,tmps:=a.tmps,params:=ps,assign:=assign,body:=body,defers:=w.heap.size}),
  {target:= .fn (.func gf) lb,args:=#[.func (.yield (w.heap.size+1)) #[] #[]]},(w.alloc (.deferred (some []))).alloc (.loop {state:= .ready,pending:=none,fn:=fn,tmps:=a.tmps,params:=ps,assign:=assign,body:=body,defers:=w.heap.size}),gf,
  #[.func (.yield (w.heap.size+1)) #[] #[]]++lb,(w.alloc (.deferred (some []))).alloc (.loop {state:= .ready,pending:=none,fn:=fn,tmps:=a.tmps,params:=ps,assign:=assign,body:=body,defers:=w.heap.size}),run_enterLoop_outer _ _ _ _ _,?_,?_,?_,fun _=>h1,?_⟩
 ·simp only[resolve,hg];simp[go_sem]
 ·intro f' hf';simp[Target.leads]at hf';subst hf';exact hFg
 ·simp[invoke,go_sem,eg]
 ·refine(h fn hfn).mono ?_;rintro e W ⟨⟨v,rfl⟩,r,hr,hb,hp,hq⟩;exact⟨none,_,(run_endLoop (P:=P) hr hb).trans (congrArg (fun p=>Result.ok p _) hp),hq⟩
theorem lJ{w:World}{b cb i n:Nat}{s:Bs}{line:Bool}{R:LexR}(hbc:b≠cb)(hcb:w.cell? ⟨cb,0,none⟩=some (.pointer (some ⟨b,0,none⟩)))(hs:Sc w b s i line line (-1))(ht:Tabs b w)
 (hR:R ≠ .out) (hl:BU s n i line=R) (hn:n<100000):
 Calls Tryz.prog 82 #[.slice none 0 0,.func (.func 83) #[] #[.pointer (some ⟨cb,0,none⟩)]] w
  fun e w'=>w.grownBy w' (some b)∧(∃v,e= .returned v∧PR b s (fun l W=>W.ownsRow (w.heap.size+3) 89 3 v l.length (Cr l)) R w'):=by
 have hb:=hs.lt;have hcl:=World.block_lt_of_cell? w _ hcb;refine(callsIn_wide (n:=6)).1 ?_;refine callsIn_of_wp_marks func82 rfl trivial ?_ rfl;simp only[ntmps82,List.size_toArray,List.length_cons,List.length_nil,Nat.reduceAdd,Nat.reduceSub,Array.replicate_succ,Array.replicate_zero,List.push_toArray,List.append_toArray,List.nil_append,List.cons_append];gi_wp2;refine jW rfl Ab (gf:=83) (lb:=#[.pointer (some ⟨cb,0,none⟩)]) rfl trivial (enters_of func83 Bk rfl) ?_;intro fn hfn;have hsz:(w.alloc (.cells #[.slice none 0 0] 51)).heap.size=w.heap.size+1:=Ae;rw[hsz];generalize hrec:Loop.mk _ _ _ _ _ _ _ _=rec0;have g0:w.grownBy (((w.alloc (.cells #[.slice none 0 0] 51)).alloc (.deferred (some []))).alloc (.loop rec0)) none:=Ar (Ar (World.grownBy_alloc w _ none) _) _;have hJ0:ColJ w b (w.heap.size+1+1) rec0 [] (((w.alloc (.cells #[.slice none 0 0] 51)).alloc (.deferred (some []))).alloc (.loop rec0)):=by
  refine⟨.slice none 0 0,((Blk.new w [.slice none 0 0] 51).alloc _).alloc _,World.ownsRow_nil _ _ _ _,?_,?_,AY g0⟩
  ·have:=World.alloc_heap_new ((w.alloc (.cells #[.slice none 0 0] 51)).alloc (.deferred (some []))) (.loop rec0);simpa using this
  ·have:=World.alloc_heap_new (w.alloc (.cells #[.slice none 0 0] 51)) (.deferred (some []));rw[hsz]at this;exact(Below.heap_alloc _ _ _ Ae).trans this
 have hA:=zY 4 (w.heap.size+1+1) cb b w.heap.size s (ColJ w b (w.heap.size+1+1) rec0) ⟨hb,hcl,hbc⟩ (fun pre A B h g=>h.gb g hb Ab) ?hY
  (fun A B h g=>?htab) n i line R hR hl hn _ (Am g0 hcb) (hs.gbN g0) (ht.gbN g0) hJ0
 case htab=>exact h.below g Ab
 case hY=>
  rintro pre t W ⟨v,hB,hO,hlr,hD,hg⟩ hlen;have hpar:rec0.params=#[7]:=by rw[←hrec]
  have hsize:=hg.size;have hlr1:(W.alloc (.cells #[.int .i64 t.kind,.int .i64 t.pos,str t.text] 89)).heap[w.heap.size+1+1]? =some (.loop rec0):=(Below.heap_alloc _ _ _ (Array.getElem?_eq_some_iff.1 hlr).1).trans hlr;refine⟨_,_,_,_,run_yield hlr (by rw[hpar];rfl),roundIn_of_wpIn trivial ?_⟩;obtain⟨post,hpost⟩:∃post:Ending→World→Prop,post=fun e W'=>e= .returned (.bool true)∧ColJ w b (w.heap.size+1+1) rec0 (pre++[t]) W'∧Below w.heap.size W W':=⟨_,rfl⟩;rw[←hpost];have hfin:∀(W3:World),W3.heap[w.heap.size+1+1]? =some (.loop {rec0 with state:= .busy})→(ColJ w b (w.heap.size+1+1) rec0 (pre++[t]) (W3.putObj (w.heap.size+1+1) (.loop rec0))∧Below w.heap.size W W3)→∀a,roundPost Tryz.prog (w.heap.size+1+1) post .normal a W3:=by
   intro W3 h3 hc a;refine⟨_,_,run_endRound none h3,?_⟩;have he:({({rec0 with state:= .busy}:Loop)with state:=if(Option.isNone (none:Option Code))then .ready else .done,pending:=none}:Loop)=rec0:=by rw[←hrec];rfl
   rw[he,hpost];exact⟨rfl,hc.1,hc.2.trans (Wz (n:=w.heap.size) Ab W3 _)⟩
  have hst:rec0.state= .ready:=by rw[←hrec]
  have HF:=Z (Ac hlr1 (Ac hfin hst));clear hlr1 hfin hpar hst;clear hpost;rw[←hrec];simp only[];gi_wp2;refine⟨_,run_beginRound HF.out.1 HF.out.2.2,?_⟩;have gA:=World.grownBy_alloc W (.cells #[.int .i64 t.kind,.int .i64 t.pos,str t.text] 89 (0,0)) none;have hltR:=(Array.getElem?_eq_some_iff.1 hlr).1;have h2:ColR w W b (w.heap.size+1+1) rec0 t v pre ((W.alloc (.cells #[.int .i64 t.kind,.int .i64 t.pos,str t.text] 89 (0,0))).putObj (w.heap.size+1+1) (.loop {rec0 with state:= .busy})):=by
   have hlA:w.heap.size+1+1≠W.heap.size:=Ab;have hne2:w.heap.size+1+1<(W.alloc (.cells #[.int .i64 t.kind,.int .i64 t.pos,str t.text] 89 (0,0))).heap.size:=Ag;refine⟨(World.putObj_heap_other Ab).trans (hB.alloc _),(World.putObj_heap_other (fun e=>hlA e.symm)).trans (Blk.new W [.int .i64 t.kind,.int .i64 t.pos,str t.text] _),ownsRow_putObj (hO.alloc _) _ ((Below.heap_alloc _ _ _ hltR).trans hlr) rfl,World.putObj_heap_same hne2,(World.putObj_heap_other Ab).trans ((Below.heap_alloc _ _ _ Ab).trans hD),K6 (Ar hg _) _ _ Ab,(PB gA).mono hsize|>.trans (Wz Ab _ _)⟩
  generalize(W.alloc (.cells #[.int .i64 t.kind,.int .i64 t.pos,str t.text] 89 (0,0))).putObj (w.heap.size+1+1) (.loop {rec0 with state:= .busy})=W2 at*;have hb2:=h2.box.cell 0;have hf2:=h2.box.frozen 0;have k0:=h2.tok.cell 0;have k1:=h2.tok.cell 1;have k2:=h2.tok.cell 2;simp only[List.getElem?_cons_zero,List.getElem?_cons_succ]at hb2 k0 k1 k2;have hsz2:=h2.g.size;obtain⟨i0,hi,hz0,hz1,hz2⟩:=info_parts PD;have hsz3:=(Array.getElem?_eq_some_iff.1 h2.loop).1;gi_wp2_with (gi_at_builtin;refine wpListIn_append_own _ rfl (.tmp 8) (.tmp 10) 51 rfl (w.heap.size+3) 89 i0 _ 3 32 underlying51 hi hz0 hz1 hz2 rfl Ad v pre.length (Cr pre) rfl (h2.row.alloc _) ⟨W2.heap.size,0,none⟩ 1 1 (FP t) rfl rfl (Bu W2 (FP t) 89) Qr AI Ab Ag ?_;intro v' w1 hown' hgrow _;obtain⟨g',cap',rfl⟩:=ownsRow_succ hown';(have hne:∀k,k<w.heap.size+3→some k≠v.ownBlock:=fun k hk e=>by have:=(h2.row.lt _ e.symm).1;omega);(have hbx:=(h2.box.alloc (.cells (FP t).toArray 89 (0,0))).gb hgrow (hne _ Ab));(have hx0:=hbx.cell 0);(have hxf:=hbx.frozen 0);(have hxl:=hbx.lt);(simp only[List.getElem?_cons_zero]at hx0));have hl5:=(Below.heap_setCell w1 ⟨w.heap.size,0,none⟩ (Value.slice (some ⟨g',0,none⟩) (pre.length+1) cap') (w.heap.size+1+1) Ag).trans (E0 hgrow ((Below.heap_alloc _ _ _ hsz3).trans h2.loop) (hne _ Ab));have hd5:=(Below.heap_setCell w1 ⟨w.heap.size,0,none⟩ (Value.slice (some ⟨g',0,none⟩) (pre.length+1) cap') (w.heap.size+1) Ae).trans (E0 hgrow ((Below.heap_alloc _ _ _ Ab).trans h2.dfr) (hne _ Ab))
  have hb5:Below w.heap.size W2 (w1.setCell ⟨w.heap.size,0,none⟩ (Value.slice (some ⟨g',0,none⟩) (pre.length+1) cap')):=
   ⟨hgrow.os,hgrow.tape,hgrow.output,by have:=hgrow.size;simp at this ⊢;omega,fun k hk=>(Below.heap_setCell _ _ _ _ Ag).trans ((hgrow.block k Ag (fun e=>hne k Ab e)).trans (Below.heap_alloc _ _ _ Ab))⟩
  have hr5:=ownsRow_putObj (E7 hown' (As (Aj w1 (some w.heap.size)) 0 (Value.slice (some ⟨g',0,none⟩) (pre.length+1) cap')) If) (Obj.loop rec0) hl5 rfl;refine HF.out.2.1 _ hl5 ⟨⟨_,(World.putObj_heap_other Ab).trans (hbx.set 0 _),?_,World.putObj_heap_same (Array.getElem?_eq_some_iff.1 hl5).1,(World.putObj_heap_other Ab).trans hd5,?_⟩,h2.below.trans hb5⟩ _
  ·rw[UA,List.length_append];exact hr5
  ·refine K6 ?_ _ _ Ab;have g2:w.grownBy w1 (some b):=⟨hgrow.os.trans h2.g.os,hgrow.tape.trans h2.g.tape,hgrow.output.trans h2.g.output,by have:=hgrow.size;simp at this;omega,fun k hk hkb=>((hgrow.block k Ag (fun e=>hne k Ab e)).trans (Below.heap_alloc _ _ _ Ab)).trans (h2.g.block k hk hkb)⟩;exact A7 g2 _ _ (.inr (Nat.le_refl _))
 simp only[List.append_toArray,List.cons_append,List.nil_append];refine hA.mono ?_;rintro e W ⟨⟨v0,rfl⟩,hE⟩;refine⟨⟨_,rfl⟩,rec0,?_⟩;cases R with
 |out=>exact absurd rfl hR
 | ok l=>
   obtain⟨⟨v,hB,hO,hlr,hD,hg⟩,j,l',hs2⟩:=hE;have eD{P}(h:P:=by exact⟨_,results_tmp rfl _ _ _,K6 hg6 _ _ Ab,_,rfl,ownsRow_putObj hO6 _ hD6 rfl,j,l',hs6.putObj _ _ Ab⟩):=Aa h;exact Yb
 | bad k=>
   obtain⟨⟨l,v,hB,hO,hlr,hD,hg⟩,j,l',hs2⟩:=hE;have eD{P}(h:P:=by exact⟨_,results_tmp rfl _ _ _,K6 hg6 _ _ Ab,_,rfl,⟨l,ownsRow_putObj hO6 _ hD6 rfl⟩,j,l',hs6.putObj _ _ Ab⟩):=Aa h;exact Yb
end Go.Proofs.YtmcajbhljbbglaaGreatDoor
