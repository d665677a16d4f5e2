/-
  The reference: whether two procedures have one name. isTwice at every program. Sizes of statements: ofStmt at every statement. known: it is true. The library's tables, out of what the row lists.
-/
import Derived.Test.YtmcajbhljbbglaaGreatDoorSpF
import Derived.Test.YtmcajbhljbbglaaGreatDoorSp42
import Derived.Maps.Views
import Derived.Test.YtmcajbhljbbglaaGreatDoorSp41
import Derived.Test.YtmcajbhljbbglaaGreatDoorSp34
import Derived.Test.YtmcajbhljbbglaaGreatDoorSp12
import Derived.Lib.LaidU8
import Derived.Lib.LaidCase
import Derived.Lib.LaidTab
import Derived.PinnedBridge
set_option linter.all false
set_option maxRecDepth 100000
set_option maxHeartbeats 8000000
namespace Go.Proofs.YtmcajbhljbbglaaGreatDoor
open Tryz
open Go.RowKit
def Bb(l:List Pd)(i:Nat):Bs:=((l[i]?).map Pd.name).getD []
def EY(l:List Pd):Bool:=(List.range l.length).any fun i=>(List.range i).any fun k=>Bb l i==Bb l k
theorem Ws{l:List Pd}(h:∀i,i<l.length→∀k,k<i→Bb l i≠Bb l k):EY l=false:=by
 rw[Bool.eq_false_iff];intro e;simp only[EY,List.any_eq_true,List.mem_range,beq_iff_eq]at e;obtain⟨i,hi,k,hk,e⟩:=e;exact h i hi k hk e
theorem Wk{l:List Pd}{i k:Nat}(hi:i<l.length)(hk:k<i)(e:Bb l i=Bb l k):EY l=true:=by
 simp only[EY,List.any_eq_true,List.mem_range,beq_iff_eq];exact⟨i,hi,k,hk,e⟩
theorem RepP.name{ok:Nat→Prop}{w:World}:∀{l:List Pd}{cs:List Value},RepP ok w l cs→∀i,i<l.length→cs[i*4]? =some (str (Bb l i)):=by
 intro l;induction l with
 |nil=>intro cs _ i hi;simp at hi
 | cons a r ih=>
   rintro cs ⟨pa,ba,pc,bc,rest,rfl,_,_,h3⟩ i hi;cases i with
   |zero=>rfl
   | succ i=>
     have h4:=ih h3 i Lg;rw[show(i+1)*4=i*4+4 by omega];simpa[pdC,Bb]using h4
theorem sS{w:World}{la:Option Addr}{lc:Nat}{l:List Pd}{ok:Nat→Prop}(hf:RepQ ok w (.slice la l.length lc) l):
 Calls Tryz.prog 38 #[.slice la l.length lc] w fun e w'=>e= .returned (.bool (EY l))∧w.grownBy w' none:=by
 have RN{P}(h:P:=by
 have HC:=Z (fun i hi=>hc1 (i*4) _ (hr1.name i hi));clear hc1 hr1;generalize hT:EY l=T;have HT:=Z hT;clear hT;go_enter func38,ntmps38;go_wp2_with fail;go_loopg [3,4] l.length (fun g v3 v4 wr=>∃i:Nat,i+g=l.length∧v3= .int .i64 i∧(∀j,j<i→∀k,k<j→Bb l j≠Bb l k)∧w.grownBy wr none)
 case atStart=>exact⟨0,by omega,rfl,fun j hj=>by omega,Aj _ _⟩
 case round=>
  obtain⟨i,hk,rfl,hno,hgr⟩:=hrel;have HN:=Z hno;clear hno;by_cases hi:i<l.length
  ·have hi1:decide (i<l.length)=true:=by simpa using hi
   have HG:=Z hgr;clear hgr;go_wp2_with fail;go_loopg [4] i (fun g v4 w2=>∃k:Nat,k+g=i∧v4= .int .i64 k∧(∀j,j<k→Bb l i≠Bb l j)∧w.grownBy w2 none)
   case atStart=>exact⟨0,by omega,rfl,fun j hj=>by omega,HG.out⟩
   case round=>
    obtain⟨k,hk2,rfl,hno2,hg2⟩:=hrel;have HN2:=Z hno2;clear hno2;by_cases hki:k<i
    ·have hk1:decide (k<i)=true:=by simpa using hki
     obtain⟨gb,ob,rfl,_,c0⟩:=HC.out i hi;obtain⟨_,_,e1,_,d0⟩:=HC.out k Ab;cases e1;have c1:=Am hg2 c0;have d1:=Am hg2 d0;have i0:(0:Int)≤(i:Int):=Ab;have i1:(i:Int)<(l.length:Int):=Ab;have k0:(0:Int)≤(k:Int):=Ab;have k1:(k:Int)<(l.length:Int):=Ab;have hk3:k<l.length:=Ab;clear c0 d0;cases hE:Bb l i==Bb l k with
     | true=>
       have HF:=Z (show T=true by rw[←HT.out];exact Wk hi hki (by simpa using hE));have HG2:=Z hg2;clear hg2;go_wp2;go_quiet(fail);go_wp2;go_ret;exact⟨by rw[HF.out];rfl,AA HG2.out _⟩
     | false=>
       have HF:=Z (show ∀j,j<k+1→Bb l i≠Bb l j from fun j hj=>by
        by_cases e:j=k
        ·subst e;simpa using hE
        ·exact HN2.out j Ab)
       have HG2:=Z hg2;clear hg2;go_wp2;go_quiet(fail);go_wp2;go_roundg (i-(k+1))
       case measure=>omega
       case rel=>exact⟨k+1,by omega,by go_num,HF.out,AA HG2.out _⟩
    ·have hk1:decide (k<i)=false:=by simpa using hki
     have HF:=Z (show ∀j,j<i+1→∀k,k<j→Bb l j≠Bb l k from fun j hj q hq=>by
      by_cases e:j=i
      ·subst e;exact HN2.out q Ab
      ·exact HN.out j Ab q hq)
     have HG2:=Z hg2;clear hg2;go_wp2;go_roundg (l.length-(i+1))
     case measure=>omega
     case rel=>exact⟨i+1,by omega,by go_num,HF.out,HG2.out⟩
  ·have hi1:decide (i<l.length)=false:=by simpa using hi
   have HF:=Z (show T=false by rw[←HT.out];exact Ws (fun j hj=>HN.out j Ab));have HGG:=Z hgr;clear hgr;go_wp2;go_ret;exact⟨by rw[HF.out];rfl,HGG.out⟩):=Aa h
 exact QQ
open Go.Maps Go.WideMaps Go.ChangeMaps Go.MapKept
theorem RepP.four{ok:Nat→Prop}{w:World}:∀{l:List Pd}{cs:List Value},RepP ok w l cs→∀i,i<l.length→∃fn pa pn pc ba bn bc,cs[i*4]? =some (str (Bb l i))∧cs[i*4+1]? =some (.bool fn)∧cs[i*4+2]? =some (.slice pa pn pc)∧cs[i*4+3]? =some (.slice ba bn bc):=by
 intro l;induction l with
 |nil=>intro cs _ i hi;simp at hi
 | cons a r ih=>
   rintro cs ⟨pa,ba,pc,bc,rest,rfl,_,_,h3⟩ i hi;cases i with
   |zero=>exact⟨_,_,_,_,_,_,_,rfl,rfl,rfl,rfl⟩
   | succ i=>
     obtain⟨fn,pa',pn,pc',ba',bn,bc',e0,e1,e2,e3⟩:=ih h3 i Lg;refine⟨fn,pa',pn,pc',ba',bn,bc',?_⟩;rw[show(i+1)*4=i*4+4 by omega];exact⟨by simpa[pdC,Bb]using e0,by simpa[pdC,Bb]using e1,by simpa[pdC,Bb]using e2,by simpa[pdC,Bb]using e3⟩
theorem kY{v:Value}{z:DataW Unit×List MemPlace}(h:plainElem Tryz.prog 4 v=some z):∃x,v= .bool x∧z=(.lit (.bool x),[]):=by
 unfold plainElem at h;rw[underlying4]at h;cases v<;>simp at h;exact⟨_,rfl,h.symm⟩
def IR(l:List Bs):DataW Unit:=l.foldl (fun D s=>D.put (.string s) (.lit (.bool true))) (.map [])
theorem sZ(l:List Bs)(s:Bs):IR (l++[s])=(IR l).put (.string s) (.lit (.bool true)):=by simp[IR]
theorem uB{D:DataW Unit}(h:IsMap D)(k:Lit)(d:DataW Unit):IsMap (D.put k d):=by
 obtain⟨es,rfl⟩:=h;exact⟨_,rfl⟩
theorem xN(s:Bs):∀(l:List Bs)(D:DataW Unit),IsMap D→(l.foldl (fun D s=>D.put (.string s) (.lit (.bool true))) D).atKey (.string s) (.lit (.bool false))=if l.contains s then .lit (.bool true)else D.atKey (.string s) (.lit (.bool false)):=by
 intro l;induction l with
 |nil=>intro D _;rfl
 | cons a r ih=>
   intro D hD;rw[List.foldl_cons,ih _ (uB hD _ _)];by_cases h:s=a
   ·subst h;rw[atKey_put_same hD (by first|exact trivial|decide|simp[WideAt.IsKeyLit])];simp
   ·rw[atKey_put_other Lp];simp[List.contains_cons,h]
theorem AbG(l:List Bs)(s:Bs):(IR l).atKey (.string s) (.lit (.bool false))= .lit (.bool (l.contains s)):=by
 unfold IR;rw[xN s l _ ⟨_,rfl⟩];cases l.contains s<;>rfl
theorem tP{W:World}{b n:Nat}{l:List Bs}{s:Bs}(hs:s.length≤maxLen)(h:W.ownsMap Tryz.prog 9 (plainElem Tryz.prog 4) b n (IR l)):
 (Instr.lookup 100 (.map (some b)) (str s) false).run Tryz.prog W= .ok (.bool (l.contains s)) W:=by
 have hkey:keyOf Tryz.prog 9 (str s)=some (.string s):=keyOf_string_mk (s:=⟨s.toArray⟩) underlying9 hs;obtain⟨v,ps,hrun,hv⟩:=h.lookup lawS underlying100 (zeroB W) (plainElem_bool underlying4 false) hkey;obtain⟨x,rfl,e⟩:=kY hv;rw[AbG]at e;cases e;exact hrun
theorem nH{w:World}{la:Option Addr}{lc:Nat}{l:List Pd}{ok:Nat→Prop}(hs:∀i,i<l.length→(Bb l i).length≤maxLen)(hf:RepQ ok w (.slice la l.length lc) l):
 Calls Tryz.prog 35 #[.slice la l.length lc] w fun e w'=>e= .returned (.bool (EY l))∧w.grownBy w' none:=by
 obtain⟨cs,hc1,hr1⟩:=hf;obtain⟨_,_,e,hle,hmx,hcl,hc1⟩:=hc1;cases e;have hmax:l.length≤maxLen:=Ab;unfold maxLen at hmax;clear hle hmx;have HC:=Z (fun i (hi:i<l.length)=>show ∃fn pa pn pc ba bn bc,∃g o,la=some ⟨g,o,none⟩∧w.cell? ⟨g,o+i*4,none⟩=some (str (Bb l i))∧w.cell? ⟨g,o+i*4+1,none⟩=some (.bool fn)∧w.cell? ⟨g,o+i*4+2,none⟩=some (.slice pa pn pc)∧w.cell? ⟨g,o+i*4+3,none⟩=some (.slice ba bn bc)from by
  obtain⟨fn,pa,pn,pc,ba,bn,bc,h0,h1,h2,h3⟩:=hr1.four i hi;obtain⟨g,o,e,_,c0⟩:=hc1 (i*4) _ h0;obtain⟨_,_,e1,_,c1⟩:=hc1 (i*4+1) _ h1;obtain⟨_,_,e2,_,c2⟩:=hc1 (i*4+2) _ h2;obtain⟨_,_,e3,_,c3⟩:=hc1 (i*4+3) _ h3;rw[e]at e1 e2 e3;cases e1;cases e2;cases e3;rw[←Nat.add_assoc]at c1 c2 c3;exact⟨_,_,_,_,_,_,_,g,o,e,c0,c1,c2,c3⟩)
 have HS:=Z hs;clear hc1 hr1 hs;generalize hT:EY l=T;have HT:=Z hT;clear hT;have hmm:=@run_makeMap Tryz.prog;have HM:=Z (World.ownsMap_made (H:=Unit) w Tryz.prog 9 (plainElem Tryz.prog 4));go_enter func35,ntmps35;go_wp2_with fail;go_loopg [9] l.length (fun g v9 wr=>∃i:Nat,i+g=l.length∧v9= .int .i64 i∧(∀j,j<i→∀k,k<j→Bb l j≠Bb l k)∧wr.ownsMap Tryz.prog 9 (plainElem Tryz.prog 4) w.heap.size i (IR ((List.range i).map (Bb l)))∧w.grownBy wr none)
 case atStart=>exact⟨0,by omega,rfl,fun j hj=>by omega,HM.out,World.grownBy_alloc w _ none⟩
 case round=>
  obtain⟨i,hk,rfl,hno,hown,hgr⟩:=hrel;clear HM;have HN:=Z (Ac hno (Ac hown hgr));clear hno hown hgr;by_cases hi:i<l.length
  ·have hi1:decide (i<l.length)=true:=by simpa using hi
   have i0:(0:Int)≤(i:Int):=Ab;have i1:(i:Int)<(l.length:Int):=Ab;obtain⟨fn,pa,pn,pc,ba,bn,bc,gb,ob,rfl,c0,c1,c2,c3⟩:=HC.out i hi;replace c0:=Am HN.out.2.2 c0;replace c1:=Am HN.out.2.2 c1;replace c2:=Am HN.out.2.2 c2;replace c3:=Am HN.out.2.2 c3;have hgl:=World.block_lt_of_cell? _ _ c0;have hlk:=tP (HS.out i hi) (HN.out.2.1.alloc (.cells #[str (Bb l i),.bool fn,.slice pa pn pc,.slice ba bn bc] 45 (0,0)));cases hE:((List.range i).map (Bb l)).contains (Bb l i)with
   | true=>
     have HF:=Z (show T=true by
      rw[←HT.out];have h:=hE;simp only[List.contains_eq_mem,List.mem_map,List.mem_range,decide_eq_true_eq]at h;obtain⟨k,hk,e⟩:=h;exact Wk hi hk e.symm)
     rw[hE]at hlk;have HG:=Z (Ar HN.out.2.2 (.cells #[str (Bb l i),.bool fn,.slice pa pn pc,.slice ba bn bc] 45 (0,0)));clear hE;exact Fu
   | false=>
     have HF:=Z (show ∀j,j<i+1→∀k,k<j→Bb l j≠Bb l k from fun j hj q hq=>by
      by_cases e:j=i
      ·subst e;intro e;have h:((List.range j).map (Bb l)).contains (Bb l j)=true:=by
        simp only[List.contains_eq_mem,List.mem_map,List.mem_range,decide_eq_true_eq];exact⟨q,hq,e.symm⟩
       rw[h]at hE;cases hE
      ·exact HN.out.1 j Ab q hq)
     rw[hE]at hlk;have hkey:keyOf Tryz.prog 9 (str (Bb l i))=some (.string (Bb l i)):=keyOf_string_mk (s:=⟨(Bb l i).toArray⟩) underlying9 (HS.out i hi);have HK:=Z hkey;clear hE hkey;go_wp2_with (at_mapUpdate;refine wpList_mapUpdate_own _ rfl _ _ _ 100 rfl 9 4 lawS underlying100 (plainElem (H:=Unit) Tryz.prog 4) w.heap.size i _ rfl (HN.out.2.1.alloc _) AI _ _ _ rfl rfl HK.out _ [] (plainElem_bool underlying4 true) ?_;intro w1 hown1 hgrow1;(have HW:=Z (Ac hown1 (A5 (Ar HN.out.2.2 (.cells #[str (Bb l i),.bool fn,.slice pa pn pc,.slice ba bn bc] 45 (0,0))) hgrow1 (.inr (Nat.le_refl _)))));clear hown1 hgrow1);go_roundg (l.length-(i+1))
     case measure=>omega
     case rel=>exact⟨i+1,by omega,by go_num,HF.out,by rw[List.range_succ,List.map_append,List.map_singleton,sZ];exact HW.out.1,HW.out.2⟩
  ·have hi1:decide (i<l.length)=false:=by simpa using hi
   have HF:=Z (show T=false by rw[←HT.out];exact Ws (fun j hj=>HN.out.1 j Ab));go_wp2;go_ret;exact⟨by rw[HF.out];rfl,HN.out.2.2⟩
theorem Fo.levels_app(f g:Fo):(f.app g).levels=max f.levels g.levels:=by
 induction f with
 |nil=>simp[Fo.app,Fo.levels]
 |cons h k n _ ih=>simp[Fo.app,Fo.levels,ih,Nat.max_assoc]
theorem Sd.levels_le(s:Sd):s.levels≤s.nodes:=by
 have h1:=s.x.len_nodes;have h2:=s.n.len_nodes;have h3:=s.f.len_nodes;have h4:=s.w.len_nodes;simp only[Sd.levels,Sd.nodes];omega
theorem Bl.levels_le:∀b:Bl,b.levels≤b.nodes:=by
 intro b;induction b with
 |nil=>exact Nat.le_refl _
 |st h b n ih1 ih2=>have:=h.levels_le;simp only[Bl.levels,Bl.nodes];omega
 |bl b n ih1 ih2=>simp only[Bl.levels,Bl.nodes];omega
def sel{α:Type}(a b c d:α):Nat→α
 | 0=>a
 | 1=>b
 | 2=>c
 |_=>d
def Hz(s:Sd):Fo:=Cv (sel s.x s.n s.f s.w) 4
theorem UQ(s:Sd):(Hz s).nodes=s.nodes:=by
 simp only[Hz,Cv,sel,Fo.nodes_app,Fo.nodes,Sd.nodes];omega
theorem mB(s:Sd):(Hz s).levels=s.levels:=by
 simp only[Hz,Cv,sel,Fo.levels_app,Fo.levels,Sd.levels];omega
structure SzG(ok:Nat→Prop)(w v:World)(sc:List Value)(f rest:Fo)(cs:List Value)(k n m:Nat)(wr:World):Prop where
 len:f.len=k+rest.len
 row:RepF ok v rest (cs.drop (k*7))
 nodes:n+rest.nodes=1+f.nodes
 levels:max m (1+rest.levels)=1+f.levels
 pos:1≤m∧1≤n
 st:Blk wr w.heap.size sc 50
 acc:Blk wr (w.heap.size+2) [.int .i64 n,.int .i64 m] 58
 res:Blk wr (w.heap.size+1) [.int .i64 0,.int .i64 0] 58
 g:w.grownBy wr none
 gv:v.grownBy wr (some (w.heap.size+2))
theorem SzG.next{ok:Nat→Prop}{w v:World}{sc:List Value}{f kids next:Fo}{h':Hd}{cs:List Value}{k n m:Nat}{wr w1:World}(h:SzG ok w v sc f (.cons h' kids next) cs k n m wr)
 (hst:Blk w1 w.heap.size sc 50) (hacc:Blk w1 (w.heap.size+2) [.int .i64 ((n+(1+kids.nodes):Nat):Int),.int .i64 ((max m (1+kids.levels+1):Nat):Int)] 58) (hres:Blk w1 (w.heap.size+1) [.int .i64 0,.int .i64 0] 58) (g:w.grownBy w1 none) (gv:v.grownBy w1 (some (w.heap.size+2))):
 SzG ok w v sc f next cs (k+1) (n+(1+kids.nodes)) (max m (1+kids.levels+1)) w1:=by
 have h1:=h.len;have h3:=h.nodes;have h4:=h.levels;have h5:=h.pos;simp only[Fo.len,Fo.nodes,Fo.levels]at h1 h3 h4;refine⟨by omega,?_,by omega,by omega,⟨by omega,by omega⟩,hst,hacc,hres,g,gv⟩;exact SH
abbrev stW(w:World)(sc:List Value)(a b c d:Value):World:=(((w.alloc (.cells sc.toArray 50 (0,0))).alloc (.cells #[.int .i64 0,.int .i64 0] 58 (0,0))).alloc (.cells #[.int .i64 1,.int .i64 1] 58 (0,0))).alloc (.cells #[a,b,c,d] 27 (0,0))
theorem stW_blk{w:World}{sc:List Value}{a b c d:Value}:Blk (stW w sc a b c d) (w.heap.size+1+1+1) [a,b,c,d] 27:=
 (Blk.new _ [a,b,c,d] _).of_eq Ae rfl
theorem Aat(w:World)(sc:List Value)(a b c d:Value):w.grownBy (stW w sc a b c d) none:=Ar (Ar (Ar (World.grownBy_alloc w _ none) _) _) _
def OfB(N:Nat):Prop:=∀f:Bl,f.wt<N→f.nodes≤1000000→∀(ok:Nat→Prop)(la:Option Addr)(lc:Nat)(w:World),RepV ok w false (.slice la f.len lc) f→
 Calls Tryz.prog 69 #[.slice la f.len lc] w fun e w'=>e= .returned (szV (f.nodes:Int) (f.levels:Int))∧w.grownBy w' none
structure SzB(ok:Nat→Prop)(w:World)(s:Sd)(c rest:Bl)(ds:List Value)(k n m:Nat)(wr:World):Prop where
 len:c.len=k+rest.len
 row:RepT ok w rest true (ds.drop k)
 nodes:n+rest.nodes=1+s.nodes+c.nodes
 levels:max m (1+rest.levels)=1+max s.levels c.levels
 pos:1≤m∧1≤n
 wt:rest.wt≤c.wt
 acc:Blk wr (w.heap.size+2) [.int .i64 n,.int .i64 m] 58
 res:Blk wr (w.heap.size+1) [.int .i64 0,.int .i64 0] 58
 g:w.grownBy wr none
theorem sD{N:Nat}(hB:OfB N){ok:Nat→Prop}{w:World}{s:Sd}{c:Bl}{pa xa na fa wa ba:Option Addr}{pc xc nc fc wc bc:Nat}(h1:SdRep ok w s pa xa na fa wa pc xc nc fc wc)(h2:RepV ok w true (.slice ba c.len bc) c)(hc:c.wt<N)(hn:s.nodes+c.nodes≤1000000):
 Calls Tryz.prog 100 #[.agg (sdC s (.slice pa s.p.length pc) (.slice xa s.x.len xc) (.slice ba c.len bc) (.slice na s.n.len nc) (.slice fa s.f.len fc) (.slice wa s.w.len wc)).toArray] w fun e w'=>e= .returned (szV ((1+s.nodes+c.nodes:Nat):Int) ((1+max s.levels c.levels:Nat):Int))∧w.grownBy w' none:=by
 have gW:=Aat w (sdC s (.slice pa s.p.length pc) (.slice xa s.x.len xc) (.slice ba c.len bc) (.slice na s.n.len nc) (.slice fa s.f.len fc) (.slice wa s.w.len wc)) (.slice xa s.x.len xc) (.slice na s.n.len nc) (.slice fa s.f.len fc) (.slice wa s.w.len wc);have hfl:=(Hz s).len_nodes;have hsl:=s.levels_le;have hcl:=c.levels_le;rw[UQ]at hfl;have HC:=Z (p5 (ok:=fun q=>q<w.heap.size) (by intro q hq;have:=gW.size;omega) (w:=stW w (sdC s (.slice pa s.p.length pc) (.slice xa s.x.len xc) (.slice ba c.len bc) (.slice na s.n.len nc) (.slice fa s.f.len fc) (.slice wa s.w.len wc)) (.slice xa s.x.len xc) (.slice na s.n.len nc) (.slice fa s.f.len fc) (.slice wa s.w.len wc)) (R:=w.heap.size+1+1+1) (la:=sel xa na fa wa) (lc:=sel xc nc fc wc) (fs:=sel s.x s.n s.f s.w)
  (by
   intro k hk;rcases k with _ |_ |_ |_ |k
   ·exact stW_blk.cell 0
   ·exact stW_blk.cell 1
   ·exact stW_blk.cell 2
   ·exact stW_blk.cell 3
   ·omega)
  (by have e:(Cv (sel s.x s.n s.f s.w) 4).len=(Hz s).len:=rfl;rw[e];omega)
  (by
   intro k hk;rcases k with _ |_ |_ |_ |k
   ·exact(h1.x.mono (fun q _ h=>h)).gb gW Ae
   ·exact(h1.n.mono (fun q _ h=>h)).gb gW Ae
   ·exact(h1.f.mono (fun q _ h=>h)).gb gW Ae
   ·exact(h1.w.mono (fun q _ h=>h)).gb gW Ae
   ·omega))
 have e4:Cv (sel s.x s.n s.f s.w) 4=Hz s:=rfl;rw[e4]at HC;have hfn:=UQ s;have hfv:=mB s;generalize Hz s=f at*;obtain⟨ds,hd1,hd2⟩:=h2;obtain⟨_,_,e,hcl1,hcl2,_,hdat⟩:=hd1;cases e;have hcm:c.len≤maxLen:=Ab;unfold maxLen at hcm;clear hcl1 hcl2;have HR:=Z (Ac gW (Ac hdat hd2));have HBB:=Z hB;clear gW h1 hdat hd2 hB e4;have hs3:=((Blk.new w (sdC s (.slice pa s.p.length pc) (.slice xa s.x.len xc) (.slice ba c.len bc) (.slice na s.n.len nc) (.slice fa s.f.len fc) (.slice wa s.w.len wc)) 50).alloc (.cells #[.int .i64 0,.int .i64 0] 58 (0,0))).alloc (.cells #[.int .i64 1,.int .i64 1] 58 (0,0));have y4:=hs3.cell' 4 rfl;have y7:=hs3.cell' 7 rfl;have y8:=hs3.cell' 8 rfl;have y9:=hs3.cell' 9 rfl;clear hs3;go_enter func100,ntmps100;go_wp2_with fail;refine HC.out.mono ?_;rintro e w1 ⟨v,cs,rfl,hO,hF,g1⟩;have g0:w.grownBy w1 none:=Ah HR.out.1 g1;have hA:SzG (fun q=>q<w.heap.size) w w1 (sdC s (.slice pa s.p.length pc) (.slice xa s.x.len xc) (.slice ba c.len bc) (.slice na s.n.len nc) (.slice fa s.f.len fc) (.slice wa s.w.len wc)) f f cs 0 1 1 w1:=by
  refine⟨by simp,by simpa using hF,rfl,by omega,⟨Nat.le_refl _,Nat.le_refl _⟩,?_,?_,?_,g0,Aj _ _⟩
  ·exact((((Blk.new w (sdC s (.slice pa s.p.length pc) (.slice xa s.x.len xc) (.slice ba c.len bc) (.slice na s.n.len nc) (.slice fa s.f.len fc) (.slice wa s.w.len wc)) 50).alloc _).alloc _).alloc _).gb g1 Ae
  ·exact Blk.gb (((Blk.new _ [.int .i64 1,.int .i64 1] _).of_eq Ae rfl).alloc _) g1 Ae
  ·exact Blk.gb ((((Blk.new _ [.int .i64 0,.int .i64 0] _).of_eq Ae rfl).alloc _).alloc _) g1 Ae
 obtain⟨ra,rc,rfl,_,hmx,_,hat0⟩:=GE hO;have hlm:f.len≤1000000:=Ab;have HO:=Z hat0;have HA:=Z hA;clear hO hF g1 g0 hat0 hA hmx y4 y7 y8 y9;go_wp2_with fail;go_loopg [23] f.len (fun g v23 wr=>∃rest:Fo,∃k n m:Nat,rest.len=g∧v23= .int .i64 k∧SzG (fun q=>q<w.heap.size) w w1 (sdC s (.slice pa s.p.length pc) (.slice xa s.x.len xc) (.slice ba c.len bc) (.slice na s.n.len nc) (.slice fa s.f.len fc) (.slice wa s.w.len wc)) f rest cs k n m wr)
 case atStart=>exact⟨f,0,1,1,rfl,rfl,HA.out⟩
 case round=>
  obtain⟨rest,k,n,m,hg,rfl,hr⟩:=hrel;clear HA;have RP{P}(h:P:=by
  have af:=fun k=>hr.acc.frozen k;have al:=hr.acc.lt;have s5:=hr.st.cell 5;simp only[sdC,List.getElem?_cons_zero,List.getElem?_cons_succ]at a0 a1 r0 r1 s5;cases rest with
  | nil=>
    have hlen:=hr.len;have hk:k=f.len:=by simp[Fo.len]at hlen;omega
    subst hk;have hS:SzB (fun _=>True) w s c c ds 0 n m wr:=by
     have h1:=hr.nodes;have h2:=hr.levels;have h3:=hr.pos;simp[Fo.nodes,Fo.levels]at h1 h2;exact⟨by simp,by simpa using RepT.monoE (ok':=fun _=>True) (fun _ _ _=>trivial) HR.out.2.2,by omega,by omega,h3,Nat.le_refl _,hr.acc,hr.res,hr.g⟩
    have HS:=Z hS;have hkI:decide (f.len<f.len)=false:=Ae;clear hlen hg hS hr a0 a1 r0 r1 rf af al;go_wp2_with fail;go_loopg [35] c.len (fun g v35 w2=>∃rest:Bl,∃k n m:Nat,rest.len=g∧v35= .int .i64 k∧SzB (fun _=>True) w s c rest ds k n m w2)
    case atStart=>exact⟨c,0,n,m,rfl,rfl,HS.out⟩
    case round=>
     clear HS n m;obtain⟨rest,k,n,m,hg,rfl,hr⟩:=hrel;have RP{P}(h:P:=by
     have rl:=hr.res.lt;have af:=fun k=>hr.acc.frozen k;have al:=hr.acc.lt;simp only[List.getElem?_cons_zero,List.getElem?_cons_succ]at a0 a1 r0 r1;have hrow:=hr.row;have hlen:=hr.len;cases rest with
     |st _ _ _=>exact hrow.elim
     | nil=>
       have hkI:decide (k<c.len)=false:=by simp[Bl.len]at hlen;simp;omega
       have hnm:n=1+s.nodes+c.nodes∧m=1+max s.levels c.levels:=by
        have h1:=hr.nodes;have h2:=hr.levels;have h3:=hr.pos;simp[Bl.nodes,Bl.levels]at h1 h2;omega
       have HN:=Z (Ac hnm (Ac hr.res hr.g));clear hnm hlen hg hrow hr;go_wp2;refine bodyPost_ret (OP rfl _ (HN.out.2.1.set2 _ _) rfl) rfl ⟨by rw[HN.out.1.1,HN.out.1.2],?_⟩;have g:=HN.out.2.2;exact gw
     | bl b next=>
       simp only[Bl.len]at hg hlen;subst hg;have hkI:decide (k<c.len)=true:=Ag;obtain⟨ba2,bc2,hbv,hnx,g1,o1,e1,_,z1⟩:=RepT.elemB (ok:=fun _=>True) (la:=ba) (fun j u hj=>by obtain⟨g,o,e,_,h⟩:=HR.out.2.1 j u hj;exact⟨g,o,e,trivial,h⟩) hrow;subst e1;have hno:=hr.nodes;have hlv:=hr.levels;have hwt:=hr.wt;have hpo:=hr.pos;have hbl:=b.levels_le;simp only[Bl.nodes,Bl.levels,Bl.wt]at hno hlv hwt;have HL:=Z (fun(W:World)(gW:wr.grownBy W none)=>HBB.out b Ab Ab _ ba2 bc2 W ((hbv.gb hr.g Ae).gb gW Ae));have HI:=Z (fun(W:World)=>Pa n m b.nodes b.levels Ab Ab Ab W);have y1:=Am hr.g z1;have hgl:=World.block_lt_of_cell? _ _ y1;have HK:=Z (Ac hr hnx);have HN2:=Z (show SzB (fun _=>True) w s c next ds (k+1) (n+b.nodes) (max m (b.levels+1)) wr→True from fun _=>trivial);have HX9:=Z (show c.len=k+1+next.len∧n+b.nodes+next.nodes=1+s.nodes+c.nodes∧max (max m (b.levels+1)) (1+next.levels)=1+max s.levels c.levels∧(1≤max m (b.levels+1)∧1≤n+b.nodes)∧next.wt≤c.wt from⟨by omega,by omega,by omega,by omega,by omega⟩);have hkl:k+1≤c.len:=Ab;have hws:=hr.g.size;clear hno hlv hwt hpo hbl hbv hnx hrow hr z1 HN2 hlen;go_wp2_with fail;go_region_with(first
        | (go_at_call 69;refine(HL.out _ ?gg).mono ?_;(case gg=>exact gw);rintro e w5 ⟨rfl,g5⟩;(have ac5:=(HK.out.1.acc.drewN 1).gb g5 Ae);(have d0:=ac5.cell 0);(have d1:=ac5.cell 1);(have df:=fun k=>ac5.frozen k);(have dl:=ac5.lt);(simp only[List.getElem?_cons_zero,List.getElem?_cons_succ]at d0 d1))
        | (go_at_call 58;refine(HI.out _).mono ?_;rintro e w6 ⟨rfl,g6⟩;(have ac6:=ac5.gb g6 Ae);(have m0:=ac6.cell 0);(have m1:=ac6.cell 1);(have mf:=fun k=>ac6.frozen k);(have ml:=ac6.lt);(simp only[List.getElem?_cons_zero,List.getElem?_cons_succ]at m0 m1)))
       all_goals
        have hre:=((HK.out.1.res.drewN 1).gb g5 Ae).gb g6 Ae;have gg:=A0 (A0 (An HK.out.1.g) g5) g6;have HX:=Z (Ac ac6 (Ac hre gg));clear hre gg;go_wp2;go_roundg next.len
        case measure=>omega
        case rel=>
         exact⟨next,k+1,n+b.nodes,max m (b.levels+1),rfl,by go_num,HX9.out.1,HK.out.2,HX9.out.2.1,HX9.out.2.2.1,HX9.out.2.2.2.1,HX9.out.2.2.2.2,(HX.out.1.set2 _ _),(HX.out.2.1.set_other _ _ Ae).set_other _ _ Ae,A7 (A7 HX.out.2.2 _ _ (.inr EJ)) _ _ (.inr EJ)⟩):=Aa h
     exact QT
  | cons h' kids next=>
    simp only[Fo.len]at hg;subst hg;have hlen:=hr.len;simp only[Fo.len]at hlen;have hkI:decide (k<f.len)=true:=Ag;have i0:(0:Int)≤(k:Int):=Ab;have i1:(k:Int)<(f.len:Int):=Ab;have hkl2:k+1≤f.len:=Ab;obtain⟨pv',lv',kcs,rcs,hcs,hp,hl,hkids,hnext⟩:=hr.row;obtain⟨pa',pc',rfl,_⟩:=hp;have hL:RepL (fun q=>q<w.heap.size) w1 lv' kids:=⟨kcs,hl,hkids⟩;obtain⟨la2,lc2,rfl,_⟩:=hl;have hat:∀i u,(hdC h' (.slice pa' h'.p.length pc') (.slice la2 kids.len lc2))[i]? =some u→∃g o,ra=some ⟨g,o,none⟩∧wr.cell? ⟨g,o+k*7+i,none⟩=some u:=by
     intro i u hu;have:cs[k*7+i]? =(cs.drop (k*7))[i]?:=Ae;obtain⟨g,o,e,hg1,hc1⟩:=HO.out (k*7+i) u (by rw[this,hcs,List.getElem?_append_left Qe];exact hu);have hg2:(stW w (sdC s (.slice pa s.p.length pc) (.slice xa s.x.len xc) (.slice ba c.len bc) (.slice na s.n.len nc) (.slice fa s.f.len fc) (.slice wa s.w.len wc)) (.slice xa s.x.len xc) (.slice na s.n.len nc) (.slice fa s.f.len fc) (.slice wa s.w.len wc)).heap.size≤g:=hg1;refine⟨g,o,e,?_⟩;rw[Nat.add_assoc];exact B6 hr.gv hc1 (by simp at hg2;simp;omega)
    obtain⟨G,O,rfl,z0⟩:=hat 0 _ rfl;obtain⟨_,_,e1,z1⟩:=hat 1 _ rfl;cases e1;obtain⟨_,_,e1,z2⟩:=hat 2 _ rfl;cases e1;obtain⟨_,_,e1,z3⟩:=hat 3 _ rfl;cases e1;obtain⟨_,_,e1,z4⟩:=hat 4 _ rfl;cases e1;obtain⟨_,_,e1,z5⟩:=hat 5 _ rfl;cases e1;obtain⟨_,_,e1,z6⟩:=hat 6 _ rfl;cases e1;simp only[Nat.add_zero]at z0;have hgl:=World.block_lt_of_cell? wr _ z0;have dF{P}(h:P:=by
    have hfll:=f.len_nodes;have HL:=Z (fun(W:World)(gW:wr.grownBy W none)=>WK (kids.nodes+1) kids Ab Ab (fun q=>q<w.heap.size) h' pa' h'.p.length pc' la2 lc2 W ((hL.gb hr.gv JI).gb gW Ae));have HI:=Z (fun(W:World)=>Pa n m (1+kids.nodes) (1+kids.levels) Ab Ab Ab W);have HK:=Z hr;clear hL hnext hkids hcs hr hno hmo hlen hpo;have hy:=Blk.new wr (hdC h' (.slice pa' h'.p.length pc') (.slice la2 kids.len lc2)) 29;have hac:=HK.out.acc.alloc (.cells (hdC h' (.slice pa' h'.p.length pc') (.slice la2 kids.len lc2)).toArray 29 (0,0));have HY:=Z (Ac hy hac);clear hy hac;have hws:=HK.out.g.size;go_wp2_with fail;go_region_with(first
     | (go_at_call 26;refine(HL.out _ ?gg).mono ?_;(case gg=>exact gw);rintro e w5 ⟨rfl,g5⟩;(have y5:=(HY.out.1.drewN 1).gb g5 Ae);(have ac5:=(HY.out.2.drewN 1).gb g5 Ae);(have b0:=y5.cell 0);(have b1:=y5.cell 1);(have b2:=y5.cell 2);(have b3:=y5.cell 3);(have b4:=y5.cell 4);(have b5:=y5.cell 5);(have b6:=y5.cell 6);(have d0:=ac5.cell 0);(have d1:=ac5.cell 1);(have df:=fun k=>ac5.frozen k);(have dl:=ac5.lt);(simp only[hdC,List.getElem?_cons_zero,List.getElem?_cons_succ]at b0 b1 b2 b3 b4 b5 b6 d0 d1))
     | (go_at_call 58;refine(HI.out _).mono ?_;rintro e w6 ⟨rfl,g6⟩;(have ac6:=ac5.gb g6 Ae);(have m0:=ac6.cell 0);(have m1:=ac6.cell 1);(have mf:=fun k=>ac6.frozen k);(have ml:=ac6.lt);(simp only[List.getElem?_cons_zero,List.getElem?_cons_succ]at m0 m1)))
    all_goals
     have hre:=((((HK.out.res.alloc (.cells (hdC h' (.slice pa' h'.p.length pc') (.slice la2 kids.len lc2)).toArray 29 (0,0))).drewN 1).gb g5 Ae).gb g6 Ae);have gg:=A0 (A0 (An (Ar HK.out.g (.cells (hdC h' (.slice pa' h'.p.length pc') (.slice la2 kids.len lc2)).toArray 29 (0,0)))) g5) g6;have hst6:=(((HK.out.st.alloc (.cells (hdC h' (.slice pa' h'.p.length pc') (.slice la2 kids.len lc2)).toArray 29 (0,0))).drewN 1).gb g5 Ae).gb g6 Ae;have gv6:=A0 (A0 (An (Ar HK.out.gv (.cells (hdC h' (.slice pa' h'.p.length pc') (.slice la2 kids.len lc2)).toArray 29 (0,0)))) g5) g6;have HX:=Z (Ac ac6 (Ac hre (Ac gg (Ac hst6 gv6))));clear hre gg hst6 gv6;go_wp2;go_roundg next.len
     case measure=>omega
     case rel=>
      refine⟨next,k+1,n+(1+kids.nodes),max m (1+kids.levels+1),rfl,by go_num,HK.out.next ((HX.out.2.2.2.1.set_other _ _ EJ).set_other _ _ EJ) ((HX.out.1.set2 _ _).of_eq Ab (by push_cast;rfl)) ((HX.out.2.1.set_other _ _ Ae).set_other _ _ Ae) (A7 (A7 HX.out.2.2.1 _ _ (.inr Ag)) _ _ (.inr Ag)) (A7 (A7 HX.out.2.2.2.2 _ _ (.inl rfl)) _ _ (.inl rfl))⟩):=Aa h
    exact Tz):=Aa h
  exact QT
theorem Ab0(n:Int)(w:World):Calls Tryz.prog 22 #[.int .i64 n] w fun e w'=>e= .returned (.agg #[.int .i64 2,.int .i64 n,str []])∧w.grownBy w' none:=by
 go_enter func22,ntmps22;go_wp2;exact bodyPost_ret (v:= .agg #[.int .i64 2,.int .i64 n,str []]) (by simp[results,results22,go_sem]) rfl ⟨rfl,gw⟩
abbrev IT:Value:= .slice none 0 0
theorem AaV{w1 w2:World}{o1:Obj}{n1:Nat}(hn1:n1=w1.heap.size+1) (g2:((w1.alloc o1).alloc (.cells (hdC (hd0 1 [66]) IT IT).toArray 29 (0,0))).grownBy w2 none) (o4:Obj):
 VE (fun _=>True) ((w2.alloc (.cells (hdC (hd0 2 [65]) IT (.slice (some ⟨n1,0,none⟩) 1 1)++hdC (A1 2 1 []).h IT IT).toArray 29 (0,0))).alloc o4) (exV (hd0 5 [43]) IT (.slice (some ⟨w2.heap.size,0,none⟩) 2 2)) xAb:=by
 have r1:RepL (fun _=>True) w2 (.slice (some ⟨n1,0,none⟩) 1 1) (.one (AC [66])):=
  (RepL.one (x:=AC [66]) (w:=w1.alloc o1) (by rw[hn1];simp) trivial (Cells.nil _ _ _) (RepL.nil _ _)).gb g2 Ae
 have r2:=RepL.two (x:=⟨hd0 2 [65],.one (AC [66])⟩) (y:=A1 2 1 []) (w:=w2) (n:=w2.heap.size) (ok:=fun _=>True) rfl trivial (Cells.nil _ 1 _) r1 (Cells.nil _ 1 _) (RepL.nil _ _);exact VE.node (f:= .two ⟨hd0 2 [65],.one (AC [66])⟩ (A1 2 1 [])) (r2.gb (World.grownBy_alloc _ o4 none) Ae)
open Go.Lib
theorem u8x:U8Extra Tryz.prog lays260_ren:=⟨by kernel_rfl,by kernel_rfl,by kernel_rfl,by kernel_rfl,by kernel_rfl,by kernel_rfl,by kernel_rfl⟩
theorem casex:CaseExtra Tryz.prog Tryz.lays203_ren:=⟨by kernel_rfl,by kernel_rfl,by kernel_rfl,by kernel_rfl,by kernel_rfl,by kernel_rfl⟩
theorem kT{P:Program}{W:World}{name:String}{k:IntKind}{zs:List Int}{g:Nat}{t e:TypeId}{n:Nat}
 (hg:P.globalNamed name=some g) (hty:(P.globals[g]?).map (·.type)=some t) (ht:P.underlying t=some (.array n e)) (he:P.underlying e=some (.int k)) (hce:P.cellsOf e=1) (hct:P.cellsOf t=n)
 (h:VarReads P W name (tabData k zs)):TabIs P W name k zs:=by
 obtain⟨g',t',cs,fuel,p,hg',ht',hvar,hd⟩:=h;obtain rfl:=Option.some.inj (hg.symm.trans hg');obtain rfl:=Option.some.inj (hty.symm.trans ht');unfold TabIs;rw[hvar,←cells_of_tab ht he hce hct hd]
theorem o5{P:Program}{W:World}{name:String}{d:DataW Unit}{g:Nat}(hg:P.globalNamed name=some g)(h:VarReads P W name d):g<W.heap.size:=by
 obtain⟨g',t',cs,fuel,p,hg',ht',hvar,hd⟩:=h;obtain rfl:=Option.some.inj (hg.symm.trans hg');unfold World.var? at hvar;rw[hg]at hvar;simp only[Option.bind_some]at hvar;rcases Nat.lt_or_ge g W.heap.size with h|h
 ·exact h
 ·rw[Array.getElem?_eq_none h]at hvar;simp at hvar
theorem nW {W : World} {laid : List (String × DataW Unit)} (h : laidMet Tryz.prog laid W) {d : DataW Unit} (h1 : ("unicode/utf8.first", firstData) ∈ laid) (h2 : ("unicode/utf8.acceptRanges", acceptData) ∈ laid)
 (h3 : ("unicode.CaseRanges", caseData) ∈ laid) (h4 : ("strings.asciiSpace", tabData .u8 asciiSpaceTab) ∈ laid) (h5 : ("math/bits.deBruijn64tab", d) ∈ laid) : Tabs W.heap.size W := by
 have hu:=utf8Tabs_of_reads lays260 u8x (laidMet.reads h h1) (laidMet.reads h h2);have hc:=caseVar_of_reads {Tryz.lays203 with} Tryz.lays203.t206 casex (laidMet.reads h h3);have hg:=o5 (g:=10) Bk (laidMet.reads h h5);have e13:Tryz.lays203_ren.g 13=2:=Bk;rw[e13]at hc;obtain⟨R,oR,cap,hcell,hT⟩:=hc;have hR:=World.block_lt_of_cell? W _ (hT 0 En).1;exact⟨hu,hg,⟨R,oR,cap,hR,hcell,hT⟩,kT Ms (t:=83) (e:=5) (n:=256) Bk underlying83 underlying5 Bk Bk (laidMet.reads h h4)⟩
end Go.Proofs.YtmcajbhljbbglaaGreatDoor
