/-
  The lexer: the tables that ToUpper reads; signs, sign.
-/
import Derived.Test.YtmcajbhljbbglaaGreatDoorSpF
import Derived.IntWalk
import Derived.Test.YtmcajbhljbbglaaGreatDoorSp11
import Derived.Test.YtmcajbhljbbglaaGreatDoorSp05
import Derived.Test.YtmcajbhljbbglaaGreatDoorSp09
set_option linter.all false
set_option maxRecDepth 100000
set_option maxHeartbeats 8000000
namespace Go.Proofs.YtmcajbhljbbglaaGreatDoor
open Tryz
open Go.RowKit
structure Tabs(B:Nat)(w:World):Prop where
 utf8:Lib.Utf8Tabs 4 5 w
 low:11≤B
 case:∃R oR cap,R<B∧w.cell? ⟨2,0,none⟩=some (.slice (some ⟨R,oR,none⟩) Lib.caseA.size cap)∧Lib.CaseTab R oR Lib.caseA w
 glob:Glob w
theorem Tabs.gb{B:Nat}{w w1:World}{r:Option Nat}(h:Tabs B w)(g:w.grownBy w1 r)(hr:∀k,r=some k→B≤k):Tabs B w1:=by
 have hlow:=h.low;have hne:∀k,k<B→some k≠r:=fun k hk e=>by have:=hr k e.symm;omega
 refine⟨⟨fun c hc=>B6 g (h.utf8.1 c hc) (hne _ Ab),fun i hi=>⟨B6 g (h.utf8.2 i hi).1 (hne _ Ab),B6 g (h.utf8.2 i hi).2 (hne _ Ab)⟩⟩,hlow,?_,h.glob.gb g (hne 0 Ab)⟩;obtain⟨R,oR,cap,hR,hc,ht⟩:=h.case;refine⟨R,oR,cap,hR,B6 g hc (hne _ Ab),fun i hi=>?_⟩;have:=ht i hi;exact⟨B6 g this.1 (hne _ hR),B6 g this.2.1 (hne _ hR),B6 g this.2.2.1 (hne _ hR),B6 g this.2.2.2.1 (hne _ hR),B6 g this.2.2.2.2 (hne _ hR)⟩
theorem Tabs.gbN{B:Nat}{w w1:World}(h:Tabs B w)(g:w.grownBy w1 none):Tabs B w1:=h.gb g Ae
theorem Tabs.caseV{B:Nat}{w:World}(h:Tabs B w):Lib.CaseVar 2 Lib.caseA w:=by
 obtain⟨R,oR,cap,_,hc,ht⟩:=h.case;exact⟨R,oR,cap,hc,ht⟩
theorem wC{B:Nat}{w:World}(h:Tabs B w)(s:Bs)(hs:s.length≤1000000):
 Calls Tryz.prog 159 #[.string ⟨s.toArray⟩] w fun e w'=>e= .returned (str (Lib.toUpperD s))∧w.grownBy w' none:=by
 refine(strings_ToUpper_any ⟨s.toArray⟩ w Qq h.caseV h.utf8).mono ?_;rintro e w' ⟨rfl,hb⟩;exact⟨rfl,gbB hb none⟩
theorem OL{B:Nat}{w:World}(h:Tabs B w)(s:Bs)(i j:Nat)(hs:s.length≤4000):
 Calls Tryz.prog 159 #[.string ((⟨s.toArray⟩:ByteArray).extract i j)] w fun e w'=>e= .returned (str (Lib.toUpperD (A3 s i j)))∧w.grownBy w' none:=by
 rw[Ed];exact wC h _ Ag
theorem xO(w:World):Calls Tryz.prog 210 #[] w fun e w'=>e= .returned (.slice (some ⟨w.heap.size,0,none⟩) 38 38)∧w'=w.alloc (.cells (signsL.map str).toArray 9 (0,0)):=by
 go_enter func210,ntmps210;exact I5
def TokPost(w:World)(b:Nat)(s:Bs)(r:St)(e:Ending)(w':World):Prop:=
 w.grownBy w' (some b)∧match r with
  | .tok t j l=>e= .returned (.tuple #[AG t,.bool true])∧Sc w' b s j l l (-1)
  | .bad k=>(∃t,e= .returned (.tuple #[AG t,.bool false]))∧∃j l,Sc w' b s j l l k
  |_=>False
theorem Blk.set3{w:World}{k:Nat}{a0 a1 a2:Value}{t:TypeId}(h:Blk w k [a0,a1,a2] t)(v0 v1 v2:Value):Blk (((w.setCell ⟨k,0,none⟩ v0).setCell ⟨k,1,none⟩ v1).setCell ⟨k,2,none⟩ v2) k [v0,v1,v2] t:=
 (((h.set 0 v0).set 1 v1).set 2 v2).of_eq rfl rfl
theorem Du{fn:Func}{p q:Tmp}(h:fn.results=#[.cell p 89,.tmp q])(tmps:Array Value){w:World}{k:Nat}{t:Tok}{r:Bool}(hb:Blk w k [.int .i64 t.kind,.int .i64 t.pos,str t.text] 89)
 (hp:tmps.getD p undef= .pointer (some ⟨k,0,none⟩)) (hq:tmps.getD q undef= .bool r):(results fn tmps).run Tryz.prog w= .ok (.tuple #[AG t,.bool r]) w:=by
 have c0:=hb.cell 0;have c1:=hb.cell 1;have c2:=hb.cell 2;have hp':tmps[p]?.getD undef= .pointer (some ⟨k,0,none⟩):=by simpa using hp
 have hq':tmps[q]?.getD undef= .bool r:=D4;simp only[List.getElem?_cons_zero,List.getElem?_cons_succ]at c0 c1 c2;simp[results,h,hp',hq',go_sem,c0,c1,c2]
def M6(s:Bs)(i:Nat):St:=match Dc s i with
 |some x=> .tok ⟨4,i,x⟩ (i+x.length) true
 |none=> .bad i
theorem V5{s:Bs}{i:Nat}(h:∀j,(hj:j<signsL.length)→C3 s i signsL[j]=false):Dc s i=none:=by
 rw[Dc,List.find?_eq_none];intro x hx;obtain⟨j,hj,rfl⟩:=List.mem_iff_getElem.1 hx;rw[h j hj];simp
theorem V6{s:Bs}{i k:Nat}(hk:k<signsL.length)(h:∀j,(hj:j<k)→C3 s i (signsL[j]' Ab)=false)(hx:C3 s i signsL[k]=true):Dc s i=some signsL[k]:=by
 rw[Dc,List.find?_eq_some_iff_getElem];exact⟨hx,k,hk,rfl,fun j hj=>by rw[h j hj];simp⟩
theorem nT{w:Bs}(h:w∈signsL):∀b∈w,b.toNat<128:=by
 have h0:signsL.all (fun w=>w.all fun b=>decide (b.toNat<128))=true:=Ad;have h1:=List.all_eq_true.1 h0 w h;intro b hb;simpa using List.all_eq_true.1 h1 b hb
theorem Um{s:Bs}{i k:Nat}(hk:k<signsL.length)(he:i+signsL[k].length≤s.length){r:Bool}(h:C3 s i signsL[k]=r):(Lib.toUpperD (A3 s i (i+signsL[k].length))==signsL[k])=r:=by
 have h1:C3 s i signsL[k]=(Lib.toUpperA (A3 s i (i+signsL[k].length))==signsL[k]):=by simp[C3,he]
 rw[sE _ _ (by rw[Hj Ab he];omega) (nT (List.getElem_mem hk)),←h1,h]
structure SignRel(w:World)(b:Nat)(s:Bs)(i:Nat)(k:Nat)(wr:World):Prop where
 sc:Sc wr b s i true true (-1)
 tok:Blk wr w.heap.size [.int .i64 4,.int .i64 i,str []] 89
 res:Blk wr (w.heap.size+1) [.int .i64 0,.int .i64 0,str []] 89
 row:Blk wr (w.heap.size+2) (signsL.map str) 9
 no:∀j,(hj:j<k)→(hl:j<signsL.length)→C3 s i signsL[j]=false
 g:w.grownBy wr none
 tabs:Tabs b wr
theorem SignRel.go{w:World}{b:Nat}{s:Bs}{i k:Nat}{wr w1:World}(h:SignRel w b s i k wr)(hk:k<signsL.length)(hx:C3 s i signsL[k]=false)(g:wr.grownBy w1 none):SignRel w b s i (k+1) w1:=
 ⟨h.sc.gbN g,h.tok.gb g Ae,h.res.gb g Ae,h.row.gb g Ae,fun j hj hl=>by
  by_cases e:j=k
  ·subst e;exact hx
  ·exact h.no j Ab hl,A0 h.g g,h.tabs.gbN g⟩
theorem yS{w:World}{b:Nat}{s:Bs}{i:Nat}(h:Sc w b s i true true (-1))(ht:Tabs b w):
 Calls Tryz.prog 163 #[.pointer (some ⟨b,0,none⟩),AG ⟨0,i,[]⟩] w (TokPost w b s (M6 s i)):=by
 have hb:=h.lt;have hA:SignRel w b s i 0 (((w.alloc (.cells #[.int .i64 4,.int .i64 i,str []] 89 (0,0))).alloc (.cells #[.int .i64 0,.int .i64 0,str []] 89 (0,0))).alloc (.cells (signsL.map str).toArray 9 (0,0))):=by
  have g:w.grownBy (((w.alloc (.cells #[.int .i64 4,.int .i64 i,str []] 89 (0,0))).alloc (.cells #[.int .i64 0,.int .i64 0,str []] 89 (0,0))).alloc (.cells (signsL.map str).toArray 9 (0,0))) none:=Ar (Ar (World.grownBy_alloc w _ none) _) _;exact⟨h.gbN g,((Blk.new w _ _).alloc _).alloc _,((Blk.new _ [.int .i64 0,.int .i64 0,str []] _).of_eq Ae rfl).alloc _,(Blk.new _ (signsL.map str) _).of_eq Ae rfl,fun j hj=>by omega,g,ht.gbN g⟩
 go_enter func163,ntmps163;go_wp2_with fail;refine(xO _).mono ?_;rintro e w1 ⟨rfl,rfl⟩;go_wp2_with fail;go_loopg [7,8,12] 38 (fun g v7 v8 v12 wr=>∃k:Nat,k+g=38∧v12= .int .i64 k∧SignRel w b s i k wr)
 case atStart=>exact⟨0,rfl,rfl,hA⟩
 case round=>
  obtain⟨k,hk,rfl,hr⟩:=hrel;clear hA h ht;have hsc:=hr.sc;have c0:=hsc.c0;have c1:=hsc.c1;have hb1:=hsc.lt;have hf:=hsc.few;have hi:=hsc.le;have gwx:=hr.g.size;have hlt:=hr.row.lt;cases gk with
  | zero=>
    have e:k=38:=Ab;subst e;have HM:=Z (V5 (s:=s) (i:=i) (fun j hj=>hr.no j hj hj));have t0:=hr.tok.cell 0;have t1:=hr.tok.cell 1;have t2:=hr.tok.cell 2;have r0:=hr.res.cell 0;have r1:=hr.res.cell 1;have r2:=hr.res.cell 2;have rf:=fun k=>hr.res.frozen k;have f260:=hsc.fr 260;have c260:=hsc.c260;simp only[List.getElem?_cons_zero,List.getElem?_cons_succ]at t0 t1 t2 r0 r1 r2;have hs1:=hsc.setBad (i:Int);go_wp2;refine bodyPost_ret (Du (t:=⟨4,i,[]⟩) (r:=false) rfl _ ((hr.res.set_other _ _ Ag).set3 _ _ _) rfl rfl) rfl ⟨?_,?_⟩
    ·have g:=AY (r:=some b) hr.g;clear hs1;exact gw
    ·unfold M6;rw[HM.out];exact⟨⟨_,rfl⟩,i,true,De⟩
  | succ gk=>
    have cJ{P}(h:P:=by
    have HN:=Z (fun hx=>hr.go hkl (w1:=wr) hx (Aj _ _));cases hh:C3 s i signsL[k]with
    | false=>
      have HR:=Z (fun w1 g=>hr.go hkl (w1:=w1) hh g);by_cases hend:i+signsL[k].length≤s.length
      ·have hz:=Um hkl hend hh;have HU:=Z (fun(W:World)(g:wr.grownBy W none)=>OL (hr.tabs.gbN g) s i (i+signsL[k].length) hf);have eS{P}(h:P:=by exact Sn):=Aa h;exact Yv
      ·clear hh;exact To
    | true=>
      have hend:i+signsL[k].length≤s.length:=by simp[C3]at hh;exact hh.1
      have hz:=Um hkl hend hh;have HU:=Z (fun(W:World)(g:wr.grownBy W none)=>OL (hr.tabs.gbN g) s i (i+signsL[k].length) hf);have HM:=Z (V6 hkl (fun j hj=>hr.no j hj Ab) hh);have eS{P}(h:P:=by
      have gA:wr.grownBy w5 none:=A0 (An (Aj wr none)) g5;have hs5:=hsc.gbN gA;have ht5:=hr.tok.gb gA Ae;have hr5:=hr.res.gb gA Ae;have d1:=hs5.c1;have d0:=hs5.c0;have t0:=ht5.cell 0;have t1:=ht5.cell 1;have t2:=ht5.cell 2;have tf:=fun k=>ht5.frozen k;have r0:=hr5.cell 0;have r1:=hr5.cell 1;have r2:=hr5.cell 2;have rf:=fun k=>hr5.frozen k;have f1:=hs5.fr 1;have h5:=hr5.lt;simp only[List.getElem?_cons_zero,List.getElem?_cons_succ]at t0 t1 t2 r0 r1 r2;go_wp2;refine bodyPost_ret (Du (t:=⟨4,i,x⟩) (r:=true) rfl _ (((hr5.set_other _ _ Ae).set_other _ _ Ag).set3 _ _ _) rfl rfl) rfl ⟨?_,?_⟩
      ·have g:=AY (r:=some b) (A0 hr.g gA);exact gw
      ·unfold M6;rw[HM.out];exact⟨rfl,De⟩):=Aa h
      exact Yv):=Aa h
    exact SP
end Go.Proofs.YtmcajbhljbbglaaGreatDoor
