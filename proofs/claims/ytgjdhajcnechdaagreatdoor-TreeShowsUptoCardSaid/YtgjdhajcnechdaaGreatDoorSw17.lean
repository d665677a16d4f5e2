/-
  run, Line. isOperator: the operators out of the maps of all levels, in whatever order these come.
-/
import Derived.Test.YtgjdhajcnechdaaGreatDoorSw15
import Derived.Test.YtgjdhajcnechdaaGreatDoorSw09
import Derived.Test.YtgjdhajcnechdaaGreatDoorSw04
import Derived.Maps.RangeWalk
set_option linter.all false
set_option maxRecDepth 100000
set_option maxHeartbeats 8000000
namespace Go.Proofs.YtgjdhajcnechdaaGreatDoor
open Go.Proofs.Tryz
open Go.RowKit
structure Grown2(w w':World)(b k:Nat):Prop where
 os:w'.os=w.os
 tape:w'.tape=w.tape
 output:w'.output=w.output
 size:w.heap.size≤w'.heap.size
 block:∀i,i<w.heap.size→i≠b→i≠k→w'.heap[i]? =w.heap[i]?
section
variable {w w1 w2:World}{b k:Nat}{r:Option Nat}
theorem Grown2.of(g:w.grownBy w1 r)(hr:r=none∨r=some b∨r=some k):Grown2 w w1 b k:=
 ⟨g.os,g.tape,g.output,g.size,fun i hi hb hk=>g.block i hi (by rcases hr with rfl|rfl|rfl<;>simp<;>assumption)⟩
theorem Grown2.trans(h:Grown2 w w1 b k)(g:Grown2 w1 w2 b k):Grown2 w w2 b k:=
 ⟨g.os.trans h.os,g.tape.trans h.tape,g.output.trans h.output,Nat.le_trans h.size g.size,fun i hi hb hk=>(g.block i (Nat.lt_of_lt_of_le hi h.size) hb hk).trans (h.block i hi hb hk)⟩
theorem Grown2.gb(g0:w.grownBy w1 none)(h:Grown2 w1 w2 b k)(hb:w.heap.size≤b):w.grownBy w2 (some k):=
 ⟨h.os.trans g0.os,h.tape.trans g0.tape,h.output.trans g0.output,Nat.le_trans g0.size h.size,fun i hi hk=>(h.block i (Nat.lt_of_lt_of_le hi g0.size) (by omega) (by simpa using hk)).trans (g0.block i hi (by simp))⟩
theorem Grown2.blk{cs:List Value}{t:TypeId}{i:Nat}(h:Grown2 w w1 b k)(hB:Blk w i cs t)(h1:i≠b)(h2:i≠k):Blk w1 i cs t:=(h.block i hB.lt h1 h2).trans hB
end
def Ce{α:Type}(l:List Tok):Res α→Int
 | .ok _ j=>if j<l.length then j else -1
 | .bad q=>q
 | .out=>0
def GX{α:Type}(b k:Nat)(w1:World)(U:World→Prop)(V:Nat→World→α→Prop)(M:Res α)(e:Ending)(w2:World):Prop:=
 Grown2 w1 w2 b k∧U w2∧match M with
  | .ok a j=>e= .returned (.tuple #[])∧V w1.heap.size w2 a∧w2.cell? ⟨b,1,none⟩=some (.int .i64 j)
  | .bad q=>e= .panicked (Fj q)
  | .out=>False
def Rl{α:Type}(l:List Tok)(k:Nat)(w:World)(U:World→Prop)(V:Nat→World→α→Prop)(M:Res α)(e:Ending)(w':World):Prop:=
 e= .returned (.int .i64 (Ce l M))∧w.grownBy w' (some k)∧U w'∧∀a j,M= .ok a j→∃B,w.heap.size≤B∧V B w' a
theorem Ka{w:World}(hg:Glob w){tv:Value}{l:List Tok}(ht:TRow w tv l (fun _=>True))(hlen:l.length≤4001)(gf:Nat)(cap:Array Value)
 (hcf:∀v w,(callFunc gf (#[v]++cap)).run Tryz.prog w= .ok (.enter gf (#[v]++cap)) w) {α:Type} (M:Res α) (k:Nat) (hk:k<w.heap.size) (U:World→Prop) (hU:∀w2 w3 r,U w2→w2.grownBy w3 (some r)→w.heap.size≤r→U w3) (V:Nat→World→α→Prop)
 (hV:∀B w2 w3 a r,V B w2 a→w2.grownBy w3 (some r)→w.heap.size≤r→r<B→V B w3 a)
 (hrule:∀w1 b wv,w.grownBy w1 none→w.heap.size≤b→Par w1 b tv wv l wordsL 0→SRow w1 wv wordsL (fun g=>w.heap.size≤g∧g<b)→Calls Tryz.prog gf (#[.pointer (some ⟨b,0,none⟩)]++cap) w1 (GX b k w1 U V M)):
 Calls Tryz.prog 65 #[tv,.func (.func gf) #[] cap] w (Rl l k w U V M):=by
 have hmf:∀(fn:Fn)(first cap:Array Value)(w:World),(Instr.makeFunc fn first cap).run Tryz.prog w= .ok (.func fn first cap) w:=fun _ _ _ _=>rfl;obtain⟨ta,tc,rfl,_⟩:=id ht;have g0:w.grownBy (w.alloc (.cells #[.int .i64 0] 3 (0,0))) none:=World.grownBy_alloc w _ none;have hR:=Blk.new w [.int .i64 0] 3;go_enter_defers func65,ntmps65;go_wp2_with fail;refine(Pu (hg.gb g0 (by simp))).mono ?_;rintro e wA ⟨wv,rfl,hS,gA⟩;obtain⟨wa,wc,rfl,_⟩:=id hS;have gA0:=Aa g0 gA;have hA:=World.grownBy_alloc wA (.cells #[.slice ta l.length tc,.int .i64 0,.slice wa wordsL.length wc,.slice none 0 0] 152 (0,0)) none;have hPar:Par (wA.alloc (.cells [.slice ta l.length tc,.int .i64 0,.slice wa wordsL.length wc,.slice none 0 0].toArray 152 (0,0))) wA.heap.size (.slice ta l.length tc) (.slice wa wordsL.length wc) l wordsL 0:=by
  refine⟨Blk.new wA _ _,?_,?_,Nat.zero_le _,hlen⟩
  ·obtain⟨a,c,e,h1,h2,h3⟩:=ht;refine⟨a,c,e,h1,h2,fun j hj=>?_⟩;obtain⟨lb,lo,ea,_,c0,c1,c2⟩:=h3 j hj;have hlt:=World.block_lt_of_cell? w _ c0;have:=gA0.size;exact⟨lb,lo,ea,by simp at hlt;omega,Af hA (Af gA0 c0),Af hA (Af gA0 c1),Af hA (Af gA0 c2)⟩
  ·obtain⟨a,c,e,h1,h2,h3⟩:=hS;refine⟨a,c,e,h1,h2,fun j hj=>?_⟩;obtain⟨lb,lo,ea,_,c0⟩:=h3 j hj;have hlt:=World.block_lt_of_cell? wA _ c0;exact⟨lb,lo,ea,hlt,Af hA c0⟩
 have hWd:SRow (wA.alloc (.cells [.slice ta l.length tc,.int .i64 0,.slice wa wordsL.length wc,.slice none 0 0].toArray 152 (0,0))) (.slice wa wordsL.length wc) wordsL (fun g=>w.heap.size≤g∧g<wA.heap.size):=by
  obtain⟨a,c,e,h1,h2,h3⟩:=hS;refine⟨a,c,e,h1,h2,fun j hj=>?_⟩;obtain⟨lb,lo,ea,hge,c0⟩:=h3 j hj;have hlt:=World.block_lt_of_cell? wA _ c0;exact⟨lb,lo,ea,⟨by simp at hge;omega,hlt⟩,Af hA c0⟩
 have gB:=Aa gA0 hA;have hsA:=gA.size;simp at hsA;have hR2:=(hR.gb gA (by simp)).gb hA (by simp);go_wp2_with fail;refine(hrule _ _ _ gB (by omega) hPar hWd).mono ?_;rintro e w2 ⟨g2,hu,h2⟩;have hR3:=g2.blk hR2 (by omega) (by omega);have gC:=Grown2.gb gB g2 (by omega);cases hM:M with
 |out=>rw[hM]at h2;exact h2.elim
 | bad q=>
   rw[hM]at h2;subst h2;refine leaves_cons (f:=105) (args:=#[.pointer (some ⟨w.heap.size,0,none⟩)]) (by simp) (by simp[go_sem]) ?_;refine(Iy (hR3.cell 0) (hR3.frozen 0)).mono ?_;rintro e u' w3 ⟨rfl,rfl,rfl⟩;have hc:=((hR3.set 0 (.int .i64 q)).alloc (.cells #[.int .i64 q] 148 (0,0))).cell 0;refine⟨.int .i64 q,by simp[results,results65,go_sem,hc],rfl,Ad (Az gC _ _ (.inr (Nat.le_refl _))) _,hU _ _ _ hu (Ad (Az (Ac _ (some w.heap.size)) _ _ (.inl rfl)) _) (Nat.le_refl _),by simp⟩
 | ok a j=>
   rw[hM]at h2;obtain⟨rfl,hVa,c1⟩:=h2;by_cases hj:j<l.length
   ·go_wp2_with fail;refine(DI c1).mono ?_;rintro e w3 ⟨rfl,rfl⟩;refine leaves_cons (f:=105) (args:=#[.pointer (some ⟨w.heap.size,0,none⟩)]) (by simp) (by simp[go_sem]) ?_;refine(Iy (hR3.cell 0) (hR3.frozen 0)).mono ?_;rintro e u' w3 ⟨rfl,rfl,rfl⟩;have hc:=((hR3.set 0 (.int .i64 j)).alloc (.cells #[.int .i64 j] 148 (0,0))).cell 0;refine⟨.int .i64 j,by simp[results,results65,go_sem,hc],by simp[Ce,hj],Ad (Az gC _ _ (.inr (Nat.le_refl _))) _,hU _ _ _ hu (Ad (Az (Ac _ (some w.heap.size)) _ _ (.inl rfl)) _) (Nat.le_refl _),?_⟩;rintro a' j' ⟨⟩;exact⟨_,gB.size,hV _ _ _ _ _ hVa (Ad (Az (Ac _ (some w.heap.size)) _ _ (.inl rfl)) _) (Nat.le_refl _) (by simp;omega)⟩
   ·have hc0:=hR3.cell 0;have hf0:=hR3.frozen 0;simp only[List.getElem?_cons_zero]at hc0;go_wp2;refine leaves_cons (f:=105) (args:=#[.pointer (some ⟨w.heap.size,0,none⟩)]) (by simp) (by simp[go_sem]) ?_;refine(Np ⟨w.heap.size,0,none⟩ _).mono ?_;rintro e u' w3 ⟨rfl,rfl,rfl⟩;have hc:=(hR3.set 0 (.int .i64 (-1))).cell 0;refine⟨.int .i64 (-1),by simp[results,results65,go_sem,hc],by simp[Ce,hM,hj],Az gC _ _ (.inr (Nat.le_refl _)),hU _ _ _ hu (Az (Ac _ (some w.heap.size)) _ _ (.inl rfl)) (Nat.le_refl _),?_⟩;rintro a' j' e';rw[hM]at e';cases e';exact⟨_,gB.size,hV _ _ _ _ _ hVa (Az (Ac _ (some w.heap.size)) _ _ (.inl rfl)) (Nat.le_refl _) (by simp;omega)⟩
def BE(l:List Tok)(day:Bs→Int)(n:Nat):Res Ex:=(AB l day n 0).bind fun x i=>(CH l i).bind fun _ j=> .ok x j
def HoldsE(k B:Nat)(w:World)(x:Ex):Prop:=∃pa pc la lc,Blk w k (hdC x.h (.slice pa x.h.p.length pc) (.slice la x.kids.len lc)) 27∧
 Cells w (.slice pa x.h.p.length pc) 1 x.h.p.length (x.h.p.map str) (A8 B)∧RepL (A8 B) w (.slice la x.kids.len lc) x.kids
def SomeE(k:Nat)(w:World):Prop:=∃h pa pn pc la ln lc,Blk w k (hdC h (.slice pa pn pc) (.slice la ln lc)) 27
theorem SomeE.gb{k:Nat}{w w1:World}{r:Option Nat}(h:SomeE k w)(g:w.grownBy w1 r)(h1:r≠some k):SomeE k w1:=by
 obtain⟨h,pa,pn,pc,la,ln,lc,hb⟩:=h;exact⟨h,pa,pn,pc,la,ln,lc,hb.gb g (fun e=>h1 e.symm)⟩
theorem HoldsE.gb{k B:Nat}{w w1:World}{x:Ex}{r:Option Nat}(h:HoldsE k B w x)(g:w.grownBy w1 r)(h1:r≠some k)(h2:∀q,r=some q→q<B):HoldsE k B w1 x:=by
 obtain⟨pa,pc,la,lc,hb,hp,hl⟩:=h;have hk:∀q,A8 B q→q<w.heap.size→some q≠r:=fun q hq _ e=>by have:=h2 q e.symm;simp at hq;omega
 exact⟨pa,pc,la,lc,hb.gb g (fun e=>h1 e.symm),hp.gb g hk,hl.gb g hk⟩
theorem TRow.mono{w:World}{v:Value}{l:List Tok}{ok ok':Nat→Prop}(h:TRow w v l ok)(hk:∀k,ok k→k<w.heap.size→ok' k):TRow w v l ok':=by
 obtain⟨a,cap,e,h1,h2,h3⟩:=h;refine⟨a,cap,e,h1,h2,fun j hj=>?_⟩;obtain⟨lb,lo,ea,ho,c0,c1,c2⟩:=h3 j hj;exact⟨lb,lo,ea,hk _ ho (World.block_lt_of_cell? w _ c0),c0,c1,c2⟩
theorem SRow.mono{w:World}{v:Value}{l:List Bs}{ok ok':Nat→Prop}(h:SRow w v l ok)(hk:∀k,ok k→k<w.heap.size→ok' k):SRow w v l ok':=by
 obtain⟨a,cap,e,h1,h2,h3⟩:=h;refine⟨a,cap,e,h1,h2,fun j hj=>?_⟩;obtain⟨lb,lo,ea,ho,c0⟩:=h3 j hj;exact⟨lb,lo,ea,hk _ ho (World.block_lt_of_cell? w _ c0),c0⟩
theorem Pj{w:World}{b k:Nat}{tv wv:Value}{l:List Tok}{wl:List Bs}{day:Bs→Int}(hl:Du day l)(n:Nat)(hp:Par w b tv wv l wl 0)(hk:Blk w k zeroE 27)(hkb:k<b)
 (ht:TRow w tv l (· < k)) (hs:SRow w wv wl (fun g=>k<g∧g<b)) (ho:BE l day n ≠ .out):
 Calls Tryz.prog 66 #[.pointer (some ⟨b,0,none⟩),.pointer (some ⟨k,0,none⟩)] w (GX b k w (SomeE k) (HoldsE k) (BE l day n)):=by
 have hE:=Jp (b:=b) (tv:=tv) (wv:=wv) (wl:=wl) hl n;generalize hR:BE l day n=R at*;have HQ:=O hR;rw[BE]at HQ;have H:=O (Z hE ho);clear hE ho hR hl;have hb:=hp.lt;go_enter func66,ntmps66;go_wp2_with fail;refine(H.out.1 _ _ hp (fun e=>H.out.2 (by rw[←HQ.out,e];rfl))).mono ?_;intro e w1 hq;obtain⟨g,⟨q,hr,rfl⟩| ⟨x,j,v,hr,rfl,⟨pa,pc,la,lc,rfl,rp,rl⟩,hp⟩⟩:=hq.split
 ·have e1:R= .bad q:=by rw[←HQ.out,hr];rfl
  subst e1;exact⟨rfl,Grown2.of g (.inr (.inl rfl)),⟨hd0 0 [],none,0,0,none,0,0,hk.gb g (by simp;omega)⟩,rfl⟩
 replace HQ:=HQr HQ (by rw[hr,Res.bind_ok]);clear hr;replace hk:=hk.gb g (by simp;omega);replace ht:=ht.gb g (by intro q hq e;cases e;have:b<k:=hq;omega);replace hs:=hs.gb g (by intro q hq e;cases e;have:=hq.2;omega);have hb1:=g.size;have g7:=Ah w1 k (.int .i64 x.h.op) (str x.h.s) (.int .i64 x.h.vk) (.int .i64 x.h.vn) (str x.h.vs) (.slice pa x.h.p.length pc) (.slice la x.kids.len lc);have hk7:=hk.set7 (.int .i64 x.h.op) (str x.h.s) (.int .i64 x.h.vk) (.int .i64 x.h.vn) (str x.h.vs) (.slice pa x.h.p.length pc) (.slice la x.kids.len lc);have hok:∀q,A8 w.heap.size q→q<w1.heap.size→some q≠some k:=fun q hq _ e=>by simp at hq;cases e;omega
 have hX:=O (Z (rp.gb g7 hok) (rl.gb g7 hok));have hp7:Par (set7 w1 k (.int .i64 x.h.op) (str x.h.s) (.int .i64 x.h.vk) (.int .i64 x.h.vn) (str x.h.vs) (.slice pa x.h.p.length pc) (.slice la x.kids.len lc)) b tv wv l wl j:=
  ⟨hp.blk.gb g7 (by simp;omega),(ht.gb g7 (by intro q hq e;cases e;have:k<k:=hq;omega)).mono (fun q hq _=>by have:q<k:=hq;omega),(hs.gb g7 (by intro q hq e;cases e;have:=hq.1;omega)).mono (fun q hq _=>hq.2),hp.le,hp.few⟩
 have gX:Grown2 w (set7 w1 k (.int .i64 x.h.op) (str x.h.s) (.int .i64 x.h.vk) (.int .i64 x.h.vn) (str x.h.vs) (.slice pa x.h.p.length pc) (.slice la x.kids.len lc)) b k:=(Grown2.of g (.inr (.inl rfl))).trans (Grown2.of g7 (.inr (.inr rfl)));clear rp rl hp ht hs;obtain⟨cl_0,cl_1,cl_2,cl_3,cl_4,cl_5,cl_6,cl_f⟩:=(hk).c7;go_wp2_with fail;refine(JW hp7).mono ?_;intro e w2 hq;obtain⟨g2,⟨q,hr,rfl⟩| ⟨_,j2,v,hr,rfl,rfl,hp⟩⟩:=hq.split
 ·have e1:R= .bad q:=by rw[←HQ.out,hr];rfl
  subst e1;exact⟨rfl,gX.trans (Grown2.of g2 (.inr (.inl rfl))),⟨x.h,_,_,_,_,_,_,hk7.gb g2 (by simp;omega)⟩,rfl⟩
 have e1:R= .ok x j2:=by rw[←HQ.out,hr];rfl
 subst e1;have hk8:=hk7.gb g2 (by simp;omega);have hok2:∀q,A8 w.heap.size q→q<(set7 w1 k (.int .i64 x.h.op) (str x.h.s) (.int .i64 x.h.vk) (.int .i64 x.h.vn) (str x.h.vs) (.slice pa x.h.p.length pc) (.slice la x.kids.len lc)).heap.size→some q≠some b:=fun q hq _ e=>by simp at hq;cases e;omega
 go_wp2;have hX2:=Z (hX.out.1.gb g2 hok2) (hX.out.2.gb g2 hok2);exact⟨rfl,.tuple #[],by simp[results,results66,go_sem],gX.trans (Grown2.of g2 (.inr (.inl rfl))),⟨x.h,_,_,_,_,_,_,hk8⟩,rfl,⟨pa,pc,la,lc,hk8,hX2.1,hX2.2⟩,hp.c1⟩
open Go.Sort
def Iter(w:World)(r b:Nat)(l:List (Bs×Bs))(left:List Nat):Prop:=
 w.heap[b]? =some (BA l)∧∃seen:Array Nat,w.heap[r]? =some (.mapIter (some b) l.length seen l.length)∧left.Nodup∧∀i,i∈left↔i<l.length∧seen.contains i=false
theorem GE(l:List (Bs×Bs)):∀n i:Nat,(AS l n)[i]? =(l[i]?).map fun p=>({key:=str p.1,val:=str p.2,born:=n+i}:MapEntry):=by
 induction l with
 |nil=>intro n i;simp[AS]
 | cons x l ih=>
   intro n i;obtain⟨a,b⟩:=x;cases i with
   |zero=>simp[AS]
   |succ i=>simp[AS,ih];congr 1;funext p;congr 1;omega
theorem IV{l:List (Bs×Bs)}{e:MapEntry}(h:e∈(AS l 0)):∃i,i<l.length∧e.born=i∧e.key=str (l.getD i ([],[])).1∧e.val=str (l.getD i ([],[])).2:=by
 obtain⟨i,hi,rfl⟩:=List.getElem_of_mem h;have hil:i<l.length:=by simpa[Lh]using hi
 refine⟨i,hil,?_⟩;have:=GE l 0 i;rw[List.getElem?_eq_getElem hi,List.getElem?_eq_getElem hil]at this;simp only[Option.map_some,Option.some.injEq,Nat.zero_add]at this;rw[this,List.getD_eq_getElem?_getD,List.getElem?_eq_getElem hil];exact⟨rfl,rfl,rfl⟩
theorem MG(l:List (Bs×Bs)):((AS l 0).map (·.born))=List.range l.length:=by
 apply List.ext_getElem?;intro i;rw[List.getElem?_map,GE];by_cases h:i<l.length
 ·simp[List.getElem?_eq_getElem h,h]
 ·simp[List.getElem?_eq_none (Nat.le_of_not_lt h),h]
section
variable {P:Program}
theorem KH{w:World}{t k e:TypeId}{b:Nat}{l:List (Bs×Bs)}(ht:P.underlying t=some (.map k e))(hb:w.heap[b]? =some (BA l)):
 (Instr.range t (.map (some b))).run P w= .ok (.pointer (some ⟨w.heap.size,0,none⟩)) (w.alloc (.mapIter (some b) l.length #[] l.length)):=
 run_range_map w t k e b (AS l 0).toArray l.length ht hb
theorem Iter.start{w:World}{b:Nat}{l:List (Bs×Bs)}(hb:w.heap[b]? =some (BA l)):Iter (w.alloc (.mapIter (some b) l.length #[] l.length)) w.heap.size b l (List.range l.length):=
 ⟨Ew _ _ _ _ hb,#[],DJ _ _ _ rfl,List.nodup_range,fun i=>by simp⟩
theorem Iter.gb{w w1:World}{r b:Nat}{l:List (Bs×Bs)}{left:List Nat}{q:Option Nat}(h:Iter w r b l left)(g:w.grownBy w1 q)(h1:some b≠q)(h2:some r≠q):Iter w1 r b l left:=by
 obtain⟨hb,seen,hr,hn,hi⟩:=h;exact⟨Dy g hb h1,seen,Dy g hr h2,hn,hi⟩
theorem Iter.next{w:World}{r b:Nat}{l:List (Bs×Bs)}{left:List Nat}(h:Iter w r b l left)(ty:TypeId):
 (left=[]∧(Instr.next (.pointer (some ⟨r,0,none⟩)) false ty).run P w= .ok (.tuple #[.bool false]) w)∨
 ∃i∈left,∃w1:World,(Instr.next (.pointer (some ⟨r,0,none⟩)) false ty).run P w= .ok (.tuple #[.bool true,str (l.getD i ([],[])).1,str (l.getD i ([],[])).2]) w1∧Iter w1 r b l (left.erase i)∧w.grownBy w1 (some r)∧
  (Instr.entry (.pointer (some ⟨r,0,none⟩))).run P w1= .ok (.tuple #[str (l.getD i ([],[])).1,str (l.getD i ([],[])).2]) w1:=by
 obtain⟨hb,seen,hr,hnd,hi⟩:=h;have hb':w.heap[b]? =some (.map (AS l 0).toArray l.length):=hb;have hold:∀x∈(AS l 0).toArray.toList,x.born<l.length:=fun x hx=>by
  obtain⟨i,h1,h2,_⟩:=IV (by simpa using hx);omega
 have hlt:r<w.heap.size:=(Array.getElem?_eq_some_iff.1 hr).1;simp only[Instr.next,getObj,Sem.run_bind,Sem.run,hr,hb',Result.andThen,next_test_false seen _ l.length l.length hold (Nat.le_refl _),Bool.false_eq_true,if_false];have hmem:∀x∈(Array.filter (fun e=>!seen.contains e.born) (AS l 0).toArray).toList,x.born<l.length:=fun x hx=>hold x (by simp at hx ⊢;exact hx.1);have hL:∀x∈(Array.filter (fun e=>!seen.contains e.born) (AS l 0).toArray).toList,x.born∈left∧x.key=str (l.getD x.born ([],[])).1∧x.val=str (l.getD x.born ([],[])).2∧x∈AS l 0:=fun x hx=>by
  have hx':x∈AS l 0∧seen.contains x.born=false:=by simpa using hx
  obtain⟨i,h1,h2,h3,h4⟩:=IV hx'.1;subst h2;exact⟨(hi _).2 ⟨h1,hx'.2⟩,h3,h4,hx'.1⟩
 have hE:Array.filter (fun e=>!seen.contains e.born) (AS l 0).toArray=#[]→left=[]:=fun he=>by
  rcases List.eq_nil_or_concat left with h| ⟨_,i,h⟩
  ·exact h
  ·exfalso;obtain⟨h1,h2⟩:=(hi i).1 (by rw[h];simp);rw[Array.filter_eq_empty_iff]at he;have hm:(AS l 0)[i]? =some {key:=str l[i].1,val:=str l[i].2,born:=0+i}:=by rw[GE,List.getElem?_eq_getElem h1];rfl
   refine he _ (by simpa using List.mem_of_getElem? hm) ?_;simpa using h2
 generalize Array.filter (fun e=>!seen.contains e.born) (AS l 0).toArray=L at hmem hL hE ⊢;have e1:L.filter (fun x=>decide (x.born<l.length))=L:=Array.filter_eq_self.2 (fun x hx=>by simpa using hmem x (by simpa using hx));have e2:L.filter (fun x=>decide (x.born≥l.length))=#[]:=by
  rw[Array.filter_eq_empty_iff];intro x hx;have:=hmem x (by simpa using hx);simp;omega
 simp only[e1,e2,Array.append_empty];by_cases h0:L.size=0
 ·left;have:L=#[]:=Array.eq_empty_of_size_eq_zero h0;subst this;refine⟨hE rfl,?_⟩;simp[choose,Sem.run,Question.forced]
 ·right;have hne:L.isEmpty=false:=by simp[Array.isEmpty,h0]
  simp only[hne,Bool.false_eq_true,if_false,Array.empty_append,Array.size_map];have hch:∃(j:Nat)(w1:World),j<L.size∧w1.Alike w∧w.grownBy w1 none∧(choose (Question.mapNext L.size)).run P w= .ok j w1:=by
   by_cases hf:L.size≤1
   ·exact⟨0,w,by omega,⟨rfl,rfl,rfl⟩,Ac _ _,by simp[choose,Sem.run,Question.forced,hf]⟩
   ·exact ⟨_, w.drew, Nat.mod_lt _ (by omega), ⟨rfl, rfl, rfl⟩, Am (Ac _ _), by
     simp only[choose,Sem.run,Question.forced,decide_eq_true_eq,hf,if_false,Question.cut];rfl⟩
  obtain⟨j,w1,hj,hal,g1,hrun⟩:=hch;obtain⟨k1,k2,k3,k4⟩:=hL L[j] (by simp);have hr1:w1.heap[r]? =some (.mapIter (some b) l.length seen l.length):=by rw[hal.1];exact hr
  have hb1:w1.heap[b]? =some (.map (AS l 0).toArray l.length):=by rw[hal.1];exact hb'
  have hlt1:r<w1.heap.size:=by rw[hal.1];exact hlt
  have hne:b≠r:=by
   rintro rfl;rw[hr]at hb';cases hb'
  have hw2:∃w2:World,w2={w1 with heap:=w1.heap.setIfInBounds r (.mapIter (some b) l.length (seen.push L[j].born) l.length)}:=⟨_,rfl⟩;obtain⟨w2,hw2⟩:=hw2;have hr2:w2.heap[r]? =some (.mapIter (some b) l.length (seen.push L[j].born) l.length):=by rw[hw2];simp[hlt1]
  have hb2:w2.heap[b]? =some (.map (AS l 0).toArray l.length):=by
   rw[hw2];show(w1.heap.setIfInBounds r _)[b]? =_;rw[Array.getElem?_setIfInBounds_ne (fun e=>hne e.symm)];exact hb1
  have hs2:(setObj r (.mapIter (some b) l.length (seen.push L[j].born) l.length)).run P w1= .ok () w2:=by
   simp only[setObj,Sem.run,hr1];rw[hw2]
  refine⟨L[j].born,k1,w2,?_,⟨hb2,_,hr2,hnd.erase _,fun i=>?_⟩,?_,?_⟩
  ·simp only[hrun,Array.getElem?_map,Array.getElem?_eq_getElem hj,Option.map_some,Sem.run_bind,hs2,Result.andThen,k2,k3];rfl
  ·rw[hnd.mem_erase_iff,hi];have:(seen.push L[j].born).contains i=(seen.contains i||i==L[j].born):=by
    rw[Bool.eq_iff_iff];simp
   rw[this];constructor
   ·rintro⟨a1,a2,a3⟩;exact⟨a2,by rw[a3];simpa using a1⟩
   ·rintro⟨a1,a2⟩;simp only[Bool.or_eq_false_iff,beq_eq_false_iff_ne]at a2;exact⟨a2.2,a1,a2.1⟩
  ·refine Aa (AX g1) ?_;rw[hw2];refine⟨rfl,rfl,rfl,by simp,fun i _ hir=>?_⟩;show(w1.heap.setIfInBounds r _)[i]? =_;exact Array.getElem?_setIfInBounds_ne (fun e=>hir (by rw[e]))
  ·have hf : (AS l 0).toArray.find? (·.born == L[j].born) = some L[j] := by
    rw[←Array.find?_toList];refine find_born L[j] _ ?_ k4;show((AS l 0).map (·.born)).Nodup;rw[MG];exact List.nodup_range
   simp only[Instr.entry,getObj,Sem.run_bind,Sem.run,hr2,hb2,Result.andThen,Array.back?_push,bne_self_eq_false,Bool.false_eq_true,if_false,hf,k2,k3];rfl
variable {w:World}{ops:Array Oper}{rest:List Oper}{o:Oper}{a:Act}{Q:Exit→Act→World→Prop}
theorem K4(hg:o.guard=none)(it:Operand)(hop:o.op=Op.next it false){r b:Nat}{l:List (Bs×Bs)}{left:List Nat}(hit:a.eval it= .pointer (some ⟨r,0,none⟩))(h:Iter w r b l left)
 (hDone:left=[]→wpList P ops Q rest (a.put o.dst (.tuple #[.bool false])) w)
 (hMore:∀(i:Nat)(w':World),i∈left→Iter w' r b l (left.erase i)→w.grownBy w' (some r)→(Instr.entry (.pointer (some ⟨r,0,none⟩))).run P w'= .ok (.tuple #[str (l.getD i ([],[])).1,str (l.getD i ([],[])).2]) w'→
  wpList P ops Q rest (a.put o.dst (.tuple #[.bool true,str (l.getD i ([],[])).1,str (l.getD i ([],[])).2])) w'):
 wpList P ops Q (o::rest) a w:=by
 refine wpList_plain hg fun K' hK'=>?_;unfold Oper.wp;rcases h.next (P:=P) o.type with⟨hl,hrun⟩| ⟨i,hi,w1,hrun,h1,hgr,hen⟩
 ·simp[execOp,hop,hit,hrun,Result.andThen];exact hK' _ _ (hDone hl)
 ·simp[execOp,hop,hit,hrun,Result.andThen];exact hK' _ _ (hMore i w1 hi h1 hgr hen)
end
theorem QY{k:Nat}{i:Nat}(h:i<(lvl k).length):((lvl k).getD i ([],[])).2∈(lvl k).map (·.2):=by
 rw[List.getD_eq_getElem?_getD,List.getElem?_eq_getElem h];exact List.mem_map.2 ⟨_,List.getElem_mem h,rfl⟩
theorem SD(s:Bs):(∃k,k<6∧s∈(lvl k).map (·.2))↔s∈opsL:=by
 have h1:∀k,k<6→∀s∈(lvl k).map (·.2),s∈opsL:=by decide
 have h2:∀s∈opsL,∃k,k<6∧s∈(lvl k).map (·.2):=by decide
 exact⟨fun⟨k,hk,h⟩=>h1 k hk s h,h2 s⟩
def Coll(xs:List Bs)(k:Nat)(left:List Nat):Prop:=(∀s,s∈xs↔(∃j,j<k∧s∈(lvl j).map (·.2))∨∃i,i<(lvl k).length∧i ∉ left∧((lvl k).getD i ([],[])).2=s)
theorem Coll.start:Coll [] 0 (List.range (lvl 0).length):=fun s=>by
 constructor
 ·intro h;cases h
 ·rintro(⟨j,h,_⟩| ⟨i,h1,h2,_⟩)
  ·omega
  ·exact absurd (List.mem_range.2 h1) h2
theorem Coll.step{xs:List Bs}{k i:Nat}{left:List Nat}(h:Coll xs k left)(hn:left.Nodup)(hi:i∈left)(hl:i<(lvl k).length):Coll (xs++[((lvl k).getD i ([],[])).2]) k (left.erase i):=fun s=>by
 rw[List.mem_append,h s,List.mem_singleton]
 constructor
 ·rintro((h| ⟨j,h1,h2,h3⟩)|rfl)
  ·exact .inl h
  ·exact .inr ⟨j,h1,fun e=>h2 (List.mem_of_mem_erase e),h3⟩
  ·exact .inr ⟨i,hl,fun e=>by rw[hn.mem_erase_iff]at e;exact e.1 rfl,rfl⟩
 ·rintro(h| ⟨j,h1,h2,h3⟩)
  ·exact .inl (.inl h)
  ·by_cases hj:j=i
   ·subst hj;exact .inr h3.symm
   ·exact .inl (.inr ⟨j,h1,fun e=>h2 ((hn.mem_erase_iff).2 ⟨hj,e⟩),h3⟩)
theorem Coll.next{xs:List Bs}{k:Nat}(h:Coll xs k []):Coll xs (k+1) (List.range (lvl (k+1)).length):=fun s=>by
 rw[h s]
 constructor
 ·rintro(⟨j,h1,h2⟩| ⟨i,h1,_,h3⟩)
  ·exact .inl ⟨j,by omega,h2⟩
  ·exact .inl ⟨k,by omega,by rw[←h3];exact QY h1⟩
 ·rintro(⟨j,h1,h2⟩| ⟨i,h1,h2,_⟩)
  ·by_cases hj:j=k
   ·subst hj
    obtain⟨p,hp,rfl⟩:=List.mem_map.1 h2
    obtain⟨i,hi,rfl⟩:=List.getElem_of_mem hp
    exact .inr ⟨i,hi,by simp,by rw[List.getD_eq_getElem?_getD,List.getElem?_eq_getElem hi];rfl⟩
   ·exact .inl ⟨j,by omega,h2⟩
  ·exact absurd (List.mem_range.2 h1) h2
theorem Coll.done{xs:List Bs}(h:Coll xs 6 (List.range (lvl 6).length))(s:Bs):s∈xs↔s∈opsL:=by
 rw[h s,←SD];constructor
 ·rintro(h| ⟨i,h1,h2,_⟩)
  ·exact h
  ·exact absurd (List.mem_range.2 h1) h2
 ·exact fun h=> .inl h
end Go.Proofs.YtgjdhajcnechdaaGreatDoor
