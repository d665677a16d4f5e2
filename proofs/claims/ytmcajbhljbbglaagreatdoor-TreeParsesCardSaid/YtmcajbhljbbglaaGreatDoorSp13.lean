/-
  Equality of texts and expressions: the plain model, and sameTexts of the reference, slices.Equal of the program. Equality of expressions: slices.Equal at texts; SameExpr of the reference and of the pr
-/
import Derived.Test.YtmcajbhljbbglaaGreatDoorSpF
import Derived.Test.YtmcajbhljbbglaaGreatDoorSp06
import Derived.Test.YtmcajbhljbbglaaGreatDoorSp02
import Derived.Test.YtmcajbhljbbglaaGreatDoorSp09
set_option linter.all false
set_option maxRecDepth 100000
set_option maxHeartbeats 8000000
namespace Go.Proofs.YtmcajbhljbbglaaGreatDoor
open Tryz
open Go.RowKit
def CF(l m:List Bs):Bool:=decide (l=m)
def DR(h k:Hd):Bool:=decide (h=k)
def B3:Fo→Fo→Bool
 | .nil,.nil=>true
 | .cons h k n,.cons h' k' n'=>(DR h h'&&B3 k k')&&B3 n n'
 |_,_=>false
theorem xI:∀{f g:Fo},B3 f g=true→f.len=g.len:=by
 intro f;induction f with
 |nil=>intro g h;cases g with|nil=>rfl|cons=>cases h
 | cons hd kids next ih1 ih2=>
   intro g h;cases g with
   |nil=>cases h
   | cons h' k' n'=>
     simp only[B3,Bool.and_eq_true]at h;simp[Fo.len,ih2 h.2]
theorem V4:∀f:Fo,B3 f f=true:=by
 intro f;induction f with
 |nil=>rfl
 |cons hd kids next ih1 ih2=>simp[B3,DR,ih1,ih2]
theorem rT(h k:Hd):DR h k=(h.op==k.op&&h.s==k.s&&((h.vk==k.vk&&h.vn==k.vn)&&h.vs==k.vs)&&CF h.p k.p):=by
 cases h;cases k;rw[Bool.eq_iff_iff];simp[DR,CF,and_assoc]
theorem Cells.at1{w:World}{pa:Option Addr}{n pc:Nat}{l:List Bs}{ok:Nat→Prop}(h:Cells w (.slice pa n pc) 1 l.length (l.map str) ok):n=l.length∧∀k,k<l.length→∃g o,pa=some ⟨g,o,none⟩∧w.cell? ⟨g,o+k,none⟩=some (str (l.getD k [])):=by
 obtain⟨a,cap,e,_,_,_,h4⟩:=h;cases e;refine⟨rfl,fun k hk=>?_⟩;obtain⟨g,o,e,_,hc⟩:=h4 k (str (l.getD k [])) (by simp[List.getD,List.getElem?_eq_getElem hk]);exact⟨g,o,e,hc⟩
theorem kI{l m:List Bs}(h:l.length≠m.length):CF l m=false:=by
 unfold CF;simp;rintro rfl;exact h rfl
theorem lI{l m:List Bs}{k:Nat}(h:l.getD k []≠m.getD k []):CF l m=false:=by
 unfold CF;simp;rintro rfl;exact h rfl
theorem kH{l m:List Bs}(hn:l.length=m.length)(h:∀j,j<l.length→l.getD j []=m.getD j []):CF l m=true:=by
 unfold CF;simp;apply List.ext_getElem hn;intro j h1 h2;have:=h j h1;simpa[List.getD,List.getElem?_eq_getElem h1,List.getElem?_eq_getElem h2]using this
theorem U7{w:World}{pa pb:Option Addr}{pc pd:Nat}{l m:List Bs}{ok ok':Nat→Prop}(h1:Cells w (.slice pa l.length pc) 1 l.length (l.map str) ok)(h2:Cells w (.slice pb m.length pd) 1 m.length (m.map str) ok'):
 Calls Tryz.prog 32 #[.slice pa l.length pc,.slice pb m.length pd] w fun e w'=>e= .returned (.bool (CF l m))∧w.grownBy w' none:=by
 have hc1:=h1.at1.2;have hc2:=h2.at1.2;have hl:l.length≤maxLen:=by obtain⟨_,_,e,h3,h4,_⟩:=h1;omega
 unfold maxLen at hl;clear h1 h2;by_cases hn:l.length=m.length
 ·have cI{P}(h:P:=by
  go_loopg [5] l.length (fun g v5 wr=>∃k:Nat,k+g=l.length∧v5= .int .i64 k∧(∀j,j<k→l.getD j []=m.getD j [])∧w.grownBy wr none)
  case atStart=>exact⟨0,by omega,rfl,fun j hj=>by omega,Aj _ _⟩
  case round=>
   obtain⟨k,hg,rfl,hp,hgr⟩:=hrel;by_cases hk:k<l.length
   ·obtain⟨g1,o1,rfl,c1⟩:=HC.out.1 k hk;obtain⟨g2,o2,rfl,c2⟩:=HC.out.2 k Lf;have d1:=Am hgr c1;have d2:=Am hgr c2;have hkm:k<m.length:=Lf;have hkI:decide (k<l.length)=true:=BE;have HP:=Z hp;have HG:=Z hgr;clear hp hgr c1 c2;generalize hs1:l.getD k []=s at*;generalize hs2:m.getD k []=t at*;by_cases he:s=t
    ·have bV{P}(h:P:=by
     go_roundg (l.length-(k+1))
     case measure=>omega
     case rel=>exact⟨k+1,by omega,by go_num,fun j hj=>by rcases Nat.lt_succ_iff_lt_or_eq.1 hj with h|rfl;exact HP.out j h;exact HE.out,AA HG.out _⟩):=Aa h;exact Sv
    ·have cC{P}(h:P:=by exact⟨by rw[HE.out];rfl,AA HG.out _⟩):=Aa h;exact SC
   ·have cZ{P}(h:P:=by exact⟨by rw[HE.out];rfl,HG.out⟩):=Aa h;exact Tq):=Aa h
  exact SM
 ·have bZ{P}(h:P:=by exact⟨by rw[HN.out];rfl,gw⟩):=Aa h;exact S3
theorem Ua{w:World}{h h':Hd}{pa pb la lb:Option Addr}{pc pd ln lc lm ld:Nat}{ok ok':Nat→Prop}{b:Bool}(h1:Cells w (.slice pa h.p.length pc) 1 h.p.length (h.p.map str) ok)(h2:Cells w (.slice pb h'.p.length pd) 1 h'.p.length (h'.p.map str) ok')
 (HL:∀W,w.grownBy W none→Calls Tryz.prog 33 #[.slice la ln lc,.slice lb lm ld] W fun e w'=>e= .returned (.bool b)∧W.grownBy w' none):
 Calls Tryz.prog 11 #[exV h (.slice pa h.p.length pc) (.slice la ln lc),exV h' (.slice pb h'.p.length pd) (.slice lb lm ld)] w fun e w'=>e= .returned (.bool (DR h h'&&b))∧w.grownBy w' none:=by
 have HH:=Z (rT h h');have HT:=Z (fun(W:World)(g:w.grownBy W none)=>U7 (h1.gb g Ae) (h2.gb g Ae));have HL':=Z HL;clear HL h1 h2;obtain⟨op,s,vk,vn,vs,p⟩:=h;obtain⟨op',s',vk',vn',vs',p'⟩:=h';simp only at HH HT ⊢;cases c1:(op==op')with
 | false=>
   have HF:=Z (show(DR ⟨op,s,vk,vn,vs,p⟩ ⟨op',s',vk',vn',vs',p'⟩&&b)=false by rw[HH.out,c1];simp);exact L0
 | true=>
   cases c2:(s==s')with
   | false=>
     have HF:=Z (show(DR ⟨op,s,vk,vn,vs,p⟩ ⟨op',s',vk',vn',vs',p'⟩&&b)=false by rw[HH.out,c1,c2];simp);exact L0
   | true=>
     by_cases hk:vk=vk'
     ·subst hk;by_cases hn:vn=vn'
      ·subst hn;by_cases hs:vs=vs'
       ·subst hs;have HF:=Z (show(DR ⟨op,s,vk,vn,vs,p⟩ ⟨op',s',vk,vn,vs,p'⟩&&b)=(CF p p'&&b)by rw[HH.out,c1,c2];simp);rw[HF.out];clear HH HF;cases c4:CF p p' with
        | false=>
          have fG{P}(h:P:=by go_wp2;go_ret;exact⟨rfl,gwx⟩):=Aa h;exact YM
        | true=>
          have fG{P}(h:P:=by have x6:=(((Blk.new w [.int .i64 op,str s,.int .i64 vk,.int .i64 vn,str vs,.slice pa p.length pc,.slice la ln lc] 29).alloc _).gb g1 Ae).cell 6;have y6:=(show Blk w1 (w.heap.size+1) [.int .i64 op',str s',.int .i64 vk,.int .i64 vn,str vs,.slice pb p'.length pd,.slice lb lm ld] 29 from((Blk.new _ _ _).of_eq Ae rfl).gb g1 Ae).cell 6;simp only[List.getElem?_cons_zero,List.getElem?_cons_succ]at x6 y6;go_wp2_with fail;refine(HL'.out _ gwx).mono ?_;rintro e w2 ⟨rfl,g2⟩;go_wp2;go_ret;exact⟨rfl,Ah gwx g2⟩):=Aa h;exact YM
       ·have HF:=Z (show(DR ⟨op,s,vk,vn,vs,p⟩ ⟨op',s',vk,vn,vs',p'⟩&&b)=false by rw[HH.out,c1,c2];simp[hs]);exact L0
      ·have HF:=Z (show(DR ⟨op,s,vk,vn,vs,p⟩ ⟨op',s',vk,vn',vs',p'⟩&&b)=false by rw[HH.out,c1,c2];simp[hn]);exact L0
     ·have HF:=Z (show(DR ⟨op,s,vk,vn,vs,p⟩ ⟨op',s',vk',vn',vs',p'⟩&&b)=false by rw[HH.out,c1,c2];simp[hk]);exact L0
structure Grown2(w w':World)(b k:Nat):Prop where
 os:w'.os=w.os
 tape:w'.tape=w.tape
 output:w'.output=w.output
 size:w.heap.size≤w'.heap.size
 block:∀i,i<w.heap.size→i≠b→i≠k→w'.heap[i]? =w.heap[i]?
section
variable {w w1 w2:World}{b k:Nat}{r:Option Nat}
theorem Grown2.of(g:w.grownBy w1 r)(hr:r=none∨r=some b∨r=some k):Grown2 w w1 b k:=
 ⟨g.os,g.tape,g.output,g.size,fun i hi hb hk=>g.block i hi (by rcases hr with rfl|rfl|rfl<;>simp<;>assumption)⟩
theorem Grown2.trans(h:Grown2 w w1 b k)(g:Grown2 w1 w2 b k):Grown2 w w2 b k:=
 ⟨g.os.trans h.os,g.tape.trans h.tape,g.output.trans h.output,Nat.le_trans h.size g.size,fun i hi hb hk=>(g.block i (Nat.lt_of_lt_of_le hi h.size) hb hk).trans (h.block i hi hb hk)⟩
theorem Grown2.gb(g0:w.grownBy w1 none)(h:Grown2 w1 w2 b k)(hb:w.heap.size≤b):w.grownBy w2 (some k):=
 ⟨h.os.trans g0.os,h.tape.trans g0.tape,h.output.trans g0.output,Nat.le_trans g0.size h.size,fun i hi hk=>(h.block i (Nat.lt_of_lt_of_le hi g0.size) Ab BE).trans (g0.block i hi Ae)⟩
theorem Grown2.blk{cs:List Value}{t:TypeId}{i:Nat}(h:Grown2 w w1 b k)(hB:Blk w i cs t)(h1:i≠b)(h2:i≠k):Blk w1 i cs t:=(h.block i hB.lt h1 h2).trans hB
end
def Ca{α:Type}(l:List Tok):Res α→Int
 | .ok _ j=>if j<l.length then j else -1
 | .bad q=>q
 | .out=>0
def P7{α:Type}(b k:Nat)(w1:World)(U:World→Prop)(V:Nat→World→α→Prop)(M:Res α)(e:Ending)(w2:World):Prop:=
 Grown2 w1 w2 b k∧U w2∧match M with
  | .ok a j=>e= .returned (.tuple #[])∧V w1.heap.size w2 a∧w2.cell? ⟨b,1,none⟩=some (.int .i64 j)
  | .bad q=>e= .panicked (JA q)
  | .out=>False
def zX{α:Type}(l:List Tok)(k:Nat)(w:World)(U:World→Prop)(V:Nat→World→α→Prop)(M:Res α)(e:Ending)(w':World):Prop:=
 e= .returned (.int .i64 (Ca l M))∧w.grownBy w' (some k)∧U w'∧∀a j,M= .ok a j→∃B,w.heap.size≤B∧V B w' a
theorem Xd{w:World}(hg:Glob w){tv:Value}{l:List Tok}(ht:TRow w tv l (fun _=>True))(hlen:l.length≤4001)(gf:Nat)(cap:Array Value)
 (hcf:∀v w,(callFunc gf (#[v]++cap)).run Tryz.prog w= .ok (.enter gf (#[v]++cap)) w) {α:Type} (M:Res α) (k:Nat) (hk:k<w.heap.size) (U:World→Prop) (hU:∀w2 w3 r,U w2→w2.grownBy w3 (some r)→w.heap.size≤r→U w3) (V:Nat→World→α→Prop)
 (hV:∀B w2 w3 a r,V B w2 a→w2.grownBy w3 (some r)→w.heap.size≤r→r<B→V B w3 a)
 (hrule:∀w1 b wv,w.grownBy w1 none→w.heap.size≤b→Par w1 b tv wv l wordsL 0→SRow w1 wv wordsL (fun g=>w.heap.size≤g∧g<b)→Calls Tryz.prog gf (#[.pointer (some ⟨b,0,none⟩)]++cap) w1 (P7 b k w1 U V M)):
 Calls Tryz.prog 54 #[tv,.func (.func gf) #[] cap] w (zX l k w U V M):=by
 have LC{P}(h:P:=by
 obtain⟨ta,tc,rfl,_⟩:=id ht;have g0:w.grownBy (w.alloc (.cells #[.int .i64 0] 3 (0,0))) none:=World.grownBy_alloc w _ none;have hR:=Blk.new w [.int .i64 0] 3;go_enter_defers func54,ntmps54;go_wp2_with fail;refine(wF (hg.gb g0 Ae)).mono ?_;rintro e wA ⟨wv,rfl,hS,gA⟩;obtain⟨wa,wc,rfl,_⟩:=id hS;have gA0:=Ah g0 gA;have hA:=World.grownBy_alloc wA (.cells #[.slice ta l.length tc,.int .i64 0,.slice wa wordsL.length wc,.slice none 0 0] 118 (0,0)) none;have hPar:Par (wA.alloc (.cells [.slice ta l.length tc,.int .i64 0,.slice wa wordsL.length wc,.slice none 0 0].toArray 118 (0,0))) wA.heap.size (.slice ta l.length tc) (.slice wa wordsL.length wc) l wordsL 0:=by
  refine⟨Blk.new wA _ _,?_,?_,Nat.zero_le _,hlen⟩
  ·obtain⟨a,c,e,h1,h2,h3⟩:=ht;refine⟨a,c,e,h1,h2,fun j hj=>?_⟩;obtain⟨lb,lo,ea,_,c0,c1,c2⟩:=h3 j hj;have hlt:=World.block_lt_of_cell? w _ c0;have:=gA0.size;exact⟨lb,lo,ea,by simp at hlt;omega,Am hA (Am gA0 c0),Am hA (Am gA0 c1),Am hA (Am gA0 c2)⟩
  ·obtain⟨a,c,e,h1,h2,h3⟩:=hS;refine⟨a,c,e,h1,h2,fun j hj=>?_⟩;obtain⟨lb,lo,ea,_,c0⟩:=h3 j hj;have hlt:=World.block_lt_of_cell? wA _ c0;exact⟨lb,lo,ea,hlt,Am hA c0⟩
 have hWd:SRow (wA.alloc (.cells [.slice ta l.length tc,.int .i64 0,.slice wa wordsL.length wc,.slice none 0 0].toArray 118 (0,0))) (.slice wa wordsL.length wc) wordsL (fun g=>w.heap.size≤g∧g<wA.heap.size):=by
  obtain⟨a,c,e,h1,h2,h3⟩:=hS;refine⟨a,c,e,h1,h2,fun j hj=>?_⟩;obtain⟨lb,lo,ea,hge,c0⟩:=h3 j hj;have hlt:=World.block_lt_of_cell? wA _ c0;exact⟨lb,lo,ea,⟨by simp at hge;omega,hlt⟩,Am hA c0⟩
 have gB:=Ah gA0 hA;have hsA:=gA.size;simp at hsA;have hR2:=(hR.gb gA Ae).gb hA Ae;go_wp2_with fail;refine(hrule _ _ _ gB Ab hPar hWd).mono ?_;rintro e w2 ⟨g2,hu,h2⟩;have hR3:=g2.blk hR2 Ab Ab;have gC:=Grown2.gb gB g2 Ab;cases hM:M with
 |out=>rw[hM]at h2;exact h2.elim
 | bad q=>
   rw[hM]at h2;subst h2;have dI{P}(h:P:=by have hc:=((hR3.set 0 (.int .i64 q)).alloc (.cells #[.int .i64 q] 115 (0,0))).cell 0;refine⟨.int .i64 q,by simp[results,results54,go_sem,hc],rfl,Ar (A7 gC _ _ (.inr (Nat.le_refl _))) _,hU _ _ _ hu (Ar (A7 (Aj _ (some w.heap.size)) _ _ (.inl rfl)) _) (Nat.le_refl _),by simp⟩):=Aa h;exact T6
 | ok a j=>
   rw[hM]at h2;obtain⟨rfl,hVa,c1⟩:=h2;by_cases hj:j<l.length
   ·go_wp2_with fail;refine(I1 c1).mono ?_;rintro e w3 ⟨rfl,rfl⟩;have dI{P}(h:P:=by have hc:=((hR3.set 0 (.int .i64 j)).alloc (.cells #[.int .i64 j] 115 (0,0))).cell 0;refine⟨.int .i64 j,by simp[results,results54,go_sem,hc],by simp[Ca,hj],Ar (A7 gC _ _ (.inr (Nat.le_refl _))) _,hU _ _ _ hu (Ar (A7 (Aj _ (some w.heap.size)) _ _ (.inl rfl)) _) (Nat.le_refl _),?_⟩;rintro a' j' ⟨⟩;exact⟨_,gB.size,hV _ _ _ _ _ hVa (Ar (A7 (Aj _ (some w.heap.size)) _ _ (.inl rfl)) _) (Nat.le_refl _) Ag⟩):=Aa h;exact T6
   ·have hc0:=hR3.cell 0;have hf0:=hR3.frozen 0;simp only[List.getElem?_cons_zero]at hc0;go_wp2;refine leaves_cons (f:=85) (args:=#[.pointer (some ⟨w.heap.size,0,none⟩)]) Ae (by simp[go_sem]) ?_;refine(p4 ⟨w.heap.size,0,none⟩ _).mono ?_;rintro e u' w3 ⟨rfl,rfl,rfl⟩;have hc:=(hR3.set 0 (.int .i64 (-1))).cell 0;refine⟨.int .i64 (-1),by simp[results,results54,go_sem,hc],by simp[Ca,hM,hj],A7 gC _ _ (.inr (Nat.le_refl _)),hU _ _ _ hu (A7 (Aj _ (some w.heap.size)) _ _ (.inl rfl)) (Nat.le_refl _),?_⟩;rintro a' j' e';rw[hM]at e';cases e';exact⟨_,gB.size,hV _ _ _ _ _ hVa (A7 (Aj _ (some w.heap.size)) _ _ (.inl rfl)) (Nat.le_refl _) Ag⟩):=Aa h
 exact Lt
def C8(l:List Tok)(day:Bs→Int)(n:Nat):Res Ex:=(Aw l day n 0).bind fun x i=>(BP l i).bind fun _ j=> .ok x j
def HoldsE(k B:Nat)(w:World)(x:Ex):Prop:=∃pa pc la lc,Blk w k (hdC x.h (.slice pa x.h.p.length pc) (.slice la x.kids.len lc)) 29∧
 Cells w (.slice pa x.h.p.length pc) 1 x.h.p.length (x.h.p.map str) (Ap B)∧RepL (Ap B) w (.slice la x.kids.len lc) x.kids
def SomeE(k:Nat)(w:World):Prop:=∃h pa pn pc la ln lc,Blk w k (hdC h (.slice pa pn pc) (.slice la ln lc)) 29
theorem SomeE.gb{k:Nat}{w w1:World}{r:Option Nat}(h:SomeE k w)(g:w.grownBy w1 r)(h1:r≠some k):SomeE k w1:=by
 obtain⟨h,pa,pn,pc,la,ln,lc,hb⟩:=h;exact⟨h,pa,pn,pc,la,ln,lc,hb.gb g (fun e=>h1 e.symm)⟩
theorem HoldsE.gb{k B:Nat}{w w1:World}{x:Ex}{r:Option Nat}(h:HoldsE k B w x)(g:w.grownBy w1 r)(h1:r≠some k)(h2:∀q,r=some q→q<B):HoldsE k B w1 x:=by
 obtain⟨pa,pc,la,lc,hb,hp,hl⟩:=h;have hk:∀q,Ap B q→q<w.heap.size→some q≠r:=fun q hq _ e=>by have:=h2 q e.symm;simp at hq;omega
 exact⟨pa,pc,la,lc,hb.gb g (fun e=>h1 e.symm),hp.gb g hk,hl.gb g hk⟩
theorem TRow.mono{w:World}{v:Value}{l:List Tok}{ok ok':Nat→Prop}(h:TRow w v l ok)(hk:∀k,ok k→k<w.heap.size→ok' k):TRow w v l ok':=by
 obtain⟨a,cap,e,h1,h2,h3⟩:=h;refine⟨a,cap,e,h1,h2,fun j hj=>?_⟩;obtain⟨lb,lo,ea,ho,c0,c1,c2⟩:=h3 j hj;exact⟨lb,lo,ea,hk _ ho (World.block_lt_of_cell? w _ c0),c0,c1,c2⟩
theorem SRow.mono{w:World}{v:Value}{l:List Bs}{ok ok':Nat→Prop}(h:SRow w v l ok)(hk:∀k,ok k→k<w.heap.size→ok' k):SRow w v l ok':=by
 obtain⟨a,cap,e,h1,h2,h3⟩:=h;refine⟨a,cap,e,h1,h2,fun j hj=>?_⟩;obtain⟨lb,lo,ea,ho,c0⟩:=h3 j hj;exact⟨lb,lo,ea,hk _ ho (World.block_lt_of_cell? w _ c0),c0⟩
theorem vK{w:World}{b k:Nat}{tv wv:Value}{l:List Tok}{wl:List Bs}{day:Bs→Int}(hl:FO day l)(n:Nat)(hp:Par w b tv wv l wl 0)(hk:Blk w k zeroE 29)(hkb:k<b)
 (ht:TRow w tv l (· < k)) (hs:SRow w wv wl (fun g=>k<g∧g<b)) (ho:C8 l day n ≠ .out):
 Calls Tryz.prog 55 #[.pointer (some ⟨b,0,none⟩),.pointer (some ⟨k,0,none⟩)] w (P7 b k w (SomeE k) (HoldsE k) (C8 l day n)):=by
 have hE:=VV (b:=b) (tv:=tv) (wv:=wv) (wl:=wl) hl n;generalize hR:C8 l day n=R at*;have HQ:=Z hR;rw[C8]at HQ;have H:=Z (Ac hE ho);clear hE ho hR hl;have hb:=hp.lt;go_enter func55,ntmps55;go_wp2_with fail;refine(H.out.1 _ _ hp (fun e=>H.out.2 B8)).mono ?_;intro e w1 hq;obtain⟨g,⟨q,hr,rfl⟩| ⟨x,j,v,hr,rfl,⟨pa,pc,la,lc,rfl,rp,rl⟩,hp⟩⟩:=hq.split
 ·have e1:R= .bad q:=by rw[←HQ.out,hr];rfl
  subst e1;exact⟨rfl,Grown2.of g (.inr (.inl rfl)),⟨hd0 0 [],none,0,0,none,0,0,hk.gb g Ag⟩,rfl⟩
 replace HQ:=HQr HQ DU;clear hr;replace hk:=hk.gb g Ag;replace ht:=ht.gb g (by intro q hq e;cases e;have:b<k:=hq;omega);replace hs:=hs.gb g (by intro q hq e;cases e;have:=hq.2;omega);have hb1:=g.size;have g7:=AD w1 k (.int .i64 x.h.op) (str x.h.s) (.int .i64 x.h.vk) (.int .i64 x.h.vn) (str x.h.vs) (.slice pa x.h.p.length pc) (.slice la x.kids.len lc);have hk7:=hk.set7 (.int .i64 x.h.op) (str x.h.s) (.int .i64 x.h.vk) (.int .i64 x.h.vn) (str x.h.vs) (.slice pa x.h.p.length pc) (.slice la x.kids.len lc);have hok:∀q,Ap w.heap.size q→q<w1.heap.size→some q≠some k:=fun q hq _ e=>by simp at hq;cases e;omega
 have hX:=Z (Ac (rp.gb g7 hok) (rl.gb g7 hok));have hp7:Par (set7 w1 k (.int .i64 x.h.op) (str x.h.s) (.int .i64 x.h.vk) (.int .i64 x.h.vn) (str x.h.vs) (.slice pa x.h.p.length pc) (.slice la x.kids.len lc)) b tv wv l wl j:=
  ⟨hp.blk.gb g7 Ag,(ht.gb g7 (by intro q hq e;cases e;have:k<k:=hq;omega)).mono (fun q hq _=>by have:q<k:=hq;omega),(hs.gb g7 (by intro q hq e;cases e;have:=hq.1;omega)).mono (fun q hq _=>hq.2),hp.le,hp.few⟩
 have gX:Grown2 w (set7 w1 k (.int .i64 x.h.op) (str x.h.s) (.int .i64 x.h.vk) (.int .i64 x.h.vn) (str x.h.vs) (.slice pa x.h.p.length pc) (.slice la x.kids.len lc)) b k:=(Grown2.of g (.inr (.inl rfl))).trans (Grown2.of g7 (.inr (.inr rfl)));clear rp rl hp ht hs;obtain⟨cl_0,cl_1,cl_2,cl_3,cl_4,cl_5,cl_6,cl_f⟩:=(hk).c7;go_wp2_with fail;refine(Gb hp7).mono ?_;intro e w2 hq;obtain⟨g2,⟨q,hr,rfl⟩| ⟨_,j2,v,hr,rfl,rfl,hp⟩⟩:=hq.split
 ·have e1:R= .bad q:=by rw[←HQ.out,hr];rfl
  subst e1;exact⟨rfl,gX.trans (Grown2.of g2 (.inr (.inl rfl))),⟨x.h,_,_,_,_,_,_,hk7.gb g2 Ag⟩,rfl⟩
 have e1:R= .ok x j2:=DT;subst e1;have hk8:=hk7.gb g2 Ag;have hok2:∀q,Ap w.heap.size q→q<(set7 w1 k (.int .i64 x.h.op) (str x.h.s) (.int .i64 x.h.vk) (.int .i64 x.h.vn) (str x.h.vs) (.slice pa x.h.p.length pc) (.slice la x.kids.len lc)).heap.size→some q≠some b:=fun q hq _ e=>by simp at hq;cases e;omega
 go_wp2;have hX2:=Ac (hX.out.1.gb g2 hok2) (hX.out.2.gb g2 hok2);exact⟨rfl,.tuple #[],by simp[results,results55,go_sem],gX.trans (Grown2.of g2 (.inr (.inl rfl))),⟨x.h,_,_,_,_,_,_,hk8⟩,rfl,⟨pa,pc,la,lc,hk8,hX2.1,hX2.2⟩,hp.c1⟩
theorem yV(k:Nat)(v:Value)(w:World):(callFunc 55 (#[v]++#[.pointer (some ⟨k,0,none⟩)])).run Tryz.prog w= .ok (.enter 55 (#[v]++#[.pointer (some ⟨k,0,none⟩)])) w:=Bk
def wI(l:List Tok)(w:World)(M:Res Ex)(e:Ending)(w':World):Prop:=
 ∃h pa pn pc la ln lc,e= .returned (.tuple #[exV h (.slice pa pn pc) (.slice la ln lc),.int .i64 (Ca l M)])∧w.grownBy w' none∧
  ∀x j,M= .ok x j→VE (Ap w.heap.size) w' (exV h (.slice pa pn pc) (.slice la ln lc)) x
theorem zK{w:World}(hg:Glob w){tv:Value}{l:List Tok}{day:Bs→Int}(hl:FO day l)(ht:TRow w tv l (fun _=>True))(hlen:l.length≤4001)(n:Nat)(ho:C8 l day n ≠ .out):
 Calls Tryz.prog 24 #[tv] w (wI l w (C8 l day n)):=by
 have LC{P}(h:P:=by
 have g0:w.grownBy ((w.alloc (.cells zeroE.toArray 29 (0,0))).alloc (.cells zeroE.toArray 29 (0,0))) none:=Ar (World.grownBy_alloc w _ none) _;have hz:=(Blk.new w zeroE 29).alloc (.cells zeroE.toArray 29 (0,0));have hk:=Blk.new (w.alloc (.cells zeroE.toArray 29 (0,0))) zeroE 29;replace hk:=hk.of_eq (k':=w.heap.size+1) Ae rfl;have ht0:=(ht.mono (ok':=fun g=>g<w.heap.size) (fun k _ h=>h)).gb g0 Ae;have hg0:=hg.gb g0 Ae;have hk0:=hk.lt;have hw0:0<w.heap.size:=by
  exact Z3
 have H:=Z (Ac hl ho);clear hl ho hg;go_enter func24,ntmps24;go_wp2_with fail;refine(Xd (k:=w.heap.size+1) hg0 (ht0.mono (fun _ _ _=>trivial)) hlen 55 #[.pointer (some ⟨w.heap.size+1,0,none⟩)] (yV _) (C8 l day n) hk0 (SomeE (w.heap.size+1)) ?_ (HoldsE (w.heap.size+1)) ?_ ?_).mono ?_
 ·intro w2 w3 r h g hr;exact h.gb g (by simp;simp at hr;omega)
 ·intro B w2 w3 a r h g hr hB;exact h.gb g (by simp;simp at hr;omega) (by intro q e;cases e;exact hB)
 ·intro w1 b wv g1 hb1 hp hs;refine vK H.out.1 n hp (hk.gb g1 Ae) (by simp at hb1;omega) ((ht0.gb g1 Ae).mono (fun q hq _=>by have:q<w.heap.size:=hq;omega)) (hs.mono (fun q hq _=>⟨by have:=hq.1;simp at this;omega,hq.2⟩)) H.out.2
 rintro e w1 ⟨rfl,g1,⟨h,pa,pn,pc,la,ln,lc,hB⟩,hV⟩;have hz1:=hz.gb g1 Ae;obtain⟨cl_0,cl_1,cl_2,cl_3,cl_4,cl_5,cl_6,cl_f⟩:=(hB).c7;obtain⟨cz_0,cz_1,cz_2,cz_3,cz_4,cz_5,cz_6,cz_f⟩:=(hz1).c7;have hltz:=hz1.lt;go_wp2;have g7:=AD w1 w.heap.size (.int .i64 h.op) (str h.s) (.int .i64 h.vk) (.int .i64 h.vn) (str h.vs) (.slice pa pn pc) (.slice la ln lc);have hW:=hz1.set7 (.int .i64 h.op) (str h.s) (.int .i64 h.vk) (.int .i64 h.vn) (str h.vs) (.slice pa pn pc) (.slice la ln lc);simp only[set7]at hW g7;generalize(((((((w1.setCell {block:=w.heap.size,off:=0} (.int .i64 h.op)).setCell {block:=w.heap.size,off:=1} (str h.s)).setCell {block:=w.heap.size,off:=2} (.int .i64 h.vk)).setCell {block:=w.heap.size,off:=3} (.int .i64 h.vn)).setCell {block:=w.heap.size,off:=4} (str h.vs)).setCell {block:=w.heap.size,off:=5} (.slice pa pn pc)).setCell {block:=w.heap.size,off:=6} (.slice la ln lc))=W at*;obtain⟨dl_0,dl_1,dl_2,dl_3,dl_4,dl_5,dl_6,dl_f⟩:=(hW).c7;refine bodyPost_ret (v:= .tuple #[exV h (.slice pa pn pc) (.slice la ln lc),.int .i64 (Ca l (C8 l day n))]) ?_ rfl ⟨h,pa,pn,pc,la,ln,lc,rfl,?_,?_⟩
 ·simp[results,results24,go_sem,dl_0,dl_1,dl_2,dl_3,dl_4,dl_5,dl_6]
 ·exact A5 (A5 g0 g1 (.inr Ab)) g7 (.inr (Nat.le_refl _))
 ·intro x j e;obtain⟨B,hB',pa',pc',la',lc',hb',rp,rl⟩:=hV x j e;have hok:∀q,Ap B q→q<w1.heap.size→some q≠some w.heap.size:=fun q hq _ e=>by simp at hB' hq;cases e;omega
  have hok2:∀q,Ap B q→q<W.heap.size→Ap w.heap.size q:=fun q hq _=>by simp at hB' hq ⊢;omega
  have e1:(hdC x.h (.slice pa' x.h.p.length pc') (.slice la' x.kids.len lc')).toArray=(hdC h (.slice pa pn pc) (.slice la ln lc)).toArray:=by
   have e2:=hb'.symm.trans hB;injection e2 with e2
   injection e2
  have e3:exV h (.slice pa pn pc) (.slice la ln lc)=exV x.h (.slice pa' x.h.p.length pc') (.slice la' x.kids.len lc'):=by rw[show exV h _ _= .agg (hdC h (.slice pa pn pc) (.slice la ln lc)).toArray from rfl,←e1];rfl
  rw[e3];exact⟨pa',pc',la',lc',rfl,(rp.gb g7 hok).mono hok2,(rl.gb g7 hok).mono hok2⟩):=Aa h
 exact Lt
end Go.Proofs.YtmcajbhljbbglaaGreatDoor
