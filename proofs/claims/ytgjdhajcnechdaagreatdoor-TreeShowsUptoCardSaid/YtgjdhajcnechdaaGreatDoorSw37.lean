/-
  The reference's writer in memory; put, sign, blank. The reference's writer: names, text. isText, isConst, isExpr.
-/
import Derived.Test.YtgjdhajcnechdaaGreatDoorSw34
import Derived.Test.YtgjdhajcnechdaaGreatDoorSw23
import Derived.Deep.AppendLies
import Derived.Test.YtgjdhajcnechdaaGreatDoorSw31
import Derived.Test.YtgjdhajcnechdaaGreatDoorSw21
import Derived.Test.YtgjdhajcnechdaaGreatDoorSw14
import Derived.Test.YtgjdhajcnechdaaGreatDoorSw16
set_option linter.all false
set_option maxRecDepth 100000
set_option maxHeartbeats 8000000
namespace Go.Proofs.YtgjdhajcnechdaaGreatDoor
open Go.Proofs.Tryz
open Go.RowKit
structure WK(w w':World)(b:Nat)(ov ov':Value):Prop where
 os:w'.os=w.os
 tape:w'.tape=w.tape
 output:w'.output=w.output
 size:w.heap.size≤w'.heap.size
 block:∀k,k<w.heap.size→k≠b→ov.ownBlock≠some k→w'.heap[k]? =w.heap[k]?
 own:∀k,ov'.ownBlock=some k→ov.ownBlock=some k∨w.heap.size≤k
section
variable {w w1 w2:World}{b:Nat}{ov ov1 ov2:Value}
theorem WK.refl:WK w w b ov ov:=⟨rfl,rfl,rfl,Nat.le_refl _,fun _ _ _ _=>rfl,fun _ h=> .inl h⟩
theorem WK.trans(h:WK w w1 b ov ov1)(k:WK w1 w2 b ov1 ov2):WK w w2 b ov ov2:=
 ⟨k.os.trans h.os,k.tape.trans h.tape,k.output.trans h.output,Nat.le_trans h.size k.size,fun i hi h1 h2=>(k.block i (Nat.lt_of_lt_of_le hi h.size) h1 (fun e=>by
  rcases h.own i e with h3|h3
  ·exact h2 h3
  ·omega)).trans (h.block i hi h1 h2),fun i hi=>by
  rcases k.own i hi with h3|h3
  ·exact h.own i h3
  ·exact .inr (Nat.le_trans h.size h3)⟩
theorem WK.of_none(g:w.grownBy w1 none):WK w w1 b ov ov:=⟨g.os,g.tape,g.output,g.size,fun i hi _ _=>g.block i hi (by simp),fun _ h=> .inl h⟩
theorem WK.of_b(g:w.grownBy w1 (some b)):WK w w1 b ov ov:=⟨g.os,g.tape,g.output,g.size,fun i hi h _=>g.block i hi (by simpa using h),fun _ h=> .inl h⟩
theorem WK.of_own(g:w.grownBy w1 ov.ownBlock)(hn:∀k,ov1.ownBlock=some k→ov.ownBlock=some k∨w.heap.size≤k):WK w w1 b ov ov1:=⟨g.os,g.tape,g.output,g.size,fun i hi _ h=>g.block i hi (fun e=>h e.symm),hn⟩
theorem WK.gbN(h:WK w w1 b ov ov1)(g:w1.grownBy w2 none):WK w w2 b ov ov1:=h.trans (WK.of_none g)
theorem WK.gbB(h:WK w w1 b ov ov1)(g:w1.grownBy w2 (some b)):WK w w2 b ov ov1:=h.trans (WK.of_b g)
theorem WK.pre(g:w.grownBy w1 none)(h:WK w1 w2 b ov ov1):WK w w2 b ov ov1:=(WK.of_none g).trans h
theorem WK.blk(h:WK w w1 b ov ov1){k:Nat}{cs:List Value}{t:TypeId}(hb:Blk w k cs t)(h1:k≠b)(h2:ov.ownBlock≠some k):Blk w1 k cs t:=(h.block k hb.lt h1 h2).trans hb
theorem WK.cell(h:WK w w1 b ov ov1){k i:Nat}{v:Value}(c:w.cell? ⟨k,i,none⟩=some v)(h1:k≠b)(h2:ov.ownBlock≠some k):w1.cell? ⟨k,i,none⟩=some v:=by
 have hl:=World.block_lt_of_cell? _ _ c;unfold World.cell? at*;rw[h.block k hl h1 h2];exact c
theorem WK.gb_of(h:WK w w1 b ov ov1){w0:World}(g:w0.grownBy w none)(hb:w0.heap.size≤b)(ho:∀k,ov.ownBlock=some k→w0.heap.size≤k):w0.grownBy w1 none:=
 ⟨h.os.trans g.os,h.tape.trans g.tape,h.output.trans g.output,Nat.le_trans g.size h.size,fun i hi _=>(h.block i (Nat.lt_of_lt_of_le hi g.size) (by omega) (fun e=>by have:=ho i e;omega)).trans (g.block i hi (by simp))⟩
end
theorem Cells.kept{w w1:World}{b:Nat}{ov ov1:Value}(h:WK w w1 b ov ov1)(ho:∀k,ov.ownBlock=some k→b<k){v:Value}{size n:Nat}{cs:List Value}(hc:Cells w v size n cs (fun g=>g<b)):Cells w1 v size n cs (fun g=>g<b):=by
 obtain⟨a,cap,e,h1,h2,h3,h4⟩:=hc;refine⟨a,cap,e,h1,h2,h3,fun j u hj=>?_⟩;obtain⟨gg,o,ea,hk,hcc⟩:=h4 j u hj;exact⟨gg,o,ea,hk,h.cell hcc (by omega) (fun e=>by have:=ho _ e;omega)⟩
theorem RepF.kept{w w1:World}{b:Nat}{ov ov1:Value}(h:WK w w1 b ov ov1)(ho:∀k,ov.ownBlock=some k→b<k):∀{f:Fo}{cs:List Value},RepF (fun g=>g<b) w f cs→RepF (fun g=>g<b) w1 f cs:=by
 intro f;induction f with
 |nil=>intro cs h;exact h
 | cons hd kids next ih1 ih2=>
   rintro cs ⟨pv,lv,kcs,rest,e,h1,h2,h3,h4⟩;exact⟨pv,lv,kcs,rest,e,h1.kept h ho,h2.kept h ho,ih1 h3,ih2 h4⟩
theorem RepL.kept{w w1:World}{b:Nat}{ov ov1:Value}(h:WK w w1 b ov ov1)(ho:∀k,ov.ownBlock=some k→b<k){v:Value}{f:Fo}(hr:RepL (fun g=>g<b) w v f):RepL (fun g=>g<b) w1 v f:=by
 obtain⟨cs,h1,h2⟩:=hr;exact⟨cs,h1.kept h ho,h2.kept h ho⟩
structure Ww(w:World)(b:Nat)(out:Bs)(pre:List Tok)(wrong:Bool)(ov:Value):Prop where
 blk:Blk w b [str out,ov,.bool wrong] 81
 row:w.ownsRow (b+1) 105 3 ov pre.length (BC pre)
section
variable {w w1:World}{b:Nat}{out:Bs}{pre:List Tok}{wrong:Bool}{ov:Value}
theorem Ww.lt(h:Ww w b out pre wrong ov):b<w.heap.size:=h.blk.lt
theorem Ww.own(h:Ww w b out pre wrong ov):∀k,ov.ownBlock=some k→b<k∧k<w.heap.size:=fun k e=>by have:=h.row.lt k e;omega
theorem Ww.gbN(h:Ww w b out pre wrong ov)(g:w.grownBy w1 none):Ww w1 b out pre wrong ov:=⟨h.blk.gb g (by simp),h.row.kept g (by cases ov.ownBlock with|none=>exact .inl rfl|some _=>exact .inr (by simp))⟩
theorem Ww.c0(h:Ww w b out pre wrong ov):w.cell? ⟨b,0,none⟩=some (str out):=h.blk.cell 0
theorem Ww.c1(h:Ww w b out pre wrong ov):w.cell? ⟨b,1,none⟩=some ov:=h.blk.cell 1
theorem Ww.c2(h:Ww w b out pre wrong ov):w.cell? ⟨b,2,none⟩=some (.bool wrong):=h.blk.cell 2
theorem Ww.fr(h:Ww w b out pre wrong ov)(k:Nat):w.frozen? ⟨b,k,none⟩=false:=h.blk.frozen k
theorem Ky(h:w.ownsRow (b+1) 105 3 ov pre.length (BC pre))(g:w.grownBy w1 (some b)):w1.ownsRow (b+1) 105 3 ov pre.length (BC pre):=
 C2 h g (by intro k hk _ e;cases e;omega)
theorem Ww.setOut(h:Ww w b out pre wrong ov)(s:Bs):Ww (w.setCell ⟨b,0,none⟩ (str s)) b s pre wrong ov:=
 ⟨(h.blk.set 0 _).of_eq rfl rfl,Ky h.row (AH (Ac w (some b)) 0 _)⟩
theorem Ww.setWrong(h:Ww w b out pre wrong ov):Ww (w.setCell ⟨b,2,none⟩ (.bool true)) b out pre true ov:=
 ⟨(h.blk.set 2 _).of_eq rfl rfl,Ky h.row (AH (Ac w (some b)) 2 _)⟩
theorem Ww.append{t:Tok}{g cap:Nat}(h:Ww w b out pre wrong ov)(hO:w1.ownsRow (b+1) 105 3 (.slice (some ⟨g,0,none⟩) (pre.length+1) cap) (pre.length+1) (BC pre++CL t))
 (hG:w.grownBy w1 ov.ownBlock) (hat:ov.ownBlock=some g∨g=w.heap.size):Ww (w1.setCell ⟨b,1,none⟩ (.slice (some ⟨g,0,none⟩) (pre.length+1) cap)) b out (pre++[t]) wrong (.slice (some ⟨g,0,none⟩) (pre.length+1) cap)∧
  WK w (w1.setCell ⟨b,1,none⟩ (.slice (some ⟨g,0,none⟩) (pre.length+1) cap)) b ov (.slice (some ⟨g,0,none⟩) (pre.length+1) cap):=by
 have hne:some b≠ov.ownBlock:=fun e=>by have:=(h.row.lt _ e.symm).1;omega
 have hb:=h.blk.gb hG hne;refine⟨⟨(hb.set 1 _).of_eq rfl rfl,?_⟩,(WK.of_own (ov1:= .slice (some ⟨g,0,none⟩) (pre.length+1) cap) hG ?_).gbB (AH (Ac w1 (some b)) 1 _)⟩
 ·rw[Iu,List.length_append];exact C2 hO (AH (Ac w1 (some b)) 1 _) (by intro q hq _ e;cases e;omega)
 ·intro k hk;simp[Value.ownBlock]at hk;subst hk;rcases hat with h1|h1
  ·exact .inl h1
  ·exact .inr (by omega)
def WPut(w:World)(b:Nat)(out:Bs)(pre:List Tok)(wrong:Bool)(ov:Value)(e:Ending)(w':World):Prop:=
 e= .returned (.tuple #[])∧∃ov',Ww w' b out pre wrong ov'∧WK w w' b ov ov'
theorem Dk(h:Ww w b out pre wrong ov)(k:Int)(t sh:Bs)(hc:pre.length≤10000000)(ho:out.length+sh.length≤1000000000000000):
 Calls Tryz.prog 132 #[.pointer (some ⟨b,0,none⟩),.int .i64 k,str t,str sh] w (WPut w b (out++sh) (pre++[⟨k,0,t⟩]) wrong ov):=by
 have hb:=h.lt;obtain⟨i0,hi,hz0,hz1,hz2⟩:=info_parts JB;have HI:=O (Z hi (Z hz0 (Z hz1 hz2)));have c1:=h.c1;have HH:=O (h.gbN (World.grownBy_alloc w (.cells (CL ⟨k,0,t⟩).toArray 105 (0,0)) none));have hcl:¬(9223372036854775807<out.length+sh.length):=by omega
 clear hi hz0 hz1 hz2 h;go_enter func132,ntmps132;go_wp2_with (at_builtin;go_loud(refine wpList_append_lies _ rfl _ _ 71 rfl (b+1) 105 i0 _ 3 32 underlying71 HI.out.1 HI.out.2.1 HI.out.2.2.1 HI.out.2.2.2 rfl (by decide) ov pre.length (BC pre) rfl HH.out.row ⟨w.heap.size,0,none⟩ 1 1 (CL ⟨k,0,t⟩) rfl rfl (BZ _ _ _) (by simp[CL,Value.oneCell']) (by decide) (by unfold maxLen;omega) (by omega) (by simp;omega) _ rfl ?_;intro g cap w2 hown hgrow hat hlt;(have hX:=HH.out.append hown hgrow hat);(have HX:=O hX);(have hb1:=(HH.out.blk).gb hgrow (fun e=>by have:=(HH.out.row.lt _ e.symm).1;omega));(have f1:=hb1.frozen 1);(have f0:=hb1.frozen 0);(have d0:=hb1.cell 0);(have d1:=hb1.cell 1);(have hl2:=hb1.lt);clear hown hgrow hX hat hb1));go_end0;rw[Dh];exact⟨rfl,_,HX.out.1.setOut (out++sh),(WK.pre (World.grownBy_alloc w _ none) HX.out.2).gbB (AH (Ac _ (some b)) 0 _)⟩
end
def WrOk(m:OW)(pre:List Tok)(out:Bs)(wrong:Bool)(pre':List Tok)(out':Bs)(wrong':Bool):Prop:=match m with
 |some x=>pre'=pre++x.1∧out'=out++x.2∧wrong'=wrong
 |none=>wrong'=true
structure Wr(m:OW)(n k:Nat)(pre:List Tok)(out:Bs)(wrong:Bool)(pre':List Tok)(out':Bs)(wrong':Bool):Prop where
 ok:WrOk m pre out wrong pre' out' wrong'
 np:pre'.length≤pre.length+n
 nk:out'.length≤out.length+k
section
variable {m m2:OW}{n k n2 k2:Nat}{pre pre1 pre2:List Tok}{out out1 out2:Bs}{wrong wrong1 wrong2:Bool}
theorem Wr.nil:Wr (some ([],[])) 0 0 pre out wrong pre out wrong:=⟨⟨by simp,by simp,rfl⟩,Nat.le_refl _,Nat.le_refl _⟩
theorem Wr.cat(h:Wr m n k pre out wrong pre1 out1 wrong1)(h2:Wr m2 n2 k2 pre1 out1 wrong1 pre2 out2 wrong2):Wr (Av m m2) (n+n2) (k+k2) pre out wrong pre2 out2 wrong2:=by
 have a1:=h.np;have a2:=h.nk;have a3:=h2.np;have a4:=h2.nk;refine⟨?_,by omega,by omega⟩;have o1:=h.ok;have o2:=h2.ok;unfold WrOk at*;cases m with
 | none=>
   cases m2 with
   |none=>exact o2
   |some y=>exact o2.2.2.trans o1
 | some x=>
   cases m2 with
   |none=>exact o2
   | some y=>
     obtain⟨rfl,rfl,rfl⟩:=o1;obtain⟨rfl,rfl,rfl⟩:=o2;exact⟨by simp[List.append_assoc],by simp[List.append_assoc],rfl⟩
theorem Wr.le(h:Wr m n k pre out wrong pre1 out1 wrong1)(hn:n≤n2)(hk:k≤k2):Wr m n2 k2 pre out wrong pre1 out1 wrong1:=⟨h.ok,by have:=h.np;omega,by have:=h.nk;omega⟩
theorem Wr.of_eq(h:Wr m n k pre out wrong pre1 out1 wrong1)(e:m=m2):Wr m2 n k pre out wrong pre1 out1 wrong1:=e ▸ h
theorem Wr.one(t:Tok)(s:Bs):Wr (some ([t],s)) 1 s.length pre out wrong (pre++[t]) (out++s) wrong:=⟨⟨rfl,rfl,rfl⟩,by simp,by simp⟩
theorem Wr.bad(h1:pre1.length≤pre.length+n)(h2:out1.length≤out.length+k):Wr none n k pre out wrong pre1 out1 true:=⟨rfl,h1,h2⟩
end
def WPost(m:OW)(n k:Nat)(w:World)(b:Nat)(out:Bs)(pre:List Tok)(wrong:Bool)(ov:Value)(e:Ending)(w':World):Prop:=
 e= .returned (.tuple #[])∧∃out' pre' wrong' ov',Ww w' b out' pre' wrong' ov'∧WK w w' b ov ov'∧Wr m n k pre out wrong pre' out' wrong'
section
variable {w w1:World}{b:Nat}{out:Bs}{pre:List Tok}{wrong:Bool}{ov:Value}
theorem Br(h:Ww w b out pre wrong ov)(s:Bs)(hc:pre.length≤10000000)(ho:out.length+s.length≤1000000000000000):
 Calls Tryz.prog 81 #[.pointer (some ⟨b,0,none⟩),str s] w (WPost (sgn s) 1 s.length w b out pre wrong ov):=by
 have H:=O (Dk h 4 s s hc ho);clear h;go_enter func81,ntmps81;go_wp2_with fail;refine H.out.mono ?_;rintro e w1 ⟨rfl,ov1,h1,k1⟩;go_wp2;go_end0;exact⟨rfl,_,_,_,_,h1,k1,Wr.one _ _⟩
theorem EG(h:Ww w b out pre wrong ov)(ho:out.length≤1000000000000000):
 Calls Tryz.prog 84 #[.pointer (some ⟨b,0,none⟩)] w (WPost Bb 0 1 w b out pre wrong ov):=by
 have hb:=h.lt;have c0:=h.c0;have f0:=h.fr 0;have hcl:¬(9223372036854775807<out.length+1):=by omega
 have HH:=O h;clear h;go_enter func84,ntmps84;go_wp2;go_end0;rw[show Value.string ({data:=List.toArray out}++{data:=#[32]})=str (out++[32])from Dh out [32]];exact⟨rfl,_,_,_,_,HH.out.setOut (out++[32]),WK.of_b (AH (Ac _ (some b)) 0 _),⟨⟨by simp,rfl,rfl⟩,by simp,by simp⟩⟩
theorem D4(h:Ww w b out pre wrong ov)(s:Bs)(hs:s.length≤2000000)(hc:pre.length≤10000000)(ho:out.length+s.length≤1000000000000000):
 Calls Tryz.prog 79 #[.pointer (some ⟨b,0,none⟩),str s] w (WPost (nmW s) 1 s.length w b out pre wrong ov):=by
 have hb:=h.lt;have HN:=O (Mt s (by omega) w);have HH:=O h;have HC:=O (Z hc ho);clear h;cases hn:An s with
 | true=>
   rw[hn]at HN;have HM:=O (show nmW s=some ([wd s],s)by unfold nmW;rw[if_pos hn]);clear hn;go_enter func79,ntmps79;go_wp2_with fail;refine HN.out.mono ?_;rintro e w1 ⟨rfl,g1⟩;go_wp2_with fail;refine(Dk (HH.out.gbN g1) 0 s s HC.out.1 HC.out.2).mono ?_;rintro e w2 ⟨rfl,ov2,h2,k2⟩;go_wp2;go_end0;exact⟨rfl,_,_,_,_,h2,k2.pre g1,(Wr.one _ _).of_eq HM.out.symm⟩
 | false=>
   rw[hn]at HN;have HM:=O (show nmW s=none by unfold nmW;rw[if_neg (by rw[hn];simp)]);clear hn;go_enter func79,ntmps79;go_wp2_with fail;refine HN.out.mono ?_;rintro e w1 ⟨rfl,g1⟩;have h1:=HH.out.gbN g1;have c2:=h1.c2;have f2:=h1.fr 2;have hb1:=h1.lt;go_wp2_with fail;refine(Dk h1.setWrong 0 s s HC.out.1 HC.out.2).mono ?_;rintro e w2 ⟨rfl,ov2,h2,k2⟩;go_wp2;go_end0;refine⟨rfl,_,_,_,_,h2,((WK.of_none g1).gbB (AH (Ac _ (some b)) 2 _)).trans k2,?_⟩;rw[HM.out];exact Wr.bad (by simp) (by simp)
theorem DN(g:Nat):Calls Tryz.prog 80 #[.pointer (some ⟨b,0,none⟩),.int .i64 g,.int .i64 g] w fun e w'=>e= .returned (.bool true)∧w'=w:=by
 have e1:((g:Int)==(g:Int))=true:=by simp
 have e2:((g:Int) !=(g:Int))=false:=by simp
 go_enter func80,ntmps80;go_wp2;go_ret;exact⟨rfl,rfl⟩
theorem EY(h:Ww w b out pre wrong ov)(g:Nat)(t:Int)(he:(g:Int)≠t):
 Calls Tryz.prog 80 #[.pointer (some ⟨b,0,none⟩),.int .i64 g,.int .i64 t] w fun e w'=>e= .returned (.bool false)∧Ww w' b out pre true ov∧WK w w' b ov ov:=by
 have hb:=h.lt;have c2:=h.c2;have f2:=h.fr 2;have HH:=O h;clear h;have e1:((g:Int)==t)=false:=by simpa using he
 have e2:((g:Int) !=t)=true:=by simpa using he
 clear he;go_enter func80,ntmps80;go_wp2;go_ret;exact⟨rfl,HH.out.setWrong,WK.of_b (AH (Ac _ (some b)) 2 _)⟩
def Ct(i:Nat):OW:=if 0<i then catL [sgn [44],Bb]else some ([],[])
theorem IQ(h:Ww w b out pre wrong ov)(i:Nat)(hc:pre.length≤10000000)(ho:out.length≤900000000000000):
 Calls Tryz.prog 136 #[.pointer (some ⟨b,0,none⟩),.int .i64 i] w (WPost (Ct i) 1 2 w b out pre wrong ov):=by
 have HH:=O h;have HC:=O (Z hc ho);clear h;by_cases hi:0<i
 ·have hI:decide ((0:Int)<(i:Int))=true:=by simp;omega
  have HM:=O (show Ct i=catL [sgn [44],Bb]by unfold Ct;rw[if_pos hi]);go_enter func136,ntmps136;go_wp2_with fail;refine(Br HH.out [44] HC.out.1 (by have:=HC.out.2;simp;omega)).mono ?_;rintro e w1 ⟨rfl,o1,p1,r1,ov1,h1,k1,q1⟩;go_wp2_with fail;refine(EG h1 (by have:=HC.out.2;have:=q1.nk;simp at this;omega)).mono ?_;rintro e w2 ⟨rfl,o2,p2,r2,ov2,h2,k2,q2⟩;go_wp2;go_end0;refine⟨rfl,_,_,_,_,h2,k1.trans k2,?_⟩;rw[HM.out];exact(q1.cat (q2.cat Wr.nil)).le (by simp) (by simp)
 ·have hI:decide ((0:Int)<(i:Int))=false:=by simp;omega
  have HM:=O (show Ct i=some ([],[])by unfold Ct;rw[if_neg hi]);go_enter func136,ntmps136;go_wp2;go_end0;refine⟨rfl,_,_,_,_,HH.out,WK.refl,?_⟩;rw[HM.out];exact Wr.nil.le (by omega) (by omega)
end
theorem Ch(a:OW):Av a (some ([],[]))=a:=by
 unfold Av;cases a with
 |none=>rfl
 |some x=>simp
theorem BR(a:OW):Av (some ([],[])) a=a:=by
 unfold Av;cases a with
 |none=>rfl
 |some x=>simp
theorem Cq(a c d:OW):Av (Av a c) d=Av a (Av c d):=by
 unfold Av;cases a with
 |none=>rfl
 | some x=>
   cases c with
   |none=>rfl
   | some y=>
     cases d with
     |none=>rfl
     |some z=>simp[List.append_assoc]
def CI:Nat→List OW→OW
 |_,[]=>some ([],[])
 |i,a::r=>Av (Ct i) (Av a (CI (i+1) r))
theorem ON(l:List OW):∀i,0<i→CI i l=CG l:=by
 induction l with
 |nil=>intro i _;rfl
 | cons a r ih=>
   intro i hi;have hc:Ct i=catL [sgn [44],Bb]:=by unfold Ct;rw[if_pos hi]
   show Av (Ct i) (Av a (CI (i+1) r))=Av (sgn [44]) (Av Bb (Av a (Av (CG r) (some ([],[])))));rw[ih (i+1) (by omega),hc,Ch];show Av (Av (sgn [44]) (Av Bb (some ([],[])))) _=_;rw[Ch,Cq]
theorem Jb(l:List OW):CI 0 l=AZ l:=by
 cases l with
 |nil=>rfl
 | cons a r=>
   show Av (Ct 0) (Av a (CI 1 r))=Av a (CG r);rw[ON r 1 (by omega),show Ct 0=some ([],[])from rfl,BR]
theorem Jc(acc a:OW)(k:Nat)(r:List OW):Av acc (CI k (a::r))=Av (Av acc (Av (Ct k) a)) (CI (k+1) r):=by
 show Av acc (Av (Ct k) (Av a (CI (k+1) r)))=_;rw[Cq,Cq]
section
variable {w w1:World}{b:Nat}{out:Bs}{pre:List Tok}{wrong:Bool}{ov:Value}
theorem Ww.low(h:Ww w b out pre wrong ov):∀k,ov.ownBlock=some k→b<k:=fun k e=>(h.own k e).1
theorem NE(h:Ww w b out pre wrong ov){pa:Option Addr}{pc:Nat}{l:List Bs}(hp:Cells w (.slice pa l.length pc) 1 l.length (l.map str) (fun g=>g<b))(hf:∀s∈l,s.length≤2000000)(hl:l.length≤2000000)
 (hc:pre.length+2*l.length≤9000000) (ho:out.length+2000002*l.length≤800000000000000):
 Calls Tryz.prog 137 #[.pointer (some ⟨b,0,none⟩),.slice pa l.length pc] w (WPost (AZ (l.map nmW)) (2*l.length) (2000002*l.length) w b out pre wrong ov):=by
 have HB:=O (Z hf (Z hc ho));have H0:=O (Z h hp);clear h hp hf;go_enter func137,ntmps137;go_wp2_with fail;go_loopg [4] l.length (fun g v4 wr=>∃(k:Nat)(rest:List Bs)(acc:OW)(o':Bs)(p':List Tok)(r':Bool)(ov':Value),k+g=l.length∧v4= .int .i64 k∧rest=l.drop k∧AZ (l.map nmW)=Av acc (CI k (rest.map nmW))∧Wr acc (2*k) (2000002*k) pre out wrong p' o' r'∧Ww wr b o' p' r' ov'∧WK w wr b ov ov'∧Cells wr (.slice pa l.length pc) 1 l.length (l.map str) (fun g=>g<b))
 case atStart=>exact⟨0,l,some ([],[]),out,pre,wrong,ov,by omega,rfl,rfl,by rw[BR,Jb],Wr.nil,H0.out.1,WK.refl,H0.out.2⟩
 case round=>
  obtain⟨k,rest,acc,o',p',r',ov',hk,rfl,hrest,hacc,hwr,hw,hwk,hcells⟩:=hrel;clear H0;by_cases hkl:k<l.length
  ·have hj1:decide (k<l.length)=true:=by simpa using hkl
   obtain⟨g1,o1,rfl,c1⟩:=hcells.at1.2 k hkl;have hgb:g1<b:=by
    obtain⟨_,_,e,_,_,_,hh⟩:=hcells;obtain⟨gg,oo,e2,hlt,_⟩:=hh k (str (l.getD k [])) (by simp[List.getD,List.getElem?_eq_getElem hkl]);cases e;cases e2;exact hlt
   have hdr:rest=l.getD k []::l.drop (k+1):=by
    rw[hrest,List.getD_eq_getElem?_getD,List.getElem?_eq_getElem hkl];exact List.drop_eq_getElem_cons hkl
   have hmem:l.getD k []∈l:=by
    rw[List.getD_eq_getElem?_getD,List.getElem?_eq_getElem hkl];exact List.getElem_mem hkl
   have hsl:=HB.out.1 _ hmem;have hacc2:AZ (l.map nmW)=Av (Av acc (Av (Ct k) (nmW (l.getD k [])))) (CI (k+1) ((l.drop (k+1)).map nmW)):=by
    rw[hacc,hdr,List.map_cons,Jc]
   generalize l.getD k []=s at*;have hnp:=hwr.np;have hnk:=hwr.nk;have HC:=O (IQ hw k (by omega) (by omega));have HX:=O (Z hacc2 (Z hwr (Z hwk (Z hcells (Z hsl (Z c1 (Z hgb (Z hw.low (Z hnp hnk)))))))));clear hacc2 hwr hwk hcells hsl c1 hgb hmem hdr hrest hacc hw hnp hnk;go_wp2_with fail;refine HC.out.mono ?_;rintro e w2 ⟨rfl,o2,p2,r2,ov2,h2,k2,q2⟩;have c2:=k2.cell HX.out.2.2.2.2.2.1 (by have:=HX.out.2.2.2.2.2.2.1;omega) (fun e=>by have:=HX.out.2.2.2.2.2.2.2.1 _ e;have:=HX.out.2.2.2.2.2.2.1;omega);have hnp:=HX.out.2.2.2.2.2.2.2.2.1;have hnk:=HX.out.2.2.2.2.2.2.2.2.2;have q2n:=q2.np;have q2k:=q2.nk;have HC2:=O (D4 h2 s HX.out.2.2.2.2.1 (by omega) (by have:=HX.out.2.2.2.2.1;omega));have HQ:=O (Z q2 (Z k2 h2.low));clear q2 k2 h2 hnp hnk q2n q2k;go_wp2_with fail;refine HC2.out.mono ?_;rintro e w3 ⟨rfl,o3,p3,r3,ov3,h3,k3,q3⟩;have HR:=O (Z h3 (Z k3 q3));clear h3 k3 q3;go_wp2;go_roundg (l.length-(k+1))
   case measure=>omega
   case rel=>exact⟨k+1,l.drop (k+1),_,o3,p3,r3,ov3,by omega,by go_num,rfl,HX.out.1,(HX.out.2.1.cat (HQ.out.1.cat HR.out.2.2)).le (by omega) (by have:=HX.out.2.2.2.2.1;omega),HR.out.1,(HX.out.2.2.1.trans HQ.out.2.1).trans HR.out.2.1,(HX.out.2.2.2.1.kept HQ.out.2.1 HX.out.2.2.2.2.2.2.2.1).kept HR.out.2.1 HQ.out.2.2⟩
  ·have hj1:decide (k<l.length)=false:=by simpa using hkl
   obtain rfl:k=l.length:=by omega
   have HX:=O (Z (show AZ (l.map nmW)=acc by rw[hacc,hrest,List.drop_length];exact Ch acc) (Z hwr (Z hw hwk)));clear hacc hwr hw hwk hcells hrest;go_wp2;go_end0;exact⟨rfl,_,_,_,_,HX.out.2.2.1,HX.out.2.2.2,HX.out.2.1.of_eq HX.out.1.symm⟩
end
def ByteC(w:World)(b:Nat)(s:Bs):Prop:=∀j,j<s.length→w.cell? ⟨b,j,none⟩=some (.int .u8 ((s.getD j 0).toNat:Int))
theorem NA(s:Bs)(hs:s.length≤2000000)(w:World):Calls Tryz.prog 125 #[str s] w fun e w'=>e= .returned (.bool (Cy s))∧w.grownBy w' none:=by
 have hconv:=run_bytes_of_string (P:=Tryz.prog) w 9 134 5 ⟨s.toArray⟩ underlying9 underlying134 underlying5;have hsz:(⟨s.toArray⟩:ByteArray).size=s.length:=by simp[ByteArray.size]
 rw[hsz]at hconv;generalize hcap:grownCap w s.length 0 5=cap at*;have h0:ByteC (w.drew.alloc (.cells (bytesRow ⟨s.toArray⟩ cap) 5 ((bytesRow ⟨s.toArray⟩ cap).size,(bytesRow ⟨s.toArray⟩ cap).size+1))) w.heap.size s:=by
  intro j hj;show(w.drew.alloc _).cell? ⟨w.drew.heap.size,j,none⟩=_;rw[World.cell?_alloc_mark,bytesRow_at _ _ _ (by simpa using hj)];simp[Dn hj,hj]
 have g0:w.grownBy (w.drew.alloc (.cells (bytesRow ⟨s.toArray⟩ cap) 5 ((bytesRow ⟨s.toArray⟩ cap).size,(bytesRow ⟨s.toArray⟩ cap).size+1))) none:=Ad (Am (Ac _ _)) _;have H0:=O (Z h0 g0);have HL:=O hs;have hM:=O (show Cy s=(s.all BG&&decide (s.length≤2048)&&!(s.contains 34&&s.contains 39))from rfl);clear h0 g0 hsz hcap;generalize(w.drew.alloc (.cells (bytesRow ⟨s.toArray⟩ cap) 5 ((bytesRow ⟨s.toArray⟩ cap).size,(bytesRow ⟨s.toArray⟩ cap).size+1)))=W at*;go_enter func125,ntmps125;go_wp2_with fail;go_loopg [8] s.length (fun g v8 wr=>∃k:Nat,k+g=s.length∧v8= .int .i64 k∧(∀j,j<k→BG (s.getD j 0)=true)∧W.grownBy wr none)
 case atStart=>exact⟨0,by omega,rfl,fun j hj=>by omega,Ac _ _⟩
 case round=>
  obtain⟨k,hk,rfl,hp,gr⟩:=hrel;clear hconv;by_cases hkl:k<s.length
  ·have hj1:decide (k<s.length)=true:=by simpa using hkl
   have ck:=Af gr (H0.out.1 k hkl);have i0:(0:Int)≤(k:Int):=by omega
   have i1:(k:Int)<(s.length:Int):=by omega
   have HP:=O (Z hp gr);have hall:=fun(h:BG (s.getD k 0)=false)=>JT (p:=BG) (l:=s) (d:=0) hkl h;clear hp gr;generalize hc:s.getD k 0=c at*;have hpr:BG c=true↔c.toNat=9∨(32≤c.toNat∧c.toNat≤126):=by
    unfold BG;rw[Bool.or_eq_true,Bool.and_eq_true,beq_iff_eq,decide_eq_true_eq,decide_eq_true_eq,UInt8.le_iff_toNat_le,UInt8.le_iff_toNat_le,←UInt8.toNat_inj];rfl
   by_cases h:c.toNat=9∨(32≤c.toNat∧c.toNat≤126)
   ·have HC:=O (Z (hpr.2 h) hc);clear hpr hall hc;rcases h with h| ⟨h,h'⟩
    ·have h9:((c.toNat:Int)==9)=true:=by simp;omega
     have h9':((c.toNat:Int) !=9)=false:=by simp;omega
     go_wp2;go_roundg (s.length-(k+1))
     case measure=>omega
     case rel=>exact⟨k+1,by omega,by go_num,fun j hj=>by rcases Nat.lt_succ_iff_lt_or_eq.1 hj with h|rfl;exact HP.out.1 j h;rw[HC.out.2];exact HC.out.1,HP.out.2⟩
    ·have h9:((c.toNat:Int)==9)=false:=by simp;omega
     have h9':((c.toNat:Int) !=9)=true:=by simp;omega
     have h3:decide ((c.toNat:Int)<32)=false:=by simp;omega
     have h4:decide ((126:Int)<(c.toNat:Int))=false:=by simp;omega
     go_wp2;go_roundg (s.length-(k+1))
     case measure=>omega
     case rel=>exact⟨k+1,by omega,by go_num,fun j hj=>by rcases Nat.lt_succ_iff_lt_or_eq.1 hj with h|rfl;exact HP.out.1 j h;rw[HC.out.2];exact HC.out.1,HP.out.2⟩
   ·have HF := O (show Cy s = false by
     rw[hM.out,hall (by cases hb:BG c with|false=>rfl|true=>exact absurd (hpr.1 hb) h)];rfl)
    have h9:((c.toNat:Int)==9)=false:=by simp;omega
    have h9':((c.toNat:Int) !=9)=true:=by simp;omega
    clear hpr hall hc;by_cases h3:c.toNat<32
    ·have h3I:decide ((c.toNat:Int)<32)=true:=by simp;omega
     go_wp2;go_ret;exact⟨by rw[HF.out];rfl,Aa H0.out.2 HP.out.2⟩
    ·have h3I:decide ((c.toNat:Int)<32)=false:=by simp;omega
     have h4:decide ((126:Int)<(c.toNat:Int))=true:=by simp;omega
     go_wp2;go_ret;exact⟨by rw[HF.out];rfl,Aa H0.out.2 HP.out.2⟩
  ·have hj1:decide (k<s.length)=false:=by simpa using hkl
   have hall:s.all BG=true:=Hh (d:=0) fun j hj=>hp j (by omega);have HG:=O (Aa H0.out.2 gr);have HA:=O (show Cy s=(decide (s.length≤2048)&&!(s.contains 34&&s.contains 39))by rw[hM.out,hall];rfl);have H1:=O (fun W=>strings_Contains_one ⟨s.toArray⟩ 34 W);have H2:=O (fun W=>strings_Contains_one ⟨s.toArray⟩ 39 W);have e1:=GA s 34;have e2:=GA s 39;clear hp gr hall hM;by_cases hl:s.length≤2048
   ·have hlI:decide ((s.length:Int)≤2048)=true:=by simp;omega
    have hl':decide (s.length≤2048)=true:=by simpa using hl
    cases b1:s.contains 34 with
    | false=>
      have HF:=O (show Cy s=true by rw[HA.out,hl',b1];rfl);have E1:=O (e1.trans b1);clear HA e1 e2 b1 hl hl';go_wp2_with fail;refine(H1.out _).mono ?_;rintro e w1 ⟨rfl,rfl⟩;rw[E1.out];go_wp2;go_ret;exact⟨by rw[HF.out];rfl,HG.out⟩
    | true=>
      have HF:=O (show Cy s= !(s.contains 39)by rw[HA.out,hl',b1];rfl);have E1:=O (e1.trans b1);have E2:=O e2;clear HA e1 e2 b1 hl hl';generalize s.contains 39=b2 at*;go_wp2_with fail;refine(H1.out _).mono ?_;rintro e w1 ⟨rfl,rfl⟩;rw[E1.out];go_wp2_with fail;refine(H2.out _).mono ?_;rintro e w2 ⟨rfl,rfl⟩;rw[E2.out];go_wp2;go_ret;exact⟨by rw[HF.out];rfl,HG.out⟩
   ·have hlI:decide ((s.length:Int)≤2048)=false:=by simp;omega
    have HF:=O (show Cy s=false by rw[HA.out];simp[hl]);clear HA e1 e2 hl;go_wp2;go_ret;exact⟨by rw[HF.out];rfl,HG.out⟩
end Go.Proofs.YtgjdhajcnechdaaGreatDoor
