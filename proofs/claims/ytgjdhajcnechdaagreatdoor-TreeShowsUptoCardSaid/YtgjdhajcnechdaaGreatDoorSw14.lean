/-
  The reference's reader of tokens in memory; token, wrong, isSign, next, take, want, end, name, sign. Rows of names that are looked through: slices.IndexFunc, slices.ContainsFunc, areNames. Plain laws:
-/
import Derived.Test.YtgjdhajcnechdaaGreatDoorSw05
import Derived.Test.YtgjdhajcnechdaaGreatDoorSw02
import Derived.Test.YtgjdhajcnechdaaGreatDoorSw10
import Derived.Shelf.Strings.CaseAny
import Derived.Lib.MapLaws
set_option linter.all false
set_option maxRecDepth 100000
set_option maxHeartbeats 8000000
namespace Go.Proofs.YtgjdhajcnechdaaGreatDoor
open Go.Proofs.Tryz
open Go.RowKit
structure Rr(w:World)(b:Nat)(tv:Value)(l:List Tok)(st:RS):Prop where
 blk:Blk w b [tv,.int .i64 st.1,.bool st.2,.slice none 0 0] 85
 toks:TRow w tv l (· < b)
 le:st.1≤l.length
 few:l.length≤4000000
section
variable {w w1:World}{b:Nat}{tv:Value}{l:List Tok}{st:RS}
theorem Rr.lt(h:Rr w b tv l st):b<w.heap.size:=h.blk.lt
theorem Rr.c0(h:Rr w b tv l st):w.cell? ⟨b,0,none⟩=some tv:=h.blk.cell 0
theorem Rr.c1(h:Rr w b tv l st):w.cell? ⟨b,1,none⟩=some (.int .i64 st.1):=h.blk.cell 1
theorem Rr.c2(h:Rr w b tv l st):w.cell? ⟨b,2,none⟩=some (.bool st.2):=h.blk.cell 2
theorem Rr.c3(h:Rr w b tv l st):w.cell? ⟨b,3,none⟩=some (.slice none 0 0):=h.blk.cell 3
theorem Rr.fr(h:Rr w b tv l st)(k:Nat):w.frozen? ⟨b,k,none⟩=false:=h.blk.frozen k
theorem Rr.gb{r:Option Nat}(h:Rr w b tv l st)(g:w.grownBy w1 r)(hr:∀k,r=some k→b<k):Rr w1 b tv l st:=
 ⟨h.blk.gb g (fun e=>by have:=hr _ e.symm;omega),h.toks.gb g (fun k hk e=>by have:=hr _ e.symm;omega),h.le,h.few⟩
theorem Rr.gbN(h:Rr w b tv l st)(g:w.grownBy w1 none):Rr w1 b tv l st:=h.gb g (by simp)
theorem Rr.alloc(h:Rr w b tv l st)(o:Obj):Rr (w.alloc o) b tv l st:=h.gbN (World.grownBy_alloc w o none)
theorem Rr.drewN(h:Rr w b tv l st)(n:Nat):Rr (w.drewN n) b tv l st:=h.gbN (Ay (Ac w none) n)
theorem Rr.go(h:Rr w b tv l st)(z:Int)(j:Nat)(hz:z=j)(hj:j≤l.length):Rr (w.setCell ⟨b,1,none⟩ (.int .i64 z)) b tv l (j,st.2):=by
 subst hz;have g:w.grownBy (w.setCell ⟨b,1,none⟩ (.int .i64 j)) (some b):=Az (Ac w _) _ _ (.inl rfl);exact⟨(h.blk.set 1 (.int .i64 j)).of_eq rfl rfl,h.toks.gb g (by intro k hk;simp;omega),hj,h.few⟩
theorem Rr.fail(h:Rr w b tv l st):Rr (w.setCell ⟨b,2,none⟩ (.bool true)) b tv l (st.1,true):=by
 have g:w.grownBy (w.setCell ⟨b,2,none⟩ (.bool true)) (some b):=Az (Ac w _) _ _ (.inl rfl);exact⟨(h.blk.set 2 (.bool true)).of_eq rfl rfl,h.toks.gb g (by intro k hk;simp;omega),h.le,h.few⟩
theorem Rr.tok(h:Rr w b tv l st){j:Nat}(hj:j<l.length):∃lb lo cap,tv= .slice (some ⟨lb,lo,none⟩) l.length cap∧lb<w.heap.size∧lb≠b∧
 w.cell? ⟨lb,lo+j*3,none⟩=some (.int .i64 (Ab l j).kind)∧w.cell? ⟨lb,lo+j*3+1,none⟩=some (.int .i64 (Ab l j).pos)∧
 w.cell? ⟨lb,lo+j*3+2,none⟩=some (.string ⟨(Ab l j).text.toArray⟩):=by
 obtain⟨a,cap,e,_,_,h3⟩:=h.toks;obtain⟨lb,lo,ea,ho,c0,c1,c2⟩:=h3 j hj;subst ea;exact⟨lb,lo,cap,e,World.block_lt_of_cell? w _ c0,Nat.ne_of_lt ho,c0,c1,c2⟩
theorem Rr.tv_eq(h:Rr w b tv l st):∃a cap,tv= .slice a l.length cap:=by
 obtain⟨a,cap,e,_⟩:=h.toks;exact⟨a,cap,e⟩
end
def B9(b:Nat)(tv:Value)(l:List Tok)(w:World){α:Type}(V:World→Value→α→Prop)(r:α×RS)(e:Ending)(w':World):Prop:=
 w.grownBy w' (some b)∧∃v,e= .returned v∧V w' v r.1∧Rr w' b tv l r.2
abbrev VB:World→Value→Bool→Prop:=fun _ v x=>v= .bool x
abbrev VU:World→Value→Unit→Prop:=fun _ v _=>v= .tuple #[]
abbrev VStr:World→Value→Bs→Prop:=fun _ v x=>v=str x
section
variable {w:World}{b:Nat}{tv:Value}{l:List Tok}{st:RS}
theorem Od(h:Rr w b tv l st)(k:Nat)(hk:st.1+k<l.length)(hk2:k≤4):
 Calls Tryz.prog 179 #[.pointer (some ⟨b,0,none⟩),.int .i64 k] w fun e w'=>e= .returned (Bc (Ab l (st.1+k)))∧w.grownBy w' none:=by
 obtain⟨lb,lo,cap,e,hlb,_,t0,t1,t2⟩:=h.tok hk;have c0:=h.c0;have c1:=h.c1;have hb:=h.lt;have hf:=h.few;rw[e]at c0;obtain⟨i,f⟩:=st;simp only at hk c1 t0 t1 t2 ⊢;have hlt':decide ((i:Int)+k<(l.length:Int))=true:=by simp;omega
 unfold Bc;generalize(Ab l (i+k)).kind=x at*;generalize(Ab l (i+k)).pos=y at*;generalize(Ab l (i+k)).text=s at*;generalize l.length=n at*;clear e h;have hw1:IntKind.i64.wrap ((i:Int)+k)=(i:Int)+k:=IntWalk.i64_in _ (by omega);have h1:(0:Int)≤(i:Int)+k:=by omega
 have h2:(i:Int)+k<n:=by omega
 go_enter func179,ntmps179;go_wp2;go_quiet(fail);go_wp2;go_region;go_wp2;refine bodyPost_ret (v:= .agg #[.int .i64 x,.int .i64 y,str s]) ?_ rfl ⟨rfl,?_⟩
 ·simp[results,results179,go_sem]
 ·exact (by repeat(first| (with_reducible exact Ac _ _)| (with_reducible assumption)| (with_reducible exact AX (by assumption))| (with_reducible refine Ad ?_ _)| (with_reducible refine Am ?_)| (with_reducible refine Ay ?_ _)| ((with_reducible refine Az ?_ _ _ ?h2);case h2=>first|exact .inl rfl|exact .inr (Nat.le_refl _)|exact .inr (by simp<;>omega))| (with_reducible refine Ag ?_ (by assumption))| (with_reducible refine Aa ?_ (by assumption))))
theorem OL(h:Rr w b tv l st)(k:Nat)(hk:l.length≤st.1+k)(hk2:k≤4):
 Calls Tryz.prog 179 #[.pointer (some ⟨b,0,none⟩),.int .i64 k] w fun e w'=>e= .returned (Bc (Ab l (st.1+k)))∧w.grownBy w' none:=by
 have et:Ab l (st.1+k)=⟨-1,0,[]⟩:=by simp[Ab,List.getElem?_eq_none hk]
 rw[et];clear et;obtain⟨a,cap,e⟩:=h.tv_eq;have c0:=h.c0;have c1:=h.c1;have hb:=h.lt;have hf:=h.few;have hle:=h.le;rw[e]at c0;obtain⟨i,f⟩:=st;simp only at hk c1 hle ⊢;have hlt':decide ((i:Int)+k<(l.length:Int))=false:=by simp;omega
 have hw1:IntKind.i64.wrap ((i:Int)+k)=(i:Int)+k:=IntWalk.i64_in _ (by omega);generalize l.length=n at*;clear e h;go_enter func179,ntmps179;go_wp2;go_quiet(fail);go_wp2;refine bodyPost_ret (v:= .agg #[.int .i64 (-1),.int .i64 0,str []]) ?_ rfl ⟨rfl,?_⟩
 ·simp[results,results179,go_sem]
 ·exact (by repeat(first| (with_reducible exact Ac _ _)| (with_reducible assumption)| (with_reducible exact AX (by assumption))| (with_reducible refine Ad ?_ _)| (with_reducible refine Am ?_)| (with_reducible refine Ay ?_ _)| ((with_reducible refine Az ?_ _ _ ?h2);case h2=>first|exact .inl rfl|exact .inr (Nat.le_refl _)|exact .inr (by simp<;>omega))| (with_reducible refine Ag ?_ (by assumption))| (with_reducible refine Aa ?_ (by assumption))))
theorem IK(h:Rr w b tv l st)(k:Nat)(hk2:k≤4):
 Calls Tryz.prog 179 #[.pointer (some ⟨b,0,none⟩),.int .i64 k] w fun e w'=>e= .returned (Bc (Ab l (st.1+k)))∧w.grownBy w' none:=by
 by_cases hk:st.1+k<l.length
 ·exact Od h k hk hk2
 ·exact OL h k (by omega) hk2
theorem DW(h:Rr w b tv l st):
 Calls Tryz.prog 179 #[.pointer (some ⟨b,0,none⟩),.int .i64 0] w fun e w'=>e= .returned (Bc (Ab l st.1))∧w.grownBy w' none:=IK h 0 (by omega)
theorem Eo(h:Rr w b tv l st):
 Calls Tryz.prog 324 #[.pointer (some ⟨b,0,none⟩)] w (B9 b tv l w VU ((),(st.1,true))):=by
 have c2:=h.c2;have f2:=h.fr 2;go_enter func324,ntmps324;go_wp2;go_end0;exact⟨Az (Ac _ _) _ _ (.inl rfl),_,rfl,rfl,h.fail⟩
theorem EJ(h:Rr w b tv l st)(k:Nat)(hk2:k≤4)(s:Bs):
 Calls Tryz.prog 139 #[.pointer (some ⟨b,0,none⟩),.int .i64 k,str s] w fun e w'=>e= .returned (.bool (Ae (Ab l (st.1+k)) s))∧w.grownBy w' none:=by
 have HT:=O (IK h k hk2);generalize Ab l (st.1+k)=t at*;clear h;by_cases hk:t.kind=4
 ·have HK:=O hk;clear hk;go_enter func139,ntmps139;go_wp2_with fail;refine HT.out.mono ?_;rintro e w1 ⟨rfl,g1⟩;rw[Bc,HK.out];go_wp2;go_ret;exact⟨by simp[Ae,HK.out],(by repeat(first| (with_reducible exact Ac _ _)| (with_reducible assumption)| (with_reducible exact AX (by assumption))| (with_reducible refine Ad ?_ _)| (with_reducible refine Am ?_)| (with_reducible refine Ay ?_ _)| ((with_reducible refine Az ?_ _ _ ?h2);case h2=>first|exact .inl rfl|exact .inr (Nat.le_refl _)|exact .inr (by simp<;>omega))| (with_reducible refine Ag ?_ (by assumption))| (with_reducible refine Aa ?_ (by assumption))))⟩
 ·have HK:=O hk;have hk':(t.kind==4)=false:=by simpa using hk
  clear hk;go_enter func139,ntmps139;go_wp2_with fail;refine HT.out.mono ?_;rintro e w1 ⟨rfl,g1⟩;go_wp2;go_ret;exact⟨by simp[Ae,hk'],(by repeat(first| (with_reducible exact Ac _ _)| (with_reducible assumption)| (with_reducible exact AX (by assumption))| (with_reducible refine Ad ?_ _)| (with_reducible refine Am ?_)| (with_reducible refine Ay ?_ _)| ((with_reducible refine Az ?_ _ _ ?h2);case h2=>first|exact .inl rfl|exact .inr (Nat.le_refl _)|exact .inr (by simp<;>omega))| (with_reducible refine Ag ?_ (by assumption))| (with_reducible refine Aa ?_ (by assumption))))⟩
theorem La{l:List Tok}{i:Nat}{k:Int}(h:(Ab l i).kind=k)(hk:0≤k):i<l.length:=DM (by omega)
theorem GH(h:Rr w b tv l st)(hi:st.2=false→st.1<l.length):
 Calls Tryz.prog 314 #[.pointer (some ⟨b,0,none⟩)] w (B9 b tv l w VU ((),Eg st)):=by
 obtain⟨i,f⟩:=st;have c1:=h.c1;have c2:=h.c2;have f1:=h.fr 1;have hf:=h.few;have hle:=h.le;simp only at c1 c2 hi hle;cases f with
 | true=>
   go_enter func314,ntmps314;go_wp2;go_end0;exact⟨Ac _ _,_,rfl,rfl,h⟩
 | false=>
   have hi:=hi rfl;go_enter func314,ntmps314;go_wp2;go_end0;exact⟨Az (Ac _ _) _ _ (.inl rfl),_,rfl,rfl,h.go _ (i+1) rfl (by omega)⟩
theorem Cg(h:Rr w b tv l st)(s:Bs):
 Calls Tryz.prog 88 #[.pointer (some ⟨b,0,none⟩),str s] w (B9 b tv l w VB (A4 l s st,Ak l s st)):=by
 obtain⟨i,f⟩:=st;have c2:=h.c2;simp only at c2;cases f with
 | true=>
   go_enter func88,ntmps88;go_wp2;go_ret;exact⟨Ac _ _,_,rfl,rfl,h⟩
 | false=>
   have HS:=O (EJ h 0 (by omega) s);have hf:=h.few;cases hs:Ae (Ab l i) s with
   | true=>
     have hi:=Kb hs;have HQ:=O (Z (show A4 l s (i,false)=true by simp[A4,hs]) (GS hs));have HK:=O hs;clear hs;go_enter func88,ntmps88;go_wp2_with fail;refine HS.out.mono ?_;rintro e w1 ⟨rfl,g1⟩;rw[Nat.add_zero,HK.out];have h1:=h.gbN g1;have c1:=h1.c1;have f1:=h1.fr 1;simp only at c1;go_wp2;go_ret;refine⟨(by repeat(first| (with_reducible exact Ac _ _)| (with_reducible assumption)| (with_reducible exact AX (by assumption))| (with_reducible refine Ad ?_ _)| (with_reducible refine Am ?_)| (with_reducible refine Ay ?_ _)| ((with_reducible refine Az ?_ _ _ ?h2);case h2=>first|exact .inl rfl|exact .inr (Nat.le_refl _)|exact .inr (by simp<;>omega))| (with_reducible refine Ag ?_ (by assumption))| (with_reducible refine Aa ?_ (by assumption)))),_,rfl,by rw[HQ.out.1];rfl,?_⟩;rw[HQ.out.2];exact h1.go _ (i+1) rfl (by omega)
   | false=>
     have HQ:=O (Z (show A4 l s (i,false)=false by simp[A4,hs]) (Hk hs));have HK:=O hs;clear hs;go_enter func88,ntmps88;go_wp2_with fail;refine HS.out.mono ?_;rintro e w1 ⟨rfl,g1⟩;rw[Nat.add_zero,HK.out];go_wp2;go_ret;refine⟨AX g1,_,rfl,by rw[HQ.out.1];rfl,?_⟩;rw[HQ.out.2];exact h.gbN g1
theorem Sf(l:List Tok)(s:Bs)(st:RS):AR l s st=if A4 l s st then Ak l s st else((Ak l s st).1,true):=by
 unfold AR Ak;cases A4 l s st<;>rfl
theorem CO(h:Rr w b tv l st)(s:Bs):
 Calls Tryz.prog 305 #[.pointer (some ⟨b,0,none⟩),str s] w (B9 b tv l w VU ((),AR l s st)):=by
 have HQ:=O (Sf l s st);have HT:=O (Cg h s);clear h;cases hs:A4 l s st with
 | true=>
   rw[hs]at HT HQ;clear hs;go_enter func305,ntmps305;go_wp2_with fail;refine HT.out.mono ?_;rintro e w1 ⟨g1,v,rfl,rfl,h1⟩;go_wp2;go_end0;exact⟨g1,_,rfl,rfl,by rw[HQ.out];exact h1⟩
 | false=>
   rw[hs]at HT HQ;clear hs;go_enter func305,ntmps305;go_wp2_with fail;refine HT.out.mono ?_;rintro e w1 ⟨g1,v,rfl,rfl,h1⟩;go_wp2_with fail;refine(Eo h1).mono ?_;rintro e w2 ⟨g2,v,rfl,rfl,h2⟩;go_wp2;go_end0;exact⟨Aa g1 g2,_,rfl,rfl,by rw[HQ.out];exact h2⟩
end
theorem Ib(s:Bs)(w:World)(hs:s.length≤4000000):Calls Tryz.prog 75 #[str s] w fun e w'=>e= .returned (.bool (An s))∧w.grownBy w' none:=by
 go_enter func75,ntmps75;go_wp2_with fail;refine(Ig s w hs).mono ?_;rintro e w1 ⟨rfl,hb⟩;go_wp2;go_ret;exact⟨rfl,hb⟩
theorem IH(s:Bs)(w:World)(hs:s.length≤4000000):Calls Tryz.prog 129 #[str s] w fun e w'=>e= .returned (.bool (!An s))∧w.grownBy w' none:=by
 go_enter func129,ntmps129;go_wp2_with fail;refine(Ib s w hs).mono ?_;rintro e w1 ⟨rfl,hb⟩;go_wp2;go_ret;exact⟨rfl,hb⟩
theorem JT{α:Type}{p:α→Bool}{l:List α}{k:Nat}{d:α}(hk:k<l.length)(h:p (l.getD k d)=false):l.all p=false:=by
 rw[List.all_eq_false];refine⟨l.getD k d,?_,by intro e;rw[h]at e;cases e⟩;rw[List.getD_eq_getElem?_getD,List.getElem?_eq_getElem hk];exact List.getElem_mem hk
theorem Hh{α:Type}{p:α→Bool}{l:List α}{d:α}(h:∀j,j<l.length→p (l.getD j d)=true):l.all p=true:=by
 rw[List.all_eq_true];intro x hx;obtain⟨j,hj,rfl⟩:=List.getElem_of_mem hx;have:=h j hj;rwa[List.getD_eq_getElem?_getD,List.getElem?_eq_getElem hj]at this
theorem KB{w:World}{pa:Option Addr}{pc:Nat}{l:List Bs}{ok:Nat→Prop}(h1:Cells w (.slice pa l.length pc) 1 l.length (l.map str) ok)(hf:∀s∈l,s.length≤2000000):
 Calls Tryz.prog 172 #[.slice pa l.length pc,.func (.func 129) #[] #[]] w fun e w'=>(∃n:Int,e= .returned (.int .i64 n)∧decide (0≤n)= !l.all An)∧w.grownBy w' none:=by
 have hc1:=h1.at1.2;have hl:l.length≤maxLen:=by obtain⟨_,_,e,h3,h4,_⟩:=h1;omega
 unfold maxLen at hl;clear h1;have HF:=O hf;have HC:=O hc1;clear hc1 hf;go_enter func172,ntmps172;go_wp2_with fail;go_loopg [8] l.length (fun g v8 wr=>∃k:Nat,k+g=l.length∧v8= .int .i64 k∧(∀j,j<k→An (l.getD j [])=true)∧w.grownBy wr none)
 case atStart=>exact⟨0,by omega,rfl,fun j hj=>by omega,Ac _ _⟩
 case round=>
  obtain⟨k,hg,rfl,hp,hgr⟩:=hrel;by_cases hk:k<l.length
  ·obtain⟨g1,o1,rfl,c1⟩:=HC.out k hk;have d1:=Af hgr c1;have hkI:decide (k<l.length)=true:=by simpa using hk
   have hmem:l.getD k []∈l:=by
    rw[List.getD_eq_getElem?_getD,List.getElem?_eq_getElem hk];exact List.getElem_mem hk
   have HL:=O (HF.out _ hmem);have HP:=O hp;have HG:=O hgr;clear hp hgr c1 hmem;generalize hs1:l.getD k []=s at*;cases hb:An s with
   | true=>
     have HN:=O (Z hb hs1);clear hb hs1;go_wp2_with fail;refine(IH s _ (by have:=HL.out;omega)).mono ?_;rintro e w1 ⟨rfl,g1⟩;rw[HN.out.1];go_wp2;go_roundg (l.length-(k+1))
     case measure=>omega
     case rel=>exact⟨k+1,by omega,by go_num,fun j hj=>by rcases Nat.lt_succ_iff_lt_or_eq.1 hj with h|rfl;exact HP.out j h;rw[HN.out.2];exact HN.out.1,Aa HG.out (Aa (by repeat(first| (with_reducible exact Ac _ _)| (with_reducible assumption)| (with_reducible exact AX (by assumption))| (with_reducible refine Ad ?_ _)| (with_reducible refine Am ?_)| (with_reducible refine Ay ?_ _)| ((with_reducible refine Az ?_ _ _ ?h2);case h2=>first|exact .inl rfl|exact .inr (Nat.le_refl _)|exact .inr (by simp<;>omega))| (with_reducible refine Ag ?_ (by assumption))| (with_reducible refine Aa ?_ (by assumption)))) g1)⟩
   | false=>
     have HN:=O (Z hb (JT (p:=An) (l:=l) (d:=[]) hk (by rw[hs1];exact hb)));clear hb hs1;go_wp2_with fail;refine(IH s _ (by have:=HL.out;omega)).mono ?_;rintro e w1 ⟨rfl,g1⟩;rw[HN.out.1];go_wp2;go_ret;exact⟨⟨_,rfl,by rw[HN.out.2];simp⟩,Aa HG.out (Aa (by repeat(first| (with_reducible exact Ac _ _)| (with_reducible assumption)| (with_reducible exact AX (by assumption))| (with_reducible refine Ad ?_ _)| (with_reducible refine Am ?_)| (with_reducible refine Ay ?_ _)| ((with_reducible refine Az ?_ _ _ ?h2);case h2=>first|exact .inl rfl|exact .inr (Nat.le_refl _)|exact .inr (by simp<;>omega))| (with_reducible refine Ag ?_ (by assumption))| (with_reducible refine Aa ?_ (by assumption)))) g1)⟩
  ·have hkI:decide (k<l.length)=false:=by simpa using hk
   have HE:=O (Hh (p:=An) (l:=l) (d:=[]) (fun j hj=>hp j (by omega)));have HG:=O hgr;clear hp hgr;go_wp2;go_ret;exact⟨⟨_,rfl,by rw[HE.out];simp⟩,HG.out⟩
theorem K6{w:World}{pa:Option Addr}{pc:Nat}{l:List Bs}{ok:Nat→Prop}(h1:Cells w (.slice pa l.length pc) 1 l.length (l.map str) ok)(hf:∀s∈l,s.length≤2000000):
 Calls Tryz.prog 128 #[.slice pa l.length pc,.func (.func 129) #[] #[]] w fun e w'=>e= .returned (.bool (!l.all An))∧w.grownBy w' none:=by
 have H:=O (KB h1 hf);clear h1 hf;go_enter func128,ntmps128;go_wp2_with fail;refine H.out.mono ?_;rintro e w1 ⟨⟨n,rfl,hn⟩,hb⟩;have HN:=O hn;clear hn;go_wp2;go_ret;exact⟨by rw[←HN.out];rfl,hb⟩
theorem Lw{w:World}{pa:Option Addr}{pc:Nat}{l:List Bs}{ok:Nat→Prop}(h1:Cells w (.slice pa l.length pc) 1 l.length (l.map str) ok)(hf:∀s∈l,s.length≤2000000):
 Calls Tryz.prog 77 #[.slice pa l.length pc] w fun e w'=>e= .returned (.bool (l.all An))∧w.grownBy w' none:=by
 have H:=O (K6 h1 hf);clear h1 hf;go_enter func77,ntmps77;go_wp2_with fail;refine H.out.mono ?_;rintro e w1 ⟨rfl,hb⟩;go_wp2;go_ret;exact⟨rfl,hb⟩
open Go.Lib
theorem NT(x:Int)(h:∀b∈encodeRune x,b.toNat<128):(0≤x∧x≤127)∧encodeRune x=[x.toNat.toUInt8]:=by
 have hz:∀y∈encodeRuneZ x,y<128:=by
  intro y hy;have hb:=encodeRuneZ_byte x y hy;have:=h y.toNat.toUInt8 (List.mem_map.2 ⟨y,hy,rfl⟩);simp[UInt8.toNat_ofNat']at this;omega
 by_cases h0:0≤x∧x≤127
 ·exact⟨h0,by simp[encodeRune,encodeRuneZ_one h0.1 h0.2]⟩
 ·exfalso;by_cases h1:128≤x∧x≤2047
  ·have:=hz (192+x/64) (by rw[encodeRuneZ_two h1.1 h1.2];simp);omega
  ·by_cases h2:(2048≤x∧x<55296)∨(57343<x∧x≤65535)
   ·have:=hz (224+x/4096) (by rw[encodeRuneZ_three h2];simp);omega
   ·by_cases h3:65536≤x∧x≤1114111
    ·have:=hz (240+x/262144) (by rw[encodeRuneZ_four h3.1 h3.2];simp);omega
    ·have:=hz 239 (by rw[encodeRuneZ_bad (by omega)];simp);omega
theorem Sd:toUpperU 65533=65533:=by decide+kernel
theorem Nt{l:List UInt8}(hne:l≠[])(h1:(decodeL l).2=1):(decodeL l).1=65533∨∀b∈l.take 1,b.toNat<128:=by
 by_cases hv:(decodeL l).1=65533
 ·exact .inl hv
 ·refine .inr ?_;have he:=encode_decode l hne (fun h=>hv h.1);rw[h1]at he;by_cases h0:((decodeL l).1:Int)≤127
  ·rw[←he];intro b hb;rw[encodeRune,encodeRuneZ_one (by omega) h0]at hb;simp at hb;subst hb;simp[UInt8.toNat_ofNat'];omega
  ·exfalso;have hlen:(encodeRune ((decodeL l).1:Int)).length≤1:=by rw[he];simp;omega
   generalize((decodeL l).1:Int)=x at*;unfold encodeRune at hlen;rw[List.length_map]at hlen;by_cases h1:128≤x∧x≤2047
   ·rw[encodeRuneZ_two h1.1 h1.2]at hlen;simp at hlen
   ·by_cases h2:(2048≤x∧x<55296)∨(57343<x∧x≤65535)
    ·rw[encodeRuneZ_three h2]at hlen;simp at hlen
    ·by_cases h3:65536≤x∧x≤1114111
     ·rw[encodeRuneZ_four h3.1 h3.2]at hlen;simp at hlen
     ·rw[encodeRuneZ_bad (by omega)]at hlen;simp at hlen
theorem Nu(l:List UInt8):1≤(decodeL l).2:=by
 unfold decodeL Utf8.decode;simp only[];repeat' split
 all_goals simp
theorem Qi:∀(n:Nat)(l:List UInt8),l.length≤n→(∀b∈toUpperD l,b.toNat<128)→(toUpperD l).length≤l.length∧((toUpperD l).length=l.length→∀b∈l,b.toNat<128):=by
 intro n;induction n with
 | zero=>
   intro l hl _;have:l=[]:=List.eq_nil_of_length_eq_zero (by omega);subst this;exact⟨Nat.le_refl _,by simp⟩
 | succ n ih=>
   intro l hl h;by_cases hne:l=[]
   ·subst hne;exact⟨Nat.le_refl _,by simp⟩
   ·have hp:=Nu l;have hk:=decodeL_le l hne;have hlen:0<l.length:=List.length_pos_iff.2 hne;unfold toUpperD at h ⊢;rw[mapD_step _ _ hne]at h ⊢;have ih':=ih (l.drop (decodeL l).2) (by simp;omega);unfold toUpperD at ih';have h2:=ih' (fun b hb=>h b (List.mem_append.2 (.inr hb)));rw[List.length_drop]at h2;by_cases h0:0≤toUpperU (decodeL l).1
    ·rw[if_pos h0]at h ⊢;obtain⟨hx,he⟩:=NT _ (fun b hb=>h b (List.mem_append.2 (.inl hb)));rw[he];simp only[List.length_append,List.length_cons,List.length_nil];refine⟨by omega,fun e=>?_⟩;have hk1:(decodeL l).2=1:=by omega
     rcases Nt hne hk1 with h3|h3
     ·rw[h3]at hx;have:=Sd;simp at hx;omega
     ·intro b hb;rw[hk1]at h2;rw[←List.take_append_drop 1 l]at hb;rcases List.mem_append.1 hb with hb|hb
      ·exact h3 b hb
      ·exact h2.2 (by rw[hk1]at e;omega) b hb
    ·rw[if_neg h0];simp only[List.nil_append];exact⟨by omega,fun e=>by omega⟩
theorem M9(b:UInt8)(h:128≤b.toNat):upperB b=b:=by
 unfold upperB isLowerB;split
 ·rename_i h1;simp[UInt8.le_iff_toNat_le]at h1;omega
 ·rfl
theorem O1(x w:List UInt8)(hl:x.length=w.length)(hw:∀b∈w,b.toNat<128):(toUpperD x==w)=(toUpperA x==w):=by
 by_cases ha:∀b∈x,b.toNat<128
 ·rw[toUpperD_ascii x ha]
 ·have h1 : toUpperA x ≠ w := by
   rintro rfl;apply ha;intro b hb;by_cases hh:b.toNat<128
   ·exact hh
   ·exact absurd (hw (upperB b) (List.mem_map.2 ⟨b,hb,rfl⟩)) (by rw[M9 b (by omega)];exact hh)
  have h2:toUpperD x≠w:=by
   intro e;apply ha;exact(Qi x.length x (Nat.le_refl _) (by rw[e];exact hw)).2 (by rw[e,hl])
  rw[beq_eq_false_iff_ne.2 h1,beq_eq_false_iff_ne.2 h2]
end Go.Proofs.YtgjdhajcnechdaaGreatDoor
