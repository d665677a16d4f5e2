/-
  Contracts of the statement parser: target, isEnding. Contracts of the statement parser: isEnding, keyword where a value is set. Contracts of the statement parser: a statement that sets a value.
-/
import Derived.Test.YtgjdhajcnechdaaGreatDoorSv27
set_option linter.all false
set_option maxRecDepth 100000
set_option maxHeartbeats 8000000
namespace Go.Proofs.YtgjdhajcnechdaaGreatDoor
open Go.Proofs.Tryz
open Go.RowKit
section
variable {b:Nat}{tv wv:Value}{l:List Tok}{wl:List Bs}
def DI(l:List Tok)(expr:Nat→Res Ex)(i:Nat):Res Ex:=
 if Ae (Ab l i) [38]then Cb l expr i
 else(AT l i).bind fun s j=>
  if Ae (Ab l j) [91]then(expr (j+1)).bind fun x k=>(Ba l [93] k).bind fun _ k=> .ok (Ct (A6 s) x) k
  else if Ae (Ab l j) [45,62]then(AT l (j+1)).bind fun t k=> .ok ⟨hd0 2 s,.one (A6 t)⟩ k
  else .ok (A6 s) j
theorem R8{b:Nat}{tv wv:Value}{l:List Tok}{wl:List Bs}{w w1 w2:World}{op:Int}{s t:Bs}{x:Ex}{pa la:Option Addr}{pc lc j:Nat}{r:Res Ex}{ok:Nat→Prop}(hb:b<w.heap.size)
 (hr:r= .ok ⟨hd0 op s,.two (A6 t) x⟩ j) (gr:w.grownBy w1 (some b)) (rp:Cells w1 (.slice pa x.h.p.length pc) 1 x.h.p.length (x.h.p.map str) ok) (rl:RepL ok w1 (.slice la x.kids.len lc) x.kids) (hok:∀k,ok k→w.heap.size<k)
 (hp:Par w1 b tv wv l wl j) (g7:w1.grownBy w2 (some w.heap.size)) (hsz:w2.heap.size=w1.heap.size):
 PE b tv wv l wl w r (.returned (exV (hd0 op s) (.slice none 0 0) (.slice (some ⟨w1.heap.size,0,none⟩) 2 2))) (w2.alloc (.cells (hdC (A6 t).h (.slice none 0 0) (.slice none 0 0)++hdC x.h (.slice pa x.h.p.length pc) (.slice la x.kids.len lc)).toArray 27 (0,0))):=by
 have hlt:=gr.size;have rp':=rp.gb g7 (by intro q hq _ e;have:=hok q hq;cases e;omega);have rl':=rl.gb g7 (by intro q hq _ e;have:=hok q hq;cases e;omega);have hV:VE (AA w.heap.size) (w2.alloc (.cells (hdC (A6 t).h (.slice none 0 0) (.slice none 0 0)++hdC x.h (.slice pa x.h.p.length pc) (.slice la x.kids.len lc)).toArray 27 (0,0))) (exV (hd0 op s) (.slice none 0 0) (.slice (some ⟨w1.heap.size,0,none⟩) 2 2)) ⟨hd0 op s,.two (A6 t) x⟩:=
  VE.node (f:= .two (A6 t) x) (RepL.two (ok:=AA w.heap.size) (n:=w1.heap.size) hsz.symm (by show w.heap.size≤_;omega) (Cells.nil _ _ _) (RepL.nil _ _) (rp'.mono (by intro q hq _;have:=hok q hq;show w.heap.size≤q;omega)) (rl'.mono (by intro q hq _;have:=hok q hq;show w.heap.size≤q;omega)))
 exact Post.ok (Ad (Ar gr g7 (.inr (Nat.le_refl _))) _) hr hV ((hp.gb g7 (by intro q e;cases e;omega)).alloc _)
theorem MM{E:Nat→Res Ex}(hE:CE 67 b tv wv l wl E)(hl:C1 l):CE 222 b tv wv l wl (DI l E):=by
 intro w i hp ho;have hb:=hp.lt;have gr:w.grownBy (w.alloc (.cells zeroE.toArray 27 (0,0))) (some b):=Ad (Ac _ _) _;have hz:=Blk.new w zeroE 27;replace hp:=hp.alloc (.cells zeroE.toArray 27 (0,0));have H:=O (Z hE (Z hl ho));generalize hR:DI l E i=R at*;have HQ:=O hR;rw[DI]at HQ;clear hE hl ho hR;go_enter func222,ntmps222;go_wp2_with fail;refine(BZ hp).mono ?_;rintro e w1 ⟨rfl,g⟩;replace hz:=hz.gb g (by simp);replace gr:=Ah gr g;replace hp:=hp.gbN g;clear g;have hs0:=hz.lt;go_wp2_with fail;refine(DB _ _ _ [38] _).mono ?_;rintro e w2 ⟨rfl,g⟩;replace hz:=hz.gb g (by simp);replace gr:=Ah gr g;replace hp:=hp.gbN g;replace hs0:=hz.lt;clear g;cases hs:Ae (Ab l i) [38]with
 | true=>
   have hs':((Ab l i).kind==4&&(Ab l i).text==[38])=true:=hs;rw[hs'];replace HQ:=HQr HQ (by rw[if_pos hs]);go_wp2_with fail;refine(I1 H.out.1 H.out.2.1 _ _ hp (fun e=>H.out.2.2 (by rw[←HQ.out,e]))).mono ?_;intro e w3 hq;obtain⟨g,⟨q,hr,rfl⟩| ⟨x,j,v,hr,rfl,⟨pa,pc,la,lc,rfl,rp,rl⟩,hp⟩⟩:=hq.split
   ·exact⟨rfl,Post.bad (Aa gr g) (by rw[←HQ.out,hr])⟩
   replace gr:=Aa gr g;replace HQ:=HQr HQ (by rw[hr]);clear hr;replace hz:=hz.gb g (by simp;omega);obtain⟨cz_0,cz_1,cz_2,cz_3,cz_4,cz_5,cz_6,cz_f⟩:=(hz).c7;have HV:=O (Z rp rl);clear rp rl g;go_wp2;exact bodyPost_ret (Ai rfl _ (hz.set7 _ _ _ _ _ _ _) rfl) rfl (Bg hb HQ.out.symm gr ⟨_,_,_,_,rfl,HV.out.1,HV.out.2⟩ (by intro k hk;have:_≤k:=hk;omega) hp (Ag _ _ _ _ _ _ _ _ _))
 |false=>
 have hs':((Ab l i).kind==4&&(Ab l i).text==[38])=false:=hs;rw[hs'];clear hs';replace HQ:=HQr HQ (by rw[if_neg (ne_true_of_eq_false hs)]);go_wp2_with fail;refine(Dm hp H.out.2.1).mono ?_;intro e w3 hq;obtain⟨g,⟨q,hr,rfl⟩| ⟨s,j,v,hr,rfl,rfl,hp⟩⟩:=hq.split
 ·exact⟨rfl,Post.bad (Aa gr g) (by rw[←HQ.out,hr];rfl)⟩
 replace gr:=Aa gr g;replace HQ:=HQr HQ (by rw[hr,Res.bind_ok]);clear hr;replace hz:=hz.gb g (by simp;omega);clear g;go_wp2_with fail;cases hs:Ae (Ab l j) [91]with
 | true=>
   refine(Bw hp _ hs).mono ?_;rintro e w4 ⟨rfl,hp',g⟩;replace hz:=hz.gb g (by simp;omega);replace gr:=Aa gr g;replace hp:=hp';have hs0:=hz.lt;clear g;replace HQ:=HQr HQ (by rw[if_pos hs]);go_wp2_with fail;refine(H.out.1 _ _ hp (fun e=>H.out.2.2 (by rw[←HQ.out,e];rfl))).mono ?_;intro e w6 hq;obtain⟨g,⟨q,hr,rfl⟩| ⟨x,j2,v,hr,rfl,⟨pa,pc,la,lc,rfl,rp,rl⟩,hp⟩⟩:=hq.split
   ·exact⟨rfl,Post.bad (Aa gr g) (by rw[←HQ.out,hr];rfl)⟩
   replace gr:=Aa gr g;replace HQ:=HQr HQ (by rw[hr,Res.bind_ok]);clear hr;replace hz:=hz.gb g (by simp;omega);have hk:=Kept.new hb gr hz hp (rp.mono fun g hg _=>by have:w4.heap.size≤g:=hg;show w.heap.size<g;omega) (rl.mono fun g hg _=>by have:w4.heap.size≤g:=hg;show w.heap.size<g;omega) rfl;clear rp rl g hz;go_wp2_with fail;replace gr:=hk.gr;refine(Cx hk.par [93]).mono ?_;intro e w7 hq;obtain⟨g,⟨q,hr,rfl⟩| ⟨_,j3,v,hr,rfl,rfl,hp⟩⟩:=hq.split
   ·exact⟨rfl,Post.bad (Aa gr g) (by rw[←HQ.out,hr];rfl)⟩
   replace gr:=Aa gr g;replace HQ:=HQr HQ (by rw[hr,Res.bind_ok]);clear hr;replace hk:=hk.gb hb g hp;clear g;have hz:=hk.zero;have hL:=hk.blk;have rp:=hk.rp.mono (ok':=fun g=>w.heap.size<g) (fun g hg _=>hg.1);have rl:=hk.rl.mono (ok':=fun g=>w.heap.size<g) (fun g hg _=>hg.1);have hwL:=hk.wL;have hltL:=hL.lt;clear hk;obtain⟨cl_0,cl_1,cl_2,cl_3,cl_4,cl_5,cl_6,cl_f⟩:=(hL).c7;have HV:=O (Z rp rl);clear rp rl;obtain⟨cz_0,cz_1,cz_2,cz_3,cz_4,cz_5,cz_6,cz_f⟩:=(hz).c7;have hltz:=hz.lt;go_wp2;have g7:=Ag w7 w.heap.size (.int .i64 6) (str []) (.int .i64 0) (.int .i64 0) (str []) (.slice none 0 0) (.slice (some ⟨w7.heap.size,0,none⟩) 2 2);have hW:=hz.set7 (.int .i64 6) (str []) (.int .i64 0) (.int .i64 0) (str []) (.slice none 0 0) (.slice (some ⟨w7.heap.size,0,none⟩) 2 2);have hsz:(set7 w7 w.heap.size (.int .i64 6) (str []) (.int .i64 0) (.int .i64 0) (str []) (.slice none 0 0) (.slice (some ⟨w7.heap.size,0,none⟩) 2 2)).heap.size=w7.heap.size:=by simp[set7]
   simp only[set7]at hW g7 hsz;generalize(((((((w7.setCell {block:=w.heap.size,off:=0} (.int .i64 6)).setCell {block:=w.heap.size,off:=1} (str [])).setCell {block:=w.heap.size,off:=2} (.int .i64 0)).setCell {block:=w.heap.size,off:=3} (.int .i64 0)).setCell {block:=w.heap.size,off:=4} (str [])).setCell {block:=w.heap.size,off:=5} (.slice none 0 0)).setCell {block:=w.heap.size,off:=6} (.slice (some ⟨w7.heap.size,0,none⟩) 2 2))=W' at*;exact bodyPost_ret (Ai (hd:=hd0 6 []) (pv:= .slice none 0 0) (lv:= .slice (some ⟨w7.heap.size,0,none⟩) 2 2) rfl _ (Blk.alloc hW (.cells (hdC (A6 s).h (.slice none 0 0) (.slice none 0 0)++hdC x.h (.slice pa x.h.p.length pc) (.slice la x.kids.len lc)).toArray 27 (0,0))) rfl) rfl (R8 (op:=6) (s:=[]) (t:=s) hb HQ.out.symm gr HV.out.1 HV.out.2 (fun k hk=>hk) hp g7 hsz)
 | false=>
   refine(Bo hp _ hs).mono ?_;rintro e w4 ⟨rfl,g⟩;replace hz:=hz.gb g (by simp);replace gr:=Ah gr g;replace hp:=hp.gbN g;clear g;replace HQ:=HQr HQ (by rw[if_neg (ne_true_of_eq_false hs)]);go_wp2_with fail;cases hs:Ae (Ab l j) [45,62]with
   | false=>
     refine(Bo hp _ hs).mono ?_;rintro e w5 ⟨rfl,g⟩;replace hz:=hz.gb g (by simp);replace gr:=Ah gr g;replace hp:=hp.gbN g;clear g;replace HQ:=HQr HQ (by rw[if_neg (ne_true_of_eq_false hs)]);obtain⟨cz_0,cz_1,cz_2,cz_3,cz_4,cz_5,cz_6,cz_f⟩:=(hz).c7;go_wp2;exact bodyPost_ret (Ai (hd:=(A6 s:Ex).h) (pv:= .slice none 0 0) (lv:= .slice none 0 0) rfl _ (hz.set7 _ _ _ _ _ _ _) rfl) rfl (Bg (ok:=fun k=>w.heap.size<k) (x:=A6 s) hb HQ.out.symm gr ⟨none,0,none,0,rfl,Cells.nil _ _ _,RepL.nil _ _⟩ (fun k hk=>hk) hp (Ag _ _ _ _ _ _ _ _ _))
   |true=>
   refine(Bw hp _ hs).mono ?_;rintro e w5 ⟨rfl,hp',g⟩;replace hz:=hz.gb g (by simp;omega);replace gr:=Aa gr g;replace hp:=hp';have hs0:=hz.lt;clear g;replace HQ:=HQr HQ (by rw[if_pos hs]);go_wp2_with fail;refine(Dm hp H.out.2.1).mono ?_;intro e w6 hq;obtain⟨g,⟨q,hr,rfl⟩| ⟨t,j2,v,hr,rfl,rfl,hp⟩⟩:=hq.split
   ·exact⟨rfl,Post.bad (Aa gr g) (by rw[←HQ.out,hr];rfl)⟩
   replace gr:=Aa gr g;replace HQ:=HQr HQ (by rw[hr,Res.bind_ok]);clear hr;replace hz:=hz.gb g (by simp;omega);clear g;have rp:=Cells.nil w6 1 (fun g=>w.heap.size<g);have rl:=RepL.nil w6 (fun g=>w.heap.size<g);have HV:=O (Z rp rl);clear rp rl;obtain⟨cz_0,cz_1,cz_2,cz_3,cz_4,cz_5,cz_6,cz_f⟩:=(hz).c7;have hltz:=hz.lt;go_wp2;have g7:=Ag w6 w.heap.size (.int .i64 2) (str s) (.int .i64 0) (.int .i64 0) (str []) (.slice none 0 0) (.slice (some ⟨w6.heap.size,0,none⟩) 1 1);have hW:=hz.set7 (.int .i64 2) (str s) (.int .i64 0) (.int .i64 0) (str []) (.slice none 0 0) (.slice (some ⟨w6.heap.size,0,none⟩) 1 1);have hsz:(set7 w6 w.heap.size (.int .i64 2) (str s) (.int .i64 0) (.int .i64 0) (str []) (.slice none 0 0) (.slice (some ⟨w6.heap.size,0,none⟩) 1 1)).heap.size=w6.heap.size:=by simp[set7]
   simp only[set7]at hW g7 hsz;generalize(((((((w6.setCell {block:=w.heap.size,off:=0} (.int .i64 2)).setCell {block:=w.heap.size,off:=1} (str s)).setCell {block:=w.heap.size,off:=2} (.int .i64 0)).setCell {block:=w.heap.size,off:=3} (.int .i64 0)).setCell {block:=w.heap.size,off:=4} (str [])).setCell {block:=w.heap.size,off:=5} (.slice none 0 0)).setCell {block:=w.heap.size,off:=6} (.slice (some ⟨w6.heap.size,0,none⟩) 1 1))=W' at*;exact bodyPost_ret (Ai (hd:=hd0 2 s) (pv:= .slice none 0 0) (lv:= .slice (some ⟨w6.heap.size,0,none⟩) 1 1) rfl _ (Blk.alloc hW (Obj.cells #[Value.int IntKind.i64 (A6 t).h.op,str (A6 t).h.s,Value.int IntKind.i64 (A6 t).h.vk,Value.int IntKind.i64 (A6 t).h.vn,str (A6 t).h.vs,Value.slice none (A6 t).h.p.length 0,Value.slice none (A6 t).kids.len 0] 27)) rfl) rfl (En (op:=2) (s:=s) hb HQ.out.symm gr HV.out.1 HV.out.2 (fun k hk=>hk) hp g7 hsz)
end
section
variable {b:Nat}{tv wv:Value}{l:List Tok}{wl:List Bs}
def endsText:Bs:=[69,76,83,69,73,70,32,69,76,83,69,32,69,78,68,73,70,32,67,65,83,69,32,79,84,72,69,82,87,73,83,69,32,69,78,68,67,65,83,69,32,69,78,68,68,79,32,78,69,88,84,32,82,69,67,79,86,69,82,32,69,78,68,32,80,82,79,67,69,68,85,82,69,32,70,85,78,67,84,73,79,78]
theorem Mf:endsText.all (fun b=>decide (b.toNat<128))=true:=by decide+kernel
def endsL:List Bs:=[[69,76,83,69,73,70],[69,76,83,69],[69,78,68,73,70],[67,65,83,69],[79,84,72,69,82,87,73,83,69],[69,78,68,67,65,83,69],[69,78,68,68,79],[78,69,88,84],[82,69,67,79,86,69,82],[69,78,68],[80,82,79,67,69,68,85,82,69],[70,85,78,67,84,73,79,78]]
theorem KZ:Lib.fields endsText=endsL:=by decide+kernel
def FN(s:Bs):Bool:=Lib.containsS (endsL.map fun x=>⟨x.toArray⟩) ⟨s.toArray⟩
theorem Kw(s:Bs){w:World}(hg:Glob w):Calls Tryz.prog 180 #[str s] w fun e w'=>e= .returned (.bool (FN s))∧w.grownBy w' none:=by
 have HG:=O hg;clear hg;go_enter func180,ntmps180;go_wp2_with fail;refine(strings_Fields ⟨endsText.toArray⟩ w (by decide+kernel) ?_ HG.out).mono ?_
 ·intro j b hb;have hb:endsText[j]? =some b:=hb;have h2:=List.all_eq_true.1 Mf b (List.mem_of_getElem? hb);simpa using h2
 rintro e w1 ⟨rfl,rfl⟩;rw[show(Lib.fields (ByteArray.mk endsText.toArray).data.toList)=endsL from KZ];have hn:endsL.length=12:=rfl;have HN:=O hn;clear hn;generalize hE:endsL=E at*;go_wp2_with fail;refine(slices_Contains_string w.heap.size 0 E.length E.length (E.map fun x=>⟨x.toArray⟩) ⟨s.toArray⟩ _ (by simp) (by have:=HN.out;omega) ?_).mono ?_
 ·intro j hj;simp at hj;simp[List.getD,hj]
 rintro e w2 ⟨rfl,rfl⟩;go_wp2;go_ret;exact⟨by rw[List.take_of_length_le (by simp),FN,hE];rfl,World.grownBy_alloc w _ none⟩
theorem Hq{w:World}{i:Nat}(h:Par w b tv wv l wl i)(hs:Ae (Ab l (i+1)) [61]=true):
 Calls Tryz.prog 181 #[.pointer (some ⟨b,0,none⟩)] w fun e w'=>e= .returned (str [])∧w.grownBy w' none:=by
 have hs':((Ab l (i+1)).kind==4&&(Ab l (i+1)).text==[61])=true:=hs;have HS:=O hs';clear hs hs';go_enter func181,ntmps181;go_wp2_with fail;refine(GR h).mono ?_;rintro e w1 ⟨rfl,g⟩;go_wp2_with fail;go_loopg [10] 1 (fun g v10 wr=>v10= .int .i64 0∧wr=((w1.alloc (.cells #[.int .i64 (Ab l (i+1)).kind,.int .i64 (Ab l (i+1)).pos,str (Ab l (i+1)).text] 105 (0,0))).alloc (.cells #[str [61],str [58,61],str [91],str [45,62]] 9 (0,0))))
 case atStart=>exact⟨rfl,rfl⟩
 case round=>
  obtain⟨rfl,rfl⟩:=hrel;go_wp2_with fail;refine(DB _ _ _ [61] _).mono ?_;rintro e w2 ⟨rfl,g2⟩;rw[HS.out];go_wp2;go_ret;exact⟨rfl,(by repeat(first| (with_reducible exact Ac _ _)| (with_reducible assumption)| (with_reducible exact AU (by assumption))| (with_reducible refine Ad ?_ _)| (with_reducible refine Am ?_)| (with_reducible refine A3 ?_ _)| ((with_reducible refine Ay ?_ _ _ ?h2);case h2=>first|exact .inl rfl|exact .inr (Nat.le_refl _)|exact .inr (by simp<;>omega))| (with_reducible refine Ah ?_ (by assumption))| (with_reducible refine Aa ?_ (by assumption))))⟩
end
def set10(w:World)(k:Nat)(v0 v1 v2 v3 v4 v5 v6 v7 v8 v9:Value):World:=
 (((set7 w k v0 v1 v2 v3 v4 v5 v6).setCell ⟨k,7,none⟩ v7).setCell ⟨k,8,none⟩ v8).setCell ⟨k,9,none⟩ v9
theorem Blk.set10{w:World}{k:Nat}{a0 a1 a2 a3 a4 a5 a6 a7 a8 a9:Value}{t:TypeId}(h:Blk w k [a0,a1,a2,a3,a4,a5,a6,a7,a8,a9] t)(v0 v1 v2 v3 v4 v5 v6 v7 v8 v9:Value):Blk (set10 w k v0 v1 v2 v3 v4 v5 v6 v7 v8 v9) k [v0,v1,v2,v3,v4,v5,v6,v7,v8,v9] t:=
 ((((((((((h.set 0 v0).set 1 v1).set 2 v2).set 3 v3).set 4 v4).set 5 v5).set 6 v6).set 7 v7).set 8 v8).set 9 v9).of_eq rfl rfl
theorem Fr(w:World)(k:Nat)(v0 v1 v2 v3 v4 v5 v6 v7 v8 v9:Value):w.grownBy (set10 w k v0 v1 v2 v3 v4 v5 v6 v7 v8 v9) (some k):=
 AE (AE (AE (Ag w k v0 v1 v2 v3 v4 v5 v6) 7 v7) 8 v8) 9 v9
theorem Oq:(match(Tryz.prog.underlying 56)with|some (.struct _)=>true|_=>false)=true:=by kernel_rfl
theorem Nn{fn:Func}{p:Tmp}(h:fn.results=#[.cell p 56])(tmps:Array Value){w:World}{k:Nat}{cs:List Value}(hb:Blk w k cs 56)(hn:cs.length=10)(hp:tmps.getD p undef= .pointer (some ⟨k,0,none⟩)):
 (results fn tmps).run Tryz.prog w= .ok (.agg cs.toArray) w:=by
 have hs:=Oq;cases hu:Tryz.prog.underlying 56 with
 |none=>rw[hu]at hs;cases hs
 | some d=>
   rw[hu]at hs;exact results_cell_row h tmps w k 56 cs.toArray (0,0) d hp hb hu (by cases d<;>simp_all) (by rw[List.size_toArray,hn];show(Tryz.prog.info? 56).map (·.size)=some 10;kernel_rfl)
abbrev stC(op:Int)(xv:Value):List Value:=[.int .i64 op,str [],str [],.slice none 0 0,xv,.slice none 0 0,.int .i64 0,.slice none 0 0,.slice none 0 0,.slice none 0 0]
section
variable {b:Nat}{tv wv:Value}{l:List Tok}{wl:List Bs}
def Jr(b:Nat)(tv wv:Value)(l:List Tok)(wl:List Bs)(w:World)(t x:Ex)(k:Nat)(e:Ending)(w':World):Prop:=
 ∃la lc,e= .returned (.agg (stC 0 (.slice la 2 lc)).toArray)∧RepL (AA w.heap.size) w' (.slice la 2 lc) (.two t x)∧Par w' b tv wv l wl k∧w.grownBy w' (some b)
structure SetPre(b:Nat)(tv wv:Value)(l:List Tok)(wl:List Bs)(w:World)(t x:Ex)(pa la pa2 la2:Option Addr)(pc lc pc2 lc2 k:Nat)(ok:Nat→Prop)(W:World):Prop where
 par:Par W b tv wv l wl k
 tp:Cells W (.slice pa t.h.p.length pc) 1 t.h.p.length (t.h.p.map str) ok
 tl:RepL ok W (.slice la t.kids.len lc) t.kids
 xp:Cells W (.slice pa2 x.h.p.length pc2) 1 x.h.p.length (x.h.p.map str) ok
 xl:RepL ok W (.slice la2 x.kids.len lc2) x.kids
 gr:w.grownBy W (some b)
 zero:Blk W w.heap.size (stC 0 (.slice none 0 0)) 56
 lt:b<w.heap.size
 hok:∀q,ok q→w.heap.size<q
structure Et(b:Nat)(tv wv:Value)(l:List Tok)(wl:List Bs)(w:World)(t x:Ex)(k kS kR:Nat)(W:World):Prop where
 par:Par W b tv wv l wl k
 row:RepL (fun q=>w.heap.size<q) W (.slice (some ⟨kR,0,none⟩) 2 2) (.two t x)
 st:Blk W kS (stC 0 (.slice (some ⟨kR,0,none⟩) 2 2)) 56
 gr:w.grownBy W (some b)
 zero:Blk W w.heap.size (stC 0 (.slice none 0 0)) 56
 ne:w.heap.size<kS
 lt:b<w.heap.size
section
variable {w W:World}{t x:Ex}{pa la pa2 la2:Option Addr}{pc lc pc2 lc2 k:Nat}
abbrev rowO(t x:Ex)(pa la pa2 la2:Option Addr)(pc lc pc2 lc2:Nat):Obj:= .cells (hdC t.h (.slice pa t.h.p.length pc) (.slice la t.kids.len lc)++hdC x.h (.slice pa2 x.h.p.length pc2) (.slice la2 x.kids.len lc2)).toArray 27 (0,0)
abbrev stO(kR:Nat):Obj:= .cells (stC 0 (.slice (some ⟨kR,0,none⟩) 2 2)).toArray 56 (0,0)
theorem SetPre.A{ok:Nat→Prop}(h:SetPre b tv wv l wl w t x pa la pa2 la2 pc lc pc2 lc2 k ok W):Et b tv wv l wl w t x k (W.heap.size+1) W.heap.size ((W.alloc (rowO t x pa la pa2 la2 pc lc pc2 lc2)).alloc (stO W.heap.size)):=by
 have hs:=h.gr.size;have hz:=h.zero.lt;have ho:∀q,ok q→q<W.heap.size→w.heap.size<q:=fun q hq _=>h.hok q hq;have g2:=World.grownBy_alloc (W.alloc (rowO t x pa la pa2 la2 pc lc pc2 lc2)) (stO W.heap.size) none;exact⟨(h.par.alloc _).alloc _,(RepL.two (ok:=fun q=>w.heap.size<q) rfl hz (h.tp.mono ho) (h.tl.mono ho) (h.xp.mono ho) (h.xl.mono ho)).gb g2 (by simp),(Blk.new _ _ _).of_eq (by simp) rfl,Ad (Ad h.gr _) _,(h.zero.alloc _).alloc _,by omega,h.lt⟩
theorem SetPre.B{ok:Nat→Prop}(h:SetPre b tv wv l wl w t x pa la pa2 la2 pc lc pc2 lc2 k ok W):Et b tv wv l wl w t x k W.heap.size (W.heap.size+1) ((W.alloc (stO (W.heap.size+1))).alloc (rowO t x pa la pa2 la2 pc lc pc2 lc2)):=by
 have hs:=h.gr.size;have hz:=h.zero.lt;have ho:∀q,ok q→q<W.heap.size→w.heap.size<q:=fun q hq _=>h.hok q hq;have g1:=World.grownBy_alloc W (stO (W.heap.size+1)) none;exact⟨(h.par.alloc _).alloc _,RepL.two (ok:=fun q=>w.heap.size<q) (by simp) (by show w.heap.size<_;omega) ((h.tp.mono ho).gb g1 (by simp)) ((h.tl.mono ho).gb g1 (by simp)) ((h.xp.mono ho).gb g1 (by simp)) ((h.xl.mono ho).gb g1 (by simp)),(Blk.new _ _ _).alloc _,Ad (Ad h.gr _) _,(h.zero.alloc _).alloc _,hz,h.lt⟩
theorem SetPre.C{ok:Nat→Prop}(h:SetPre b tv wv l wl w t x pa la pa2 la2 pc lc pc2 lc2 k ok W){kS:Nat}(hS:Blk W kS (stC 0 (.slice none 0 0)) 56)(h8:w.heap.size<kS)(hk:∀q,ok q→q≠kS):
 Et b tv wv l wl w t x k kS W.heap.size ((set10 W kS (.int .i64 0) (str []) (str []) (.slice none 0 0) (.slice (some ⟨W.heap.size,0,none⟩) 2 2) (.slice none 0 0) (.int .i64 0) (.slice none 0 0) (.slice none 0 0) (.slice none 0 0)).alloc (rowO t x pa la pa2 la2 pc lc pc2 lc2)):=by
 have hs:=h.gr.size;have hz:=h.zero.lt;have hb:=h.lt;have g1:=Fr W kS (.int .i64 0) (str []) (str []) (.slice none 0 0) (.slice (some ⟨W.heap.size,0,none⟩) 2 2) (.slice none 0 0) (.int .i64 0) (.slice none 0 0) (.slice none 0 0) (.slice none 0 0);have hsz:(set10 W kS (.int .i64 0) (str []) (str []) (.slice none 0 0) (.slice (some ⟨W.heap.size,0,none⟩) 2 2) (.slice none 0 0) (.int .i64 0) (.slice none 0 0) (.slice none 0 0) (.slice none 0 0)).heap.size=W.heap.size:=by simp[set10,set7]
 have ho:∀q,ok q→q<(set10 W kS (.int .i64 0) (str []) (str []) (.slice none 0 0) (.slice (some ⟨W.heap.size,0,none⟩) 2 2) (.slice none 0 0) (.int .i64 0) (.slice none 0 0) (.slice none 0 0) (.slice none 0 0)).heap.size→w.heap.size<q:=fun q hq _=>h.hok q hq;have hn:∀q,ok q→q<W.heap.size→some q≠some kS:=fun q hq _ e=>by cases e;exact hk _ hq rfl
 exact⟨(h.par.gb g1 (by intro q e;cases e;omega)).alloc _,RepL.two (ok:=fun q=>w.heap.size<q) hsz.symm (by show w.heap.size<_;omega) ((h.tp.gb g1 hn).mono ho) ((h.tl.gb g1 hn).mono ho) ((h.xp.gb g1 hn).mono ho) ((h.xl.gb g1 hn).mono ho),(hS.set10 _ _ _ _ _ _ _ _ _ _).alloc _,Ad (Ar h.gr g1 (.inr (by omega))) _,(h.zero.gb g1 (by simp;omega)).alloc _,h8,h.lt⟩
end
end
end Go.Proofs.YtgjdhajcnechdaaGreatDoor
