/-
  Contracts of the parser: pow, not. append onto a slice that the call has made, with one thing more than the kit's law says: the row stays, or is new. Equality of texts and expressions: the plain model
-/
import Derived.Test.YtgjdhajcnechdaaGreatDoorSb02
set_option linter.all false
set_option maxRecDepth 100000
set_option maxHeartbeats 8000000
namespace Go.Proofs.YtgjdhajcnechdaaGreatDoor
open Go.Proofs.Tryz
open Go.RowKit
section
variable {b:Nat}{tv wv:Value}{l:List Tok}{wl:List Bs}
theorem AT{w w1 w2:World}{r:Res Ex}{i:Nat}{x:Ex}{ok:Nat→Prop}(h0:b<w.heap.size)(hr:r= .ok x i)(g:w.grownBy w1 (some b)){v:Value}(hv:VE ok w1 v x)(hok:∀k,ok k→w.heap.size<k)(hp:Par w1 b tv wv l wl i)
 (g2:w1.grownBy w2 (some w.heap.size)):PE b tv wv l wl w r (.returned v) w2:=
 Post.ok (AN g g2 (.inr (Nat.le_refl _))) hr ((hv.gb g2 (by intro q hq _ e;have:=hok q hq;cases e;omega)).mono (by intro q hq _;have:=hok q hq;show w.heap.size≤q;omega)) (hp.gb g2 (by intro q e;cases e;omega))
theorem Dh{w w1 W:World}{r:Res Ex}{i:Nat}{x:Ex}{op:Int}{s:Bs}{ok:Nat→Prop}{pa la:Option Addr}{pc lc:Nat}(h0:b<w.heap.size)(hr:r= .ok ⟨hd0 op s,.one x⟩ i)(g:w.grownBy w1 (some b))
 (rp:Cells w1 (.slice pa x.h.p.length pc) 1 x.h.p.length (x.h.p.map str) ok) (rl:RepL ok w1 (.slice la x.kids.len lc) x.kids) (hok:∀k,ok k→w.heap.size<k) (hp:Par w1 b tv wv l wl i) (g7:w1.grownBy W (some w.heap.size)) (hsz:W.heap.size=w1.heap.size):
 PE b tv wv l wl w r (.returned (exV (hd0 op s) (.slice none 0 0) (.slice (some ⟨w1.heap.size,0,none⟩) 1 1))) (W.alloc (Obj.cells #[Value.int IntKind.i64 x.h.op,str x.h.s,Value.int IntKind.i64 x.h.vk,Value.int IntKind.i64 x.h.vn,str x.h.vs,Value.slice pa x.h.p.length pc,Value.slice la x.kids.len lc] 27)):=by
 have hlt:=g.size;have rp':=rp.gb g7 (by intro q hq _ e;have:=hok q hq;cases e;omega);have rl':=rl.gb g7 (by intro q hq _ e;have:=hok q hq;cases e;omega);have hV:VE (AD w.heap.size) (W.alloc (Obj.cells #[Value.int IntKind.i64 x.h.op,str x.h.s,Value.int IntKind.i64 x.h.vk,Value.int IntKind.i64 x.h.vn,str x.h.vs,Value.slice pa x.h.p.length pc,Value.slice la x.kids.len lc] 27)) (exV (hd0 op s) (.slice none 0 0) (.slice (some ⟨w1.heap.size,0,none⟩) 1 1)) ⟨hd0 op s,.one x⟩:=
  VE.node (f:= .one x) (RepL.one (ok:=AD w.heap.size) (n:=w1.heap.size) hsz.symm (by show w.heap.size≤_;omega) (rp'.mono (by intro q hq _;have:=hok q hq;show w.heap.size≤q;omega)) (rl'.mono (by intro q hq _;have:=hok q hq;show w.heap.size≤q;omega)))
 exact Post.ok (Aa (AN g g7 (.inr (Nat.le_refl _))) _) hr hV ((hp.gb g7 (by intro q e;cases e;omega)).alloc _)
theorem MM{unf:Nat→Res Ex}(hun:CE 244 b tv wv l wl unf):∀m,CE 206 b tv wv l wl (AI l unf m):=by
 intro m;induction m with
 |zero=>intro w i h ho;exact absurd rfl ho
 |succ m ih=>
 intro w i h ho;have hb:=h.lt;have g0:w.grownBy (w.alloc (.cells zeroE.toArray 27 (0,0))) (some b):=Aa (Ac _ _) _;have hB:=Blk.new w zeroE 27;have h0:=h.alloc (.cells zeroE.toArray 27 (0,0));have H:=I (X hun (X ih ho));clear hun ih ho;generalize hR:AI l unf (m+1) i=R at*;have hR':(unf i).bind (fun x j=>if(As l 5 j).isEmpty then .ok x j else(AI l unf m (j+1)).bind fun y k=> .ok (AK (As l 5 j) x y) k)=R:=by rw[←hR];rfl
 have HR:=I hR';clear hR hR';go_enter func206,ntmps206;go_wp2_with fail;have hw0:w.heap.size<(w.alloc (.cells zeroE.toArray 27 (0,0))).heap.size:=by simp
 refine(H.out.1 _ _ h0 (fun e=>H.out.2.2 (by rw[←HR.out,e];rfl))).mono ?_;rintro e w1 ⟨g1,h1⟩;cases ho:unf i with
 |out=>rw[ho]at h1;exact h1.elim
 | bad q=>
   rw[ho]at h1;subst h1;exact⟨rfl,Post.bad (O g0 g1) (by rw[←HR.out,ho];rfl)⟩
 | ok x j=>
   rw[ho]at h1;obtain⟨v,rfl,⟨pa,pc,la,lc,rfl,rp,rl⟩,h1⟩:=h1;have hb1:=h1.lt;have hs1:=g1.size;have HV:=I (VE.mono (ok':=fun g=>w.heap.size<g∧g≠w1.heap.size) (⟨_,_,_,_,rfl,rp,rl⟩:VE (AD _) w1 _ x) (by intro q hq hq2;have:(w.alloc (.cells zeroE.toArray 27 (0,0))).heap.size≤q:=hq;exact⟨by omega,by omega⟩));clear rp rl;have hZ:=hB.gb g1 (by simp;omega);have gA:=Aa (O g0 g1) (.cells (hdC x.h (.slice pa x.h.p.length pc) (.slice la x.kids.len lc)).toArray 27 (0,0));have hA:=h1.alloc (.cells (hdC x.h (.slice pa x.h.p.length pc) (.slice la x.kids.len lc)).toArray 27 (0,0));have hL:=Blk.new w1 (hdC x.h (.slice pa x.h.p.length pc) (.slice la x.kids.len lc)) 27;go_wp2_with fail;refine(DN hA 5 (by decide)).mono ?_;rintro e wr ⟨rfl,g2,h2⟩;have g12:w1.grownBy wr (some b):=O (Aa (Ac _ _) _) g2;have gr:=O gA g2;have hL2:=hL.gb g2 (by simp;omega);have hZ2:=(hZ.gb g12 (by simp;omega));have HV2:=I (HV.out.gb g12 (by intro q hq _ e;cases e;omega));have hwr:=gr.size;have hLb:=hL2.lt;clear gA hA hL g2 hB hZ g0 h0 HV;obtain⟨cl_0,cl_1,cl_2,cl_3,cl_4,cl_5,cl_6,cl_f⟩:=(hL2).c7;by_cases he:As l 5 j=[]
   ·rw[he,DD]at h2;have HQ:=I (show R= .ok x j by rw[←HR.out,ho];simp[Res.bind,he]);rw[he];clear he;obtain⟨cz_0,cz_1,cz_2,cz_3,cz_4,cz_5,cz_6,cz_f⟩:=(hZ2).c7;go_wp2;have g7:=Av wr w.heap.size (.int .i64 x.h.op) (str x.h.s) (.int .i64 x.h.vk) (.int .i64 x.h.vn) (str x.h.vs) (.slice pa x.h.p.length pc) (.slice la x.kids.len lc);exact bodyPost_ret (A3 rfl _ (hZ2.set7 _ _ _ _ _ _ _) rfl) rfl (AT hb HQ.out gr HV2.out (by intro k hk;exact hk.1) h2 g7)
   ·rw[DW he]at h2;have hs0:(As l 5 j==[])=false:=by simpa using he
    have hs2:(As l 5 j).isEmpty=false:=by simpa using he
    have HQ:=I (show(AI l unf m (j+1)).bind (fun y k=> .ok (AK (As l 5 j) x y) k)=R by rw[←HR.out,ho];simp[Res.bind,he]);clear he;generalize hO:As l 5 j=o at*;clear hO;cases ho2:AI l unf m (j+1)with
    |out=>exact absurd (show R= .out by rw[←HQ.out,ho2];rfl) H.out.2.2
    | bad q=>
      go_wp2_with fail;go_region_with(go_at_call 206;refine(H.out.2.1 _ _ (h2.gbN (Aj (Ac _ _))) (by rw[ho2];simp)).mono ?_;rintro e w4 ⟨g4,h4⟩;rw[ho2]at h4;subst h4;refine DQ (P:=Tryz.prog) ⟨rfl,Post.bad (O (Aj gr) g4) (by rw[←HQ.out,ho2];rfl)⟩ ⟨#[],[]⟩ w4 ?_);all_goals trivial
    | ok z q=>
      go_wp2_with fail;go_region_with(first| (go_at_call 206;refine(H.out.2.1 _ _ (h2.gbN (Aj (Ac _ _))) (by rw[ho2];simp)).mono ?_;rintro e w4 ⟨g4,h4⟩;rw[ho2]at h4;obtain⟨v,rfl,hv,h4⟩:=h4;have hg4:=O (Aj (Ac wr (some b))) g4;have hL4:=hL2.gb hg4 (by simp;omega);obtain⟨dl_0,dl_1,dl_2,dl_3,dl_4,dl_5,dl_6,dl_f⟩:=(hL4).c7;have hok:∀q,w4.heap.size≤q→w.heap.size<q∧q≠w1.heap.size:=(fun q hq=>by have:=hL4.lt;exact⟨by omega,by omega⟩);have hy:VE (fun g=>w.heap.size<g∧g≠w1.heap.size) w4 _ x:=HV2.out.gb hg4 (fun q hq _ e=>by cases e;omega);have hz:VE (fun g=>w.heap.size<g∧g≠w1.heap.size) w4 v z:=hv.mono (fun q hq _=>⟨by have:wr.heap.size≤q:=hq;omega,by have:wr.heap.size≤q:=hq;omega⟩))| (go_at_call 160;refine(Eh o x z _ _ hok hy hz).mono ?_;rintro e w5 ⟨u,rfl,hu,g5⟩;obtain⟨ua,uc,va,vc,rfl,ru,rv⟩:=hu;have hL5:=hL4.gb g5 (by simp);obtain⟨el_0,el_1,el_2,el_3,el_4,el_5,el_6,el_f⟩:=(hL5).c7));all_goals
       generalize hbe:AK o x z=bz at*;have HBE:=I hbe;have g7:=Av w5 w1.heap.size (.int .i64 bz.h.op) (str bz.h.s) (.int .i64 bz.h.vk) (.int .i64 bz.h.vn) (str bz.h.vs) (.slice ua bz.h.p.length uc) (.slice va bz.kids.len vc);have hL7:=hL5.set7 (.int .i64 bz.h.op) (str bz.h.s) (.int .i64 bz.h.vk) (.int .i64 bz.h.vn) (str bz.h.vs) (.slice ua bz.h.p.length uc) (.slice va bz.kids.len vc);have h7:=(h4.gbN g5).gb g7 (by intro q e;cases e;omega);have hV7:VE (fun g=>w.heap.size<g∧g≠w1.heap.size) _ _ bz:=VE.gb ⟨_,_,_,_,rfl,ru,rv⟩ g7 (by intro q hq _ e;cases e;exact hq.2 rfl);have gW:=AN (Ae (O (Aj gr) g4) g5) g7 (.inr (by omega));have hZ7:=Blk.gb (Blk.gb (hZ2.gb hg4 (by simp;omega)) g5 (by simp)) g7 (by simp;omega);have hQ:R= .ok bz q:=by rw[←HQ.out,ho2,←hbe];rfl
       simp only[set7]at hL7 h7 hV7 gW hZ7;clear g7 ru rv hy hz hok hbe cl_0 cl_1 cl_2 cl_3 cl_4 cl_5 cl_6 cl_f dl_0 dl_1 dl_2 dl_3 dl_4 dl_5 dl_6 dl_f el_0 el_1 el_2 el_3 el_4 el_5 el_6 el_f hL4 hL5 hL2 hZ2 hs0 hs2;generalize(((((((w5.setCell {block:=w1.heap.size,off:=0} (.int .i64 bz.h.op)).setCell {block:=w1.heap.size,off:=1} (.string {data:=List.toArray bz.h.s})).setCell {block:=w1.heap.size,off:=2} (.int .i64 bz.h.vk)).setCell {block:=w1.heap.size,off:=3} (.int .i64 bz.h.vn)).setCell {block:=w1.heap.size,off:=4} (.string {data:=List.toArray bz.h.vs})).setCell {block:=w1.heap.size,off:=5} (.slice ua bz.h.p.length uc)).setCell {block:=w1.heap.size,off:=6} (.slice va bz.kids.len vc))=W at*;have HF:=I (X h7 (X hV7 (X gW hQ)));clear h7 hV7 gW hQ;obtain⟨cl_0,cl_1,cl_2,cl_3,cl_4,cl_5,cl_6,cl_f⟩:=(hL7).c7;obtain⟨cz_0,cz_1,cz_2,cz_3,cz_4,cz_5,cz_6,cz_f⟩:=(hZ7).c7;go_wp2;have g7:=Av W w.heap.size (.int .i64 bz.h.op) (str bz.h.s) (.int .i64 bz.h.vk) (.int .i64 bz.h.vn) (str bz.h.vs) (.slice ua bz.h.p.length uc) (.slice va bz.kids.len vc);obtain⟨h7,hV7,gW,hQ⟩:=HF.out;exact bodyPost_ret (A3 rfl _ (hZ7.set7 _ _ _ _ _ _ _) rfl) rfl (AT hb hQ gW hV7 (by intro k hk;exact hk.1) h7 g7)
theorem MG{sumf:Nat→Res Ex}(hsum:CE 162 b tv wv l wl sumf):∀m,CE 110 b tv wv l wl (AL l sumf m):=by
 intro m;induction m with
 |zero=>intro w i h ho;exact absurd rfl ho
 |succ m ih=>
 intro w i h ho;have hb:=h.lt;have gz:w.grownBy (w.alloc (.cells zeroE.toArray 27 (0,0))) (some b):=Aa (Ac _ _) _;have hz:=Blk.new w zeroE 27;have hp:=h.alloc (.cells zeroE.toArray 27 (0,0));by_cases hn1:Ad (Z l i) [46,78,79,84,46]=true
 ·have H:=I (X ih ho);have HN:=I (X True.intro hn1);generalize hR:AL l sumf (m+1) i=R at*;have hR':(AL l sumf m (i+1)).bind (fun x j=> .ok (unE [46,78,79,84,46] x) j)=R:=by rw[←hR];simp[AL,hn1]
  have HR:=I hR';clear hR hR' hn1 hsum ih ho;go_enter func110,ntmps110;go_wp2_with fail;refine(Bj hp _ HN.out.2).mono ?_;rintro e wb ⟨rfl,h0,gb⟩;have g0:w.grownBy wb (some b):=O gz gb;have hB:=Blk.gb hz gb (by simp;omega);have hw0:w.heap.size<wb.heap.size:=by have:=gb.size;simp at*;omega
  clear hz hp gb gz;go_wp2_with fail;refine(H.out.1 _ _ h0 (fun e=>H.out.2 (by rw[←HR.out,e];rfl))).mono ?_;rintro e w1 ⟨g1,h1⟩;cases ho:AL l sumf m (i+1)with
  |out=>rw[ho]at h1;exact h1.elim
  | bad q=>
    rw[ho]at h1;subst h1;exact⟨rfl,Post.bad (O g0 g1) (by rw[←HR.out,ho];rfl)⟩
  | ok x j=>
    rw[ho]at h1;obtain⟨v,rfl,⟨pa,pc,la,lc,rfl,rp,rl⟩,h1⟩:=h1;have hs1:=g1.size;have hb1:=h1.lt;have hlt1:w.heap.size<w1.heap.size:=by omega
    have hZ:=hB.gb g1 (by simp;omega);have hQ:R= .ok (unE [46,78,79,84,46] x) j:=by rw[←HR.out,ho];rfl
    have H2:=I (X rp (X rl hQ));clear rp rl hQ hB h0;obtain⟨cz_0,cz_1,cz_2,cz_3,cz_4,cz_5,cz_6,cz_f⟩:=(hZ).c7;go_wp2;obtain⟨rp,rl,hQ⟩:=H2.out;have g7:=Av w1 w.heap.size (.int .i64 4) (str [46,78,79,84,46]) (.int .i64 0) (.int .i64 0) (str []) (.slice none 0 0) (.slice (some ⟨w1.heap.size,0,none⟩) 1 1);have hW:=hZ.set7 (.int .i64 4) (str [46,78,79,84,46]) (.int .i64 0) (.int .i64 0) (str []) (.slice none 0 0) (.slice (some ⟨w1.heap.size,0,none⟩) 1 1);have hsz:(set7 w1 w.heap.size (.int .i64 4) (str [46,78,79,84,46]) (.int .i64 0) (.int .i64 0) (str []) (.slice none 0 0) (.slice (some ⟨w1.heap.size,0,none⟩) 1 1)).heap.size=w1.heap.size:=by simp[set7]
    simp only[set7]at hW g7 hsz;generalize(((((((w1.setCell {block:=w.heap.size,off:=0} (.int .i64 4)).setCell {block:=w.heap.size,off:=1} (str [46,78,79,84,46])).setCell {block:=w.heap.size,off:=2} (.int .i64 0)).setCell {block:=w.heap.size,off:=3} (.int .i64 0)).setCell {block:=w.heap.size,off:=4} (str [])).setCell {block:=w.heap.size,off:=5} (.slice none 0 0)).setCell {block:=w.heap.size,off:=6} (.slice (some ⟨w1.heap.size,0,none⟩) 1 1))=W at*;exact bodyPost_ret (A3 (hd:=hd0 4 [46,78,79,84,46]) (pv:= .slice none 0 0) (lv:= .slice (some ⟨w1.heap.size,0,none⟩) 1 1) rfl _ (Blk.alloc hW (Obj.cells #[Value.int IntKind.i64 x.h.op,str x.h.s,Value.int IntKind.i64 x.h.vk,Value.int IntKind.i64 x.h.vn,str x.h.vs,Value.slice pa x.h.p.length pc,Value.slice la x.kids.len lc] 27)) rfl) rfl (Dh (op:=4) (s:=[46,78,79,84,46]) hb hQ (O g0 g1) rp rl (by intro q hq;have:(wb).heap.size≤q:=hq;omega) h1 g7 hsz)
 have hn1':Ad (Z l i) [46,78,79,84,46]=false:=by simpa using hn1
 by_cases hn2:Ad (Z l i) [33]=true
 ·have H:=I (X ih ho);have HN:=I (X hn1' hn2);generalize hR:AL l sumf (m+1) i=R at*;have hR':(AL l sumf m (i+1)).bind (fun x j=> .ok (unE [46,78,79,84,46] x) j)=R:=by rw[←hR];simp[AL,hn2]
  have HR:=I hR';clear hR hR' hn2 hsum ih ho hn1 hn1';go_enter func110,ntmps110;go_wp2_with fail;refine(Be hp _ HN.out.1).mono ?_;rintro e wa ⟨rfl,ga⟩;have hpa:=hp.gbN ga;go_wp2_with fail;refine(Bj hpa _ HN.out.2).mono ?_;rintro e wb ⟨rfl,h0,gb⟩;have g0:w.grownBy wb (some b):=O (Ae gz ga) gb;have hB:=Blk.gb (hz.gb ga (by simp)) gb (by simp;omega);have hw0:w.heap.size<wb.heap.size:=by have:=ga.size;have:=gb.size;simp at*;omega
  clear hz hp hpa ga gb gz;go_wp2_with fail;refine(H.out.1 _ _ h0 (fun e=>H.out.2 (by rw[←HR.out,e];rfl))).mono ?_;rintro e w1 ⟨g1,h1⟩;cases ho:AL l sumf m (i+1)with
  |out=>rw[ho]at h1;exact h1.elim
  | bad q=>
    rw[ho]at h1;subst h1;exact⟨rfl,Post.bad (O g0 g1) (by rw[←HR.out,ho];rfl)⟩
  | ok x j=>
    rw[ho]at h1;obtain⟨v,rfl,⟨pa,pc,la,lc,rfl,rp,rl⟩,h1⟩:=h1;have hs1:=g1.size;have hb1:=h1.lt;have hlt1:w.heap.size<w1.heap.size:=by omega
    have hZ:=hB.gb g1 (by simp;omega);have hQ:R= .ok (unE [46,78,79,84,46] x) j:=by rw[←HR.out,ho];rfl
    have H2:=I (X rp (X rl hQ));clear rp rl hQ hB h0;obtain⟨cz_0,cz_1,cz_2,cz_3,cz_4,cz_5,cz_6,cz_f⟩:=(hZ).c7;go_wp2;obtain⟨rp,rl,hQ⟩:=H2.out;have g7:=Av w1 w.heap.size (.int .i64 4) (str [46,78,79,84,46]) (.int .i64 0) (.int .i64 0) (str []) (.slice none 0 0) (.slice (some ⟨w1.heap.size,0,none⟩) 1 1);have hW:=hZ.set7 (.int .i64 4) (str [46,78,79,84,46]) (.int .i64 0) (.int .i64 0) (str []) (.slice none 0 0) (.slice (some ⟨w1.heap.size,0,none⟩) 1 1);have hsz:(set7 w1 w.heap.size (.int .i64 4) (str [46,78,79,84,46]) (.int .i64 0) (.int .i64 0) (str []) (.slice none 0 0) (.slice (some ⟨w1.heap.size,0,none⟩) 1 1)).heap.size=w1.heap.size:=by simp[set7]
    simp only[set7]at hW g7 hsz;generalize(((((((w1.setCell {block:=w.heap.size,off:=0} (.int .i64 4)).setCell {block:=w.heap.size,off:=1} (str [46,78,79,84,46])).setCell {block:=w.heap.size,off:=2} (.int .i64 0)).setCell {block:=w.heap.size,off:=3} (.int .i64 0)).setCell {block:=w.heap.size,off:=4} (str [])).setCell {block:=w.heap.size,off:=5} (.slice none 0 0)).setCell {block:=w.heap.size,off:=6} (.slice (some ⟨w1.heap.size,0,none⟩) 1 1))=W at*;exact bodyPost_ret (A3 (hd:=hd0 4 [46,78,79,84,46]) (pv:= .slice none 0 0) (lv:= .slice (some ⟨w1.heap.size,0,none⟩) 1 1) rfl _ (Blk.alloc hW (Obj.cells #[Value.int IntKind.i64 x.h.op,str x.h.s,Value.int IntKind.i64 x.h.vk,Value.int IntKind.i64 x.h.vn,str x.h.vs,Value.slice pa x.h.p.length pc,Value.slice la x.kids.len lc] 27)) rfl) rfl (Dh (op:=4) (s:=[46,78,79,84,46]) hb hQ (O g0 g1) rp rl (by intro q hq;have:(wb).heap.size≤q:=hq;omega) h1 g7 hsz)
 have hn2':Ad (Z l i) [33]=false:=by simpa using hn2
 have H:=I (X hsum (X hsum ho));have HN:=I (X hn1' hn2');generalize hR:AL l sumf (m+1) i=R at*;have hR':(sumf i).bind (fun x j=>if(As l 2 j).isEmpty then .ok x j else(sumf (j+1)).bind fun y k=> .ok (AK (As l 2 j) x y) k)=R:=by rw[←hR];simp[AL,hn1',hn2']
 have HR:=I hR';clear hR hR' hn1 hn2 hn1' hn2' hsum ih ho;go_enter func110,ntmps110;go_wp2_with fail;refine(Be hp _ HN.out.1).mono ?_;rintro e wa ⟨rfl,ga⟩;have hpa:=hp.gbN ga;go_wp2_with fail;refine(Be hpa _ HN.out.2).mono ?_;rintro e wb ⟨rfl,gb⟩;have h0:=hpa.gbN gb;have g0:w.grownBy wb (some b):=Ae (Ae gz ga) gb;have hB:=Blk.gb (hz.gb ga (by simp)) gb (by simp);have hw0:w.heap.size<wb.heap.size:=by have:=ga.size;have:=gb.size;simp at*;omega
 clear hz hp hpa ga gb gz;go_wp2_with fail;refine(H.out.1 _ _ h0 (fun e=>H.out.2.2 (by rw[←HR.out,e];rfl))).mono ?_;rintro e w1 ⟨g1,h1⟩;cases ho:sumf i with
 |out=>rw[ho]at h1;exact h1.elim
 | bad q=>
   rw[ho]at h1;subst h1;exact⟨rfl,Post.bad (O g0 g1) (by rw[←HR.out,ho];rfl)⟩
 | ok x j=>
   rw[ho]at h1;obtain⟨v,rfl,⟨pa,pc,la,lc,rfl,rp,rl⟩,h1⟩:=h1;have hb1:=h1.lt;have hs1:=g1.size;have HV:=I (VE.mono (ok':=fun g=>w.heap.size<g∧g≠w1.heap.size) (⟨_,_,_,_,rfl,rp,rl⟩:VE (AD _) w1 _ x) (by intro q hq hq2;have:(wb).heap.size≤q:=hq;exact⟨by omega,by omega⟩));clear rp rl;have hZ:=hB.gb g1 (by simp;omega);have gA:=Aa (O g0 g1) (.cells (hdC x.h (.slice pa x.h.p.length pc) (.slice la x.kids.len lc)).toArray 27 (0,0));have hA:=h1.alloc (.cells (hdC x.h (.slice pa x.h.p.length pc) (.slice la x.kids.len lc)).toArray 27 (0,0));have hL:=Blk.new w1 (hdC x.h (.slice pa x.h.p.length pc) (.slice la x.kids.len lc)) 27;go_wp2_with fail;refine(DN hA 2 (by decide)).mono ?_;rintro e wr ⟨rfl,g2,h2⟩;have g12:w1.grownBy wr (some b):=O (Aa (Ac _ _) _) g2;have gr:=O gA g2;have hL2:=hL.gb g2 (by simp;omega);have hZ2:=(hZ.gb g12 (by simp;omega));have HV2:=I (HV.out.gb g12 (by intro q hq _ e;cases e;omega));have hwr:=gr.size;have hLb:=hL2.lt;clear gA hA hL g2 hB hZ g0 h0 HV;obtain⟨cl_0,cl_1,cl_2,cl_3,cl_4,cl_5,cl_6,cl_f⟩:=(hL2).c7;by_cases he:As l 2 j=[]
   ·rw[he,DD]at h2;have HQ:=I (show R= .ok x j by rw[←HR.out,ho];simp[Res.bind,he]);rw[he];clear he;obtain⟨cz_0,cz_1,cz_2,cz_3,cz_4,cz_5,cz_6,cz_f⟩:=(hZ2).c7;go_wp2;have g7:=Av wr w.heap.size (.int .i64 x.h.op) (str x.h.s) (.int .i64 x.h.vk) (.int .i64 x.h.vn) (str x.h.vs) (.slice pa x.h.p.length pc) (.slice la x.kids.len lc);exact bodyPost_ret (A3 rfl _ (hZ2.set7 _ _ _ _ _ _ _) rfl) rfl (AT hb HQ.out gr HV2.out (by intro k hk;exact hk.1) h2 g7)
   ·rw[DW he]at h2;have hs0:(As l 2 j==[])=false:=by simpa using he
    have hs2:(As l 2 j).isEmpty=false:=by simpa using he
    have HQ:=I (show(sumf (j+1)).bind (fun y k=> .ok (AK (As l 2 j) x y) k)=R by rw[←HR.out,ho];simp[Res.bind,he]);clear he;generalize hO:As l 2 j=o at*;clear hO;cases ho2:sumf (j+1)with
    |out=>exact absurd (show R= .out by rw[←HQ.out,ho2];rfl) H.out.2.2
    | bad q=>
      go_wp2_with fail;go_region_with(go_at_call 162;refine(H.out.2.1 _ _ (h2.gbN (Aj (Ac _ _))) (by rw[ho2];simp)).mono ?_;rintro e w4 ⟨g4,h4⟩;rw[ho2]at h4;subst h4;refine DQ (P:=Tryz.prog) ⟨rfl,Post.bad (O (Aj gr) g4) (by rw[←HQ.out,ho2];rfl)⟩ ⟨#[],[]⟩ w4 ?_);all_goals trivial
    | ok z q=>
      go_wp2_with fail;go_region_with(first| (go_at_call 162;refine(H.out.2.1 _ _ (h2.gbN (Aj (Ac _ _))) (by rw[ho2];simp)).mono ?_;rintro e w4 ⟨g4,h4⟩;rw[ho2]at h4;obtain⟨v,rfl,hv,h4⟩:=h4;have hg4:=O (Aj (Ac wr (some b))) g4;have hL4:=hL2.gb hg4 (by simp;omega);obtain⟨dl_0,dl_1,dl_2,dl_3,dl_4,dl_5,dl_6,dl_f⟩:=(hL4).c7;have hok:∀q,w4.heap.size≤q→w.heap.size<q∧q≠w1.heap.size:=(fun q hq=>by have:=hL4.lt;exact⟨by omega,by omega⟩);have hy:VE (fun g=>w.heap.size<g∧g≠w1.heap.size) w4 _ x:=HV2.out.gb hg4 (fun q hq _ e=>by cases e;omega);have hz:VE (fun g=>w.heap.size<g∧g≠w1.heap.size) w4 v z:=hv.mono (fun q hq _=>⟨by have:wr.heap.size≤q:=hq;omega,by have:wr.heap.size≤q:=hq;omega⟩))| (go_at_call 160;refine(Eh o x z _ _ hok hy hz).mono ?_;rintro e w5 ⟨u,rfl,hu,g5⟩;obtain⟨ua,uc,va,vc,rfl,ru,rv⟩:=hu;have hL5:=hL4.gb g5 (by simp);obtain⟨el_0,el_1,el_2,el_3,el_4,el_5,el_6,el_f⟩:=(hL5).c7));all_goals
       generalize hbe:AK o x z=bz at*;have HBE:=I hbe;have g7:=Av w5 w1.heap.size (.int .i64 bz.h.op) (str bz.h.s) (.int .i64 bz.h.vk) (.int .i64 bz.h.vn) (str bz.h.vs) (.slice ua bz.h.p.length uc) (.slice va bz.kids.len vc);have hL7:=hL5.set7 (.int .i64 bz.h.op) (str bz.h.s) (.int .i64 bz.h.vk) (.int .i64 bz.h.vn) (str bz.h.vs) (.slice ua bz.h.p.length uc) (.slice va bz.kids.len vc);have h7:=(h4.gbN g5).gb g7 (by intro q e;cases e;omega);have hV7:VE (fun g=>w.heap.size<g∧g≠w1.heap.size) _ _ bz:=VE.gb ⟨_,_,_,_,rfl,ru,rv⟩ g7 (by intro q hq _ e;cases e;exact hq.2 rfl);have gW:=AN (Ae (O (Aj gr) g4) g5) g7 (.inr (by omega));have hZ7:=Blk.gb (Blk.gb (hZ2.gb hg4 (by simp;omega)) g5 (by simp)) g7 (by simp;omega);have hQ:R= .ok bz q:=by rw[←HQ.out,ho2,←hbe];rfl
       simp only[set7]at hL7 h7 hV7 gW hZ7;clear g7 ru rv hy hz hok hbe cl_0 cl_1 cl_2 cl_3 cl_4 cl_5 cl_6 cl_f dl_0 dl_1 dl_2 dl_3 dl_4 dl_5 dl_6 dl_f el_0 el_1 el_2 el_3 el_4 el_5 el_6 el_f hL4 hL5 hL2 hZ2 hs0 hs2;generalize(((((((w5.setCell {block:=w1.heap.size,off:=0} (.int .i64 bz.h.op)).setCell {block:=w1.heap.size,off:=1} (.string {data:=List.toArray bz.h.s})).setCell {block:=w1.heap.size,off:=2} (.int .i64 bz.h.vk)).setCell {block:=w1.heap.size,off:=3} (.int .i64 bz.h.vn)).setCell {block:=w1.heap.size,off:=4} (.string {data:=List.toArray bz.h.vs})).setCell {block:=w1.heap.size,off:=5} (.slice ua bz.h.p.length uc)).setCell {block:=w1.heap.size,off:=6} (.slice va bz.kids.len vc))=W at*;have HF:=I (X h7 (X hV7 (X gW hQ)));clear h7 hV7 gW hQ;obtain⟨cl_0,cl_1,cl_2,cl_3,cl_4,cl_5,cl_6,cl_f⟩:=(hL7).c7;obtain⟨cz_0,cz_1,cz_2,cz_3,cz_4,cz_5,cz_6,cz_f⟩:=(hZ7).c7;go_wp2;have g7:=Av W w.heap.size (.int .i64 bz.h.op) (str bz.h.s) (.int .i64 bz.h.vk) (.int .i64 bz.h.vn) (str bz.h.vs) (.slice ua bz.h.p.length uc) (.slice va bz.kids.len vc);obtain⟨h7,hV7,gW,hQ⟩:=HF.out;exact bodyPost_ret (A3 rfl _ (hZ7.set7 _ _ _ _ _ _ _) rfl) rfl (AT hb hQ gW hV7 (by intro k hk;exact hk.1) h7 g7)
end
theorem Ib{P:Program}(w:World)(base:Nat)(t ty e:TypeId)(i:TypeInfo)(z:Value)(size bytes:Nat)(ht:P.underlying t=some (.slice e))(hi:P.info? e=some i)(hz:i.zero=some z)
 (hsize:i.size=size) (hby:i.bytes=bytes) (hzs:z.cells.size=size) (hsz:0<size)
 (v:Value) (n:Nat) (xs:List Value) (hown:w.ownsRow base e size v n xs)
 (a:Addr) (m c:Nat) (news:List Value) (hl:news.length=m*size) (hnews:∀j u,news[j]? =some u→w.cell? (a.add j)=some u) (h1:∀u∈news,u.oneCell'=true)
 (h63:n+m≤maxLen) (hbytes:(n+m)*bytes≤140737488355328) (hbase:base≤w.heap.size):
 ∃v' w',(Builtin.append_ #[t,t] ty #[v,.slice (some a) m c]).run P w= .ok v' w'∧w'.ownsRow base e size v' (n+m) (xs++news)∧w.grownBy w' v.ownBlock∧
  (∀k,v'.ownBlock=some k→v.ownBlock=some k∨w.heap.size≤k):=by
 obtain⟨v1,w1,hr1,ho1,hg1,_⟩:=run_append_own (P:=P) w base t ty e i z size bytes ht hi hz hsize hby hzs hsz v n xs hown a m c news hl hnews h1 h63 hbytes hbase;refine⟨v1,w1,hr1,ho1,hg1,fun k hk=>?_⟩;rcases hown.2 with⟨rfl,rfl⟩| ⟨g,cap,cur,rfl,hbg,hg,hnc,hcm,hcs,htake⟩
 ·obtain⟨v2,w2,hr2,ho2,_,_⟩:=run_append_own (P:=P) w w.heap.size t ty e i z size bytes ht hi hz hsize hby hzs hsz _ 0 xs ⟨hown.1,.inl ⟨rfl,rfl⟩⟩ a m c news hl hnews h1 h63 hbytes (Nat.le_refl _);rw[hr1]at hr2;cases hr2;exact .inr (ho2.lt k hk).1
 ·by_cases hroom:n+m≤cap
  ·have hfit:n*i.size+news.length≤cur.size:=by rw[hl,hcs,hsize,←Nat.add_mul];exact Nat.mul_le_mul_right _ hroom
   have hr:=run_append_room (P:=P) w t ty e i ht hi g n cap cur hg a m c news (by rw[hsize];exact hl) hnews h1 hroom hfit;rw[hr1]at hr;cases hr;left;simpa[Value.ownBlock]using hk
  ·have holds:∀j u,xs[j]? =some u→w.cell? ((⟨g,0,none⟩:Addr).add j)=some u:=hown.cells (g:=g) rfl;have hr:=run_append_grow (P:=P) w t ty e i z ht hi hz ⟨g,0,none⟩ n cap xs (by rw[hsize];exact hown.1) holds a m c news (by rw[hsize];exact hl) hnews (by omega) (by unfold maxLen at h63;omega) (by rw[hby];exact growslice_fits (by unfold maxLen at h63;omega) hbytes);rw[hr1]at hr;cases hr;right;simp[Value.ownBlock]at hk;omega
theorem Dg{P:Program}{w:World}{ops:Array Oper}{rest:List Oper}{o:Oper}{a:Act}{Q:Exit→Act→World→Prop}(hgd:o.guard=none)(s x:Operand)(t:TypeId)
 (ho:o.op= .call {callee:= .builtin .append,args:=#[s,x],argTypes:=#[t,t]})
 (base:Nat) (e:TypeId) (i:TypeInfo) (z:Value) (size bytes:Nat) (ht:P.underlying t=some (.slice e)) (hi:P.info? e=some i) (hz:i.zero=some z)
 (hsize:i.size=size) (hby:i.bytes=bytes) (hzs:z.cells.size=size) (hsz:0<size)
 (v:Value) (n:Nat) (xs:List Value) (hs:a.eval s=v) (hown:w.ownsRow base e size v n xs)
 (ad:Addr) (m c:Nat) (news:List Value) (hx:a.eval x= .slice (some ad) m c) (hl:news.length=m*size) (hnews:∀j u,news[j]? =some u→w.cell? (ad.add j)=some u) (h1:∀u∈news,u.oneCell'=true)
 (h63:n+m≤maxLen) (hbytes:(n+m)*bytes≤140737488355328) (hbase:base≤w.heap.size)
 (h:∀v' w',w'.ownsRow base e size v' (n+m) (xs++news)→w.grownBy w' v.ownBlock→(∀k,v'.ownBlock=some k→v.ownBlock=some k∨w.heap.size≤k)→wpList P ops Q rest (a.put o.dst v') w'):wpList P ops Q (o::rest) a w:=by
 refine wpList_plain hgd fun K hK=>?_;obtain⟨v',w',hr,h2,h3,h4⟩:=Ib (P:=P) w base t o.type e i z size bytes ht hi hz hsize hby hzs hsz v n xs hown ad m c news hl hnews h1 h63 hbytes hbase;unfold Oper.wp execOp;simp only[ho,resolve,invoke,builtin,Sem.run_bind,Sem.run_pure,Result.andThen_ok,List.map_toArray,List.map_cons,List.map_nil,hs,hx,hr];exact hK _ _ (h v' w' h2 h3 h4)
theorem Db(w:World)(cs:List Value)(t:TypeId):∀j u,cs[j]? =some u→(w.alloc (.cells cs.toArray t (0,0))).cell? ((⟨w.heap.size,0,none⟩:Addr).add j)=some u:=by
 intro j u h;have e:(⟨w.heap.size,0,none⟩:Addr).add j=⟨w.heap.size,j,none⟩:=by unfold Addr.add;split<;>simp_all
 rw[e];exact(Blk.new w cs t).cell' j h
theorem OwnF.snoc{w w1:World}{B n:Nat}{v v':Value}{f:Fo}{x:Ex}{cs:List Value}{pa la:Option Addr}{pc lc:Nat}{okx:Nat→Prop}
 (hf:RepF (fun g=>B≤g∧v.ownBlock≠some g) w f cs) (hn:n=f.len)
 (rp:Cells w (.slice pa x.h.p.length pc) 1 x.h.p.length (x.h.p.map str) okx) (rl:RepL okx w (.slice la x.kids.len lc) x.kids) (hokx:∀k,okx k→B≤k∧v.ownBlock≠some k)
 (ho:w1.ownsRow B 27 7 v' (n+1) (cs++hdC x.h (.slice pa x.h.p.length pc) (.slice la x.kids.len lc))) (hg:w.grownBy w1 v.ownBlock) (hnew:∀k,v'.ownBlock=some k→v.ownBlock=some k∨w.heap.size≤k):
 OwnF w1 B v' (f.snoc x):=by
 subst hn;refine⟨_,by rw[Fo.len_snoc];exact ho,?_⟩;have h1:RepF (fun g=>B≤g∧v.ownBlock≠some g) w (f.snoc x) (cs++hdC x.h (.slice pa x.h.p.length pc) (.slice la x.kids.len lc)):=
  hf.app (VE.rep (rp.mono fun k hk _=>hokx k hk) (rl.mono fun k hk _=>hokx k hk))
 have h2:=RepF.mono (ok':=fun g=>B≤g∧v.ownBlock≠some g∧v'.ownBlock≠some g) (fun k hk hlt=>⟨hk.1,hk.2,fun e=>by
  rcases hnew k e with h|h
  ·exact hk.2 h
  ·omega⟩) h1
 exact(h2.gb hg fun k hk _ e=>hk.2.1 e.symm).mono fun k hk _=>⟨hk.1,hk.2.2⟩
theorem CX:(Tryz.prog.info? 27).map (fun i=>(i.zero,i.size,i.bytes))=some (some (.agg #[.int .i64 0,str [],.int .i64 0,.int .i64 0,str [],.slice none 0 0,.slice none 0 0]),7,104):=by kernel_rfl
theorem ED:(Tryz.prog.info? 9).map (fun i=>(i.zero,i.size,i.bytes))=some (some (str []),1,16):=by kernel_rfl
theorem Mt:(Tryz.prog.info? 105).map (fun i=>(i.zero,i.size,i.bytes))=some (some (.agg #[.int .i64 0,.int .i64 0,str []]),3,32):=by kernel_rfl
def BQ(l m:List Bs):Bool:=decide (l=m)
def AZ(h k:Hd):Bool:=decide (h=k)
def AC:Fo→Fo→Bool
 | .nil,.nil=>true
 | .cons h k n,.cons h' k' n'=>(AZ h h'&&AC k k')&&AC n n'
 |_,_=>false
theorem Ga:∀{f g:Fo},AC f g=true→f.len=g.len:=by
 intro f;induction f with
 |nil=>intro g h;cases g with|nil=>rfl|cons=>cases h
 | cons hd kids next ih1 ih2=>
   intro g h;cases g with
   |nil=>cases h
   | cons h' k' n'=>
     simp only[AC,Bool.and_eq_true]at h;simp[Fo.len,ih2 h.2]
theorem Kt:∀f:Fo,AC f f=true:=by
 intro f;induction f with
 |nil=>rfl
 |cons hd kids next ih1 ih2=>simp[AC,AZ,ih1,ih2]
theorem FF(h k:Hd):AZ h k=(h.op==k.op&&h.s==k.s&&((h.vk==k.vk&&h.vn==k.vn)&&h.vs==k.vs)&&BQ h.p k.p):=by
 cases h;cases k;rw[Bool.eq_iff_iff];simp[AZ,BQ,and_assoc]
theorem Cells.at1{w:World}{pa:Option Addr}{n pc:Nat}{l:List Bs}{ok:Nat→Prop}(h:Cells w (.slice pa n pc) 1 l.length (l.map str) ok):n=l.length∧∀k,k<l.length→∃g o,pa=some ⟨g,o,none⟩∧w.cell? ⟨g,o+k,none⟩=some (str (l.getD k [])):=by
 obtain⟨a,cap,e,_,_,_,h4⟩:=h;cases e;refine⟨rfl,fun k hk=>?_⟩;obtain⟨g,o,e,_,hc⟩:=h4 k (str (l.getD k [])) (by simp[List.getD,List.getElem?_eq_getElem hk]);exact⟨g,o,e,hc⟩
theorem F0{l m:List Bs}(h:l.length≠m.length):BQ l m=false:=by
 unfold BQ;simp;rintro rfl;exact h rfl
theorem FA{l m:List Bs}{k:Nat}(h:l.getD k []≠m.getD k []):BQ l m=false:=by
 unfold BQ;simp;rintro rfl;exact h rfl
theorem Fz{l m:List Bs}(hn:l.length=m.length)(h:∀j,j<l.length→l.getD j []=m.getD j []):BQ l m=true:=by
 unfold BQ;simp;apply List.ext_getElem hn;intro j h1 h2;have:=h j h1;simpa[List.getD,List.getElem?_eq_getElem h1,List.getElem?_eq_getElem h2]using this
theorem Hp{w:World}{pa pb:Option Addr}{pc pd:Nat}{l m:List Bs}{ok ok':Nat→Prop}(h1:Cells w (.slice pa l.length pc) 1 l.length (l.map str) ok)(h2:Cells w (.slice pb m.length pd) 1 m.length (m.map str) ok'):
 Calls Tryz.prog 32 #[.slice pa l.length pc,.slice pb m.length pd] w fun e w'=>e= .returned (.bool (BQ l m))∧w.grownBy w' none:=by
 have hc1:=h1.at1.2;have hc2:=h2.at1.2;have hl:l.length≤maxLen:=by obtain⟨_,_,e,h3,h4,_⟩:=h1;omega
 unfold maxLen at hl;clear h1 h2;by_cases hn:l.length=m.length
 ·have HC:=I (X hc1 hc2);clear hc1 hc2;have hnI:((l.length:Int) !=(m.length:Int))=false:=by simp;omega
  have hnI2:((l.length:Int)==(m.length:Int))=true:=by simp;omega
  have HN:=I hn;clear hn;go_enter func32,ntmps32;go_wp2_with fail;go_loopg [5] l.length (fun g v5 wr=>∃k:Nat,k+g=l.length∧v5= .int .i64 k∧(∀j,j<k→l.getD j []=m.getD j [])∧w.grownBy wr none)
  case atStart=>exact⟨0,by omega,rfl,fun j hj=>by omega,Ac _ _⟩
  case round=>
   obtain⟨k,hg,rfl,hp,hgr⟩:=hrel;by_cases hk:k<l.length
   ·obtain⟨g1,o1,rfl,c1⟩:=HC.out.1 k hk;obtain⟨g2,o2,rfl,c2⟩:=HC.out.2 k (by have:=HN.out;omega);have d1:=Ab hgr c1;have d2:=Ab hgr c2;have hkm:k<m.length:=by have:=HN.out;omega
    have hkI:decide (k<l.length)=true:=by simpa using hk
    have HP:=I hp;have HG:=I hgr;clear hp hgr c1 c2;generalize hs1:l.getD k []=s at*;generalize hs2:m.getD k []=t at*;by_cases he:s=t
    ·have HE:=I (show l.getD k []=m.getD k []by rw[hs1,hs2,he]);have he1:(s==t)=true:=by simpa using he
     have he2:(s !=t)=false:=by simpa using he
     clear he hs1 hs2;go_wp2_with fail;go_quiet(fail);go_wp2;go_roundg (l.length-(k+1))
     case measure=>omega
     case rel=>exact⟨k+1,by omega,by go_num,fun j hj=>by rcases Nat.lt_succ_iff_lt_or_eq.1 hj with h|rfl;exact HP.out j h;exact HE.out,AH HG.out _⟩
    ·have HE:=I (FA (l:=l) (m:=m) (k:=k) (by rw[hs1,hs2];exact he));have he1:(s==t)=false:=by simpa using he
     have he2:(s !=t)=true:=by simpa using he
     clear he hs1 hs2;go_wp2_with fail;go_quiet(fail);go_wp2;go_ret;exact⟨by rw[HE.out];rfl,AH HG.out _⟩
   ·have hkI:decide (k<l.length)=false:=by simpa using hk
    have HE:=I (Fz HN.out (fun j hj=>hp j (by omega)));have HG:=I hgr;clear hp hgr;go_wp2;go_ret;exact⟨by rw[HE.out];rfl,HG.out⟩
 ·have hnI:((l.length:Int) !=(m.length:Int))=true:=by simp;omega
  have hnI2:((l.length:Int)==(m.length:Int))=false:=by simp;omega
  have HN:=I (F0 hn);clear hn hc1 hc2;go_enter func32,ntmps32;go_wp2;go_ret;exact⟨by rw[HN.out];rfl,(by repeat(first| (with_reducible exact Ac _ _)| (with_reducible assumption)| (with_reducible exact AW (by assumption))| (with_reducible refine Aa ?_ _)| (with_reducible refine Aj ?_)| (with_reducible refine AH ?_ _)| ((with_reducible refine Ax ?_ _ _ ?h2);case h2=>first|exact .inl rfl|exact .inr (Nat.le_refl _)|exact .inr (by simp<;>omega))| (with_reducible refine Ae ?_ (by assumption))| (with_reducible refine O ?_ (by assumption))))⟩
theorem Hr{w:World}{pa pb:Option Addr}{pc pd:Nat}{l m:List Bs}{ok ok':Nat→Prop}(h1:Cells w (.slice pa l.length pc) 1 l.length (l.map str) ok)(h2:Cells w (.slice pb m.length pd) 1 m.length (m.map str) ok'):
 Calls Tryz.prog 38 #[.slice pa l.length pc,.slice pb m.length pd] w fun e w'=>e= .returned (.bool (BQ l m))∧w.grownBy w' none:=by
 have hc1:=h1.at1.2;have hc2:=h2.at1.2;have hl:l.length≤maxLen:=by obtain⟨_,_,e,h3,h4,_⟩:=h1;omega
 unfold maxLen at hl;clear h1 h2;by_cases hn:l.length=m.length
 ·have HC:=I (X hc1 hc2);clear hc1 hc2;have hnI:((l.length:Int) !=(m.length:Int))=false:=by simp;omega
  have hnI2:((l.length:Int)==(m.length:Int))=true:=by simp;omega
  have HN:=I hn;clear hn;go_enter func38,ntmps38;go_wp2_with fail;go_loopg [13] l.length (fun g v13 wr=>∃k:Nat,k+g=l.length∧v13= .int .i64 k∧(∀j,j<k→l.getD j []=m.getD j [])∧w.grownBy wr none)
  case atStart=>exact⟨0,by omega,rfl,fun j hj=>by omega,Ac _ _⟩
  case round=>
   obtain⟨k,hg,rfl,hp,hgr⟩:=hrel;by_cases hk:k<l.length
   ·obtain⟨g1,o1,rfl,c1⟩:=HC.out.1 k hk;obtain⟨g2,o2,rfl,c2⟩:=HC.out.2 k (by have:=HN.out;omega);have d1:=Ab hgr c1;have d2:=Ab hgr c2;have hkm:k<m.length:=by have:=HN.out;omega
    have hkI:decide (k<l.length)=true:=by simpa using hk
    have HP:=I hp;have HG:=I hgr;clear hp hgr c1 c2;generalize hs1:l.getD k []=s at*;generalize hs2:m.getD k []=t at*;by_cases he:s=t
    ·have HE:=I (show l.getD k []=m.getD k []by rw[hs1,hs2,he]);have he1:(s==t)=true:=by simpa using he
     have he2:(s !=t)=false:=by simpa using he
     clear he hs1 hs2;go_wp2_with fail;go_quiet(fail);go_wp2;go_roundg (l.length-(k+1))
     case measure=>omega
     case rel=>exact⟨k+1,by omega,by go_num,fun j hj=>by rcases Nat.lt_succ_iff_lt_or_eq.1 hj with h|rfl;exact HP.out j h;exact HE.out,AH HG.out _⟩
    ·have HE:=I (FA (l:=l) (m:=m) (k:=k) (by rw[hs1,hs2];exact he));have he1:(s==t)=false:=by simpa using he
     have he2:(s !=t)=true:=by simpa using he
     clear he hs1 hs2;go_wp2_with fail;go_quiet(fail);go_wp2;go_ret;exact⟨by rw[HE.out];rfl,AH HG.out _⟩
   ·have hkI:decide (k<l.length)=false:=by simpa using hk
    have HE:=I (Fz HN.out (fun j hj=>hp j (by omega)));have HG:=I hgr;clear hp hgr;go_wp2;go_ret;exact⟨by rw[HE.out];rfl,HG.out⟩
 ·have hnI:((l.length:Int) !=(m.length:Int))=true:=by simp;omega
  have hnI2:((l.length:Int)==(m.length:Int))=false:=by simp;omega
  have HN:=I (F0 hn);clear hn hc1 hc2;go_enter func38,ntmps38;go_wp2;go_ret;exact⟨by rw[HN.out];rfl,(by repeat(first| (with_reducible exact Ac _ _)| (with_reducible assumption)| (with_reducible exact AW (by assumption))| (with_reducible refine Aa ?_ _)| (with_reducible refine Aj ?_)| (with_reducible refine AH ?_ _)| ((with_reducible refine Ax ?_ _ _ ?h2);case h2=>first|exact .inl rfl|exact .inr (Nat.le_refl _)|exact .inr (by simp<;>omega))| (with_reducible refine Ae ?_ (by assumption))| (with_reducible refine O ?_ (by assumption))))⟩
theorem Fq{w:World}{h h':Hd}{pa pb la lb:Option Addr}{pc pd ln lc lm ld:Nat}{ok ok':Nat→Prop}{b:Bool}(h1:Cells w (.slice pa h.p.length pc) 1 h.p.length (h.p.map str) ok)(h2:Cells w (.slice pb h'.p.length pd) 1 h'.p.length (h'.p.map str) ok')
 (HL:∀W,w.grownBy W none→Calls Tryz.prog 33 #[.slice la ln lc,.slice lb lm ld] W fun e w'=>e= .returned (.bool b)∧W.grownBy w' none):
 Calls Tryz.prog 11 #[exV h (.slice pa h.p.length pc) (.slice la ln lc),exV h' (.slice pb h'.p.length pd) (.slice lb lm ld)] w fun e w'=>e= .returned (.bool (AZ h h'&&b))∧w.grownBy w' none:=by
 have HH:=I (FF h h');have HT:=I (fun(W:World)(g:w.grownBy W none)=>Hp (h1.gb g (by simp)) (h2.gb g (by simp)));have HL':=I HL;clear HL h1 h2;obtain⟨op,s,vk,vn,vs,p⟩:=h;obtain⟨op',s',vk',vn',vs',p'⟩:=h';simp only at HH HT ⊢;cases c1:(op==op')with
 | false=>
   have HF:=I (show(AZ ⟨op,s,vk,vn,vs,p⟩ ⟨op',s',vk',vn',vs',p'⟩&&b)=false by rw[HH.out,c1];simp);go_enter func11,ntmps11;go_wp2;go_ret;exact⟨by rw[HF.out];rfl,(by repeat(first| (with_reducible exact Ac _ _)| (with_reducible assumption)| (with_reducible exact AW (by assumption))| (with_reducible refine Aa ?_ _)| (with_reducible refine Aj ?_)| (with_reducible refine AH ?_ _)| ((with_reducible refine Ax ?_ _ _ ?h2);case h2=>first|exact .inl rfl|exact .inr (Nat.le_refl _)|exact .inr (by simp<;>omega))| (with_reducible refine Ae ?_ (by assumption))| (with_reducible refine O ?_ (by assumption))))⟩
 | true=>
   cases c2:(s==s')with
   | false=>
     have HF:=I (show(AZ ⟨op,s,vk,vn,vs,p⟩ ⟨op',s',vk',vn',vs',p'⟩&&b)=false by rw[HH.out,c1,c2];simp);go_enter func11,ntmps11;go_wp2;go_ret;exact⟨by rw[HF.out];rfl,(by repeat(first| (with_reducible exact Ac _ _)| (with_reducible assumption)| (with_reducible exact AW (by assumption))| (with_reducible refine Aa ?_ _)| (with_reducible refine Aj ?_)| (with_reducible refine AH ?_ _)| ((with_reducible refine Ax ?_ _ _ ?h2);case h2=>first|exact .inl rfl|exact .inr (Nat.le_refl _)|exact .inr (by simp<;>omega))| (with_reducible refine Ae ?_ (by assumption))| (with_reducible refine O ?_ (by assumption))))⟩
   | true=>
     by_cases hk:vk=vk'
     ·subst hk;by_cases hn:vn=vn'
      ·subst hn;by_cases hs:vs=vs'
       ·subst hs;have HF:=I (show(AZ ⟨op,s,vk,vn,vs,p⟩ ⟨op',s',vk,vn,vs,p'⟩&&b)=(BQ p p'&&b)by rw[HH.out,c1,c2];simp);rw[HF.out];clear HH HF;cases c4:BQ p p' with
        | false=>
          have HB:=I c4;rw[c4]at HT;clear c4;go_enter func11,ntmps11;go_wp2_with fail;refine(HT.out _ ?gg).mono ?_
          case gg=>exact (by repeat(first| (with_reducible exact Ac _ _)| (with_reducible assumption)| (with_reducible exact AW (by assumption))| (with_reducible refine Aa ?_ _)| (with_reducible refine Aj ?_)| (with_reducible refine AH ?_ _)| ((with_reducible refine Ax ?_ _ _ ?h2);case h2=>first|exact .inl rfl|exact .inr (Nat.le_refl _)|exact .inr (by simp<;>omega))| (with_reducible refine Ae ?_ (by assumption))| (with_reducible refine O ?_ (by assumption))))
          rintro e w1 ⟨rfl,g1⟩;have gwx:w.grownBy w1 none:=O (Aa (World.grownBy_alloc w _ none) _) g1;go_wp2;go_ret;exact⟨rfl,gwx⟩
        | true=>
          have HB:=I c4;rw[c4]at HT;clear c4;go_enter func11,ntmps11;go_wp2_with fail;refine(HT.out _ ?gg).mono ?_
          case gg=>exact (by repeat(first| (with_reducible exact Ac _ _)| (with_reducible assumption)| (with_reducible exact AW (by assumption))| (with_reducible refine Aa ?_ _)| (with_reducible refine Aj ?_)| (with_reducible refine AH ?_ _)| ((with_reducible refine Ax ?_ _ _ ?h2);case h2=>first|exact .inl rfl|exact .inr (Nat.le_refl _)|exact .inr (by simp<;>omega))| (with_reducible refine Ae ?_ (by assumption))| (with_reducible refine O ?_ (by assumption))))
          rintro e w1 ⟨rfl,g1⟩;have gwx:w.grownBy w1 none:=O (Aa (World.grownBy_alloc w _ none) _) g1;have x6:=(((Blk.new w [.int .i64 op,str s,.int .i64 vk,.int .i64 vn,str vs,.slice pa p.length pc,.slice la ln lc] 27).alloc _).gb g1 (by simp)).cell 6;have y6:=(show Blk w1 (w.heap.size+1) [.int .i64 op',str s',.int .i64 vk,.int .i64 vn,str vs,.slice pb p'.length pd,.slice lb lm ld] 27 from((Blk.new _ _ _).of_eq (by simp) rfl).gb g1 (by simp)).cell 6;simp only[List.getElem?_cons_zero,List.getElem?_cons_succ]at x6 y6;go_wp2_with fail;refine(HL'.out _ gwx).mono ?_;rintro e w2 ⟨rfl,g2⟩;go_wp2;go_ret;exact⟨rfl,O gwx g2⟩
       ·have HF:=I (show(AZ ⟨op,s,vk,vn,vs,p⟩ ⟨op',s',vk,vn,vs',p'⟩&&b)=false by rw[HH.out,c1,c2];simp[hs]);go_enter func11,ntmps11;go_wp2;go_ret;exact⟨by rw[HF.out];rfl,(by repeat(first| (with_reducible exact Ac _ _)| (with_reducible assumption)| (with_reducible exact AW (by assumption))| (with_reducible refine Aa ?_ _)| (with_reducible refine Aj ?_)| (with_reducible refine AH ?_ _)| ((with_reducible refine Ax ?_ _ _ ?h2);case h2=>first|exact .inl rfl|exact .inr (Nat.le_refl _)|exact .inr (by simp<;>omega))| (with_reducible refine Ae ?_ (by assumption))| (with_reducible refine O ?_ (by assumption))))⟩
      ·have HF:=I (show(AZ ⟨op,s,vk,vn,vs,p⟩ ⟨op',s',vk,vn',vs',p'⟩&&b)=false by rw[HH.out,c1,c2];simp[hn]);go_enter func11,ntmps11;go_wp2;go_ret;exact⟨by rw[HF.out];rfl,(by repeat(first| (with_reducible exact Ac _ _)| (with_reducible assumption)| (with_reducible exact AW (by assumption))| (with_reducible refine Aa ?_ _)| (with_reducible refine Aj ?_)| (with_reducible refine AH ?_ _)| ((with_reducible refine Ax ?_ _ _ ?h2);case h2=>first|exact .inl rfl|exact .inr (Nat.le_refl _)|exact .inr (by simp<;>omega))| (with_reducible refine Ae ?_ (by assumption))| (with_reducible refine O ?_ (by assumption))))⟩
     ·have HF:=I (show(AZ ⟨op,s,vk,vn,vs,p⟩ ⟨op',s',vk',vn',vs',p'⟩&&b)=false by rw[HH.out,c1,c2];simp[hk]);go_enter func11,ntmps11;go_wp2;go_ret;exact⟨by rw[HF.out];rfl,(by repeat(first| (with_reducible exact Ac _ _)| (with_reducible assumption)| (with_reducible exact AW (by assumption))| (with_reducible refine Aa ?_ _)| (with_reducible refine Aj ?_)| (with_reducible refine AH ?_ _)| ((with_reducible refine Ax ?_ _ _ ?h2);case h2=>first|exact .inl rfl|exact .inr (Nat.le_refl _)|exact .inr (by simp<;>omega))| (with_reducible refine Ae ?_ (by assumption))| (with_reducible refine O ?_ (by assumption))))⟩
theorem Fj{w:World}{h h':Hd}{pa pb la lb:Option Addr}{pc pd ln lc lm ld:Nat}{ok ok':Nat→Prop}{b:Bool}(h1:Cells w (.slice pa h.p.length pc) 1 h.p.length (h.p.map str) ok)(h2:Cells w (.slice pb h'.p.length pd) 1 h'.p.length (h'.p.map str) ok')
 (HL:∀W,w.grownBy W none→Calls Tryz.prog 39 #[.slice la ln lc,.slice lb lm ld] W fun e w'=>e= .returned (.bool b)∧W.grownBy w' none):
 Calls Tryz.prog 14 #[exV h (.slice pa h.p.length pc) (.slice la ln lc),exV h' (.slice pb h'.p.length pd) (.slice lb lm ld)] w fun e w'=>e= .returned (.bool (AZ h h'&&b))∧w.grownBy w' none:=by
 have HH:=I (FF h h');have HT:=I (fun(W:World)(g:w.grownBy W none)=>Hr (h1.gb g (by simp)) (h2.gb g (by simp)));have HL':=I HL;clear HL h1 h2;obtain⟨op,s,vk,vn,vs,p⟩:=h;obtain⟨op',s',vk',vn',vs',p'⟩:=h';simp only at HH HT ⊢;cases c1:(op==op')with
 | false=>
   have HF:=I (show(AZ ⟨op,s,vk,vn,vs,p⟩ ⟨op',s',vk',vn',vs',p'⟩&&b)=false by rw[HH.out,c1];simp);go_enter func14,ntmps14;go_wp2;go_ret;exact⟨by rw[HF.out];rfl,(by repeat(first| (with_reducible exact Ac _ _)| (with_reducible assumption)| (with_reducible exact AW (by assumption))| (with_reducible refine Aa ?_ _)| (with_reducible refine Aj ?_)| (with_reducible refine AH ?_ _)| ((with_reducible refine Ax ?_ _ _ ?h2);case h2=>first|exact .inl rfl|exact .inr (Nat.le_refl _)|exact .inr (by simp<;>omega))| (with_reducible refine Ae ?_ (by assumption))| (with_reducible refine O ?_ (by assumption))))⟩
 | true=>
   cases c2:(s==s')with
   | false=>
     have HF:=I (show(AZ ⟨op,s,vk,vn,vs,p⟩ ⟨op',s',vk',vn',vs',p'⟩&&b)=false by rw[HH.out,c1,c2];simp);go_enter func14,ntmps14;go_wp2;go_ret;exact⟨by rw[HF.out];rfl,(by repeat(first| (with_reducible exact Ac _ _)| (with_reducible assumption)| (with_reducible exact AW (by assumption))| (with_reducible refine Aa ?_ _)| (with_reducible refine Aj ?_)| (with_reducible refine AH ?_ _)| ((with_reducible refine Ax ?_ _ _ ?h2);case h2=>first|exact .inl rfl|exact .inr (Nat.le_refl _)|exact .inr (by simp<;>omega))| (with_reducible refine Ae ?_ (by assumption))| (with_reducible refine O ?_ (by assumption))))⟩
   | true=>
     by_cases hk:vk=vk'
     ·subst hk;by_cases hn:vn=vn'
      ·subst hn;by_cases hs:vs=vs'
       ·subst hs;have HF:=I (show(AZ ⟨op,s,vk,vn,vs,p⟩ ⟨op',s',vk,vn,vs,p'⟩&&b)=(BQ p p'&&b)by rw[HH.out,c1,c2];simp);rw[HF.out];clear HH HF;cases c4:BQ p p' with
        | false=>
          have HB:=I c4;rw[c4]at HT;clear c4;go_enter func14,ntmps14;go_wp2_with fail;refine(HT.out _ ?gg).mono ?_
          case gg=>exact (by repeat(first| (with_reducible exact Ac _ _)| (with_reducible assumption)| (with_reducible exact AW (by assumption))| (with_reducible refine Aa ?_ _)| (with_reducible refine Aj ?_)| (with_reducible refine AH ?_ _)| ((with_reducible refine Ax ?_ _ _ ?h2);case h2=>first|exact .inl rfl|exact .inr (Nat.le_refl _)|exact .inr (by simp<;>omega))| (with_reducible refine Ae ?_ (by assumption))| (with_reducible refine O ?_ (by assumption))))
          rintro e w1 ⟨rfl,g1⟩;have gwx:w.grownBy w1 none:=O (Aa (World.grownBy_alloc w _ none) _) g1;go_wp2;go_ret;exact⟨rfl,gwx⟩
        | true=>
          have HB:=I c4;rw[c4]at HT;clear c4;go_enter func14,ntmps14;go_wp2_with fail;refine(HT.out _ ?gg).mono ?_
          case gg=>exact (by repeat(first| (with_reducible exact Ac _ _)| (with_reducible assumption)| (with_reducible exact AW (by assumption))| (with_reducible refine Aa ?_ _)| (with_reducible refine Aj ?_)| (with_reducible refine AH ?_ _)| ((with_reducible refine Ax ?_ _ _ ?h2);case h2=>first|exact .inl rfl|exact .inr (Nat.le_refl _)|exact .inr (by simp<;>omega))| (with_reducible refine Ae ?_ (by assumption))| (with_reducible refine O ?_ (by assumption))))
          rintro e w1 ⟨rfl,g1⟩;have gwx:w.grownBy w1 none:=O (Aa (World.grownBy_alloc w _ none) _) g1;have x6:=(((Blk.new w [.int .i64 op,str s,.int .i64 vk,.int .i64 vn,str vs,.slice pa p.length pc,.slice la ln lc] 27).alloc _).gb g1 (by simp)).cell 6;have y6:=(show Blk w1 (w.heap.size+1) [.int .i64 op',str s',.int .i64 vk,.int .i64 vn,str vs,.slice pb p'.length pd,.slice lb lm ld] 27 from((Blk.new _ _ _).of_eq (by simp) rfl).gb g1 (by simp)).cell 6;simp only[List.getElem?_cons_zero,List.getElem?_cons_succ]at x6 y6;go_wp2_with fail;refine(HL'.out _ gwx).mono ?_;rintro e w2 ⟨rfl,g2⟩;go_wp2;go_ret;exact⟨rfl,O gwx g2⟩
       ·have HF:=I (show(AZ ⟨op,s,vk,vn,vs,p⟩ ⟨op',s',vk,vn,vs',p'⟩&&b)=false by rw[HH.out,c1,c2];simp[hs]);go_enter func14,ntmps14;go_wp2;go_ret;exact⟨by rw[HF.out];rfl,(by repeat(first| (with_reducible exact Ac _ _)| (with_reducible assumption)| (with_reducible exact AW (by assumption))| (with_reducible refine Aa ?_ _)| (with_reducible refine Aj ?_)| (with_reducible refine AH ?_ _)| ((with_reducible refine Ax ?_ _ _ ?h2);case h2=>first|exact .inl rfl|exact .inr (Nat.le_refl _)|exact .inr (by simp<;>omega))| (with_reducible refine Ae ?_ (by assumption))| (with_reducible refine O ?_ (by assumption))))⟩
      ·have HF:=I (show(AZ ⟨op,s,vk,vn,vs,p⟩ ⟨op',s',vk,vn',vs',p'⟩&&b)=false by rw[HH.out,c1,c2];simp[hn]);go_enter func14,ntmps14;go_wp2;go_ret;exact⟨by rw[HF.out];rfl,(by repeat(first| (with_reducible exact Ac _ _)| (with_reducible assumption)| (with_reducible exact AW (by assumption))| (with_reducible refine Aa ?_ _)| (with_reducible refine Aj ?_)| (with_reducible refine AH ?_ _)| ((with_reducible refine Ax ?_ _ _ ?h2);case h2=>first|exact .inl rfl|exact .inr (Nat.le_refl _)|exact .inr (by simp<;>omega))| (with_reducible refine Ae ?_ (by assumption))| (with_reducible refine O ?_ (by assumption))))⟩
     ·have HF:=I (show(AZ ⟨op,s,vk,vn,vs,p⟩ ⟨op',s',vk',vn',vs',p'⟩&&b)=false by rw[HH.out,c1,c2];simp[hk]);go_enter func14,ntmps14;go_wp2;go_ret;exact⟨by rw[HF.out];rfl,(by repeat(first| (with_reducible exact Ac _ _)| (with_reducible assumption)| (with_reducible exact AW (by assumption))| (with_reducible refine Aa ?_ _)| (with_reducible refine Aj ?_)| (with_reducible refine AH ?_ _)| ((with_reducible refine Ax ?_ _ _ ?h2);case h2=>first|exact .inl rfl|exact .inr (Nat.le_refl _)|exact .inr (by simp<;>omega))| (with_reducible refine Ae ?_ (by assumption))| (with_reducible refine O ?_ (by assumption))))⟩
end Go.Proofs.YtgjdhajcnechdaaGreatDoor
