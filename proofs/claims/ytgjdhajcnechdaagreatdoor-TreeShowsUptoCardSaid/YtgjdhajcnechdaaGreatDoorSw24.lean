/-
  The reference's in; an append of a row of texts. The reference's reader: pow, not. The reference's reader: unary.
-/
import Derived.Test.YtgjdhajcnechdaaGreatDoorSw16
import Derived.Test.YtgjdhajcnechdaaGreatDoorSw02
import Derived.Test.YtgjdhajcnechdaaGreatDoorSw05
import Derived.Laws.AppendOwn
import Derived.Laws.OwnMore
import Derived.Test.YtgjdhajcnechdaaGreatDoorSw21
set_option linter.all false
set_option maxRecDepth 100000
set_option maxHeartbeats 8000000
namespace Go.Proofs.YtgjdhajcnechdaaGreatDoor
open Go.Proofs.Tryz
open Go.RowKit
theorem Nv{α:Type}{L r:List α}{i:Nat}{c:α}(h:L.drop i=c::r):L[i]? =some c∧L.drop (i+1)=r∧i<L.length:=by
 have h1:(L.drop i)[0]? =some c:=by rw[h];rfl
 have h2:(L.drop i).drop 1=r:=by rw[h];rfl
 have h3:L[i]? =some c:=by simpa using h1
 exact⟨h3,by simpa[List.drop_drop]using h2,(List.getElem?_eq_some_iff.1 h3).1⟩
theorem QL{w:World}{wv:Value}{L:List Bs}{ok:Nat→Prop}(h:SRow w wv L ok)(s:Bs):
 Calls Tryz.prog 56 #[wv,str s] w fun e w'=>e= .returned (.bool (L.contains s))∧w.grownBy w' none:=by
 obtain⟨a,cap,rfl,hle,hmx,hat⟩:=h;have HA:=O hat;have hmax:L.length≤maxLen:=by omega
 unfold maxLen at hmax;clear hat hle hmx;generalize hT:L.contains s=T;go_enter func56,ntmps56;go_wp2_with fail;go_loopg [5] L.length (fun g v5 wr=>∃i:Nat,∃r:List Bs,i+g=L.length∧v5= .int .i64 i∧L.drop i=r∧r.contains s=T∧w.grownBy wr none)
 case atStart=>exact⟨0,L,by omega,rfl,rfl,hT,Ac _ _⟩
 case round=>
  obtain⟨i,r,hg,rfl,hd,hc,hgr⟩:=hrel;clear hT;cases r with
  | nil=>
    have hi:L.length≤i:=by simpa using List.drop_eq_nil_iff.1 hd
    have hi1:decide (i<L.length)=false:=by simp;omega
    have HF:=O (show T=false by rw[←hc];rfl);clear hd hc;go_wp2;go_ret;exact⟨by rw[HF.out];rfl,hgr⟩
  | cons c r=>
    obtain⟨h1,h2,hi⟩:=Nv hd;have hi1:decide (i<L.length)=true:=by simpa using hi
    obtain⟨lb,lo,rfl,_,c0⟩:=HA.out i hi;have c1:=Af hgr c0;have e:L.getD i []=c:=by simp[List.getD_eq_getElem?_getD,h1]
    rw[e]at c1;have i0:(0:Int)≤(i:Int):=by omega
    have i2:(i:Int)<(L.length:Int):=by omega
    clear c0 h1 hd e;by_cases hs:c=s
    ·have HF:=O (show T=true by rw[←hc,hs];simp);have hb:(c==s)=true:=by simpa using hs
     clear hc;go_wp2;go_ret;exact⟨by rw[HF.out];rfl,hgr⟩
    ·have HF:=O (show r.contains s=T by rw[←hc,List.contains_cons];simp[show(s==c)=false by simpa using fun e=>hs e.symm]);have hb:(c==s)=false:=by simpa using hs
     have HG:=O hgr;clear hc hgr;go_wp2;go_roundg (L.length-(i+1))
     case measure=>omega
     case rel=>exact⟨i+1,r,by omega,by go_num,h2,HF.out,HG.out⟩
theorem SRow.of_cells{w:World}{v:Value}{l:List Bs}{ok:Nat→Prop}(h:Cells w v 1 l.length (l.map str) ok):SRow w v l ok:=by
 obtain⟨a,cap,e,h1,h2,_,h4⟩:=h;refine⟨a,cap,e,h1,h2,fun j hj=>?_⟩;obtain⟨g,o,ea,ho,hc⟩:=h4 j (str l[j]) (by simp[List.getElem?_map,List.getElem?_eq_getElem hj]);refine⟨g,o,ea,ho,?_⟩;rw[hc];simp[List.getD_eq_getElem?_getD,List.getElem?_eq_getElem hj,str]
section
variable {P:Program}{w:World}
theorem K0(base:Nat)(t ty e:TypeId)(i:TypeInfo)(size:Nat)(ht:P.underlying t=some (.slice e))(hi:P.info? e=some i)
 (v:Value) (n c:Nat) (xs:List Value) (hown:w.ownsRow base e size v n xs):
 (Builtin.append_ #[t,t] ty #[v,.slice none 0 c]).run P w= .ok v w:=by
 rcases hown.2 with⟨rfl,rfl⟩| ⟨g,cap,cur,rfl,_,_,hnc,_⟩
 ·simp[Builtin.append_,run_underlying ht,sizeOf,typeInfo,hi,Builtin.lenOf,Builtin.firstCells]
 ·simp[Builtin.append_,run_underlying ht,sizeOf,typeInfo,hi,Builtin.lenOf,Builtin.firstCells,hnc,storeCells]
theorem Ik{o:Oper}{a:Act}{K:Act→World→Prop}{Q:Exit→Act→World→Prop}(s x:Operand)(t:TypeId)
 (ho:o.op= .call {callee:= .builtin .append,args:=#[s,x],argTypes:=#[t,t]})
 (base:Nat) (e:TypeId) (i:TypeInfo) (z:Value) (size bytes:Nat) (ht:P.underlying t=some (.slice e)) (hi:P.info? e=some i) (hz:i.zero=some z)
 (hsize:i.size=size) (hby:i.bytes=bytes) (hzs:z.cells.size=size) (hsz:0<size)
 (v:Value) (n:Nat) (xs:List Value) (hs:a.eval s=v) (hown:w.ownsRow base e size v n xs)
 (sv:Value) (m:Nat) (news:List Value) (ok:Nat→Prop) (hx:a.eval x=sv) (hc:Cells w sv size m news ok) (h1:∀u∈news,u.oneCell'=true)
 (h63:n+m≤maxLen) (hbytes:(n+m)*bytes≤140737488355328) (hbase:base≤w.heap.size)
 (h:∀v' w',w'.ownsRow base e size v' (n+m) (xs++news)→w.grownBy w' v.ownBlock→K (a.put o.dst v') w'):o.wp P a w K Q:=by
 obtain⟨ad,c,rfl,hle,hmx,hl,hat⟩:=hc;cases ad with
 | some ad=>
   exact wp_append_own w s x t ho base e i z size bytes ht hi hz hsize hby hzs hsz v n xs hs hown ad m c news hx hl (fun j u hj=>by
    obtain⟨g,o,ea,_,hcc⟩:=hat j u hj;cases ea;show w.cell? (Addr.add _ j)=some u;unfold Addr.add;split
    ·rename_i h0;have h0:j=0:=by simpa using h0
     subst h0;simpa using hcc
    ·exact hcc) h1 h63 hbytes hbase fun v' w' h2 h3 _=>h v' w' h2 h3
 | none=>
   have hn:news=[]:=by
    cases news with
    |nil=>rfl
    | cons u r=>
      obtain⟨g,o,ea,_⟩:=hat 0 u rfl;cases ea
   subst hn;have hm:m=0:=by
    rcases Nat.eq_zero_or_pos m with h0|h0
    ·exact h0
    ·have:=Nat.mul_pos h0 hsz;simp at hl;omega
   subst hm;have hrun:=K0 (P:=P) (w:=w) base t o.type e i size ht hi v n c xs hown;unfold Oper.wp execOp;simp only[ho,resolve,invoke,builtin,Sem.run_bind,Sem.run_pure,Result.andThen_ok,List.map_toArray,List.map_cons,List.map_nil,hs,hx,hrun];exact h v w (by simpa using hown) (AX (Ac w none))
theorem Hz{ops:Array Oper}{o:Oper}{a:Act}{K:Act→World→Prop}{Q:Exit→Act→World→Prop}{E:Prop}(hgd:o.guard=none)(s x:Operand)(t:TypeId)
 (ho:o.op= .call {callee:= .builtin .append,args:=#[s,x],argTypes:=#[t,t]})
 (base:Nat) (e:TypeId) (i:TypeInfo) (z:Value) (size bytes:Nat) (ht:P.underlying t=some (.slice e)) (hi:P.info? e=some i) (hz:i.zero=some z)
 (hsize:i.size=size) (hby:i.bytes=bytes) (hzs:z.cells.size=size) (hsz:0<size)
 (v:Value) (n:Nat) (xs:List Value) (hs:a.eval s=v) (hown:w.ownsRow base e size v n xs)
 (sv:Value) (m:Nat) (news:List Value) (ok:Nat→Prop) (hx:a.eval x=sv) (hc:Cells w sv size m news ok) (h1:∀u∈news,u.oneCell'=true)
 (h63:n+m≤maxLen) (hbytes:(n+m)*bytes≤140737488355328) (hbase:base≤w.heap.size)
 (h:∀v' w',w'.ownsRow base e size v' (n+m) (xs++news)→w.grownBy w' v.ownBlock→K (a.put o.dst v') w'):
 if Region.wanted o (yielded ops a.tmps)=true then Oper.wp P o a w K Q else E:=by
 have hw:Region.wanted o (yielded ops a.tmps)=true:=by simp[Region.wanted,hgd]
 rw[if_pos hw];exact Ik s x t ho base e i z size bytes ht hi hz hsize hby hzs hsz v n xs hs hown sv m news ok hx hc h1 h63 hbytes hbase h
theorem Fu{ops:Array Oper}{rest:List Oper}{o:Oper}{a:Act}{Q:Exit→Act→World→Prop}(hgd:o.guard=none)(s x:Operand)(t:TypeId)
 (ho:o.op= .call {callee:= .builtin .append,args:=#[s,x],argTypes:=#[t,t]})
 (base:Nat) (e:TypeId) (i:TypeInfo) (z:Value) (size bytes:Nat) (ht:P.underlying t=some (.slice e)) (hi:P.info? e=some i) (hz:i.zero=some z)
 (hsize:i.size=size) (hby:i.bytes=bytes) (hzs:z.cells.size=size) (hsz:0<size)
 (v:Value) (n:Nat) (xs:List Value) (hs:a.eval s=v) (hown:w.ownsRow base e size v n xs)
 (sv:Value) (m:Nat) (news:List Value) (ok:Nat→Prop) (hx:a.eval x=sv) (hc:Cells w sv size m news ok) (h1:∀u∈news,u.oneCell'=true)
 (h63:n+m≤maxLen) (hbytes:(n+m)*bytes≤140737488355328) (hbase:base≤w.heap.size)
 (h:∀v' w',w'.ownsRow base e size v' (n+m) (xs++news)→w.grownBy w' v.ownBlock→wpList P ops Q rest (a.put o.dst v') w'):wpList P ops Q (o::rest) a w:=
 wpList_plain hgd fun _ hK=>Ik s x t ho base e i z size bytes ht hi hz hsize hby hzs hsz v n xs hs hown sv m news ok hx hc h1 h63 hbytes hbase fun v' w' h2 h3=>hK _ _ (h v' w' h2 h3)
end
section
variable {b:Nat}{tv:Value}{l:List Tok}
theorem Qv{un:FR Ex}(hun:CR 283 b tv l un):∀n,CR 250 b tv l (DF l un n):=by
 intro n;induction n with
 |zero=>intro w st r h ho;cases ho
 |succ n ih=>
 intro w st r h ho;have hb:=h.lt;rw[DF]at ho;obtain⟨⟨x,st1⟩,hx,ho⟩:=Option.bind_eq_some_iff.1 ho;simp only at ho;have gz:w.grownBy (w.alloc (.cells zeroE.toArray 27 (0,0))) (some b):=Ad (Ac _ _) _;have hz:=Blk.new w zeroE 27;have h0:=h.alloc (.cells zeroE.toArray 27 (0,0));have hw0:w.heap.size<(w.alloc (.cells zeroE.toArray 27 (0,0))).heap.size:=by simp
 have HX:=O (hun _ _ _ h0 hx);have H:=O (Z ih (Z ho (Z hz (Z gz hw0))));clear hun ho hx hz gz h0 hw0 ih;go_enter func250,ntmps250;go_wp2_with fail;refine HX.out.mono ?_;rintro e w1 ⟨g1,v,rfl,⟨pa,pc,la,lc,rfl,rp,rl⟩,h1⟩;simp only at rp rl h1 ⊢;have HK:=O (KpR.new hb H.out.2.2.1 H.out.2.2.2.1 H.out.2.2.2.2 g1 rp rl h1);have hb1:=h1.lt;clear rp rl h1 HX g1;have HT:=O (Cg HK.out.rr [94]);have hloop:=H.out.2.1;cases hs:A4 l [94] st1 with
 | false=>
   rw[hs]at HT hloop;have hq:some (x,Ak l [94] st1)=some r:=hloop;cases hq;clear hloop hs;go_wp2_with fail;refine HT.out.mono ?_;rintro e w2 ⟨g2,v,rfl,rfl,h2⟩;have HK2:=O (HK.out.gb hb g2 h2);clear g2 h2 HK;have hk2:=HK2.out;have hL:=hk2.blk;have hZ:=hk2.zero;have hwL:=hk2.wL;clear hk2;obtain⟨cl_0,cl_1,cl_2,cl_3,cl_4,cl_5,cl_6,cl_f⟩:=(hL).c7;obtain⟨cz_0,cz_1,cz_2,cz_3,cz_4,cz_5,cz_6,cz_f⟩:=(hZ).c7;go_wp2;have hk:=HK2.out;have g7:=Ah w2 w.heap.size (.int .i64 x.h.op) (str x.h.s) (.int .i64 x.h.vk) (.int .i64 x.h.vn) (str x.h.vs) (.slice pa x.h.p.length pc) (.slice la x.kids.len lc);exact bodyPost_ret (Al rfl _ (hZ.set7 _ _ _ _ _ _ _) rfl) rfl (Bh hb hk.gr hk.ve (by intro k hk;exact hk.1) hk.rr g7)
 | true=>
   rw[hs]at HT hloop;have hq:(DF l un n (Ak l [94] st1)).bind (fun q=>some (Ax [94] x q.1,q.2))=some r:=hloop;obtain⟨⟨z,st3⟩,hy,hq⟩:=Option.bind_eq_some_iff.1 hq;simp only at hq;cases hq;have HY:=O hy;clear hloop hs hy;go_wp2_with fail;refine HT.out.mono ?_;rintro e w2 ⟨g2,v,rfl,rfl,h2⟩;have HK2:=O (HK.out.gb hb g2 h2);clear g2 h2 HK;have hk2:=HK2.out;have hL:=hk2.blk;have hZ:=hk2.zero;have hwL:=hk2.wL;have hbL:=hk2.bL;clear hk2;obtain⟨cl_0,cl_1,cl_2,cl_3,cl_4,cl_5,cl_6,cl_f⟩:=(hL).c7;obtain⟨cz_0,cz_1,cz_2,cz_3,cz_4,cz_5,cz_6,cz_f⟩:=(hZ).c7;have hLb:=hL.lt;go_wp2_with fail;go_region_with(first| (go_at_call 250;refine(H.out.1 _ _ _ (HK2.out.rr.drewN 1) HY.out).mono ?_;rintro e w4 ⟨g4,v,rfl,hv,h4⟩;have hk4:=HK2.out.gb hb (Aa (Am (Ac w2 (some b))) g4) h4;have hL4:=hk4.blk;have hZ4:=hk4.zero;obtain⟨dl_0,dl_1,dl_2,dl_3,dl_4,dl_5,dl_6,dl_f⟩:=(hL4).c7;obtain⟨dz_0,dz_1,dz_2,dz_3,dz_4,dz_5,dz_6,dz_f⟩:=(hZ4).c7;have hok:∀q,w4.heap.size≤q→but w w1.heap.size q:=(fun q hq=>by have:=hL4.lt;exact⟨by omega,by omega⟩);have hz:VE (but w w1.heap.size) w4 v z:=hv.mono (fun q hq _=>by have hq:w2.heap.size≤q:=hq;exact⟨by omega,by omega⟩);have HZ4:=O (Z hk4 (Z hok hz));clear hk4 hok hz hv h4)| (go_at_call 89;refine(D0 [94] x z _ _ HZ4.out.2.1 HZ4.out.1.ve HZ4.out.2.2).mono ?_;rintro e w5 ⟨u,rfl,hu,g5⟩;obtain⟨ua,uc,va,vc,rfl,ru,rv⟩:=hu;have hZ5:=hZ4.gb g5 (by simp);obtain⟨ez_0,ez_1,ez_2,ez_3,ez_4,ez_5,ez_6,ez_f⟩:=(hZ5).c7;have HU:=O (Z g5 (Z ru rv));clear g5 ru rv));all_goals
    generalize hbe:Ax [94] x z=bz at*;have hk5:=HZ4.out.1.gbN hb HU.out.1;have HK5:=O hk5;clear hk5;go_wp2;have hk5:=HK5.out;have g7:=Ah w5 w.heap.size (.int .i64 bz.h.op) (str bz.h.s) (.int .i64 bz.h.vk) (.int .i64 bz.h.vn) (str bz.h.vs) (.slice ua bz.h.p.length uc) (.slice va bz.kids.len vc);exact bodyPost_ret (Al rfl _ (hZ5.set7 _ _ _ _ _ _ _) rfl) rfl (Bh hb hk5.gr ⟨_,_,_,_,rfl,HU.out.2.1,HU.out.2.2⟩ (by intro k hk;exact hk.1) hk5.rr g7)
theorem Jf{L:List Bs}{st:RS}(h:Au l L st≠[]):Au l L st∈L:=by
 unfold Au at*;cases hs:st.2 with
 |true=>rw[hs]at h;simp at h
 | false=>
   rw[hs]at h;simp only[Bool.false_eq_true,if_false]at h ⊢;cases hf:L.find? (Ae (Ab l st.1))with
   |none=>rw[hf]at h;simp at h
   |some t=>exact List.mem_of_find?_eq_some hf
theorem Qt{sm:FR Ex}(hsum:CR 178 b tv l sm):∀n,CR 138 b tv l (Dw l sm n):=by
 intro n;induction n with
 |zero=>intro w st r h ho;cases ho
 |succ n ih=>
 intro w st r h ho;have hb:=h.lt;rw[Dw]at ho;have gz:w.grownBy (w.alloc (.cells zeroE.toArray 27 (0,0))) (some b):=Ad (Ac _ _) _;have hz:=Blk.new w zeroE 27;have h0:=h.alloc (.cells zeroE.toArray 27 (0,0));have HS:=O (D3 h0 [[46,78,79,84,46],[33]] (by decide) (by decide) (w.heap.size+1) (by simp) 2 rfl);have H:=O (Z ih (Z hsum (Z hz gz)));have HO:=O ho;clear hsum ho hz gz h0 ih;go_enter func138,ntmps138;go_wp2_with fail;refine HS.out.mono ?_;rintro e w0 ⟨gs,v,rfl,rfl,h0⟩;have hB:=(H.out.2.2.1.alloc (.cells ([[46,78,79,84,46],[33]].map str).toArray 9 (0,0))).gb gs (by simp;omega);have g0:=Aa (Ad H.out.2.2.2 (.cells ([[46,78,79,84,46],[33]].map str).toArray 9 (0,0))) gs;have hw0:w.heap.size<w0.heap.size:=hB.lt;have ho:=HO.out;rw[show DH=[[46,78,79,84,46],[33]]from rfl]at ho;clear HS gs HO;by_cases he:Au l [[46,78,79,84,46],[33]] st=[]
 ·rw[if_pos (by rw[he];rfl)]at ho;obtain⟨⟨x,st1⟩,hx,ho⟩:=Option.bind_eq_some_iff.1 ho;simp only at ho;have HE:=O he;rw[show(A6 l [[46,78,79,84,46],[33]] st).1=[]from he];have HX:=O (H.out.2.1 _ _ _ h0 hx);have HO:=O ho;have HB:=O (Z hB g0);clear he hx ho h0 hB g0;go_wp2_with fail;refine HX.out.mono ?_;rintro e w1 ⟨g1,v,rfl,⟨pa,pc,la,lc,rfl,rp,rl⟩,h1⟩;simp only at rp rl h1 ⊢;have hK:=KpR.new hb HB.out.1 HB.out.2 hw0 g1 rp rl h1;have hb1:=h1.lt;have HS:=O (D3 hK.rr [[61],[61,61],[60,62],[35],[33,61],[60],[62],[60,61],[62,61],[36]] (by decide) (by decide) (w1.heap.size+1) (by simp) 10 rfl);have HK:=O hK;clear rp rl h1 HX g1 hK HB;go_wp2_with fail;refine HS.out.mono ?_;rintro e w2 ⟨g2,v,rfl,rfl,h2⟩;have HK2:=O ((HK.out.gbN hb (World.grownBy_alloc _ _ none)).gb hb g2 h2);have ho:=HO.out;rw[show Dd=[[61],[61,61],[60,62],[35],[33,61],[60],[62],[60,61],[62,61],[36]]from rfl]at ho;clear HS HK g2 h2 HO;by_cases he2:Au l [[61],[61,61],[60,62],[35],[33,61],[60],[62],[60,61],[62,61],[36]] st1=[]
  ·rw[if_pos (by rw[he2];rfl)]at ho;cases ho;rw[show(A6 l [[61],[61,61],[60,62],[35],[33,61],[60],[62],[60,61],[62,61],[36]] st1).1=[]from he2];clear he2;have hk2:=HK2.out;have hL:=hk2.blk;have hZ:=hk2.zero;have hwL:=hk2.wL;clear hk2;obtain⟨cl_0,cl_1,cl_2,cl_3,cl_4,cl_5,cl_6,cl_f⟩:=(hL).c7;obtain⟨cz_0,cz_1,cz_2,cz_3,cz_4,cz_5,cz_6,cz_f⟩:=(hZ).c7;go_wp2;have hk:=HK2.out;have g7:=Ah w2 w.heap.size (.int .i64 x.h.op) (str x.h.s) (.int .i64 x.h.vk) (.int .i64 x.h.vn) (str x.h.vs) (.slice pa x.h.p.length pc) (.slice la x.kids.len lc);exact bodyPost_ret (Al rfl _ (hZ.set7 _ _ _ _ _ _ _) rfl) rfl (Bh hb hk.gr hk.ve (by intro k hk;exact hk.1) hk.rr g7)
  ·have hin:=Jf he2;rw[if_neg (by simpa using he2)]at ho;obtain⟨⟨z,st3⟩,hy,hq⟩:=Option.bind_eq_some_iff.1 ho;simp only at hq;clear ho;have HY:=O hy;have es:(A6 l [[61],[61,61],[60,62],[35],[33,61],[60],[62],[60,61],[62,61],[36]] st1).1=Au l [[61],[61,61],[60,62],[35],[33,61],[60],[62],[60,61],[62,61],[36]] st1:=rfl;rw[es];clear hy he2 es;generalize(A6 l [[61],[61,61],[60,62],[35],[33,61],[60],[62],[60,61],[62,61],[36]] st1).2=st2 at*;generalize Au l [[61],[61,61],[60,62],[35],[33,61],[60],[62],[60,61],[62,61],[36]] st1=o at*;have hc:(o=[35]∧EB o=[60,62])∨(o=[33,61]∧EB o=[60,62])∨((o==[35])=false∧(o==[33,61])=false∧(o==[])=false∧EB o=o):=by
    simp only[List.mem_cons,List.not_mem_nil,or_false]at hin;rcases hin with rfl|rfl|rfl|rfl|rfl|rfl|rfl|rfl|rfl|rfl<;>decide
   clear hin;rcases hc with⟨rfl,hcs⟩| ⟨rfl,hcs⟩| ⟨n1,n2,n3,hcs⟩
   ·rw[hcs]at hq;cases hq;clear hcs;have hk2:=HK2.out;have hL:=hk2.blk;have hZ:=hk2.zero;have hwL:=hk2.wL;have hbL:=hk2.bL;clear hk2;obtain⟨cl_0,cl_1,cl_2,cl_3,cl_4,cl_5,cl_6,cl_f⟩:=(hL).c7;obtain⟨cz_0,cz_1,cz_2,cz_3,cz_4,cz_5,cz_6,cz_f⟩:=(hZ).c7;have hLb:=hL.lt;go_wp2_with fail;go_region_with(first| (go_at_call 178;refine(H.out.2.1 _ _ _ (HK2.out.rr.drewN 1) HY.out).mono ?_;rintro e w4 ⟨g4,v,rfl,hv,h4⟩;have hk4:=HK2.out.gb hb (Aa (Am (Ac w2 (some b))) g4) h4;have hL4:=hk4.blk;have hZ4:=hk4.zero;obtain⟨dl_0,dl_1,dl_2,dl_3,dl_4,dl_5,dl_6,dl_f⟩:=(hL4).c7;obtain⟨dz_0,dz_1,dz_2,dz_3,dz_4,dz_5,dz_6,dz_f⟩:=(hZ4).c7;have hok:∀q,w4.heap.size≤q→but w w1.heap.size q:=(fun q hq=>by have:=hL4.lt;exact⟨by omega,by omega⟩);have hz:VE (but w w1.heap.size) w4 v z:=hv.mono (fun q hq _=>by have hq:w2.heap.size≤q:=hq;exact⟨by omega,by omega⟩);have HZ4:=O (Z hk4 (Z hok hz));clear hk4 hok hz hv h4)| (go_at_call 89;refine(D0 [60,62] x z _ _ HZ4.out.2.1 HZ4.out.1.ve HZ4.out.2.2).mono ?_;rintro e w5 ⟨u,rfl,hu,g5⟩;obtain⟨ua,uc,va,vc,rfl,ru,rv⟩:=hu;have hZ5:=hZ4.gb g5 (by simp);obtain⟨ez_0,ez_1,ez_2,ez_3,ez_4,ez_5,ez_6,ez_f⟩:=(hZ5).c7;have HU:=O (Z g5 (Z ru rv));clear g5 ru rv));all_goals
     generalize hbe:Ax [60,62] x z=bz at*;have hk5:=HZ4.out.1.gbN hb HU.out.1;have HK5:=O hk5;clear hk5;go_wp2;have hk5:=HK5.out;have g7:=Ah w5 w.heap.size (.int .i64 bz.h.op) (str bz.h.s) (.int .i64 bz.h.vk) (.int .i64 bz.h.vn) (str bz.h.vs) (.slice ua bz.h.p.length uc) (.slice va bz.kids.len vc);exact bodyPost_ret (Al rfl _ (hZ5.set7 _ _ _ _ _ _ _) rfl) rfl (Bh hb hk5.gr ⟨_,_,_,_,rfl,HU.out.2.1,HU.out.2.2⟩ (by intro k hk;exact hk.1) hk5.rr g7)
   ·rw[hcs]at hq;cases hq;clear hcs;have hk2:=HK2.out;have hL:=hk2.blk;have hZ:=hk2.zero;have hwL:=hk2.wL;have hbL:=hk2.bL;clear hk2;obtain⟨cl_0,cl_1,cl_2,cl_3,cl_4,cl_5,cl_6,cl_f⟩:=(hL).c7;obtain⟨cz_0,cz_1,cz_2,cz_3,cz_4,cz_5,cz_6,cz_f⟩:=(hZ).c7;have hLb:=hL.lt;go_wp2_with fail;go_region_with(first| (go_at_call 178;refine(H.out.2.1 _ _ _ (HK2.out.rr.drewN 1) HY.out).mono ?_;rintro e w4 ⟨g4,v,rfl,hv,h4⟩;have hk4:=HK2.out.gb hb (Aa (Am (Ac w2 (some b))) g4) h4;have hL4:=hk4.blk;have hZ4:=hk4.zero;obtain⟨dl_0,dl_1,dl_2,dl_3,dl_4,dl_5,dl_6,dl_f⟩:=(hL4).c7;obtain⟨dz_0,dz_1,dz_2,dz_3,dz_4,dz_5,dz_6,dz_f⟩:=(hZ4).c7;have hok:∀q,w4.heap.size≤q→but w w1.heap.size q:=(fun q hq=>by have:=hL4.lt;exact⟨by omega,by omega⟩);have hz:VE (but w w1.heap.size) w4 v z:=hv.mono (fun q hq _=>by have hq:w2.heap.size≤q:=hq;exact⟨by omega,by omega⟩);have HZ4:=O (Z hk4 (Z hok hz));clear hk4 hok hz hv h4)| (go_at_call 89;refine(D0 [60,62] x z _ _ HZ4.out.2.1 HZ4.out.1.ve HZ4.out.2.2).mono ?_;rintro e w5 ⟨u,rfl,hu,g5⟩;obtain⟨ua,uc,va,vc,rfl,ru,rv⟩:=hu;have hZ5:=hZ4.gb g5 (by simp);obtain⟨ez_0,ez_1,ez_2,ez_3,ez_4,ez_5,ez_6,ez_f⟩:=(hZ5).c7;have HU:=O (Z g5 (Z ru rv));clear g5 ru rv));all_goals
     generalize hbe:Ax [60,62] x z=bz at*;have hk5:=HZ4.out.1.gbN hb HU.out.1;have HK5:=O hk5;clear hk5;go_wp2;have hk5:=HK5.out;have g7:=Ah w5 w.heap.size (.int .i64 bz.h.op) (str bz.h.s) (.int .i64 bz.h.vk) (.int .i64 bz.h.vn) (str bz.h.vs) (.slice ua bz.h.p.length uc) (.slice va bz.kids.len vc);exact bodyPost_ret (Al rfl _ (hZ5.set7 _ _ _ _ _ _ _) rfl) rfl (Bh hb hk5.gr ⟨_,_,_,_,rfl,HU.out.2.1,HU.out.2.2⟩ (by intro k hk;exact hk.1) hk5.rr g7)
   ·rw[hcs]at hq;cases hq;clear hcs;have hk2:=HK2.out;have hL:=hk2.blk;have hZ:=hk2.zero;have hwL:=hk2.wL;have hbL:=hk2.bL;clear hk2;obtain⟨cl_0,cl_1,cl_2,cl_3,cl_4,cl_5,cl_6,cl_f⟩:=(hL).c7;obtain⟨cz_0,cz_1,cz_2,cz_3,cz_4,cz_5,cz_6,cz_f⟩:=(hZ).c7;have hLb:=hL.lt;go_wp2_with fail;go_region_with(first| (go_at_call 178;refine(H.out.2.1 _ _ _ (HK2.out.rr.drewN 1) HY.out).mono ?_;rintro e w4 ⟨g4,v,rfl,hv,h4⟩;have hk4:=HK2.out.gb hb (Aa (Am (Ac w2 (some b))) g4) h4;have hL4:=hk4.blk;have hZ4:=hk4.zero;obtain⟨dl_0,dl_1,dl_2,dl_3,dl_4,dl_5,dl_6,dl_f⟩:=(hL4).c7;obtain⟨dz_0,dz_1,dz_2,dz_3,dz_4,dz_5,dz_6,dz_f⟩:=(hZ4).c7;have hok:∀q,w4.heap.size≤q→but w w1.heap.size q:=(fun q hq=>by have:=hL4.lt;exact⟨by omega,by omega⟩);have hz:VE (but w w1.heap.size) w4 v z:=hv.mono (fun q hq _=>by have hq:w2.heap.size≤q:=hq;exact⟨by omega,by omega⟩);have HZ4:=O (Z hk4 (Z hok hz));clear hk4 hok hz hv h4)| (go_at_call 89;refine(D0 o x z _ _ HZ4.out.2.1 HZ4.out.1.ve HZ4.out.2.2).mono ?_;rintro e w5 ⟨u,rfl,hu,g5⟩;obtain⟨ua,uc,va,vc,rfl,ru,rv⟩:=hu;have hZ5:=hZ4.gb g5 (by simp);obtain⟨ez_0,ez_1,ez_2,ez_3,ez_4,ez_5,ez_6,ez_f⟩:=(hZ5).c7;have HU:=O (Z g5 (Z ru rv));clear g5 ru rv));all_goals
     generalize hbe:Ax o x z=bz at*;have hk5:=HZ4.out.1.gbN hb HU.out.1;have HK5:=O hk5;clear hk5;go_wp2;have hk5:=HK5.out;have g7:=Ah w5 w.heap.size (.int .i64 bz.h.op) (str bz.h.s) (.int .i64 bz.h.vk) (.int .i64 bz.h.vn) (str bz.h.vs) (.slice ua bz.h.p.length uc) (.slice va bz.kids.len vc);exact bodyPost_ret (Al rfl _ (hZ5.set7 _ _ _ _ _ _ _) rfl) rfl (Bh hb hk5.gr ⟨_,_,_,_,rfl,HU.out.2.1,HU.out.2.2⟩ (by intro k hk;exact hk.1) hk5.rr g7)
 ·rw[if_neg (by simpa using he)]at ho;obtain⟨⟨x,st1⟩,hx,ho⟩:=Option.bind_eq_some_iff.1 ho;simp only at ho;cases ho;have es:(A6 l [[46,78,79,84,46],[33]] st).1=Au l [[46,78,79,84,46],[33]] st:=rfl;rw[es];have hs0:(Au l [[46,78,79,84,46],[33]] st==[])=false:=by simpa using he
  have hs1:(Au l [[46,78,79,84,46],[33]] st !=[])=true:=by simpa using he
  have HX:=O (H.out.1 _ _ _ h0 hx);clear he es hx h0;generalize Au l [[46,78,79,84,46],[33]] st=o at*;go_wp2_with fail;refine(HX.out).mono ?_;rintro e w1 ⟨g1,v,rfl,⟨pa,pc,la,lc,rfl,rp,rl⟩,h1⟩;simp only at rp rl h1 ⊢;have hs1:=g1.size;have hb1:=h1.lt;have hlt1:w.heap.size<w1.heap.size:=by omega
  have hZ:=hB.gb g1 (by simp;omega);have H2:=O (Z rp (Z rl (Z h1 (Aa g0 g1))));clear rp rl hB h1 g1 g0;obtain⟨cz_0,cz_1,cz_2,cz_3,cz_4,cz_5,cz_6,cz_f⟩:=(hZ).c7;go_wp2;obtain⟨rp,rl,h1,gg⟩:=H2.out;have g7:=Ah w1 w.heap.size (.int .i64 4) (str [46,78,79,84,46]) (.int .i64 0) (.int .i64 0) (str []) (.slice none 0 0) (.slice (some ⟨w1.heap.size,0,none⟩) 1 1);have hW:=hZ.set7 (.int .i64 4) (str [46,78,79,84,46]) (.int .i64 0) (.int .i64 0) (str []) (.slice none 0 0) (.slice (some ⟨w1.heap.size,0,none⟩) 1 1);have hsz:(set7 w1 w.heap.size (.int .i64 4) (str [46,78,79,84,46]) (.int .i64 0) (.int .i64 0) (str []) (.slice none 0 0) (.slice (some ⟨w1.heap.size,0,none⟩) 1 1)).heap.size=w1.heap.size:=by simp[set7]
  simp only[set7]at hW g7 hsz;generalize(((((((w1.setCell {block:=w.heap.size,off:=0} (.int .i64 4)).setCell {block:=w.heap.size,off:=1} (str [46,78,79,84,46])).setCell {block:=w.heap.size,off:=2} (.int .i64 0)).setCell {block:=w.heap.size,off:=3} (.int .i64 0)).setCell {block:=w.heap.size,off:=4} (str [])).setCell {block:=w.heap.size,off:=5} (.slice none 0 0)).setCell {block:=w.heap.size,off:=6} (.slice (some ⟨w1.heap.size,0,none⟩) 1 1))=W at*;exact bodyPost_ret (Al (hd:=hd0 4 [46,78,79,84,46]) (pv:= .slice none 0 0) (lv:= .slice (some ⟨w1.heap.size,0,none⟩) 1 1) rfl _ (Blk.alloc hW (Obj.cells #[Value.int IntKind.i64 x.h.op,str x.h.s,Value.int IntKind.i64 x.h.vk,Value.int IntKind.i64 x.h.vn,str x.h.vs,Value.slice pa x.h.p.length pc,Value.slice la x.kids.len lc] 27)) rfl) rfl (Fb (op:=4) (s:=[46,78,79,84,46]) hb gg rp rl (by intro q hq;have:(w0).heap.size≤q:=hq;omega) h1 g7 hsz)
end
section
variable {b:Nat}{tv:Value}{l:List Tok}
theorem Oe{E pr:FR Ex}(hE:CR 48 b tv l E)(hP:CR 304 b tv l pr)(N:Nat):∀n,CR 283 b tv l (DB l E pr N n):=by
 intro n;induction n with
 |zero=>intro w st r h ho;cases ho
 |succ n ih=>
 intro w st r h ho;have hb:=h.lt;rw[DB]at ho;have gz:w.grownBy (w.alloc (.cells zeroE.toArray 27 (0,0))) (some b):=Ad (Ac _ _) _;have hz:=Blk.new w zeroE 27;have h0:=h.alloc (.cells zeroE.toArray 27 (0,0));have HT:=O (Cg h0 [45]);cases hs:A4 l [45] st with
 | true=>
   rw[hs]at HT ho;have hq:(DB l E pr N n (Ak l [45] st)).bind (fun r=>some (unE [45] r.1,r.2))=some r:=ho;obtain⟨⟨x,st1⟩,hx,hq⟩:=Option.bind_eq_some_iff.1 hq;simp only at hq;cases hq;have H:=O (Z ih (Z hx (Z hz gz)));clear ho hs hE hP ih hx hz gz h0;go_enter func283,ntmps283;go_wp2_with fail;refine HT.out.mono ?_;rintro e w0 ⟨gs,v,rfl,rfl,h0⟩;have hB:=H.out.2.2.1.gb gs (by simp;omega);have g0:=Aa H.out.2.2.2 gs;have hw0:w.heap.size<w0.heap.size:=hB.lt;have HX:=O (H.out.1 _ _ _ h0 H.out.2.1);clear gs HT h0;go_wp2_with fail;refine(HX.out).mono ?_;rintro e w1 ⟨g1,v,rfl,⟨pa,pc,la,lc,rfl,rp,rl⟩,h1⟩;simp only at rp rl h1 ⊢;have hs1:=g1.size;have hb1:=h1.lt;have hlt1:w.heap.size<w1.heap.size:=by omega
   have hZ:=hB.gb g1 (by simp;omega);have H2:=O (Z rp (Z rl (Z h1 (Aa g0 g1))));clear rp rl hB h1 g1 g0;obtain⟨cz_0,cz_1,cz_2,cz_3,cz_4,cz_5,cz_6,cz_f⟩:=(hZ).c7;go_wp2;obtain⟨rp,rl,h1,gg⟩:=H2.out;have g7:=Ah w1 w.heap.size (.int .i64 4) (str [45]) (.int .i64 0) (.int .i64 0) (str []) (.slice none 0 0) (.slice (some ⟨w1.heap.size,0,none⟩) 1 1);have hW:=hZ.set7 (.int .i64 4) (str [45]) (.int .i64 0) (.int .i64 0) (str []) (.slice none 0 0) (.slice (some ⟨w1.heap.size,0,none⟩) 1 1);have hsz:(set7 w1 w.heap.size (.int .i64 4) (str [45]) (.int .i64 0) (.int .i64 0) (str []) (.slice none 0 0) (.slice (some ⟨w1.heap.size,0,none⟩) 1 1)).heap.size=w1.heap.size:=by simp[set7]
   simp only[set7]at hW g7 hsz;generalize(((((((w1.setCell {block:=w.heap.size,off:=0} (.int .i64 4)).setCell {block:=w.heap.size,off:=1} (str [45])).setCell {block:=w.heap.size,off:=2} (.int .i64 0)).setCell {block:=w.heap.size,off:=3} (.int .i64 0)).setCell {block:=w.heap.size,off:=4} (str [])).setCell {block:=w.heap.size,off:=5} (.slice none 0 0)).setCell {block:=w.heap.size,off:=6} (.slice (some ⟨w1.heap.size,0,none⟩) 1 1))=W at*;exact bodyPost_ret (Al (hd:=hd0 4 [45]) (pv:= .slice none 0 0) (lv:= .slice (some ⟨w1.heap.size,0,none⟩) 1 1) rfl _ (Blk.alloc hW (Obj.cells #[Value.int IntKind.i64 x.h.op,str x.h.s,Value.int IntKind.i64 x.h.vk,Value.int IntKind.i64 x.h.vn,str x.h.vs,Value.slice pa x.h.p.length pc,Value.slice la x.kids.len lc] 27)) rfl) rfl (Fb (op:=4) (s:=[45]) hb gg rp rl (by intro q hq;have:(w0).heap.size≤q:=hq;omega) h1 g7 hsz)
 | false=>
   rw[hs]at HT ho;have hq:(pr (Ak l [45] st)).bind (fun r=>De l E N r.1 r.2)=some r:=ho;obtain⟨⟨x,st1⟩,hx,hq⟩:=Option.bind_eq_some_iff.1 hq;simp only at hq;have H:=O (Z hE (Z hP (Z hx (Z hz (Z gz hq)))));clear ho hs hE hP ih hx hz gz h0 hq;go_enter func283,ntmps283;go_wp2_with fail;refine HT.out.mono ?_;rintro e w0 ⟨gs,v,rfl,rfl,h0⟩;have hB:=H.out.2.2.2.1.gb gs (by simp;omega);have g0:=Aa H.out.2.2.2.2.1 gs;have hw0:w.heap.size<w0.heap.size:=hB.lt;have HX:=O (H.out.2.1 _ _ _ h0 H.out.2.2.1);have HB:=O (Z hB g0);clear gs HT h0 hB g0;go_wp2_with fail;refine HX.out.mono ?_;rintro e w1 ⟨g1,v,rfl,⟨pa,pc,la,lc,rfl,rp,rl⟩,h1⟩;simp only at rp rl h1 ⊢;have HK:=O (KpR.new hb HB.out.1 HB.out.2 hw0 g1 rp rl h1);have hb1:=h1.lt;clear rp rl h1 HX g1 HB;go_wp2_with fail;go_loopg [] N (fun m wr=>∃x pa pc la lc st,KpR b tv l w w1.heap.size wr x pa pc la lc st∧De l E m x st=some r)
   case atStart=>exact⟨x,pa,pc,la,lc,_,HK.out,H.out.2.2.2.2.2⟩
   case round=>
    obtain⟨x,pa,pc,la,lc,st2,hk,hloop⟩:=hrel;clear HK;cases gk with
    |zero=>cases hloop
    |succ m=>
    rw[De]at hloop;have HT:=O (Cg hk.rr [91]);have HK:=O hk;cases hs:A4 l [91] st2 with
    | false=>
      rw[hs]at HT hloop;have hq:some (x,Ak l [91] st2)=some r:=hloop;clear hloop hs hk;go_wp2_with fail;refine HT.out.mono ?_;rintro e w2 ⟨g2,v,rfl,rfl,h2⟩;have HK2:=O (HK.out.gb hb g2 h2);clear g2 h2 HK;cases hq;have hk2:=HK2.out;have hL:=hk2.blk;have hZ:=hk2.zero;have hwL:=hk2.wL;clear hk2;obtain⟨cl_0,cl_1,cl_2,cl_3,cl_4,cl_5,cl_6,cl_f⟩:=(hL).c7;obtain⟨cz_0,cz_1,cz_2,cz_3,cz_4,cz_5,cz_6,cz_f⟩:=(hZ).c7;go_wp2;have hk:=HK2.out;have g7:=Ah w2 w.heap.size (.int .i64 x.h.op) (str x.h.s) (.int .i64 x.h.vk) (.int .i64 x.h.vn) (str x.h.vs) (.slice pa x.h.p.length pc) (.slice la x.kids.len lc);exact bodyPost_ret (Al rfl _ (hZ.set7 _ _ _ _ _ _ _) rfl) rfl (Bh hb hk.gr hk.ve (by intro k hk;exact hk.1) hk.rr g7)
    | true=>
      rw[hs]at HT hloop;have hq:(E (Ak l [91] st2)).bind (fun r=>De l E m (C5 x r.1) (AR l [93] r.2))=some r:=hloop;obtain⟨⟨z,st3⟩,hy,hq⟩:=Option.bind_eq_some_iff.1 hq;simp only at hq;have HQ:=O hq;have HY:=O hy;clear hloop hs hk hq hy;go_wp2_with fail;refine HT.out.mono ?_;rintro e w2 ⟨g2,v,rfl,rfl,h2⟩;have hbw2:=h2.lt;have HK2:=O (HK.out.gb hb g2 h2);have hL2:=HK2.out.blk.lt;have HX:=O (H.out.1 _ _ _ h2 HY.out);clear g2 h2 HK HT;go_wp2_with fail;refine HX.out.mono ?_;rintro e w4 ⟨g4,v,rfl,⟨za,zc,na,nc,rfl,zp,zl⟩,h4⟩;simp only at zp zl h4 ⊢;have hs4:=g4.size;have hwL:=HK2.out.wL;have gI:=World.grownBy_alloc w4 (.cells (hdC z.h (.slice za z.h.p.length zc) (.slice na z.kids.len nc)).toArray 27 (0,0)) none;have hin:∀g,A8 w2.heap.size g→but w w1.heap.size g:=fun g hg=>by have hg:w2.heap.size≤g:=hg;exact⟨by omega,by omega⟩
      have hkI:=(HK2.out.gb hb g4 h4).gbN hb gI;have HI:=O (Z (Blk.new w4 (hdC z.h (.slice za z.h.p.length zc) (.slice na z.kids.len nc)) 27) (Z ((zp.gb gI (by simp)).mono fun g hg _=>hin g hg) ((zl.gb gI (by simp)).mono fun g hg _=>hin g hg)));have HKI:=O hkI;have hb4:=h4.lt;clear hkI gI zp zl h4 g4 HX hin;go_wp2_with fail;refine(CO HKI.out.rr [93]).mono ?_;rintro e w6 ⟨g6,v,rfl,rfl,h6⟩;have hk6:=HKI.out.gb hb g6 h6;have hI6:=HI.out.1.gb g6 (by simp;omega);have hL6:=hk6.blk;have hok6:∀q,but w w1.heap.size q→q<(w4.alloc (.cells (hdC z.h (.slice za z.h.p.length zc) (.slice na z.kids.len nc)).toArray 27 (0,0))).heap.size→some q≠some b:=fun q hq _ e=>by cases e;have:=hq.1;omega
      have hK7:=hk6.two hb 6 [] (HI.out.2.1.gb g6 hok6) (HI.out.2.2.gb g6 hok6);have HK7:=O hK7;have hlt6:=hL6.lt;have hlt7:=hI6.lt;have hne6:w1.heap.size≠w4.heap.size:=by omega
      clear hk6 hK7 h6 g6;obtain⟨cl_0,cl_1,cl_2,cl_3,cl_4,cl_5,cl_6,cl_f⟩:=(hL6).c7;obtain⟨ci_0,ci_1,ci_2,ci_3,ci_4,ci_5,ci_6,ci_f⟩:=(hI6).c7;go_wp2_with fail;go_roundg m
      case measure=>omega
      case rel=>exact⟨C5 x z,none,0,_,2,_,HK7.out,HQ.out⟩
end
end Go.Proofs.YtgjdhajcnechdaaGreatDoor
