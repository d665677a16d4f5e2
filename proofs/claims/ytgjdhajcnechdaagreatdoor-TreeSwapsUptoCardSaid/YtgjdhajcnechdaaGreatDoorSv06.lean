/-
  append onto a slice that the call has made, with one thing more than the kit's law says: the row stays, or is new. The reference's reader of tokens in memory; token, wrong, isSign, next, take, want, e
-/
import Derived.Test.YtgjdhajcnechdaaGreatDoorSv05
import Derived.Test.YtgjdhajcnechdaaGreatDoorSv03
import Derived.Test.YtgjdhajcnechdaaGreatDoorSv02
import Derived.Test.YtgjdhajcnechdaaGreatDoorPlain
set_option linter.all false
set_option maxRecDepth 100000
set_option maxHeartbeats 8000000
namespace Go.Proofs.YtgjdhajcnechdaaGreatDoor
open Go.Proofs.Tryz
open Go.RowKit
theorem Li{P:Program}(w:World)(base:Nat)(t ty e:TypeId)(i:TypeInfo)(z:Value)(size bytes:Nat)(ht:P.underlying t=some (.slice e))(hi:P.info? e=some i)(hz:i.zero=some z)
 (hsize:i.size=size) (hby:i.bytes=bytes) (hzs:z.cells.size=size) (hsz:0<size)
 (v:Value) (n:Nat) (xs:List Value) (hown:w.ownsRow base e size v n xs)
 (a:Addr) (m c:Nat) (news:List Value) (hl:news.length=m*size) (hnews:∀j u,news[j]? =some u→w.cell? (a.add j)=some u) (h1:∀u∈news,u.oneCell'=true)
 (h63:n+m≤maxLen) (hbytes:(n+m)*bytes≤140737488355328) (hbase:base≤w.heap.size):
 ∃v' w',(Builtin.append_ #[t,t] ty #[v,.slice (some a) m c]).run P w= .ok v' w'∧w'.ownsRow base e size v' (n+m) (xs++news)∧w.grownBy w' v.ownBlock∧
  (∀k,v'.ownBlock=some k→v.ownBlock=some k∨w.heap.size≤k):=by
 obtain⟨v1,w1,hr1,ho1,hg1,_⟩:=run_append_own (P:=P) w base t ty e i z size bytes ht hi hz hsize hby hzs hsz v n xs hown a m c news hl hnews h1 h63 hbytes hbase;refine⟨v1,w1,hr1,ho1,hg1,fun k hk=>?_⟩;rcases hown.2 with⟨rfl,rfl⟩| ⟨g,cap,cur,rfl,hbg,hg,hnc,hcm,hcs,htake⟩
 ·obtain⟨v2,w2,hr2,ho2,_,_⟩:=run_append_own (P:=P) w w.heap.size t ty e i z size bytes ht hi hz hsize hby hzs hsz _ 0 xs ⟨hown.1,.inl ⟨rfl,rfl⟩⟩ a m c news hl hnews h1 h63 hbytes (Nat.le_refl _);rw[hr1]at hr2;cases hr2;exact .inr (ho2.lt k hk).1
 ·by_cases hroom:n+m≤cap
  ·have hfit:n*i.size+news.length≤cur.size:=by rw[hl,hcs,hsize,←Nat.add_mul];exact Nat.mul_le_mul_right _ hroom
   have hr:=run_append_room (P:=P) w t ty e i ht hi g n cap cur hg a m c news (by rw[hsize];exact hl) hnews h1 hroom hfit;rw[hr1]at hr;cases hr;left;simpa[Value.ownBlock]using hk
  ·have holds:∀j u,xs[j]? =some u→w.cell? ((⟨g,0,none⟩:Addr).add j)=some u:=hown.cells (g:=g) rfl;have hr:=run_append_grow (P:=P) w t ty e i z ht hi hz ⟨g,0,none⟩ n cap xs (by rw[hsize];exact hown.1) holds a m c news (by rw[hsize];exact hl) hnews (by omega) (by unfold maxLen at h63;omega) (by rw[hby];exact growslice_fits (by unfold maxLen at h63;omega) hbytes);rw[hr1]at hr;cases hr;right;simp[Value.ownBlock]at hk;omega
theorem DE{P:Program}{w:World}{ops:Array Oper}{rest:List Oper}{o:Oper}{a:Act}{Q:Exit→Act→World→Prop}(hgd:o.guard=none)(s x:Operand)(t:TypeId)
 (ho:o.op= .call {callee:= .builtin .append,args:=#[s,x],argTypes:=#[t,t]})
 (base:Nat) (e:TypeId) (i:TypeInfo) (z:Value) (size bytes:Nat) (ht:P.underlying t=some (.slice e)) (hi:P.info? e=some i) (hz:i.zero=some z)
 (hsize:i.size=size) (hby:i.bytes=bytes) (hzs:z.cells.size=size) (hsz:0<size)
 (v:Value) (n:Nat) (xs:List Value) (hs:a.eval s=v) (hown:w.ownsRow base e size v n xs)
 (ad:Addr) (m c:Nat) (news:List Value) (hx:a.eval x= .slice (some ad) m c) (hl:news.length=m*size) (hnews:∀j u,news[j]? =some u→w.cell? (ad.add j)=some u) (h1:∀u∈news,u.oneCell'=true)
 (h63:n+m≤maxLen) (hbytes:(n+m)*bytes≤140737488355328) (hbase:base≤w.heap.size)
 (h:∀v' w',w'.ownsRow base e size v' (n+m) (xs++news)→w.grownBy w' v.ownBlock→(∀k,v'.ownBlock=some k→v.ownBlock=some k∨w.heap.size≤k)→wpList P ops Q rest (a.put o.dst v') w'):wpList P ops Q (o::rest) a w:=by
 refine wpList_plain hgd fun K hK=>?_;obtain⟨v',w',hr,h2,h3,h4⟩:=Li (P:=P) w base t o.type e i z size bytes ht hi hz hsize hby hzs hsz v n xs hown ad m c news hl hnews h1 h63 hbytes hbase;unfold Oper.wp execOp;simp only[ho,resolve,invoke,builtin,Sem.run_bind,Sem.run_pure,Result.andThen_ok,List.map_toArray,List.map_cons,List.map_nil,hs,hx,hr];exact hK _ _ (h v' w' h2 h3 h4)
theorem Ce(w:World)(cs:List Value)(t:TypeId):∀j u,cs[j]? =some u→(w.alloc (.cells cs.toArray t (0,0))).cell? ((⟨w.heap.size,0,none⟩:Addr).add j)=some u:=by
 intro j u h;have e:(⟨w.heap.size,0,none⟩:Addr).add j=⟨w.heap.size,j,none⟩:=by unfold Addr.add;split<;>simp_all
 rw[e];exact(Blk.new w cs t).cell' j h
theorem OwnF.snoc{w w1:World}{B n:Nat}{v v':Value}{f:Fo}{x:Ex}{cs:List Value}{pa la:Option Addr}{pc lc:Nat}{okx:Nat→Prop}
 (hf:RepF (fun g=>B≤g∧v.ownBlock≠some g) w f cs) (hn:n=f.len)
 (rp:Cells w (.slice pa x.h.p.length pc) 1 x.h.p.length (x.h.p.map str) okx) (rl:RepL okx w (.slice la x.kids.len lc) x.kids) (hokx:∀k,okx k→B≤k∧v.ownBlock≠some k)
 (ho:w1.ownsRow B 27 7 v' (n+1) (cs++hdC x.h (.slice pa x.h.p.length pc) (.slice la x.kids.len lc))) (hg:w.grownBy w1 v.ownBlock) (hnew:∀k,v'.ownBlock=some k→v.ownBlock=some k∨w.heap.size≤k):
 OwnF w1 B v' (f.snoc x):=by
 subst hn;refine⟨_,by rw[Fo.len_snoc];exact ho,?_⟩;have h1:RepF (fun g=>B≤g∧v.ownBlock≠some g) w (f.snoc x) (cs++hdC x.h (.slice pa x.h.p.length pc) (.slice la x.kids.len lc)):=
  hf.app (VE.rep (rp.mono fun k hk _=>hokx k hk) (rl.mono fun k hk _=>hokx k hk))
 have h2:=RepF.mono (ok':=fun g=>B≤g∧v.ownBlock≠some g∧v'.ownBlock≠some g) (fun k hk hlt=>⟨hk.1,hk.2,fun e=>by
  rcases hnew k e with h|h
  ·exact hk.2 h
  ·omega⟩) h1
 exact(h2.gb hg fun k hk _ e=>hk.2.1 e.symm).mono fun k hk _=>⟨hk.1,hk.2.2⟩
theorem Cl:(Tryz.prog.info? 27).map (fun i=>(i.zero,i.size,i.bytes))=some (some (.agg #[.int .i64 0,str [],.int .i64 0,.int .i64 0,str [],.slice none 0 0,.slice none 0 0]),7,104):=by kernel_rfl
theorem Eh:(Tryz.prog.info? 9).map (fun i=>(i.zero,i.size,i.bytes))=some (some (str []),1,16):=by kernel_rfl
theorem Jc:(Tryz.prog.info? 105).map (fun i=>(i.zero,i.size,i.bytes))=some (some (.agg #[.int .i64 0,.int .i64 0,str []]),3,32):=by kernel_rfl
structure Rr(w:World)(b:Nat)(tv:Value)(l:List Tok)(st:RS):Prop where
 blk:Blk w b [tv,.int .i64 st.1,.bool st.2,.slice none 0 0] 85
 toks:TRow w tv l (· < b)
 le:st.1≤l.length
 few:l.length≤4000000
section
variable {w w1:World}{b:Nat}{tv:Value}{l:List Tok}{st:RS}
theorem Rr.lt(h:Rr w b tv l st):b<w.heap.size:=h.blk.lt
theorem Rr.c0(h:Rr w b tv l st):w.cell? ⟨b,0,none⟩=some tv:=h.blk.cell 0
theorem Rr.c1(h:Rr w b tv l st):w.cell? ⟨b,1,none⟩=some (.int .i64 st.1):=h.blk.cell 1
theorem Rr.c2(h:Rr w b tv l st):w.cell? ⟨b,2,none⟩=some (.bool st.2):=h.blk.cell 2
theorem Rr.c3(h:Rr w b tv l st):w.cell? ⟨b,3,none⟩=some (.slice none 0 0):=h.blk.cell 3
theorem Rr.fr(h:Rr w b tv l st)(k:Nat):w.frozen? ⟨b,k,none⟩=false:=h.blk.frozen k
theorem Rr.gb{r:Option Nat}(h:Rr w b tv l st)(g:w.grownBy w1 r)(hr:∀k,r=some k→b<k):Rr w1 b tv l st:=
 ⟨h.blk.gb g (fun e=>by have:=hr _ e.symm;omega),h.toks.gb g (fun k hk e=>by have:=hr _ e.symm;omega),h.le,h.few⟩
theorem Rr.gbN(h:Rr w b tv l st)(g:w.grownBy w1 none):Rr w1 b tv l st:=h.gb g (by simp)
theorem Rr.alloc(h:Rr w b tv l st)(o:Obj):Rr (w.alloc o) b tv l st:=h.gbN (World.grownBy_alloc w o none)
theorem Rr.drewN(h:Rr w b tv l st)(n:Nat):Rr (w.drewN n) b tv l st:=h.gbN (A3 (Ac w none) n)
theorem Rr.go(h:Rr w b tv l st)(z:Int)(j:Nat)(hz:z=j)(hj:j≤l.length):Rr (w.setCell ⟨b,1,none⟩ (.int .i64 z)) b tv l (j,st.2):=by
 subst hz;have g:w.grownBy (w.setCell ⟨b,1,none⟩ (.int .i64 j)) (some b):=Ay (Ac w _) _ _ (.inl rfl);exact⟨(h.blk.set 1 (.int .i64 j)).of_eq rfl rfl,h.toks.gb g (by intro k hk;simp;omega),hj,h.few⟩
theorem Rr.fail(h:Rr w b tv l st):Rr (w.setCell ⟨b,2,none⟩ (.bool true)) b tv l (st.1,true):=by
 have g:w.grownBy (w.setCell ⟨b,2,none⟩ (.bool true)) (some b):=Ay (Ac w _) _ _ (.inl rfl);exact⟨(h.blk.set 2 (.bool true)).of_eq rfl rfl,h.toks.gb g (by intro k hk;simp;omega),h.le,h.few⟩
theorem Rr.tok(h:Rr w b tv l st){j:Nat}(hj:j<l.length):∃lb lo cap,tv= .slice (some ⟨lb,lo,none⟩) l.length cap∧lb<w.heap.size∧lb≠b∧
 w.cell? ⟨lb,lo+j*3,none⟩=some (.int .i64 (Ab l j).kind)∧w.cell? ⟨lb,lo+j*3+1,none⟩=some (.int .i64 (Ab l j).pos)∧
 w.cell? ⟨lb,lo+j*3+2,none⟩=some (.string ⟨(Ab l j).text.toArray⟩):=by
 obtain⟨a,cap,e,_,_,h3⟩:=h.toks;obtain⟨lb,lo,ea,ho,c0,c1,c2⟩:=h3 j hj;subst ea;exact⟨lb,lo,cap,e,World.block_lt_of_cell? w _ c0,Nat.ne_of_lt ho,c0,c1,c2⟩
theorem Rr.tv_eq(h:Rr w b tv l st):∃a cap,tv= .slice a l.length cap:=by
 obtain⟨a,cap,e,_⟩:=h.toks;exact⟨a,cap,e⟩
end
def B5(b:Nat)(tv:Value)(l:List Tok)(w:World){α:Type}(V:World→Value→α→Prop)(r:α×RS)(e:Ending)(w':World):Prop:=
 w.grownBy w' (some b)∧∃v,e= .returned v∧V w' v r.1∧Rr w' b tv l r.2
abbrev VB:World→Value→Bool→Prop:=fun _ v x=>v= .bool x
abbrev VU:World→Value→Unit→Prop:=fun _ v _=>v= .tuple #[]
abbrev VStr:World→Value→Bs→Prop:=fun _ v x=>v=str x
section
variable {w:World}{b:Nat}{tv:Value}{l:List Tok}{st:RS}
theorem Nv(h:Rr w b tv l st)(k:Nat)(hk:st.1+k<l.length)(hk2:k≤4):
 Calls Tryz.prog 179 #[.pointer (some ⟨b,0,none⟩),.int .i64 k] w fun e w'=>e= .returned (AY (Ab l (st.1+k)))∧w.grownBy w' none:=by
 obtain⟨lb,lo,cap,e,hlb,_,t0,t1,t2⟩:=h.tok hk;have c0:=h.c0;have c1:=h.c1;have hb:=h.lt;have hf:=h.few;rw[e]at c0;obtain⟨i,f⟩:=st;simp only at hk c1 t0 t1 t2 ⊢;have hlt':decide ((i:Int)+k<(l.length:Int))=true:=by simp;omega
 unfold AY;generalize(Ab l (i+k)).kind=x at*;generalize(Ab l (i+k)).pos=y at*;generalize(Ab l (i+k)).text=s at*;generalize l.length=n at*;clear e h;have hw1:IntKind.i64.wrap ((i:Int)+k)=(i:Int)+k:=IntWalk.i64_in _ (by omega);have h1:(0:Int)≤(i:Int)+k:=by omega
 have h2:(i:Int)+k<n:=by omega
 go_enter func179,ntmps179;go_wp2;go_quiet(fail);go_wp2;go_region;go_wp2;refine bodyPost_ret (v:= .agg #[.int .i64 x,.int .i64 y,str s]) ?_ rfl ⟨rfl,?_⟩
 ·simp[results,results179,go_sem]
 ·exact (by repeat(first| (with_reducible exact Ac _ _)| (with_reducible assumption)| (with_reducible exact AU (by assumption))| (with_reducible refine Ad ?_ _)| (with_reducible refine Am ?_)| (with_reducible refine A3 ?_ _)| ((with_reducible refine Ay ?_ _ _ ?h2);case h2=>first|exact .inl rfl|exact .inr (Nat.le_refl _)|exact .inr (by simp<;>omega))| (with_reducible refine Ah ?_ (by assumption))| (with_reducible refine Aa ?_ (by assumption))))
theorem OT(h:Rr w b tv l st)(k:Nat)(hk:l.length≤st.1+k)(hk2:k≤4):
 Calls Tryz.prog 179 #[.pointer (some ⟨b,0,none⟩),.int .i64 k] w fun e w'=>e= .returned (AY (Ab l (st.1+k)))∧w.grownBy w' none:=by
 have et:Ab l (st.1+k)=⟨-1,0,[]⟩:=by simp[Ab,List.getElem?_eq_none hk]
 rw[et];clear et;obtain⟨a,cap,e⟩:=h.tv_eq;have c0:=h.c0;have c1:=h.c1;have hb:=h.lt;have hf:=h.few;have hle:=h.le;rw[e]at c0;obtain⟨i,f⟩:=st;simp only at hk c1 hle ⊢;have hlt':decide ((i:Int)+k<(l.length:Int))=false:=by simp;omega
 have hw1:IntKind.i64.wrap ((i:Int)+k)=(i:Int)+k:=IntWalk.i64_in _ (by omega);generalize l.length=n at*;clear e h;go_enter func179,ntmps179;go_wp2;go_quiet(fail);go_wp2;refine bodyPost_ret (v:= .agg #[.int .i64 (-1),.int .i64 0,str []]) ?_ rfl ⟨rfl,?_⟩
 ·simp[results,results179,go_sem]
 ·exact (by repeat(first| (with_reducible exact Ac _ _)| (with_reducible assumption)| (with_reducible exact AU (by assumption))| (with_reducible refine Ad ?_ _)| (with_reducible refine Am ?_)| (with_reducible refine A3 ?_ _)| ((with_reducible refine Ay ?_ _ _ ?h2);case h2=>first|exact .inl rfl|exact .inr (Nat.le_refl _)|exact .inr (by simp<;>omega))| (with_reducible refine Ah ?_ (by assumption))| (with_reducible refine Aa ?_ (by assumption))))
theorem Ij(h:Rr w b tv l st)(k:Nat)(hk2:k≤4):
 Calls Tryz.prog 179 #[.pointer (some ⟨b,0,none⟩),.int .i64 k] w fun e w'=>e= .returned (AY (Ab l (st.1+k)))∧w.grownBy w' none:=by
 by_cases hk:st.1+k<l.length
 ·exact Nv h k hk hk2
 ·exact OT h k (by omega) hk2
theorem DG(h:Rr w b tv l st):
 Calls Tryz.prog 179 #[.pointer (some ⟨b,0,none⟩),.int .i64 0] w fun e w'=>e= .returned (AY (Ab l st.1))∧w.grownBy w' none:=Ij h 0 (by omega)
theorem DY(h:Rr w b tv l st):
 Calls Tryz.prog 324 #[.pointer (some ⟨b,0,none⟩)] w (B5 b tv l w VU ((),(st.1,true))):=by
 have c2:=h.c2;have f2:=h.fr 2;go_enter func324,ntmps324;go_wp2;go_end0;exact⟨Ay (Ac _ _) _ _ (.inl rfl),_,rfl,rfl,h.fail⟩
theorem E8(h:Rr w b tv l st)(k:Nat)(hk2:k≤4)(s:Bs):
 Calls Tryz.prog 139 #[.pointer (some ⟨b,0,none⟩),.int .i64 k,str s] w fun e w'=>e= .returned (.bool (Ae (Ab l (st.1+k)) s))∧w.grownBy w' none:=by
 have HT:=O (Ij h k hk2);generalize Ab l (st.1+k)=t at*;clear h;by_cases hk:t.kind=4
 ·have HK:=O hk;clear hk;go_enter func139,ntmps139;go_wp2_with fail;refine HT.out.mono ?_;rintro e w1 ⟨rfl,g1⟩;rw[AY,HK.out];go_wp2;go_ret;exact⟨by simp[Ae,HK.out],(by repeat(first| (with_reducible exact Ac _ _)| (with_reducible assumption)| (with_reducible exact AU (by assumption))| (with_reducible refine Ad ?_ _)| (with_reducible refine Am ?_)| (with_reducible refine A3 ?_ _)| ((with_reducible refine Ay ?_ _ _ ?h2);case h2=>first|exact .inl rfl|exact .inr (Nat.le_refl _)|exact .inr (by simp<;>omega))| (with_reducible refine Ah ?_ (by assumption))| (with_reducible refine Aa ?_ (by assumption))))⟩
 ·have HK:=O hk;have hk':(t.kind==4)=false:=by simpa using hk
  clear hk;go_enter func139,ntmps139;go_wp2_with fail;refine HT.out.mono ?_;rintro e w1 ⟨rfl,g1⟩;go_wp2;go_ret;exact⟨by simp[Ae,hk'],(by repeat(first| (with_reducible exact Ac _ _)| (with_reducible assumption)| (with_reducible exact AU (by assumption))| (with_reducible refine Ad ?_ _)| (with_reducible refine Am ?_)| (with_reducible refine A3 ?_ _)| ((with_reducible refine Ay ?_ _ _ ?h2);case h2=>first|exact .inl rfl|exact .inr (Nat.le_refl _)|exact .inr (by simp<;>omega))| (with_reducible refine Ah ?_ (by assumption))| (with_reducible refine Aa ?_ (by assumption))))⟩
theorem KH{l:List Tok}{i:Nat}{k:Int}(h:(Ab l i).kind=k)(hk:0≤k):i<l.length:=D6 (by omega)
theorem FU(h:Rr w b tv l st)(hi:st.2=false→st.1<l.length):
 Calls Tryz.prog 314 #[.pointer (some ⟨b,0,none⟩)] w (B5 b tv l w VU ((),DR st)):=by
 obtain⟨i,f⟩:=st;have c1:=h.c1;have c2:=h.c2;have f1:=h.fr 1;have hf:=h.few;have hle:=h.le;simp only at c1 c2 hi hle;cases f with
 | true=>
   go_enter func314,ntmps314;go_wp2;go_end0;exact⟨Ac _ _,_,rfl,rfl,h⟩
 | false=>
   have hi:=hi rfl;go_enter func314,ntmps314;go_wp2;go_end0;exact⟨Ay (Ac _ _) _ _ (.inl rfl),_,rfl,rfl,h.go _ (i+1) rfl (by omega)⟩
theorem BX(h:Rr w b tv l st)(s:Bs):
 Calls Tryz.prog 88 #[.pointer (some ⟨b,0,none⟩),str s] w (B5 b tv l w VB (A2 l s st,Aj l s st)):=by
 obtain⟨i,f⟩:=st;have c2:=h.c2;simp only at c2;cases f with
 | true=>
   go_enter func88,ntmps88;go_wp2;go_ret;exact⟨Ac _ _,_,rfl,rfl,h⟩
 | false=>
   have HS:=O (E8 h 0 (by omega) s);have hf:=h.few;cases hs:Ae (Ab l i) s with
   | true=>
     have hi:=J7 hs;have HQ:=O (Z (show A2 l s (i,false)=true by simp[A2,hs]) (Gx hs));have HK:=O hs;clear hs;go_enter func88,ntmps88;go_wp2_with fail;refine HS.out.mono ?_;rintro e w1 ⟨rfl,g1⟩;rw[Nat.add_zero,HK.out];have h1:=h.gbN g1;have c1:=h1.c1;have f1:=h1.fr 1;simp only at c1;go_wp2;go_ret;refine⟨(by repeat(first| (with_reducible exact Ac _ _)| (with_reducible assumption)| (with_reducible exact AU (by assumption))| (with_reducible refine Ad ?_ _)| (with_reducible refine Am ?_)| (with_reducible refine A3 ?_ _)| ((with_reducible refine Ay ?_ _ _ ?h2);case h2=>first|exact .inl rfl|exact .inr (Nat.le_refl _)|exact .inr (by simp<;>omega))| (with_reducible refine Ah ?_ (by assumption))| (with_reducible refine Aa ?_ (by assumption)))),_,rfl,by rw[HQ.out.1];rfl,?_⟩;rw[HQ.out.2];exact h1.go _ (i+1) rfl (by omega)
   | false=>
     have HQ:=O (Z (show A2 l s (i,false)=false by simp[A2,hs]) (GE hs));have HK:=O hs;clear hs;go_enter func88,ntmps88;go_wp2_with fail;refine HS.out.mono ?_;rintro e w1 ⟨rfl,g1⟩;rw[Nat.add_zero,HK.out];go_wp2;go_ret;refine⟨AU g1,_,rfl,by rw[HQ.out.1];rfl,?_⟩;rw[HQ.out.2];exact h.gbN g1
theorem QZ(l:List Tok)(s:Bs)(st:RS):AQ l s st=if A2 l s st then Aj l s st else((Aj l s st).1,true):=by
 unfold AQ Aj;cases A2 l s st<;>rfl
theorem C7(h:Rr w b tv l st)(s:Bs):
 Calls Tryz.prog 305 #[.pointer (some ⟨b,0,none⟩),str s] w (B5 b tv l w VU ((),AQ l s st)):=by
 have HQ:=O (QZ l s st);have HT:=O (BX h s);clear h;cases hs:A2 l s st with
 | true=>
   rw[hs]at HT HQ;clear hs;go_enter func305,ntmps305;go_wp2_with fail;refine HT.out.mono ?_;rintro e w1 ⟨g1,v,rfl,rfl,h1⟩;go_wp2;go_end0;exact⟨g1,_,rfl,rfl,by rw[HQ.out];exact h1⟩
 | false=>
   rw[hs]at HT HQ;clear hs;go_enter func305,ntmps305;go_wp2_with fail;refine HT.out.mono ?_;rintro e w1 ⟨g1,v,rfl,rfl,h1⟩;go_wp2_with fail;refine(DY h1).mono ?_;rintro e w2 ⟨g2,v,rfl,rfl,h2⟩;go_wp2;go_end0;exact⟨Aa g1 g2,_,rfl,rfl,by rw[HQ.out];exact h2⟩
end
theorem gbB{w w':World}(h:Below w.heap.size w w')(r:Option Nat):w.grownBy w' r:=⟨h.os,h.tape,h.output,h.size,fun k hk _=>h.block k hk⟩
theorem IN(l cs:List UInt8):(Lib.trimS l cs==[])=l.all (cs.contains ·):=by
 have h1:∀l:List UInt8,(l.dropWhile (cs.contains ·)==[])=l.all (cs.contains ·):=by
  intro l;induction l with
  |nil=>rfl
  | cons a t ih=>
    simp only[List.dropWhile_cons,List.all_cons];cases cs.contains a
    ·simp
    ·simpa using ih
 have h2:∀l:List UInt8,((l.reverse.dropWhile (cs.contains ·)).reverse).all (cs.contains ·)=l.all (cs.contains ·):=by
  intro l;have:∀m:List UInt8,(m.dropWhile (cs.contains ·)).all (cs.contains ·)=m.all (cs.contains ·):=by
   intro m;induction m with
   |nil=>rfl
   | cons a t ih=>
     simp only[List.dropWhile_cons,List.all_cons];cases h:cs.contains a
     ·show(a::t).all _=_;rw[List.all_cons,h]
     ·simpa using ih
  rw[List.all_reverse,this,List.all_reverse]
 unfold Lib.trimS Lib.trimLeftS;rw[h1];exact h2 l
def nameSet:List UInt8:=[65,66,67,68,69,70,71,72,73,74,75,76,77,78,79,80,81,82,83,84,85,86,87,88,89,90,48,49,50,51,52,53,54,55,56,57,95]
theorem M0(b:UInt8):nameSet.contains b=Cq b:=by
 have h:∀n:Fin 256,nameSet.contains (UInt8.ofNat n.val)=Cq (UInt8.ofNat n.val):=by decide+kernel
 have:=h ⟨b.toNat,b.toNat_lt⟩;simpa using this
theorem O8(l:List UInt8):(Lib.trimS l nameSet==[])=l.all Cq:=by
 rw[IN];congr 1;funext b;exact M0 b
theorem Jy(c:UInt8)(t:List UInt8)(h:0<(⟨(c::t).toArray⟩:ByteArray).size):(⟨(c::t).toArray⟩:ByteArray)[0]'h=c:=rfl
theorem Hc(s:Bs)(w:World)(hs:s.length≤4000000):Calls Tryz.prog 126 #[str s] w fun e w'=>e= .returned (.bool (Al s))∧w.grownBy w' none:=by
 cases s with
 | nil=>
   go_enter func126,ntmps126;go_wp2;go_ret;exact⟨rfl,Ac _ _⟩
 | cons c t=>
   simp only[List.length_cons]at hs;have hg:=Jy c t;by_cases h10:t.length≤9
   ·by_cases hd:48≤c.toNat∧c.toNat≤57
    ·have hm:Al (c::t)=false:=by simp[Al,UInt8.le_iff_toNat_le,hd]
     rw[hm];clear hm;obtain⟨hd1,hd2⟩:=hd;go_enter func126,ntmps126;go_wp2;go_ret;exact⟨rfl,Ac _ _⟩
    ·have hm : Al (c :: t) = (c :: t).all Cq := by
      have e1:decide ((c::t).length≤10)=true:=by simp;omega
      have e2:(decide (48≤c)&&decide (c≤57))=false:=by
       rw[Bool.and_eq_false_iff,decide_eq_false_iff_not,decide_eq_false_iff_not,UInt8.le_iff_toNat_le,UInt8.le_iff_toNat_le];have:(48:UInt8).toNat=48:=rfl;have:(57:UInt8).toNat=57:=rfl;omega
      simp only[Al,e1,e2];rfl
     rw[hm,←O8];clear hm;have hc:c.toNat<48∨57<c.toNat:=by omega
     rcases hc with hc|hc
     all_goals
      clear hd;go_enter func126,ntmps126;go_wp2_with fail;refine(strings_Trim ⟨(c::t).toArray⟩ ⟨nameSet.toArray⟩ _ (by simp[ByteArray.size];omega) (by decide) (ascii_of_all (by decide))).mono ?_;rintro e w1 ⟨rfl,hb⟩;have hgb:=gbB hb none;generalize hz:Lib.trimS (c::t) nameSet=z at*;have HZ:=O hz;clear hz hb;go_wp2;go_ret;refine⟨?_,hgb⟩;rw[HZ.out];cases z<;>rfl
   ·have hm:Al (c::t)=false:=by simp[Al];omega
    rw[hm];clear hm;go_enter func126,ntmps126;go_wp2;go_ret;exact⟨rfl,Ac _ _⟩
theorem H7(s:Bs)(w:World)(hs:s.length≤1000000):Calls Tryz.prog 184 #[str s] w fun e w'=>e= .returned (.bool (Al s))∧w.grownBy w' none:=by
 go_enter func184,ntmps184;go_wp2_with fail;refine(Hc s w (by omega)).mono ?_;rintro e w1 ⟨rfl,hb⟩;go_wp2;go_ret;exact⟨rfl,hb⟩
theorem Py{l:List Tok}{i:Nat}(h:(Ab l i).kind=0):i<l.length:=D6 (by omega)
def C1(l:List Tok):Prop:=∀i,(Ab l i).text.length≤4000
theorem Dm{w:World}{b:Nat}{tv wv:Value}{l:List Tok}{wl:List Bs}{i:Nat}(h:Par w b tv wv l wl i)(hl:C1 l):
 Calls Tryz.prog 143 #[.pointer (some ⟨b,0,none⟩)] w (Post b tv wv l wl w (fun _ v x=>v=str x) (AT l i)):=by
 have hb:=h.lt;have hf:=h.few;by_cases hk:(Ab l i).kind=0
 ·have hi:=Py hk;have hs:=hl i;cases hn:Al (Ab l i).text with
  | true=>
    have HM:=O (show AT l i= .ok (Ab l i).text (i+1)by simp[AT,hk,hn]);have HK:=O hk;have HN:=O hn;clear hk hn;go_enter func143,ntmps143;go_wp2_with fail;refine(BZ h).mono ?_;rintro e w1 ⟨rfl,g1⟩;rw[AY,HK.out];go_wp2_with fail;refine(H7 _ _ (by omega)).mono ?_;rintro e w2 ⟨rfl,g2⟩;rw[HN.out];have h2:Par w2 b tv wv l wl i:=h.gbN (by repeat(first| (with_reducible exact Ac _ _)| (with_reducible assumption)| (with_reducible exact AU (by assumption))| (with_reducible refine Ad ?_ _)| (with_reducible refine Am ?_)| (with_reducible refine A3 ?_ _)| ((with_reducible refine Ay ?_ _ _ ?h2);case h2=>first|exact .inl rfl|exact .inr (Nat.le_refl _)|exact .inr (by simp<;>omega))| (with_reducible refine Ah ?_ (by assumption))| (with_reducible refine Aa ?_ (by assumption))));have c1:=h2.c1;have f1:=h2.f1;have ct:w2.cell? ⟨w1.heap.size,2,none⟩=some (str (Ab l i).text):=Af g2 (by simp);have hlt:=g1.size;go_wp2;go_ret;exact Post.ok (by repeat(first| (with_reducible exact Ac _ _)| (with_reducible assumption)| (with_reducible exact AU (by assumption))| (with_reducible refine Ad ?_ _)| (with_reducible refine Am ?_)| (with_reducible refine A3 ?_ _)| ((with_reducible refine Ay ?_ _ _ ?h2);case h2=>first|exact .inl rfl|exact .inr (Nat.le_refl _)|exact .inr (by simp<;>omega))| (with_reducible refine Ah ?_ (by assumption))| (with_reducible refine Aa ?_ (by assumption)))) HM.out rfl (h2.goI _ _ (by omega) (by omega))
  | false=>
    have HM:=O (show AT l i= .bad i by simp[AT,hn]);have HK:=O hk;have HN:=O hn;clear hk hn;go_enter func143,ntmps143;go_wp2_with fail;refine(BZ h).mono ?_;rintro e w1 ⟨rfl,g1⟩;rw[AY,HK.out];go_wp2_with fail;refine(H7 _ _ (by omega)).mono ?_;rintro e w2 ⟨rfl,g2⟩;rw[HN.out];have h2:Par w2 b tv wv l wl i:=h.gbN (by repeat(first| (with_reducible exact Ac _ _)| (with_reducible assumption)| (with_reducible exact AU (by assumption))| (with_reducible refine Ad ?_ _)| (with_reducible refine Am ?_)| (with_reducible refine A3 ?_ _)| ((with_reducible refine Ay ?_ _ _ ?h2);case h2=>first|exact .inl rfl|exact .inr (Nat.le_refl _)|exact .inr (by simp<;>omega))| (with_reducible refine Ah ?_ (by assumption))| (with_reducible refine Aa ?_ (by assumption))));go_wp2_with fail;refine(D8 h2.c1).mono ?_;rintro e w3 ⟨rfl,rfl⟩;exact⟨rfl,Post.bad (by repeat(first| (with_reducible exact Ac _ _)| (with_reducible assumption)| (with_reducible exact AU (by assumption))| (with_reducible refine Ad ?_ _)| (with_reducible refine Am ?_)| (with_reducible refine A3 ?_ _)| ((with_reducible refine Ay ?_ _ _ ?h2);case h2=>first|exact .inl rfl|exact .inr (Nat.le_refl _)|exact .inr (by simp<;>omega))| (with_reducible refine Ah ?_ (by assumption))| (with_reducible refine Aa ?_ (by assumption)))) HM.out⟩
 ·have HM:=O (show AT l i= .bad i by simp[AT,hk]);have hk':((Ab l i).kind==0)=false:=by simpa using hk
  have hk2:((Ab l i).kind !=0)=true:=by simpa using hk
  clear hk;go_enter func143,ntmps143;go_wp2_with fail;refine(BZ h).mono ?_;rintro e w1 ⟨rfl,g1⟩;have h1:∀o,Par (w1.alloc o) b tv wv l wl i:=fun o=>(h.gbN g1).alloc o;go_wp2_with fail;refine(D8 (h1 _).c1).mono ?_;rintro e w3 ⟨rfl,rfl⟩;exact⟨rfl,Post.bad (by repeat(first| (with_reducible exact Ac _ _)| (with_reducible assumption)| (with_reducible exact AU (by assumption))| (with_reducible refine Ad ?_ _)| (with_reducible refine Am ?_)| (with_reducible refine A3 ?_ _)| ((with_reducible refine Ay ?_ _ _ ?h2);case h2=>first|exact .inl rfl|exact .inr (Nat.le_refl _)|exact .inr (by simp<;>omega))| (with_reducible refine Ah ?_ (by assumption))| (with_reducible refine Aa ?_ (by assumption)))) HM.out⟩
def okX(x:Ex):Bool:=AR x.h x.kids.len&&okF x.kids
theorem GO(x:Ex)(n:Fo):okF (x.fo n)=(okX x&&okF n):=rfl
theorem Dk(x:Ex):okF (.one x)=okX x:=by simp[Fo.one,GO,okF]
theorem Ju(x y:Ex):okF (.two x y)=(okX x&&okX y):=by simp[Fo.two,GO,okF]
theorem R3(f g:Fo):okF (f.app g)=(okF f&&okF g):=by
 induction f with
 |nil=>simp[Fo.app,okF]
 |cons h k n _ ih=>simp[Fo.app,okF,ih,Bool.and_assoc]
theorem P1(f:Fo)(x:Ex):okF (f.snoc x)=(okF f&&okX x):=by simp[Fo.snoc,R3,GO,okF]
structure TokC(day:Bs→Int)(t:Tok):Prop where
 num:t.kind=1→0≤Aq t.text∧Aq t.text≤999999999999999
 str:t.kind=2→t.text.all BI=true∧¬(t.text.contains 34=true∧t.text.contains 39=true)
 day:t.kind=3→0≤day t.text∧day t.text≤3652059
def Snd{α:Type}(r:Res α)(P:α→Prop):Prop:=∀a j,r= .ok a j→P a
theorem Snd.bind{α β:Type}{r:Res α}{f:α→Nat→Res β}{P:α→Prop}{Q:β→Prop}(h:Snd r P)(hf:∀a j,P a→Snd (f a j) Q):Snd (r.bind f) Q:=by
 cases r with
 |ok a i=>exact hf a i (h a i rfl)
 |bad k=>intro a j e;cases e
 |out=>intro a j e;cases e
theorem Snd.okk{α:Type}{P:α→Prop}{a:α}{i:Nat}(h:P a):Snd (.ok a i) P:=by
 intro b j e;cases e;exact h
theorem Snd.bad{α:Type}{P:α→Prop}{k:Nat}:Snd (.bad k:Res α) P:=by intro b j e;cases e
theorem Snd.out{α:Type}{P:α→Prop}:Snd (.out:Res α) P:=by intro b j e;cases e
theorem Snd.ite{α:Type}{P:α→Prop}{c:Prop} [Decidable c] {p q:Res α} (hp:c→Snd p P) (hq:¬c→Snd q P):Snd (if c then p else q) P:=by
 split
 ·exact hp ‹_›
 ·exact hq ‹_›
theorem Snd.any{α:Type}(r:Res α):Snd r fun _=>True:=fun _ _ _=>trivial
theorem Px:∀k<6,∀p∈lvl k,p.2∈opsL:=by decide
theorem R5(k:Nat)(s:Bs):Cj k s=[]∨Cj k s∈opsL:=by
 have h6:∃k'<6,lvl k=lvl k':=by
  match k with
  | 0=>exact⟨0,by omega,rfl⟩
  | 1=>exact⟨1,by omega,rfl⟩
  | 2=>exact⟨2,by omega,rfl⟩
  | 3=>exact⟨3,by omega,rfl⟩
  | 4=>exact⟨4,by omega,rfl⟩
  |k+5=>exact⟨5,by omega,rfl⟩
 obtain⟨k',hk',e⟩:=h6;unfold Cj;rw[e];have hv:=Px k' hk';generalize lvl k'=L at hv;clear e;induction L with
 |nil=>left;rfl
 | cons p L ih=>
   rw[List.lookup_cons];cases hq:s==p.1 with
   |true=>right;exact hv p (by simp)
   |false=>exact ih (fun q hq=>hv q (by simp[hq]))
theorem GJ{l:List Tok}{k i:Nat}(h:¬(Av l k i).isEmpty=true):opsL.contains (Av l k i)=true:=by
 unfold Av at h ⊢;split at h
 ·rename_i hk;rw[if_pos hk];rcases R5 k (Ab l i).text with e|e
  ·rw[e]at h;simp at h
  ·simpa using e
 ·simp at h
section
variable {l:List Tok}{day:Bs→Int}{E:Nat→Res Ex}
abbrev RX(x:Ex):Prop:=okX x=true
abbrev RF(f:Fo):Prop:=okF f=true
abbrev RN(s:Bs):Prop:=Al s=true
theorem GH{s:Bs}{x y:Ex}(hs:opsL.contains s=true)(hx:RX x)(hy:RX y):RX (Aw s x y):=by
 have h1:okF (.two x y)=true:=by rw[Ju,hx,hy];rfl
 have h2:(Fo.two x y).len=2:=rfl;show(AR (hd0 5 s) (Fo.two x y).len&&okF (.two x y))=true;rw[h1,h2,Bool.and_true];simp only[AR,As,hd0];simpa using hs
theorem JG{s:Bs}{x:Ex}(hs:s=[45]∨s=[46,78,79,84,46])(hx:RX x):RX (unE s x):=by
 have h1:okF (.one x)=true:=by rw[Dk];exact hx
 show(AR (hd0 4 s) 1&&okF (.one x))=true;rw[h1,Bool.and_true];rcases hs with rfl|rfl<;>rfl
theorem NJ{x y:Ex}(hx:RX x)(hy:RX y):RX (Ct x y):=by
 have h1:okF (.two x y)=true:=by rw[Ju,hx,hy];rfl
 show(AR (hd0 6 []) 2&&okF (.two x y))=true;rw[h1];rfl
theorem Lm{level:Nat}(hE:∀i,Snd (E i) RX):∀n x i,RX x→Snd (BJ l level E n x i) RX:=by
 intro n;induction n with
 |zero=>intro x i _;exact Snd.out
 | succ n ih=>
   intro x i hx;unfold BJ;exact Snd.ite (fun _=>Snd.okk hx) fun ho=>(hE _).bind fun y j hy=>ih _ _ (GH (GJ ho) hx hy)
theorem Fx{level n:Nat}(hE:∀i,Snd (E i) RX)(i:Nat):Snd (AK l level n E i) RX:=(hE i).bind fun _ _ hx=>Lm hE _ _ _ hx
theorem QR(hE:∀i,Snd (E i) RX):∀n i,Snd (Bd l E n i) RX:=by
 intro n;induction n with
 |zero=>intro i;exact Snd.out
 | succ n ih=>
   intro i;unfold Bd;exact Snd.ite (fun _=>(ih _).bind fun x j hx=>Snd.okk (JG (.inr rfl) hx)) fun _=>(hE _).bind fun x j hx=>Snd.ite (fun _=>Snd.okk hx) fun ho=>(hE _).bind fun y k hy=>Snd.okk (GH (GJ ho) hx hy)
theorem QS(hE:∀i,Snd (E i) RX):∀n i,Snd (AV l E n i) RX:=by
 intro n;induction n with
 |zero=>intro i;exact Snd.out
 | succ n ih=>
   intro i;unfold AV;exact(hE _).bind fun x j hx=>Snd.ite (fun _=>Snd.okk hx) fun ho=>(ih _).bind fun y k hy=>Snd.okk (GH (GJ ho) hx hy)
theorem QQ(hE:∀i,Snd (E i) RX):∀n x i,RX x→Snd (B4 l E n x i) RX:=by
 intro n;induction n with
 |zero=>intro x i _;exact Snd.out
 | succ n ih=>
   intro x i hx;unfold B4;exact Snd.ite (fun _=>(hE _).bind fun y j hy=>(Snd.any _).bind fun _ k _=>ih _ _ (NJ hx hy)) fun _=>Snd.okk hx
theorem Ph{prim:Nat→Res Ex}(hE:∀i,Snd (E i) RX)(hP:∀i,Snd (prim i) RX):∀n i,Snd (Bi l E prim n i) RX:=by
 intro n;induction n with
 |zero=>intro i;exact Snd.out
 | succ n ih=>
   intro i;unfold Bi;exact Snd.ite (fun _=>(ih _).bind fun x j hx=>Snd.okk (JG (.inl rfl) hx)) fun _=>(hP _).bind fun x j hx=>QQ hE _ _ _ hx
theorem Ln(hE:∀i,Snd (E i) RX):∀n f i,RF f∧1≤f.len→Snd (BK l E n f i) fun f=>RF f∧1≤f.len:=by
 intro n;induction n with
 |zero=>intro f i _;exact Snd.out
 | succ n ih=>
   intro f i hf;unfold BK;exact Snd.ite (fun _=>(hE _).bind fun y j hy=>ih _ _ ⟨by show okF _=true;rw[P1,hf.1,hy];rfl,by rw[Fo.len_snoc];omega⟩) fun _=>Snd.okk hf
theorem Jl{n:Nat}(hE:∀i,Snd (E i) RX)(i:Nat):Snd (Ch l E n i) fun f=>RF f∧1≤f.len:=
 (hE i).bind fun x _ hx=>Ln hE _ _ _ ⟨by show okF (.one x)=true;rw[Dk];exact hx,Nat.le_refl _⟩
theorem D5(i:Nat):Snd (AT l i) RN:=by
 unfold AT;refine Snd.ite (fun h=>Snd.okk ?_) fun _=>Snd.bad;rw[Bool.and_eq_true]at h;exact h.2
theorem KF:∀n p i,p.all Al=true→Snd (BN l n p i) fun p=>p.all Al=true:=by
 intro n;induction n with
 |zero=>intro f i _;exact Snd.out
 | succ n ih=>
   intro p i hp;unfold BN;exact Snd.ite (fun _=>(D5 _).bind fun y j hy=>ih _ _ (by rw[List.all_append,hp];simp;exact hy)) fun _=>Snd.okk hp
theorem Pg(n i:Nat):Snd (Ck l n i) fun p=>p.all Al=true:=(D5 i).bind fun x _ hx=>KF _ _ _ (by simp;exact hx)
theorem Da{o:Int}{s:Bs}{f:Fo}(ho:AR (hd0 o s) f.len=true)(hf:RF f):RX ⟨hd0 o s,f⟩:=by
 show(AR (hd0 o s) f.len&&okF f)=true;rw[ho,hf];rfl
theorem Q5{n:Nat}(hE:∀i,Snd (E i) RX)(i:Nat):Snd (Cs l E n i) RX:=by
 unfold Cs;have h3:∀{s:Bs}{f:Fo},RN s→AR (hd0 3 s) f.len=true:=fun hs=>by simp only[AR,As,hd0];simp;exact hs
 exact(D5 i).bind fun s _ hs=>(Snd.any _).bind fun _ _ _=>Snd.ite (fun _=>Snd.okk (Da (h3 hs) rfl)) fun _=>(Jl hE _).bind fun f _ hf=>(Snd.any _).bind fun _ _ _=>Snd.okk (Da (h3 hs) hf.1)
theorem Pe(hE:∀i,Snd (E i) RX)(i:Nat):Snd (Cb l E i) RX:=by
 unfold Cb;refine(Snd.any _).bind fun _ _ _=>Snd.ite (fun _=>(hE _).bind fun x _ hx=>(Snd.any _).bind fun _ _ _=>Snd.okk (Da (f:= .one x) rfl (by show okF (.one x)=true;rw[Dk];exact hx))) fun _=>(D5 _).bind fun s _ hs=>Snd.okk (Da (f:= .nil) ?_ rfl);simp only[AR,As,hd0];simp[Fo.len];exact hs
theorem MG{n:Nat}(hE:∀i,Snd (E i) RX)(i:Nat):Snd (Cc l E n i) RX:=by
 unfold Cc;refine Snd.ite (fun _=>?_) fun _=>(Jl hE _).bind fun f _ hf=>(Snd.any _).bind fun _ _ _=>Snd.okk (Da ?_ hf.1)
 ·refine Snd.bind (P:=fun p=>p.all Al=true) (Snd.ite (fun _=>Snd.okk rfl) fun _=>(Pg _ _).bind fun p _ hp=>(Snd.any _).bind fun _ _ _=>Snd.okk hp) fun p _ hp=>(hE _).bind fun x _ hx=>(Snd.any _).bind fun _ _ _=>Snd.okk ?_;show(AR ⟨8,[],0,0,[],p⟩ 1&&okF (.one x))=true;rw[Dk,hx,Bool.and_true];simp only[AR,As];simpa using hp
 ·simp only[AR,As,hd0];simpa using hf.2
theorem DV{vk vn:Int}{vs:Bs}(h:AB ⟨0,[],vk,vn,vs,[]⟩=true):RX (Az vk vn vs):=by
 show(AR ⟨0,[],vk,vn,vs,[]⟩ 0&&true)=true;simp only[AR,As];simpa using h
theorem MH{n:Nat}(hE:∀i,Snd (E i) RX)(i:Nat):Snd (Bv l E n i) RX:=by
 unfold Bv;refine Snd.ite (fun _=>Pe hE _) fun _=>Snd.ite (fun _=>Snd.okk (DV rfl)) fun _=>Snd.ite (fun _=>Snd.okk (DV rfl)) fun _=>Snd.ite (fun _=>Snd.okk (DV rfl)) fun _=>
  Snd.ite (fun _=>(hE _).bind fun x _ hx=>(Snd.any _).bind fun _ _ _=>Snd.okk hx) fun _=>Snd.ite (fun _=>(D5 _).bind fun s _ hs=>Snd.okk (Da (f:= .nil) ?_ rfl)) fun _=>Snd.ite (fun _=>MG hE _) fun _=>Snd.bad
 simp only[AR,As,hd0];simp[Fo.len];exact hs
theorem Pf{n:Nat}(hE:∀i,Snd (E i) RX)(i:Nat):Snd (BH l E n i) RX:=by
 unfold BH;have h2:∀{s:Bs},RN s→AR (hd0 2 s) 1=true:=fun hs=>by simp only[AR,As,hd0];simp;exact hs
 have h1:∀{s:Bs},RN s→RX (A6 s):=fun hs=>Da (f:= .nil) (by simp only[AR,As,hd0];simp[Fo.len];exact hs) rfl;refine Snd.ite (fun _=>Q5 hE _) fun _=>(D5 _).bind fun s _ hs=>Snd.ite (fun _=>Snd.ite (fun _=>(hE _).bind fun x _ hx=>(Snd.any _).bind fun _ _ _=>Snd.okk (Da (f:= .one x) (h2 hs) (by show okF (.one x)=true;rw[Dk];exact hx))) fun _=>
  (D5 _).bind fun t _ ht=>Snd.okk (Da (f:= .one (A6 t)) (h2 hs) (by show okF (.one (A6 t))=true;rw[Dk];exact h1 ht))) fun _=>Snd.okk (h1 hs)
theorem Q7{n:Nat}(hT:∀i,TokC day (Ab l i))(hE:∀i,Snd (E i) RX)(i:Nat):Snd (AZ l day E n i) RX:=by
 unfold AZ;refine Snd.ite (fun h=>Snd.okk (DV ?_)) fun _=>Snd.ite (fun h=>Snd.ite (fun _=>Snd.bad) fun hl=>Snd.okk (DV ?_)) fun _=>Snd.ite (fun h=>Snd.okk (DV ?_)) fun _=>Snd.ite (fun _=>Pf hE _) fun _=>MH hE _
 ·have:=(hT i).num (by simpa using h);simp[AB];omega
 ·obtain⟨h1,h2⟩:=(hT i).str (by simpa using h);simp only[AB,Cu];simp only[h1];simp;refine⟨by omega,?_⟩;simp at h2;by_cases h3:(34:UInt8)∈(Ab l i).text
  ·exact .inr (h2 h3)
  ·exact .inl h3
 ·have:=(hT i).day (by simpa using h);simp[AB];omega
theorem Q6(hT:∀i,TokC day (Ab l i)):∀n i,Snd (A8 l day n i) RX:=by
 intro n;induction n with
 |zero=>intro i;exact Snd.out
 | succ n ih=>
   intro i;exact Fx (fun i=>Fx (fun i=>QR (fun i=>Fx (fun i=>Fx (fun i=>QS (fun i=>Ph ih (fun i=>Q7 hT ih i) _ i) _ i) i) i) _ i) i) i
end
end Go.Proofs.YtgjdhajcnechdaaGreatDoor
