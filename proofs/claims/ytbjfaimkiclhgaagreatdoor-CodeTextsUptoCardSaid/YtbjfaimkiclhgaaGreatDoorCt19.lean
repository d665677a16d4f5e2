/-
  ProD CatA SizeE SizeF VaG Code: the program's reader of texts: lines of units: what is known of them. Code: the program's reader of texts: units whose last one grows.
-/
import Derived.Test.YtbjfaimkiclhgaaGreatDoorCt07
import Derived.Test.YtbjfaimkiclhgaaGreatDoorCt14
import Derived.Test.YtbjfaimkiclhgaaGreatDoorCt11
import Derived.Test.YtbjfaimkiclhgaaGreatDoorCt17
import Derived.Test.YtbjfaimkiclhgaaGreatDoorCt08
import Derived.Test.YtbjfaimkiclhgaaGreatDoorCt13
import Derived.Laws.OwnMore
set_option linter.all false
set_option maxRecDepth 100000
set_option maxHeartbeats 8000000
namespace Go.Proofs.YtbjfaimkiclhgaaGreatDoor
open Go.Proofs.Tryz
open Go.RowKit
variable{w w1:World}{ok:Nat->Prop}{B m pc bc cap H k n M:Nat}{v rv cv:Value}{a:List Pq}{r:Option Nat}{q:Pq}{pa ba:Option Addr}{cs sc:List Value}{P:Program}{vs us:List Un}{l:Bs}{L:List Bs}{b:Bool}{c:Cd}{α:Type}{u:Un}
def Oc:(Tryz.prog.info? 40).map (λi=>(i.zero,i.size,i.bytes))=some (some (.agg #[str [],.bool false,.slice none 0 0,.slice none 0 0]),4,72):=by kernel_rfl
def AB(q:Pq):Pd:=⟨q.1,q.2.1,q.2.2.1,q.2.2.2⟩
def RepP.mono{ok':Nat->Prop}(hk:∀k,ok k->k<w.heap.size->ok' k):∀{l:List Pd}{cs:List Value},RepP ok w l cs->RepP ok' w l cs:=by
 intro l;induction l with
 |nil=>intro cs h;exact h
 | cons a s ih=>
   rintro cs ⟨pa,ba,pc,bc,rest,e,h1,h2,h3⟩;exact⟨pa,ba,pc,bc,rest,e,h1.mono hk,RepV.mono' h2 hk,ih h3⟩
def RepP.app:∀{l m:List Pd}{cs ds:List Value},RepP ok w l cs->RepP ok w m ds->RepP ok w (l++m) (cs++ds):=by
 intro l;induction l with
 |nil=>intro m cs ds h1 h2;cases h1;exact h2
 | cons a s ih=>
   rintro m cs ds ⟨pa,ba,pc,bc,rest,rfl,h1,h2,h3⟩ h4;exact⟨pa,ba,pc,bc,rest++ds,by simp,h1,h2,ih h3 h4⟩
def OwnP(w:World)(B:Nat)(v:Value)(a:List Pq):Prop:=∃cs,w.ownsRow B 40 4 v a.length cs/\RepP (λq=>B<=q/\v.ownBlock≠some q) w (a.map AB) cs
def OwnP.gb(h:OwnP w B v a)(g:w.grownBy w1 r)(hk:∀k,B<=k->k<w.heap.size->some k≠r):OwnP w1 B v a:=by
 obtain⟨cs,h1,h2⟩:=h;exact⟨cs,Cr h1 g hk,h2.gb g λk hk1 hk2=>hk k hk1.1 hk2⟩
def OwnP.rep(h:OwnP w B v a):RepQ (Al B) w v (a.map AB):=by
 obtain⟨cs,h1,h2⟩:=h;refine⟨cs,?_,RepP.mono (λk hk _=>hk.1) h2⟩;rw[List.length_map];exact Db h1
def OwnP.fresh(h:OwnP w B v a)(hB:B<=w.heap.size)(q:Nat)(hq:w.heap.size<=q):B<=q/\v.ownBlock≠some q:=by
 obtain⟨cs,h1,_⟩:=h;exact⟨by omega,λe=>by have:=(h1.lt q e).2;omega⟩
def OwnP.one(hm:m=w.heap.size)(hB:B<=w.heap.size)
 (k1:Cells w (.slice pa q.2.2.1.length pc) 1 q.2.2.1.length (q.2.2.1.map str) (Al B)) (k2:RepV (Al B) w false (.slice ba q.2.2.2.len bc) q.2.2.2):
 OwnP (w.alloc (.cells (pdC (AB q) (.slice pa q.2.2.1.length pc) (.slice ba q.2.2.2.len bc)).toArray 40 (0,0))) B (.slice (some ⟨m,0,none⟩) 1 1) [q]:=by
 refine⟨_,Gu hm hB rfl (by decide),?_⟩;have hR:RepP (λp=>B<=p/\p<w.heap.size) w [AB q] (pdC (AB q) (.slice pa q.2.2.1.length pc) (.slice ba q.2.2.2.len bc)):=
  ⟨pa,ba,pc,bc,[],by simp[AB],k1.mono (λp h1 h2=>⟨h1,h2⟩),RepV.mono' k2 (λp h1 h2=>⟨h1,h2⟩),rfl⟩
 refine RepP.mono (λp h1 _=>⟨h1.1,λe=>?_⟩) (hR.gb (gZ w _ none) (by simp));have e':m=p:=by simpa[Value.ownBlock]using e
 omega
def OwnP.snoc{j:Nat}(h1:w.ownsRow B 40 4 v a.length cs)(h2:RepP (λq=>B<=q/\v.ownBlock≠some q) w (a.map AB) cs)
    {okx:Nat->Prop} (k1:Cells w (.slice pa q.2.2.1.length pc) 1 q.2.2.1.length (q.2.2.1.map str) okx) (k2:RepV okx w false (.slice ba q.2.2.2.len bc) q.2.2.2) (hok:∀p,okx p->p<w.heap.size->B<=p/\v.ownBlock≠some p)
 (ho:w1.ownsRow B 40 4 (.slice (some ⟨j,0,none⟩) (a.length+1) cap) (a.length+1) (cs++pdC (AB q) (.slice pa q.2.2.1.length pc) (.slice ba q.2.2.2.len bc))) (hg:w.grownBy w1 v.ownBlock) (hat:v.ownBlock=some j\/j=w.heap.size):
 OwnP w1 B (.slice (some ⟨j,0,none⟩) (a.length+1) cap) (a++[q]):=by
 have hfr:∀p,(B<=p/\v.ownBlock≠some p)->p<w.heap.size->(B<=p/\(Value.slice (some ⟨j,0,none⟩) (a.length+1) cap).ownBlock≠some p)/\some p≠v.ownBlock:=λp hq hl=>⟨⟨hq.1,λe=>by(rcases FI hat e with h|h;exact hq.2 h;omega)⟩,λe=>hq.2 e.symm⟩;have hT:RepP (λp=>B<=p/\v.ownBlock≠some p) w ((a++[q]).map AB) (cs++pdC (AB q) (.slice pa q.2.2.1.length pc) (.slice ba q.2.2.2.len bc)):=by
  rw[List.map_append];exact h2.app ⟨pa,ba,pc,bc,[],by simp[AB],k1.mono hok,RepV.mono' k2 hok,rfl⟩
 exact⟨_,by rw[lA];exact ho,RepP.mono (λp hq _=>hq.1) ((RepP.mono hfr hT).gb hg (λp hq _=>hq.2))⟩
abbrev VPr(w:World):World->Value->List Pq->Prop:=λw' v a=>RepQ (Al w.heap.size) w' v (a.map AB)
def OwnX(w:World)(B H:Nat)(v:Value)(a:List Pq):Prop:=∃cs,w.ownsRow B 40 4 v a.length cs/\v.ownBlock≠some H/\RepP (λq=>(B<=q/\v.ownBlock≠some q)/\q≠H) w (a.map AB) cs
def OwnP.x(h:OwnP w B v a)(hH:H=w.heap.size):OwnX w B H v a:=by
 obtain⟨cs,h1,h2⟩:=h;exact⟨cs,h1,λe=>by have:=(h1.lt H e).2;omega,RepP.mono (λq hq hl=>⟨hq,by omega⟩) h2⟩
def OwnX.gb(h:OwnX w B H v a)(g:w.grownBy w1 r)(hk:∀k,B<=k->k<w.heap.size->k≠H->some k≠r):OwnX w1 B H v a:=by
 obtain⟨cs,h1,h2,h3⟩:=h;refine⟨cs,World.ownsRow.kept h1 g ?_,h2,h3.gb g λk hk1 hk2=>hk k hk1.1.1 hk2 hk1.2⟩;cases e:v.ownBlock with
 |none=>exact .inl rfl
 |some k=>exact .inr (hk k (h1.lt k e).1 (h1.lt k e).2 (λe'=>h2 (by rw[e,e'])))
def OwnX.back(h:OwnX w B H v a):OwnP w B v a:=by
 obtain⟨cs,h1,_,h3⟩:=h;exact⟨cs,h1,RepP.mono (λq hq _=>hq.1) h3⟩
def Ci(fs:Nat->Fo):Nat->Fo
 | 0=> .nil
 |k+1=>(Ci fs k).app (fs k)
def GY(fs:Nat->Fo)(k:Nat):(Ci fs (k+1)).len=(Ci fs k).len+(fs k).len:=Fo.len_app _ _
def Oa(fs:Nat->Fo):∀m k,k<=m->(Ci fs k).len<=(Ci fs m).len:=by
 intro m;induction m with
 | zero => intro k hk; have : k = 0 := by omega
           subst this;exact nR _
 | succ m ih=>
   intro k hk;by_cases h:k=m+1
   ·subst h;exact nR _
   ·have:=ih k (by omega);rw[GY];omega
def TC(w:World):Calls Tryz.prog 216 #[.slice none 0 0,.int .i64 0] w (ρ w (.slice none 0 0)):=by
 go_enter func216,ntmps216;go_wp2;go_ret;exact⟨rfl,(Aa _ _)⟩
def XW(n:Nat)(hn:n<=1000000)(w:World):Calls Tryz.prog 216 #[.slice none 0 0,.int .i64 n] w λe w'=>∃v,e= .returned v/\w'.ownsRow w.heap.size 163 7 v 0 []/\w.grownBy w' none:=by
 by_cases h:0<n
 ·exact VC n h hn w
 ·have e:n=0:=by omega
  subst e;refine(TC w).mono ?_;rintro e w' ⟨rfl,g⟩;exact⟨_,rfl,World.ownsRow_nil _ _ _ _,g⟩
def OF(base:Nat)(t ty e:TypeId)(i:TypeInfo)(size c:Nat)(ht:P.underlying t=some (.slice e))(hi:P.info? e=some i)
 (v:Value) (n:Nat) (xs:List Value) (hown:w.ownsRow base e size v n xs):(Builtin.append_ #[t,t] ty #[v,.slice none 0 c]).run P w= .ok v w:=by
 rcases hown.2 with⟨rfl,rfl⟩| ⟨g,cap,cur,rfl,_,_,hnc,_⟩
 ·simp[Builtin.append_,run_underlying ht,sizeOf,typeInfo,hi,Builtin.lenOf,Builtin.firstCells]
 ·simp[Builtin.append_,run_underlying ht,sizeOf,typeInfo,hi,Builtin.lenOf,Builtin.firstCells,hnc,storeCells]
def OD{ops:Array Oper}{rest:List Oper}{o:Oper}{a:Act}{Q:Exit->Act->World->Prop}(hgd:o.guard=none)(s x:Operand)(t:TypeId)
 (ho:o.op= .call {callee:= .builtin .append,args:=#[s,x],argTypes:=#[t,t]})
 (base:Nat) (e:TypeId) (i:TypeInfo) (size c:Nat) (ht:P.underlying t=some (.slice e)) (hi:P.info? e=some i)
 (v:Value) (n:Nat) (xs:List Value) (hs:a.eval s=v) (hown:w.ownsRow base e size v n xs) (hx:a.eval x= .slice none 0 c)
 (h:wpList P ops Q rest (a.put o.dst v) w):wpList P ops Q (o::rest) a w:=by
 refine wpList_plain hgd λK hK=>?_;have hrun:=OF (P:=P) (w:=w) base t o.type e i size c ht hi v n xs hown;unfold Oper.wp;simp[execOp,ho,resolve,invoke,builtin,hs,hx,hrun,Result.andThen];exact hK _ _ h
def RG(hok:∀q,ok q->q<w.heap.size){R:Nat}{la:Nat->Option Addr}{lc:Nat->Nat}{fs:Nat->Fo}(hc:∀k,k<4->w.cell? ⟨R,k,none⟩=some (.slice (la k) (fs k).len (lc k)))
 (hn:(Ci fs 4).len<=1000000) (hrep:∀k,k<4->RepL ok w (.slice (la k) (fs k).len (lc k)) (fs k)):
 Calls Tryz.prog 166 #[.slice (some ⟨R,0,none⟩) 4 4] w λe w'=>∃v cs,e= .returned v/\w'.ownsRow w.heap.size 163 7 v (Ci fs 4).len cs/\RepF ok w' (Ci fs 4) cs/\w.grownBy w' none:=by
 have HC:=S hc;have HR:=S hrep;have HOK:=S hok;clear hc hrep hok;go_enter func166,ntmps166;go_wp2_with fail;go_loopg [3,11] 4 (λg v3 v11 wr=>∃k:Nat,k+g=4/\v11= .int .i64 k/\v3= .int .i64 (Ci fs k).len/\wr=w)
 case atStart=>exact⟨0,rfl,rfl,rfl,rfl⟩
 case round=>
  obtain⟨k,hg,rfl,rfl,hw⟩:=hrel;have hw':=hw.symm;clear hw;subst hw';by_cases hk:k<4
  ·have c0:=HC.1 k hk;have k0:(0:Int)<=(k:Int):=by omega
   have k1:(k:Int)<4:=by omega
   have hk1:decide (k<4)=true:=by simpa using hk
   have hle:=Oa fs 4 (k+1) (by omega);rw[GY]at hle;have hw1:IntKind.i64.wrap (((Ci fs k).len:Int)+((fs k).len:Int))=((Ci fs k).len:Int)+((fs k).len:Int):=IntWalk.i64_in _ (by omega);have hneg:decide (((Ci fs k).len:Int)+((fs k).len:Int)<0)=false:=by simp;omega
   have HN:=S (GY fs k);go_wp2_with fail;go_roundg (3-k)
   case measure=>omega
   case rel=>exact⟨k+1,by omega,by go_num,by rw[HN.1];push_cast;rfl,rfl⟩
  ·have e4:k=4:=by omega
   subst e4;have HGr:=S (fun(W:World)=>XW (Ci fs 4).len hn W);go_wp2_with fail;refine(HGr.1 _).mono ?_;rintro e w1 ⟨v,rfl,hO,g1⟩;have hs1:=g1.size;have HO:=S (X hO g1);clear hO g1 HGr;go_wp2_with fail;go_loopg [6,27] 4 (λg v6 v27 w2=>∃k:Nat,k+g=4/\v27= .int .i64 k/\∃cs,w2.ownsRow w.heap.size 163 7 v6 (Ci fs k).len cs/\RepF ok w2 (Ci fs k) cs/\w.grownBy w2 none)
   case atStart=>exact⟨0,rfl,rfl,[],HO.1.1,rfl,HO.1.2⟩
   case round=>
    obtain⟨k,hg2,rfl,cs,hO,hF,hgr⟩:=hrel;by_cases hk:k<4
    ·have c0:=Ad hgr (HC.1 k hk);have k0:(0:Int)<=(k:Int):=by omega
     have k1:(k:Int)<4:=by omega
     have hk1:decide (k<4)=true:=by simpa using hk
     have hle:=Oa fs 4 (k+1) (by omega);rw[GY]at hle;have hs2:=hgr.size;obtain⟨ds,hcs,hds⟩:=HR.1 k hk;have hlen:=hds.one;obtain⟨_,_,e,_,_,_,hat⟩:=hcs;cases e;have HD:=S (X hO (X hF (X hgr (X hds (X hlen hat)))));have HP:=S (GY fs k);clear hO hF hgr hds hlen hat;generalize hla:la k=a at*;cases a with
     | none=>
       have hd0:ds=[]:=by
        cases ds with
        |nil=>rfl
        | cons u r=>
          obtain⟨_,_,e,_⟩:=HD.1.2.2.2.2.2 0 u rfl;cases e
       have hf0:(fs k).len=0:=by have:=HD.1.2.2.2.2.1.1;rw[hd0]at this;simp at this;omega
       have HZ:=S (X hd0 hf0);rw[hf0]at c0;clear hd0 hf0;obtain⟨i0,hi0,hz0,hz1,hz2⟩:=info_parts CI;have HI:=S hi0;clear hi0 hz0 hz1 hz2;go_wp2_with (at_builtin;have hi0:=HI.1;have hown:=HD.1.1;refine OD rfl _ _ 129 rfl w.heap.size 163 i0 7 _ underlying129 hi0 _ _ _ rfl hown rfl ?_;clear hi0 hown);go_roundg (3-k)
       case measure=>omega
       case rel=>exact⟨k+1,by omega,by go_num,cs,by rw[HP.1,HZ.1.2];exact HD.1.1,by have:=RepF.app HD.1.2.1 (RepF.gb HD.1.2.2.1 (by simp) HD.1.2.2.2.1);rw[HZ.1.1,List.append_nil]at this;exact this,HD.1.2.2.1⟩
     | some a=>
       obtain⟨i0,hi0,hz0,hz1,hz2⟩:=info_parts CI;have HI:=S (X hi0 (X hz0 (X hz1 hz2)));clear hi0 hz0 hz1 hz2;have hat1:∀j u,ds[j]? =some u->wr.cell? (a.add j)=some u:=by
        intro j u hj;obtain⟨g,o,e,_,hc⟩:=HD.1.2.2.2.2.2 j u hj;cases e;have e:(⟨g,o,none⟩:Addr).add j=⟨g,o+j,none⟩:=by unfold Addr.add;split<;>simp_all
        rw[e];exact Ad HD.1.2.2.1 hc
       have HA:=S hat1;clear hat1;go_wp2_with (at_builtin;obtain⟨hi0,hz0,hz1,hz2⟩:=HI.1;have hown:=HD.1.1;refine GQ rfl _ _ 129 rfl w.heap.size 163 i0 _ 7 104 underlying129 hi0 hz0 hz1 hz2 rfl (by decide) _ _ _ rfl hown a (fs k).len (lc k) ds rfl HD.1.2.2.2.2.1.1 HA.1 HD.1.2.2.2.2.1.2 (by unfold maxLen;omega) (by omega) hs2 ?_;intro v' w5 hown5 g5 hn5;clear hi0 hz0 hz1 hz2 hown);have g5':World.grownBy wr w5 u6.ownBlock:=g5;have gW:w.grownBy w5 none:=by
        have hlt:=HD.1.1.lt;have g6:=g5';cases hv:u6.ownBlock with
        |none=>rw[hv]at g6;exact Z HD.1.2.2.1 g6
        |some q=>rw[hv]at g6;exact Ap HD.1.2.2.1 g6 (.inr (hlt q hv).1)
       have HO5:=S (X hown5 (X (RepF.app (RepF.gb g5' (λq hq _ e=>by have:=(HD.1.1.lt q e.symm).1;have h8:=HOK.1 q hq;omega) HD.1.2.1) (RepF.gb gW (by simp) HD.1.2.2.2.1)) gW));clear hown5 gW;go_roundg (3-k)
       case measure=>omega
       case rel=>exact⟨k+1,by omega,by go_num,_,by rw[HP.1];exact HO5.1.1,HO5.1.2.1,HO5.1.2.2⟩
    ·have e4:k=4:=by omega
     subst e4;have HE:=S (X hO (X hF hgr));clear hO hF hgr;go_wp2;go_ret;exact⟨_,cs,rfl,HE.1.1,HE.1.2.1,HE.1.2.2⟩
def Fo.levels_app(f g:Fo):(f.app g).levels=max f.levels g.levels:=by
 induction f with
 |nil=>simp[Fo.app,Fo.levels]
 |cons h k n _ ih=>simp[Fo.app,Fo.levels,ih,Nat.max_assoc]
def Sd.levels_le(s:Sd):s.levels<=s.nodes:=by
 have h1:=s.x.len_nodes;have h2:=s.n.len_nodes;have h3:=s.f.len_nodes;have h4:=s.w.len_nodes;simp only[Sd.levels,Sd.nodes];omega
def Bl.levels_le:∀b:Bl,b.levels<=b.nodes:=by
 intro b;induction b with
 |nil=>exact nR _
 |st h b n ih1 ih2=>have:=h.levels_le;simp only[Bl.levels,Bl.nodes];omega
 |bl b n ih1 ih2=>simp only[Bl.levels,Bl.nodes];omega
def sel{α:Type}(a b c d:α):Nat->α
 | 0=>a
 | 1=>b
 | 2=>c
 |_=>d
def F2(s:Sd):Fo:=Ci (sel s.x s.n s.f s.w) 4
def LJ(s:Sd):(F2 s).nodes=s.nodes:=by
 simp only[F2,Ci,sel,Fo.nodes_app,Fo.nodes,Sd.nodes];omega
def PU(s:Sd):(F2 s).levels=s.levels:=by
 simp only[F2,Ci,sel,Fo.levels_app,Fo.levels,Sd.levels];omega
structure SzG(ok:Nat->Prop)(w v:World)(sc:List Value)(f rest:Fo)(cs:List Value)(k n m:Nat)(wr:World):Prop where
 len:f.len=k+rest.len
 row:RepF ok v rest (cs.drop (k*7))
 nodes:n+rest.nodes=1+f.nodes
 levels:max m (1+rest.levels)=1+f.levels
 pos:1<=m/\1<=n
 st:Blk wr w.heap.size sc 134
 acc:Blk wr (w.heap.size+2) [.int .i64 n,.int .i64 m] 96
 res:Blk wr (w.heap.size+1) [.int .i64 0,.int .i64 0] 96
 g:w.grownBy wr none
 gv:v.grownBy wr (some (w.heap.size+2))
def SzG.next{v:World}{f kids next:Fo}{h':Hd}{wr:World}(h:SzG ok w v sc f (.cons h' kids next) cs k n m wr)
 (hst:Blk w1 w.heap.size sc 134) (hacc:Blk w1 (w.heap.size+2) [.int .i64 ((n+(1+kids.nodes):Nat):Int),.int .i64 ((max m (1+kids.levels+1):Nat):Int)] 96) (hres:Blk w1 (w.heap.size+1) [.int .i64 0,.int .i64 0] 96) (g:w.grownBy w1 none) (gv:v.grownBy w1 (some (w.heap.size+2))):
 SzG ok w v sc f next cs (k+1) (n+(1+kids.nodes)) (max m (1+kids.levels+1)) w1:=by
 have h1:=h.len;have h3:=h.nodes;have h4:=h.levels;have h5:=h.pos;simp only[Fo.len,Fo.nodes,Fo.levels]at h1 h3 h4;refine⟨by omega,?_,by omega,by omega,⟨by omega,by omega⟩,hst,hacc,hres,g,gv⟩;obtain⟨pv,lv,kcs,rcs,hcs,_,_,_,hn⟩:=h.row;have e:cs.drop ((k+1)*7)=rcs:=by
  rw[show(k+1)*7=k*7+7 by omega,<-List.drop_drop,hcs];exact List.drop_left' rfl
 rw[e];exact hn
abbrev stW(w:World)(sc:List Value)(a b c d:Value):World:=(((w.alloc (.cells sc.toArray 134 (0,0))).alloc (.cells #[.int .i64 0,.int .i64 0] 96 (0,0))).alloc (.cells #[.int .i64 1,.int .i64 1] 96 (0,0))).alloc (.cells #[a,b,c,d] 129 (0,0))
def stW_blk{a b c d:Value}:Blk (stW w sc a b c d) (w.heap.size+1+1+1) [a,b,c,d] 129:=
 (Blk.new _ [a,b,c,d] _).of_eq (by simp) rfl
def Z0(w:World)(sc:List Value)(a b c d:Value):w.grownBy (stW w sc a b c d) none:=Ac (Ac (Ac (gZ w _ none) _) _) _
def OfB(N:Nat):Prop:=∀f:Bl,f.wt<N->f.nodes<=1000000->∀(ok:Nat->Prop)(la:Option Addr)(lc:Nat)(w:World),RepV ok w false (.slice la f.len lc) f->
 Calls Tryz.prog 86 #[.slice la f.len lc] w (ρ w (szV (f.nodes:Int) (f.levels:Int)))
structure SzB(ok:Nat->Prop)(w:World)(s:Sd)(c rest:Bl)(ds:List Value)(k n m:Nat)(wr:World):Prop where
 len:c.len=k+rest.len
 row:RepT ok w rest true (ds.drop k)
 nodes:n+rest.nodes=1+s.nodes+c.nodes
 levels:max m (1+rest.levels)=1+max s.levels c.levels
 pos:1<=m/\1<=n
 wt:rest.wt<=c.wt
 acc:Blk wr (w.heap.size+2) [.int .i64 n,.int .i64 m] 96
 res:Blk wr (w.heap.size+1) [.int .i64 0,.int .i64 0] 96
 g:w.grownBy wr none
def Tj{N:Nat}(hB:OfB N){s:Sd}{c:Bl}{xa na fa wa:Option Addr}{xc nc fc wc:Nat}(h1:SdRep ok w s pa xa na fa wa pc xc nc fc wc)(h2:RepV ok w true (.slice ba c.len bc) c)(hc:c.wt<N)(hn:s.nodes+c.nodes<=1000000):
 Calls Tryz.prog 120 #[.agg (sdC s (.slice pa s.p.length pc) (.slice xa s.x.len xc) (.slice ba c.len bc) (.slice na s.n.len nc) (.slice fa s.f.len fc) (.slice wa s.w.len wc)).toArray] w (ρ w (szV ((1+s.nodes+c.nodes:Nat):Int) ((1+max s.levels c.levels:Nat):Int))):=by
 have gW:=Z0 w (sdC s (.slice pa s.p.length pc) (.slice xa s.x.len xc) (.slice ba c.len bc) (.slice na s.n.len nc) (.slice fa s.f.len fc) (.slice wa s.w.len wc)) (.slice xa s.x.len xc) (.slice na s.n.len nc) (.slice fa s.f.len fc) (.slice wa s.w.len wc);have hfl:=(F2 s).len_nodes;have hsl:=s.levels_le;have hcl:=c.levels_le;rw[LJ]at hfl;have HC:=S (RG (ok:=λq=>q<w.heap.size) (by intro q hq;have:=gW.size;omega) (w:=stW w (sdC s (.slice pa s.p.length pc) (.slice xa s.x.len xc) (.slice ba c.len bc) (.slice na s.n.len nc) (.slice fa s.f.len fc) (.slice wa s.w.len wc)) (.slice xa s.x.len xc) (.slice na s.n.len nc) (.slice fa s.f.len fc) (.slice wa s.w.len wc)) (R:=w.heap.size+1+1+1) (la:=sel xa na fa wa) (lc:=sel xc nc fc wc) (fs:=sel s.x s.n s.f s.w)
  (by
   intro k hk;rcases k with _ |_ |_ |_ |k
   ·exact stW_blk.cell 0
   ·exact stW_blk.cell 1
   ·exact stW_blk.cell 2
   ·exact stW_blk.cell 3
   ·omega)
  (by have e:(Ci (sel s.x s.n s.f s.w) 4).len=(F2 s).len:=rfl;rw[e];omega)
  (by
   intro k hk;rcases k with _ |_ |_ |_ |k
   ·exact(h1.x.mono (λq _ h=>h)).gb gW (by simp)
   ·exact(h1.n.mono (λq _ h=>h)).gb gW (by simp)
   ·exact(h1.f.mono (λq _ h=>h)).gb gW (by simp)
   ·exact(h1.w.mono (λq _ h=>h)).gb gW (by simp)
   ·omega))
 have e4:Ci (sel s.x s.n s.f s.w) 4=F2 s:=rfl;rw[e4]at HC;have hfn:=LJ s;have hfv:=PU s;generalize F2 s=f at*;obtain⟨ds,hd1,hd2⟩:=h2;obtain⟨_,_,e,hcl1,hcl2,_,hdat⟩:=hd1;cases e;have hcm:c.len<=maxLen:=by omega
 unfold maxLen at hcm;clear hcl1 hcl2;have HR:=S (X gW (X hdat hd2));have HBB:=S hB;clear gW h1 hdat hd2 hB e4;have hs3:=((Blk.new w (sdC s (.slice pa s.p.length pc) (.slice xa s.x.len xc) (.slice ba c.len bc) (.slice na s.n.len nc) (.slice fa s.f.len fc) (.slice wa s.w.len wc)) 134).alloc (.cells #[.int .i64 0,.int .i64 0] 96 (0,0))).alloc (.cells #[.int .i64 1,.int .i64 1] 96 (0,0));have y4:=hs3.cell' 4 rfl;have y7:=hs3.cell' 7 rfl;have y8:=hs3.cell' 8 rfl;have y9:=hs3.cell' 9 rfl;clear hs3;go_enter func120,ntmps120;go_wp2_with fail;refine HC.1.mono ?_;rintro e w1 ⟨v,cs,rfl,hO,hF,g1⟩;have g0:w.grownBy w1 none:=Z HR.1.1 g1;have hA:SzG (λq=>q<w.heap.size) w w1 (sdC s (.slice pa s.p.length pc) (.slice xa s.x.len xc) (.slice ba c.len bc) (.slice na s.n.len nc) (.slice fa s.f.len fc) (.slice wa s.w.len wc)) f f cs 0 1 1 w1:=by
  refine⟨by simp,by simpa using hF,rfl,by omega,⟨nR _,nR _⟩,?_,?_,?_,g0,Aa _ _⟩
  ·exact((((Blk.new w (sdC s (.slice pa s.p.length pc) (.slice xa s.x.len xc) (.slice ba c.len bc) (.slice na s.n.len nc) (.slice fa s.f.len fc) (.slice wa s.w.len wc)) 134).alloc _).alloc _).alloc _).gb g1 (by simp)
  ·exact Blk.gb (((Blk.new _ [.int .i64 1,.int .i64 1] _).of_eq (by simp) rfl).alloc _) g1 (by simp)
  ·exact Blk.gb ((((Blk.new _ [.int .i64 0,.int .i64 0] _).of_eq (by simp) rfl).alloc _).alloc _) g1 (by simp)
 obtain⟨ra,rc,rfl,_,hmx,_,hat0⟩:=Db hO;have hlm:f.len<=1000000:=by omega
 have HO:=S hat0;have HA:=S hA;clear hO hF g1 g0 hat0 hA hmx y4 y7 y8 y9;go_wp2_with fail;go_loopg [23] f.len (λg v23 wr=>∃rest:Fo,∃k n m:Nat,rest.len=g/\v23= .int .i64 k/\SzG (λq=>q<w.heap.size) w w1 (sdC s (.slice pa s.p.length pc) (.slice xa s.x.len xc) (.slice ba c.len bc) (.slice na s.n.len nc) (.slice fa s.f.len fc) (.slice wa s.w.len wc)) f rest cs k n m wr)
 case atStart=>exact⟨f,0,1,1,rfl,rfl,HA.1⟩
 case round=>
  obtain⟨rest,k,n,m,hg,rfl,hr⟩:=hrel;clear HA;have a0:=hr.acc.cell' 0 rfl;have a1:=hr.acc.cell' 1 rfl;have r0:=hr.res.cell' 0 rfl;have r1:=hr.res.cell' 1 rfl;have rf:=λk=>hr.res.frozen k;have af:=λk=>hr.acc.frozen k;have al:=hr.acc.lt;have s5:=hr.st.cell 5;simp only[sdC,List.getElem?_cons_zero,List.getElem?_cons_succ]at a0 a1 r0 r1 s5;cases rest with
  | nil=>
    have hlen:=hr.len;have hk:k=f.len:=by simp[Fo.len]at hlen;omega
    subst hk;have hS:SzB (λ_=>True) w s c c ds 0 n m wr:=by
     have h1:=hr.nodes;have h2:=hr.levels;have h3:=hr.pos;simp[Fo.nodes,Fo.levels]at h1 h2;exact⟨by simp,by simpa using RepT.monoE (ok':=λ_=>True) (λ_ _ _=>trivial) HR.1.2.2,by omega,by omega,h3,nR _,hr.acc,hr.res,hr.g⟩
    have HS:=S hS;have hkI:decide (f.len<f.len)=false:=by simp
    clear hlen hg hS hr a0 a1 r0 r1 rf af al;go_wp2_with fail;go_loopg [35] c.len (λg v35 w2=>∃rest:Bl,∃k n m:Nat,rest.len=g/\v35= .int .i64 k/\SzB (λ_=>True) w s c rest ds k n m w2)
    case atStart=>exact⟨c,0,n,m,rfl,rfl,HS.1⟩
    case round=>
     clear HS n m;obtain⟨rest,k,n,m,hg,rfl,hr⟩:=hrel;have a0:=hr.acc.cell' 0 rfl;have a1:=hr.acc.cell' 1 rfl;have r0:=hr.res.cell' 0 rfl;have r1:=hr.res.cell' 1 rfl;have rf:=λk=>hr.res.frozen k;have rl:=hr.res.lt;have af:=λk=>hr.acc.frozen k;have al:=hr.acc.lt;have hrow:=hr.row;have hlen:=hr.len;cases rest with
     |st _ _ _=>exact hrow.elim
     | nil=>
       have hkI:decide (k<c.len)=false:=by simp[Bl.len]at hlen;simp;omega
       have hnm:n=1+s.nodes+c.nodes/\m=1+max s.levels c.levels:=by
        have h1:=hr.nodes;have h2:=hr.levels;have h3:=hr.pos;simp[Bl.nodes,Bl.levels]at h1 h2;omega
       have HN:=S (X hnm (X hr.res hr.g));clear hnm hlen hg hrow hr;go_wp2;refine bZ (Ix rfl _ (HN.1.2.1.set2 _ _) rfl) rfl ⟨by rw[HN.1.1.1,HN.1.1.2],?_⟩;have g:=HN.1.2.2;exact(Af (Af (by assumption) _ _ (.inr (by simp<;>omega))) _ _ (.inr (by simp<;>omega)))
     | bl b next=>
       simp only[Bl.len]at hg hlen;subst hg;have hkI:decide (k<c.len)=true:=by simp;omega
       obtain⟨ba2,bc2,hbv,hnx,g1,o1,e1,_,z1⟩:=RepT.elemB (ok:=λ_=>True) (la:=ba) (λj u hj=>by obtain⟨g,o,e,_,h⟩:=HR.1.2.1 j u hj;exact⟨g,o,e,trivial,h⟩) hrow;subst e1;have hno:=hr.nodes;have hlv:=hr.levels;have hwt:=hr.wt;have hpo:=hr.pos;have hbl:=b.levels_le;simp only[Bl.nodes,Bl.levels,Bl.wt]at hno hlv hwt;have HL:=S (fun(W:World)(gW:wr.grownBy W none)=>HBB.1 b (by omega) (by omega) _ ba2 bc2 W ((hbv.gb hr.g (by simp)).gb gW (by simp)));have HI:=S (fun(W:World)=>JT n m b.nodes b.levels (by omega) (by omega) (by omega) W);have y1:=Ad hr.g z1;have hgl:=bY _ _ y1;have HK:=S (X hr hnx);have HN2:=S (show SzB (λ_=>True) w s c next ds (k+1) (n+b.nodes) (max m (b.levels+1)) wr->True from λ_=>trivial);have HX9:=S (show c.len=k+1+next.len/\n+b.nodes+next.nodes=1+s.nodes+c.nodes/\max (max m (b.levels+1)) (1+next.levels)=1+max s.levels c.levels/\(1<=max m (b.levels+1)/\1<=n+b.nodes)/\next.wt<=c.wt from⟨by omega,by omega,by omega,by omega,by omega⟩);have hkl:k+1<=c.len:=by omega
       have hws:=hr.g.size;clear hno hlv hwt hpo hbl hbv hnx hrow hr z1 HN2 hlen;go_wp2_with fail;go_region_with(first
        | (go_at_call 86;refine(HL.1 _ ?gg).mono ?_;(case gg=>exact(Ae (Aa _ _)));rintro e w5 ⟨rfl,g5⟩;(have ac5:=(HK.1.1.acc.drewN 1).gb g5 (by simp));(have d0:=ac5.cell' 0 rfl);(have d1:=ac5.cell' 1 rfl);(have df:=λk=>ac5.frozen k);(have dl:=ac5.lt))
        | (go_at_call 167;refine mR (HI.1 _) λw6 g6=>?_;(have ac6:=ac5.gb g6 (by simp));(have m0:=ac6.cell' 0 rfl);(have m1:=ac6.cell' 1 rfl);(have mf:=λk=>ac6.frozen k);(have ml:=ac6.lt)))
       all_goals
        have hre:=((HK.1.1.res.drewN 1).gb g5 (by simp)).gb g6 (by simp);have gg:=Ag (Ag (Ae HK.1.1.g) g5) g6;have HX:=S (X ac6 (X hre gg));clear hre gg;go_wp2;go_roundg next.len
        case measure=>omega
        case rel=>
         exact⟨next,k+1,n+b.nodes,max m (b.levels+1),rfl,by go_num,HX9.1.1,HK.1.2,HX9.1.2.1,HX9.1.2.2.1,HX9.1.2.2.2.1,HX9.1.2.2.2.2,(HX.1.1.set2 _ _),(HX.1.2.1.set_other _ _ (by simp)).set_other _ _ (by simp),Af (Af HX.1.2.2 _ _ (.inr (by simp<;>omega))) _ _ (.inr (by simp<;>omega))⟩
  | cons h' kids next=>
    simp only[Fo.len]at hg;subst hg;have hlen:=hr.len;simp only[Fo.len]at hlen;have hkI:decide (k<f.len)=true:=by simp;omega
    have i0:(0:Int)<=(k:Int):=by omega
    have i1:(k:Int)<(f.len:Int):=by omega
    have hkl2:k+1<=f.len:=by omega
    obtain⟨pv',lv',kcs,rcs,hcs,hp,hl,hkids,hnext⟩:=hr.row;obtain⟨pa',pc',rfl,_⟩:=hp;have hL:RepL (λq=>q<w.heap.size) w1 lv' kids:=⟨kcs,hl,hkids⟩;obtain⟨la2,lc2,rfl,_⟩:=hl;have hat:∀i u,(hdC h' (.slice pa' h'.p.length pc') (.slice la2 kids.len lc2))[i]? =some u->∃g o,ra=some ⟨g,o,none⟩/\wr.cell? ⟨g,o+k*7+i,none⟩=some u:=by
     intro i u hu;have:cs[k*7+i]? =(cs.drop (k*7))[i]?:=by simp
     obtain⟨g,o,e,hg1,hc1⟩:=HO.1 (k*7+i) u (by rw[this,hcs,List.getElem?_append_left (by have:=(List.getElem?_eq_some_iff.1 hu).1;exact this)];exact hu);have hg2:(stW w (sdC s (.slice pa s.p.length pc) (.slice xa s.x.len xc) (.slice ba c.len bc) (.slice na s.n.len nc) (.slice fa s.f.len fc) (.slice wa s.w.len wc)) (.slice xa s.x.len xc) (.slice na s.n.len nc) (.slice fa s.f.len fc) (.slice wa s.w.len wc)).heap.size<=g:=hg1;refine⟨g,o,e,?_⟩;rw[Nat.add_assoc];exact B3 hr.gv hc1 (by simp at hg2;simp;omega)
    obtain⟨G,O,rfl,z0⟩:=hat 0 _ rfl;obtain⟨_,_,e1,z1⟩:=hat 1 _ rfl;cases e1;obtain⟨_,_,e1,z2⟩:=hat 2 _ rfl;cases e1;obtain⟨_,_,e1,z3⟩:=hat 3 _ rfl;cases e1;obtain⟨_,_,e1,z4⟩:=hat 4 _ rfl;cases e1;obtain⟨_,_,e1,z5⟩:=hat 5 _ rfl;cases e1;obtain⟨_,_,e1,z6⟩:=hat 6 _ rfl;cases e1;simp only[Nat.add_zero]at z0;have hgl:=bY wr _ z0;clear hat;have hno:=hr.nodes;simp only[Fo.nodes]at hno;have hmo:=hr.levels;simp only[Fo.levels]at hmo;have hkl:=kids.len_nodes;have hpo:=hr.pos;have hfll:=f.len_nodes;have HL:=S (fun(W:World)(gW:wr.grownBy W none)=>NE (kids.nodes+1) kids (by omega) (by omega) (λq=>q<w.heap.size) h' pa' h'.p.length pc' la2 lc2 W ((hL.gb hr.gv (by intro q hq _ e;cases e;omega)).gb gW (by simp)));have HI:=S (fun(W:World)=>JT n m (1+kids.nodes) (1+kids.levels) (by omega) (by omega) (by omega) W);have HK:=S hr;clear hL hnext hkids hcs hr hno hmo hlen hpo;have hy:=Blk.new wr (hdC h' (.slice pa' h'.p.length pc') (.slice la2 kids.len lc2)) 163;have hac:=HK.1.acc.alloc (.cells (hdC h' (.slice pa' h'.p.length pc') (.slice la2 kids.len lc2)).toArray 163 (0,0));have HY:=S (X hy hac);clear hy hac;have hws:=HK.1.g.size;go_wp2_with fail;go_region_with(first
     | (go_at_call 158;refine(HL.1 _ ?gg).mono ?_;(case gg=>exact(by repeat(first| (with_reducible exact Aa _ _)| (with_reducible refine Ac ?_ _)| (with_reducible refine Ae ?_))));rintro e w5 ⟨rfl,g5⟩;(have y5:=(HY.1.1.drewN 1).gb g5 (by simp));(have ac5:=(HY.1.2.drewN 1).gb g5 (by simp));(have b0:=y5.cell 0);(have b1:=y5.cell 1);(have b2:=y5.cell 2);(have b3:=y5.cell 3);(have b4:=y5.cell 4);(have b5:=y5.cell 5);(have b6:=y5.cell 6);(have d0:=ac5.cell' 0 rfl);(have d1:=ac5.cell' 1 rfl);(have df:=λk=>ac5.frozen k);(have dl:=ac5.lt);(simp only[hdC,List.getElem?_cons_zero,List.getElem?_cons_succ]at b0 b1 b2 b3 b4 b5 b6 d0 d1))
     | (go_at_call 167;refine mR (HI.1 _) λw6 g6=>?_;(have ac6:=ac5.gb g6 (by simp));(have m0:=ac6.cell' 0 rfl);(have m1:=ac6.cell' 1 rfl);(have mf:=λk=>ac6.frozen k);(have ml:=ac6.lt)))
    all_goals
     have hre:=((((HK.1.res.alloc (.cells (hdC h' (.slice pa' h'.p.length pc') (.slice la2 kids.len lc2)).toArray 163 (0,0))).drewN 1).gb g5 (by simp)).gb g6 (by simp));have gg:=Ag (Ag (Ae (Ac HK.1.g (.cells (hdC h' (.slice pa' h'.p.length pc') (.slice la2 kids.len lc2)).toArray 163 (0,0)))) g5) g6;have hst6:=(((HK.1.st.alloc (.cells (hdC h' (.slice pa' h'.p.length pc') (.slice la2 kids.len lc2)).toArray 163 (0,0))).drewN 1).gb g5 (by simp)).gb g6 (by simp);have gv6:=Ag (Ag (Ae (Ac HK.1.gv (.cells (hdC h' (.slice pa' h'.p.length pc') (.slice la2 kids.len lc2)).toArray 163 (0,0)))) g5) g6;have HX:=S (X ac6 (X hre (X gg (X hst6 gv6))));clear hre gg hst6 gv6;go_wp2;go_roundg next.len
     case measure=>omega
     case rel=>
      refine⟨next,k+1,n+(1+kids.nodes),max m (1+kids.levels+1),rfl,by go_num,HK.1.next ((HX.1.2.2.2.1.set_other _ _ (by simp<;>omega)).set_other _ _ (by simp<;>omega)) ((HX.1.1.set2 _ _).of_eq (by omega) (by push_cast;rfl)) ((HX.1.2.1.set_other _ _ (by simp)).set_other _ _ (by simp)) (Af (Af HX.1.2.2.1 _ _ (.inr (by simp;omega))) _ _ (.inr (by simp;omega))) (Af (Af HX.1.2.2.2.2 _ _ (.inl rfl)) _ _ (.inl rfl))⟩
def YI:∀N,OfB N:=by
 intro N;induction N with
 |zero=>intro f h;omega
 | succ N ih=>
   intro f hw hn ok la lc w hf;obtain⟨cs,hc1,hr1⟩:=hf;obtain⟨_,_,e,hle,hmx,_,hc1⟩:=hc1;cases e;have hmax:f.len<=maxLen:=by omega
   unfold maxLen at hmax;clear hle hmx;have HC:=S hc1;have HR:=S hr1;have HI0:=S ih;have hfl:=f.levels_le;have HA:=S (Acc1.start w);clear hc1 hr1 ih;go_enter func86,ntmps86;go_wp2_with fail;go_loopg [8] f.len (λg v8 wr=>∃rest:Bl,∃k n m:Nat,rest.len=g/\f.len=k+rest.len/\v8= .int .i64 k/\n+rest.nodes=f.nodes/\max m rest.levels=f.levels/\rest.wt<=f.wt/\RepT ok w rest false (cs.drop (k*10))/\Acc1 w n m wr)
   case atStart=>exact⟨f,0,0,0,rfl,by simp,rfl,by omega,by omega,nR _,by simpa using HR.1,HA.1⟩
   case round=>
    obtain⟨rest,k,n,m,hg,hk,rfl,hno,hlv,hwt,hrow,hA⟩:=hrel;clear HR HA;have a0:=hA.acc.cell' 0 rfl;have a1:=hA.acc.cell' 1 rfl;have r0:=hA.res.cell' 0 rfl;have r1:=hA.res.cell' 1 rfl;have rf:=λk=>hA.res.frozen k;have rl:=hA.res.lt;have af:=λk=>hA.acc.frozen k;have al:=hA.acc.lt;cases rest with
    |bl _ _=>exact hrow.elim
    | nil=>
      have hkI:decide (k<f.len)=false:=by simp[Bl.len]at hk;simp;omega
      have HG:=S (X hA (show n=f.nodes/\m=f.levels by simp[Bl.nodes,Bl.levels]at hno hlv;omega));clear hA hk hg hrow hno hlv hwt;go_wp2;refine bZ (Ix rfl _ (HG.1.1.res.set2 _ _) rfl) rfl ⟨by rw[HG.1.2.1,HG.1.2.2],?_⟩;have g:=HG.1.1.g;exact(Af (Af (by assumption) _ _ (.inr (nR _))) _ _ (.inr (nR _)))
    | st s c next=>
      simp only[Bl.len]at hg hk;subst hg;have hkI:decide (k<f.len)=true:=by simp;omega
      have i0:(0:Int)<=(k:Int):=by omega
      have i1:(k:Int)<(f.len:Int):=by omega
      have hkl:k+1<=f.len:=by omega
      obtain⟨pa,xa,na,fa,wa,ba,pc,xc,nc,fc,wc,bc,h1,h2,hnx,hat⟩:=RepT.elem (k:=k) HC.1 hrow;simp only[Bl.nodes,Bl.levels,Bl.wt]at hno hlv hwt;have hsl:=s.levels_le;have hcl:=c.levels_le;have HL:=S (fun(W:World)(gW:wr.grownBy W none)=>Tj HI0.1 (h1.gb (Z hA.g gW) (by simp)) (h2.gb (Z hA.g gW) (by simp)) (by omega) (by omega));have HI:=S (fun(W:World)=>Lw n m (1+s.nodes+c.nodes) (1+max s.levels c.levels) (by omega) (by omega) (by omega) W);have HN:=S (X hnx (show f.len=k+1+next.len/\n+(1+s.nodes+c.nodes)+next.nodes=f.nodes/\max (max m (1+max s.levels c.levels)) next.levels=f.levels/\next.wt<=f.wt from⟨by omega,by omega,by omega,by omega⟩));obtain⟨g1,o1,rfl,_,z0⟩:=hat 0 _ rfl;obtain⟨_,_,e1,_,z1⟩:=hat 1 _ rfl;cases e1;obtain⟨_,_,e1,_,z2⟩:=hat 2 _ rfl;cases e1;obtain⟨_,_,e1,_,z3⟩:=hat 3 _ rfl;cases e1;obtain⟨_,_,e1,_,z4⟩:=hat 4 _ rfl;cases e1;obtain⟨_,_,e1,_,z5⟩:=hat 5 _ rfl;cases e1;obtain⟨_,_,e1,_,z6⟩:=hat 6 _ rfl;cases e1;obtain⟨_,_,e1,_,z7⟩:=hat 7 _ rfl;cases e1;obtain⟨_,_,e1,_,z8⟩:=hat 8 _ rfl;cases e1;obtain⟨_,_,e1,_,z9⟩:=hat 9 _ rfl;cases e1;rw[<-Nat.add_assoc]at z0 z1 z2 z3 z4 z5 z6 z7 z8 z9;replace z0:=Ad hA.g z0;replace z1:=Ad hA.g z1;replace z2:=Ad hA.g z2;replace z3:=Ad hA.g z3;replace z4:=Ad hA.g z4;replace z5:=Ad hA.g z5;replace z6:=Ad hA.g z6;replace z7:=Ad hA.g z7;replace z8:=Ad hA.g z8;replace z9:=Ad hA.g z9;simp only[Nat.add_zero]at z0;have hgl:=bY wr _ z0;have HG:=S hA
      have hy:=Blk.new wr (sdC s (.slice pa s.p.length pc) (.slice xa s.x.len xc) (.slice ba c.len bc) (.slice na s.n.len nc) (.slice fa s.f.len fc) (.slice wa s.w.len wc)) 134;have hac:=HG.1.acc.alloc (.cells (sdC s (.slice pa s.p.length pc) (.slice xa s.x.len xc) (.slice ba c.len bc) (.slice na s.n.len nc) (.slice fa s.f.len fc) (.slice wa s.w.len wc)).toArray 134 (0,0));have HY:=S (X hy hac);have hws:=HG.1.g.size;have q_:=hy.c10;clear hat hy hac hA h1 h2 hnx hrow hk hno hlv hwt hsl hcl;simp only[sdC]at HY HL ⊢;go_wp2_with fail;go_region_with(first
       | (go_at_call 120;refine(HL.1 _ ?gg).mono ?_;(case gg=>exact(by repeat(first| (with_reducible exact Aa _ _)| (with_reducible refine Ac ?_ _)| (with_reducible refine Ae ?_))));rintro e w5 ⟨rfl,g5⟩;(have y5:=(HY.1.1.drewN 1).gb g5 (by simp));(have ac5:=(HY.1.2.drewN 1).gb g5 (by simp));have b_:=y5.c10;(have d0:=ac5.cell' 0 rfl);(have d1:=ac5.cell' 1 rfl);(have df:=λk=>ac5.frozen k);(have dl:=ac5.lt))
       | (go_at_call 85;refine mR (HI.1 _) λw6 g6=>?_;(have ac6:=ac5.gb g6 (by simp));(have m0:=ac6.cell' 0 rfl);(have m1:=ac6.cell' 1 rfl);(have mf:=λk=>ac6.frozen k);(have ml:=ac6.lt)))
      all_goals
       have hre:=((((HG.1.res.alloc (.cells (sdC s (.slice pa s.p.length pc) (.slice xa s.x.len xc) (.slice ba c.len bc) (.slice na s.n.len nc) (.slice fa s.f.len fc) (.slice wa s.w.len wc)).toArray 134 (0,0))).drewN 1).gb g5 (by simp)).gb g6 (by simp));have gg:=Ag (Ag (Ae (Ac HG.1.g (.cells (sdC s (.slice pa s.p.length pc) (.slice xa s.x.len xc) (.slice ba c.len bc) (.slice na s.n.len nc) (.slice fa s.f.len fc) (.slice wa s.w.len wc)).toArray 134 (0,0)))) g5) g6;have HX:=S (X ac6 (X hre gg));clear hre gg;go_wp2;go_roundg next.len
       case measure=>omega
       case rel=>exact⟨next,k+1,_,_,rfl,HN.1.2.1,by go_num,HN.1.2.2.1,HN.1.2.2.2.1,HN.1.2.2.2.2,HN.1.1,(HX.1.2.1.set_other _ _ (by simp)).set_other _ _ (by simp),HX.1.1.set2 _ _,Af (Af HX.1.2.2 _ _ (.inr (by simp<;>omega))) _ _ (.inr (by simp<;>omega))⟩
def ByteC(w:World)(b:Nat)(s:Bs):Prop:=∀j,j<s.length->w.cell? ⟨b,j,none⟩=some (.int .u8 ((s.getD j 0).toNat:Int))
def Sg(s:Bs)(hs:s.length<=2000000)(w:World):Calls Tryz.prog 249 #[str s] w (ρ w (.bool (En s))):=by
 have hconv:=run_bytes_of_string (P:=Tryz.prog) w 9 84 5 ⟨s.toArray⟩ underlying9 underlying84 underlying5;have hsz:(⟨s.toArray⟩:ByteArray).size=s.length:=by simp[ByteArray.size]
 rw[hsz]at hconv;generalize hcap:grownCap w s.length 0 5=cap at*;have h0:ByteC (w.drew.alloc (.cells (bytesRow ⟨s.toArray⟩ cap) 5 ((bytesRow ⟨s.toArray⟩ cap).size,(bytesRow ⟨s.toArray⟩ cap).size+1))) w.heap.size s:=by
  intro j hj;show(w.drew.alloc _).cell? ⟨w.drew.heap.size,j,none⟩=_;rw[World.cell?_alloc_mark,bytesRow_at _ _ _ (by simpa using hj)];simp[CC hj,hj]
 have g0:w.grownBy (w.drew.alloc (.cells (bytesRow ⟨s.toArray⟩ cap) 5 ((bytesRow ⟨s.toArray⟩ cap).size,(bytesRow ⟨s.toArray⟩ cap).size+1))) none:=Ac (Ae (Aa _ _)) _;have H0:=S (X h0 g0);have HL:=S hs;have hM:=S (show En s=(s.all EI&&decide (s.length<=2048)&&!(s.contains 34&&s.contains 39))from rfl);clear h0 g0 hsz hcap;generalize(w.drew.alloc (.cells (bytesRow ⟨s.toArray⟩ cap) 5 ((bytesRow ⟨s.toArray⟩ cap).size,(bytesRow ⟨s.toArray⟩ cap).size+1)))=W at*;go_enter func249,ntmps249;go_wp2_with fail;go_loopg [8] s.length (λg v8 wr=>∃k:Nat,k+g=s.length/\v8= .int .i64 k/\(∀j,j<k->EI (s.getD j 0)=true)/\W.grownBy wr none)
 case atStart=>exact⟨0,by omega,rfl,λj hj=>by omega,Aa _ _⟩
 case round=>
  obtain⟨k,hk,rfl,hp,gr⟩:=hrel;clear hconv;by_cases hkl:k<s.length
  ·have hj1:decide (k<s.length)=true:=by simpa using hkl
   have ck:=Ad gr (H0.1.1 k hkl);have i0:(0:Int)<=(k:Int):=by omega
   have i1:(k:Int)<(s.length:Int):=by omega
   have HP:=S (X hp gr);have hall:=fun(h:EI (s.getD k 0)=false)=>NV (p:=EI) (l:=s) (d:=0) hkl h;clear hp gr;generalize hc:s.getD k 0=c at*;have hpr:EI c=true↔c.toNat=9\/(32<=c.toNat/\c.toNat<=126):=by
    unfold EI;rw[Bool.or_eq_true,Bool.and_eq_true,beq_iff_eq,decide_eq_true_eq,decide_eq_true_eq,UInt8.le_iff_toNat_le,UInt8.le_iff_toNat_le,<-UInt8.toNat_inj];rfl
   by_cases h:c.toNat=9\/(32<=c.toNat/\c.toNat<=126)
   ·have HC:=S (X (hpr.2 h) hc);clear hpr hall hc;rcases h with h| ⟨h,h'⟩
    ·have h9:((c.toNat:Int)==9)=true:=by simp;omega
     have h9':((c.toNat:Int) !=9)=false:=by simp;omega
     go_wp2;go_roundg (s.length-(k+1))
     case measure=>omega
     case rel=>exact⟨k+1,by omega,by go_num,λj hj=>by rcases Nat.lt_succ_iff_lt_or_eq.1 hj with h|rfl;exact HP.1.1 j h;rw[HC.1.2];exact HC.1.1,HP.1.2⟩
    ·have h9:((c.toNat:Int)==9)=false:=by simp;omega
     have h9':((c.toNat:Int) !=9)=true:=by simp;omega
     have h3:decide ((c.toNat:Int)<32)=false:=by simp;omega
     have h4:decide ((126:Int)<(c.toNat:Int))=false:=by simp;omega
     go_wp2;go_roundg (s.length-(k+1))
     case measure=>omega
     case rel=>exact⟨k+1,by omega,by go_num,λj hj=>by rcases Nat.lt_succ_iff_lt_or_eq.1 hj with h|rfl;exact HP.1.1 j h;rw[HC.1.2];exact HC.1.1,HP.1.2⟩
   ·have HF := S (show En s = false by
     rw[hM.1,hall (by cases hb:EI c with|false=>rfl|true=>exact absurd (hpr.1 hb) h)];rfl)
    have h9:((c.toNat:Int)==9)=false:=by simp;omega
    have h9':((c.toNat:Int) !=9)=true:=by simp;omega
    clear hpr hall hc;by_cases h3:c.toNat<32
    ·have h3I:decide ((c.toNat:Int)<32)=true:=by simp;omega
     go_wp2;go_ret;exact⟨by rw[HF.1];rfl,Z H0.1.2 HP.1.2⟩
    ·have h3I:decide ((c.toNat:Int)<32)=false:=by simp;omega
     have h4:decide ((126:Int)<(c.toNat:Int))=true:=by simp;omega
     go_wp2;go_ret;exact⟨by rw[HF.1];rfl,Z H0.1.2 HP.1.2⟩
  ·have hj1:decide (k<s.length)=false:=by simpa using hkl
   have hall:s.all EI=true:=NW (d:=0) λj hj=>hp j (by omega);have HG:=S (Z H0.1.2 gr);have HA:=S (show En s=(decide (s.length<=2048)&&!(s.contains 34&&s.contains 39))by rw[hM.1,hall];rfl);have H1:=S (λW=>strings_Contains_one ⟨s.toArray⟩ 34 W);have H2:=S (λW=>strings_Contains_one ⟨s.toArray⟩ 39 W);have e1:=Kr s 34;have e2:=Kr s 39;clear hp gr hall hM;by_cases hl:s.length<=2048
   ·have hlI:decide ((s.length:Int)<=2048)=true:=by simp;omega
    have hl':decide (s.length<=2048)=true:=by simpa using hl
    cases b1:s.contains 34 with
    | false=>
      have HF:=S (show En s=true by rw[HA.1,hl',b1];rfl);have E1:=S (e1.trans b1);clear HA e1 e2 b1 hl hl';go_wp2_with fail;refine(H1.1 _).mono ?_;rintro e w1 ⟨rfl,rfl⟩;rw[E1.1];go_wp2;go_ret;exact⟨by rw[HF.1];rfl,HG.1⟩
    | true=>
      have HF:=S (show En s= !(s.contains 39)by rw[HA.1,hl',b1];rfl);have E1:=S (e1.trans b1);have E2:=S e2;clear HA e1 e2 b1 hl hl';generalize s.contains 39=b2 at*;go_wp2_with fail;refine(H1.1 _).mono ?_;rintro e w1 ⟨rfl,rfl⟩;rw[E1.1];go_wp2_with fail;refine(H2.1 _).mono ?_;rintro e w2 ⟨rfl,rfl⟩;rw[E2.1];go_wp2;go_ret;exact⟨by rw[HF.1];rfl,HG.1⟩
   ·have hlI:decide ((s.length:Int)<=2048)=false:=by simp;omega
    have HF:=S (show En s=false by rw[HA.1];simp[hl]);clear HA e1 e2 hl;go_wp2;go_ret;exact⟨by rw[HF.1];rfl,HG.1⟩
open Go.Lib
def Dx(v:Un):Bs:=[117,110,105,116,32]++(qtM v.name++v.row.flatMap A1)
def Ev(c:Cd):Bs:=itoa c.op++32::(itoa c.a++32::(itoa c.b++32::qtM c.s))
def Mb(c:Cd):Ev c++[10]=Bc c:=by simp[Ev,Bc]
def B0(vs:List Un):List Bs:=vs.flatMap λv=>Dx v::v.code.map Ev
def TF(v:Un):AZ v=(Dx v::v.code.map Ev).flatMap (· ++[10]):=by
 have h:∀l:List Cd,(l.map Ev).flatMap (· ++[10])=l.flatMap Bc:=by
  intro l;induction l with
  |nil=>rfl
  |cons c l ih=>rw[List.map_cons,fC,fC,ih,Mb]
 rw[JV,fC,h,Dx,BK];simp
def It(vs:List Un):AP vs=(B0 vs).flatMap (· ++[10]):=by
 rw[J7];induction vs with
 |nil=>rfl
 |cons v vs ih=>rw[fC,ih,B0,B0,fC,List.flatMap_append,TF]
def Ol(m:Bs):(10:UInt8) ∉ qtM m:=by
 intro h;rw[Eh]at h;simp only[List.mem_cons,List.mem_append,List.mem_flatMap,List.not_mem_nil,or_false]at h;rcases h with h| ⟨b,_,h⟩|h
 ·exact absurd h (by decide)
 ·exact absurd (MO h).1 (by decide)
 ·exact absurd h (by decide)
def I8(n:Int):(10:UInt8) ∉ itoa n:=by
 intro h;have:=E7 n;rw[List.all_eq_true]at this;exact absurd (this _ h) (by decide)
def ST(vs:List Un):∀l∈B0 vs,(10:UInt8) ∉ l:=by
 intro l hl;obtain⟨v,_,hv⟩:=List.mem_flatMap.1 hl;rcases List.mem_cons.1 hv with rfl|hv
 ·intro h;rw[Dx]at h;rcases List.mem_append.1 h with h|h
  ·exact absurd h (by decide)
  ·rcases List.mem_append.1 h with h|h
   ·exact Ol _ h
   ·obtain⟨n,_,hn⟩:=List.mem_flatMap.1 h;rw[A1]at hn;rcases List.mem_cons.1 hn with h|h
    ·exact absurd h (by decide)
    ·exact I8 _ h
 ·obtain⟨c,_,rfl⟩:=List.mem_map.1 hv;intro h;simp only[Ev,List.mem_append,List.mem_cons]at h;rcases h with h|h|h|h|h|h|h
  ·exact I8 _ h
  ·exact absurd h (by decide)
  ·exact I8 _ h
  ·exact absurd h (by decide)
  ·exact I8 _ h
  ·exact absurd h (by decide)
  ·exact Ol _ h
def NK{s:Bs}(h0:vs≠[])(h:s++[10]=AP vs):Lib.split s [10]=B0 vs:=by
 refine Re 10 _ s ?_ (ST vs) (by rw[h,It]);cases vs with
 |nil=>exact absurd rfl h0
 |cons v vs=>simp[B0]
def Dm(l:Bs):Bool:=Lib.hasPrefix l [117,110,105,116,32]
def Tp(c:Cd):Dm (Ev c)=false:=by
 have h1:=E7 c.op;cases hi:itoa c.op with
 |nil=>exact absurd hi (KR _)
 | cons y z=>
   rw[hi]at h1;simp only[List.all_cons,Bool.and_eq_true]at h1;have hy:y≠117:=by intro e;rw[e]at h1;exact absurd h1.1 (by decide)
   rw[Dm,Ev,hi,Lib.hasPrefix];simp[List.isPrefixOf,Ne.symm hy]
def VT(h:Dm l=true):l=[117,110,105,116,32]++Lib.trimPrefix l [117,110,105,116,32]:=by
 unfold Dm at h;have h2:[117,110,105,116,32].isPrefixOf l=true:=h;obtain⟨r,hr⟩:=List.isPrefixOf_iff_prefix.1 h2;rw[Lib.trimPrefix,if_pos h,<-hr];simp
def MB(v:Un):Dm (Dx v)=true:=by
 unfold Dm;show [117,110,105,116,32].isPrefixOf (Dx v)=true;rw[List.isPrefixOf_iff_prefix];exact⟨_,rfl⟩
def Nf(hw:AN vs)(h:l∈B0 vs):(∃v,CP v/\l=Dx v)\/∃c,Dl c/\l=Ev c:=by
 obtain⟨v,hv,h⟩:=List.mem_flatMap.1 h;rcases List.mem_cons.1 h with rfl|h
 ·exact .inl ⟨v,hw v hv,rfl⟩
 ·obtain⟨c,hc,rfl⟩:=List.mem_map.1 h;exact .inr ⟨c,(hw v hv).2 c hc,rfl⟩
def RdI(L:List Bs)(us:List Un)(k:Nat):Prop:=∀vs,AN vs->L=B0 vs->B0 us=L.take k
def RdI.init(L:List Bs):RdI L [] 0:=λ_ _ _=>rfl
def JU(hk:k<L.length):L.take (k+1)=L.take k++[L[k]]:=by
 rw[List.take_add_one,List.getElem?_eq_getElem hk];rfl
def J8(us vs:List Un):B0 (us++vs)=B0 us++B0 vs:=by simp[B0]
def RdI.unit(h:RdI L us k)(hk:k<L.length)(hh:Dm L[k]=true){nm:Bs}{l:List Int}(hu:∀u,CP u->Lib.trimPrefix L[k] [117,110,105,116,32]=qtM u.name++u.row.flatMap A1->b=true/\nm=u.name/\l=u.row):
 RdI L (us++[⟨nm,l,[]⟩]) (k+1)/\(b=false->∀vs,AN vs->L≠B0 vs):=by
 have key:∀vs,AN vs->L=B0 vs->b=true/\L[k]=Dx ⟨nm,l,[]⟩:=by
  intro vs hw he;have hm:L[k]∈B0 vs:=by rw[<-he];exact List.getElem_mem hk
  rcases Nf hw hm with⟨v,hv,e⟩| ⟨c,_,e⟩
  ·have h1:=VT hh;rw[e]at h1;have h2:Lib.trimPrefix L[k] [117,110,105,116,32]=qtM v.name++v.row.flatMap A1:=by
    rw[e];exact(List.append_cancel_left (show [117,110,105,116,32]++(qtM v.name++v.row.flatMap A1)=[117,110,105,116,32]++Lib.trimPrefix (Dx v) [117,110,105,116,32]from h1)).symm
   obtain⟨h3,h4,h5⟩:=hu v hv h2;refine⟨h3,?_⟩;rw[e,Dx,Dx,h4,h5]
  ·rw[e,Tp]at hh;cases hh
 refine⟨λvs hw he=>?_,λhb vs hw he=>?_⟩
 ·rw[J8,h vs hw he,JU hk,(key vs hw he).2];rfl
 ·have:=(key vs hw he).1;rw[hb]at this;cases this
def RdI.code(h:RdI L us k)(hk:k<L.length)(hh:Dm L[k]=false)(hu:∀d,Dl d->L[k]++[10]=Bc d->b=true/\c=d):
 (∀init u,us=init++[u]->RdI L (init++[⟨u.name,u.row,u.code++[c]⟩]) (k+1))/\(b=false\/us=[]->∀vs,AN vs->L≠B0 vs):=by
 have key:∀vs,AN vs->L=B0 vs->b=true/\L[k]=Ev c:=by
  intro vs hw he;have hm:L[k]∈B0 vs:=by rw[<-he];exact List.getElem_mem hk
  rcases Nf hw hm with⟨v,hv,e⟩| ⟨d,hd,e⟩
  ·rw[e,MB]at hh;cases hh
  ·obtain⟨h3,h4⟩:=hu d hd (by rw[e,Mb]);exact⟨h3,by rw[h4];exact e⟩
 refine⟨λinit u e vs hw he=>?_,λhb vs hw he=>?_⟩
 ·have h1:=h vs hw he;rw[JU hk,<-h1,e,J8,J8,(key vs hw he).2];simp[B0,Dx]
 ·rcases hb with hb|rfl
  ·have:=(key vs hw he).1;rw[hb]at this;cases this
  ·have h1:=h vs hw he;have hk0:k=0:=by
    have:=congrArg List.length h1;simp[B0]at this;omega
   subst hk0;cases vs with
   |nil=>rw[he]at hk;simp[B0]at hk
   | cons v vs=>
     have:L[0]=Dx v:=by simp[he,B0]
     rw[this,MB]at hh;cases hh
def UA(h:B0 us=B0 vs):us=vs:=by
 have h1:BA us 0=BA vs 0:=by rw[FT,FT,It,It,h]
 exact(MY h1).1
def YR(f:α->Nat)(l m:List α):∀k,k<=l.length->pfx f (l++m) k=pfx f l k:=by
 intro k;induction k with
 |zero=>intro _;rfl
 | succ k ih=>
   intro hk;rw[pfx,pfx,ih (by omega),List.getElem?_append_left (by omega)]
def NH(f:α->Nat)(l:List α)(x:α):pfx f (l++[x]) (l++[x]).length=pfx f l l.length+f x:=by
 rw[lA,List.length_singleton,pfx,YR f l [x] _ (nR _),List.getElem?_append_right (nR _),Nat.sub_self];rfl
def Jd(us:List Un)(u:Un):AF (us++[u])=AF us+1+wtU u:=by
 unfold AF;rw[NH,lA,List.length_singleton];omega
def Zg(us:List Un)(nm:Bs)(l:List Int):AF (us++[⟨nm,l,[]⟩])=AF us+1+(nm.length+l.length):=by
 rw[Jd];rfl
def Y4(us:List Un)(u:Un)(c:Cd):AF (us++[⟨u.name,u.row,u.code++[c]⟩])=AF (us++[u])+(3+c.s.length):=by
 rw[Jd,Jd];unfold wtU;rw[NH];simp only[wtC];omega
def DI(L:List Bs):Nat:=(L.flatMap (· ++[(10:UInt8)])).length
def SX(hk:k<L.length):DI (L.take (k+1))=DI (L.take k)+(L[k].length+1):=by
 rw[JU hk,DI,List.flatMap_append,lA];simp[DI]
def NA(L:List Bs)(k:Nat):DI (L.take k)<=DI L:=by
 have:L=L.take k++L.drop k:=(List.take_append_drop k L).symm;conv=>rhs;rw[this]
 rw[DI,DI,List.flatMap_append,lA];omega
def QE(s:Bs):DI (Lib.split s [10])=s.length+1:=by
 rw[DI,I1 10 _ s (nR _)];simp
def okP(B M:Nat)(v:Value):Nat->Prop:=λk=>B<=k/\v.ownBlock≠some k/\k<M
structure OwnL(w:World)(B M:Nat)(v:Value)(init:List Un)(u:Un)(cs:List Value)(rv cv:Value):Prop where
 row:w.ownsRow B 58 3 v (init.length+1) (cs++[str u.name,rv,cv])
 rep:RepU (okP B M v) w init cs
 num:Cells w rv 1 u.row.length (Bt u.row) (okP B M v)
 cod:w.ownsRow M 61 4 cv u.code.length (A9 u.code)
 le:B<=M
 ml:M<=w.heap.size
def OwnPr(w:World)(B:Nat)(v:Value)(us:List Un):Prop:=(us=[]/\v= .slice none 0 0)\/∃init u cs rv cv M,us=init++[u]/\OwnL w B M v init u cs rv cv
def Hl{B1 B2 k1 k2 n1 n2:Nat}{t1 t2:TypeId}{v1 v2:Value}{xs1 xs2:List Value}(h1:w.ownsRow B1 t1 k1 v1 n1 xs1)(h2:w.ownsRow B2 t2 k2 v2 n2 xs2)(ht:t1≠t2):∀q,v2.ownBlock=some q->v1.ownBlock≠some q:=by
 intro q e;rcases h2.2 with⟨rfl,_⟩| ⟨g,cap,cur,rfl,_,hq,_⟩
 ·simp[Value.ownBlock]at e
 ·simp only[Value.ownBlock,Option.some.injEq]at e;subst e;exact IS h1 hq ht
def Tl{t:TypeId}{xs:List Value}(h:w.ownsRow B t k v n xs):Cells w v k n xs (λq=>v.ownBlock=some q/\B<=q):=by
 obtain⟨a,cap,e,h1,h2,h3,h4⟩:=Db h;refine⟨a,cap,e,h1,h2,h3,λj u hj=>?_⟩;obtain⟨g,o,ea,hok,c⟩:=h4 j u hj;exact⟨g,o,ea,⟨by rw[e,ea];rfl,hok⟩,c⟩
def OwnL.gbN{init:List Un}(h:OwnL w B M v init u cs rv cv)(g:w.grownBy w1 none):OwnL w1 B M v init u cs rv cv:=
 ⟨BF h.row g (by simp),h.rep.gb g (by simp),h.num.gb g (by simp),BF h.cod g (by simp),h.le,nT h.ml g.size⟩
def OwnPr.gbN(h:OwnPr w B v us)(g:w.grownBy w1 none):OwnPr w1 B v us:=by
 rcases h with h| ⟨init,u,cs,rv,cv,M,e,h⟩
 ·exact .inl h
 ·exact .inr ⟨init,u,cs,rv,cv,M,e,h.gbN g⟩
def OwnPr.all(h:OwnPr w B v us):∃cs,w.ownsRow B 58 3 v us.length cs/\RepU (okP B w.heap.size v) w us cs:=by
 rcases h with⟨rfl,rfl⟩| ⟨init,u,cs,rv,cv,M,rfl,h⟩
 ·exact⟨[],EC _ _ _ _,rfl⟩
 ·refine⟨_,by rw[lA];exact h.row,?_⟩;refine(h.rep.mono λk hk hl=>⟨hk.1,hk.2.1,hl⟩).app (RepU.one (h.num.mono λk hk hl=>⟨hk.1,hk.2.1,hl⟩) ((Tl h.cod).mono λk hk hl=>⟨nT h.le hk.2,Hl h.row h.cod (by decide) k hk.1,hl⟩))
def OwnPr.vu(h:OwnPr w B v us):VU (Al B) w v us:=by
 obtain⟨cs,h1,h2⟩:=h.all;exact⟨cs,Db h1,h2.mono λk hk _=>hk.1⟩
def OwnPr.unit{Bu:Nat}{v':Value}(h1:w.ownsRow B 58 3 v us.length cs)(h2:RepU (okP B w.heap.size v) w us cs)(hr:w.ownsRow Bu 3 1 rv u.row.length (Bt u.row))(hc:u.code=[])(hB:B<=Bu)(hv:∀q,v.ownBlock=some q->q<Bu)
 (ho:w1.ownsRow B 58 3 v' (us.length+1) (cs++[str u.name,rv,.slice none 0 0])) (hg:w.grownBy w1 v.ownBlock) (hnew:∀k,v'.ownBlock=some k->v.ownBlock=some k\/w.heap.size<=k) (hs:B<=w.heap.size):OwnPr w1 B v' (us++[u]):=by
 refine .inr ⟨us,u,cs,rv,.slice none 0 0,w.heap.size,rfl,ho,?_,?_,by rw[hc];exact EC _ _ _ _,hs,hg.size⟩
 ·refine(h2.gb hg λk hk _ e=>hk.2.1 e.symm).mono λk hk _=>⟨hk.1,λe=>?_,hk.2.2⟩;rcases hnew k e with h|h
  ·exact hk.2.1 h
  ·have:=hk.2.2;omega
 ·have h3:=((Db hr).mono (ok':=λk=>Bu<=k/\k<w.heap.size) (λk hk hl=>⟨hk,hl⟩)).gb hg (λk hk _ e=>by have:=hv k e.symm;omega);exact h3.mono λk hk _=>⟨nT hB hk.1,λe=>by
   rcases hnew k e with h|h
   ·have:=hv k h;omega
   ·omega,hk.2⟩
def OwnL.code{g:Nat}{cv':Value}{init:List Un}(h:OwnL w B M (.slice (some ⟨g,0,none⟩) (init.length+1) cap) init u cs rv cv)
 (ho:w1.ownsRow M 61 4 cv' (u.code.length+1) (A9 u.code++cdC c)) (hg:w.grownBy w1 cv.ownBlock):
 OwnPr (w1.setCell ⟨g,init.length*3+2,none⟩ cv') B (.slice (some ⟨g,0,none⟩) (init.length+1) cap) (init++[⟨u.name,u.row,u.code++[c]⟩]):=by
 have hcs:cs.length=init.length*3:=by
  have:=h.row.1;simp at this;omega
 have hM:∀q,cv.ownBlock=some q->M<=q:=Fk h.cod;have h1:=BF h.row hg (Hl h.row h.cod (by decide));have h2:=h1.stored (init.length*3+2) cv';rw[show(cs++[str u.name,rv,cv]).set (init.length*3+2) cv'=cs++[str u.name,rv,cv']by
  rw[List.set_append_right _ _ (by omega),hcs,show init.length*3+2-init.length*3=2 by omega];rfl]at h2
 have gS:=Am (Aa w1 (some g)) (init.length*3+2) cv';refine .inr ⟨init,_,cs,rv,cv',M,rfl,h2.1,?_,?_,?_,h.le,nT (nT h.ml hg.size) gS.size⟩
 ·refine(h.rep.gb hg λk hk _ e=>?_).gb gS λk hk _ e=>?_
  ·have:=hM k e.symm;have:=hk.2.2;omega
  ·exact hk.2.1 e.symm
 ·refine(h.num.gb hg λk hk _ e=>?_).gb gS λk hk _ e=>?_
  ·have:=hM k e.symm;have:=hk.2.2;omega
  ·exact hk.2.1 e.symm
 ·have h3 : w1.ownsRow M 61 4 cv' (u.code ++ [c]).length (A9 (u.code ++ [c])) := by
   rw[lA,QU,show A9 [c]=cdC c by simp[A9]];exact ho
  refine BF h3 gS λq e=>?_;have e:=Option.some.inj e;subst e;exact Hl h3 h1 (by decide) g rfl
end Go.Proofs.YtbjfaimkiclhgaaGreatDoor
