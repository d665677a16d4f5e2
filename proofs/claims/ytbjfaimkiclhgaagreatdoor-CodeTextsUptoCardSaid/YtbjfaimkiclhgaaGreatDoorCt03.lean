/-
  App How code lies in memory: units are a slice of three cells each, their rows slices of numbers, their instructions slices of four cells each. Name CkA SynC SynD Contracts of the parser: pow, not. Fi
-/
import Derived.Test.YtbjfaimkiclhgaaGreatDoorCt02
import Derived.Deep.LoopGhost
import Derived.Test.YtbjfaimkiclhgaaGreatDoorPlain
import Derived.Maps.Own
import Derived.Deep.DeepCutAuto
set_option linter.all false
set_option maxRecDepth 100000
set_option maxHeartbeats 8000000
namespace Go.Proofs.YtbjfaimkiclhgaaGreatDoor
open Go.Proofs.Tryz
open Go.RowKit
variable{P:Program}{w w1 w2:World}{n pc lc j c i b k L i':Nat}{v tv wv px lx:Value}{f:Fo}{x:Ex}{cs:List Value}{pa la a:Option Addr}{l:List Tok}{ok ok':Nat->Prop}{r:Res Ex}{wl:List Bs}{s:Bs}{op:Int}{α β:Type}{o:Prop}{opnd E:Nat->Res Ex}
def PV(w:World)(base:Nat)(t ty e:TypeId)(i:TypeInfo)(z:Value)(size bytes:Nat)(ht:P.underlying t=some (.slice e))(hi:P.info? e=some i)(hz:i.zero=some z)
 (hsize:i.size=size) (hby:i.bytes=bytes) (hzs:z.cells.size=size) (hsz:0<size)
 (v:Value) (n:Nat) (xs:List Value) (hown:w.ownsRow base e size v n xs)
 (a:Addr) (m c:Nat) (news:List Value) (hl:news.length=m*size) (hnews:∀j u,news[j]? =some u->w.cell? (a.add j)=some u) (h1:∀u∈news,u.oneCell'=true)
 (h63:n+m<=maxLen) (hbytes:(n+m)*bytes<=140737488355328) (hbase:base<=w.heap.size):
 ∃v' w',(Builtin.append_ #[t,t] ty #[v,.slice (some a) m c]).run P w= .ok v' w'/\w'.ownsRow base e size v' (n+m) (xs++news)/\w.grownBy w' v.ownBlock/\
  (∀k,v'.ownBlock=some k->v.ownBlock=some k\/w.heap.size<=k):=by
 obtain⟨v1,w1,hr1,ho1,hg1,_⟩:=run_append_own (P:=P) w base t ty e i z size bytes ht hi hz hsize hby hzs hsz v n xs hown a m c news hl hnews h1 h63 hbytes hbase;refine⟨v1,w1,hr1,ho1,hg1,λk hk=>?_⟩;rcases hown.2 with⟨rfl,rfl⟩| ⟨g,cap,cur,rfl,hbg,hg,hnc,hcm,hcs,htake⟩
 ·obtain⟨v2,w2,hr2,ho2,_,_⟩:=run_append_own (P:=P) w w.heap.size t ty e i z size bytes ht hi hz hsize hby hzs hsz _ 0 xs ⟨hown.1,.inl ⟨rfl,rfl⟩⟩ a m c news hl hnews h1 h63 hbytes (nR _);rw[hr1]at hr2;cases hr2;exact .inr (ho2.lt k hk).1
 ·by_cases hroom:n+m<=cap
  ·have hfit:n*i.size+news.length<=cur.size:=by rw[hl,hcs,hsize,<-Nat.add_mul];exact Nat.mul_le_mul_right _ hroom
   have hr:=run_append_room (P:=P) w t ty e i ht hi g n cap cur hg a m c news (by rw[hsize];exact hl) hnews h1 hroom hfit;rw[hr1]at hr;cases hr;left;simpa[Value.ownBlock]using hk
  ·have holds:∀j u,xs[j]? =some u->w.cell? ((⟨g,0,none⟩:Addr).add j)=some u:=hown.cells (g:=g) rfl;have hr:=run_append_grow (P:=P) w t ty e i z ht hi hz ⟨g,0,none⟩ n cap xs (by rw[hsize];exact hown.1) holds a m c news (by rw[hsize];exact hl) hnews (by omega) (by unfold maxLen at h63;omega) (by rw[hby];exact growslice_fits (by unfold maxLen at h63;omega) hbytes);rw[hr1]at hr;cases hr;right;simp[Value.ownBlock]at hk;omega
def GQ{ops:Array Oper}{rest:List Oper}{o:Oper}{a:Act}{Q:Exit->Act->World->Prop}(hgd:o.guard=none)(s x:Operand)(t:TypeId)
 (ho:o.op= .call {callee:= .builtin .append,args:=#[s,x],argTypes:=#[t,t]})
 (base:Nat) (e:TypeId) (i:TypeInfo) (z:Value) (size bytes:Nat) (ht:P.underlying t=some (.slice e)) (hi:P.info? e=some i) (hz:i.zero=some z)
 (hsize:i.size=size) (hby:i.bytes=bytes) (hzs:z.cells.size=size) (hsz:0<size)
 (v:Value) (n:Nat) (xs:List Value) (hs:a.eval s=v) (hown:w.ownsRow base e size v n xs)
 (ad:Addr) (m c:Nat) (news:List Value) (hx:a.eval x= .slice (some ad) m c) (hl:news.length=m*size) (hnews:∀j u,news[j]? =some u->w.cell? (ad.add j)=some u) (h1:∀u∈news,u.oneCell'=true)
 (h63:n+m<=maxLen) (hbytes:(n+m)*bytes<=140737488355328) (hbase:base<=w.heap.size)
 (h:∀v' w',w'.ownsRow base e size v' (n+m) (xs++news)->w.grownBy w' v.ownBlock->(∀k,v'.ownBlock=some k->v.ownBlock=some k\/w.heap.size<=k)->wpList P ops Q rest (a.put o.dst v') w'):wpList P ops Q (o::rest) a w:=by
 refine wpList_plain hgd λK hK=>?_;obtain⟨v',w',hr,h2,h3,h4⟩:=PV (P:=P) w base t o.type e i z size bytes ht hi hz hsize hby hzs hsz v n xs hown ad m c news hl hnews h1 h63 hbytes hbase;unfold Oper.wp execOp;simp only[ho,resolve,invoke,builtin,Sem.run_bind,Sem.run_pure,Result.andThen_ok,List.map_toArray,List.map_cons,List.map_nil,hs,hx,hr];exact hK _ _ (h v' w' h2 h3 h4)
def AY(w:World)(cs:List Value)(t:TypeId):∀j u,cs[j]? =some u->(w.alloc (.cells cs.toArray t (0,0))).cell? ((⟨w.heap.size,0,none⟩:Addr).add j)=some u:=by
 intro j u h;have e:(⟨w.heap.size,0,none⟩:Addr).add j=⟨w.heap.size,j,none⟩:=by unfold Addr.add;split<;>simp_all
 rw[e];exact(Blk.new w cs t).cell' j h
def OwnF.snoc{B:Nat}{v':Value}{okx:Nat->Prop}
 (hf:RepF (λg=>B<=g/\v.ownBlock≠some g) w f cs) (hn:n=f.len)
 (rp:Cells w (.slice pa x.h.p.length pc) 1 x.h.p.length (x.h.p.map str) okx) (rl:RepL okx w (.slice la x.kids.len lc) x.kids) (hokx:∀k,okx k->B<=k/\v.ownBlock≠some k)
 (ho:w1.ownsRow B 163 7 v' (n+1) (cs++hdC x.h (.slice pa x.h.p.length pc) (.slice la x.kids.len lc))) (hg:w.grownBy w1 v.ownBlock) (hnew:∀k,v'.ownBlock=some k->v.ownBlock=some k\/w.heap.size<=k):
 OwnF w1 B v' (f.snoc x):=by
 subst hn;refine⟨_,by rw[Fo.len_snoc];exact ho,?_⟩;have h1:RepF (λg=>B<=g/\v.ownBlock≠some g) w (f.snoc x) (cs++hdC x.h (.slice pa x.h.p.length pc) (.slice la x.kids.len lc)):=
  hf.app (VE.rep (rp.mono λk hk _=>hokx k hk) (rl.mono λk hk _=>hokx k hk))
 have h2:=RepF.mono (ok':=λg=>B<=g/\v.ownBlock≠some g/\v'.ownBlock≠some g) (λk hk hlt=>⟨hk.1,hk.2,λe=>by
  rcases hnew k e with h|h
  ·exact hk.2 h
  ·omega⟩) h1
 exact(h2.gb hg λk hk _ e=>hk.2.1 e.symm).mono λk hk _=>⟨hk.1,hk.2.2⟩
def CI:(Tryz.prog.info? 163).map (λi=>(i.zero,i.size,i.bytes))=some (some (.agg #[.int .i64 0,str [],.int .i64 0,.int .i64 0,str [],.slice none 0 0,.slice none 0 0]),7,104):=by kernel_rfl
def Fe:(Tryz.prog.info? 9).map (λi=>(i.zero,i.size,i.bytes))=some (some (str []),1,16):=by kernel_rfl
def VG:(Tryz.prog.info? 250).map (λi=>(i.zero,i.size,i.bytes))=some (some (.agg #[.int .i64 0,.int .i64 0,str []]),3,32):=by kernel_rfl
structure Cd where
 op:Int
 a:Int
 b:Int
 s:Bs
deriving DecidableEq
structure Un where
 name:Bs
 row:List Int
 code:List Cd
deriving DecidableEq
variable{us:List Un}
def cdC(c:Cd):List Value:=[.int .i64 c.op,.int .i64 c.a,.int .i64 c.b,str c.s]
def A9:List Cd->List Value
 | []=>[]
 |c::r=>cdC c++A9 r
def Bt(l:List Int):List Value:=l.map λi=> .int .i64 i
def QU(l m:List Cd):A9 (l++m)=A9 l++A9 m:=by
 induction l with
 |nil=>rfl
 |cons c r ih=>simp[A9,ih]
def Wv{l:List Cd}{c:Cd}(h:l[j]? =some c):(A9 l)[j*4]? =some (.int .i64 c.op)/\(A9 l)[j*4+1]? =some (.int .i64 c.a)/\(A9 l)[j*4+2]? =some (.int .i64 c.b)/\(A9 l)[j*4+3]? =some (str c.s):=by
 induction l generalizing j with
 |nil=>simp at h
 | cons d r ih=>
   cases j with
   | zero=>
     simp at h;subst h;simp[A9,cdC]
   | succ j=>
     have:=ih (j:=j) (by simpa using h);have e:∀k,(A9 (d::r))[(j+1)*4+k]? =(A9 r)[j*4+k]?:=by
      intro k;rw[A9,List.getElem?_append_right (by simp[cdC];omega)];congr 1;simp[cdC];omega
     have e0:=e 0;simp only[Nat.add_zero]at e0;rw[e0,e 1,e 2,e 3];exact this
def RepU(ok:Nat->Prop)(w:World):List Un->List Value->Prop
 | [],cs=>cs=[]
 |u::r,cs=>∃rv cv rest,cs=str u.name::rv::cv::rest/\Cells w rv 1 u.row.length (Bt u.row) ok/\Cells w cv 4 u.code.length (A9 u.code) ok/\RepU ok w r rest
def VU(ok:Nat->Prop)(w:World)(v:Value)(us:List Un):Prop:=∃cs,Cells w v 3 us.length cs ok/\RepU ok w us cs
def RepU.gb{r:Option Nat}(g:w.grownBy w1 r)(hk:∀k,ok k->k<w.heap.size->some k≠r):∀{us:List Un}{cs:List Value},RepU ok w us cs->RepU ok w1 us cs:=by
 intro us;induction us with
 |nil=>intro cs h;exact h
 | cons u r ih=>
   rintro cs ⟨rv,cv,rest,e,h1,h2,h3⟩;exact⟨rv,cv,rest,e,h1.gb g hk,h2.gb g hk,ih h3⟩
def RepU.mono(hk:∀k,ok k->k<w.heap.size->ok' k):∀{us:List Un}{cs:List Value},RepU ok w us cs->RepU ok' w us cs:=by
 intro us;induction us with
 |nil=>intro cs h;exact h
 | cons u r ih=>
   rintro cs ⟨rv,cv,rest,e,h1,h2,h3⟩;exact⟨rv,cv,rest,e,h1.mono hk,h2.mono hk,ih h3⟩
def RepU.app:∀{us vs:List Un}{cs ds:List Value},RepU ok w us cs->RepU ok w vs ds->RepU ok w (us++vs) (cs++ds):=by
 intro us;induction us with
 |nil=>intro vs cs ds h k;subst h;exact k
 | cons u r ih=>
   rintro vs cs ds ⟨rv,cv,rest,rfl,h1,h2,h3⟩ k;exact⟨rv,cv,rest++ds,by simp,h1,h2,ih h3 k⟩
def RepU.one{u:Un}{rv cv:Value}(h1:Cells w rv 1 u.row.length (Bt u.row) ok)(h2:Cells w cv 4 u.code.length (A9 u.code) ok):RepU ok w [u] [str u.name,rv,cv]:=
 ⟨rv,cv,[],rfl,h1,h2,rfl⟩
def RepU.get:∀{us:List Un}{cs:List Value}{i:Nat}{u:Un},RepU ok w us cs->us[i]? =some u->
 ∃rv cv,cs[i*3]? =some (str u.name)/\cs[i*3+1]? =some rv/\cs[i*3+2]? =some cv/\Cells w rv 1 u.row.length (Bt u.row) ok/\Cells w cv 4 u.code.length (A9 u.code) ok:=by
 intro us;induction us with
 |nil=>intro cs i u h k;simp at k
 | cons x r ih=>
   rintro cs i u ⟨rv,cv,rest,rfl,h1,h2,h3⟩ k;cases i with
   | zero=>
     simp at k;subst k;exact⟨rv,cv,by simp,by simp,by simp,h1,h2⟩
   | succ i=>
     obtain⟨rv',cv',e0,e1,e2,h4,h5⟩:=ih h3 (i:=i) (by simpa using k);refine⟨rv',cv',?_,?_,?_,h4,h5⟩
     ·rw[show(i+1)*3=i*3+3 by omega];simpa using e0
     ·rw[show(i+1)*3+1=i*3+1+3 by omega];simpa using e1
     ·rw[show(i+1)*3+2=i*3+2+3 by omega];simpa using e2
def VU.gb{r:Option Nat}(h:VU ok w v us)(g:w.grownBy w1 r)(hk:∀k,ok k->k<w.heap.size->some k≠r):VU ok w1 v us:=by
 obtain⟨cs,h1,h2⟩:=h;exact⟨cs,h1.gb g hk,h2.gb g hk⟩
def VU.mono(h:VU ok w v us)(hk:∀k,ok k->k<w.heap.size->ok' k):VU ok' w v us:=by
 obtain⟨cs,h1,h2⟩:=h;exact⟨cs,h1.mono hk,h2.mono hk⟩
def VU.open(h:VU ok w v us):∃a cap,v= .slice a us.length cap/\us.length<=cap/\cap<=maxLen/\∀i u,us[i]? =some u->
 ∃g o ra rc ca cc,a=some ⟨g,o,none⟩/\ok g/\g<w.heap.size/\w.cell? ⟨g,o+i*3,none⟩=some (str u.name)/\w.cell? ⟨g,o+i*3+1,none⟩=some (.slice ra u.row.length rc)/\w.cell? ⟨g,o+i*3+2,none⟩=some (.slice ca u.code.length cc)/\
  Cells w (.slice ra u.row.length rc) 1 u.row.length (Bt u.row) ok/\Cells w (.slice ca u.code.length cc) 4 u.code.length (A9 u.code) ok:=by
 obtain⟨cs,⟨a,cap,e,h1,h2,h3,h4⟩,hr⟩:=h;refine⟨a,cap,e,h1,h2,λi u hi=>?_⟩;obtain⟨rv,cv,e0,e1,e2,h5,h6⟩:=hr.get hi;obtain⟨g,o,ea,hok,c0⟩:=h4 _ _ e0;obtain⟨g',o',ea',_,c1⟩:=h4 _ _ e1;obtain⟨g'',o'',ea'',_,c2⟩:=h4 _ _ e2;have hg:some (⟨g',o',none⟩:Addr)=some ⟨g,o,none⟩:=ea'.symm.trans ea;have hg2:some (⟨g'',o'',none⟩:Addr)=some ⟨g,o,none⟩:=ea''.symm.trans ea;cases hg;cases hg2;obtain⟨ra,rc,rfl,_⟩:=id h5;obtain⟨ca,cc,rfl,_⟩:=id h6;exact⟨g,o,ra,rc,ca,cc,ea,hok,bY w _ c0,c0,by rw[Nat.add_assoc];exact c1,by rw[Nat.add_assoc];exact c2,h5,h6⟩
def Cells.int{l:List Int}(h:Cells w (.slice a n c) 1 l.length (Bt l) ok){x:Int}(hj:l[j]? =some x):
 ∃g o,a=some ⟨g,o,none⟩/\ok g/\g<w.heap.size/\w.cell? ⟨g,o+j,none⟩=some (.int .i64 x):=by
 obtain⟨a',cap,e,h1,h2,h3,h4⟩:=h;cases e;obtain⟨g,o,ea,hok,c0⟩:=h4 j (.int .i64 x) (by simp[Bt,hj]);exact⟨g,o,ea,hok,bY w _ c0,c0⟩
def Cells.cd{l:List Cd}(h:Cells w (.slice a n c) 4 l.length (A9 l) ok){x:Cd}(hj:l[j]? =some x):
 ∃g o,a=some ⟨g,o,none⟩/\ok g/\g<w.heap.size/\w.cell? ⟨g,o+j*4,none⟩=some (.int .i64 x.op)/\w.cell? ⟨g,o+j*4+1,none⟩=some (.int .i64 x.a)/\w.cell? ⟨g,o+j*4+2,none⟩=some (.int .i64 x.b)/\w.cell? ⟨g,o+j*4+3,none⟩=some (str x.s):=by
 obtain⟨a',cap,e,h1,h2,h3,h4⟩:=h;cases e;obtain⟨e0,e1,e2,e3⟩:=Wv hj;obtain⟨g,o,ea,hok,c0⟩:=h4 _ _ e0;obtain⟨g1,o1,ea1,_,c1⟩:=h4 _ _ e1;obtain⟨g2,o2,ea2,_,c2⟩:=h4 _ _ e2;obtain⟨g3,o3,ea3,_,c3⟩:=h4 _ _ e3;have hg1:some (⟨g1,o1,none⟩:Addr)=some ⟨g,o,none⟩:=ea1.symm.trans ea;have hg2:some (⟨g2,o2,none⟩:Addr)=some ⟨g,o,none⟩:=ea2.symm.trans ea;have hg3:some (⟨g3,o3,none⟩:Addr)=some ⟨g,o,none⟩:=ea3.symm.trans ea;cases hg1;cases hg2;cases hg3;exact⟨g,o,ea,hok,bY w _ c0,c0,by rw[Nat.add_assoc];exact c1,by rw[Nat.add_assoc];exact c2,by rw[Nat.add_assoc];exact c3⟩
def gbB{w':World}(h:Below w.heap.size w w')(r:Option Nat):w.grownBy w' r:=⟨h.os,h.tape,h.output,h.size,λk hk _=>h.block k hk⟩
def MZ(l cs:List UInt8):(Lib.trimS l cs==[])=l.all (cs.contains ·):=by
 have h1:∀l:List UInt8,(l.dropWhile (cs.contains ·)==[])=l.all (cs.contains ·):=by
  intro l;induction l with
  |nil=>rfl
  | cons a t ih=>
    simp only[List.dropWhile_cons,List.all_cons];cases cs.contains a
    ·simp
    ·simpa using ih
 have h2:∀l:List UInt8,((l.reverse.dropWhile (cs.contains ·)).reverse).all (cs.contains ·)=l.all (cs.contains ·):=by
  intro l;have:∀m:List UInt8,(m.dropWhile (cs.contains ·)).all (cs.contains ·)=m.all (cs.contains ·):=by
   intro m;induction m with
   |nil=>rfl
   | cons a t ih=>
     simp only[List.dropWhile_cons,List.all_cons];cases h:cs.contains a
     ·show(a::t).all _=_;rw[List.all_cons,h]
     ·simpa using ih
  rw[List.all_reverse,this,List.all_reverse]
 unfold Lib.trimS Lib.trimLeftS;rw[h1];exact h2 l
def nameSet:List UInt8:=[65,66,67,68,69,70,71,72,73,74,75,76,77,78,79,80,81,82,83,84,85,86,87,88,89,90,48,49,50,51,52,53,54,55,56,57,95]
def Te(b:UInt8):nameSet.contains b=DT b:=by
 have h:∀n:Fin 256,nameSet.contains (UInt8.ofNat n.val)=DT (UInt8.ofNat n.val):=by decide+kernel
 have:=h ⟨b.toNat,b.toNat_lt⟩;simpa using this
def US(l:List UInt8):(Lib.trimS l nameSet==[])=l.all DT:=by
 rw[MZ];congr 1;funext b;exact Te b
def NX(c:UInt8)(t:List UInt8)(h:0<(⟨(c::t).toArray⟩:ByteArray).size):(⟨(c::t).toArray⟩:ByteArray)[0]'h=c:=rfl
def Fa(s:Bs)(w:World)(hs:s.length<=4000000):Calls Tryz.prog 54 #[str s] w (ρ w (.bool (Aw s))):=by
 cases s with
 | nil=>
   go_enter func54,ntmps54;go_wp2;go_ret;exact⟨rfl,Aa _ _⟩
 | cons c t=>
   simp only[List.length_cons]at hs;have hg:=NX c t;by_cases h10:t.length<=9
   ·by_cases hd:48<=c.toNat/\c.toNat<=57
    ·have hm:Aw (c::t)=false:=by simp[Aw,UInt8.le_iff_toNat_le,hd]
     rw[hm];clear hm;obtain⟨hd1,hd2⟩:=hd;go_enter func54,ntmps54;go_wp2;go_ret;exact⟨rfl,Aa _ _⟩
    ·have hm : Aw (c :: t) = (c :: t).all DT := by
      have e1:decide ((c::t).length<=10)=true:=by simp;omega
      have e2:(decide (48<=c)&&decide (c<=57))=false:=by
       rw[Bool.and_eq_false_iff,decide_eq_false_iff_not,decide_eq_false_iff_not,UInt8.le_iff_toNat_le,UInt8.le_iff_toNat_le];have:(48:UInt8).toNat=48:=rfl;have:(57:UInt8).toNat=57:=rfl;omega
      simp only[Aw,e1,e2];rfl
     rw[hm,<-US];clear hm;have hc:c.toNat<48\/57<c.toNat:=by omega
     rcases hc with hc|hc
     all_goals
      clear hd;go_enter func54,ntmps54;go_wp2_with fail;refine(strings_Trim ⟨(c::t).toArray⟩ ⟨nameSet.toArray⟩ _ (by simp[ByteArray.size];omega) (by decide) (ascii_of_all (by decide))).mono ?_;rintro e w1 ⟨rfl,hb⟩;have hgb:=gbB hb none;generalize hz:Lib.trimS (c::t) nameSet=z at*;have HZ:=S hz;clear hz hb;go_wp2;go_ret;refine⟨?_,hgb⟩
      (try rw[HZ.1]);cases z<;>rfl
   ·have hm:Aw (c::t)=false:=by simp[Aw];omega
    rw[hm];clear hm;go_enter func54,ntmps54;go_wp2;go_ret;exact⟨rfl,Aa _ _⟩
def Mg(s:Bs)(w:World)(hs:s.length<=1000000):Calls Tryz.prog 277 #[str s] w (ρ w (.bool (Aw s))):=by
 go_enter func277,ntmps277;go_wp2_with fail;refine mR (Fa s w (by omega)) λw1 hb=>?_;go_wp2;go_ret;exact⟨rfl,hb⟩
def Wf(h:(Ab l i).kind=0):i<l.length:=GZ (by omega)
def Ay(l:List Tok):Prop:=∀i,(Ab l i).text.length<=4000
def B6(h:Par w b tv wv l wl i)(hl:Ay l):
 Calls Tryz.prog 247 #[.pointer (some ⟨b,0,none⟩)] w (Post b tv wv l wl w (λ_ v x=>v=str x) (AD l i)):=by
 have hb:=h.lt;have hf:=h.few;by_cases hk:(Ab l i).kind=0
 ·have hi:=Wf hk;have hs:=hl i;cases hn:Aw (Ab l i).text with
  | true=>
    have HM:=S (show AD l i= .ok (Ab l i).text (i+1)by simp[AD,hk,hn]);have HK:=S hk;have HN:=S hn;clear hk hn;go_enter func247,ntmps247;go_wp2_with fail;refine mR (Bn h) λw1 g1=>?_;rw[AR,HK.1];go_wp2_with fail;refine mR (Mg _ _ (by omega)) λw2 g2=>?_;rw[HN.1];have h2:Par w2 b tv wv l wl i:=h.gbN (by repeat(first| (with_reducible assumption)| (with_reducible refine Ac ?_ _)| (with_reducible refine Ag ?_ (by assumption))));have c1:=h2.c1;have f1:=h2.f1;have ct:w2.cell? ⟨w1.heap.size,2,none⟩=some (str (Ab l i).text):=Ad g2 (by simp);have hlt:=g1.size;go_wp2;go_ret;exact Post.ok (by repeat(first| (with_reducible exact A2 (by assumption))| (with_reducible refine Ac ?_ _)| ((with_reducible refine Af ?_ _ _ ?h2);case h2=>exact .inl rfl)| (with_reducible refine Ag ?_ (by assumption)))) HM.1 rfl (h2.goI _ _ (by omega) (by omega))
  | false=>
    have HM:=S (show AD l i= .bad i by simp[AD,hn]);have HK:=S hk;have HN:=S hn;clear hk hn;go_enter func247,ntmps247;go_wp2_with fail;refine mR (Bn h) λw1 g1=>?_;rw[AR,HK.1];go_wp2_with fail;refine mR (Mg _ _ (by omega)) λw2 g2=>?_;rw[HN.1];have h2:Par w2 b tv wv l wl i:=h.gbN (by repeat(first| (with_reducible assumption)| (with_reducible refine Ac ?_ _)| (with_reducible refine Ag ?_ (by assumption))));go_wp2_with fail;refine(DQ h2.c1).mono ?_;rintro e w3 ⟨rfl,rfl⟩;exact⟨rfl,Post.bad (by repeat(first| (with_reducible exact A2 (by assumption))| (with_reducible refine Ac ?_ _)| (with_reducible refine Ag ?_ (by assumption)))) HM.1⟩
 ·have HM:=S (show AD l i= .bad i by simp[AD,hk]);have hk':((Ab l i).kind==0)=false:=by simpa using hk
  have hk2:((Ab l i).kind !=0)=true:=by simpa using hk
  clear hk;go_enter func247,ntmps247;go_wp2_with fail;refine mR (Bn h) λw1 g1=>?_;have h1:∀o,Par (w1.alloc o) b tv wv l wl i:=λo=>(h.gbN g1).alloc o;go_wp2_with fail;refine(DQ (h1 _).c1).mono ?_;rintro e w3 ⟨rfl,rfl⟩;exact⟨rfl,Post.bad (Ac (A2 (by assumption)) _) HM.1⟩
open Go.Maps Go.WideMaps Go.ChangeMaps Go.MapKept
abbrev szK(n m:Int):Value:= .agg #[.int .i64 n,.int .i64 m]
abbrev mainB:Bs:=[77,65,73,78]
abbrev mainC:List Value:=[str mainB,.bool false,.slice none 0 0,.slice none 0 0]
def Wm(w:World):
 Calls Tryz.prog 85 #[szK 0 0,szK 0 0] w (ρ w (szK 0 0)):=by
 go_enter func85,ntmps85;go_wp2;exact bZ (v:=szK 0 0) (by simp[results,results85,go_sem]) rfl ⟨rfl,(Ac (Ac (Ac (Aa _ _) _) _) _)⟩
def U2(w:World):
 Calls Tryz.prog 58 #[szK 0 0] w (ρ w (.bool false)):=by
 go_enter func58,ntmps58;go_wp2;go_ret;exact⟨rfl,(Ac (Aa _ _) _)⟩
def Ue(w:World):
 Calls Tryz.prog 86 #[.slice none 0 0] w (ρ w (szK 0 0)):=by
 go_enter func86,ntmps86;go_wp2_with fail;go_loopg [5,8] 0 (λg v5 v8 wr=>g=0/\v8= .int .i64 0/\wr=(w.alloc (.cells #[.int .i64 0,.int .i64 0] 96 (0,0))).alloc (.cells #[.int .i64 0,.int .i64 0] 96 (0,0)))
 case atStart=>exact⟨rfl,rfl,rfl⟩
 case round=>
  obtain⟨rfl,rfl,rfl⟩:=hrel;go_wp2;exact bZ (v:=szK 0 0) (by simp[results,results86,go_sem]) rfl ⟨rfl,(Ac (Ac (Aa _ _) _) _)⟩
def Lo:Keyed Tryz.prog 9:=string_keyed underlying9
def Zh(w:World):(zeroValue 4).run Tryz.prog w= .ok (.bool false) w:=by kernel_rfl
def QF{R:Value->Option (DataW Unit×List MemPlace)}(hs:s.length<=maxLen)(h:w.ownsMap Tryz.prog 9 R b 0 (.map [])):
 (Instr.lookup 62 (.map (some b)) (str s) false).run Tryz.prog w= .ok (.bool false) w:=by
 obtain⟨es,clock,hb,F,hn,hD⟩:=h;have he:es=#[]:=Array.eq_empty_of_size_eq_zero (by omega);subst he;rcases Maps.fit_look false Lo underlying62 (Zh w) hb F (keyOf_string_mk (s:=⟨s.toArray⟩) underlying9 hs)with⟨h,_,_⟩| ⟨e0,y,_,_,_,_,hat,_⟩
 ·exact h
 ·have:=hat .nil;have h2:=hat (.lit (.bool true));rw[<-this]at h2;cases h2
def U3{G:Nat}(h:Blk w G mainC 40):
 Calls Tryz.prog 60 #[.slice (some ⟨G,0,none⟩) 1 c] w (ρ w (.bool false)):=by
 have hmm:=@run_makeMap Tryz.prog;have HB:=S h;clear h;go_enter func60,ntmps60;go_wp2_with fail;go_loopg [5,9] 1 (λg v5 v9 wr=>(g=1/\v9= .int .i64 0/\wr=w.alloc (.map #[] 0))\/(g=0/\v9= .int .i64 1/\w.grownBy wr none))
 case atStart=>exact .inl ⟨rfl,rfl,rfl⟩
 case round=>
  rcases hrel with⟨rfl,rfl,rfl⟩| ⟨rfl,rfl,hg⟩
  ·have g0:=gZ w (.map #[] 0) none;have hbk:=HB.1.gb g0 (by simp);have z0:=hbk.cell' 0 rfl;have z1:=hbk.cell' 1 rfl;have z2:=hbk.cell' 2 rfl;have z3:=hbk.cell' 3 rfl;have hgl:=hbk.lt;have HM:=S (World.ownsMap_made (H:=Unit) w Tryz.prog 9 (plainElem Tryz.prog 4));have hlk:=fun(W:World)(h:W.ownsMap Tryz.prog 9 (plainElem (H:=Unit) Tryz.prog 4) w.heap.size 0 (.map []))=>QF (s:=mainB) (by decide) h;have hl1:=hlk _ (HM.1.alloc (.cells #[str mainB,.bool false,.slice none 0 0,.slice none 0 0] 40 (0,0)));clear hbk hlk;have hkey:keyOf Tryz.prog 9 (str mainB)=some _:=keyOf_string_mk (s:=⟨mainB.toArray⟩) underlying9 (by decide);go_wp2_with (at_mapUpdate;refine wpList_mapUpdate_own _ rfl _ _ _ 62 rfl 9 4 Lo underlying62 (plainElem (H:=Unit) Tryz.prog 4) w.heap.size 0 _ rfl (HM.1.alloc _) (by unfold maxLen;omega) _ _ _ rfl rfl hkey _ [] (plainElem_bool underlying4 true) ?_;intro w1 hown1 hgrow1);have gwx:w.grownBy w1 none:=Ap (Ac (gZ w _ none) _) hgrow1 (.inr (nR _));clear hown1 hgrow1;go_roundg 0
   case measure=>omega
   case rel=>exact .inr ⟨rfl,rfl,gwx⟩
  ·have HG:=S hg;clear hg;go_wp2;go_ret;exact⟨rfl,HG.1⟩
def Qb(s:Bs)(w:World)(hs:s.length<=4000000):Calls Tryz.prog 61 #[str s] w (ρ w (.bool (Aw s))):=by
 go_enter func61,ntmps61;go_wp2_with fail;refine mR (Fa s w hs) λw1 hb=>?_;go_wp2;go_ret;exact⟨rfl,hb⟩
def So(w:World):
 Calls Tryz.prog 62 #[.slice none 0 0] w (ρ w (.bool true)):=by
 have hi:Calls Tryz.prog 112 #[.slice none 0 0,.func (.func 87) #[] #[]] w (ρ w (.int .i64 (-1))):=by
  go_enter func112,ntmps112;go_wp2_with fail;go_loopg [5,8] 0 (λg v5 v8 wr=>g=0/\v8= .int .i64 0/\wr=w)
  case atStart=>exact⟨rfl,rfl,rfl⟩
  case round=>
   obtain⟨rfl,rfl,rfl⟩:=hrel;go_wp2;go_ret;exact⟨rfl,(Aa _ _)⟩
 have HI:=S hi;clear hi;have hc:Calls Tryz.prog 80 #[.slice none 0 0,.func (.func 87) #[] #[]] w (ρ w (.bool false)):=by
  go_enter func80,ntmps80;go_wp2_with fail;refine mR HI.1 λw1 g1=>?_;go_wp2;go_ret;exact⟨rfl,g1⟩
 have HC:=S hc;clear hc;go_enter func62,ntmps62;go_wp2_with fail;refine mR HC.1 λw1 g1=>?_;go_wp2;go_ret;exact⟨rfl,g1⟩
def P4(w:World):
 Calls Tryz.prog 121 #[.slice none 0 0,.func (.func 89) #[] #[]] w (ρ w (.int .i64 (-1))):=by
 go_enter func121,ntmps121;go_wp2_with fail;go_loopg [5,8] 0 (λg v5 v8 wr=>g=0/\v8= .int .i64 0/\wr=w)
 case atStart=>exact⟨rfl,rfl,rfl⟩
 case round=>
  obtain⟨rfl,rfl,rfl⟩:=hrel;go_wp2;go_ret;exact⟨rfl,(Aa _ _)⟩
def Sp(w:World):
 Calls Tryz.prog 63 #[.slice none 0 0] w (ρ w (.bool true)):=by
 have hc:Calls Tryz.prog 88 #[.slice none 0 0,.func (.func 89) #[] #[]] w (ρ w (.bool false)):=by
  go_enter func88,ntmps88;go_wp2_with fail;refine mR (P4 w) λw1 g1=>?_;go_wp2;go_ret;exact⟨rfl,g1⟩
 have HC:=S hc;clear hc;go_enter func63,ntmps63;go_wp2_with fail;refine mR HC.1 λw1 g1=>?_;go_wp2;go_ret;exact⟨rfl,g1⟩
def VE.node(h:RepL ok w (.slice la f.len lc) f):VE ok w (exV (hd0 op s) (.slice none 0 0) (.slice la f.len lc)) ⟨hd0 op s,f⟩:=
 ⟨none,0,la,lc,rfl,Cells.nil w 1 ok,h⟩
def Cells.new'{t:TypeId}{size m:Nat}(hm:m=w.heap.size)(h:cs.length=n*size)(hn:n<=maxLen)(hok:ok m):
 Cells (w.alloc (.cells cs.toArray t (0,0))) (.slice (some ⟨m,0,none⟩) n n) size n cs ok:=by
 subst hm;refine⟨_,_,rfl,nR _,hn,h,λj u hj=>⟨w.heap.size,0,rfl,hok,?_⟩⟩;rw[Nat.zero_add];exact(Blk.new w cs t).cell' j hj
def RepL.two{y:Ex}{py ly:Value}(hn:n=w.heap.size)(hok:ok n)(px':Cells w px 1 x.h.p.length (x.h.p.map str) ok)(lx':RepL ok w lx x.kids)(py':Cells w py 1 y.h.p.length (y.h.p.map str) ok)(ly':RepL ok w ly y.kids):
 RepL ok (w.alloc (.cells (hdC x.h px lx++hdC y.h py ly).toArray 163 (0,0))) (.slice (some ⟨n,0,none⟩) 2 2) (.two x y):=by
 have g:=gZ w (.cells (hdC x.h px lx++hdC y.h py ly).toArray 163 (0,0)) none;exact⟨_,Cells.new' (size:=7) hn rfl (by decide) hok,((VE.rep px' lx').app (VE.rep py' ly')).gb g (by simp)⟩
def RepL.one(hn:n=w.heap.size)(hok:ok n)(px':Cells w px 1 x.h.p.length (x.h.p.map str) ok)(lx':RepL ok w lx x.kids):
 RepL ok (w.alloc (.cells (hdC x.h px lx).toArray 163 (0,0))) (.slice (some ⟨n,0,none⟩) 1 1) (.one x):=by
 have g:=gZ w (.cells (hdC x.h px lx).toArray 163 (0,0)) none;exact⟨_,Cells.new' (size:=7) hn rfl (by decide) hok,(VE.rep px' lx').gb g (by simp)⟩
def J2(s:Bs)(x y:Ex){xv yv:Value}(w:World)(ok:Nat->Prop)(hok:∀k,w.heap.size<=k->ok k)(hx:VE ok w xv x)(hy:VE ok w yv y):
 Calls Tryz.prog 268 #[str s,xv,yv] w λe w'=>∃v,e= .returned v/\VE ok w' v (Bq s x y)/\w.grownBy w' none:=by
 obtain⟨pxa,pxc,lxa,lxc,rfl,hx,hx'⟩:=hx;obtain⟨pya,pyc,lya,lyc,rfl,hy,hy'⟩:=hy;have H:=S (X hok (X hx (X hx' (X hy hy'))));clear hok hx hx' hy hy';go_enter func268,ntmps268;go_wp2;obtain⟨hok,hx,hx',hy,hy'⟩:=H.1;refine bZ (v:=exV (hd0 5 s) (.slice none 0 0) (.slice (some ⟨w.heap.size+1+1+1,0,none⟩) 2 2)) ?_ rfl ⟨_,rfl,VE.node (f:= .two x y) ?_,?_⟩
 ·simp[results,results268,go_sem,hd0]
 ·have g:∀a b c,w.grownBy (((w.alloc a).alloc b).alloc c) none:=λa b c=>(Ac (Ac (Ac (Aa _ _) _) _) _);exact RepL.two (by simp) (hok _ (by omega)) (hx.gb (g _ _ _) (by simp)) (hx'.gb (g _ _ _) (by simp)) (hy.gb (g _ _ _) (by simp)) (hy'.gb (g _ _ _) (by simp))
 ·exact(Ac (Ac (Ac (Ac (Aa _ _) _) _) _) _)
abbrev PE(b:Nat)(tv wv:Value)(l:List Tok)(wl:List Bs)(w:World)(r:Res Ex):Ending->World->Prop:=Post b tv wv l wl w (VE (Al w.heap.size)) r
abbrev zeroE:List Value:=[.int .i64 0,str [],.int .i64 0,.int .i64 0,str [],.slice none 0 0,.slice none 0 0]
def JoinR(l:List Tok)(wl:List Bs)(k:Nat)(opnd:Nat->Res Ex)(b:Nat)(tv wv:Value)(w:World)(L:Nat)(r:Res Ex)(m:Nat)(s:Value)(wr:World):Prop:=
 ∃x pa pc la lc j,s=str (AM l k j)/\Par wr b tv wv l wl (Hz (AM l k j) j)/\Blk wr L (hdC x.h (.slice pa x.h.p.length pc) (.slice la x.kids.len lc)) 163/\
  VE (λg=>w.heap.size<g/\g≠L) wr (exV x.h (.slice pa x.h.p.length pc) (.slice la x.kids.len lc)) x/\Dg l k opnd m x j=r/\w.grownBy wr (some b)/\b<L/\w.heap.size<L/\Blk wr w.heap.size zeroE 163
def Is(h:Par w b tv wv l wl i)(k:Nat)(hk:k<6)(n g:Nat)(first captured:Array Value)(opnd:Nat->Res Ex)(hcf:∀w,(callFunc g (first++captured)).run Tryz.prog w= .ok (.enter g (first++captured)) w)
 (hop:∀w1 j,w.grownBy w1 (some b)->Par w1 b tv wv l wl j->opnd j ≠ .out->Calls Tryz.prog g (first++captured) w1 (PE b tv wv l wl w1 (opnd j)))
 (hn:Bj l k n opnd i ≠ .out):
 Calls Tryz.prog 237 #[.pointer (some ⟨b,0,none⟩),.int .i64 k,.func (.func g) first captured] w (PE b tv wv l wl w (Bj l k n opnd i)):=by
 have HOP:=S hop;have HN:=S hn;clear hop hn;go_enter func237,ntmps237;go_wp2_with fail;have g0:w.grownBy (w.alloc (Obj.cells #[Value.int IntKind.i64 0,Value.string {data:=#[]},Value.int IntKind.i64 0,Value.int IntKind.i64 0,Value.string {data:=#[]},Value.slice none 0 0,Value.slice none 0 0] 163)) (some b):=(Ac (Aa _ _) _);have h0:=h.alloc (Obj.cells #[Value.int IntKind.i64 0,Value.string {data:=#[]},Value.int IntKind.i64 0,Value.int IntKind.i64 0,Value.string {data:=#[]},Value.slice none 0 0,Value.slice none 0 0] 163);refine(HOP.1 _ _ g0 h0 ?_).mono ?_
 ·intro e;exact HN.1 (by simp[Bj,e,Res.bind])
 have HCF:=S hcf;clear hcf;rintro e w1 ⟨g1,h1⟩;cases ho:opnd i with
 |out=>rw[ho]at h1;exact h1.elim
 | bad q=>
   rw[ho]at h1;subst h1;exact⟨rfl,Post.bad (Z g0 g1) (by simp[Bj,ho,Res.bind])⟩
 | ok x j=>
   rw[ho]at h1;obtain⟨v,rfl,⟨pa,pc,la,lc,rfl,rp,rl⟩,h1⟩:=h1;have hR:Bj l k n opnd i=Dg l k opnd n x j:=by simp[Bj,ho,Res.bind]
   rw[hR]at HN;have HJ:=S hR;clear hR ho;have HV:=S (X rp rl);clear rp rl;have gA:w.grownBy (w1.alloc (.cells (hdC x.h (.slice pa x.h.p.length pc) (.slice la x.kids.len lc)).toArray 163 (0,0))) (some b):=Ac (Z g0 g1) _;have hA:Par (w1.alloc (.cells (hdC x.h (.slice pa x.h.p.length pc) (.slice la x.kids.len lc)).toArray 163 (0,0))) b tv wv l wl j:=h1.alloc _;have hB:Blk (w1.alloc (.cells (hdC x.h (.slice pa x.h.p.length pc) (.slice la x.kids.len lc)).toArray 163 (0,0))) w1.heap.size (hdC x.h (.slice pa x.h.p.length pc) (.slice la x.kids.len lc)) 163:=Blk.new w1 _ _;go_wp2_with fail;refine(Iq hA k hk).mono ?_;rintro e w2 ⟨rfl,g2,h2⟩;have hb1:b<w1.heap.size:=h1.lt;go_wp2_with fail;go_loopg [8] n (λm s wr=>JoinR l wl k opnd b tv wv w w1.heap.size (Dg l k opnd n x j) m s wr)
   case atStart=>
    obtain⟨rp,rl⟩:=HV.1;have g3:w1.grownBy w2 (some b):=Z (Ac (Aa _ _) _) g2;refine⟨x,pa,pc,la,lc,j,rfl,h2,hB.gb g2 (by simp;omega),?_,rfl,Z gA g2,hb1,?_,?_⟩
    ·refine VE.gb (VE.mono (ok:=Al _) ⟨_,_,_,_,rfl,rp,rl⟩ ?_) g3 ?_
     ·intro q hq1 hq2;have:=g0.size;simp at hq1;exact⟨by omega,by omega⟩
     ·intro q hq1 hq2 e;have:=h.lt;simp at e;omega
    ·have:=g1.size;simp at this;omega
    ·exact Blk.gb (Blk.gb (Blk.new w zeroE _) g1 (by have:=h.lt;simp;omega)) g3 (by have:=h.lt;simp;omega)
   case round=>
    obtain⟨y,ya,yc,ma,mc,j2,rfl,h3,hL,hV,hR,gr,hbL,hwL,hZ⟩:=hrel;rw[<-HJ.1]at hR HN;cases gk with
    |zero=>exact absurd hR.symm HN.1
    |succ m=>
    have hb0:=h.lt;by_cases he:AM l k j2=[]
    ·rw[he,IC]at h3;have HR:=S (show Bj l k n opnd i= .ok y j2 by rw[<-hR];simp[Dg,he]);have HV2:=S hV;rw[he];clear hR hV HV he hA hB gA h1;have cl_:=hL.c7;have cz_:=hZ.c7;go_wp2;have g7:=A0 wr w.heap.size (.int .i64 y.h.op) (str y.h.s) (.int .i64 y.h.vk) (.int .i64 y.h.vn) (str y.h.vs) (.slice ya y.h.p.length yc) (.slice ma y.kids.len mc);refine bZ (AK rfl _ (hZ.set7 _ _ _ _ _ _ _) rfl) rfl ?_;refine Post.ok (Ap gr g7 (.inr (nR _))) HR.1 (VE.mono (HV2.1.gb g7 ?_) ?_) (h3.gb g7 (by intro q e;cases e;omega))
     ·intro q hq _ e;simp at e;omega
     ·intro q hq _;simp;omega
    ·rw[IM he]at h3;have hR':(opnd (j2+1)).bind (λz q=>Dg l k opnd m (Bq (AM l k j2) y z) q)=Bj l k n opnd i:=by
      rw[<-hR];simp[Dg,he]
     have HR:=S hR';have HV2:=S hV;have hs0:(AM l k j2==[])=false:=by simpa using he
     have hs1:(AM l k j2).isEmpty=false:=by simpa using he
     have HE:=S he;clear hR hR' hV HV hA hB gA h1 he;generalize hO:AM l k j2=o at*;have HO:=S hO;clear hO;have cl_:=hL.c7;have hLb:=hL.lt;have hcf:=HCF.1;cases ho2:opnd (j2+1)with
     |out=>exact absurd (by rw[<-HR.1,ho2];rfl) HN.1
     | bad q=>
       go_wp2_with fail;go_region_with(refine(HOP.1 _ _ (Ae gr) (h3.gbN (Ae (Aa _ _))) (by rw[ho2];simp)).mono ?_;rintro e w4 ⟨g4,h4⟩;rw[ho2]at h4;subst h4;refine Bx (P:=Tryz.prog) ⟨rfl,Post.bad (Z (Ae gr) g4) (by rw[<-HR.1,ho2];rfl)⟩ ⟨#[],[]⟩ w4 ?_);all_goals trivial
     | ok z q=>
       have hwr:=gr.size;go_wp2_with fail;go_region_with(first| ((with_reducible refine(HOP.1 _ _ (Ae gr) (h3.gbN (Ae (Aa _ _))) (by rw[ho2];simp)).mono ?_);rintro e w4 ⟨g4,h4⟩;rw[ho2]at h4;obtain⟨v,rfl,hv,h4⟩:=h4;have hg4:=Z (Ae (Aa wr (some b))) g4;have hL4:=hL.gb hg4 (by simp;omega);have dl_:=hL4.c7;have hok:∀q,w4.heap.size<=q->w.heap.size<q/\q≠w1.heap.size:=(λq hq=>by have:=hL4.lt;exact⟨by omega,by omega⟩);have hy:VE (λg=>w.heap.size<g/\g≠w1.heap.size) w4 _ y:=HV2.1.gb hg4 (λq hq _ e=>by cases e;omega);have hz:VE (λg=>w.heap.size<g/\g≠w1.heap.size) w4 v z:=hv.mono (λq hq _=>⟨by have:wr.heap.size<=q:=hq;omega,by have:wr.heap.size<=q:=hq;omega⟩))| (go_at_call 268;refine(J2 o y z _ _ hok hy hz).mono ?_;rintro e w5 ⟨u,rfl,hu,g5⟩;obtain⟨ua,uc,va,vc,rfl,ru,rv⟩:=hu;have hL5:=hL4.gb g5 (by simp);have el_:=hL5.c7));all_goals
        have g7:=A0 w5 w1.heap.size (.int .i64 (Bq o y z).h.op) (str (Bq o y z).h.s) (.int .i64 (Bq o y z).h.vk) (.int .i64 (Bq o y z).h.vn) (str (Bq o y z).h.vs) (.slice ua (Bq o y z).h.p.length uc) (.slice va (Bq o y z).kids.len vc);have hL7:=hL5.set7 (.int .i64 (Bq o y z).h.op) (str (Bq o y z).h.s) (.int .i64 (Bq o y z).h.vk) (.int .i64 (Bq o y z).h.vn) (str (Bq o y z).h.vs) (.slice ua (Bq o y z).h.p.length uc) (.slice va (Bq o y z).kids.len vc);have h7:=(h4.gbN g5).gb g7 (by intro q e;cases e;omega);have hV7:VE (λg=>w.heap.size<g/\g≠w1.heap.size) _ _ (Bq o y z):=VE.gb ⟨_,_,_,_,rfl,ru,rv⟩ g7 (by intro q hq _ e;cases e;exact hq.2 rfl);have gW:=Ap (Ag (Z (Ae gr) g4) g5) g7 (.inr (by have:=g0.size;have:=g1.size;simp at*;omega));have hZ7:=Blk.gb (Blk.gb (hZ.gb hg4 (by simp;omega)) g5 (by simp)) g7 (by simp;omega);go_wp2_with fail;refine(Iq h7 k hk).mono ?_;rintro e w6 ⟨rfl,g6,h6⟩;go_wp2_with fail;go_roundg m
        case measure=>omega
        case rel=>
         exact⟨Bq o y z,ua,uc,va,vc,q,rfl,h6,hL7.gb g6 (by simp;omega),hV7.gb g6 (by intro q hq _ e;cases e;omega),by rw[<-HJ.1,<-HR.1,ho2];rfl,Z gW g6,hbL,hwL,hZ7.gb g6 (by simp;omega)⟩
def CE(f:FuncId)(b:Nat)(tv wv:Value)(l:List Tok)(wl:List Bs)(M:Nat->Res Ex):Prop:=
 ∀w i,Par w b tv wv l wl i->M i ≠ .out->Calls Tryz.prog f #[.pointer (some ⟨b,0,none⟩)] w (PE b tv wv l wl w (M i))
def Zj(w:World):(callFunc 239 (#[.pointer (some ⟨b,0,none⟩)]++#[])).run Tryz.prog w= .ok (.enter 239 (#[.pointer (some ⟨b,0,none⟩)]++#[])) w:=by kernel_rfl
def Zk(w:World):(callFunc 298 (#[.pointer (some ⟨b,0,none⟩)]++#[])).run Tryz.prog w= .ok (.enter 298 (#[.pointer (some ⟨b,0,none⟩)]++#[])) w:=by kernel_rfl
def Ww(k:Nat)(w:World):(callFunc 238 (#[]++#[.pointer (some ⟨k,0,none⟩)])).run Tryz.prog w= .ok (.enter 238 (#[]++#[.pointer (some ⟨k,0,none⟩)])) w:=by kernel_rfl
def XL(k:Nat)(w:World):(callFunc 297 (#[]++#[.pointer (some ⟨k,0,none⟩)])).run Tryz.prog w= .ok (.enter 297 (#[]++#[.pointer (some ⟨k,0,none⟩)])) w:=by kernel_rfl
def IT{w0:World}(hb:b<w.heap.size)(g0:w.grownBy w0 (some b))(hr:r= .ok x i)(g1:w0.grownBy w1 (some b))(hv:VE (Al w0.heap.size) w1 v x)(hp:Par w1 b tv wv l wl i)
  (hk:w.heap.size<=k) (hk2:k<w0.heap.size)  (g2:w1.grownBy w2 (some k)):PE b tv wv l wl w r (.returned v) w2:=
 Post.ok (Ap (Z g0 g1) g2 (.inr hk)) hr ((hv.gb g2 (by intro q hq _ e;have:w0.heap.size<=q:=hq;cases e;omega)).mono (by intro q hq _;have:w0.heap.size<=q:=hq;have:=g0.size;show w.heap.size<=q;omega)) (hp.gb g2 (by intro q' e;cases e;omega))
def T7{notf:Nat->Res Ex}(hnot:CE 239 b tv wv l wl notf)(n:Nat)(h:Par w b tv wv l wl i)(hk:w.cell? ⟨k,0,none⟩=some (.pointer (some ⟨b,0,none⟩)))(ho:Bj l 1 n notf i ≠ .out):
 Calls Tryz.prog 238 #[.pointer (some ⟨k,0,none⟩)] w (PE b tv wv l wl w (Bj l 1 n notf i)):=by
 have hkl:=bY w _ hk;have hb:=h.lt;simp only at hkl;have g0:w.grownBy (w.alloc (.cells zeroE.toArray 163 (0,0))) (some b):=Ac (Aa _ _) _;have hB:=Blk.new w zeroE 163;have H:=S (X hnot ho);clear hnot ho;go_enter func238,ntmps238;go_wp2_with fail;refine(Is (h.alloc _) 1 (by decide) n 239 #[.pointer (some ⟨b,0,none⟩)] #[] notf Zj (λw1 j _ hp hn=>H.1.1 w1 j hp hn) H.1.2).mono ?_;rintro e w1 ⟨g1,h1⟩;generalize hr:Bj l 1 n notf i=r at*;cases r with
 |out=>exact h1.elim
 | bad q=>
   subst h1;exact⟨rfl,Post.bad (Z g0 g1) rfl⟩
 | ok x j=>
   obtain⟨v,rfl,hv,h1⟩:=h1;have HV:=S hv;obtain⟨pa,pc,la,lc,rfl,-,-⟩:=hv;have hZ:=(hB).gb g1 (by simp;omega);have cz_:=hZ.c7;have HR:=S hr;clear hr;go_wp2;have g7:=A0 w1 w.heap.size (.int .i64 x.h.op) (str x.h.s) (.int .i64 x.h.vk) (.int .i64 x.h.vn) (str x.h.vs) (.slice pa x.h.p.length pc) (.slice la x.kids.len lc);exact bZ (AK rfl _ (hZ.set7 _ _ _ _ _ _ _) rfl) rfl (IT h.lt g0 rfl g1 HV.1 h1 (by simp) (by simp) g7)
def WS{powf:Nat->Res Ex}(hpow:CE 298 b tv wv l wl powf)(n:Nat)(h:Par w b tv wv l wl i)(hk:w.cell? ⟨k,0,none⟩=some (.pointer (some ⟨b,0,none⟩)))(ho:Bj l 4 n powf i ≠ .out):
 Calls Tryz.prog 297 #[.pointer (some ⟨k,0,none⟩)] w (PE b tv wv l wl w (Bj l 4 n powf i)):=by
 have hkl:=bY w _ hk;have hb:=h.lt;simp only at hkl;have g0:w.grownBy (w.alloc (.cells zeroE.toArray 163 (0,0))) (some b):=Ac (Aa _ _) _;have hB:=Blk.new w zeroE 163;have H:=S (X hpow ho);clear hpow ho;go_enter func297,ntmps297;go_wp2_with fail;refine(Is (h.alloc _) 4 (by decide) n 298 #[.pointer (some ⟨b,0,none⟩)] #[] powf Zk (λw1 j _ hp hn=>H.1.1 w1 j hp hn) H.1.2).mono ?_;rintro e w1 ⟨g1,h1⟩;generalize hr:Bj l 4 n powf i=r at*;cases r with
 |out=>exact h1.elim
 | bad q=>
   subst h1;exact⟨rfl,Post.bad (Z g0 g1) rfl⟩
 | ok x j=>
   obtain⟨v,rfl,hv,h1⟩:=h1;have HV:=S hv;obtain⟨pa,pc,la,lc,rfl,-,-⟩:=hv;have hZ:=(hB).gb g1 (by simp;omega);have cz_:=hZ.c7;have HR:=S hr;clear hr;go_wp2;have g7:=A0 w1 w.heap.size (.int .i64 x.h.op) (str x.h.s) (.int .i64 x.h.vk) (.int .i64 x.h.vn) (str x.h.vs) (.slice pa x.h.p.length pc) (.slice la x.kids.len lc);exact bZ (AK rfl _ (hZ.set7 _ _ _ _ _ _ _) rfl) rfl (IT h.lt g0 rfl g1 HV.1 h1 (by simp) (by simp) g7)
def zGaa:(∀{b:Nat}{tv wv:Value}{l:List Tok}{wl:List Bs}{notf:Nat->Res Ex}(hnot:CE 239 b tv wv l wl notf)(n:Nat),CE 208 b tv wv l wl (Bj l 0 n (Bj l 1 n notf)))/\(∀{b:Nat}{tv wv:Value}{l:List Tok}{wl:List Bs}{powf:Nat->Res Ex}(hpow:CE 298 b tv wv l wl powf)(n:Nat),CE 270 b tv wv l wl (Bj l 3 n (Bj l 4 n powf))):=by
 refine⟨?a,?b⟩
 case' a=>
  intro b tv wv l wl notf hnot n;intro w i h ho;have hb:=h.lt;have g0:w.grownBy ((w.alloc (.cells #[.pointer (some ⟨b,0,none⟩)] 255 (0,0))).alloc (.cells zeroE.toArray 163 (0,0))) (some b):=Ac (Ac (Aa _ _) _) _;have hB:=Blk.new (w.alloc (.cells #[.pointer (some ⟨b,0,none⟩)] 255 (0,0))) zeroE 163;have hk:((w.alloc (.cells #[.pointer (some ⟨b,0,none⟩)] 255 (0,0))).alloc (.cells zeroE.toArray 163 (0,0))).cell? ⟨w.heap.size,0,none⟩=some (.pointer (some ⟨b,0,none⟩)):=by simp
  rw[World.size_alloc]at hB;have H:=S (X hnot (X ho hk));clear hnot ho hk;go_enter func208,ntmps208;go_wp2_with fail;refine(Is ((h.alloc _).alloc _) 0 (by decide) n 238 #[] #[.pointer (some ⟨w.heap.size,0,none⟩)] (Bj l 1 n notf) (Ww _) (λw1 j g hp hn=>T7 H.1.1 n hp (B3 g H.1.2.2 (by simp;omega)) hn) H.1.2.1).mono ?_;rintro e w1 ⟨g1,h1⟩;generalize hr:Bj l 0 n (Bj l 1 n notf) i=r at*
 case' b=>
  intro b tv wv l wl powf hpow n;intro w i h ho;have hb:=h.lt;have g0:w.grownBy ((w.alloc (.cells #[.pointer (some ⟨b,0,none⟩)] 255 (0,0))).alloc (.cells zeroE.toArray 163 (0,0))) (some b):=Ac (Ac (Aa _ _) _) _;have hB:=Blk.new (w.alloc (.cells #[.pointer (some ⟨b,0,none⟩)] 255 (0,0))) zeroE 163;have hk:((w.alloc (.cells #[.pointer (some ⟨b,0,none⟩)] 255 (0,0))).alloc (.cells zeroE.toArray 163 (0,0))).cell? ⟨w.heap.size,0,none⟩=some (.pointer (some ⟨b,0,none⟩)):=by simp
  rw[World.size_alloc]at hB;have H:=S (X hpow (X ho hk));clear hpow ho hk;go_enter func270,ntmps270;go_wp2_with fail;refine(Is ((h.alloc _).alloc _) 3 (by decide) n 297 #[] #[.pointer (some ⟨w.heap.size,0,none⟩)] (Bj l 4 n powf) (XL _) (λw1 j g hp hn=>WS H.1.1 n hp (B3 g H.1.2.2 (by simp;omega)) hn) H.1.2.1).mono ?_;rintro e w1 ⟨g1,h1⟩;generalize hr:Bj l 3 n (Bj l 4 n powf) i=r at*
 all_goals
  cases r with
  |out=>exact h1.elim
  | bad q=>
    subst h1;exact⟨rfl,Post.bad (Z g0 g1) rfl⟩
  | ok x j=>
    obtain⟨v,rfl,hv,h1⟩:=h1;have HV:=S hv;obtain⟨pa,pc,la,lc,rfl,-,-⟩:=hv;have hZ:=(hB).gb g1 (by simp;omega);have cz_:=hZ.c7;have HR:=S hr;clear hr;go_wp2;have g7:=A0 w1 (w.heap.size+1) (.int .i64 x.h.op) (str x.h.s) (.int .i64 x.h.vk) (.int .i64 x.h.vn) (str x.h.vs) (.slice pa x.h.p.length pc) (.slice la x.kids.len lc);exact bZ (AK rfl _ (hZ.set7 _ _ _ _ _ _ _) rfl) rfl (IT h.lt g0 rfl g1 HV.1 h1 (by simp) (by simp) g7)
def Bw(h0:b<w.heap.size)(hr:r= .ok x i)(g:w.grownBy w1 (some b))(hv:VE ok w1 v x)(hok:∀k,ok k->w.heap.size<k)(hp:Par w1 b tv wv l wl i)
 (g2:w1.grownBy w2 (some w.heap.size)):PE b tv wv l wl w r (.returned v) w2:=
 Post.ok (Ap g g2 (.inr (nR _))) hr ((hv.gb g2 (by intro q hq _ e;have:=hok q hq;cases e;omega)).mono (by intro q hq _;have:=hok q hq;show w.heap.size<=q;omega)) (hp.gb g2 (by intro q e;cases e;omega))
def Hw{W:World}(h0:b<w.heap.size)(hr:r= .ok ⟨hd0 op s,.one x⟩ i)(g:w.grownBy w1 (some b))
 (rp:Cells w1 (.slice pa x.h.p.length pc) 1 x.h.p.length (x.h.p.map str) ok) (rl:RepL ok w1 (.slice la x.kids.len lc) x.kids) (hok:∀k,ok k->w.heap.size<k) (hp:Par w1 b tv wv l wl i) (g7:w1.grownBy W (some w.heap.size)) (hsz:W.heap.size=w1.heap.size):
 PE b tv wv l wl w r (.returned (exV (hd0 op s) (.slice none 0 0) (.slice (some ⟨w1.heap.size,0,none⟩) 1 1))) (W.alloc (Obj.cells #[Value.int IntKind.i64 x.h.op,str x.h.s,Value.int IntKind.i64 x.h.vk,Value.int IntKind.i64 x.h.vn,str x.h.vs,Value.slice pa x.h.p.length pc,Value.slice la x.kids.len lc] 163)):=by
 have hlt:=g.size;have rp':=rp.gb g7 (by intro q hq _ e;have:=hok q hq;cases e;omega);have rl':=rl.gb g7 (by intro q hq _ e;have:=hok q hq;cases e;omega);have hV:VE (Al w.heap.size) (W.alloc (Obj.cells #[Value.int IntKind.i64 x.h.op,str x.h.s,Value.int IntKind.i64 x.h.vk,Value.int IntKind.i64 x.h.vn,str x.h.vs,Value.slice pa x.h.p.length pc,Value.slice la x.kids.len lc] 163)) (exV (hd0 op s) (.slice none 0 0) (.slice (some ⟨w1.heap.size,0,none⟩) 1 1)) ⟨hd0 op s,.one x⟩:=
  VE.node (f:= .one x) (RepL.one (ok:=Al w.heap.size) (n:=w1.heap.size) hsz.symm (by show w.heap.size<=_;omega) (rp'.mono (by intro q hq _;have:=hok q hq;show w.heap.size<=q;omega)) (rl'.mono (by intro q hq _;have:=hok q hq;show w.heap.size<=q;omega)))
 exact Post.ok (Ac (Ap g g7 (.inr (nR _))) _) hr hV ((hp.gb g7 (by intro q e;cases e;omega)).alloc _)
def YT{unf:Nat->Res Ex}(hun:CE 320 b tv wv l wl unf):∀m,CE 298 b tv wv l wl (D2 l unf m):=by
 intro m;induction m with
 |zero=>intro w i h ho;exact absurd rfl ho
 |succ m ih=>
 intro w i h ho;have hb:=h.lt;have g0:w.grownBy (w.alloc (.cells zeroE.toArray 163 (0,0))) (some b):=Ac (Aa _ _) _;have hB:=Blk.new w zeroE 163;have h0:=h.alloc (.cells zeroE.toArray 163 (0,0));have H:=S (X hun (X ih ho));clear hun ih ho;generalize hR:D2 l unf (m+1) i=R at*;have hR':(unf i).bind (λx j=>if(AM l 5 j).isEmpty then .ok x j else(D2 l unf m (j+1)).bind λy k=> .ok (Bq (AM l 5 j) x y) k)=R:=by rw[<-hR];rfl
 have HR:=S hR';clear hR hR';go_enter func298,ntmps298;go_wp2_with fail;have hw0:w.heap.size<(w.alloc (.cells zeroE.toArray 163 (0,0))).heap.size:=by simp
 refine(H.1.1 _ _ h0 (λe=>H.1.2.2 (by rw[<-HR.1,e];rfl))).mono ?_;rintro e w1 ⟨g1,h1⟩;cases ho:unf i with
 |out=>rw[ho]at h1;exact h1.elim
 | bad q=>
   rw[ho]at h1;subst h1;exact⟨rfl,Post.bad (Z g0 g1) (by rw[<-HR.1,ho];rfl)⟩
 | ok x j=>
   rw[ho]at h1;obtain⟨v,rfl,⟨pa,pc,la,lc,rfl,rp,rl⟩,h1⟩:=h1;have hb1:=h1.lt;have hs1:=g1.size;have HV:=S (VE.mono (ok':=λg=>w.heap.size<g/\g≠w1.heap.size) (⟨_,_,_,_,rfl,rp,rl⟩:VE (Al _) w1 _ x) (by intro q hq hq2;have:(w.alloc (.cells zeroE.toArray 163 (0,0))).heap.size<=q:=hq;exact⟨by omega,by omega⟩));clear rp rl;have hZ:=hB.gb g1 (by simp;omega);have gA:=Ac (Z g0 g1) (.cells (hdC x.h (.slice pa x.h.p.length pc) (.slice la x.kids.len lc)).toArray 163 (0,0));have hA:=h1.alloc (.cells (hdC x.h (.slice pa x.h.p.length pc) (.slice la x.kids.len lc)).toArray 163 (0,0));have hL:=Blk.new w1 (hdC x.h (.slice pa x.h.p.length pc) (.slice la x.kids.len lc)) 163;go_wp2_with fail;refine(Iq hA 5 (by decide)).mono ?_;rintro e wr ⟨rfl,g2,h2⟩;have g12:w1.grownBy wr (some b):=Z (Ac (Aa _ _) _) g2;have gr:=Z gA g2;have hL2:=hL.gb g2 (by simp;omega);have hZ2:=(hZ.gb g12 (by simp;omega));have HV2:=S (HV.1.gb g12 (by intro q hq _ e;cases e;omega));have hwr:=gr.size;have hLb:=hL2.lt;clear gA hA hL g2 hB hZ g0 h0 HV;obtain⟨cl_0,cl_1,cl_2,cl_3,cl_4,cl_5,cl_6,cl_f⟩:=(hL2).c7;by_cases he:AM l 5 j=[]
   ·rw[he,IC]at h2;have HQ:=S (show R= .ok x j by rw[<-HR.1,ho];simp[Res.bind,he]);rw[he];clear he;have cz_:=hZ2.c7;go_wp2;have g7:=A0 wr w.heap.size (.int .i64 x.h.op) (str x.h.s) (.int .i64 x.h.vk) (.int .i64 x.h.vn) (str x.h.vs) (.slice pa x.h.p.length pc) (.slice la x.kids.len lc);exact bZ (AK rfl _ (hZ2.set7 _ _ _ _ _ _ _) rfl) rfl (Bw hb HQ.1 gr HV2.1 (by intro k hk;exact hk.1) h2 g7)
   ·rw[IM he]at h2;have hs0:(AM l 5 j==[])=false:=by simpa using he
    have hs2:(AM l 5 j).isEmpty=false:=by simpa using he
    have HQ:=S (show(D2 l unf m (j+1)).bind (λy k=> .ok (Bq (AM l 5 j) x y) k)=R by rw[<-HR.1,ho];simp[Res.bind,he]);clear he;generalize hO:AM l 5 j=o at*;clear hO;cases ho2:D2 l unf m (j+1)with
    |out=>exact absurd (show R= .out by rw[<-HQ.1,ho2];rfl) H.1.2.2
    | bad q=>
      go_wp2_with fail;go_region_with(go_at_call 298;refine(H.1.2.1 _ _ (h2.gbN (Ae (Aa _ _))) (by rw[ho2];simp)).mono ?_;rintro e w4 ⟨g4,h4⟩;rw[ho2]at h4;subst h4;refine Bx (P:=Tryz.prog) ⟨rfl,Post.bad (Z (Ae gr) g4) (by rw[<-HQ.1,ho2];rfl)⟩ ⟨#[],[]⟩ w4 ?_);all_goals trivial
    | ok z q=>
      go_wp2_with fail;go_region_with(first| (go_at_call 298;refine(H.1.2.1 _ _ (h2.gbN (Ae (Aa _ _))) (by rw[ho2];simp)).mono ?_;rintro e w4 ⟨g4,h4⟩;rw[ho2]at h4;obtain⟨v,rfl,hv,h4⟩:=h4;have hg4:=Z (Ae (Aa wr (some b))) g4;have hL4:=hL2.gb hg4 (by simp;omega);obtain⟨dl_0,dl_1,dl_2,dl_3,dl_4,dl_5,dl_6,dl_f⟩:=(hL4).c7;have hok:∀q,w4.heap.size<=q->w.heap.size<q/\q≠w1.heap.size:=(λq hq=>by have:=hL4.lt;exact⟨by omega,by omega⟩);have hy:VE (λg=>w.heap.size<g/\g≠w1.heap.size) w4 _ x:=HV2.1.gb hg4 (λq hq _ e=>by cases e;omega);have hz:VE (λg=>w.heap.size<g/\g≠w1.heap.size) w4 v z:=hv.mono (λq hq _=>⟨by have:wr.heap.size<=q:=hq;omega,by have:wr.heap.size<=q:=hq;omega⟩))| (go_at_call 268;refine(J2 o x z _ _ hok hy hz).mono ?_;rintro e w5 ⟨u,rfl,hu,g5⟩;obtain⟨ua,uc,va,vc,rfl,ru,rv⟩:=hu;have hL5:=hL4.gb g5 (by simp);obtain⟨el_0,el_1,el_2,el_3,el_4,el_5,el_6,el_f⟩:=(hL5).c7));all_goals
       generalize hbe:Bq o x z=bz at*;have HBE:=S hbe;have g7:=A0 w5 w1.heap.size (.int .i64 bz.h.op) (str bz.h.s) (.int .i64 bz.h.vk) (.int .i64 bz.h.vn) (str bz.h.vs) (.slice ua bz.h.p.length uc) (.slice va bz.kids.len vc);have hL7:=hL5.set7 (.int .i64 bz.h.op) (str bz.h.s) (.int .i64 bz.h.vk) (.int .i64 bz.h.vn) (str bz.h.vs) (.slice ua bz.h.p.length uc) (.slice va bz.kids.len vc);have h7:=(h4.gbN g5).gb g7 (by intro q e;cases e;omega);have hV7:VE (λg=>w.heap.size<g/\g≠w1.heap.size) _ _ bz:=VE.gb ⟨_,_,_,_,rfl,ru,rv⟩ g7 (by intro q hq _ e;cases e;exact hq.2 rfl);have gW:=Ap (Ag (Z (Ae gr) g4) g5) g7 (.inr (by omega));have hZ7:=Blk.gb (Blk.gb (hZ2.gb hg4 (by simp;omega)) g5 (by simp)) g7 (by simp;omega);have hQ:R= .ok bz q:=by rw[<-HQ.1,ho2,<-hbe];rfl
       simp only[set7]at hL7 h7 hV7 gW hZ7;clear g7 ru rv hy hz hok hbe cl_0 cl_1 cl_2 cl_3 cl_4 cl_5 cl_6 cl_f dl_0 dl_1 dl_2 dl_3 dl_4 dl_5 dl_6 dl_f el_0 el_1 el_2 el_3 el_4 el_5 el_6 el_f hL4 hL5 hL2 hZ2 hs0 hs2;generalize(((((((w5.setCell {block:=w1.heap.size,off:=0} (.int .i64 bz.h.op)).setCell {block:=w1.heap.size,off:=1} (.string {data:=List.toArray bz.h.s})).setCell {block:=w1.heap.size,off:=2} (.int .i64 bz.h.vk)).setCell {block:=w1.heap.size,off:=3} (.int .i64 bz.h.vn)).setCell {block:=w1.heap.size,off:=4} (.string {data:=List.toArray bz.h.vs})).setCell {block:=w1.heap.size,off:=5} (.slice ua bz.h.p.length uc)).setCell {block:=w1.heap.size,off:=6} (.slice va bz.kids.len vc))=W at*;have HF:=S (X h7 (X hV7 (X gW hQ)));clear h7 hV7 gW hQ;obtain⟨cl_0,cl_1,cl_2,cl_3,cl_4,cl_5,cl_6,cl_f⟩:=(hL7).c7;have cz_:=hZ7.c7;go_wp2;have g7:=A0 W w.heap.size (.int .i64 bz.h.op) (str bz.h.s) (.int .i64 bz.h.vk) (.int .i64 bz.h.vn) (str bz.h.vs) (.slice ua bz.h.p.length uc) (.slice va bz.kids.len vc);obtain⟨h7,hV7,gW,hQ⟩:=HF.1;exact bZ (AK rfl _ (hZ7.set7 _ _ _ _ _ _ _) rfl) rfl (Bw hb hQ gW hV7 (by intro k hk;exact hk.1) h7 g7)
def NotP(b:Nat)(tv wv:Value)(l:List Tok)(wl:List Bs)(w:World)(i:Nat)(q:Bool)(wb:World):Prop:=
 q=(Ah (Ab l i) [46,78,79,84,46]||Ah (Ab l i) [33])/\Par wb b tv wv l wl (if q then i+1 else i)/\w.grownBy wb (some b)/\Blk wb w.heap.size zeroE 163/\w.heap.size<wb.heap.size
def YG{sumf:Nat->Res Ex}(hsum:CE 270 b tv wv l wl sumf):∀m,CE 239 b tv wv l wl (Do l sumf m):=by
 intro m;induction m with
 |zero=>intro w i h ho;exact absurd rfl ho
 |succ m ih=>
 intro w i h ho;have hb:=h.lt;have gz:w.grownBy (w.alloc (.cells zeroE.toArray 163 (0,0))) (some b):=Ac (Aa _ _) _;have hz:=Blk.new w zeroE 163;have hp:=h.alloc (.cells zeroE.toArray 163 (0,0));have H:=S (X ih (X hsum ho));have HZ:=S (X gz hz);have HP:=S hp;generalize hR:Do l sumf (m+1) i=R at*;have HR:=S hR;clear hR hsum ih ho gz hz hp;go_enter func239,ntmps239;go_upto_region 1 with fail;go_cut [10] (λv10 wb=>∃q,v10= .bool q/\NotP b tv wv l wl w i q wb)
 case first=>
  cases h1:Ah (Ab l i) [46,78,79,84,46]with
  | true=>
    go_wp2_with fail;refine(Bp HP.1 _ h1).mono ?_;rintro e wb ⟨rfl,h0,gb⟩;have HX:=S (show NotP b tv wv l wl w i true wb from⟨by rw[h1];rfl,h0,Z HZ.1.1 gb,Blk.gb HZ.1.2 gb (by simp;omega),by have:=gb.size;simp at*;omega⟩);clear h0 gb h1;go_wp2;go_meet;exact⟨true,rfl,HX.1⟩
  | false=>
    go_wp2_with fail;refine mR (Bf HP.1 _ h1) λwa ga=>?_;have hpa:=HP.1.gbN ga;cases h2:Ah (Ab l i) [33]with
    | true=>
      go_wp2_with fail;refine(Bp hpa _ h2).mono ?_;rintro e wb ⟨rfl,h0,gb⟩;have HX:=S (show NotP b tv wv l wl w i true wb from⟨by rw[h1,h2];rfl,h0,Z (Ag HZ.1.1 ga) gb,(HZ.1.2.gb ga (by simp)).gb gb (by simp;omega),by have:=ga.size;have:=gb.size;simp at*;omega⟩);clear h0 gb h1 h2 hpa ga;go_wp2;go_meet;exact⟨true,rfl,HX.1⟩
    | false=>
      go_wp2_with fail;refine mR (Bf hpa _ h2) λwb gb=>?_;have HX:=S (show NotP b tv wv l wl w i false wb from⟨by rw[h1,h2];rfl,hpa.gbN gb,Ag (Ag HZ.1.1 ga) gb,(HZ.1.2.gb ga (by simp)).gb gb (by simp),by have:=ga.size;have:=gb.size;simp at*;omega⟩);clear gb h1 h2 hpa ga;go_wp2;go_meet;exact⟨false,rfl,HX.1⟩
 case rest=>
 obtain⟨q,rfl,hq,h0,g0,hB,hw0⟩:=hcut;clear HZ HP;cases q with
 | true=>
   have hR':(Do l sumf m (i+1)).bind (λx j=> .ok (unE [46,78,79,84,46] x) j)=R:=by rw[<-HR.1];simp[Do,<-hq]
   replace HR:=S hR';clear hR' hq;change Par _ b tv wv l wl (i+1)at h0;go_wp2_with fail;refine(H.1.1 _ _ h0 (λe=>H.1.2.2 (by rw[<-HR.1,e];rfl))).mono ?_;rintro e w1 ⟨g1,h1⟩;cases ho:Do l sumf m (i+1)with
   |out=>rw[ho]at h1;exact h1.elim
   | bad q=>
     rw[ho]at h1;subst h1;exact⟨rfl,Post.bad (Z g0 g1) (by rw[<-HR.1,ho];rfl)⟩
   | ok x j=>
     rw[ho]at h1;obtain⟨v,rfl,⟨pa,pc,la,lc,rfl,rp,rl⟩,h1⟩:=h1;have hs1:=g1.size;have hb1:=h1.lt;have hlt1:w.heap.size<w1.heap.size:=by omega
     have hZ:=hB.gb g1 (by simp;omega);have hQ:R= .ok (unE [46,78,79,84,46] x) j:=by rw[<-HR.1,ho];rfl
     have H2:=S (X rp (X rl hQ));clear rp rl hQ hB h0;have cz_:=hZ.c7;go_wp2;obtain⟨rp,rl,hQ⟩:=H2.1;have g7:=A0 w1 w.heap.size (.int .i64 4) (str [46,78,79,84,46]) (.int .i64 0) (.int .i64 0) (str []) (.slice none 0 0) (.slice (some ⟨w1.heap.size,0,none⟩) 1 1);have hW:=hZ.set7 (.int .i64 4) (str [46,78,79,84,46]) (.int .i64 0) (.int .i64 0) (str []) (.slice none 0 0) (.slice (some ⟨w1.heap.size,0,none⟩) 1 1);have hsz:(set7 w1 w.heap.size (.int .i64 4) (str [46,78,79,84,46]) (.int .i64 0) (.int .i64 0) (str []) (.slice none 0 0) (.slice (some ⟨w1.heap.size,0,none⟩) 1 1)).heap.size=w1.heap.size:=by simp[set7]
     simp only[set7]at hW g7 hsz;generalize(((((((w1.setCell {block:=w.heap.size,off:=0} (.int .i64 4)).setCell {block:=w.heap.size,off:=1} (str [46,78,79,84,46])).setCell {block:=w.heap.size,off:=2} (.int .i64 0)).setCell {block:=w.heap.size,off:=3} (.int .i64 0)).setCell {block:=w.heap.size,off:=4} (str [])).setCell {block:=w.heap.size,off:=5} (.slice none 0 0)).setCell {block:=w.heap.size,off:=6} (.slice (some ⟨w1.heap.size,0,none⟩) 1 1))=W at*;exact bZ (AK (hd:=hd0 4 [46,78,79,84,46]) (pv:= .slice none 0 0) (lv:= .slice (some ⟨w1.heap.size,0,none⟩) 1 1) rfl _ (Blk.alloc hW (Obj.cells #[Value.int IntKind.i64 x.h.op,str x.h.s,Value.int IntKind.i64 x.h.vk,Value.int IntKind.i64 x.h.vn,str x.h.vs,Value.slice pa x.h.p.length pc,Value.slice la x.kids.len lc] 163)) rfl) rfl (Hw (op:=4) (s:=[46,78,79,84,46]) hb hQ (Z g0 g1) rp rl (by intro q hq;have:(wc).heap.size<=q:=hq;omega) h1 g7 hsz)
 | false=>
   have hR':(sumf i).bind (λx j=>if(AM l 2 j).isEmpty then .ok x j else(sumf (j+1)).bind λy k=> .ok (Bq (AM l 2 j) x y) k)=R:=by rw[<-HR.1];simp[Do,<-hq]
   replace HR:=S hR';clear hR' hq;change Par _ b tv wv l wl i at h0;go_wp2_with fail;refine(H.1.2.1 _ _ h0 (λe=>H.1.2.2 (by rw[<-HR.1,e];rfl))).mono ?_;rintro e w1 ⟨g1,h1⟩;cases ho:sumf i with
   |out=>rw[ho]at h1;exact h1.elim
   | bad q=>
     rw[ho]at h1;subst h1;exact⟨rfl,Post.bad (Z g0 g1) (by rw[<-HR.1,ho];rfl)⟩
   | ok x j=>
     rw[ho]at h1;obtain⟨v,rfl,⟨pa,pc,la,lc,rfl,rp,rl⟩,h1⟩:=h1;have hb1:=h1.lt;have hs1:=g1.size;have HV:=S (VE.mono (ok':=λg=>w.heap.size<g/\g≠w1.heap.size) (⟨_,_,_,_,rfl,rp,rl⟩:VE (Al _) w1 _ x) (by intro q hq hq2;have:(wc).heap.size<=q:=hq;exact⟨by omega,by omega⟩));clear rp rl;have hZ:=hB.gb g1 (by simp;omega);have gA:=Ac (Z g0 g1) (.cells (hdC x.h (.slice pa x.h.p.length pc) (.slice la x.kids.len lc)).toArray 163 (0,0));have hA:=h1.alloc (.cells (hdC x.h (.slice pa x.h.p.length pc) (.slice la x.kids.len lc)).toArray 163 (0,0));have hL:=Blk.new w1 (hdC x.h (.slice pa x.h.p.length pc) (.slice la x.kids.len lc)) 163;go_wp2_with fail;refine(Iq hA 2 (by decide)).mono ?_;rintro e wr ⟨rfl,g2,h2⟩;have g12:w1.grownBy wr (some b):=Z (Ac (Aa _ _) _) g2;have gr:=Z gA g2;have hL2:=hL.gb g2 (by simp;omega);have hZ2:=(hZ.gb g12 (by simp;omega));have HV2:=S (HV.1.gb g12 (by intro q hq _ e;cases e;omega));have hwr:=gr.size;have hLb:=hL2.lt;clear gA hA hL g2 hB hZ g0 h0 HV;obtain⟨cl_0,cl_1,cl_2,cl_3,cl_4,cl_5,cl_6,cl_f⟩:=(hL2).c7;by_cases he:AM l 2 j=[]
     ·rw[he,IC]at h2;have HQ:=S (show R= .ok x j by rw[<-HR.1,ho];simp[Res.bind,he]);rw[he];clear he;have cz_:=hZ2.c7;go_wp2;have g7:=A0 wr w.heap.size (.int .i64 x.h.op) (str x.h.s) (.int .i64 x.h.vk) (.int .i64 x.h.vn) (str x.h.vs) (.slice pa x.h.p.length pc) (.slice la x.kids.len lc);exact bZ (AK rfl _ (hZ2.set7 _ _ _ _ _ _ _) rfl) rfl (Bw hb HQ.1 gr HV2.1 (by intro k hk;exact hk.1) h2 g7)
     ·rw[IM he]at h2;have hs0:(AM l 2 j==[])=false:=by simpa using he
      have hs2:(AM l 2 j).isEmpty=false:=by simpa using he
      have HQ:=S (show(sumf (j+1)).bind (λy k=> .ok (Bq (AM l 2 j) x y) k)=R by rw[<-HR.1,ho];simp[Res.bind,he]);clear he;generalize hO:AM l 2 j=o at*;clear hO;cases ho2:sumf (j+1)with
      |out=>exact absurd (show R= .out by rw[<-HQ.1,ho2];rfl) H.1.2.2
      | bad q=>
        go_wp2_with fail;go_region_with(go_at_call 270;refine(H.1.2.1 _ _ (h2.gbN (Ae (Aa _ _))) (by rw[ho2];simp)).mono ?_;rintro e w4 ⟨g4,h4⟩;rw[ho2]at h4;subst h4;refine Bx (P:=Tryz.prog) ⟨rfl,Post.bad (Z (Ae gr) g4) (by rw[<-HQ.1,ho2];rfl)⟩ ⟨#[],[]⟩ w4 ?_);all_goals trivial
      | ok z q=>
        go_wp2_with fail;go_region_with(first| (go_at_call 270;refine(H.1.2.1 _ _ (h2.gbN (Ae (Aa _ _))) (by rw[ho2];simp)).mono ?_;rintro e w4 ⟨g4,h4⟩;rw[ho2]at h4;obtain⟨v,rfl,hv,h4⟩:=h4;have hg4:=Z (Ae (Aa wr (some b))) g4;have hL4:=hL2.gb hg4 (by simp;omega);obtain⟨dl_0,dl_1,dl_2,dl_3,dl_4,dl_5,dl_6,dl_f⟩:=(hL4).c7;have hok:∀q,w4.heap.size<=q->w.heap.size<q/\q≠w1.heap.size:=(λq hq=>by have:=hL4.lt;exact⟨by omega,by omega⟩);have hy:VE (λg=>w.heap.size<g/\g≠w1.heap.size) w4 _ x:=HV2.1.gb hg4 (λq hq _ e=>by cases e;omega);have hz:VE (λg=>w.heap.size<g/\g≠w1.heap.size) w4 v z:=hv.mono (λq hq _=>⟨by have:wr.heap.size<=q:=hq;omega,by have:wr.heap.size<=q:=hq;omega⟩))| (go_at_call 268;refine(J2 o x z _ _ hok hy hz).mono ?_;rintro e w5 ⟨u,rfl,hu,g5⟩;obtain⟨ua,uc,va,vc,rfl,ru,rv⟩:=hu;have hL5:=hL4.gb g5 (by simp);obtain⟨el_0,el_1,el_2,el_3,el_4,el_5,el_6,el_f⟩:=(hL5).c7));all_goals
         generalize hbe:Bq o x z=bz at*;have HBE:=S hbe;have g7:=A0 w5 w1.heap.size (.int .i64 bz.h.op) (str bz.h.s) (.int .i64 bz.h.vk) (.int .i64 bz.h.vn) (str bz.h.vs) (.slice ua bz.h.p.length uc) (.slice va bz.kids.len vc);have hL7:=hL5.set7 (.int .i64 bz.h.op) (str bz.h.s) (.int .i64 bz.h.vk) (.int .i64 bz.h.vn) (str bz.h.vs) (.slice ua bz.h.p.length uc) (.slice va bz.kids.len vc);have h7:=(h4.gbN g5).gb g7 (by intro q e;cases e;omega);have hV7:VE (λg=>w.heap.size<g/\g≠w1.heap.size) _ _ bz:=VE.gb ⟨_,_,_,_,rfl,ru,rv⟩ g7 (by intro q hq _ e;cases e;exact hq.2 rfl);have gW:=Ap (Ag (Z (Ae gr) g4) g5) g7 (.inr (by omega));have hZ7:=Blk.gb (Blk.gb (hZ2.gb hg4 (by simp;omega)) g5 (by simp)) g7 (by simp;omega);have hQ:R= .ok bz q:=by rw[<-HQ.1,ho2,<-hbe];rfl
         simp only[set7]at hL7 h7 hV7 gW hZ7;clear g7 ru rv hy hz hok hbe cl_0 cl_1 cl_2 cl_3 cl_4 cl_5 cl_6 cl_f dl_0 dl_1 dl_2 dl_3 dl_4 dl_5 dl_6 dl_f el_0 el_1 el_2 el_3 el_4 el_5 el_6 el_f hL4 hL5 hL2 hZ2 hs0 hs2;generalize(((((((w5.setCell {block:=w1.heap.size,off:=0} (.int .i64 bz.h.op)).setCell {block:=w1.heap.size,off:=1} (.string {data:=List.toArray bz.h.s})).setCell {block:=w1.heap.size,off:=2} (.int .i64 bz.h.vk)).setCell {block:=w1.heap.size,off:=3} (.int .i64 bz.h.vn)).setCell {block:=w1.heap.size,off:=4} (.string {data:=List.toArray bz.h.vs})).setCell {block:=w1.heap.size,off:=5} (.slice ua bz.h.p.length uc)).setCell {block:=w1.heap.size,off:=6} (.slice va bz.kids.len vc))=W at*;have HF:=S (X h7 (X hV7 (X gW hQ)));clear h7 hV7 gW hQ;obtain⟨cl_0,cl_1,cl_2,cl_3,cl_4,cl_5,cl_6,cl_f⟩:=(hL7).c7;have cz_:=hZ7.c7;go_wp2;have g7:=A0 W w.heap.size (.int .i64 bz.h.op) (str bz.h.s) (.int .i64 bz.h.vk) (.int .i64 bz.h.vn) (str bz.h.vs) (.slice ua bz.h.p.length uc) (.slice va bz.kids.len vc);obtain⟨h7,hV7,gW,hQ⟩:=HF.1;exact bZ (AK rfl _ (hZ7.set7 _ _ _ _ _ _ _) rfl) rfl (Bw hb hQ gW hV7 (by intro k hk;exact hk.1) h7 g7)
def Fine{α:Type}(o:Prop)(L i:Nat):Res α->Prop
 | .ok _ j=>i<j/\j<=L
 | .bad _=>True
 | .out=>¬o
def Fine.bind{r:Res α}{f:α->Nat->Res β}(h:Fine o L i r)(hf:∀a j,r= .ok a j->i<j->j<=L->Fine o L i (f a j)):Fine o L i (r.bind f):=by
 cases r with
 |ok a j=>exact hf a j rfl h.1 h.2
 |bad k=>trivial
 |out=>exact h
def Fine.mono{r:Res α}(h:Fine o L i' r)(hi:i<=i'):Fine o L i r:=by
 cases r with
 |ok a j=>exact⟨by have:=h.1;omega,h.2⟩
 |bad k=>trivial
 |out=>exact h
def Fine.weak{o':Prop}{r:Res α}(h:Fine o' L i r)(ho:o->o'):Fine o L i r:=by
 cases r with
 |ok a j=>exact h
 |bad k=>trivial
 |out=>exactλk=>h (ho k)
def Fine.bind'{r:Res α}{f:α->Nat->Res β}(hi:i<=i')(h:Fine o L i' r)(hf:∀a j,r= .ok a j->i'<j->j<=L->Fine o L i (f a j)):Fine o L i (r.bind f):=by
 cases r with
 |ok a j=>exact hf a j rfl h.1 h.2
 |bad k=>trivial
 |out=>exact h
def Fj(h:(Ab l j).kind ≠ -1):j<l.length:=by
 by_cases hi:j<l.length
 ·exact hi
 ·exact absurd (by simp[Ab,List.getElem?_eq_none (Nat.le_of_not_lt hi)]) h
def BE(h:Ah (Ab l j) s=true):j<l.length:=by
 apply Fj;simp[Ah]at h;omega
def KZ(h:(AM l k j).isEmpty≠true):j<l.length:=by
 apply Fj;intro e;apply h;simp[AM,e]
def DV(s:Bs)(q:Nat):Fine o l.length q (AW l s q):=by
 unfold AW;split
 ·rename_i h;exact⟨by omega,BE h⟩
 ·trivial
def N4(q:Nat):Fine o l.length q (B4 l q):=by
 unfold B4;split
 ·rename_i h;exact⟨by omega,Fj (by simp at h;omega)⟩
 ·trivial
def EW(q:Nat):Fine o l.length q (AD l q):=by
 unfold AD;split
 ·rename_i h;exact⟨by omega,Fj (by simp at h;omega)⟩
 ·trivial
def Pc(h:∀q,i<=q->Fine o l.length q (opnd q)):∀n x j,i<j->j<=l.length->(o->l.length-j+1<=n)->Fine o l.length i (Dg l k opnd n x j):=by
 intro n;induction n with
 |zero=>intro x j h1 h2 h3 ho;have:=h3 ho;omega
 | succ n ih=>
   intro x j h1 h2 h3;unfold Dg;split
   ·exact⟨h1,h2⟩
   ·rename_i he;have:=KZ he;refine Fine.bind' (i':=j+1) (by omega) (h _ (by omega)) λy q _ hq hl=>ih _ _ (by omega) hl λho=>by have:=h3 ho;omega
def I5(h:∀q,i<=q->Fine o l.length q (opnd q))(hn:o->l.length-i<=n):∀q,i<=q->Fine o l.length q (Bj l k n opnd q):=by
 intro q hq;exact Fine.bind (h q hq) λx j _ hj hl=>(Pc (i:=q) (λp hp=>h p (by omega)) n x j hj hl λho=>by have:=hn ho;omega)
def UL{pow:Nat->Res Ex}(h:∀q,i<=q->Fine o l.length q (pow q))(hn:o->l.length-i<=n):∀q,i<=q->Fine o l.length q (sumM l n pow q):=
 I5 (I5 h hn) hn
def Up{un:Nat->Res Ex}(h:∀q,i<=q->Fine o l.length q (un q)):∀n q,i<=q->(o->l.length-q+1<=n)->Fine o l.length q (D2 l un n q):=by
 intro n;induction n with
 |zero=>intro q hq hn ho;have:=hn ho;omega
 | succ n ih=>
   intro q hq hn;unfold D2;refine Fine.bind (h q hq) λx j _ hj hl=>?_;split
   ·exact⟨hj,hl⟩
   ·rename_i he;have:=KZ he;exact Fine.bind' (i':=j+1) (by omega) (ih _ (by omega) λho=>by have:=hn ho;omega) λy k _ hk hl=>⟨by omega,hl⟩
def Uc{sum:Nat->Res Ex}(h:∀q,i<=q->Fine o l.length q (sum q)):∀n q,i<=q->(o->l.length-q+1<=n)->Fine o l.length q (Do l sum n q):=by
 intro n;induction n with
 |zero=>intro q hq hn ho;have:=hn ho;omega
 | succ n ih=>
   intro q hq hn;unfold Do;split
   ·rename_i hs;have hlt:q<l.length:=by
     rw[Bool.or_eq_true]at hs;rcases hs with h|h
     ·exact BE h
     ·exact BE h
    exact Fine.bind' (i':=q+1) (by omega) (ih _ (by omega) λho=>by have:=hn ho;omega) λy k _ hk hl=>⟨by omega,hl⟩
   ·refine Fine.bind (h q hq) λx j _ hj hl=>?_;split
    ·exact⟨hj,hl⟩
    ·rename_i he;have:=KZ he;exact Fine.bind' (i':=j+1) (by omega) (h _ (by omega)) λy k _ hk hl=>⟨by omega,hl⟩
def P2(h:i<l.length->∀q,i<q->Fine o l.length q (E q)):∀n x j,i<j->j<=l.length->(o->l.length-j+1<=n)->Fine o l.length i (CH l E n x j):=by
 intro n;induction n with
 |zero=>intro x j h1 h2 h3 ho;have:=h3 ho;omega
 | succ n ih=>
   intro x j h1 h2 h3;unfold CH;split
   ·rename_i hs;have:=BE hs;refine Fine.bind' (i':=j+1) (by omega) (h (by omega) _ (by omega)) λy q _ hq hl=>?_;refine Fine.bind' (i':=q) (by omega) (DV _ _) λ_ k _ hk hl=>ih _ _ (by omega) hl λho=>by have:=h3 ho;omega
   ·exact⟨h1,h2⟩
def Rh{prim:Nat->Res Ex}(hE:i<l.length->∀q,i<q->Fine o l.length q (E q))(hP:∀q,i<=q->Fine o l.length q (prim q)):∀n q,i<=q->(o->l.length-q+1<=n)->Fine o l.length q (CG l E prim n q):=by
 intro n;induction n with
 |zero=>intro q hq hn ho;have:=hn ho;omega
 | succ n ih=>
   intro q hq hn;unfold CG;split
   ·rename_i hs;have:=BE hs;exact Fine.bind' (i':=q+1) (by omega) (ih _ (by omega) λho=>by have:=hn ho;omega) λy k _ hk hl=>⟨by omega,hl⟩
   ·refine Fine.bind (hP q hq) λx j _ hj hl=>?_;exact P2 (i:=q) (λ_ p hp=>hE (by omega) p (by omega)) n x j hj hl λho=>by have:=hn ho;omega
def Pe(h:∀q,i<q->Fine o l.length q (E q)):∀n f j,i<j->j<=l.length->(o->l.length-j+1<=n)->Fine o l.length i (Dh l E n f j):=by
 intro n;induction n with
 |zero=>intro x j h1 h2 h3 ho;have:=h3 ho;omega
 | succ n ih=>
   intro x j h1 h2 h3;unfold Dh;split
   ·rename_i hs;have:=BE hs;refine Fine.bind' (i':=j+1) (by omega) (h _ (by omega)) λy q _ hq hl=>ih _ _ (by omega) hl λho=>by have:=h3 ho;omega
   ·exact⟨h1,h2⟩
def JI(h:∀q,i<=q->Fine o l.length q (E q))(hn:o->l.length-i<=n):Fine o l.length i (Dd l E n i):=by
 refine Fine.bind (h i (nR _)) λx j _ hj hl=>Pe (λq hq=>h q (by omega)) n _ j hj hl λho=>by have:=hn ho;omega
def OV:∀n f j,i<j->j<=l.length->(o->l.length-j+1<=n)->Fine o l.length i (Dj l n f j):=by
 intro n;induction n with
 |zero=>intro x j h1 h2 h3 ho;have:=h3 ho;omega
 | succ n ih=>
   intro x j h1 h2 h3;unfold Dj;split
   ·rename_i hs;have:=BE hs;refine Fine.bind' (i':=j+1) (by omega) (EW _) λy q _ hq hl=>ih _ _ (by omega) hl λho=>by have:=h3 ho;omega
   ·exact⟨h1,h2⟩
def LF(hn:o->l.length-i<=n):Fine o l.length i (CF l n i):=
 Fine.bind (EW _) λx j _ hj hl=>OV n _ j hj hl λho=>by have:=hn ho;omega
def RC(hE:i<l.length->∀q,i<q->Fine o l.length q (E q))(hn:o->l.length-i<=n):Fine o l.length i (DH l E n i):=by
 unfold DH;refine Fine.bind (EW _) λs j _ hj hl=>Fine.bind' (i':=j) (by omega) (DV _ _) λ_ k _ hk hl2=>?_;split
 ·rename_i hs;have:=BE hs;exact⟨by omega,this⟩
 ·refine Fine.bind' (i':=k) (by omega) (JI (λq hq=>hE (by omega) q (by omega)) λho=>by have:=hn ho;omega) λf p _ hp hl3=>?_;exact Fine.bind' (i':=p) (by omega) (DV _ _) λ_ k _ hk hl2=>⟨by omega,hl2⟩
def LD(hE:i<l.length->∀q,i<q->Fine o l.length q (E q)):Fine o l.length i (DD l E i):=by
 unfold DD;refine Fine.bind (DV _ _) λs j _ hj hl=>?_;split
 ·rename_i hs;have:=BE hs;refine Fine.bind' (i':=j+1) (by omega) (hE (by omega) _ (by omega)) λf p _ hp hl3=>?_;exact Fine.bind' (i':=p) (by omega) (DV _ _) λ_ k _ hk hl2=>⟨by omega,hl2⟩
 ·refine Fine.bind' (i':=j) (by omega) (EW _) λs p _ hp hl3=>?_;split
  ·rename_i hs;have:=BE hs;exact⟨by omega,this⟩
  ·exact⟨by omega,hl3⟩
def PJ(hE:∀q,i<=q->Fine o l.length q (E q))(hn:o->l.length-i<=n):Fine o l.length i (DO l E n i):=by
 unfold DO;split
 ·rename_i hs;have hi:=BE hs;have h1:Fine o l.length (i+1) (if Ah (Ab l (i+1)) [124]then(.ok [] (i+2):Res (List Bs))else(CF l n (i+1)).bind λp j=>(AW l [124] j).bind λ_ j=> .ok p j):=by
   split
   ·rename_i hs2;have:=BE hs2;exact⟨by omega,this⟩
   ·refine Fine.bind (LF λho=>by have:=hn ho;omega) λp j _ hj hl=>?_;exact Fine.bind' (i':=j) (by omega) (DV _ _) λ_ k _ hk hl2=>⟨by omega,hl2⟩
  refine Fine.bind' (i':=i+1) (by omega) h1 λp j _ hj hl=>?_;refine Fine.bind' (i':=j) (by omega) (hE _ (by omega)) λf p _ hp hl3=>?_;exact Fine.bind' (i':=p) (by omega) (DV _ _) λ_ k _ hk hl2=>⟨by omega,hl2⟩
 ·refine Fine.bind (JI hE hn) λf p _ hp hl3=>?_;exact Fine.bind' (i':=p) (by omega) (DV _ _) λ_ k _ hk hl2=>⟨by omega,hl2⟩
def PY(hE:i<l.length->∀q,i<q->Fine o l.length q (E q))(hn:o->l.length-i<=n):Fine o l.length i (Ep l E n i):=by
 unfold Ep;split
 ·exact LD hE
 split
 ·rename_i hs;have:=BE hs;exact⟨by omega,this⟩
 split
 ·rename_i hs;have:=BE hs;exact⟨by omega,this⟩
 split
 ·rename_i hs;have:=BE hs;exact⟨by omega,this⟩
 split
 ·rename_i hs;have:=BE hs;refine Fine.bind' (i':=i+1) (by omega) (hE (by omega) _ (by omega)) λf p _ hp hl3=>?_;exact Fine.bind' (i':=p) (by omega) (DV _ _) λ_ k _ hk hl2=>⟨by omega,hl2⟩
 split
 ·rename_i hs;have:=BE hs;exact Fine.bind' (i':=i+1) (by omega) (EW _) λs p _ hp hl3=>⟨by omega,hl3⟩
 split
 ·rename_i hs;have:=BE hs;exact(PJ (i:=i+1) (λq hq=>hE (by omega) q (by omega)) λho=>by have:=hn ho;omega).mono (by omega)
 ·trivial
def QG(hE:i<l.length->∀q,i<q->Fine o l.length q (E q))(hn:o->l.length-i<=n):Fine o l.length i (Et l E n i):=by
 unfold Et;split
 ·exact RC hE hn
 refine Fine.bind (EW _) λs j _ hj hl=>?_;split
 ·rename_i hs;have:=BE hs;split
  ·rename_i hs;have:=BE hs;refine Fine.bind' (i':=j+2) (by omega) (hE (by omega) _ (by omega)) λf p _ hp hl3=>?_;exact Fine.bind' (i':=p) (by omega) (DV _ _) λ_ k _ hk hl2=>⟨by omega,hl2⟩
  ·exact Fine.bind' (i':=j+1) (by omega) (EW _) λs p _ hp hl3=>⟨by omega,hl3⟩
 ·exact⟨hj,hl⟩
def Sq{day:Bs->Int}(hE:i<l.length->∀q,i<q->Fine o l.length q (E q))(hn:o->l.length-i<=n):Fine o l.length i (DK l day E n i):=by
 unfold DK;have hk:∀k:Int,((Ab l i).kind==k)=true->k ≠ -1->i<l.length:=λk h1 h2=>Fj (by simp at h1;omega);split
 ·rename_i h;exact⟨by omega,hk 1 h (by decide)⟩
 split
 ·rename_i h;split
  ·trivial
  ·exact⟨by omega,hk 2 h (by decide)⟩
 split
 ·rename_i h;exact⟨by omega,hk 3 h (by decide)⟩
 split
 ·exact QG hE hn
 ·exact PY hE hn
def GS(day:Bs->Int):∀n q,Fine (l.length-q+2<=n) l.length q (Ai l day n q):=by
 intro n;induction n with
 |zero=>intro q ho;omega
 | succ n ih=>
   intro q;have hE:q<l.length->∀p,q<p->Fine (l.length-q+2<=n+1) l.length p (Ai l day n p):=λhq p hp=>(ih p).weak λho=>by omega
   have hn:(l.length-q+2<=n+1)->l.length-q<=n:=λh=>by omega
   have h1:∀p,q<=p->Fine (l.length-q+2<=n+1) l.length p (DK l day (Ai l day n) n p):=λp hp=>Sq (λh r hr=>hE (by omega) r (by omega)) λho=>by have:=hn ho;omega
   have h2:∀p,q<=p->Fine (l.length-q+2<=n+1) l.length p (CG l (Ai l day n) (DK l day (Ai l day n) n) n p):=λp hp=>Rh hE h1 n p hp λho=>by omega
   have h3:=λp (hp:q<=p)=>Up h2 n p hp λho=>by omega
   have h4:=UL (n:=n) h3 hn;have h5:=λp (hp:q<=p)=>Uc h4 n p hp λho=>by omega
   unfold Ai;exact I5 (I5 h5 hn) hn q (nR _)
end Go.Proofs.YtbjfaimkiclhgaaGreatDoor
