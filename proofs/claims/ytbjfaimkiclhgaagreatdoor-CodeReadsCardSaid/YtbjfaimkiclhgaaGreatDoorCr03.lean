/-
  App Date DateB CkA SynC SynD Contracts of the parser: pow, not. Fine WrM TxA
-/
import Derived.Test.YtbjfaimkiclhgaaGreatDoorCr02
import Derived.Deep.LoopGhost
import Derived.Maps.Own
import Derived.Deep.DeepCutAuto
import Derived.Lib.ItoaMem
set_option linter.all false
set_option maxRecDepth 100000
set_option maxHeartbeats 8000000
namespace Go.Proofs.YtbjfaimkiclhgaaGreatDoor
open Go.Proofs.Tryz
open Go.RowKit
variable{P:Program}{w w1 w2:World}{n pc lc b m i k L i' j:Nat}{v px lx tv wv:Value}{f:Fo}{x:Ex}{cs:List Value}{pa la:Option Addr}{s:Bs}{ok:Nat->Prop}{op y:Int}{l:List Tok}{wl:List Bs}{r:Res Ex}{α β:Type}{o:Prop}{opnd un E:Nat->Res Ex}
def Qo(w:World)(base:Nat)(t ty e:TypeId)(i:TypeInfo)(z:Value)(size bytes:Nat)(ht:P.underlying t=some (.slice e))(hi:P.info? e=some i)(hz:i.zero=some z)
 (hsize:i.size=size) (hby:i.bytes=bytes) (hzs:z.cells.size=size) (hsz:0<size)
 (v:Value) (n:Nat) (xs:List Value) (hown:w.ownsRow base e size v n xs)
 (a:Addr) (m c:Nat) (news:List Value) (hl:news.length=m*size) (hnews:∀j u,news[j]? =some u->w.cell? (a.add j)=some u) (h1:∀u∈news,u.oneCell'=true)
 (h63:n+m<=maxLen) (hbytes:(n+m)*bytes<=140737488355328) (hbase:base<=w.heap.size):
 ∃v' w',(Builtin.append_ #[t,t] ty #[v,.slice (some a) m c]).run P w= .ok v' w'/\w'.ownsRow base e size v' (n+m) (xs++news)/\w.grownBy w' v.ownBlock/\
  (∀k,v'.ownBlock=some k->v.ownBlock=some k\/w.heap.size<=k):=by
 obtain⟨v1,w1,hr1,ho1,hg1,_⟩:=run_append_own (P:=P) w base t ty e i z size bytes ht hi hz hsize hby hzs hsz v n xs hown a m c news hl hnews h1 h63 hbytes hbase;refine⟨v1,w1,hr1,ho1,hg1,λk hk=>?_⟩;rcases hown.2 with⟨rfl,rfl⟩| ⟨g,cap,cur,rfl,hbg,hg,hnc,hcm,hcs,htake⟩
 ·obtain⟨v2,w2,hr2,ho2,_,_⟩:=run_append_own (P:=P) w w.heap.size t ty e i z size bytes ht hi hz hsize hby hzs hsz _ 0 xs ⟨hown.1,.inl ⟨rfl,rfl⟩⟩ a m c news hl hnews h1 h63 hbytes (nR _);rw[hr1]at hr2;cases hr2;exact .inr (ho2.lt k hk).1
 ·by_cases hroom:n+m<=cap
  ·have hfit:n*i.size+news.length<=cur.size:=by rw[hl,hcs,hsize,<-Nat.add_mul];exact Nat.mul_le_mul_right _ hroom
   have hr:=run_append_room (P:=P) w t ty e i ht hi g n cap cur hg a m c news (by rw[hsize];exact hl) hnews h1 hroom hfit;rw[hr1]at hr;cases hr;left;simpa[Value.ownBlock]using hk
  ·have holds:∀j u,xs[j]? =some u->w.cell? ((⟨g,0,none⟩:Addr).add j)=some u:=hown.cells (g:=g) rfl;have hr:=run_append_grow (P:=P) w t ty e i z ht hi hz ⟨g,0,none⟩ n cap xs (by rw[hsize];exact hown.1) holds a m c news (by rw[hsize];exact hl) hnews (by omega) (by unfold maxLen at h63;omega) (by rw[hby];exact growslice_fits (by unfold maxLen at h63;omega) hbytes);rw[hr1]at hr;cases hr;right;simp[Value.ownBlock]at hk;omega
def GV{ops:Array Oper}{rest:List Oper}{o:Oper}{a:Act}{Q:Exit->Act->World->Prop}(hgd:o.guard=none)(s x:Operand)(t:TypeId)
 (ho:o.op= .call {callee:= .builtin .append,args:=#[s,x],argTypes:=#[t,t]})
 (base:Nat) (e:TypeId) (i:TypeInfo) (z:Value) (size bytes:Nat) (ht:P.underlying t=some (.slice e)) (hi:P.info? e=some i) (hz:i.zero=some z)
 (hsize:i.size=size) (hby:i.bytes=bytes) (hzs:z.cells.size=size) (hsz:0<size)
 (v:Value) (n:Nat) (xs:List Value) (hs:a.eval s=v) (hown:w.ownsRow base e size v n xs)
 (ad:Addr) (m c:Nat) (news:List Value) (hx:a.eval x= .slice (some ad) m c) (hl:news.length=m*size) (hnews:∀j u,news[j]? =some u->w.cell? (ad.add j)=some u) (h1:∀u∈news,u.oneCell'=true)
 (h63:n+m<=maxLen) (hbytes:(n+m)*bytes<=140737488355328) (hbase:base<=w.heap.size)
 (h:∀v' w',w'.ownsRow base e size v' (n+m) (xs++news)->w.grownBy w' v.ownBlock->(∀k,v'.ownBlock=some k->v.ownBlock=some k\/w.heap.size<=k)->wpList P ops Q rest (a.put o.dst v') w'):wpList P ops Q (o::rest) a w:=by
 refine wpList_plain hgd λK hK=>?_;obtain⟨v',w',hr,h2,h3,h4⟩:=Qo (P:=P) w base t o.type e i z size bytes ht hi hz hsize hby hzs hsz v n xs hown ad m c news hl hnews h1 h63 hbytes hbase;unfold Oper.wp execOp;simp only[ho,resolve,invoke,builtin,Sem.run_bind,Sem.run_pure,Result.andThen_ok,List.map_toArray,List.map_cons,List.map_nil,hs,hx,hr];exact hK _ _ (h v' w' h2 h3 h4)
def AP(w:World)(cs:List Value)(t:TypeId):∀j u,cs[j]? =some u->(w.alloc (.cells cs.toArray t (0,0))).cell? ((⟨w.heap.size,0,none⟩:Addr).add j)=some u:=by
 intro j u h;have e:(⟨w.heap.size,0,none⟩:Addr).add j=⟨w.heap.size,j,none⟩:=by unfold Addr.add;split<;>simp_all
 rw[e];exact(Blk.new w cs t).cell' j h
def OwnF.snoc{B:Nat}{v':Value}{okx:Nat->Prop}
 (hf:RepF (λg=>B<=g/\v.ownBlock≠some g) w f cs) (hn:n=f.len)
 (rp:Cells w (.slice pa x.h.p.length pc) 1 x.h.p.length (x.h.p.map str) okx) (rl:RepL okx w (.slice la x.kids.len lc) x.kids) (hokx:∀k,okx k->B<=k/\v.ownBlock≠some k)
 (ho:w1.ownsRow B 163 7 v' (n+1) (cs++hdC x.h (.slice pa x.h.p.length pc) (.slice la x.kids.len lc))) (hg:w.grownBy w1 v.ownBlock) (hnew:∀k,v'.ownBlock=some k->v.ownBlock=some k\/w.heap.size<=k):
 OwnF w1 B v' (f.snoc x):=by
 subst hn;refine⟨_,by rw[Fo.len_snoc];exact ho,?_⟩;have h1:RepF (λg=>B<=g/\v.ownBlock≠some g) w (f.snoc x) (cs++hdC x.h (.slice pa x.h.p.length pc) (.slice la x.kids.len lc)):=
  hf.app (VE.rep (rp.mono λk hk _=>hokx k hk) (rl.mono λk hk _=>hokx k hk))
 have h2:=RepF.mono (ok':=λg=>B<=g/\v.ownBlock≠some g/\v'.ownBlock≠some g) (λk hk hlt=>⟨hk.1,hk.2,λe=>by
  rcases hnew k e with h|h
  ·exact hk.2 h
  ·omega⟩) h1
 exact(h2.gb hg λk hk _ e=>hk.2.1 e.symm).mono λk hk _=>⟨hk.1,hk.2.2⟩
def CJ:(Tryz.prog.info? 163).map (λi=>(i.zero,i.size,i.bytes))=some (some (.agg #[.int .i64 0,str [],.int .i64 0,.int .i64 0,str [],.slice none 0 0,.slice none 0 0]),7,104):=by kernel_rfl
def Fp:(Tryz.prog.info? 9).map (λi=>(i.zero,i.size,i.bytes))=some (some (str []),1,16):=by kernel_rfl
def Wo:(Tryz.prog.info? 250).map (λi=>(i.zero,i.size,i.bytes))=some (some (.agg #[.int .i64 0,.int .i64 0,str []]),3,32):=by kernel_rfl
def EB(y:Int):Bool:=(y.tmod 4==0)&&((y.tmod 100 !=0)||(y.tmod 400==0))
def AT(y m:Int):Int:=if m==2&&EB y then 29 else([31,28,31,30,31,30,31,31,30,31,30,31]:List Int).getD (m-1).toNat 0
def Ax(y:Int):Int:=365*(y-1)+(y-1).tdiv 4-(y-1).tdiv 100+(y-1).tdiv 400
def Tf(y:Int)(h0:0<=y)(h1:y<=100000)(w:World):Calls Tryz.prog 362 #[.int .i64 y] w λe w'=>e= .returned (.bool (EB y))/\w'=w:=by
 have b4:=Int.tmod_lt_of_pos y (b:=4) (by decide);have b100:=Int.tmod_lt_of_pos y (b:=100) (by decide);have b400:=Int.tmod_lt_of_pos y (b:=400) (by decide);have c4:=Int.tmod_nonneg (a:=y) 4 h0;have c100:=Int.tmod_nonneg (a:=y) 100 h0;have c400:=Int.tmod_nonneg (a:=y) 400 h0;unfold EB;generalize e4:y.tmod 4=a at*;generalize e100:y.tmod 100=b at*;generalize e400:y.tmod 400=c at*;by_cases h4:a=0
 ·by_cases h100:b=0
  ·go_enter func362,ntmps362;go_wp2;go_ret;exact⟨by simp[h4,h100],rfl⟩
  ·go_enter func362,ntmps362;go_wp2;go_ret;exact⟨by simp[h4,h100],rfl⟩
 ·go_enter func362,ntmps362;go_wp2;go_ret;exact⟨by simp[h4],rfl⟩
def JF(y:Int)(h0:0<=y)(h1:y<=100000)(w:World):Calls Tryz.prog 344 #[.int .i64 y] w λe w'=>e= .returned (.int .i64 (Ax y))/\w'=w:=by
 have hb4: -100000<=(y-1).tdiv 4/\(y-1).tdiv 4<=100000:=by
  rcases Int.lt_or_le y 1 with h|h
  ·have:y=0:=by omega
   subst this;decide
  ·rw[Int.tdiv_eq_ediv_of_nonneg (by omega)];omega
 have hb100: -100000<=(y-1).tdiv 100/\(y-1).tdiv 100<=100000:=by
  rcases Int.lt_or_le y 1 with h|h
  ·have:y=0:=by omega
   subst this;decide
  ·rw[Int.tdiv_eq_ediv_of_nonneg (by omega)];omega
 have hb400: -100000<=(y-1).tdiv 400/\(y-1).tdiv 400<=100000:=by
  rcases Int.lt_or_le y 1 with h|h
  ·have:y=0:=by omega
   subst this;decide
  ·rw[Int.tdiv_eq_ediv_of_nonneg (by omega)];omega
 unfold Ax;generalize e4:(y-1).tdiv 4=a at*;generalize e100:(y-1).tdiv 100=b at*;generalize e400:(y-1).tdiv 400=c at*;go_enter func344,ntmps344;go_wp2;go_ret;exact⟨rfl,rfl⟩
def Iw(y m:Int)(h0:0<=y)(h1:y<=100000)(hm0:1<=m)(hm1:m<=12)(w:World):Calls Tryz.prog 345 #[.int .i64 y,.int .i64 m] w (ρ w (.int .i64 (AT y m))):=by
 have hm:m=1\/m=2\/m=3\/m=4\/m=5\/m=6\/m=7\/m=8\/m=9\/m=10\/m=11\/m=12:=by omega
 rcases hm with rfl|rfl|rfl|rfl|rfl|rfl|rfl|rfl|rfl|rfl|rfl|rfl
 case inr.inl=>
  go_enter func345,ntmps345;go_wp2_with fail;refine(Tf y h0 h1 _).mono ?_;rintro e w1 ⟨rfl,rfl⟩;cases hl:EB y with
  | true=>
    go_wp2;go_ret;exact⟨by simp[AT,hl],(Ac (Aa _ _) _)⟩
  | false=>
    go_wp2;go_ret;exact⟨by simp[AT,hl],(Ac (Aa _ _) _)⟩
 all_goals
  go_enter func345,ntmps345;go_wp2;go_ret;exact⟨rfl,(Ac (Aa _ _) _)⟩
def Kw(y m:Int)(hm0:1<=m)(hm1:m<=12):0<=AT y m/\AT y m<=31:=by
 have hm:m=1\/m=2\/m=3\/m=4\/m=5\/m=6\/m=7\/m=8\/m=9\/m=10\/m=11\/m=12:=by omega
 unfold AT;rcases hm with rfl|rfl|rfl|rfl|rfl|rfl|rfl|rfl|rfl|rfl|rfl|rfl<;>(try split)<;>decide
def Av(y:Int):Nat->Int
 | 0=>0
 |k+1=>Av y k+AT y (k+1)
def Mm(y:Int):∀k:Nat,k<=12->0<=Av y k/\Av y k<=31*k:=by
 intro k;induction k with
 |zero=>intro _;simp[Av]
 | succ k ih=>
   intro hk;have h1:=ih (by omega);have h2:=Kw y (k+1) (by omega) (by omega);unfold Av;omega
def F4(y m d:Int):Bool:=decide (y<1)||decide (9999<y)||decide (m<1)||decide (12<m)||decide (d<1)||decide (AT y m<d)
def BV(y m d:Int):Int×Int:=if F4 y m d then(0,1)else(Ax y+d+Av y (m-1).toNat,0)
def Wb(y m d:Int)(hy0:0<=y)(hy1:y<=9999)(hm0:0<=m)(hm1:m<=99)(hd0:0<=d)(hd1:d<=99)(w:World):
 Calls Tryz.prog 341 #[.int .i64 y,.int .i64 m,.int .i64 d] w (ρ w (.tuple #[.int .i64 (BV y m d).1,.int .i64 (BV y m d).2])):=by
 by_cases h1:y<1
 ·have hB:BV y m d=(0,1):=by simp[BV,F4,h1]
  rw[hB];go_enter func341,ntmps341;go_wp2;exact bZ (v:= .tuple #[_,_]) (by simp[results,results341,go_sem];try(congr 1;omega)) rfl ⟨rfl,Aa _ _⟩
 by_cases h2:m<1
 ·have hB:BV y m d=(0,1):=by simp[BV,F4,h2]
  rw[hB];go_enter func341,ntmps341;go_wp2;exact bZ (v:= .tuple #[_,_]) (by simp[results,results341,go_sem];try(congr 1;omega)) rfl ⟨rfl,Aa _ _⟩
 by_cases h3:12<m
 ·have hB:BV y m d=(0,1):=by simp[BV,F4,h3]
  rw[hB];go_enter func341,ntmps341;go_wp2;exact bZ (v:= .tuple #[_,_]) (by simp[results,results341,go_sem];try(congr 1;omega)) rfl ⟨rfl,Aa _ _⟩
 by_cases h4:d<1
 ·have hB:BV y m d=(0,1):=by simp[BV,F4,h4]
  rw[hB];go_enter func341,ntmps341;go_wp2;exact bZ (v:= .tuple #[_,_]) (by simp[results,results341,go_sem];try(congr 1;omega)) rfl ⟨rfl,Aa _ _⟩
 have hml:=Kw y m (by omega) (by omega);have hyl:0<=Ax y/\Ax y<=4000000:=by
  unfold Ax;rw[Int.tdiv_eq_ediv_of_nonneg (by omega),Int.tdiv_eq_ediv_of_nonneg (by omega),Int.tdiv_eq_ediv_of_nonneg (by omega)];omega
 by_cases h5:AT y m<d
 ·have hB:BV y m d=(0,1):=by simp[BV,F4,h5]
  rw[hB];go_enter func341,ntmps341;go_wp2_with fail;refine mR (Iw y m (by omega) (by omega) (by omega) (by omega) _) λw1 g1=>?_;go_wp2;exact bZ (v:= .tuple #[_,_]) (by simp[results,results341,go_sem];try(congr 1;omega)) rfl ⟨rfl,g1⟩
 have hB:BV y m d=(Ax y+d+Av y (m-1).toNat,0):=by simp[BV,F4,h1,h2,h3,h4,h5];omega
 rw[hB];clear hB;go_enter func341,ntmps341;go_wp2_with fail;refine mR (Iw y m (by omega) (by omega) (by omega) (by omega) _) λw1 g1=>?_;go_wp2_with fail;refine(JF y (by omega) (by omega) _).mono ?_;rintro e w2 ⟨rfl,rfl⟩;go_wp2_with fail;generalize hM:(m-1).toNat=M at*;go_loopg [8,9,41] M (λg v8 v9 v41 wr=>∃k:Nat,k+g=M/\v8= .int .i64 (Ax y+d+Av y k)/\v41= .int .i64 k/\w.grownBy wr none)
 case atStart=>exact⟨0,by omega,by simp[Av],rfl,g1⟩
 case round=>
  obtain⟨k,hk,rfl,rfl,gr⟩:=hrel;have hbl:=Mm y k (by omega);cases gk with
  | zero=>
    have hkM:k=M:=by omega
    subst hkM;go_wp2;exact bZ (v:= .tuple #[_,_]) (by simp[results,results341,go_sem];try(congr 1;omega)) rfl ⟨rfl,gr⟩
  | succ gk=>
    go_wp2_with fail;refine mR (Iw y (k+1) (by omega) (by omega) (by omega) (by omega) _) λw3 g3=>?_;have hm2:=Kw y (k+1) (by omega) (by omega);go_wp2_with fail;go_roundg gk
    case measure=>omega
    case rel=>exact⟨k+1,by omega,by simp[Av];omega,by simp,Z gr g3⟩
open Go.Maps Go.WideMaps Go.ChangeMaps Go.MapKept
abbrev szK(n m:Int):Value:= .agg #[.int .i64 n,.int .i64 m]
abbrev mainB:Bs:=[77,65,73,78]
abbrev mainC:List Value:=[str mainB,.bool false,.slice none 0 0,.slice none 0 0]
def VF(w:World):
 Calls Tryz.prog 85 #[szK 0 0,szK 0 0] w (ρ w (szK 0 0)):=by
 go_enter func85,ntmps85;go_wp2;exact bZ (v:=szK 0 0) (by simp[results,results85,go_sem]) rfl ⟨rfl,(Ac (Ac (Ac (Aa _ _) _) _) _)⟩
def UK(w:World):
 Calls Tryz.prog 58 #[szK 0 0] w (ρ w (.bool false)):=by
 go_enter func58,ntmps58;go_wp2;go_ret;exact⟨rfl,(Ac (Aa _ _) _)⟩
def U1(w:World):
 Calls Tryz.prog 86 #[.slice none 0 0] w (ρ w (szK 0 0)):=by
 go_enter func86,ntmps86;go_wp2_with fail;go_loopg [5,8] 0 (λg v5 v8 wr=>g=0/\v8= .int .i64 0/\wr=(w.alloc (.cells #[.int .i64 0,.int .i64 0] 96 (0,0))).alloc (.cells #[.int .i64 0,.int .i64 0] 96 (0,0)))
 case atStart=>exact⟨rfl,rfl,rfl⟩
 case round=>
  obtain⟨rfl,rfl,rfl⟩:=hrel;go_wp2;exact bZ (v:=szK 0 0) (by simp[results,results86,go_sem]) rfl ⟨rfl,(Ac (Ac (Aa _ _) _) _)⟩
def L8:Keyed Tryz.prog 9:=string_keyed underlying9
def ZI(w:World):(zeroValue 4).run Tryz.prog w= .ok (.bool false) w:=by kernel_rfl
def RG{R:Value->Option (DataW Unit×List MemPlace)}(hs:s.length<=maxLen)(h:w.ownsMap Tryz.prog 9 R b 0 (.map [])):
 (Instr.lookup 62 (.map (some b)) (str s) false).run Tryz.prog w= .ok (.bool false) w:=by
 obtain⟨es,clock,hb,F,hn,hD⟩:=h;have he:es=#[]:=Array.eq_empty_of_size_eq_zero (by omega);subst he;rcases Maps.fit_look false L8 underlying62 (ZI w) hb F (keyOf_string_mk (s:=⟨s.toArray⟩) underlying9 hs)with⟨h,_,_⟩| ⟨e0,y,_,_,_,_,hat,_⟩
 ·exact h
 ·have:=hat .nil;have h2:=hat (.lit (.bool true));rw[<-this]at h2;cases h2
def UL{G c:Nat}(h:Blk w G mainC 40):
 Calls Tryz.prog 60 #[.slice (some ⟨G,0,none⟩) 1 c] w (ρ w (.bool false)):=by
 have hmm:=@run_makeMap Tryz.prog;have HB:=S h;clear h;go_enter func60,ntmps60;go_wp2_with fail;go_loopg [5,9] 1 (λg v5 v9 wr=>(g=1/\v9= .int .i64 0/\wr=w.alloc (.map #[] 0))\/(g=0/\v9= .int .i64 1/\w.grownBy wr none))
 case atStart=>exact .inl ⟨rfl,rfl,rfl⟩
 case round=>
  rcases hrel with⟨rfl,rfl,rfl⟩| ⟨rfl,rfl,hg⟩
  ·have g0:=gZ w (.map #[] 0) none;have hbk:=HB.1.gb g0 (by simp);have z0:=hbk.cell' 0 rfl;have z1:=hbk.cell' 1 rfl;have z2:=hbk.cell' 2 rfl;have z3:=hbk.cell' 3 rfl;have hgl:=hbk.lt;have HM:=S (World.ownsMap_made (H:=Unit) w Tryz.prog 9 (plainElem Tryz.prog 4));have hlk:=fun(W:World)(h:W.ownsMap Tryz.prog 9 (plainElem (H:=Unit) Tryz.prog 4) w.heap.size 0 (.map []))=>RG (s:=mainB) (by decide) h;have hl1:=hlk _ (HM.1.alloc (.cells #[str mainB,.bool false,.slice none 0 0,.slice none 0 0] 40 (0,0)));clear hbk hlk;have hkey:keyOf Tryz.prog 9 (str mainB)=some _:=keyOf_string_mk (s:=⟨mainB.toArray⟩) underlying9 (by decide);go_wp2_with (at_mapUpdate;refine wpList_mapUpdate_own _ rfl _ _ _ 62 rfl 9 4 L8 underlying62 (plainElem (H:=Unit) Tryz.prog 4) w.heap.size 0 _ rfl (HM.1.alloc _) (by unfold maxLen;omega) _ _ _ rfl rfl hkey _ [] (plainElem_bool underlying4 true) ?_;intro w1 hown1 hgrow1);have gwx:w.grownBy w1 none:=Aq (Ac (gZ w _ none) _) hgrow1 (.inr (nR _));clear hown1 hgrow1;go_roundg 0
   case measure=>omega
   case rel=>exact .inr ⟨rfl,rfl,gwx⟩
  ·have HG:=S hg;clear hg;go_wp2;go_ret;exact⟨rfl,HG.1⟩
def Qu(s:Bs)(w:World)(hs:s.length<=4000000):Calls Tryz.prog 61 #[str s] w (ρ w (.bool (Ay s))):=by
 go_enter func61,ntmps61;go_wp2_with fail;refine mR (Fj s w hs) λw1 hb=>?_;go_wp2;go_ret;exact⟨rfl,hb⟩
def Sa(w:World):
 Calls Tryz.prog 62 #[.slice none 0 0] w (ρ w (.bool true)):=by
 have hi:Calls Tryz.prog 112 #[.slice none 0 0,.func (.func 87) #[] #[]] w (ρ w (.int .i64 (-1))):=by
  go_enter func112,ntmps112;go_wp2_with fail;go_loopg [5,8] 0 (λg v5 v8 wr=>g=0/\v8= .int .i64 0/\wr=w)
  case atStart=>exact⟨rfl,rfl,rfl⟩
  case round=>
   obtain⟨rfl,rfl,rfl⟩:=hrel;go_wp2;go_ret;exact⟨rfl,(Aa _ _)⟩
 have HI:=S hi;clear hi;have hc:Calls Tryz.prog 80 #[.slice none 0 0,.func (.func 87) #[] #[]] w (ρ w (.bool false)):=by
  go_enter func80,ntmps80;go_wp2_with fail;refine mR HI.1 λw1 g1=>?_;go_wp2;go_ret;exact⟨rfl,g1⟩
 have HC:=S hc;clear hc;go_enter func62,ntmps62;go_wp2_with fail;refine mR HC.1 λw1 g1=>?_;go_wp2;go_ret;exact⟨rfl,g1⟩
def PQ(w:World):
 Calls Tryz.prog 121 #[.slice none 0 0,.func (.func 89) #[] #[]] w (ρ w (.int .i64 (-1))):=by
 go_enter func121,ntmps121;go_wp2_with fail;go_loopg [5,8] 0 (λg v5 v8 wr=>g=0/\v8= .int .i64 0/\wr=w)
 case atStart=>exact⟨rfl,rfl,rfl⟩
 case round=>
  obtain⟨rfl,rfl,rfl⟩:=hrel;go_wp2;go_ret;exact⟨rfl,(Aa _ _)⟩
def Sb(w:World):
 Calls Tryz.prog 63 #[.slice none 0 0] w (ρ w (.bool true)):=by
 have hc:Calls Tryz.prog 88 #[.slice none 0 0,.func (.func 89) #[] #[]] w (ρ w (.bool false)):=by
  go_enter func88,ntmps88;go_wp2_with fail;refine mR (PQ w) λw1 g1=>?_;go_wp2;go_ret;exact⟨rfl,g1⟩
 have HC:=S hc;clear hc;go_enter func63,ntmps63;go_wp2_with fail;refine mR HC.1 λw1 g1=>?_;go_wp2;go_ret;exact⟨rfl,g1⟩
def VE.node(h:RepL ok w (.slice la f.len lc) f):VE ok w (exV (hd0 op s) (.slice none 0 0) (.slice la f.len lc)) ⟨hd0 op s,f⟩:=
 ⟨none,0,la,lc,rfl,Cells.nil w 1 ok,h⟩
def Cells.new'{t:TypeId}{size:Nat}(hm:m=w.heap.size)(h:cs.length=n*size)(hn:n<=maxLen)(hok:ok m):
 Cells (w.alloc (.cells cs.toArray t (0,0))) (.slice (some ⟨m,0,none⟩) n n) size n cs ok:=by
 subst hm;refine⟨_,_,rfl,nR _,hn,h,λj u hj=>⟨w.heap.size,0,rfl,hok,?_⟩⟩;rw[Nat.zero_add];exact(Blk.new w cs t).cell' j hj
def RepL.two{y:Ex}{py ly:Value}(hn:n=w.heap.size)(hok:ok n)(px':Cells w px 1 x.h.p.length (x.h.p.map str) ok)(lx':RepL ok w lx x.kids)(py':Cells w py 1 y.h.p.length (y.h.p.map str) ok)(ly':RepL ok w ly y.kids):
 RepL ok (w.alloc (.cells (hdC x.h px lx++hdC y.h py ly).toArray 163 (0,0))) (.slice (some ⟨n,0,none⟩) 2 2) (.two x y):=by
 have g:=gZ w (.cells (hdC x.h px lx++hdC y.h py ly).toArray 163 (0,0)) none;exact⟨_,Cells.new' (size:=7) hn rfl (by decide) hok,((VE.rep px' lx').app (VE.rep py' ly')).gb g (by simp)⟩
def RepL.one(hn:n=w.heap.size)(hok:ok n)(px':Cells w px 1 x.h.p.length (x.h.p.map str) ok)(lx':RepL ok w lx x.kids):
 RepL ok (w.alloc (.cells (hdC x.h px lx).toArray 163 (0,0))) (.slice (some ⟨n,0,none⟩) 1 1) (.one x):=by
 have g:=gZ w (.cells (hdC x.h px lx).toArray 163 (0,0)) none;exact⟨_,Cells.new' (size:=7) hn rfl (by decide) hok,(VE.rep px' lx').gb g (by simp)⟩
def JJ(s:Bs)(x y:Ex){xv yv:Value}(w:World)(ok:Nat->Prop)(hok:∀k,w.heap.size<=k->ok k)(hx:VE ok w xv x)(hy:VE ok w yv y):
 Calls Tryz.prog 268 #[str s,xv,yv] w λe w'=>∃v,e= .returned v/\VE ok w' v (Bn s x y)/\w.grownBy w' none:=by
 obtain⟨pxa,pxc,lxa,lxc,rfl,hx,hx'⟩:=hx;obtain⟨pya,pyc,lya,lyc,rfl,hy,hy'⟩:=hy;have H:=S (X hok (X hx (X hx' (X hy hy'))));clear hok hx hx' hy hy';go_enter func268,ntmps268;go_wp2;obtain⟨hok,hx,hx',hy,hy'⟩:=H.1;refine bZ (v:=exV (hd0 5 s) (.slice none 0 0) (.slice (some ⟨w.heap.size+1+1+1,0,none⟩) 2 2)) ?_ rfl ⟨_,rfl,VE.node (f:= .two x y) ?_,?_⟩
 ·simp[results,results268,go_sem,hd0]
 ·have g:∀a b c,w.grownBy (((w.alloc a).alloc b).alloc c) none:=λa b c=>(Ac (Ac (Ac (Aa _ _) _) _) _);exact RepL.two (by simp) (hok _ (by omega)) (hx.gb (g _ _ _) (by simp)) (hx'.gb (g _ _ _) (by simp)) (hy.gb (g _ _ _) (by simp)) (hy'.gb (g _ _ _) (by simp))
 ·exact(Ac (Ac (Ac (Ac (Aa _ _) _) _) _) _)
abbrev PE(b:Nat)(tv wv:Value)(l:List Tok)(wl:List Bs)(w:World)(r:Res Ex):Ending->World->Prop:=Post b tv wv l wl w (VE (An w.heap.size)) r
abbrev zeroE:List Value:=[.int .i64 0,str [],.int .i64 0,.int .i64 0,str [],.slice none 0 0,.slice none 0 0]
def JoinR(l:List Tok)(wl:List Bs)(k:Nat)(opnd:Nat->Res Ex)(b:Nat)(tv wv:Value)(w:World)(L:Nat)(r:Res Ex)(m:Nat)(s:Value)(wr:World):Prop:=
 ∃x pa pc la lc j,s=str (AN l k j)/\Par wr b tv wv l wl (Iq (AN l k j) j)/\Blk wr L (hdC x.h (.slice pa x.h.p.length pc) (.slice la x.kids.len lc)) 163/\
  VE (λg=>w.heap.size<g/\g≠L) wr (exV x.h (.slice pa x.h.p.length pc) (.slice la x.kids.len lc)) x/\Dl l k opnd m x j=r/\w.grownBy wr (some b)/\b<L/\w.heap.size<L/\Blk wr w.heap.size zeroE 163
def I9(h:Par w b tv wv l wl i)(k:Nat)(hk:k<6)(n g:Nat)(first captured:Array Value)(opnd:Nat->Res Ex)(hcf:∀w,(callFunc g (first++captured)).run Tryz.prog w= .ok (.enter g (first++captured)) w)
 (hop:∀w1 j,w.grownBy w1 (some b)->Par w1 b tv wv l wl j->opnd j ≠ .out->Calls Tryz.prog g (first++captured) w1 (PE b tv wv l wl w1 (opnd j)))
 (hn:Bf l k n opnd i ≠ .out):
 Calls Tryz.prog 237 #[.pointer (some ⟨b,0,none⟩),.int .i64 k,.func (.func g) first captured] w (PE b tv wv l wl w (Bf l k n opnd i)):=by
 have HOP:=S hop;have HN:=S hn;clear hop hn;go_enter func237,ntmps237;go_wp2_with fail;have g0:w.grownBy (w.alloc (Obj.cells #[Value.int IntKind.i64 0,Value.string {data:=#[]},Value.int IntKind.i64 0,Value.int IntKind.i64 0,Value.string {data:=#[]},Value.slice none 0 0,Value.slice none 0 0] 163)) (some b):=(Ac (Aa _ _) _);have h0:=h.alloc (Obj.cells #[Value.int IntKind.i64 0,Value.string {data:=#[]},Value.int IntKind.i64 0,Value.int IntKind.i64 0,Value.string {data:=#[]},Value.slice none 0 0,Value.slice none 0 0] 163);refine(HOP.1 _ _ g0 h0 ?_).mono ?_
 ·intro e;exact HN.1 (by simp[Bf,e,Res.bind])
 have HCF:=S hcf;clear hcf;rintro e w1 ⟨g1,h1⟩;cases ho:opnd i with
 |out=>rw[ho]at h1;exact h1.elim
 | bad q=>
   rw[ho]at h1;subst h1;exact⟨rfl,Post.bad (Z g0 g1) (by simp[Bf,ho,Res.bind])⟩
 | ok x j=>
   rw[ho]at h1;obtain⟨v,rfl,⟨pa,pc,la,lc,rfl,rp,rl⟩,h1⟩:=h1;have hR:Bf l k n opnd i=Dl l k opnd n x j:=by simp[Bf,ho,Res.bind]
   rw[hR]at HN;have HJ:=S hR;clear hR ho;have HV:=S (X rp rl);clear rp rl;have gA:w.grownBy (w1.alloc (.cells (hdC x.h (.slice pa x.h.p.length pc) (.slice la x.kids.len lc)).toArray 163 (0,0))) (some b):=Ac (Z g0 g1) _;have hA:Par (w1.alloc (.cells (hdC x.h (.slice pa x.h.p.length pc) (.slice la x.kids.len lc)).toArray 163 (0,0))) b tv wv l wl j:=h1.alloc _;have hB:Blk (w1.alloc (.cells (hdC x.h (.slice pa x.h.p.length pc) (.slice la x.kids.len lc)).toArray 163 (0,0))) w1.heap.size (hdC x.h (.slice pa x.h.p.length pc) (.slice la x.kids.len lc)) 163:=Blk.new w1 _ _;go_wp2_with fail;refine(I4 hA k hk).mono ?_;rintro e w2 ⟨rfl,g2,h2⟩;have hb1:b<w1.heap.size:=h1.lt;go_wp2_with fail;go_loopg [8] n (λm s wr=>JoinR l wl k opnd b tv wv w w1.heap.size (Dl l k opnd n x j) m s wr)
   case atStart=>
    obtain⟨rp,rl⟩:=HV.1;have g3:w1.grownBy w2 (some b):=Z (Ac (Aa _ _) _) g2;refine⟨x,pa,pc,la,lc,j,rfl,h2,hB.gb g2 (by simp;omega),?_,rfl,Z gA g2,hb1,?_,?_⟩
    ·refine VE.gb (VE.mono (ok:=An _) ⟨_,_,_,_,rfl,rp,rl⟩ ?_) g3 ?_
     ·intro q hq1 hq2;have:=g0.size;simp at hq1;exact⟨by omega,by omega⟩
     ·intro q hq1 hq2 e;have:=h.lt;simp at e;omega
    ·have:=g1.size;simp at this;omega
    ·exact Blk.gb (Blk.gb (Blk.new w zeroE _) g1 (by have:=h.lt;simp;omega)) g3 (by have:=h.lt;simp;omega)
   case round=>
    obtain⟨y,ya,yc,ma,mc,j2,rfl,h3,hL,hV,hR,gr,hbL,hwL,hZ⟩:=hrel;rw[<-HJ.1]at hR HN;cases gk with
    |zero=>exact absurd hR.symm HN.1
    |succ m=>
    have hb0:=h.lt;by_cases he:AN l k j2=[]
    ·rw[he,IW]at h3;have HR:=S (show Bf l k n opnd i= .ok y j2 by rw[<-hR];simp[Dl,he]);have HV2:=S hV;rw[he];clear hR hV HV he hA hB gA h1;have cl_:=hL.c7;have cz_:=hZ.c7;go_wp2;have g7:=A2 wr w.heap.size (.int .i64 y.h.op) (str y.h.s) (.int .i64 y.h.vk) (.int .i64 y.h.vn) (str y.h.vs) (.slice ya y.h.p.length yc) (.slice ma y.kids.len mc);refine bZ (AK rfl _ (hZ.set7 _ _ _ _ _ _ _) rfl) rfl ?_;refine Post.ok (Aq gr g7 (.inr (nR _))) HR.1 (VE.mono (HV2.1.gb g7 ?_) ?_) (h3.gb g7 (by intro q e;cases e;omega))
     ·intro q hq _ e;simp at e;omega
     ·intro q hq _;simp;omega
    ·rw[Ji he]at h3;have hR':(opnd (j2+1)).bind (λz q=>Dl l k opnd m (Bn (AN l k j2) y z) q)=Bf l k n opnd i:=by
      rw[<-hR];simp[Dl,he]
     have HR:=S hR';have HV2:=S hV;have hs0:(AN l k j2==[])=false:=by simpa using he
     have hs1:(AN l k j2).isEmpty=false:=by simpa using he
     have HE:=S he;clear hR hR' hV HV hA hB gA h1 he;generalize hO:AN l k j2=o at*;have HO:=S hO;clear hO;have cl_:=hL.c7;have hLb:=hL.lt;have hcf:=HCF.1;cases ho2:opnd (j2+1)with
     |out=>exact absurd (by rw[<-HR.1,ho2];rfl) HN.1
     | bad q=>
       go_wp2_with fail;go_region_with(refine(HOP.1 _ _ (Ad gr) (h3.gbN (Ad (Aa _ _))) (by rw[ho2];simp)).mono ?_;rintro e w4 ⟨g4,h4⟩;rw[ho2]at h4;subst h4;refine Bt (P:=Tryz.prog) ⟨rfl,Post.bad (Z (Ad gr) g4) (by rw[<-HR.1,ho2];rfl)⟩ ⟨#[],[]⟩ w4 ?_);all_goals trivial
     | ok z q=>
       have hwr:=gr.size;go_wp2_with fail;go_region_with(first| ((with_reducible refine(HOP.1 _ _ (Ad gr) (h3.gbN (Ad (Aa _ _))) (by rw[ho2];simp)).mono ?_);rintro e w4 ⟨g4,h4⟩;rw[ho2]at h4;obtain⟨v,rfl,hv,h4⟩:=h4;have hg4:=Z (Ad (Aa wr (some b))) g4;have hL4:=hL.gb hg4 (by simp;omega);have dl_:=hL4.c7;have hok:∀q,w4.heap.size<=q->w.heap.size<q/\q≠w1.heap.size:=(λq hq=>by have:=hL4.lt;exact⟨by omega,by omega⟩);have hy:VE (λg=>w.heap.size<g/\g≠w1.heap.size) w4 _ y:=HV2.1.gb hg4 (λq hq _ e=>by cases e;omega);have hz:VE (λg=>w.heap.size<g/\g≠w1.heap.size) w4 v z:=hv.mono (λq hq _=>⟨by have:wr.heap.size<=q:=hq;omega,by have:wr.heap.size<=q:=hq;omega⟩))| (go_at_call 268;refine(JJ o y z _ _ hok hy hz).mono ?_;rintro e w5 ⟨u,rfl,hu,g5⟩;obtain⟨ua,uc,va,vc,rfl,ru,rv⟩:=hu;have hL5:=hL4.gb g5 (by simp);have el_:=hL5.c7));all_goals
        have g7:=A2 w5 w1.heap.size (.int .i64 (Bn o y z).h.op) (str (Bn o y z).h.s) (.int .i64 (Bn o y z).h.vk) (.int .i64 (Bn o y z).h.vn) (str (Bn o y z).h.vs) (.slice ua (Bn o y z).h.p.length uc) (.slice va (Bn o y z).kids.len vc);have hL7:=hL5.set7 (.int .i64 (Bn o y z).h.op) (str (Bn o y z).h.s) (.int .i64 (Bn o y z).h.vk) (.int .i64 (Bn o y z).h.vn) (str (Bn o y z).h.vs) (.slice ua (Bn o y z).h.p.length uc) (.slice va (Bn o y z).kids.len vc);have h7:=(h4.gbN g5).gb g7 (by intro q e;cases e;omega);have hV7:VE (λg=>w.heap.size<g/\g≠w1.heap.size) _ _ (Bn o y z):=VE.gb ⟨_,_,_,_,rfl,ru,rv⟩ g7 (by intro q hq _ e;cases e;exact hq.2 rfl);have gW:=Aq (Ag (Z (Ad gr) g4) g5) g7 (.inr (by have:=g0.size;have:=g1.size;simp at*;omega));have hZ7:=Blk.gb (Blk.gb (hZ.gb hg4 (by simp;omega)) g5 (by simp)) g7 (by simp;omega);go_wp2_with fail;refine(I4 h7 k hk).mono ?_;rintro e w6 ⟨rfl,g6,h6⟩;go_wp2_with fail;go_roundg m
        case measure=>omega
        case rel=>
         exact⟨Bn o y z,ua,uc,va,vc,q,rfl,h6,hL7.gb g6 (by simp;omega),hV7.gb g6 (by intro q hq _ e;cases e;omega),by rw[<-HJ.1,<-HR.1,ho2];rfl,Z gW g6,hbL,hwL,hZ7.gb g6 (by simp;omega)⟩
def CE(f:FuncId)(b:Nat)(tv wv:Value)(l:List Tok)(wl:List Bs)(M:Nat->Res Ex):Prop:=
 ∀w i,Par w b tv wv l wl i->M i ≠ .out->Calls Tryz.prog f #[.pointer (some ⟨b,0,none⟩)] w (PE b tv wv l wl w (M i))
def ZZ(w:World):(callFunc 239 (#[.pointer (some ⟨b,0,none⟩)]++#[])).run Tryz.prog w= .ok (.enter 239 (#[.pointer (some ⟨b,0,none⟩)]++#[])) w:=by kernel_rfl
def aA(w:World):(callFunc 298 (#[.pointer (some ⟨b,0,none⟩)]++#[])).run Tryz.prog w= .ok (.enter 298 (#[.pointer (some ⟨b,0,none⟩)]++#[])) w:=by kernel_rfl
def VQ(k:Nat)(w:World):(callFunc 238 (#[]++#[.pointer (some ⟨k,0,none⟩)])).run Tryz.prog w= .ok (.enter 238 (#[]++#[.pointer (some ⟨k,0,none⟩)])) w:=by kernel_rfl
def Yc(k:Nat)(w:World):(callFunc 297 (#[]++#[.pointer (some ⟨k,0,none⟩)])).run Tryz.prog w= .ok (.enter 297 (#[]++#[.pointer (some ⟨k,0,none⟩)])) w:=by kernel_rfl
def Jr{w0:World}(hb:b<w.heap.size)(g0:w.grownBy w0 (some b))(hr:r= .ok x i)(g1:w0.grownBy w1 (some b))(hv:VE (An w0.heap.size) w1 v x)(hp:Par w1 b tv wv l wl i)
  (hk:w.heap.size<=k) (hk2:k<w0.heap.size)  (g2:w1.grownBy w2 (some k)):PE b tv wv l wl w r (.returned v) w2:=
 Post.ok (Aq (Z g0 g1) g2 (.inr hk)) hr ((hv.gb g2 (by intro q hq _ e;have:w0.heap.size<=q:=hq;cases e;omega)).mono (by intro q hq _;have:w0.heap.size<=q:=hq;have:=g0.size;show w.heap.size<=q;omega)) (hp.gb g2 (by intro q' e;cases e;omega))
def UB{notf:Nat->Res Ex}(hnot:CE 239 b tv wv l wl notf)(n:Nat)(h:Par w b tv wv l wl i)(hk:w.cell? ⟨k,0,none⟩=some (.pointer (some ⟨b,0,none⟩)))(ho:Bf l 1 n notf i ≠ .out):
 Calls Tryz.prog 238 #[.pointer (some ⟨k,0,none⟩)] w (PE b tv wv l wl w (Bf l 1 n notf i)):=by
 have hkl:=bY w _ hk;have hb:=h.lt;simp only at hkl;have g0:w.grownBy (w.alloc (.cells zeroE.toArray 163 (0,0))) (some b):=Ac (Aa _ _) _;have hB:=Blk.new w zeroE 163;have H:=S (X hnot ho);clear hnot ho;go_enter func238,ntmps238;go_wp2_with fail;refine(I9 (h.alloc _) 1 (by decide) n 239 #[.pointer (some ⟨b,0,none⟩)] #[] notf ZZ (λw1 j _ hp hn=>H.1.1 w1 j hp hn) H.1.2).mono ?_;rintro e w1 ⟨g1,h1⟩;generalize hr:Bf l 1 n notf i=r at*;cases r with
 |out=>exact h1.elim
 | bad q=>
   subst h1;exact⟨rfl,Post.bad (Z g0 g1) rfl⟩
 | ok x j=>
   obtain⟨v,rfl,hv,h1⟩:=h1;have HV:=S hv;obtain⟨pa,pc,la,lc,rfl,-,-⟩:=hv;have hZ:=(hB).gb g1 (by simp;omega);have cz_:=hZ.c7;have HR:=S hr;clear hr;go_wp2;have g7:=A2 w1 w.heap.size (.int .i64 x.h.op) (str x.h.s) (.int .i64 x.h.vk) (.int .i64 x.h.vn) (str x.h.vs) (.slice pa x.h.p.length pc) (.slice la x.kids.len lc);exact bZ (AK rfl _ (hZ.set7 _ _ _ _ _ _ _) rfl) rfl (Jr h.lt g0 rfl g1 HV.1 h1 (by simp) (by simp) g7)
def Xs{powf:Nat->Res Ex}(hpow:CE 298 b tv wv l wl powf)(n:Nat)(h:Par w b tv wv l wl i)(hk:w.cell? ⟨k,0,none⟩=some (.pointer (some ⟨b,0,none⟩)))(ho:Bf l 4 n powf i ≠ .out):
 Calls Tryz.prog 297 #[.pointer (some ⟨k,0,none⟩)] w (PE b tv wv l wl w (Bf l 4 n powf i)):=by
 have hkl:=bY w _ hk;have hb:=h.lt;simp only at hkl;have g0:w.grownBy (w.alloc (.cells zeroE.toArray 163 (0,0))) (some b):=Ac (Aa _ _) _;have hB:=Blk.new w zeroE 163;have H:=S (X hpow ho);clear hpow ho;go_enter func297,ntmps297;go_wp2_with fail;refine(I9 (h.alloc _) 4 (by decide) n 298 #[.pointer (some ⟨b,0,none⟩)] #[] powf aA (λw1 j _ hp hn=>H.1.1 w1 j hp hn) H.1.2).mono ?_;rintro e w1 ⟨g1,h1⟩;generalize hr:Bf l 4 n powf i=r at*;cases r with
 |out=>exact h1.elim
 | bad q=>
   subst h1;exact⟨rfl,Post.bad (Z g0 g1) rfl⟩
 | ok x j=>
   obtain⟨v,rfl,hv,h1⟩:=h1;have HV:=S hv;obtain⟨pa,pc,la,lc,rfl,-,-⟩:=hv;have hZ:=(hB).gb g1 (by simp;omega);have cz_:=hZ.c7;have HR:=S hr;clear hr;go_wp2;have g7:=A2 w1 w.heap.size (.int .i64 x.h.op) (str x.h.s) (.int .i64 x.h.vk) (.int .i64 x.h.vn) (str x.h.vs) (.slice pa x.h.p.length pc) (.slice la x.kids.len lc);exact bZ (AK rfl _ (hZ.set7 _ _ _ _ _ _ _) rfl) rfl (Jr h.lt g0 rfl g1 HV.1 h1 (by simp) (by simp) g7)
def zGaa:(∀{b:Nat}{tv wv:Value}{l:List Tok}{wl:List Bs}{notf:Nat->Res Ex}(hnot:CE 239 b tv wv l wl notf)(n:Nat),CE 208 b tv wv l wl (Bf l 0 n (Bf l 1 n notf)))/\(∀{b:Nat}{tv wv:Value}{l:List Tok}{wl:List Bs}{powf:Nat->Res Ex}(hpow:CE 298 b tv wv l wl powf)(n:Nat),CE 270 b tv wv l wl (Bf l 3 n (Bf l 4 n powf))):=by
 refine⟨?a,?b⟩
 case' a=>
  intro b tv wv l wl notf hnot n;intro w i h ho;have hb:=h.lt;have g0:w.grownBy ((w.alloc (.cells #[.pointer (some ⟨b,0,none⟩)] 255 (0,0))).alloc (.cells zeroE.toArray 163 (0,0))) (some b):=Ac (Ac (Aa _ _) _) _;have hB:=Blk.new (w.alloc (.cells #[.pointer (some ⟨b,0,none⟩)] 255 (0,0))) zeroE 163;have hk:((w.alloc (.cells #[.pointer (some ⟨b,0,none⟩)] 255 (0,0))).alloc (.cells zeroE.toArray 163 (0,0))).cell? ⟨w.heap.size,0,none⟩=some (.pointer (some ⟨b,0,none⟩)):=by simp
  rw[World.size_alloc]at hB;have H:=S (X hnot (X ho hk));clear hnot ho hk;go_enter func208,ntmps208;go_wp2_with fail;refine(I9 ((h.alloc _).alloc _) 0 (by decide) n 238 #[] #[.pointer (some ⟨w.heap.size,0,none⟩)] (Bf l 1 n notf) (VQ _) (λw1 j g hp hn=>UB H.1.1 n hp (B9 g H.1.2.2 (by simp;omega)) hn) H.1.2.1).mono ?_;rintro e w1 ⟨g1,h1⟩;generalize hr:Bf l 0 n (Bf l 1 n notf) i=r at*
 case' b=>
  intro b tv wv l wl powf hpow n;intro w i h ho;have hb:=h.lt;have g0:w.grownBy ((w.alloc (.cells #[.pointer (some ⟨b,0,none⟩)] 255 (0,0))).alloc (.cells zeroE.toArray 163 (0,0))) (some b):=Ac (Ac (Aa _ _) _) _;have hB:=Blk.new (w.alloc (.cells #[.pointer (some ⟨b,0,none⟩)] 255 (0,0))) zeroE 163;have hk:((w.alloc (.cells #[.pointer (some ⟨b,0,none⟩)] 255 (0,0))).alloc (.cells zeroE.toArray 163 (0,0))).cell? ⟨w.heap.size,0,none⟩=some (.pointer (some ⟨b,0,none⟩)):=by simp
  rw[World.size_alloc]at hB;have H:=S (X hpow (X ho hk));clear hpow ho hk;go_enter func270,ntmps270;go_wp2_with fail;refine(I9 ((h.alloc _).alloc _) 3 (by decide) n 297 #[] #[.pointer (some ⟨w.heap.size,0,none⟩)] (Bf l 4 n powf) (Yc _) (λw1 j g hp hn=>Xs H.1.1 n hp (B9 g H.1.2.2 (by simp;omega)) hn) H.1.2.1).mono ?_;rintro e w1 ⟨g1,h1⟩;generalize hr:Bf l 3 n (Bf l 4 n powf) i=r at*
 all_goals
  cases r with
  |out=>exact h1.elim
  | bad q=>
    subst h1;exact⟨rfl,Post.bad (Z g0 g1) rfl⟩
  | ok x j=>
    obtain⟨v,rfl,hv,h1⟩:=h1;have HV:=S hv;obtain⟨pa,pc,la,lc,rfl,-,-⟩:=hv;have hZ:=(hB).gb g1 (by simp;omega);have cz_:=hZ.c7;have HR:=S hr;clear hr;go_wp2;have g7:=A2 w1 (w.heap.size+1) (.int .i64 x.h.op) (str x.h.s) (.int .i64 x.h.vk) (.int .i64 x.h.vn) (str x.h.vs) (.slice pa x.h.p.length pc) (.slice la x.kids.len lc);exact bZ (AK rfl _ (hZ.set7 _ _ _ _ _ _ _) rfl) rfl (Jr h.lt g0 rfl g1 HV.1 h1 (by simp) (by simp) g7)
def Br(h0:b<w.heap.size)(hr:r= .ok x i)(g:w.grownBy w1 (some b))(hv:VE ok w1 v x)(hok:∀k,ok k->w.heap.size<k)(hp:Par w1 b tv wv l wl i)
 (g2:w1.grownBy w2 (some w.heap.size)):PE b tv wv l wl w r (.returned v) w2:=
 Post.ok (Aq g g2 (.inr (nR _))) hr ((hv.gb g2 (by intro q hq _ e;have:=hok q hq;cases e;omega)).mono (by intro q hq _;have:=hok q hq;show w.heap.size<=q;omega)) (hp.gb g2 (by intro q e;cases e;omega))
def Ih{W:World}(h0:b<w.heap.size)(hr:r= .ok ⟨hd0 op s,.one x⟩ i)(g:w.grownBy w1 (some b))
 (rp:Cells w1 (.slice pa x.h.p.length pc) 1 x.h.p.length (x.h.p.map str) ok) (rl:RepL ok w1 (.slice la x.kids.len lc) x.kids) (hok:∀k,ok k->w.heap.size<k) (hp:Par w1 b tv wv l wl i) (g7:w1.grownBy W (some w.heap.size)) (hsz:W.heap.size=w1.heap.size):
 PE b tv wv l wl w r (.returned (exV (hd0 op s) (.slice none 0 0) (.slice (some ⟨w1.heap.size,0,none⟩) 1 1))) (W.alloc (Obj.cells #[Value.int IntKind.i64 x.h.op,str x.h.s,Value.int IntKind.i64 x.h.vk,Value.int IntKind.i64 x.h.vn,str x.h.vs,Value.slice pa x.h.p.length pc,Value.slice la x.kids.len lc] 163)):=by
 have hlt:=g.size;have rp':=rp.gb g7 (by intro q hq _ e;have:=hok q hq;cases e;omega);have rl':=rl.gb g7 (by intro q hq _ e;have:=hok q hq;cases e;omega);have hV:VE (An w.heap.size) (W.alloc (Obj.cells #[Value.int IntKind.i64 x.h.op,str x.h.s,Value.int IntKind.i64 x.h.vk,Value.int IntKind.i64 x.h.vn,str x.h.vs,Value.slice pa x.h.p.length pc,Value.slice la x.kids.len lc] 163)) (exV (hd0 op s) (.slice none 0 0) (.slice (some ⟨w1.heap.size,0,none⟩) 1 1)) ⟨hd0 op s,.one x⟩:=
  VE.node (f:= .one x) (RepL.one (ok:=An w.heap.size) (n:=w1.heap.size) hsz.symm (by show w.heap.size<=_;omega) (rp'.mono (by intro q hq _;have:=hok q hq;show w.heap.size<=q;omega)) (rl'.mono (by intro q hq _;have:=hok q hq;show w.heap.size<=q;omega)))
 exact Post.ok (Ac (Aq g g7 (.inr (nR _))) _) hr hV ((hp.gb g7 (by intro q e;cases e;omega)).alloc _)
def Y3{unf:Nat->Res Ex}(hun:CE 320 b tv wv l wl unf):∀m,CE 298 b tv wv l wl (D5 l unf m):=by
 intro m;induction m with
 |zero=>intro w i h ho;exact absurd rfl ho
 |succ m ih=>
 intro w i h ho;have hb:=h.lt;have g0:w.grownBy (w.alloc (.cells zeroE.toArray 163 (0,0))) (some b):=Ac (Aa _ _) _;have hB:=Blk.new w zeroE 163;have h0:=h.alloc (.cells zeroE.toArray 163 (0,0));have H:=S (X hun (X ih ho));clear hun ih ho;generalize hR:D5 l unf (m+1) i=R at*;have hR':(unf i).bind (λx j=>if(AN l 5 j).isEmpty then .ok x j else(D5 l unf m (j+1)).bind λy k=> .ok (Bn (AN l 5 j) x y) k)=R:=by rw[<-hR];rfl
 have HR:=S hR';clear hR hR';go_enter func298,ntmps298;go_wp2_with fail;have hw0:w.heap.size<(w.alloc (.cells zeroE.toArray 163 (0,0))).heap.size:=by simp
 refine(H.1.1 _ _ h0 (λe=>H.1.2.2 (by rw[<-HR.1,e];rfl))).mono ?_;rintro e w1 ⟨g1,h1⟩;cases ho:unf i with
 |out=>rw[ho]at h1;exact h1.elim
 | bad q=>
   rw[ho]at h1;subst h1;exact⟨rfl,Post.bad (Z g0 g1) (by rw[<-HR.1,ho];rfl)⟩
 | ok x j=>
   rw[ho]at h1;obtain⟨v,rfl,⟨pa,pc,la,lc,rfl,rp,rl⟩,h1⟩:=h1;have hb1:=h1.lt;have hs1:=g1.size;have HV:=S (VE.mono (ok':=λg=>w.heap.size<g/\g≠w1.heap.size) (⟨_,_,_,_,rfl,rp,rl⟩:VE (An _) w1 _ x) (by intro q hq hq2;have:(w.alloc (.cells zeroE.toArray 163 (0,0))).heap.size<=q:=hq;exact⟨by omega,by omega⟩));clear rp rl;have hZ:=hB.gb g1 (by simp;omega);have gA:=Ac (Z g0 g1) (.cells (hdC x.h (.slice pa x.h.p.length pc) (.slice la x.kids.len lc)).toArray 163 (0,0));have hA:=h1.alloc (.cells (hdC x.h (.slice pa x.h.p.length pc) (.slice la x.kids.len lc)).toArray 163 (0,0));have hL:=Blk.new w1 (hdC x.h (.slice pa x.h.p.length pc) (.slice la x.kids.len lc)) 163;go_wp2_with fail;refine(I4 hA 5 (by decide)).mono ?_;rintro e wr ⟨rfl,g2,h2⟩;have g12:w1.grownBy wr (some b):=Z (Ac (Aa _ _) _) g2;have gr:=Z gA g2;have hL2:=hL.gb g2 (by simp;omega);have hZ2:=(hZ.gb g12 (by simp;omega));have HV2:=S (HV.1.gb g12 (by intro q hq _ e;cases e;omega));have hwr:=gr.size;have hLb:=hL2.lt;clear gA hA hL g2 hB hZ g0 h0 HV;obtain⟨cl_0,cl_1,cl_2,cl_3,cl_4,cl_5,cl_6,cl_f⟩:=(hL2).c7;by_cases he:AN l 5 j=[]
   ·rw[he,IW]at h2;have HQ:=S (show R= .ok x j by rw[<-HR.1,ho];simp[Res.bind,he]);rw[he];clear he;have cz_:=hZ2.c7;go_wp2;have g7:=A2 wr w.heap.size (.int .i64 x.h.op) (str x.h.s) (.int .i64 x.h.vk) (.int .i64 x.h.vn) (str x.h.vs) (.slice pa x.h.p.length pc) (.slice la x.kids.len lc);exact bZ (AK rfl _ (hZ2.set7 _ _ _ _ _ _ _) rfl) rfl (Br hb HQ.1 gr HV2.1 (by intro k hk;exact hk.1) h2 g7)
   ·rw[Ji he]at h2;have hs0:(AN l 5 j==[])=false:=by simpa using he
    have hs2:(AN l 5 j).isEmpty=false:=by simpa using he
    have HQ:=S (show(D5 l unf m (j+1)).bind (λy k=> .ok (Bn (AN l 5 j) x y) k)=R by rw[<-HR.1,ho];simp[Res.bind,he]);clear he;generalize hO:AN l 5 j=o at*;clear hO;cases ho2:D5 l unf m (j+1)with
    |out=>exact absurd (show R= .out by rw[<-HQ.1,ho2];rfl) H.1.2.2
    | bad q=>
      go_wp2_with fail;go_region_with(go_at_call 298;refine(H.1.2.1 _ _ (h2.gbN (Ad (Aa _ _))) (by rw[ho2];simp)).mono ?_;rintro e w4 ⟨g4,h4⟩;rw[ho2]at h4;subst h4;refine Bt (P:=Tryz.prog) ⟨rfl,Post.bad (Z (Ad gr) g4) (by rw[<-HQ.1,ho2];rfl)⟩ ⟨#[],[]⟩ w4 ?_);all_goals trivial
    | ok z q=>
      go_wp2_with fail;go_region_with(first| (go_at_call 298;refine(H.1.2.1 _ _ (h2.gbN (Ad (Aa _ _))) (by rw[ho2];simp)).mono ?_;rintro e w4 ⟨g4,h4⟩;rw[ho2]at h4;obtain⟨v,rfl,hv,h4⟩:=h4;have hg4:=Z (Ad (Aa wr (some b))) g4;have hL4:=hL2.gb hg4 (by simp;omega);obtain⟨dl_0,dl_1,dl_2,dl_3,dl_4,dl_5,dl_6,dl_f⟩:=(hL4).c7;have hok:∀q,w4.heap.size<=q->w.heap.size<q/\q≠w1.heap.size:=(λq hq=>by have:=hL4.lt;exact⟨by omega,by omega⟩);have hy:VE (λg=>w.heap.size<g/\g≠w1.heap.size) w4 _ x:=HV2.1.gb hg4 (λq hq _ e=>by cases e;omega);have hz:VE (λg=>w.heap.size<g/\g≠w1.heap.size) w4 v z:=hv.mono (λq hq _=>⟨by have:wr.heap.size<=q:=hq;omega,by have:wr.heap.size<=q:=hq;omega⟩))| (go_at_call 268;refine(JJ o x z _ _ hok hy hz).mono ?_;rintro e w5 ⟨u,rfl,hu,g5⟩;obtain⟨ua,uc,va,vc,rfl,ru,rv⟩:=hu;have hL5:=hL4.gb g5 (by simp);obtain⟨el_0,el_1,el_2,el_3,el_4,el_5,el_6,el_f⟩:=(hL5).c7));all_goals
       generalize hbe:Bn o x z=bz at*;have HBE:=S hbe;have g7:=A2 w5 w1.heap.size (.int .i64 bz.h.op) (str bz.h.s) (.int .i64 bz.h.vk) (.int .i64 bz.h.vn) (str bz.h.vs) (.slice ua bz.h.p.length uc) (.slice va bz.kids.len vc);have hL7:=hL5.set7 (.int .i64 bz.h.op) (str bz.h.s) (.int .i64 bz.h.vk) (.int .i64 bz.h.vn) (str bz.h.vs) (.slice ua bz.h.p.length uc) (.slice va bz.kids.len vc);have h7:=(h4.gbN g5).gb g7 (by intro q e;cases e;omega);have hV7:VE (λg=>w.heap.size<g/\g≠w1.heap.size) _ _ bz:=VE.gb ⟨_,_,_,_,rfl,ru,rv⟩ g7 (by intro q hq _ e;cases e;exact hq.2 rfl);have gW:=Aq (Ag (Z (Ad gr) g4) g5) g7 (.inr (by omega));have hZ7:=Blk.gb (Blk.gb (hZ2.gb hg4 (by simp;omega)) g5 (by simp)) g7 (by simp;omega);have hQ:R= .ok bz q:=by rw[<-HQ.1,ho2,<-hbe];rfl
       simp only[set7]at hL7 h7 hV7 gW hZ7;clear g7 ru rv hy hz hok hbe cl_0 cl_1 cl_2 cl_3 cl_4 cl_5 cl_6 cl_f dl_0 dl_1 dl_2 dl_3 dl_4 dl_5 dl_6 dl_f el_0 el_1 el_2 el_3 el_4 el_5 el_6 el_f hL4 hL5 hL2 hZ2 hs0 hs2;generalize(((((((w5.setCell {block:=w1.heap.size,off:=0} (.int .i64 bz.h.op)).setCell {block:=w1.heap.size,off:=1} (.string {data:=List.toArray bz.h.s})).setCell {block:=w1.heap.size,off:=2} (.int .i64 bz.h.vk)).setCell {block:=w1.heap.size,off:=3} (.int .i64 bz.h.vn)).setCell {block:=w1.heap.size,off:=4} (.string {data:=List.toArray bz.h.vs})).setCell {block:=w1.heap.size,off:=5} (.slice ua bz.h.p.length uc)).setCell {block:=w1.heap.size,off:=6} (.slice va bz.kids.len vc))=W at*;have HF:=S (X h7 (X hV7 (X gW hQ)));clear h7 hV7 gW hQ;obtain⟨cl_0,cl_1,cl_2,cl_3,cl_4,cl_5,cl_6,cl_f⟩:=(hL7).c7;have cz_:=hZ7.c7;go_wp2;have g7:=A2 W w.heap.size (.int .i64 bz.h.op) (str bz.h.s) (.int .i64 bz.h.vk) (.int .i64 bz.h.vn) (str bz.h.vs) (.slice ua bz.h.p.length uc) (.slice va bz.kids.len vc);obtain⟨h7,hV7,gW,hQ⟩:=HF.1;exact bZ (AK rfl _ (hZ7.set7 _ _ _ _ _ _ _) rfl) rfl (Br hb hQ gW hV7 (by intro k hk;exact hk.1) h7 g7)
def NotP(b:Nat)(tv wv:Value)(l:List Tok)(wl:List Bs)(w:World)(i:Nat)(q:Bool)(wb:World):Prop:=
 q=(Ah (Ab l i) [46,78,79,84,46]||Ah (Ab l i) [33])/\Par wb b tv wv l wl (if q then i+1 else i)/\w.grownBy wb (some b)/\Blk wb w.heap.size zeroE 163/\w.heap.size<wb.heap.size
def Zk{sumf:Nat->Res Ex}(hsum:CE 270 b tv wv l wl sumf):∀m,CE 239 b tv wv l wl (Dq l sumf m):=by
 intro m;induction m with
 |zero=>intro w i h ho;exact absurd rfl ho
 |succ m ih=>
 intro w i h ho;have hb:=h.lt;have gz:w.grownBy (w.alloc (.cells zeroE.toArray 163 (0,0))) (some b):=Ac (Aa _ _) _;have hz:=Blk.new w zeroE 163;have hp:=h.alloc (.cells zeroE.toArray 163 (0,0));have H:=S (X ih (X hsum ho));have HZ:=S (X gz hz);have HP:=S hp;generalize hR:Dq l sumf (m+1) i=R at*;have HR:=S hR;clear hR hsum ih ho gz hz hp;go_enter func239,ntmps239;go_upto_region 1 with fail;go_cut [10] (λv10 wb=>∃q,v10= .bool q/\NotP b tv wv l wl w i q wb)
 case first=>
  cases h1:Ah (Ab l i) [46,78,79,84,46]with
  | true=>
    go_wp2_with fail;refine(Bm HP.1 _ h1).mono ?_;rintro e wb ⟨rfl,h0,gb⟩;have HX:=S (show NotP b tv wv l wl w i true wb from⟨by rw[h1];rfl,h0,Z HZ.1.1 gb,Blk.gb HZ.1.2 gb (by simp;omega),by have:=gb.size;simp at*;omega⟩);clear h0 gb h1;go_wp2;go_meet;exact⟨true,rfl,HX.1⟩
  | false=>
    go_wp2_with fail;refine mR (Bb HP.1 _ h1) λwa ga=>?_;have hpa:=HP.1.gbN ga;cases h2:Ah (Ab l i) [33]with
    | true=>
      go_wp2_with fail;refine(Bm hpa _ h2).mono ?_;rintro e wb ⟨rfl,h0,gb⟩;have HX:=S (show NotP b tv wv l wl w i true wb from⟨by rw[h1,h2];rfl,h0,Z (Ag HZ.1.1 ga) gb,(HZ.1.2.gb ga (by simp)).gb gb (by simp;omega),by have:=ga.size;have:=gb.size;simp at*;omega⟩);clear h0 gb h1 h2 hpa ga;go_wp2;go_meet;exact⟨true,rfl,HX.1⟩
    | false=>
      go_wp2_with fail;refine mR (Bb hpa _ h2) λwb gb=>?_;have HX:=S (show NotP b tv wv l wl w i false wb from⟨by rw[h1,h2];rfl,hpa.gbN gb,Ag (Ag HZ.1.1 ga) gb,(HZ.1.2.gb ga (by simp)).gb gb (by simp),by have:=ga.size;have:=gb.size;simp at*;omega⟩);clear gb h1 h2 hpa ga;go_wp2;go_meet;exact⟨false,rfl,HX.1⟩
 case rest=>
 obtain⟨q,rfl,hq,h0,g0,hB,hw0⟩:=hcut;clear HZ HP;cases q with
 | true=>
   have hR':(Dq l sumf m (i+1)).bind (λx j=> .ok (unE [46,78,79,84,46] x) j)=R:=by rw[<-HR.1];simp[Dq,<-hq]
   replace HR:=S hR';clear hR' hq;change Par _ b tv wv l wl (i+1)at h0;go_wp2_with fail;refine(H.1.1 _ _ h0 (λe=>H.1.2.2 (by rw[<-HR.1,e];rfl))).mono ?_;rintro e w1 ⟨g1,h1⟩;cases ho:Dq l sumf m (i+1)with
   |out=>rw[ho]at h1;exact h1.elim
   | bad q=>
     rw[ho]at h1;subst h1;exact⟨rfl,Post.bad (Z g0 g1) (by rw[<-HR.1,ho];rfl)⟩
   | ok x j=>
     rw[ho]at h1;obtain⟨v,rfl,⟨pa,pc,la,lc,rfl,rp,rl⟩,h1⟩:=h1;have hs1:=g1.size;have hb1:=h1.lt;have hlt1:w.heap.size<w1.heap.size:=by omega
     have hZ:=hB.gb g1 (by simp;omega);have hQ:R= .ok (unE [46,78,79,84,46] x) j:=by rw[<-HR.1,ho];rfl
     have H2:=S (X rp (X rl hQ));clear rp rl hQ hB h0;have cz_:=hZ.c7;go_wp2;obtain⟨rp,rl,hQ⟩:=H2.1;have g7:=A2 w1 w.heap.size (.int .i64 4) (str [46,78,79,84,46]) (.int .i64 0) (.int .i64 0) (str []) (.slice none 0 0) (.slice (some ⟨w1.heap.size,0,none⟩) 1 1);have hW:=hZ.set7 (.int .i64 4) (str [46,78,79,84,46]) (.int .i64 0) (.int .i64 0) (str []) (.slice none 0 0) (.slice (some ⟨w1.heap.size,0,none⟩) 1 1);have hsz:(set7 w1 w.heap.size (.int .i64 4) (str [46,78,79,84,46]) (.int .i64 0) (.int .i64 0) (str []) (.slice none 0 0) (.slice (some ⟨w1.heap.size,0,none⟩) 1 1)).heap.size=w1.heap.size:=by simp[set7]
     simp only[set7]at hW g7 hsz;generalize(((((((w1.setCell {block:=w.heap.size,off:=0} (.int .i64 4)).setCell {block:=w.heap.size,off:=1} (str [46,78,79,84,46])).setCell {block:=w.heap.size,off:=2} (.int .i64 0)).setCell {block:=w.heap.size,off:=3} (.int .i64 0)).setCell {block:=w.heap.size,off:=4} (str [])).setCell {block:=w.heap.size,off:=5} (.slice none 0 0)).setCell {block:=w.heap.size,off:=6} (.slice (some ⟨w1.heap.size,0,none⟩) 1 1))=W at*;exact bZ (AK (hd:=hd0 4 [46,78,79,84,46]) (pv:= .slice none 0 0) (lv:= .slice (some ⟨w1.heap.size,0,none⟩) 1 1) rfl _ (Blk.alloc hW (Obj.cells #[Value.int IntKind.i64 x.h.op,str x.h.s,Value.int IntKind.i64 x.h.vk,Value.int IntKind.i64 x.h.vn,str x.h.vs,Value.slice pa x.h.p.length pc,Value.slice la x.kids.len lc] 163)) rfl) rfl (Ih (op:=4) (s:=[46,78,79,84,46]) hb hQ (Z g0 g1) rp rl (by intro q hq;have:(wc).heap.size<=q:=hq;omega) h1 g7 hsz)
 | false=>
   have hR':(sumf i).bind (λx j=>if(AN l 2 j).isEmpty then .ok x j else(sumf (j+1)).bind λy k=> .ok (Bn (AN l 2 j) x y) k)=R:=by rw[<-HR.1];simp[Dq,<-hq]
   replace HR:=S hR';clear hR' hq;change Par _ b tv wv l wl i at h0;go_wp2_with fail;refine(H.1.2.1 _ _ h0 (λe=>H.1.2.2 (by rw[<-HR.1,e];rfl))).mono ?_;rintro e w1 ⟨g1,h1⟩;cases ho:sumf i with
   |out=>rw[ho]at h1;exact h1.elim
   | bad q=>
     rw[ho]at h1;subst h1;exact⟨rfl,Post.bad (Z g0 g1) (by rw[<-HR.1,ho];rfl)⟩
   | ok x j=>
     rw[ho]at h1;obtain⟨v,rfl,⟨pa,pc,la,lc,rfl,rp,rl⟩,h1⟩:=h1;have hb1:=h1.lt;have hs1:=g1.size;have HV:=S (VE.mono (ok':=λg=>w.heap.size<g/\g≠w1.heap.size) (⟨_,_,_,_,rfl,rp,rl⟩:VE (An _) w1 _ x) (by intro q hq hq2;have:(wc).heap.size<=q:=hq;exact⟨by omega,by omega⟩));clear rp rl;have hZ:=hB.gb g1 (by simp;omega);have gA:=Ac (Z g0 g1) (.cells (hdC x.h (.slice pa x.h.p.length pc) (.slice la x.kids.len lc)).toArray 163 (0,0));have hA:=h1.alloc (.cells (hdC x.h (.slice pa x.h.p.length pc) (.slice la x.kids.len lc)).toArray 163 (0,0));have hL:=Blk.new w1 (hdC x.h (.slice pa x.h.p.length pc) (.slice la x.kids.len lc)) 163;go_wp2_with fail;refine(I4 hA 2 (by decide)).mono ?_;rintro e wr ⟨rfl,g2,h2⟩;have g12:w1.grownBy wr (some b):=Z (Ac (Aa _ _) _) g2;have gr:=Z gA g2;have hL2:=hL.gb g2 (by simp;omega);have hZ2:=(hZ.gb g12 (by simp;omega));have HV2:=S (HV.1.gb g12 (by intro q hq _ e;cases e;omega));have hwr:=gr.size;have hLb:=hL2.lt;clear gA hA hL g2 hB hZ g0 h0 HV;obtain⟨cl_0,cl_1,cl_2,cl_3,cl_4,cl_5,cl_6,cl_f⟩:=(hL2).c7;by_cases he:AN l 2 j=[]
     ·rw[he,IW]at h2;have HQ:=S (show R= .ok x j by rw[<-HR.1,ho];simp[Res.bind,he]);rw[he];clear he;have cz_:=hZ2.c7;go_wp2;have g7:=A2 wr w.heap.size (.int .i64 x.h.op) (str x.h.s) (.int .i64 x.h.vk) (.int .i64 x.h.vn) (str x.h.vs) (.slice pa x.h.p.length pc) (.slice la x.kids.len lc);exact bZ (AK rfl _ (hZ2.set7 _ _ _ _ _ _ _) rfl) rfl (Br hb HQ.1 gr HV2.1 (by intro k hk;exact hk.1) h2 g7)
     ·rw[Ji he]at h2;have hs0:(AN l 2 j==[])=false:=by simpa using he
      have hs2:(AN l 2 j).isEmpty=false:=by simpa using he
      have HQ:=S (show(sumf (j+1)).bind (λy k=> .ok (Bn (AN l 2 j) x y) k)=R by rw[<-HR.1,ho];simp[Res.bind,he]);clear he;generalize hO:AN l 2 j=o at*;clear hO;cases ho2:sumf (j+1)with
      |out=>exact absurd (show R= .out by rw[<-HQ.1,ho2];rfl) H.1.2.2
      | bad q=>
        go_wp2_with fail;go_region_with(go_at_call 270;refine(H.1.2.1 _ _ (h2.gbN (Ad (Aa _ _))) (by rw[ho2];simp)).mono ?_;rintro e w4 ⟨g4,h4⟩;rw[ho2]at h4;subst h4;refine Bt (P:=Tryz.prog) ⟨rfl,Post.bad (Z (Ad gr) g4) (by rw[<-HQ.1,ho2];rfl)⟩ ⟨#[],[]⟩ w4 ?_);all_goals trivial
      | ok z q=>
        go_wp2_with fail;go_region_with(first| (go_at_call 270;refine(H.1.2.1 _ _ (h2.gbN (Ad (Aa _ _))) (by rw[ho2];simp)).mono ?_;rintro e w4 ⟨g4,h4⟩;rw[ho2]at h4;obtain⟨v,rfl,hv,h4⟩:=h4;have hg4:=Z (Ad (Aa wr (some b))) g4;have hL4:=hL2.gb hg4 (by simp;omega);obtain⟨dl_0,dl_1,dl_2,dl_3,dl_4,dl_5,dl_6,dl_f⟩:=(hL4).c7;have hok:∀q,w4.heap.size<=q->w.heap.size<q/\q≠w1.heap.size:=(λq hq=>by have:=hL4.lt;exact⟨by omega,by omega⟩);have hy:VE (λg=>w.heap.size<g/\g≠w1.heap.size) w4 _ x:=HV2.1.gb hg4 (λq hq _ e=>by cases e;omega);have hz:VE (λg=>w.heap.size<g/\g≠w1.heap.size) w4 v z:=hv.mono (λq hq _=>⟨by have:wr.heap.size<=q:=hq;omega,by have:wr.heap.size<=q:=hq;omega⟩))| (go_at_call 268;refine(JJ o x z _ _ hok hy hz).mono ?_;rintro e w5 ⟨u,rfl,hu,g5⟩;obtain⟨ua,uc,va,vc,rfl,ru,rv⟩:=hu;have hL5:=hL4.gb g5 (by simp);obtain⟨el_0,el_1,el_2,el_3,el_4,el_5,el_6,el_f⟩:=(hL5).c7));all_goals
         generalize hbe:Bn o x z=bz at*;have HBE:=S hbe;have g7:=A2 w5 w1.heap.size (.int .i64 bz.h.op) (str bz.h.s) (.int .i64 bz.h.vk) (.int .i64 bz.h.vn) (str bz.h.vs) (.slice ua bz.h.p.length uc) (.slice va bz.kids.len vc);have hL7:=hL5.set7 (.int .i64 bz.h.op) (str bz.h.s) (.int .i64 bz.h.vk) (.int .i64 bz.h.vn) (str bz.h.vs) (.slice ua bz.h.p.length uc) (.slice va bz.kids.len vc);have h7:=(h4.gbN g5).gb g7 (by intro q e;cases e;omega);have hV7:VE (λg=>w.heap.size<g/\g≠w1.heap.size) _ _ bz:=VE.gb ⟨_,_,_,_,rfl,ru,rv⟩ g7 (by intro q hq _ e;cases e;exact hq.2 rfl);have gW:=Aq (Ag (Z (Ad gr) g4) g5) g7 (.inr (by omega));have hZ7:=Blk.gb (Blk.gb (hZ2.gb hg4 (by simp;omega)) g5 (by simp)) g7 (by simp;omega);have hQ:R= .ok bz q:=by rw[<-HQ.1,ho2,<-hbe];rfl
         simp only[set7]at hL7 h7 hV7 gW hZ7;clear g7 ru rv hy hz hok hbe cl_0 cl_1 cl_2 cl_3 cl_4 cl_5 cl_6 cl_f dl_0 dl_1 dl_2 dl_3 dl_4 dl_5 dl_6 dl_f el_0 el_1 el_2 el_3 el_4 el_5 el_6 el_f hL4 hL5 hL2 hZ2 hs0 hs2;generalize(((((((w5.setCell {block:=w1.heap.size,off:=0} (.int .i64 bz.h.op)).setCell {block:=w1.heap.size,off:=1} (.string {data:=List.toArray bz.h.s})).setCell {block:=w1.heap.size,off:=2} (.int .i64 bz.h.vk)).setCell {block:=w1.heap.size,off:=3} (.int .i64 bz.h.vn)).setCell {block:=w1.heap.size,off:=4} (.string {data:=List.toArray bz.h.vs})).setCell {block:=w1.heap.size,off:=5} (.slice ua bz.h.p.length uc)).setCell {block:=w1.heap.size,off:=6} (.slice va bz.kids.len vc))=W at*;have HF:=S (X h7 (X hV7 (X gW hQ)));clear h7 hV7 gW hQ;obtain⟨cl_0,cl_1,cl_2,cl_3,cl_4,cl_5,cl_6,cl_f⟩:=(hL7).c7;have cz_:=hZ7.c7;go_wp2;have g7:=A2 W w.heap.size (.int .i64 bz.h.op) (str bz.h.s) (.int .i64 bz.h.vk) (.int .i64 bz.h.vn) (str bz.h.vs) (.slice ua bz.h.p.length uc) (.slice va bz.kids.len vc);obtain⟨h7,hV7,gW,hQ⟩:=HF.1;exact bZ (AK rfl _ (hZ7.set7 _ _ _ _ _ _ _) rfl) rfl (Br hb hQ gW hV7 (by intro k hk;exact hk.1) h7 g7)
def Fine{α:Type}(o:Prop)(L i:Nat):Res α->Prop
 | .ok _ j=>i<j/\j<=L
 | .bad _=>True
 | .out=>¬o
def Fine.bind{r:Res α}{f:α->Nat->Res β}(h:Fine o L i r)(hf:∀a j,r= .ok a j->i<j->j<=L->Fine o L i (f a j)):Fine o L i (r.bind f):=by
 cases r with
 |ok a j=>exact hf a j rfl h.1 h.2
 |bad k=>trivial
 |out=>exact h
def Fine.mono{r:Res α}(h:Fine o L i' r)(hi:i<=i'):Fine o L i r:=by
 cases r with
 |ok a j=>exact⟨by have:=h.1;omega,h.2⟩
 |bad k=>trivial
 |out=>exact h
def Fine.weak{o':Prop}{r:Res α}(h:Fine o' L i r)(ho:o->o'):Fine o L i r:=by
 cases r with
 |ok a j=>exact h
 |bad k=>trivial
 |out=>exactλk=>h (ho k)
def Fine.bind'{r:Res α}{f:α->Nat->Res β}(hi:i<=i')(h:Fine o L i' r)(hf:∀a j,r= .ok a j->i'<j->j<=L->Fine o L i (f a j)):Fine o L i (r.bind f):=by
 cases r with
 |ok a j=>exact hf a j rfl h.1 h.2
 |bad k=>trivial
 |out=>exact h
def Fu(h:(Ab l j).kind ≠ -1):j<l.length:=by
 by_cases hi:j<l.length
 ·exact hi
 ·exact absurd (by simp[Ab,List.getElem?_eq_none (Nat.le_of_not_lt hi)]) h
def BF(h:Ah (Ab l j) s=true):j<l.length:=by
 apply Fu;simp[Ah]at h;omega
def Lt(h:(AN l k j).isEmpty≠true):j<l.length:=by
 apply Fu;intro e;apply h;simp[AN,e]
def Eb(s:Bs)(q:Nat):Fine o l.length q (AW l s q):=by
 unfold AW;split
 ·rename_i h;exact⟨by omega,BF h⟩
 ·trivial
def NW(q:Nat):Fine o l.length q (B3 l q):=by
 unfold B3;split
 ·rename_i h;exact⟨by omega,Fu (by simp at h;omega)⟩
 ·trivial
def Fe(q:Nat):Fine o l.length q (AD l q):=by
 unfold AD;split
 ·rename_i h;exact⟨by omega,Fu (by simp at h;omega)⟩
 ·trivial
def P1(h:∀q,i<=q->Fine o l.length q (opnd q)):∀n x j,i<j->j<=l.length->(o->l.length-j+1<=n)->Fine o l.length i (Dl l k opnd n x j):=by
 intro n;induction n with
 |zero=>intro x j h1 h2 h3 ho;have:=h3 ho;omega
 | succ n ih=>
   intro x j h1 h2 h3;unfold Dl;split
   ·exact⟨h1,h2⟩
   ·rename_i he;have:=Lt he;refine Fine.bind' (i':=j+1) (by omega) (h _ (by omega)) λy q _ hq hl=>ih _ _ (by omega) hl λho=>by have:=h3 ho;omega
def I8(h:∀q,i<=q->Fine o l.length q (opnd q))(hn:o->l.length-i<=n):∀q,i<=q->Fine o l.length q (Bf l k n opnd q):=by
 intro q hq;exact Fine.bind (h q hq) λx j _ hj hl=>(P1 (i:=q) (λp hp=>h p (by omega)) n x j hj hl λho=>by have:=hn ho;omega)
def Vf{pow:Nat->Res Ex}(h:∀q,i<=q->Fine o l.length q (pow q))(hn:o->l.length-i<=n):∀q,i<=q->Fine o l.length q (sumM l n pow q):=
 I8 (I8 h hn) hn
def Vy(h:∀q,i<=q->Fine o l.length q (un q)):∀n q,i<=q->(o->l.length-q+1<=n)->Fine o l.length q (D5 l un n q):=by
 intro n;induction n with
 |zero=>intro q hq hn ho;have:=hn ho;omega
 | succ n ih=>
   intro q hq hn;unfold D5;refine Fine.bind (h q hq) λx j _ hj hl=>?_;split
   ·exact⟨hj,hl⟩
   ·rename_i he;have:=Lt he;exact Fine.bind' (i':=j+1) (by omega) (ih _ (by omega) λho=>by have:=hn ho;omega) λy k _ hk hl=>⟨by omega,hl⟩
def Uz{sum:Nat->Res Ex}(h:∀q,i<=q->Fine o l.length q (sum q)):∀n q,i<=q->(o->l.length-q+1<=n)->Fine o l.length q (Dq l sum n q):=by
 intro n;induction n with
 |zero=>intro q hq hn ho;have:=hn ho;omega
 | succ n ih=>
   intro q hq hn;unfold Dq;split
   ·rename_i hs;have hlt:q<l.length:=by
     rw[Bool.or_eq_true]at hs;rcases hs with h|h
     ·exact BF h
     ·exact BF h
    exact Fine.bind' (i':=q+1) (by omega) (ih _ (by omega) λho=>by have:=hn ho;omega) λy k _ hk hl=>⟨by omega,hl⟩
   ·refine Fine.bind (h q hq) λx j _ hj hl=>?_;split
    ·exact⟨hj,hl⟩
    ·rename_i he;have:=Lt he;exact Fine.bind' (i':=j+1) (by omega) (h _ (by omega)) λy k _ hk hl=>⟨by omega,hl⟩
def PO(h:i<l.length->∀q,i<q->Fine o l.length q (E q)):∀n x j,i<j->j<=l.length->(o->l.length-j+1<=n)->Fine o l.length i (CI l E n x j):=by
 intro n;induction n with
 |zero=>intro x j h1 h2 h3 ho;have:=h3 ho;omega
 | succ n ih=>
   intro x j h1 h2 h3;unfold CI;split
   ·rename_i hs;have:=BF hs;refine Fine.bind' (i':=j+1) (by omega) (h (by omega) _ (by omega)) λy q _ hq hl=>?_;refine Fine.bind' (i':=q) (by omega) (Eb _ _) λ_ k _ hk hl=>ih _ _ (by omega) hl λho=>by have:=h3 ho;omega
   ·exact⟨h1,h2⟩
def R3{prim:Nat->Res Ex}(hE:i<l.length->∀q,i<q->Fine o l.length q (E q))(hP:∀q,i<=q->Fine o l.length q (prim q)):∀n q,i<=q->(o->l.length-q+1<=n)->Fine o l.length q (CH l E prim n q):=by
 intro n;induction n with
 |zero=>intro q hq hn ho;have:=hn ho;omega
 | succ n ih=>
   intro q hq hn;unfold CH;split
   ·rename_i hs;have:=BF hs;exact Fine.bind' (i':=q+1) (by omega) (ih _ (by omega) λho=>by have:=hn ho;omega) λy k _ hk hl=>⟨by omega,hl⟩
   ·refine Fine.bind (hP q hq) λx j _ hj hl=>?_;exact PO (i:=q) (λ_ p hp=>hE (by omega) p (by omega)) n x j hj hl λho=>by have:=hn ho;omega
def P2(h:∀q,i<q->Fine o l.length q (E q)):∀n f j,i<j->j<=l.length->(o->l.length-j+1<=n)->Fine o l.length i (Di l E n f j):=by
 intro n;induction n with
 |zero=>intro x j h1 h2 h3 ho;have:=h3 ho;omega
 | succ n ih=>
   intro x j h1 h2 h3;unfold Di;split
   ·rename_i hs;have:=BF hs;refine Fine.bind' (i':=j+1) (by omega) (h _ (by omega)) λy q _ hq hl=>ih _ _ (by omega) hl λho=>by have:=h3 ho;omega
   ·exact⟨h1,h2⟩
def Kc(h:∀q,i<=q->Fine o l.length q (E q))(hn:o->l.length-i<=n):Fine o l.length i (Dd l E n i):=by
 refine Fine.bind (h i (nR _)) λx j _ hj hl=>P2 (λq hq=>h q (by omega)) n _ j hj hl λho=>by have:=hn ho;omega
def Pg:∀n f j,i<j->j<=l.length->(o->l.length-j+1<=n)->Fine o l.length i (Dk l n f j):=by
 intro n;induction n with
 |zero=>intro x j h1 h2 h3 ho;have:=h3 ho;omega
 | succ n ih=>
   intro x j h1 h2 h3;unfold Dk;split
   ·rename_i hs;have:=BF hs;refine Fine.bind' (i':=j+1) (by omega) (Fe _) λy q _ hq hl=>ih _ _ (by omega) hl λho=>by have:=h3 ho;omega
   ·exact⟨h1,h2⟩
def Ma(hn:o->l.length-i<=n):Fine o l.length i (CG l n i):=
 Fine.bind (Fe _) λx j _ hj hl=>Pg n _ j hj hl λho=>by have:=hn ho;omega
def Si(hE:i<l.length->∀q,i<q->Fine o l.length q (E q))(hn:o->l.length-i<=n):Fine o l.length i (DN l E n i):=by
 unfold DN;refine Fine.bind (Fe _) λs j _ hj hl=>Fine.bind' (i':=j) (by omega) (Eb _ _) λ_ k _ hk hl2=>?_;split
 ·rename_i hs;have:=BF hs;exact⟨by omega,this⟩
 ·refine Fine.bind' (i':=k) (by omega) (Kc (λq hq=>hE (by omega) q (by omega)) λho=>by have:=hn ho;omega) λf p _ hp hl3=>?_;exact Fine.bind' (i':=p) (by omega) (Eb _ _) λ_ k _ hk hl2=>⟨by omega,hl2⟩
def LY(hE:i<l.length->∀q,i<q->Fine o l.length q (E q)):Fine o l.length i (DJ l E i):=by
 unfold DJ;refine Fine.bind (Eb _ _) λs j _ hj hl=>?_;split
 ·rename_i hs;have:=BF hs;refine Fine.bind' (i':=j+1) (by omega) (hE (by omega) _ (by omega)) λf p _ hp hl3=>?_;exact Fine.bind' (i':=p) (by omega) (Eb _ _) λ_ k _ hk hl2=>⟨by omega,hl2⟩
 ·refine Fine.bind' (i':=j) (by omega) (Fe _) λs p _ hp hl3=>?_;split
  ·rename_i hs;have:=BF hs;exact⟨by omega,this⟩
  ·exact⟨by omega,hl3⟩
def Qa(hE:∀q,i<=q->Fine o l.length q (E q))(hn:o->l.length-i<=n):Fine o l.length i (DU l E n i):=by
 unfold DU;split
 ·rename_i hs;have hi:=BF hs;have h1:Fine o l.length (i+1) (if Ah (Ab l (i+1)) [124]then(.ok [] (i+2):Res (List Bs))else(CG l n (i+1)).bind λp j=>(AW l [124] j).bind λ_ j=> .ok p j):=by
   split
   ·rename_i hs2;have:=BF hs2;exact⟨by omega,this⟩
   ·refine Fine.bind (Ma λho=>by have:=hn ho;omega) λp j _ hj hl=>?_;exact Fine.bind' (i':=j) (by omega) (Eb _ _) λ_ k _ hk hl2=>⟨by omega,hl2⟩
  refine Fine.bind' (i':=i+1) (by omega) h1 λp j _ hj hl=>?_;refine Fine.bind' (i':=j) (by omega) (hE _ (by omega)) λf p _ hp hl3=>?_;exact Fine.bind' (i':=p) (by omega) (Eb _ _) λ_ k _ hk hl2=>⟨by omega,hl2⟩
 ·refine Fine.bind (Kc hE hn) λf p _ hp hl3=>?_;exact Fine.bind' (i':=p) (by omega) (Eb _ _) λ_ k _ hk hl2=>⟨by omega,hl2⟩
def Qr(hE:i<l.length->∀q,i<q->Fine o l.length q (E q))(hn:o->l.length-i<=n):Fine o l.length i (Ev l E n i):=by
 unfold Ev;split
 ·exact LY hE
 split
 ·rename_i hs;have:=BF hs;exact⟨by omega,this⟩
 split
 ·rename_i hs;have:=BF hs;exact⟨by omega,this⟩
 split
 ·rename_i hs;have:=BF hs;exact⟨by omega,this⟩
 split
 ·rename_i hs;have:=BF hs;refine Fine.bind' (i':=i+1) (by omega) (hE (by omega) _ (by omega)) λf p _ hp hl3=>?_;exact Fine.bind' (i':=p) (by omega) (Eb _ _) λ_ k _ hk hl2=>⟨by omega,hl2⟩
 split
 ·rename_i hs;have:=BF hs;exact Fine.bind' (i':=i+1) (by omega) (Fe _) λs p _ hp hl3=>⟨by omega,hl3⟩
 split
 ·rename_i hs;have:=BF hs;exact(Qa (i:=i+1) (λq hq=>hE (by omega) q (by omega)) λho=>by have:=hn ho;omega).mono (by omega)
 ·trivial
def RH(hE:i<l.length->∀q,i<q->Fine o l.length q (E q))(hn:o->l.length-i<=n):Fine o l.length i (E4 l E n i):=by
 unfold E4;split
 ·exact Si hE hn
 refine Fine.bind (Fe _) λs j _ hj hl=>?_;split
 ·rename_i hs;have:=BF hs;split
  ·rename_i hs;have:=BF hs;refine Fine.bind' (i':=j+2) (by omega) (hE (by omega) _ (by omega)) λf p _ hp hl3=>?_;exact Fine.bind' (i':=p) (by omega) (Eb _ _) λ_ k _ hk hl2=>⟨by omega,hl2⟩
  ·exact Fine.bind' (i':=j+1) (by omega) (Fe _) λs p _ hp hl3=>⟨by omega,hl3⟩
 ·exact⟨hj,hl⟩
def SE{day:Bs->Int}(hE:i<l.length->∀q,i<q->Fine o l.length q (E q))(hn:o->l.length-i<=n):Fine o l.length i (DQ l day E n i):=by
 unfold DQ;have hk:∀k:Int,((Ab l i).kind==k)=true->k ≠ -1->i<l.length:=λk h1 h2=>Fu (by simp at h1;omega);split
 ·rename_i h;exact⟨by omega,hk 1 h (by decide)⟩
 split
 ·rename_i h;split
  ·trivial
  ·exact⟨by omega,hk 2 h (by decide)⟩
 split
 ·rename_i h;exact⟨by omega,hk 3 h (by decide)⟩
 split
 ·exact RH hE hn
 ·exact Qr hE hn
def GX(day:Bs->Int):∀n q,Fine (l.length-q+2<=n) l.length q (Ak l day n q):=by
 intro n;induction n with
 |zero=>intro q ho;omega
 | succ n ih=>
   intro q;have hE:q<l.length->∀p,q<p->Fine (l.length-q+2<=n+1) l.length p (Ak l day n p):=λhq p hp=>(ih p).weak λho=>by omega
   have hn:(l.length-q+2<=n+1)->l.length-q<=n:=λh=>by omega
   have h1:∀p,q<=p->Fine (l.length-q+2<=n+1) l.length p (DQ l day (Ak l day n) n p):=λp hp=>SE (λh r hr=>hE (by omega) r (by omega)) λho=>by have:=hn ho;omega
   have h2:∀p,q<=p->Fine (l.length-q+2<=n+1) l.length p (CH l (Ak l day n) (DQ l day (Ak l day n) n) n p):=λp hp=>R3 hE h1 n p hp λho=>by omega
   have h3:=λp (hp:q<=p)=>Vy h2 n p hp λho=>by omega
   have h4:=Vf (n:=n) h3 hn;have h5:=λp (hp:q<=p)=>Uz h4 n p hp λho=>by omega
   unfold Ak;exact I8 (I8 h5 hn) hn q (nR _)
section
variable {a b t:List Tok}{c:Tok}
end
def wd(s:Bs):Tok:=⟨0,0,s⟩
def opsL:List Bs:=[[46,79,82,46],[46,65,78,68,46],[61],[61,61],[60,62],[60],[62],[60,61],[62,61],[36],[43],[45],[42],[47],[37],[94]]
def EQ(b:UInt8):Bool:=b==9||(32<=b&&b<=126)
def Ey(s:Bs):Bool:=s.all EQ&&decide (s.length<=2048)&&!(s.contains 34&&s.contains 39)
def A9(h:Hd):Bool:=
 if h.vk=0 then h.vn==0&&h.vs.isEmpty
 else if h.vk=1 then(h.vn==0||h.vn==1)&&h.vs.isEmpty
 else if h.vk=2 then decide (0<=h.vn)&&decide (h.vn<=999999999999999)&&h.vs.isEmpty
 else if h.vk=3 then decide (0<=h.vn)&&decide (h.vn<=3652059)&&h.vs.isEmpty
 else if h.vk=4 then h.vn==0&&Ey h.vs
 else false
def A1(h:Hd)(n:Nat):Bool:=
 if h.op=0 then h.s.isEmpty&&n==0&&A9 h
 else if h.op=1\/h.op=10 then Ay h.s&&n==0
 else if h.op=2 then Ay h.s&&n==1
 else if h.op=3 then Ay h.s
 else if h.op=4 then(h.s==[45]||h.s==[46,78,79,84,46])&&n==1
 else if h.op=5 then opsL.contains h.s&&n==2
 else if h.op=6 then h.s.isEmpty&&n==2
 else if h.op=7 then h.s.isEmpty&&decide (1<=n)
 else if h.op=8 then h.s.isEmpty&&n==1&&h.p.all Ay
 else if h.op=9 then(Ay h.s&&n==0)||(h.s.isEmpty&&n==1)
 else false
def BZ(h:Hd)(n:Nat):Bool:=
 if h.op≠0/\¬(h.vk=0/\h.vn=0/\h.vs=[])then false
 else if h.op≠8/\h.p≠[]then false
 else A1 h n
def MD{h:Hd}(hok:BZ h n=true):(h.op≠0->h.vk=0/\h.vn=0/\h.vs=[])/\(h.op≠8->h.p=[])/\A1 h n=true:=by
 unfold BZ at hok;by_cases h1:h.op≠0/\¬(h.vk=0/\h.vn=0/\h.vs=[])
 ·rw[if_pos h1]at hok;cases hok
 rw[if_neg h1]at hok;by_cases h2:h.op≠8/\h.p≠[]
 ·rw[if_pos h2]at hok;cases hok
 rw[if_neg h2]at hok;exact⟨λe=>Classical.not_not.1 λc=>h1 ⟨e,c⟩,λe=>Classical.not_not.1 λc=>h2 ⟨e,c⟩,hok⟩
def okF:Fo->Bool
 | .nil=>true
 | .cons h k n=>BZ h k.len&&okF k&&okF n
abbrev OW:=Option (List Tok×Bs)
def IV(s:Bs):Bs:=[123,94]++s.take 4++[45]++(s.drop 4).take 2++[45]++s.drop 6++[125]
structure Wd where
 num:Int->Bs
 day:Int->Bs
section
variable {y:Ex}
end
open Go.Lib
def Ts:Ax 10000=3652059:=by decide
def R7{n:Int}(h0:0<n)(h1:n<=3652059):1<=n.tdiv 366+1/\n.tdiv 366+1<=9999/\Ax (n.tdiv 366+1)<n:=by
 rw[Int.tdiv_eq_ediv_of_nonneg (by omega)];refine⟨by omega,by omega,?_⟩;unfold Ax;rw[show n/366+1-1=n/366 by omega,Int.tdiv_eq_ediv_of_nonneg (by omega),Int.tdiv_eq_ediv_of_nonneg (by omega),Int.tdiv_eq_ediv_of_nonneg (by omega)];omega
def MZ(n:Int)(h0:0<n)(h1:n<=3652059)(w:World):Calls Tryz.prog 299 #[.int .i64 n] w λe w'=>e= .returned (.bool true)/\w'=w:=by
 go_enter func299,ntmps299;go_wp2;go_ret;exact⟨rfl,rfl⟩
def N8(h0:1<=y)(h1:y<=10000):0<=Ax y/\Ax y<=3652059:=by
 unfold Ax;rw[Int.tdiv_eq_ediv_of_nonneg (by omega),Int.tdiv_eq_ediv_of_nonneg (by omega),Int.tdiv_eq_ediv_of_nonneg (by omega)];omega
def Ny{m:Int}(h0:1<=m)(h1:m<=12):28<=AT y m/\AT y m<=31:=by
 unfold AT;split
 ·omega
 ·have h:∀k:Nat,k<12->28<=([31,28,31,30,31,30,31,31,30,31,30,31]:List Int).getD k 0/\([31,28,31,30,31,30,31,31,30,31,30,31]:List Int).getD k 0<=31:=by decide
  exact h _ (by omega)
def Rk(y:Int)(m:Nat)(h:1<=m):Av y m=Av y (m-1)+AT y m:=by
 obtain⟨k,rfl⟩:∃k,m=k+1:=⟨m-1,by omega⟩;rfl
def WE{n:Int}(h0:1<=y)(h:n<=Ax (y+1)):n-Ax y<=Av y 12:=by
 have e:Ax (y+1)=Ax y+Av y 12:=by
  have hl:Av y 12=if EB y then 366 else 365:=by
   simp only[Av,AT];cases EB y<;>rfl
  rw[hl];unfold Ax EB;rw[show y+1-1=y by omega];have e1:∀b:Int,0<b->y.tdiv b=y/b:=λb hb=>Int.tdiv_eq_ediv_of_nonneg (by omega);have e2:∀b:Int,0<b->(y-1).tdiv b=(y-1)/b:=λb hb=>Int.tdiv_eq_ediv_of_nonneg (by omega);have e3:∀b:Int,0<b->y.tmod b=y%b:=λb hb=>Int.tmod_eq_emod_of_nonneg (by omega);rw[e1 4 (by omega),e1 100 (by omega),e1 400 (by omega),e2 4 (by omega),e2 100 (by omega),e2 400 (by omega),e3 4 (by omega),e3 100 (by omega),e3 400 (by omega)];simp only[Bool.and_eq_true,Bool.or_eq_true,beq_iff_eq,bne_iff_ne,ne_eq];split<;>omega
 omega
def Va(n:Int)(h0:0<n)(h1:n<=3652059)(w:World):Calls Tryz.prog 321 #[.int .i64 n] w λe w'=>
 (∃y m q:Nat,e= .returned (.tuple #[.int .i64 y,.int .i64 m,.int .i64 q,.int .i64 0])/\1<=y/\y<=9999/\1<=m/\m<=12/\1<=q/\(q:Int)<=AT y m/\Ax y+Av y (m-1)+q=n)/\w.grownBy w' none:=by
 obtain⟨a1,a2,a3⟩:=R7 h0 h1;have hz:(n==0)=false:=by simp;omega
 rw[Int.tdiv_eq_ediv_of_nonneg (by omega)]at a1 a2 a3;have HA:=S (X a1 (X a2 a3));have HN:=S (X h0 h1);clear a3;go_enter func321,ntmps321;go_wp2_with fail;refine(MZ n h0 h1 _).mono ?_;rintro e w1 ⟨rfl,rfl⟩;go_wp2_with fail;go_loopg [6] 10000 (λg v6 wr=>∃y:Int,v6= .int .i64 y/\1<=y/\y<=9999/\10000<=y+g/\Ax y<n/\wr=w1)
 case atStart=>exact⟨_,rfl,HA.1.1,HA.1.2.1,by have:=HA.1.1;omega,HA.1.2.2,rfl⟩
 case round=>
  obtain⟨y,rfl,b1,b2,b3,b4,rfl⟩:=hrel;clear a1 a2;have hy1:=N8 (y:=y+1) (by omega) (by omega);have hy0:=N8 (y:=y) (by omega) (by omega);have HY:=S (JF (y+1) (by omega) (by omega) wr);have HY0:=S (JF y (by omega) (by omega) wr);by_cases hc:Ax (y+1)<n
  ·have hcI:decide (Ax (y+1)<n)=true:=by simpa using hc
   have hy9:y+1<=9999:=by
    rcases Int.lt_or_le 9998 y with h|h
    ·obtain rfl:y=9999:=by omega
     have:=Ts;rw[show(9999:Int)+1=10000 from rfl]at hc;omega
    ·omega
   have HC:=S hc;clear hc b4;generalize hz1:Ax (y+1)=z at*;have HZ:=S hz1;clear hz1;go_wp2_with fail;refine HY.1.mono ?_;rintro e w2 ⟨rfl,rfl⟩;go_wp2;go_roundg (gk-1)
   case measure=>omega
   case rel=>exact⟨y+1,by go_num,by omega,hy9,by omega,by rw[HZ.1];exact HC.1,rfl⟩
  ·have hcI:decide (Ax (y+1)<n)=false:=by simpa using hc
   have hd:=WE b1 (Int.not_lt.1 hc);have HD:=S (X hd b4);generalize hz1:Ax (y+1)=z at*;generalize hz0:Ax y=z0 at*;clear hc hd hz1;go_wp2_with fail;refine HY.1.mono ?_;rintro e w2 ⟨rfl,rfl⟩;go_wp2_with fail;refine HY0.1.mono ?_;rintro e w2 ⟨rfl,rfl⟩;go_wp2_with fail;go_loopg [7,8] 13 (λg v7 v8 wr=>∃m:Nat,v7= .int .i64 (n-z0-Av y (m-1))/\v8= .int .i64 m/\1<=m/\m<=12/\13<=m+g/\0<n-z0-Av y (m-1)/\w2.grownBy wr none)
   case atStart=>exact⟨1,by simp[Av],rfl,by omega,by omega,by omega,by simp[Av];omega,Aa _ _⟩
   case round=>
    obtain⟨m,rfl,rfl,c1,c2,c3,c4,gr⟩:=hrel;have hm:=Ny (y:=y) (m:=m) (by omega) (by omega);have hbf:=Mm y (m-1) (by omega);have HM:=S (λW=>Iw y m (by omega) (by omega) (by omega) (by omega) W);have hnx:=Rk y m c1;have h12:m=12->n-z0-Av y (m-1)<=AT y m:=by
     rintro rfl;have:=HD.1.1;omega
    have hyz:0<=z0/\z0<=3652059:=hy0;by_cases hc:AT y m<n-z0-Av y (m-1)
    ·have hcI:decide (AT y m<n-z0-Av y (m-1))=true:=by simpa using hc
     have hm12:m<=11:=by
      rcases Nat.lt_or_ge 11 m with h|h
      ·have:=h12 (by omega);omega
      ·exact h
     have HX:=S (show n-z0-Av y (m-1)-AT y m=n-z0-Av y (m+1-1)by rw[Nat.add_sub_cancel,hnx];omega);have HC:=S (show 0<n-z0-Av y (m+1-1)by rw[<-HX.1];omega);clear hnx h12 hc;generalize hd:n-z0-Av y (m-1)=d at*;generalize hmm:AT y m=mm at*;have hdb:d<=3652059:=by omega
     clear hd hmm;go_wp2_with fail;refine mR (HM.1 _) λw3 g3=>?_;go_wp2_with fail;refine mR (HM.1 _) λw4 g4=>?_;go_wp2;go_roundg (gk-1)
     case measure=>omega
     case rel=>exact⟨m+1,by rw[<-HX.1],by go_num,by omega,by omega,by omega,HC.1,Z (Z gr g3) g4⟩
    ·have hcI:decide (AT y m<n-z0-Av y (m-1))=false:=by simpa using hc
     have HX:=S (show(∃y' m' q':Nat,((y:Int),(m:Int),n-z0-Av y (m-1))=((y':Int),(m':Int),(q':Int))/\1<=y'/\y'<=9999/\1<=m'/\m'<=12/\1<=q'/\(q':Int)<=AT y' m'/\Ax y'+Av y' (m'-1)+q'=n)by
      obtain⟨y',rfl⟩:∃y':Nat,y=y':=⟨y.toNat,by omega⟩;obtain⟨q',hq'⟩:∃q':Nat,n-z0-Av y' (m-1)=q':=⟨(n-z0-Av y' (m-1)).toNat,by omega⟩;exact⟨y',m,q',by rw[hq'],by omega,by omega,c1,c2,by omega,by omega,by rw[hz0];omega⟩)
     clear hnx h12 hc;generalize hd:n-z0-Av y (m-1)=d at*;generalize hmm:AT y m=mm at*;have hdb:d<=3652059:=by omega
     clear hd hmm;go_wp2_with fail;refine mR (HM.1 _) λw3 g3=>?_;go_wp2;obtain⟨y',m',q',e,hh⟩:=HX.1;simp only[Prod.mk.injEq]at e;refine bZ (v:= .tuple #[.int .i64 y,.int .i64 m,.int .i64 d,.int .i64 0]) (by simp[results,results321,go_sem]) rfl ⟨⟨y',m',q',by rw[<-e.1,<-e.2.1,<-e.2.2],hh⟩,Z gr g3⟩
def MS:∀k:Nat,k<10->(⟨#[48,49,50,51,52,53,54,55,56,57]⟩:ByteArray).extract k (k+1)=⟨#[UInt8.ofNat (48+k)]⟩:=by
 intro k hk;match k,hk with
 | 0,_ | 1,_ | 2,_ | 3,_ | 4,_ | 5,_ | 6,_ | 7,_ | 8,_ | 9,_=>rfl
def Ia(x y:Bs):Value.string (⟨x.toArray⟩++⟨y.toArray⟩)=str (x++y):=by rw[ByteArray.mk_append_mk]
def Px{u:Nat}(h:u<=1000000):nDigits u<=7:=by
 by_cases h0:u<10
 ·rw[nDigits_small h0];omega
 rw[nDigits_big h0];by_cases h1:u/10<10
 ·rw[nDigits_small h1];omega
 rw[nDigits_big h1];by_cases h2:u/10/10<10
 ·rw[nDigits_small h2];omega
 rw[nDigits_big h2];by_cases h3:u/10/10/10<10
 ·rw[nDigits_small h3];omega
 rw[nDigits_big h3];by_cases h4:u/10/10/10/10<10
 ·rw[nDigits_small h4];omega
 rw[nDigits_big h4];by_cases h5:u/10/10/10/10/10<10
 ·rw[nDigits_small h5];omega
 rw[nDigits_big h5,nDigits_small (by omega)];omega
def QJ:∀(N u:Nat),u<N->u<=1000000->∀(w:World),Calls Tryz.prog 346 #[.int .i64 u] w (ρ w (str (decDigits u))):=by
 intro N;induction N with
 |zero=>intro u h;omega
 | succ N ih=>
   intro u hN hu w;have hneg:decide ((u:Int)<0)=false:=by simp
   by_cases h:u<10
   ·have hI:decide ((u:Int)<10)=true:=by simp;omega
    have HD:=S (show decDigits u=[UInt8.ofNat (48+u)]by rw[decDigits];exact if_pos h);have HC:=S (MS u h);clear ih;go_enter func346,ntmps346;go_wp2;go_ret;refine⟨?_,Aa _ _⟩;rw[HD.1];exact congrArg (λb=>Ending.returned (Value.string b)) HC.1
   ·have hI:decide ((u:Int)<10)=false:=by simp;omega
    have HD:=S (show decDigits u=decDigits (u/10)++[UInt8.ofNat (48+u%10)]by rw[decDigits];exact if_neg h);have HC:=S (MS (u%10) (by omega));have H:=S (λW=>ih (u/10) (by omega) (by omega) W);have e1:(u:Int)/10=((u/10:Nat):Int):=by omega
    have e2:(u:Int)%10=((u%10:Nat):Int):=by omega
    have e3:(u:Int).tdiv 10=((u/10:Nat):Int):=by rw[Int.tdiv_eq_ediv_of_nonneg (by omega)];omega
    have e4:(u:Int).tmod 10=((u%10:Nat):Int):=by rw[Int.tmod_eq_emod_of_nonneg (by omega)];omega
    have h10:u%10<10:=by omega
    have hq0:u/10<=1000000:=by omega
    generalize u/10=q at*;generalize u%10=r at*;have r0:(0:Int)<=(r:Int):=by omega
    have r1:(r:Int)<=(r:Int)+1:=by omega
    have r2:(r:Int)+1<=10:=by omega
    have w1:IntKind.i64.wrap (q:Int)=q:=IntWalk.i64_in _ (by omega);have w2:IntKind.i64.wrap ((r:Int)+1)=(r:Int)+1:=IntWalk.i64_in _ (by omega);clear ih h;go_enter func346,ntmps346;go_wp2_with fail;have hl:(decDigits q).length<=7:=by rw[decDigits_length];exact Px hq0
    generalize decDigits q=ds at*;have HC':=HC.1;have hcl:¬(9223372036854775807<ds.length+1):=by omega
    go_region_held3 (λW=>w.grownBy W none) (first|exact Ad (Aa _ _)|exact Z (Ad (Aa w none)) g5) (first| (go_at_call 346;refine(H.1 _).mono ?_;rintro e w5 ⟨rfl,g5⟩));rename_i hH;have HG:=S hH;clear hH;go_wp2;go_ret;refine⟨?_,HG.1⟩;have e:UInt8.ofNat (48+r)=48+UInt8.ofNat r:=UInt8.ofNat_add 48 r;rw[HD.1,<-Ia,e];rfl
def Rs(c:Nat):Lib.repeatL [48] c=List.replicate c (48:UInt8):=by
 induction c with
 |zero=>rfl
 |succ c ih=>rw[List.replicate_succ,<-ih];rfl
def Kg(u k:Nat)(hu:u<=9999)(hl:(decDigits u).length<=k)(hk:k<=4)(w:World):Calls Tryz.prog 322 #[.int .i64 u,.int .i64 k] w (ρ w (str (List.replicate (k-(decDigits u).length) 48++decDigits u))):=by
 have H:=S (QJ (u+1) u (Nat.lt_succ_self _) (by omega) w);generalize decDigits u=ds at*;obtain⟨c,hc⟩:∃c,k=ds.length+c:=⟨k-ds.length,by omega⟩;subst hc;rw[Nat.add_sub_cancel_left];have e1:((ds.length+c:Nat):Int)-(ds.length:Int)=(c:Int):=by omega
 have e2:((ds.length:Int)+(c:Int))-(ds.length:Int)=(c:Int):=by omega
 have hz0:(List.replicate c (48:UInt8)).length=c:=List.length_replicate;have hz1:=Rs c;generalize List.replicate c (48:UInt8)=z at*;have HZ:=S hz1;have hcl:¬(9223372036854775807<z.length+ds.length):=by omega
 clear hz1 hz0;go_enter func322,ntmps322;go_wp2_with fail;refine mR H.1 λw1 g1=>?_;go_wp2_with fail;refine(strings_Repeat ⟨[48].toArray⟩ c _ (by omega) (by simp[ByteArray.size];omega)).mono ?_;rintro e w2 ⟨rfl,hb⟩;rw[show(⟨[(48:UInt8)].toArray⟩:ByteArray).data.toList=[48]from rfl,HZ.1];have HG:=S (Z g1 (gbB hb none));clear hb g1;go_wp2;go_ret;exact⟨by rw[<-Ia];rfl,HG.1⟩
end Go.Proofs.YtbjfaimkiclhgaaGreatDoor
