/-
  How expressions lie in memory: a row of expressions is a slice of seven cells each; their names and operands lie in blocks that 'ok' lets by. Plain laws: an expression that is right is read from the t
-/
import Derived.Test.YtgjdhajcnechdaaGreatDoorSw02
import Derived.Test.YtgjdhajcnechdaaGreatDoorProg
import Derived.KernelRfl
set_option linter.all false
set_option maxRecDepth 100000
set_option maxHeartbeats 8000000
namespace Go.Proofs.YtgjdhajcnechdaaGreatDoor
open Go.Proofs.Tryz
open Go.RowKit
def Cells(w:World)(v:Value)(size n:Nat)(cs:List Value)(ok:Nat→Prop):Prop:=
 ∃a cap,v= .slice a n cap∧n≤cap∧cap≤maxLen∧cs.length=n*size∧∀j u,cs[j]? =some u→∃g o,a=some ⟨g,o,none⟩∧ok g∧w.cell? ⟨g,o+j,none⟩=some u
def hdC(h:Hd)(pv lv:Value):List Value:=[.int .i64 h.op,str h.s,.int .i64 h.vk,.int .i64 h.vn,str h.vs,pv,lv]
abbrev exV(h:Hd)(pv lv:Value):Value:= .agg #[.int .i64 h.op,str h.s,.int .i64 h.vk,.int .i64 h.vn,str h.vs,pv,lv]
def RepF(ok:Nat→Prop)(w:World):Fo→List Value→Prop
 | .nil,cs=>cs=[]
 | .cons h kids next,cs=>∃pv lv kcs rest,cs=hdC h pv lv++rest∧Cells w pv 1 h.p.length (h.p.map str) ok∧Cells w lv 7 kids.len kcs ok∧RepF ok w kids kcs∧RepF ok w next rest
def RepL(ok:Nat→Prop)(w:World)(v:Value)(f:Fo):Prop:=∃cs,Cells w v 7 f.len cs ok∧RepF ok w f cs
def VE(ok:Nat→Prop)(w:World)(v:Value)(x:Ex):Prop:=∃pa pc la lc,v=exV x.h (.slice pa x.h.p.length pc) (.slice la x.kids.len lc)∧Cells w (.slice pa x.h.p.length pc) 1 x.h.p.length (x.h.p.map str) ok∧RepL ok w (.slice la x.kids.len lc) x.kids
theorem Cells.gb{w w1:World}{v:Value}{size n:Nat}{cs:List Value}{ok:Nat→Prop}{r:Option Nat}(h:Cells w v size n cs ok)(g:w.grownBy w1 r)(hk:∀k,ok k→k<w.heap.size→some k≠r):Cells w1 v size n cs ok:=by
 obtain⟨a,cap,e,h1,h2,h3,h4⟩:=h;refine⟨a,cap,e,h1,h2,h3,fun j u hj=>?_⟩;obtain⟨gg,o,ea,ho,hc⟩:=h4 j u hj;exact⟨gg,o,ea,ho,Bz g hc (hk _ ho (World.block_lt_of_cell? w _ hc))⟩
theorem Cells.mono{w:World}{v:Value}{size n:Nat}{cs:List Value}{ok ok':Nat→Prop}(h:Cells w v size n cs ok)(hk:∀k,ok k→k<w.heap.size→ok' k):Cells w v size n cs ok':=by
 obtain⟨a,cap,e,h1,h2,h3,h4⟩:=h;refine⟨a,cap,e,h1,h2,h3,fun j u hj=>?_⟩;obtain⟨gg,o,ea,ho,hc⟩:=h4 j u hj;exact⟨gg,o,ea,hk _ ho (World.block_lt_of_cell? w _ hc),hc⟩
theorem Cells.nil(w:World)(size:Nat)(ok:Nat→Prop):Cells w (.slice none 0 0) size 0 [] ok:=⟨none,0,rfl,Nat.le_refl _,Nat.zero_le _,by simp,fun j u h=>by simp at h⟩
theorem RepF.gb{w w1:World}{ok:Nat→Prop}{r:Option Nat}(g:w.grownBy w1 r)(hk:∀k,ok k→k<w.heap.size→some k≠r):∀{f:Fo}{cs:List Value},RepF ok w f cs→RepF ok w1 f cs:=by
 intro f;induction f with
 |nil=>intro cs h;exact h
 | cons hd kids next ih1 ih2=>
   rintro cs ⟨pv,lv,kcs,rest,e,h1,h2,h3,h4⟩;exact⟨pv,lv,kcs,rest,e,h1.gb g hk,h2.gb g hk,ih1 h3,ih2 h4⟩
theorem RepF.mono{w:World}{ok ok':Nat→Prop}(hk:∀k,ok k→k<w.heap.size→ok' k):∀{f:Fo}{cs:List Value},RepF ok w f cs→RepF ok' w f cs:=by
 intro f;induction f with
 |nil=>intro cs h;exact h
 | cons hd kids next ih1 ih2=>
   rintro cs ⟨pv,lv,kcs,rest,e,h1,h2,h3,h4⟩;exact⟨pv,lv,kcs,rest,e,h1.mono hk,h2.mono hk,ih1 h3,ih2 h4⟩
theorem RepL.gb{w w1:World}{v:Value}{ok:Nat→Prop}{r:Option Nat}{f:Fo}(h:RepL ok w v f)(g:w.grownBy w1 r)(hk:∀k,ok k→k<w.heap.size→some k≠r):RepL ok w1 v f:=by
 obtain⟨cs,h1,h2⟩:=h;exact⟨cs,h1.gb g hk,h2.gb g hk⟩
theorem RepL.mono{w:World}{v:Value}{ok ok':Nat→Prop}{f:Fo}(h:RepL ok w v f)(hk:∀k,ok k→k<w.heap.size→ok' k):RepL ok' w v f:=by
 obtain⟨cs,h1,h2⟩:=h;exact⟨cs,h1.mono hk,h2.mono hk⟩
theorem RepL.nil(w:World)(ok:Nat→Prop):RepL ok w (.slice none 0 0) .nil:=⟨[],Cells.nil w 7 ok,rfl⟩
theorem VE.gb{w w1:World}{v:Value}{ok:Nat→Prop}{r:Option Nat}{x:Ex}(h:VE ok w v x)(g:w.grownBy w1 r)(hk:∀k,ok k→k<w.heap.size→some k≠r):VE ok w1 v x:=by
 obtain⟨pa,pc,la,lc,e,h1,h2⟩:=h;exact⟨pa,pc,la,lc,e,h1.gb g hk,h2.gb g hk⟩
theorem VE.mono{w:World}{v:Value}{ok ok':Nat→Prop}{x:Ex}(h:VE ok w v x)(hk:∀k,ok k→k<w.heap.size→ok' k):VE ok' w v x:=by
 obtain⟨pa,pc,la,lc,e,h1,h2⟩:=h;exact⟨pa,pc,la,lc,e,h1.mono hk,h2.mono hk⟩
theorem RepF.app{ok:Nat→Prop}{w:World}:∀{f g:Fo}{cs ds:List Value},RepF ok w f cs→RepF ok w g ds→RepF ok w (f.app g) (cs++ds):=by
 intro f;induction f with
 |nil=>intro g cs ds h k;subst h;exact k
 | cons hd kids next ih1 ih2=>
   rintro g cs ds ⟨pv,lv,kcs,rest,rfl,h1,h2,h3,h4⟩ k;exact⟨pv,lv,kcs,rest++ds,by simp,h1,h2,h3,ih2 h4 k⟩
theorem VE.rep{ok:Nat→Prop}{w:World}{pv lv:Value}{x:Ex}(h1:Cells w pv 1 x.h.p.length (x.h.p.map str) ok)(h2:RepL ok w lv x.kids):RepF ok w (.one x) (hdC x.h pv lv):=by
 obtain⟨cs,h3,h4⟩:=h2;exact⟨pv,lv,cs,[],by simp,h1,h3,h4,rfl⟩
abbrev A8(B:Nat):Nat→Prop:=fun g=>B≤g
def OwnF(w:World)(B:Nat)(v:Value)(f:Fo):Prop:=∃cs,w.ownsRow B 27 7 v f.len cs∧RepF (fun g=>B≤g∧v.ownBlock≠some g) w f cs
theorem C2{w w1:World}{B e size n:Nat}{v:Value}{xs:List Value}{r:Option Nat}(h:w.ownsRow B e size v n xs)(g:w.grownBy w1 r)(hk:∀k,B≤k→k<w.heap.size→some k≠r):w1.ownsRow B e size v n xs:=by
 refine h.kept g ?_;cases hv:v.ownBlock with
 |none=>exact .inl rfl
 |some k=>exact .inr (hk k (h.lt k hv).1 (h.lt k hv).2)
theorem OwnF.gb{w w1:World}{B:Nat}{v:Value}{f:Fo}{r:Option Nat}(h:OwnF w B v f)(g:w.grownBy w1 r)(hk:∀k,B≤k→k<w.heap.size→some k≠r):OwnF w1 B v f:=by
 obtain⟨cs,h1,h2⟩:=h;exact⟨cs,C2 h1 g hk,h2.gb g fun k hk1 hk2=>hk k hk1.1 hk2⟩
theorem AU{w:World}{B e size n:Nat}{v:Value}{xs:List Value}(h:w.ownsRow B e size v n xs):Cells w v size n xs (A8 B):=by
 rcases h.2 with⟨rfl,rfl⟩| ⟨g,cap,cur,rfl,hb,hg,hnc,hcm,hcs,htake⟩
 ·exact ⟨none, 0, rfl, Nat.le_refl _, Nat.zero_le _, h.1, fun j u hj => by
   have:xs=[]:=List.eq_nil_of_length_eq_zero (by simpa using h.1);subst this;simp at hj⟩
 ·refine⟨_,_,rfl,hnc,hcm,h.1,fun j u hj=>⟨g,0,rfl,hb,?_⟩⟩;have:=h.cells (g:=g) rfl j u hj;rw[Nat.zero_add];unfold Addr.add at this;split at this
  ·rename_i h0;subst h0;exact this
  ·simpa using this
theorem OwnF.rep{w:World}{B:Nat}{v:Value}{f:Fo}(h:OwnF w B v f):RepL (A8 B) w v f:=by
 obtain⟨cs,h1,h2⟩:=h;exact⟨cs,AU h1,h2.mono fun k hk _=>hk.1⟩
abbrev set7(w:World)(k:Nat)(v0 v1 v2 v3 v4 v5 v6:Value):World:=
 ((((((w.setCell ⟨k,0,none⟩ v0).setCell ⟨k,1,none⟩ v1).setCell ⟨k,2,none⟩ v2).setCell ⟨k,3,none⟩ v3).setCell ⟨k,4,none⟩ v4).setCell ⟨k,5,none⟩ v5).setCell ⟨k,6,none⟩ v6
theorem Blk.set7{w:World}{k:Nat}{a0 a1 a2 a3 a4 a5 a6:Value}{t:TypeId}(h:Blk w k [a0,a1,a2,a3,a4,a5,a6] t)(v0 v1 v2 v3 v4 v5 v6:Value):Blk (set7 w k v0 v1 v2 v3 v4 v5 v6) k [v0,v1,v2,v3,v4,v5,v6] t:=
 (((((((h.set 0 v0).set 1 v1).set 2 v2).set 3 v3).set 4 v4).set 5 v5).set 6 v6).of_eq rfl rfl
theorem AH{w w1:World}{k:Nat}(h:w.grownBy w1 (some k))(i:Nat)(v:Value):w.grownBy (w1.setCell ⟨k,i,none⟩ v) (some k):=Az h ⟨k,i,none⟩ v (.inl rfl)
theorem Ah(w:World)(k:Nat)(v0 v1 v2 v3 v4 v5 v6:Value):w.grownBy (set7 w k v0 v1 v2 v3 v4 v5 v6) (some k):=by
 have h0:=AH (Ac w (some k)) 0 v0;have h1:=AH h0 1 v1;have h2:=AH h1 2 v2;have h3:=AH h2 3 v3;have h4:=AH h3 4 v4;have h5:=AH h4 5 v5;exact AH h5 6 v6
theorem NW:(match(Tryz.prog.underlying 27)with|some (.struct _)=>true|_=>false)=true:=by kernel_rfl
theorem Al{fn:Func}{p:Tmp}(h:fn.results=#[.cell p 27])(tmps:Array Value){w:World}{k:Nat}{hd:Hd}{pv lv:Value}(hb:Blk w k (hdC hd pv lv) 27)(hp:tmps.getD p undef= .pointer (some ⟨k,0,none⟩)):
 (results fn tmps).run Tryz.prog w= .ok (exV hd pv lv) w:=by
 have hs:=NW;cases hu:Tryz.prog.underlying 27 with
 |none=>rw[hu]at hs;cases hs
 | some d=>
   rw[hu]at hs;exact results_cell_row h tmps w k 27 (hdC hd pv lv).toArray (0,0) d hp hb hu (by cases d<;>simp_all) (by show(Tryz.prog.info? 27).map (·.size)=some 7;kernel_rfl)
def At(l:List Tok)(i:Nat)(t:List Tok):Prop:=∃r,l.drop i=t++r
section
variable {l:List Tok}{i:Nat}{a b t:List Tok}{c:Tok}
theorem At.head(h:At l i (c::t)):Ab l i=c:=by
 obtain⟨r,h⟩:=h;have h0:(l.drop i)[0]? =some c:=by rw[h];rfl
 have h1:l[i]? =some c:=by simpa using h0
 simp[Ab,h1]
theorem At.tail(h:At l i (c::t)):At l (i+1) t:=by
 obtain⟨r,h⟩:=h;refine⟨r,?_⟩;have h1:(l.drop i).drop 1=t++r:=by rw[h];rfl
 rwa[List.drop_drop]at h1
theorem At.left(h:At l i (a++b)):At l i a:=by
 obtain⟨r,h⟩:=h;exact⟨b++r,by rw[h,List.append_assoc]⟩
theorem At.right(h:At l i (a++b)):At l (i+a.length) b:=by
 obtain⟨r,h⟩:=h;refine⟨r,?_⟩;rw[←List.drop_drop,h,List.append_assoc,List.drop_left]
theorem At.all(l:List Tok):At l 0 l:=⟨[],by simp⟩
end
def sg(s:Bs):Tok:=⟨4,0,s⟩
def wd(s:Bs):Tok:=⟨0,0,s⟩
theorem Bk(s t:Bs):Ae (sg s) t=(s==t):=by simp[Ae,sg]
def opsL:List Bs:=[[46,79,82,46],[46,65,78,68,46],[61],[61,61],[60,62],[60],[62],[60,61],[62,61],[36],[43],[45],[42],[47],[37],[94]]
def ED(s:Bs):Nat:=if s=[46,79,82,46]then 0 else if s=[46,65,78,68,46]then 1 else if s=[43]∨s=[45]then 3 else if s=[42]∨s=[47]∨s=[37]then 4 else if s=[94]then 5 else 2
def BG(b:UInt8):Bool:=b==9||(32≤b&&b≤126)
def Cy(s:Bs):Bool:=s.all BG&&decide (s.length≤2048)&&!(s.contains 34&&s.contains 39)
def A2(h:Hd):Bool:=
 if h.vk=0 then h.vn==0&&h.vs.isEmpty
 else if h.vk=1 then(h.vn==0||h.vn==1)&&h.vs.isEmpty
 else if h.vk=2 then decide (0≤h.vn)&&decide (h.vn≤999999999999999)&&h.vs.isEmpty
 else if h.vk=3 then decide (0≤h.vn)&&decide (h.vn≤3652059)&&h.vs.isEmpty
 else if h.vk=4 then h.vn==0&&Cy h.vs
 else false
def Ap(h:Hd)(n:Nat):Bool:=
 if h.op=0 then h.s.isEmpty&&n==0&&A2 h
 else if h.op=1∨h.op=10 then An h.s&&n==0
 else if h.op=2 then An h.s&&n==1
 else if h.op=3 then An h.s
 else if h.op=4 then(h.s==[45]||h.s==[46,78,79,84,46])&&n==1
 else if h.op=5 then opsL.contains h.s&&n==2
 else if h.op=6 then h.s.isEmpty&&n==2
 else if h.op=7 then h.s.isEmpty&&decide (1≤n)
 else if h.op=8 then h.s.isEmpty&&n==1&&h.p.all An
 else if h.op=9 then(An h.s&&n==0)||(h.s.isEmpty&&n==1)
 else false
def AI(h:Hd)(n:Nat):Bool:=
 if h.op≠0∧¬(h.vk=0∧h.vn=0∧h.vs=[])then false
 else if h.op≠8∧h.p≠[]then false
 else Ap h n
theorem DQ{h:Hd}{n:Nat}(hok:AI h n=true):(h.op≠0→h.vk=0∧h.vn=0∧h.vs=[])∧(h.op≠8→h.p=[])∧Ap h n=true:=by
 unfold AI at hok;by_cases h1:h.op≠0∧¬(h.vk=0∧h.vn=0∧h.vs=[])
 ·rw[if_pos h1]at hok;cases hok
 rw[if_neg h1]at hok;by_cases h2:h.op≠8∧h.p≠[]
 ·rw[if_pos h2]at hok;cases hok
 rw[if_neg h2]at hok;exact⟨fun e=>Classical.not_not.1 fun c=>h1 ⟨e,c⟩,fun e=>Classical.not_not.1 fun c=>h2 ⟨e,c⟩,hok⟩
def okF:Fo→Bool
 | .nil=>true
 | .cons h k n=>AI h k.len&&okF k&&okF n
abbrev OW:=Option (List Tok×Bs)
def Av(a b:OW):OW:=a.bind fun x=>b.map fun y=>(x.1++y.1,x.2++y.2)
def catL:List OW→OW
 | []=>some ([],[])
 |a::r=>Av a (catL r)
def sgn(s:Bs):OW:=some ([sg s],s)
def Bb:OW:=some ([],[32])
def nmW(s:Bs):OW:=if An s then some ([wd s],s)else none
def BX(w:OW):OW:=catL [sgn [40],w,sgn [41]]
def Bl(x:Hd×OW):OW:=if x.1.op≠4∧x.1.op≠5 then x.2 else BX x.2
def CG:List OW→OW
 | []=>some ([],[])
 |a::r=>catL [sgn [44],Bb,a,CG r]
def AZ:List OW→OW
 | []=>some ([],[])
 |a::r=>Av a (CG r)
def Bq(s:Bs):UInt8:=if s.contains 34 then 39 else 34
def Dx(s:Bs):OW:=if s.all (fun b=>BG b&&b !=Bq s)then some ([⟨2,0,s⟩],Bq s::s++[Bq s])else none
def CZ(s:Bs):Bs:=[123,94]++s.take 4++[45]++(s.drop 4).take 2++[45]++s.drop 6++[125]
structure Wd where
 num:Int→Bs
 day:Int→Bs
def A1(h:Hd):Bool:=
 decide (h.vs.length≤2048)&&(if h.vk=0 then h.vn==0 else if h.vk=1 then(h.vn==0||h.vn==1)else if h.vk=2 then decide (-1000000000000000≤h.vn)&&decide (h.vn≤1000000000000000)
  else if h.vk=3 then decide (0≤h.vn)&&decide (h.vn≤3652059)else if h.vk=4 then h.vn==0 else false)&&(h.vk==4||h.vs.isEmpty)
def BK(d:Wd)(h:Hd):OW:=
 if A1 h=false then none
 else if h.vk=0 then sgn [46,78,85,76,76,46]
 else if h.vk=1 then sgn (if h.vn=0 then [46,70,46]else [46,84,46])
 else if h.vk=2 then(if h.vn<0∨15<(d.num h.vn).length then none else some ([⟨1,0,d.num h.vn⟩],d.num h.vn))
 else if h.vk=3 then(if h.vn=0 then some ([⟨3,0,[]⟩],[123,125])else some ([⟨3,0,d.day h.vn⟩],CZ (d.day h.vn)))
 else Dx h.vs
def AC(d:Wd)(h:Hd)(ks:List (Hd×OW)):OW:=
 if h.op=0 then BK d h
 else if h.op=1 then nmW h.s
 else if h.op=2 then(match ks with
  | [x]=>catL [nmW h.s,sgn [45,62],if x.1.op=1 then nmW x.1.s else BX x.2]
  |_=>none)
 else if h.op=3 then catL [nmW h.s,sgn [40],AZ (ks.map (·.2)),sgn [41]]
 else if h.op=4 then(match ks with
  | [x]=>catL [sgn h.s,if h.s=[46,78,79,84,46]then Bb else some ([],[]),Bl x]
  |_=>none)
 else if h.op=5 then(match ks with
  | [x,y]=>catL [Bl x,Bb,sgn h.s,Bb,Bl y]
  |_=>none)
 else if h.op=6 then(match ks with
  | [x,y]=>catL [Bl x,sgn [91],y.2,sgn [93]]
  |_=>none)
 else if h.op=7 then catL [sgn [123],AZ (ks.map (·.2)),sgn [125]]
 else if h.op=8 then(match ks with
  | [x]=>catL [sgn [123],sgn [124],AZ (h.p.map nmW),sgn [124],Bb,x.2,sgn [125]]
  |_=>none)
 else if h.op=9 then(match ks with
  | [x]=>catL [sgn [38],BX x.2]
  |_=>catL [sgn [38],nmW h.s,sgn [46]])
 else if h.op=10 then catL [sgn [64],nmW h.s]
 else none
def Ao(d:Wd):Fo→List (Hd×OW)
 | .nil=>[]
 | .cons h k n=>(h,AC d h (Ao d k))::Ao d n
def exW(d:Wd)(x:Ex):OW:=AC d x.h (Ao d x.kids)
def Fg:List Bs:=[[91],[40],[45,62],[46]]
def Hr:List Bs:=opsL++[[35],[33,61]]
def StopP(c:Tok):Prop:=c.kind=4→c.text ∉ Fg
def StopE(c:Tok):Prop:=c.kind=4→c.text ∉ Fg++Hr
def Fst(L:List Bs)(t:List Tok):Prop:=∃c r,t=c::r∧(c.kind=4→c.text ∉ L)
abbrev noE:List Bs:=[[41],[124]]
abbrev noO:List Bs:=[[41],[124],[45],[46,78,79,84,46],[33]]
theorem StopE.p{c:Tok}(h:StopE c):StopP c:=fun k m=>h k (List.mem_append_left _ m)
theorem FI{c:Tok}{L:List Bs}(h:c.kind=4→c.text ∉ L){s:Bs}(hs:s∈L):Ae c s=false:=by
 unfold Ae;cases hk:c.kind==4 with
 |false=>rfl
 | true=>
   simp only[Bool.true_and];rw[beq_eq_false_iff_ne];intro e;exact h (by simpa using hk) (e ▸ hs)
theorem LT{s:Bs}:∀{L:List (Bs×Bs)},(∀p∈L,p.1≠s)→L.lookup s=none:=by
 intro L h;exact List.lookup_eq_none_iff.2 (fun p hp=>by have:=h p hp;simp;exact fun e=>this e.symm)
theorem QZ:∀k<6,∀p∈lvl k,p.1∈Hr:=by decide
theorem Dl{l:List Tok}{j k:Nat}(hk:k<6)(h:StopE (Ab l j)):Aw l k j=[]:=by
 unfold Aw;split
 ·rename_i hk4;have h2:=h (by simpa using hk4);unfold Cs;rw[LT (fun p hp e=>h2 (List.mem_append_right _ (by rw[←e];exact QZ k hk p hp)))];rfl
 ·rfl
theorem SE:∀s∈opsL,ED s<6∧Cs (ED s) s=s∧s≠[]∧(∀k<6,k≠ED s→Cs k s=[])∧s ∉ Fg:=by decide
theorem JY{l:List Tok}{j:Nat}{s:Bs}(h:Ab l j=sg s)(k:Nat):Aw l k j=Cs k s:=by
 unfold Aw;rw[h];rfl
def lvR(l:List Tok)(un:Nat→Res Ex)(n:Nat):Nat→Nat→Res Ex
 | 0=>AP l 0 n (AP l 1 n (Bg l (CJ l n (AY l un n)) n))
 | 1=>AP l 1 n (Bg l (CJ l n (AY l un n)) n)
 | 2=>Bg l (CJ l n (AY l un n)) n
 | 3=>CJ l n (AY l un n)
 | 4=>AP l 4 n (AY l un n)
 | 5=>AY l un n
 |_=>un
theorem F9(l:List Tok)(day:Bs→Int)(n i:Nat):AB l day (n+1) i=lvR l (Bm l (AB l day n) (Bd l day (AB l day n) n) n) n 0 i:=rfl
section
variable {l:List Tok}{un:Nat→Res Ex}{n i j m:Nat}{x y:Ex}{s:Bs}
theorem FB{k:Nat}{opnd:Nat→Res Ex}(h:opnd i= .ok x j)(ho:Aw l k j=[])(hn:0<n):AP l k n opnd i= .ok x j:=by
 obtain⟨n,rfl⟩:∃q,n=q+1:=⟨n-1,by omega⟩;unfold AP;rw[h,Res.bind_ok];unfold BP;rw[ho];rfl
theorem FC{k:Nat}{opnd:Nat→Res Ex}(h:opnd i= .ok x j)(ho:Aw l k j=s)(hs:s≠[])(h2:opnd (j+1)= .ok y m)(ho2:Aw l k m=[])(hn:1<n):AP l k n opnd i= .ok (Ax s x y) m:=by
 obtain⟨n,rfl⟩:∃q,n=q+2:=⟨n-2,by omega⟩;unfold AP;rw[h,Res.bind_ok];unfold BP;rw[ho,if_neg (by simpa using hs),h2,Res.bind_ok];unfold BP;rw[ho2];rfl
theorem Hw{k:Nat}(hk:k<6)(hn:0<n)(h:lvR l un n (k+1) i= .ok x j)(ho:Aw l k j=[])(hf:k=2→Ae (Ab l i) [46,78,79,84,46]=false∧Ae (Ab l i) [33]=false):lvR l un n k i= .ok x j:=by
 match k,hk with
 | 0,_=>exact FB h ho hn
 | 1,_=>exact FB h ho hn
 | 2,_=>
   obtain⟨n,rfl⟩:∃q,n=q+1:=⟨n-1,by omega⟩;show Bg l _ (n+1) i=_;unfold Bg;rw[(hf rfl).1,(hf rfl).2];have h':CJ l (n+1) (AY l un (n+1)) i= .ok x j:=h;simp only[Bool.or_self,Bool.false_eq_true,if_false];rw[h',Res.bind_ok,ho];rfl
 | 3,_=>exact FB h ho hn
 | 4,_=>exact FB h ho hn
 | 5,_=>
   obtain⟨n,rfl⟩:∃q,n=q+1:=⟨n-1,by omega⟩;show AY l un (n+1) i=_;unfold AY;have h':un i= .ok x j:=h;rw[h',Res.bind_ok,ho];rfl
theorem FL{a b:Nat}(hab:a≤b)(hb:b≤6)(hn:0<n)(h:lvR l un n b i= .ok x j)(ho:∀k,a≤k→k<b→Aw l k j=[])(hf:Ae (Ab l i) [46,78,79,84,46]=false∧Ae (Ab l i) [33]=false):lvR l un n a i= .ok x j:=by
 obtain⟨d,rfl⟩:∃d,b=a+d:=⟨b-a,by omega⟩;clear hab;induction d generalizing a with
 |zero=>exact h
 | succ d ih=>
   refine Hw (by omega) hn (ih (a:=a+1) (by omega) (by rw[show a+1+d=a+(d+1)by omega];exact h) (fun k h1 h2=>ho k (by omega) (by omega))) (ho a (Nat.le_refl _) (by omega)) (fun _=>hf)
theorem Te{k:Nat}(hk:k<6)(hn:1<n)(h:lvR l un n (k+1) i= .ok x j)(ho:Aw l k j=s)(hs:s≠[])(h2:lvR l un n (k+1) (j+1)= .ok y m)(ho2:Aw l k m=[])
 (hf:Ae (Ab l i) [46,78,79,84,46]=false∧Ae (Ab l i) [33]=false):lvR l un n k i= .ok (Ax s x y) m:=by
 match k,hk with
 | 0,_=>exact FC h ho hs h2 ho2 hn
 | 1,_=>exact FC h ho hs h2 ho2 hn
 | 2,_=>
   obtain⟨n,rfl⟩:∃q,n=q+1:=⟨n-1,by omega⟩;show Bg l _ (n+1) i=_;unfold Bg;rw[hf.1,hf.2];have h':CJ l (n+1) (AY l un (n+1)) i= .ok x j:=h;have h2':CJ l (n+1) (AY l un (n+1)) (j+1)= .ok y m:=h2;simp only[Bool.or_self,Bool.false_eq_true,if_false];rw[h',Res.bind_ok,ho,if_neg (by simpa using hs),h2',Res.bind_ok]
 | 3,_=>exact FC h ho hs h2 ho2 hn
 | 4,_=>exact FC h ho hs h2 ho2 hn
 | 5,_=>
   obtain⟨n,rfl⟩:∃q,n=q+2:=⟨n-2,by omega⟩;show AY l un (n+2) i=_;unfold AY;have h':un i= .ok x j:=h;have h2':un (j+1)= .ok y m:=h2;rw[h',Res.bind_ok,ho,if_neg (by simpa using hs)];have h3:AY l un (n+1) (j+1)= .ok y m:=by
    unfold AY;rw[h2',Res.bind_ok,ho2];rfl
   rw[h3,Res.bind_ok]
end
def E7(c:Tok):Prop:=c.kind=4→c.text ∉ ([[40],[45,62],[46]]:List Bs)
theorem StopP.q{c:Tok}(h:StopP c):E7 c:=fun k m=>h k (by simp[Fg]at m ⊢;rcases m with h|h|h<;>simp[h])
theorem CW{s:Bs}(h:s ∉ Fg++Hr):StopE (sg s):=fun _=>h
theorem QD{s:Bs}(h:s ∉ ([[40],[45,62],[46]]:List Bs)):E7 (sg s):=fun _=>h
def Ho(day:Bs→Int)(x:Ex)(t:List Tok):Prop:=
 ∀l n i,t.length+1<n→At l i t→StopE (Ab l (i+t.length))→AB l day n i= .ok x (i+t.length)
def ReadsU(day:Bs→Int)(x:Ex)(t:List Tok):Prop:=
 ∀l N n i,t.length+1≤N→t.length≤n→At l i t→E7 (Ab l (i+t.length))→
  ∃m,n≤m+t.length∧Bm l (AB l day N) (Bd l day (AB l day N) N) n i=B8 l (AB l day N) m x (i+t.length)
theorem Fst.pos{L:List Bs}{t:List Tok}(h:Fst L t):0<t.length:=by
 obtain⟨c,r,rfl,_⟩:=h;simp
theorem Fst.sign{L:List Bs}{t:List Tok}(h:Fst L t){l:List Tok}{i:Nat}(ha:At l i t){s:Bs}(hs:s∈L):Ae (Ab l i) s=false:=by
 obtain⟨c,r,rfl,hc⟩:=h;rw[ha.head];exact FI hc hs
theorem Fst.app{L:List Bs}{t:List Tok}(h:Fst L t)(r:List Tok):Fst L (t++r):=by
 obtain⟨c,q,rfl,hc⟩:=h;exact⟨c,q++r,rfl,hc⟩
theorem Fst.weak{t:List Tok}(h:Fst noO t):Fst noE t:=by
 obtain⟨c,q,rfl,hc⟩:=h;exact⟨c,q,rfl,fun k m=>hc k (by simp at m ⊢;rcases m with m|m<;>simp[m])⟩
structure Good(day:Bs→Int)(h:Hd)(k:Fo)(w:OW):Prop where
 ex:∃t s,w=some (t,s)∧Fst noE t∧Ho day ⟨h,k⟩ t∧(h.op≠4∧h.op≠5→Fst noO t∧ReadsU day ⟨h,k⟩ t)
section
variable {day:Bs→Int}
theorem ReadsU.ok{x:Ex}{t:List Tok}(h:ReadsU day x t){l:List Tok}{N n i:Nat}(hN:t.length+1≤N)(hn:t.length<n)(ha:At l i t)(hs:StopP (Ab l (i+t.length))):
 Bm l (AB l day N) (Bd l day (AB l day N) N) n i= .ok x (i+t.length):=by
 obtain⟨m,hm,e⟩:=h l N n i hN (by omega) ha hs.q;obtain⟨m,rfl⟩:∃q,m=q+1:=⟨m-1,by omega⟩;rw[e];unfold B8;rw[if_neg (by rw[FI hs (by decide)];simp)]
theorem ReadsU.e{x:Ex}{t:List Tok}(h:ReadsU day x t)(hf:Fst noO t):Ho day x t:=by
 intro l n i hn ha hs;obtain⟨n,rfl⟩:∃q,n=q+1:=⟨n-1,by omega⟩;rw[F9];have hp:=hf.pos;exact FL (a:=0) (b:=6) (by omega) (by omega) (by omega) (h.ok (by omega) (by omega) ha hs.p) (fun k _ hk=>Dl hk hs) ⟨hf.sign ha (by decide),hf.sign ha (by decide)⟩
theorem Gf{x:Ex}{t:List Tok}(hf:Fst noO t)(h:∀l N i,t.length+1≤N→At l i t→E7 (Ab l (i+t.length))→Bd l day (AB l day N) N i= .ok x (i+t.length)):ReadsU day x t:=by
 intro l N n i hN hn ha hs;have hp:=hf.pos;obtain⟨n,rfl⟩:∃q,n=q+1:=⟨n-1,by omega⟩;refine⟨n,by omega,?_⟩;unfold Bm;rw[if_neg (by rw[hf.sign ha (by decide)];simp),h l N i hN ha hs,Res.bind_ok]
theorem Good.prim{h:Hd}{k:Fo}{t:List Tok}{s:Bs}(hf:Fst noO t)(hr:∀l N i,t.length+1≤N→At l i t→E7 (Ab l (i+t.length))→Bd l day (AB l day N) N i= .ok ⟨h,k⟩ (i+t.length)):Good day h k (some (t,s)):=
 ⟨t,s,rfl,hf.weak,(Gf hf hr).e hf,fun _=>⟨hf,Gf hf hr⟩⟩
theorem D2{l:List Tok}{E:Nat→Res Ex}{n i:Nat}{s:Bs}(h:Ab l i=sg s):Bd l day E n i=B0 l E n i:=by
 unfold Bd;rw[h];rfl
theorem KR{x:Ex}{t:List Tok}(h:Ho day x t):ReadsU day x (sg [40]::(t++[sg [41]])):=by
 refine Gf ⟨_,_,rfl,by simp[sg]⟩ ?_;intro l N i hN ha hs;simp only[List.length_cons,List.length_append,List.length_nil]at hN hs ⊢;have h2:Ab l (i+1+t.length)=sg [41]:=ha.tail.right.head;rw[D2 ha.head];unfold B0;rw[ha.head];simp only[Bk];rw[if_neg (by decide),if_neg (by decide),if_neg (by decide),if_neg (by decide),if_pos (by decide)];rw[h l N (i+1) (by omega) ha.tail.left (by rw[h2];exact CW (by decide)),Res.bind_ok];unfold Be;rw[h2,Bk,if_pos (by decide),Res.bind_ok];congr 1;omega
theorem Good.opd{h:Hd}{k:Fo}{w:OW}(g:Good day h k w):∃t s,Bl (h,w)=some (t,s)∧Fst noO t∧ReadsU day ⟨h,k⟩ t:=by
 obtain⟨t,s,rfl,hf,hr,hu⟩:=g.ex;unfold Bl;by_cases ho:h.op≠4∧h.op≠5
 ·rw[if_pos ho];exact⟨t,s,rfl,(hu ho).1,(hu ho).2⟩
 ·rw[if_neg ho];refine⟨sg [40]::(t++[sg [41]]),[40]++(s++[41]),?_,⟨_,_,rfl,by simp[sg]⟩,KR hr⟩;simp[BX,catL,Av,sgn]
def Eh(day:Bs→Int)(d:Wd):Fo→Prop
 | .nil=>True
 | .cons h k n=>Good day h k (AC d h (Ao d k))∧Eh day d n
theorem EV:∀f:Fo,f.app .nil=f:=by
 intro f;induction f with
 |nil=>rfl
 |cons h k n _ ih=>simp[Fo.app,ih]
theorem EW(f:Fo)(h:Hd)(k n:Fo):(f.snoc ⟨h,k⟩).app n=f.app (.cons h k n):=by
 induction f with
 |nil=>rfl
 | cons h' k' n' _ ih=>
   show Fo.cons h' k' ((n'.snoc ⟨h,k⟩).app n)=Fo.cons h' k' (n'.app (.cons h k n));rw[ih]
def Kw(c:Tok):Prop:=StopE c∧Ae c [44]=false
theorem Ou(d:Wd):∀f:Fo,Eh day d f→∃t s,CG ((Ao d f).map (·.2))=some (t,s)∧(t=[]∨∃r,t=sg [44]::r)∧
 ∀l N n acc i,t.length+1<N→t.length<n→At l i t→Kw (Ab l (i+t.length))→BQ l (AB l day N) n acc i= .ok (acc.app f) (i+t.length):=by
 intro f;induction f with
 | nil=>
   intro _;refine⟨[],[],rfl,.inl rfl,?_⟩;intro l N n acc i hN hn ha hs;obtain⟨n,rfl⟩:∃q,n=q+1:=⟨n-1,by simp at hn;omega⟩;unfold BQ;have h2:Ae (Ab l i) [44]=false:=hs.2;rw[if_neg (by rw[h2];simp),EV];rfl
 | cons h k n _ ih=>
   intro hg;obtain⟨t1,s1,e1,hf1,hr1,_⟩:=hg.1.ex;obtain⟨t2,s2,e2,hc2,hr2⟩:=ih hg.2;refine⟨sg [44]::(t1++t2),[44]++([32]++(s1++s2)),?_,.inr ⟨_,rfl⟩,?_⟩
   ·simp[Ao,CG,e1,e2,catL,Av,sgn,Bb]
   ·intro l N m acc i hN hn ha hs;simp only[List.length_cons,List.length_append]at hN hn hs ⊢;obtain⟨m,rfl⟩:∃q,m=q+1:=⟨m-1,by omega⟩;unfold BQ;rw[ha.head,Bk,if_pos (by decide)];have hst:StopE (Ab l (i+1+t1.length)):=by
     rcases hc2 with rfl| ⟨r,rfl⟩
     ·have:=hs.1;simp only[List.length_nil]at this;rwa[show i+1+t1.length=i+(t1.length+0+1)by omega]
     ·rw[ha.tail.right.head];exact CW (by decide)
    rw[hr1 l N (i+1) (by omega) ha.tail.left hst,Res.bind_ok];rw[hr2 l N m (acc.snoc ⟨h,k⟩) (i+1+t1.length) (by omega) (by omega) ha.tail.right (by rwa[show i+1+t1.length+t2.length=i+(t1.length+t2.length+1)by omega])];rw[EW];congr 1;omega
theorem IE(d:Wd){h:Hd}{k n:Fo}(hg:Eh day d (.cons h k n)):∃t s,AZ ((Ao d (.cons h k n)).map (·.2))=some (t,s)∧Fst noE t∧
 ∀l N m i,t.length+1<N→t.length<m→At l i t→Kw (Ab l (i+t.length))→Cr l (AB l day N) m i= .ok (.cons h k n) (i+t.length):=by
 obtain⟨t1,s1,e1,hf1,hr1,_⟩:=hg.1.ex;obtain⟨t2,s2,e2,hc2,hr2⟩:=Ou d n hg.2;refine⟨t1++t2,s1++s2,?_,hf1.app _,?_⟩
 ·simp only[Ao,List.map_cons,AZ,e1,e2,Av,Option.bind_some,Option.map_some]
 ·intro l N m i hN hm ha hs;rw[List.length_append]at hN hm hs ⊢;unfold Cr;have hst:StopE (Ab l (i+t1.length)):=by
   rcases hc2 with rfl| ⟨r,rfl⟩
   ·have:=hs.1;simpa using this
   ·rw[ha.right.head];exact CW (by decide)
  rw[hr1 l N i (by omega) ha.left hst,Res.bind_ok];rw[hr2 l N m (.one ⟨h,k⟩) (i+t1.length) (by omega) (by omega) ha.right (by rwa[show i+t1.length+t2.length=i+(t1.length+t2.length)by omega])];show Res.ok (Fo.cons h k n) _=_;congr 1;omega
theorem CU{l:List Tok}{i:Nat}{s:Bs}(h:Ab l i=wd s)(hs:An s=true):AV l i= .ok s (i+1):=by
 unfold AV;rw[h];simp[wd,hs]
theorem MO:∀p:List Bs,p.all An=true→∃t s,CG (p.map nmW)=some (t,s)∧(t=[]∨∃r,t=sg [44]::r)∧
 ∀l n acc i,t.length<n→At l i t→Ae (Ab l (i+t.length)) [44]=false→BS l n acc i= .ok (acc++p) (i+t.length):=by
 intro p;induction p with
 | nil=>
   intro _;refine⟨[],[],rfl,.inl rfl,?_⟩;intro l n acc i hn ha hs;obtain⟨n,rfl⟩:∃q,n=q+1:=⟨n-1,by simp at hn;omega⟩;unfold BS;have h2:Ae (Ab l i) [44]=false:=hs;rw[if_neg (by rw[h2];simp),List.append_nil];rfl
 | cons a p ih=>
   intro hp;rw[List.all_cons,Bool.and_eq_true]at hp;obtain⟨t2,s2,e2,hc2,hr2⟩:=ih hp.2;refine⟨sg [44]::wd a::t2,[44]++([32]++(a++s2)),?_,.inr ⟨_,rfl⟩,?_⟩
   ·simp[CG,nmW,hp.1,e2,catL,Av,sgn,Bb]
   ·intro l n acc i hn ha hs;simp only[List.length_cons]at hn hs ⊢;obtain⟨n,rfl⟩:∃q,n=q+1:=⟨n-1,by omega⟩;unfold BS;rw[ha.head,Bk,if_pos (by decide),CU ha.tail.head hp.1,Res.bind_ok];rw[hr2 l n (acc++[a]) (i+1+1) (by omega) ha.tail.tail (by rwa[show i+1+1+t2.length=i+(t2.length+1+1)by omega])];simp;omega
theorem LX{a:Bs}{p:List Bs}(hp:(a::p).all An=true):∃t s,AZ ((a::p).map nmW)=some (wd a::t,s)∧
 ∀l n i,t.length+1<n→At l i (wd a::t)→Ae (Ab l (i+(wd a::t).length)) [44]=false→Cu l n i= .ok (a::p) (i+(wd a::t).length):=by
 rw[List.all_cons,Bool.and_eq_true]at hp;obtain⟨t2,s2,e2,hc2,hr2⟩:=MO p hp.2;refine⟨t2,a++s2,?_,?_⟩
 ·simp[AZ,nmW,hp.1,e2,Av]
 ·intro l n i hn ha hs;simp only[List.length_cons]at hs ⊢;unfold Cu;rw[CU ha.head hp.1,Res.bind_ok,hr2 l n [a] (i+1) (by omega) ha.tail (by rwa[show i+1+t2.length=i+(t2.length+1)by omega])];simp;omega
end
end Go.Proofs.YtgjdhajcnechdaaGreatDoor
