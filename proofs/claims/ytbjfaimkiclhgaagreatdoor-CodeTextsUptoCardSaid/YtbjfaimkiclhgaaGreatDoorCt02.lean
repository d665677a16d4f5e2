/-
  Base Model Par How expressions lie in memory: a row of expressions is a slice of seven cells each; their names and operands lie in blocks that 'ok' lets by. SynA SynB
-/
import Derived.WalkKit
import Derived.BigQuiet
import Derived.Deep.QuietTactic
import Derived.WalkSpells
import Derived.StillTailTactics
import Derived.WalkLawsBesides
import Derived.Lib.Hide
import Derived.Deep.RegionWith
import Derived.Deep.RegionHeld3
import Derived.Test.YtbjfaimkiclhgaaGreatDoorProg
import Derived.KernelRfl
import Derived.MapKept
import Derived.WideMake
set_option linter.all false
set_option maxRecDepth 100000
set_option maxHeartbeats 8000000
namespace Go.Proofs.YtbjfaimkiclhgaaGreatDoor
open Go.Proofs.Tryz
open Go.RowKit
variable{p:Prop}{P:Program}{n m b k i size B e:Nat}{w w1 w2 w':World}{v a0 a1 a2 a3 a4 a5 a6 tv wv pv lv:Value}{r:Option Nat}{cs xs:List Value}{t mty kt et:TypeId}{α β:Type}{ok':Nat->Prop}
structure Hid(p:Prop):Prop where
 out:p
def S(h:p):Hid p:=⟨h⟩
abbrev gZ:=@World.grownBy_alloc
abbrev bZ:=@bodyPost_ret
abbrev nR:=@Nat.le_refl
abbrev lA:=@List.length_append
abbrev nF:=@ne_true_of_eq_false
abbrev nT:=@Nat.le_trans
abbrev bY:=@World.block_lt_of_cell?
abbrev fC:=@List.flatMap_cons
abbrev nZ:=@Nat.zero_le
def iPz{e:TypeId}{z:Value}(h:(P.info? e).map (λi=>(i.zero,i.size,i.bytes))=some (some z,n,m)):∃i,Hid (P.info? e=some i/\i.zero=some z/\i.size=n/\i.bytes=m):=by
 obtain⟨i,hi,hz⟩:=Option.map_eq_some_iff.1 h;simp only[Prod.mk.injEq]at hz;exact⟨i,⟨hi,hz⟩⟩
abbrev ρ(w:World)(v:Value):Ending->World->Prop:=λe w'=>e= .returned v/\w.grownBy w' none
def mR{f:Nat}{a:Array Value}{G:World->Prop}{Q:Ending->World->Prop}(h:Calls P f a w λe w'=>e= .returned v/\G w')(k:∀w',G w'->Q (.returned v) w'):Calls P f a w Q:=h.mono λe w' ⟨he,hg⟩=>by subst he;exact k w' hg
def X{q:Prop}(h:p)(k:q):p/\q:=⟨h,k⟩
def Aa(w:World)(r:Option Nat):w.grownBy w r:=⟨rfl,rfl,rfl,nR _,λ_ _ _=>rfl⟩
def Z(h:w.grownBy w1 r)(k:w1.grownBy w2 r):w.grownBy w2 r:=
 ⟨k.os.trans h.os,k.tape.trans h.tape,k.output.trans h.output,nT h.size k.size,λi hi hr=>(k.block i (Nat.lt_of_lt_of_le hi h.size) hr).trans (h.block i hi hr)⟩
def A2(h:w.grownBy w1 none):w.grownBy w1 r:=
 ⟨h.os,h.tape,h.output,h.size,λi hi _=>h.block i hi (by simp)⟩
def Ac(h:w.grownBy w1 r)(o:Obj):w.grownBy (w1.alloc o) r:=
 Z h (gZ w1 o r)
def Ae(h:w.grownBy w1 r):w.grownBy w1.drew r:=⟨h.os,h.tape,h.output,h.size,h.block⟩
def An(h:w.grownBy w1 r)(n:Nat):w.grownBy (w1.drewN n) r:=⟨h.os,h.tape,h.output,h.size,h.block⟩
def Af(h:w.grownBy w1 r)(a:Addr)(v:Value)(ha:some a.block=r\/w.heap.size<=a.block):w.grownBy (w1.setCell a v) r:=by
 refine⟨h.os,h.tape,h.output,?_,λi hi hr=>?_⟩
 ·simp[World.setCell];exact h.size
 ·have hne : i ≠ a.block := by
   rintro rfl;rcases ha with ha|ha
   ·exact hr ha
   ·omega
  rw[Below.heap_setCell _ _ _ _ hne];exact h.block i hi hr
def Ag(h:w.grownBy w1 r)(k:w1.grownBy w2 none):w.grownBy w2 r:=Z h (A2 k)
def Ap(h:w.grownBy w1 r)(k:w1.grownBy w2 (some b))(hb:some b=r\/w.heap.size<=b):w.grownBy w2 r:=
 ⟨k.os.trans h.os,k.tape.trans h.tape,k.output.trans h.output,nT h.size k.size,λi hi hr=>(k.block i (Nat.lt_of_lt_of_le hi h.size) (by
  intro e
  rcases hb with hb|hb
  ·exact hr (e.trans hb)
  ·cases e;omega)).trans (h.block i hi hr)⟩
def B3(h:w.grownBy w1 r)(c:w.cell? ⟨k,i,none⟩=some v)(hk:some k≠r):w1.cell? ⟨k,i,none⟩=some v:=h.cell c hk
def Ad(h:w.grownBy w1 none)(c:w.cell? ⟨k,i,none⟩=some v):w1.cell? ⟨k,i,none⟩=some v:=h.cell c (by simp)
def CK(h:w.grownBy w1 r){o:Obj}(c:w.heap[k]? =some o)(hk:some k≠r):w1.heap[k]? =some o:=
 (h.block k (Array.getElem?_eq_some_iff.1 c).1 hk).trans c
def N6(h:w.grownBy w1 none):Below w.heap.size w w1:=⟨h.os,h.tape,h.output,h.size,λk hk=>h.block k hk (by simp)⟩
def Qx(h:Below w.heap.size w w1):w.grownBy w1 none:=⟨h.os,h.tape,h.output,h.size,λk hk _=>h.block k hk⟩
def Blk(w:World)(k:Nat)(cs:List Value)(t:TypeId):Prop:=w.heap[k]? =some (.cells cs.toArray t (0,0))
def Blk.lt(h:Blk w k cs t):k<w.heap.size:=(Array.getElem?_eq_some_iff.1 h).1
def Blk.cell(h:Blk w k cs t)(i:Nat):w.cell? ⟨k,i,none⟩=cs[i]?:=by
 simp only[World.cell?,show w.heap[k]? =some (.cells cs.toArray t (0,0))from h];simp
def Blk.cell'(h:Blk w k cs t)(i:Nat)(e:cs[i]? =some v):w.cell? ⟨k,i,none⟩=some v:=(h.cell i).trans e
def Blk.frozen(h:Blk w k cs t)(i:Nat):w.frozen? ⟨k,i,none⟩=false:=by
 simp only[World.frozen?,show w.heap[k]? =some (.cells cs.toArray t (0,0))from h];simp
def Blk.alloc(h:Blk w k cs t)(o:Obj):Blk (w.alloc o) k cs t:=
 (Below.heap_alloc w o k h.lt).trans h
def Blk.new(w:World)(cs:List Value)(t:TypeId):Blk (w.alloc (.cells cs.toArray t (0,0))) w.heap.size cs t:=heap_alloc_new w _
def Blk.drew(h:Blk w k cs t):Blk w.drew k cs t:=h
def Blk.drewN(h:Blk w k cs t)(n:Nat):Blk (w.drewN n) k cs t:=h
def Blk.set(h:Blk w k cs t)(i:Nat)(v:Value):Blk (w.setCell ⟨k,i,none⟩ v) k (cs.set i v) t:=by
 have h':w.heap[k]? =some (.cells cs.toArray t (0,0)):=h;simp[Blk,World.setCell,Array.getElem?_modify,h']
def Blk.set_other(h:Blk w k cs t)(a:Addr)(v:Value)(hne:k≠a.block):Blk (w.setCell a v) k cs t:=
 (Below.heap_setCell w a v k hne).trans h
def Blk.gb(h:Blk w k cs t)(g:w.grownBy w1 r)(hk:some k≠r):Blk w1 k cs t:=CK g h hk
def Blk.of_eq{k':Nat}{cs':List Value}(h:Blk w k cs t)(e:k=k')(e':cs=cs'):Blk w k' cs' t:=e ▸ e' ▸ h
def Blk.c7(h:Blk w k [a0,a1,a2,a3,a4,a5,a6] t):
 w.cell? ⟨k,0,none⟩=some a0/\w.cell? ⟨k,1,none⟩=some a1/\w.cell? ⟨k,2,none⟩=some a2/\w.cell? ⟨k,3,none⟩=some a3/\w.cell? ⟨k,4,none⟩=some a4/\w.cell? ⟨k,5,none⟩=some a5/\w.cell? ⟨k,6,none⟩=some a6/\∀i,w.frozen? ⟨k,i,none⟩=false:=
 ⟨h.cell 0,h.cell 1,h.cell 2,h.cell 3,h.cell 4,h.cell 5,h.cell 6,λi=>h.frozen i⟩
def Blk.c10{a7 a8 a9:Value}(h:Blk w k [a0,a1,a2,a3,a4,a5,a6,a7,a8,a9] t):
 w.cell? ⟨k,0,none⟩=some a0/\w.cell? ⟨k,1,none⟩=some a1/\w.cell? ⟨k,2,none⟩=some a2/\w.cell? ⟨k,3,none⟩=some a3/\w.cell? ⟨k,4,none⟩=some a4/\w.cell? ⟨k,5,none⟩=some a5/\w.cell? ⟨k,6,none⟩=some a6/\w.cell? ⟨k,7,none⟩=some a7/\w.cell? ⟨k,8,none⟩=some a8/\w.cell? ⟨k,9,none⟩=some a9/\∀i,w.frozen? ⟨k,i,none⟩=false:=
 ⟨h.cell 0,h.cell 1,h.cell 2,h.cell 3,h.cell 4,h.cell 5,h.cell 6,h.cell 7,h.cell 8,h.cell 9,λi=>h.frozen i⟩
def HQr{α:Sort _}{a b R:α}(H:Hid (a=R))(r:a=b):Hid (b=R):=S (r.symm.trans H.1)
def Bx{G:Prop}(h:G)(a:Act)(w:World):wpAny P .any #[] (λ_ _ _=>True) 0 #[] a w->G:=λ_=>h
abbrev Bs:=List UInt8
variable{s:Bs}{wl:List Bs}
structure Tok where
 kind:Int
 pos:Int
 text:Bs
 deriving DecidableEq
variable{l:List Tok}
structure Hd where
 op:Int
 s:Bs
 vk:Int
 vn:Int
 vs:Bs
 p:List Bs
 deriving DecidableEq
inductive Fo where
 |nil
 |cons (h:Hd) (kids next:Fo)
variable{f:Fo}
structure Ex where
 h:Hd
 kids:Fo
variable{x:Ex}
def Fo.len:Fo->Nat
 | .nil=>0
 | .cons _ _ next=>next.len+1
def Fo.app:Fo->Fo->Fo
 | .nil,g=>g
 | .cons h k n,g=> .cons h k (n.app g)
def Ex.fo(x:Ex)(next:Fo):Fo:= .cons x.h x.kids next
def Fo.snoc(f:Fo)(x:Ex):Fo:=f.app (x.fo .nil)
def Fo.one(x:Ex):Fo:=x.fo .nil
def Fo.two(x y:Ex):Fo:=x.fo (y.fo .nil)
def Fo.len_app(f g:Fo):(f.app g).len=f.len+g.len:=by
 induction f with
 |nil=>simp[Fo.app,Fo.len]
 |cons h k n _ ih=>simp[Fo.app,Fo.len,ih];omega
def Fo.len_snoc(f:Fo)(x:Ex):(f.snoc x).len=f.len+1:=by simp[Fo.snoc,Fo.len_app,Ex.fo,Fo.len]
inductive Res (α:Type) where
 |ok (a:α) (i:Nat)
 |bad (k:Nat)
 |out
def Res.bind{α β:Type}:Res α->(α->Nat->Res β)->Res β
 | .ok a i,f=>f a i
 | .bad k,_=> .bad k
 | .out,_=> .out
def Res.bind_ok(a:α)(i:Nat)(f:α->Nat->Res β):(Res.ok a i).bind f=f a i:=rfl
def HQb{a:Res α}{f:α->Nat->Res β}{R:Res β}{q:Nat}(H:Hid (a.bind f=R))(r:a= .bad q):R= .bad q:=by rw[<-H.out,r];rfl
def HQu{a:Res α}{f:α->Nat->Res β}{R:Res β}(H:Hid (a.bind f=R))(r:a= .out):R= .out:=by rw[<-H.out,r];rfl
def HQo{a:Res α}{x:α}{f:α->Nat->Res β}{R:Res β}(H:Hid (a.bind f=R))(r:a= .ok x i):Hid (f x i=R):=S (by have h:=H.out;rw[r,Res.bind_ok]at h;exact h)
def Res.bind_bad(k:Nat)(f:α->Nat->Res β):(Res.bad k).bind f= .bad k:=rfl
def Ab(l:List Tok)(i:Nat):Tok:=(l[i]?).getD ⟨-1,0,[]⟩
def Ah(t:Tok)(s:Bs):Bool:=t.kind==4&&t.text==s
def DT(b:UInt8):Bool:=(65<=b&&b<=90)||(48<=b&&b<=57)||b==95
def Aw(s:Bs):Bool:= !s.isEmpty&&decide (s.length<=10)&&!(match s with|b::_=>(48<=b&&b<=57)| []=>false)&&s.all DT
def AW(l:List Tok)(s:Bs)(i:Nat):Res Unit:=if Ah (Ab l i) s then .ok () (i+1)else .bad i
def B4(l:List Tok)(i:Nat):Res Unit:=if(Ab l i).kind==5 then .ok () (i+1)else .bad i
def AD(l:List Tok)(i:Nat):Res Bs:=if(Ab l i).kind==0&&Aw (Ab l i).text then .ok (Ab l i).text (i+1)else .bad i
def hd0(op:Int)(s:Bs):Hd:=⟨op,s,0,0,[],[]⟩
def A6(vk vn:Int)(vs:Bs):Ex:=⟨⟨0,[],vk,vn,vs,[]⟩,.nil⟩
def AH(s:Bs):Ex:=⟨hd0 1 s,.nil⟩
def Bq(s:Bs)(a b:Ex):Ex:=⟨hd0 5 s,.two a b⟩
def unE(s:Bs)(a:Ex):Ex:=⟨hd0 4 s,.one a⟩
def DY(a b:Ex):Ex:=⟨hd0 6 [],.two a b⟩
def lvl(k:Nat):List (Bs×Bs):=
 match k with
 | 0=>[([46,79,82,46],[46,79,82,46])]
 | 1=>[([46,65,78,68,46],[46,65,78,68,46])]
 | 2=>[([61],[61]),([61,61],[61,61]),([60,62],[60,62]),([35],[60,62]),([33,61],[60,62]),([60],[60]),([62],[62]),([60,61],[60,61]),([62,61],[62,61]),([36],[36])]
 | 3=>[([43],[43]),([45],[45])]
 | 4=>[([42],[42]),([47],[47]),([37],[37])]
 |_=>[([94],[94])]
def Gq(k:Nat)(s:Bs):Bs:=((lvl k).lookup s).getD []
def Hz(s:Bs)(i:Nat):Nat:=if s.isEmpty then i else i+1
def IC(i:Nat):Hz [] i=i:=rfl
def IM(h:s≠[])(i:Nat):Hz s i=i+1:=by unfold Hz;rw[if_neg (by simpa using h)]
def AM(l:List Tok)(level i:Nat):Bs:=if(Ab l i).kind==4 then Gq level (Ab l i).text else []
def Dg(l:List Tok)(level:Nat)(opnd:Nat->Res Ex):Nat->Ex->Nat->Res Ex
 | 0,_,_=> .out
 |n+1,x,i=>if(AM l level i).isEmpty then .ok x i else(opnd (i+1)).bind λy j=>Dg l level opnd n (Bq (AM l level i) x y) j
def Bj(l:List Tok)(level n:Nat)(opnd:Nat->Res Ex)(i:Nat):Res Ex:=(opnd i).bind λx j=>Dg l level opnd n x j
def Do(l:List Tok)(sum:Nat->Res Ex):Nat->Nat->Res Ex
 | 0,_=> .out
 | n+1,i=>
   if Ah (Ab l i) [46,78,79,84,46]||Ah (Ab l i) [33]then(Do l sum n (i+1)).bind λx j=> .ok (unE [46,78,79,84,46] x) j
   else(sum i).bind λx j=>if(AM l 2 j).isEmpty then .ok x j else(sum (j+1)).bind λy k=> .ok (Bq (AM l 2 j) x y) k
def D2(l:List Tok)(un:Nat->Res Ex):Nat->Nat->Res Ex
 | 0,_=> .out
 |n+1,i=>(un i).bind λx j=>if(AM l 5 j).isEmpty then .ok x j else(D2 l un n (j+1)).bind λy k=> .ok (Bq (AM l 5 j) x y) k
def CH(l:List Tok)(expr:Nat->Res Ex):Nat->Ex->Nat->Res Ex
 | 0,_,_=> .out
 |n+1,x,i=>if Ah (Ab l i) [91]then(expr (i+1)).bind λy j=>(AW l [93] j).bind λ_ k=>CH l expr n (DY x y) k else .ok x i
def CG(l:List Tok)(expr prim:Nat->Res Ex):Nat->Nat->Res Ex
 | 0,_=> .out
 |n+1,i=>if Ah (Ab l i) [45]then(CG l expr prim n (i+1)).bind λx j=> .ok (unE [45] x) j else(prim i).bind λx j=>CH l expr n x j
def Dh(l:List Tok)(expr:Nat->Res Ex):Nat->Fo->Nat->Res Fo
 | 0,_,_=> .out
 |n+1,acc,i=>if Ah (Ab l i) [44]then(expr (i+1)).bind λy j=>Dh l expr n (acc.snoc y) j else .ok acc i
def Dd(l:List Tok)(expr:Nat->Res Ex)(n i:Nat):Res Fo:=(expr i).bind λx j=>Dh l expr n (.one x) j
def Dj(l:List Tok):Nat->List Bs->Nat->Res (List Bs)
 | 0,_,_=> .out
 |n+1,acc,i=>if Ah (Ab l i) [44]then(AD l (i+1)).bind λy j=>Dj l n (acc++[y]) j else .ok acc i
def CF(l:List Tok)(n i:Nat):Res (List Bs):=(AD l i).bind λx j=>Dj l n [x] j
def DH(l:List Tok)(expr:Nat->Res Ex)(n i:Nat):Res Ex:=
 (AD l i).bind λs j=>(AW l [40] j).bind λ_ j=>
  if Ah (Ab l j) [41]then .ok ⟨hd0 3 s,.nil⟩ (j+1)else(Dd l expr n j).bind λf k=>(AW l [41] k).bind λ_ k=> .ok ⟨hd0 3 s,f⟩ k
def DD(l:List Tok)(expr:Nat->Res Ex)(i:Nat):Res Ex:=
 (AW l [38] i).bind λ_ i=>
  if Ah (Ab l i) [40]then(expr (i+1)).bind λx j=>(AW l [41] j).bind λ_ j=> .ok ⟨hd0 9 [],.one x⟩ j
  else(AD l i).bind λs j=> .ok ⟨hd0 9 s,.nil⟩ (if Ah (Ab l j) [46]then j+1 else j)
def DO(l:List Tok)(expr:Nat->Res Ex)(n i:Nat):Res Ex:=
 if Ah (Ab l i) [124]then
  (if Ah (Ab l (i+1)) [124]then .ok [] (i+2)else(CF l n (i+1)).bind λp j=>(AW l [124] j).bind λ_ j=> .ok p j).bind λp j=>
   (expr j).bind λx j=>(AW l [125] j).bind λ_ j=> .ok ⟨⟨8,[],0,0,[],p⟩,.one x⟩ j
 else(Dd l expr n i).bind λf j=>(AW l [125] j).bind λ_ j=> .ok ⟨hd0 7 [],f⟩ j
def Ep(l:List Tok)(expr:Nat->Res Ex)(n i:Nat):Res Ex:=
 if Ah (Ab l i) [38]then DD l expr i
 else if Ah (Ab l i) [46,84,46]then .ok (A6 1 1 []) (i+1)
 else if Ah (Ab l i) [46,70,46]then .ok (A6 1 0 []) (i+1)
 else if Ah (Ab l i) [46,78,85,76,76,46]then .ok (A6 0 0 []) (i+1)
 else if Ah (Ab l i) [40]then(expr (i+1)).bind λx j=>(AW l [41] j).bind λ_ j=> .ok x j
 else if Ah (Ab l i) [64]then(AD l (i+1)).bind λs j=> .ok ⟨hd0 10 s,.nil⟩ j
 else if Ah (Ab l i) [123]then DO l expr n (i+1)
 else .bad i
def Et(l:List Tok)(expr:Nat->Res Ex)(n i:Nat):Res Ex:=
 if Ah (Ab l (i+1)) [40]then DH l expr n i
 else(AD l i).bind λs j=>
  if Ah (Ab l j) [45,62]then
   if Ah (Ab l (j+1)) [40]then(expr (j+2)).bind λx k=>(AW l [41] k).bind λ_ k=> .ok ⟨hd0 2 s,.one x⟩ k
   else(AD l (j+1)).bind λt k=> .ok ⟨hd0 2 s,.one (AH t)⟩ k
  else .ok (AH s) j
def AA(s:Bs):Int:=s.foldl (λn b=>10*n+((b.toNat:Int)-48)) 0
def DK(l:List Tok)(day:Bs->Int)(expr:Nat->Res Ex)(n i:Nat):Res Ex:=
 if(Ab l i).kind==1 then .ok (A6 2 (AA (Ab l i).text) []) (i+1)
 else if(Ab l i).kind==2 then(if(Ab l i).text.length>2048 then .bad i else .ok (A6 4 0 (Ab l i).text) (i+1))
 else if(Ab l i).kind==3 then .ok (A6 3 (day (Ab l i).text) []) (i+1)
 else if(Ab l i).kind==0 then Et l expr n i
 else Ep l expr n i
def sumM(l:List Tok)(n:Nat)(pow:Nat->Res Ex)(i:Nat):Res Ex:=Bj l 3 n (Bj l 4 n pow) i
def Ai(l:List Tok)(day:Bs->Int):Nat->Nat->Res Ex
 | 0,_=> .out
 |n+1,i=>Bj l 0 n (Bj l 1 n (Do l (sumM l n (D2 l (CG l (Ai l day n) (DK l day (Ai l day n) n) n) n)) n)) i
abbrev str(l:Bs):Value:= .string ⟨l.toArray⟩
def TRow(w:World)(v:Value)(l:List Tok)(ok:Nat->Prop):Prop:=
 ∃a cap,v= .slice a l.length cap/\l.length<=cap/\cap<=maxLen/\∀j,j<l.length->∃lb lo,a=some ⟨lb,lo,none⟩/\ok lb/\
  w.cell? ⟨lb,lo+j*3,none⟩=some (.int .i64 (Ab l j).kind)/\w.cell? ⟨lb,lo+j*3+1,none⟩=some (.int .i64 (Ab l j).pos)/\
  w.cell? ⟨lb,lo+j*3+2,none⟩=some (.string ⟨(Ab l j).text.toArray⟩)
def SRow(w:World)(v:Value)(l:List Bs)(ok:Nat->Prop):Prop:=
 ∃a cap,v= .slice a l.length cap/\l.length<=cap/\cap<=maxLen/\∀j,j<l.length->∃lb lo,a=some ⟨lb,lo,none⟩/\ok lb/\
  w.cell? ⟨lb,lo+j,none⟩=some (.string ⟨(l.getD j []).toArray⟩)
def TRow.gb{ok:Nat->Prop}(h:TRow w v l ok)(g:w.grownBy w1 r)(hk:∀k,ok k->some k≠r):TRow w1 v l ok:=by
 obtain⟨a,cap,e,h1,h2,h3⟩:=h;refine⟨a,cap,e,h1,h2,λj hj=>?_⟩;obtain⟨lb,lo,ea,ho,c0,c1,c2⟩:=h3 j hj;exact⟨lb,lo,ea,ho,B3 g c0 (hk _ ho),B3 g c1 (hk _ ho),B3 g c2 (hk _ ho)⟩
def SRow.gb{l:List Bs}{ok:Nat->Prop}(h:SRow w v l ok)(g:w.grownBy w1 r)(hk:∀k,ok k->some k≠r):SRow w1 v l ok:=by
 obtain⟨a,cap,e,h1,h2,h3⟩:=h;refine⟨a,cap,e,h1,h2,λj hj=>?_⟩;obtain⟨lb,lo,ea,ho,c0⟩:=h3 j hj;exact⟨lb,lo,ea,ho,B3 g c0 (hk _ ho)⟩
structure Par(w:World)(b:Nat)(tv wv:Value)(l:List Tok)(wl:List Bs)(i:Nat):Prop where
 blk:Blk w b [tv,.int .i64 i,wv,.slice none 0 0] 284
 toks:TRow w tv l (· < b)
 words:SRow w wv wl (· < b)
 le:i<=l.length
 few:l.length<=4001
def Par.lt(h:Par w b tv wv l wl i):b<w.heap.size:=h.blk.lt
def Par.c0(h:Par w b tv wv l wl i):w.cell? ⟨b,0,none⟩=some tv:=h.blk.cell 0
def Par.c1(h:Par w b tv wv l wl i):w.cell? ⟨b,1,none⟩=some (.int .i64 i):=h.blk.cell 1
def Par.c2(h:Par w b tv wv l wl i):w.cell? ⟨b,2,none⟩=some wv:=h.blk.cell 2
def Par.c3(h:Par w b tv wv l wl i):w.cell? ⟨b,3,none⟩=some (.slice none 0 0):=h.blk.cell 3
def Par.f1(h:Par w b tv wv l wl i):w.frozen? ⟨b,1,none⟩=false:=h.blk.frozen 1
def Par.gb(h:Par w b tv wv l wl i)(g:w.grownBy w1 r)(hr:∀k,r=some k->b<k):Par w1 b tv wv l wl i:=
 ⟨h.blk.gb g (λe=>by have:=hr _ e.symm;omega),h.toks.gb g (λk hk e=>by have:=hr _ e.symm;omega),h.words.gb g (λk hk e=>by have:=hr _ e.symm;omega),h.le,h.few⟩
def Par.gbN(h:Par w b tv wv l wl i)(g:w.grownBy w1 none):Par w1 b tv wv l wl i:=h.gb g (by simp)
def Par.alloc(h:Par w b tv wv l wl i)(o:Obj):Par (w.alloc o) b tv wv l wl i:=h.gbN (gZ w o none)
def Par.drewN(h:Par w b tv wv l wl i)(n:Nat):Par (w.drewN n) b tv wv l wl i:=h.gbN (An (Aa w none) n)
def Par.go(h:Par w b tv wv l wl i)(j:Nat)(hj:j<=l.length):Par (w.setCell ⟨b,1,none⟩ (.int .i64 j)) b tv wv l wl j:=by
 have g:w.grownBy (w.setCell ⟨b,1,none⟩ (.int .i64 j)) (some b):=Af (Aa w _) _ _ (.inl rfl);exact⟨(h.blk.set 1 (.int .i64 j)).of_eq rfl rfl,h.toks.gb g (by intro k hk;simp;omega),h.words.gb g (by intro k hk;simp;omega),hj,h.few⟩
def Par.goI(h:Par w b tv wv l wl i)(z:Int)(j:Nat)(hz:z=j)(hj:j<=l.length):Par (w.setCell ⟨b,1,none⟩ (.int .i64 z)) b tv wv l wl j:=by
 subst hz;exact h.go j hj
def Par.tok(h:Par w b tv wv l wl i){j:Nat}(hj:j<l.length):∃lb lo cap,tv= .slice (some ⟨lb,lo,none⟩) l.length cap/\lb<w.heap.size/\lb≠b/\
 w.cell? ⟨lb,lo+j*3,none⟩=some (.int .i64 (Ab l j).kind)/\w.cell? ⟨lb,lo+j*3+1,none⟩=some (.int .i64 (Ab l j).pos)/\
 w.cell? ⟨lb,lo+j*3+2,none⟩=some (.string ⟨(Ab l j).text.toArray⟩):=by
 obtain⟨a,cap,e,_,_,h3⟩:=h.toks;obtain⟨lb,lo,ea,ho,c0,c1,c2⟩:=h3 j hj;subst ea;exact⟨lb,lo,cap,e,bY w _ c0,Nat.ne_of_lt ho,c0,c1,c2⟩
def Par.tv_eq(h:Par w b tv wv l wl i):∃a cap,tv= .slice a l.length cap:=by
 obtain⟨a,cap,e,_⟩:=h.toks;exact⟨a,cap,e⟩
def GG(i:Nat):List PanicEntry:=[{v:= .iface 281 (.agg #[.int .i64 i]),recovered:=false}]
def Post(b:Nat)(tv wv:Value)(l:List Tok)(wl:List Bs)(w:World){α:Type}(V:World->Value->α->Prop)(r:Res α)(e:Ending)(w':World):Prop:=
 w.grownBy w' (some b)/\match r with
  | .ok a i=>∃v,e= .returned v/\V w' v a/\Par w' b tv wv l wl i
  | .bad k=>e= .panicked (GG k)
  | .out=>False
def Post.bad{V:World->Value->α->Prop}{r:Res α}(g:w.grownBy w' (some b))(hr:r= .bad k):Post b tv wv l wl w V r (.panicked (GG k)) w':=by
 subst hr;exact⟨g,rfl⟩
def PBd{γ ξ:Type}{V:World->Value->α->Prop}{a:Res γ}{f:γ->Nat->Res α}{R:Res α}{x:List ξ}(g1:w.grownBy w1 (some b))(g2:w1.grownBy w2 (some b))(H:Hid (a.bind f=R))(r:a= .bad k):x=x/\Post b tv wv l wl w V R (.panicked (GG k)) w2:=⟨rfl,Post.bad (Z g1 g2) (HQb H r)⟩
def Post.ok{V:World->Value->α->Prop}{r:Res α}{a:α}(g:w.grownBy w' (some b))(hr:r= .ok a i)(hv:V w' v a)(hp:Par w' b tv wv l wl i):Post b tv wv l wl w V r (.returned v) w':=by
 subst hr;exact⟨g,v,rfl,hv,hp⟩
def Cells(w:World)(v:Value)(size n:Nat)(cs:List Value)(ok:Nat->Prop):Prop:=
 ∃a cap,v= .slice a n cap/\n<=cap/\cap<=maxLen/\cs.length=n*size/\∀j u,cs[j]? =some u->∃g o,a=some ⟨g,o,none⟩/\ok g/\w.cell? ⟨g,o+j,none⟩=some u
def hdC(h:Hd)(pv lv:Value):List Value:=[.int .i64 h.op,str h.s,.int .i64 h.vk,.int .i64 h.vn,str h.vs,pv,lv]
abbrev exV(h:Hd)(pv lv:Value):Value:= .agg #[.int .i64 h.op,str h.s,.int .i64 h.vk,.int .i64 h.vn,str h.vs,pv,lv]
def RepF(ok:Nat->Prop)(w:World):Fo->List Value->Prop
 | .nil,cs=>cs=[]
 | .cons h kids next,cs=>∃pv lv kcs rest,cs=hdC h pv lv++rest/\Cells w pv 1 h.p.length (h.p.map str) ok/\Cells w lv 7 kids.len kcs ok/\RepF ok w kids kcs/\RepF ok w next rest
def RepL(ok:Nat->Prop)(w:World)(v:Value)(f:Fo):Prop:=∃cs,Cells w v 7 f.len cs ok/\RepF ok w f cs
def VE(ok:Nat->Prop)(w:World)(v:Value)(x:Ex):Prop:=∃pa pc la lc,v=exV x.h (.slice pa x.h.p.length pc) (.slice la x.kids.len lc)/\Cells w (.slice pa x.h.p.length pc) 1 x.h.p.length (x.h.p.map str) ok/\RepL ok w (.slice la x.kids.len lc) x.kids
def Cells.gb{ok:Nat->Prop}(h:Cells w v size n cs ok)(g:w.grownBy w1 r)(hk:∀k,ok k->k<w.heap.size->some k≠r):Cells w1 v size n cs ok:=by
 obtain⟨a,cap,e,h1,h2,h3,h4⟩:=h;refine⟨a,cap,e,h1,h2,h3,λj u hj=>?_⟩;obtain⟨gg,o,ea,ho,hc⟩:=h4 j u hj;exact⟨gg,o,ea,ho,B3 g hc (hk _ ho (bY w _ hc))⟩
def Cells.mono{ok:Nat->Prop}(h:Cells w v size n cs ok)(hk:∀k,ok k->k<w.heap.size->ok' k):Cells w v size n cs ok':=by
 obtain⟨a,cap,e,h1,h2,h3,h4⟩:=h;refine⟨a,cap,e,h1,h2,h3,λj u hj=>?_⟩;obtain⟨gg,o,ea,ho,hc⟩:=h4 j u hj;exact⟨gg,o,ea,hk _ ho (bY w _ hc),hc⟩
def Cells.nil(w:World)(size:Nat)(ok:Nat->Prop):Cells w (.slice none 0 0) size 0 [] ok:=⟨none,0,rfl,nR _,nZ _,by simp,λj u h=>by simp at h⟩
def RepF.gb{ok:Nat->Prop}(g:w.grownBy w1 r)(hk:∀k,ok k->k<w.heap.size->some k≠r):∀{f:Fo}{cs:List Value},RepF ok w f cs->RepF ok w1 f cs:=by
 intro f;induction f with
 |nil=>intro cs h;exact h
 | cons hd kids next ih1 ih2=>
   rintro cs ⟨pv,lv,kcs,rest,e,h1,h2,h3,h4⟩;exact⟨pv,lv,kcs,rest,e,h1.gb g hk,h2.gb g hk,ih1 h3,ih2 h4⟩
def RepF.mono{ok:Nat->Prop}(hk:∀k,ok k->k<w.heap.size->ok' k):∀{f:Fo}{cs:List Value},RepF ok w f cs->RepF ok' w f cs:=by
 intro f;induction f with
 |nil=>intro cs h;exact h
 | cons hd kids next ih1 ih2=>
   rintro cs ⟨pv,lv,kcs,rest,e,h1,h2,h3,h4⟩;exact⟨pv,lv,kcs,rest,e,h1.mono hk,h2.mono hk,ih1 h3,ih2 h4⟩
def RepL.gb{ok:Nat->Prop}(h:RepL ok w v f)(g:w.grownBy w1 r)(hk:∀k,ok k->k<w.heap.size->some k≠r):RepL ok w1 v f:=by
 obtain⟨cs,h1,h2⟩:=h;exact⟨cs,h1.gb g hk,h2.gb g hk⟩
def RepL.mono{ok:Nat->Prop}(h:RepL ok w v f)(hk:∀k,ok k->k<w.heap.size->ok' k):RepL ok' w v f:=by
 obtain⟨cs,h1,h2⟩:=h;exact⟨cs,h1.mono hk,h2.mono hk⟩
def RepL.nil(w:World)(ok:Nat->Prop):RepL ok w (.slice none 0 0) .nil:=⟨[],Cells.nil w 7 ok,rfl⟩
def VE.gb{ok:Nat->Prop}(h:VE ok w v x)(g:w.grownBy w1 r)(hk:∀k,ok k->k<w.heap.size->some k≠r):VE ok w1 v x:=by
 obtain⟨pa,pc,la,lc,e,h1,h2⟩:=h;exact⟨pa,pc,la,lc,e,h1.gb g hk,h2.gb g hk⟩
def VE.mono{ok:Nat->Prop}(h:VE ok w v x)(hk:∀k,ok k->k<w.heap.size->ok' k):VE ok' w v x:=by
 obtain⟨pa,pc,la,lc,e,h1,h2⟩:=h;exact⟨pa,pc,la,lc,e,h1.mono hk,h2.mono hk⟩
def RepF.len{ok:Nat->Prop}:∀{f:Fo}{cs:List Value},RepF ok w f cs->cs.length=f.len*7:=by
 intro f;induction f with
 |nil=>intro cs h;subst h;rfl
 | cons hd kids next ih1 ih2=>
   rintro cs ⟨pv,lv,kcs,rest,rfl,h1,h2,h3,h4⟩;simp[hdC,Fo.len,ih2 h4];omega
def RepF.app{ok:Nat->Prop}:∀{f g:Fo}{cs ds:List Value},RepF ok w f cs->RepF ok w g ds->RepF ok w (f.app g) (cs++ds):=by
 intro f;induction f with
 |nil=>intro g cs ds h k;subst h;exact k
 | cons hd kids next ih1 ih2=>
   rintro g cs ds ⟨pv,lv,kcs,rest,rfl,h1,h2,h3,h4⟩ k;exact⟨pv,lv,kcs,rest++ds,by simp,h1,h2,h3,ih2 h4 k⟩
def VE.rep{ok:Nat->Prop}(h1:Cells w pv 1 x.h.p.length (x.h.p.map str) ok)(h2:RepL ok w lv x.kids):RepF ok w (.one x) (hdC x.h pv lv):=by
 obtain⟨cs,h3,h4⟩:=h2;exact⟨pv,lv,cs,[],by simp,h1,h3,h4,rfl⟩
abbrev Al(B:Nat):Nat->Prop:=λg=>B<=g
def OwnF(w:World)(B:Nat)(v:Value)(f:Fo):Prop:=∃cs,w.ownsRow B 163 7 v f.len cs/\RepF (λg=>B<=g/\v.ownBlock≠some g) w f cs
def Cr(h:w.ownsRow B e size v n xs)(g:w.grownBy w1 r)(hk:∀k,B<=k->k<w.heap.size->some k≠r):w1.ownsRow B e size v n xs:=by
 refine h.kept g ?_;cases hv:v.ownBlock with
 |none=>exact .inl rfl
 |some k=>exact .inr (hk k (h.lt k hv).1 (h.lt k hv).2)
def OwnF.gb(h:OwnF w B v f)(g:w.grownBy w1 r)(hk:∀k,B<=k->k<w.heap.size->some k≠r):OwnF w1 B v f:=by
 obtain⟨cs,h1,h2⟩:=h;exact⟨cs,Cr h1 g hk,h2.gb g λk hk1 hk2=>hk k hk1.1 hk2⟩
def Db(h:w.ownsRow B e size v n xs):Cells w v size n xs (Al B):=by
 rcases h.2 with⟨rfl,rfl⟩| ⟨g,cap,cur,rfl,hb,hg,hnc,hcm,hcs,htake⟩
 ·exact ⟨none, 0, rfl, nR _, nZ _, h.1, λj u hj => by
   have:xs=[]:=List.eq_nil_of_length_eq_zero (by simpa using h.1);subst this;simp at hj⟩
 ·refine⟨_,_,rfl,hnc,hcm,h.1,λj u hj=>⟨g,0,rfl,hb,?_⟩⟩;have:=h.cells (g:=g) rfl j u hj;rw[Nat.zero_add];unfold Addr.add at this;split at this
  ·rename_i h0;subst h0;exact this
  ·simpa using this
def OwnF.rep(h:OwnF w B v f):RepL (Al B) w v f:=by
 obtain⟨cs,h1,h2⟩:=h;exact⟨cs,Db h1,h2.mono λk hk _=>hk.1⟩
abbrev set7(w:World)(k:Nat)(v0 v1 v2 v3 v4 v5 v6:Value):World:=
 ((((((w.setCell ⟨k,0,none⟩ v0).setCell ⟨k,1,none⟩ v1).setCell ⟨k,2,none⟩ v2).setCell ⟨k,3,none⟩ v3).setCell ⟨k,4,none⟩ v4).setCell ⟨k,5,none⟩ v5).setCell ⟨k,6,none⟩ v6
def Blk.set7(h:Blk w k [a0,a1,a2,a3,a4,a5,a6] t)(v0 v1 v2 v3 v4 v5 v6:Value):Blk (set7 w k v0 v1 v2 v3 v4 v5 v6) k [v0,v1,v2,v3,v4,v5,v6] t:=
 (((((((h.set 0 v0).set 1 v1).set 2 v2).set 3 v3).set 4 v4).set 5 v5).set 6 v6).of_eq rfl rfl
def Am(h:w.grownBy w1 (some k))(i:Nat)(v:Value):w.grownBy (w1.setCell ⟨k,i,none⟩ v) (some k):=Af h ⟨k,i,none⟩ v (.inl rfl)
def A0(w:World)(k:Nat)(v0 v1 v2 v3 v4 v5 v6:Value):w.grownBy (set7 w k v0 v1 v2 v3 v4 v5 v6) (some k):=by
 have h0:=Am (Aa w (some k)) 0 v0;have h1:=Am h0 1 v1;have h2:=Am h1 2 v2;have h3:=Am h2 3 v3;have h4:=Am h3 4 v4;have h5:=Am h4 5 v5;exact Am h5 6 v6
def T6:(match(Tryz.prog.underlying 163)with|some (.struct _)=>true|_=>false)=true:=by kernel_rfl
def AK{fn:Func}{p:Tmp}(h:fn.results=#[.cell p 163])(tmps:Array Value){hd:Hd}(hb:Blk w k (hdC hd pv lv) 163)(hp:tmps.getD p undef= .pointer (some ⟨k,0,none⟩)):
 (results fn tmps).run Tryz.prog w= .ok (exV hd pv lv) w:=by
 have hs:=T6;cases hu:Tryz.prog.underlying 163 with
 |none=>rw[hu]at hs;cases hs
 | some d=>
   rw[hu]at hs;exact results_cell_row h tmps w k 163 (hdC hd pv lv).toArray (0,0) d hp hb hu (by cases d<;>simp_all) (by show(Tryz.prog.info? 163).map (·.size)=some 7;kernel_rfl)
@[go_sem] theorem field_tok0(x y z:Value) (w:World):(Instr.field 250 (.agg #[x,y,z]) 0).run Tryz.prog w= .ok x w:=by kernel_rfl
@[go_sem] theorem field_tok2(x y z:Value) (w:World):(Instr.field 250 (.agg #[x,y,z]) 2).run Tryz.prog w= .ok z w:=by kernel_rfl
def EY(k a:Int)(s t:Bs)(w:World):Calls Tryz.prog 296 #[.agg #[.int .i64 k,.int .i64 a,str s],str t] w (ρ w (.bool (k==4&&s==t))):=by
 by_cases hk:k=4
 ·subst hk;go_enter func296,ntmps296;go_wp2;go_ret;exact⟨by simp,(Ac (Aa _ _) _)⟩
 ·have hk':(k==4)=false:=by simpa using hk
  go_enter func296,ntmps296;go_wp2;go_ret;exact⟨by simp[hk'],(Ac (Aa _ _) _)⟩
def TM(h:Par w b tv wv l wl i)(k:Nat)(hk:i+k<l.length)(hk2:k<=4):
 Calls Tryz.prog 240 #[.pointer (some ⟨b,0,none⟩),.int .i64 k] w (ρ w (.agg #[.int .i64 (Ab l (i+k)).kind,.int .i64 (Ab l (i+k)).pos,str (Ab l (i+k)).text])):=by
 obtain⟨lb,lo,cap,e,hlb,_,t0,t1,t2⟩:=h.tok hk;have c0:=h.c0;have c1:=h.c1;have hb:=h.lt;have hf:=h.few;rw[e]at c0;have hlt':decide ((l.length:Int)<=(i:Int)+k)=false:=by simp;omega
 generalize(Ab l (i+k)).kind=x at*;generalize(Ab l (i+k)).pos=y at*;generalize(Ab l (i+k)).text=s at*;generalize l.length=n at*;clear e h;go_enter func240,ntmps240;go_wp2;go_quiet(fail);go_wp2;go_region;go_wp2;refine bZ (v:= .agg #[.int .i64 x,.int .i64 y,str s]) ?_ rfl ⟨rfl,?_⟩
 ·simp[results,results240,go_sem]
 ·exact(by repeat(first| (with_reducible exact Aa _ _)| (with_reducible refine Ac ?_ _)| (with_reducible refine An ?_ _)| ((with_reducible refine Af ?_ _ _ ?h2);case h2=>exact .inr (nR _))))
def Wk(h:Par w b tv wv l wl i)(k:Nat)(hk:l.length<=i+k)(hk2:k<=4):
 Calls Tryz.prog 240 #[.pointer (some ⟨b,0,none⟩),.int .i64 k] w (ρ w (.agg #[.int .i64 (Ab l (i+k)).kind,.int .i64 (Ab l (i+k)).pos,str (Ab l (i+k)).text])):=by
 have et:Ab l (i+k)=⟨-1,0,[]⟩:=by simp[Ab,List.getElem?_eq_none hk]
 rw[et];clear et;obtain⟨a,cap,e⟩:=h.tv_eq;have c0:=h.c0;have c1:=h.c1;have hb:=h.lt;have hf:=h.few;have hle:=h.le;rw[e]at c0;have hlt':decide ((l.length:Int)<=(i:Int)+k)=true:=by simp;omega
 generalize l.length=n at*;clear e h;go_enter func240,ntmps240;go_wp2;go_quiet(fail);go_wp2;refine bZ (v:= .agg #[.int .i64 (-1),.int .i64 0,str []]) ?_ rfl ⟨rfl,?_⟩
 ·simp[results,results240,go_sem]
 ·exact(by repeat(first| (with_reducible exact Aa _ _)| (with_reducible refine Ac ?_ _)| (with_reducible refine An ?_ _)| ((with_reducible refine Af ?_ _ _ ?h2);case h2=>exact .inr (nR _))))
def MI(h:Par w b tv wv l wl i)(k:Nat)(hk2:k<=4):
 Calls Tryz.prog 240 #[.pointer (some ⟨b,0,none⟩),.int .i64 k] w (ρ w (.agg #[.int .i64 (Ab l (i+k)).kind,.int .i64 (Ab l (i+k)).pos,str (Ab l (i+k)).text])):=by
 by_cases hk:i+k<l.length
 ·exact TM h k hk hk2
 ·exact Wk h k (by omega) hk2
def DQ(c1:w.cell? ⟨b,1,none⟩=some (.int .i64 i)):
 Calls Tryz.prog 236 #[.pointer (some ⟨b,0,none⟩)] w λe w'=>e= .panicked (GG i)/\w'=w:=by
 go_enter func236,ntmps236;go_wp2;exact⟨rfl,rfl,rfl⟩
abbrev AR(t:Tok):Value:= .agg #[.int .i64 t.kind,.int .i64 t.pos,str t.text]
def Bn(h:Par w b tv wv l wl i):
 Calls Tryz.prog 240 #[.pointer (some ⟨b,0,none⟩),.int .i64 0] w (ρ w (AR (Ab l i))):=MI h 0 (by omega)
def Hs(h:Par w b tv wv l wl i):
 Calls Tryz.prog 240 #[.pointer (some ⟨b,0,none⟩),.int .i64 1] w (ρ w (AR (Ab l (i+1)))):=MI h 1 (by omega)
def GZ{l:List Tok}{i:Nat}(h:(Ab l i).kind ≠ -1):i<l.length:=by
 by_cases hi:i<l.length
 ·exact hi
 ·exact absurd (by simp[Ab,List.getElem?_eq_none (Nat.le_of_not_lt hi)]) h
def Yn(h:Ah (Ab l i) s=true):i<l.length:=by
 apply GZ;simp[Ah]at h;omega
def Bp(h:Par w b tv wv l wl i)(s:Bs)(hs:Ah (Ab l i) s=true):
 Calls Tryz.prog 269 #[.pointer (some ⟨b,0,none⟩),str s] w λe w'=>e= .returned (.bool true)/\Par w' b tv wv l wl (i+1)/\w.grownBy w' (some b):=by
 have hi:=Yn hs;have hs':((Ab l i).kind==4&&(Ab l i).text==s)=true:=hs;have hf:=h.few;clear hs;go_enter func269,ntmps269;go_wp2_with fail;refine mR (Bn h) λw1 g1=>?_;go_wp2_with fail;refine mR (EY _ _ _ _ _) λw2 g2=>?_;rw[hs'];have h2:=(h.gbN g1).gbN g2;have c1:=h2.c1;have f1:=h2.f1;go_wp2;go_ret;exact⟨rfl,h2.goI _ _ (by omega) (by omega),(by repeat(first| (with_reducible exact A2 (by assumption))| ((with_reducible refine Af ?_ _ _ ?h2);case h2=>exact .inl rfl)| (with_reducible refine Ag ?_ (by assumption))))⟩
def Bf(h:Par w b tv wv l wl i)(s:Bs)(hs:Ah (Ab l i) s=false):
 Calls Tryz.prog 269 #[.pointer (some ⟨b,0,none⟩),str s] w (ρ w (.bool false)):=by
 have hs':((Ab l i).kind==4&&(Ab l i).text==s)=false:=hs;clear hs;go_enter func269,ntmps269;go_wp2_with fail;refine mR (Bn h) λw1 g1=>?_;go_wp2_with fail;refine mR (EY _ _ _ _ _) λw2 g2=>?_;rw[hs'];go_wp2;go_ret;exact⟨rfl,Z g1 g2⟩
def CL(h:Par w b tv wv l wl i)(s:Bs):
 Calls Tryz.prog 279 #[.pointer (some ⟨b,0,none⟩),str s] w (Post b tv wv l wl w (λ_ v _=>v= .tuple #[]) (AW l s i)):=by
 by_cases hs:Ah (Ab l i) s=true
 ·unfold AW;rw[if_pos hs];go_enter func279,ntmps279;go_wp2_with fail;refine(Bp h s hs).mono ?_;rintro e w1 ⟨rfl,h1,g1⟩;go_wp2;go_end0;exact⟨g1,_,rfl,rfl,h1⟩
 ·unfold AW;rw[if_neg hs];have hs':Ah (Ab l i) s=false:=by simpa using hs
  clear hs;go_enter func279,ntmps279;go_wp2_with fail;refine mR (Bf h s hs') λw1 g1=>?_;have c1:=(h.gbN g1).c1;go_wp2_with fail;refine(DQ c1).mono ?_;rintro e w2 ⟨rfl,rfl⟩;exact⟨rfl,A2 g1,rfl⟩
def Ba(h:Par w b tv wv l wl i):
 Calls Tryz.prog 209 #[.pointer (some ⟨b,0,none⟩)] w (Post b tv wv l wl w (λ_ v _=>v= .tuple #[]) (B4 l i)):=by
 have hf:=h.few;by_cases hs:(Ab l i).kind=5
 ·have hi:i<l.length:=GZ (by omega);have hs':((Ab l i).kind==5)=true:=by simpa using hs
  unfold B4;rw[if_pos hs'];have H:=S hs;clear hs hs';go_enter func209,ntmps209;go_wp2_with fail;refine mR (Bn h) λw1 g1=>?_;rw[AR,H.1];have h1:=h.gbN g1;have c1:=h1.c1;have f1:=h1.f1;go_wp2;go_end0;exact⟨(Af (A2 (by assumption)) _ _ (.inl rfl)),_,rfl,rfl,h1.goI _ _ (by omega) (by omega)⟩
 ·have hs':((Ab l i).kind==5)=false:=by simpa using hs
  unfold B4;rw[if_neg (by simpa using hs')];go_enter func209,ntmps209;go_wp2_with fail;refine mR (Bn h) λw1 g1=>?_;have c1:=(h.gbN g1).c1;go_wp2_with fail;refine(DQ c1).mono ?_;rintro e w2 ⟨rfl,rfl⟩;exact⟨rfl,A2 g1,rfl⟩
def Oo(a b:Bs):((⟨a.toArray⟩:ByteArray)==⟨b.toArray⟩)=(a==b):=by
 rw[Bool.eq_iff_iff];show((⟨a.toArray⟩:ByteArray).data==(⟨b.toArray⟩:ByteArray).data)=true↔_;simp
def AS:List (Bs×Bs)->Nat->List MapEntry
 | [],_=>[]
 | (k,v)::l,n=>{key:=str k,val:=str v,born:=n}::AS l (n+1)
def Ca(l:List (Bs×Bs)):Obj:= .map (AS l 0).toArray l.length
def Tc(l:List (Bs×Bs))(k v:Bs):∀n,AS (l++[(k,v)]) n=AS l n++[{key:=str k,val:=str v,born:=n+l.length}]:=by
 induction l with
 |nil=>intro n;simp[AS]
 |cons x l ih=>intro n;obtain⟨a,b⟩:=x;simp[AS,ih,Nat.add_assoc,Nat.add_comm 1]
def Eb(s:Bs):List (Bs×Bs)->Nat->Option (Nat×Value)
 | [],_=>none
 | (k,v)::l,i=>if s==k then some (i,str v)else Eb s l (i+1)
def Lz(s:Bs)(l:List (Bs×Bs)):∀n i,Instr.findNow .string (str s) (AS l n) i=some (Eb s l i):=by
 induction l with
 |nil=>intro n i;simp[AS,Instr.findNow,Eb]
 | cons x l ih=>
   intro n i;obtain⟨a,b⟩:=x;simp only[AS,Instr.findNow,Instr.sameNow,Oo,Eb];cases h:s==a
   ·simp[ih]
   ·simp
def Gh(k:Bs):List (Bs×Bs)->Prop
 | []=>True
 |x::l=>k≠x.1/\Gh k l
def RX(k:Bs):Gh k []:=trivial
def Qw(k a b:Bs)(l:List (Bs×Bs)):Gh k ((a,b)::l)=(k≠a/\Gh k l):=rfl
def SZ(k:Bs)(l:List (Bs×Bs))(hf:Gh k l):∀i,Eb k l i=none:=by
 induction l with
 |nil=>intro i;rfl
 | cons x l ih=>
   intro i;simp only[Eb];rw[if_neg (by simpa using hf.1)];exact ih hf.2 _
def Qh(l:List (Bs×Bs)):∀n,(AS l n).length=l.length:=by
 induction l with
 |nil=>intro n;rfl
 |cons x l ih=>intro n;obtain⟨a,b⟩:=x;simp[AS,ih]
def Ls(w:World)(o o':Obj):(w.heap.push o).setIfInBounds w.heap.size o'=w.heap.push o':=by
 have h:∀(l:List Obj)(o o':Obj),(l++[o]).set l.length o'=l++[o']:=by
  intro l;induction l with
  |nil=>intro o o';rfl
  |cons x l ih=>intro o o';simp[ih]
 apply Array.toList_inj.1;have:=h w.heap.toList o o';simpa using this
def Xa(hm:P.underlying mty=some (.map kt et))(hk:P.underlying kt=some .string)(w:World)(l:List (Bs×Bs))(r:Nat)(hr:r=w.heap.size)(k v:Bs)(hf:Gh k l):
 (Instr.mapUpdate mty (.map (some r)) (str k) (str v)).run P (w.alloc (Ca l))= .ok () (w.alloc (Ca (l++[(k,v)]))):=by
 subst hr;have hb:(w.alloc (Ca l)).heap[w.heap.size]? =some (.map (AS l 0).toArray l.length):=heap_alloc_new w _;have hf:Instr.findNow .string (str k) (AS l 0) 0=some none:=by rw[Lz,SZ k l hf]
 have hc:(Instr.checkKey false 10000 kt (str k)).run P (w.alloc (Ca l))= .ok () (w.alloc (Ca l)):=MapKept.run_checkKey (k:=str k) hk (by simp[MapKept.IsKey]) false 9999;simp[Instr.mapUpdate,run_underlying hm,MapKept.run_getObj_map hb,hc,MapKept.run_findKey hk hf,MapKept.run_setObj_map _ hb,Result.andThen];have e:=Ls w (Ca l) (Ca (l++[(k,v)]));have e2:(Obj.map (AS l 0++[({key:=str k,val:=str v,born:=l.length}:MapEntry)]).toArray (l.length+1))=Ca (l++[(k,v)]):=by simp[Ca,Tc]
 rw[e2];show({w with heap:=(w.heap.push (Ca l)).setIfInBounds w.heap.size (Ca (l++[(k,v)]))}:World)={w with heap:=w.heap.push (Ca (l++[(k,v)]))};rw[e]
def OZ(hm:P.underlying mty=some (.map kt et))(hk:P.underlying kt=some .string)(w:World)(l:List (Bs×Bs))(r:Nat)(hb:w.heap[r]? =some (Ca l))(k:Bs)(z:Value)(hz:(zeroValue et).run P w= .ok z w):
 (Instr.lookup mty (.map (some r)) (str k) false).run P w= .ok (match Eb k l 0 with|some (_,v)=>v|none=>z) w:=by
 have hb':w.heap[r]? =some (.map (AS l 0).toArray l.length):=hb;have hf:Instr.findNow .string (str k) (AS l 0) 0=some (Eb k l 0):=by rw[Lz]
 have hc:∀e,(Instr.checkKey e 10000 kt (str k)).run P w= .ok () w:=λe=>MapKept.run_checkKey (k:=str k) hk (by simp[MapKept.IsKey]) e 9999;cases h:Eb k l 0 with
 |none=>simp[Instr.lookup,run_underlying hm,MapKept.run_getObj_map hb',hc,MapKept.run_findKey hk hf,Result.andThen,h,hz]
 |some x=>simp[Instr.lookup,run_underlying hm,MapKept.run_getObj_map hb',hc,MapKept.run_findKey hk hf,Result.andThen,h]
def Zt(w:World):(Instr.makeMap 311 none).run Tryz.prog w= .ok (.map (some w.heap.size)) (w.alloc (Ca [])):=run_makeMap_plain w _
def Y2(w:World)(l:List (Bs×Bs))(r:Nat)(hr:r=w.heap.size)(k v:Bs)(hf:Gh k l):
 (Instr.mapUpdate 311 (.map (some r)) (.string ⟨k.toArray⟩) (.string ⟨v.toArray⟩)).run Tryz.prog (w.alloc (Ca l))= .ok () (w.alloc (Ca (l++[(k,v)]))):=
 Xa underlying311 underlying9 w l r hr k v hf
def Eg(w:World)(o:Obj)(n:Nat)(h:n=w.heap.size):(w.alloc o).heap[n]? =some o:=by subst h;exact heap_alloc_new w o
def G0(w:World)(o o':Obj)(n:Nat)(h:w.heap[n]? =some o'):(w.alloc o).heap[n]? =some o':=(Below.heap_alloc w o n (Array.getElem?_eq_some_iff.1 h).1).trans h
def Lvls(w:World)(m:Nat):Prop:=∀k,k<6->w.heap[m+k]? =some (Ca (lvl k))
def JG(w:World):Calls Tryz.prog 280 #[] w λe w'=>∃m,e= .returned (.agg #[.map (some m),.map (some (m+1)),.map (some (m+2)),.map (some (m+3)),.map (some (m+4)),.map (some (m+5))])/\Lvls w' m/\w.grownBy w' none:=by
 have hmm:=Zt;have hup:=Y2;have hfn:=RX;have hfc:=Qw;go_enter func280,ntmps280;go_wp2;clear hmm hup hfn hfc;refine bZ (v:= .agg #[.map (some (w.heap.size+1)),.map (some (w.heap.size+1+1)),.map (some (w.heap.size+1+1+1)),.map (some (w.heap.size+1+1+1+1)),.map (some (w.heap.size+1+1+1+1+1)),.map (some (w.heap.size+1+1+1+1+1+1))]) ?_ rfl ⟨w.heap.size+1,rfl,?_,?_⟩
 ·simp[results,results280,go_sem]
 ·intro k hk;match k,hk with
  | 0, _ => iterate 5 refine G0 _ _ _ _ ?_
            exact Eg _ _ _ (by simp)
  | 1, _ => iterate 4 refine G0 _ _ _ _ ?_
            exact Eg _ _ _ (by simp)
  | 2, _ => iterate 3 refine G0 _ _ _ _ ?_
            exact Eg _ _ _ (by simp)
  | 3, _ => iterate 2 refine G0 _ _ _ _ ?_
            exact Eg _ _ _ (by simp)
  | 4, _ => iterate 1 refine G0 _ _ _ _ ?_
            exact Eg _ _ _ (by simp)
  | 5,_=>exact Eg _ _ _ (by simp)
 ·exact(Ac (Ac (Ac (Ac (Ac (Ac (Ac (Aa _ _) _) _) _) _) _) _) _)
def Xg(w:World):(zeroValue 9).run Tryz.prog w= .ok (str []) w:=by kernel_rfl
def PF(s:Bs)(l:List (Bs×Bs)):∀i,(match Eb s l i with|some (_,v)=>v|none=>str [])=str ((l.lookup s).getD []):=by
 induction l with
 |nil=>intro i;rfl
 | cons x l ih=>
   intro i;obtain⟨a,b⟩:=x;simp only[Eb,List.lookup_cons];cases s==a
   ·simpa using ih (i+1)
   ·rfl
def Mp(h:Lvls w m)(k:Nat)(hk:k<6)(s:Bs):(Instr.lookup 311 (.map (some (m+k))) (str s) false).run Tryz.prog w= .ok (str (Gq k s)) w:=by
 rw[OZ underlying311 underlying9 w (lvl k) (m+k) (h k hk) s (str []) (Xg w),PF];rfl
def NU(m k:Nat)(hk:k<6)(w:World):(Instr.index 312 (.agg #[.map (some m),.map (some (m+1)),.map (some (m+2)),.map (some (m+3)),.map (some (m+4)),.map (some (m+5))]) (.int .i64 k)).run Tryz.prog w= .ok (.map (some (m+k))) w:=by
 have h6:k=0\/k=1\/k=2\/k=3\/k=4\/k=5:=by omega
 rcases h6 with rfl|rfl|rfl|rfl|rfl|rfl<;>(show _=_;kernel_rfl)
def Xl(h:AM l k i≠[]):i<l.length:=by
 apply GZ;intro e;apply h;simp[AM,e]
def Iq(h:Par w b tv wv l wl i)(k:Nat)(hk:k<6):
 Calls Tryz.prog 267 #[.pointer (some ⟨b,0,none⟩),.int .i64 k] w λe w'=>e= .returned (str (AM l k i))/\w.grownBy w' (some b)/\Par w' b tv wv l wl (Hz (AM l k i) i):=by
 by_cases hs:(Ab l i).kind=4
 ·have ho:AM l k i=Gq k (Ab l i).text:=by simp[AM,hs]
  have hl:Gq k (Ab l i).text≠[]->i<l.length:=λe=>Xl (by rw[ho];exact e);rw[ho];have H:=S hs;clear ho hs;have HL:=S hl;clear hl;have hix:=λm=>NU m k hk;have hf:=h.few;generalize hO:Gq k (Ab l i).text=o at*;have HO:=S hO;clear hO;cases o with
  | nil=>
    go_enter func267,ntmps267;go_wp2_with fail;refine mR (Bn h) λw1 g1=>?_;rw[AR,H.1];have h1:=h.gbN g1;go_wp2_with fail;go_region_with(go_at_call 280;refine(JG _).mono ?_;rintro e w2 ⟨m,rfl,hm,g2⟩;have hlk:=Mp hm k hk (Ab l i).text;rw[HO.1]at hlk;have ct:w2.cell? ⟨w1.heap.size,2,none⟩=some (str (Ab l i).text):=Ad g2 (by simp));all_goals
     go_wp2;go_ret;refine⟨rfl,(by repeat(first| (with_reducible exact A2 (by assumption))| (with_reducible refine Ac ?_ _)| (with_reducible refine Ae ?_)| (with_reducible refine Ag ?_ (by assumption)))),?_⟩;rw[IC];exact h.gbN (by repeat(first| (with_reducible assumption)| (with_reducible refine Ac ?_ _)| (with_reducible refine Ae ?_)| (with_reducible refine Ag ?_ (by assumption))))
  | cons c o=>
    have hi:i<l.length:=HL.1 (by simp);go_enter func267,ntmps267;go_wp2_with fail;refine mR (Bn h) λw1 g1=>?_;rw[AR,H.1];have h1:=h.gbN g1;go_wp2_with fail;go_region_with(go_at_call 280;refine(JG _).mono ?_;rintro e w2 ⟨m,rfl,hm,g2⟩;have hlk:=Mp hm k hk (Ab l i).text;rw[HO.1]at hlk;have ct:w2.cell? ⟨w1.heap.size,2,none⟩=some (str (Ab l i).text):=Ad g2 (by simp);have h2:Par w2 b tv wv l wl i:=h.gbN (by repeat(first| (with_reducible assumption)| (with_reducible refine Ac ?_ _)| (with_reducible refine Ae ?_)| (with_reducible refine Ag ?_ (by assumption))));have c1:=h2.c1;have f1:=h2.f1);all_goals
     go_wp2;go_ret;refine⟨rfl,(by repeat(first| (with_reducible exact A2 (by assumption))| (with_reducible refine Ac ?_ _)| (with_reducible refine Ae ?_)| ((with_reducible refine Af ?_ _ _ ?h2);case h2=>exact .inl rfl)| (with_reducible refine Ag ?_ (by assumption)))),?_⟩;rw[IM (by simp)];exact h2.goI _ _ (by omega) (by omega)
 ·have hs':((Ab l i).kind==4)=false:=by simpa using hs
  have ho:AM l k i=[]:=by simp[AM,hs]
  rw[ho];clear ho hs;go_enter func267,ntmps267;go_wp2_with fail;refine mR (Bn h) λw1 g1=>?_;go_wp2;go_ret;refine⟨rfl,(Ac (A2 (by assumption)) _),?_⟩;show Par _ b tv wv l wl i;exact h.gbN (Ac (by assumption) _)
end Go.Proofs.YtbjfaimkiclhgaaGreatDoor
