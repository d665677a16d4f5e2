/-
  Plain laws: tokens, expressions as trees, and the grammar of expressions as plain functions over lists of tokens. No program, no world. Plain laws of my own over the model's worlds: a world that has g
-/
import Derived.WalkKit
import Derived.BigQuiet
import Derived.Deep.QuietTactic
import Derived.WalkSpells
import Derived.StillTailTactics
import Derived.WalkLawsBesides
import Derived.Lib.Hide
import Derived.Deep.RegionWith
import Derived.Deep.RegionHeld3
import Derived.Test.YtgjdhajcnechdaaGreatDoorProg
set_option linter.all false
set_option maxRecDepth 100000
set_option maxHeartbeats 8000000
namespace Go.Proofs.YtgjdhajcnechdaaGreatDoor
open Go.Proofs.Tryz
abbrev Bs:=List UInt8
structure Tok where
 kind:Int
 pos:Int
 text:Bs
 deriving DecidableEq
structure Hd where
 op:Int
 s:Bs
 vk:Int
 vn:Int
 vs:Bs
 p:List Bs
 deriving DecidableEq
inductive Fo where
 |nil
 |cons (h:Hd) (kids next:Fo)
structure Ex where
 h:Hd
 kids:Fo
def Fo.len:Fo→Nat
 | .nil=>0
 | .cons _ _ next=>next.len+1
def Fo.app:Fo→Fo→Fo
 | .nil,g=>g
 | .cons h k n,g=> .cons h k (n.app g)
def Ex.fo(x:Ex)(next:Fo):Fo:= .cons x.h x.kids next
def Fo.snoc(f:Fo)(x:Ex):Fo:=f.app (x.fo .nil)
def Fo.one(x:Ex):Fo:=x.fo .nil
def Fo.two(x y:Ex):Fo:=x.fo (y.fo .nil)
theorem Fo.len_app(f g:Fo):(f.app g).len=f.len+g.len:=by
 induction f with
 |nil=>simp[Fo.app,Fo.len]
 |cons h k n _ ih=>simp[Fo.app,Fo.len,ih];omega
theorem Fo.len_snoc(f:Fo)(x:Ex):(f.snoc x).len=f.len+1:=by simp[Fo.snoc,Fo.len_app,Ex.fo,Fo.len]
inductive Res (α:Type) where
 |ok (a:α) (i:Nat)
 |bad (k:Nat)
 |out
def Res.bind{α β:Type}:Res α→(α→Nat→Res β)→Res β
 | .ok a i,f=>f a i
 | .bad k,_=> .bad k
 | .out,_=> .out
theorem Res.bind_ok{α β:Type}(a:α)(i:Nat)(f:α→Nat→Res β):(Res.ok a i).bind f=f a i:=rfl
theorem Res.bind_bad{α β:Type}(k:Nat)(f:α→Nat→Res β):(Res.bad k).bind f= .bad k:=rfl
def Ab(l:List Tok)(i:Nat):Tok:=(l[i]?).getD ⟨-1,0,[]⟩
def Ae(t:Tok)(s:Bs):Bool:=t.kind==4&&t.text==s
def Cq(b:UInt8):Bool:=(65≤b&&b≤90)||(48≤b&&b≤57)||b==95
def Al(s:Bs):Bool:= !s.isEmpty&&decide (s.length≤10)&&!(match s with|b::_=>(48≤b&&b≤57)| []=>false)&&s.all Cq
def Ba(l:List Tok)(s:Bs)(i:Nat):Res Unit:=if Ae (Ab l i) s then .ok () (i+1)else .bad i
def C2(l:List Tok)(i:Nat):Res Unit:=if(Ab l i).kind==5 then .ok () (i+1)else .bad i
def AT(l:List Tok)(i:Nat):Res Bs:=if(Ab l i).kind==0&&Al (Ab l i).text then .ok (Ab l i).text (i+1)else .bad i
def hd0(op:Int)(s:Bs):Hd:=⟨op,s,0,0,[],[]⟩
def Az(vk vn:Int)(vs:Bs):Ex:=⟨⟨0,[],vk,vn,vs,[]⟩,.nil⟩
def A6(s:Bs):Ex:=⟨hd0 1 s,.nil⟩
def Aw(s:Bs)(a b:Ex):Ex:=⟨hd0 5 s,.two a b⟩
def unE(s:Bs)(a:Ex):Ex:=⟨hd0 4 s,.one a⟩
def Ct(a b:Ex):Ex:=⟨hd0 6 [],.two a b⟩
def lvl(k:Nat):List (Bs×Bs):=
 match k with
 | 0=>[([46,79,82,46],[46,79,82,46])]
 | 1=>[([46,65,78,68,46],[46,65,78,68,46])]
 | 2=>[([61],[61]),([61,61],[61,61]),([60,62],[60,62]),([35],[60,62]),([33,61],[60,62]),([60],[60]),([62],[62]),([60,61],[60,61]),([62,61],[62,61]),([36],[36])]
 | 3=>[([43],[43]),([45],[45])]
 | 4=>[([42],[42]),([47],[47]),([37],[37])]
 |_=>[([94],[94])]
def Cj(k:Nat)(s:Bs):Bs:=((lvl k).lookup s).getD []
def Er(s:Bs)(i:Nat):Nat:=if s.isEmpty then i else i+1
theorem CH(i:Nat):Er [] i=i:=rfl
theorem CV{s:Bs}(h:s≠[])(i:Nat):Er s i=i+1:=by unfold Er;rw[if_neg (by simpa using h)]
def Av(l:List Tok)(level i:Nat):Bs:=if(Ab l i).kind==4 then Cj level (Ab l i).text else []
def BJ(l:List Tok)(level:Nat)(opnd:Nat→Res Ex):Nat→Ex→Nat→Res Ex
 | 0,_,_=> .out
 |n+1,x,i=>if(Av l level i).isEmpty then .ok x i else(opnd (i+1)).bind fun y j=>BJ l level opnd n (Aw (Av l level i) x y) j
def AK(l:List Tok)(level n:Nat)(opnd:Nat→Res Ex)(i:Nat):Res Ex:=(opnd i).bind fun x j=>BJ l level opnd n x j
def Bd(l:List Tok)(sum:Nat→Res Ex):Nat→Nat→Res Ex
 | 0,_=> .out
 | n+1,i=>
   if Ae (Ab l i) [46,78,79,84,46]||Ae (Ab l i) [33]then(Bd l sum n (i+1)).bind fun x j=> .ok (unE [46,78,79,84,46] x) j
   else(sum i).bind fun x j=>if(Av l 2 j).isEmpty then .ok x j else(sum (j+1)).bind fun y k=> .ok (Aw (Av l 2 j) x y) k
def AV(l:List Tok)(un:Nat→Res Ex):Nat→Nat→Res Ex
 | 0,_=> .out
 |n+1,i=>(un i).bind fun x j=>if(Av l 5 j).isEmpty then .ok x j else(AV l un n (j+1)).bind fun y k=> .ok (Aw (Av l 5 j) x y) k
def B4(l:List Tok)(expr:Nat→Res Ex):Nat→Ex→Nat→Res Ex
 | 0,_,_=> .out
 |n+1,x,i=>if Ae (Ab l i) [91]then(expr (i+1)).bind fun y j=>(Ba l [93] j).bind fun _ k=>B4 l expr n (Ct x y) k else .ok x i
def Bi(l:List Tok)(expr prim:Nat→Res Ex):Nat→Nat→Res Ex
 | 0,_=> .out
 |n+1,i=>if Ae (Ab l i) [45]then(Bi l expr prim n (i+1)).bind fun x j=> .ok (unE [45] x) j else(prim i).bind fun x j=>B4 l expr n x j
def BK(l:List Tok)(expr:Nat→Res Ex):Nat→Fo→Nat→Res Fo
 | 0,_,_=> .out
 |n+1,acc,i=>if Ae (Ab l i) [44]then(expr (i+1)).bind fun y j=>BK l expr n (acc.snoc y) j else .ok acc i
def Ch(l:List Tok)(expr:Nat→Res Ex)(n i:Nat):Res Fo:=(expr i).bind fun x j=>BK l expr n (.one x) j
def BN(l:List Tok):Nat→List Bs→Nat→Res (List Bs)
 | 0,_,_=> .out
 |n+1,acc,i=>if Ae (Ab l i) [44]then(AT l (i+1)).bind fun y j=>BN l n (acc++[y]) j else .ok acc i
def Ck(l:List Tok)(n i:Nat):Res (List Bs):=(AT l i).bind fun x j=>BN l n [x] j
def Cs(l:List Tok)(expr:Nat→Res Ex)(n i:Nat):Res Ex:=
 (AT l i).bind fun s j=>(Ba l [40] j).bind fun _ j=>
  if Ae (Ab l j) [41]then .ok ⟨hd0 3 s,.nil⟩ (j+1)else(Ch l expr n j).bind fun f k=>(Ba l [41] k).bind fun _ k=> .ok ⟨hd0 3 s,f⟩ k
def Cb(l:List Tok)(expr:Nat→Res Ex)(i:Nat):Res Ex:=
 (Ba l [38] i).bind fun _ i=>
  if Ae (Ab l i) [40]then(expr (i+1)).bind fun x j=>(Ba l [41] j).bind fun _ j=> .ok ⟨hd0 9 [],.one x⟩ j
  else(AT l i).bind fun s j=> .ok ⟨hd0 9 s,.nil⟩ (if Ae (Ab l j) [46]then j+1 else j)
def Cc(l:List Tok)(expr:Nat→Res Ex)(n i:Nat):Res Ex:=
 if Ae (Ab l i) [124]then
  (if Ae (Ab l (i+1)) [124]then .ok [] (i+2)else(Ck l n (i+1)).bind fun p j=>(Ba l [124] j).bind fun _ j=> .ok p j).bind fun p j=>
   (expr j).bind fun x j=>(Ba l [125] j).bind fun _ j=> .ok ⟨⟨8,[],0,0,[],p⟩,.one x⟩ j
 else(Ch l expr n i).bind fun f j=>(Ba l [125] j).bind fun _ j=> .ok ⟨hd0 7 [],f⟩ j
def Bv(l:List Tok)(expr:Nat→Res Ex)(n i:Nat):Res Ex:=
 if Ae (Ab l i) [38]then Cb l expr i
 else if Ae (Ab l i) [46,84,46]then .ok (Az 1 1 []) (i+1)
 else if Ae (Ab l i) [46,70,46]then .ok (Az 1 0 []) (i+1)
 else if Ae (Ab l i) [46,78,85,76,76,46]then .ok (Az 0 0 []) (i+1)
 else if Ae (Ab l i) [40]then(expr (i+1)).bind fun x j=>(Ba l [41] j).bind fun _ j=> .ok x j
 else if Ae (Ab l i) [64]then(AT l (i+1)).bind fun s j=> .ok ⟨hd0 10 s,.nil⟩ j
 else if Ae (Ab l i) [123]then Cc l expr n (i+1)
 else .bad i
def BH(l:List Tok)(expr:Nat→Res Ex)(n i:Nat):Res Ex:=
 if Ae (Ab l (i+1)) [40]then Cs l expr n i
 else(AT l i).bind fun s j=>
  if Ae (Ab l j) [45,62]then
   if Ae (Ab l (j+1)) [40]then(expr (j+2)).bind fun x k=>(Ba l [41] k).bind fun _ k=> .ok ⟨hd0 2 s,.one x⟩ k
   else(AT l (j+1)).bind fun t k=> .ok ⟨hd0 2 s,.one (A6 t)⟩ k
  else .ok (A6 s) j
def Aq(s:Bs):Int:=s.foldl (fun n b=>10*n+((b.toNat:Int)-48)) 0
def AZ(l:List Tok)(day:Bs→Int)(expr:Nat→Res Ex)(n i:Nat):Res Ex:=
 if(Ab l i).kind==1 then .ok (Az 2 (Aq (Ab l i).text) []) (i+1)
 else if(Ab l i).kind==2 then(if(Ab l i).text.length>2048 then .bad i else .ok (Az 4 0 (Ab l i).text) (i+1))
 else if(Ab l i).kind==3 then .ok (Az 3 (day (Ab l i).text) []) (i+1)
 else if(Ab l i).kind==0 then BH l expr n i
 else Bv l expr n i
def C4(l:List Tok)(n:Nat)(pow:Nat→Res Ex)(i:Nat):Res Ex:=AK l 3 n (AK l 4 n pow) i
def A8(l:List Tok)(day:Bs→Int):Nat→Nat→Res Ex
 | 0,_=> .out
 |n+1,i=>AK l 0 n (AK l 1 n (Bd l (C4 l n (AV l (Bi l (A8 l day n) (AZ l day (A8 l day n) n) n) n)) n)) i
open Go.RowKit
theorem O{p:Prop}(h:p):RowKit.Hid p:=Lib.hid h
theorem Z{p q:Prop}(h:p)(k:q):p∧q:=⟨h,k⟩
theorem Ac(w:World)(r:Option Nat):w.grownBy w r:=⟨rfl,rfl,rfl,Nat.le_refl _,fun _ _ _=>rfl⟩
theorem Aa{w w1 w2:World}{r:Option Nat}(h:w.grownBy w1 r)(k:w1.grownBy w2 r):w.grownBy w2 r:=
 ⟨k.os.trans h.os,k.tape.trans h.tape,k.output.trans h.output,Nat.le_trans h.size k.size,fun i hi hr=>(k.block i (Nat.lt_of_lt_of_le hi h.size) hr).trans (h.block i hi hr)⟩
theorem AU{w w1:World}{r:Option Nat}(h:w.grownBy w1 none):w.grownBy w1 r:=
 ⟨h.os,h.tape,h.output,h.size,fun i hi _=>h.block i hi (by simp)⟩
theorem Ad{w w1:World}{r:Option Nat}(h:w.grownBy w1 r)(o:Obj):w.grownBy (w1.alloc o) r:=
 Aa h (World.grownBy_alloc w1 o r)
theorem Am{w w1:World}{r:Option Nat}(h:w.grownBy w1 r):w.grownBy w1.drew r:=⟨h.os,h.tape,h.output,h.size,h.block⟩
theorem A3{w w1:World}{r:Option Nat}(h:w.grownBy w1 r)(n:Nat):w.grownBy (w1.drewN n) r:=⟨h.os,h.tape,h.output,h.size,h.block⟩
theorem Ay{w w1:World}{r:Option Nat}(h:w.grownBy w1 r)(a:Addr)(v:Value)(ha:some a.block=r∨w.heap.size≤a.block):w.grownBy (w1.setCell a v) r:=by
 refine⟨h.os,h.tape,h.output,?_,fun i hi hr=>?_⟩
 ·simp[World.setCell];exact h.size
 ·have hne : i ≠ a.block := by
   rintro rfl;rcases ha with ha|ha
   ·exact hr ha
   ·omega
  rw[Below.heap_setCell _ _ _ _ hne];exact h.block i hi hr
theorem Ah{w w1 w2:World}{r:Option Nat}(h:w.grownBy w1 r)(k:w1.grownBy w2 none):w.grownBy w2 r:=Aa h (AU k)
theorem Ar{w w1 w2:World}{r:Option Nat}{b:Nat}(h:w.grownBy w1 r)(k:w1.grownBy w2 (some b))(hb:some b=r∨w.heap.size≤b):w.grownBy w2 r:=
 ⟨k.os.trans h.os,k.tape.trans h.tape,k.output.trans h.output,Nat.le_trans h.size k.size,fun i hi hr=>(k.block i (Nat.lt_of_lt_of_le hi h.size) (by
  intro e
  rcases hb with hb|hb
  ·exact hr (e.trans hb)
  ·cases e;omega)).trans (h.block i hi hr)⟩
theorem Bu{w w1:World}{r:Option Nat}(h:w.grownBy w1 r){k i:Nat}{v:Value}(c:w.cell? ⟨k,i,none⟩=some v)(hk:some k≠r):w1.cell? ⟨k,i,none⟩=some v:=h.cell c hk
theorem Af{w w1:World}(h:w.grownBy w1 none){k i:Nat}{v:Value}(c:w.cell? ⟨k,i,none⟩=some v):w1.cell? ⟨k,i,none⟩=some v:=h.cell c (by simp)
theorem Dl{w w1:World}{r:Option Nat}(h:w.grownBy w1 r){k:Nat}{o:Obj}(c:w.heap[k]? =some o)(hk:some k≠r):w1.heap[k]? =some o:=
 (h.block k (Array.getElem?_eq_some_iff.1 c).1 hk).trans c
theorem Ja{w w1:World}(h:w.grownBy w1 none):Below w.heap.size w w1:=⟨h.os,h.tape,h.output,h.size,fun k hk=>h.block k hk (by simp)⟩
theorem Lb{w w1:World}(h:Below w.heap.size w w1):w.grownBy w1 none:=⟨h.os,h.tape,h.output,h.size,fun k hk _=>h.block k hk⟩
def Blk(w:World)(k:Nat)(cs:List Value)(t:TypeId):Prop:=w.heap[k]? =some (.cells cs.toArray t (0,0))
theorem Blk.lt{w:World}{k:Nat}{cs:List Value}{t:TypeId}(h:Blk w k cs t):k<w.heap.size:=(Array.getElem?_eq_some_iff.1 h).1
theorem Blk.cell{w:World}{k:Nat}{cs:List Value}{t:TypeId}(h:Blk w k cs t)(i:Nat):w.cell? ⟨k,i,none⟩=cs[i]?:=by
 simp only[World.cell?,show w.heap[k]? =some (.cells cs.toArray t (0,0))from h];simp
theorem Blk.cell'{w:World}{k:Nat}{cs:List Value}{t:TypeId}(h:Blk w k cs t)(i:Nat){v:Value}(e:cs[i]? =some v):w.cell? ⟨k,i,none⟩=some v:=(h.cell i).trans e
theorem Blk.frozen{w:World}{k:Nat}{cs:List Value}{t:TypeId}(h:Blk w k cs t)(i:Nat):w.frozen? ⟨k,i,none⟩=false:=by
 simp only[World.frozen?,show w.heap[k]? =some (.cells cs.toArray t (0,0))from h];simp
theorem Blk.alloc{w:World}{k:Nat}{cs:List Value}{t:TypeId}(h:Blk w k cs t)(o:Obj):Blk (w.alloc o) k cs t:=
 (Below.heap_alloc w o k h.lt).trans h
theorem Blk.new(w:World)(cs:List Value)(t:TypeId):Blk (w.alloc (.cells cs.toArray t (0,0))) w.heap.size cs t:=heap_alloc_new w _
theorem Blk.drew{w:World}{k:Nat}{cs:List Value}{t:TypeId}(h:Blk w k cs t):Blk w.drew k cs t:=h
theorem Blk.drewN{w:World}{k:Nat}{cs:List Value}{t:TypeId}(h:Blk w k cs t)(n:Nat):Blk (w.drewN n) k cs t:=h
theorem Blk.set{w:World}{k:Nat}{cs:List Value}{t:TypeId}(h:Blk w k cs t)(i:Nat)(v:Value):Blk (w.setCell ⟨k,i,none⟩ v) k (cs.set i v) t:=by
 have h':w.heap[k]? =some (.cells cs.toArray t (0,0)):=h;simp[Blk,World.setCell,Array.getElem?_modify,h']
theorem Blk.set_other{w:World}{k:Nat}{cs:List Value}{t:TypeId}(h:Blk w k cs t)(a:Addr)(v:Value)(hne:k≠a.block):Blk (w.setCell a v) k cs t:=
 (Below.heap_setCell w a v k hne).trans h
theorem Blk.gb{w w1:World}{r:Option Nat}{k:Nat}{cs:List Value}{t:TypeId}(h:Blk w k cs t)(g:w.grownBy w1 r)(hk:some k≠r):Blk w1 k cs t:=Dl g h hk
theorem Blk.of_eq{w:World}{k k':Nat}{cs cs':List Value}{t:TypeId}(h:Blk w k cs t)(e:k=k')(e':cs=cs'):Blk w k' cs' t:=e ▸ e' ▸ h
theorem Blk.c7{w:World}{k:Nat}{t:TypeId}{a0 a1 a2 a3 a4 a5 a6:Value}(h:Blk w k [a0,a1,a2,a3,a4,a5,a6] t):
 w.cell? ⟨k,0,none⟩=some a0∧w.cell? ⟨k,1,none⟩=some a1∧w.cell? ⟨k,2,none⟩=some a2∧w.cell? ⟨k,3,none⟩=some a3∧w.cell? ⟨k,4,none⟩=some a4∧w.cell? ⟨k,5,none⟩=some a5∧w.cell? ⟨k,6,none⟩=some a6∧∀i,w.frozen? ⟨k,i,none⟩=false:=
 ⟨h.cell 0,h.cell 1,h.cell 2,h.cell 3,h.cell 4,h.cell 5,h.cell 6,fun i=>h.frozen i⟩
theorem Blk.c10{w:World}{k:Nat}{t:TypeId}{a0 a1 a2 a3 a4 a5 a6 a7 a8 a9:Value}(h:Blk w k [a0,a1,a2,a3,a4,a5,a6,a7,a8,a9] t):
 w.cell? ⟨k,0,none⟩=some a0∧w.cell? ⟨k,1,none⟩=some a1∧w.cell? ⟨k,2,none⟩=some a2∧w.cell? ⟨k,3,none⟩=some a3∧w.cell? ⟨k,4,none⟩=some a4∧w.cell? ⟨k,5,none⟩=some a5∧w.cell? ⟨k,6,none⟩=some a6∧w.cell? ⟨k,7,none⟩=some a7∧w.cell? ⟨k,8,none⟩=some a8∧w.cell? ⟨k,9,none⟩=some a9∧∀i,w.frozen? ⟨k,i,none⟩=false:=
 ⟨h.cell 0,h.cell 1,h.cell 2,h.cell 3,h.cell 4,h.cell 5,h.cell 6,h.cell 7,h.cell 8,h.cell 9,fun i=>h.frozen i⟩
theorem HQr{α:Sort _}{a b R:α}(H:Hid (a=R))(r:a=b):Hid (b=R):=O (r.symm.trans H.out)
theorem Fp{P:Program}{G:Prop}(h:G)(a:Act)(w:World):wpAny P .any #[] (fun _ _ _=>True) 0 #[] a w→G:=fun _=>h
abbrev str(l:Bs):Value:= .string ⟨l.toArray⟩
def TRow(w:World)(v:Value)(l:List Tok)(ok:Nat→Prop):Prop:=
 ∃a cap,v= .slice a l.length cap∧l.length≤cap∧cap≤maxLen∧∀j,j<l.length→∃lb lo,a=some ⟨lb,lo,none⟩∧ok lb∧
  w.cell? ⟨lb,lo+j*3,none⟩=some (.int .i64 (Ab l j).kind)∧w.cell? ⟨lb,lo+j*3+1,none⟩=some (.int .i64 (Ab l j).pos)∧
  w.cell? ⟨lb,lo+j*3+2,none⟩=some (.string ⟨(Ab l j).text.toArray⟩)
def SRow(w:World)(v:Value)(l:List Bs)(ok:Nat→Prop):Prop:=
 ∃a cap,v= .slice a l.length cap∧l.length≤cap∧cap≤maxLen∧∀j,j<l.length→∃lb lo,a=some ⟨lb,lo,none⟩∧ok lb∧
  w.cell? ⟨lb,lo+j,none⟩=some (.string ⟨(l.getD j []).toArray⟩)
theorem TRow.gb{w w1:World}{v:Value}{l:List Tok}{ok:Nat→Prop}{r:Option Nat}(h:TRow w v l ok)(g:w.grownBy w1 r)(hk:∀k,ok k→some k≠r):TRow w1 v l ok:=by
 obtain⟨a,cap,e,h1,h2,h3⟩:=h;refine⟨a,cap,e,h1,h2,fun j hj=>?_⟩;obtain⟨lb,lo,ea,ho,c0,c1,c2⟩:=h3 j hj;exact⟨lb,lo,ea,ho,Bu g c0 (hk _ ho),Bu g c1 (hk _ ho),Bu g c2 (hk _ ho)⟩
theorem SRow.gb{w w1:World}{v:Value}{l:List Bs}{ok:Nat→Prop}{r:Option Nat}(h:SRow w v l ok)(g:w.grownBy w1 r)(hk:∀k,ok k→some k≠r):SRow w1 v l ok:=by
 obtain⟨a,cap,e,h1,h2,h3⟩:=h;refine⟨a,cap,e,h1,h2,fun j hj=>?_⟩;obtain⟨lb,lo,ea,ho,c0⟩:=h3 j hj;exact⟨lb,lo,ea,ho,Bu g c0 (hk _ ho)⟩
structure Par(w:World)(b:Nat)(tv wv:Value)(l:List Tok)(wl:List Bs)(i:Nat):Prop where
 blk:Blk w b [tv,.int .i64 i,wv,.slice none 0 0] 152
 toks:TRow w tv l (· < b)
 words:SRow w wv wl (· < b)
 le:i≤l.length
 few:l.length≤4001
section
variable {w w1:World}{b:Nat}{tv wv:Value}{l:List Tok}{wl:List Bs}{i:Nat}
theorem Par.lt(h:Par w b tv wv l wl i):b<w.heap.size:=h.blk.lt
theorem Par.c0(h:Par w b tv wv l wl i):w.cell? ⟨b,0,none⟩=some tv:=h.blk.cell 0
theorem Par.c1(h:Par w b tv wv l wl i):w.cell? ⟨b,1,none⟩=some (.int .i64 i):=h.blk.cell 1
theorem Par.c3(h:Par w b tv wv l wl i):w.cell? ⟨b,3,none⟩=some (.slice none 0 0):=h.blk.cell 3
theorem Par.f1(h:Par w b tv wv l wl i):w.frozen? ⟨b,1,none⟩=false:=h.blk.frozen 1
theorem Par.gb{r:Option Nat}(h:Par w b tv wv l wl i)(g:w.grownBy w1 r)(hr:∀k,r=some k→b<k):Par w1 b tv wv l wl i:=
 ⟨h.blk.gb g (fun e=>by have:=hr _ e.symm;omega),h.toks.gb g (fun k hk e=>by have:=hr _ e.symm;omega),h.words.gb g (fun k hk e=>by have:=hr _ e.symm;omega),h.le,h.few⟩
theorem Par.gbN(h:Par w b tv wv l wl i)(g:w.grownBy w1 none):Par w1 b tv wv l wl i:=h.gb g (by simp)
theorem Par.alloc(h:Par w b tv wv l wl i)(o:Obj):Par (w.alloc o) b tv wv l wl i:=h.gbN (World.grownBy_alloc w o none)
theorem Par.drewN(h:Par w b tv wv l wl i)(n:Nat):Par (w.drewN n) b tv wv l wl i:=h.gbN (A3 (Ac w none) n)
theorem Par.go(h:Par w b tv wv l wl i)(j:Nat)(hj:j≤l.length):Par (w.setCell ⟨b,1,none⟩ (.int .i64 j)) b tv wv l wl j:=by
 have g:w.grownBy (w.setCell ⟨b,1,none⟩ (.int .i64 j)) (some b):=Ay (Ac w _) _ _ (.inl rfl);exact⟨(h.blk.set 1 (.int .i64 j)).of_eq rfl rfl,h.toks.gb g (by intro k hk;simp;omega),h.words.gb g (by intro k hk;simp;omega),hj,h.few⟩
theorem Par.goI(h:Par w b tv wv l wl i)(z:Int)(j:Nat)(hz:z=j)(hj:j≤l.length):Par (w.setCell ⟨b,1,none⟩ (.int .i64 z)) b tv wv l wl j:=by
 subst hz;exact h.go j hj
theorem Par.tok(h:Par w b tv wv l wl i){j:Nat}(hj:j<l.length):∃lb lo cap,tv= .slice (some ⟨lb,lo,none⟩) l.length cap∧lb<w.heap.size∧lb≠b∧
 w.cell? ⟨lb,lo+j*3,none⟩=some (.int .i64 (Ab l j).kind)∧w.cell? ⟨lb,lo+j*3+1,none⟩=some (.int .i64 (Ab l j).pos)∧
 w.cell? ⟨lb,lo+j*3+2,none⟩=some (.string ⟨(Ab l j).text.toArray⟩):=by
 obtain⟨a,cap,e,_,_,h3⟩:=h.toks;obtain⟨lb,lo,ea,ho,c0,c1,c2⟩:=h3 j hj;subst ea;exact⟨lb,lo,cap,e,World.block_lt_of_cell? w _ c0,Nat.ne_of_lt ho,c0,c1,c2⟩
theorem Par.tv_eq(h:Par w b tv wv l wl i):∃a cap,tv= .slice a l.length cap:=by
 obtain⟨a,cap,e,_⟩:=h.toks;exact⟨a,cap,e⟩
end
def ER(i:Nat):List PanicEntry:=[{v:= .iface 148 (.agg #[.int .i64 i]),recovered:=false}]
def Post(b:Nat)(tv wv:Value)(l:List Tok)(wl:List Bs)(w:World){α:Type}(V:World→Value→α→Prop)(r:Res α)(e:Ending)(w':World):Prop:=
 w.grownBy w' (some b)∧match r with
  | .ok a i=>∃v,e= .returned v∧V w' v a∧Par w' b tv wv l wl i
  | .bad k=>e= .panicked (ER k)
  | .out=>False
theorem Post.bad{b:Nat}{tv wv:Value}{l:List Tok}{wl:List Bs}{w w':World}{α:Type}{V:World→Value→α→Prop}{r:Res α}{k:Nat}(g:w.grownBy w' (some b))(hr:r= .bad k):Post b tv wv l wl w V r (.panicked (ER k)) w':=by
 subst hr;exact⟨g,rfl⟩
theorem Post.ok{b:Nat}{tv wv:Value}{l:List Tok}{wl:List Bs}{w w':World}{α:Type}{V:World→Value→α→Prop}{r:Res α}{a:α}{i:Nat}{v:Value}(g:w.grownBy w' (some b))(hr:r= .ok a i)(hv:V w' v a)(hp:Par w' b tv wv l wl i):Post b tv wv l wl w V r (.returned v) w':=by
 subst hr;exact⟨g,v,rfl,hv,hp⟩
@[go_sem] theorem field_tok0 (x y z:Value) (w:World):(Instr.field 105 (.agg #[x,y,z]) 0).run Tryz.prog w= .ok x w:=by kernel_rfl
@[go_sem] theorem field_tok2 (x y z:Value) (w:World):(Instr.field 105 (.agg #[x,y,z]) 2).run Tryz.prog w= .ok z w:=by kernel_rfl
theorem DB(k a:Int)(s t:Bs)(w:World):Calls Tryz.prog 204 #[.agg #[.int .i64 k,.int .i64 a,str s],str t] w fun e w'=>e= .returned (.bool (k==4&&s==t))∧w.grownBy w' none:=by
 by_cases hk:k=4
 ·subst hk;go_enter func204,ntmps204;go_wp2;go_ret;exact⟨by simp,(by repeat(first| (with_reducible exact Ac _ _)| (with_reducible assumption)| (with_reducible exact AU (by assumption))| (with_reducible refine Ad ?_ _)| (with_reducible refine Am ?_)| (with_reducible refine A3 ?_ _)| ((with_reducible refine Ay ?_ _ _ ?h2);case h2=>first|exact .inl rfl|exact .inr (Nat.le_refl _)|exact .inr (by simp<;>omega))| (with_reducible refine Ah ?_ (by assumption))| (with_reducible refine Aa ?_ (by assumption))))⟩
 ·have hk':(k==4)=false:=by simpa using hk
  go_enter func204,ntmps204;go_wp2;go_ret;exact⟨by simp[hk'],(by repeat(first| (with_reducible exact Ac _ _)| (with_reducible assumption)| (with_reducible exact AU (by assumption))| (with_reducible refine Ad ?_ _)| (with_reducible refine Am ?_)| (with_reducible refine A3 ?_ _)| ((with_reducible refine Ay ?_ _ _ ?h2);case h2=>first|exact .inl rfl|exact .inr (Nat.le_refl _)|exact .inr (by simp<;>omega))| (with_reducible refine Ah ?_ (by assumption))| (with_reducible refine Aa ?_ (by assumption))))⟩
theorem NU{w:World}{b:Nat}{tv wv:Value}{l:List Tok}{wl:List Bs}{i:Nat}(h:Par w b tv wv l wl i)(k:Nat)(hk:i+k<l.length)(hk2:k≤4):
 Calls Tryz.prog 111 #[.pointer (some ⟨b,0,none⟩),.int .i64 k] w fun e w'=>e= .returned (.agg #[.int .i64 (Ab l (i+k)).kind,.int .i64 (Ab l (i+k)).pos,str (Ab l (i+k)).text])∧w.grownBy w' none:=by
 obtain⟨lb,lo,cap,e,hlb,_,t0,t1,t2⟩:=h.tok hk;have c0:=h.c0;have c1:=h.c1;have hb:=h.lt;have hf:=h.few;rw[e]at c0;have hlt':decide ((l.length:Int)≤(i:Int)+k)=false:=by simp;omega
 generalize(Ab l (i+k)).kind=x at*;generalize(Ab l (i+k)).pos=y at*;generalize(Ab l (i+k)).text=s at*;generalize l.length=n at*;clear e h;go_enter func111,ntmps111;go_wp2;go_quiet(fail);go_wp2;go_region;go_wp2;refine bodyPost_ret (v:= .agg #[.int .i64 x,.int .i64 y,str s]) ?_ rfl ⟨rfl,?_⟩
 ·simp[results,results111,go_sem]
 ·exact (by repeat(first| (with_reducible exact Ac _ _)| (with_reducible assumption)| (with_reducible exact AU (by assumption))| (with_reducible refine Ad ?_ _)| (with_reducible refine Am ?_)| (with_reducible refine A3 ?_ _)| ((with_reducible refine Ay ?_ _ _ ?h2);case h2=>first|exact .inl rfl|exact .inr (Nat.le_refl _)|exact .inr (by simp<;>omega))| (with_reducible refine Ah ?_ (by assumption))| (with_reducible refine Aa ?_ (by assumption))))
theorem PJ{w:World}{b:Nat}{tv wv:Value}{l:List Tok}{wl:List Bs}{i:Nat}(h:Par w b tv wv l wl i)(k:Nat)(hk:l.length≤i+k)(hk2:k≤4):
 Calls Tryz.prog 111 #[.pointer (some ⟨b,0,none⟩),.int .i64 k] w fun e w'=>e= .returned (.agg #[.int .i64 (Ab l (i+k)).kind,.int .i64 (Ab l (i+k)).pos,str (Ab l (i+k)).text])∧w.grownBy w' none:=by
 have et:Ab l (i+k)=⟨-1,0,[]⟩:=by simp[Ab,List.getElem?_eq_none hk]
 rw[et];clear et;obtain⟨a,cap,e⟩:=h.tv_eq;have c0:=h.c0;have c1:=h.c1;have hb:=h.lt;have hf:=h.few;have hle:=h.le;rw[e]at c0;have hlt':decide ((l.length:Int)≤(i:Int)+k)=true:=by simp;omega
 generalize l.length=n at*;clear e h;go_enter func111,ntmps111;go_wp2;go_quiet(fail);go_wp2;refine bodyPost_ret (v:= .agg #[.int .i64 (-1),.int .i64 0,str []]) ?_ rfl ⟨rfl,?_⟩
 ·simp[results,results111,go_sem]
 ·exact (by repeat(first| (with_reducible exact Ac _ _)| (with_reducible assumption)| (with_reducible exact AU (by assumption))| (with_reducible refine Ad ?_ _)| (with_reducible refine Am ?_)| (with_reducible refine A3 ?_ _)| ((with_reducible refine Ay ?_ _ _ ?h2);case h2=>first|exact .inl rfl|exact .inr (Nat.le_refl _)|exact .inr (by simp<;>omega))| (with_reducible refine Ah ?_ (by assumption))| (with_reducible refine Aa ?_ (by assumption))))
theorem Is{w:World}{b:Nat}{tv wv:Value}{l:List Tok}{wl:List Bs}{i:Nat}(h:Par w b tv wv l wl i)(k:Nat)(hk2:k≤4):
 Calls Tryz.prog 111 #[.pointer (some ⟨b,0,none⟩),.int .i64 k] w fun e w'=>e= .returned (.agg #[.int .i64 (Ab l (i+k)).kind,.int .i64 (Ab l (i+k)).pos,str (Ab l (i+k)).text])∧w.grownBy w' none:=by
 by_cases hk:i+k<l.length
 ·exact NU h k hk hk2
 ·exact PJ h k (by omega) hk2
theorem D8{w:World}{b:Nat}{i:Nat}(c1:w.cell? ⟨b,1,none⟩=some (.int .i64 i)):
 Calls Tryz.prog 107 #[.pointer (some ⟨b,0,none⟩)] w fun e w'=>e= .panicked (ER i)∧w'=w:=by
 go_enter func107,ntmps107;go_wp2;exact⟨rfl,rfl,rfl⟩
abbrev AY(t:Tok):Value:= .agg #[.int .i64 t.kind,.int .i64 t.pos,str t.text]
theorem BZ{w:World}{b:Nat}{tv wv:Value}{l:List Tok}{wl:List Bs}{i:Nat}(h:Par w b tv wv l wl i):
 Calls Tryz.prog 111 #[.pointer (some ⟨b,0,none⟩),.int .i64 0] w fun e w'=>e= .returned (AY (Ab l i))∧w.grownBy w' none:=Is h 0 (by omega)
theorem GR{w:World}{b:Nat}{tv wv:Value}{l:List Tok}{wl:List Bs}{i:Nat}(h:Par w b tv wv l wl i):
 Calls Tryz.prog 111 #[.pointer (some ⟨b,0,none⟩),.int .i64 1] w fun e w'=>e= .returned (AY (Ab l (i+1)))∧w.grownBy w' none:=Is h 1 (by omega)
theorem D6{l:List Tok}{i:Nat}(h:(Ab l i).kind ≠ -1):i<l.length:=by
 by_cases hi:i<l.length
 ·exact hi
 ·exact absurd (by simp[Ab,List.getElem?_eq_none (Nat.le_of_not_lt hi)]) h
theorem J7{l:List Tok}{i:Nat}{s:Bs}(h:Ae (Ab l i) s=true):i<l.length:=by
 apply D6;simp[Ae]at h;omega
theorem Bw{w:World}{b:Nat}{tv wv:Value}{l:List Tok}{wl:List Bs}{i:Nat}(h:Par w b tv wv l wl i)(s:Bs)(hs:Ae (Ab l i) s=true):
 Calls Tryz.prog 161 #[.pointer (some ⟨b,0,none⟩),str s] w fun e w'=>e= .returned (.bool true)∧Par w' b tv wv l wl (i+1)∧w.grownBy w' (some b):=by
 have hi:=J7 hs;have hs':((Ab l i).kind==4&&(Ab l i).text==s)=true:=hs;have hf:=h.few;clear hs;go_enter func161,ntmps161;go_wp2_with fail;refine(BZ h).mono ?_;rintro e w1 ⟨rfl,g1⟩;go_wp2_with fail;refine(DB _ _ _ _ _).mono ?_;rintro e w2 ⟨rfl,g2⟩;rw[hs'];have h2:=(h.gbN g1).gbN g2;have c1:=h2.c1;have f1:=h2.f1;go_wp2;go_ret;exact⟨rfl,h2.goI _ _ (by omega) (by omega),(by repeat(first| (with_reducible exact Ac _ _)| (with_reducible assumption)| (with_reducible exact AU (by assumption))| (with_reducible refine Ad ?_ _)| (with_reducible refine Am ?_)| (with_reducible refine A3 ?_ _)| ((with_reducible refine Ay ?_ _ _ ?h2);case h2=>first|exact .inl rfl|exact .inr (Nat.le_refl _)|exact .inr (by simp<;>omega))| (with_reducible refine Ah ?_ (by assumption))| (with_reducible refine Aa ?_ (by assumption))))⟩
theorem Bo{w:World}{b:Nat}{tv wv:Value}{l:List Tok}{wl:List Bs}{i:Nat}(h:Par w b tv wv l wl i)(s:Bs)(hs:Ae (Ab l i) s=false):
 Calls Tryz.prog 161 #[.pointer (some ⟨b,0,none⟩),str s] w fun e w'=>e= .returned (.bool false)∧w.grownBy w' none:=by
 have hs':((Ab l i).kind==4&&(Ab l i).text==s)=false:=hs;clear hs;go_enter func161,ntmps161;go_wp2_with fail;refine(BZ h).mono ?_;rintro e w1 ⟨rfl,g1⟩;go_wp2_with fail;refine(DB _ _ _ _ _).mono ?_;rintro e w2 ⟨rfl,g2⟩;rw[hs'];go_wp2;go_ret;exact⟨rfl,Aa g1 g2⟩
theorem Cx{w:World}{b:Nat}{tv wv:Value}{l:List Tok}{wl:List Bs}{i:Nat}(h:Par w b tv wv l wl i)(s:Bs):
 Calls Tryz.prog 186 #[.pointer (some ⟨b,0,none⟩),str s] w (Post b tv wv l wl w (fun _ v _=>v= .tuple #[]) (Ba l s i)):=by
 by_cases hs:Ae (Ab l i) s=true
 ·unfold Ba;rw[if_pos hs];go_enter func186,ntmps186;go_wp2_with fail;refine(Bw h s hs).mono ?_;rintro e w1 ⟨rfl,h1,g1⟩;go_wp2;go_end0;exact⟨g1,_,rfl,rfl,h1⟩
 ·unfold Ba;rw[if_neg hs];have hs':Ae (Ab l i) s=false:=by simpa using hs
  clear hs;go_enter func186,ntmps186;go_wp2_with fail;refine(Bo h s hs').mono ?_;rintro e w1 ⟨rfl,g1⟩;have c1:=(h.gbN g1).c1;go_wp2_with fail;refine(D8 c1).mono ?_;rintro e w2 ⟨rfl,rfl⟩;exact⟨rfl,AU g1,rfl⟩
theorem J1{w:World}{b:Nat}{tv wv:Value}{l:List Tok}{wl:List Bs}{i:Nat}(h:Par w b tv wv l wl i):
 Calls Tryz.prog 68 #[.pointer (some ⟨b,0,none⟩)] w (Post b tv wv l wl w (fun _ v _=>v= .tuple #[]) (C2 l i)):=by
 have hf:=h.few;by_cases hs:(Ab l i).kind=5
 ·have hi:i<l.length:=D6 (by omega);have hs':((Ab l i).kind==5)=true:=by simpa using hs
  unfold C2;rw[if_pos hs'];have H:=O hs;clear hs hs';go_enter func68,ntmps68;go_wp2_with fail;refine(BZ h).mono ?_;rintro e w1 ⟨rfl,g1⟩;rw[AY,H.out];have h1:=h.gbN g1;have c1:=h1.c1;have f1:=h1.f1;go_wp2;go_end0;exact⟨(by repeat(first| (with_reducible exact Ac _ _)| (with_reducible assumption)| (with_reducible exact AU (by assumption))| (with_reducible refine Ad ?_ _)| (with_reducible refine Am ?_)| (with_reducible refine A3 ?_ _)| ((with_reducible refine Ay ?_ _ _ ?h2);case h2=>first|exact .inl rfl|exact .inr (Nat.le_refl _)|exact .inr (by simp<;>omega))| (with_reducible refine Ah ?_ (by assumption))| (with_reducible refine Aa ?_ (by assumption)))),_,rfl,rfl,h1.goI _ _ (by omega) (by omega)⟩
 ·have hs':((Ab l i).kind==5)=false:=by simpa using hs
  unfold C2;rw[if_neg (by simpa using hs')];go_enter func68,ntmps68;go_wp2_with fail;refine(BZ h).mono ?_;rintro e w1 ⟨rfl,g1⟩;have c1:=(h.gbN g1).c1;go_wp2_with fail;refine(D8 c1).mono ?_;rintro e w2 ⟨rfl,rfl⟩;exact⟨rfl,AU g1,rfl⟩
end Go.Proofs.YtgjdhajcnechdaaGreatDoor
