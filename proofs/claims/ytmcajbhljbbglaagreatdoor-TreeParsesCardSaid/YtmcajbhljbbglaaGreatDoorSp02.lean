/-
  Plain laws: tokens, expressions as trees, and the grammar of expressions as plain functions over lists of tokens. No program, no world. Plain laws of my own over the model's worlds: a world that has g
-/
import Derived.Test.YtmcajbhljbbglaaGreatDoorSpF
import Derived.WalkKit
import Derived.BigQuiet
import Derived.Deep.QuietTactic
import Derived.WalkSpells
import Derived.StillTailTactics
import Derived.WalkLawsBesides
import Derived.Lib.Hide
import Derived.Deep.RegionWith
import Derived.Deep.RegionHeld3
import Derived.Test.YtmcajbhljbbglaaGreatDoorProg
import Derived.MapKept
import Derived.WideMake
import Derived.KernelRfl
import Derived.Test.YtmcajbhljbbglaaGreatDoorPlain
set_option linter.all false
set_option maxRecDepth 100000
set_option maxHeartbeats 8000000
namespace Go.Proofs.YtmcajbhljbbglaaGreatDoor
open Tryz
abbrev Bs:=List UInt8
structure Tok where
 kind:Int
 pos:Int
 text:Bs
 deriving DecidableEq
structure Hd where
 op:Int
 s:Bs
 vk:Int
 vn:Int
 vs:Bs
 p:List Bs
 deriving DecidableEq
inductive Fo where
 |nil
 |cons (h:Hd) (kids next:Fo)
structure Ex where
 h:Hd
 kids:Fo
def Fo.len:Fo→Nat
 | .nil=>0
 | .cons _ _ next=>next.len+1
def Fo.app:Fo→Fo→Fo
 | .nil,g=>g
 | .cons h k n,g=> .cons h k (n.app g)
def Ex.fo(x:Ex)(next:Fo):Fo:= .cons x.h x.kids next
def Fo.snoc(f:Fo)(x:Ex):Fo:=f.app (x.fo .nil)
def Fo.one(x:Ex):Fo:=x.fo .nil
def Fo.two(x y:Ex):Fo:=x.fo (y.fo .nil)
theorem Fo.len_app(f g:Fo):(f.app g).len=f.len+g.len:=by
 induction f with
 |nil=>simp[Fo.app,Fo.len]
 |cons h k n _ ih=>simp[Fo.app,Fo.len,ih];omega
theorem Fo.len_snoc(f:Fo)(x:Ex):(f.snoc x).len=f.len+1:=by simp[Fo.snoc,Fo.len_app,Ex.fo,Fo.len]
inductive Res (α:Type) where
 |ok (a:α) (i:Nat)
 |bad (k:Nat)
 |out
def Res.bind{α β:Type}:Res α→(α→Nat→Res β)→Res β
 | .ok a i,f=>f a i
 | .bad k,_=> .bad k
 | .out,_=> .out
theorem Res.bind_ok{α β:Type}(a:α)(i:Nat)(f:α→Nat→Res β):(Res.ok a i).bind f=f a i:=rfl
theorem Res.bind_bad{α β:Type}(k:Nat)(f:α→Nat→Res β):(Res.bad k).bind f= .bad k:=rfl
def Af(l:List Tok)(i:Nat):Tok:=(l[i]?).getD ⟨-1,0,[]⟩
def Ak(t:Tok)(s:Bs):Bool:=t.kind==4&&t.text==s
def F1(b:UInt8):Bool:=(65≤b&&b≤90)||(48≤b&&b≤57)||b==95
def DG(s:Bs):Bool:= !s.isEmpty&&decide (s.length≤10)&&!(match s with|b::_=>(48≤b&&b≤57)| []=>false)&&s.all F1
def Br(l:List Tok)(s:Bs)(i:Nat):Res Unit:=if Ak (Af l i) s then .ok () (i+1)else .bad i
def BP(l:List Tok)(i:Nat):Res Unit:=if(Af l i).kind==5 then .ok () (i+1)else .bad i
def AW(l:List Tok)(i:Nat):Res Bs:=if(Af l i).kind==0&&DG (Af l i).text then .ok (Af l i).text (i+1)else .bad i
def hd0(op:Int)(s:Bs):Hd:=⟨op,s,0,0,[],[]⟩
def A1(vk vn:Int)(vs:Bs):Ex:=⟨⟨0,[],vk,vn,vs,[]⟩,.nil⟩
def AC(s:Bs):Ex:=⟨hd0 1 s,.nil⟩
def AH(s:Bs)(a b:Ex):Ex:=⟨hd0 5 s,.two a b⟩
def unE(s:Bs)(a:Ex):Ex:=⟨hd0 4 s,.one a⟩
def DN(a b:Ex):Ex:=⟨hd0 6 [],.two a b⟩
def lvl(k:Nat):List (Bs×Bs):=
 match k with
 | 0=>[([46,79,82,46],[46,79,82,46])]
 | 1=>[([46,65,78,68,46],[46,65,78,68,46])]
 | 2=>[([61],[61]),([61,61],[61,61]),([60,62],[60,62]),([35],[60,62]),([33,61],[60,62]),([60],[60]),([62],[62]),([60,61],[60,61]),([62,61],[62,61]),([36],[36])]
 | 3=>[([43],[43]),([45],[45])]
 | 4=>[([42],[42]),([47],[47]),([37],[37])]
 |_=>[([94],[94])]
def Ic(k:Nat)(s:Bs):Bs:=((lvl k).lookup s).getD []
def J9(s:Bs)(i:Nat):Nat:=if s.isEmpty then i else i+1
theorem GC(i:Nat):J9 [] i=i:=rfl
theorem GG{s:Bs}(h:s≠[])(i:Nat):J9 s i=i+1:=by unfold J9;rw[if_neg Lp]
def AO(l:List Tok)(level i:Nat):Bs:=if(Af l i).kind==4 then Ic level (Af l i).text else []
def E1(l:List Tok)(level:Nat)(opnd:Nat→Res Ex):Nat→Ex→Nat→Res Ex
 | 0,_,_=> .out
 |n+1,x,i=>if(AO l level i).isEmpty then .ok x i else(opnd (i+1)).bind fun y j=>E1 l level opnd n (AH (AO l level i) x y) j
def B0(l:List Tok)(level n:Nat)(opnd:Nat→Res Ex)(i:Nat):Res Ex:=(opnd i).bind fun x j=>E1 l level opnd n x j
def CQ(l:List Tok)(sum:Nat→Res Ex):Nat→Nat→Res Ex
 | 0,_=> .out
 | n+1,i=>
   if Ak (Af l i) [46,78,79,84,46]||Ak (Af l i) [33]then(CQ l sum n (i+1)).bind fun x j=> .ok (unE [46,78,79,84,46] x) j
   else(sum i).bind fun x j=>if(AO l 2 j).isEmpty then .ok x j else(sum (j+1)).bind fun y k=> .ok (AH (AO l 2 j) x y) k
def DS(l:List Tok)(un:Nat→Res Ex):Nat→Nat→Res Ex
 | 0,_=> .out
 |n+1,i=>(un i).bind fun x j=>if(AO l 5 j).isEmpty then .ok x j else(DS l un n (j+1)).bind fun y k=> .ok (AH (AO l 5 j) x y) k
def DF(l:List Tok)(expr:Nat→Res Ex):Nat→Ex→Nat→Res Ex
 | 0,_,_=> .out
 |n+1,x,i=>if Ak (Af l i) [91]then(expr (i+1)).bind fun y j=>(Br l [93] j).bind fun _ k=>DF l expr n (DN x y) k else .ok x i
def DL(l:List Tok)(expr prim:Nat→Res Ex):Nat→Nat→Res Ex
 | 0,_=> .out
 |n+1,i=>if Ak (Af l i) [45]then(DL l expr prim n (i+1)).bind fun x j=> .ok (unE [45] x) j else(prim i).bind fun x j=>DF l expr n x j
def E3(l:List Tok)(expr:Nat→Res Ex):Nat→Fo→Nat→Res Fo
 | 0,_,_=> .out
 |n+1,acc,i=>if Ak (Af l i) [44]then(expr (i+1)).bind fun y j=>E3 l expr n (acc.snoc y) j else .ok acc i
def D1(l:List Tok)(expr:Nat→Res Ex)(n i:Nat):Res Fo:=(expr i).bind fun x j=>E3 l expr n (.one x) j
def E5(l:List Tok):Nat→List Bs→Nat→Res (List Bs)
 | 0,_,_=> .out
 |n+1,acc,i=>if Ak (Af l i) [44]then(AW l (i+1)).bind fun y j=>E5 l n (acc++[y]) j else .ok acc i
def Eh(l:List Tok)(n i:Nat):Res (List Bs):=(AW l i).bind fun x j=>E5 l n [x] j
def FK(l:List Tok)(expr:Nat→Res Ex)(n i:Nat):Res Ex:=
 (AW l i).bind fun s j=>(Br l [40] j).bind fun _ j=>
  if Ak (Af l j) [41]then .ok ⟨hd0 3 s,.nil⟩ (j+1)else(D1 l expr n j).bind fun f k=>(Br l [41] k).bind fun _ k=> .ok ⟨hd0 3 s,f⟩ k
def EW(l:List Tok)(expr:Nat→Res Ex)(i:Nat):Res Ex:=
 (Br l [38] i).bind fun _ i=>
  if Ak (Af l i) [40]then(expr (i+1)).bind fun x j=>(Br l [41] j).bind fun _ j=> .ok ⟨hd0 9 [],.one x⟩ j
  else(AW l i).bind fun s j=> .ok ⟨hd0 9 s,.nil⟩ (if Ak (Af l j) [46]then j+1 else j)
def Gi(l:List Tok)(expr:Nat→Res Ex)(n i:Nat):Res Ex:=
 if Ak (Af l i) [124]then
  (if Ak (Af l (i+1)) [124]then .ok [] (i+2)else(Eh l n (i+1)).bind fun p j=>(Br l [124] j).bind fun _ j=> .ok p j).bind fun p j=>
   (expr j).bind fun x j=>(Br l [125] j).bind fun _ j=> .ok ⟨⟨8,[],0,0,[],p⟩,.one x⟩ j
 else(D1 l expr n i).bind fun f j=>(Br l [125] j).bind fun _ j=> .ok ⟨hd0 7 [],f⟩ j
def ES(l:List Tok)(expr:Nat→Res Ex)(n i:Nat):Res Ex:=
 if Ak (Af l i) [38]then EW l expr i
 else if Ak (Af l i) [46,84,46]then .ok (A1 1 1 []) (i+1)
 else if Ak (Af l i) [46,70,46]then .ok (A1 1 0 []) (i+1)
 else if Ak (Af l i) [46,78,85,76,76,46]then .ok (A1 0 0 []) (i+1)
 else if Ak (Af l i) [40]then(expr (i+1)).bind fun x j=>(Br l [41] j).bind fun _ j=> .ok x j
 else if Ak (Af l i) [64]then(AW l (i+1)).bind fun s j=> .ok ⟨hd0 10 s,.nil⟩ j
 else if Ak (Af l i) [123]then Gi l expr n (i+1)
 else .bad i
def Gl(l:List Tok)(expr:Nat→Res Ex)(n i:Nat):Res Ex:=
 if Ak (Af l (i+1)) [40]then FK l expr n i
 else(AW l i).bind fun s j=>
  if Ak (Af l j) [45,62]then
   if Ak (Af l (j+1)) [40]then(expr (j+2)).bind fun x k=>(Br l [41] k).bind fun _ k=> .ok ⟨hd0 2 s,.one x⟩ k
   else(AW l (j+1)).bind fun t k=> .ok ⟨hd0 2 s,.one (AC t)⟩ k
  else .ok (AC s) j
def AS(s:Bs):Int:=s.foldl (fun n b=>10*n+((b.toNat:Int)-48)) 0
def Fc(l:List Tok)(day:Bs→Int)(expr:Nat→Res Ex)(n i:Nat):Res Ex:=
 if(Af l i).kind==1 then .ok (A1 2 (AS (Af l i).text) []) (i+1)
 else if(Af l i).kind==2 then(if(Af l i).text.length>2048 then .bad i else .ok (A1 4 0 (Af l i).text) (i+1))
 else if(Af l i).kind==3 then .ok (A1 3 (day (Af l i).text) []) (i+1)
 else if(Af l i).kind==0 then Gl l expr n i
 else ES l expr n i
def sumM(l:List Tok)(n:Nat)(pow:Nat→Res Ex)(i:Nat):Res Ex:=B0 l 3 n (B0 l 4 n pow) i
def Aw(l:List Tok)(day:Bs→Int):Nat→Nat→Res Ex
 | 0,_=> .out
 |n+1,i=>B0 l 0 n (B0 l 1 n (CQ l (sumM l n (DS l (DL l (Aw l day n) (Fc l day (Aw l day n) n) n) n)) n)) i
open Go.RowKit
theorem Z{p:Prop}(h:p):RowKit.Hid p:=Lib.hid h
theorem Ac{p q:Prop}(h:p)(k:q):p∧q:=⟨h,k⟩
theorem Aj(w:World)(r:Option Nat):w.grownBy w r:=⟨rfl,rfl,rfl,Nat.le_refl _,fun _ _ _=>rfl⟩
theorem Ah{w w1 w2:World}{r:Option Nat}(h:w.grownBy w1 r)(k:w1.grownBy w2 r):w.grownBy w2 r:=
 ⟨k.os.trans h.os,k.tape.trans h.tape,k.output.trans h.output,Nat.le_trans h.size k.size,fun i hi hr=>(k.block i (Nat.lt_of_lt_of_le hi h.size) hr).trans (h.block i hi hr)⟩
theorem AY{w w1:World}{r:Option Nat}(h:w.grownBy w1 none):w.grownBy w1 r:=
 ⟨h.os,h.tape,h.output,h.size,fun i hi _=>h.block i hi Ae⟩
theorem Ar{w w1:World}{r:Option Nat}(h:w.grownBy w1 r)(o:Obj):w.grownBy (w1.alloc o) r:=
 Ah h (World.grownBy_alloc w1 o r)
theorem An{w w1:World}{r:Option Nat}(h:w.grownBy w1 r):w.grownBy w1.drew r:=⟨h.os,h.tape,h.output,h.size,h.block⟩
theorem AA{w w1:World}{r:Option Nat}(h:w.grownBy w1 r)(n:Nat):w.grownBy (w1.drewN n) r:=⟨h.os,h.tape,h.output,h.size,h.block⟩
theorem A7{w w1:World}{r:Option Nat}(h:w.grownBy w1 r)(a:Addr)(v:Value)(ha:some a.block=r∨w.heap.size≤a.block):w.grownBy (w1.setCell a v) r:=by
 refine⟨h.os,h.tape,h.output,?_,fun i hi hr=>?_⟩
 ·simp[World.setCell];exact h.size
 ·have hne : i ≠ a.block := by
   rintro rfl;rcases ha with ha|ha
   ·exact hr ha
   ·omega
  rw[Below.heap_setCell _ _ _ _ hne];exact h.block i hi hr
theorem A0{w w1 w2:World}{r:Option Nat}(h:w.grownBy w1 r)(k:w1.grownBy w2 none):w.grownBy w2 r:=Ah h (AY k)
theorem A5{w w1 w2:World}{r:Option Nat}{b:Nat}(h:w.grownBy w1 r)(k:w1.grownBy w2 (some b))(hb:some b=r∨w.heap.size≤b):w.grownBy w2 r:=
 ⟨k.os.trans h.os,k.tape.trans h.tape,k.output.trans h.output,Nat.le_trans h.size k.size,fun i hi hr=>(k.block i (Nat.lt_of_lt_of_le hi h.size) (by
  intro e
  rcases hb with hb|hb
  ·exact hr (e.trans hb)
  ·cases e;omega)).trans (h.block i hi hr)⟩
theorem B6{w w1:World}{r:Option Nat}(h:w.grownBy w1 r){k i:Nat}{v:Value}(c:w.cell? ⟨k,i,none⟩=some v)(hk:some k≠r):w1.cell? ⟨k,i,none⟩=some v:=h.cell c hk
theorem Am{w w1:World}(h:w.grownBy w1 none){k i:Nat}{v:Value}(c:w.cell? ⟨k,i,none⟩=some v):w1.cell? ⟨k,i,none⟩=some v:=h.cell c Ae
theorem E0{w w1:World}{r:Option Nat}(h:w.grownBy w1 r){k:Nat}{o:Obj}(c:w.heap[k]? =some o)(hk:some k≠r):w1.heap[k]? =some o:=
 (h.block k (Array.getElem?_eq_some_iff.1 c).1 hk).trans c
theorem PB{w w1:World}(h:w.grownBy w1 none):Below w.heap.size w w1:=⟨h.os,h.tape,h.output,h.size,fun k hk=>h.block k hk Ae⟩
theorem OS{w w1:World}(h:Below w.heap.size w w1):w.grownBy w1 none:=⟨h.os,h.tape,h.output,h.size,fun k hk _=>h.block k hk⟩
def Blk(w:World)(k:Nat)(cs:List Value)(t:TypeId):Prop:=w.heap[k]? =some (.cells cs.toArray t (0,0))
theorem Blk.lt{w:World}{k:Nat}{cs:List Value}{t:TypeId}(h:Blk w k cs t):k<w.heap.size:=(Array.getElem?_eq_some_iff.1 h).1
theorem Blk.cell{w:World}{k:Nat}{cs:List Value}{t:TypeId}(h:Blk w k cs t)(i:Nat):w.cell? ⟨k,i,none⟩=cs[i]?:=by
 simp only[World.cell?,show w.heap[k]? =some (.cells cs.toArray t (0,0))from h];simp
theorem Blk.cell'{w:World}{k:Nat}{cs:List Value}{t:TypeId}(h:Blk w k cs t)(i:Nat){v:Value}(e:cs[i]? =some v):w.cell? ⟨k,i,none⟩=some v:=(h.cell i).trans e
theorem Blk.frozen{w:World}{k:Nat}{cs:List Value}{t:TypeId}(h:Blk w k cs t)(i:Nat):w.frozen? ⟨k,i,none⟩=false:=by
 simp only[World.frozen?,show w.heap[k]? =some (.cells cs.toArray t (0,0))from h];simp
theorem Blk.alloc{w:World}{k:Nat}{cs:List Value}{t:TypeId}(h:Blk w k cs t)(o:Obj):Blk (w.alloc o) k cs t:=
 (Below.heap_alloc w o k h.lt).trans h
theorem Blk.new(w:World)(cs:List Value)(t:TypeId):Blk (w.alloc (.cells cs.toArray t (0,0))) w.heap.size cs t:=heap_alloc_new w _
theorem Blk.drew{w:World}{k:Nat}{cs:List Value}{t:TypeId}(h:Blk w k cs t):Blk w.drew k cs t:=h
theorem Blk.drewN{w:World}{k:Nat}{cs:List Value}{t:TypeId}(h:Blk w k cs t)(n:Nat):Blk (w.drewN n) k cs t:=h
theorem Blk.set{w:World}{k:Nat}{cs:List Value}{t:TypeId}(h:Blk w k cs t)(i:Nat)(v:Value):Blk (w.setCell ⟨k,i,none⟩ v) k (cs.set i v) t:=by
 have h':w.heap[k]? =some (.cells cs.toArray t (0,0)):=h;simp[Blk,World.setCell,Array.getElem?_modify,h']
theorem Blk.set_other{w:World}{k:Nat}{cs:List Value}{t:TypeId}(h:Blk w k cs t)(a:Addr)(v:Value)(hne:k≠a.block):Blk (w.setCell a v) k cs t:=
 (Below.heap_setCell w a v k hne).trans h
theorem Blk.gb{w w1:World}{r:Option Nat}{k:Nat}{cs:List Value}{t:TypeId}(h:Blk w k cs t)(g:w.grownBy w1 r)(hk:some k≠r):Blk w1 k cs t:=E0 g h hk
theorem Blk.of_eq{w:World}{k k':Nat}{cs cs':List Value}{t:TypeId}(h:Blk w k cs t)(e:k=k')(e':cs=cs'):Blk w k' cs' t:=e ▸ e' ▸ h
theorem gw{w w1:World}{r:Option Nat} (h:w.grownBy w1 r:=by repeat(first| (with_reducible exact Aj _ _)| (with_reducible assumption)| (with_reducible exact AY (by assumption))| (with_reducible refine Ar ?_ _)| (with_reducible refine An ?_)| (with_reducible refine AA ?_ _)| ((with_reducible refine A7 ?_ _ _ ?h2);case h2=>first|exact .inl rfl|exact .inr (Nat.le_refl _)|exact .inr EJ)| (with_reducible refine A0 ?_ (by assumption))| (with_reducible refine Ah ?_ (by assumption)))):w.grownBy w1 r:=h
theorem Blk.c7{w:World}{k:Nat}{t:TypeId}{a0 a1 a2 a3 a4 a5 a6:Value}(h:Blk w k [a0,a1,a2,a3,a4,a5,a6] t):
 w.cell? ⟨k,0,none⟩=some a0∧w.cell? ⟨k,1,none⟩=some a1∧w.cell? ⟨k,2,none⟩=some a2∧w.cell? ⟨k,3,none⟩=some a3∧w.cell? ⟨k,4,none⟩=some a4∧w.cell? ⟨k,5,none⟩=some a5∧w.cell? ⟨k,6,none⟩=some a6∧∀i,w.frozen? ⟨k,i,none⟩=false:=
 ⟨h.cell 0,h.cell 1,h.cell 2,h.cell 3,h.cell 4,h.cell 5,h.cell 6,fun i=>h.frozen i⟩
theorem Blk.c10{w:World}{k:Nat}{t:TypeId}{a0 a1 a2 a3 a4 a5 a6 a7 a8 a9:Value}(h:Blk w k [a0,a1,a2,a3,a4,a5,a6,a7,a8,a9] t):
 w.cell? ⟨k,0,none⟩=some a0∧w.cell? ⟨k,1,none⟩=some a1∧w.cell? ⟨k,2,none⟩=some a2∧w.cell? ⟨k,3,none⟩=some a3∧w.cell? ⟨k,4,none⟩=some a4∧w.cell? ⟨k,5,none⟩=some a5∧w.cell? ⟨k,6,none⟩=some a6∧w.cell? ⟨k,7,none⟩=some a7∧w.cell? ⟨k,8,none⟩=some a8∧w.cell? ⟨k,9,none⟩=some a9∧∀i,w.frozen? ⟨k,i,none⟩=false:=
 ⟨h.cell 0,h.cell 1,h.cell 2,h.cell 3,h.cell 4,h.cell 5,h.cell 6,h.cell 7,h.cell 8,h.cell 9,fun i=>h.frozen i⟩
theorem HQr{α:Sort _}{a b R:α}(H:Hid (a=R))(r:a=b):Hid (b=R):=Z (r.symm.trans H.out)
theorem Cd{P:Program}{G:Prop}(h:G)(a:Act)(w:World):wpAny P .any #[] (fun _ _ _=>True) 0 #[] a w→G:=fun _=>h
abbrev str(l:Bs):Value:= .string ⟨l.toArray⟩
def TRow(w:World)(v:Value)(l:List Tok)(ok:Nat→Prop):Prop:=
 ∃a cap,v= .slice a l.length cap∧l.length≤cap∧cap≤maxLen∧∀j,j<l.length→∃lb lo,a=some ⟨lb,lo,none⟩∧ok lb∧
  w.cell? ⟨lb,lo+j*3,none⟩=some (.int .i64 (Af l j).kind)∧w.cell? ⟨lb,lo+j*3+1,none⟩=some (.int .i64 (Af l j).pos)∧
  w.cell? ⟨lb,lo+j*3+2,none⟩=some (.string ⟨(Af l j).text.toArray⟩)
def SRow(w:World)(v:Value)(l:List Bs)(ok:Nat→Prop):Prop:=
 ∃a cap,v= .slice a l.length cap∧l.length≤cap∧cap≤maxLen∧∀j,j<l.length→∃lb lo,a=some ⟨lb,lo,none⟩∧ok lb∧
  w.cell? ⟨lb,lo+j,none⟩=some (.string ⟨(l.getD j []).toArray⟩)
theorem TRow.gb{w w1:World}{v:Value}{l:List Tok}{ok:Nat→Prop}{r:Option Nat}(h:TRow w v l ok)(g:w.grownBy w1 r)(hk:∀k,ok k→some k≠r):TRow w1 v l ok:=by
 obtain⟨a,cap,e,h1,h2,h3⟩:=h;refine⟨a,cap,e,h1,h2,fun j hj=>?_⟩;obtain⟨lb,lo,ea,ho,c0,c1,c2⟩:=h3 j hj;exact⟨lb,lo,ea,ho,B6 g c0 (hk _ ho),B6 g c1 (hk _ ho),B6 g c2 (hk _ ho)⟩
theorem SRow.gb{w w1:World}{v:Value}{l:List Bs}{ok:Nat→Prop}{r:Option Nat}(h:SRow w v l ok)(g:w.grownBy w1 r)(hk:∀k,ok k→some k≠r):SRow w1 v l ok:=by
 obtain⟨a,cap,e,h1,h2,h3⟩:=h;refine⟨a,cap,e,h1,h2,fun j hj=>?_⟩;obtain⟨lb,lo,ea,ho,c0⟩:=h3 j hj;exact⟨lb,lo,ea,ho,B6 g c0 (hk _ ho)⟩
structure Par(w:World)(b:Nat)(tv wv:Value)(l:List Tok)(wl:List Bs)(i:Nat):Prop where
 blk:Blk w b [tv,.int .i64 i,wv,.slice none 0 0] 118
 toks:TRow w tv l (· < b)
 words:SRow w wv wl (· < b)
 le:i≤l.length
 few:l.length≤4001
section
variable {w w1:World}{b:Nat}{tv wv:Value}{l:List Tok}{wl:List Bs}{i:Nat}
theorem Par.lt(h:Par w b tv wv l wl i):b<w.heap.size:=h.blk.lt
theorem Par.c0(h:Par w b tv wv l wl i):w.cell? ⟨b,0,none⟩=some tv:=h.blk.cell 0
theorem Par.c1(h:Par w b tv wv l wl i):w.cell? ⟨b,1,none⟩=some (.int .i64 i):=h.blk.cell 1
theorem Par.c2(h:Par w b tv wv l wl i):w.cell? ⟨b,2,none⟩=some wv:=h.blk.cell 2
theorem Par.c3(h:Par w b tv wv l wl i):w.cell? ⟨b,3,none⟩=some (.slice none 0 0):=h.blk.cell 3
theorem Par.f1(h:Par w b tv wv l wl i):w.frozen? ⟨b,1,none⟩=false:=h.blk.frozen 1
theorem Par.gb{r:Option Nat}(h:Par w b tv wv l wl i)(g:w.grownBy w1 r)(hr:∀k,r=some k→b<k):Par w1 b tv wv l wl i:=
 ⟨h.blk.gb g (fun e=>by have:=hr _ e.symm;omega),h.toks.gb g (fun k hk e=>by have:=hr _ e.symm;omega),h.words.gb g (fun k hk e=>by have:=hr _ e.symm;omega),h.le,h.few⟩
theorem Par.gbN(h:Par w b tv wv l wl i)(g:w.grownBy w1 none):Par w1 b tv wv l wl i:=h.gb g Ae
theorem Par.alloc(h:Par w b tv wv l wl i)(o:Obj):Par (w.alloc o) b tv wv l wl i:=h.gbN (World.grownBy_alloc w o none)
theorem Par.drewN(h:Par w b tv wv l wl i)(n:Nat):Par (w.drewN n) b tv wv l wl i:=h.gbN (AA (Aj w none) n)
theorem Par.go(h:Par w b tv wv l wl i)(j:Nat)(hj:j≤l.length):Par (w.setCell ⟨b,1,none⟩ (.int .i64 j)) b tv wv l wl j:=by
 have g:w.grownBy (w.setCell ⟨b,1,none⟩ (.int .i64 j)) (some b):=A7 (Aj w _) _ _ (.inl rfl);exact⟨(h.blk.set 1 (.int .i64 j)).of_eq rfl rfl,h.toks.gb g MN,h.words.gb g MN,hj,h.few⟩
theorem Par.goI(h:Par w b tv wv l wl i)(z:Int)(j:Nat)(hz:z=j)(hj:j≤l.length):Par (w.setCell ⟨b,1,none⟩ (.int .i64 z)) b tv wv l wl j:=by
 subst hz;exact h.go j hj
theorem Par.tok(h:Par w b tv wv l wl i){j:Nat}(hj:j<l.length):∃lb lo cap,tv= .slice (some ⟨lb,lo,none⟩) l.length cap∧lb<w.heap.size∧lb≠b∧
 w.cell? ⟨lb,lo+j*3,none⟩=some (.int .i64 (Af l j).kind)∧w.cell? ⟨lb,lo+j*3+1,none⟩=some (.int .i64 (Af l j).pos)∧
 w.cell? ⟨lb,lo+j*3+2,none⟩=some (.string ⟨(Af l j).text.toArray⟩):=by
 exact Sk
theorem Par.tv_eq(h:Par w b tv wv l wl i):∃a cap,tv= .slice a l.length cap:=by
 obtain⟨a,cap,e,_⟩:=h.toks;exact⟨a,cap,e⟩
end
def JA(i:Nat):List PanicEntry:=[{v:= .iface 115 (.agg #[.int .i64 i]),recovered:=false}]
def Post(b:Nat)(tv wv:Value)(l:List Tok)(wl:List Bs)(w:World){α:Type}(V:World→Value→α→Prop)(r:Res α)(e:Ending)(w':World):Prop:=
 w.grownBy w' (some b)∧match r with
  | .ok a i=>∃v,e= .returned v∧V w' v a∧Par w' b tv wv l wl i
  | .bad k=>e= .panicked (JA k)
  | .out=>False
theorem Post.bad{b:Nat}{tv wv:Value}{l:List Tok}{wl:List Bs}{w w':World}{α:Type}{V:World→Value→α→Prop}{r:Res α}{k:Nat}(g:w.grownBy w' (some b))(hr:r= .bad k):Post b tv wv l wl w V r (.panicked (JA k)) w':=by
 subst hr;exact⟨g,rfl⟩
theorem Post.ok{b:Nat}{tv wv:Value}{l:List Tok}{wl:List Bs}{w w':World}{α:Type}{V:World→Value→α→Prop}{r:Res α}{a:α}{i:Nat}{v:Value}(g:w.grownBy w' (some b))(hr:r= .ok a i)(hv:V w' v a)(hp:Par w' b tv wv l wl i):Post b tv wv l wl w V r (.returned v) w':=by
 subst hr;exact⟨g,v,rfl,hv,hp⟩
@[go_sem] theorem field_tok0 (x y z:Value) (w:World):(Instr.field 89 (.agg #[x,y,z]) 0).run Tryz.prog w= .ok x w:=Bk
@[go_sem] theorem field_tok2 (x y z:Value) (w:World):(Instr.field 89 (.agg #[x,y,z]) 2).run Tryz.prog w= .ok z w:=Bk
theorem Hg(k a:Int)(s t:Bs)(w:World):Calls Tryz.prog 165 #[.agg #[.int .i64 k,.int .i64 a,str s],str t] w fun e w'=>e= .returned (.bool (k==4&&s==t))∧w.grownBy w' none:=by
 by_cases hk:k=4
 ·subst hk;go_enter func165,ntmps165;go_wp2;go_ret;exact⟨by simp,gw⟩
 ·have hk':(k==4)=false:=by simpa using hk
  go_enter func165,ntmps165;go_wp2;go_ret;exact⟨by simp[hk'],gw⟩
theorem sI{w:World}{b:Nat}{tv wv:Value}{l:List Tok}{wl:List Bs}{i:Nat}(h:Par w b tv wv l wl i)(k:Nat)(hk:i+k<l.length)(hk2:k≤4):
 Calls Tryz.prog 90 #[.pointer (some ⟨b,0,none⟩),.int .i64 k] w fun e w'=>e= .returned (.agg #[.int .i64 (Af l (i+k)).kind,.int .i64 (Af l (i+k)).pos,str (Af l (i+k)).text])∧w.grownBy w' none:=by
 obtain⟨lb,lo,cap,e,hlb,_,t0,t1,t2⟩:=h.tok hk;have c0:=h.c0;have c1:=h.c1;have hb:=h.lt;have hf:=h.few;rw[e]at c0;have hlt':decide ((l.length:Int)≤(i:Int)+k)=false:=Ag;generalize(Af l (i+k)).kind=x at*;generalize(Af l (i+k)).pos=y at*;generalize(Af l (i+k)).text=s at*;generalize l.length=n at*;clear e h;go_enter func90,ntmps90;go_wp2;go_quiet(fail);go_wp2;go_region;go_wp2;refine bodyPost_ret (v:= .agg #[.int .i64 x,.int .i64 y,str s]) ?_ rfl ⟨rfl,?_⟩
 ·simp[results,results90,go_sem]
 ·exact gw
theorem wJ{w:World}{b:Nat}{tv wv:Value}{l:List Tok}{wl:List Bs}{i:Nat}(h:Par w b tv wv l wl i)(k:Nat)(hk:l.length≤i+k)(hk2:k≤4):
 Calls Tryz.prog 90 #[.pointer (some ⟨b,0,none⟩),.int .i64 k] w fun e w'=>e= .returned (.agg #[.int .i64 (Af l (i+k)).kind,.int .i64 (Af l (i+k)).pos,str (Af l (i+k)).text])∧w.grownBy w' none:=by
 have et:Af l (i+k)=⟨-1,0,[]⟩:=by simp[Af,List.getElem?_eq_none hk]
 rw[et];clear et;obtain⟨a,cap,e⟩:=h.tv_eq;have c0:=h.c0;have c1:=h.c1;have hb:=h.lt;have hf:=h.few;have hle:=h.le;rw[e]at c0;have hlt':decide ((l.length:Int)≤(i:Int)+k)=true:=Ag;generalize l.length=n at*;clear e h;go_enter func90,ntmps90;go_wp2;go_quiet(fail);go_wp2;refine bodyPost_ret (v:= .agg #[.int .i64 (-1),.int .i64 0,str []]) ?_ rfl ⟨rfl,?_⟩
 ·simp[results,results90,go_sem]
 ·exact gw
theorem V3{w:World}{b:Nat}{tv wv:Value}{l:List Tok}{wl:List Bs}{i:Nat}(h:Par w b tv wv l wl i)(k:Nat)(hk2:k≤4):
 Calls Tryz.prog 90 #[.pointer (some ⟨b,0,none⟩),.int .i64 k] w fun e w'=>e= .returned (.agg #[.int .i64 (Af l (i+k)).kind,.int .i64 (Af l (i+k)).pos,str (Af l (i+k)).text])∧w.grownBy w' none:=by
 by_cases hk:i+k<l.length
 ·exact sI h k hk hk2
 ·exact wJ h k Ab hk2
theorem I1{w:World}{b:Nat}{i:Nat}(c1:w.cell? ⟨b,1,none⟩=some (.int .i64 i)):
 Calls Tryz.prog 86 #[.pointer (some ⟨b,0,none⟩)] w fun e w'=>e= .panicked (JA i)∧w'=w:=by
 go_enter func86,ntmps86;go_wp2;exact⟨rfl,rfl,rfl⟩
abbrev AG(t:Tok):Value:= .agg #[.int .i64 t.kind,.int .i64 t.pos,str t.text]
theorem CI{w:World}{b:Nat}{tv wv:Value}{l:List Tok}{wl:List Bs}{i:Nat}(h:Par w b tv wv l wl i):
 Calls Tryz.prog 90 #[.pointer (some ⟨b,0,none⟩),.int .i64 0] w fun e w'=>e= .returned (AG (Af l i))∧w.grownBy w' none:=V3 h 0 Ab
theorem KO{w:World}{b:Nat}{tv wv:Value}{l:List Tok}{wl:List Bs}{i:Nat}(h:Par w b tv wv l wl i):
 Calls Tryz.prog 90 #[.pointer (some ⟨b,0,none⟩),.int .i64 1] w fun e w'=>e= .returned (AG (Af l (i+1)))∧w.grownBy w' none:=V3 h 1 Ab
theorem ID{l:List Tok}{i:Nat}(h:(Af l i).kind ≠ -1):i<l.length:=by
 by_cases hi:i<l.length
 ·exact hi
 ·exact absurd Xz h
theorem Xe{l:List Tok}{i:Nat}{s:Bs}(h:Ak (Af l i) s=true):i<l.length:=by
 apply ID;simp[Ak]at h;omega
theorem BC{w:World}{b:Nat}{tv wv:Value}{l:List Tok}{wl:List Bs}{i:Nat}(h:Par w b tv wv l wl i)(s:Bs)(hs:Ak (Af l i) s=true):
 Calls Tryz.prog 117 #[.pointer (some ⟨b,0,none⟩),str s] w fun e w'=>e= .returned (.bool true)∧Par w' b tv wv l wl (i+1)∧w.grownBy w' (some b):=by
 have hi:=Xe hs;have hs':((Af l i).kind==4&&(Af l i).text==s)=true:=hs;have hf:=h.few;clear hs;go_enter func117,ntmps117;have He{P}(h:P:=by go_wp2_with fail;refine(Hg _ _ _ _ _).mono ?_;rintro e w2 ⟨rfl,g2⟩;rw[hs'];exact Tj):=Aa h;exact GZ
theorem B5{w:World}{b:Nat}{tv wv:Value}{l:List Tok}{wl:List Bs}{i:Nat}(h:Par w b tv wv l wl i)(s:Bs)(hs:Ak (Af l i) s=false):
 Calls Tryz.prog 117 #[.pointer (some ⟨b,0,none⟩),str s] w fun e w'=>e= .returned (.bool false)∧w.grownBy w' none:=by
 have hs':((Af l i).kind==4&&(Af l i).text==s)=false:=hs;clear hs;go_enter func117,ntmps117;have He{P}(h:P:=by go_wp2_with fail;refine(Hg _ _ _ _ _).mono ?_;rintro e w2 ⟨rfl,g2⟩;rw[hs'];go_wp2;go_ret;exact⟨rfl,Ah g1 g2⟩):=Aa h;exact GZ
theorem Ec{w:World}{b:Nat}{tv wv:Value}{l:List Tok}{wl:List Bs}{i:Nat}(h:Par w b tv wv l wl i)(s:Bs):
 Calls Tryz.prog 134 #[.pointer (some ⟨b,0,none⟩),str s] w (Post b tv wv l wl w (fun _ v _=>v= .tuple #[]) (Br l s i)):=by
 by_cases hs:Ak (Af l i) s=true
 ·unfold Br;rw[if_pos hs];go_enter func134,ntmps134;go_wp2_with fail;refine(BC h s hs).mono ?_;rintro e w1 ⟨rfl,h1,g1⟩;exact LM
 ·unfold Br;rw[if_neg hs];have hs':Ak (Af l i) s=false:=Le;clear hs;go_enter func134,ntmps134;go_wp2_with fail;refine(B5 h s hs').mono ?_;exact QM
theorem Gb{w:World}{b:Nat}{tv wv:Value}{l:List Tok}{wl:List Bs}{i:Nat}(h:Par w b tv wv l wl i):
 Calls Tryz.prog 57 #[.pointer (some ⟨b,0,none⟩)] w (Post b tv wv l wl w (fun _ v _=>v= .tuple #[]) (BP l i)):=by
 have hf:=h.few;by_cases hs:(Af l i).kind=5
 ·have hi:i<l.length:=ID Ab;have hs':((Af l i).kind==5)=true:=Le;unfold BP;rw[if_pos hs'];have H:=Z hs;clear hs hs';go_enter func57,ntmps57;have He{P}(h:P:=by rw[AG,H.out];have h1:=h.gbN g1;have c1:=h1.c1;have f1:=h1.f1;go_wp2;go_end0;exact⟨gw,_,rfl,rfl,h1.goI _ _ Ab Ab⟩):=Aa h;exact GZ
 ·have hs':((Af l i).kind==5)=false:=by simpa using hs
  unfold BP;rw[if_neg (by simpa using hs')];go_enter func57,ntmps57;go_wp2_with fail;refine(CI h).mono ?_;exact QM
theorem Xi(a b:Bs):((⟨a.toArray⟩:ByteArray)==⟨b.toArray⟩)=(a==b):=by
 rw[Bool.eq_iff_iff];show((⟨a.toArray⟩:ByteArray).data==(⟨b.toArray⟩:ByteArray).data)=true↔_;simp
def Ej:List (Bs×Bs)→Nat→List MapEntry
 | [],_=>[]
 | (k,v)::l,n=>{key:=str k,val:=str v,born:=n}::Ej l (n+1)
def CZ(l:List (Bs×Bs)):Obj:= .map (Ej l 0).toArray l.length
theorem r7(l:List (Bs×Bs))(k v:Bs):∀n,Ej (l++[(k,v)]) n=Ej l n++[{key:=str k,val:=str v,born:=n+l.length}]:=by
 induction l with
 |nil=>intro n;simp[Ej]
 |cons x l ih=>intro n;obtain⟨a,b⟩:=x;simp[Ej,ih,Nat.add_assoc,Nat.add_comm 1]
def FI(s:Bs):List (Bs×Bs)→Nat→Option (Nat×Value)
 | [],_=>none
 | (k,v)::l,i=>if s==k then some (i,str v)else FI s l (i+1)
theorem Uh(s:Bs)(l:List (Bs×Bs)):∀n i,Instr.findNow .string (str s) (Ej l n) i=some (FI s l i):=by
 induction l with
 |nil=>intro n i;simp[Ej,Instr.findNow,FI]
 | cons x l ih=>
   intro n i;obtain⟨a,b⟩:=x;simp only[Ej,Instr.findNow,Instr.sameNow,Xi,FI];cases h:s==a
   ·simp[ih]
   ·simp
def IM(k:Bs):List (Bs×Bs)→Prop
 | []=>True
 |x::l=>k≠x.1∧IM k l
theorem rS(k:Bs):IM k []:=trivial
theorem nE(k a b:Bs)(l:List (Bs×Bs)):IM k ((a,b)::l)=(k≠a∧IM k l):=rfl
theorem r6(k:Bs)(l:List (Bs×Bs))(hf:IM k l):∀i,FI k l i=none:=by
 induction l with
 |nil=>intro i;rfl
 | cons x l ih=>
   intro i;simp only[FI];rw[if_neg (by simpa using hf.1)];exact ih hf.2 _
theorem Ui(w:World)(o o':Obj):(w.heap.push o).setIfInBounds w.heap.size o'=w.heap.push o':=by
 have h:∀(l:List Obj)(o o':Obj),(l++[o]).set l.length o'=l++[o']:=by
  intro l;induction l with
  |nil=>intro o o';rfl
  |cons x l ih=>intro o o';simp[ih]
 apply Array.toList_inj.1;have:=h w.heap.toList o o';simpa using this
theorem AaU{P:Program}{mty kt et:TypeId}(hm:P.underlying mty=some (.map kt et))(hk:P.underlying kt=some .string)(w:World)(l:List (Bs×Bs))(r:Nat)(hr:r=w.heap.size)(k v:Bs)(hf:IM k l):
 (Instr.mapUpdate mty (.map (some r)) (str k) (str v)).run P (w.alloc (CZ l))= .ok () (w.alloc (CZ (l++[(k,v)]))):=by
 subst hr;have hb:(w.alloc (CZ l)).heap[w.heap.size]? =some (.map (Ej l 0).toArray l.length):=heap_alloc_new w _;have hf:Instr.findNow .string (str k) (Ej l 0) 0=some none:=by rw[Uh,r6 k l hf]
 have hc:(Instr.checkKey false 10000 kt (str k)).run P (w.alloc (CZ l))= .ok () (w.alloc (CZ l)):=MapKept.run_checkKey (k:=str k) hk Lj false 9999;simp[Instr.mapUpdate,run_underlying hm,MapKept.run_getObj_map hb,hc,MapKept.run_findKey hk hf,MapKept.run_setObj_map _ hb,Result.andThen];have e:=Ui w (CZ l) (CZ (l++[(k,v)]));have e2:(Obj.map (Ej l 0++[({key:=str k,val:=str v,born:=l.length}:MapEntry)]).toArray (l.length+1))=CZ (l++[(k,v)]):=by simp[CZ,r7]
 rw[e2];show({w with heap:=(w.heap.push (CZ l)).setIfInBounds w.heap.size (CZ (l++[(k,v)]))}:World)={w with heap:=w.heap.push (CZ (l++[(k,v)]))};rw[e]
theorem kP{P:Program}{mty kt et:TypeId}(hm:P.underlying mty=some (.map kt et))(hk:P.underlying kt=some .string)(w:World)(l:List (Bs×Bs))(r:Nat)(hb:w.heap[r]? =some (CZ l))(k:Bs)(z:Value)(hz:(zeroValue et).run P w= .ok z w):
 (Instr.lookup mty (.map (some r)) (str k) false).run P w= .ok (match FI k l 0 with|some (_,v)=>v|none=>z) w:=by
 have hb':w.heap[r]? =some (.map (Ej l 0).toArray l.length):=hb;have hf:Instr.findNow .string (str k) (Ej l 0) 0=some (FI k l 0):=by rw[Uh]
 have hc:∀e,(Instr.checkKey e 10000 kt (str k)).run P w= .ok () w:=fun e=>MapKept.run_checkKey (k:=str k) hk Lj e 9999;cases h:FI k l 0 with
 |none=>simp[Instr.lookup,run_underlying hm,MapKept.run_getObj_map hb',hc,MapKept.run_findKey hk hf,Result.andThen,h,hz]
 |some x=>simp[Instr.lookup,run_underlying hm,MapKept.run_getObj_map hb',hc,MapKept.run_findKey hk hf,Result.andThen,h]
theorem Aar(w:World):(Instr.makeMap 170 none).run Tryz.prog w= .ok (.map (some w.heap.size)) (w.alloc (CZ [])):=run_makeMap_plain w _
theorem Aad(w:World)(l:List (Bs×Bs))(r:Nat)(hr:r=w.heap.size)(k v:Bs)(hf:IM k l):
 (Instr.mapUpdate 170 (.map (some r)) (.string ⟨k.toArray⟩) (.string ⟨v.toArray⟩)).run Tryz.prog (w.alloc (CZ l))= .ok () (w.alloc (CZ (l++[(k,v)]))):=
 AaU underlying170 underlying9 w l r hr k v hf
theorem GD(w:World)(o:Obj)(n:Nat)(h:n=w.heap.size):(w.alloc o).heap[n]? =some o:=by subst h;exact heap_alloc_new w o
theorem KD(w:World)(o o':Obj)(n:Nat)(h:w.heap[n]? =some o'):(w.alloc o).heap[n]? =some o':=(Below.heap_alloc w o n (Array.getElem?_eq_some_iff.1 h).1).trans h
def Lvls(w:World)(m:Nat):Prop:=∀k,k<6→w.heap[m+k]? =some (CZ (lvl k))
theorem Vf(w:World):Calls Tryz.prog 164 #[] w fun e w'=>∃m,e= .returned (.agg #[.map (some m),.map (some (m+1)),.map (some (m+2)),.map (some (m+3)),.map (some (m+4)),.map (some (m+5))])∧Lvls w' m∧w.grownBy w' none:=by
 have hmm:=Aar;have hup:=Aad;have hfn:=rS;have hfc:=nE;go_enter func164,ntmps164;go_wp2;clear hmm hup hfn hfc;refine bodyPost_ret (v:= .agg #[.map (some (w.heap.size+1)),.map (some (w.heap.size+1+1)),.map (some (w.heap.size+1+1+1)),.map (some (w.heap.size+1+1+1+1)),.map (some (w.heap.size+1+1+1+1+1)),.map (some (w.heap.size+1+1+1+1+1+1))]) ?_ rfl ⟨w.heap.size+1,rfl,?_,?_⟩
 ·simp[results,results164,go_sem]
 ·intro k hk;match k,hk with
  | 0, _ => iterate 5 refine KD _ _ _ _ ?_
            exact GD _ _ _ Ae
  | 1, _ => iterate 4 refine KD _ _ _ _ ?_
            exact GD _ _ _ Ae
  | 2, _ => iterate 3 refine KD _ _ _ _ ?_
            exact GD _ _ _ Ae
  | 3, _ => iterate 2 refine KD _ _ _ _ ?_
            exact GD _ _ _ Ae
  | 4, _ => iterate 1 refine KD _ _ _ _ ?_
            exact GD _ _ _ Ae
  | 5,_=>exact GD _ _ _ Ae
 ·exact gw
theorem AaW(w:World):(zeroValue 9).run Tryz.prog w= .ok (str []) w:=Bk
theorem mU(s:Bs)(l:List (Bs×Bs)):∀i,(match FI s l i with|some (_,v)=>v|none=>str [])=str ((l.lookup s).getD []):=by
 induction l with
 |nil=>intro i;rfl
 | cons x l ih=>
   intro i;obtain⟨a,b⟩:=x;simp only[FI,List.lookup_cons];cases s==a
   ·simpa using ih (i+1)
   ·rfl
theorem Vl{w:World}{m:Nat}(h:Lvls w m)(k:Nat)(hk:k<6)(s:Bs):(Instr.lookup 170 (.map (some (m+k))) (str s) false).run Tryz.prog w= .ok (str (Ic k s)) w:=by
 rw[kP underlying170 underlying9 w (lvl k) (m+k) (h k hk) s (str []) (AaW w),mU];rfl
theorem Aau(m k:Nat)(hk:k<6)(w:World):(Instr.index 171 (.agg #[.map (some m),.map (some (m+1)),.map (some (m+2)),.map (some (m+3)),.map (some (m+4)),.map (some (m+5))]) (.int .i64 k)).run Tryz.prog w= .ok (.map (some (m+k))) w:=by
 have h6:k=0∨k=1∨k=2∨k=3∨k=4∨k=5:=Ab;rcases h6 with rfl|rfl|rfl|rfl|rfl|rfl<;>(show _=_;kernel_rfl)
theorem zS{l:List Tok}{k i:Nat}(h:AO l k i≠[]):i<l.length:=by
 apply ID;intro e;apply h;simp[AO,e]
theorem LX{w:World}{b:Nat}{tv wv:Value}{l:List Tok}{wl:List Bs}{i:Nat}(h:Par w b tv wv l wl i)(k:Nat)(hk:k<6):
 Calls Tryz.prog 115 #[.pointer (some ⟨b,0,none⟩),.int .i64 k] w fun e w'=>e= .returned (str (AO l k i))∧w.grownBy w' (some b)∧Par w' b tv wv l wl (J9 (AO l k i) i):=by
 by_cases hs:(Af l i).kind=4
 ·have ho:AO l k i=Ic k (Af l i).text:=by simp[AO,hs]
  have hl:Ic k (Af l i).text≠[]→i<l.length:=fun e=>zS (by rw[ho];exact e);rw[ho];have H:=Z hs;clear ho hs;have HL:=Z hl;clear hl;have hix:=fun m=>Aau m k hk;have hf:=h.few;generalize hO:Ic k (Af l i).text=o at*;have HO:=Z hO;clear hO;cases o with
  | nil=>
    go_enter func115,ntmps115;have He{P}(h:P:=by
    rw[AG,H.out];have h1:=h.gbN g1;go_wp2_with fail;go_region_with(go_at_call 164;refine(Vf _).mono ?_;rintro e w2 ⟨m,rfl,hm,g2⟩;have hlk:=Vl hm k hk (Af l i).text;rw[HO.out]at hlk;have ct:w2.cell? ⟨w1.heap.size,2,none⟩=some (str (Af l i).text):=Am g2 Ae);all_goals
     go_wp2;go_ret;refine⟨rfl,gw,?_⟩;rw[GC];exact h.gbN gw):=Aa h
    exact GZ
  | cons c o=>
    have hi:i<l.length:=HL.out Ae;go_enter func115,ntmps115;have He{P}(h:P:=by
    rw[AG,H.out];have h1:=h.gbN g1;go_wp2_with fail;go_region_with(go_at_call 164;refine(Vf _).mono ?_;rintro e w2 ⟨m,rfl,hm,g2⟩;have hlk:=Vl hm k hk (Af l i).text;rw[HO.out]at hlk;have ct:w2.cell? ⟨w1.heap.size,2,none⟩=some (str (Af l i).text):=Am g2 Ae;have h2:Par w2 b tv wv l wl i:=h.gbN gw;have c1:=h2.c1;have f1:=h2.f1);all_goals
     go_wp2;go_ret;refine⟨rfl,gw,?_⟩;rw[GG Ae];exact h2.goI _ _ Ab Ab):=Aa h
    exact GZ
 ·have hs':((Af l i).kind==4)=false:=by simpa using hs
  have ho:AO l k i=[]:=by simp[AO,hs]
  rw[ho];clear ho hs;go_enter func115,ntmps115;have He{P}(h:P:=by go_wp2;go_ret;refine⟨rfl,gw,?_⟩;show Par _ b tv wv l wl i;exact h.gbN gw):=Aa h;exact GZ
def Cells(w:World)(v:Value)(size n:Nat)(cs:List Value)(ok:Nat→Prop):Prop:=
 ∃a cap,v= .slice a n cap∧n≤cap∧cap≤maxLen∧cs.length=n*size∧∀j u,cs[j]? =some u→∃g o,a=some ⟨g,o,none⟩∧ok g∧w.cell? ⟨g,o+j,none⟩=some u
def hdC(h:Hd)(pv lv:Value):List Value:=[.int .i64 h.op,str h.s,.int .i64 h.vk,.int .i64 h.vn,str h.vs,pv,lv]
abbrev exV(h:Hd)(pv lv:Value):Value:= .agg #[.int .i64 h.op,str h.s,.int .i64 h.vk,.int .i64 h.vn,str h.vs,pv,lv]
def RepF(ok:Nat→Prop)(w:World):Fo→List Value→Prop
 | .nil,cs=>cs=[]
 | .cons h kids next,cs=>∃pv lv kcs rest,cs=hdC h pv lv++rest∧Cells w pv 1 h.p.length (h.p.map str) ok∧Cells w lv 7 kids.len kcs ok∧RepF ok w kids kcs∧RepF ok w next rest
def RepL(ok:Nat→Prop)(w:World)(v:Value)(f:Fo):Prop:=∃cs,Cells w v 7 f.len cs ok∧RepF ok w f cs
def VE(ok:Nat→Prop)(w:World)(v:Value)(x:Ex):Prop:=∃pa pc la lc,v=exV x.h (.slice pa x.h.p.length pc) (.slice la x.kids.len lc)∧Cells w (.slice pa x.h.p.length pc) 1 x.h.p.length (x.h.p.map str) ok∧RepL ok w (.slice la x.kids.len lc) x.kids
theorem Cells.gb{w w1:World}{v:Value}{size n:Nat}{cs:List Value}{ok:Nat→Prop}{r:Option Nat}(h:Cells w v size n cs ok)(g:w.grownBy w1 r)(hk:∀k,ok k→k<w.heap.size→some k≠r):Cells w1 v size n cs ok:=by
 obtain⟨a,cap,e,h1,h2,h3,h4⟩:=h;refine⟨a,cap,e,h1,h2,h3,fun j u hj=>?_⟩;obtain⟨gg,o,ea,ho,hc⟩:=h4 j u hj;exact⟨gg,o,ea,ho,B6 g hc (hk _ ho (World.block_lt_of_cell? w _ hc))⟩
theorem Cells.mono{w:World}{v:Value}{size n:Nat}{cs:List Value}{ok ok':Nat→Prop}(h:Cells w v size n cs ok)(hk:∀k,ok k→k<w.heap.size→ok' k):Cells w v size n cs ok':=by
 obtain⟨a,cap,e,h1,h2,h3,h4⟩:=h;refine⟨a,cap,e,h1,h2,h3,fun j u hj=>?_⟩;obtain⟨gg,o,ea,ho,hc⟩:=h4 j u hj;exact⟨gg,o,ea,hk _ ho (World.block_lt_of_cell? w _ hc),hc⟩
theorem Cells.nil(w:World)(size:Nat)(ok:Nat→Prop):Cells w (.slice none 0 0) size 0 [] ok:=⟨none,0,rfl,Nat.le_refl _,Nat.zero_le _,by simp,fun j u h=>by simp at h⟩
theorem RepF.gb{w w1:World}{ok:Nat→Prop}{r:Option Nat}(g:w.grownBy w1 r)(hk:∀k,ok k→k<w.heap.size→some k≠r):∀{f:Fo}{cs:List Value},RepF ok w f cs→RepF ok w1 f cs:=by
 intro f;induction f with
 |nil=>intro cs h;exact h
 | cons hd kids next ih1 ih2=>
   rintro cs ⟨pv,lv,kcs,rest,e,h1,h2,h3,h4⟩;exact⟨pv,lv,kcs,rest,e,h1.gb g hk,h2.gb g hk,ih1 h3,ih2 h4⟩
theorem RepF.mono{w:World}{ok ok':Nat→Prop}(hk:∀k,ok k→k<w.heap.size→ok' k):∀{f:Fo}{cs:List Value},RepF ok w f cs→RepF ok' w f cs:=by
 intro f;induction f with
 |nil=>intro cs h;exact h
 | cons hd kids next ih1 ih2=>
   rintro cs ⟨pv,lv,kcs,rest,e,h1,h2,h3,h4⟩;exact⟨pv,lv,kcs,rest,e,h1.mono hk,h2.mono hk,ih1 h3,ih2 h4⟩
theorem RepL.gb{w w1:World}{v:Value}{ok:Nat→Prop}{r:Option Nat}{f:Fo}(h:RepL ok w v f)(g:w.grownBy w1 r)(hk:∀k,ok k→k<w.heap.size→some k≠r):RepL ok w1 v f:=by
 exact O6
theorem RepL.mono{w:World}{v:Value}{ok ok':Nat→Prop}{f:Fo}(h:RepL ok w v f)(hk:∀k,ok k→k<w.heap.size→ok' k):RepL ok' w v f:=by
 obtain⟨cs,h1,h2⟩:=h;exact⟨cs,h1.mono hk,h2.mono hk⟩
theorem RepL.nil(w:World)(ok:Nat→Prop):RepL ok w (.slice none 0 0) .nil:=⟨[],Cells.nil w 7 ok,rfl⟩
theorem VE.gb{w w1:World}{v:Value}{ok:Nat→Prop}{r:Option Nat}{x:Ex}(h:VE ok w v x)(g:w.grownBy w1 r)(hk:∀k,ok k→k<w.heap.size→some k≠r):VE ok w1 v x:=by
 obtain⟨pa,pc,la,lc,e,h1,h2⟩:=h;exact⟨pa,pc,la,lc,e,h1.gb g hk,h2.gb g hk⟩
theorem VE.mono{w:World}{v:Value}{ok ok':Nat→Prop}{x:Ex}(h:VE ok w v x)(hk:∀k,ok k→k<w.heap.size→ok' k):VE ok' w v x:=by
 obtain⟨pa,pc,la,lc,e,h1,h2⟩:=h;exact⟨pa,pc,la,lc,e,h1.mono hk,h2.mono hk⟩
theorem RepF.len{ok:Nat→Prop}{w:World}:∀{f:Fo}{cs:List Value},RepF ok w f cs→cs.length=f.len*7:=by
 intro f;induction f with
 |nil=>intro cs h;subst h;rfl
 | cons hd kids next ih1 ih2=>
   rintro cs ⟨pv,lv,kcs,rest,rfl,h1,h2,h3,h4⟩;simp[hdC,Fo.len,ih2 h4];omega
theorem RepF.app{ok:Nat→Prop}{w:World}:∀{f g:Fo}{cs ds:List Value},RepF ok w f cs→RepF ok w g ds→RepF ok w (f.app g) (cs++ds):=by
 intro f;induction f with
 |nil=>intro g cs ds h k;subst h;exact k
 | cons hd kids next ih1 ih2=>
   rintro g cs ds ⟨pv,lv,kcs,rest,rfl,h1,h2,h3,h4⟩ k;exact⟨pv,lv,kcs,rest++ds,by simp,h1,h2,h3,ih2 h4 k⟩
theorem VE.rep{ok:Nat→Prop}{w:World}{pv lv:Value}{x:Ex}(h1:Cells w pv 1 x.h.p.length (x.h.p.map str) ok)(h2:RepL ok w lv x.kids):RepF ok w (.one x) (hdC x.h pv lv):=by
 obtain⟨cs,h3,h4⟩:=h2;exact⟨pv,lv,cs,[],by simp,h1,h3,h4,rfl⟩
abbrev Ap(B:Nat):Nat→Prop:=fun g=>B≤g
def OwnF(w:World)(B:Nat)(v:Value)(f:Fo):Prop:=∃cs,w.ownsRow B 29 7 v f.len cs∧RepF (fun g=>B≤g∧v.ownBlock≠some g) w f cs
theorem E7{w w1:World}{B e size n:Nat}{v:Value}{xs:List Value}{r:Option Nat}(h:w.ownsRow B e size v n xs)(g:w.grownBy w1 r)(hk:∀k,B≤k→k<w.heap.size→some k≠r):w1.ownsRow B e size v n xs:=by
 refine h.kept g ?_;cases hv:v.ownBlock with
 |none=>exact .inl rfl
 |some k=>exact .inr (hk k (h.lt k hv).1 (h.lt k hv).2)
theorem OwnF.gb{w w1:World}{B:Nat}{v:Value}{f:Fo}{r:Option Nat}(h:OwnF w B v f)(g:w.grownBy w1 r)(hk:∀k,B≤k→k<w.heap.size→some k≠r):OwnF w1 B v f:=by
 exact Oi
theorem GE{w:World}{B e size n:Nat}{v:Value}{xs:List Value}(h:w.ownsRow B e size v n xs):Cells w v size n xs (Ap B):=by
 rcases h.2 with⟨rfl,rfl⟩| ⟨g,cap,cur,rfl,hb,hg,hnc,hcm,hcs,htake⟩
 ·exact ⟨none, 0, rfl, Nat.le_refl _, Nat.zero_le _, h.1, fun j u hj => by
   have:xs=[]:=List.eq_nil_of_length_eq_zero (by simpa using h.1);subst this;simp at hj⟩
 ·refine⟨_,_,rfl,hnc,hcm,h.1,fun j u hj=>⟨g,0,rfl,hb,?_⟩⟩;have:=h.cells (g:=g) rfl j u hj;rw[Nat.zero_add];unfold Addr.add at this;split at this
  ·rename_i h0;subst h0;exact this
  ·simpa using this
theorem OwnF.rep{w:World}{B:Nat}{v:Value}{f:Fo}(h:OwnF w B v f):RepL (Ap B) w v f:=by
 obtain⟨cs,h1,h2⟩:=h;exact⟨cs,GE h1,h2.mono fun k hk _=>hk.1⟩
abbrev set7(w:World)(k:Nat)(v0 v1 v2 v3 v4 v5 v6:Value):World:=
 ((((((w.setCell ⟨k,0,none⟩ v0).setCell ⟨k,1,none⟩ v1).setCell ⟨k,2,none⟩ v2).setCell ⟨k,3,none⟩ v3).setCell ⟨k,4,none⟩ v4).setCell ⟨k,5,none⟩ v5).setCell ⟨k,6,none⟩ v6
theorem Blk.set7{w:World}{k:Nat}{a0 a1 a2 a3 a4 a5 a6:Value}{t:TypeId}(h:Blk w k [a0,a1,a2,a3,a4,a5,a6] t)(v0 v1 v2 v3 v4 v5 v6:Value):Blk (set7 w k v0 v1 v2 v3 v4 v5 v6) k [v0,v1,v2,v3,v4,v5,v6] t:=
 (((((((h.set 0 v0).set 1 v1).set 2 v2).set 3 v3).set 4 v4).set 5 v5).set 6 v6).of_eq rfl rfl
theorem As{w w1:World}{k:Nat}(h:w.grownBy w1 (some k))(i:Nat)(v:Value):w.grownBy (w1.setCell ⟨k,i,none⟩ v) (some k):=A7 h ⟨k,i,none⟩ v (.inl rfl)
theorem AD(w:World)(k:Nat)(v0 v1 v2 v3 v4 v5 v6:Value):w.grownBy (set7 w k v0 v1 v2 v3 v4 v5 v6) (some k):=by
 have h0:=As (Aj w (some k)) 0 v0;have h1:=As h0 1 v1;have h2:=As h1 2 v2;have h3:=As h2 3 v3;have h4:=As h3 4 v4;have h5:=As h4 5 v5;exact As h5 6 v6
theorem vB:(match(Tryz.prog.underlying 29)with|some (.struct _)=>true|_=>false)=true:=Bk
theorem AX{fn:Func}{p:Tmp}(h:fn.results=#[.cell p 29])(tmps:Array Value){w:World}{k:Nat}{hd:Hd}{pv lv:Value}(hb:Blk w k (hdC hd pv lv) 29)(hp:tmps.getD p undef= .pointer (some ⟨k,0,none⟩)):
 (results fn tmps).run Tryz.prog w= .ok (exV hd pv lv) w:=by
 have hs:=vB;cases hu:Tryz.prog.underlying 29 with
 |none=>rw[hu]at hs;cases hs
 | some d=>
   rw[hu]at hs;exact results_cell_row h tmps w k 29 (hdC hd pv lv).toArray (0,0) d hp hb hu (by cases d<;>simp_all) (by show(Tryz.prog.info? 29).map (·.size)=some 7;kernel_rfl)
theorem mH{P:Program}(w:World)(base:Nat)(t ty e:TypeId)(i:TypeInfo)(z:Value)(size bytes:Nat)(ht:P.underlying t=some (.slice e))(hi:P.info? e=some i)(hz:i.zero=some z)
 (hsize:i.size=size) (hby:i.bytes=bytes) (hzs:z.cells.size=size) (hsz:0<size)
 (v:Value) (n:Nat) (xs:List Value) (hown:w.ownsRow base e size v n xs)
 (a:Addr) (m c:Nat) (news:List Value) (hl:news.length=m*size) (hnews:∀j u,news[j]? =some u→w.cell? (a.add j)=some u) (h1:∀u∈news,u.oneCell'=true)
 (h63:n+m≤maxLen) (hbytes:(n+m)*bytes≤140737488355328) (hbase:base≤w.heap.size):
 ∃v' w',(Builtin.append_ #[t,t] ty #[v,.slice (some a) m c]).run P w= .ok v' w'∧w'.ownsRow base e size v' (n+m) (xs++news)∧w.grownBy w' v.ownBlock∧
  (∀k,v'.ownBlock=some k→v.ownBlock=some k∨w.heap.size≤k):=by
 obtain⟨v1,w1,hr1,ho1,hg1,_⟩:=run_append_own (P:=P) w base t ty e i z size bytes ht hi hz hsize hby hzs hsz v n xs hown a m c news hl hnews h1 h63 hbytes hbase;refine⟨v1,w1,hr1,ho1,hg1,fun k hk=>?_⟩;rcases hown.2 with⟨rfl,rfl⟩| ⟨g,cap,cur,rfl,hbg,hg,hnc,hcm,hcs,htake⟩
 ·obtain⟨v2,w2,hr2,ho2,_,_⟩:=run_append_own (P:=P) w w.heap.size t ty e i z size bytes ht hi hz hsize hby hzs hsz _ 0 xs ⟨hown.1,.inl ⟨rfl,rfl⟩⟩ a m c news hl hnews h1 h63 hbytes (Nat.le_refl _);rw[hr1]at hr2;cases hr2;exact .inr (ho2.lt k hk).1
 ·by_cases hroom:n+m≤cap
  ·have hfit:n*i.size+news.length≤cur.size:=by rw[hl,hcs,hsize,←Nat.add_mul];exact Nat.mul_le_mul_right _ hroom
   have hr:=run_append_room (P:=P) w t ty e i ht hi g n cap cur hg a m c news (by rw[hsize];exact hl) hnews h1 hroom hfit;rw[hr1]at hr;cases hr;left;simpa[Value.ownBlock]using hk
  ·have holds:∀j u,xs[j]? =some u→w.cell? ((⟨g,0,none⟩:Addr).add j)=some u:=hown.cells (g:=g) rfl;have hr:=run_append_grow (P:=P) w t ty e i z ht hi hz ⟨g,0,none⟩ n cap xs (by rw[hsize];exact hown.1) holds a m c news (by rw[hsize];exact hl) hnews Ab (by unfold maxLen at h63;omega) (by rw[hby];exact growslice_fits (by unfold maxLen at h63;omega) hbytes);rw[hr1]at hr;cases hr;right;simp[Value.ownBlock]at hk;omega
theorem Oe{P:Program}{w:World}{ops:Array Oper}{rest:List Oper}{o:Oper}{a:Act}{Q:Exit→Act→World→Prop}(hgd:o.guard=none)(s x:Operand)(t:TypeId)
 (ho:o.op= .call {callee:= .builtin .append,args:=#[s,x],argTypes:=#[t,t]})
 (base:Nat) (e:TypeId) (i:TypeInfo) (z:Value) (size bytes:Nat) (ht:P.underlying t=some (.slice e)) (hi:P.info? e=some i) (hz:i.zero=some z)
 (hsize:i.size=size) (hby:i.bytes=bytes) (hzs:z.cells.size=size) (hsz:0<size)
 (v:Value) (n:Nat) (xs:List Value) (hs:a.eval s=v) (hown:w.ownsRow base e size v n xs)
 (ad:Addr) (m c:Nat) (news:List Value) (hx:a.eval x= .slice (some ad) m c) (hl:news.length=m*size) (hnews:∀j u,news[j]? =some u→w.cell? (ad.add j)=some u) (h1:∀u∈news,u.oneCell'=true)
 (h63:n+m≤maxLen) (hbytes:(n+m)*bytes≤140737488355328) (hbase:base≤w.heap.size)
 (h:∀v' w',w'.ownsRow base e size v' (n+m) (xs++news)→w.grownBy w' v.ownBlock→(∀k,v'.ownBlock=some k→v.ownBlock=some k∨w.heap.size≤k)→wpList P ops Q rest (a.put o.dst v') w'):wpList P ops Q (o::rest) a w:=by
 refine wpList_plain hgd fun K hK=>?_;obtain⟨v',w',hr,h2,h3,h4⟩:=mH (P:=P) w base t o.type e i z size bytes ht hi hz hsize hby hzs hsz v n xs hown ad m c news hl hnews h1 h63 hbytes hbase;unfold Oper.wp execOp;simp only[ho,resolve,invoke,builtin,Sem.run_bind,Sem.run_pure,Result.andThen_ok,List.map_toArray,List.map_cons,List.map_nil,hs,hx,hr];exact hK _ _ (h v' w' h2 h3 h4)
theorem Bu(w:World)(cs:List Value)(t:TypeId):∀j u,cs[j]? =some u→(w.alloc (.cells cs.toArray t (0,0))).cell? ((⟨w.heap.size,0,none⟩:Addr).add j)=some u:=by
 intro j u h;have e:(⟨w.heap.size,0,none⟩:Addr).add j=⟨w.heap.size,j,none⟩:=MJ;rw[e];exact(Blk.new w cs t).cell' j h
theorem OwnF.snoc{w w1:World}{B n:Nat}{v v':Value}{f:Fo}{x:Ex}{cs:List Value}{pa la:Option Addr}{pc lc:Nat}{okx:Nat→Prop}
 (hf:RepF (fun g=>B≤g∧v.ownBlock≠some g) w f cs) (hn:n=f.len)
 (rp:Cells w (.slice pa x.h.p.length pc) 1 x.h.p.length (x.h.p.map str) okx) (rl:RepL okx w (.slice la x.kids.len lc) x.kids) (hokx:∀k,okx k→B≤k∧v.ownBlock≠some k)
 (ho:w1.ownsRow B 29 7 v' (n+1) (cs++hdC x.h (.slice pa x.h.p.length pc) (.slice la x.kids.len lc))) (hg:w.grownBy w1 v.ownBlock) (hnew:∀k,v'.ownBlock=some k→v.ownBlock=some k∨w.heap.size≤k):
 OwnF w1 B v' (f.snoc x):=by
 subst hn;refine⟨_,by rw[Fo.len_snoc];exact ho,?_⟩;have h1:RepF (fun g=>B≤g∧v.ownBlock≠some g) w (f.snoc x) (cs++hdC x.h (.slice pa x.h.p.length pc) (.slice la x.kids.len lc)):=
  hf.app (VE.rep (rp.mono fun k hk _=>hokx k hk) (rl.mono fun k hk _=>hokx k hk))
 have h2:=RepF.mono (ok':=fun g=>B≤g∧v.ownBlock≠some g∧v'.ownBlock≠some g) (fun k hk hlt=>⟨hk.1,hk.2,fun e=>by
  rcases hnew k e with h|h
  ·exact hk.2 h
  ·omega⟩) h1
 exact(h2.gb hg fun k hk _ e=>hk.2.1 e.symm).mono fun k hk _=>⟨hk.1,hk.2.2⟩
theorem Kq:(Tryz.prog.info? 29).map (fun i=>(i.zero,i.size,i.bytes))=some (some (.agg #[.int .i64 0,str [],.int .i64 0,.int .i64 0,str [],.slice none 0 0,.slice none 0 0]),7,104):=Bk
theorem LI:(Tryz.prog.info? 9).map (fun i=>(i.zero,i.size,i.bytes))=some (some (str []),1,16):=Bk
theorem PD:(Tryz.prog.info? 89).map (fun i=>(i.zero,i.size,i.bytes))=some (some (.agg #[.int .i64 0,.int .i64 0,str []]),3,32):=Bk
theorem gbB{w w':World}(h:Below w.heap.size w w')(r:Option Nat):w.grownBy w' r:=⟨h.os,h.tape,h.output,h.size,fun k hk _=>h.block k hk⟩
theorem Wi(l cs:List UInt8):(Lib.trimS l cs==[])=l.all (cs.contains ·):=by
 have h1:∀l:List UInt8,(l.dropWhile (cs.contains ·)==[])=l.all (cs.contains ·):=by
  intro l;induction l with
  |nil=>rfl
  | cons a t ih=>
    simp only[List.dropWhile_cons,List.all_cons];cases cs.contains a
    ·simp
    ·simpa using ih
 have h2:∀l:List UInt8,((l.reverse.dropWhile (cs.contains ·)).reverse).all (cs.contains ·)=l.all (cs.contains ·):=by
  intro l;have:∀m:List UInt8,(m.dropWhile (cs.contains ·)).all (cs.contains ·)=m.all (cs.contains ·):=by
   intro m;induction m with
   |nil=>rfl
   | cons a t ih=>
     simp only[List.dropWhile_cons,List.all_cons];cases h:cs.contains a
     ·show(a::t).all _=_;rw[List.all_cons,h]
     ·simpa using ih
  rw[List.all_reverse,this,List.all_reverse]
 unfold Lib.trimS Lib.trimLeftS;rw[h1];exact h2 l
def nameSet:List UInt8:=[65,66,67,68,69,70,71,72,73,74,75,76,77,78,79,80,81,82,83,84,85,86,87,88,89,90,48,49,50,51,52,53,54,55,56,57,95]
theorem r8(b:UInt8):nameSet.contains b=F1 b:=by
 have h:∀n:Fin 256,nameSet.contains (UInt8.ofNat n.val)=F1 (UInt8.ofNat n.val):=En;have:=h ⟨b.toNat,b.toNat_lt⟩;simpa using this
theorem vX(l:List UInt8):(Lib.trimS l nameSet==[])=l.all F1:=by
 rw[Wi];congr 1;funext b;exact r8 b
theorem WU(c:UInt8)(t:List UInt8)(h:0<(⟨(c::t).toArray⟩:ByteArray).size):(⟨(c::t).toArray⟩:ByteArray)[0]'h=c:=rfl
theorem lN(s:Bs)(w:World)(hs:s.length≤1000000):Calls Tryz.prog 184 #[str s] w fun e w'=>e= .returned (.bool (DG s))∧w.grownBy w' none:=by
 cases s with
 | nil=>
   exact O1
 | cons c t=>
   simp only[List.length_cons]at hs;have hg:=WU c t;by_cases h10:t.length≤9
   ·by_cases hd:48≤c.toNat∧c.toNat≤57
    ·have hm:DG (c::t)=false:=by simp[DG,UInt8.le_iff_toNat_le,hd]
     rw[hm];clear hm;obtain⟨hd1,hd2⟩:=hd;exact O1
    ·have hm : DG (c :: t) = (c :: t).all F1 := by
      have e1:decide ((c::t).length≤10)=true:=Ag;have e2:(decide (48≤c)&&decide (c≤57))=false:=by
       rw[Bool.and_eq_false_iff,decide_eq_false_iff_not,decide_eq_false_iff_not,UInt8.le_iff_toNat_le,UInt8.le_iff_toNat_le];have:(48:UInt8).toNat=48:=rfl;have:(57:UInt8).toNat=57:=rfl;omega
      simp only[DG,e1,e2];rfl
     rw[hm,←vX];clear hm;have hc:c.toNat<48∨57<c.toNat:=Ab;rcases hc with hc|hc
     all_goals
      clear hd;go_enter func184,ntmps184;go_wp2_with fail;refine(strings_Trim ⟨(c::t).toArray⟩ ⟨nameSet.toArray⟩ _ Qq Ad (ascii_of_all Ad)).mono ?_;rintro e w1 ⟨rfl,hb⟩;have hgb:=gbB hb none;generalize hz:Lib.trimS (c::t) nameSet=z at*;have HZ:=Z hz;clear hz hb;go_wp2;go_ret;refine⟨?_,hgb⟩;rw[HZ.out];cases z<;>rfl
   ·have hm:DG (c::t)=false:=by simp[DG];omega
    rw[hm];clear hm;exact O1
theorem kF(s:Bs)(w:World)(hs:s.length≤1000000):Calls Tryz.prog 132 #[str s] w fun e w'=>e= .returned (.bool (DG s))∧w.grownBy w' none:=by
 go_enter func132,ntmps132;go_wp2_with fail;refine(lN s w hs).mono ?_;rintro e w1 ⟨rfl,hb⟩;go_wp2;go_ret;exact⟨rfl,hb⟩
theorem zO{l:List Tok}{i:Nat}(h:(Af l i).kind=0):i<l.length:=ID Ab
def AF(l:List Tok):Prop:=∀i,(Af l i).text.length≤4000
theorem C4{w:World}{b:Nat}{tv wv:Value}{l:List Tok}{wl:List Bs}{i:Nat}(h:Par w b tv wv l wl i)(hl:AF l):
 Calls Tryz.prog 98 #[.pointer (some ⟨b,0,none⟩)] w (Post b tv wv l wl w (fun _ v x=>v=str x) (AW l i)):=by
 have hb:=h.lt;have hf:=h.few;by_cases hk:(Af l i).kind=0
 ·have hi:=zO hk;have hs:=hl i;cases hn:DG (Af l i).text with
  | true=>
    have HM:=Z (show AW l i= .ok (Af l i).text (i+1)by simp[AW,hk,hn]);have fL{P}(h:P:=by have c1:=h2.c1;have f1:=h2.f1;have ct:w2.cell? ⟨w1.heap.size,2,none⟩=some (str (Af l i).text):=Am g2 Ae;have hlt:=g1.size;go_wp2;go_ret;exact Post.ok gw HM.out rfl (h2.goI _ _ Ab Ab)):=Aa h;exact YR
  | false=>
    have HM:=Z (show AW l i= .bad i by simp[AW,hn]);have fL{P}(h:P:=by go_wp2_with fail;refine(I1 h2.c1).mono ?_;rintro e w3 ⟨rfl,rfl⟩;exact⟨rfl,Post.bad gw HM.out⟩):=Aa h;exact YR
 ·have HM:=Z (show AW l i= .bad i by simp[AW,hk]);have hk':((Af l i).kind==0)=false:=BE;have hk2:((Af l i).kind !=0)=true:=BE;clear hk;go_enter func98,ntmps98;have He{P}(h:P:=by have h1:∀o,Par (w1.alloc o) b tv wv l wl i:=fun o=>(h.gbN g1).alloc o;go_wp2_with fail;refine(I1 (h1 _).c1).mono ?_;rintro e w3 ⟨rfl,rfl⟩;exact⟨rfl,Post.bad gw HM.out⟩):=Aa h;exact GZ
def Fine{α:Type}(o:Prop)(L i:Nat):Res α→Prop
 | .ok _ j=>i<j∧j≤L
 | .bad _=>True
 | .out=>¬o
theorem Fine.bind{α β:Type}{o:Prop}{L i:Nat}{r:Res α}{f:α→Nat→Res β}(h:Fine o L i r)(hf:∀a j,r= .ok a j→i<j→j≤L→Fine o L i (f a j)):Fine o L i (r.bind f):=by
 cases r with
 |ok a j=>exact hf a j rfl h.1 h.2
 |bad k=>trivial
 |out=>exact h
theorem Fine.mono{α:Type}{o:Prop}{L i i':Nat}{r:Res α}(h:Fine o L i' r)(hi:i≤i'):Fine o L i r:=by
 cases r with
 |ok a j=>exact⟨by have:=h.1;omega,h.2⟩
 |bad k=>trivial
 |out=>exact h
theorem Fine.weak{α:Type}{o o':Prop}{L i:Nat}{r:Res α}(h:Fine o' L i r)(ho:o→o'):Fine o L i r:=by
 cases r with
 |ok a j=>exact h
 |bad k=>trivial
 |out=>exact fun k=>h (ho k)
theorem Fine.bind'{α β:Type}{o:Prop}{L i i':Nat}{r:Res α}{f:α→Nat→Res β}(hi:i≤i')(h:Fine o L i' r)(hf:∀a j,r= .ok a j→i'<j→j≤L→Fine o L i (f a j)):Fine o L i (r.bind f):=by
 cases r with
 |ok a j=>exact hf a j rfl h.1 h.2
 |bad k=>trivial
 |out=>exact h
section
variable {l:List Tok}{o:Prop}{i:Nat}
theorem GK{j:Nat}(h:(Af l j).kind ≠ -1):j<l.length:=by
 by_cases hi:j<l.length
 ·exact hi
 ·exact absurd Xz h
theorem CG{j:Nat}{s:Bs}(h:Ak (Af l j) s=true):j<l.length:=by
 apply GK;simp[Ak]at h;omega
theorem PQ{j k:Nat}(h:(AO l k j).isEmpty≠true):j<l.length:=by
 apply GK;intro e;apply h;simp[AO,e]
theorem Jk(s:Bs)(q:Nat):Fine o l.length q (Br l s q):=by
 unfold Br;split
 ·rename_i h;exact⟨by omega,CG h⟩
 ·trivial
theorem WH(q:Nat):Fine o l.length q (BP l q):=by
 unfold BP;split
 ·rename_i h;exact⟨by omega,GK (by simp at h;omega)⟩
 ·trivial
theorem Ho(q:Nat):Fine o l.length q (AW l q):=by
 unfold AW;split
 ·rename_i h;exact⟨by omega,GK (by simp at h;omega)⟩
 ·trivial
theorem lM{k:Nat}{opnd:Nat→Res Ex}(h:∀q,i≤q→Fine o l.length q (opnd q)):∀n x j,i<j→j≤l.length→(o→l.length-j+1≤n)→Fine o l.length i (E1 l k opnd n x j):=by
 intro n;induction n with
 |zero=>intro x j h1 h2 h3 ho;have:=h3 ho;omega
 | succ n ih=>
   intro x j h1 h2 h3;unfold E1;split
   ·exact⟨h1,h2⟩
   ·rename_i he;have:=PQ he;refine Fine.bind' (i':=j+1) Ab (h _ Ab) fun y q _ hq hl=>ih _ _ Ab hl fun ho=>by have:=h3 ho;omega
theorem Mm{k n:Nat}{opnd:Nat→Res Ex}(h:∀q,i≤q→Fine o l.length q (opnd q))(hn:o→l.length-i≤n):∀q,i≤q→Fine o l.length q (B0 l k n opnd q):=by
 intro q hq;exact Fine.bind (h q hq) fun x j _ hj hl=>(lM (i:=q) (fun p hp=>h p Ab) n x j hj hl fun ho=>by have:=hn ho;omega)
theorem vT{n:Nat}{pow:Nat→Res Ex}(h:∀q,i≤q→Fine o l.length q (pow q))(hn:o→l.length-i≤n):∀q,i≤q→Fine o l.length q (sumM l n pow q):=
 Mm (Mm h hn) hn
theorem tX{un:Nat→Res Ex}(h:∀q,i≤q→Fine o l.length q (un q)):∀n q,i≤q→(o→l.length-q+1≤n)→Fine o l.length q (DS l un n q):=by
 intro n;induction n with
 |zero=>intro q hq hn ho;have:=hn ho;omega
 | succ n ih=>
   intro q hq hn;unfold DS;refine Fine.bind (h q hq) fun x j _ hj hl=>?_;split
   ·exact⟨hj,hl⟩
   ·rename_i he;have:=PQ he;exact Fine.bind' (i':=j+1) Ab (ih _ Ab fun ho=>by have:=hn ho;omega) fun y k _ hk hl=>⟨by omega,hl⟩
theorem tS{sum:Nat→Res Ex}(h:∀q,i≤q→Fine o l.length q (sum q)):∀n q,i≤q→(o→l.length-q+1≤n)→Fine o l.length q (CQ l sum n q):=by
 intro n;induction n with
 |zero=>intro q hq hn ho;have:=hn ho;omega
 | succ n ih=>
   intro q hq hn;unfold CQ;split
   ·rename_i hs;have hlt:q<l.length:=by
     rw[Bool.or_eq_true]at hs;rcases hs with h|h
     ·exact CG h
     ·exact CG h
    exact TR
   ·refine Fine.bind (h q hq) fun x j _ hj hl=>?_;split
    ·exact⟨hj,hl⟩
    ·rename_i he;have:=PQ he;exact Fine.bind' (i':=j+1) Ab (h _ Ab) fun y k _ hk hl=>⟨by omega,hl⟩
theorem mO{E:Nat→Res Ex}(h:i<l.length→∀q,i<q→Fine o l.length q (E q)):∀n x j,i<j→j≤l.length→(o→l.length-j+1≤n)→Fine o l.length i (DF l E n x j):=by
 intro n;induction n with
 |zero=>intro x j h1 h2 h3 ho;have:=h3 ho;omega
 | succ n ih=>
   intro x j h1 h2 h3;unfold DF;split
   ·rename_i hs;have:=CG hs;refine Fine.bind' (i':=j+1) Ab (h Ab _ Ab) fun y q _ hq hl=>?_;refine Fine.bind' (i':=q) Ab (Jk _ _) fun _ k _ hk hl=>ih _ _ Ab hl fun ho=>by have:=h3 ho;omega
   ·exact⟨h1,h2⟩
theorem o0{E prim:Nat→Res Ex}(hE:i<l.length→∀q,i<q→Fine o l.length q (E q))(hP:∀q,i≤q→Fine o l.length q (prim q)):∀n q,i≤q→(o→l.length-q+1≤n)→Fine o l.length q (DL l E prim n q):=by
 intro n;induction n with
 |zero=>intro q hq hn ho;have:=hn ho;omega
 | succ n ih=>
   intro q hq hn;unfold DL;split
   ·rename_i hs;have:=CG hs;exact TR
   ·refine Fine.bind (hP q hq) fun x j _ hj hl=>?_;exact mO (i:=q) (fun _ p hp=>hE Ab p Ab) n x j hj hl fun ho=>by have:=hn ho;omega
theorem lO{E:Nat→Res Ex}(h:∀q,i<q→Fine o l.length q (E q)):∀n f j,i<j→j≤l.length→(o→l.length-j+1≤n)→Fine o l.length i (E3 l E n f j):=by
 intro n;induction n with
 |zero=>intro x j h1 h2 h3 ho;have:=h3 ho;omega
 | succ n ih=>
   intro x j h1 h2 h3;unfold E3;split
   ·rename_i hs;have:=CG hs;refine Fine.bind' (i':=j+1) Ab (h _ Ab) fun y q _ hq hl=>ih _ _ Ab hl fun ho=>by have:=h3 ho;omega
   ·exact⟨h1,h2⟩
theorem Pe{E:Nat→Res Ex}{n:Nat}(h:∀q,i≤q→Fine o l.length q (E q))(hn:o→l.length-i≤n):Fine o l.length i (D1 l E n i):=by
 refine Fine.bind (h i (Nat.le_refl _)) fun x j _ hj hl=>lO (fun q hq=>h q Ab) n _ j hj hl fun ho=>by have:=hn ho;omega
theorem kM:∀n f j,i<j→j≤l.length→(o→l.length-j+1≤n)→Fine o l.length i (E5 l n f j):=by
 intro n;induction n with
 |zero=>intro x j h1 h2 h3 ho;have:=h3 ho;omega
 | succ n ih=>
   intro x j h1 h2 h3;unfold E5;split
   ·rename_i hs;have:=CG hs;refine Fine.bind' (i':=j+1) Ab (Ho _) fun y q _ hq hl=>ih _ _ Ab hl fun ho=>by have:=h3 ho;omega
   ·exact⟨h1,h2⟩
theorem UI{n:Nat}(hn:o→l.length-i≤n):Fine o l.length i (Eh l n i):=
 Fine.bind (Ho _) fun x j _ hj hl=>kM n _ j hj hl fun ho=>by have:=hn ho;omega
theorem p3{E:Nat→Res Ex}{n:Nat}(hE:i<l.length→∀q,i<q→Fine o l.length q (E q))(hn:o→l.length-i≤n):Fine o l.length i (FK l E n i):=by
 unfold FK;refine Fine.bind (Ho _) fun s j _ hj hl=>Fine.bind' (i':=j) Ab (Jk _ _) fun _ k _ hk hl2=>?_;split
 ·exact Ks
 ·refine Fine.bind' (i':=k) Ab (Pe (fun q hq=>hE Ab q Ab) fun ho=>by have:=hn ho;omega) fun f p _ hp hl3=>?_;exact Kd
theorem UG{E:Nat→Res Ex}(hE:i<l.length→∀q,i<q→Fine o l.length q (E q)):Fine o l.length i (EW l E i):=by
 unfold EW;refine Fine.bind (Jk _ _) fun s j _ hj hl=>?_;split
 ·rename_i hs;have:=CG hs;refine Fine.bind' (i':=j+1) Ab (hE Ab _ Ab) fun f p _ hp hl3=>?_;exact Kd
 ·refine Fine.bind' (i':=j) Ab (Ho _) fun s p _ hp hl3=>?_;split
  ·exact Ks
  ·exact⟨by omega,hl3⟩
theorem mI{E:Nat→Res Ex}{n:Nat}(hE:∀q,i≤q→Fine o l.length q (E q))(hn:o→l.length-i≤n):Fine o l.length i (Gi l E n i):=by
 unfold Gi;split
 ·rename_i hs;have hi:=CG hs;have h1:Fine o l.length (i+1) (if Ak (Af l (i+1)) [124]then(.ok [] (i+2):Res (List Bs))else(Eh l n (i+1)).bind fun p j=>(Br l [124] j).bind fun _ j=> .ok p j):=by
   split
   ·rename_i hs2;have:=CG hs2;exact⟨by omega,this⟩
   ·refine Fine.bind (UI fun ho=>by have:=hn ho;omega) fun p j _ hj hl=>?_;exact Fine.bind' (i':=j) Ab (Jk _ _) fun _ k _ hk hl2=>⟨by omega,hl2⟩
  refine Fine.bind' (i':=i+1) Ab h1 fun p j _ hj hl=>?_;refine Fine.bind' (i':=j) Ab (hE _ Ab) fun f p _ hp hl3=>?_;exact Kd
 ·refine Fine.bind (Pe hE hn) fun f p _ hp hl3=>?_;exact Kd
theorem nS{E:Nat→Res Ex}{n:Nat}(hE:i<l.length→∀q,i<q→Fine o l.length q (E q))(hn:o→l.length-i≤n):Fine o l.length i (ES l E n i):=by
 unfold ES;split
 ·exact UG hE
 split
 ·exact Ks
 split
 ·exact Ks
 split
 ·exact Ks
 split
 ·rename_i hs;have:=CG hs;refine Fine.bind' (i':=i+1) Ab (hE Ab _ Ab) fun f p _ hp hl3=>?_;exact Kd
 split
 ·rename_i hs;have:=CG hs;exact Fine.bind' (i':=i+1) Ab (Ho _) fun s p _ hp hl3=>⟨by omega,hl3⟩
 split
 ·rename_i hs;have:=CG hs;exact(mI (i:=i+1) (fun q hq=>hE Ab q Ab) fun ho=>by have:=hn ho;omega).mono Ab
 ·trivial
theorem o8{E:Nat→Res Ex}{n:Nat}(hE:i<l.length→∀q,i<q→Fine o l.length q (E q))(hn:o→l.length-i≤n):Fine o l.length i (Gl l E n i):=by
 unfold Gl;split
 ·exact p3 hE hn
 refine Fine.bind (Ho _) fun s j _ hj hl=>?_;split
 ·rename_i hs;have:=CG hs;split
  ·rename_i hs;have:=CG hs;refine Fine.bind' (i':=j+2) Ab (hE Ab _ Ab) fun f p _ hp hl3=>?_;exact Kd
  ·exact Fine.bind' (i':=j+1) Ab (Ho _) fun s p _ hp hl3=>⟨by omega,hl3⟩
 ·exact⟨hj,hl⟩
theorem qI{day:Bs→Int}{E:Nat→Res Ex}{n:Nat}(hE:i<l.length→∀q,i<q→Fine o l.length q (E q))(hn:o→l.length-i≤n):Fine o l.length i (Fc l day E n i):=by
 unfold Fc;have hk:∀k:Int,((Af l i).kind==k)=true→k ≠ -1→i<l.length:=fun k h1 h2=>GK (by simp at h1;omega);split
 ·rename_i h;exact⟨by omega,hk 1 h Ad⟩
 split
 ·rename_i h;split
  ·trivial
  ·exact⟨by omega,hk 2 h Ad⟩
 split
 ·rename_i h;exact⟨by omega,hk 3 h Ad⟩
 split
 ·exact o8 hE hn
 ·exact nS hE hn
theorem K5(day:Bs→Int):∀n q,Fine (l.length-q+2≤n) l.length q (Aw l day n q):=by
 intro n;induction n with
 |zero=>intro q ho;omega
 | succ n ih=>
   intro q;have hE:q<l.length→∀p,q<p→Fine (l.length-q+2≤n+1) l.length p (Aw l day n p):=fun hq p hp=>(ih p).weak fun ho=>by omega
   have hn:(l.length-q+2≤n+1)→l.length-q≤n:=fun h=>by omega
   have h1:∀p,q≤p→Fine (l.length-q+2≤n+1) l.length p (Fc l day (Aw l day n) n p):=fun p hp=>qI (fun h r hr=>hE Ab r Ab) fun ho=>by have:=hn ho;omega
   have h2:∀p,q≤p→Fine (l.length-q+2≤n+1) l.length p (DL l (Aw l day n) (Fc l day (Aw l day n) n) n p):=fun p hp=>o0 hE h1 n p hp fun ho=>by omega
   have h3:=fun p (hp:q≤p)=>tX h2 n p hp fun ho=>by omega
   have h4:=vT (n:=n) h3 hn;have h5:=fun p (hp:q≤p)=>tS h4 n p hp fun ho=>by omega
   unfold Aw;exact Mm (Mm h5 hn) hn q (Nat.le_refl _)
end
end Go.Proofs.YtmcajbhljbbglaaGreatDoor
