/-
  Plain laws: a source and its tokens. The lexer of the program and that of the reference both answer as 'lexM'. The lexer's scanner in memory; is, skip, lineEnd.
-/
import Derived.Test.YtgjdhajcnechdaaGreatDoorSv10
import Derived.Lib.Case
import Derived.Test.YtgjdhajcnechdaaGreatDoorSv05
import Derived.Test.YtgjdhajcnechdaaGreatDoorPlain
set_option linter.all false
set_option maxRecDepth 100000
set_option maxHeartbeats 8000000
namespace Go.Proofs.YtgjdhajcnechdaaGreatDoor
open Go.Proofs.Tryz
def BA(b:Nat):Int:=
 if b=9∨b=32 then 3 else if b=95∨(97≤b∧b≤122)∨(65≤b∧b≤90)then 1 else if 48≤b∧b≤57 then 2 else if b≠10∧(b<32∨126<b)then 4 else 0
def cls(c:Int)(b:UInt8):Bool:=BA b.toNat==c
def Bb(b:UInt8):Bool:=cls 1 b||cls 2 b
def bAt(s:Bs)(i:Nat):UInt8:=(s[i]?).getD 0
theorem CZ{s:Bs}{i:Nat}(h:i<s.length):bAt s i=s[i]:=by simp[bAt,h]
def Ao(s:Bs)(p:UInt8→Bool)(i:Nat):Nat:=i+((s.drop i).takeWhile p).length
theorem Fa{s:Bs}{i:Nat}(h:i<s.length):s.drop i=bAt s i::s.drop (i+1):=by rw[CZ h];exact List.drop_eq_getElem_cons h
theorem CC{s:Bs}{p:UInt8→Bool}{i:Nat}(h:s.length≤i):Ao s p i=i:=by simp[Ao,List.drop_eq_nil_of_le h]
theorem Cz{s:Bs}{p:UInt8→Bool}{i:Nat}(h:i<s.length)(hp:p (bAt s i)=false):Ao s p i=i:=by
 simp[Ao,Fa h,hp]
theorem BO{s:Bs}{p:UInt8→Bool}{i:Nat}(h:i<s.length)(hp:p (bAt s i)=true):Ao s p i=Ao s p (i+1):=by
 simp[Ao,Fa h,hp];omega
theorem Bz(s:Bs)(p:UInt8→Bool)(i:Nat):i≤Ao s p i:=Nat.le_add_right _ _
theorem BV{s:Bs}{p:UInt8→Bool}{i:Nat}(h:i≤s.length):Ao s p i≤s.length:=by
 have h1:((s.drop i).takeWhile p).length≤(s.drop i).length:=(List.takeWhile_sublist p).length_le;simp at h1;unfold Ao;omega
theorem GC{s:Bs}{p:UInt8→Bool}{i:Nat}(h:Ao s p i<s.length):p (bAt s (Ao s p i))=false:=by
 induction hn:s.length-i generalizing i with
 |zero=>have:=Bz s p i;omega
 | succ n ih=>
   have hi:i<s.length:=by omega
   cases hp:p (bAt s i)with
   |false=>rw[Cz hi hp];exact hp
   | true=>
     rw[BO hi hp]at h ⊢;exact ih h (by omega)
theorem Fv{s:Bs}{p:UInt8→Bool}{i j:Nat}(h1:i≤j)(h2:j<Ao s p i):j<s.length∧p (bAt s j)=true:=by
 induction hn:s.length-i generalizing i with
 |zero=>rw[CC (by omega)]at h2;omega
 | succ n ih=>
   have hi:i<s.length:=by omega
   cases hp:p (bAt s i)with
   |false=>rw[Cz hi hp]at h2;omega
   | true=>
     by_cases e:i=j
     ·subst e;exact⟨hi,hp⟩
     ·rw[BO hi hp]at h2;exact ih (by omega) h2 (by omega)
theorem IE{s:Bs}{p q:UInt8→Bool}(h:∀b,p b=true→q b=true)(i:Nat):Ao s p i≤Ao s q i:=by
 induction hn:s.length-i generalizing i with
 |zero=>rw[CC (by omega),CC (by omega)];exact Nat.le_refl _
 | succ n ih=>
   have hi:i<s.length:=by omega
   cases hp:p (bAt s i)with
   |false=>rw[Cz hi hp];exact Bz _ _ _
   | true=>
     rw[BO hi hp,BO hi (h _ hp)];exact ih _ (by omega)
def A9(s:Bs)(i j:Nat):Bs:=(s.drop i).take (j-i)
theorem Dv{s:Bs}{i j:Nat}(h1:i≤j)(h2:j≤s.length):(A9 s i j).length=j-i:=by simp[A9];omega
theorem Pd{s:Bs}{i j k:Nat}(h:k<j-i):(A9 s i j)[k]? =s[i+k]?:=by
 simp[A9,h]
def AP(s:Bs)(i:Nat):Nat:=Ao s (cls 3) i
def An(s:Bs)(i:Nat):Nat:=Ao s (fun b=>b !=10) i
def DK(s:Bs)(i:Nat):Nat:=Ao s (fun b=>b !=10&&!cls 4 b) i
theorem PQ(s:Bs)(i:Nat):DK s i≤An s i:=IE (by intro b hb;simp at hb ⊢;exact hb.1) i
def Dy(s:Bs)(i:Nat):Bool:=[38,38].isPrefixOf (s.drop i)
def signsL:List Bs:=[[46,78,85,76,76,46],[46,65,78,68,46],[46,78,79,84,46],[46,79,82,46],[46,84,46],[46,70,46],[58,61],[61,61],[60,62],[33,61],[60,61],[62,61],[45,62],[40],[41],[91],[93],[123],[125],[44],[124],[58],[46],[61],[35],[60],[62],[43],[45],[42],[47],[37],[94],[36],[38],[63],[64],[33]]
def Cw(s:Bs)(i:Nat)(w:Bs):Bool:=decide (i+w.length≤s.length)&&Lib.toUpperA (A9 s i (i+w.length))==w
def De(s:Bs)(i:Nat):Option Bs:=signsL.find? (Cw s i)
def CJ(t:Bs):Bs:=A9 t 2 6++A9 t 7 9++A9 t 10 12
def CU(t:Bs):Bool:=decide (13≤t.length)&&t.take 2==[123,94]&&bAt t 6==45&&bAt t 9==45&&bAt t 12==125
def BD(t:Bs):Option (Bs×Nat):=
 if [123,125].isPrefixOf t then some ([],2)
 else if CU t then(if(Bj (CJ t)).2&&CJ t !=CT then some (CJ t,13)else none)
 else none
inductive St where
 |tok (t:Tok) (at':Nat) (line:Bool)
 |again (at':Nat) (line:Bool)
 |stop
 |bad (k:Nat)
def Db(s:Bs)(i:Nat):St:=
 let q:=Ao s (fun b=>b !=10&&b !=bAt s i) (i+1)
 if q<s.length∧bAt s q≠10 then
  (if Ao (A9 s (i+1) q) (fun b=>!cls 4 b) 0<q-(i+1)then .bad (i+1+Ao (A9 s (i+1) q) (fun b=>!cls 4 b) 0)else .tok ⟨2,i,A9 s (i+1) q⟩ (q+1) true)
 else .bad i
def B3(s:Bs)(i:Nat):St:=
 if cls 1 (bAt s i)then(if 24<Ao s Bb i-i then .bad i else .tok ⟨0,i,Lib.toUpperA (A9 s i (Ao s Bb i))⟩ (Ao s Bb i) true)
 else if cls 2 (bAt s i)then(if 15<Ao s (cls 2) i-i then .bad i else .tok ⟨1,i,A9 s i (Ao s (cls 2) i)⟩ (Ao s (cls 2) i) true)
 else if bAt s i=34∨bAt s i=39 then Db s i
 else match BD (s.drop i)with
  |some (d,n)=> .tok ⟨3,i,d⟩ (i+n) true
  | none=>match De s i with
    |some w=> .tok ⟨4,i,w⟩ (i+w.length) true
    |none=> .bad i
def Bp(s:Bs)(i:Nat):Option Nat:=if DK s i<An s i then some (DK s i)else none
def B0(s:Bs)(i:Nat):Nat:=if An s i<s.length then An s i+1 else An s i
def BT(s:Bs)(k:Nat):Bool:=decide (s.length≤k)||bAt s k==10||Dy s k
def BM(s:Bs)(i:Nat)(line:Bool):St:=
 if s.length≤i then(if line then .tok ⟨5,i,[]⟩ i false else .stop)
 else if bAt s i=10 then(if line then .tok ⟨5,i,[]⟩ (i+1) false else .again (i+1) false)
 else if cls 3 (bAt s i)then .again (i+1) line
 else if(bAt s i==42&&!line)||Dy s i then
  match Bp s i with
  |some k=> .bad k
  |none=> .again (An s i) line
 else if bAt s i=59 then
  (if BT s (AP s (i+1))then
   match Bp s (AP s (i+1))with
   |some k=> .bad k
   |none=> .again (B0 s (AP s (i+1))) line
  else .bad i)
 else B3 s i
inductive NR where
 |tok (t:Tok) (at':Nat) (line:Bool) (n:Nat)
 |stop
 |bad (k:Nat)
 |out
def AI(s:Bs):Nat→Nat→Bool→NR
 | 0,_,_=> .out
 | n+1,i,line=>match BM s i line with
   | .tok t j l=> .tok t j l n
   | .again j l=>AI s n j l
   | .stop=> .stop
   | .bad k=> .bad k
inductive LexR where
 |ok (l:List Tok)
 |bad (k:Nat)
 |out
def LexR.cons(t:Tok):LexR→LexR
 | .ok l=> .ok (t::l)
 | .bad k=> .bad k
 | .out=> .out
def LexR.pre(p:List Tok):LexR→LexR
 | .ok l=> .ok (p++l)
 | .bad k=> .bad k
 | .out=> .out
theorem LexR.pre_nil(r:LexR):r.pre []=r:=by cases r<;>rfl
theorem LexR.pre_cons(p:List Tok)(t:Tok)(r:LexR):(r.cons t).pre p=r.pre (p++[t]):=by cases r<;>simp[LexR.cons,LexR.pre]
def BR(s:Bs):Nat→Nat→Bool→LexR
 | 0,_,_=> .out
 | n+1,i,line=>match BM s i line with
   | .tok t j l=>(BR s n j l).cons t
   | .again j l=>BR s n j l
   | .stop=> .ok []
   | .bad k=> .bad k
theorem FO(s:Bs):∀n i line,BR s n i line=match AI s n i line with
 | .tok t j l m=>(BR s m j l).cons t
 | .stop=> .ok []
 | .bad k=> .bad k
 | .out=> .out:=by
 intro n;induction n with
 |zero=>intro i line;rfl
 | succ n ih=>
   intro i line;rw[BR,AI];cases BM s i line with
   |tok t j l=>rfl
   |again j l=>exact ih j l
   |stop=>rfl
   |bad k=>rfl
theorem Iv{t:Bs}{d:Bs}{n:Nat}(h:BD t=some (d,n)):2≤n∧n≤t.length:=by
 unfold BD at h;split at h
 ·rename_i h1;have:=(List.isPrefixOf_iff_prefix.1 h1).length_le;simp at h this;omega
 ·split at h
  ·rename_i h2;simp[CU]at h2;split at h
   ·simp at h;omega
   ·simp at h
  ·simp at h
theorem Ge{w:Bs}(h:w∈signsL):1≤w.length∧w.length≤6:=by
 have:signsL.all (fun w=>decide (1≤w.length)&&decide (w.length≤6))=true:=by decide
 have:=List.all_eq_true.1 this w h;simpa using this
theorem II{s:Bs}{i:Nat}{w:Bs}(h:De s i=some w):w∈signsL∧i+w.length≤s.length∧Lib.toUpperA (A9 s i (i+w.length))=w:=by
 have h1:=List.mem_of_find?_eq_some h;have h2:=List.find?_some h;simp[Cw]at h2;exact⟨h1,h2.1,h2.2⟩
theorem Mt{s:Bs}{i:Nat}(h:i<s.length)(h10:bAt s i≠10):i<An s i:=by
 unfold An;rw[BO h (by simpa using h10)];exact Bz _ _ _
theorem LS(s:Bs)(i:Nat):i≤B0 s i:=by
 unfold B0;have:=Bz s (fun b=>b !=10) i;change i≤An s i at this;split<;>omega
theorem LT{s:Bs}{i:Nat}(h:i≤s.length):B0 s i≤s.length:=by
 unfold B0;have:An s i≤s.length:=BV h;split<;>omega
def GS(s:Bs)(i:Nat)(line:Bool):St→Prop
 | .tok _ j l=>i≤j∧j≤s.length∧2*(s.length-j)+l.toNat<2*(s.length-i)+line.toNat
 | .again j l=>i<j∧j≤s.length∧2*(s.length-j)+l.toNat<2*(s.length-i)+line.toNat
 | .stop=>i=s.length∧line=false
 | .bad k=>k<s.length
theorem LX{s:Bs}{i:Nat}{line:Bool}(h:i<s.length):GS s i line (Db s i):=by
 unfold Db;have h1:=Bz s (fun b=>b !=10&&b !=bAt s i) (i+1);simp only[];split
 ·rename_i h2;split
  ·rename_i h3;show _<s.length;omega
  ·refine⟨by omega,by omega,?_⟩;simp only[Bool.toNat_true];omega
 ·exact h
theorem L7{s:Bs}{i:Nat}{line:Bool}(h:i<s.length):GS s i line (B3 s i):=by
 unfold B3;split
 ·rename_i h1;have h2:=BO (p:=Bb) h (by simp[Bb,h1]);have h3:=Bz s Bb (i+1);have h4:=BV (p:=Bb) (Nat.le_of_lt h);split
  ·exact h
  ·refine⟨by omega,by omega,?_⟩;simp only[Bool.toNat_true];omega
 ·split
  ·rename_i h1;have h2:=BO (p:=cls 2) h h1;have h3:=Bz s (cls 2) (i+1);have h4:=BV (p:=cls 2) (Nat.le_of_lt h);split
   ·exact h
   ·refine⟨by omega,by omega,?_⟩;simp only[Bool.toNat_true];omega
  ·split
   ·exact LX h
   ·cases hd:BD (s.drop i)with
    | some p=>
      obtain⟨d,n⟩:=p;have:=Iv hd;simp at this;refine⟨by omega,by omega,?_⟩;simp only[Bool.toNat_true];omega
    | none=>
      cases hs:De s i with
      |none=>exact h
      | some w=>
        obtain⟨h1,h2,_⟩:=II hs;have:=Ge h1;refine⟨by omega,by omega,?_⟩;simp only[Bool.toNat_true];omega
theorem Hs{s:Bs}{i k:Nat}(h:i≤s.length)(hc:Bp s i=some k):k<s.length:=by
 unfold Bp at hc;have:An s i≤s.length:=BV h;split at hc
 ·simp at hc;omega
 ·simp at hc
theorem Ky(s:Bs){i:Nat}(line:Bool)(h:i≤s.length):GS s i line (BM s i line):=by
 unfold BM;split
 ·have e:i=s.length:=by omega
  cases line with
  |true=>exact⟨by omega,by omega,by simp⟩
  |false=>exact⟨e,rfl⟩
 ·rename_i hi;split
  ·cases line with
   |true=>exact⟨by omega,by omega,by simp;omega⟩
   |false=>exact⟨by omega,by omega,by simp;omega⟩
  ·rename_i h10;split
   ·exact⟨by omega,by omega,by omega⟩
   ·split
    ·cases hc:Bp s i with
     |some k=>exact Hs h hc
     | none=>
       have h1:=Mt (by omega) h10;have h2:An s i≤s.length:=BV h;exact⟨by omega,by omega,by omega⟩
    ·split
     ·have h1:i+1≤AP s (i+1):=Bz _ _ _;have h2:AP s (i+1)≤s.length:=BV (by omega);split
      ·cases hc:Bp s (AP s (i+1))with
       |some k=>exact Hs h2 hc
       | none=>
         have h3:=LS s (AP s (i+1));have h4:=LT h2;exact⟨by omega,by omega,by omega⟩
      ·show _<_;omega
     ·exact L7 (by omega)
theorem M6(s:Bs):∀n i line,i≤s.length→2*(s.length-i)+line.toNat<n→match AI s n i line with
 | .tok _ j l m=>j≤s.length∧2*(s.length-j)+l.toNat<m
 | .stop=>True
 | .bad k=>k<s.length
 | .out=>False:=by
 intro n;induction n with
 |zero=>intro i line _ h;omega
 | succ n ih=>
   intro i line hi hn;have hg:=Ky s line hi;unfold AI;cases hs:BM s i line with
   |tok t j l=>rw[hs]at hg;exact⟨hg.2.1,by have:=hg.2.2;omega⟩
   |again j l=>rw[hs]at hg;exact ih j l hg.2.1 (by have:=hg.2.2;omega)
   |stop=>trivial
   |bad k=>rw[hs]at hg;exact hg
open Go.RowKit
def AD(k:Nat):List Value:=(List.range 256).map fun j=> .int .u8 (if j<k then BA j else 0)
theorem EY(k j:Nat)(hj:j<256):(AD k)[j]? =some (.int .u8 (if j<k then BA j else 0)):=by simp[AD,hj]
theorem Ee(k:Nat):(AD k).length=256:=by simp[AD]
def Dd(s:Bs)(i:Int)(line begun:Bool)(bad:Int):List Value:=str s :: .int .i64 i::(AD 256++[.bool line,.bool begun,.int .i64 bad])
theorem Lx(s:Bs)(i:Int)(line begun:Bool)(bad:Int)(j:Nat)(hj:j<256):(Dd s i line begun bad)[2+j]? =some (.int .u8 (BA j)):=by
 rw[show 2+j=j+1+1 by omega];simp only[Dd,List.getElem?_cons_succ];rw[List.getElem?_append_left (by rw[Ee];exact hj),EY _ _ hj];simp[hj]
theorem Gw(s:Bs)(i:Int)(line begun:Bool)(bad:Int)(j:Nat):(Dd s i line begun bad)[258+j]? =[.bool line,.bool begun,.int .i64 bad][j]?:=by
 rw[show 258+j=256+j+1+1 by omega];simp only[Dd,List.getElem?_cons_succ];rw[List.getElem?_append_right (by rw[Ee];omega),Ee,show 256+j-256=j by omega]
theorem Ny(s:Bs)(i j:Int)(line begun:Bool)(bad:Int):(Dd s i line begun bad).set 1 (.int .i64 j)=Dd s j line begun bad:=rfl
theorem FD(s:Bs)(i:Int)(line begun:Bool)(bad:Int)(j:Nat)(v:Value):(Dd s i line begun bad).set (258+j) v=str s :: .int .i64 i::(AD 256++[.bool line,.bool begun,.int .i64 bad].set j v):=by
 rw[show 258+j=256+j+1+1 by omega];simp only[Dd,List.set_cons_succ];rw[List.set_append_right _ _ (by rw[Ee];omega),Ee,show 256+j-256=j by omega]
structure Sc(w:World)(b:Nat)(s:Bs)(i:Nat)(line begun:Bool)(bad:Int):Prop where
 blk:Blk w b (Dd s i line begun bad) 102
 le:i≤s.length
 few:s.length≤4000
section
variable {w w1:World}{b:Nat}{s:Bs}{i:Nat}{line begun:Bool}{bad:Int}
theorem Sc.lt(h:Sc w b s i line begun bad):b<w.heap.size:=h.blk.lt
theorem Sc.c0(h:Sc w b s i line begun bad):w.cell? ⟨b,0,none⟩=some (str s):=h.blk.cell 0
theorem Sc.c1(h:Sc w b s i line begun bad):w.cell? ⟨b,1,none⟩=some (.int .i64 i):=h.blk.cell 1
theorem Sc.cls(h:Sc w b s i line begun bad)(x:UInt8):w.cell? ⟨b,2+x.toNat,none⟩=some (.int .u8 (BA x.toNat)):=(h.blk.cell _).trans (Lx _ _ _ _ _ _ x.toNat_lt)
theorem Sc.c258(h:Sc w b s i line begun bad):w.cell? ⟨b,258,none⟩=some (.bool line):=(h.blk.cell _).trans (Gw _ _ _ _ _ 0)
theorem Sc.c259(h:Sc w b s i line begun bad):w.cell? ⟨b,259,none⟩=some (.bool begun):=(h.blk.cell _).trans (Gw _ _ _ _ _ 1)
theorem Sc.c260(h:Sc w b s i line begun bad):w.cell? ⟨b,260,none⟩=some (.int .i64 bad):=(h.blk.cell _).trans (Gw _ _ _ _ _ 2)
theorem Sc.fr(h:Sc w b s i line begun bad)(k:Nat):w.frozen? ⟨b,k,none⟩=false:=h.blk.frozen k
theorem Sc.gb{r:Option Nat}(h:Sc w b s i line begun bad)(g:w.grownBy w1 r)(hr:some b≠r):Sc w1 b s i line begun bad:=⟨h.blk.gb g hr,h.le,h.few⟩
theorem Sc.gbN(h:Sc w b s i line begun bad)(g:w.grownBy w1 none):Sc w1 b s i line begun bad:=h.gb g (by simp)
theorem Sc.alloc(h:Sc w b s i line begun bad)(o:Obj):Sc (w.alloc o) b s i line begun bad:=h.gbN (World.grownBy_alloc w o none)
theorem Sc.drewN(h:Sc w b s i line begun bad)(n:Nat):Sc (w.drewN n) b s i line begun bad:=h.gbN (A3 (Ac w none) n)
theorem Sc.go(h:Sc w b s i line begun bad)(z:Int)(j:Nat)(hz:z=j)(hj:j≤s.length):Sc (w.setCell ⟨b,1,none⟩ (.int .i64 z)) b s j line begun bad:=by
 subst hz;exact⟨(h.blk.set 1 _).of_eq rfl (Ny _ _ _ _ _ _),hj,h.few⟩
theorem Sc.at_eq{j:Nat}(h:Sc w b s i line begun bad)(e:i=j):Sc w b s j line begun bad:=e ▸ h
theorem Sc.setLine(h:Sc w b s i line begun bad)(l:Bool):Sc (w.setCell ⟨b,258,none⟩ (.bool l)) b s i l begun bad:=⟨(h.blk.set 258 _).of_eq rfl (FD _ _ _ _ _ 0 _),h.le,h.few⟩
theorem Sc.setBegun(h:Sc w b s i line begun bad)(l:Bool):Sc (w.setCell ⟨b,259,none⟩ (.bool l)) b s i line l bad:=⟨(h.blk.set 259 _).of_eq rfl (FD _ _ _ _ _ 1 _),h.le,h.few⟩
theorem Sc.setBad(h:Sc w b s i line begun bad)(k:Int):Sc (w.setCell ⟨b,260,none⟩ (.int .i64 k)) b s i line begun k:=⟨(h.blk.set 260 _).of_eq rfl (FD _ _ _ _ _ 2 _),h.le,h.few⟩
theorem Sc.set_other(h:Sc w b s i line begun bad)(a:Addr)(v:Value)(hne:b≠a.block):Sc (w.setCell a v) b s i line begun bad:=⟨h.blk.set_other a v hne,h.le,h.few⟩
end
theorem Cr(s:Bs)(k:Nat)(h:k<(⟨s.toArray⟩:ByteArray).size)(h2:k<s.length):(⟨s.toArray⟩:ByteArray)[k]'h=bAt s k:=by rw[CZ h2];rfl
theorem J9(x:UInt8):x.toNat<256:=x.toNat_lt
theorem RO{w:World}{b:Nat}{s:Bs}{i:Nat}{line begun:Bool}{bad:Int}(h:Sc w b s i line begun bad)(k:Nat)(c:Int):
 Calls Tryz.prog 194 #[.pointer (some ⟨b,0,none⟩),.int .i64 k,.int .u8 c] w fun e w'=>e= .returned (.bool (decide (k<s.length)&&(BA (bAt s k).toNat==c)))∧w.grownBy w' none:=by
 have c0:=h.c0;have hb:=h.lt;have hf:=h.few;by_cases hk:k<s.length
 ·have cc:=h.cls (bAt s k);have hg:=fun h=>Cr s k h hk;have hx:=J9 (bAt s k);generalize bAt s k=x at*;have hk1:decide ((k:Int)<s.length)=true:=by simp;omega
  generalize hn:s.length=n at*;clear h;go_enter func194,ntmps194;go_wp2;go_quiet(fail);go_wp2;go_ret;exact⟨by simp[hk],(by repeat(first| (with_reducible exact Ac _ _)| (with_reducible assumption)| (with_reducible exact AU (by assumption))| (with_reducible refine Ad ?_ _)| (with_reducible refine Am ?_)| (with_reducible refine A3 ?_ _)| ((with_reducible refine Ay ?_ _ _ ?h2);case h2=>first|exact .inl rfl|exact .inr (Nat.le_refl _)|exact .inr (by simp<;>omega))| (with_reducible refine Ah ?_ (by assumption))| (with_reducible refine Aa ?_ (by assumption))))⟩
 ·have hk1:decide ((k:Int)<s.length)=false:=by simp;omega
  generalize hn:s.length=n at*;clear h;go_enter func194,ntmps194;go_wp2;go_quiet(fail);go_wp2;go_ret;exact⟨by simp[hk],(by repeat(first| (with_reducible exact Ac _ _)| (with_reducible assumption)| (with_reducible exact AU (by assumption))| (with_reducible refine Ad ?_ _)| (with_reducible refine Am ?_)| (with_reducible refine A3 ?_ _)| ((with_reducible refine Ay ?_ _ _ ?h2);case h2=>first|exact .inl rfl|exact .inr (Nat.le_refl _)|exact .inr (by simp<;>omega))| (with_reducible refine Ah ?_ (by assumption))| (with_reducible refine Aa ?_ (by assumption))))⟩
theorem BG{w:World}{b:Nat}{s:Bs}{i:Nat}{line begun:Bool}{bad:Int}(h:Sc w b s i line begun bad)(k:Nat)(c:Int){r:Bool}(hr:(decide (k<s.length)&&cls c (bAt s k))=r):
 Calls Tryz.prog 194 #[.pointer (some ⟨b,0,none⟩),.int .i64 k,.int .u8 c] w fun e w'=>e= .returned (.bool r)∧w.grownBy w' none:=by
 subst hr;exact RO h k c
theorem Q4{w:World}{b:Nat}{s:Bs}{i:Nat}{line begun:Bool}{bad:Int}(h:Sc w b s i line begun bad):
 Calls Tryz.prog 152 #[.pointer (some ⟨b,0,none⟩)] w fun e w'=>e= .returned (.tuple #[])∧Sc w' b s (AP s i) line begun bad∧w.grownBy w' (some b):=by
 go_enter func152,ntmps152;go_wp2_with fail;have hi:=h.le;go_loopg [] (s.length-i) (fun g wr=>∃k:Nat,k+g=s.length∧Sc wr b s k line begun bad∧AP s k=AP s i∧w.grownBy wr (some b))
 case atStart=>exact⟨i,by omega,h,rfl,Ac _ _⟩
 case round=>
  obtain⟨k,hk,hs,hq,g⟩:=hrel;have HQ:=O hq;clear hq h hi;have hc1:=hs.c1;have hb:=hs.lt;cases hc:(decide (k<s.length)&&cls 3 (bAt s k))with
  | true=>
    simp only[Bool.and_eq_true,decide_eq_true_eq]at hc;cases gk with
    |zero=>omega
    |succ gk=>
    have HC:=O hc.2;have hkl:=hc.1;clear hc;go_wp2_with fail;refine(BG hs k 3 (r:=true) (by simp[hkl,HC.out])).mono ?_;rintro e w1 ⟨rfl,g1⟩;have hs1:=hs.gbN g1;have c1:=hs1.c1;have f1:=hs1.fr 1;have hf:=hs.few;go_wp2;go_roundg gk
    case measure=>omega
    case rel=>exact⟨k+1,by omega,hs1.go _ (k+1) (by omega) (by omega),by rw[←HQ.out];exact(BO hkl HC.out).symm,Ay (Ah g g1) _ _ (.inl rfl)⟩
  | false=>
    have HC:=O hc;go_wp2_with fail;refine(BG hs k 3 (r:=false) HC.out).mono ?_;rintro e w1 ⟨rfl,g1⟩;have hs1:=hs.gbN g1;have hk2:AP s k=k:=by
     have h2:=HC.out;by_cases hkl:k<s.length
     ·exact Cz hkl (by simpa[hkl]using h2)
     ·exact CC (by omega)
    have HK:=O (hk2.symm.trans HQ.out);clear hk2;go_wp2;go_end0;exact⟨rfl,hs1.at_eq HK.out,Ah g g1⟩
theorem CY(s:Bs)(i j:Nat):(⟨s.toArray⟩:ByteArray).extract i j=⟨((s.drop i).take (j-i)).toArray⟩:=by
 apply ByteArray.ext;apply Array.ext';rw[Lib.extract_data]
theorem Fy(s:Bs)(i:Nat):(⟨s.toArray⟩:ByteArray).extract i s.length=⟨(s.drop i).toArray⟩:=by
 rw[CY,List.take_of_length_le (by simp)]
theorem Rq(s:Bs)(c:UInt8)(k:Nat):Lib.indexByte (s.drop k) c=if Ao s (fun b=>b !=c) k<s.length then((Ao s (fun b=>b !=c) k-k:Nat):Int)else -1:=by
 induction hn:s.length-k generalizing k with
 |zero=>rw[CC (by omega),List.drop_eq_nil_of_le (by omega),if_neg (by omega)];rfl
 | succ n ih=>
   have hk:k<s.length:=by omega
   rw[Fa hk,Lib.indexByte];cases hc:(bAt s k==c)with
   | true=>
     rw[Cz hk (by simpa using hc)];simp[hk]
   | false=>
     rw[BO hk (by simpa using hc),ih (k+1) (by omega)];have h1:=Bz s (fun b=>b !=c) (k+1);by_cases h2:Ao s (fun b=>b !=c) (k+1)<s.length
     ·simp only[if_pos h2];simp only[Bool.false_eq_true,if_false];rw[if_neg (by simp;try omega)];omega
     ·simp[h2]
theorem FL{w:World}{b:Nat}{s:Bs}{i:Nat}{line begun:Bool}{bad:Int}(h:Sc w b s i line begun bad)(k:Nat)(hk:k≤s.length):
 Calls Tryz.prog 196 #[.pointer (some ⟨b,0,none⟩),.int .i64 k] w fun e w'=>e= .returned (.int .i64 (An s k))∧w=w':=by
 have c0:=h.c0;have hb:=h.lt;have hf:=h.few;have H0:=Rq s 10 k;have hr:=Bz s (fun b=>b !=10) k;have hr2:=BV (p:=fun b=>b !=10) hk;have hkI:decide ((k:Int)≤s.length)=true:=by simp;omega
 rw[show Ao s (fun b=>b !=10) k=An s k from rfl]at*;by_cases hl:An s k<s.length
 ·rw[if_pos hl]at H0;obtain⟨d,hd⟩:∃d,An s k=k+d:=⟨An s k-k,by omega⟩;rw[hd]at H0 ⊢;rw[show k+d-k=d by omega]at H0;rw[hd]at hl hr2;have H:=O H0;clear H0 hd;go_enter func196,ntmps196;go_wp2_with fail;refine(strings_IndexByte _ _ _).mono ?_;rintro e w1 ⟨rfl,rfl⟩;rw[Fy];rw[show Lib.indexByte (ByteArray.mk (List.drop k s).toArray).data.toList ((10:Int).toNat.toUInt8)=_ from H.out];go_wp2;go_ret;exact⟨by simp,rfl⟩
 ·have he:An s k=s.length:=by omega
  rw[if_neg hl]at H0;rw[he];have H:=O H0;clear H0 he;go_enter func196,ntmps196;go_wp2_with fail;refine(strings_IndexByte _ _ _).mono ?_;rintro e w1 ⟨rfl,rfl⟩;rw[Fy];rw[show Lib.indexByte (ByteArray.mk (List.drop k s).toArray).data.toList ((10:Int).toNat.toUInt8)=_ from H.out];go_wp2;go_ret;exact⟨rfl,rfl⟩
def KL(w:World)(b:Nat)(s:Bs)(i:Nat)(line begun:Bool)(bad:Int)(e:Ending)(w':World):Prop:=w.grownBy w' (some b)∧match Bp s i with
 |some k=>e= .returned (.bool false)∧∃j,Sc w' b s j line begun k
 |none=>e= .returned (.bool true)∧Sc w' b s (An s i) line begun bad
theorem Eb{w:World}{b:Nat}{s:Bs}{i:Nat}{line begun:Bool}{bad:Int}(h:Sc w b s i line begun bad):
 Calls Tryz.prog 155 #[.pointer (some ⟨b,0,none⟩)] w (KL w b s i line begun bad):=by
 have hi:=h.le;have c1:=h.c1;have hle:An s i≤s.length:=BV hi;have hge:i≤An s i:=Bz _ _ _;go_enter func155,ntmps155;go_wp2_with fail;refine(FL h i hi).mono ?_;rintro e w1 ⟨rfl,rfl⟩;go_wp2_with fail;go_loopg [] (An s i-i) (fun g wr=>∃k:Nat,k+g=An s i∧i≤k∧Sc wr b s k line begun bad∧DK s k=DK s i∧w.grownBy wr (some b))
 case atStart=>exact⟨i,by omega,Nat.le_refl _,h,rfl,Ac _ _⟩
 case round=>
  obtain⟨k,hk,hik,hs,hq,g⟩:=hrel;have HQ:=O hq;have HL:=O hle;clear hq h hi c1 hle;have c1:=hs.c1;have hf:=hs.few;have hb:=hs.lt;cases gk with
  | zero=>
    have HM:=O (show Bp s i=none by unfold Bp;rw[if_neg (by have h1:=PQ s i;have h2:=Bz s (fun b=>b !=10&&!cls 4 b) k;change k≤DK s k at h2;rw[HQ.out]at h2;omega)]);have hs':=hs.at_eq (show k=An s i by omega);have hkI:(k:Int)=An s i:=by omega
    have hkI2:decide (k<An s i)=false:=by simp;omega
    clear hk hkI;go_wp2;go_ret;exact⟨g,by rw[HM.out];exact⟨rfl,hs'⟩⟩
  | succ gk=>
    have hlt:k<An s i:=by omega
    have h10:=Fv hik hlt;have HT:=O h10;have hkl:=h10.1;have hltI:decide ((k:Int)<An s i)=true:=by simp;omega
    clear h10;cases hc:cls 4 (bAt s k)with
    | true=>
      have HC:=O hc;have HM:=O (show Bp s i=some k by
       have h2:DK s k=k:=Cz hkl (by simp[HC.out]);rw[HQ.out]at h2;unfold Bp;rw[h2,if_pos hlt])
      clear hc;go_wp2_with fail;refine(BG hs k 4 (r:=true) (by simp[hkl,HC.out])).mono ?_;rintro e w1 ⟨rfl,g1⟩;have hs1:=hs.gbN g1;have d1:=hs1.c1;have f1:=hs1.fr 260;have c260:=hs1.c260;go_wp2;go_ret;exact⟨Ay (Ah g g1) _ _ (.inl rfl),by rw[HM.out];exact⟨rfl,k,hs1.setBad k⟩⟩
    | false=>
      have HC:=O hc;clear hc;go_wp2_with fail;refine(BG hs k 4 (r:=false) (by simp[hkl,HC.out])).mono ?_;rintro e w1 ⟨rfl,g1⟩;have hs1:=hs.gbN g1;have d1:=hs1.c1;have f1:=hs1.fr 1;go_wp2;go_roundg gk
      case measure=>omega
      case rel=>exact⟨k+1,by omega,by omega,hs1.go _ (k+1) (by omega) (by omega),by rw[←HQ.out];exact(BO hkl (by simp[HC.out];simpa using HT.out.2)).symm,Ay (Ah g g1) _ _ (.inl rfl)⟩
end Go.Proofs.YtgjdhajcnechdaaGreatDoor
