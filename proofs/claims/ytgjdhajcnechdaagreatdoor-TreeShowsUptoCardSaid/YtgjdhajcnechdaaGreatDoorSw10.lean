/-
  Dates: Unstamp. Plain laws: a source and its tokens. The lexer of the program and that of the reference both answer as 'lexM'. Rows of expressions that are looked through: slices.IndexFunc, slices.Con
-/
import Derived.Test.YtgjdhajcnechdaaGreatDoorSw08
import Derived.Lib.Case
import Derived.Test.YtgjdhajcnechdaaGreatDoorSw04
set_option linter.all false
set_option maxRecDepth 100000
set_option maxHeartbeats 8000000
namespace Go.Proofs.YtgjdhajcnechdaaGreatDoor
open Go.Proofs.Tryz
open Go.RowKit
def Df:Bs:=[32,32,32,32,32,32,32,32]
def Bo(s:Bs):Int×Bool:=
 if s=Df then(0,true)
 else if s.length≠8∨s.all AJ=false then(0,false)
 else((AM (As (s.take 4)) (As ((s.drop 4).take 2)) (As (s.drop 6))).1,(AM (As (s.take 4)) (As ((s.drop 4).take 2)) (As (s.drop 6))).2==0)
def digSet:Bs:=[48,49,50,51,52,53,54,55,56,57]
theorem NS(b:UInt8):digSet.contains b=AJ b:=by
 rw[Bool.eq_iff_iff];constructor
 ·intro h;simp[digSet]at h;rcases h with h|h|h|h|h|h|h|h|h|h<;>subst h<;>decide
 ·intro h;simp[AJ]at h;have:b.toNat=48∨b.toNat=49∨b.toNat=50∨b.toNat=51∨b.toNat=52∨b.toNat=53∨b.toNat=54∨b.toNat=55∨b.toNat=56∨b.toNat=57:=by omega
  rcases this with h|h|h|h|h|h|h|h|h|h<;>(have e:b=UInt8.ofNat b.toNat:=(by simp);rw[h]at e;rw[e];decide)
theorem JO(l:List UInt8):(Lib.trimS l digSet==[])=l.all AJ:=by
 rw[Js];congr 1;funext b;exact NS b
theorem Ix(s:Bs)(hs:s.length≤1000000)(w:World):
 Calls Tryz.prog 241 #[str s] w fun e w'=>e= .returned (.tuple #[.int .i64 (Bo s).1,.bool (Bo s).2])∧w.grownBy w' none:=by
 by_cases hb:s=Df
 ·subst hb;go_enter func241,ntmps241;go_wp2;exact bodyPost_ret (v:= .tuple #[.int .i64 0,.bool true]) (by simp[results,results241,go_sem]) rfl ⟨rfl,Ac _ _⟩
 have hb':(s==[32,32,32,32,32,32,32,32])=false:=by simpa[Df]using hb
 by_cases h8:s.length=8
 ·have h8n:((s.length:Int)==8)=true:=by simp;omega
  have h8m:((s.length:Int) !=8)=false:=by simp;omega
  cases hd:s.all AJ with
  | false=>
    have hm:Bo s=(0,false):=by simp only[Bo,hb,if_false,hd];simp
    rw[hm];rw[←JO]at hd;go_enter func241,ntmps241;go_wp2_with fail;refine(strings_Trim ⟨s.toArray⟩ ⟨digSet.toArray⟩ _ (by simp[ByteArray.size];omega) (by decide) (ascii_of_all (by decide))).mono ?_;rintro e w1 ⟨rfl,hbe⟩;have hgb:=gbB hbe none;change(Lib.trimS s digSet==[])=false at hd;rw[show Lib.trimS (ByteArray.mk s.toArray).data.toList (ByteArray.mk digSet.toArray).data.toList=Lib.trimS s digSet from rfl];generalize Lib.trimS s digSet=z at*;clear hbe;go_wp2;exact bodyPost_ret (v:= .tuple #[.int .i64 0,.bool false]) (by simp[results,results241,go_sem]) rfl ⟨rfl,hgb⟩
  | true=>
    have hm:Bo s=((AM (As (s.take 4)) (As ((s.drop 4).take 2)) (As (s.drop 6))).1,(AM (As (s.take 4)) (As ((s.drop 4).take 2)) (As (s.drop 6))).2==0):=by
     simp only[Bo,hb,if_false,hd,h8];simp
    rw[hm];clear hm;obtain⟨a0,a1,a2,a3,a4,a5,a6,a7,rfl⟩:∃a0 a1 a2 a3 a4 a5 a6 a7,s=[a0,a1,a2,a3,a4,a5,a6,a7]:=by
     match s,h8 with
     | [a0,a1,a2,a3,a4,a5,a6,a7],_=>exact⟨_,_,_,_,_,_,_,_,rfl⟩
    have hd4:[a0,a1,a2,a3].all AJ=true∧[a4,a5].all AJ=true∧[a6,a7].all AJ=true:=by
     simp at hd ⊢;simp[hd]
    have HD:=O hd4;clear hd4;rw[←JO]at hd;go_enter func241,ntmps241;go_wp2_with fail;refine(strings_Trim ⟨[a0,a1,a2,a3,a4,a5,a6,a7].toArray⟩ ⟨digSet.toArray⟩ _ (by simp[ByteArray.size]) (by decide) (ascii_of_all (by decide))).mono ?_;rintro e w1 ⟨rfl,hbe⟩;have hgb:=gbB hbe none;change(Lib.trimS [a0,a1,a2,a3,a4,a5,a6,a7] digSet==[])=true at hd;rw[show Lib.trimS (ByteArray.mk [a0,a1,a2,a3,a4,a5,a6,a7].toArray).data.toList (ByteArray.mk digSet.toArray).data.toList=Lib.trimS [a0,a1,a2,a3,a4,a5,a6,a7] digSet from rfl];generalize Lib.trimS [a0,a1,a2,a3,a4,a5,a6,a7] digSet=z at*;clear hbe;go_wp2_with fail;have hy:=Dg _ HD.out.1 4 (by simp);have hm:=Dg _ HD.out.2.1 2 (by simp);have hd':=Dg _ HD.out.2.2 2 (by simp);simp only[List.take_succ_cons,List.take_zero,List.drop_succ_cons,List.drop_zero,List.take_nil]at*;generalize hY:As [a0,a1,a2,a3]=Y at*;generalize hMM:As [a4,a5]=M at*;generalize hDD:As [a6,a7]=D at*;have HN:=O (Z hY (Z hMM hDD));clear hY hMM hDD;have hx1:({data:=#[a0,a1,a2,a3,a4,a5,a6,a7]}:ByteArray).extract 0 4={data:=#[a0,a1,a2,a3]}:=rfl;have hx2:({data:=#[a0,a1,a2,a3,a4,a5,a6,a7]}:ByteArray).extract 4 6={data:=#[a4,a5]}:=rfl;have hx3:({data:=#[a0,a1,a2,a3,a4,a5,a6,a7]}:ByteArray).extract 6 8={data:=#[a6,a7]}:=rfl;have hda:=PC Y M D (by omega) (by omega) (by omega) (by omega) (by omega) (by omega)
    have hv1:∀w,Calls Tryz.prog 275 #[.string ⟨#[a0,a1,a2,a3]⟩] w fun e w'=>e= .returned (.int .i64 Y)∧w.grownBy w' none:=fun w=>by rw[←HN.out.1];exact Hl [a0,a1,a2,a3] HD.out.1 (by simp) (by simp) w
    have hv2:∀w,Calls Tryz.prog 275 #[.string ⟨#[a4,a5]⟩] w fun e w'=>e= .returned (.int .i64 M)∧w.grownBy w' none:=fun w=>by rw[←HN.out.2.1];exact Hl [a4,a5] HD.out.2.1 (by simp) (by simp) w
    have hv3:∀w,Calls Tryz.prog 275 #[.string ⟨#[a6,a7]⟩] w fun e w'=>e= .returned (.int .i64 D)∧w.grownBy w' none:=fun w=>by rw[←HN.out.2.2];exact Hl [a6,a7] HD.out.2.2 (by simp) (by simp) w
    have HV:=O (Z hda (Z hv1 (Z hv2 hv3)));clear hda hv1 hv2 hv3;go_region_with(first| (go_at_call 274;with_reducible refine(HV.out.1 _).mono ?_;rintro e w5 ⟨rfl,g5⟩)| (with_reducible refine(HV.out.2.1 _).mono ?_;rintro e w2 ⟨rfl,g2⟩)| (with_reducible refine(HV.out.2.2.1 _).mono ?_;rintro e w3 ⟨rfl,g3⟩)| (with_reducible refine(HV.out.2.2.2 _).mono ?_;rintro e w4 ⟨rfl,g4⟩));all_goals
     go_wp2;exact bodyPost_ret (v:= .tuple #[.int .i64 (AM Y M D).1,.bool ((AM Y M D).2==0)]) (by simp[results,results241,go_sem]) rfl ⟨by rw[←HN.out.1,←HN.out.2.1,←HN.out.2.2];rfl,Aa (Aa (Aa (Aa (Am hgb) g2) g3) g4) g5⟩
 ·have hm:Bo s=(0,false):=by simp[Bo,hb,h8]
  rw[hm];have h8n:((s.length:Int)==8)=false:=by simp;omega
  have h8m:((s.length:Int) !=8)=true:=by simp;omega
  go_enter func241,ntmps241;go_wp2;exact bodyPost_ret (v:= .tuple #[.int .i64 0,.bool false]) (by simp[results,results241,go_sem]) rfl ⟨rfl,Ac _ _⟩
def BF(b:Nat):Int:=
 if b=9∨b=32 then 3 else if b=95∨(97≤b∧b≤122)∨(65≤b∧b≤90)then 1 else if 48≤b∧b≤57 then 2 else if b≠10∧(b<32∨126<b)then 4 else 0
def cls(c:Int)(b:UInt8):Bool:=BF b.toNat==c
def Bf(b:UInt8):Bool:=cls 1 b||cls 2 b
def bAt(s:Bs)(i:Nat):UInt8:=(s[i]?).getD 0
theorem Dn{s:Bs}{i:Nat}(h:i<s.length):bAt s i=s[i]:=by simp[bAt,h]
def Ar(s:Bs)(p:UInt8→Bool)(i:Nat):Nat:=i+((s.drop i).takeWhile p).length
theorem Fw{s:Bs}{i:Nat}(h:i<s.length):s.drop i=bAt s i::s.drop (i+1):=by rw[Dn h];exact List.drop_eq_getElem_cons h
theorem CV{s:Bs}{p:UInt8→Bool}{i:Nat}(h:s.length≤i):Ar s p i=i:=by simp[Ar,List.drop_eq_nil_of_le h]
theorem CB{s:Bs}{p:UInt8→Bool}{i:Nat}(h:i<s.length)(hp:p (bAt s i)=false):Ar s p i=i:=by
 simp[Ar,Fw h,hp]
theorem BT{s:Bs}{p:UInt8→Bool}{i:Nat}(h:i<s.length)(hp:p (bAt s i)=true):Ar s p i=Ar s p (i+1):=by
 simp[Ar,Fw h,hp];omega
theorem B2(s:Bs)(p:UInt8→Bool)(i:Nat):i≤Ar s p i:=Nat.le_add_right _ _
theorem Cf{s:Bs}{p:UInt8→Bool}{i:Nat}(h:i≤s.length):Ar s p i≤s.length:=by
 have h1:((s.drop i).takeWhile p).length≤(s.drop i).length:=(List.takeWhile_sublist p).length_le;simp at h1;unfold Ar;omega
theorem Hi{s:Bs}{p:UInt8→Bool}{i:Nat}(h:Ar s p i<s.length):p (bAt s (Ar s p i))=false:=by
 induction hn:s.length-i generalizing i with
 |zero=>have:=B2 s p i;omega
 | succ n ih=>
   have hi:i<s.length:=by omega
   cases hp:p (bAt s i)with
   |false=>rw[CB hi hp];exact hp
   | true=>
     rw[BT hi hp]at h ⊢;exact ih h (by omega)
theorem FE{s:Bs}{p:UInt8→Bool}{i j:Nat}(h1:i≤j)(h2:j<Ar s p i):j<s.length∧p (bAt s j)=true:=by
 induction hn:s.length-i generalizing i with
 |zero=>rw[CV (by omega)]at h2;omega
 | succ n ih=>
   have hi:i<s.length:=by omega
   cases hp:p (bAt s i)with
   |false=>rw[CB hi hp]at h2;omega
   | true=>
     by_cases e:i=j
     ·subst e;exact⟨hi,hp⟩
     ·rw[BT hi hp]at h2;exact ih (by omega) h2 (by omega)
theorem Ja{s:Bs}{p q:UInt8→Bool}(h:∀b,p b=true→q b=true)(i:Nat):Ar s p i≤Ar s q i:=by
 induction hn:s.length-i generalizing i with
 |zero=>rw[CV (by omega),CV (by omega)];exact Nat.le_refl _
 | succ n ih=>
   have hi:i<s.length:=by omega
   cases hp:p (bAt s i)with
   |false=>rw[CB hi hp];exact B2 _ _ _
   | true=>
     rw[BT hi hp,BT hi (h _ hp)];exact ih _ (by omega)
def AD(s:Bs)(i j:Nat):Bs:=(s.drop i).take (j-i)
theorem D6{s:Bs}{i j:Nat}(h1:i≤j)(h2:j≤s.length):(AD s i j).length=j-i:=by simp[AD];omega
theorem PO{s:Bs}{i j k:Nat}(h:k<j-i):(AD s i j)[k]? =s[i+k]?:=by
 simp[AD,h]
def AQ(s:Bs)(i:Nat):Nat:=Ar s (cls 3) i
def Aq(s:Bs)(i:Nat):Nat:=Ar s (fun b=>b !=10) i
def Ea(s:Bs)(i:Nat):Nat:=Ar s (fun b=>b !=10&&!cls 4 b) i
theorem P7(s:Bs)(i:Nat):Ea s i≤Aq s i:=Ja (by intro b hb;simp at hb ⊢;exact hb.1) i
def DE(s:Bs)(i:Nat):Bool:=[38,38].isPrefixOf (s.drop i)
def signsL:List Bs:=[[46,78,85,76,76,46],[46,65,78,68,46],[46,78,79,84,46],[46,79,82,46],[46,84,46],[46,70,46],[58,61],[61,61],[60,62],[33,61],[60,61],[62,61],[45,62],[40],[41],[91],[93],[123],[125],[44],[124],[58],[46],[61],[35],[60],[62],[43],[45],[42],[47],[37],[94],[36],[38],[63],[64],[33]]
def C9(s:Bs)(i:Nat)(w:Bs):Bool:=decide (i+w.length≤s.length)&&Lib.toUpperA (AD s i (i+w.length))==w
def Dt(s:Bs)(i:Nat):Option Bs:=signsL.find? (C9 s i)
def CY(t:Bs):Bs:=AD t 2 6++AD t 7 9++AD t 10 12
def Di(t:Bs):Bool:=decide (13≤t.length)&&t.take 2==[123,94]&&bAt t 6==45&&bAt t 9==45&&bAt t 12==125
def BU(t:Bs):Option (Bs×Nat):=
 if [123,125].isPrefixOf t then some ([],2)
 else if Di t then(if(Bo (CY t)).2&&CY t !=Df then some (CY t,13)else none)
 else none
inductive St where
 |tok (t:Tok) (at':Nat) (line:Bool)
 |again (at':Nat) (line:Bool)
 |stop
 |bad (k:Nat)
def Dp(s:Bs)(i:Nat):St:=
 let q:=Ar s (fun b=>b !=10&&b !=bAt s i) (i+1)
 if q<s.length∧bAt s q≠10 then
  (if Ar (AD s (i+1) q) (fun b=>!cls 4 b) 0<q-(i+1)then .bad (i+1+Ar (AD s (i+1) q) (fun b=>!cls 4 b) 0)else .tok ⟨2,i,AD s (i+1) q⟩ (q+1) true)
 else .bad i
def B7(s:Bs)(i:Nat):St:=
 if cls 1 (bAt s i)then(if 24<Ar s Bf i-i then .bad i else .tok ⟨0,i,Lib.toUpperA (AD s i (Ar s Bf i))⟩ (Ar s Bf i) true)
 else if cls 2 (bAt s i)then(if 15<Ar s (cls 2) i-i then .bad i else .tok ⟨1,i,AD s i (Ar s (cls 2) i)⟩ (Ar s (cls 2) i) true)
 else if bAt s i=34∨bAt s i=39 then Dp s i
 else match BU (s.drop i)with
  |some (d,n)=> .tok ⟨3,i,d⟩ (i+n) true
  | none=>match Dt s i with
    |some w=> .tok ⟨4,i,w⟩ (i+w.length) true
    |none=> .bad i
def Bv(s:Bs)(i:Nat):Option Nat:=if Ea s i<Aq s i then some (Ea s i)else none
def B3(s:Bs)(i:Nat):Nat:=if Aq s i<s.length then Aq s i+1 else Aq s i
def Cd(s:Bs)(k:Nat):Bool:=decide (s.length≤k)||bAt s k==10||DE s k
def BO(s:Bs)(i:Nat)(line:Bool):St:=
 if s.length≤i then(if line then .tok ⟨5,i,[]⟩ i false else .stop)
 else if bAt s i=10 then(if line then .tok ⟨5,i,[]⟩ (i+1) false else .again (i+1) false)
 else if cls 3 (bAt s i)then .again (i+1) line
 else if(bAt s i==42&&!line)||DE s i then
  match Bv s i with
  |some k=> .bad k
  |none=> .again (Aq s i) line
 else if bAt s i=59 then
  (if Cd s (AQ s (i+1))then
   match Bv s (AQ s (i+1))with
   |some k=> .bad k
   |none=> .again (B3 s (AQ s (i+1))) line
  else .bad i)
 else B7 s i
inductive NR where
 |tok (t:Tok) (at':Nat) (line:Bool) (n:Nat)
 |stop
 |bad (k:Nat)
 |out
def AN(s:Bs):Nat→Nat→Bool→NR
 | 0,_,_=> .out
 | n+1,i,line=>match BO s i line with
   | .tok t j l=> .tok t j l n
   | .again j l=>AN s n j l
   | .stop=> .stop
   | .bad k=> .bad k
inductive LexR where
 |ok (l:List Tok)
 |bad (k:Nat)
 |out
def LexR.cons(t:Tok):LexR→LexR
 | .ok l=> .ok (t::l)
 | .bad k=> .bad k
 | .out=> .out
def LexR.pre(p:List Tok):LexR→LexR
 | .ok l=> .ok (p++l)
 | .bad k=> .bad k
 | .out=> .out
theorem LexR.pre_nil(r:LexR):r.pre []=r:=by cases r<;>rfl
theorem LexR.pre_cons(p:List Tok)(t:Tok)(r:LexR):(r.cons t).pre p=r.pre (p++[t]):=by cases r<;>simp[LexR.cons,LexR.pre]
def Cc(s:Bs):Nat→Nat→Bool→LexR
 | 0,_,_=> .out
 | n+1,i,line=>match BO s i line with
   | .tok t j l=>(Cc s n j l).cons t
   | .again j l=>Cc s n j l
   | .stop=> .ok []
   | .bad k=> .bad k
theorem GD(s:Bs):∀n i line,Cc s n i line=match AN s n i line with
 | .tok t j l m=>(Cc s m j l).cons t
 | .stop=> .ok []
 | .bad k=> .bad k
 | .out=> .out:=by
 intro n;induction n with
 |zero=>intro i line;rfl
 | succ n ih=>
   intro i line;rw[Cc,AN];cases BO s i line with
   |tok t j l=>rfl
   |again j l=>exact ih j l
   |stop=>rfl
   |bad k=>rfl
theorem Jn{t:Bs}{d:Bs}{n:Nat}(h:BU t=some (d,n)):2≤n∧n≤t.length:=by
 unfold BU at h;split at h
 ·rename_i h1;have:=(List.isPrefixOf_iff_prefix.1 h1).length_le;simp at h this;omega
 ·split at h
  ·rename_i h2;simp[Di]at h2;split at h
   ·simp at h;omega
   ·simp at h
  ·simp at h
theorem Gm{w:Bs}(h:w∈signsL):1≤w.length∧w.length≤6:=by
 have:signsL.all (fun w=>decide (1≤w.length)&&decide (w.length≤6))=true:=by decide
 have:=List.all_eq_true.1 this w h;simpa using this
theorem Je{s:Bs}{i:Nat}{w:Bs}(h:Dt s i=some w):w∈signsL∧i+w.length≤s.length∧Lib.toUpperA (AD s i (i+w.length))=w:=by
 have h1:=List.mem_of_find?_eq_some h;have h2:=List.find?_some h;simp[C9]at h2;exact⟨h1,h2.1,h2.2⟩
theorem NC{s:Bs}{i:Nat}(h:i<s.length)(h10:bAt s i≠10):i<Aq s i:=by
 unfold Aq;rw[BT h (by simpa using h10)];exact B2 _ _ _
theorem LY(s:Bs)(i:Nat):i≤B3 s i:=by
 unfold B3;have:=B2 s (fun b=>b !=10) i;change i≤Aq s i at this;split<;>omega
theorem LZ{s:Bs}{i:Nat}(h:i≤s.length):B3 s i≤s.length:=by
 unfold B3;have:Aq s i≤s.length:=Cf h;split<;>omega
def Hu(s:Bs)(i:Nat)(line:Bool):St→Prop
 | .tok _ j l=>i≤j∧j≤s.length∧2*(s.length-j)+l.toNat<2*(s.length-i)+line.toNat
 | .again j l=>i<j∧j≤s.length∧2*(s.length-j)+l.toNat<2*(s.length-i)+line.toNat
 | .stop=>i=s.length∧line=false
 | .bad k=>k<s.length
theorem Ms{s:Bs}{i:Nat}{line:Bool}(h:i<s.length):Hu s i line (Dp s i):=by
 unfold Dp;have h1:=B2 s (fun b=>b !=10&&b !=bAt s i) (i+1);simp only[];split
 ·rename_i h2;split
  ·rename_i h3;show _<s.length;omega
  ·refine⟨by omega,by omega,?_⟩;simp only[Bool.toNat_true];omega
 ·exact h
theorem M7{s:Bs}{i:Nat}{line:Bool}(h:i<s.length):Hu s i line (B7 s i):=by
 unfold B7;split
 ·rename_i h1;have h2:=BT (p:=Bf) h (by simp[Bf,h1]);have h3:=B2 s Bf (i+1);have h4:=Cf (p:=Bf) (Nat.le_of_lt h);split
  ·exact h
  ·refine⟨by omega,by omega,?_⟩;simp only[Bool.toNat_true];omega
 ·split
  ·rename_i h1;have h2:=BT (p:=cls 2) h h1;have h3:=B2 s (cls 2) (i+1);have h4:=Cf (p:=cls 2) (Nat.le_of_lt h);split
   ·exact h
   ·refine⟨by omega,by omega,?_⟩;simp only[Bool.toNat_true];omega
  ·split
   ·exact Ms h
   ·cases hd:BU (s.drop i)with
    | some p=>
      obtain⟨d,n⟩:=p;have:=Jn hd;simp at this;refine⟨by omega,by omega,?_⟩;simp only[Bool.toNat_true];omega
    | none=>
      cases hs:Dt s i with
      |none=>exact h
      | some w=>
        obtain⟨h1,h2,_⟩:=Je hs;have:=Gm h1;refine⟨by omega,by omega,?_⟩;simp only[Bool.toNat_true];omega
theorem Im{s:Bs}{i k:Nat}(h:i≤s.length)(hc:Bv s i=some k):k<s.length:=by
 unfold Bv at hc;have:Aq s i≤s.length:=Cf h;split at hc
 ·simp at hc;omega
 ·simp at hc
theorem L6(s:Bs){i:Nat}(line:Bool)(h:i≤s.length):Hu s i line (BO s i line):=by
 unfold BO;split
 ·have e:i=s.length:=by omega
  cases line with
  |true=>exact⟨by omega,by omega,by simp⟩
  |false=>exact⟨e,rfl⟩
 ·rename_i hi;split
  ·cases line with
   |true=>exact⟨by omega,by omega,by simp;omega⟩
   |false=>exact⟨by omega,by omega,by simp;omega⟩
  ·rename_i h10;split
   ·exact⟨by omega,by omega,by omega⟩
   ·split
    ·cases hc:Bv s i with
     |some k=>exact Im h hc
     | none=>
       have h1:=NC (by omega) h10;have h2:Aq s i≤s.length:=Cf h;exact⟨by omega,by omega,by omega⟩
    ·split
     ·have h1:i+1≤AQ s (i+1):=B2 _ _ _;have h2:AQ s (i+1)≤s.length:=Cf (by omega);split
      ·cases hc:Bv s (AQ s (i+1))with
       |some k=>exact Im h2 hc
       | none=>
         have h3:=LY s (AQ s (i+1));have h4:=LZ h2;exact⟨by omega,by omega,by omega⟩
      ·show _<_;omega
     ·exact M7 (by omega)
theorem MP(s:Bs):∀n i line,i≤s.length→2*(s.length-i)+line.toNat<n→match AN s n i line with
 | .tok _ j l m=>j≤s.length∧2*(s.length-j)+l.toNat<m
 | .stop=>True
 | .bad k=>k<s.length
 | .out=>False:=by
 intro n;induction n with
 |zero=>intro i line _ h;omega
 | succ n ih=>
   intro i line hi hn;have hg:=L6 s line hi;unfold AN;cases hs:BO s i line with
   |tok t j l=>rw[hs]at hg;exact⟨hg.2.1,by have:=hg.2.2;omega⟩
   |again j l=>rw[hs]at hg;exact ih j l hg.2.1 (by have:=hg.2.2;omega)
   |stop=>trivial
   |bad k=>rw[hs]at hg;exact hg
def Hd.fit(h:Hd):Prop:=h.s.length≤2000000∧h.vs.length≤2000000∧h.p.length≤2000000∧∀s∈h.p,s.length≤2000000
def Fo.fit:Fo→Prop
 | .nil=>True
 | .cons h k n=>h.fit∧k.fit∧n.fit
theorem KA(f:Fo)(ok:Nat→Prop)(la:Option Addr)(lc:Nat)(w:World)(hf:RepL ok w (.slice la f.len lc) f)(hfit:f.fit)
 (hE:∀(h:Hd)(k:Fo)(pa lb:Option Addr)(pc ld:Nat)(W:World),k.wt<f.wt→h.fit→k.fit→Cells W (.slice pa h.p.length pc) 1 h.p.length (h.p.map str) (fun _=>True)→RepL (fun _=>True) W (.slice lb k.len ld) k→
  Calls Tryz.prog 124 #[exV h (.slice pa h.p.length pc) (.slice lb k.len ld)] W fun e w'=>e= .returned (.bool (!(AI h k.len&&okF k)))∧W.grownBy w' none):
 Calls Tryz.prog 169 #[.slice la f.len lc,.func (.func 124) #[] #[]] w fun e w'=>(∃n:Int,e= .returned (.int .i64 n)∧decide (0≤n)= !okF f)∧w.grownBy w' none:=by
 replace hf:=hf.mono (ok':=fun _=>True) (fun _ _ _=>trivial);obtain⟨cs,hc1,hr1⟩:=hf;obtain⟨_,_,e,hle,hmx,_,hc1⟩:=hc1;cases e;have hmax:f.len≤maxLen:=by omega
 unfold maxLen at hmax;clear hle hmx;have HC:=O (Z hc1 hE);have HR:=O (Z hr1 hfit);clear hc1 hE hr1 hfit;go_enter func169,ntmps169;go_wp2_with fail;go_loopg [8] f.len (fun n v8 wr=>∃rf:Fo,∃k:Nat,rf.len=n∧k+n=f.len∧v8= .int .i64 k∧rf.wt≤f.wt∧rf.fit∧okF f=okF rf∧RepF (fun _=>True) w rf (cs.drop (k*7))∧w.grownBy wr none)
 case atStart=>exact⟨f,0,rfl,by omega,rfl,Nat.le_refl _,HR.out.2,rfl,by simpa using HR.out.1,Ac _ _⟩
 case round=>
  obtain⟨rf,k,hn,hk,rfl,hno,hft,hs,hrf,hgr⟩:=hrel;clear HR;cases rf with
  | nil=>
    have hkI:decide (k<f.len)=false:=by simp[Fo.len]at hn;simp;omega
    have HS:=O (show okF f=true by rw[hs];rfl);have HG:=O hgr;clear hs hgr hn hrf hft;go_wp2;go_ret;exact⟨⟨_,rfl,by rw[HS.out];simp⟩,HG.out⟩
  | cons h1 k1 n1=>
    simp only[Fo.len]at hn;simp only[Fo.wt]at hno;subst hn;obtain⟨pa1,pc1,lb1,ld1,hp1,hl1,hx1,ha1⟩:=RepF.elem (n:=f.len) (lc:=lc) (f:=f) HC.out.1 hrf;have hkI:decide (k<f.len)=true:=by simp;omega
    have hkf:k+1≤f.len:=by omega
    have HS:=O (show okF f=((AI h1 k1.len&&okF k1)&&okF n1)from hs);have HE:=O (fun(W:World)(gW:wr.grownBy W none)=>HC.out.2 h1 k1 pa1 lb1 pc1 ld1 W (by omega) hft.1 hft.2.1 (hp1.gb (Aa hgr gW) (by simp)) (hl1.gb (Aa hgr gW) (by simp)));have HN:=O (Z (show n1.wt≤f.wt by omega) (Z hft.2.2 (Z hx1 hgr)));clear hs hno hrf hp1 hl1 hx1 hft;obtain⟨g1,o1,rfl,hokz,y0⟩:=ha1 0 _ rfl;obtain⟨_,_,e1,_,y1⟩:=ha1 1 _ rfl;cases e1;obtain⟨_,_,e1,_,y2⟩:=ha1 2 _ rfl;cases e1;obtain⟨_,_,e1,_,y3⟩:=ha1 3 _ rfl;cases e1;obtain⟨_,_,e1,_,y4⟩:=ha1 4 _ rfl;cases e1;obtain⟨_,_,e1,_,y5⟩:=ha1 5 _ rfl;cases e1;obtain⟨_,_,e1,_,y6⟩:=ha1 6 _ rfl;cases e1;have hglz:=World.block_lt_of_cell? w _ y0;have z0:=Af hgr y0;have z1:=Af hgr y1;have z2:=Af hgr y2;have z3:=Af hgr y3;have z4:=Af hgr y4;have z5:=Af hgr y5;have z6:=Af hgr y6;simp only[Nat.add_zero,←Nat.add_assoc]at z0 z1 z2 z3 z4 z5 z6;clear y0 y1 y2 y3 y4 y5 y6;clear ha1 hgr;have hws:=HN.out.2.2.2.size;have hq1:g1<wr.heap.size:=Nat.lt_of_lt_of_le hglz hws;cases hb:(AI h1 k1.len&&okF k1)with
    | true=>
      rw[hb]at HE;have HB:=O (show okF f=okF n1 by rw[HS.out,hb];rfl);clear hb;go_wp2_with fail;refine(HE.out _ ?gg).mono ?_
      case gg=>exact (by repeat(first| (with_reducible exact Ac _ _)| (with_reducible assumption)| (with_reducible exact AX (by assumption))| (with_reducible refine Ad ?_ _)| (with_reducible refine Am ?_)| (with_reducible refine Ay ?_ _)| ((with_reducible refine Az ?_ _ _ ?h2);case h2=>first|exact .inl rfl|exact .inr (Nat.le_refl _)|exact .inr (by simp<;>omega))| (with_reducible refine Ag ?_ (by assumption))| (with_reducible refine Aa ?_ (by assumption))))
      rintro e w5 ⟨rfl,g5⟩;have gg:=Aa HN.out.2.2.2 (Aa (by repeat(first| (with_reducible exact Ac _ _)| (with_reducible assumption)| (with_reducible exact AX (by assumption))| (with_reducible refine Ad ?_ _)| (with_reducible refine Am ?_)| (with_reducible refine Ay ?_ _)| ((with_reducible refine Az ?_ _ _ ?h2);case h2=>first|exact .inl rfl|exact .inr (Nat.le_refl _)|exact .inr (by simp<;>omega))| (with_reducible refine Ag ?_ (by assumption))| (with_reducible refine Aa ?_ (by assumption)))) g5);have HG:=O gg;clear gg g5;go_wp2;go_roundg n1.len
      case measure=>omega
      case rel=>exact⟨n1,k+1,rfl,by omega,by go_num,HN.out.1,HN.out.2.1,HB.out,HN.out.2.2.1,HG.out⟩
    | false=>
      rw[hb]at HE;have HB:=O (show okF f=false by rw[HS.out,hb];rfl);clear hb;go_wp2_with fail;refine(HE.out _ ?gg2).mono ?_
      case gg2=>exact (by repeat(first| (with_reducible exact Ac _ _)| (with_reducible assumption)| (with_reducible exact AX (by assumption))| (with_reducible refine Ad ?_ _)| (with_reducible refine Am ?_)| (with_reducible refine Ay ?_ _)| ((with_reducible refine Az ?_ _ _ ?h2);case h2=>first|exact .inl rfl|exact .inr (Nat.le_refl _)|exact .inr (by simp<;>omega))| (with_reducible refine Ag ?_ (by assumption))| (with_reducible refine Aa ?_ (by assumption))))
      rintro e w5 ⟨rfl,g5⟩;have gg:=Aa HN.out.2.2.2 (Aa (by repeat(first| (with_reducible exact Ac _ _)| (with_reducible assumption)| (with_reducible exact AX (by assumption))| (with_reducible refine Ad ?_ _)| (with_reducible refine Am ?_)| (with_reducible refine Ay ?_ _)| ((with_reducible refine Az ?_ _ _ ?h2);case h2=>first|exact .inl rfl|exact .inr (Nat.le_refl _)|exact .inr (by simp<;>omega))| (with_reducible refine Ag ?_ (by assumption))| (with_reducible refine Aa ?_ (by assumption)))) g5);have HG:=O gg;clear gg g5;go_wp2;go_ret;exact⟨⟨_,rfl,by rw[HB.out];simp⟩,HG.out⟩
theorem Lc(f:Fo)(ok:Nat→Prop)(la:Option Addr)(lc:Nat)(w:World)(hf:RepL ok w (.slice la f.len lc) f)(hfit:f.fit)
 (hE:∀(h:Hd)(k:Fo)(pa lb:Option Addr)(pc ld:Nat)(W:World),k.wt<f.wt→h.fit→k.fit→Cells W (.slice pa h.p.length pc) 1 h.p.length (h.p.map str) (fun _=>True)→RepL (fun _=>True) W (.slice lb k.len ld) k→
  Calls Tryz.prog 46 #[exV h (.slice pa h.p.length pc) (.slice lb k.len ld)] W fun e w'=>e= .returned (.bool (AI h k.len&&okF k))∧W.grownBy w' none):
 Calls Tryz.prog 73 #[.slice la f.len lc] w fun e w'=>e= .returned (.bool (okF f))∧w.grownBy w' none:=by
 have H:=O (KA f ok la lc w hf hfit (fun h k pa lb pc ld W h1 h2 h3 h4 h5=>by
  have hp:=Blk.new W (hdC h (.slice pa h.p.length pc) (.slice lb k.len ld)) 27;have H:=O (fun(W2:World)(g:W.grownBy W2 none)=>hE h k pa lb pc ld W2 h1 h2 h3 (h4.gb g (by simp)) (h5.gb g (by simp)));obtain⟨x_0,x_1,x_2,x_3,x_4,x_5,x_6,x_f⟩:=(hp).c7;clear hE h4 h5 hp hf;generalize(AI h k.len&&okF k)=b at*;go_enter func124,ntmps124;go_wp2_with fail;refine(H.out _ ?gg).mono ?_
  case gg=>exact (by repeat(first| (with_reducible exact Ac _ _)| (with_reducible assumption)| (with_reducible exact AX (by assumption))| (with_reducible refine Ad ?_ _)| (with_reducible refine Am ?_)| (with_reducible refine Ay ?_ _)| ((with_reducible refine Az ?_ _ _ ?h2);case h2=>first|exact .inl rfl|exact .inr (Nat.le_refl _)|exact .inr (by simp<;>omega))| (with_reducible refine Ag ?_ (by assumption))| (with_reducible refine Aa ?_ (by assumption))))
  rintro e w5 ⟨rfl,g5⟩;go_wp2;go_ret;exact⟨rfl,Aa (by repeat(first| (with_reducible exact Ac _ _)| (with_reducible assumption)| (with_reducible exact AX (by assumption))| (with_reducible refine Ad ?_ _)| (with_reducible refine Am ?_)| (with_reducible refine Ay ?_ _)| ((with_reducible refine Az ?_ _ _ ?h2);case h2=>first|exact .inl rfl|exact .inr (Nat.le_refl _)|exact .inr (by simp<;>omega))| (with_reducible refine Ag ?_ (by assumption))| (with_reducible refine Aa ?_ (by assumption)))) g5⟩))
 clear hE hf hfit;have H2:Calls Tryz.prog 123 #[.slice la f.len lc,.func (.func 124) #[] #[]] w fun e w'=>e= .returned (.bool (!okF f))∧w.grownBy w' none:=by
  go_enter func123,ntmps123;go_wp2_with fail;refine H.out.mono ?_;rintro e w1 ⟨⟨n,rfl,hn⟩,hb⟩;have HN:=O hn;clear hn;go_wp2;go_ret;exact⟨by rw[←HN.out];rfl,hb⟩
 clear H;have H:=O H2;clear H2;go_enter func73,ntmps73;go_wp2_with fail;refine H.out.mono ?_;rintro e w1 ⟨rfl,hb⟩;go_wp2;go_ret;exact⟨rfl,hb⟩
end Go.Proofs.YtgjdhajcnechdaaGreatDoor
