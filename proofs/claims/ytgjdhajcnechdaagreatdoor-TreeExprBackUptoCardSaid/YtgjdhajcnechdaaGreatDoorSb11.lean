/-
  Dates: Unstamp. Plain laws: a source and its tokens. The lexer of the program and that of the reference both answer as 'lexM'. The lexer's scanner in memory; is, skip, lineEnd.
-/
import Derived.Test.YtgjdhajcnechdaaGreatDoorSb10
import Derived.Lib.Case
import Derived.Test.YtgjdhajcnechdaaGreatDoorSb02
import Derived.Test.YtgjdhajcnechdaaGreatDoorPlain
set_option linter.all false
set_option maxRecDepth 100000
set_option maxHeartbeats 8000000
namespace Go.Proofs.YtgjdhajcnechdaaGreatDoor
open Go.Proofs.Tryz
open Go.RowKit
def Co:Bs:=[32,32,32,32,32,32,32,32]
def Bq(s:Bs):Int×Bool:=
 if s=Co then(0,true)
 else if s.length≠8∨s.all AF=false then(0,false)
 else((Bk (Ay (s.take 4)) (Ay ((s.drop 4).take 2)) (Ay (s.drop 6))).1,(Bk (Ay (s.take 4)) (Ay ((s.drop 4).take 2)) (Ay (s.drop 6))).2==0)
def digSet:Bs:=[48,49,50,51,52,53,54,55,56,57]
theorem Kc(b:UInt8):digSet.contains b=AF b:=by
 rw[Bool.eq_iff_iff];constructor
 ·intro h;simp[digSet]at h;rcases h with h|h|h|h|h|h|h|h|h|h<;>subst h<;>decide
 ·intro h;simp[AF]at h;have:b.toNat=48∨b.toNat=49∨b.toNat=50∨b.toNat=51∨b.toNat=52∨b.toNat=53∨b.toNat=54∨b.toNat=55∨b.toNat=56∨b.toNat=57:=by omega
  rcases this with h|h|h|h|h|h|h|h|h|h<;>(have e:b=UInt8.ofNat b.toNat:=(by simp);rw[h]at e;rw[e];decide)
theorem G7(l:List UInt8):(Lib.trimS l digSet==[])=l.all AF:=by
 rw[Ge];congr 1;funext b;exact Kc b
theorem F1(s:Bs)(hs:s.length≤1000000)(w:World):
 Calls Tryz.prog 241 #[str s] w fun e w'=>e= .returned (.tuple #[.int .i64 (Bq s).1,.bool (Bq s).2])∧w.grownBy w' none:=by
 by_cases hb:s=Co
 ·subst hb;go_enter func241,ntmps241;go_wp2;exact bodyPost_ret (v:= .tuple #[.int .i64 0,.bool true]) (by simp[results,results241,go_sem]) rfl ⟨rfl,Ac _ _⟩
 have hb':(s==[32,32,32,32,32,32,32,32])=false:=by simpa[Co]using hb
 by_cases h8:s.length=8
 ·have h8n:((s.length:Int)==8)=true:=by simp;omega
  have h8m:((s.length:Int) !=8)=false:=by simp;omega
  cases hd:s.all AF with
  | false=>
    have hm:Bq s=(0,false):=by simp only[Bq,hb,if_false,hd];simp
    rw[hm];rw[←G7]at hd;go_enter func241,ntmps241;go_wp2_with fail;refine(strings_Trim ⟨s.toArray⟩ ⟨digSet.toArray⟩ _ (by simp[ByteArray.size];omega) (by decide) (ascii_of_all (by decide))).mono ?_;rintro e w1 ⟨rfl,hbe⟩;have hgb:=gbB hbe none;change(Lib.trimS s digSet==[])=false at hd;rw[show Lib.trimS (ByteArray.mk s.toArray).data.toList (ByteArray.mk digSet.toArray).data.toList=Lib.trimS s digSet from rfl];generalize Lib.trimS s digSet=z at*;clear hbe;go_wp2;exact bodyPost_ret (v:= .tuple #[.int .i64 0,.bool false]) (by simp[results,results241,go_sem]) rfl ⟨rfl,hgb⟩
  | true=>
    have hm:Bq s=((Bk (Ay (s.take 4)) (Ay ((s.drop 4).take 2)) (Ay (s.drop 6))).1,(Bk (Ay (s.take 4)) (Ay ((s.drop 4).take 2)) (Ay (s.drop 6))).2==0):=by
     simp only[Bq,hb,if_false,hd,h8];simp
    rw[hm];clear hm;obtain⟨a0,a1,a2,a3,a4,a5,a6,a7,rfl⟩:∃a0 a1 a2 a3 a4 a5 a6 a7,s=[a0,a1,a2,a3,a4,a5,a6,a7]:=by
     match s,h8 with
     | [a0,a1,a2,a3,a4,a5,a6,a7],_=>exact⟨_,_,_,_,_,_,_,_,rfl⟩
    have hd4:[a0,a1,a2,a3].all AF=true∧[a4,a5].all AF=true∧[a6,a7].all AF=true:=by
     simp at hd ⊢;simp[hd]
    have HD:=I hd4;clear hd4;rw[←G7]at hd;go_enter func241,ntmps241;go_wp2_with fail;refine(strings_Trim ⟨[a0,a1,a2,a3,a4,a5,a6,a7].toArray⟩ ⟨digSet.toArray⟩ _ (by simp[ByteArray.size]) (by decide) (ascii_of_all (by decide))).mono ?_;rintro e w1 ⟨rfl,hbe⟩;have hgb:=gbB hbe none;change(Lib.trimS [a0,a1,a2,a3,a4,a5,a6,a7] digSet==[])=true at hd;rw[show Lib.trimS (ByteArray.mk [a0,a1,a2,a3,a4,a5,a6,a7].toArray).data.toList (ByteArray.mk digSet.toArray).data.toList=Lib.trimS [a0,a1,a2,a3,a4,a5,a6,a7] digSet from rfl];generalize Lib.trimS [a0,a1,a2,a3,a4,a5,a6,a7] digSet=z at*;clear hbe;go_wp2_with fail;have hy:=DZ _ HD.out.1 4 (by simp);have hm:=DZ _ HD.out.2.1 2 (by simp);have hd':=DZ _ HD.out.2.2 2 (by simp);simp only[List.take_succ_cons,List.take_zero,List.drop_succ_cons,List.drop_zero,List.take_nil]at*;generalize hY:Ay [a0,a1,a2,a3]=Y at*;generalize hMM:Ay [a4,a5]=M at*;generalize hDD:Ay [a6,a7]=D at*;have HN:=I (X hY (X hMM hDD));clear hY hMM hDD;have hx1:({data:=#[a0,a1,a2,a3,a4,a5,a6,a7]}:ByteArray).extract 0 4={data:=#[a0,a1,a2,a3]}:=rfl;have hx2:({data:=#[a0,a1,a2,a3,a4,a5,a6,a7]}:ByteArray).extract 4 6={data:=#[a4,a5]}:=rfl;have hx3:({data:=#[a0,a1,a2,a3,a4,a5,a6,a7]}:ByteArray).extract 6 8={data:=#[a6,a7]}:=rfl;have hda:=Mh Y M D (by omega) (by omega) (by omega) (by omega) (by omega) (by omega)
    have hv1:∀w,Calls Tryz.prog 275 #[.string ⟨#[a0,a1,a2,a3]⟩] w fun e w'=>e= .returned (.int .i64 Y)∧w.grownBy w' none:=fun w=>by rw[←HN.out.1];exact EQ [a0,a1,a2,a3] HD.out.1 (by simp) (by simp) w
    have hv2:∀w,Calls Tryz.prog 275 #[.string ⟨#[a4,a5]⟩] w fun e w'=>e= .returned (.int .i64 M)∧w.grownBy w' none:=fun w=>by rw[←HN.out.2.1];exact EQ [a4,a5] HD.out.2.1 (by simp) (by simp) w
    have hv3:∀w,Calls Tryz.prog 275 #[.string ⟨#[a6,a7]⟩] w fun e w'=>e= .returned (.int .i64 D)∧w.grownBy w' none:=fun w=>by rw[←HN.out.2.2];exact EQ [a6,a7] HD.out.2.2 (by simp) (by simp) w
    have HV:=I (X hda (X hv1 (X hv2 hv3)));clear hda hv1 hv2 hv3;go_region_with(first| (go_at_call 274;with_reducible refine(HV.out.1 _).mono ?_;rintro e w5 ⟨rfl,g5⟩)| (with_reducible refine(HV.out.2.1 _).mono ?_;rintro e w2 ⟨rfl,g2⟩)| (with_reducible refine(HV.out.2.2.1 _).mono ?_;rintro e w3 ⟨rfl,g3⟩)| (with_reducible refine(HV.out.2.2.2 _).mono ?_;rintro e w4 ⟨rfl,g4⟩));all_goals
     go_wp2;exact bodyPost_ret (v:= .tuple #[.int .i64 (Bk Y M D).1,.bool ((Bk Y M D).2==0)]) (by simp[results,results241,go_sem]) rfl ⟨by rw[←HN.out.1,←HN.out.2.1,←HN.out.2.2];rfl,O (O (O (O (Aj hgb) g2) g3) g4) g5⟩
 ·have hm:Bq s=(0,false):=by simp[Bq,hb,h8]
  rw[hm];have h8n:((s.length:Int)==8)=false:=by simp;omega
  have h8m:((s.length:Int) !=8)=true:=by simp;omega
  go_enter func241,ntmps241;go_wp2;exact bodyPost_ret (v:= .tuple #[.int .i64 0,.bool false]) (by simp[results,results241,go_sem]) rfl ⟨rfl,Ac _ _⟩
def B0(b:Nat):Int:=
 if b=9∨b=32 then 3 else if b=95∨(97≤b∧b≤122)∨(65≤b∧b≤90)then 1 else if 48≤b∧b≤57 then 2 else if b≠10∧(b<32∨126<b)then 4 else 0
def cls(c:Int)(b:UInt8):Bool:=B0 b.toNat==c
def Au(b:UInt8):Bool:=cls 1 b||cls 2 b
def bAt(s:Bs)(i:Nat):UInt8:=(s[i]?).getD 0
theorem D0{s:Bs}{i:Nat}(h:i<s.length):bAt s i=s[i]:=by simp[bAt,h]
def Ag(s:Bs)(p:UInt8→Bool)(i:Nat):Nat:=i+((s.drop i).takeWhile p).length
theorem D9{s:Bs}{i:Nat}(h:i<s.length):s.drop i=bAt s i::s.drop (i+1):=by rw[D0 h];exact List.drop_eq_getElem_cons h
theorem Cr{s:Bs}{p:UInt8→Bool}{i:Nat}(h:s.length≤i):Ag s p i=i:=by simp[Ag,List.drop_eq_nil_of_le h]
theorem Cd{s:Bs}{p:UInt8→Bool}{i:Nat}(h:i<s.length)(hp:p (bAt s i)=false):Ag s p i=i:=by
 simp[Ag,D9 h,hp]
theorem B4{s:Bs}{p:UInt8→Bool}{i:Nat}(h:i<s.length)(hp:p (bAt s i)=true):Ag s p i=Ag s p (i+1):=by
 simp[Ag,D9 h,hp];omega
theorem Bm(s:Bs)(p:UInt8→Bool)(i:Nat):i≤Ag s p i:=Nat.le_add_right _ _
theorem BE{s:Bs}{p:UInt8→Bool}{i:Nat}(h:i≤s.length):Ag s p i≤s.length:=by
 have h1:((s.drop i).takeWhile p).length≤(s.drop i).length:=(List.takeWhile_sublist p).length_le;simp at h1;unfold Ag;omega
theorem EN{s:Bs}{p:UInt8→Bool}{i:Nat}(h:Ag s p i<s.length):p (bAt s (Ag s p i))=false:=by
 induction hn:s.length-i generalizing i with
 |zero=>have:=Bm s p i;omega
 | succ n ih=>
   have hi:i<s.length:=by omega
   cases hp:p (bAt s i)with
   |false=>rw[Cd hi hp];exact hp
   | true=>
     rw[B4 hi hp]at h ⊢;exact ih h (by omega)
theorem DV{s:Bs}{p:UInt8→Bool}{i j:Nat}(h1:i≤j)(h2:j<Ag s p i):j<s.length∧p (bAt s j)=true:=by
 induction hn:s.length-i generalizing i with
 |zero=>rw[Cr (by omega)]at h2;omega
 | succ n ih=>
   have hi:i<s.length:=by omega
   cases hp:p (bAt s i)with
   |false=>rw[Cd hi hp]at h2;omega
   | true=>
     by_cases e:i=j
     ·subst e;exact⟨hi,hp⟩
     ·rw[B4 hi hp]at h2;exact ih (by omega) h2 (by omega)
theorem FZ{s:Bs}{p q:UInt8→Bool}(h:∀b,p b=true→q b=true)(i:Nat):Ag s p i≤Ag s q i:=by
 induction hn:s.length-i generalizing i with
 |zero=>rw[Cr (by omega),Cr (by omega)];exact Nat.le_refl _
 | succ n ih=>
   have hi:i<s.length:=by omega
   cases hp:p (bAt s i)with
   |false=>rw[Cd hi hp];exact Bm _ _ _
   | true=>
     rw[B4 hi hp,B4 hi (h _ hp)];exact ih _ (by omega)
def Aq(s:Bs)(i j:Nat):Bs:=(s.drop i).take (j-i)
theorem CC{s:Bs}{i j:Nat}(h1:i≤j)(h2:j≤s.length):(Aq s i j).length=j-i:=by simp[Aq];omega
theorem KE{s:Bs}{i j k:Nat}(h:k<j-i):(Aq s i j)[k]? =s[i+k]?:=by
 simp[Aq,h]
def A7(s:Bs)(i:Nat):Nat:=Ag s (cls 3) i
def Ah(s:Bs)(i:Nat):Nat:=Ag s (fun b=>b !=10) i
def CR(s:Bs)(i:Nat):Nat:=Ag s (fun b=>b !=10&&!cls 4 b) i
theorem Me(s:Bs)(i:Nat):CR s i≤Ah s i:=FZ (by intro b hb;simp at hb ⊢;exact hb.1) i
def B2(s:Bs)(i:Nat):Bool:=[38,38].isPrefixOf (s.drop i)
def signsL:List Bs:=[[46,78,85,76,76,46],[46,65,78,68,46],[46,78,79,84,46],[46,79,82,46],[46,84,46],[46,70,46],[58,61],[61,61],[60,62],[33,61],[60,61],[62,61],[45,62],[40],[41],[91],[93],[123],[125],[44],[124],[58],[46],[61],[35],[60],[62],[43],[45],[42],[47],[37],[94],[36],[38],[63],[64],[33]]
def BR(s:Bs)(i:Nat)(w:Bs):Bool:=decide (i+w.length≤s.length)&&Lib.toUpperA (Aq s i (i+w.length))==w
def Ck(s:Bs)(i:Nat):Option Bs:=signsL.find? (BR s i)
def Ci(t:Bs):Bs:=Aq t 2 6++Aq t 7 9++Aq t 10 12
def BW(t:Bs):Bool:=decide (13≤t.length)&&t.take 2==[123,94]&&bAt t 6==45&&bAt t 9==45&&bAt t 12==125
def AV(t:Bs):Option (Bs×Nat):=
 if [123,125].isPrefixOf t then some ([],2)
 else if BW t then(if(Bq (Ci t)).2&&Ci t !=Co then some (Ci t,13)else none)
 else none
inductive St where
 |tok (t:Tok) (at':Nat) (line:Bool)
 |again (at':Nat) (line:Bool)
 |stop
 |bad (k:Nat)
def Cn(s:Bs)(i:Nat):St:=
 let q:=Ag s (fun b=>b !=10&&b !=bAt s i) (i+1)
 if q<s.length∧bAt s q≠10 then
  (if Ag (Aq s (i+1) q) (fun b=>!cls 4 b) 0<q-(i+1)then .bad (i+1+Ag (Aq s (i+1) q) (fun b=>!cls 4 b) 0)else .tok ⟨2,i,Aq s (i+1) q⟩ (q+1) true)
 else .bad i
def AP(s:Bs)(i:Nat):St:=
 if cls 1 (bAt s i)then(if 24<Ag s Au i-i then .bad i else .tok ⟨0,i,Lib.toUpperA (Aq s i (Ag s Au i))⟩ (Ag s Au i) true)
 else if cls 2 (bAt s i)then(if 15<Ag s (cls 2) i-i then .bad i else .tok ⟨1,i,Aq s i (Ag s (cls 2) i)⟩ (Ag s (cls 2) i) true)
 else if bAt s i=34∨bAt s i=39 then Cn s i
 else match AV (s.drop i)with
  |some (d,n)=> .tok ⟨3,i,d⟩ (i+n) true
  | none=>match Ck s i with
    |some w=> .tok ⟨4,i,w⟩ (i+w.length) true
    |none=> .bad i
def Bc(s:Bs)(i:Nat):Option Nat:=if CR s i<Ah s i then some (CR s i)else none
def Bl(s:Bs)(i:Nat):Nat:=if Ah s i<s.length then Ah s i+1 else Ah s i
def BB(s:Bs)(k:Nat):Bool:=decide (s.length≤k)||bAt s k==10||B2 s k
def A5(s:Bs)(i:Nat)(line:Bool):St:=
 if s.length≤i then(if line then .tok ⟨5,i,[]⟩ i false else .stop)
 else if bAt s i=10 then(if line then .tok ⟨5,i,[]⟩ (i+1) false else .again (i+1) false)
 else if cls 3 (bAt s i)then .again (i+1) line
 else if(bAt s i==42&&!line)||B2 s i then
  match Bc s i with
  |some k=> .bad k
  |none=> .again (Ah s i) line
 else if bAt s i=59 then
  (if BB s (A7 s (i+1))then
   match Bc s (A7 s (i+1))with
   |some k=> .bad k
   |none=> .again (Bl s (A7 s (i+1))) line
  else .bad i)
 else AP s i
inductive NR where
 |tok (t:Tok) (at':Nat) (line:Bool) (n:Nat)
 |stop
 |bad (k:Nat)
 |out
def A2(s:Bs):Nat→Nat→Bool→NR
 | 0,_,_=> .out
 | n+1,i,line=>match A5 s i line with
   | .tok t j l=> .tok t j l n
   | .again j l=>A2 s n j l
   | .stop=> .stop
   | .bad k=> .bad k
inductive LexR where
 |ok (l:List Tok)
 |bad (k:Nat)
 |out
def LexR.cons(t:Tok):LexR→LexR
 | .ok l=> .ok (t::l)
 | .bad k=> .bad k
 | .out=> .out
def LexR.pre(p:List Tok):LexR→LexR
 | .ok l=> .ok (p++l)
 | .bad k=> .bad k
 | .out=> .out
theorem LexR.pre_nil(r:LexR):r.pre []=r:=by cases r<;>rfl
theorem LexR.pre_cons(p:List Tok)(t:Tok)(r:LexR):(r.cons t).pre p=r.pre (p++[t]):=by cases r<;>simp[LexR.cons,LexR.pre]
def AO(s:Bs):Nat→Nat→Bool→LexR
 | 0,_,_=> .out
 | n+1,i,line=>match A5 s i line with
   | .tok t j l=>(AO s n j l).cons t
   | .again j l=>AO s n j l
   | .stop=> .ok []
   | .bad k=> .bad k
theorem E4(s:Bs):∀n i line,AO s n i line=match A2 s n i line with
 | .tok t j l m=>(AO s m j l).cons t
 | .stop=> .ok []
 | .bad k=> .bad k
 | .out=> .out:=by
 intro n;induction n with
 |zero=>intro i line;rfl
 | succ n ih=>
   intro i line;rw[AO,A2];cases A5 s i line with
   |tok t j l=>rfl
   |again j l=>exact ih j l
   |stop=>rfl
   |bad k=>rfl
theorem Gj{t:Bs}{d:Bs}{n:Nat}(h:AV t=some (d,n)):2≤n∧n≤t.length:=by
 unfold AV at h;split at h
 ·rename_i h1;have:=(List.isPrefixOf_iff_prefix.1 h1).length_le;simp at h this;omega
 ·split at h
  ·rename_i h2;simp[BW]at h2;split at h
   ·simp at h;omega
   ·simp at h
  ·simp at h
theorem DI{w:Bs}(h:w∈signsL):1≤w.length∧w.length≤6:=by
 have:signsL.all (fun w=>decide (1≤w.length)&&decide (w.length≤6))=true:=by decide
 have:=List.all_eq_true.1 this w h;simpa using this
theorem Gc{s:Bs}{i:Nat}{w:Bs}(h:Ck s i=some w):w∈signsL∧i+w.length≤s.length∧Lib.toUpperA (Aq s i (i+w.length))=w:=by
 have h1:=List.mem_of_find?_eq_some h;have h2:=List.find?_some h;simp[BR]at h2;exact⟨h1,h2.1,h2.2⟩
theorem J6{s:Bs}{i:Nat}(h:i<s.length)(h10:bAt s i≠10):i<Ah s i:=by
 unfold Ah;rw[B4 h (by simpa using h10)];exact Bm _ _ _
theorem IA(s:Bs)(i:Nat):i≤Bl s i:=by
 unfold Bl;have:=Bm s (fun b=>b !=10) i;change i≤Ah s i at this;split<;>omega
theorem IB{s:Bs}{i:Nat}(h:i≤s.length):Bl s i≤s.length:=by
 unfold Bl;have:Ah s i≤s.length:=BE h;split<;>omega
def Fc(s:Bs)(i:Nat)(line:Bool):St→Prop
 | .tok _ j l=>i≤j∧j≤s.length∧2*(s.length-j)+l.toNat<2*(s.length-i)+line.toNat
 | .again j l=>i<j∧j≤s.length∧2*(s.length-j)+l.toNat<2*(s.length-i)+line.toNat
 | .stop=>i=s.length∧line=false
 | .bad k=>k<s.length
theorem IF{s:Bs}{i:Nat}{line:Bool}(h:i<s.length):Fc s i line (Cn s i):=by
 unfold Cn;have h1:=Bm s (fun b=>b !=10&&b !=bAt s i) (i+1);simp only[];split
 ·rename_i h2;split
  ·rename_i h3;show _<s.length;omega
  ·refine⟨by omega,by omega,?_⟩;simp only[Bool.toNat_true];omega
 ·exact h
theorem IM{s:Bs}{i:Nat}{line:Bool}(h:i<s.length):Fc s i line (AP s i):=by
 unfold AP;split
 ·rename_i h1;have h2:=B4 (p:=Au) h (by simp[Au,h1]);have h3:=Bm s Au (i+1);have h4:=BE (p:=Au) (Nat.le_of_lt h);split
  ·exact h
  ·refine⟨by omega,by omega,?_⟩;simp only[Bool.toNat_true];omega
 ·split
  ·rename_i h1;have h2:=B4 (p:=cls 2) h h1;have h3:=Bm s (cls 2) (i+1);have h4:=BE (p:=cls 2) (Nat.le_of_lt h);split
   ·exact h
   ·refine⟨by omega,by omega,?_⟩;simp only[Bool.toNat_true];omega
  ·split
   ·exact IF h
   ·cases hd:AV (s.drop i)with
    | some p=>
      obtain⟨d,n⟩:=p;have:=Gj hd;simp at this;refine⟨by omega,by omega,?_⟩;simp only[Bool.toNat_true];omega
    | none=>
      cases hs:Ck s i with
      |none=>exact h
      | some w=>
        obtain⟨h1,h2,_⟩:=Gc hs;have:=DI h1;refine⟨by omega,by omega,?_⟩;simp only[Bool.toNat_true];omega
theorem F3{s:Bs}{i k:Nat}(h:i≤s.length)(hc:Bc s i=some k):k<s.length:=by
 unfold Bc at hc;have:Ah s i≤s.length:=BE h;split at hc
 ·simp at hc;omega
 ·simp at hc
theorem Iz(s:Bs){i:Nat}(line:Bool)(h:i≤s.length):Fc s i line (A5 s i line):=by
 unfold A5;split
 ·have e:i=s.length:=by omega
  cases line with
  |true=>exact⟨by omega,by omega,by simp⟩
  |false=>exact⟨e,rfl⟩
 ·rename_i hi;split
  ·cases line with
   |true=>exact⟨by omega,by omega,by simp;omega⟩
   |false=>exact⟨by omega,by omega,by simp;omega⟩
  ·rename_i h10;split
   ·exact⟨by omega,by omega,by omega⟩
   ·split
    ·cases hc:Bc s i with
     |some k=>exact F3 h hc
     | none=>
       have h1:=J6 (by omega) h10;have h2:Ah s i≤s.length:=BE h;exact⟨by omega,by omega,by omega⟩
    ·split
     ·have h1:i+1≤A7 s (i+1):=Bm _ _ _;have h2:A7 s (i+1)≤s.length:=BE (by omega);split
      ·cases hc:Bc s (A7 s (i+1))with
       |some k=>exact F3 h2 hc
       | none=>
         have h3:=IA s (A7 s (i+1));have h4:=IB h2;exact⟨by omega,by omega,by omega⟩
      ·show _<_;omega
     ·exact IM (by omega)
theorem JI(s:Bs):∀n i line,i≤s.length→2*(s.length-i)+line.toNat<n→match A2 s n i line with
 | .tok _ j l m=>j≤s.length∧2*(s.length-j)+l.toNat<m
 | .stop=>True
 | .bad k=>k<s.length
 | .out=>False:=by
 intro n;induction n with
 |zero=>intro i line _ h;omega
 | succ n ih=>
   intro i line hi hn;have hg:=Iz s line hi;unfold A2;cases hs:A5 s i line with
   |tok t j l=>rw[hs]at hg;exact⟨hg.2.1,by have:=hg.2.2;omega⟩
   |again j l=>rw[hs]at hg;exact ih j l hg.2.1 (by have:=hg.2.2;omega)
   |stop=>trivial
   |bad k=>rw[hs]at hg;exact hg
def Az(k:Nat):List Value:=(List.range 256).map fun j=> .int .u8 (if j<k then B0 j else 0)
theorem DK(k j:Nat)(hj:j<256):(Az k)[j]? =some (.int .u8 (if j<k then B0 j else 0)):=by simp[Az,hj]
theorem Dd(k:Nat):(Az k).length=256:=by simp[Az]
def C1(s:Bs)(i:Int)(line begun:Bool)(bad:Int):List Value:=str s :: .int .i64 i::(Az 256++[.bool line,.bool begun,.int .i64 bad])
theorem II(s:Bs)(i:Int)(line begun:Bool)(bad:Int)(j:Nat)(hj:j<256):(C1 s i line begun bad)[2+j]? =some (.int .u8 (B0 j)):=by
 rw[show 2+j=j+1+1 by omega];simp only[C1,List.getElem?_cons_succ];rw[List.getElem?_append_left (by rw[Dd];exact hj),DK _ _ hj];simp[hj]
theorem EJ(s:Bs)(i:Int)(line begun:Bool)(bad:Int)(j:Nat):(C1 s i line begun bad)[258+j]? =[.bool line,.bool begun,.int .i64 bad][j]?:=by
 rw[show 258+j=256+j+1+1 by omega];simp only[C1,List.getElem?_cons_succ];rw[List.getElem?_append_right (by rw[Dd];omega),Dd,show 256+j-256=j by omega]
theorem Ku(s:Bs)(i j:Int)(line begun:Bool)(bad:Int):(C1 s i line begun bad).set 1 (.int .i64 j)=C1 s j line begun bad:=rfl
theorem Et(s:Bs)(i:Int)(line begun:Bool)(bad:Int)(j:Nat)(v:Value):(C1 s i line begun bad).set (258+j) v=str s :: .int .i64 i::(Az 256++[.bool line,.bool begun,.int .i64 bad].set j v):=by
 rw[show 258+j=256+j+1+1 by omega];simp only[C1,List.set_cons_succ];rw[List.set_append_right _ _ (by rw[Dd];omega),Dd,show 256+j-256=j by omega]
structure Sc(w:World)(b:Nat)(s:Bs)(i:Nat)(line begun:Bool)(bad:Int):Prop where
 blk:Blk w b (C1 s i line begun bad) 102
 le:i≤s.length
 few:s.length≤4000
section
variable {w w1:World}{b:Nat}{s:Bs}{i:Nat}{line begun:Bool}{bad:Int}
theorem Sc.lt(h:Sc w b s i line begun bad):b<w.heap.size:=h.blk.lt
theorem Sc.c0(h:Sc w b s i line begun bad):w.cell? ⟨b,0,none⟩=some (str s):=h.blk.cell 0
theorem Sc.c1(h:Sc w b s i line begun bad):w.cell? ⟨b,1,none⟩=some (.int .i64 i):=h.blk.cell 1
theorem Sc.cls(h:Sc w b s i line begun bad)(x:UInt8):w.cell? ⟨b,2+x.toNat,none⟩=some (.int .u8 (B0 x.toNat)):=(h.blk.cell _).trans (II _ _ _ _ _ _ x.toNat_lt)
theorem Sc.c258(h:Sc w b s i line begun bad):w.cell? ⟨b,258,none⟩=some (.bool line):=(h.blk.cell _).trans (EJ _ _ _ _ _ 0)
theorem Sc.c259(h:Sc w b s i line begun bad):w.cell? ⟨b,259,none⟩=some (.bool begun):=(h.blk.cell _).trans (EJ _ _ _ _ _ 1)
theorem Sc.c260(h:Sc w b s i line begun bad):w.cell? ⟨b,260,none⟩=some (.int .i64 bad):=(h.blk.cell _).trans (EJ _ _ _ _ _ 2)
theorem Sc.fr(h:Sc w b s i line begun bad)(k:Nat):w.frozen? ⟨b,k,none⟩=false:=h.blk.frozen k
theorem Sc.gb{r:Option Nat}(h:Sc w b s i line begun bad)(g:w.grownBy w1 r)(hr:some b≠r):Sc w1 b s i line begun bad:=⟨h.blk.gb g hr,h.le,h.few⟩
theorem Sc.gbN(h:Sc w b s i line begun bad)(g:w.grownBy w1 none):Sc w1 b s i line begun bad:=h.gb g (by simp)
theorem Sc.alloc(h:Sc w b s i line begun bad)(o:Obj):Sc (w.alloc o) b s i line begun bad:=h.gbN (World.grownBy_alloc w o none)
theorem Sc.drewN(h:Sc w b s i line begun bad)(n:Nat):Sc (w.drewN n) b s i line begun bad:=h.gbN (AH (Ac w none) n)
theorem Sc.go(h:Sc w b s i line begun bad)(z:Int)(j:Nat)(hz:z=j)(hj:j≤s.length):Sc (w.setCell ⟨b,1,none⟩ (.int .i64 z)) b s j line begun bad:=by
 subst hz;exact⟨(h.blk.set 1 _).of_eq rfl (Ku _ _ _ _ _ _),hj,h.few⟩
theorem Sc.at_eq{j:Nat}(h:Sc w b s i line begun bad)(e:i=j):Sc w b s j line begun bad:=e ▸ h
theorem Sc.setLine(h:Sc w b s i line begun bad)(l:Bool):Sc (w.setCell ⟨b,258,none⟩ (.bool l)) b s i l begun bad:=⟨(h.blk.set 258 _).of_eq rfl (Et _ _ _ _ _ 0 _),h.le,h.few⟩
theorem Sc.setBegun(h:Sc w b s i line begun bad)(l:Bool):Sc (w.setCell ⟨b,259,none⟩ (.bool l)) b s i line l bad:=⟨(h.blk.set 259 _).of_eq rfl (Et _ _ _ _ _ 1 _),h.le,h.few⟩
theorem Sc.setBad(h:Sc w b s i line begun bad)(k:Int):Sc (w.setCell ⟨b,260,none⟩ (.int .i64 k)) b s i line begun k:=⟨(h.blk.set 260 _).of_eq rfl (Et _ _ _ _ _ 2 _),h.le,h.few⟩
theorem Sc.set_other(h:Sc w b s i line begun bad)(a:Addr)(v:Value)(hne:b≠a.block):Sc (w.setCell a v) b s i line begun bad:=⟨h.blk.set_other a v hne,h.le,h.few⟩
end
theorem Dj(s:Bs)(k:Nat)(h:k<(⟨s.toArray⟩:ByteArray).size)(h2:k<s.length):(⟨s.toArray⟩:ByteArray)[k]'h=bAt s k:=by rw[D0 h2];rfl
theorem GM(x:UInt8):x.toNat<256:=x.toNat_lt
theorem N6{w:World}{b:Nat}{s:Bs}{i:Nat}{line begun:Bool}{bad:Int}(h:Sc w b s i line begun bad)(k:Nat)(c:Int):
 Calls Tryz.prog 194 #[.pointer (some ⟨b,0,none⟩),.int .i64 k,.int .u8 c] w fun e w'=>e= .returned (.bool (decide (k<s.length)&&(B0 (bAt s k).toNat==c)))∧w.grownBy w' none:=by
 have c0:=h.c0;have hb:=h.lt;have hf:=h.few;by_cases hk:k<s.length
 ·have cc:=h.cls (bAt s k);have hg:=fun h=>Dj s k h hk;have hx:=GM (bAt s k);generalize bAt s k=x at*;have hk1:decide ((k:Int)<s.length)=true:=by simp;omega
  generalize hn:s.length=n at*;clear h;go_enter func194,ntmps194;go_wp2;go_quiet(fail);go_wp2;go_ret;exact⟨by simp[hk],(by repeat(first| (with_reducible exact Ac _ _)| (with_reducible assumption)| (with_reducible exact AW (by assumption))| (with_reducible refine Aa ?_ _)| (with_reducible refine Aj ?_)| (with_reducible refine AH ?_ _)| ((with_reducible refine Ax ?_ _ _ ?h2);case h2=>first|exact .inl rfl|exact .inr (Nat.le_refl _)|exact .inr (by simp<;>omega))| (with_reducible refine Ae ?_ (by assumption))| (with_reducible refine O ?_ (by assumption))))⟩
 ·have hk1:decide ((k:Int)<s.length)=false:=by simp;omega
  generalize hn:s.length=n at*;clear h;go_enter func194,ntmps194;go_wp2;go_quiet(fail);go_wp2;go_ret;exact⟨by simp[hk],(by repeat(first| (with_reducible exact Ac _ _)| (with_reducible assumption)| (with_reducible exact AW (by assumption))| (with_reducible refine Aa ?_ _)| (with_reducible refine Aj ?_)| (with_reducible refine AH ?_ _)| ((with_reducible refine Ax ?_ _ _ ?h2);case h2=>first|exact .inl rfl|exact .inr (Nat.le_refl _)|exact .inr (by simp<;>omega))| (with_reducible refine Ae ?_ (by assumption))| (with_reducible refine O ?_ (by assumption))))⟩
theorem B3{w:World}{b:Nat}{s:Bs}{i:Nat}{line begun:Bool}{bad:Int}(h:Sc w b s i line begun bad)(k:Nat)(c:Int){r:Bool}(hr:(decide (k<s.length)&&cls c (bAt s k))=r):
 Calls Tryz.prog 194 #[.pointer (some ⟨b,0,none⟩),.int .i64 k,.int .u8 c] w fun e w'=>e= .returned (.bool r)∧w.grownBy w' none:=by
 subst hr;exact N6 h k c
theorem LR{w:World}{b:Nat}{s:Bs}{i:Nat}{line begun:Bool}{bad:Int}(h:Sc w b s i line begun bad):
 Calls Tryz.prog 152 #[.pointer (some ⟨b,0,none⟩)] w fun e w'=>e= .returned (.tuple #[])∧Sc w' b s (A7 s i) line begun bad∧w.grownBy w' (some b):=by
 go_enter func152,ntmps152;go_wp2_with fail;have hi:=h.le;go_loopg [] (s.length-i) (fun g wr=>∃k:Nat,k+g=s.length∧Sc wr b s k line begun bad∧A7 s k=A7 s i∧w.grownBy wr (some b))
 case atStart=>exact⟨i,by omega,h,rfl,Ac _ _⟩
 case round=>
  obtain⟨k,hk,hs,hq,g⟩:=hrel;have HQ:=I hq;clear hq h hi;have hc1:=hs.c1;have hb:=hs.lt;cases hc:(decide (k<s.length)&&cls 3 (bAt s k))with
  | true=>
    simp only[Bool.and_eq_true,decide_eq_true_eq]at hc;cases gk with
    |zero=>omega
    |succ gk=>
    have HC:=I hc.2;have hkl:=hc.1;clear hc;go_wp2_with fail;refine(B3 hs k 3 (r:=true) (by simp[hkl,HC.out])).mono ?_;rintro e w1 ⟨rfl,g1⟩;have hs1:=hs.gbN g1;have c1:=hs1.c1;have f1:=hs1.fr 1;have hf:=hs.few;go_wp2;go_roundg gk
    case measure=>omega
    case rel=>exact⟨k+1,by omega,hs1.go _ (k+1) (by omega) (by omega),by rw[←HQ.out];exact(B4 hkl HC.out).symm,Ax (Ae g g1) _ _ (.inl rfl)⟩
  | false=>
    have HC:=I hc;go_wp2_with fail;refine(B3 hs k 3 (r:=false) HC.out).mono ?_;rintro e w1 ⟨rfl,g1⟩;have hs1:=hs.gbN g1;have hk2:A7 s k=k:=by
     have h2:=HC.out;by_cases hkl:k<s.length
     ·exact Cd hkl (by simpa[hkl]using h2)
     ·exact Cr (by omega)
    have HK:=I (hk2.symm.trans HQ.out);clear hk2;go_wp2;go_end0;exact⟨rfl,hs1.at_eq HK.out,Ae g g1⟩
theorem C0(s:Bs)(i j:Nat):(⟨s.toArray⟩:ByteArray).extract i j=⟨((s.drop i).take (j-i)).toArray⟩:=by
 apply ByteArray.ext;apply Array.ext';rw[Lib.extract_data]
theorem DX(s:Bs)(i:Nat):(⟨s.toArray⟩:ByteArray).extract i s.length=⟨(s.drop i).toArray⟩:=by
 rw[C0,List.take_of_length_le (by simp)]
theorem M9(s:Bs)(c:UInt8)(k:Nat):Lib.indexByte (s.drop k) c=if Ag s (fun b=>b !=c) k<s.length then((Ag s (fun b=>b !=c) k-k:Nat):Int)else -1:=by
 induction hn:s.length-k generalizing k with
 |zero=>rw[Cr (by omega),List.drop_eq_nil_of_le (by omega),if_neg (by omega)];rfl
 | succ n ih=>
   have hk:k<s.length:=by omega
   rw[D9 hk,Lib.indexByte];cases hc:(bAt s k==c)with
   | true=>
     rw[Cd hk (by simpa using hc)];simp[hk]
   | false=>
     rw[B4 hk (by simpa using hc),ih (k+1) (by omega)];have h1:=Bm s (fun b=>b !=c) (k+1);by_cases h2:Ag s (fun b=>b !=c) (k+1)<s.length
     ·simp only[if_pos h2];simp only[Bool.false_eq_true,if_false];rw[if_neg (by simp;try omega)];omega
     ·simp[h2]
theorem Er{w:World}{b:Nat}{s:Bs}{i:Nat}{line begun:Bool}{bad:Int}(h:Sc w b s i line begun bad)(k:Nat)(hk:k≤s.length):
 Calls Tryz.prog 196 #[.pointer (some ⟨b,0,none⟩),.int .i64 k] w fun e w'=>e= .returned (.int .i64 (Ah s k))∧w=w':=by
 have c0:=h.c0;have hb:=h.lt;have hf:=h.few;have H0:=M9 s 10 k;have hr:=Bm s (fun b=>b !=10) k;have hr2:=BE (p:=fun b=>b !=10) hk;have hkI:decide ((k:Int)≤s.length)=true:=by simp;omega
 rw[show Ag s (fun b=>b !=10) k=Ah s k from rfl]at*;by_cases hl:Ah s k<s.length
 ·rw[if_pos hl]at H0;obtain⟨d,hd⟩:∃d,Ah s k=k+d:=⟨Ah s k-k,by omega⟩;rw[hd]at H0 ⊢;rw[show k+d-k=d by omega]at H0;rw[hd]at hl hr2;have H:=I H0;clear H0 hd;go_enter func196,ntmps196;go_wp2_with fail;refine(strings_IndexByte _ _ _).mono ?_;rintro e w1 ⟨rfl,rfl⟩;rw[DX];rw[show Lib.indexByte (ByteArray.mk (List.drop k s).toArray).data.toList ((10:Int).toNat.toUInt8)=_ from H.out];go_wp2;go_ret;exact⟨by simp,rfl⟩
 ·have he:Ah s k=s.length:=by omega
  rw[if_neg hl]at H0;rw[he];have H:=I H0;clear H0 he;go_enter func196,ntmps196;go_wp2_with fail;refine(strings_IndexByte _ _ _).mono ?_;rintro e w1 ⟨rfl,rfl⟩;rw[DX];rw[show Lib.indexByte (ByteArray.mk (List.drop k s).toArray).data.toList ((10:Int).toNat.toUInt8)=_ from H.out];go_wp2;go_ret;exact⟨rfl,rfl⟩
def Io(w:World)(b:Nat)(s:Bs)(i:Nat)(line begun:Bool)(bad:Int)(e:Ending)(w':World):Prop:=w.grownBy w' (some b)∧match Bc s i with
 |some k=>e= .returned (.bool false)∧∃j,Sc w' b s j line begun k
 |none=>e= .returned (.bool true)∧Sc w' b s (Ah s i) line begun bad
theorem De{w:World}{b:Nat}{s:Bs}{i:Nat}{line begun:Bool}{bad:Int}(h:Sc w b s i line begun bad):
 Calls Tryz.prog 155 #[.pointer (some ⟨b,0,none⟩)] w (Io w b s i line begun bad):=by
 have hi:=h.le;have c1:=h.c1;have hle:Ah s i≤s.length:=BE hi;have hge:i≤Ah s i:=Bm _ _ _;go_enter func155,ntmps155;go_wp2_with fail;refine(Er h i hi).mono ?_;rintro e w1 ⟨rfl,rfl⟩;go_wp2_with fail;go_loopg [] (Ah s i-i) (fun g wr=>∃k:Nat,k+g=Ah s i∧i≤k∧Sc wr b s k line begun bad∧CR s k=CR s i∧w.grownBy wr (some b))
 case atStart=>exact⟨i,by omega,Nat.le_refl _,h,rfl,Ac _ _⟩
 case round=>
  obtain⟨k,hk,hik,hs,hq,g⟩:=hrel;have HQ:=I hq;have HL:=I hle;clear hq h hi c1 hle;have c1:=hs.c1;have hf:=hs.few;have hb:=hs.lt;cases gk with
  | zero=>
    have HM:=I (show Bc s i=none by unfold Bc;rw[if_neg (by have h1:=Me s i;have h2:=Bm s (fun b=>b !=10&&!cls 4 b) k;change k≤CR s k at h2;rw[HQ.out]at h2;omega)]);have hs':=hs.at_eq (show k=Ah s i by omega);have hkI:(k:Int)=Ah s i:=by omega
    have hkI2:decide (k<Ah s i)=false:=by simp;omega
    clear hk hkI;go_wp2;go_ret;exact⟨g,by rw[HM.out];exact⟨rfl,hs'⟩⟩
  | succ gk=>
    have hlt:k<Ah s i:=by omega
    have h10:=DV hik hlt;have HT:=I h10;have hkl:=h10.1;have hltI:decide ((k:Int)<Ah s i)=true:=by simp;omega
    clear h10;cases hc:cls 4 (bAt s k)with
    | true=>
      have HC:=I hc;have HM:=I (show Bc s i=some k by
       have h2:CR s k=k:=Cd hkl (by simp[HC.out]);rw[HQ.out]at h2;unfold Bc;rw[h2,if_pos hlt])
      clear hc;go_wp2_with fail;refine(B3 hs k 4 (r:=true) (by simp[hkl,HC.out])).mono ?_;rintro e w1 ⟨rfl,g1⟩;have hs1:=hs.gbN g1;have d1:=hs1.c1;have f1:=hs1.fr 260;have c260:=hs1.c260;go_wp2;go_ret;exact⟨Ax (Ae g g1) _ _ (.inl rfl),by rw[HM.out];exact⟨rfl,k,hs1.setBad k⟩⟩
    | false=>
      have HC:=I hc;clear hc;go_wp2_with fail;refine(B3 hs k 4 (r:=false) (by simp[hkl,HC.out])).mono ?_;rintro e w1 ⟨rfl,g1⟩;have hs1:=hs.gbN g1;have d1:=hs1.c1;have f1:=hs1.fr 1;go_wp2;go_roundg gk
      case measure=>omega
      case rel=>exact⟨k+1,by omega,by omega,hs1.go _ (k+1) (by omega) (by omega),by rw[←HQ.out];exact(B4 hkl (by simp[HC.out];simpa using HT.out.2)).symm,Ax (Ae g g1) _ _ (.inl rfl)⟩
end Go.Proofs.YtgjdhajcnechdaaGreatDoor
