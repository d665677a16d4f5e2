/-
  DateD LexM LexB LexA LexC CkB CdG Code: the sum of a text, on both sides.
-/
import Derived.Test.YtbjfaimkiclhgaaGreatDoorCt04
import Derived.Lib.Case
import Derived.Test.YtbjfaimkiclhgaaGreatDoorCt02
import Derived.Test.YtbjfaimkiclhgaaGreatDoorPlain
import Derived.Laws.Rows
import Derived.Test.YtbjfaimkiclhgaaGreatDoorCt03
import Derived.Deep.RegionWith
set_option linter.all false
set_option maxRecDepth 100000
set_option maxHeartbeats 8000000
namespace Go.Proofs.YtbjfaimkiclhgaaGreatDoor
open Go.Proofs.Tryz
open Go.RowKit
variable{s:Bs}{p:UInt8->Bool}{i j k b g G c:Nat}{w w1 wr:World}{line begun:Bool}{bad:Int}{r:Option Nat}{α:Type}
def FW:Bs:=[32,32,32,32,32,32,32,32]
def C6(s:Bs):Int×Bool:=
 if s=FW then(0,true)
 else if s.length≠8\/s.all AO=false then(0,false)
 else((BT (AA (s.take 4)) (AA ((s.drop 4).take 2)) (AA (s.drop 6))).1,(BT (AA (s.take 4)) (AA ((s.drop 4).take 2)) (AA (s.drop 6))).2==0)
def digSet:Bs:=[48,49,50,51,52,53,54,55,56,57]
def Tx(b:UInt8):digSet.contains b=AO b:=by
 rw[Bool.eq_iff_iff];constructor
 ·intro h;simp[digSet]at h;rcases h with h|h|h|h|h|h|h|h|h|h<;>subst h<;>decide
 ·intro h;simp[AO]at h;have:b.toNat=48\/b.toNat=49\/b.toNat=50\/b.toNat=51\/b.toNat=52\/b.toNat=53\/b.toNat=54\/b.toNat=55\/b.toNat=56\/b.toNat=57:=by omega
  rcases this with h|h|h|h|h|h|h|h|h|h<;>(have e:b=UInt8.ofNat b.toNat:=(by simp);rw[h]at e;rw[e];decide)
def NL(l:List UInt8):(Lib.trimS l digSet==[])=l.all AO:=by
 rw[MZ];congr 1;funext b;exact Tx b
def LP(s:Bs)(hs:s.length<=1000000)(w:World):
 Calls Tryz.prog 318 #[str s] w (ρ w (.tuple #[.int .i64 (C6 s).1,.bool (C6 s).2])):=by
 by_cases hb:s=FW
 ·subst hb;go_enter func318,ntmps318;go_wp2;exact bZ (v:= .tuple #[.int .i64 0,.bool true]) (by simp[results,results318,go_sem]) rfl ⟨rfl,Aa _ _⟩
 have hb':(s==[32,32,32,32,32,32,32,32])=false:=by simpa[FW]using hb
 by_cases h8:s.length=8
 ·have h8n:((s.length:Int)==8)=true:=by simp;omega
  have h8m:((s.length:Int) !=8)=false:=by simp;omega
  cases hd:s.all AO with
  | false=>
    have hm:C6 s=(0,false):=by simp only[C6,hb,if_false,hd];simp
    rw[hm];rw[<-NL]at hd;go_enter func318,ntmps318;go_wp2_with fail;refine(strings_Trim ⟨s.toArray⟩ ⟨digSet.toArray⟩ _ (by simp[ByteArray.size];omega) (by decide) (ascii_of_all (by decide))).mono ?_;rintro e w1 ⟨rfl,hbe⟩;have hgb:=gbB hbe none;change(Lib.trimS s digSet==[])=false at hd;rw[show Lib.trimS (ByteArray.mk s.toArray).data.toList (ByteArray.mk digSet.toArray).data.toList=Lib.trimS s digSet from rfl];generalize Lib.trimS s digSet=z at*;clear hbe;go_wp2;exact bZ (v:= .tuple #[.int .i64 0,.bool false]) (by simp[results,results318,go_sem]) rfl ⟨rfl,hgb⟩
  | true=>
    have hm:C6 s=((BT (AA (s.take 4)) (AA ((s.drop 4).take 2)) (AA (s.drop 6))).1,(BT (AA (s.take 4)) (AA ((s.drop 4).take 2)) (AA (s.drop 6))).2==0):=by
     simp only[C6,hb,if_false,hd,h8];simp
    rw[hm];clear hm;obtain⟨a0,a1,a2,a3,a4,a5,a6,a7,rfl⟩:∃a0 a1 a2 a3 a4 a5 a6 a7,s=[a0,a1,a2,a3,a4,a5,a6,a7]:=by
     match s,h8 with
     | [a0,a1,a2,a3,a4,a5,a6,a7],_=>exact⟨_,_,_,_,_,_,_,_,rfl⟩
    have hd4:[a0,a1,a2,a3].all AO=true/\[a4,a5].all AO=true/\[a6,a7].all AO=true:=by
     simp at hd ⊢;simp[hd]
    have HD:=S hd4;clear hd4;rw[<-NL]at hd;go_enter func318,ntmps318;go_wp2_with fail;refine mR (strings_Trim ⟨[a0,a1,a2,a3,a4,a5,a6,a7].toArray⟩ ⟨digSet.toArray⟩ _ (by simp[ByteArray.size]) (by decide) (ascii_of_all (by decide))) λw1 hbe=>?_;have hgb:=gbB hbe none;change(Lib.trimS [a0,a1,a2,a3,a4,a5,a6,a7] digSet==[])=true at hd;rw[show Lib.trimS (ByteArray.mk [a0,a1,a2,a3,a4,a5,a6,a7].toArray).data.toList (ByteArray.mk digSet.toArray).data.toList=Lib.trimS [a0,a1,a2,a3,a4,a5,a6,a7] digSet from rfl];generalize Lib.trimS [a0,a1,a2,a3,a4,a5,a6,a7] digSet=z at*;clear hbe;go_wp2_with fail;have hy:=IR _ HD.1.1 4 (by simp);have hm:=IR _ HD.1.2.1 2 (by simp);have hd':=IR _ HD.1.2.2 2 (by simp);simp only[List.take_succ_cons,List.take_zero,List.drop_succ_cons,List.drop_zero,List.take_nil]at*;generalize hY:AA [a0,a1,a2,a3]=Y at*;generalize hMM:AA [a4,a5]=M at*;generalize hDD:AA [a6,a7]=D at*;have HN:=S (X hY (X hMM hDD));clear hY hMM hDD;have hx1:({data:=#[a0,a1,a2,a3,a4,a5,a6,a7]}:ByteArray).extract 0 4={data:=#[a0,a1,a2,a3]}:=rfl;have hx2:({data:=#[a0,a1,a2,a3,a4,a5,a6,a7]}:ByteArray).extract 4 6={data:=#[a4,a5]}:=rfl;have hx3:({data:=#[a0,a1,a2,a3,a4,a5,a6,a7]}:ByteArray).extract 6 8={data:=#[a6,a7]}:=rfl;have hda:=WD Y M D (by omega) (by omega) (by omega) (by omega) (by omega) (by omega)
    have hv1:∀w,Calls Tryz.prog 342 #[.string ⟨#[a0,a1,a2,a3]⟩] w (ρ w (.int .i64 Y)):=λw=>by rw[<-HN.1.1];exact KY [a0,a1,a2,a3] HD.1.1 (by simp) (by simp) w
    have hv2:∀w,Calls Tryz.prog 342 #[.string ⟨#[a4,a5]⟩] w (ρ w (.int .i64 M)):=λw=>by rw[<-HN.1.2.1];exact KY [a4,a5] HD.1.2.1 (by simp) (by simp) w
    have hv3:∀w,Calls Tryz.prog 342 #[.string ⟨#[a6,a7]⟩] w (ρ w (.int .i64 D)):=λw=>by rw[<-HN.1.2.2];exact KY [a6,a7] HD.1.2.2 (by simp) (by simp) w
    have HV:=S (X hda (X hv1 (X hv2 hv3)));clear hda hv1 hv2 hv3;go_region_with(first| (go_at_call 341;with_reducible refine(HV.1.1 _).mono ?_;rintro e w5 ⟨rfl,g5⟩)| (with_reducible refine(HV.1.2.1 _).mono ?_;rintro e w2 ⟨rfl,g2⟩)| (with_reducible refine(HV.1.2.2.1 _).mono ?_;rintro e w3 ⟨rfl,g3⟩)| (with_reducible refine(HV.1.2.2.2 _).mono ?_;rintro e w4 ⟨rfl,g4⟩));all_goals
     go_wp2;exact bZ (v:= .tuple #[.int .i64 (BT Y M D).1,.bool ((BT Y M D).2==0)]) (by simp[results,results318,go_sem]) rfl ⟨by rw[<-HN.1.1,<-HN.1.2.1,<-HN.1.2.2];(try rfl),Z (Z (Z (Z (Ae hgb) g2) g3) g4) g5⟩
 ·have hm:C6 s=(0,false):=by simp[C6,hb,h8]
  rw[hm];have h8n:((s.length:Int)==8)=false:=by simp;omega
  have h8m:((s.length:Int) !=8)=true:=by simp;omega
  go_enter func318,ntmps318;go_wp2;exact bZ (v:= .tuple #[.int .i64 0,.bool false]) (by simp[results,results318,go_sem]) rfl ⟨rfl,Aa _ _⟩
def Cm(b:Nat):Int:=
 if b=9\/b=32 then 3 else if b=95\/(97<=b/\b<=122)\/(65<=b/\b<=90)then 1 else if 48<=b/\b<=57 then 2 else if b≠10/\(b<32\/126<b)then 4 else 0
def cls(c:Int)(b:UInt8):Bool:=Cm b.toNat==c
def Bm(b:UInt8):Bool:=cls 1 b||cls 2 b
def Aq(s:Bs)(p:UInt8->Bool)(i:Nat):Nat:=i+((s.drop i).takeWhile p).length
def Ei(h:s.length<=i):Aq s p i=i:=by simp[Aq,List.drop_eq_nil_of_le h]
def DA(h:i<s.length)(hp:p (bAt s i)=false):Aq s p i=i:=by
 simp[Aq,IE h,hp]
def Cy(h:i<s.length)(hp:p (bAt s i)=true):Aq s p i=Aq s p (i+1):=by
 simp[Aq,IE h,hp];omega
def BG(s:Bs)(p:UInt8->Bool)(i:Nat):i<=Aq s p i:=Nat.le_add_right _ _
def CJ(h:i<=s.length):Aq s p i<=s.length:=by
 have h1:((s.drop i).takeWhile p).length<=(s.drop i).length:=(List.takeWhile_sublist p).length_le;simp at h1;unfold Aq;omega
def Lc(h:Aq s p i<s.length):p (bAt s (Aq s p i))=false:=by
 induction hn:s.length-i generalizing i with
 |zero=>have:=BG s p i;omega
 | succ n ih=>
   have hi:i<s.length:=by omega
   cases hp:p (bAt s i)with
   |false=>rw[DA hi hp];exact hp
   | true=>
     rw[Cy hi hp]at h ⊢;exact ih h (by omega)
def IL(h1:i<=j)(h2:j<Aq s p i):j<s.length/\p (bAt s j)=true:=by
 induction hn:s.length-i generalizing i with
 |zero=>rw[Ei (by omega)]at h2;omega
 | succ n ih=>
   have hi:i<s.length:=by omega
   cases hp:p (bAt s i)with
   |false=>rw[DA hi hp]at h2;omega
   | true=>
     by_cases e:i=j
     ·subst e;exact⟨hi,hp⟩
     ·rw[Cy hi hp]at h2;exact ih (by omega) h2 (by omega)
def MQ{q:UInt8->Bool}(h:∀b,p b=true->q b=true)(i:Nat):Aq s p i<=Aq s q i:=by
 induction hn:s.length-i generalizing i with
 |zero=>rw[Ei (by omega),Ei (by omega)];exact nR _
 | succ n ih=>
   have hi:i<s.length:=by omega
   cases hp:p (bAt s i)with
   |false=>rw[DA hi hp];exact BG _ _ _
   | true=>
     rw[Cy hi hp,Cy hi (h _ hp)];exact ih _ (by omega)
def A5(s:Bs)(i j:Nat):Bs:=(s.drop i).take (j-i)
def EZ(h1:i<=j)(h2:j<=s.length):(A5 s i j).length=j-i:=by simp[A5];omega
def V0(h:k<j-i):(A5 s i j)[k]? =s[i+k]?:=by
 simp[A5,h]
def AV(s:Bs)(i:Nat):Nat:=Aq s (cls 3) i
def At(s:Bs)(i:Nat):Nat:=Aq s (λb=>b !=10) i
def Gg(s:Bs)(i:Nat):Nat:=Aq s (λb=>b !=10&&!cls 4 b) i
def Wz(s:Bs)(i:Nat):Gg s i<=At s i:=MQ (by intro b hb;simp at hb ⊢;exact hb.1) i
def EQ(s:Bs)(i:Nat):Bool:=[38,38].isPrefixOf (s.drop i)
def signsL:List Bs:=[[46,78,85,76,76,46],[46,65,78,68,46],[46,78,79,84,46],[46,79,82,46],[46,84,46],[46,70,46],[58,61],[61,61],[60,62],[33,61],[60,61],[62,61],[45,62],[40],[41],[91],[93],[123],[125],[44],[124],[58],[46],[61],[35],[60],[62],[43],[45],[42],[47],[37],[94],[36],[38],[63],[64],[33]]
def D7(s:Bs)(i:Nat)(w:Bs):Bool:=decide (i+w.length<=s.length)&&Lib.toUpperA (A5 s i (i+w.length))==w
def EP(s:Bs)(i:Nat):Option Bs:=signsL.find? (D7 s i)
def El(t:Bs):Bs:=A5 t 2 6++A5 t 7 9++A5 t 10 12
def E5(t:Bs):Bool:=decide (13<=t.length)&&t.take 2==[123,94]&&bAt t 6==45&&bAt t 9==45&&bAt t 12==125
def C0(t:Bs):Option (Bs×Nat):=
 if [123,125].isPrefixOf t then some ([],2)
 else if E5 t then(if(C6 (El t)).2&&El t !=FW then some (El t,13)else none)
 else none
inductive St where
 |tok (t:Tok) (at':Nat) (line:Bool)
 |again (at':Nat) (line:Bool)
 |stop
 |bad (k:Nat)
def EJ(s:Bs)(i:Nat):St:=
 let q:=Aq s (λb=>b !=10&&b !=bAt s i) (i+1)
 if q<s.length/\bAt s q≠10 then
  (if Aq (A5 s (i+1) q) (λb=>!cls 4 b) 0<q-(i+1)then .bad (i+1+Aq (A5 s (i+1) q) (λb=>!cls 4 b) 0)else .tok ⟨2,i,A5 s (i+1) q⟩ (q+1) true)
 else .bad i
def BP(s:Bs)(i:Nat):St:=
 if cls 1 (bAt s i)then(if 24<Aq s Bm i-i then .bad i else .tok ⟨0,i,Lib.toUpperA (A5 s i (Aq s Bm i))⟩ (Aq s Bm i) true)
 else if cls 2 (bAt s i)then(if 15<Aq s (cls 2) i-i then .bad i else .tok ⟨1,i,A5 s i (Aq s (cls 2) i)⟩ (Aq s (cls 2) i) true)
 else if bAt s i=34\/bAt s i=39 then EJ s i
 else match C0 (s.drop i)with
  |some (d,n)=> .tok ⟨3,i,d⟩ (i+n) true
  | none=>match EP s i with
    |some w=> .tok ⟨4,i,w⟩ (i+w.length) true
    |none=> .bad i
def BR(s:Bs)(i:Nat):Option Nat:=if Gg s i<At s i then some (Gg s i)else none
def BS(s:Bs)(i:Nat):Nat:=if At s i<s.length then At s i+1 else At s i
def CS(s:Bs)(k:Nat):Bool:=decide (s.length<=k)||bAt s k==10||EQ s k
def Cw(s:Bs)(i:Nat)(line:Bool):St:=
 if s.length<=i then(if line then .tok ⟨5,i,[]⟩ i false else .stop)
 else if bAt s i=10 then(if line then .tok ⟨5,i,[]⟩ (i+1) false else .again (i+1) false)
 else if cls 3 (bAt s i)then .again (i+1) line
 else if(bAt s i==42&&!line)||EQ s i then
  match BR s i with
  |some k=> .bad k
  |none=> .again (At s i) line
 else if bAt s i=59 then
  (if CS s (AV s (i+1))then
   match BR s (AV s (i+1))with
   |some k=> .bad k
   |none=> .again (BS s (AV s (i+1))) line
  else .bad i)
 else BP s i
inductive NR where
 |tok (t:Tok) (at':Nat) (line:Bool) (n:Nat)
 |stop
 |bad (k:Nat)
 |out
def Bk(s:Bs):Nat->Nat->Bool->NR
 | 0,_,_=> .out
 | n+1,i,line=>match Cw s i line with
   | .tok t j l=> .tok t j l n
   | .again j l=>Bk s n j l
   | .stop=> .stop
   | .bad k=> .bad k
inductive LexR where
 |ok (l:List Tok)
 |bad (k:Nat)
 |out
def LexR.cons(t:Tok):LexR->LexR
 | .ok l=> .ok (t::l)
 | .bad k=> .bad k
 | .out=> .out
def LexR.pre(p:List Tok):LexR->LexR
 | .ok l=> .ok (p++l)
 | .bad k=> .bad k
 | .out=> .out
def LexR.pre_nil(r:LexR):r.pre []=r:=by cases r<;>rfl
def LexR.pre_cons(p:List Tok)(t:Tok)(r:LexR):(r.cons t).pre p=r.pre (p++[t]):=by cases r<;>simp[LexR.cons,LexR.pre]
def CB(s:Bs):Nat->Nat->Bool->LexR
 | 0,_,_=> .out
 | n+1,i,line=>match Cw s i line with
   | .tok t j l=>(CB s n j l).cons t
   | .again j l=>CB s n j l
   | .stop=> .ok []
   | .bad k=> .bad k
def JY(s:Bs):∀n i line,CB s n i line=match Bk s n i line with
 | .tok t j l m=>(CB s m j l).cons t
 | .stop=> .ok []
 | .bad k=> .bad k
 | .out=> .out:=by
 intro n;induction n with
 |zero=>intro i line;rfl
 | succ n ih=>
   intro i line;rw[CB,Bk];cases Cw s i line with
   |tok t j l=>rfl
   |again j l=>exact ih j l
   |stop=>rfl
   |bad k=>rfl
def M4{t:Bs}{d:Bs}{n:Nat}(h:C0 t=some (d,n)):2<=n/\n<=t.length:=by
 unfold C0 at h;split at h
 ·rename_i h1;have:=(List.isPrefixOf_iff_prefix.1 h1).length_le;simp at h this;omega
 ·split at h
  ·rename_i h2;simp[E5]at h2;split at h
   ·simp at h;omega
   ·simp at h
  ·simp at h
def JS{w:Bs}(h:w∈signsL):1<=w.length/\w.length<=6:=by
 have:signsL.all (λw=>decide (1<=w.length)&&decide (w.length<=6))=true:=by decide
 have:=List.all_eq_true.1 this w h;simpa using this
def MS{w:Bs}(h:EP s i=some w):w∈signsL/\i+w.length<=s.length/\Lib.toUpperA (A5 s i (i+w.length))=w:=by
 have h1:=List.mem_of_find?_eq_some h;have h2:=List.find?_some h;simp[D7]at h2;exact⟨h1,h2.1,h2.2⟩
def SS(h:i<s.length)(h10:bAt s i≠10):i<At s i:=by
 unfold At;rw[Cy h (by simpa using h10)];exact BG _ _ _
def QH(s:Bs)(i:Nat):i<=BS s i:=by
 unfold BS;have:=BG s (λb=>b !=10) i;change i<=At s i at this;split<;>omega
def QI(h:i<=s.length):BS s i<=s.length:=by
 unfold BS;have:At s i<=s.length:=CJ h;split<;>omega
def Lp(s:Bs)(i:Nat)(line:Bool):St->Prop
 | .tok _ j l=>i<=j/\j<=s.length/\2*(s.length-j)+l.toNat<2*(s.length-i)+line.toNat
 | .again j l=>i<j/\j<=s.length/\2*(s.length-j)+l.toNat<2*(s.length-i)+line.toNat
 | .stop=>i=s.length/\line=false
 | .bad k=>k<s.length
def R1(h:i<s.length):Lp s i line (EJ s i):=by
 unfold EJ;have h1:=BG s (λb=>b !=10&&b !=bAt s i) (i+1);simp only[];split
 ·rename_i h2;split
  ·rename_i h3;show _<s.length;omega
  ·refine⟨by omega,by omega,?_⟩;simp only[Bool.toNat_true];omega
 ·exact h
def Rg(h:i<s.length):Lp s i line (BP s i):=by
 unfold BP;split
 ·rename_i h1;have h2:=Cy (p:=Bm) h (by simp[Bm,h1]);have h3:=BG s Bm (i+1);have h4:=CJ (p:=Bm) (Nat.le_of_lt h);split
  ·exact h
  ·refine⟨by omega,by omega,?_⟩;simp only[Bool.toNat_true];omega
 ·split
  ·rename_i h1;have h2:=Cy (p:=cls 2) h h1;have h3:=BG s (cls 2) (i+1);have h4:=CJ (p:=cls 2) (Nat.le_of_lt h);split
   ·exact h
   ·refine⟨by omega,by omega,?_⟩;simp only[Bool.toNat_true];omega
  ·split
   ·exact R1 h
   ·cases hd:C0 (s.drop i)with
    | some p=>
      obtain⟨d,n⟩:=p;have:=M4 hd;simp at this;refine⟨by omega,by omega,?_⟩;simp only[Bool.toNat_true];omega
    | none=>
      cases hs:EP s i with
      |none=>exact h
      | some w=>
        obtain⟨h1,h2,_⟩:=MS hs;have:=JS h1;refine⟨by omega,by omega,?_⟩;simp only[Bool.toNat_true];omega
def L7(h:i<=s.length)(hc:BR s i=some k):k<s.length:=by
 unfold BR at hc;have:At s i<=s.length:=CJ h;split at hc
 ·simp at hc;omega
 ·simp at hc
def P9(s:Bs)(line:Bool)(h:i<=s.length):Lp s i line (Cw s i line):=by
 unfold Cw;split
 ·have e:i=s.length:=by omega
  cases line with
  |true=>exact⟨by omega,by omega,by simp⟩
  |false=>exact⟨e,rfl⟩
 ·rename_i hi;split
  ·cases line with
   |true=>exact⟨by omega,by omega,by simp;omega⟩
   |false=>exact⟨by omega,by omega,by simp;omega⟩
  ·rename_i h10;split
   ·exact⟨by omega,by omega,by omega⟩
   ·split
    ·cases hc:BR s i with
     |some k=>exact L7 h hc
     | none=>
       have h1:=SS (by omega) h10;have h2:At s i<=s.length:=CJ h;exact⟨by omega,by omega,by omega⟩
    ·split
     ·have h1:i+1<=AV s (i+1):=BG _ _ _;have h2:AV s (i+1)<=s.length:=CJ (by omega);split
      ·cases hc:BR s (AV s (i+1))with
       |some k=>exact L7 h2 hc
       | none=>
         have h3:=QH s (AV s (i+1));have h4:=QI h2;exact⟨by omega,by omega,by omega⟩
      ·show _<_;omega
     ·exact Rg (by omega)
def Ti(s:Bs):∀n i line,i<=s.length->2*(s.length-i)+line.toNat<n->match Bk s n i line with
 | .tok _ j l m=>j<=s.length/\2*(s.length-j)+l.toNat<m
 | .stop=>True
 | .bad k=>k<s.length
 | .out=>False:=by
 intro n;induction n with
 |zero=>intro i line _ h;omega
 | succ n ih=>
   intro i line hi hn;have hg:=P9 s line hi;unfold Bk;cases hs:Cw s i line with
   |tok t j l=>rw[hs]at hg;exact⟨hg.2.1,by have:=hg.2.2;omega⟩
   |again j l=>rw[hs]at hg;exact ih j l hg.2.1 (by have:=hg.2.2;omega)
   |stop=>trivial
   |bad k=>rw[hs]at hg;exact hg
def AG(k:Nat):List Value:=(List.range 256).map λj=> .int .u8 (if j<k then Cm j else 0)
def In(k j:Nat)(hj:j<256):(AG k)[j]? =some (.int .u8 (if j<k then Cm j else 0)):=by simp[AG,hj]
def Gv(k:Nat):(AG k).length=256:=by simp[AG]
def EO(s:Bs)(i:Int)(line begun:Bool)(bad:Int):List Value:=str s :: .int .i64 i::(AG 256++[.bool line,.bool begun,.int .i64 bad])
def R6(s:Bs)(i:Int)(line begun:Bool)(bad:Int)(j:Nat)(hj:j<256):(EO s i line begun bad)[2+j]? =some (.int .u8 (Cm j)):=by
 rw[show 2+j=j+1+1 by omega];simp only[EO,List.getElem?_cons_succ];rw[List.getElem?_append_left (by rw[Gv];exact hj),In _ _ hj];simp[hj]
def K5(s:Bs)(i:Int)(line begun:Bool)(bad:Int)(j:Nat):(EO s i line begun bad)[258+j]? =[.bool line,.bool begun,.int .i64 bad][j]?:=by
 rw[show 258+j=256+j+1+1 by omega];simp only[EO,List.getElem?_cons_succ];rw[List.getElem?_append_right (by rw[Gv];omega),Gv,show 256+j-256=j by omega]
def S9(s:Bs)(i j:Int)(line begun:Bool)(bad:Int):(EO s i line begun bad).set 1 (.int .i64 j)=EO s j line begun bad:=rfl
def JB(s:Bs)(i:Int)(line begun:Bool)(bad:Int)(j:Nat)(v:Value):(EO s i line begun bad).set (258+j) v=str s :: .int .i64 i::(AG 256++[.bool line,.bool begun,.int .i64 bad].set j v):=by
 rw[show 258+j=256+j+1+1 by omega];simp only[EO,List.set_cons_succ];rw[List.set_append_right _ _ (by rw[Gv];omega),Gv,show 256+j-256=j by omega]
structure Sc(w:World)(b:Nat)(s:Bs)(i:Nat)(line begun:Bool)(bad:Int):Prop where
 blk:Blk w b (EO s i line begun bad) 247
 le:i<=s.length
 few:s.length<=4000
def Sc.lt(h:Sc w b s i line begun bad):b<w.heap.size:=h.blk.lt
def Sc.c0(h:Sc w b s i line begun bad):w.cell? ⟨b,0,none⟩=some (str s):=h.blk.cell 0
def Sc.c1(h:Sc w b s i line begun bad):w.cell? ⟨b,1,none⟩=some (.int .i64 i):=h.blk.cell 1
def Sc.cls(h:Sc w b s i line begun bad)(x:UInt8):w.cell? ⟨b,2+x.toNat,none⟩=some (.int .u8 (Cm x.toNat)):=(h.blk.cell _).trans (R6 _ _ _ _ _ _ x.toNat_lt)
def Sc.c258(h:Sc w b s i line begun bad):w.cell? ⟨b,258,none⟩=some (.bool line):=(h.blk.cell _).trans (K5 _ _ _ _ _ 0)
def Sc.c259(h:Sc w b s i line begun bad):w.cell? ⟨b,259,none⟩=some (.bool begun):=(h.blk.cell _).trans (K5 _ _ _ _ _ 1)
def Sc.c260(h:Sc w b s i line begun bad):w.cell? ⟨b,260,none⟩=some (.int .i64 bad):=(h.blk.cell _).trans (K5 _ _ _ _ _ 2)
def Sc.fr(h:Sc w b s i line begun bad)(k:Nat):w.frozen? ⟨b,k,none⟩=false:=h.blk.frozen k
def Sc.gb(h:Sc w b s i line begun bad)(g:w.grownBy w1 r)(hr:some b≠r):Sc w1 b s i line begun bad:=⟨h.blk.gb g hr,h.le,h.few⟩
def Sc.gbN(h:Sc w b s i line begun bad)(g:w.grownBy w1 none):Sc w1 b s i line begun bad:=h.gb g (by simp)
def Sc.alloc(h:Sc w b s i line begun bad)(o:Obj):Sc (w.alloc o) b s i line begun bad:=h.gbN (gZ w o none)
def Sc.drewN(h:Sc w b s i line begun bad)(n:Nat):Sc (w.drewN n) b s i line begun bad:=h.gbN (An (Aa w none) n)
def Sc.go(h:Sc w b s i line begun bad)(z:Int)(j:Nat)(hz:z=j)(hj:j<=s.length):Sc (w.setCell ⟨b,1,none⟩ (.int .i64 z)) b s j line begun bad:=by
 subst hz;exact⟨(h.blk.set 1 _).of_eq rfl (S9 _ _ _ _ _ _),hj,h.few⟩
def Sc.at_eq(h:Sc w b s i line begun bad)(e:i=j):Sc w b s j line begun bad:=e ▸ h
def Sc.setLine(h:Sc w b s i line begun bad)(l:Bool):Sc (w.setCell ⟨b,258,none⟩ (.bool l)) b s i l begun bad:=⟨(h.blk.set 258 _).of_eq rfl (JB _ _ _ _ _ 0 _),h.le,h.few⟩
def Sc.setBegun(h:Sc w b s i line begun bad)(l:Bool):Sc (w.setCell ⟨b,259,none⟩ (.bool l)) b s i line l bad:=⟨(h.blk.set 259 _).of_eq rfl (JB _ _ _ _ _ 1 _),h.le,h.few⟩
def Sc.setBad(h:Sc w b s i line begun bad)(k:Int):Sc (w.setCell ⟨b,260,none⟩ (.int .i64 k)) b s i line begun k:=⟨(h.blk.set 260 _).of_eq rfl (JB _ _ _ _ _ 2 _),h.le,h.few⟩
def Sc.set_other(h:Sc w b s i line begun bad)(a:Addr)(v:Value)(hne:b≠a.block):Sc (w.setCell a v) b s i line begun bad:=⟨h.blk.set_other a v hne,h.le,h.few⟩
def GE(s:Bs)(k:Nat)(h:k<(⟨s.toArray⟩:ByteArray).size)(h2:k<s.length):(⟨s.toArray⟩:ByteArray)[k]'h=bAt s k:=by rw[CC h2];rfl
def Oq(x:UInt8):x.toNat<256:=x.toNat_lt
def Zo(h:Sc w b s i line begun bad)(k:Nat)(c:Int):
 Calls Tryz.prog 289 #[.pointer (some ⟨b,0,none⟩),.int .i64 k,.int .u8 c] w (ρ w (.bool (decide (k<s.length)&&(Cm (bAt s k).toNat==c)))):=by
 have c0:=h.c0;have hb:=h.lt;have hf:=h.few;by_cases hk:k<s.length
 ·have cc:=h.cls (bAt s k);have hg:=λh=>GE s k h hk;have hx:=Oq (bAt s k);generalize bAt s k=x at*;have hk1:decide ((k:Int)<s.length)=true:=by simp;omega
  generalize hn:s.length=n at*;clear h;go_enter func289,ntmps289;go_wp2;go_quiet(fail);go_wp2;go_ret;exact⟨by simp[hk],(An (Aa _ _) _)⟩
 ·have hk1:decide ((k:Int)<s.length)=false:=by simp;omega
  generalize hn:s.length=n at*;clear h;go_enter func289,ntmps289;go_wp2;go_quiet(fail);go_wp2;go_ret;exact⟨by simp[hk],(An (Aa _ _) _)⟩
def Cv(h:Sc w b s i line begun bad)(k:Nat)(c:Int){r:Bool}(hr:(decide (k<s.length)&&cls c (bAt s k))=r):
 Calls Tryz.prog 289 #[.pointer (some ⟨b,0,none⟩),.int .i64 k,.int .u8 c] w (ρ w (.bool r)):=by
 subst hr;exact Zo h k c
def WO(h:Sc w b s i line begun bad):
 Calls Tryz.prog 262 #[.pointer (some ⟨b,0,none⟩)] w λe w'=>e= .returned (.tuple #[])/\Sc w' b s (AV s i) line begun bad/\w.grownBy w' (some b):=by
 go_enter func262,ntmps262;go_wp2_with fail;have hi:=h.le;go_loopg [] (s.length-i) (λg wr=>∃k:Nat,k+g=s.length/\Sc wr b s k line begun bad/\AV s k=AV s i/\w.grownBy wr (some b))
 case atStart=>exact⟨i,by omega,h,rfl,Aa _ _⟩
 case round=>
  obtain⟨k,hk,hs,hq,g⟩:=hrel;have HQ:=S hq;clear hq h hi;have hc1:=hs.c1;have hb:=hs.lt;cases hc:(decide (k<s.length)&&cls 3 (bAt s k))with
  | true=>
    simp only[Bool.and_eq_true,decide_eq_true_eq]at hc;cases gk with
    |zero=>omega
    |succ gk=>
    have HC:=S hc.2;have hkl:=hc.1;clear hc;go_wp2_with fail;refine mR (Cv hs k 3 (r:=true) (by simp[hkl,HC.1])) λw1 g1=>?_;have hs1:=hs.gbN g1;have c1:=hs1.c1;have f1:=hs1.fr 1;have hf:=hs.few;go_wp2;go_roundg gk
    case measure=>omega
    case rel=>exact⟨k+1,by omega,hs1.go _ (k+1) (by omega) (by omega),by rw[<-HQ.1];exact(Cy hkl HC.1).symm,Af (Ag g g1) _ _ (.inl rfl)⟩
  | false=>
    have HC:=S hc;go_wp2_with fail;refine mR (Cv hs k 3 (r:=false) HC.1) λw1 g1=>?_;have hs1:=hs.gbN g1;have hk2:AV s k=k:=by
     have h2:=HC.1;by_cases hkl:k<s.length
     ·exact DA hkl (by simpa[hkl]using h2)
     ·exact Ei (by omega)
    have HK:=S (hk2.symm.trans HQ.1);clear hk2;go_wp2;go_end0;exact⟨rfl,hs1.at_eq HK.1,Ag g g1⟩
def CY(s:Bs)(i j:Nat):(⟨s.toArray⟩:ByteArray).extract i j=⟨((s.drop i).take (j-i)).toArray⟩:=by
 apply ByteArray.ext;apply Array.ext';rw[Lib.extract_data]
def Hg(s:Bs)(i:Nat):(⟨s.toArray⟩:ByteArray).extract i s.length=⟨(s.drop i).toArray⟩:=by
 rw[CY,List.take_of_length_le (by simp)]
def XZ(s:Bs)(c:UInt8)(k:Nat):Lib.indexByte (s.drop k) c=if Aq s (λb=>b !=c) k<s.length then((Aq s (λb=>b !=c) k-k:Nat):Int)else -1:=by
 induction hn:s.length-k generalizing k with
 |zero=>rw[Ei (by omega),List.drop_eq_nil_of_le (by omega),if_neg (by omega)];rfl
 | succ n ih=>
   have hk:k<s.length:=by omega
   rw[IE hk,Lib.indexByte];cases hc:(bAt s k==c)with
   | true=>
     rw[DA hk (by simpa using hc)];simp[hk]
   | false=>
     rw[Cy hk (by simpa using hc),ih (k+1) (by omega)];have h1:=BG s (λb=>b !=c) (k+1);by_cases h2:Aq s (λb=>b !=c) (k+1)<s.length
     ·simp only[if_pos h2];simp only[Bool.false_eq_true,if_false];rw[if_neg (by simp;try omega)];omega
     ·simp[h2]
def Jz(h:Sc w b s i line begun bad)(k:Nat)(hk:k<=s.length):
 Calls Tryz.prog 290 #[.pointer (some ⟨b,0,none⟩),.int .i64 k] w λe w'=>e= .returned (.int .i64 (At s k))/\w=w':=by
 have c0:=h.c0;have hb:=h.lt;have hf:=h.few;have H0:=XZ s 10 k;have hr:=BG s (λb=>b !=10) k;have hr2:=CJ (p:=λb=>b !=10) hk;have hkI:decide ((k:Int)<=s.length)=true:=by simp;omega
 rw[show Aq s (λb=>b !=10) k=At s k from rfl]at*;by_cases hl:At s k<s.length
 ·rw[if_pos hl]at H0;obtain⟨d,hd⟩:∃d,At s k=k+d:=⟨At s k-k,by omega⟩;rw[hd]at H0 ⊢;rw[show k+d-k=d by omega]at H0;rw[hd]at hl hr2;have H:=S H0;clear H0 hd;go_enter func290,ntmps290;go_wp2_with fail;refine(strings_IndexByte _ _ _).mono ?_;rintro e w1 ⟨rfl,rfl⟩;rw[Hg];rw[show Lib.indexByte (ByteArray.mk (List.drop k s).toArray).data.toList ((10:Int).toNat.toUInt8)=_ from H.1];go_wp2;go_ret;exact⟨by simp,rfl⟩
 ·have he:At s k=s.length:=by omega
  rw[if_neg hl]at H0;rw[he];have H:=S H0;clear H0 he;go_enter func290,ntmps290;go_wp2_with fail;refine(strings_IndexByte _ _ _).mono ?_;rintro e w1 ⟨rfl,rfl⟩;rw[Hg];rw[show Lib.indexByte (ByteArray.mk (List.drop k s).toArray).data.toList ((10:Int).toNat.toUInt8)=_ from H.1];go_wp2;go_ret;exact⟨rfl,rfl⟩
def QN(w:World)(b:Nat)(s:Bs)(i:Nat)(line begun:Bool)(bad:Int)(e:Ending)(w':World):Prop:=w.grownBy w' (some b)/\match BR s i with
 |some k=>e= .returned (.bool false)/\∃j,Sc w' b s j line begun k
 |none=>e= .returned (.bool true)/\Sc w' b s (At s i) line begun bad
def Io(h:Sc w b s i line begun bad):
 Calls Tryz.prog 264 #[.pointer (some ⟨b,0,none⟩)] w (QN w b s i line begun bad):=by
 have hi:=h.le;have c1:=h.c1;have hle:At s i<=s.length:=CJ hi;have hge:i<=At s i:=BG _ _ _;go_enter func264,ntmps264;go_wp2_with fail;refine(Jz h i hi).mono ?_;rintro e w1 ⟨rfl,rfl⟩;go_wp2_with fail;go_loopg [] (At s i-i) (λg wr=>∃k:Nat,k+g=At s i/\i<=k/\Sc wr b s k line begun bad/\Gg s k=Gg s i/\w.grownBy wr (some b))
 case atStart=>exact⟨i,by omega,nR _,h,rfl,Aa _ _⟩
 case round=>
  obtain⟨k,hk,hik,hs,hq,g⟩:=hrel;have HQ:=S hq;have HL:=S hle;clear hq h hi c1 hle;have c1:=hs.c1;have hf:=hs.few;have hb:=hs.lt;cases gk with
  | zero=>
    have HM:=S (show BR s i=none by unfold BR;rw[if_neg (by have h1:=Wz s i;have h2:=BG s (λb=>b !=10&&!cls 4 b) k;change k<=Gg s k at h2;rw[HQ.1]at h2;omega)]);have hs':=hs.at_eq (show k=At s i by omega);have hkI:(k:Int)=At s i:=by omega
    have hkI2:decide (k<At s i)=false:=by simp;omega
    clear hk hkI;go_wp2;go_ret;exact⟨g,by rw[HM.1];exact⟨rfl,hs'⟩⟩
  | succ gk=>
    have hlt:k<At s i:=by omega
    have h10:=IL hik hlt;have HT:=S h10;have hkl:=h10.1;have hltI:decide ((k:Int)<At s i)=true:=by simp;omega
    clear h10;cases hc:cls 4 (bAt s k)with
    | true=>
      have HC:=S hc;have HM:=S (show BR s i=some k by
       have h2:Gg s k=k:=DA hkl (by simp[HC.1]);rw[HQ.1]at h2;unfold BR;rw[h2,if_pos hlt])
      clear hc;go_wp2_with fail;refine mR (Cv hs k 4 (r:=true) (by simp[hkl,HC.1])) λw1 g1=>?_;have hs1:=hs.gbN g1;have d1:=hs1.c1;have f1:=hs1.fr 260;have c260:=hs1.c260;go_wp2;go_ret;exact⟨Af (Ag g g1) _ _ (.inl rfl),by rw[HM.1];exact⟨rfl,k,hs1.setBad k⟩⟩
    | false=>
      have HC:=S hc;clear hc;go_wp2_with fail;refine mR (Cv hs k 4 (r:=false) (by simp[hkl,HC.1])) λw1 g1=>?_;have hs1:=hs.gbN g1;have d1:=hs1.c1;have f1:=hs1.fr 1;go_wp2;go_roundg gk
      case measure=>omega
      case rel=>exact⟨k+1,by omega,by omega,hs1.go _ (k+1) (by omega) (by omega),by rw[<-HQ.1];exact(Cy hkl (by simp[HC.1];simpa using HT.1.2)).symm,Af (Ag g g1) _ _ (.inl rfl)⟩
def L5(k:Nat)(hk:k<256):(AG k).set k (.int .u8 (Cm k))=AG (k+1):=by
 apply List.ext_getElem?;intro j;by_cases hj:j<256
 ·rw[List.getElem?_set];rw[In _ _ hj];by_cases e:k=j
  ·subst e;simp[AG,hk]
  ·rw[if_neg e,In _ _ hj];have:(j<k+1)=(j<k):=by apply propext;omega
   simp[this]
 ·rw[List.getElem?_eq_none (by simp[AG];omega),List.getElem?_eq_none (by simp[AG];omega)]
def Pt(k:Nat)(hk:k<256)(h0:Cm k=0):AG k=AG (k+1):=by
 rw[<-L5 k hk,h0];apply List.ext_getElem?;intro j;rw[List.getElem?_set];by_cases e:k=j
 ·subst e;simp[AG,hk]
 ·simp[e]
def P6:(Tryz.prog.info? 216).map (λi=>(i.size,i.bytes))=some (256,256):=by kernel_rfl
def TB(h:w.grownBy w1 r)(k:Nat)(cs:Array Value)(hk:w.heap.size<=k):w.grownBy (w1.setRow k cs) r:=by
 refine⟨h.os,h.tape,h.output,by simpa using h.size,λi hi hr=>?_⟩;rw[<-h.block i hi hr];have hne:k≠i:=by omega
 simp[World.setRow,Array.getElem?_modify,hne]
def TO:∃n e,Tryz.prog.underlying 216=some (.array n e):=by
 have h:(match(Tryz.prog.underlying 216)with|some (.array _ _)=>true|_=>false)=true:=by kernel_rfl
 cases hu:Tryz.prog.underlying 216 with
 |none=>rw[hu]at h;cases h
 | some d=>
   rw[hu]at h;cases d with
   |array n e=>exact⟨n,e,rfl⟩
   |_=>cases h
def Nr:(Tryz.prog.info? 216).map (·.size)=some (AG 256).toArray.size:=by
 have h1:=P6;cases hq:Tryz.prog.info? 216 with
 |none=>rw[hq]at h1;simp at h1
 |some i=>rw[hq]at h1;simp at h1;simp[AG,h1.1]
def Jv(k:Nat):(Cm k=3/\(k=9\/k=32))\/(Cm k=1/\(k=95\/(97<=k/\k<=122)\/(65<=k/\k<=90)))\/(Cm k=2/\48<=k/\k<=57)\/(Cm k=4/\(k<9\/(10<k/\k<32)\/126<k))\/
 (Cm k=0/\(k=10\/(32<k/\k<48)\/(57<k/\k<65)\/(90<k/\k<95)\/k=96\/(122<k/\k<=126))):=by
 unfold Cm
 (repeat' split)<;>simp<;>omega
def Lf(w:World)(g:Nat)(v4:Value)(wr:World):Prop:=∃k:Nat,k+g=256/\v4= .int .i64 k/\Blk wr (w.heap.size+1) (AG k) 216/\Blk wr w.heap.size (AG 0) 216/\w.grownBy wr none
def I3{c:Int}(hk:k+(g+1)=256)(hc:Cm k=c)(hL:Blk wr (w.heap.size+1) (AG k) 216)(hZ:Blk wr w.heap.size (AG 0) 216)(gr:w.grownBy wr none):
 Lf w g (.int .i64 ((k:Int)+1)) (wr.setCell ⟨w.heap.size+1,k,none⟩ (.int .u8 c)):=
 ⟨k+1,by omega,by simp,(hL.set k _).of_eq rfl (by rw[<-hc];exact L5 k (by omega)),hZ.set_other _ _ (by simp),Af gr _ _ (.inr (by simp))⟩
def QX(hk:k+(g+1)=256)(hc:Cm k=0)(hL:Blk wr (w.heap.size+1) (AG k) 216)(hZ:Blk wr w.heap.size (AG 0) 216)(gr:w.grownBy wr none):
 Lf w g (.int .i64 ((k:Int)+1)) wr:=
 ⟨k+1,by omega,by simp,hL.of_eq rfl (Pt k (by omega) hc),hZ,gr⟩
def QW(w:World):Calls Tryz.prog 203 #[] w (ρ w (.agg (AG 256).toArray)):=by
 go_enter func203,ntmps203;go_wp2_with fail;have hz:zeroCells216=(AG 0).toArray:=by kernel_rfl
 have hA:Blk ((w.alloc (.cells (AG 0).toArray 216 (0,0))).alloc (.cells (AG 0).toArray 216 (0,0))) (w.heap.size+1) (AG 0) 216:=(Blk.new _ _ _).of_eq (by simp) rfl;have hB:Blk ((w.alloc (.cells (AG 0).toArray 216 (0,0))).alloc (.cells (AG 0).toArray 216 (0,0))) w.heap.size (AG 0) 216:=(Blk.new _ _ _).alloc _;have g0:w.grownBy ((w.alloc (.cells (AG 0).toArray 216 (0,0))).alloc (.cells (AG 0).toArray 216 (0,0))) none:=Ac (gZ _ _ _) _;rw[hz];go_loopg [2,3,4] 256 (λg v2 v3 v4 wr=>Lf w g v4 wr)
 case atStart=>exact⟨0,rfl,rfl,hA,hB,g0⟩
 case round=>
  obtain⟨k,hk,rfl,hL,hZ,gr⟩:=hrel;clear hA hB g0;cases gk with
  | zero=>
    have e:k=256:=by omega
    subst e;obtain⟨an,ae,H⟩:=TO;have H:=S H;go_wp2_with fail;refine wp_load_row 216 (.tmp 1) rfl (w.heap.size+1) rfl 216 (AG 256).toArray (0,0) (.array an ae) hL H.1 rfl Nr ?_;have HS:=S Nr;have HL:=S (X hL hZ);have h1:((AG 256).toArray.all (·.oneCell'))=true:=by simp[AG,Value.oneCell']
    have HO:=S h1;have hzs:(AG 0).toArray.size=(AG 256).toArray.size:=by simp[AG]
    have HZ:=S hzs;have HR:=S (setRow_heap wr w.heap.size (AG 0).toArray (AG 256).toArray 216 (0,0) hZ);clear hL hZ h1 hzs;generalize hcc:(AG 256).toArray=cc at*;have HC:=S hcc;clear hcc;go_wp2_with (refine wpList_store_row rfl 216 (.tmp 0) (.tmp 62) rfl w.heap.size cc rfl rfl 216 (AG 0).toArray HL.1.2 HS.1 HZ.1 HO.1 ?_);refine bZ (v:=_) ?_ rfl ⟨rfl,TB gr _ _ (nR _)⟩
    (try rw[HC.1]);exact results_cell_row rfl _ _ w.heap.size 216 cc (0,0) (.array an ae) rfl HR.1 H.1 rfl HS.1
  | succ gk=>
    have ck:=(hL.cell k).trans (In k k (by omega));have fk:=hL.frozen k;have HL:=S (X hL (X hZ gr));have HK:=S hk;have hk2:k<256:=by omega
    have hwr:w.heap.size+1<wr.heap.size:=hL.lt;clear hL hZ gr hk;rcases Jv k with⟨hc,h⟩| ⟨hc,h⟩| ⟨hc,h⟩| ⟨hc,h⟩| ⟨hc,h⟩
    ·have HR:=S (I3 HK.1 hc HL.1.1 HL.1.2.1 HL.1.2.2);clear hc HK HL;rcases h with rfl|rfl
     all_goals
      go_wp2_with fail;go_roundg gk
      case measure=>omega
      case rel=>exact HR.1
    ·have HR:=S (I3 HK.1 hc HL.1.1 HL.1.2.1 HL.1.2.2);clear hc HK HL;rcases h with rfl| ⟨h,h'⟩| ⟨h,h'⟩
     rotate_left 1;all_goals try
      have e9:((k:Int)==9)=false:=by simp;omega
      have e32:((k:Int)==32)=false:=by simp;omega
      have e95:((k:Int)==95)=false:=by simp;omega
      have i1:=Int.ofNat_le.2 h;have i2:=Int.ofNat_le.2 h';simp only[Int.cast_ofNat_Int]at i1 i2;clear h h'
     all_goals
      go_wp2_with fail;go_roundg gk
      case measure=>omega
      case rel=>exact HR.1
    ·have HR:=S (I3 HK.1 hc HL.1.1 HL.1.2.1 HL.1.2.2);clear hc HK HL;obtain⟨h,h'⟩:=h;have e9:((k:Int)==9)=false:=by simp;omega
     have e32:((k:Int)==32)=false:=by simp;omega
     have e95:((k:Int)==95)=false:=by simp;omega
     have i1:=Int.ofNat_le.2 h;have i2:=Int.ofNat_le.2 h';simp only[Int.cast_ofNat_Int]at i1 i2;clear h h';go_wp2_with fail;go_roundg gk
     case measure=>omega
     case rel=>exact HR.1
    ·have HR:=S (I3 HK.1 hc HL.1.1 HL.1.2.1 HL.1.2.2);clear hc HK HL;have e9:((k:Int)==9)=false:=by simp;omega
     have e32:((k:Int)==32)=false:=by simp;omega
     have e95:((k:Int)==95)=false:=by simp;omega
     have e10:((k:Int) !=10)=true:=by simp;omega
     rcases h with h| ⟨h,h'⟩|h
     all_goals
      have i1:=Int.ofNat_lt.2 h;try have i2:=Int.ofNat_lt.2 h'
      simp only[Int.cast_ofNat_Int]at i1;try simp only[Int.cast_ofNat_Int]at i2
      clear h;go_wp2_with fail;go_roundg gk
      case measure=>omega
      case rel=>exact HR.1
    ·have HR:=S (QX HK.1 hc HL.1.1 HL.1.2.1 HL.1.2.2);clear hc HK HL;rcases h with rfl| ⟨h,h'⟩| ⟨h,h'⟩| ⟨h,h'⟩|rfl| ⟨h,h'⟩
     all_goals try
      have e9:((k:Int)==9)=false:=by simp;omega
      have e32:((k:Int)==32)=false:=by simp;omega
      have e95:((k:Int)==95)=false:=by simp;omega
      have e10:((k:Int) !=10)=true:=by simp;omega
      have i1:=Int.ofNat_lt.2 h;have i2:(k:Int)<127/\(k:Int)<=126:=by omega
      obtain⟨i2,i3⟩:=i2;simp only[Int.cast_ofNat_Int]at i1
     all_goals
      go_wp2_with fail;go_roundg gk
      case measure=>omega
      case rel=>exact HR.1
abbrev tok0:Value:= .agg #[.int .i64 0,.int .i64 0,str []]
def TL(w:World)(b:Nat)(s:Bs)(i:Nat)(line begun:Bool)(bad:Int)(t:Tok)(most:Nat)(e:Ending)(w':World):Prop:=
 w.grownBy w' (some b)/\if most<t.text.length then e= .returned (.bool false)/\Sc w' b s i line begun t.pos else e= .returned (.bool true)/\Sc w' b s i line begun bad
def MR(h:Sc w b s i line begun bad)(t:Tok)(most:Nat):
 Calls Tryz.prog 292 #[.pointer (some ⟨b,0,none⟩),AR t,.int .i64 most] w (TL w b s i line begun bad t most):=by
 have hb:=h.lt;have f1:=h.fr 260;have c260:=h.c260;by_cases hl:most<t.text.length
 ·have HP:=S hl;have hl1:decide (most<t.text.length)=true:=by simpa using hl
  clear hl;go_enter func292,ntmps292;go_wp2;go_ret;exact⟨(by repeat(first| (with_reducible exact Aa _ _)| (with_reducible refine Ac ?_ _)| ((with_reducible refine Af ?_ _ _ ?h2);case h2=>exact .inl rfl))),by rw[if_pos HP.1];exact⟨rfl,(h.setBad _).alloc _⟩⟩
 ·have HP:=S hl;have hl1:decide (most<t.text.length)=false:=by simpa using hl
  clear hl;go_enter func292,ntmps292;go_wp2;go_ret;exact⟨(Ac (Aa _ _) _),by rw[if_neg HP.1];exact⟨rfl,h.alloc _⟩⟩
def Yf(w:World)(b:Nat)(s:Bs)(i:Nat)(line:Bool)(bad:Int)(e:Ending)(w':World):Prop:=
 w.grownBy w' (some b)/\Sc w' b s (if i<s.length then i+1 else i) false false bad/\
  e= .returned (.tuple #[if line then AR ⟨5,i,[]⟩else tok0,.bool (line||!decide (i<s.length))])
def Mh(h:Sc w b s i line line bad):
 Calls Tryz.prog 263 #[.pointer (some ⟨b,0,none⟩)] w (Yf w b s i line bad):=by
 have hb:=h.lt;have hf:=h.few;have c0:=h.c0;have c1:=h.c1;have c258:=h.c258;have c259:=h.c259;have f1:=h.fr 1;have f258:=h.fr 258;have f259:=h.fr 259;by_cases hl:i<s.length
 ·have HP:=S hl;have hl1:((i:Int)==(s.length:Int))=false:=by simp;omega
  cases line
  case' true=>
   go_enter func263,ntmps263;go_wp2;go_quiet(fail);go_wp2;refine bZ (v:= .tuple #[AR ⟨5,i,[]⟩,.bool true]) (by simp[results,results263,go_sem]) rfl ⟨(by repeat(first| (with_reducible exact Aa _ _)| (with_reducible refine Ac ?_ _)| (with_reducible refine An ?_ _)| ((with_reducible refine Af ?_ _ _ ?h2);case h2=>first|exact .inl rfl|exact .inr (nR _)))),?_,by simp⟩
  case' false=>
   go_enter func263,ntmps263;go_wp2;go_quiet(fail);go_wp2;refine bZ (v:= .tuple #[tok0,.bool false]) (by simp[results,results263,go_sem]) rfl ⟨(by repeat(first| (with_reducible exact Aa _ _)| (with_reducible refine Ac ?_ _)| (with_reducible refine An ?_ _)| ((with_reducible refine Af ?_ _ _ ?h2);case h2=>first|exact .inl rfl|exact .inr (nR _)))),?_,by simp[HP.1]⟩
  all_goals
   rw[if_pos HP.1];exact(by repeat(first| (with_reducible assumption)| (with_reducible apply Sc.alloc)| (with_reducible apply Sc.drewN)| (with_reducible apply Sc.setLine)| (with_reducible apply Sc.setBegun)| (with_reducible apply Sc.go)| (with_reducible apply Sc.set_other)|omega| (simp<;>omega)))
 ·have HP:=S hl;have hl1:((i:Int)==(s.length:Int))=true:=by have:=h.le;simp;omega
  cases line
  case' true=>
   go_enter func263,ntmps263;go_wp2;go_quiet(fail);go_wp2;refine bZ (v:= .tuple #[AR ⟨5,i,[]⟩,.bool true]) (by simp[results,results263,go_sem]) rfl ⟨(by repeat(first| (with_reducible exact Aa _ _)| (with_reducible refine Ac ?_ _)| (with_reducible refine An ?_ _)| ((with_reducible refine Af ?_ _ _ ?h2);case h2=>first|exact .inl rfl|exact .inr (nR _)))),?_,by simp⟩
  case' false=>
   go_enter func263,ntmps263;go_wp2;go_quiet(fail);go_wp2;refine bZ (v:= .tuple #[tok0,.bool true]) (by simp[results,results263,go_sem]) rfl ⟨(by repeat(first| (with_reducible exact Aa _ _)| (with_reducible refine Ac ?_ _)| (with_reducible refine An ?_ _)| ((with_reducible refine Af ?_ _ _ ?h2);case h2=>first|exact .inl rfl|exact .inr (nR _)))),?_,by simp[HP.1]⟩
  all_goals
   rw[if_neg HP.1];exact(by repeat(first| (with_reducible assumption)| (with_reducible apply Sc.alloc)| (with_reducible apply Sc.drewN)| (with_reducible apply Sc.setLine)| (with_reducible apply Sc.setBegun)| (with_reducible apply Sc.set_other)| (simp<;>omega)))
def IH(w:World)(b:Nat)(s:Bs)(i:Nat)(line begun:Bool)(bad:Int)(e:Ending)(w':World):Prop:=
 w.grownBy w' (some b)/\if CS s (AV s (i+1))then(match BR s (AV s (i+1))with
  |some k=>e= .returned (.tuple #[.bool true,.bool false])/\∃j,Sc w' b s j line begun k
  |none=>e= .returned (.tuple #[.bool true,.bool true])/\Sc w' b s (BS s (AV s (i+1))) line begun bad)
  else e= .returned (.tuple #[.bool false,.bool true])/\Sc w' b s i line begun bad
def JO(s:Bs)(k:Nat)(p:Bs){r:Bool}(hr:p.isPrefixOf (s.drop k)=r)(w:World):
 Calls Tryz.prog 191 #[.string ((⟨s.toArray⟩:ByteArray).extract k s.length),.string ⟨p.toArray⟩] w λe w'=>e= .returned (.bool r)/\w=w':=by
 subst hr;refine(strings_HasPrefix _ _ _).mono ?_;rintro e w' ⟨rfl,rfl⟩;rw[Hg];exact⟨rfl,rfl⟩
section
variable {w':World}{q:Nat}
def Gw(hk:k=AV s (i+1))(hg:CS s k=true)(hc:BR s k=none)(hj:BS s k=j)(g:w.grownBy w' (some b))(hs:Sc w' b s j line begun bad):
 IH w b s i line begun bad (.returned (.tuple #[.bool true,.bool true])) w':=by
 subst hk hj;refine⟨g,?_⟩;rw[if_pos hg,hc];exact⟨rfl,hs⟩
def J0(hk:k=AV s (i+1))(hg:CS s k=true)(hc:BR s k=some q)(g:w.grownBy w' (some b))(hs:Sc w' b s j line begun q):
 IH w b s i line begun bad (.returned (.tuple #[.bool true,.bool false])) w':=by
 subst hk;refine⟨g,?_⟩;rw[if_pos hg,hc];exact⟨rfl,j,hs⟩
def Rb(hk:k=AV s (i+1))(hg:CS s k=false)(g:w.grownBy w' (some b))(hs:Sc w' b s i line begun bad):
 IH w b s i line begun bad (.returned (.tuple #[.bool false,.bool true])) w':=by
 subst hk;refine⟨g,?_⟩;rw[if_neg (by rw[hg];simp)];exact⟨rfl,hs⟩
end
def Pu(h:Sc w b s i line begun bad)(hi:i<s.length):
 Calls Tryz.prog 265 #[.pointer (some ⟨b,0,none⟩)] w (IH w b s i line begun bad):=by
 have c0:=h.c0;have c1:=h.c1;have hf:=h.few;have hb:=h.lt;go_enter func265,ntmps265;go_wp2_with fail;go_loopg [4] (s.length-(i+1)) (λg v4 wr=>∃k:Nat,k+g=s.length/\v4= .int .i64 k/\Sc wr b s i line begun bad/\AV s k=AV s (i+1)/\w.grownBy wr none)
 case atStart=>exact⟨i+1,by omega,by simp,h,rfl,Aa _ _⟩
 case round=>
  obtain⟨k,hk,rfl,hs,hq,g⟩:=hrel;have HQ:=S hq;clear hq c0 c1 hb;have hb:=hs.lt;cases hc:(decide (k<s.length)&&cls 3 (bAt s k))with
  | true=>
    simp only[Bool.and_eq_true,decide_eq_true_eq]at hc;cases gk with
    |zero=>omega
    |succ gk=>
    have HC:=S hc.2;have hkl:=hc.1;clear hc h;go_wp2_with fail;refine mR (Cv hs k 3 (r:=true) (by simp[hkl,HC.1])) λw1 g1=>?_;have hs1:=hs.gbN g1;go_wp2;go_roundg gk
    case measure=>omega
    case rel=>exact⟨k+1,by omega,by simp,hs1,by rw[<-HQ.1];exact(Cy hkl HC.1).symm,Ag g g1⟩
  | false=>
    have HC:=S hc;clear hc h;go_wp2_with fail;refine mR (Cv hs k 3 (r:=false) HC.1) λw1 g1=>?_;have hs1:=hs.gbN g1;have hk2:AV s k=k:=by
     have h2:=HC.1;by_cases hkl:k<s.length
     ·exact DA hkl (by simpa[hkl]using h2)
     ·exact Ei (by omega)
    have HK:=S (hk2.symm.trans HQ.1);clear hk2;have c0:=hs1.c0;have c1:=hs1.c1;have f1:=hs1.fr 1;have hb1:=hs1.lt;by_cases hkl:k<s.length
    ·have hl1:((k:Int)==(s.length:Int))=false:=by simp;omega
     have hg:=λh=>GE s k h hkl;have hkl2:k<=s.length:=by omega
     cases h10:((bAt s k).toNat:Int)==10 with
     | true=>
       have HG:=S (show CS s k=true by
        have h2:bAt s k=10:=by simp at h10;apply UInt8.toNat_inj.1;simpa using(by omega:(bAt s k).toNat=10)
        simp[CS,h2])
       have hs2:=hs1.go (k:Int) k rfl hkl2;go_wp2_with fail;refine(Io hs2).mono ?_;rintro e w2 ⟨g2,h2⟩;have g12:w1.grownBy w2 (some b):=Z (Af (Aa _ _) _ _ (.inl rfl)) g2;cases hcm:BR s k with
       | some j=>
         have HM:=S hcm;rw[hcm]at h2;clear hcm;obtain⟨rfl,j',hs3⟩:=h2;go_wp2;exact bZ (v:= .tuple #[.bool true,.bool false]) (by simp[results,results265,go_sem]) rfl (J0 HK.1 HG.1 HM.1 (Z (A2 (Ag g g1)) g12) hs3)
       | none=>
         have HM:=S hcm;rw[hcm]at h2;clear hcm;obtain⟨rfl,hs3⟩:=h2;have d0:=hs3.c0;have d1:=hs3.c1;have e1:=hs3.fr 1;have hb3:=hs3.lt;by_cases hle:At s k<s.length
         ·have hl3:decide (At s k<s.length)=true:=by simpa using hle
          have HN:=S (show BS s k=At s k+1 by unfold BS;rw[if_pos hle]);generalize At s k=q at*;go_wp2;go_quiet(fail);go_wp2;exact bZ (v:= .tuple #[.bool true,.bool true]) (by simp[results,results265,go_sem]) rfl (Gw (j:=q+1) HK.1 HG.1 HM.1 HN.1 (Af (An (Z (A2 (Ag g g1)) g12) _) _ _ (.inl rfl)) (by repeat(first| (with_reducible assumption)| (with_reducible apply Sc.drewN)| (with_reducible apply Sc.go)|omega)))
         ·have hl3:decide (At s k<s.length)=false:=by simpa using hle
          have HN:=S (show BS s k=At s k by unfold BS;rw[if_neg hle]);generalize At s k=q at*;go_wp2;go_quiet(fail);go_wp2;exact bZ (v:= .tuple #[.bool true,.bool true]) (by simp[results,results265,go_sem]) rfl (Gw (j:=q) HK.1 HG.1 HM.1 HN.1 (An (Z (A2 (Ag g g1)) g12) _) (by repeat(first| (with_reducible assumption)| (with_reducible apply Sc.drewN))))
     | false=>
       cases ha:EQ s k with
       | true=>
         have HG:=S (show CS s k=true by simp[CS,ha]);have hkI:decide ((k:Int)<=s.length)=true:=by simp;omega
         go_wp2_with fail;refine(JO s k [38,38] (r:=true) ha _).mono ?_;rintro e w0 ⟨rfl,rfl⟩;have hs2:=hs1.go (k:Int) k rfl hkl2;go_wp2_with fail;refine(Io hs2).mono ?_;rintro e w2 ⟨g2,h2⟩;have g12:w1.grownBy w2 (some b):=Z (Af (Aa _ _) _ _ (.inl rfl)) g2;cases hcm:BR s k with
         | some j=>
           have HM:=S hcm;rw[hcm]at h2;clear hcm;obtain⟨rfl,j',hs3⟩:=h2;go_wp2;exact bZ (v:= .tuple #[.bool true,.bool false]) (by simp[results,results265,go_sem]) rfl (J0 HK.1 HG.1 HM.1 (Z (A2 (Ag g g1)) g12) hs3)
         | none=>
           have HM:=S hcm;rw[hcm]at h2;clear hcm;obtain⟨rfl,hs3⟩:=h2;have d0:=hs3.c0;have d1:=hs3.c1;have e1:=hs3.fr 1;have hb3:=hs3.lt;by_cases hle:At s k<s.length
           ·have hl3:decide (At s k<s.length)=true:=by simpa using hle
            have HN:=S (show BS s k=At s k+1 by unfold BS;rw[if_pos hle]);generalize At s k=q at*;go_wp2;go_quiet(fail);go_wp2;exact bZ (v:= .tuple #[.bool true,.bool true]) (by simp[results,results265,go_sem]) rfl (Gw (j:=q+1) HK.1 HG.1 HM.1 HN.1 (Af (An (Z (A2 (Ag g g1)) g12) _) _ _ (.inl rfl)) (by repeat(first| (with_reducible assumption)| (with_reducible apply Sc.drewN)| (with_reducible apply Sc.go)|omega)))
           ·have hl3:decide (At s k<s.length)=false:=by simpa using hle
            have HN:=S (show BS s k=At s k by unfold BS;rw[if_neg hle]);generalize At s k=q at*;go_wp2;go_quiet(fail);go_wp2;exact bZ (v:= .tuple #[.bool true,.bool true]) (by simp[results,results265,go_sem]) rfl (Gw (j:=q) HK.1 HG.1 HM.1 HN.1 (An (Z (A2 (Ag g g1)) g12) _) (by repeat(first| (with_reducible assumption)| (with_reducible apply Sc.drewN))))
       | false=>
         have HG:=S (show CS s k=false by
          have h2:bAt s k≠10:=by rintro e;rw[e]at h10;simp at h10
          simp[CS,ha,h2];omega)
         have hkI:decide ((k:Int)<=s.length)=true:=by simp;omega
         go_wp2_with fail;refine(JO s k [38,38] (r:=false) ha _).mono ?_;rintro e w0 ⟨rfl,rfl⟩;go_wp2;exact bZ (v:= .tuple #[.bool false,.bool true]) (by simp[results,results265,go_sem]) rfl (Rb HK.1 HG.1 (A2 (Ag g g1)) hs1)
    ·have hl1:((k:Int)==(s.length:Int))=true:=by simp;omega
     have hkl2:k<=s.length:=by omega
     have HG:=S (show CS s k=true by simp[CS];left;omega);have hs2:=hs1.go (k:Int) k rfl hkl2;go_wp2_with fail;refine(Io hs2).mono ?_;rintro e w2 ⟨g2,h2⟩;have g12:w1.grownBy w2 (some b):=Z (Af (Aa _ _) _ _ (.inl rfl)) g2;cases hcm:BR s k with
     | some j=>
       have HM:=S hcm;rw[hcm]at h2;clear hcm;obtain⟨rfl,j',hs3⟩:=h2;go_wp2;exact bZ (v:= .tuple #[.bool true,.bool false]) (by simp[results,results265,go_sem]) rfl (J0 HK.1 HG.1 HM.1 (Z (A2 (Ag g g1)) g12) hs3)
     | none=>
       have HM:=S hcm;rw[hcm]at h2;clear hcm;obtain⟨rfl,hs3⟩:=h2;have d0:=hs3.c0;have d1:=hs3.c1;have e1:=hs3.fr 1;have hb3:=hs3.lt;by_cases hle:At s k<s.length
       ·have hl3:decide (At s k<s.length)=true:=by simpa using hle
        have HN:=S (show BS s k=At s k+1 by unfold BS;rw[if_pos hle]);generalize At s k=q at*;go_wp2;go_quiet(fail);go_wp2;exact bZ (v:= .tuple #[.bool true,.bool true]) (by simp[results,results265,go_sem]) rfl (Gw (j:=q+1) HK.1 HG.1 HM.1 HN.1 (Af (An (Z (A2 (Ag g g1)) g12) _) _ _ (.inl rfl)) (by repeat(first| (with_reducible assumption)| (with_reducible apply Sc.drewN)| (with_reducible apply Sc.go)|omega)))
       ·have hl3:decide (At s k<s.length)=false:=by simpa using hle
        have HN:=S (show BS s k=At s k by unfold BS;rw[if_neg hle]);generalize At s k=q at*;go_wp2;go_quiet(fail);go_wp2;exact bZ (v:= .tuple #[.bool true,.bool true]) (by simp[results,results265,go_sem]) rfl (Gw (j:=q) HK.1 HG.1 HM.1 HN.1 (An (Z (A2 (Ag g g1)) g12) _) (by repeat(first| (with_reducible assumption)| (with_reducible apply Sc.drewN))))
def R3{fn:Func}{p:Tmp}(h:fn.results=#[.cell p 96])(tmps:Array Value){a b:Value}(hb:Blk w k [a,b] 96)
 (hp:tmps.getD p undef= .pointer (some ⟨k,0,none⟩)):(results fn tmps).run Tryz.prog w= .ok (.agg #[a,b]) w:=by
 have c0:=hb.cell' 0 rfl;have c1:=hb.cell' 1 rfl;have hp':tmps[p]?.getD undef= .pointer (some ⟨k,0,none⟩):=by simpa using hp
 simp[results,h,hp',go_sem,c0,c1]
def Blk.set2K{a0 a1:Value}{t:TypeId}(h:Blk w k [a0,a1] t)(v0 v1:Value):Blk ((w.setCell ⟨k,0,none⟩ v0).setCell ⟨k,1,none⟩ v1) k [v0,v1] t:=
 ((h.set 0 v0).set 1 v1).of_eq rfl rfl
structure AccK(w wr:World):Prop where
 res:Blk wr w.heap.size [.int .i64 0,.int .i64 0] 96
 acc:Blk wr (w.heap.size+1) [.int .i64 0,.int .i64 0] 96
 g:w.grownBy wr none
def AccK.start(w:World):AccK w ((w.alloc (.cells #[.int .i64 0,.int .i64 0] 96 (0,0))).alloc (.cells #[.int .i64 0,.int .i64 0] 96 (0,0))):=
 ⟨(Blk.new w [.int .i64 0,.int .i64 0] _).alloc _,(Blk.new _ [.int .i64 0,.int .i64 0] _).of_eq (by simp) rfl,Ac (gZ w _ none) _⟩
def Ud(h:Blk w G mainC 40):
 Calls Tryz.prog 59 #[.slice (some ⟨G,0,none⟩) 1 c] w (ρ w (szK 0 0)):=by
 have HB:=S h;have HA:=S (AccK.start w);clear h;go_enter func59,ntmps59;go_wp2_with fail;go_loopg [5,8] 1 (λg v5 v8 wr=>∃k:Nat,k+g=1/\v8= .int .i64 k/\AccK w wr)
 case atStart=>exact⟨0,rfl,rfl,HA.1⟩
 case round=>
  obtain⟨k,hk,rfl,hA⟩:=hrel;clear HA;have a0:=hA.acc.cell' 0 rfl;have a1:=hA.acc.cell' 1 rfl;have r0:=hA.res.cell' 0 rfl;have r1:=hA.res.cell' 1 rfl;have rf:=λk=>hA.res.frozen k;have rl:=hA.res.lt;have af:=λk=>hA.acc.frozen k;have al:=hA.acc.lt;cases gk with
  | zero=>
    have hk1:k=1:=by omega
    subst hk1;have HG:=S hA;clear hA;go_wp2;refine bZ (R3 rfl _ (HG.1.res.set2K _ _) rfl) rfl ⟨rfl,?_⟩;have g:=HG.1.g;exact(Af (Af (by assumption) _ _ (.inr (nR _))) _ _ (.inr (nR _)))
  | succ gk=>
    have hk0:k=0:=by omega
    subst hk0;have hb:=HB.1.gb hA.g (by simp);have z0:=hb.cell' 0 rfl;have z1:=hb.cell' 1 rfl;have z2:=hb.cell' 2 rfl;have z3:=hb.cell' 3 rfl;have hgl:=hb.lt;have hy:=Blk.new wr mainC 40;have hac:=hA.acc.alloc (.cells mainC.toArray 40 (0,0));have HG:=S hA;have HY:=S (X hy hac);have q0:=hy.cell' 0 rfl;have q1:=hy.cell' 1 rfl;have q2:=hy.cell' 2 rfl;have q3:=hy.cell' 3 rfl;have hyl:=hy.lt;clear hb hy hac hA;go_wp2_with fail;go_region_with(first
     | (go_at_call 86;refine mR (Ue _) λw5 g5=>?_;(have y5:=(HY.1.1.drewN 1).gb g5 (by simp));(have ac5:=(HY.1.2.drewN 1).gb g5 (by simp));(have b0:=y5.cell' 0 rfl);(have b1:=y5.cell' 1 rfl);(have b2:=y5.cell' 2 rfl);(have b3:=y5.cell' 3 rfl);(have d0:=ac5.cell' 0 rfl);(have d1:=ac5.cell' 1 rfl);(have df:=λk=>ac5.frozen k);(have dl:=ac5.lt))
     | (go_at_call 85;refine mR (Wm _) λw6 g6=>?_;(have ac6:=ac5.gb g6 (by simp));(have m0:=ac6.cell' 0 rfl);(have m1:=ac6.cell' 1 rfl);(have mf:=λk=>ac6.frozen k);(have ml:=ac6.lt)))
    all_goals
     have hre:=((((HG.1.res.alloc (.cells mainC.toArray 40 (0,0))).drewN 1).gb g5 (by simp)).gb g6 (by simp));have gg:=Ag (Ag (Ae (Ac HG.1.g (.cells mainC.toArray 40 (0,0)))) g5) g6;have HX:=S (X ac6 (X hre gg));clear hre gg;go_wp2;go_roundg gk
     case measure=>omega
     case rel=>exact⟨1,by omega,rfl,(HX.1.2.1.set_other _ _ (by simp)).set_other _ _ (by simp),HX.1.1.set2K _ _,by have g:=HX.1.2.2;exact(Af (Af (by assumption) _ _ (.inr (by simp<;>omega))) _ _ (.inr (by simp<;>omega)))⟩
def Pb(h:Blk w G mainC 40):
 Calls Tryz.prog 35 #[.slice (some ⟨G,0,none⟩) 1 c] w (ρ w (.int .i64 0)):=by
 have HB:=S h;clear h;go_enter func35,ntmps35;go_wp2_with fail;refine mR (Ud HB.1) λw1 g1=>?_;go_wp2_with fail;refine mR (U2 w1) λw2 g2=>?_;have hb:=HB.1.gb (Z g1 g2) (by simp);have HG:=S (X hb (Z g1 g2));have z0:=hb.cell' 0 rfl;have z1:=hb.cell' 1 rfl;have z2:=hb.cell' 2 rfl;have z3:=hb.cell' 3 rfl;clear hb g1 g2;go_wp2_with fail;refine mR (U3 HG.1.1) λw3 g3=>?_;have H3:=S (X (HG.1.1.gb g3 (by simp)) (Z HG.1.2 g3));clear g3 z0 z1 z2 z3;go_wp2_with fail;go_loopg [4,38] 1 (λg v4 v38 wr=>∃k:Nat,k+g=1/\v38= .int .i64 k/\Blk wr G mainC 40/\w.grownBy wr none)
 case atStart=>exact⟨0,rfl,rfl,H3.1.1,H3.1.2⟩
 case round=>
  obtain⟨k,hk,rfl,hb,hg⟩:=hrel;clear H3;cases gk with
  | zero=>
    have hk1:k=1:=by omega
    subst hk1;have HX:=S hg;clear hg hb;go_wp2;go_ret;exact⟨rfl,HX.1⟩
  | succ gk=>
    have hk0:k=0:=by omega
    subst hk0;have z0:=hb.cell' 0 rfl;have z1:=hb.cell' 1 rfl;have z2:=hb.cell' 2 rfl;have z3:=hb.cell' 3 rfl;have hgl:=hb.lt;have gA:=gZ wr (.cells mainC.toArray 40 (0,0)) none;have HX:=S (X (hb.gb gA (by simp)) (X (Z hg gA) (Blk.new wr mainC 40)));clear hb hg gA;go_wp2_with fail;refine mR (Qb mainB _ (by decide)) λw4 g4=>?_;have hnm:Aw mainB=true:=by decide
    rw[hnm];have H4:=S (X (HX.1.1.gb g4 (by simp)) (X (Z HX.1.2.1 g4) (HX.1.2.2.gb g4 (by simp))));have q2:=H4.1.2.2.cell' 2 rfl;have q3:=H4.1.2.2.cell' 3 rfl;clear g4 hnm;go_wp2_with fail;refine mR (So _) λw5 g5=>?_;have H5:=S (X (H4.1.1.gb g5 (by simp)) (X (Z H4.1.2.1 g5) (H4.1.2.2.gb g5 (by simp))));have p3:=H5.1.2.2.cell' 3 rfl;clear g5;go_wp2_with fail;refine mR (Sp _) λw6 g6=>?_;have H6:=S (X (H5.1.1.gb g6 (by simp)) (Z H5.1.2.1 g6));clear g6;go_wp2;go_roundg gk
    case measure=>omega
    case rel=>exact⟨1,by omega,rfl,H6.1.1,H6.1.2⟩
def ID{l m:List α}{x:α}(h:l.take k=m.take k)(h1:l[k]? =some x)(h2:m[k]? =some x):l.take (k+1)=m.take (k+1):=by
 rw[List.take_add_one,List.take_add_one,h,h1,h2]
def F5{l m:List α}{x y:α}(h1:l[k]? =some x)(h2:m[k]? =some y)(h:x≠y):l≠m:=by
 rintro rfl;rw[h1]at h2;exact h (by cases h2;rfl)
def Jf{l m:List α}(hl:l.length=m.length)(h:l.take l.length=m.take l.length):l=m:=by
 rw[List.take_of_length_le (nR _),List.take_of_length_le (by omega)]at h;exact h
def RW{a b:Option Addr}{d:Nat}{l m:List Int}{ok ok':Nat->Prop}(h1:Cells w (.slice a l.length c) 1 l.length (Bt l) ok)(h2:Cells w (.slice b m.length d) 1 m.length (Bt m) ok'):
 Calls Tryz.prog 27 #[.slice a l.length c,.slice b m.length d] w (ρ w (.bool (decide (l=m)))):=by
 have hlm:l.length<=9223372036854775807:=by obtain⟨_,_,e,h3,h4,_⟩:=h1;cases e;unfold maxLen at h4;omega
 have hmm:m.length<=9223372036854775807:=by obtain⟨_,_,e,h3,h4,_⟩:=h2;cases e;unfold maxLen at h4;omega
 by_cases hl:l.length=m.length
 ·have HH:=S (X h1 (X h2 hl));have i0:((l.length:Int) !=(m.length:Int))=false:=by simp;omega
  have i1:((l.length:Int)==(m.length:Int))=true:=by simp;omega
  clear h1 h2 hl;go_enter func27,ntmps27;go_wp2_with fail;go_loopg [5,13] l.length (λg v5 v13 wr=>∃k:Nat,k+g=l.length/\v13= .int .i64 k/\l.take k=m.take k/\w.grownBy wr none)
  case atStart=>exact⟨0,by omega,rfl,rfl,Aa _ _⟩
  case round=>
   obtain⟨k,hk,rfl,ht,hG⟩:=hrel;cases gk with
   | zero=>
     have hkl:k=l.length:=by omega
     have hj1:decide (k<l.length)=false:=by simp;omega
     have HE:=S (X (Jf HH.1.2.2 (by rw[<-hkl];exact ht)) hG);clear ht hG;subst hkl;go_wp2;go_ret;exact⟨by rw[decide_eq_true HE.1.1];rfl,HE.1.2⟩
   | succ gk=>
     have hkl:k<l.length:=by omega
     have hkm:k<m.length:=by have:=HH.1.2.2;omega
     have hj1:decide (k<l.length)=true:=by simp;omega
     obtain⟨x,hx⟩:∃x,l[k]? =some x:=⟨_,AQ hkl⟩;obtain⟨y,hy⟩:∃y,m[k]? =some y:=⟨_,AQ hkm⟩;obtain⟨ga,oa,rfl,_,_,ca⟩:=HH.1.1.int hx;obtain⟨gb,ob,rfl,_,_,cb⟩:=HH.1.2.1.int hy;have da:=Ad hG ca;have db:=Ad hG cb;clear ca cb;by_cases hxy:x=y
     ·subst hxy;have j1:(x==x)=true:=by simp
      have j2:(x !=x)=false:=by simp
      have HE:=S (X (ID ht hx hy) hG);clear ht hG hx hy;go_wp2_with fail;go_quiet(fail);go_wp2;go_roundg gk
      case measure=>omega
      case rel=>exact⟨k+1,by omega,by go_num,HE.1.1,An HE.1.2 _⟩
     ·have j1:(x==y)=false:=by simpa using hxy
      have j2:(x !=y)=true:=by simpa using hxy
      have HE:=S (X (F5 hx hy hxy) hG);clear ht hG hx hy hxy;go_wp2_with fail;go_quiet(fail);go_wp2;go_ret;exact⟨by rw[decide_eq_false HE.1.1];rfl,An HE.1.2 _⟩
 ·have HE:=S (show l≠m by rintro rfl;exact hl rfl);have i0:((l.length:Int) !=(m.length:Int))=true:=by simp;omega
  have i1:((l.length:Int)==(m.length:Int))=false:=by simp;omega
  clear h1 h2;go_enter func27,ntmps27;go_wp2;go_ret;exact⟨by rw[decide_eq_false HE.1];rfl,Aa _ _⟩
def DM(s:Bs):Nat->Int
 | 0=>0
 |k+1=>(DM s k*263+(bAt s k).toNat+1)%1000033
def csM(s:Bs):Int:=DM s s.length
def IY(s:Bs)(k:Nat):0<=DM s k/\DM s k<1000033:=by
 induction k with
 |zero=>simp[DM]
 | succ k ih=>
   rw[DM];exact⟨Int.emod_nonneg _ (by decide),Int.emod_lt_of_pos _ (by decide)⟩
def MX(s:Bs)(hs:s.length<=100000000000)(w:World):
 Calls Tryz.prog 20 #[str s] w (ρ w (.int .i64 (csM s))):=by
 have hconv:=run_bytes_of_string (P:=Tryz.prog) w 9 84 5 ⟨s.toArray⟩ underlying9 underlying84 underlying5;have hsz:(⟨s.toArray⟩:ByteArray).size=s.length:=by simp[ByteArray.size]
 rw[hsz]at hconv;generalize hcap:grownCap w s.length 0 5=cap at*;have H0:=S (X (BytR.new w s cap) (Ac (Ae (Aa w none)) (.cells (bytesRow ⟨s.toArray⟩ cap) 5 ((bytesRow ⟨s.toArray⟩ cap).size,(bytesRow ⟨s.toArray⟩ cap).size+1))));clear hsz hcap;generalize(w.drew.alloc (.cells (bytesRow ⟨s.toArray⟩ cap) 5 ((bytesRow ⟨s.toArray⟩ cap).size,(bytesRow ⟨s.toArray⟩ cap).size+1)))=W at*;go_enter func20,ntmps20;go_wp2_with fail;go_loopg [3,5,9] s.length (λg v3 v5 v9 wr=>∃k:Nat,∃n:Int,k+g=s.length/\v9= .int .i64 k/\v3= .int .i64 n/\n=DM s k/\W=wr)
 case atStart=>exact⟨0,_,by omega,rfl,rfl,rfl,rfl⟩
 case round=>
  obtain⟨k,n,hk,rfl,rfl,hn,rfl⟩:=hrel;clear hconv;cases gk with
  | zero=>
    have hkl:k=s.length:=by omega
    have hj1:decide (k<s.length)=false:=by simp;omega
    subst hkl;have HN:=S hn;clear hn;go_wp2;go_ret;exact⟨by rw[HN.1];rfl,H0.1.2⟩
  | succ gk=>
    have hkl:k<s.length:=by omega
    have hj1:decide (k<s.length)=true:=by simp;omega
    have ck:=H0.1.1.cell k hkl;have hlt:=H0.1.1.lt;have hb:=(bAt s k).toNat_lt;have hr:=IY s k;rw[<-hn]at hr;obtain⟨r0,r1⟩:=hr;have HN:=S (show DM s (k+1)=(n*263+(bAt s k).toNat+1)%1000033 by rw[hn,DM]);clear hn;go_wp2;go_roundg gk
    case measure=>omega
    case rel=>exact⟨k+1,_,by omega,by go_num,rfl,HN.1.symm,rfl⟩
def WL(s:Bs)(hs:s.length<=100000000000)(w:World):
 Calls Tryz.prog 25 #[str s] w λe w'=>e= .returned (.int .i64 (csM s))/\w=w':=by
 have hsz:(⟨s.toArray⟩:ByteArray).size=s.length:=by simp[ByteArray.size]
 go_enter func25,ntmps25;go_wp2_with fail;go_loopg [3,4] s.length (λg v3 v4 wr=>∃k:Nat,∃n:Int,k+g=s.length/\v4= .int .i64 k/\v3= .int .i64 n/\n=DM s k/\w=wr)
 case atStart=>exact⟨0,_,by omega,rfl,rfl,rfl,rfl⟩
 case round=>
  obtain⟨k,n,hk,rfl,rfl,hn,rfl⟩:=hrel;cases gk with
  | zero=>
    have hkl:k=s.length:=by omega
    have hj1:decide (k<s.length)=false:=by simp;omega
    subst hkl;have HN:=S hn;clear hn;go_wp2;go_ret;exact⟨by rw[HN.1];rfl,rfl⟩
  | succ gk=>
    have hkl:k<s.length:=by omega
    have hj1:decide (k<s.length)=true:=by simp;omega
    have hgk:=λh=>Fz s k h hkl;have hb:=s[k].toNat_lt;have hr:=IY s k;rw[<-hn]at hr;obtain⟨r0,r1⟩:=hr;have HN:=S (show DM s (k+1)=(n*263+s[k].toNat+1)%1000033 by rw[hn,DM,CC hkl]);clear hn;go_wp2;go_roundg gk
    case measure=>omega
    case rel=>exact⟨k+1,_,by omega,by go_num,rfl,HN.1.symm,rfl⟩
end Go.Proofs.YtbjfaimkiclhgaaGreatDoor
