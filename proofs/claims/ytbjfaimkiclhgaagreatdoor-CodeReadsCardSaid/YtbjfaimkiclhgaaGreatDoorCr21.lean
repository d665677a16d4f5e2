/-
  VaA VaG VaH TxC TxD TxE TxF Code: the program's reader of texts: where the sum stands.
-/
import Derived.Test.YtbjfaimkiclhgaaGreatDoorCr11
import Derived.Test.YtbjfaimkiclhgaaGreatDoorCr02
import Derived.Test.YtbjfaimkiclhgaaGreatDoorCr13
import Derived.Test.YtbjfaimkiclhgaaGreatDoorCr08
import Derived.Test.YtbjfaimkiclhgaaGreatDoorCr19
import Derived.Test.YtbjfaimkiclhgaaGreatDoorCr06
import Derived.Test.YtbjfaimkiclhgaaGreatDoorCr15
set_option linter.all false
set_option maxRecDepth 100000
set_option maxHeartbeats 8000000
namespace Go.Proofs.YtbjfaimkiclhgaaGreatDoor
open Go.Proofs.Tryz
open Go.RowKit
variable{α:Type}{k pc n lc pn g o b o0 o1 o2 o3 o4 o5 o6 i:Nat}{w W W1:World}{pa la:Option Addr}{l p:List Bs}{ok:Nat->Prop}{vk vn:Int}{vs t s:Bs}{h a:Hd}{v pv lv u v0 v1 v2 v3 v4 v5 v6:Value}{x:Ex}
def LG(s:Bs)(w:World)(hs:s.length<=4000000):Calls Tryz.prog 61 #[str s] w (ρ w (.bool (Ay s))):=by
 go_enter func61,ntmps61;go_wp2_with fail;refine mR (Fj s w hs) λw1 hb=>?_;go_wp2;go_ret;exact⟨rfl,hb⟩
def M7(s:Bs)(w:World)(hs:s.length<=4000000):Calls Tryz.prog 87 #[str s] w (ρ w (.bool (!Ay s))):=by
 go_enter func87,ntmps87;go_wp2_with fail;refine mR (LG s w hs) λw1 hb=>?_;go_wp2;go_ret;exact⟨rfl,hb⟩
def Oj{p:α->Bool}{l:List α}{d:α}(hk:k<l.length)(h:p (l.getD k d)=false):l.all p=false:=by
 rw[List.all_eq_false];refine⟨l.getD k d,?_,by intro e;rw[h]at e;cases e⟩;rw[List.getD_eq_getElem?_getD,List.getElem?_eq_getElem hk];exact List.getElem_mem hk
def Ok{p:α->Bool}{l:List α}{d:α}(h:∀j,j<l.length->p (l.getD j d)=true):l.all p=true:=by
 rw[List.all_eq_true];intro x hx;obtain⟨j,hj,rfl⟩:=List.getElem_of_mem hx;have:=h j hj;rwa[List.getD_eq_getElem?_getD,List.getElem?_eq_getElem hj]at this
def Pu(h1:Cells w (.slice pa l.length pc) 1 l.length (l.map str) ok)(hf:∀s∈l,s.length<=2000000):
 Calls Tryz.prog 112 #[.slice pa l.length pc,.func (.func 87) #[] #[]] w λe w'=>(∃n:Int,e= .returned (.int .i64 n)/\decide (0<=n)= !l.all Ay)/\w.grownBy w' none:=by
 have hc1:=h1.at1.2;have hl:l.length<=maxLen:=by obtain⟨_,_,e,h3,h4,_⟩:=h1;omega
 unfold maxLen at hl;clear h1;have HF:=S hf;have HC:=S hc1;clear hc1 hf;go_enter func112,ntmps112;go_wp2_with fail;go_loopg [8] l.length (λg v8 wr=>∃k:Nat,k+g=l.length/\v8= .int .i64 k/\(∀j,j<k->Ay (l.getD j [])=true)/\w.grownBy wr none)
 case atStart=>exact⟨0,by omega,rfl,λj hj=>by omega,Aa _ _⟩
 case round=>
  obtain⟨k,hg,rfl,hp,hgr⟩:=hrel;by_cases hk:k<l.length
  ·obtain⟨g1,o1,rfl,c1⟩:=HC.1 k hk;have d1:=Ae hgr c1;have hkI:decide (k<l.length)=true:=by simpa using hk
   have hmem:l.getD k []∈l:=by
    rw[List.getD_eq_getElem?_getD,List.getElem?_eq_getElem hk];exact List.getElem_mem hk
   have HL:=S (HF.1 _ hmem);have HP:=S hp;have HG:=S hgr;clear hp hgr c1 hmem;generalize hs1:l.getD k []=s at*;cases hb:Ay s with
   | true=>
     have HN:=S (X hb hs1);clear hb hs1;go_wp2_with fail;refine(M7 s _ (by have:=HL.1;omega)).mono ?_;rintro e w1 ⟨rfl,g1⟩;rw[HN.1.1];go_wp2;go_roundg (l.length-(k+1))
     case measure=>omega
     case rel=>exact⟨k+1,by omega,by go_num,λj hj=>by rcases Nat.lt_succ_iff_lt_or_eq.1 hj with h|rfl;exact HP.1 j h;rw[HN.1.2];exact HN.1.1,Z HG.1 (Z (Aa _ _) g1)⟩
   | false=>
     have HN:=S (X hb (Oj (p:=Ay) (l:=l) (d:=[]) hk (by rw[hs1];exact hb)));clear hb hs1;go_wp2_with fail;refine(M7 s _ (by have:=HL.1;omega)).mono ?_;rintro e w1 ⟨rfl,g1⟩;rw[HN.1.1];go_wp2;go_ret;exact⟨⟨_,rfl,by rw[HN.1.2];simp⟩,Z HG.1 (Z (Aa _ _) g1)⟩
  ·have hkI:decide (k<l.length)=false:=by simpa using hk
   have HE:=S (Ok (p:=Ay) (l:=l) (d:=[]) (λj hj=>hp j (by omega)));have HG:=S hgr;clear hp hgr;go_wp2;go_ret;exact⟨⟨_,rfl,by rw[HE.1];simp⟩,HG.1⟩
def Pb(h1:Cells w (.slice pa l.length pc) 1 l.length (l.map str) ok)(hf:∀s∈l,s.length<=2000000):
 Calls Tryz.prog 80 #[.slice pa l.length pc,.func (.func 87) #[] #[]] w (ρ w (.bool (!l.all Ay))):=by
 have H:=S (Pu h1 hf);clear h1 hf;go_enter func80,ntmps80;go_wp2_with fail;refine H.1.mono ?_;rintro e w1 ⟨⟨n,rfl,hn⟩,hb⟩;have HN:=S hn;clear hn;go_wp2;go_ret;exact⟨by rw[<-HN.1];rfl,hb⟩
def PY(h1:Cells w (.slice pa l.length pc) 1 l.length (l.map str) ok)(hf:∀s∈l,s.length<=2000000):
 Calls Tryz.prog 62 #[.slice pa l.length pc] w (ρ w (.bool (l.all Ay))):=by
 have H:=S (Pb h1 hf);clear h1 hf;go_enter func62,ntmps62;go_wp2_with fail;refine mR H.1 λw1 hb=>?_;go_wp2;go_ret;exact⟨rfl,hb⟩
def ByteC(w:World)(b:Nat)(s:Bs):Prop:=∀j,j<s.length->w.cell? ⟨b,j,none⟩=some (.int .u8 ((s.getD j 0).toNat:Int))
def Tg(s:Bs)(hs:s.length<=2000000)(w:World):Calls Tryz.prog 249 #[str s] w (ρ w (.bool (Ey s))):=by
 have hconv:=run_bytes_of_string (P:=Tryz.prog) w 9 84 5 ⟨s.toArray⟩ underlying9 underlying84 underlying5;have hsz:(⟨s.toArray⟩:ByteArray).size=s.length:=by simp[ByteArray.size]
 rw[hsz]at hconv;generalize hcap:grownCap w s.length 0 5=cap at*;have h0:ByteC (w.drew.alloc (.cells (bytesRow ⟨s.toArray⟩ cap) 5 ((bytesRow ⟨s.toArray⟩ cap).size,(bytesRow ⟨s.toArray⟩ cap).size+1))) w.heap.size s:=by
  intro j hj;show(w.drew.alloc _).cell? ⟨w.drew.heap.size,j,none⟩=_;rw[World.cell?_alloc_mark,bytesRow_at _ _ _ (by simpa using hj)];simp[B0 hj,hj]
 have g0:w.grownBy (w.drew.alloc (.cells (bytesRow ⟨s.toArray⟩ cap) 5 ((bytesRow ⟨s.toArray⟩ cap).size,(bytesRow ⟨s.toArray⟩ cap).size+1))) none:=Ac (Ad (Aa _ _)) _;have H0:=S (X h0 g0);have HL:=S hs;have hM:=S (show Ey s=(s.all EQ&&decide (s.length<=2048)&&!(s.contains 34&&s.contains 39))from rfl);clear h0 g0 hsz hcap;generalize(w.drew.alloc (.cells (bytesRow ⟨s.toArray⟩ cap) 5 ((bytesRow ⟨s.toArray⟩ cap).size,(bytesRow ⟨s.toArray⟩ cap).size+1)))=W at*;go_enter func249,ntmps249;go_wp2_with fail;go_loopg [8] s.length (λg v8 wr=>∃k:Nat,k+g=s.length/\v8= .int .i64 k/\(∀j,j<k->EQ (s.getD j 0)=true)/\W.grownBy wr none)
 case atStart=>exact⟨0,by omega,rfl,λj hj=>by omega,Aa _ _⟩
 case round=>
  obtain⟨k,hk,rfl,hp,gr⟩:=hrel;clear hconv;by_cases hkl:k<s.length
  ·have hj1:decide (k<s.length)=true:=by simpa using hkl
   have ck:=Ae gr (H0.1.1 k hkl);have i0:(0:Int)<=(k:Int):=by omega
   have i1:(k:Int)<(s.length:Int):=by omega
   have HP:=S (X hp gr);have hall:=fun(h:EQ (s.getD k 0)=false)=>Oj (p:=EQ) (l:=s) (d:=0) hkl h;clear hp gr;generalize hc:s.getD k 0=c at*;have hpr:EQ c=true↔c.toNat=9\/(32<=c.toNat/\c.toNat<=126):=by
    unfold EQ;rw[Bool.or_eq_true,Bool.and_eq_true,beq_iff_eq,decide_eq_true_eq,decide_eq_true_eq,UInt8.le_iff_toNat_le,UInt8.le_iff_toNat_le,<-UInt8.toNat_inj];rfl
   by_cases h:c.toNat=9\/(32<=c.toNat/\c.toNat<=126)
   ·have HC:=S (X (hpr.2 h) hc);clear hpr hall hc;rcases h with h| ⟨h,h'⟩
    ·have h9:((c.toNat:Int)==9)=true:=by simp;omega
     have h9':((c.toNat:Int) !=9)=false:=by simp;omega
     go_wp2;go_roundg (s.length-(k+1))
     case measure=>omega
     case rel=>exact⟨k+1,by omega,by go_num,λj hj=>by rcases Nat.lt_succ_iff_lt_or_eq.1 hj with h|rfl;exact HP.1.1 j h;rw[HC.1.2];exact HC.1.1,HP.1.2⟩
    ·have h9:((c.toNat:Int)==9)=false:=by simp;omega
     have h9':((c.toNat:Int) !=9)=true:=by simp;omega
     have h3:decide ((c.toNat:Int)<32)=false:=by simp;omega
     have h4:decide ((126:Int)<(c.toNat:Int))=false:=by simp;omega
     go_wp2;go_roundg (s.length-(k+1))
     case measure=>omega
     case rel=>exact⟨k+1,by omega,by go_num,λj hj=>by rcases Nat.lt_succ_iff_lt_or_eq.1 hj with h|rfl;exact HP.1.1 j h;rw[HC.1.2];exact HC.1.1,HP.1.2⟩
   ·have HF := S (show Ey s = false by
     rw[hM.1,hall (by cases hb:EQ c with|false=>rfl|true=>exact absurd (hpr.1 hb) h)];rfl)
    have h9:((c.toNat:Int)==9)=false:=by simp;omega
    have h9':((c.toNat:Int) !=9)=true:=by simp;omega
    clear hpr hall hc;by_cases h3:c.toNat<32
    ·have h3I:decide ((c.toNat:Int)<32)=true:=by simp;omega
     go_wp2;go_ret;exact⟨by rw[HF.1];rfl,Z H0.1.2 HP.1.2⟩
    ·have h3I:decide ((c.toNat:Int)<32)=false:=by simp;omega
     have h4:decide ((126:Int)<(c.toNat:Int))=true:=by simp;omega
     go_wp2;go_ret;exact⟨by rw[HF.1];rfl,Z H0.1.2 HP.1.2⟩
  ·have hj1:decide (k<s.length)=false:=by simpa using hkl
   have hall:s.all EQ=true:=Ok (d:=0) λj hj=>hp j (by omega);have HG:=S (Z H0.1.2 gr);have HA:=S (show Ey s=(decide (s.length<=2048)&&!(s.contains 34&&s.contains 39))by rw[hM.1,hall];rfl);have H1:=S (λW=>strings_Contains_one ⟨s.toArray⟩ 34 W);have H2:=S (λW=>strings_Contains_one ⟨s.toArray⟩ 39 W);have e1:=K7 s 34;have e2:=K7 s 39;clear hp gr hall hM;by_cases hl:s.length<=2048
   ·have hlI:decide ((s.length:Int)<=2048)=true:=by simp;omega
    have hl':decide (s.length<=2048)=true:=by simpa using hl
    cases b1:s.contains 34 with
    | false=>
      have HF:=S (show Ey s=true by rw[HA.1,hl',b1];rfl);have E1:=S (e1.trans b1);clear HA e1 e2 b1 hl hl';go_wp2_with fail;refine(H1.1 _).mono ?_;rintro e w1 ⟨rfl,rfl⟩;rw[E1.1];go_wp2;go_ret;exact⟨by rw[HF.1];rfl,HG.1⟩
    | true=>
      have HF:=S (show Ey s= !(s.contains 39)by rw[HA.1,hl',b1];rfl);have E1:=S (e1.trans b1);have E2:=S e2;clear HA e1 e2 b1 hl hl';generalize s.contains 39=b2 at*;go_wp2_with fail;refine(H1.1 _).mono ?_;rintro e w1 ⟨rfl,rfl⟩;rw[E1.1];go_wp2_with fail;refine(H2.1 _).mono ?_;rintro e w2 ⟨rfl,rfl⟩;rw[E2.1];go_wp2;go_ret;exact⟨by rw[HF.1];rfl,HG.1⟩
   ·have hlI:decide ((s.length:Int)<=2048)=false:=by simp;omega
    have HF:=S (show Ey s=false by rw[HA.1];simp[hl]);clear HA e1 e2 hl;go_wp2;go_ret;exact⟨by rw[HF.1];rfl,HG.1⟩
def QU(hl:vs.length<=2000000):
 Calls Tryz.prog 218 #[.agg #[.int .i64 vk,.int .i64 vn,str vs]] w (ρ w (.bool (A9 (HdV vk vn vs)))):=by
 have hT:=S (λW=>Tg vs hl W);by_cases h0:vk=0
 ·subst h0;by_cases hn:vn=0
  ·subst hn;by_cases hs:vs=[]
   ·have HF:=S (show A9 (HdV 0 0 vs)=true by simp[A9,HdV,hs]);clear hl hT;have hsI:(vs==[])=true:=by simpa using hs
    go_enter func218,ntmps218;go_wp2;go_ret;exact⟨by rw[HF.1];rfl,(Ac (Aa _ _) _)⟩
   ·have HF:=S (show A9 (HdV 0 0 vs)=false by simp[A9,HdV,hs]);clear hl hT;have hsI:(vs==[])=false:=by simpa using hs
    go_enter func218,ntmps218;go_wp2;go_ret;exact⟨by rw[HF.1];rfl,(Ac (Aa _ _) _)⟩
  ·have HF:=S (show A9 (HdV 0 vn vs)=false by simp[A9,HdV,hn]);clear hl hT;have hnI:(vn==0)=false:=by simpa using hn
   go_enter func218,ntmps218;go_wp2;go_ret;exact⟨by rw[HF.1];rfl,(Ac (Aa _ _) _)⟩
 have c0:(vk==0)=false:=by simpa using h0
 by_cases h1:vk=1
 ·subst h1;by_cases hn0:vn=0
  ·subst hn0;clear h0;by_cases hs:vs=[]
   ·have HF:=S (show A9 (HdV 1 0 vs)=true by simp[A9,HdV,hs]);clear hl hT;have hsI:(vs==[])=true:=by simpa using hs
    go_enter func218,ntmps218;go_wp2;go_ret;exact⟨by rw[HF.1];rfl,(Ac (Aa _ _) _)⟩
   ·have HF:=S (show A9 (HdV 1 0 vs)=false by simp[A9,HdV,hs]);clear hl hT;have hsI:(vs==[])=false:=by simpa using hs
    go_enter func218,ntmps218;go_wp2;go_ret;exact⟨by rw[HF.1];rfl,(Ac (Aa _ _) _)⟩
  have hnI0:(vn==0)=false:=by simpa using hn0
  by_cases hn1:vn=1
  ·subst hn1;clear h0;by_cases hs:vs=[]
   ·have HF:=S (show A9 (HdV 1 1 vs)=true by simp[A9,HdV,hs]);clear hl hT;have hsI:(vs==[])=true:=by simpa using hs
    go_enter func218,ntmps218;go_wp2;go_ret;exact⟨by rw[HF.1];rfl,(Ac (Aa _ _) _)⟩
   ·have HF:=S (show A9 (HdV 1 1 vs)=false by simp[A9,HdV,hs]);clear hl hT;have hsI:(vs==[])=false:=by simpa using hs
    go_enter func218,ntmps218;go_wp2;go_ret;exact⟨by rw[HF.1];rfl,(Ac (Aa _ _) _)⟩
  have hnI1:(vn==1)=false:=by simpa using hn1
  have HF:=S (show A9 (HdV 1 vn vs)=false by simp[A9,HdV,hn0,hn1]);clear hl hT h0;go_enter func218,ntmps218;go_wp2;go_ret;exact⟨by rw[HF.1];rfl,(Ac (Aa _ _) _)⟩
 have c1:(vk==1)=false:=by simpa using h1
 by_cases h2:vk=2
 ·subst h2;by_cases ha:0<=vn
  ·by_cases hb:vn<=999999999999999
   ·by_cases hs:vs=[]
    ·have HF:=S (show A9 (HdV 2 vn vs)=true by simp[A9,HdV,ha,hb,hs]);clear hl hT;have hsI:(vs==[])=true:=by simpa using hs
     go_enter func218,ntmps218;go_wp2;go_ret;exact⟨by rw[HF.1];rfl,(Ac (Aa _ _) _)⟩
    ·have HF:=S (show A9 (HdV 2 vn vs)=false by simp[A9,HdV,ha,hb,hs]);clear hl hT;have hsI:(vs==[])=false:=by simpa using hs
     go_enter func218,ntmps218;go_wp2;go_ret;exact⟨by rw[HF.1];rfl,(Ac (Aa _ _) _)⟩
   ·have HF:=S (show A9 (HdV 2 vn vs)=false by simp[A9,HdV,hb]);clear hl hT;have hbI:decide (vn<=999999999999999)=false:=by simpa using hb
    go_enter func218,ntmps218;go_wp2;go_ret;exact⟨by rw[HF.1];rfl,(Ac (Aa _ _) _)⟩
  ·have HF:=S (show A9 (HdV 2 vn vs)=false by simp[A9,HdV,ha]);clear hl hT;have haI:decide ((0:Int)<=vn)=false:=by simpa using ha
   go_enter func218,ntmps218;go_wp2;go_ret;exact⟨by rw[HF.1];rfl,(Ac (Aa _ _) _)⟩
 have c2:(vk==2)=false:=by simpa using h2
 by_cases h3:vk=3
 ·subst h3;by_cases ha:0<=vn
  ·by_cases hb:vn<=3652059
   ·by_cases hs:vs=[]
    ·have HF:=S (show A9 (HdV 3 vn vs)=true by simp[A9,HdV,ha,hb,hs]);clear hl hT;have hsI:(vs==[])=true:=by simpa using hs
     go_enter func218,ntmps218;go_wp2;go_ret;exact⟨by rw[HF.1];rfl,(Ac (Aa _ _) _)⟩
    ·have HF:=S (show A9 (HdV 3 vn vs)=false by simp[A9,HdV,ha,hb,hs]);clear hl hT;have hsI:(vs==[])=false:=by simpa using hs
     go_enter func218,ntmps218;go_wp2;go_ret;exact⟨by rw[HF.1];rfl,(Ac (Aa _ _) _)⟩
   ·have HF:=S (show A9 (HdV 3 vn vs)=false by simp[A9,HdV,hb]);clear hl hT;have hbI:decide (vn<=3652059)=false:=by simpa using hb
    go_enter func218,ntmps218;go_wp2;go_ret;exact⟨by rw[HF.1];rfl,(Ac (Aa _ _) _)⟩
  ·have HF:=S (show A9 (HdV 3 vn vs)=false by simp[A9,HdV,ha]);clear hl hT;have haI:decide ((0:Int)<=vn)=false:=by simpa using ha
   go_enter func218,ntmps218;go_wp2;go_ret;exact⟨by rw[HF.1];rfl,(Ac (Aa _ _) _)⟩
 have c3:(vk==3)=false:=by simpa using h3
 by_cases h4:vk=4
 ·subst h4;by_cases hn:vn=0
  ·subst hn;have HF:=S (show A9 (HdV 4 0 vs)=Ey vs by simp[A9,HdV]);rw[HF.1];clear hl HF;generalize Ey vs=b at*;go_enter func218,ntmps218;go_wp2_with fail;refine mR (hT.1 _) λw1 g1=>?_;have HG:=S (Z (gZ w (.cells #[.int .i64 4,.int .i64 0,str vs] 161 (0,0)) none) g1);clear g1;go_wp2;go_ret;exact⟨rfl,HG.1⟩
  ·have HF:=S (show A9 (HdV 4 vn vs)=false by simp[A9,HdV,hn]);clear hl hT;have hnI:(vn==0)=false:=by simpa using hn
   go_enter func218,ntmps218;go_wp2;go_ret;exact⟨by rw[HF.1];rfl,(Ac (Aa _ _) _)⟩
 have c4:(vk==4)=false:=by simpa using h4
 have HF:=S (show A9 (HdV vk vn vs)=false by simp[A9,HdV,h0,h1,h2,h3,h4]);clear hl hT;go_enter func218,ntmps218;go_wp2;go_ret;exact⟨by rw[HF.1];rfl,(Ac (Aa _ _) _)⟩
def LU{b:Bool}(hfit:h.fit)(hp:Cells w (.slice pa h.p.length pc) 1 h.p.length (h.p.map str) ok)
 (HL:∀W,w.grownBy W none->Calls Tryz.prog 122 #[.slice la n lc] W (ρ W (.bool b))):
 Calls Tryz.prog 170 #[exV h (.slice pa h.p.length pc) (.slice la n lc)] w (ρ w (.bool (BZ h n&&b))):=by
 by_cases hv:h.op≠0/\¬(h.vk=0/\h.vn=0/\h.vs=[])
 ·rw[Vp hv.1 hv.2];exact QV hv.1 hv.2
 by_cases h8:h.op≠8/\h.p≠[]
 ·rw[Vq hv h8.1 h8.2];exact QW hv h8.1 h8.2
 cases b with
 | false=>
   rw[Bool.and_false];exact QX hv h8 HL
 | true=>
   rw[Bool.and_true,Vr hv h8];have H:VaH w h pa la pc n lc:=⟨HL,λW g=>LG h.s W (by have:=hfit.1;omega),λW g=>QU hfit.2.1,λW g=>Pw h.s W,λW g=>PY (hp.gb g (by simp)) hfit.2.2.2⟩;clear hp HL hfit;obtain⟨op,s,vk,vn,vs,p⟩:=h;simp only at hv h8;by_cases e0:op=0
   ·subst e0;obtain rfl:p=[]:=Classical.not_not.1 λe=>h8 ⟨by decide,e⟩;exact Wp (S H)
   obtain⟨rfl,rfl,rfl⟩:vk=0/\vn=0/\vs=[]:=Classical.not_not.1 λe=>hv ⟨e0,e⟩;by_cases e8:op=8
   ·subst e8;exact Xz (S H)
   obtain rfl:p=[]:=Classical.not_not.1 λe=>h8 ⟨e8,e⟩;by_cases e1:op=1
   ·subst e1;exact Wq (S H)
   by_cases e2:op=2
   ·subst e2;exact Xt (S H)
   by_cases e3:op=3
   ·subst e3;exact Xu (S H)
   by_cases e4:op=4
   ·subst e4;exact Xv (S H)
   by_cases e5:op=5
   ·subst e5;exact Xw (S H)
   by_cases e6:op=6
   ·subst e6;exact Xx (S H)
   by_cases e7:op=7
   ·subst e7;exact Xy (S H)
   by_cases e9:op=9
   ·subst e9;exact X0 (S H)
   by_cases e10:op=10
   ·subst e10;exact UJ (S H)
   have hF:A1 ⟨op,s,0,0,[],[]⟩ n=false:=by
    unfold A1;simp only;rw[if_neg e0,if_neg (by omega),if_neg e2,if_neg e3,if_neg e4,if_neg e5,if_neg e6,if_neg e7,if_neg e8,if_neg e9]
   rw[hF];have c0:(op==0)=false:=by simpa using e0
   have c0':(op !=0)=true:=by simpa using e0
   have c1:(op==1)=false:=by simpa using e1
   have c2:(op==2)=false:=by simpa using e2
   have c3:(op==3)=false:=by simpa using e3
   have c4:(op==4)=false:=by simpa using e4
   have c5:(op==5)=false:=by simpa using e5
   have c6:(op==6)=false:=by simpa using e6
   have c7:(op==7)=false:=by simpa using e7
   have c8:(op==8)=false:=by simpa using e8
   have c8':(op !=8)=true:=by simpa using e8
   have c9:(op==9)=false:=by simpa using e9
   have c10:(op==10)=false:=by simpa using e10
   clear e0 e1 e2 e3 e4 e5 e6 e7 e8 e9 e10 hv h8 hF;replace H:=S H;go_enter func170,ntmps170;go_wp2_with fail;refine(H.1.1 _ ?gg).mono ?_
   case gg=>exact(Ac (Ac (Aa _ _) _) _)
   rintro e w5 ⟨rfl,g5⟩;have hb5:=((Blk.new w (hdC ⟨op,s,0,0,[],[]⟩ (.slice pa ([]:List Bs).length pc) (.slice la n lc)) 163).alloc (.cells #[.int .i64 0,.int .i64 0,.string ⟨#[]⟩] 161 (0,0))).gb g5 (by simp);have x_:=hb5.c7;simp only at x_;have HB:=S hb5;have HG:=S (Z (Ac (gZ w (.cells (hdC ⟨op,s,0,0,[],[]⟩ (.slice pa ([]:List Bs).length pc) (.slice la n lc)).toArray 163 (0,0)) none) (.cells #[.int .i64 0,.int .i64 0,.string ⟨#[]⟩] 161 (0,0))) g5);clear g5 hb5;go_wp2;go_ret;exact⟨rfl,HG.1⟩
def RZ:∀(N:Nat)(f:Fo),f.wt<N->f.fit->∀(ok:Nat->Prop)(la:Option Addr)(lc:Nat)(w:World),RepL ok w (.slice la f.len lc) f->
 Calls Tryz.prog 122 #[.slice la f.len lc] w (ρ w (.bool (okF f))):=by
 intro N;induction N with
 |zero=>intro f hN;omega
 | succ N ih=>
   intro f hN hfit ok la lc w hf;exact PB f ok la lc w hf hfit (λh k pa lb pc ld W h1 h2 h3 h4 h5=>LU h2 h4 (λW2 g=>ih k (by omega) h3 _ lb ld W2 (h5.gb g (by simp))))
def Td(hx:VE ok w v x)(h1:x.h.fit)(h2:x.kids.fit):
 Calls Tryz.prog 170 #[v] w (ρ w (.bool (okX x))):=by
 obtain⟨pa,pc,la,lc,rfl,hp,hl⟩:=hx;exact LU h1 hp (λW g=>RZ _ x.kids (Nat.lt_succ_self _) h2 _ la lc W (hl.gb g (by simp)))
def DL(x:Ex):Int:=if Cq x.nodes x.levels then 3 else if okX x then 0 else 1
def Rc(hx:VE ok w v x)(h1:x.h.fit)(h2:x.kids.fit)(hn:x.kids.nodes<=1000000):
 Calls Tryz.prog 210 #[v] w (ρ w (.int .i64 (DL x))):=by
 have HS:=S (fun(W:World)(g:w.grownBy W none)=>M9 (hx.gb g (by simp)) hn);have HL:=S (fun(W:World)=>JO x.nodes x.levels W);have HE:=S (fun(W:World)(g:w.grownBy W none)=>Td (hx.gb g (by simp)) h1 h2);have HV:=S (show DL x=if Cq x.nodes x.levels then 3 else if okX x then 0 else 1 from rfl);obtain⟨pa,pc,la,lc,rfl,_,_⟩:=hx;generalize Cq x.nodes x.levels=lb at*;generalize okX x=ob at*;generalize DL x=vm at*;have hB:=Blk.new w (hdC x.h (.slice pa x.h.p.length pc) (.slice la x.kids.len lc)) 163;have hB1:=hB;obtain⟨x_0,x_1,x_2,x_3,x_4,x_5,x_6,x_f⟩:=(hB1).c7;clear h1 h2 hB1;have HB:=S hB;clear hB;cases lb with
 | true=>
   go_enter func210,ntmps210;go_wp2_with fail;refine(HS.1 _ ?gg).mono ?_
   case gg=>exact(Ac (Aa _ _) _)
   rintro e w1 ⟨rfl,g1⟩;go_wp2_with fail;refine mR (HL.1 _) λw2 g2=>?_;go_wp2;go_ret;exact⟨by rw[HV.1];rfl,Z (Z (gZ w _ none) g1) g2⟩
 | false=>
   go_enter func210,ntmps210;go_wp2_with fail;refine(HS.1 _ ?gg).mono ?_
   case gg=>exact(Ac (Aa _ _) _)
   rintro e w1 ⟨rfl,g1⟩;go_wp2_with fail;refine mR (HL.1 _) λw2 g2=>?_;have hb2:=(HB.1.gb g1 (by simp)).gb g2 (by simp);have HG:=S (Z (Z (gZ w (.cells (hdC x.h (.slice pa x.h.p.length pc) (.slice la x.kids.len lc)).toArray 163 (0,0)) none) g1) g2);clear x_0 x_1 x_2 x_3 x_4 x_5 x_6 x_f g1 g2;have y_:=hb2.c7;clear hb2;go_wp2_with fail;refine mR (HE.1 _ HG.1) λw3 g3=>?_;cases ob with
   | true=>
     go_wp2;go_ret;exact⟨by rw[HV.1];rfl,Z HG.1 g3⟩
   | false=>
     go_wp2;go_ret;exact⟨by rw[HV.1];rfl,Z HG.1 g3⟩
def Oq(l:List Bs):Lib.join l [44,32]=CB l:=by
 cases l with
 |nil=>rfl
 |cons a r=>exact Lib.join_cons a r [44,32]
def Ob{xs:List Bs}(h:Cells w v 1 n (xs.map str) ok)(hn:n=xs.length)(hN:xs.length<=100000000)(hl:(CB xs).length<=140737488355328):
 Calls Tryz.prog 65 #[v,str [44,32]] w (ρ w (str (CB xs))):=by
 subst hn;obtain⟨a,cap,rfl,h1,h2,_,hc⟩:=h;cases xs with
 | nil=>
   refine(strings_Join_none a cap ⟨[44,32].toArray⟩ w).mono ?_;rintro e w' ⟨rfl,rfl⟩;exact⟨rfl,Aa _ _⟩
 | cons x r=>
   obtain⟨g,o,rfl,_,c0⟩:=hc 0 (str x) rfl;have hlt:=bY _ _ c0;have e1:((x::r).map λs=>(⟨s.toArray⟩:ByteArray)).map (·.data.toList)=x::r:=by
    rw[List.map_map];exact(List.map_congr_left (λs _=>rfl)).trans (List.map_id _)
   have H:=strings_Join g o cap ((x::r).map λs=>(⟨s.toArray⟩:ByteArray)) ⟨[44,32].toArray⟩ w (λj b hb=>by
    rw[List.getElem?_map]at hb;obtain⟨s,hs,rfl⟩:=Option.map_eq_some_iff.1 hb;obtain⟨g',o',e,_,hc'⟩:=hc j (str s) (by rw[List.getElem?_map,hs];rfl);cases e;exact hc') hlt (by rw[List.length_map];omega) (by simpa using h1) (by rw[e1];show(Lib.join _ [44,32]).length<=_;rw[Oq];exact hl)
   rw[List.length_map,e1]at H;refine H.mono ?_;rintro e w' ⟨rfl,hb⟩;refine⟨?_,gbB hb none⟩;show Ending.returned (Value.string ⟨(Lib.join (x::r) [44,32]).toArray⟩)=_;rw[Oq]
def Uh(f:Fo)(ok:Nat->Prop)(la:Option Addr)(lc:Nat)(w:World)(hf:RepL ok w (.slice la f.len lc) f)(hfit:f.fit)(hok:okF f=true)(hn:f.nodes<=1000000)
 (hE:∀(h:Hd)(k:Fo)(pa lb:Option Addr)(pc ld:Nat)(W:World),w.grownBy W none->k.wt<f.wt->h.fit->k.fit->k.nodes<=1000000->BZ h k.len=true->okF k=true->Cells W (.slice pa h.p.length pc) 1 h.p.length (h.p.map str) (λ_=>True)->RepL (λ_=>True) W (.slice lb k.len ld) k->
  Calls Tryz.prog 211 #[exV h (.slice pa h.p.length pc) (.slice lb k.len ld)] W (ρ W (str (Ct wdM h (AX wdM k))))):
 Calls Tryz.prog 242 #[.slice la f.len lc] w (ρ w (str (CB ((AX wdM f).map (·.2))))):=by
 have hjl:(CB ((AX wdM f).map (·.2))).length<=140737488355328:=by
  have h1:=Kq (AX wdM f);have h2:=(Jt f hok hfit).1;omega
 have hfl:=f.len_nodes;replace hf:=hf.mono (ok':=λ_=>True) (λ_ _ _=>trivial);obtain⟨cs,hc1,hr1⟩:=hf;obtain⟨_,_,e,hle,hmx,_,hc1⟩:=hc1;cases e;have HC:=S (X hc1 (X hE (X hjl hn)));have HR:=S (X hr1 (X hfit hok));have hlen:f.len<=1000000:=by omega
 clear hc1 hE hr1 hfit hok hle hmx hjl hn hfl;go_enter func242,ntmps242;go_wp2_with fail;go_loopg [3,8] f.len (λn v3 v8 wr=>∃(rf:Fo)(xs:List Bs)(k:Nat),rf.len=n/\k+n=f.len/\v8= .int .i64 k/\wr.ownsRow w.heap.size 9 1 v3 xs.length (xs.map str)/\xs.length=k/\xs++(AX wdM rf).map (·.2)=(AX wdM f).map (·.2)/\rf.wt<=f.wt/\rf.nodes<=f.nodes/\rf.fit/\okF rf=true/\RepF (λ_=>True) w rf (cs.drop (k*7))/\w.grownBy wr none)
 case atStart=>exact⟨f,[],0,rfl,by omega,rfl,World.ownsRow_nil _ _ _ _,rfl,rfl,nR _,nR _,HR.1.2.1,HR.1.2.2,by simpa using HR.1.1,Aa _ _⟩
 case round=>
  obtain⟨rf,xs,k,hn,hk,rfl,hown,hxl,hxs,hwt,hnd,hft,hok,hrf,hgr⟩:=hrel;clear HR;cases rf with
  | nil=>
    have hkI:decide (k<f.len)=false:=by simp[Fo.len]at hn;simp;omega
    have hxs':xs=(AX wdM f).map (·.2):=by simpa[AX]using hxs
    have HG:=S (X hgr (Ob (C0 hown) rfl (by omega) (by rw[hxs'];exact HC.1.2.2.1)));rw[hxs']at HG;clear hgr hn hrf hft hok hown hxs;go_wp2_with fail;refine mR HG.1.2 λw1 g1=>?_;go_wp2;go_ret;exact⟨rfl,Z HG.1.1 g1⟩
  | cons h1 k1 n1=>
    simp only[Fo.len]at hn;simp only[Fo.wt]at hwt;simp only[Fo.nodes]at hnd;simp only[okF,Bool.and_eq_true]at hok;subst hn;have hkn:=HC.1.2.2.2;obtain⟨pa1,pc1,lb1,ld1,hp1,hl1,hx1,ha1⟩:=RepF.elem (n:=f.len) (lc:=lc) (f:=f) HC.1.1 hrf;have hkI:decide (k<f.len)=true:=by simp;omega
    have hkf:k+1<=f.len:=by omega
    have HE:=S (fun(W:World)(gW:wr.grownBy W none)=>HC.1.2.1 h1 k1 pa1 lb1 pc1 ld1 W (Z hgr gW) (by omega) hft.1 hft.2.1 (by omega) hok.1.1 hok.1.2 (hp1.gb (Z hgr gW) (by simp)) (hl1.gb (Z hgr gW) (by simp)));have hxs2:(xs++[Ct wdM h1 (AX wdM k1)])++(AX wdM n1).map (·.2)=(AX wdM f).map (·.2):=by
     rw[<-hxs];simp[AX]
    generalize Ct wdM h1 (AX wdM k1)=s at*;have HN:=S (X (show n1.wt<=f.wt by omega) (X (show n1.nodes<=f.nodes by omega) (X hft.2.2 (X hok.2 (X hx1 (X hgr (X hown hxs2)))))));clear hxs hwt hnd hrf hp1 hl1 hx1 hft hok hown hxs2 hkn;obtain⟨g1,o1,rfl,hokz,y0⟩:=ha1 0 _ rfl;obtain⟨_,_,e1,_,y1⟩:=ha1 1 _ rfl;cases e1;obtain⟨_,_,e1,_,y2⟩:=ha1 2 _ rfl;cases e1;obtain⟨_,_,e1,_,y3⟩:=ha1 3 _ rfl;cases e1;obtain⟨_,_,e1,_,y4⟩:=ha1 4 _ rfl;cases e1;obtain⟨_,_,e1,_,y5⟩:=ha1 5 _ rfl;cases e1;obtain⟨_,_,e1,_,y6⟩:=ha1 6 _ rfl;cases e1;have hglz:=bY w _ y0;have z0:=Ae hgr y0;have z1:=Ae hgr y1;have z2:=Ae hgr y2;have z3:=Ae hgr y3;have z4:=Ae hgr y4;have z5:=Ae hgr y5;have z6:=Ae hgr y6;simp only[Nat.add_zero,<-Nat.add_assoc]at z0 z1 z2 z3 z4 z5 z6;clear y0 y1 y2 y3 y4 y5 y6 ha1 hgr;have hws:=HN.1.2.2.2.2.2.1.size;have hq1:g1<wr.heap.size:=Nat.lt_of_lt_of_le hglz hws;go_wp2_with fail;refine(HE.1 _ ?gg).mono ?_
    case gg=>exact(Ac (Aa _ _) _)
    rintro e w5 ⟨rfl,g5⟩;have g6:wr.grownBy w5 none:=Z (Ac (Aa _ _) _) g5;have gA:=Ac (Z HN.1.2.2.2.2.2.1 g6) (.cells [str s].toArray 9 (0,0));have hown4:=(HN.1.2.2.2.2.2.2.1.kept g6 (by cases u3.ownBlock with|none=>exact .inl rfl|some _=>exact .inr (by simp))).alloc (.cells [str s].toArray 9 (0,0));have hbs:=gA.size;obtain⟨i0,hi0,hz0,hz1,hz2⟩:=info_parts Fp;have hnc:=AP w5 [str s] 9;have hml:xs.length+1<=maxLen:=by unfold maxLen;omega
    have hyb:(xs.length+1)*16<=140737488355328:=by omega
    have HZ:=S (X hi0 (X hz0 (X hz1 (X hz2 (X hnc (X hml hown4))))));have HW:=S (X gA g6.size);clear hi0 hz0 hz1 hz2 hnc hml hown4 gA g6 g5;go_wp2_with (at_builtin;obtain⟨hi0,hz0,hz1,hz2,hnc,hml,hown4⟩:=HZ.1;refine GV rfl _ _ 37 rfl w.heap.size 9 i0 (str []) 1 16 underlying37 hi0 hz0 hz1 hz2 rfl (by decide) _ _ _ rfl hown4 ⟨w5.heap.size,0,none⟩ 1 1 [str s] rfl rfl hnc (by simp[Value.oneCell']) hml hyb hbs ?_;intro v' w6 hown5 g7 hnb;clear hi0 hz0 hz1 hz2 hnc hml hown4);have HO5:=S (X hown5 g7);clear hown5 g7 hnb;go_roundg n1.len
    case measure=>omega
    case rel=>
     have g5':World.grownBy (w5.alloc _) w6 u3.ownBlock:=HO5.1.2;refine⟨n1,xs++[s],k+1,rfl,by omega,by go_num,by simpa using HO5.1.1,by simp;omega,HN.1.2.2.2.2.2.2.2,HN.1.1,HN.1.2.1,HN.1.2.2.1,HN.1.2.2.2.1,HN.1.2.2.2.2.1,?_⟩;cases hv:u3.ownBlock with
     |none=>rw[hv]at g5';exact Ag HW.1.1 g5'
     |some q=>rw[hv]at g5';exact Aq HW.1.1 g5' (.inr (HN.1.2.2.2.2.2.2.1.lt q hv).1)
def GU(hl:t.length<=1000000000000000)(HT:∀W,w.grownBy W none->Calls Tryz.prog 211 #[exV h (.slice pa pn pc) (.slice la n lc)] W (ρ W (str t))):
 Calls Tryz.prog 243 #[exV h (.slice pa pn pc) (.slice la n lc)] w (ρ w (str (opT (h,t)))):=by
 have H:=S HT;clear HT;have HO:=S (show opT (h,t)=if h.op=4\/h.op=5 then [40]++t++[41]else t from rfl);have hcl1:¬(9223372036854775807<1+t.length):=by omega
 have hcl2:¬(9223372036854775807<1+t.length+1):=by omega
 obtain⟨op,s,vk,vn,vs,p⟩:=h;simp only at H HO ⊢;by_cases h4:op=4
 ·subst h4;rw[HO.1,if_pos (.inl rfl)];clear HO;go_enter func243,ntmps243;go_wp2_with fail;refine(H.1 _ ?gg).mono ?_
  case gg=>exact(Ac (Aa _ _) _)
  rintro e w1 ⟨rfl,g1⟩;have HG:=S (Z (Ac (Aa w none) _) g1);clear g1;go_wp2;go_ret;exact⟨congrArg Ending.returned (C7 (by simp[ByteArray.data_append])),HG.1⟩
 ·have c4:(op==4)=false:=by simpa using h4
  by_cases h5:op=5
  ·subst h5;rw[HO.1,if_pos (.inr rfl)];clear HO h4;go_enter func243,ntmps243;go_wp2_with fail;refine(H.1 _ ?gg).mono ?_
   case gg=>exact(Ac (Aa _ _) _)
   rintro e w1 ⟨rfl,g1⟩;have HG:=S (Z (Ac (Aa w none) _) g1);clear g1;go_wp2;go_ret;exact⟨congrArg Ending.returned (C7 (by simp[ByteArray.data_append])),HG.1⟩
  ·have c5:(op==5)=false:=by simpa using h5
   rw[HO.1,if_neg (by rintro(e|e);exact h4 e;exact h5 e)];clear HO h4 h5;go_enter func243,ntmps243;go_wp2_with fail;refine(H.1 _ ?gg).mono ?_
   case gg=>exact(Ac (Aa _ _) _)
   rintro e w1 ⟨rfl,g1⟩;have HG:=S (Z (Ac (Aa w none) _) g1);clear g1;go_wp2;go_ret;exact⟨rfl,HG.1⟩
def Z4(HC:∀W,w.grownBy W none->Calls Tryz.prog 241 #[.agg #[.int .i64 vk,.int .i64 vn,str vs]] W (ρ W (str t))):
 Calls Tryz.prog 211 #[exV ⟨0,s,vk,vn,vs,p⟩ (.slice pa pn pc) (.slice la n lc)] w (ρ w (str t)):=by
 have H:=S HC;clear HC;go_enter func211,ntmps211;go_wp2_with fail;refine(H.1 _ ?gg).mono ?_
 case gg=>exact(Ac (Aa _ _) _)
 rintro e w1 ⟨rfl,g1⟩;have HG:=S (Z (Ac (Aa w none) _) g1);clear g1;go_wp2;go_ret;exact⟨rfl,HG.1⟩
def Z5:Calls Tryz.prog 211 #[exV ⟨1,s,vk,vn,vs,p⟩ (.slice pa pn pc) (.slice la n lc)] w (ρ w (str s)):=by
 go_enter func211,ntmps211;go_wp2;go_ret;exact⟨rfl,(Ac (Aa _ _) _)⟩
def YK(hl:s.length<=2000000):Calls Tryz.prog 211 #[exV ⟨10,s,vk,vn,vs,p⟩ (.slice pa pn pc) (.slice la n lc)] w (ρ w (str ([64]++s))):=by
 have hcl1:¬(9223372036854775807<1+s.length):=by omega
 go_enter func211,ntmps211;go_wp2;go_ret;exact⟨congrArg Ending.returned (C7 (by simp[ByteArray.data_append])),(Ac (Aa _ _) _)⟩
def ZJ(hl:s.length<=2000000)(hs:s≠[]):Calls Tryz.prog 211 #[exV ⟨9,s,vk,vn,vs,p⟩ (.slice pa pn pc) (.slice la n lc)] w (ρ w (str ([38]++s++[46]))):=by
 have hcl1:¬(9223372036854775807<1+s.length):=by omega
 have hcl2:¬(9223372036854775807<1+s.length+1):=by omega
 have hsI:(s==[])=false:=by simpa using hs
 have hsI2:(s !=[])=true:=by simpa using hs
 clear hs;go_enter func211,ntmps211;go_wp2;go_ret;exact⟨congrArg Ending.returned (C7 (by simp[ByteArray.data_append])),(Ac (Aa _ _) _)⟩
def Z9(hl:t.length<=1000000000000000)(HC:∀W,w.grownBy W none->Calls Tryz.prog 242 #[.slice la n lc] W (ρ W (str t))):
 Calls Tryz.prog 211 #[exV ⟨7,s,vk,vn,vs,p⟩ (.slice pa pn pc) (.slice la n lc)] w (ρ w (str ([123]++t++[125]))):=by
 have H:=S HC;have hcl1:¬(9223372036854775807<1+t.length):=by omega
 have hcl2:¬(9223372036854775807<1+t.length+1):=by omega
 clear HC;go_enter func211,ntmps211;go_wp2_with fail;refine(H.1 _ ?gg).mono ?_
 case gg=>exact(Ac (Aa _ _) _)
 rintro e w1 ⟨rfl,g1⟩;have HG:=S (Z (Ac (Aa w none) _) g1);clear g1;go_wp2;go_ret;exact⟨congrArg Ending.returned (C7 (by simp[ByteArray.data_append])),HG.1⟩
def Kid(w:World)(g o:Nat)(a:Hd)(pv lv:Value):Prop:=g<w.heap.size/\∀i u,(hdC a pv lv)[i]? =some u->w.cell? ⟨g,o+i,none⟩=some u
def Kid.c7(h:Kid w g o a pv lv):w.cell? ⟨g,o,none⟩=some (.int .i64 a.op)/\w.cell? ⟨g,o+1,none⟩=some (str a.s)/\w.cell? ⟨g,o+2,none⟩=some (.int .i64 a.vk)/\w.cell? ⟨g,o+3,none⟩=some (.int .i64 a.vn)/\w.cell? ⟨g,o+4,none⟩=some (str a.vs)/\w.cell? ⟨g,o+5,none⟩=some pv/\w.cell? ⟨g,o+6,none⟩=some lv:=
 ⟨h.2 0 _ rfl,h.2 1 _ rfl,h.2 2 _ rfl,h.2 3 _ rfl,h.2 4 _ rfl,h.2 5 _ rfl,h.2 6 _ rfl⟩
def Yj(h:W.cell? ⟨b,1,none⟩=some u/\W.cell? ⟨b,6,none⟩=some v/\w.grownBy W none)(g:W.grownBy W1 none):W1.cell? ⟨b,1,none⟩=some u/\W1.cell? ⟨b,6,none⟩=some v/\w.grownBy W1 none:=
 ⟨Ae g h.1,Ae g h.2.1,Z h.2.2 g⟩
def Z6(hs:s.length<=2000000)(hl:t.length<=1000000000000000)(HC:∀W,w.grownBy W none->Calls Tryz.prog 242 #[.slice la n lc] W (ρ W (str t))):
 Calls Tryz.prog 211 #[exV ⟨3,s,vk,vn,vs,p⟩ (.slice pa pn pc) (.slice la n lc)] w (ρ w (str (s++[40]++t++[41]))):=by
 have H:=S HC;have hcl1:¬(9223372036854775807<s.length+1):=by omega
 have hcl2:¬(9223372036854775807<s.length+1+t.length):=by omega
 have hcl3:¬(9223372036854775807<s.length+1+t.length+1):=by omega
 have hb:=Blk.new w (hdC ⟨3,s,vk,vn,vs,p⟩ (.slice pa pn pc) (.slice la n lc)) 163;obtain⟨x_0,x_1,x_2,x_3,x_4,x_5,x_6,x_f⟩:=(hb).c7;have HX:=S (X x_1 (X x_6 (Ad (Ac (Aa w none) (.cells (hdC ⟨3,s,vk,vn,vs,p⟩ (.slice pa pn pc) (.slice la n lc)).toArray 163 (0,0))))));clear HC hb x_0 x_1 x_2 x_3 x_4 x_5 x_6 x_f;go_enter func211,ntmps211;go_wp2_with fail;go_region_held3 (λW=>W.cell? ⟨w.heap.size,1,none⟩=some (str s)/\W.cell? ⟨w.heap.size,6,none⟩=some (.slice la n lc)/\w.grownBy W none)
  (first|exact HX.1|exact Yj (by assumption) g5)
  (first| (go_at_call 242;refine(H.1 _ ?_).mono ?_;(simp[*]);rintro e w5 ⟨rfl,g5⟩))
 rename_i hH;have HG:=S hH.2.2;clear hH;go_wp2;go_ret;exact⟨congrArg Ending.returned (C7 (by simp[ByteArray.data_append])),HG.1⟩
section
variable (g5:W.grownBy W1 none)
include g5
def Kid.gb'(h:Kid W g o a pv lv):Kid W1 g o a pv lv:=⟨Nat.lt_of_lt_of_le h.1 g5.size,λi u hu=>Ae g5 (h.2 i u hu)⟩
def OQ(h:W.cell? ⟨b,1,none⟩=some u/\W.cell? ⟨b,6,none⟩=some v):W1.cell? ⟨b,1,none⟩=some u/\W1.cell? ⟨b,6,none⟩=some v:=⟨Ae g5 h.1,Ae g5 h.2⟩
def ZL{x:Value}(h:W.cell? ⟨b,1,none⟩=some u/\W.cell? ⟨b,6,none⟩=some v/\W.cell? ⟨b,5,none⟩=some x):W1.cell? ⟨b,1,none⟩=some u/\W1.cell? ⟨b,6,none⟩=some v/\W1.cell? ⟨b,5,none⟩=some x:=⟨Ae g5 h.1,Ae g5 h.2.1,Ae g5 h.2.2⟩
def Jw(h:W.cell? ⟨g,o0,none⟩=some v0/\W.cell? ⟨g,o1,none⟩=some v1/\W.cell? ⟨g,o2,none⟩=some v2/\W.cell? ⟨g,o3,none⟩=some v3/\W.cell? ⟨g,o4,none⟩=some v4/\W.cell? ⟨g,o5,none⟩=some v5/\W.cell? ⟨g,o6,none⟩=some v6):
 W1.cell? ⟨g,o0,none⟩=some v0/\W1.cell? ⟨g,o1,none⟩=some v1/\W1.cell? ⟨g,o2,none⟩=some v2/\W1.cell? ⟨g,o3,none⟩=some v3/\W1.cell? ⟨g,o4,none⟩=some v4/\W1.cell? ⟨g,o5,none⟩=some v5/\W1.cell? ⟨g,o6,none⟩=some v6:=
 ⟨Ae g5 h.1,Ae g5 h.2.1,Ae g5 h.2.2.1,Ae g5 h.2.2.2.1,Ae g5 h.2.2.2.2.1,Ae g5 h.2.2.2.2.2.1,Ae g5 h.2.2.2.2.2.2⟩
def s12(h:(W.cell? ⟨b,1,none⟩=some u/\W.cell? ⟨b,6,none⟩=some v)/\(W.cell? ⟨g,o0,none⟩=some v0/\W.cell? ⟨g,o1,none⟩=some v1/\W.cell? ⟨g,o2,none⟩=some v2/\W.cell? ⟨g,o3,none⟩=some v3/\W.cell? ⟨g,o4,none⟩=some v4/\W.cell? ⟨g,o5,none⟩=some v5/\W.cell? ⟨g,o6,none⟩=some v6)/\w.grownBy W none):(W1.cell? ⟨b,1,none⟩=some u/\W1.cell? ⟨b,6,none⟩=some v)/\(W1.cell? ⟨g,o0,none⟩=some v0/\W1.cell? ⟨g,o1,none⟩=some v1/\W1.cell? ⟨g,o2,none⟩=some v2/\W1.cell? ⟨g,o3,none⟩=some v3/\W1.cell? ⟨g,o4,none⟩=some v4/\W1.cell? ⟨g,o5,none⟩=some v5/\W1.cell? ⟨g,o6,none⟩=some v6)/\w.grownBy W1 none:=
 ⟨OQ g5 h.1,Jw g5 h.2.1,Z h.2.2 g5⟩
def s13{x:Value}(h:(W.cell? ⟨b,1,none⟩=some u/\W.cell? ⟨b,6,none⟩=some v/\W.cell? ⟨b,5,none⟩=some x)/\(W.cell? ⟨g,o0,none⟩=some v0/\W.cell? ⟨g,o1,none⟩=some v1/\W.cell? ⟨g,o2,none⟩=some v2/\W.cell? ⟨g,o3,none⟩=some v3/\W.cell? ⟨g,o4,none⟩=some v4/\W.cell? ⟨g,o5,none⟩=some v5/\W.cell? ⟨g,o6,none⟩=some v6)/\w.grownBy W none):(W1.cell? ⟨b,1,none⟩=some u/\W1.cell? ⟨b,6,none⟩=some v/\W1.cell? ⟨b,5,none⟩=some x)/\(W1.cell? ⟨g,o0,none⟩=some v0/\W1.cell? ⟨g,o1,none⟩=some v1/\W1.cell? ⟨g,o2,none⟩=some v2/\W1.cell? ⟨g,o3,none⟩=some v3/\W1.cell? ⟨g,o4,none⟩=some v4/\W1.cell? ⟨g,o5,none⟩=some v5/\W1.cell? ⟨g,o6,none⟩=some v6)/\w.grownBy W1 none:=
 ⟨ZL g5 h.1,Jw g5 h.2.1,Z h.2.2 g5⟩
def s22{q0 q1 q2 q3 q4 q5 q6:Nat}{r0 r1 r2 r3 r4 r5 r6:Value}(h:(W.cell? ⟨b,1,none⟩=some u/\W.cell? ⟨b,6,none⟩=some v)/\(W.cell? ⟨g,o0,none⟩=some v0/\W.cell? ⟨g,o1,none⟩=some v1/\W.cell? ⟨g,o2,none⟩=some v2/\W.cell? ⟨g,o3,none⟩=some v3/\W.cell? ⟨g,o4,none⟩=some v4/\W.cell? ⟨g,o5,none⟩=some v5/\W.cell? ⟨g,o6,none⟩=some v6)/\(W.cell? ⟨g,q0,none⟩=some r0/\W.cell? ⟨g,q1,none⟩=some r1/\W.cell? ⟨g,q2,none⟩=some r2/\W.cell? ⟨g,q3,none⟩=some r3/\W.cell? ⟨g,q4,none⟩=some r4/\W.cell? ⟨g,q5,none⟩=some r5/\W.cell? ⟨g,q6,none⟩=some r6)/\w.grownBy W none):(W1.cell? ⟨b,1,none⟩=some u/\W1.cell? ⟨b,6,none⟩=some v)/\(W1.cell? ⟨g,o0,none⟩=some v0/\W1.cell? ⟨g,o1,none⟩=some v1/\W1.cell? ⟨g,o2,none⟩=some v2/\W1.cell? ⟨g,o3,none⟩=some v3/\W1.cell? ⟨g,o4,none⟩=some v4/\W1.cell? ⟨g,o5,none⟩=some v5/\W1.cell? ⟨g,o6,none⟩=some v6)/\(W1.cell? ⟨g,q0,none⟩=some r0/\W1.cell? ⟨g,q1,none⟩=some r1/\W1.cell? ⟨g,q2,none⟩=some r2/\W1.cell? ⟨g,q3,none⟩=some r3/\W1.cell? ⟨g,q4,none⟩=some r4/\W1.cell? ⟨g,q5,none⟩=some r5/\W1.cell? ⟨g,q6,none⟩=some r6)/\w.grownBy W1 none:=
 ⟨OQ g5 h.1,Jw g5 h.2.1,Jw g5 h.2.2.1,Z h.2.2.2 g5⟩
end
section
variable {qa ra qa2 ra2:Option Addr}{qn qc rn rc qn2 qc2 rn2 rc2:Nat}{t2:Bs}{a2:Hd}
def YL(hs:s.length<=2000000)(hs2:a.s.length<=2000000)(ha:a.op=1)(hk:Kid w g o a (.slice qa qn qc) (.slice ra rn rc)):
 Calls Tryz.prog 211 #[exV ⟨2,s,vk,vn,vs,p⟩ (.slice pa pn pc) (.slice (some ⟨g,o,none⟩) 1 lc)] w (ρ w (str (s++[45,62]++a.s))):=by
 have hcl1:¬(9223372036854775807<s.length+2):=by omega
 have hcl2:¬(9223372036854775807<s.length+2+a.s.length):=by omega
 have hkl:=hk.1;obtain⟨k0,k1,k2,k3,k4,k5,k6⟩:=hk.c7;rw[ha]at k0;generalize a.s=s2 at*;clear hk ha k2 k3 k4 k5 k6;go_enter func211,ntmps211;go_wp2_with fail;go_quiet(fail);go_wp2;go_ret;exact⟨congrArg Ending.returned (C7 (by simp[ByteArray.data_append])),(by repeat(first| (with_reducible exact Aa _ _)| (with_reducible refine Ac ?_ _)| (with_reducible refine Aj ?_ _)))⟩
def YM(hs:s.length<=2000000)(hl:t.length<=1000000000000000)(ha:a.op≠1)(hk:Kid w g o a (.slice qa qn qc) (.slice ra rn rc))(HT:∀W,w.grownBy W none->Calls Tryz.prog 211 #[exV a (.slice qa qn qc) (.slice ra rn rc)] W (ρ W (str t))):
 Calls Tryz.prog 211 #[exV ⟨2,s,vk,vn,vs,p⟩ (.slice pa pn pc) (.slice (some ⟨g,o,none⟩) 1 lc)] w (ρ w (str (s++[45,62,40]++t++[41]))):=by
 have H:=S HT;have c1:(a.op==1)=false:=by simpa using ha
 have hcl0:¬(9223372036854775807<s.length+3):=by omega
 have hcl1:¬(9223372036854775807<s.length+3+t.length):=by omega
 have hcl2:¬(9223372036854775807<s.length+3+t.length+1):=by omega
 have hb:=Blk.new w (hdC ⟨2,s,vk,vn,vs,p⟩ (.slice pa pn pc) (.slice (some ⟨g,o,none⟩) 1 lc)) 163;obtain⟨x_0,x_1,x_2,x_3,x_4,x_5,x_6,x_f⟩:=(hb).c7;have gA:=gZ w (.cells (hdC ⟨2,s,vk,vn,vs,p⟩ (.slice pa pn pc) (.slice (some ⟨g,o,none⟩) 1 lc)).toArray 163 (0,0)) none;have hk7:=(hk.gb' gA).c7;have HX:=S (show(λW=>(W.cell? ⟨w.heap.size,1,none⟩=some (str s)/\W.cell? ⟨w.heap.size,6,none⟩=some (.slice (some ⟨g,o,none⟩) 1 lc))/\(W.cell? ⟨g,o,none⟩=some (.int .i64 a.op)/\W.cell? ⟨g,o+1,none⟩=some (str a.s)/\W.cell? ⟨g,o+2,none⟩=some (.int .i64 a.vk)/\W.cell? ⟨g,o+3,none⟩=some (.int .i64 a.vn)/\W.cell? ⟨g,o+4,none⟩=some (str a.vs)/\W.cell? ⟨g,o+5,none⟩=some (.slice qa qn qc)/\W.cell? ⟨g,o+6,none⟩=some (.slice ra rn rc))/\w.grownBy W none) ((w.alloc (.cells (hdC ⟨2,s,vk,vn,vs,p⟩ (.slice pa pn pc) (.slice (some ⟨g,o,none⟩) 1 lc)).toArray 163 (0,0))).drew)from⟨⟨x_1,x_6⟩,hk7,Ad gA⟩);have hkl:=hk.1;obtain⟨k0,k1,k2,k3,k4,k5,k6⟩:=hk.c7;clear HT ha hk hb hk7 gA x_0 x_1 x_2 x_3 x_4 x_5 x_6 x_f;go_enter func211,ntmps211;go_wp2_with fail;go_region_held3 (λW=>(W.cell? ⟨w.heap.size,1,none⟩=some (str s)/\W.cell? ⟨w.heap.size,6,none⟩=some (.slice (some ⟨g,o,none⟩) 1 lc))/\(W.cell? ⟨g,o,none⟩=some (.int .i64 a.op)/\W.cell? ⟨g,o+1,none⟩=some (str a.s)/\W.cell? ⟨g,o+2,none⟩=some (.int .i64 a.vk)/\W.cell? ⟨g,o+3,none⟩=some (.int .i64 a.vn)/\W.cell? ⟨g,o+4,none⟩=some (str a.vs)/\W.cell? ⟨g,o+5,none⟩=some (.slice qa qn qc)/\W.cell? ⟨g,o+6,none⟩=some (.slice ra rn rc))/\w.grownBy W none)
  (first|exact HX.1|exact s12 g5 (by assumption))
  (first| (go_at_call 211;(with_reducible refine(H.1 _ ?_).mono ?_);(simp[*]);rintro e w5 ⟨rfl,g5⟩))
 rename_i hH;have HG:=S hH.2.2;clear hH;go_wp2;go_ret;exact⟨congrArg Ending.returned (C7 (by simp[ByteArray.data_append])),HG.1⟩
def YO(hs:s.length<=2000000)(hl:t.length<=1000000000000000)(hm:s≠[45])(hk:Kid w g o a (.slice qa qn qc) (.slice ra rn rc))(HT:∀W,w.grownBy W none->Calls Tryz.prog 243 #[exV a (.slice qa qn qc) (.slice ra rn rc)] W (ρ W (str t))):
 Calls Tryz.prog 211 #[exV ⟨4,s,vk,vn,vs,p⟩ (.slice pa pn pc) (.slice (some ⟨g,o,none⟩) 1 lc)] w (ρ w (str (s++[32]++t))):=by
 have H:=S HT;have c1:(s==[45])=false:=by simpa using hm
 have hcl0:¬(9223372036854775807<s.length+1):=by omega
 have hcl1:¬(9223372036854775807<s.length+1+t.length):=by omega
 have hb:=Blk.new w (hdC ⟨4,s,vk,vn,vs,p⟩ (.slice pa pn pc) (.slice (some ⟨g,o,none⟩) 1 lc)) 163;obtain⟨x_0,x_1,x_2,x_3,x_4,x_5,x_6,x_f⟩:=(hb).c7;have gA:=gZ w (.cells (hdC ⟨4,s,vk,vn,vs,p⟩ (.slice pa pn pc) (.slice (some ⟨g,o,none⟩) 1 lc)).toArray 163 (0,0)) none;have hk7:=(hk.gb' gA).c7;have HX:=S (show(λW=>(W.cell? ⟨w.heap.size,1,none⟩=some (str s)/\W.cell? ⟨w.heap.size,6,none⟩=some (.slice (some ⟨g,o,none⟩) 1 lc))/\(W.cell? ⟨g,o,none⟩=some (.int .i64 a.op)/\W.cell? ⟨g,o+1,none⟩=some (str a.s)/\W.cell? ⟨g,o+2,none⟩=some (.int .i64 a.vk)/\W.cell? ⟨g,o+3,none⟩=some (.int .i64 a.vn)/\W.cell? ⟨g,o+4,none⟩=some (str a.vs)/\W.cell? ⟨g,o+5,none⟩=some (.slice qa qn qc)/\W.cell? ⟨g,o+6,none⟩=some (.slice ra rn rc))/\w.grownBy W none) ((w.alloc (.cells (hdC ⟨4,s,vk,vn,vs,p⟩ (.slice pa pn pc) (.slice (some ⟨g,o,none⟩) 1 lc)).toArray 163 (0,0))).drew)from⟨⟨x_1,x_6⟩,hk7,Ad gA⟩);have hkl:=hk.1;clear HT hm hk hb hk7 gA x_0 x_1 x_2 x_3 x_4 x_5 x_6 x_f;go_enter func211,ntmps211;go_wp2_with fail;go_region_held3 (λW=>(W.cell? ⟨w.heap.size,1,none⟩=some (str s)/\W.cell? ⟨w.heap.size,6,none⟩=some (.slice (some ⟨g,o,none⟩) 1 lc))/\(W.cell? ⟨g,o,none⟩=some (.int .i64 a.op)/\W.cell? ⟨g,o+1,none⟩=some (str a.s)/\W.cell? ⟨g,o+2,none⟩=some (.int .i64 a.vk)/\W.cell? ⟨g,o+3,none⟩=some (.int .i64 a.vn)/\W.cell? ⟨g,o+4,none⟩=some (str a.vs)/\W.cell? ⟨g,o+5,none⟩=some (.slice qa qn qc)/\W.cell? ⟨g,o+6,none⟩=some (.slice ra rn rc))/\w.grownBy W none)
  (first|exact HX.1|exact s12 g5 (by assumption))
  (first| (go_at_call 243;(with_reducible refine(H.1 _ ?_).mono ?_);(simp[*]);rintro e w5 ⟨rfl,g5⟩))
 rename_i hH;have HG:=S hH.2.2;clear hH;go_wp2;go_ret;exact⟨congrArg Ending.returned (C7 (by simp[ByteArray.data_append])),HG.1⟩
def Z7(hs:s.length<=2000000)(hl:t.length<=1000000000000000)(hl2:t2.length<=1000000000000000)(hk:Kid w g o a (.slice qa qn qc) (.slice ra rn rc))(hk2:Kid w g (o+7) a2 (.slice qa2 qn2 qc2) (.slice ra2 rn2 rc2))(HT:∀W,w.grownBy W none->Calls Tryz.prog 243 #[exV a (.slice qa qn qc) (.slice ra rn rc)] W (ρ W (str t)))(HT2:∀W,w.grownBy W none->Calls Tryz.prog 243 #[exV a2 (.slice qa2 qn2 qc2) (.slice ra2 rn2 rc2)] W (ρ W (str t2))):
 Calls Tryz.prog 211 #[exV ⟨5,s,vk,vn,vs,p⟩ (.slice pa pn pc) (.slice (some ⟨g,o,none⟩) 2 lc)] w (ρ w (str (t++[32]++s++[32]++t2))):=by
 have H:=S HT;have H2:=S HT2;have hcl0:¬(9223372036854775807<t.length+1):=by omega
 have hcl1:¬(9223372036854775807<t.length+1+s.length):=by omega
 have hcl2:¬(9223372036854775807<t.length+1+s.length+1):=by omega
 have hcl3:¬(9223372036854775807<t.length+1+s.length+1+t2.length):=by omega
 have hb:=Blk.new w (hdC ⟨5,s,vk,vn,vs,p⟩ (.slice pa pn pc) (.slice (some ⟨g,o,none⟩) 2 lc)) 163;obtain⟨x_0,x_1,x_2,x_3,x_4,x_5,x_6,x_f⟩:=(hb).c7;have gA:=gZ w (.cells (hdC ⟨5,s,vk,vn,vs,p⟩ (.slice pa pn pc) (.slice (some ⟨g,o,none⟩) 2 lc)).toArray 163 (0,0)) none;have hk7:=(hk.gb' gA).c7;have hk72:=(hk2.gb' gA).c7;have HX:=S (show(λW=>(W.cell? ⟨w.heap.size,1,none⟩=some (str s)/\W.cell? ⟨w.heap.size,6,none⟩=some (.slice (some ⟨g,o,none⟩) 2 lc))/\(W.cell? ⟨g,o,none⟩=some (.int .i64 a.op)/\W.cell? ⟨g,o+1,none⟩=some (str a.s)/\W.cell? ⟨g,o+2,none⟩=some (.int .i64 a.vk)/\W.cell? ⟨g,o+3,none⟩=some (.int .i64 a.vn)/\W.cell? ⟨g,o+4,none⟩=some (str a.vs)/\W.cell? ⟨g,o+5,none⟩=some (.slice qa qn qc)/\W.cell? ⟨g,o+6,none⟩=some (.slice ra rn rc))/\(W.cell? ⟨g,o+7,none⟩=some (.int .i64 a2.op)/\W.cell? ⟨g,o+8,none⟩=some (str a2.s)/\W.cell? ⟨g,o+9,none⟩=some (.int .i64 a2.vk)/\W.cell? ⟨g,o+10,none⟩=some (.int .i64 a2.vn)/\W.cell? ⟨g,o+11,none⟩=some (str a2.vs)/\W.cell? ⟨g,o+12,none⟩=some (.slice qa2 qn2 qc2)/\W.cell? ⟨g,o+13,none⟩=some (.slice ra2 rn2 rc2))/\w.grownBy W none) ((w.alloc (.cells (hdC ⟨5,s,vk,vn,vs,p⟩ (.slice pa pn pc) (.slice (some ⟨g,o,none⟩) 2 lc)).toArray 163 (0,0))).drew)from⟨⟨x_1,x_6⟩,hk7,hk72,Ad gA⟩);have hkl:=hk.1;clear HT HT2 hk hk2 hb hk7 hk72 gA x_0 x_1 x_2 x_3 x_4 x_5 x_6 x_f;go_enter func211,ntmps211;go_wp2_with fail
 go_region_held3 (λW=>(W.cell? ⟨w.heap.size,1,none⟩=some (str s)/\W.cell? ⟨w.heap.size,6,none⟩=some (.slice (some ⟨g,o,none⟩) 2 lc))/\(W.cell? ⟨g,o,none⟩=some (.int .i64 a.op)/\W.cell? ⟨g,o+1,none⟩=some (str a.s)/\W.cell? ⟨g,o+2,none⟩=some (.int .i64 a.vk)/\W.cell? ⟨g,o+3,none⟩=some (.int .i64 a.vn)/\W.cell? ⟨g,o+4,none⟩=some (str a.vs)/\W.cell? ⟨g,o+5,none⟩=some (.slice qa qn qc)/\W.cell? ⟨g,o+6,none⟩=some (.slice ra rn rc))/\(W.cell? ⟨g,o+7,none⟩=some (.int .i64 a2.op)/\W.cell? ⟨g,o+8,none⟩=some (str a2.s)/\W.cell? ⟨g,o+9,none⟩=some (.int .i64 a2.vk)/\W.cell? ⟨g,o+10,none⟩=some (.int .i64 a2.vn)/\W.cell? ⟨g,o+11,none⟩=some (str a2.vs)/\W.cell? ⟨g,o+12,none⟩=some (.slice qa2 qn2 qc2)/\W.cell? ⟨g,o+13,none⟩=some (.slice ra2 rn2 rc2))/\w.grownBy W none)
  (first|exact HX.1|exact s22 g5 (by assumption))
  (first| (go_at_call 243;(with_reducible refine(H.1 _ ?_).mono ?_);(simp[*]);rintro e w5 ⟨rfl,g5⟩)| (go_at_call 243;(with_reducible refine(H2.1 _ ?_).mono ?_);(simp[*]);rintro e w5 ⟨rfl,g5⟩))
 rename_i hH;have HG:=S hH.2.2.2;clear hH;go_wp2;go_ret;exact⟨congrArg Ending.returned (C7 (by simp[ByteArray.data_append])),HG.1⟩
def Z8(hs:s.length<=2000000)(hl:t.length<=1000000000000000)(hl2:t2.length<=1000000000000000)(hk:Kid w g o a (.slice qa qn qc) (.slice ra rn rc))(hk2:Kid w g (o+7) a2 (.slice qa2 qn2 qc2) (.slice ra2 rn2 rc2))(HT:∀W,w.grownBy W none->Calls Tryz.prog 243 #[exV a (.slice qa qn qc) (.slice ra rn rc)] W (ρ W (str t)))(HT2:∀W,w.grownBy W none->Calls Tryz.prog 211 #[exV a2 (.slice qa2 qn2 qc2) (.slice ra2 rn2 rc2)] W (ρ W (str t2))):
 Calls Tryz.prog 211 #[exV ⟨6,s,vk,vn,vs,p⟩ (.slice pa pn pc) (.slice (some ⟨g,o,none⟩) 2 lc)] w (ρ w (str (t++[91]++t2++[93]))):=by
 have H:=S HT;have H2:=S HT2;have hcl0:¬(9223372036854775807<t.length+1):=by omega
 have hcl1:¬(9223372036854775807<t.length+1+t2.length):=by omega
 have hcl2:¬(9223372036854775807<t.length+1+t2.length+1):=by omega
 have hb:=Blk.new w (hdC ⟨6,s,vk,vn,vs,p⟩ (.slice pa pn pc) (.slice (some ⟨g,o,none⟩) 2 lc)) 163;obtain⟨x_0,x_1,x_2,x_3,x_4,x_5,x_6,x_f⟩:=(hb).c7;have gA:=gZ w (.cells (hdC ⟨6,s,vk,vn,vs,p⟩ (.slice pa pn pc) (.slice (some ⟨g,o,none⟩) 2 lc)).toArray 163 (0,0)) none;have hk7:=(hk.gb' gA).c7;have hk72:=(hk2.gb' gA).c7;have HX:=S (show(λW=>(W.cell? ⟨w.heap.size,1,none⟩=some (str s)/\W.cell? ⟨w.heap.size,6,none⟩=some (.slice (some ⟨g,o,none⟩) 2 lc))/\(W.cell? ⟨g,o,none⟩=some (.int .i64 a.op)/\W.cell? ⟨g,o+1,none⟩=some (str a.s)/\W.cell? ⟨g,o+2,none⟩=some (.int .i64 a.vk)/\W.cell? ⟨g,o+3,none⟩=some (.int .i64 a.vn)/\W.cell? ⟨g,o+4,none⟩=some (str a.vs)/\W.cell? ⟨g,o+5,none⟩=some (.slice qa qn qc)/\W.cell? ⟨g,o+6,none⟩=some (.slice ra rn rc))/\(W.cell? ⟨g,o+7,none⟩=some (.int .i64 a2.op)/\W.cell? ⟨g,o+8,none⟩=some (str a2.s)/\W.cell? ⟨g,o+9,none⟩=some (.int .i64 a2.vk)/\W.cell? ⟨g,o+10,none⟩=some (.int .i64 a2.vn)/\W.cell? ⟨g,o+11,none⟩=some (str a2.vs)/\W.cell? ⟨g,o+12,none⟩=some (.slice qa2 qn2 qc2)/\W.cell? ⟨g,o+13,none⟩=some (.slice ra2 rn2 rc2))/\w.grownBy W none) ((w.alloc (.cells (hdC ⟨6,s,vk,vn,vs,p⟩ (.slice pa pn pc) (.slice (some ⟨g,o,none⟩) 2 lc)).toArray 163 (0,0))).drew)from⟨⟨x_1,x_6⟩,hk7,hk72,Ad gA⟩);have hkl:=hk.1;clear HT HT2 hk hk2 hb hk7 hk72 gA x_0 x_1 x_2 x_3 x_4 x_5 x_6 x_f;go_enter func211,ntmps211;go_wp2_with fail
 go_region_held3 (λW=>(W.cell? ⟨w.heap.size,1,none⟩=some (str s)/\W.cell? ⟨w.heap.size,6,none⟩=some (.slice (some ⟨g,o,none⟩) 2 lc))/\(W.cell? ⟨g,o,none⟩=some (.int .i64 a.op)/\W.cell? ⟨g,o+1,none⟩=some (str a.s)/\W.cell? ⟨g,o+2,none⟩=some (.int .i64 a.vk)/\W.cell? ⟨g,o+3,none⟩=some (.int .i64 a.vn)/\W.cell? ⟨g,o+4,none⟩=some (str a.vs)/\W.cell? ⟨g,o+5,none⟩=some (.slice qa qn qc)/\W.cell? ⟨g,o+6,none⟩=some (.slice ra rn rc))/\(W.cell? ⟨g,o+7,none⟩=some (.int .i64 a2.op)/\W.cell? ⟨g,o+8,none⟩=some (str a2.s)/\W.cell? ⟨g,o+9,none⟩=some (.int .i64 a2.vk)/\W.cell? ⟨g,o+10,none⟩=some (.int .i64 a2.vn)/\W.cell? ⟨g,o+11,none⟩=some (str a2.vs)/\W.cell? ⟨g,o+12,none⟩=some (.slice qa2 qn2 qc2)/\W.cell? ⟨g,o+13,none⟩=some (.slice ra2 rn2 rc2))/\w.grownBy W none)
  (first|exact HX.1|exact s22 g5 (by assumption))
  (first| (go_at_call 243;(with_reducible refine(H.1 _ ?_).mono ?_);(simp[*]);rintro e w5 ⟨rfl,g5⟩)| (go_at_call 211;(with_reducible refine(H2.1 _ ?_).mono ?_);(simp[*]);rintro e w5 ⟨rfl,g5⟩))
 rename_i hH;have HG:=S hH.2.2.2;clear hH;go_wp2;go_ret;exact⟨congrArg Ending.returned (C7 (by simp[ByteArray.data_append])),HG.1⟩
def ZA(hs:s.length<=2000000)(hl:t.length<=1000000000000000)(hl2:t2.length<=1000000000000000)(hk:Kid w g o a (.slice qa qn qc) (.slice ra rn rc))(HT:∀W,w.grownBy W none->Calls Tryz.prog 211 #[exV a (.slice qa qn qc) (.slice ra rn rc)] W (ρ W (str t))) (HJ:∀W,w.grownBy W none->Calls Tryz.prog 65 #[.slice pa pn pc,str [44,32]] W (ρ W (str t2))):
 Calls Tryz.prog 211 #[exV ⟨8,s,vk,vn,vs,p⟩ (.slice pa pn pc) (.slice (some ⟨g,o,none⟩) 1 lc)] w (ρ w (str ([123,124]++t2++[124,32]++t++[125]))):=by
 have H:=S HT;have H2:=S HJ;have hcl0:¬(9223372036854775807<2+t2.length):=by omega
 have hcl1:¬(9223372036854775807<2+t2.length+2):=by omega
 have hcl2:¬(9223372036854775807<2+t2.length+2+t.length):=by omega
 have hcl3:¬(9223372036854775807<2+t2.length+2+t.length+1):=by omega
 have hb:=Blk.new w (hdC ⟨8,s,vk,vn,vs,p⟩ (.slice pa pn pc) (.slice (some ⟨g,o,none⟩) 1 lc)) 163;obtain⟨x_0,x_1,x_2,x_3,x_4,x_5,x_6,x_f⟩:=(hb).c7;have gA:=gZ w (.cells (hdC ⟨8,s,vk,vn,vs,p⟩ (.slice pa pn pc) (.slice (some ⟨g,o,none⟩) 1 lc)).toArray 163 (0,0)) none;have hk7:=(hk.gb' gA).c7;have HX:=S (show(λW=>(W.cell? ⟨w.heap.size,1,none⟩=some (str s)/\W.cell? ⟨w.heap.size,6,none⟩=some (.slice (some ⟨g,o,none⟩) 1 lc)/\W.cell? ⟨w.heap.size,5,none⟩=some (.slice pa pn pc))/\(W.cell? ⟨g,o,none⟩=some (.int .i64 a.op)/\W.cell? ⟨g,o+1,none⟩=some (str a.s)/\W.cell? ⟨g,o+2,none⟩=some (.int .i64 a.vk)/\W.cell? ⟨g,o+3,none⟩=some (.int .i64 a.vn)/\W.cell? ⟨g,o+4,none⟩=some (str a.vs)/\W.cell? ⟨g,o+5,none⟩=some (.slice qa qn qc)/\W.cell? ⟨g,o+6,none⟩=some (.slice ra rn rc))/\w.grownBy W none) ((w.alloc (.cells (hdC ⟨8,s,vk,vn,vs,p⟩ (.slice pa pn pc) (.slice (some ⟨g,o,none⟩) 1 lc)).toArray 163 (0,0))).drew)from⟨⟨x_1,x_6,x_5⟩,hk7,Ad gA⟩);have hkl:=hk.1;clear HT HJ hk hb hk7 gA x_0 x_1 x_2 x_3 x_4 x_5 x_6 x_f;go_enter func211,ntmps211;go_wp2_with fail
 go_region_held3 (λW=>(W.cell? ⟨w.heap.size,1,none⟩=some (str s)/\W.cell? ⟨w.heap.size,6,none⟩=some (.slice (some ⟨g,o,none⟩) 1 lc)/\W.cell? ⟨w.heap.size,5,none⟩=some (.slice pa pn pc))/\(W.cell? ⟨g,o,none⟩=some (.int .i64 a.op)/\W.cell? ⟨g,o+1,none⟩=some (str a.s)/\W.cell? ⟨g,o+2,none⟩=some (.int .i64 a.vk)/\W.cell? ⟨g,o+3,none⟩=some (.int .i64 a.vn)/\W.cell? ⟨g,o+4,none⟩=some (str a.vs)/\W.cell? ⟨g,o+5,none⟩=some (.slice qa qn qc)/\W.cell? ⟨g,o+6,none⟩=some (.slice ra rn rc))/\w.grownBy W none)
  (first|exact HX.1|exact s13 g5 (by assumption))
  (first| (go_at_call 211;(with_reducible refine(H.1 _ ?_).mono ?_);(simp[*]);rintro e w5 ⟨rfl,g5⟩)| (go_at_call 65;(with_reducible refine(H2.1 _ ?_).mono ?_);(simp[*]);rintro e w5 ⟨rfl,g5⟩))
 rename_i hH;have HG:=S hH.2.2;clear hH;go_wp2;go_ret;exact⟨congrArg Ending.returned (C7 (by simp[ByteArray.data_append])),HG.1⟩
def YN(hl:t.length<=1000000000000000)(hk:Kid w g o a (.slice qa qn qc) (.slice ra rn rc))(HT:∀W,w.grownBy W none->Calls Tryz.prog 243 #[exV a (.slice qa qn qc) (.slice ra rn rc)] W (ρ W (str t))):
 Calls Tryz.prog 211 #[exV ⟨4,[45],vk,vn,vs,p⟩ (.slice pa pn pc) (.slice (some ⟨g,o,none⟩) 1 lc)] w (ρ w (str ([45]++t))):=by
 have H:=S HT;have hcl0:¬(9223372036854775807<1+t.length):=by omega
 have hkl:=hk.1;obtain⟨k0,k1,k2,k3,k4,k5,k6⟩:=hk.c7;clear hk HT;go_enter func211,ntmps211;go_wp2_with fail;refine(H.1 _ ?gg).mono ?_
 case gg=>exact(Ac (Aa _ _) _)
 rintro e w1 ⟨rfl,g1⟩;have HG:=S (Z (Ac (Aa w none) _) g1);clear g1;go_wp2;go_ret;exact⟨congrArg Ending.returned (C7 (by simp[ByteArray.data_append])),HG.1⟩
def ZK(hl:t.length<=1000000000000000)(hk:Kid w g o a (.slice qa qn qc) (.slice ra rn rc))(HT:∀W,w.grownBy W none->Calls Tryz.prog 211 #[exV a (.slice qa qn qc) (.slice ra rn rc)] W (ρ W (str t))):
 Calls Tryz.prog 211 #[exV ⟨9,[],vk,vn,vs,p⟩ (.slice pa pn pc) (.slice (some ⟨g,o,none⟩) 1 lc)] w (ρ w (str ([38,40]++t++[41]))):=by
 have H:=S HT;have hcl0:¬(9223372036854775807<2+t.length):=by omega
 have hcl1:¬(9223372036854775807<2+t.length+1):=by omega
 have hkl:=hk.1;obtain⟨k0,k1,k2,k3,k4,k5,k6⟩:=hk.c7;clear hk HT;go_enter func211,ntmps211;go_wp2_with fail;refine(H.1 _ ?gg).mono ?_
 case gg=>exact(Ac (Aa _ _) _)
 rintro e w1 ⟨rfl,g1⟩;have HG:=S (Z (Ac (Aa w none) _) g1);clear g1;go_wp2;go_ret;exact⟨congrArg Ending.returned (C7 (by simp[ByteArray.data_append])),HG.1⟩
end
def L0{n lc:Nat}{cs:List Value}{b nx:Fo}(hc:∀j u,cs[j]? =some u->∃g o,la=some ⟨g,o,none⟩/\ok g/\w.cell? ⟨g,o+j,none⟩=some u)
 (hr:RepF ok w (.cons a b nx) (cs.drop (k*7))):∃g o pa pc lb ld,la=some ⟨g,o,none⟩/\Cells w (.slice pa a.p.length pc) 1 a.p.length (a.p.map str) ok/\RepL ok w (.slice lb b.len ld) b/\RepF ok w nx (cs.drop ((k+1)*7))/\Kid w g (o+k*7) a (.slice pa a.p.length pc) (.slice lb b.len ld):=by
 obtain⟨pa,pc,lb,ld,h1,h2,h3,h4⟩:=RepF.elem (n:=n) (lc:=lc) (f:= .nil) hc hr;obtain⟨g,o,e,_,h5⟩:=h4 0 _ rfl;refine⟨g,o,pa,pc,lb,ld,e,h1,h2,h3,bY _ _ h5,λi u hu=>?_⟩;obtain⟨g',o',e',_,h6⟩:=h4 i u hu;rw[e]at e';cases e';rw[Nat.add_assoc];exact h6
def ZB:∀(N:Nat)(h:Hd)(f:Fo),f.wt<N->BZ h f.len=true->okF f=true->h.fit->f.fit->f.nodes<=1000000->∀(pa la:Option Addr)(pc lc:Nat)(w:World),Pow w->Cells w (.slice pa h.p.length pc) 1 h.p.length (h.p.map str) (λ_=>True)->RepL (λ_=>True) w (.slice la f.len lc) f->
 Calls Tryz.prog 211 #[exV h (.slice pa h.p.length pc) (.slice la f.len lc)] w (ρ w (str (Ct wdM h (AX wdM f)))):=by
 intro N;induction N with
 |zero=>intro h f hN;omega
 | succ N ih=>
   intro h f hN ho hk hfit hft hnd pa la pc lc w hp hpc hrl;obtain⟨p1,p2,p3⟩:=MD ho;have hsl:=hfit.1;have hlen:∀(a:Hd)(b:Fo),BZ a b.len=true->okF b=true->a.fit->b.fit->b.nodes<=1000000->(Ct wdM a (AX wdM b)).length<=900000000000000:=by
    intro a b h1 h2 h3 h4 h5;obtain⟨r1,r2⟩:=Jt b h2 h4;have:=KJ h3 h1 r2;omega
   have HL:∀W,w.grownBy W none->Calls Tryz.prog 242 #[.slice la f.len lc] W (ρ W (str (CB ((AX wdM f).map (·.2))))):=λW g=>
    Uh f _ la lc W (hrl.gb g (by simp)) hft hk hnd (λh' k pa' lb pc' ld W2 g2 c1 c2 c3 c4 c5 c6 c7 c8=>ih h' k (by omega) c5 c6 c2 c3 c4 pa' lb pc' ld W2 ((hp.gb g).gb g2) c7 c8)
   have HLl:(CB ((AX wdM f).map (·.2))).length<=1000000000000000:=by
    have h1:=Kq (AX wdM f);have h2:=(Jt f hk hft).1;omega
   obtain⟨cs,hcs,hrf⟩:=hrl;obtain⟨_,_,e,_,_,_,hcc⟩:=hcs;cases e;have one:∀a b,f= .cons a b .nil->∃g o pa' pc' lb ld,la=some ⟨g,o,none⟩/\Kid w g o a (.slice pa' a.p.length pc') (.slice lb b.len ld)/\BZ a b.len=true/\a.fit/\(Ct wdM a (AX wdM b)).length<=900000000000000/\
    ∀W,w.grownBy W none->Calls Tryz.prog 211 #[exV a (.slice pa' a.p.length pc') (.slice lb b.len ld)] W (ρ W (str (Ct wdM a (AX wdM b)))):=by
    rintro a b rfl;obtain⟨g,o,pa',pc',lb,ld,e,h1,h2,_,h4⟩:=L0 (k:=0) (n:=1) (lc:=lc) hcc (by simpa using hrf);simp only[okF,Bool.and_eq_true]at hk;simp only[Fo.wt]at hN;simp only[Fo.nodes]at hnd;refine⟨g,o,pa',pc',lb,ld,e,by simpa using h4,hk.1.1,hft.1,hlen a b hk.1.1 hk.1.2 hft.1 hft.2.1 (by omega),λW gW=>ih a b (by omega) hk.1.1 hk.1.2 hft.1 hft.2.1 (by omega) pa' lb pc' ld W (hp.gb gW) (h1.gb gW (by simp)) (h2.gb gW (by simp))⟩
   have two:∀a b a2 b2,f= .cons a b (.cons a2 b2 .nil)->∃g o pa' pc' lb ld pa2 pc2 lb2 ld2,la=some ⟨g,o,none⟩/\Kid w g o a (.slice pa' a.p.length pc') (.slice lb b.len ld)/\Kid w g (o+7) a2 (.slice pa2 a2.p.length pc2) (.slice lb2 b2.len ld2)/\(Ct wdM a (AX wdM b)).length<=900000000000000/\(Ct wdM a2 (AX wdM b2)).length<=900000000000000/\
    (∀W,w.grownBy W none->Calls Tryz.prog 211 #[exV a (.slice pa' a.p.length pc') (.slice lb b.len ld)] W (ρ W (str (Ct wdM a (AX wdM b)))))/\∀W,w.grownBy W none->Calls Tryz.prog 211 #[exV a2 (.slice pa2 a2.p.length pc2) (.slice lb2 b2.len ld2)] W (ρ W (str (Ct wdM a2 (AX wdM b2)))):=by
    rintro a b a2 b2 rfl;obtain⟨g,o,pa',pc',lb,ld,e,h1,h2,hnx,h4⟩:=L0 (k:=0) (n:=2) (lc:=lc) hcc (by simpa using hrf);obtain⟨g2,o2,pa2,pc2,lb2,ld2,e2,h12,h22,_,h42⟩:=L0 (k:=1) (n:=2) (lc:=lc) hcc hnx;rw[e]at e2;cases e2;simp only[okF,Bool.and_eq_true]at hk;simp only[Fo.wt]at hN;simp only[Fo.nodes]at hnd;refine⟨g,o,pa',pc',lb,ld,pa2,pc2,lb2,ld2,e,by simpa using h4,by simpa using h42,hlen a b hk.1.1 hk.1.2 hft.1 hft.2.1 (by omega),hlen a2 b2 hk.2.1.1 hk.2.1.2 hft.2.2.1 hft.2.2.2.1 (by omega),λW gW=>ih a b (by omega) hk.1.1 hk.1.2 hft.1 hft.2.1 (by omega) pa' lb pc' ld W (hp.gb gW) (h1.gb gW (by simp)) (h2.gb gW (by simp)),λW gW=>ih a2 b2 (by omega) hk.2.1.1 hk.2.1.2 hft.2.2.1 hft.2.2.2.1 (by omega) pa2 lb2 pc2 ld2 W (hp.gb gW) (h12.gb gW (by simp)) (h22.gb gW (by simp))⟩
   have hopT:∀(x:Hd×Bs),x.2.length<=900000000000000->(opT x).length<=1000000000000000:=by
    intro x hx;unfold opT;split
    ·simp only[lA,List.length_cons,List.length_nil];omega
    ·omega
   clear hcc hrf ih hlen;have hvl:=hfit.2.1;have hpl:=hfit.2.2.1;obtain⟨op,s,vk,vn,vs,p⟩:=h;unfold A1 at p3;simp only at p1 p2 p3 hsl hvl hpl hpc ⊢;by_cases e0:op=0
   ·subst e0;rw[if_pos rfl]at p3;simp only[Bool.and_eq_true]at p3;exact Z4 (λW g=>PG (hp.gb g) (show A9 (HdV vk vn vs)=true from p3.2) hvl)
   rw[if_neg e0]at p3;by_cases e1:op=1
   ·subst e1;exact Z5
   by_cases e10:op=10
   ·subst e10;exact YK hsl
   rw[if_neg (by omega)]at p3;by_cases e2:op=2
   ·subst e2;rw[if_pos rfl]at p3;simp only[Bool.and_eq_true,beq_iff_eq]at p3;obtain⟨a,b,rfl⟩:=Hp p3.2;obtain⟨g,o,pa',pc',lb,ld,rfl,hkid,hko,hkf,hkl,hT⟩:=one a b rfl;show Calls _ _ _ _ λe w'=>e= .returned (str (if a.op=1 then s++[45,62]++a.s else s++[45,62,40]++Ct wdM a (AX wdM b)++[41]))/\_;by_cases ha:a.op=1
    ·rw[if_pos ha];exact YL hsl hkf.1 ha hkid
    ·rw[if_neg ha];exact YM hsl (nT hkl (by decide)) ha hkid hT
   rw[if_neg e2]at p3;by_cases e3:op=3
   ·subst e3;exact Z6 hsl HLl HL
   rw[if_neg e3]at p3;by_cases e4:op=4
   ·subst e4;rw[if_pos rfl]at p3;simp only[Bool.and_eq_true,Bool.or_eq_true,beq_iff_eq]at p3;obtain⟨a,b,rfl⟩:=Hp p3.2;obtain⟨g,o,pa',pc',lb,ld,rfl,hkid,hko,hkf,hkl,hT⟩:=one a b rfl;show Calls _ _ _ _ λe w'=>e= .returned (str (if s=[45]then [45]++opT (a,Ct wdM a (AX wdM b))else s++[32]++opT (a,Ct wdM a (AX wdM b))))/\_;by_cases hs:s=[45]
    ·subst hs;rw[if_pos rfl];exact YN (hopT _ hkl) hkid (λW gW=>GU (by omega) (λW2 g2=>hT W2 (Z gW g2)))
    ·rw[if_neg hs];exact YO hsl (hopT _ hkl) hs hkid (λW gW=>GU (by omega) (λW2 g2=>hT W2 (Z gW g2)))
   rw[if_neg e4]at p3;by_cases e5:op=5
   ·subst e5;rw[if_pos rfl]at p3;simp only[Bool.and_eq_true,beq_iff_eq]at p3;obtain⟨a,b,a2,b2,rfl⟩:=Ou p3.2;obtain⟨g,o,pa',pc',lb,ld,pa2,pc2,lb2,ld2,rfl,hk1,hk2,hl1,hl2,hT,hT2⟩:=two a b a2 b2 rfl;exact Z7 hsl (hopT _ hl1) (hopT _ hl2) hk1 hk2 (λW gW=>GU (by omega) (λW2 g2=>hT W2 (Z gW g2))) (λW gW=>GU (by omega) (λW2 g2=>hT2 W2 (Z gW g2)))
   rw[if_neg e5]at p3;by_cases e6:op=6
   ·subst e6;rw[if_pos rfl]at p3;simp only[Bool.and_eq_true,beq_iff_eq]at p3;obtain⟨a,b,a2,b2,rfl⟩:=Ou p3.2;obtain⟨g,o,pa',pc',lb,ld,pa2,pc2,lb2,ld2,rfl,hk1,hk2,hl1,hl2,hT,hT2⟩:=two a b a2 b2 rfl;exact Z8 hsl (hopT _ hl1) (nT hl2 (by decide)) hk1 hk2 (λW gW=>GU (by omega) (λW2 g2=>hT W2 (Z gW g2))) hT2
   rw[if_neg e6]at p3;by_cases e7:op=7
   ·subst e7;exact Z9 HLl HL
   rw[if_neg e7]at p3;by_cases e8:op=8
   ·subst e8;rw[if_pos rfl]at p3;simp only[Bool.and_eq_true,beq_iff_eq]at p3;obtain⟨a,b,rfl⟩:=Hp p3.1.2;obtain⟨g,o,pa',pc',lb,ld,rfl,hkid,hko,hkf,hkl,hT⟩:=one a b rfl;have hj:=LX p3.2;exact ZA (t2:=CB p) hsl (nT hkl (by decide)) (by omega) hkid hT (λW gW=>Ob (xs:=p) (hpc.gb gW (by simp)) rfl (by omega) (by omega))
   rw[if_neg e8]at p3;by_cases e9:op=9
   ·subst e9;rw[if_pos rfl]at p3;simp only[Bool.and_eq_true,Bool.or_eq_true,beq_iff_eq,List.isEmpty_iff]at p3;rcases p3 with⟨hs,hn⟩| ⟨rfl,hn⟩
    ·have hs0:s≠[]:=by rintro rfl;exact absurd hs (by decide)
     show Calls _ _ _ _ λe w'=>e= .returned (str (if s≠[]then [38]++s++[46]else _))/\_;rw[if_pos hs0];exact ZJ hsl hs0
    ·obtain⟨a,b,rfl⟩:=Hp hn;obtain⟨g,o,pa',pc',lb,ld,rfl,hkid,hko,hkf,hkl,hT⟩:=one a b rfl;exact ZK (nT hkl (by decide)) hkid hT
   rw[if_neg e9]at p3;cases p3
def Yg(hp:Pow w)(hx:VE ok w v x)(h1:x.h.fit)(h2:x.kids.fit)(hn:x.kids.nodes<=1000000)(ho:okX x=true):
 Calls Tryz.prog 211 #[v] w (ρ w (str (E7 wdM x))):=by
 obtain⟨pa,pc,la,lc,rfl,hpc,hl⟩:=hx;unfold okX at ho;rw[Bool.and_eq_true]at ho;exact ZB _ x.h x.kids (Nat.lt_succ_self _) ho.1 ho.2 h1 h2 hn pa la pc lc w hp (hpc.mono λ_ _ _=>trivial) (hl.mono λ_ _ _=>trivial)
def Vi(h1:x.h.fit)(h2:x.kids.fit)(hn:x.kids.nodes<=1000000)(ho:okX x=true):(E7 wdM x).length<=1000000000000000:=by
 unfold okX at ho;rw[Bool.and_eq_true]at ho;obtain⟨r1,r2⟩:=Jt x.kids ho.2 h2;have:=KJ h1 ho.1 r2;unfold E7;omega
def UW(s:Bs)(hl:s.length<=1000000000000000)(w:World):Calls Tryz.prog 189 #[str s] w (ρ w (.tuple #[str (if 4000<s.length then []else s),.int .i64 (if 4000<s.length then 3 else 0)])):=by
 by_cases h:4000<s.length
 ·rw[if_pos h,if_pos h];have hI:decide ((4000:Int)<(s.length:Int))=true:=by simp;omega
  go_enter func189,ntmps189;go_wp2;exact bZ (v:= .tuple #[str [],.int .i64 3]) (by simp[results,results189,go_sem]) rfl ⟨rfl,Aa _ _⟩
 ·rw[if_neg h,if_neg h];have hI:decide ((4000:Int)<(s.length:Int))=false:=by simp;omega
  go_enter func189,ntmps189;go_wp2;exact bZ (v:= .tuple #[str s,.int .i64 0]) (by simp[results,results189,go_sem]) rfl ⟨rfl,Aa _ _⟩
def DG(x:Ex):Bs×Int:=if DL x≠0 then([],DL x)else if 4000<(E7 wdM x).length then([],3)else(E7 wdM x,0)
def Wy(h:DL x=0):okX x=true/\Cq x.nodes x.levels=false:=by
 unfold DL at h;cases hl:Cq x.nodes x.levels with
 |true=>rw[hl]at h;simp at h
 | false=>
   rw[hl]at h;cases ho:okX x with
   |true=>exact⟨rfl,rfl⟩
   |false=>rw[ho]at h;simp at h
def PM(hp:Pow w)(hx:VE ok w v x)(h1:x.h.fit)(h2:x.kids.fit)(hn:x.kids.nodes<=1000000):
 Calls Tryz.prog 159 #[v] w (ρ w (.tuple #[str (DG x).1,.int .i64 (DG x).2])):=by
 have HV:=S (fun(W:World)(g:w.grownBy W none)=>Rc (hx.gb g (by simp)) h1 h2 hn);have HX:=hx;obtain⟨pa,pc,la,lc,rfl,_,_⟩:=hx;have hB:=Blk.new w (hdC x.h (.slice pa x.h.p.length pc) (.slice la x.kids.len lc)) 163;have hB1:=hB;obtain⟨x_0,x_1,x_2,x_3,x_4,x_5,x_6,x_f⟩:=(hB1).c7;have HB:=S hB;clear hB1 hB;by_cases hv:DL x=0
 ·have ho:=(Wy hv).1;have HT:=S (fun(W:World)(g:w.grownBy W none)=>Yg (hp.gb g) (HX.gb g (by simp)) h1 h2 hn ho);have HS:=S (fun(W:World)=>UW (E7 wdM x) (Vi h1 h2 hn ho) W);have HM:=S (show DG x=(if 4000<(E7 wdM x).length then []else E7 wdM x,if 4000<(E7 wdM x).length then 3 else 0)by
   unfold DG;rw[if_neg (by simpa using hv)];split<;>rfl)
  rw[HM.1];rw[hv]at HV;clear ho hv HX hp h1 h2 hn HM;generalize E7 wdM x=t at*;generalize(if 4000<t.length then []else t)=t2 at*;generalize(if 4000<t.length then(3:Int)else 0)=c2 at*;go_enter func159,ntmps159;go_wp2_with fail;refine(HV.1 _ ?gg).mono ?_
  case gg=>exact(Ac (Aa _ _) _)
  rintro e w1 ⟨rfl,g1⟩;have hb1:=HB.1.gb g1 (by simp);have HG:=S (Z (gZ w (.cells (hdC x.h (.slice pa x.h.p.length pc) (.slice la x.kids.len lc)).toArray 163 (0,0)) none) g1);clear x_0 x_1 x_2 x_3 x_4 x_5 x_6 x_f g1;have y_:=hb1.c7;clear hb1;go_wp2_with fail;refine mR (HT.1 _ HG.1) λw2 g2=>?_;go_wp2_with fail;refine mR (HS.1 _) λw3 g3=>?_;have HG3:=S (Z (Z HG.1 g2) g3);clear g2 g3;go_wp2;exact bZ (v:= .tuple #[str t2,.int .i64 c2]) (by simp[results,results159,go_sem]) rfl ⟨rfl,HG3.1⟩
 ·have HM:=S (show DG x=([],DL x)by unfold DG;rw[if_pos hv]);rw[HM.1];have hvI:(DL x==0)=false:=by simpa using hv
  have hvI2:(DL x !=0)=true:=by simpa using hv
  clear hv HX hp h1 h2 hn HM;generalize DL x=vm at*;go_enter func159,ntmps159;go_wp2_with fail;refine(HV.1 _ ?gg).mono ?_
  case gg=>exact(Ac (Aa _ _) _)
  rintro e w1 ⟨rfl,g1⟩;have HG:=S (Z (gZ w (.cells (hdC x.h (.slice pa x.h.p.length pc) (.slice la x.kids.len lc)).toArray 163 (0,0)) none) g1);clear x_0 x_1 x_2 x_3 x_4 x_5 x_6 x_f g1;go_wp2;exact bZ (v:= .tuple #[str [],.int .i64 vm]) (by simp[results,results159,go_sem]) rfl ⟨rfl,HG.1⟩
open Go.Lib
def X3{n:Int}{x:UInt8}(h:x∈itoa n):x≠115:=by
 have:=DX n;rw[List.all_eq_true]at this;intro e;rw[e]at h;exact absurd (this _ h) (by decide)
def sumW:Bs:=[115,117,109,32]
def Ye{n:Int}(h:t <:+[117,109,32]++(itoa n++[10])):[115,117,109,32].isPrefixOf t=false:=by
 cases hp:[115,117,109,32].isPrefixOf t with
 |false=>rfl
 | true=>
   obtain⟨r,hr⟩:=List.isPrefixOf_iff_prefix.1 hp;have hm:(115:UInt8)∈[117,109,32]++(itoa n++[10]):=h.subset (by rw[<-hr];simp);rcases List.mem_append.1 hm with h1|h1
   ·exact absurd h1 (by decide)
   ·rcases List.mem_append.1 h1 with h2|h2
    ·exact absurd rfl (X3 h2)
    ·exact absurd h2 (by decide)
def Oc(A:Bs)(n:Int):Lib.lastIndex (A++B6 n) sumW=A.length:=by
 have hl:(A++B6 n).length=A.length+4+(itoa n).length+1:=by simp[B6];omega
 unfold Lib.lastIndex;rw[if_pos (by rw[hl];show 4<=_;omega)];rcases Lib.lastOcc_spec (A++B6 n) sumW ((A++B6 n).length-sumW.length+1)with⟨_,h⟩| ⟨i,h1,h2,h3,h4⟩
 ·exfalso;have h5:=h A.length (by rw[hl];show A.length<_-4+1;omega);rw[Lib.occAt,List.drop_left]at h5;simp[B6,sumW]at h5
 ·rw[h2];congr 1;rcases Nat.lt_trichotomy i A.length with h5|h5|h5
  ·exfalso;have h6:=h4 A.length h5 (by rw[hl];show A.length<_-4+1;omega);rw[Lib.occAt,List.drop_left]at h6;simp[B6,sumW]at h6
  ·exact h5
  ·exfalso;rw[Lib.occAt]at h3;have h7:(A++B6 n).drop i <:+[117,109,32]++(itoa n++[10]):=by
    obtain⟨j,hj⟩:∃j,i=A.length+1+j:=⟨i-A.length-1,by omega⟩;rw[hj,<-List.drop_drop,<-List.drop_drop,List.drop_left];have:(B6 n).drop 1=[117,109,32]++(itoa n++[10]):=by simp[B6]
    rw[this];exact List.drop_suffix _ _
   rw[show sumW=[115,117,109,32]from rfl,Ye h7]at h3;cases h3
def Zf(h:Lib.lastIndex s sumW=(i:Int)):i+4<=s.length/\(s.drop i).take 4=sumW:=by
 unfold Lib.lastIndex at h;split at h
 ·rename_i h0;have h0:4<=s.length:=h0;rcases Lib.lastOcc_spec s sumW (s.length-sumW.length+1)with⟨h1,_⟩| ⟨j,h1,h2,h3,_⟩
  ·rw[h1]at h;omega
  ·rw[h2]at h;have:j=i:=by omega
   subst this;have h1:j<s.length-4+1:=h1;refine⟨by omega,?_⟩;obtain⟨r,hr⟩:=List.isPrefixOf_iff_prefix.1 h3;rw[<-hr];rfl
 ·omega
def Tl(s:Bs):Lib.lastIndex s sumW= -1\/∃i:Nat,Lib.lastIndex s sumW=i:=by
 unfold Lib.lastIndex;split
 ·rcases Lib.lastOcc_spec s sumW (s.length-sumW.length+1)with⟨h1,_⟩| ⟨j,_,h2,_⟩
  ·exact .inl h1
  ·exact .inr ⟨j,h2⟩
 ·exact .inl rfl
def TQ(h:i+4<=s.length)(hs:(s.drop i).take 4=sumW)(hn:Lib.hasSuffix s [10]=true):i+5<=s.length/\s=s.take i++(sumW++((s.drop (i+4)).take (s.length-1-(i+4))++[10])):=by
 have h1:[10] <:+s:=by
  have:([10]:Bs).isSuffixOf s=true:=hn;exact List.isSuffixOf_iff_suffix.1 this
 obtain⟨q,hq⟩:=h1;have hl:s.length=q.length+1:=by rw[<-hq];simp
 have hd:s.drop i=sumW++s.drop (i+4):=by
  have:=(List.take_append_drop 4 (s.drop i)).symm;rw[hs,List.drop_drop]at this;exact this
 have h5:i+5<=s.length:=by
  rcases Nat.lt_or_ge (i+4) s.length with h6|h6
  ·omega
  ·exfalso;have h7:s.length=i+4:=by omega
   have h8:s.drop i=sumW:=by rw[hd,List.drop_eq_nil_of_le (by omega)];rfl
   have h9:s=s.take i++sumW:=by conv=>lhs;rw[<-List.take_append_drop i s,h8]
   have h10:=congrArg List.getLast? (hq.trans h9);simp[sumW]at h10
 refine⟨h5,?_⟩;have h6:s.drop (i+4)=(s.drop (i+4)).take (s.length-1-(i+4))++[10]:=by
  have h7:=(List.take_append_drop (s.length-1-(i+4)) (s.drop (i+4))).symm;rw[List.drop_drop,show i+4+(s.length-1-(i+4))=q.length by omega]at h7;have h8:s.drop q.length=[10]:=by rw[<-hq];simp
  rw[h8]at h7;exact h7
 rw[<-h6,<-hd,List.take_append_drop]
def M1{vs:List Un}(h:vs≠[]):∃q,AG vs=q++[10]:=by
 rw[IA];refine Na 10 _ ?_;cases vs with
 |nil=>exact absurd rfl h
 |cons v vs=>simp[Bz]
def X7{vs:List Un}(h:AG vs=[]):vs=[]:=by
 cases vs with
 |nil=>rfl
 |cons v vs=>obtain⟨q,hq⟩:=M1 (vs:=v::vs) (by simp);rw[hq]at h;simp at h
end Go.Proofs.YtbjfaimkiclhgaaGreatDoor
