/-
  PgS PtB Code: Validate, the program's: is a text that of an expression? Code: Validate, the program's: is a text that of an expression, of a statement of a kind? Code: Validate, the program's: may an 
-/
import Derived.Test.YtbjfaimkiclhgaaGreatDoorCt21
import Derived.Test.YtbjfaimkiclhgaaGreatDoorCt10
import Derived.Test.YtbjfaimkiclhgaaGreatDoorCt13
import Derived.Test.YtbjfaimkiclhgaaGreatDoorCt09
import Derived.Test.YtbjfaimkiclhgaaGreatDoorCt11
import Derived.Test.YtbjfaimkiclhgaaGreatDoorCt20
import Derived.Test.YtbjfaimkiclhgaaGreatDoorCt22
import Derived.Test.YtbjfaimkiclhgaaGreatDoorCt17
import Derived.Test.YtbjfaimkiclhgaaGreatDoorCt03
import Derived.Test.YtbjfaimkiclhgaaGreatDoorCt14
import Derived.Test.YtbjfaimkiclhgaaGreatDoorCt08
import Derived.Test.YtbjfaimkiclhgaaGreatDoorCt07
import Derived.Test.YtbjfaimkiclhgaaGreatDoorCt05
import Derived.Lib.LaidU8
import Derived.Lib.LaidCase
import Derived.Lib.LaidTab
import Derived.PinnedBridge
import Derived.Test.YtbjfaimkiclhgaaGreatDoorRows
import Derived.Shelf.Vars
set_option linter.all false
set_option maxRecDepth 100000
set_option maxHeartbeats 8000000
namespace Go.Proofs.YtbjfaimkiclhgaaGreatDoor
open Go.Proofs.Tryz
open Go.RowKit
variable{s nm:Bs}{l:List Tok}{pc:Int×Int}{a:List Pq}{j n rc cc m k g:Nat}{w w1 w' W:World}{p c x op y:Int}{v:Value}{ok:Nat->Prop}{P:Prop}{e:Ending}{ra ca:Option Addr}{code:List Cd}{u:Un}{us:List Un}{name:String}{t:TypeId}{d:DataW Unit}
def JZ(h:CD s= .ok l):(∀i,As (Ab l i))/\l.length<=1200:=by
 unfold CD at h;by_cases h4:4000<s.length
 ·rw[if_pos h4]at h;cases h
 rw[if_neg h4]at h;cases hl:Fw s with
 |out=>rw[hl]at h;cases h
 |bad k=>rw[hl]at h;cases h
 | ok l'=>
   rw[hl]at h;simp only at h;by_cases hm:1200<l'.length
   ·rw[if_pos hm]at h;cases h
   ·rw[if_neg hm]at h;cases h;exact⟨λi=>IN (Oh (by omega) _ _ _ _ hl) i,by omega⟩
abbrev FB{l:List Tok}(hn:Aj l):Res (List Pq):=(BW hn wordsL AE (l.length+3)).f 0
def Ey{l:List Tok}(hn:Aj l):PeR (List Pq):=
 match FB hn with
 | .ok a j=>if j<l.length then .no j 2 else if EK (a.map AB)then .no 0 5 else if Cp (Da (a.map AB)) (D5 ((a.map AB).map Pd.body))then .no 0 3 else .ok a l.length
 | .bad q=> .no q 2
 | .out=> .no 0 2
open Classical in
noncomputable def prM(s:Bs):PeR (List Pq):=match CD s with
 | .ok l=>if h:Aj l then Ey h else .no 0 0
 | .error pc=> .no pc.1 pc.2
def O0(hn:Aj l)(h:CD s= .ok l):prM s=Ey hn:=by
 unfold prM;rw[h];exact dif_pos hn
def Oz(h:CD s= .error pc):prM s= .no pc.1 pc.2:=by
 unfold prM;rw[h]
def YA(w:World)(s:Bs)(e:Ending)(w':World):Prop:=w.grownBy w' none/\
 match prM s with
  | .ok a n=>∃v,e= .returned (.tuple #[v,.int .i64 n,.int .i64 0])/\RepQ (Al w.heap.size) w' v (a.map AB)
  | .no p c=>e= .returned (.tuple #[.slice none 0 0,.int .i64 p,.int .i64 c])
def Uq{hn:Aj l}{q:Nat}(h:FB hn= .bad q):Ey hn= .no q 2:=by
 unfold Ey;rw[h]
def Ro{hn:Aj l}(h:FB hn= .ok a j)(hj:j<l.length):Ey hn= .no j 2:=by
 unfold Ey;rw[h];simp only;rw[if_pos hj]
def Rp{hn:Aj l}(h:FB hn= .ok a j)(hj:¬j<l.length):Ey hn=if EK (a.map AB)then .no 0 5 else if Cp (Da (a.map AB)) (D5 ((a.map AB).map Pd.body))then .no 0 3 else .ok a l.length:=by
 unfold Ey;rw[h];simp only;rw[if_neg hj]
def Ul(hn:Aj l)(hl:l.length<=1200)(h:FB hn= .ok a j):
 j<=l.length/\Da (a.map AB)<=1200/\(∀p∈a.map AB,p.body.wt<=1200)/\(∀i,i<(a.map AB).length->(Br (a.map AB) i).length<=maxLen):=by
 have h1:=Xy hn AE (nR _) h;have h2:=XA hn wordsL AE (l.length+3) 0 a j h;have h3:=YU hn wordsL AE h;have h4:=Sr hn wordsL AE h;refine⟨h1,?_,?_,?_⟩
 ·have e : Da (a.map AB) = Ce a := by
   unfold Da;rw[List.map_map,<-Qm];rfl
  omega
 ·intro p hp;obtain⟨q,hq,rfl⟩:=List.mem_map.1 hp;have:=h3 q hq;show q.2.2.2.wt<=1200;omega
 ·intro i hi;rw[List.length_map]at hi;have e:Br (a.map AB) i=(a[i]).1:=by
   unfold Br;simp[hi,AB]
  rw[e];have:=h4 _ (List.getElem_mem hi);unfold maxLen;omega
def Um(ht:Tabs w.heap.size w)(s:Bs)(hs:s.length<=1000000):Calls Tryz.prog 115 #[str s] w (YA w s):=by
 have HL:=S (Mj ht s hs);have HT:=S ht;clear ht hs;go_enter func115,ntmps115;go_wp2_with fail;refine HL.1.mono ?_;rintro e w1 ⟨g1,h1⟩;clear HL;cases hq:CD s with
 | error pc=>
   rw[hq]at h1;obtain⟨rfl,hc⟩:=h1;have HQ:=S (X (Oz hq) g1);have hc1:decide (pc.2=0)=false:=by simp;omega
   clear hq g1;go_wp2;refine bZ (v:= .tuple #[.slice none 0 0,.int .i64 pc.1,.int .i64 pc.2]) (by simp[results,results115,go_sem]) rfl ⟨HQ.1.2,?_⟩;rw[HQ.1.1]
 | ok l=>
   rw[hq]at h1;obtain⟨v,rfl,hT,hTame,_⟩:=h1;obtain⟨hok,hl⟩:=JZ hq;have hn:=LG hok;obtain⟨ta,tc,rfl,_⟩:=id hT;have HP:=S (Uv (HT.1.gbN g1).glob hn hTame hok (hT.mono λ_ _ _=>trivial) (by omega) (l.length+3) (by omega) (Nm hn AE (nR _)));have HQ:=S (X (O0 hn hq) g1);have HF:=S (λa j h=>Ul (a:=a) (j:=j) hn hl h);have hfine:FB hn ≠ .out:=Nm hn AE (nR _);clear hq g1 hT hTame hok HT;go_wp2_with fail;refine HP.1.mono ?_;rintro e w2 ⟨la,ln,lc,rfl,g2,hV⟩;have HV:=S (X hV (Z HQ.1.2 g2));have hs1:=HQ.1.2.size;have hs2:=g2.size;clear HP g2 hV;cases hr:FB hn with
   |out=>exact absurd hr hfine
   | bad q=>
     have HE:=S (show prM s= .no q 2 by rw[HQ.1.1,Uq hr]);rw[show(BW hn wordsL AE (l.length+3)).f 0=Res.bad q from hr];have hla:BO l (.bad q:Res (List Pq))=(q:Int):=rfl;rw[hla];have hc1:decide ((0:Int)<=(q:Int))=true:=by simp
     clear hr hfine hla;go_wp2;refine bZ (v:= .tuple #[.slice none 0 0,.int .i64 q,.int .i64 2]) (by simp[results,results115,go_sem]) rfl ⟨HV.1.2,?_⟩;rw[HE.1]
   | ok a j=>
     rw[show(BW hn wordsL AE (l.length+3)).f 0=Res.ok a j from hr];by_cases hj:j<l.length
     ·have HE:=S (show prM s= .no j 2 by rw[HQ.1.1,Ro hr hj]);have hla:BO l (.ok a j)=(j:Int):=by simp[BO,hj]
      rw[hla];have hc1:decide ((0:Int)<=(j:Int))=true:=by simp
      clear hr hfine hla;go_wp2;refine bZ (v:= .tuple #[.slice none 0 0,.int .i64 j,.int .i64 2]) (by simp[results,results115,go_sem]) rfl ⟨HV.1.2,?_⟩;rw[HE.1]
     ·have hla:BO l (.ok a j)=(-1:Int):=by simp[BO,hj]
      rw[hla];have hP:=Rp hr hj;obtain⟨rfl,hRQ⟩:=HV.1.1 a j hr;obtain⟨_,hn1,hn2,hn3⟩:=HF.1 a j hr;have HPP:=S (HQ.1.1.trans hP);rw[<-List.length_map (f:=AB)]at hRQ;have H1:=S (Q7 hn3 hRQ);have H2:=S (fun(W:World)(g:w2.grownBy W none)=>Rm (hRQ.gb g (by simp)) (by omega));have HR:=S hRQ;rw[List.length_map]at H1 H2;have hc1:decide ((0:Int)<=-1)=false:=by decide
      clear hr hfine hla hP hRQ hn3 hn2 hj HF;generalize Da (a.map AB)=NN at*;generalize D5 ((a.map AB).map Pd.body)=LV at*;go_wp2_with fail;refine mR H1.1 λw3 g3=>?_;cases hTw:EK (a.map AB)with
      | true=>
        have HE:=S (show prM s= .no 0 5 by rw[HPP.1,hTw];rfl);have HG:=S (Z HV.1.2 g3);clear g3 hTw;go_wp2;refine bZ (v:= .tuple #[.slice none 0 0,.int .i64 0,.int .i64 5]) (by simp[results,results115,go_sem]) rfl ⟨HG.1,?_⟩;rw[HE.1]
      | false=>
        go_wp2_with fail;refine mR (H2.1 _ g3) λw4 g4=>?_;go_wp2_with fail;refine mR (Jx _ _ _) λw5 g5=>?_;have gA:=Z g3 (Z g4 g5);cases hLL:Cp NN LV with
        | true=>
          have HE:=S (show prM s= .no 0 3 by rw[HPP.1,hTw,hLL];rfl);have HG:=S (Z HV.1.2 gA);clear g3 g4 g5 gA hTw hLL;go_wp2;refine bZ (v:= .tuple #[.slice none 0 0,.int .i64 0,.int .i64 3]) (by simp[results,results115,go_sem]) rfl ⟨HG.1,?_⟩;rw[HE.1]
        | false=>
          have HE:=S (show prM s= .ok a l.length by rw[HPP.1,hTw,hLL];rfl);have HG:=S (X (Z HV.1.2 gA) (HR.1.gb gA (by simp)));clear g3 g4 g5 gA hTw hLL;go_wp2;refine bZ (v:= .tuple #[.slice la a.length lc,.int .i64 l.length,.int .i64 0]) (by simp[results,results115,go_sem]) rfl ⟨HG.1.1,?_⟩;rw[HE.1];refine⟨_,rfl,?_⟩;have hq:=HG.1.2;rw[List.length_map]at hq;obtain⟨cs,k1,k2⟩:=hq;exact⟨cs,k1.mono (λq hq _=>nT hs1 hq),RepP.mono (λq hq _=>nT hs1 hq) k2⟩
def Mk(h:CD s= .error pc):pc.2≠0:=by
 unfold CD at h;by_cases h4:4000<s.length
 ·rw[if_pos h4]at h;cases h;decide
 rw[if_neg h4]at h;cases hl:Fw s with
 |out=>rw[hl]at h;cases h;simp
 |bad k=>rw[hl]at h;cases h;simp
 | ok l=>
   rw[hl]at h;simp only at h;by_cases hm:1200<l.length
   ·rw[if_pos hm]at h;cases h;decide
   ·rw[if_neg hm]at h;cases h
def Zw(h:peM s= .no p c):c≠0:=by
 unfold peM at h;cases hl:CD s with
 |error pc=>rw[hl]at h;cases h;exact Mk hl
 | ok l=>
   rw[hl]at h;simp only at h;unfold F7 at h;cases he:Ho l with
   |bad q=>rw[he]at h;cases h;decide
   |out=>rw[he]at h;cases h;decide
   | ok x j=>
     rw[he]at h;simp only at h;by_cases hj:j<l.length
     ·rw[if_pos hj]at h;cases h;decide
     rw[if_neg hj]at h;cases hg:Cp x.nodes x.levels with
     |true=>rw[hg]at h;cases h;decide
     |false=>rw[hg]at h;cases h
def YN{x:Ex}(h:peM s= .ok x n):FX x/\x.kids.nodes<=1000000:=by
 unfold peM at h;cases hl:CD s with
 |error pc=>rw[hl]at h;cases h
 | ok l=>
   rw[hl]at h;simp only at h;have h2:=(JZ hl).2;unfold F7 at h;cases he:Ho l with
   |bad q=>rw[he]at h;cases h
   |out=>rw[he]at h;cases h
   | ok y j=>
     rw[he]at h;simp only at h;by_cases hj:j<l.length
     ·rw[if_pos hj]at h;cases h
     rw[if_neg hj]at h;cases hg:Cp y.nodes y.levels with
     |true=>rw[hg]at h;cases h
     | false=>
       rw[hg]at h;cases h;refine⟨U9 AE _ (by omega) he,?_⟩;unfold Cp Ex.nodes at hg;simp at hg;omega
def Xt{hn:Aj l}(h:Ey hn= .no p c):c≠0:=by
 unfold Ey at h;cases he:FB hn with
 |bad q=>rw[he]at h;cases h;decide
 |out=>rw[he]at h;cases h;decide
 | ok x j=>
   rw[he]at h;simp only at h;split at h
   ·cases h;decide
   split at h
   ·cases h;decide
   split at h
   ·cases h;decide
   ·cases h
def Zy(h:prM s= .no p c):c≠0:=by
 cases hl:CD s with
 | error pc=>
   rw[Oz hl]at h;cases h;exact Mk hl
 | ok l=>
   rw[O0 (LG (JZ hl).1) hl]at h;exact Xt h
theorem MP:∀c,Lib.repeatL [32] c=List.replicate c 32
 | 0=>rfl
 |c+1=>by rw[Lib.repeatL,MP c];rfl
def EL(x:Ex):Bs:=if(D9 x).2=0 then(D9 x).1 else List.replicate 4001 32
def SD(w:World):Calls Tryz.prog 143 #[str [32],.int .i64 4001] w (ρ w (str (List.replicate 4001 32))):=by
 refine mR (strings_Repeat ⟨#[32]⟩ 4001 w (by decide) (by decide)) λw1 hb=>?_;obtain⟨a1,a2,a3,a4,a5⟩:=hb;exact⟨by rw[<-MP],⟨a1,a2,a3,a4,λk hk _=>a5 k hk⟩⟩
def Ts{x:Ex}(hp:Pow w)(hx:VE ok w v x)(h1:x.h.fit)(h2:x.kids.fit)(hn:x.kids.nodes<=1000000):
 Calls Tryz.prog 114 #[v] w (ρ w (str (EL x))):=by
 have HT:=S (fun(W:World)(g:w.grownBy W none)=>P0 (hp.gb g) (hx.gb g (by simp)) h1 h2 hn);obtain⟨pa,pc,la,lc,rfl,_,_⟩:=hx;have hB:=Blk.new w (hdC x.h (.slice pa x.h.p.length pc) (.slice la x.kids.len lc)) 163;have HG0:=S (gZ w (.cells (hdC x.h (.slice pa x.h.p.length pc) (.slice la x.kids.len lc)).toArray 163 (0,0)) none);have hlt:=hB.lt;have x_:=hB.c7;clear hB h1 h2 hn hp;cases hc:decide ((D9 x).2=0)with
 | true=>
   have hz:=of_decide_eq_true hc;have HM:=S (show(D9 x).1=EL x by unfold EL;rw[if_pos hz]);have HT2:=S ((HT.1 _ HG0.1).mono λe w' h=>(show e= .returned (.tuple #[str (EL x),.int .i64 0])/\_ from⟨by rw[h.1,hz,HM.1],h.2⟩));clear hc hz HT HM;generalize EL x=t at*;go_enter func114,ntmps114;go_wp2_with fail;refine mR HT2.1 λw1 g1=>?_;have H1:=S (Z HG0.1 g1);clear g1;go_wp2;go_ret;exact⟨rfl,H1.1⟩
 | false=>
   have hz:=of_decide_eq_false hc;have HM:=S (show EL x=List.replicate 4001 32 by unfold EL;rw[if_neg hz]);rw[HM.1];have hvI2:((D9 x).2 !=0)=true:=by simpa using hz
   have HS:=S (λW:World=>SD W);generalize(List.replicate 4001 32:Bs)=sp at*;generalize D9 x=q at*;obtain⟨t,c⟩:=q;clear hc hz HM;go_enter func114,ntmps114;go_wp2_with fail;refine mR (HT.1 _ HG0.1) λw1 g1=>?_;have H1:=S (Z HG0.1 g1);clear g1 HT;go_wp2_with fail;refine mR (HS.1 _) λw2 g2=>?_;have H2:=S (Z H1.1 g2);clear g2;go_wp2;go_ret;exact⟨rfl,H2.1⟩
def FY(s:Bs):Bool:=match peM s with
 | .ok x _=>EL x==s
 | .no _ _=>false
def QV(hp:Pow w)(ht:Tabs w.heap.size w)(s:Bs)(hs:s.length<=1000000):
 Calls Tryz.prog 82 #[str s] w (ρ w (.bool (FY s))):=by
 have HP:=S (Pi ht s hs);have HW:=S hp;clear ht hs hp;go_enter func82,ntmps82;go_wp2_with fail;refine HP.1.mono ?_;rintro e w1 ⟨g1,h1⟩;cases hq:peM s with
 | no p c=>
   rw[hq]at h1;obtain rfl:=h1;have HM:=S (X (show FY s=false by unfold FY;rw[hq]) g1);have hc1:(c==0)=false:=by simpa using Zw hq
   clear HP hq g1;go_wp2;go_ret;exact⟨by rw[HM.1.1];rfl,Z HM.1.2 (gZ _ _ _)⟩
 | ok x n=>
   rw[hq]at h1;obtain⟨v,rfl,hx⟩:=h1;have HM:=S (X (show FY s=(EL x==s)by unfold FY;rw[hq]) (X g1 (X hx (YN hq))));obtain⟨pa,pc,la,lc,rfl,_,_⟩:=hx;have hB:=Blk.new w1 (hdC x.h (.slice pa x.h.p.length pc) (.slice la x.kids.len lc)) 163;have HG0:=S (gZ w1 (.cells (hdC x.h (.slice pa x.h.p.length pc) (.slice la x.kids.len lc)).toArray 163 (0,0)) none);have hlt:=hB.lt;have x_:=hB.c7;have HT:=S (Ts (HW.1.gb (Z g1 HG0.1)) (HM.1.2.2.1.gb HG0.1 (by simp)) HM.1.2.2.2.1.1 HM.1.2.2.2.1.2 HM.1.2.2.2.2);clear hB HP hq g1;go_wp2_with fail;refine mR HT.1 λw2 g2=>?_;have H2:=S (Z HM.1.2.1 (Z HG0.1 g2));clear g2;go_wp2;go_ret;refine⟨?_,H2.1⟩;rw[HM.1.1];rfl
noncomputable def Dq(s:Bs)(k:Int):Bool:=match prM (s++[10])with
 | .ok [q] _=>match(AB q).body with
   | .st h _ .nil=>decide (h.op=k)
   |_=>false
 |_=>false
def Zx{q:Pd}(h:RepQ ok w v [q]):∃g o cap ba bc,v= .slice (some ⟨g,o,none⟩) 1 cap/\g<w.heap.size/\w.cell? ⟨g,o+3,none⟩=some (.slice ba q.body.len bc)/\RepV ok w false (.slice ba q.body.len bc) q.body:=by
 obtain⟨cs,⟨a,cap,rfl,h1,h2,h3,h4⟩,pa,ba,pc,bc,rest,rfl,h5,h6,h7⟩:=h;obtain⟨g,o,rfl,ho,hc⟩:=h4 3 _ rfl;exact⟨g,o,cap,ba,bc,rfl,bY w _ hc,hc,h6⟩
def YC{ba:Option Addr}{bc:Nat}{h:Sd}{b nx:Bl}(k:RepV ok w false (.slice ba n bc) (.st h b nx)):∃g o,ba=some ⟨g,o,none⟩/\g<w.heap.size/\w.cell? ⟨g,o,none⟩=some (.int .i64 h.op):=by
 obtain⟨cs,⟨a,cap,e,h1,h2,h3,h4⟩,pa,xa,na,fa,wa,ba,pc,xc,nc,fc,wc,bc,kcs,rest,rfl,h5,h6,h7⟩:=k;cases e;obtain⟨g,o,rfl,ho,hc⟩:=h4 0 _ rfl;exact⟨g,o,rfl,bY w _ hc,hc⟩
def Mf(ht:Tabs w.heap.size w)(s:Bs)(hs:s.length<=900000){b:Nat}{k:Int}(hk:w.cell? ⟨b,0,none⟩=some (.int .i64 k)):
 Calls Tryz.prog 83 #[str s,.slice (some ⟨b,0,none⟩) 1 1] w (ρ w (.bool (Dq s k))):=by
 have HP:=S (Um ht (s++[10]) (by simp;omega));have HC:=S (fun(x:Int)(W:World)(hw:W.cell? ⟨b,0,none⟩=some (.int .i64 k))=>(slices_Contains_int b 0 1 1 [k] x W (by simp) (by decide) (by
  intro j hj;have h0:j=0:=by simp at hj;omega
  subst h0;exact hw)).mono λe w' h=>(show e= .returned (.bool (decide (x=k)))/\w'=W from⟨by rw[h.1];simp,h.2⟩))
 have HK:=S hk;have hcl1:¬(9223372036854775807<s.length+1):=by omega
 clear ht hs hk;generalize hs2:s++[10]=s2 at*;have HS:=S hs2;have HE:=S (show Value.string (⟨s.toArray⟩++⟨#[10]⟩)=str s2 by rw[<-hs2];exact Hm s [10]);clear hs2;go_enter func83,ntmps83;go_wp2_with fail;rw[HE.1];refine HP.1.mono ?_;rintro e w1 ⟨g1,h1⟩;cases hq:prM s2 with
 | no p c=>
   rw[hq]at h1;obtain rfl:=h1;have HM:=S (X (show Dq s k=false by unfold Dq;rw[HS.1,hq]) g1);have hc1:(c==0)=false:=by simpa using Zy hq
   clear HP hq g1;go_wp2;go_ret;exact⟨by rw[HM.1.1];rfl,HM.1.2⟩
 | ok a n=>
   rw[hq]at h1;obtain⟨v,rfl,hx⟩:=h1;by_cases ha:a.length=1
   ·obtain⟨q,rfl⟩:=List.length_eq_one_iff.1 ha;obtain⟨g,o,cap,ba,bc,rfl,hlt,c3,hb⟩:=Zx hx;by_cases hn:(AB q).body.len=1
    ·cases hbd:(AB q).body with
     |nil=>rw[hbd]at hn;cases hn
     | bl b' nx=>
       rw[hbd]at hb;obtain⟨cs,_,hf⟩:=hb;exact hf.elim
     | st h b' nx=>
       cases nx with
       |st h2 b2 nx2=>rw[hbd]at hn;simp[Bl.len]at hn
       |bl b2 nx2=>rw[hbd]at hn;simp[Bl.len]at hn
       | nil=>
         rw[hn]at c3;rw[hbd]at hb;obtain⟨g2,o2,rfl,hl2,d0⟩:=YC hb;have HM:=S (X (show Dq s k=decide (h.op=k)by unfold Dq;rw[HS.1,hq];simp only;rw[hbd]) g1);have HCC:=S (HC.1 h.op w1 (Ad g1 HK.1));clear HP hq g1 hb hbd hn hx ha HC;go_wp2_with fail;refine HCC.1.mono ?_;rintro e w2 ⟨rfl,rfl⟩;go_wp2;go_ret;exact⟨by rw[HM.1.1];rfl,HM.1.2⟩
    ·have hc1:((((AB q).body.len:Nat):Int)==1)=false:=by simpa using(by omega:¬(((AB q).body.len:Nat):Int)=1)
     have HM:=S (X (show Dq s k=false by
      unfold Dq;rw[HS.1,hq];simp only;cases hbd:(AB q).body with
      |nil=>rfl
      |bl b' nx=>rfl
      | st h b' nx=>
        cases nx with
        |nil=>rw[hbd]at hn;exact absurd rfl hn
        |st h2 b2 nx2=>rfl
        |bl b2 nx2=>rfl) g1)
     generalize(AB q).body.len=bn at*;clear HP hq g1 hb hn hx ha HC;go_wp2;go_ret;exact⟨by rw[HM.1.1];rfl,HM.1.2⟩
   ·have hc1:(((a.length:Nat):Int)==1)=false:=by simpa using(by omega:¬((a.length:Nat):Int)=1)
    obtain⟨cs,⟨aa,cap,rfl,_,_,_,_⟩,_⟩:=hx;have HM:=S (X (show Dq s k=false by
     unfold Dq;rw[HS.1,hq];cases a with
     |nil=>rfl
     | cons q r=>
       cases r with
       |nil=>exact absurd rfl ha
       |cons q2 r2=>rfl) g1)
    have hml:(List.map AB a).length=a.length:=by simp
    rw[hml];generalize a.length=an at*;clear HP hq g1 ha HC;go_wp2;go_ret;exact⟨by rw[HM.1.1];rfl,HM.1.2⟩
noncomputable def okS(op a:Int)(s:Bs):Bool:=
 if op=0 then !((Lib.split s [44]).any F6)
 else if op=1\/op=2 then FY s
 else if op=5 then Dq (s++[32,58,61,32,49]) 0
 else if op=6\/op=7 then decide (a<=3)&&Aw s
 else if op=10\/op=18 then Aw s
 else if op=16 then s.isEmpty||Aw s
 else if op=20 then Dq s 13
 else if op=17\/op=19 then decide (a<=1)&&s.isEmpty
 else s.isEmpty
def Gi(op a b n:Int):Bool:= !(decide (op<0)||decide (22<=op)||(Gk op&&(decide (b<0)||decide (n<b)))||decide (a<0)||(!Gk op&&decide (b<0)))
noncomputable def okC(c:Cd)(n:Int):Bool:=Gi c.op c.a c.b n&&okS c.op c.a c.s
structure CW(w:World):Prop where
 pow:Pow w
 tabs:Tabs w.heap.size w
 mx:Mx w
def CW.gb(h:CW w)(g:w.grownBy w1 none):CW w1:=⟨h.pow.gb g,(h.tabs.gbN g).mono g.size,h.mx.gb g⟩
def Rn{a:Int}(h:op ∉ ([0,1,2,5,6,7,10,18,16,20,17,19]:List Int)):okS op a s=s.isEmpty:=by
 simp at h;unfold okS;simp[h]
def Sa(hw:CW w)(c:Cd)(hs:c.s.length<=800000)(n:Int):
 Calls Tryz.prog 55 #[.agg #[.int .i64 c.op,.int .i64 c.a,.int .i64 c.b,str c.s],.int .i64 n] w (ρ w (.bool (okC c n))):=by
 obtain⟨op,a,b,s⟩:=c;have HF:=S (show okC ⟨op,a,b,s⟩ n=(Gi op a b n&&okS op a s)from rfl);have HH:=S (show Gi op a b n= !(decide (op<0)||decide (22<=op)||(Gk op&&(decide (b<0)||decide (n<b)))||decide (a<0)||(!Gk op&&decide (b<0)))from rfl);have HB:=S (X (Blk.new w (cdC ⟨op,a,b,s⟩) 61) (gZ w (.cells (cdC ⟨op,a,b,s⟩).toArray 61 (0,0)) none));have HJ:=S (λW=>Se op W);have HW:=S hw;have HS:=S (show s.length<=800000 from hs);have hcl1:¬(9223372036854775807<s.length+5):=by have:=HS.1;omega
 clear hw hs;go_enter func55,ntmps55;go_upto_region 1 with fail;go_cut [44] (λv44 wx=>v44= .bool (!Gi op a b n)/\Blk wx w.heap.size (cdC ⟨op,a,b,s⟩) 61/\w.grownBy wx none)
 case first=>
  cases h1:decide (op<0)with
  | true=>
    go_wp2;go_meet;exact⟨by rw[HH.1,h1];rfl,HB.1.1,HB.1.2⟩
  |false=>
  cases h2:decide (22<=op)with
  | true=>
    go_wp2;go_meet;exact⟨by rw[HH.1,h1,h2];rfl,HB.1.1,HB.1.2⟩
  |false=>
  go_wp2_with fail;refine mR (HJ.1 _) λw1 g1=>?_;have hb1:=HB.1.1.gb g1 (by simp);have H1:=S (X hb1 (Z HB.1.2 g1));have b0:=hb1.cell' 0 rfl;have b1:=hb1.cell' 1 rfl;have b2:=hb1.cell' 2 rfl;have b3:=hb1.cell' 3 rfl;clear hb1 g1;cases hj:Gk op with
  | true=>
    rw[hj]at HJ;cases h3:decide (b<0)with
    | true=>
      go_wp2;go_meet;exact⟨by rw[HH.1,h1,h2,hj,h3];rfl,H1.1.1,H1.1.2⟩
    |false=>
    cases h4:decide (n<b)with
    | true=>
      go_wp2;go_meet;exact⟨by rw[HH.1,h1,h2,hj,h3,h4];rfl,H1.1.1,H1.1.2⟩
    |false=>
    cases h5:decide (a<0)with
    | true=>
      go_wp2;go_meet;exact⟨by rw[HH.1,h1,h2,hj,h3,h4,h5];rfl,H1.1.1,H1.1.2⟩
    |false=>
    go_wp2_with fail;refine mR (HJ.1 _) λw2 g2=>?_;have hb2:=H1.1.1.gb g2 (by simp);have H2:=S (X hb2 (Z H1.1.2 g2));have b0:=hb2.cell' 0 rfl;have b1:=hb2.cell' 1 rfl;have b2:=hb2.cell' 2 rfl;have b3:=hb2.cell' 3 rfl;clear hb2 g2;go_wp2;go_meet;exact⟨by rw[HH.1,h1,h2,hj,h3,h4,h5];rfl,H2.1.1,H2.1.2⟩
  | false=>
    rw[hj]at HJ;cases h5:decide (a<0)with
    | true=>
      go_wp2;go_meet;exact⟨by rw[HH.1,h1,h2,hj,h5];rfl,H1.1.1,H1.1.2⟩
    |false=>
    go_wp2_with fail;refine mR (HJ.1 _) λw2 g2=>?_;have hb2:=H1.1.1.gb g2 (by simp);have H2:=S (X hb2 (Z H1.1.2 g2));have b0:=hb2.cell' 0 rfl;have b1:=hb2.cell' 1 rfl;have b2:=hb2.cell' 2 rfl;have b3:=hb2.cell' 3 rfl;clear hb2 g2;cases h3:decide (b<0)with
    | true=>
      go_wp2;go_meet;exact⟨by rw[HH.1,h1,h2,hj,h5,h3];rfl,H2.1.1,H2.1.2⟩
    |false=>
    go_wp2;go_meet;exact⟨by rw[HH.1,h1,h2,hj,h5,h3];rfl,H2.1.1,H2.1.2⟩
 case rest=>
  obtain⟨rfl,hb2,g2⟩:=hcut;have H2:=S (X hb2 g2);have b0:=hb2.cell' 0 rfl;have b1:=hb2.cell' 1 rfl;have b2:=hb2.cell' 2 rfl;have b3:=hb2.cell' 3 rfl;clear hb2 g2 HB HJ HH;cases hh:Gi op a b n with
  | false=>
    go_wp2;go_ret;exact⟨by rw[HF.1,hh];rfl,H2.1.2⟩
  |true=>
  rw[hh]at HF;clear hh;by_cases hd:op∈([0,1,2,5,6,7,10,18,16,20,17,19]:List Int)
  ·have hd:op=0\/(op=1\/op=2)\/op=5\/(op=6\/op=7)\/(op=10\/op=18)\/op=16\/op=20\/(op=17\/op=19):=by simp at hd;omega
   have HN:=S (λW=>Fa s W (nT HS.1 (by decide)));have HE:=S (fun(W:World)(g:w.grownBy W none)=>QV (HW.1.gb g).pow (HW.1.gb g).tabs s (nT HS.1 (by decide)));rcases hd with rfl|hd|rfl|hd|hd|rfl|rfl|hd
   ·have HM:=S (show okS 0 a s=(!((Lib.split s [44]).any F6))from by unfold okS;simp);have HSp:=S (Iz s (nT HS.1 (by decide)) 44 (HW.1.gb H2.1.2).mx);have HP:=S (λs' (h:s'∈Lib.split s [44])=>nT (Xq h) (nT HS.1 (by decide:800000<=4000000)));have hls:=MV 44 s.length s (nR _);have hcs:=Lib.count_le s [44];have hln:(Lib.split s [44]).length<=maxLen:=by have:=HS.1;unfold maxLen;omega
    clear hls hcs;generalize Lib.split s [44]=l at*;have HC:=S (X (JE (n:=l.length) (k:=1) (ok:=λ_=>True) (Blk.new wc (l.map str) 9) (by simp) hln trivial) (gZ wc (.cells (l.map str).toArray 9 (0,0)) none));clear hln;go_wp2_with fail;refine HSp.1.mono ?_;rintro e w3 ⟨rfl,rfl⟩;go_wp2_with fail;refine mR (OE HC.1.1 HP.1) λw4 g4=>?_;have H4:=S (Z (Z H2.1.2 HC.1.2) g4);clear g4;go_wp2;go_ret;exact⟨by rw[HF.1,HM.1];rfl,H4.1⟩
   ·have HM:=S (show okS op a s=FY s from by unfold okS;rcases hd with rfl|rfl<;>simp);rcases hd with rfl|rfl
    all_goals
     go_wp2_with fail;refine mR (HE.1 _ H2.1.2) λw3 g3=>?_;have H3:=S (Z H2.1.2 g3);clear g3;go_wp2;go_ret;exact⟨by rw[HF.1,HM.1];rfl,H3.1⟩
   ·have HM:=S (show okS 5 a s=Dq (s++[32,58,61,32,49]) 0 from by unfold okS;simp);have HSS:=S (show(s++[32,58,61,32,49]).length<=900000 by have:=HS.1;simp;omega);generalize hs2:s++[32,58,61,32,49]=s2 at*;have HX:=S (show Value.string (⟨s.toArray⟩++⟨#[32,58,61,32,49]⟩)=str s2 by rw[<-hs2];exact Hm s [32,58,61,32,49]);have HI:=S (X ((Blk.new wc [.int .i64 0] 3).cell' 0 rfl) (gZ wc (.cells [.int .i64 0].toArray 3 (0,0)) none));clear hs2;go_wp2_with fail;rw[HX.1];refine mR (Mf ((HW.1.gb H2.1.2).gb HI.1.2).tabs s2 HSS.1 HI.1.1) λw3 g3=>?_;have H3:=S (Z (Z H2.1.2 HI.1.2) g3);clear g3;go_wp2;go_ret;exact⟨by rw[HF.1,HM.1];rfl,H3.1⟩
   ·have HM:=S (show okS op a s=(decide (a<=3)&&Aw s)from by unfold okS;rcases hd with rfl|rfl<;>simp);cases ha:decide (a<=3)with
    | false=>
      rw[ha]at HM;rcases hd with rfl|rfl
      all_goals
       go_wp2;go_ret;exact⟨by rw[HF.1,HM.1];rfl,H2.1.2⟩
    | true=>
      rw[ha]at HM;rcases hd with rfl|rfl
      all_goals
       go_wp2_with fail;refine mR (HN.1 _) λw3 g3=>?_;have H3:=S (Z H2.1.2 g3);clear g3;go_wp2;go_ret;exact⟨by rw[HF.1,HM.1];rfl,H3.1⟩
   ·have HM:=S (show okS op a s=Aw s from by unfold okS;rcases hd with rfl|rfl<;>simp);rcases hd with rfl|rfl
    all_goals
     go_wp2_with fail;refine mR (HN.1 _) λw3 g3=>?_;have H3:=S (Z H2.1.2 g3);clear g3;go_wp2;go_ret;exact⟨by rw[HF.1,HM.1];rfl,H3.1⟩
   ·have HM:=S (show okS 16 a s=(s.isEmpty||Aw s)from by unfold okS;simp);cases ha:s.isEmpty with
    | true=>
      rw[ha]at HM;go_wp2;go_ret;exact⟨by rw[HF.1,HM.1];rfl,H2.1.2⟩
    | false=>
      rw[ha]at HM;go_wp2_with fail;refine mR (HN.1 _) λw3 g3=>?_;have H3:=S (Z H2.1.2 g3);clear g3;go_wp2;go_ret;exact⟨by rw[HF.1,HM.1];rfl,H3.1⟩
   ·have HM:=S (show okS 20 a s=Dq s 13 from by unfold okS;simp);have HI:=S (X ((Blk.new wc [.int .i64 13] 3).cell' 0 rfl) (gZ wc (.cells [.int .i64 13].toArray 3 (0,0)) none));go_wp2_with fail;refine mR (Mf ((HW.1.gb H2.1.2).gb HI.1.2).tabs s (nT HS.1 (by decide)) HI.1.1) λw3 g3=>?_;have H3:=S (Z (Z H2.1.2 HI.1.2) g3);clear g3;go_wp2;go_ret;exact⟨by rw[HF.1,HM.1];rfl,H3.1⟩
   ·have HM:=S (show okS op a s=(decide (a<=1)&&s.isEmpty)from by unfold okS;rcases hd with rfl|rfl<;>simp);cases ha:decide (a<=1)with
    | false=>
      rw[ha]at HM;rcases hd with rfl|rfl
      all_goals
       go_wp2;go_ret;exact⟨by rw[HF.1,HM.1];rfl,H2.1.2⟩
    | true=>
      rw[ha]at HM;rcases hd with rfl|rfl
      all_goals
       go_wp2;go_ret;exact⟨by rw[HF.1,HM.1];rfl,H2.1.2⟩
  ·have HM:=S (Rn (a:=a) (s:=s) hd);simp only[List.mem_cons,List.not_mem_nil,or_false,not_or,<-beq_eq_false_iff_ne]at hd;obtain⟨k0,k1,k2,k5,k6,k7,k10,k18,k16,k20,k17,k19⟩:=hd;go_wp2;go_ret;exact⟨by rw[HF.1,HM.1];rfl,H2.1.2⟩
def Gd(l:List Cd):Int:=match l with
 |c::_=>if c.op=0 then((Lib.split c.s [44]).length:Int)else 0
 | []=>0
structure OkU(u:Un):Prop where
 name:Aw u.name=true
 last:u.code.getLast? =some Ct
 row:∃x y,u.row=[x,y]/\0<=x/\x<=1/\y=Gd u.code
 code:∀i c,u.code[i]? =some c->okC c (u.code.length-1:Int)=true/\¬(c.op=0/\0<i)
def UnP(w:World)(P:Prop)(e:Ending)(w':World):Prop:=∃b:Bool,e= .returned (.bool b)/\(b=true↔P)/\w.grownBy w' none
def UnP.no(he:e= .returned (.bool false))(hp:¬P)(g:w.grownBy w' none):UnP w P e w':=⟨false,he,⟨λh=>absurd h (by decide),λh=>absurd h hp⟩,g⟩
def UnP.yes(he:e= .returned (.bool true))(hp:P)(g:w.grownBy w' none):UnP w P e w':=⟨true,he,⟨λ_=>hp,λ_=>rfl⟩,g⟩
def Y0(h:Cells w (.slice ra 2 rc) 1 2 (Bt [x,y]) ok):∃g o,ra=some ⟨g,o,none⟩/\g<w.heap.size/\w.cell? ⟨g,o,none⟩=some (.int .i64 x)/\w.cell? ⟨g,o+1,none⟩=some (.int .i64 y):=by
 obtain⟨g,o,rfl,_,hl,c0⟩:=Cells.int (l:=[x,y]) (n:=2) (j:=0) (x:=x) h rfl;obtain⟨g',o',e,_,_,c1⟩:=Cells.int (l:=[x,y]) (n:=2) (j:=1) (x:=y) h rfl;cases e;exact⟨g,o,rfl,hl,by simpa using c0,c1⟩
def Si{c0:Cd}(hw:CW w)(h1:Cells w (.slice ra 2 rc) 1 2 (Bt [x,y]) ok)(h2:Cells w (.slice ca code.length cc) 4 code.length (A9 code) ok)
 (hnm:Aw nm=true) (hn:nm.length<=4000000) (hc:∀c∈code,c.s.length<=800000) (hl:code.length<=100000000) (hm:code.length=m+1) (hcm:code[m]? =some Ct) (hc0:code[0]? =some c0):
 Calls Tryz.prog 31 #[.agg #[str nm,.slice ra 2 rc,.slice ca code.length cc]] w (UnP w (OkU ⟨nm,[x,y],code⟩)):=by
 obtain⟨g1,o1,rfl,hl1,i0,i1⟩:=Y0 h1;obtain⟨g2,o2,rfl,_,hl2,q0,q1,q2,q3⟩:=Cells.cd h2 hcm;obtain⟨g2',o2',e2,_,_,p0,p1,p2,p3⟩:=Cells.cd h2 hc0;cases e2;rw[Nat.zero_mul,Nat.add_zero]at p0 p1 p2 p3;have hlast:code.getLast? =some Ct:=by rw[List.getLast?_eq_getElem?,hm];exact hcm
 have hPar:Gd code=if c0.op=0 then((Lib.split c0.s [44]).length:Int)else 0:=by
  cases code with
  |nil=>cases hc0
  |cons a r=>cases hc0;rfl
 have hs0:c0.s.length<=800000:=hc c0 (List.mem_of_getElem? hc0);have HS:=S (X hw (X hc (X h2 (X hlast hnm))));have HC:=S (X i0 (X i1 (X q0 (X q1 (X q2 (X q3 (X p0 p3)))))));have HB:=S (X (Blk.new w [str nm,.slice (some ⟨g1,o1,none⟩) 2 rc,.slice (some ⟨g2,o2,none⟩) code.length cc] 58) (gZ w (.cells #[str nm,.slice (some ⟨g1,o1,none⟩) 2 rc,.slice (some ⟨g2,o2,none⟩) code.length cc] 58 (0,0)) none));have HN:=S (λW=>(Fa nm W hn).mono λe w' h=>(show e= .returned (.bool true)/\_ from⟨by rw[h.1,hnm],h.2⟩));have HPar:=S hPar;have hm1:(code.length:Int)-1=m:=by omega
 have hm0:((code.length:Int)==0)=false:=by rw[hm];rfl
 have hmn:(0:Int)<(code.length:Int):=by omega
 have hmL:m<code.length:=by omega
 have HMm:=S hm;clear hm h1 h2 i0 i1 q0 q1 q2 q3 p0 p1 p2 p3 hw hnm hn hc hcm hc0 hlast hPar;go_enter func31,ntmps31;go_wp2_with fail;refine mR (HN.1 _) λw1 k1=>?_;have hb1:=HB.1.1.gb k1 (by simp);have gW:=Z HB.1.2 k1;have H1:=S (X hb1 gW);have b0:=hb1.cell' 0 rfl;have b1:=hb1.cell' 1 rfl;have b2:=hb1.cell' 2 rfl;have q0:=Ad gW HC.1.2.2.1;have q1:=Ad gW HC.1.2.2.2.1;have q2:=Ad gW HC.1.2.2.2.2.1;have q3:=Ad gW HC.1.2.2.2.2.2.1;have p0:=Ad gW HC.1.2.2.2.2.2.2.1;have p3:=Ad gW HC.1.2.2.2.2.2.2.2;clear hb1 gW k1;go_upto_if 39 with fail
 go_cut [3] (λv3 wx=>v3= .int .i64 (Gd code)/\w1.grownBy wx none)
 case first=>
  by_cases hop:c0.op=0
  ·have hopI:(c0.op==0)=true:=by simp[hop]
   have HPv:=S (show Gd code=((Lib.split c0.s [44]).length:Int)by rw[HPar.1,if_pos hop]);have HSp:=S (Iz c0.s (by omega) 44 (HS.1.1.gb H1.1.2).mx);clear hop HPar;generalize Lib.split c0.s [44]=l at*;go_wp2_with fail;refine HSp.1.mono ?_;rintro e w2 ⟨rfl,rfl⟩;go_wp2;go_meet;exact⟨by rw[HPv.1],gZ _ _ _⟩
  ·have hopI:(c0.op==0)=false:=by simp[hop]
   have HPv:=S (show Gd code=0 by rw[HPar.1,if_neg hop]);clear hop HPar;go_wp2;go_meet;exact⟨by rw[HPv.1],Aa _ _⟩
 case rest=>
  obtain⟨rfl,hgx⟩:=hcut;have hb2:=H1.1.1.gb hgx (by simp);have gW2:=Z H1.1.2 hgx;have H2:=S (X hb2 gW2);have b0:=hb2.cell' 0 rfl;have b1:=hb2.cell' 1 rfl;have b2:=hb2.cell' 2 rfl;have i0:=Ad gW2 HC.1.1;have i1:=Ad gW2 HC.1.2.1;clear hb2 gW2 hgx H1 HC HPar;generalize hP:Gd code=P;have HP:=S hP;clear hP;cases hx0:decide (x<0)with
  | true=>
    have HX:=S (show ¬OkU ⟨nm,[x,y],code⟩from λh=>by obtain⟨x',y',e,h0,_⟩:=h.row;cases e;simp at hx0;omega);go_wp2;go_ret;exact UnP.no rfl HX.1 H2.1.2
  |false=>
  cases hx1:decide (1<x)with
  | true=>
    have HX:=S (show ¬OkU ⟨nm,[x,y],code⟩from λh=>by obtain⟨x',y',e,h0,h1,_⟩:=h.row;cases e;simp at hx1;omega);go_wp2;go_ret;exact UnP.no rfl HX.1 H2.1.2
  |false=>
  by_cases hy:y=P
  ·have hyI:(y !=P)=false:=by simp[hy]
   have HR:=S (show ∃x' y',[x,y]=[x',y']/\0<=x'/\x'<=1/\y'=Gd code from⟨x,y,rfl,by simp at hx0;omega,by simp at hx1;omega,by rw[hy,HP.1]⟩);clear hy;go_wp2_with fail;go_loopg [4,5,70] code.length (λg v4 v5 v70 wr=>∃k:Nat,k+g=code.length/\v70= .int .i64 k/\Blk wr w.heap.size [str nm,.slice (some ⟨g1,o1,none⟩) 2 rc,.slice (some ⟨g2,o2,none⟩) code.length cc] 58/\(∀i c,i<k->code[i]? =some c->okC c (code.length-1:Int)=true/\¬(c.op=0/\0<i))/\w.grownBy wr none)
   case atStart=>exact⟨0,by omega,rfl,H2.1.1,λi c h=>absurd h (Nat.not_lt_zero i),H2.1.2⟩
   case round=>
    obtain⟨k,hk,rfl,hb,hno,hg⟩:=hrel;clear H2 b0 b1 b2 i0 i1;by_cases hkl:k<code.length
    ·have hj1:decide (k<code.length)=true:=by simpa using hkl
     obtain⟨c,hc⟩:∃c,code[k]? =some c:=⟨_,AQ hkl⟩;obtain⟨_,_,e9,_,_,q0,q1,q2,q3⟩:=Cells.cd HS.1.2.2.1 hc;cases e9;replace q0:=Ad hg q0;replace q1:=Ad hg q1;replace q2:=Ad hg q2;replace q3:=Ad hg q3;have b2:=hb.cell' 2 rfl;have bl:=hb.lt;have gA:=gZ wr (.cells (cdC c).toArray 61 (0,0)) none;have HX:=S (X (hb.gb gA (by simp)) (X (Z hg gA) (X (Blk.new wr (cdC c) 61) (X hc hno))));have HI:=S (Sa (HS.1.1.gb (Z hg gA)) c (HS.1.2.1 c (List.mem_of_getElem? hc)) m);have hkn:(0:Int)<=(k:Int):=by omega
     clear hb hg gA hc hno;go_wp2_with fail;refine mR HI.1 λw3 k3=>?_;have hx:=HX.1.2.2.1.gb k3 (by simp);have H3:=S (X (HX.1.1.gb k3 (by simp)) (Z HX.1.2.1 k3));have e0:=hx.cell' 0 rfl;have e1:=hx.cell' 1 rfl;have e2:=hx.cell' 2 rfl;have e3:=hx.cell' 3 rfl;have HN2:=S (fun(h:OkU ⟨nm,[x,y],code⟩)=>h.code k c HX.1.2.2.2.1);clear hx k3 q0 q1 q2 q3 b2 HI;cases hok:okC c m with
     | false=>
       have HF:=S (show ¬OkU ⟨nm,[x,y],code⟩from λh=>by
        have h9:=(HN2.1 h).1;have e9:((⟨nm,[x,y],code⟩:Un).code.length-1:Int)=m:=hm1;rw[e9,hok]at h9;cases h9)
       go_wp2;go_ret;exact UnP.no rfl HF.1 H3.1.2
     | true=>
       by_cases hop:c.op=0
       ·have hopI:(c.op==0)=true:=by simp[hop]
        by_cases hk0:0<k
        ·have hkI:decide (0<k)=true:=by simpa using hk0
         have HF:=S (show ¬OkU ⟨nm,[x,y],code⟩from λh=>(HN2.1 h).2 ⟨hop,hk0⟩);clear hop;go_wp2;go_ret;exact UnP.no rfl HF.1 H3.1.2
        ·have hkI:decide (0<k)=false:=by simpa using hk0
         have HF:=S (show okC c (code.length-1:Int)=true/\¬(c.op=0/\0<k)from⟨by rw[hm1,hok],λh=>hk0 h.2⟩);clear hop;go_wp2;go_roundg (code.length-(k+1))
         case measure=>omega
         case rel=>exact⟨k+1,by omega,by go_num,H3.1.1,λi d hi hd=>by
          by_cases e:i=k
          ·subst e;rw[HX.1.2.2.2.1]at hd;cases hd;exact HF.1
          ·exact HX.1.2.2.2.2 i d (by omega) hd,H3.1.2⟩
       ·have hopI:(c.op==0)=false:=by simp[hop]
        have HF:=S (show okC c (code.length-1:Int)=true/\¬(c.op=0/\0<k)from⟨by rw[hm1,hok],λh=>hop h.1⟩);clear hop;go_wp2;go_roundg (code.length-(k+1))
        case measure=>omega
        case rel=>exact⟨k+1,by omega,by go_num,H3.1.1,λi d hi hd=>by
         by_cases e:i=k
         ·subst e;rw[HX.1.2.2.2.1]at hd;cases hd;exact HF.1
         ·exact HX.1.2.2.2.2 i d (by omega) hd,H3.1.2⟩
    ·have hj1:decide (k<code.length)=false:=by simpa using hkl
     have HF:=S (show OkU ⟨nm,[x,y],code⟩from⟨HS.1.2.2.2.2,HS.1.2.2.2.1,HR.1,λi c hc=>by
      have hi:i<code.length:=by
       rcases Nat.lt_or_ge i code.length with h9|h9
       ·exact h9
       ·rw[show code[i]? =none from List.getElem?_eq_none h9]at hc;cases hc
      exact hno i c (by omega) hc⟩)
     have HG:=S hg;clear hb hno hg;go_wp2;go_ret;exact UnP.yes rfl HF.1 HG.1
  ·have hyI:(y !=P)=true:=by simp[hy]
   have HX:=S (show ¬OkU ⟨nm,[x,y],code⟩from λh=>by obtain⟨x',y',e,_,_,h2⟩:=h.row;cases e;exact hy (h2.trans HP.1));clear hy;go_wp2;go_ret;exact UnP.no rfl HX.1 H2.1.2
def Q8{a b:Int}(h2:Cells w (.slice ca code.length cc) 4 code.length (A9 code) ok)
 (hnm:Aw nm=true) (hn:nm.length<=4000000) (hl:code.length<=100000000) (hm:code.length=m+1) (hcm:code[m]? =some ⟨op,a,b,s⟩) (hr:(⟨op,a,b,s⟩:Cd)≠Ct) (hP:¬P):
 Calls Tryz.prog 31 #[.agg #[str nm,.slice ra 2 rc,.slice ca code.length cc]] w (UnP w P):=by
 obtain⟨g2,o2,rfl,_,hl2,q0,q1,q2,q3⟩:=Cells.cd h2 hcm;have HC:=S (X q0 (X q1 (X q2 q3)));have HB:=S (X (Blk.new w [str nm,.slice ra 2 rc,.slice (some ⟨g2,o2,none⟩) code.length cc] 58) (gZ w (.cells #[str nm,.slice ra 2 rc,.slice (some ⟨g2,o2,none⟩) code.length cc] 58 (0,0)) none));have HN:=S (λW=>(Fa nm W hn).mono λe w' h=>(show e= .returned (.bool true)/\_ from⟨by rw[h.1,hnm],h.2⟩));have HP:=S hP;have hm1:(code.length:Int)-1=m:=by omega
 have hm0:((code.length:Int)==0)=false:=by rw[hm];rfl
 have hmn:(0:Int)<(code.length:Int):=by omega
 have hmL:m<code.length:=by omega
 have HR:=S (show ¬(op=17/\a=0/\b=0/\s=[])from fun⟨e1,e2,e3,e4⟩=>hr (by rw[e1,e2,e3,e4]));clear h2 q0 q1 q2 q3 hnm hn hcm hm hP hr;go_enter func31,ntmps31;go_wp2_with fail;refine mR (HN.1 _) λw1 k1=>?_;have hb1:=HB.1.1.gb k1 (by simp);have gW:=Z HB.1.2 k1;have H1:=S gW;have b0:=hb1.cell' 0 rfl;have b1:=hb1.cell' 1 rfl;have b2:=hb1.cell' 2 rfl;have q0:=Ad gW HC.1.1;have q1:=Ad gW HC.1.2.1;have q2:=Ad gW HC.1.2.2.1;have q3:=Ad gW HC.1.2.2.2;clear hb1 gW k1;go_wp2_with fail;all_goals first|exact absurd ⟨by assumption,by assumption,by assumption,by assumption⟩ HR.1| (go_ret;exact UnP.no rfl HP.1 H1.1)|trace_state
def Sh(hw:CW w)(h1:Cells w (.slice ra u.row.length rc) 1 u.row.length (Bt u.row) ok)(h2:Cells w (.slice ca u.code.length cc) 4 u.code.length (A9 u.code) ok)
 (hn:u.name.length<=4000000) (hc:∀c∈u.code,c.s.length<=800000) (hl:u.code.length<=100000000) (hr:u.row.length<=100000000):
 Calls Tryz.prog 31 #[.agg #[str u.name,.slice ra u.row.length rc,.slice ca u.code.length cc]] w (UnP w (OkU u)):=by
 obtain⟨nm,row,code⟩:=u;replace h1:Cells w (.slice ra row.length rc) 1 row.length (Bt row) ok:=h1;replace h2:Cells w (.slice ca code.length cc) 4 code.length (A9 code) ok:=h2;replace hc:∀c∈code,c.s.length<=800000:=hc;replace hl:code.length<=100000000:=hl;show Calls Tryz.prog 31 #[.agg #[str nm,.slice ra row.length rc,.slice ca code.length cc]] w (UnP w (OkU ⟨nm,row,code⟩));have hb:=Blk.new w [str nm,.slice ra row.length rc,.slice ca code.length cc] 58;have gA:=gZ w (.cells #[str nm,.slice ra row.length rc,.slice ca code.length cc] 58 (0,0)) none;have HB:=S (X hb gA);have HW:=S hw;have HN:=S (λW=>Fa nm W hn);clear hb gA hw;cases hnm:Aw nm with
 | false=>
   have HX:=S (show ¬OkU ⟨nm,row,code⟩from λh=>by have:=h.name;rw[show Aw nm=true from this]at hnm;cases hnm);go_enter func31,ntmps31;go_wp2_with fail;refine mR (HN.1 _) λw1 g1=>?_;rw[hnm];have H1:=S (Z HB.1.2 g1);clear g1 hnm;go_wp2;go_ret;exact UnP.no rfl HX.1 H1.1
 |true=>
 by_cases hr2:row.length=2
 ·by_cases hcd0:code.length=0
  ·have hc0:=List.length_eq_zero_iff.1 hcd0;subst hc0;have HX:=S (show ¬OkU ⟨nm,row,[]⟩from λh=>by have:=h.last;cases this);have e0:([]:List Cd).length=0:=rfl;rw[e0,hr2]at HB ⊢;go_enter func31,ntmps31;go_wp2_with fail;refine mR (HN.1 _) λw1 g1=>?_;rw[hnm];have H1:=S (Z HB.1.2 g1);have hb1:=HB.1.1.gb g1 (by simp);have b0:=hb1.cell' 0 rfl;have b1:=hb1.cell' 1 rfl;have b2:=hb1.cell' 2 rfl;clear g1 hnm hb1;go_wp2;go_ret;exact UnP.no rfl HX.1 H1.1
  ·obtain⟨m,hcd⟩:∃m,code.length=m+1:=⟨code.length-1,by omega⟩;have hm1:m<code.length:=by omega
   obtain⟨c,hcm⟩:∃c,code[m]? =some c:=⟨_,AQ hm1⟩;obtain⟨c0,hc0⟩:∃c0,code[0]? =some c0:=⟨_,AQ (by omega)⟩;obtain⟨g2,o2,rfl,_,hl2,q0,q1,q2,q3⟩:=Cells.cd h2 hcm;obtain⟨g2',o2',e2,_,_,p0,p1,p2,p3⟩:=Cells.cd h2 hc0;cases e2;rw[Nat.zero_mul,Nat.add_zero]at p0 p1 p2 p3;have hlast:code.getLast? =some c:=by rw[List.getLast?_eq_getElem?,hcd];exact hcm
   have HC:=S (X q0 (X q1 (X q2 (X q3 (X p0 (X p3 hl2))))));clear q0 q1 q2 q3 p0 p1 p2 p3;by_cases hcr:c=Ct
   ·subst hcr;obtain⟨x,y,rfl⟩:∃x y,row=[x,y]:=by
     match row,hr2 with
     | [x,y],_=>exact⟨x,y,rfl⟩
    have e2:([x,y]:List Int).length=2:=rfl;rw[e2]at h1 ⊢;with_reducible exact Si HW.1 h1 h2 hnm hn hc hl hcd hcm hc0
   ·have HX:=S (show ¬OkU ⟨nm,row,code⟩from λh=>by have h3:code.getLast? =some Ct:=h.last;rw[hlast]at h3;exact hcr (Option.some.inj h3));obtain⟨op,a,b,s⟩:=c;rw[hr2];exact Q8 h2 hnm hn hl hcd hcm hcr HX.1
 ·have HX:=S (show ¬OkU ⟨nm,row,code⟩from λh=>by obtain⟨x,y,e,_⟩:=h.row;rw[show row=[x,y]from e]at hr2;exact hr2 rfl);have hr3:((row.length:Int) !=2)=true:=by simp;omega
  have hr4:((row.length:Int)==2)=false:=by simp;omega
  go_enter func31,ntmps31;go_wp2_with fail;refine mR (HN.1 _) λw1 g1=>?_;rw[hnm];have H1:=S (Z HB.1.2 g1);have hb1:=HB.1.1.gb g1 (by simp);have b0:=hb1.cell' 0 rfl;have b1:=hb1.cell' 1 rfl;have b2:=hb1.cell' 2 rfl;clear g1 hnm hb1;go_wp2;go_ret;exact UnP.no rfl HX.1 H1.1
def Po(hw:CW w)(h1:Cells w (.slice ra u.row.length rc) 1 u.row.length (Bt u.row) ok)(h2:Cells w (.slice ca u.code.length cc) 4 u.code.length (A9 u.code) ok)
 (hn:u.name.length<=4000000) (hc:∀c∈u.code,c.s.length<=800000) (hl:u.code.length<=100000000) (hr:u.row.length<=100000000):
 Calls Tryz.prog 30 #[.agg #[str u.name,.slice ra u.row.length rc,.slice ca u.code.length cc]] w (UnP w (¬OkU u)):=by
 have gA:=gZ w (.cells #[str u.name,.slice ra u.row.length rc,.slice ca u.code.length cc] 58 (0,0)) none;have HH:=S (X (Sh (hw.gb gA) (h1.gb gA (by simp)) (h2.gb gA (by simp)) hn hc hl hr) gA);clear h1 h2 gA hw hn hc hl hr;go_enter func30,ntmps30;go_wp2_with fail;refine HH.1.1.mono ?_;rintro e w1 ⟨b,rfl,hb,g1⟩;have HG:=S (X hb (Z HH.1.2 g1));clear g1 hb;go_wp2;go_ret;exact⟨!b,rfl,by cases b<;>simp[<-HG.1.1],HG.1.2⟩
structure Sm(u:Un):Prop where
 name:u.name.length<=4000000
 text:∀c∈u.code,c.s.length<=800000
 code:u.code.length<=100000000
 row:u.row.length<=100000000
def IdxP(w:World)(P:Prop)(e:Ending)(w':World):Prop:=∃i:Int,e= .returned (.int .i64 i)/\(0<=i↔P)/\w.grownBy w' none
def OS(hw:CW w)(h:VU ok w v us)(hs:∀u∈us,Sm u):
 Calls Tryz.prog 53 #[v,.func (.func 30) #[] #[]] w (IdxP w (∃u∈us,¬OkU u)):=by
 obtain⟨a,cap,rfl,_,hmx,hat⟩:=h.open;have hlen:us.length<=9223372036854775807:=by unfold maxLen at hmx;omega
 have HA:=S (X hat (X hs hw));clear h hmx hat hs hw;go_enter func53,ntmps53;go_wp2_with fail;go_loopg [5,8] us.length (λg v5 v8 wr=>∃k:Nat,k+g=us.length/\v8= .int .i64 k/\(∀i u,i<k->us[i]? =some u->OkU u)/\w.grownBy wr none)
 case atStart=>exact⟨0,by omega,rfl,λi u h=>absurd h (Nat.not_lt_zero i),Aa _ _⟩
 case round=>
  obtain⟨k,hk,rfl,hno,hg⟩:=hrel;have HX:=S (X hno hg);clear hno;cases gk with
  | zero=>
    have hkl:k=us.length:=by omega
    have hj1:decide (k<us.length)=false:=by simp;omega
    subst hkl;clear hg;go_wp2;go_ret;exact⟨-1,rfl,⟨λh=>absurd h (by decide),fun⟨u,hu,hn⟩=>by
     obtain⟨i,hi,e⟩:=List.getElem_of_mem hu;exact absurd (HX.1.1 i u hi (by rw[List.getElem?_eq_getElem hi,e])) hn⟩,HX.1.2⟩
  | succ gk=>
    have hkl:k<us.length:=by omega
    have hj1:decide (k<us.length)=true:=by simp;omega
    obtain⟨u,hu⟩:∃u,us[k]? =some u:=⟨_,AQ hkl⟩;obtain⟨g,o,ra,rc,ca,cc,rfl,_,hgl,c0,c1,c2,h1,h2⟩:=HA.1.1 k u hu;have d0:=Ad hg c0;have d1:=Ad hg c1;have d2:=Ad hg c2;have hsm:=HA.1.2.1 u (List.mem_of_getElem? hu);have HK:=S (Po (HA.1.2.2.gb hg) (h1.gb hg (by simp)) (h2.gb hg (by simp)) hsm.name hsm.text hsm.code hsm.row);have HU:=S (X hu (List.mem_of_getElem? hu));clear hg c0 c1 c2 h1 h2 hsm hu;go_wp2_with fail;refine HK.1.mono ?_;rintro e w2 ⟨b,rfl,hb,g2⟩;have H2:=S (X hb (Z HX.1.2 g2));clear g2 hb;cases b with
    | true=>
      go_wp2;go_ret;exact⟨k,rfl,⟨λ_=>⟨u,HU.1.2,H2.1.1.1 (by first|rfl|trivial)⟩,λ_=>by omega⟩,H2.1.2⟩
    | false=>
      go_wp2;go_roundg gk
      case measure=>omega
      case rel=>exact⟨k+1,by omega,by go_num,λi v hi hv=>by
       by_cases e:i=k
       ·subst e;rw[HU.1.1]at hv;cases hv;exact Classical.byContradiction λhn=>absurd (H2.1.1.2 hn) (by decide)
       ·exact HX.1.1 i v (by omega) hv,H2.1.2⟩
def OC(hw:CW w)(h:VU ok w v us)(hs:∀u∈us,Sm u):
 Calls Tryz.prog 29 #[v,.func (.func 30) #[] #[]] w (UnP w (∃u∈us,¬OkU u)):=by
 have HI:=S (OS hw h hs);clear h hw hs;go_enter func29,ntmps29;go_wp2_with fail;refine HI.1.mono ?_;rintro e w1 ⟨i,rfl,hi,g1⟩;have HG:=S (X hi g1);clear hi g1;go_wp2;go_ret;exact⟨_,rfl,by rw[<-HG.1.1];simp,HG.1.2⟩
open Go.Maps Go.WideMaps Go.ChangeMaps Go.MapKept
def B9(u:Un):Bool:=decide (4000<u.name.length)||(decide (2048<u.row.length)||Gl u)
def Cu(us:List Un):Bool:=decide (3000<us.length)||(decide (3000<szU us)||us.any B9)
def Jk(us:List Un):Bool:=match us with
 |u::_=>(u.name==mainB)&&decide (u.row=[0,0])
 | []=>false
def Eo(us:List Un)(k:Nat):List Bs:=(us.take k).map (·.name)
def Fl(us:List Un):Nat->Bool
 | 0=>Jk us
 |k+1=>Fl us k&&!(Eo us k).contains (match us[k]? with|some u=>u.name|none=>[])
def PT(h:us[k]? =some u):Fl us (k+1)=(Fl us k&&!(Eo us k).contains u.name):=by rw[Fl,h]
def Qi(h:us[k]? =some u):Eo us (k+1)=Eo us k++[u.name]:=by
 unfold Eo;rw[List.take_add_one,h,List.map_append];rfl
def Je(us:List Un):Prop:=Fl us us.length=true/\¬∃u∈us,¬OkU u
noncomputable def vmM(us:List Un):Int:=if Cu us=true then 3 else @ite _ (Je us) (Classical.propDecidable _) 0 1
def Gf(h:Cu us=true):vmM us=3:=if_pos h
def K7(h:Cu us=false)(k:Je us):vmM us=0:=by unfold vmM;rw[if_neg (by rw[h];decide),if_pos k]
def K8(h:Cu us=false)(k:¬Je us):vmM us=1:=by unfold vmM;rw[if_neg (by rw[h];decide),if_neg k]
def G3(h:us[k]? =some u)(hb:B9 u=true):Cu us=true:=by
 have:us.any B9=true:=List.any_eq_true.2 ⟨u,List.mem_of_getElem? h,hb⟩;unfold Cu;rw[this];simp
def Wr(h1:us.length<=3000)(h2:szU us<=3000)(h:∀i u,i<us.length->us[i]? =some u->B9 u=false):Cu us=false/\∀u∈us,Sm u:=by
 have ha:∀u∈us,B9 u=false:=by
  intro u hu;obtain⟨i,hi,e⟩:=List.getElem_of_mem hu;exact h i u hi (by rw[List.getElem?_eq_getElem hi,e])
 refine⟨?_,λu hu=>?_⟩
 ·have : us.any B9 = false := by
   rw[Bool.eq_false_iff];intro hx;obtain⟨u,hu,hb⟩:=List.any_eq_true.1 hx;rw[ha u hu]at hb;cases hb
  unfold Cu;rw[this];simp;omega
 ·have hb:=ha u hu;unfold B9 at hb;simp only[Bool.or_eq_false_iff,decide_eq_false_iff_not,Nat.not_lt]at hb;obtain⟨b1,b2,b3⟩:=hb;have hsz:u.code.length<=szU us:=by
   obtain⟨i,hi,e⟩:=List.getElem_of_mem hu;have h3:=C5 (f:=λu:Un=>u.code.length) (show us[i]? =some u by rw[List.getElem?_eq_getElem hi,e]);have h4:=CT (λu:Un=>u.code.length) us (show i+1<=us.length from hi);unfold szU;omega
  refine⟨by omega,λc hc=>?_,by omega,by omega⟩;have hl:DJ c=false:=by
   rw[Bool.eq_false_iff];intro hx;have:Gl u=true:=List.any_eq_true.2 ⟨c,hc,hx⟩;rw[b3]at this;cases this
  unfold DJ at hl;simp at hl;omega
def Y6{c:Cd}(hb:AF us<=100000000)(hu:u∈us)(hc:c∈u.code):c.s.length<=1000000000:=by
 obtain⟨i,hi,e⟩:=List.getElem_of_mem hu;have h1:=C5 (f:=wtU) (show us[i]? =some u by rw[List.getElem?_eq_getElem hi,e]);have h2:=CT wtU us (show i+1<=us.length from hi);obtain⟨j,hj,e2⟩:=List.getElem_of_mem hc;have h3:=C5 (f:=wtC) (show u.code[j]? =some c by rw[List.getElem?_eq_getElem hj,e2]);have h4:=CT wtC u.code (show j+1<=u.code.length from hj);have h5:wtC c=3+c.s.length:=rfl;have h6:wtU u=u.name.length+u.row.length+pfx wtC u.code u.code.length:=rfl;unfold AF at hb;omega
def Lj(us:List Un):szU us<=AF us:=by
 have h1:∀u:Un,u.code.length<=1*wtU u:=by
  intro u;have h4:=La (λ_:Cd=>1) wtC 1 (λc=>by unfold wtC;omega) u.code u.code.length;have h5:=YQ u.code u.code.length (nR _);have h6:wtU u=u.name.length+u.row.length+pfx wtC u.code u.code.length:=rfl;omega
 have h2:=La (λu:Un=>u.code.length) wtU 1 h1 us us.length;unfold szU AF;omega
abbrev OwnM(W:World)(B k:Nat)(us:List Un):Prop:=W.ownsMap Tryz.prog 9 (plainElem (H:=Unit) Tryz.prog 4) B k (Ed (Eo us k))
def GP(hw:CW w)(h:VU ok w v us)(hb:AF us<=100000000):
 Calls Tryz.prog 9 #[v] w (ρ w (.int .i64 (vmM us))):=by
 have hmm:=@run_makeMap Tryz.prog;obtain⟨a,cap,rfl,_,hmx,hat⟩:=h.open;have hlen:us.length<=100000000:=by unfold AF at hb;omega
 have hsz:szU us<=100000000:=nT (Lj us) hb;have HA:=S (X hat (X h (X hw hb)));clear h hmx hat hw hb;by_cases hL:3000<us.length
 ·have hj:decide (3000<us.length)=true:=by simpa using hL
  have HM:=S (Gf (show Cu us=true by unfold Cu;rw[hj];rfl));go_enter func9,ntmps9;go_wp2;go_ret;exact⟨by rw[HM.1];rfl,Aa _ _⟩
 have hj:decide (3000<us.length)=false:=by simpa using hL
 have HSz:=S (NI HA.1.2.1 hsz);by_cases hS:3000<szU us
 ·have hj2:decide (3000<szU us)=true:=by simpa using hS
  have HM:=S (Gf (show Cu us=true by unfold Cu;rw[hj2];simp));go_enter func9,ntmps9;go_wp2_with fail;refine mR HSz.1 λw1 g1=>?_;go_wp2;go_ret;exact⟨by rw[HM.1];rfl,g1⟩
 have hj2:decide (3000<szU us)=false:=by simpa using hS
 go_enter func9,ntmps9;go_wp2_with fail;refine mR HSz.1 λw1 g1=>?_;have H1:=S g1;clear g1 HSz;go_upto_region 4 with fail;have HM0:=S (World.ownsMap_made (H:=Unit) w1 Tryz.prog 9 (plainElem Tryz.prog 4));have HG0:=S (gZ w1 (.map #[] 0) none);go_cut [4] (λv4 wx=>v4= .bool (Jk us)/\OwnM wx w1.heap.size 0 us/\w1.grownBy wx none)
 case first=>
  by_cases h0:us.length=0
  ·have hj0:decide (0<us.length)=false:=by rw[h0];rfl
   have HX:=S (show Jk us=false by rw[List.length_eq_zero_iff.1 h0];rfl);clear h0;go_wp2;go_meet;exact⟨by rw[HX.1],HM0.1,HG0.1⟩
  ·have hj0:decide (0<us.length)=true:=by simp;omega
   have hz0:0<us.length:=by omega
   obtain⟨u,hu⟩:∃u,us[0]? =some u:=⟨_,AQ hz0⟩;have HX:=S (show Jk us=((u.name==mainB)&&decide (u.row=[0,0]))by
    cases us with
    |nil=>cases hu
    |cons x r=>cases hu;rfl)
   obtain⟨g,o,ra,rc,ca,cc,rfl,_,hgl,c0,c1,c2,hr,_⟩:=HA.1.1 0 u hu;rw[Nat.zero_mul,Nat.add_zero]at c0 c1 c2;have gW:=Z H1.1 HG0.1;have d0:=Ad gW c0;have d1:=Ad gW c1;have HR:=S (hr.gb gW (by simp));have hgl1:g<w1.heap.size:=Nat.lt_of_lt_of_le hgl H1.1.size;clear h0 hu c0 c1 c2 hr gW;cases hmn:(u.name==mainB)with
   | false=>
     rw[hmn]at HX;go_wp2;go_meet;exact⟨by rw[HX.1];rfl,HM0.1,HG0.1⟩
   | true=>
     rw[hmn]at HX;have gI:=gZ (w1.alloc (.map #[] 0)) (.cells [.int .i64 0,.int .i64 0].toArray 3 (0,0)) none;have HE:=S (RW (l:=u.row) (m:=[0,0]) (HR.1.gb gI (by simp)) (JE (n:=2) (k:=1) (ok:=λ_=>True) ((Blk.new (w1.alloc (.map #[] 0)) [.int .i64 0,.int .i64 0] 3).of_eq (k':=w1.heap.size+1) (by simp) rfl) rfl (by decide) trivial));have HG1:=S (X (HM0.1.kept gI (by simp)) (Z HG0.1 gI));clear gI;go_wp2_with fail;refine mR HE.1 λw2 g2=>?_;have HG2:=S (X (HG1.1.1.kept g2 (by simp)) (Z HG1.1.2 g2));clear g2;go_wp2;go_meet;exact⟨by rw[HX.1];rfl,HG2.1.1,HG2.1.2⟩
 case rest=>
  obtain⟨rfl,hM,hgx⟩:=hcut;have HX:=S (X hM (Z H1.1 hgx));clear hM hgx HM0 HG0;go_wp2_with fail;go_loopg [4,6,36] us.length (λg v4 v6 v36 wr=>∃k:Nat,k+g=us.length/\v36= .int .i64 k/\v4= .bool (Fl us k)/\(∀i u,i<k->us[i]? =some u->B9 u=false)/\OwnM wr w1.heap.size k us/\w.grownBy wr none)
  case atStart=>exact⟨0,by omega,rfl,rfl,λi u h=>absurd h (Nat.not_lt_zero i),HX.1.1,HX.1.2⟩
  case round=>
   obtain⟨k,hk,rfl,rfl,hno,hM,hg⟩:=hrel;clear HX;by_cases hkl:k<us.length
   ·have hj1:decide (k<us.length)=true:=by simpa using hkl
    obtain⟨u,hu⟩:∃u,us[k]? =some u:=⟨_,AQ hkl⟩;obtain⟨g,o,ra,rc,ca,cc,rfl,_,hgl,c0,c1,c2,_,hcode⟩:=HA.1.1 k u hu;have d0:=Ad hg c0;have d1:=Ad hg c1;have d2:=Ad hg c2;have gA:=gZ wr (.cells #[str u.name,.slice ra u.row.length rc,.slice ca u.code.length cc] 58 (0,0)) none;have HB:=S (X (Blk.new wr [str u.name,.slice ra u.row.length rc,.slice ca u.code.length cc] 58) (X (hM.kept gA (by simp)) (Z hg gA)));have HL:=S (Qy (ra:=ra) (rc:=rc) (rn:=u.row.length) (cn:=u.code.length) (hcode.gb HB.1.2.2 (by simp)) (λc hc=>Y6 HA.1.2.2.2 (List.mem_of_getElem? hu) hc));have HU:=S (X hu hno);clear c0 c1 c2 hM hg gA hcode hu hno;cases h1:decide (4000<u.name.length)with
    | true=>
      have HV:=S (Gf (G3 HU.1.1 (show B9 u=true by unfold B9;rw[h1];rfl)));have h1I:decide ((4000:Int)<(u.name.length:Int))=true:=by simp at h1 ⊢;omega
      go_wp2;go_ret;exact⟨by rw[HV.1];rfl,HB.1.2.2⟩
    |false=>
    cases h2:decide (2048<u.row.length)with
    | true=>
      have HV:=S (Gf (G3 HU.1.1 (show B9 u=true by unfold B9;rw[h2];simp)));have h1I:decide ((4000:Int)<(u.name.length:Int))=false:=by simp at h1 ⊢;omega
      have h2I:decide ((2048:Int)<(u.row.length:Int))=true:=by simp at h2 ⊢;omega
      go_wp2;go_ret;exact⟨by rw[HV.1];rfl,HB.1.2.2⟩
    |false=>
    have HU2:=S (show B9 u=Gl u by unfold B9;rw[h1,h2];rfl);have h1I:decide ((4000:Int)<(u.name.length:Int))=false:=by simp at h1 ⊢;omega
    have h2I:decide ((2048:Int)<(u.row.length:Int))=false:=by simp at h2 ⊢;omega
    go_wp2_with fail;refine mR HL.1 λw3 g3=>?_;have hb:=HB.1.1.gb g3 (by simp);have H3:=S (X (HB.1.2.1.kept g3 (by simp)) (Z HB.1.2.2 g3));have z0:=hb.cell' 0 rfl;clear hb g3 HL HB;cases hlo:Gl u with
    | true=>
      have HV:=S (Gf (G3 HU.1.1 (HU2.1.trans hlo)));go_wp2;go_ret;exact⟨by rw[HV.1];rfl,H3.1.2⟩
    | false=>
      have HNo:=S (show ∀i v,i<k+1->us[i]? =some v->B9 v=false from λi v hi hv=>by
       by_cases e:i=k
       ·subst e;rw[HU.1.1]at hv;cases hv;exact HU2.1.trans hlo
       ·exact HU.1.2 i v (by omega) hv)
      have hnl:u.name.length<=maxLen:=by simp at h1;unfold maxLen;omega
      have hlk:=MH hnl H3.1.1;have HK:=S (show keyOf Tryz.prog 9 (str u.name)=some (.string u.name)from keyOf_string_mk (s:=⟨u.name.toArray⟩) underlying9 hnl);have HSt:=S (X (PT HU.1.1) (Qi HU.1.1));generalize hcn:(Eo us k).contains u.name=cn at*;cases hrt:Fl us k with
      | true=>
        rw[hrt]at HSt;cases cn
        case' true=>
         skip
        case' false=>
         skip
        all_goals
         go_wp2_with (at_mapUpdate;refine wpList_mapUpdate_own _ rfl _ _ _ 62 rfl 9 4 Ih underlying62 (plainElem (H:=Unit) Tryz.prog 4) w1.heap.size k _ rfl H3.1.1 (by unfold maxLen;omega) _ _ _ rfl rfl HK.1 _ [] (plainElem_bool underlying4 true) ?_;intro w5 hown5 hgrow5;(have HW:=S (X hown5 (Ap H3.1.2 hgrow5 (.inr H1.1.size))));clear hown5 hgrow5);go_roundg (us.length-(k+1))
         case measure=>omega
         case rel=>exact⟨k+1,by omega,by go_num,by rw[HSt.1.1];rfl,HNo.1,by show World.ownsMap _ _ _ _ _ _ (Ed (Eo us (k+1)));rw[HSt.1.2,Iy];exact HW.1.1,HW.1.2⟩
      | false=>
        rw[hrt]at HSt;go_wp2_with (at_mapUpdate;refine wpList_mapUpdate_own _ rfl _ _ _ 62 rfl 9 4 Ih underlying62 (plainElem (H:=Unit) Tryz.prog 4) w1.heap.size k _ rfl H3.1.1 (by unfold maxLen;omega) _ _ _ rfl rfl HK.1 _ [] (plainElem_bool underlying4 true) ?_;intro w5 hown5 hgrow5;(have HW:=S (X hown5 (Ap H3.1.2 hgrow5 (.inr H1.1.size))));clear hown5 hgrow5);go_roundg (us.length-(k+1))
        case measure=>omega
        case rel=>exact⟨k+1,by omega,by go_num,by rw[HSt.1.1];rfl,HNo.1,by show World.ownsMap _ _ _ _ _ _ (Ed (Eo us (k+1)));rw[HSt.1.2,Iy];exact HW.1.1,HW.1.2⟩
   ·have hj1:decide (k<us.length)=false:=by simpa using hkl
    have hke:k=us.length:=by omega
    have hL3:us.length<=3000:=by omega
    have hS3:szU us<=3000:=by omega
    have HBg:=S (Wr hL3 hS3 (λi u hi hu=>hno i u (by omega) hu));have HG:=S hg;have HC:=S (OC (HA.1.2.2.1.gb hg) (HA.1.2.1.gb hg (by simp)) HBg.1.2);rw[hke]at*;clear hno hM hg hke;cases hrt:Fl us us.length with
    | false=>
      have HV:=S (K8 HBg.1.1 (λh=>by have:=h.1;rw[hrt]at this;cases this));go_wp2;go_ret;exact⟨by rw[HV.1];rfl,HG.1⟩
    | true=>
      go_wp2_with fail;refine HC.1.mono ?_;rintro e w4 ⟨b,rfl,hb,g4⟩;have H4:=S (X hb (Z HG.1 g4));clear hb g4;cases b with
      | true=>
        have HV:=S (K8 HBg.1.1 (λh=>h.2 (H4.1.1.1 (by first|rfl|trivial))));go_wp2;go_ret;exact⟨by rw[HV.1];rfl,H4.1.2⟩
      | false=>
        have HV:=S (K7 HBg.1.1 ⟨hrt,λh=>absurd (H4.1.1.2 h) (by decide)⟩);go_wp2;go_ret;exact⟨by rw[HV.1];rfl,H4.1.2⟩
abbrev ctM(us:List Un):Bs:=BA us (csM (AP us))
def Ld(s:Bs):Bb (csM s):=by
 have h:=IY s s.length;unfold csM Bb;omega
def CtP(w:World)(us:List Un)(e:Ending)(w':World):Prop:=w.grownBy w' none/\(vmM us≠0->e= .returned (.tuple #[str [],.int .i64 (vmM us)]))/\(vmM us=0->200000<(ctM us).length->e= .returned (.tuple #[str [],.int .i64 3]))/\
 (vmM us=0->(ctM us).length<=200000->e= .returned (.tuple #[str (ctM us),.int .i64 0]))
def Zm(L:Bs)(n:Int):(L++B7 n).length=L.length+(4+(Lib.itoa n).length+1):=by simp[B7];omega
def L6(hw:CW w)(h:VU ok w v us)(hb:AF us<=100000000)(hwd:AN us):
 Calls Tryz.prog 11 #[v] w (CtP w us):=by
 have HV:=S (GP hw h hb);obtain⟨a,cap,rfl,_⟩:=h.open;have HL:=S (fun(W:World)(g:w.grownBy W none)=>MF (h.gb g (by simp)) hb hwd (hw.pow.gb g));have HP:=S hw;have hll:(AP us).length<=3000000000:=by
  have:=Ip hwd us.length (nR _);have h2:(AP us).length=(A4 AZ us us.length).length:=rfl;omega
 clear h hb hwd hw;by_cases hz:vmM us=0
 ·have HZ:=S hz;rw[hz]at HV;have h64:=Ld (AP us);have HI:=S (fun(W:World)(g:w.grownBy W none)=>FQ (HP.1.pow.gb g) _ h64.1 h64.2);have hil:=Dk h64;have HS:=S (λW=>MX (AP us) (by omega) W);obtain⟨L,hL⟩:∃L,L=AP us:=⟨_,rfl⟩;obtain⟨n,hn⟩:∃n,n=csM L:=⟨_,rfl⟩;have HX:=S (show ctM us=L++B7 n by rw[ctM,FT,hn,hL]);have hTl:=Zm L n;rw[<-hL]at HL HS HI hil hll;rw[<-hn]at HS HI hil;have hcl1:¬(9223372036854775807<4+(Lib.itoa n).length):=by omega
  have hcl2:¬(9223372036854775807<4+(Lib.itoa n).length+1):=by omega
  have hcl3:¬(9223372036854775807<L.length+(4+(Lib.itoa n).length+1)):=by omega
  clear hz hL hn h64;go_enter func11,ntmps11;go_wp2_with fail;refine mR HV.1 λw1 g1=>?_;have H1:=S g1;clear g1;go_wp2_with fail;refine mR (HL.1 _ H1.1) λw2 g2=>?_;have H2:=S (Z H1.1 g2);clear g2;go_wp2_with fail;refine mR (HS.1 _) λw3 g3=>?_;have H3:=S (Z H2.1 g3);clear g3;go_wp2_with fail;refine mR (HI.1 _ H3.1) λw4 g4=>?_;have H4:=S (Z H3.1 g4);clear g4;by_cases hb:200000<L.length+(4+(Lib.itoa n).length+1)
  ·have hbI:decide ((200000:Int)<(L.length:Int)+(4+((Lib.itoa n).length:Int)+1))=true:=by simp;omega
   have HQ:=S (show 200000<(ctM us).length by rw[HX.1,hTl];exact hb);clear hb hTl;go_wp2;go_ret2;exact⟨H4.1,λh=>absurd HZ.1 h,λ_ _=>rfl,λ_ h=>absurd h (by have:=HQ.1;omega)⟩
  ·have hbI:decide ((200000:Int)<(L.length:Int)+(4+((Lib.itoa n).length:Int)+1))=false:=by simp;omega
   have HQ:=S (show ¬200000<(ctM us).length by rw[HX.1,hTl];exact hb);clear hb hTl;go_wp2;go_ret2;exact⟨H4.1,λh=>absurd HZ.1 h,λ_ h=>absurd h HQ.1,λ_ _=>by rw[HX.1];exact congrArg (λs=>Ending.returned (.tuple #[s,.int .i64 0])) (Co (by simp[ByteArray.data_append,B7]))⟩
 ·have hzI:(vmM us !=0)=true:=by simpa using hz
  have HZ:=S hz;generalize hzz:vmM us=z at*;have HZZ:=S hzz;clear hz hzz;go_enter func11,ntmps11;go_wp2_with fail;refine mR HV.1 λw1 g1=>?_;have H1:=S g1;clear g1;go_wp2;go_ret2;exact⟨H1.1,λ_=>by rw[HZZ.1];rfl,λh=>absurd (HZZ.1.symm.trans h) HZ.1,λh=>absurd (HZZ.1.symm.trans h) HZ.1⟩
def RF{i:Nat}(h:us[i]? =some u):u.code.length<=szU us:=by
 have hi:i<us.length:=by
  rcases Nat.lt_or_ge i us.length with h2|h2
  ·exact h2
  ·rw[List.getElem?_eq_none h2]at h;cases h
 have h3:=C5 (f:=λu:Un=>u.code.length) h;have h4:=CT (λu:Un=>u.code.length) us (show i+1<=us.length from hi);unfold szU;omega
def YE{l:List Cd}{c:Cd}(h:l[j]? =some c)(hj:DC l j=false):DC l (j+1)=DJ c:=by
 rw[DC,List.take_add_one,h,List.any_append];rw[DC]at hj;rw[hj];simp
def LA(h:VU ok w v us)(hlen:us.length<=100000000)(hsz:szU us<=100000000):
 Calls Tryz.prog 12 #[v] w λe w'=>e= .returned (.bool (Cu us))/\w=w':=by
 have HSz:=S (Vt h hsz);obtain⟨a,cap,rfl,_,_,hat⟩:=h.open;have HA:=S hat;clear h hat;go_enter func12,ntmps12;go_wp2_with fail;go_loopg [3,4] us.length (λg v3 v4 wr=>∃k:Nat,k+g=us.length/\v3= .int .i64 k/\(∀i u,i<k->us[i]? =some u->B9 u=false)/\w=wr)
 case atStart=>exact⟨0,by omega,rfl,λi u h=>absurd h (Nat.not_lt_zero i),rfl⟩
 case round=>
  obtain⟨k,hk,rfl,hno,rfl⟩:=hrel;cases gk with
  | zero=>
    have hkl:k=us.length:=by omega
    have hj1:decide (k<us.length)=false:=by simp;omega
    have HX:=S (show Cu us=(decide (3000<us.length)||decide (3000<szU us))by
     subst hkl;have:us.any B9=false:=by
      rw[Bool.eq_false_iff];intro hx;obtain⟨u,hu,hb⟩:=List.any_eq_true.1 hx;obtain⟨i,hi,e⟩:=List.getElem_of_mem hu;rw[hno i u hi (by rw[List.getElem?_eq_getElem hi,e])]at hb;cases hb
     unfold Cu;rw[this,Bool.or_false])
    clear hno;cases hL:decide (3000<us.length)with
    | true=>
      have hLI:decide ((3000:Int)<(us.length:Int))=true:=by simp at hL ⊢;omega
      go_wp2;go_ret;exact⟨by rw[HX.1,hL];rfl,rfl⟩
    | false=>
      have hLI:decide ((3000:Int)<(us.length:Int))=false:=by simp at hL ⊢;omega
      go_wp2_with fail;refine HSz.1.mono ?_;rintro e w2 ⟨rfl,rfl⟩;go_wp2;go_ret;exact⟨by rw[HX.1,hL,Bool.false_or];exact congrArg (λb=>Ending.returned (Value.bool b)) (decide_eq_decide.2 (by omega)),rfl⟩
  | succ gk=>
    have hkl:k<us.length:=by omega
    have hj1:decide (k<us.length)=true:=by simp;omega
    obtain⟨u,hu⟩:∃u,us[k]? =some u:=⟨_,AQ hkl⟩;obtain⟨g,o,ra,rc,ca,cc,rfl,_,hgl,c0,c1,c2,_,hcode⟩:=HA.1 k u hu;have hcl:=RF hu;have hcl2:u.code.length<=100000000:=by omega
    have HX:=S (X hno (X hu hcode));clear hno hu hcode hcl;cases h1:decide (4000<u.name.length)with
    | true=>
      have HM:=S (G3 HX.1.2.1 (show B9 u=true by unfold B9;rw[h1];rfl));have h1I:decide ((4000:Int)<(u.name.length:Int))=true:=by simp at h1 ⊢;omega
      go_wp2;go_ret;exact⟨by rw[HM.1];rfl,rfl⟩
    |false=>
    cases h2:decide (2048<u.row.length)with
    | true=>
      have HM:=S (G3 HX.1.2.1 (show B9 u=true by unfold B9;rw[h2];simp));have h1I:decide ((4000:Int)<(u.name.length:Int))=false:=by simp at h1 ⊢;omega
      have h2I:decide ((2048:Int)<(u.row.length:Int))=true:=by simp at h2 ⊢;omega
      go_wp2;go_ret;exact⟨by rw[HM.1];rfl,rfl⟩
    |false=>
    have HU:=S (show B9 u=Gl u by unfold B9;rw[h1,h2];rfl);have h1I:decide ((4000:Int)<(u.name.length:Int))=false:=by simp at h1 ⊢;omega
    have h2I:decide ((2048:Int)<(u.row.length:Int))=false:=by simp at h2 ⊢;omega
    go_wp2_with fail;go_loopg [4] u.code.length (λg v4 wr=>∃j:Nat,j+g=u.code.length/\v4= .int .i64 j/\DC u.code j=false/\w=wr)
    case atStart=>exact⟨0,by omega,rfl,rfl,rfl⟩
    case round=>
     obtain⟨j,hj,rfl,hlo,rfl⟩:=hrel;by_cases hjl:j<u.code.length
     ·have hjI:decide (j<u.code.length)=true:=by simpa using hjl
      obtain⟨c,hc⟩:∃c,u.code[j]? =some c:=⟨_,AQ hjl⟩;obtain⟨gc,oc,rfl,_,_,_,_,_,t3⟩:=HX.1.2.2.cd hc;have HC:=S (X hc (YE hc hlo));clear hc hlo;cases hlc:decide (4000<c.s.length)with
      | true=>
        have HM:=S (G3 HX.1.2.1 (show B9 u=true by rw[HU.1];exact List.any_eq_true.2 ⟨c,List.mem_of_getElem? HC.1.1,hlc⟩));have hcI:decide ((4000:Int)<(c.s.length:Int))=true:=by simp at hlc ⊢;omega
        go_wp2;go_ret;exact⟨by rw[HM.1];rfl,rfl⟩
      | false=>
        have HT:=S (show DC u.code (j+1)=false from HC.1.2.trans hlc);have hcI:decide ((4000:Int)<(c.s.length:Int))=false:=by simp at hlc ⊢;omega
        go_wp2;go_roundg (u.code.length-(j+1))
        case measure=>omega
        case rel=>exact⟨j+1,by omega,by go_num,HT.1,rfl⟩
     ·have hjI:decide (j<u.code.length)=false:=by simpa using hjl
      have hje:j=u.code.length:=by omega
      have HT:=S (show B9 u=false by rw[HU.1];rw[hje,DC,List.take_length]at hlo;exact hlo);clear hlo;go_wp2;go_roundg (us.length-(k+1))
      case measure=>omega
      case rel=>exact⟨k+1,by omega,by go_num,λi v hi hv=>by
       by_cases e:i=k
       ·subst e;rw[HX.1.2.1]at hv;cases hv;exact HT.1
       ·exact HX.1.1 i v (by omega) hv,rfl⟩
def Vr(hp:Pow w)(h:VU ok w v us)(hb:AF us<=100000000)(hwd:AN us):
 Calls Tryz.prog 34 #[v] w (ρ w (str (ctM us))):=by
 have HL:=S (S7 h hb hwd hp);obtain⟨a,cap,rfl,_⟩:=h.open;have hll:(AP us).length<=3000000000:=by
  have:=Ip hwd us.length (nR _);have h2:(AP us).length=(A4 AZ us us.length).length:=rfl;omega
 have h64:=Ld (AP us);have HI:=S (fun(W:World)(g:w.grownBy W none)=>FQ (hp.gb g) _ h64.1 h64.2);have hil:=Dk h64;have HS:=S (λW=>WL (AP us) (by omega) W);obtain⟨L,hL⟩:∃L,L=AP us:=⟨_,rfl⟩;obtain⟨n,hn⟩:∃n,n=csM L:=⟨_,rfl⟩;have HX:=S (show ctM us=L++B7 n by rw[ctM,FT,hn,hL]);rw[<-hL]at HL HS HI hil hll;rw[<-hn]at HS HI hil;have hcl1:¬(9223372036854775807<L.length+4):=by omega
 have hcl2:¬(9223372036854775807<L.length+4+(Lib.itoa n).length):=by omega
 have hcl3:¬(9223372036854775807<L.length+4+(Lib.itoa n).length+1):=by omega
 clear h hb hwd hp hL hn h64;go_enter func34,ntmps34;go_wp2_with fail;refine mR HL.1 λw1 g1=>?_;have H1:=S g1;clear g1;go_wp2_with fail;refine(HS.1 _).mono ?_;rintro e w2 ⟨rfl,rfl⟩;go_wp2_with fail;refine mR (HI.1 _ H1.1) λw3 g3=>?_;have H3:=S (Z H1.1 g3);clear g3;go_wp2;go_ret;exact⟨by rw[HX.1];exact congrArg Ending.returned (Co (by simp[ByteArray.data_append,B7])),H3.1⟩
structure LW(w:World):Prop where
 cw:CW w
 er:Errs w
def LW.gb(h:LW w)(g:w.grownBy w1 none):LW w1:=⟨h.cw.gb g,h.er.gbN g⟩
def PL(hw:LW w)(s:Bs)(hs:s.length<=1048576):Calls Tryz.prog 6 #[str s] w λe w'=>PRd vmM w s e w':=
 Uk vmM s hs hw.cw.pow hw.er hw.cw.mx λW v us ok g h _ hb=>GP (hw.cw.gb g) h hb
def Xu(h:PRd vmM w (ctM us) e w')(hl:(ctM us).length<=200000)(hv:vmM us=0)(hwd:AN us):∃v,e= .returned (.tuple #[v,.int .i64 0])/\VU (Al w.heap.size) w' v us/\w.grownBy w' none:=by
 obtain⟨vs,v,er,rfl,g,hn,hq⟩:=h;rcases hq with⟨h1,_⟩| ⟨_,h1| ⟨_,h1⟩⟩
 ·omega
 ·obtain⟨n,h2,_,_,_,_,_,h3⟩:=h1;obtain⟨rfl,rfl⟩:=MY h2;rcases h3 with⟨h4,_⟩| ⟨_,h4,h5⟩
  ·exact absurd rfl h4
  ·rw[hv]at h4;subst h4;exact⟨v,rfl,h5 rfl,g⟩
 ·have h9:=IY (AP us) (AP us).length;exact absurd rfl (h1 us _ hwd (Ld _) h9.1 h9.2)
def Y3(h:vmM us=0):Cu us=false:=by
 rw[Bool.eq_false_iff];intro hb;rw[Gf hb]at h;cases h
def Vc(hw:LW w)(h:VU ok w v us)(hb:AF us<=1048576)(hwd:AN us)(hv:vmM us=0):
 Calls Tryz.prog 13 #[v] w (ρ w (.bool true)):=by
 have hb1:AF us<=100000000:=by omega
 have HV:=S ((GP hw.cw h hb1).mono λe w' k=>(show e= .returned (.int .i64 0)/\_ from⟨by rw[k.1,hv],k.2⟩));have HI:=S (fun(W:World)(g:w.grownBy W none)=>(LA (h.gb g (by simp)) (by unfold AF at hb1;omega) (nT (Lj us) hb1)).mono λe w' k=>(show e= .returned (.bool false)/\_ from⟨by rw[k.1,Y3 hv],k.2⟩));have HT:=S (fun(W:World)(g:w.grownBy W none)=>L6 (hw.cw.gb g) (h.gb g (by simp)) hb1 hwd);have HR:=S (fun(W:World)(g:w.grownBy W none)=>Vr (hw.cw.pow.gb g) (h.gb g (by simp)) hb1 hwd);have HS:=S (fun(W:World)(u:Value)(k:Nat->Prop)(g:w.grownBy W none)(hu:VU k W u us)=>(Vs hu (h.gb g (by simp))).mono λe w' q=>(show e= .returned (.bool true)/\_ from⟨by rw[q.1];simp,q.2⟩));have HD:=S (X hw (X hv hwd));obtain⟨a,cap,rfl,_⟩:=h.open;clear h hb hb1 hwd hw;by_cases hl:200000<(ctM us).length
 ·have hlI:decide ((200000:Int)<((ctM us).length:Int))=true:=by simp;omega
  have HT2:=S (fun(W:World)(g:w.grownBy W none)=>(HT.1 W g).mono λe w' k=>(show e= .returned (.tuple #[str [],.int .i64 3])/\_ from⟨k.2.2.1 HD.1.2.1 hl,k.1⟩));clear HT hv hl;generalize ctM us=T at*;go_enter func13,ntmps13;go_wp2_with fail;refine mR HV.1 λw1 g1=>?_;have H1:=S g1;clear g1;go_wp2_with fail;refine(HI.1 _ H1.1).mono ?_;rintro e w2 ⟨rfl,rfl⟩;go_wp2_with fail;refine mR (HT2.1 _ H1.1) λw3 g3=>?_;have H3:=S (Z H1.1 g3);clear g3;go_wp2_with fail;refine mR (HR.1 _ H3.1) λw4 g4=>?_;have H4:=S (Z H3.1 g4);clear g4;go_wp2;go_ret;exact⟨rfl,H4.1⟩
 ·have hlI:decide ((200000:Int)<((ctM us).length:Int))=false:=by simp;omega
  have hl2:(ctM us).length<=200000:=by omega
  have HT2:=S (fun(W:World)(g:w.grownBy W none)=>(HT.1 W g).mono λe w' k=>(show e= .returned (.tuple #[str (ctM us),.int .i64 0])/\_ from⟨k.2.2.2 HD.1.2.1 hl2,k.1⟩));have HQ:=S (fun(W:World)(g:w.grownBy W none)=>(PL (HD.1.1.gb g) (ctM us) (by omega)).mono λe w' k=>Xu k hl2 HD.1.2.1 HD.1.2.2);clear HT hv hl hl2;generalize ctM us=T at*;go_enter func13,ntmps13;go_wp2_with fail;refine mR HV.1 λw1 g1=>?_;have H1:=S g1;clear g1;go_wp2_with fail;refine(HI.1 _ H1.1).mono ?_;rintro e w2 ⟨rfl,rfl⟩;go_wp2_with fail;refine mR (HT2.1 _ H1.1) λw3 g3=>?_;have H3:=S (Z H1.1 g3);clear g3;go_wp2_with fail;refine mR (HR.1 _ H3.1) λw4 g4=>?_;have H4:=S (Z H3.1 g4);clear g4;go_wp2_with fail;refine(HQ.1 _ H4.1).mono ?_;rintro e w5 ⟨u,rfl,hu,g5⟩;obtain⟨a2,cap2,rfl,_⟩:=hu.open;have H5:=S (X (Z H4.1 g5) hu);clear g5 hu;go_wp2_with fail;refine mR (HR.1 _ H5.1.1) λw6 g6=>?_;have H6:=S (X (Z H5.1.1 g6) (H5.1.2.gb g6 (by simp)));clear g6;go_wp2_with fail;refine mR (HS.1 _ _ _ H6.1.1 H6.1.2) λw7 g7=>?_;have H7:=S (Z H6.1.1 g7);clear g7;go_wp2;go_ret;exact⟨rfl,H7.1⟩
def kn_ok:OkU knU:=by
 refine⟨by decide,rfl,⟨0,0,rfl,by decide,by decide,by decide⟩,λi c h=>?_⟩;cases i with
 | zero=>
   cases h;refine⟨?_,λh=>absurd h.2 (by decide)⟩;have h1:Gi 17 0 0 (([Ct]:List Cd).length-1:Int)=true:=by decide
   have h2:okS 17 0 []=true:=by simp[okS]
   show(Gi 17 0 0 _&&okS 17 0 [])=true;rw[h1,h2];rfl
 |succ i=>simp at h
def kn_vm:vmM [knU]=0:=by
 refine K7 (by decide) ⟨by decide,?_⟩;rintro⟨u,hu,hn⟩;simp only[List.mem_singleton]at hu;subst hu;exact hn kn_ok
def Kw(hw:CW w):Calls Tryz.prog 5 #[] w (ρ w (.bool true)):=by
 have HB:=S (X (Blk.new w mainC 40) (gZ w (.cells mainC.toArray 40 (0,0)) none));have HV:=S (fun(W:World)(v:Value)(ok:Nat->Prop)(g:w.grownBy W none)(h:VU ok W v [knU])=>(GP (hw.gb g) h (by decide)).mono λe w' k=>(show e= .returned (.int .i64 0)/\_ from⟨by rw[k.1,kn_vm],k.2⟩));clear hw;go_enter func5,ntmps5;go_wp2_with fail;refine(Tr HB.1.1).mono ?_;rintro e w1 ⟨v,rfl,hv,g1⟩;have H1:=S (X hv (Z HB.1.2 g1));obtain⟨a,cap,rfl,_⟩:=hv.open;clear hv g1;go_wp2_with fail;refine mR (HV.1 _ _ _ H1.1.2 H1.1.1) λw2 g2=>?_;have H2:=S (Z H1.1.2 g2);clear g2;go_wp2;go_ret;exact⟨rfl,H2.1⟩
def Xc(us:List Un):(Cu us=true/\vmM us=3)\/(Cu us=false/\(vmM us=1\/vmM us=0)):=by
 cases hb:Cu us with
 |true=>exact .inl ⟨rfl,Gf hb⟩
 | false=>
   refine .inr ⟨rfl,?_⟩;by_cases hr:Je us
   ·exact .inr (K7 hb hr)
   ·exact .inl (K8 hb hr)
def OM(hw:LW w)(h:VU ok w v us)(hb:AF us<=1048576)(hwd:AN us):
 Calls Tryz.prog 4 #[v] w (ρ w (.bool true)):=by
 have hb1:AF us<=100000000:=by omega
 have HW:=S (TI h hb1);have hAI:decide ((1048576:Int)<((AF us:Nat):Int))=false:=by simp;omega
 have HV:=S (fun(W:World)(g:w.grownBy W none)=>GP (hw.cw.gb g) (h.gb g (by simp)) hb1);have HI:=S (fun(W:World)(g:w.grownBy W none)=>LA (h.gb g (by simp)) (by unfold AF at hb1;omega) (nT (Lj us) hb1));have HT:=S (fun(W:World)(g:w.grownBy W none)=>L6 (hw.cw.gb g) (h.gb g (by simp)) hb1 hwd);have HO:=S (fun(W:World)(g:w.grownBy W none)(hz:vmM us=0)=>Vc (hw.gb g) (h.gb g (by simp)) hb hwd hz);have HK:=S (fun(W:World)(g:w.grownBy W none)=>hw.cw.gb g);have hvc:=Xc us;obtain⟨a,cap,rfl,_⟩:=h.open;clear h hb hb1 hwd hw;rcases hvc with⟨hbg,hz⟩| ⟨hbg,hz|hz⟩
 ·have HT2:=S (fun(W:World)(g:w.grownBy W none)=>(HT.1 W g).mono λe w' k=>(show e= .returned (.tuple #[str [],.int .i64 3])/\_ from⟨by rw[<-hz];exact k.2.1 (by rw[hz];decide),k.1⟩));rw[hbg]at HI;rw[hz]at HV;clear hbg hz HT HO;go_enter Tryz.func4,ntmps4;go_wp2_with fail;refine mR HW.1 λw1 g1=>?_;have H1:=S g1;clear g1;go_wp2_with fail;refine mR (HV.1 _ H1.1) λw2 g2=>?_;have H2:=S (Z H1.1 g2);clear g2;go_wp2_with fail;refine mR (HT2.1 _ H2.1) λw3 g3=>?_;have H3:=S (Z H2.1 g3);clear g3;go_wp2_with fail;refine(HI.1 _ H3.1).mono ?_;rintro e w4 ⟨rfl,rfl⟩;go_wp2_with fail;refine mR (Kw (HK.1 _ H3.1)) λw5 g5=>?_;have H5:=S (Z H3.1 g5);clear g5;go_wp2;go_ret;exact⟨rfl,H5.1⟩
 ·have HT2:=S (fun(W:World)(g:w.grownBy W none)=>(HT.1 W g).mono λe w' k=>(show e= .returned (.tuple #[str [],.int .i64 1])/\_ from⟨by rw[<-hz];exact k.2.1 (by rw[hz];decide),k.1⟩));rw[hbg]at HI;rw[hz]at HV;clear hbg hz HT HO;go_enter Tryz.func4,ntmps4;go_wp2_with fail;refine mR HW.1 λw1 g1=>?_;have H1:=S g1;clear g1;go_wp2_with fail;refine mR (HV.1 _ H1.1) λw2 g2=>?_;have H2:=S (Z H1.1 g2);clear g2;go_wp2_with fail;refine mR (HT2.1 _ H2.1) λw3 g3=>?_;have H3:=S (Z H2.1 g3);clear g3;go_wp2_with fail;refine(HI.1 _ H3.1).mono ?_;rintro e w4 ⟨rfl,rfl⟩;go_wp2_with fail;refine mR (Kw (HK.1 _ H3.1)) λw5 g5=>?_;have H5:=S (Z H3.1 g5);clear g5;go_wp2;go_ret;exact⟨rfl,H5.1⟩
 ·have HT2 := S (λ(W : World) (g : w.grownBy W none) => (HT.1 W g).mono λe w' k => (show ∃ s f, e = .returned (.tuple #[str s, .int .i64 f]) /\ W.grownBy w' none from by
   by_cases hl:200000<(ctM us).length
   ·exact⟨_,_,k.2.2.1 hz hl,k.1⟩
   ·exact⟨_,_,k.2.2.2 hz (by omega),k.1⟩))
  have HO2:=S (λW g=>HO.1 W g hz);rw[hbg]at HI;rw[hz]at HV;clear hbg hz HT HO;go_enter Tryz.func4,ntmps4;go_wp2_with fail;refine mR HW.1 λw1 g1=>?_;have H1:=S g1;clear g1;go_wp2_with fail;refine mR (HV.1 _ H1.1) λw2 g2=>?_;have H2:=S (Z H1.1 g2);clear g2;go_wp2_with fail;refine(HT2.1 _ H2.1).mono ?_;rintro e w3 ⟨s,f,rfl,g3⟩;have H3:=S (Z H2.1 g3);clear g3;go_wp2_with fail;refine(HI.1 _ H3.1).mono ?_;rintro e w4 ⟨rfl,rfl⟩;go_wp2_with fail;refine mR (HO2.1 _ H3.1) λw5 g5=>?_;have H5:=S (Z H3.1 g5);clear g5;go_wp2_with fail;refine mR (Kw (HK.1 _ H5.1)) λw6 g6=>?_;have H6:=S (Z H5.1 g6);clear g6;go_wp2;go_ret;exact⟨rfl,H6.1⟩
open Go.Lib
def u8x:U8Extra Tryz.prog lays260_ren:=⟨by kernel_rfl,by kernel_rfl,by kernel_rfl,by kernel_rfl,by kernel_rfl,by kernel_rfl,by kernel_rfl⟩
def casex:CaseExtra Tryz.prog Tryz.lays203_ren:=⟨by kernel_rfl,by kernel_rfl,by kernel_rfl,by kernel_rfl,by kernel_rfl,by kernel_rfl⟩
def Lx{P:Program}{k:IntKind}{zs:List Int}{e:TypeId}
 (hg:P.globalNamed name=some g) (hty:(P.globals[g]?).map (·.type)=some t) (ht:P.underlying t=some (.array n e)) (he:P.underlying e=some (.int k)) (hce:P.cellsOf e=1) (hct:P.cellsOf t=n)
 (h:VarReads P W name (tabData k zs)):TabIs P W name k zs:=by
 obtain⟨g',t',cs,fuel,p,hg',ht',hvar,hd⟩:=h;obtain rfl:=Option.some.inj (hg.symm.trans hg');obtain rfl:=Option.some.inj (hty.symm.trans ht');unfold TabIs;rw[hvar,<-cells_of_tab ht he hce hct hd]
def Rj{P:Program}(hg:P.globalNamed name=some g)(h:VarReads P W name d):g<W.heap.size:=by
 obtain⟨g',t',cs,fuel,p,hg',ht',hvar,hd⟩:=h;obtain rfl:=Option.some.inj (hg.symm.trans hg');unfold World.var? at hvar;rw[hg]at hvar;simp only[Option.bind_some]at hvar;rcases Nat.lt_or_ge g W.heap.size with h|h
 ·exact h
 ·rw[Array.getElem?_eq_none h]at hvar;simp at hvar
def Qa{laid : List (String × DataW Unit)} (h : laidMet Tryz.prog laid W) (h1 : ("unicode/utf8.first", firstData) ∈ laid) (h2 : ("unicode/utf8.acceptRanges", acceptData) ∈ laid)
 (h3 : ("unicode.CaseRanges", caseData) ∈ laid) (h4 : ("strings.asciiSpace", tabData .u8 asciiSpaceTab) ∈ laid) : Tabs W.heap.size W := by
 have hu:=utf8Tabs_of_reads lays260 u8x (laidMet.reads h h1) (laidMet.reads h h2);have hc:=caseVar_of_reads {Tryz.lays203 with} Tryz.lays203.t206 casex (laidMet.reads h h3);have hg:=Rj (g:=10) (by kernel_rfl) (laidMet.reads h h3);have e13:Tryz.lays203_ren.g 13=10:=by kernel_rfl
 rw[e13]at hc;obtain⟨R,oR,cap,hcell,hT⟩:=hc;have hR:=bY W _ (hT 0 (by decide+kernel)).1;exact⟨hu,hg,⟨R,oR,cap,hR,hcell,hT⟩,Lx Hp (t:=216) (e:=5) (n:=256) (by kernel_rfl) underlying216 underlying5 (by kernel_rfl) (by kernel_rfl) (laidMet.reads h h4)⟩
def Lt{nm:String}{ms:Array (String×TypeId)}(hg:Tryz.prog.globalNamed name=some g)(ht:(Tryz.prog.globals[g]?).map (·.type)=some t)(hu:Tryz.prog.underlying t=some (.interface ms))
 (h:VarReads Tryz.prog W name (.iface nm d)):∃tp p,W.var? Tryz.prog name=some #[.iface tp p]:=by
 obtain⟨g',t',cs,fuel,p,hg',ht',hvar,hd⟩:=h;obtain rfl:=Option.some.inj (hg.symm.trans hg');obtain rfl:=Option.some.inj (ht.symm.trans ht');cases fuel with
 |zero=>cases hd
 | succ fuel=>
   obtain⟨l⟩:=cs;unfold DataW.trod at hd;rw[hu]at hd;match l,hvar,hd with
   | [],_,hd=>cases hd
   | [v],hvar,hd=>
     cases v
     case iface u v=>exact⟨u,v,hvar⟩
     all_goals cases hd
   |_::_::_,_,hd=>simp at hd
def TV{laid:List (String×DataW Unit)}(hl:laid=Rows.codeTextsUptoRow.laid)(h:laidMet Tryz.prog laid W)(hsh:W.ShapedOpen Tryz.prog):LW W:=by
 subst hl;have e1:Rows.laid_unicode_utf8_first=firstData:=Pinned.utf8First_eq;have e2:Rows.laid_unicode_utf8_acceptRanges (H:=Unit)=acceptData:=by kernel_rfl
 have e3:Rows.laid_unicode_CaseRanges=caseData:=Pinned.caseRanges_eq;have e4:Rows.laid_strings_asciiSpace (H:=Unit)=Lib.tabData .u8 Lib.asciiSpaceTab:=by kernel_rfl
 have e5:Rows.laid_internal_strconv_uint64pow10 (H:=Unit)=Lib.tabData .u64 Lib.pow10Tab:=by kernel_rfl
 refine⟨⟨?_,?_,?_⟩,?_,?_⟩
 ·refine Lx Oy (t:=208) (e:=146) (n:=20) (by kernel_rfl) underlying208 underlying146 (by kernel_rfl) (by kernel_rfl) (laidMet.reads h (e5 ▸ ?_));exact .tail _ (.tail _ (.head _))
 ·refine Qa h (e1 ▸ ?_) (e2 ▸ ?_) (e3 ▸ ?_) (e4 ▸ ?_)
  ·exact .tail _ (.tail _ (.tail _ (.tail _ (.tail _ (.tail _ (.tail _ (.tail _ (.tail _ (.head _)))))))))
  ·exact .tail _ (.tail _ (.tail _ (.head _)))
  ·exact .tail _ (.tail _ (.tail _ (.tail _ (.tail _ (.tail _ (.tail _ (.tail _ (.head _))))))))
  ·exact .tail _ (.tail _ (.tail _ (.tail _ (.tail _ (.tail _ (.tail _ (.head _)))))))
 ·exact Tryz.laysM146.s1_3 W hsh
 ·exact Lt (d:= .ptr (.agg [.lit (.string [105,110,118,97,108,105,100,32,115,121,110,116,97,120])])) Jo (t:=72) (by kernel_rfl) underlying72 (laidMet.reads h (.tail _ (.tail _ (.tail _ (.tail _ (.tail _ (.head _)))))))
 ·exact Lt (d:= .ptr (.agg [.lit (.string [118,97,108,117,101,32,111,117,116,32,111,102,32,114,97,110,103,101])])) Ln (t:=72) (by kernel_rfl) underlying72 (laidMet.reads h (.tail _ (.tail _ (.tail _ (.tail _ (.head _))))))
end Go.Proofs.YtbjfaimkiclhgaaGreatDoor
