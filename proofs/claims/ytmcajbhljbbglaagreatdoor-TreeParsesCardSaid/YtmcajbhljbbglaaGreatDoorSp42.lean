/-
  The program's reader of statements: set. The reference's reader of statements: said at a command's word, and at a word that begins no statement. Plain laws: a statement that begins with no word, as th
-/
import Derived.Test.YtmcajbhljbbglaaGreatDoorSpF
import Derived.Test.YtmcajbhljbbglaaGreatDoorSp41
import Derived.Test.YtmcajbhljbbglaaGreatDoorSp38
import Derived.Test.YtmcajbhljbbglaaGreatDoorSp40
import Derived.Test.YtmcajbhljbbglaaGreatDoorSp27
import Derived.Maps.Own
import Derived.Test.YtmcajbhljbbglaaGreatDoorSp39
import Derived.Test.YtmcajbhljbbglaaGreatDoorSp34
import Derived.Test.YtmcajbhljbbglaaGreatDoorSp14
set_option linter.all false
set_option maxRecDepth 100000
set_option maxHeartbeats 8000000
namespace Go.Proofs.YtmcajbhljbbglaaGreatDoor
open Tryz
open Go.RowKit
section
variable {w wr:World}{b:Nat}{tv wo:Value}{l:List Tok}{i:Nat}
def KY(b:Nat)(tv wo:Value)(l:List Tok)(w:World)(L:Nat)(h:Sd)(i:Nat)(W:World):Prop:=
 (∃pv xv,KS b w L W h .nil pv xv (.slice none 0 0) (.slice none 0 0) (.slice none 0 0) (.slice none 0 0))∧Par W b tv wo l wordsL i
theorem x8(hn:Al l){day:Bs→Int}{n L:Nat}{wd:Bs}(hE:CE 56 b tv wo l wordsL (Aw l day n))(hok:∀i,At (Af l i))(hl:AF l)(k:KS b w L wr (sd0 13 wd) .nil (.slice none 0 0) (.slice none 0 0) (.slice none 0 0) (.slice none 0 0) (.slice none 0 0) (.slice none 0 0))(h:Par wr b tv wo l wordsL i)(ho:(F2 hn wordsL day n (sd0 13 wd)).f i ≠ .out):
 Calls Tryz.prog 255 #[.pointer (some ⟨b,0,none⟩),.pointer (some ⟨L,0,none⟩)] wr (Post b tv wo l wordsL w (VIn b w L) ((F2 hn wordsL day n (sd0 13 wd)).f i)):=by
 have hb:=h.lt;have HO:=Z ho;generalize hR:(F2 hn wordsL day n (sd0 13 wd)).f i=R at*;unfold F2 at hR;rw[Rd.here_f]at hR;have HQ:=Z hR;have HE:=Z hE;have HTk:=Z hok;have HSh:=Z hl;have HK:=Z k;have hp:=h;have HA:=Z (CI h);have HI:=Z (fun h=>Co (l:=l) (W:=wordsL) (i:=i) h);have hbL:b<L:=Qp;clear hE hok hl h ho hR k;go_enter func255,ntmps255;have fU{P}(h:P:=by
 have hkl:=HK.out.lt;have d1:=HK.out.blk.cell' 1 rfl;have f1:=HK.out.blk.frozen 1;have HF:=Z (Ac (HK.out.putS s) (hp.set hbL 1 (str s)));go_upto_region 3 with fail;refine AL (KY b tv wo l w L {sd0 13 wd with s:=s} i) ⟨⟨_,_,HF.out.1⟩,HF.out.2⟩ ?_;rintro W1 ⟨⟨pv,xv,hK⟩,hp1⟩;replace HK:=Z hK;replace hp:=hp1;clear hK hp1 HF d1 f1 hkl;have hkl:=HK.out.lt;by_cases h1:s=KQ∨s=KH
 ·have hi:=HI.out Qk;replace HQ:=HQr HQ (by rw[if_pos h1]);replace HQ:=HQr HQ IW;replace HQ:=HQr HQ (by rw[Rd.here_f]);have HI2:=Z (fun h=>Co (l:=l) (W:=wordsL) (i:=i+1) h);rcases h1 with rfl|rfl
  all_goals
   have NO{P}(h:P:=by
   go_upto_region 22 with fail;refine AL (KY b tv wo l w L _ (i+1)) ⟨⟨_,_,HKI.out⟩,HPI.out⟩ ?_;rintro W2 ⟨⟨pv2,xv2,hK⟩,hp1⟩;replace HK:=Z hK;replace hp:=hp1;clear hK hp1 HKI HPI c1 f1;have HA:=Z (CI hp);go_wp2_with fail;refine HA.out.mono ?_;rintro e w3 ⟨rfl,g3⟩;replace HK:=Z (HK.out.gbN g3);replace hp:=hp.gbN g3;clear g3 HA;go_wp2_with fail;refine(I8 hp HTk.out (i+1)).mono ?_;rintro e w4 ⟨rfl,g4⟩;replace HK:=Z (HK.out.gbN g4);replace hp:=hp.gbN g4;clear g4;generalize Av l wordsL (i+1)=t at*;have hkl:=HK.out.lt;have d2:=HK.out.blk.cell' 2 rfl;have f2:=HK.out.blk.frozen 2;have HF:=Z (Ac (HK.out.putT t) (hp.set hbL 2 (str t)));go_upto_region 23 with fail;refine AL (KY b tv wo l w L _ (i+1)) ⟨⟨_,_,HF.out.1⟩,HF.out.2⟩ ?_;rintro W3 ⟨⟨pv3,xv3,hK⟩,hp1⟩;replace HK:=Z hK;replace hp:=hp1;clear hK hp1 HF d2 f2 hkl;have hkl:=HK.out.lt;have d2:=HK.out.blk.cell' 2 rfl;by_cases ht:t=wON∨t=JD
   ·have hi2:=HI2.out (by rcases ht with rfl|rfl<;>decide);replace HQ:=HQr HQ (by rw[if_pos ht]);replace HQ:=HQr HQ IW;replace HQ:=HQr HQ Bj;rcases ht with rfl|rfl
    all_goals
     have L6{P}(h:P:=by have hgI:=As (Aj W3 (some b)) 1 (.int .i64 (((i+1):Int)+1));have HPI:=Z (hp.goI (((i+1):Int)+1) ((i+1)+1) Ab Ab);have HKI:=Z (HK.out.gb hgI);clear hgI;go_wp2;go_end0;exact Post.ok HKI.out.gr HQ.out.symm ⟨rfl,_,_,_,_,_,HKI.out⟩ HPI.out):=Aa h;exact Kt
   ·skip;replace HQ:=HQr HQ (by rw[if_neg ht]);replace HQ:=HQr HQ (by rw[Rd.bad_f]);have hs1:(t !=[79,78])=true:=X5;have hs2:(t !=[79,70,70])=true:=X4;have hs3:(t==[79,78])=false:=X5;have hs4:(t==[79,70,70])=false:=X4;exact T2):=Aa h
   exact Nl
 ·skip;replace HQ:=HQr HQ (by rw[if_neg h1]);by_cases h2:s=Hx∨s=IK∨s=I7
  ·have hi:=HI.out Qi;replace HQ:=HQr HQ (by rw[if_pos h2]);replace HQ:=HQr HQ IW;replace HQ:=HQr HQ Em;rcases h2 with rfl|rfl|rfl
   ·skip;have NO{P}(h:P:=by
    go_upto_region 5 with fail;have RI{P}(h:P:=by
    have N8{P}(h:P:=by
    have AV{P}(h:P:=by
    clear g;replace HQ:=HQr HQ (by rw[Rd.cond_f]);have HA:=Z (CI hp);cases hk:(Af l i3).kind==5 with
    | true=>
      have hk5:(Af l i3).kind=5:=BE;replace HQ:=HQr HQ (by rw[if_pos (show Rd.atEnd l i3=true from hk)]);replace HQ:=HQr HQ Bj;clear hk;go_wp2_with fail;refine HA.out.mono ?_;rintro e w4 ⟨rfl,g4⟩;rw[AG,hk5];replace HK:=Z (HK.out.gbN g4);replace hp:=hp.gbN g4;clear g4 HA;exact Gv
    | false=>
      have hk5:((Af l i3).kind !=5)=true:=by simp only[bne,hk];rfl
      replace HQ:=HQr HQ (by rw[if_neg (ne_true_of_eq_false (show Rd.atEnd l i3=false from hk))]);have e0:=HQ.out;first|rw[if_pos True.intro]at e0|rw[if_pos (rfl:Hx=Hx)]at e0
      replace HQ:=Z e0;clear e0;replace HQ:=HQr HQ IY;have b7{P}(h:P:=by
      have Ck{P}(h:P:=by
      refine(C4 hp HSh.out).mono ?_;intro e w5 hq;obtain⟨g,⟨q,hr,rfl⟩| ⟨p,j5,v,hr,rfl,rfl,hp9⟩⟩:=hq.split
      ·exact BA
      have AV{P}(h:P:=by have Rz{P}(h:P:=by have hbL:b<L:=Df;have hp3:=(hp.set (L:=L) hbL 3 (.slice (some ⟨(w5).heap.size,0,none⟩) 1 1)).alloc (.cells #[str p] 9 (0,0));replace HK:=Z (HK.out.layP p);replace hp:=hp3;clear hp3;replace HQ:=HQr HQ Bj;exact Gv):=Aa h;exact O4):=Aa h;exact AT):=Aa h;exact Ci):=Aa h;exact S6):=Aa h
    exact AT):=Aa h;exact LT):=Aa h;exact QJ):=Aa h;exact Nl
   ·skip;have NO{P}(h:P:=by
    go_upto_region 10 with fail;have RI{P}(h:P:=by
    have N8{P}(h:P:=by
    have AV{P}(h:P:=by
    clear g;have e0:(EZ l (Aw l day n) i3).bind (fun f k=> .ok {sd0 13 wd with s:=IK,x:=f} k)=R:=by
     exact ZD
    replace HQ:=Z e0;clear e0;have Ck{P}(h:P:=by have Sa{P}(h:P:=by have AV{P}(h:P:=by have gG{P}(h:P:=by exact Gv):=Aa h;exact Zm):=Aa h;exact AT):=Aa h;exact Rj):=Aa h;exact Ci):=Aa h;exact AT):=Aa h;exact LT):=Aa h;exact QJ):=Aa h;exact Nl
   ·skip;have NO{P}(h:P:=by
    go_upto_region 14 with fail;have RI{P}(h:P:=by
    have N8{P}(h:P:=by
    have AV{P}(h:P:=by
    clear g;have e0:(EZ l (Aw l day n) i3).bind (fun f k=>if f.len=0 then .ok {sd0 13 wd with s:=I7,x:=f} k else(J6 l wordsL J7 k).bind fun _ k=>(AW l k).bind fun p k=> .ok {sd0 13 wd with s:=I7,x:=f,p:=[p]} k)=R:=by
     exact ZD
    replace HQ:=Z e0;clear e0;have Ck{P}(h:P:=by
    have Sa{P}(h:P:=by
    have AV{P}(h:P:=by
    have gG{P}(h:P:=by
    go_upto_region 16 with fail;refine AL (KY b tv wo l w L _ j5) ⟨⟨_,_,HK.out⟩,hp⟩ ?_;rintro W5 ⟨⟨pv5,xv5,hK⟩,hp1⟩;replace HK:=Z hK;replace hp:=hp1;clear hK hp1 hx4 hf4 hkl5;obtain⟨xa5,xc5,e5⟩:∃xa xc,xv5= .slice xa f.len xc:=by
     obtain⟨_,⟨xa,xc,e,_⟩,_⟩:=HK.out.x;exact⟨xa,xc,e⟩
    subst e5;have hkl:=HK.out.lt;have hx4:=HK.out.blk.cell' 4 rfl;by_cases hf:f.len=0
    ·have hf1:decide ((0:Int)<(f.len:Int))=false:=by simp;omega
     have hf2:decide (0<f.len)=false:=Ag;replace HQ:=HQr HQ (by rw[if_pos hf]);have hx0:W5.cell? ⟨L,4,none⟩=some (.slice xa5 0 xc5):=by rw[←hf];exact hx4
     clear hx4;exact Gv
    ·have hf1:decide ((0:Int)<(f.len:Int))=true:=by simp;omega
     have hf2:decide (0<f.len)=true:=Ag;replace HQ:=HQr HQ (by rw[if_neg hf]);go_wp2_with fail;refine(CJ hp HTk.out J7 Ad).mono ?_;intro e w6 hq;obtain⟨g,⟨q,hr,rfl⟩| ⟨u,i6,v,hr,rfl,rfl,hp9⟩⟩:=hq.split
     ·exact BA
     have AV{P}(h:P:=by clear g hx4;have Ck{P}(h:P:=by have NZ{P}(h:P:=by have AV{P}(h:P:=by have fN{P}(h:P:=by exact Gv):=Aa h;exact YV):=Aa h;exact AT):=Aa h;exact N1):=Aa h;exact Ci):=Aa h;exact AT):=Aa h
    exact Zm):=Aa h;exact AT):=Aa h;exact Rj):=Aa h;exact Ci):=Aa h;exact AT):=Aa h;exact LT):=Aa h;exact QJ):=Aa h;exact Nl
  ·skip;replace HQ:=HQr HQ (by rw[if_neg h2]);replace HQ:=HQr HQ (by rw[Rd.bad_f]);have hs1:(s==[79,82,68,69,82])=false:=by have:s≠Hx:=fun e=>h2 (.inl e);simpa using this
   have hs2:(s==[70,73,76,84,69,82])=false:=by have:s≠IK:=fun e=>h2 (.inr (.inl e));simpa using this
   have hs3:(s==[82,69,76,65,84,73,79,78])=false:=by have:s≠I7:=fun e=>h2 (.inr (.inr e));simpa using this
   have hs4:(s==[69,88,65,67,84])=false:=by have:s≠KQ:=fun e=>h1 (.inl e);simpa using this
   have hs5:(s==[68,69,76,69,84,69,68])=false:=by have:s≠KH:=fun e=>h1 (.inr e);simpa using this
   exact T2):=Aa h
 exact Zd
end
theorem KS.ofV{b:Nat}{w w0 wr:World}{s:Sd}{pa xa na fa wa ba:Option Addr}{pc xc nc fc wc bc:Nat}(hz:Blk wr w.heap.size (stC 0 (.slice none 0 0)) 50)(gr:w.grownBy wr (some b))(hb:b<w.heap.size)(hw0:w.heap.size<w0.heap.size)
 (h1:SdRep (Ap w0.heap.size) wr s pa xa na fa wa pc xc nc fc wc) (h2:RepV (Ap w0.heap.size) wr true (.slice ba (Bl.nil).len bc) .nil):
 KS b w wr.heap.size (wr.alloc (.cells (sdC s (.slice pa s.p.length pc) (.slice xa s.x.len xc) (.slice ba (Bl.nil).len bc) (.slice na s.n.len nc) (.slice fa s.f.len fc) (.slice wa s.w.len wc)).toArray 50 (0,0))) s .nil (.slice pa s.p.length pc) (.slice xa s.x.len xc) (.slice ba (Bl.nil).len bc) (.slice na s.n.len nc) (.slice fa s.f.len fc) (.slice wa s.w.len wc):=by
 have hlt:=hz.lt;have g1:=World.grownBy_alloc wr (.cells (sdC s (.slice pa s.p.length pc) (.slice xa s.x.len xc) (.slice ba (Bl.nil).len bc) (.slice na s.n.len nc) (.slice fa s.f.len fc) (.slice wa s.w.len wc)).toArray 50 (0,0)) none;have hm:∀q,Ap w0.heap.size q→q<wr.heap.size→but w wr.heap.size q:=fun q hq hl=>by have:w0.heap.size≤q:=hq;exact⟨by omega,by omega⟩
 exact⟨Blk.new _ _ _,(h1.p.mono hm).gb g1 Ae,(h1.x.mono hm).gb g1 Ae,(RepV.mono' h2 hm).gb g1 Ae,(h1.n.mono hm).gb g1 Ae,(h1.f.mono hm).gb g1 Ae,(h1.w.mono hm).gb g1 Ae,Ar gr _,hb,hlt,hz.alloc _⟩
abbrev saidWords:List Bs:=[Gh,FW,Gd,Ge,wIF,wDO,BH,FE,FD,CD,CB,Hy]
section
variable {b:Nat}{tv:Value}{l:List Tok}{day:Bs→Int}{n:Nat}
theorem Vw{wd:Bs}(hw:saidWords.contains wd=false){w:World}{i:Nat}(h:Rr w b tv l (i,false))(hi:i<l.length){s:Sd}{st2:RS}
 (hC:∀W,Rr W b tv l (BT (i,false))→Calls Tryz.prog 192 #[.pointer (some ⟨b,0,none⟩),str wd] W (AM b tv l W (VSd W) (s,st2))):
 Calls Tryz.prog 136 #[.pointer (some ⟨b,0,none⟩),str wd] w (AM b tv l w (VSt w) ((s,.nil),Fi l st2)):=by
 have fB{P}(h:P:=by have HCC:=Z hC;clear hC;have EO{P}(h:P:=by have HC:=Z (HCC.out _ h1);clear HCC;go_wp2_with fail;refine HC.out.mono ?_;rintro e w2 ⟨g2,v,rfl,hv,h2⟩;obtain⟨pa,xa,na,fa,wa,ba,pc,xc,nc,fc,wc,bc,rfl,k1,k2⟩:=hv;have HK:=Z (KS.ofV (HZ.out.1.gb g2 Ag) (Ah HZ.out.2 g2) hb hl1 k1 k2);have hR2:=h2.alloc (.cells (sdC s (.slice pa s.p.length pc) (.slice xa s.x.len xc) (.slice ba (Bl.nil).len bc) (.slice na s.n.len nc) (.slice fa s.f.len fc) (.slice wa s.w.len wc)).toArray 50 (0,0));clear g2 k1 k2 h2 HC HZ;simp only[sdC];go_wp2_with fail;refine(BR hR2).mono ?_;rintro e w3 ⟨g3,v,rfl,rfl,h3⟩;replace HK:=Z (HK.out.gb g3);clear g3;have Kj{P}(h:P:=by have hres9:=Jl (HK).out h3;exact Rf):=Aa h;exact JW):=Aa h;exact EL):=Aa h;exact Y8
theorem oK{block:Rd l Bl}(hn:Al l)(hnn:n≤90000)(hE:CR 28 b tv l (AN l day n))(hok:∀i,At (Af l i)){wd:Bs}(hw:saidWords.contains wd=false):CL b tv l hn day n block wd:=by
 intro w i r h hi ho;have hne:∀v,v∈saidWords→wd≠v:=by
  rintro v hv rfl;exact LN
 unfold Bx at ho;rw[if_neg (by rintro(h|h|h|h)<;>exact hne _ Ad h),if_neg (hne wIF Ad),if_neg (hne wDO Ad),if_neg (hne BH Ad),if_neg (hne FE Ad),if_neg (hne FD Ad),if_neg (hne CD Ad),if_neg (hne CB Ad),if_neg (hne Hy Ad)]at ho;cases hc:cmdWords.contains wd with
 | true=>
   rw[hc,if_pos rfl,Rd.skip_g]at ho;obtain⟨s,st2,hs,ho⟩:=Rd.bind_g ho;rw[Rd.fin_g,Rd.pure_g]at ho;cases ho;exact Vw hw h hi (fun W hW=>l5 hn hnn hE hok hc W _ _ hW hs)
 | false=>
   rw[hc,if_neg Ae]at ho;cases ho;have hq:=Vw (s:=sd0 13 wd) (st2:=(i,true)) hw h hi (fun W hW=>yJ wd hc hW (by show 1≤i+1;omega));exact hq
end
def J0(l:List Tok)(E:Nat→Res Ex)(n i:Nat):Res StB:=
 if Ak (Af l i) [63]then(if(Af l (i+1)).kind==5 then .ok .nil (i+1)else D1 l E n (i+1)).bind fun x j=>(BP l j).bind fun _ j=> .ok ({sd0 1 []with x:=x},.nil) j
 else if(Af l i).kind==0&&Ak (Af l (i+1)) [40]then(FK l E n i).bind fun x j=>(BP l j).bind fun _ j=> .ok ({sd0 10 []with x:= .one x},.nil) j
 else(IJ l E i).bind fun t j=>(if Ak (Af l j) [61]then .ok () (j+1)else Br l [58,61] j).bind fun _ j=>(E j).bind fun x j=>(BP l j).bind fun _ j=> .ok ({sd0 0 []with x:= .two t x},.nil) j
theorem Ab4{l:List Tok}(hn:Al l)(day:Bs→Int)(n i:Nat):(Dy hn day n).f i=J0 l (Aw l day n) n i:=by
 unfold J0;show(if Ak (Af l i) [63]then _ else if Ak (Af l i) [38]then _ else _)=_;cases h63:Ak (Af l i) [63]with
 |true=>rfl
 | false=>
   simp only[Bool.false_eq_true,if_false];cases h38:Ak (Af l i) [38]with
   | true=>
     have hk:((Af l i).kind==0)=false:=by
      simp[Ak]at h38;simp[h38.1]
     rw[hk,if_pos rfl];simp only[Bool.false_and,Bool.false_eq_true,if_false];unfold IJ;rw[if_pos h38];rfl
   | false=>
     simp only[Bool.false_eq_true,if_false];have hT:IJ l (Aw l day n) i=(AW l i).bind fun s j=>
      if Ak (Af l j) [91]then(Aw l day n (j+1)).bind fun x k=>(Br l [93] k).bind fun _ k=> .ok (DN (AC s) x) k
      else if Ak (Af l j) [45,62]then(AW l (j+1)).bind fun t k=> .ok ⟨hd0 2 s,.one (AC t)⟩ k
      else .ok (AC s) j:=by unfold IJ;rw[if_neg (by rw[h38];simp)]
     rw[hT];show(AW l i).bind (fun s j=>(JB hn day n s).f j)=_;unfold FK;unfold AW;cases hk:(Af l i).kind==0&&DG (Af l i).text with
     | false=>
       simp only[Bool.false_eq_true,if_false,Res.bind_bad];split<;>rfl
     | true=>
       simp only[if_true,Res.bind_ok];have hk0:((Af l i).kind==0)=true:=by simp only[Bool.and_eq_true]at hk;exact hk.1
       rw[hk0,Bool.true_and];show(if Ak (Af l (i+1)) [40]then _ else if Ak (Af l (i+1)) [91]then _ else if Ak (Af l (i+1)) [45,62]then _ else _)=_;cases h40:Ak (Af l (i+1)) [40]with
       | true=>
         simp only[if_true];rw[Br,h40,if_pos rfl,Res.bind_ok];show((if Ak (Af l (i+1+1)) [41]then _ else _:Res Fo).bind _)=_;cases h41:Ak (Af l (i+1+1)) [41]with
         |true=>rfl
         | false=>
           simp only[Bool.false_eq_true,if_false];show((((D1 l (Aw l day n) n (i+1+1)).bind _):Res Fo).bind _)=_;rw[Res.bind_assoc,Res.bind_assoc];congr 1;funext f k;show(((Br l [41] k).bind _:Res Fo).bind _)=_;rw[Res.bind_assoc,Res.bind_assoc];rfl
       | false=>
         simp only[Bool.false_eq_true,if_false];cases h91:Ak (Af l (i+1)) [91]with
         | true=>
           simp only[if_true];rw[Res.bind_assoc];show(Aw l day n (i+1+1)).bind _=_;congr 1;funext x k;rw[Res.bind_assoc];rfl
         | false=>
           simp only[Bool.false_eq_true,if_false];cases h45:Ak (Af l (i+1)) [45,62]with
           | true=>
             simp only[if_true];rw[Res.bind_assoc];rfl
           |false=>rfl
def J3(b:Nat)(tv:Value)(l:List Tok)(i:Nat)(r:StB×RS):Prop:=
 ∀(w:World),Rr w b tv l (i,false)→Calls Tryz.prog 103 #[.pointer (some ⟨b,0,none⟩)] w (AM b tv l w (VSt w) r)
section
variable {b:Nat}{tv:Value}{l:List Tok}{day:Bs→Int}{n:Nat}
theorem rL{block:Rd l Bl}(hn:Al l)(hok:∀i,At (Af l i)){i:Nat}(hk:AR l wordsL i≠[])(hi:i<l.length)(hS:CL b tv l hn day n block (AR l wordsL i)){r:StB×RS}(ho:(Bx hn wordsL day n block (AR l wordsL i)).g (i,false)=some r):J3 b tv l i r:=by
 intro w h;have hb:=h.lt;have FV{P}(h:P:=by have h0:=h.alloc (.cells (stC 0 (.slice none 0 0)).toArray 50 (0,0));have HF:=Z (LW h0 hok);have HS:=Z (fun W (hW:Rr W b tv l (i,false))=>hS W i r hW hi ho);have HZ0:=Z (Ac hz (Ac gz h0));simp only at HF;generalize AR l wordsL i=s at*;have hs:(s !=[])=true:=BE;have hs0:(s==[])=false:=BE;clear h hS ho hz gz h0;go_enter func103,ntmps103;go_wp2_with fail;refine HF.out.mono ?_;rintro e w1 ⟨rfl,g1⟩;have HZ:=Z (Ac (HZ0.out.1.gb g1 Ae) (A0 HZ0.out.2.1 g1));have hR1:=HZ0.out.2.2.gbN g1;have HC:=Z (HS.out _ hR1);clear g1 HF HZ0;exact GW):=Aa h;exact FU
theorem oM(hn:Al l)(hnn:n≤90000)(hE:CR 28 b tv l (AN l day n))(hok:∀i,At (Af l i)){i:Nat}(hk:AR l wordsL i=[])(hs:A2 l [63] (i,false)=true){r:StB×RS}(ho:(Dy hn day n).g (i,false)=some r):J3 b tv l i r:=by
 intro w h;unfold Dy at ho;rw[Rd.ifs_g,hs,if_pos rfl]at ho;have N7{P}(h:P:=by
 rw[Rd.cond_g]at hf;have hb:=h.lt;have FV{P}(h:P:=by
 have R8{P}(h:P:=by
 rw[hs]at HT;clear hs hR1;have Dk{P}(h:P:=by
 replace h2:Rr w2 b tv l (Aq l [63] (i,false)):=h2;generalize hst2:Aq l [63] (i,false)=st2 at*;have hl2:=HZ.out.1.lt;have hs2:=g2.size;have HK:=Z (KS.start (o:=1) (s:=[]) (HZ.out.1.gb g2 Ag) (Ah HZ.out.2 g2) hb Ab);have hR3:=h2.alloc (.cells #[.int .i64 1,str [],str [],.slice none 0 0,.slice none 0 0,.slice none 0 0,.int .i64 0,.slice none 0 0,.slice none 0 0,.slice none 0 0] 50 (0,0));have HTk:=Z (ED hR3);clear g2 h2 HT HZ;cases hk5:(Af l st2.1).kind==5 with
 | true=>
   rw[show Rd.atEnd l st2.1=true from hk5,if_pos rfl,Rd.pure_g]at hf;have hkk:(Af l st2.1).kind=5:=by simpa using hk5
   clear hk5;cases hf;go_wp2_with fail;refine HTk.out.mono ?_;rintro e w4 ⟨rfl,g4⟩;rw[AG,hkk];replace HK:=Z (HK.out.gbN g4);have hR4:=hR3.gbN g4;clear g4 HTk hR3;go_wp2_with fail;refine(BR hR4).mono ?_;exact Nz
 | false=>
   rw[show Rd.atEnd l st2.1=false from hk5,if_neg Ae]at hf;have hkk:((Af l st2.1).kind !=5)=true:=by simp only[bne,hk5];rfl
   have HX:=Z (show FG l (AN l day n) (n+1) st2=some (f,st3)from hf);clear hf hk5;go_wp2_with fail;refine HTk.out.mono ?_;rintro e w4 ⟨rfl,g4⟩;rw[AG];replace HK:=Z (HK.out.gbN g4);have hR4:=hR3.gbN g4;have hkl4:=HK.out.lt;have hwL:=HK.out.wL;clear g4 HTk hR3;go_wp2_with fail;refine(Mr hE hR4 (n+1) Ab HX.out).mono ?_;have fK{P}(h:P:=by have hR6:=h5.gb (As (Aj w5 (some w2.heap.size)) 4 (.slice fa f.len fc)) A6;replace HK:=Z hK6;clear hK6 hF g5 h5 hR4;exact aX):=Aa h;exact YQ):=Aa h
 exact Dh):=Aa h;exact Q4):=Aa h;exact FU):=Aa h;exact LS
theorem oL(hn:Al l)(hE:CR 28 b tv l (AN l day n))(hok:∀i,At (Af l i)){i:Nat}(hk:AR l wordsL i=[])(hs:A2 l [63] (i,false)=false)(hm:Ak (Af l i) [38]=true){r:StB×RS}(ho:(Dy hn day n).g (i,false)=some r):J3 b tv l i r:=by
 intro w h;have e2:Aq l [63] (i,false)=(i,false):=by unfold Aq;rw[hs];rfl
 unfold Dy at ho;rw[Rd.ifs_g,hs,if_neg Ae,e2,Rd.cond_g,hm,if_pos rfl]at ho;obtain⟨t,st3,ht,ho⟩:=Rd.bind_g ho;rw[MC]at ho;have hb:=h.lt;have FV{P}(h:P:=by have R8{P}(h:P:=by rw[hs,e2]at HT;have HM:=Z (Ac hm (Ac ht ho));clear hs hR1 hm e2 ht ho;have Dk{P}(h:P:=by have fW{P}(h:P:=by have hb3:=hR3.lt;clear g3 HI h2;go_wp2_with fail;refine(Vu hE _ _ _ hR3 HM.out.2.1).mono ?_;rintro e w4 ⟨g4,v,rfl,hv,h4⟩;have hs4:=g4.size;have HC:=Z (Mx hE h4 (B:=w3.heap.size) Ab Ab hv HM.out.2.2);have G4:=Z g4;obtain⟨pa4,pc4,la4,lc4,rfl,_⟩:=id hv;clear h4 hv g4;go_wp2_with fail;refine HC.out.mono ?_;rintro e w5 ⟨g5,v,rfl,hv,h5⟩;obtain⟨s,st2⟩:=r;obtain⟨pa,xa,ba,na,fa,wa,pc,xc,bc,nc,fc,wc,rfl,hz2,hp,hbk⟩:=Og hb HZ.out.1 HZ.out.2 (Ah G4.out g5) hv h5;have HE:=Z (Ac hp hbk);have hkl2:=hz2.lt;obtain⟨cz_0,cz_1,cz_2,cz_3,cz_4,cz_5,cz_6,cz_7,cz_8,cz_9,cz_f⟩:=(hz2).c10;clear g5 hv h5 hz2 hp hbk HC;exact Oo):=Aa h;exact Zf):=Aa h;exact Dh):=Aa h;exact Q4):=Aa h;exact FU
end
section
variable {b:Nat}{tv:Value}{l:List Tok}{day:Bs→Int}{n:Nat}
theorem rK(hn:Al l)(hnn:n≤90000)(hE:CR 28 b tv l (AN l day n))(hok:∀i,At (Af l i)){i:Nat}(hk:AR l wordsL i=[])(hs:A2 l [63] (i,false)=false)(hm:Ak (Af l i) [38]=false){r:StB×RS}(ho:(Dy hn day n).g (i,false)=some r):J3 b tv l i r:=by
 intro w h;have e2:Aq l [63] (i,false)=(i,false):=by unfold Aq;rw[hs];rfl
 unfold Dy at ho;rw[Rd.ifs_g,hs,if_neg Ae,e2,Rd.cond_g,hm,if_neg Ae,Rd.name_g]at ho;have hb:=h.lt;have FV{P}(h:P:=by
 have R8{P}(h:P:=by
 rw[hs,e2]at HT;have HM:=Z (Ac hm ho);clear hs hR1 hm e2 ho;have Dk{P}(h:P:=by
 have fW{P}(h:P:=by
 clear g3 HI h2;go_wp2_with fail;refine(BY hR3).mono ?_;rintro e w5 ⟨g5,v,rfl,rfl,hR⟩;replace HZ:=Z (Ac (HZ.out.1.gb g5 Ag) (Ah HZ.out.2 g5));have hl5:=HZ.out.1.lt;have hb5:=hR.lt;have ho:=HM.out.2;clear g5 hR3 HM;generalize hnm:(Ax l (i,false)).1=s at*;generalize hst:(Ax l (i,false)).2=st3 at*;clear hnm hst;unfold JB at ho;rw[Rd.ifs_g]at ho;cases hsg:A2 l [40] st3 with
 | true=>
   rw[hsg,if_pos rfl]at ho;obtain⟨f,st4,hf,ho⟩:=Rd.bind_g ho;rw[Rd.fin_g,Rd.pure_g]at ho;cases ho;have HF:=Z (show GJ l (AN l day n) (n+1) [41] (Aq l [40] st3)=some (f,st4)from hf);clear hf;have HT:=Z (B9 hR [40]);rw[hsg]at HT;go_wp2_with fail;refine HT.out.mono ?_;rintro e w6 ⟨g7,v,rfl,rfl,h7⟩;have Kn{P}(h:P:=by
   clear hsg;go_wp2_with fail;refine(UP hE hR (n+1) Ab [41] HF.out).mono ?_;rintro e w7 ⟨g7,v,rfl,hv,h7⟩;obtain⟨fa,fc,rfl,hF⟩:=hv;simp only at hF h7;have hs7:=g7.size;have gA:=World.grownBy_alloc w7 (.cells (hdC (hd0 3 s) (.slice none 0 0) (.slice fa f.len fc)).toArray 29 (0,0)) none;have HXk:=Z (KE.new (x:=⟨hd0 3 s,f⟩) (ok:=fun q=>w.heap.size<q) (Cells.nil w7 1 (Ap w6.heap.size)) hF (fun q hq _=>by have h1:w6.heap.size≤q:=hq;omega));replace HZ:=Z (Ac ((HZ.out.1.gb g7 Ag).gb gA Ae) (A0 (Ah HZ.out.2 g7) gA));have hR8:=h7.gbN gA;have hb7:=h7.lt;clear g7 hF gA h7 hR;go_wp2_with fail;refine(BR hR8).mono ?_;rintro e w9 ⟨g9,v,rfl,rfl,h9⟩;replace HZ:=Z (Ac (HZ.out.1.gb g9 Ag) (Ah HZ.out.2 g9));replace HXk:=Z (HXk.out.gb g9 Ag (fun q hq _ e=>by cases e;have h1:w.heap.size<b:=hq;omega));have hcx:=HXk.out.blk;have hcz:=HZ.out.1;obtain⟨cx_0,cx_1,cx_2,cx_3,cx_4,cx_5,cx_6,cx_f⟩:=(hcx).c7;obtain⟨cz_0,cz_1,cz_2,cz_3,cz_4,cz_5,cz_6,cz_7,cz_8,cz_9,cz_f⟩:=(hcz).c10;have hlx:=hcx.lt;have hlz:=hcz.lt;clear hcx hcz g9 hR8;have HR9:=Z h9;clear h9;go_wp2;have g10:=FZ w9 w.heap.size (.int .i64 10) (str []) (str []) (.slice none 0 0) (.slice (some ⟨w9.heap.size,0,none⟩) 1 1) (.slice none 0 0) (.int .i64 0) (.slice none 0 0) (.slice none 0 0) (.slice none 0 0);have hne:∀q,w.heap.size<q→q<w9.heap.size→some q≠some w.heap.size:=fun q hq _ e=>by cases e;omega
   have R:=RepL.one (n:=w9.heap.size) (x:=⟨hd0 3 s,f⟩) Q0 hlz (HXk.out.rp.gb g10 hne) (HXk.out.rl.gb g10 hne);exact bodyPost_ret (FL rfl _ ((HZ.out.1.set10 (.int .i64 10) (str []) (str []) (.slice none 0 0) (.slice (some ⟨w9.heap.size,0,none⟩) 1 1) (.slice none 0 0) (.int .i64 0) (.slice none 0 0) (.slice none 0 0) (.slice none 0 0)).alloc _) rfl rfl) rfl
    ⟨Ar (A5 HZ.out.2 g10 (.inr (Nat.le_refl _))) _,_,rfl,StV.x (op:=10) (s:=[]) (f:= .one ⟨hd0 3 s,f⟩) (xa:=some ⟨w9.heap.size,0,none⟩) (xc:=1) (R.mono (fun q hq _=>Nat.le_of_lt hq)),(HR9.out.gb g10 A6).alloc _⟩):=Aa h
   exact Kc
 | false=>
   have e3:Aq l [40] st3=st3:=by unfold Aq;rw[hsg];rfl
   rw[hsg,if_neg Ae,e3,Rd.ifs_g]at ho;have HT:=Z (B9 hR [40]);rw[hsg]at HT;go_wp2_with fail;refine HT.out.mono ?_;rintro e w6 ⟨g7,v,rfl,rfl,h7⟩;have Kn{P}(h:P:=by
   rw[e3]at hR;clear e3 hsg;cases hsg:A2 l [91] st3 with
   | true=>
     rw[hsg,if_pos rfl]at ho;obtain⟨x,st4,hx,ho⟩:=Rd.bind_g ho;rw[Rd.want_g,MC]at ho;have HX:=Z (Ac hx ho);clear hx ho;have dP{P}(h:P:=by
     have Kn{P}(h:P:=by
     clear hsg;go_wp2_with fail;refine(hE _ _ _ hR HX.out.1).mono ?_;rintro e w8 ⟨g8,v,rfl,⟨pa,pc,la,lc,rfl,rp,rl⟩,h8⟩;simp only at rp rl h8 ⊢;have hs8:=g8.size;have hb8:=h8.lt;have gA:=World.grownBy_alloc w8 (.cells (hdC x.h (.slice pa x.h.p.length pc) (.slice la x.kids.len lc)).toArray 29 (0,0)) none;have HXk:=Z (KE.new (ok:=Ap w7.heap.size) rp rl (fun q hq _=>hq));have G8:=A0 g8 gA;have hR9:=h8.gbN gA;clear rp rl gA h8 hR g8;go_wp2_with fail;refine(E8 hR9 [93]).mono ?_;rintro e w10 ⟨g10,v,rfl,rfl,h10⟩;replace HXk:=Z (HXk.out.gb g10 Ag (fun q hq _ e=>by cases e;have h1:w7.heap.size≤b:=hq;omega));have hcx:=HXk.out.blk;obtain⟨cx_0,cx_1,cx_2,cx_3,cx_4,cx_5,cx_6,cx_f⟩:=(hcx).c7;have hlx:=hcx.lt;have G10:=Ah G8 g10;have hs10:=G10.size;have hb10:=h10.lt;have gB:=World.grownBy_alloc w10 (.cells (hdC (AC s).h (.slice none 0 0) (.slice none 0 0)++hdC x.h (.slice pa x.h.p.length pc) (.slice la x.kids.len lc)).toArray 29 (0,0)) none;have hV:VE (Ap w7.heap.size) (w10.alloc (.cells (hdC (AC s).h (.slice none 0 0) (.slice none 0 0)++hdC x.h (.slice pa x.h.p.length pc) (.slice la x.kids.len lc)).toArray 29 (0,0))) (exV (hd0 6 []) (.slice none 0 0) (.slice (some ⟨w10.heap.size,0,none⟩) 2 2)) (DN (AC s) x):=
      VE.node (f:= .two (AC s) x) (RepL.two (x:=AC s) (y:=x) rfl hs10 (Cells.nil _ _ _) (RepL.nil _ _) HXk.out.rp HXk.out.rl)
     have HC:=Z (Mx hE (h10.gbN gB) (B:=w7.heap.size) Ab Ag hV HX.out.2);have G4:=Z (A0 G10 gB);clear gB hV h10 G10 g10 hR9 hcx G8;exact Q6):=Aa h;exact Kc):=Aa h;exact TI
   | false=>
     have e3:Aq l [91] st3=st3:=by unfold Aq;rw[hsg];rfl
     rw[hsg,if_neg Ae,e3,Rd.ifs_g]at ho;have dP{P}(h:P:=by
     have Kn{P}(h:P:=by
     rw[e3]at hR;clear e3 hsg;cases hsg:A2 l [45,62] st3 with
     | true=>
       rw[hsg,if_pos rfl,Rd.name_g,MC]at ho;have HO:=Z ho;clear ho;have cO{P}(h:P:=by
       have Kn{P}(h:P:=by
       clear hsg;go_wp2_with fail;refine(BY hR).mono ?_;rintro e w10 ⟨g10,v,rfl,rfl,h10⟩;replace HZ:=Z (Ac (HZ.out.1.gb g10 Ag) (Ah HZ.out.2 g10));have hl10:=HZ.out.1.lt;have hb10:=h10.lt;have ho:=HO.out;clear g10 hR HO;generalize hnm:(Ax l (Aq l [45,62] st3)).1=t at*;generalize hst:(Ax l (Aq l [45,62] st3)).2=st4 at*;clear hnm hst;have gA:=World.grownBy_alloc w10 (.cells (hdC (AC t).h (.slice none 0 0) (.slice none 0 0)).toArray 29 (0,0)) none;have hV:VE (Ap w10.heap.size) (w10.alloc (.cells (hdC (AC t).h (.slice none 0 0) (.slice none 0 0)).toArray 29 (0,0))) (exV (hd0 2 s) (.slice none 0 0) (.slice (some ⟨w10.heap.size,0,none⟩) 1 1)) ⟨hd0 2 s,.one (AC t)⟩:=
        VE.node (f:= .one (AC t)) (RepL.one (x:=AC t) rfl (Nat.le_refl _) (Cells.nil _ _ _) (RepL.nil _ _))
       have HC:=Z (Mx hE (h10.gbN gA) (B:=w10.heap.size) Ab Ae hV ho);have G4:=Z (AY (r:=some b) gA);clear gA hV h10;exact Q6):=Aa h;exact Kc):=Aa h;exact SW
     | false=>
       have e3:Aq l [45,62] st3=st3:=by unfold Aq;rw[hsg];rfl
       rw[hsg,if_neg Ae,e3,MC]at ho;have cO{P}(h:P:=by have Kn{P}(h:P:=by rw[e3]at hR;clear e3 hsg;have HC:=Z (Mx hE hR (B:=w8.heap.size) Ab Ab (show VE (Ap w8.heap.size) w8 (exV (AC s).h (.slice none 0 0) (.slice none 0 0)) (AC s)from⟨none,0,none,0,rfl,Cells.nil _ _ _,RepL.nil _ _⟩) ho);have G4:=Z (Aj w8 (some b));clear hR;exact Q6):=Aa h;exact Kc):=Aa h;exact SW):=Aa h
     exact Kc):=Aa h;exact TI):=Aa h
   exact Kc):=Aa h
 exact Zf):=Aa h;exact Dh):=Aa h;exact Q4):=Aa h;exact FU
end
structure Pd where
 name:Bs
 fn:Bool
 p:List Bs
 body:Bl
def GS(a b:Pd):Bool:=((a.name==b.name&&(a.fn==b.fn))&&CF a.p b.p)&&AP a.body b.body
def C9:List Pd→List Pd→Bool
 | [],[]=>true
 |a::r,b::s=>GS a b&&C9 r s
 |_,_=>false
theorem tV(a:Pd):GS a a=true:=by simp[GS,CF,sU]
theorem sV:∀l:List Pd,C9 l l=true:=by
 intro l;induction l with
 |nil=>rfl
 |cons a r ih=>simp[C9,tV,ih]
theorem xJ:∀{l m:List Pd},C9 l m=true→l.length=m.length:=by
 intro l;induction l with
 |nil=>intro m h;cases m<;>first|rfl|cases h
 | cons a r ih=>
   intro m h;cases m with
   |nil=>cases h
   | cons b s=>
     simp only[C9,Bool.and_eq_true]at h;simp[ih h.2]
def pdC(h:Pd)(pv bv:Value):List Value:=[str h.name,.bool h.fn,pv,bv]
def RepP(ok:Nat→Prop)(w:World):List Pd→List Value→Prop
 | [],cs=>cs=[]
 |h::r,cs=>∃pa ba,∃pc bc,∃rest,cs=pdC h (.slice pa h.p.length pc) (.slice ba h.body.len bc)++rest∧Cells w (.slice pa h.p.length pc) 1 h.p.length (h.p.map str) ok∧RepV ok w false (.slice ba h.body.len bc) h.body∧RepP ok w r rest
def RepQ(ok:Nat→Prop)(w:World)(v:Value)(l:List Pd):Prop:=∃cs,Cells w v 4 l.length cs ok∧RepP ok w l cs
theorem RepP.gb{w w1:World}{ok:Nat→Prop}{r:Option Nat}(g:w.grownBy w1 r)(hk:∀k,ok k→k<w.heap.size→some k≠r):∀{l:List Pd}{cs:List Value},RepP ok w l cs→RepP ok w1 l cs:=by
 intro l;induction l with
 |nil=>intro cs h;exact h
 | cons a s ih=>
   rintro cs ⟨pa,ba,pc,bc,rest,e,h1,h2,h3⟩;exact⟨pa,ba,pc,bc,rest,e,h1.gb g hk,h2.gb g hk,ih h3⟩
theorem RepQ.gb{w w1:World}{ok:Nat→Prop}{r:Option Nat}{v:Value}{l:List Pd}(h:RepQ ok w v l)(g:w.grownBy w1 r)(hk:∀k,ok k→k<w.heap.size→some k≠r):RepQ ok w1 v l:=by
 exact O6
theorem RepP.elem{ok:Nat→Prop}{w:World}{la:Option Addr}{cs:List Value}{h:Pd}{r:List Pd}{k:Nat}(hc:∀j u,cs[j]? =some u→∃g o,la=some ⟨g,o,none⟩∧ok g∧w.cell? ⟨g,o+j,none⟩=some u)
 (hr:RepP ok w (h::r) (cs.drop (k*4))):∃pa ba,∃pc bc,Cells w (.slice pa h.p.length pc) 1 h.p.length (h.p.map str) ok∧RepV ok w false (.slice ba h.body.len bc) h.body∧RepP ok w r (cs.drop ((k+1)*4))∧
  ∀i u,(pdC h (.slice pa h.p.length pc) (.slice ba h.body.len bc))[i]? =some u→∃g o,la=some ⟨g,o,none⟩∧ok g∧w.cell? ⟨g,o+(k*4+i),none⟩=some u:=by
 obtain⟨pa,ba,pc,bc,rest,e,h1,h2,h3⟩:=hr;exact⟨pa,ba,pc,bc,h1,h2,(Po (n:=4) rfl e) ▸ h3,fun i u hu=>hc _ u (PC e hu)⟩
theorem k9{w:World}{ok ok':Nat→Prop}{la lb:Option Addr}{lc ld:Nat}{a b:Bl}(ha:RepV ok w false (.slice la a.len lc) a)(hb:RepV ok' w false (.slice lb b.len ld) b):
 Calls Tryz.prog 40 #[.slice la a.len lc,.slice lb b.len ld] w fun e w'=>e= .returned (.bool (AP a b))∧w.grownBy w' none:=
 oO _ a b (Nat.lt_succ_self _) ok ok' la lb lc ld w ha hb
open Go.Maps Go.WideMaps Go.ChangeMaps Go.MapKept
theorem lawS:Keyed Tryz.prog 9:=string_keyed underlying9
theorem zeroB(w:World):(zeroValue 4).run Tryz.prog w= .ok (.bool false) w:=Bk
def Cnt(k:Nat)(F:Nat×Nat→Nat×Nat)(N L:Nat):Prop:=∀s:Nat×Nat,k≤s.2→(s.1≤(F s).1∧s.2≤(F s).2)∧
 Bf (F s).1 (F s).2=Bf (s.1+N) (max s.2 (k+L))∧(Bf (s.1+N) (max s.2 (k+L))=false→F s=(s.1+N,max s.2 (k+L)))
theorem Mf(f:Fo)(k:Nat):Cnt k (Be f k) f.nodes f.levels:=fun s hk=>⟨Xk f k s,Aan f k s hk⟩
theorem Xl(k:Nat):Cnt k id 0 0:=fun s hk=>by
 have e:max s.2 (k+0)=s.2:=Ab
 rw[e]
 exact⟨⟨Nat.le_refl _,Nat.le_refl _⟩,rfl,fun _=>rfl⟩
theorem Cnt.comp{k:Nat}{F G:Nat×Nat→Nat×Nat}{N L N' L':Nat}(hF:Cnt k F N L)(hG:Cnt k G N' L'):Cnt k (fun s=>G (F s)) (N+N') (max L L'):=by
 intro s hk;obtain⟨f1,f2,f3⟩:=hF s hk;obtain⟨g1,g2,g3⟩:=hG (F s) Ab;have e1:s.1+(N+N')=s.1+N+N':=Ab;have e2:max s.2 (k+max L L')=max (max s.2 (k+L)) (k+L'):=Ab;show(s.1≤(G (F s)).1∧s.2≤(G (F s)).2)∧Bf (G (F s)).1 (G (F s)).2=_∧(_→G (F s)=_);refine⟨by omega,?_⟩;rw[e1,e2];cases h:Bf (s.1+N) (max s.2 (k+L))with
 | true=>
   rw[h]at f2;have ha:=Hh f2 g1.1 g1.2;have hb:=Hh h (show s.1+N≤s.1+N+N' by omega) (show max s.2 (k+L)≤max (max s.2 (k+L)) (k+L')by omega);rw[ha,hb];exact⟨rfl,fun h=>by cases h⟩
 | false=>
   have hs:=f3 h;rw[hs]at g2 g3;simp only at g2 g3 ⊢;rw[hs];exact⟨g2,g3⟩
theorem Cnt.node{k:Nat}{F G:Nat×Nat→Nat×Nat}{N L N' L':Nat}(hF:Cnt (k+1) F N L)(hG:Cnt k G N' L'):
 Cnt k (fun s=>if Bf (s.1+1) (max s.2 (k+1))then(s.1+1,max s.2 (k+1))else G (F (s.1+1,max s.2 (k+1)))) (1+N+N') (max (1+L) L'):=by
 intro s hk;have e1:s.1+(1+N+N')=s.1+1+N+N':=Ab;have e2:max s.2 (k+max (1+L) L')=max (max (max s.2 (k+1)) (k+1+L)) (k+L'):=Ab;rw[e1,e2];cases h:Bf (s.1+1) (max s.2 (k+1))with
 | true=>
   have hb:=Hh h (show s.1+1≤s.1+1+N+N' by omega) (show max s.2 (k+1)≤max (max (max s.2 (k+1)) (k+1+L)) (k+L')by omega);simp only[h,if_true];rw[hb];exact⟨⟨by omega,by omega⟩,rfl,fun h=>by cases h⟩
 | false=>
   simp only[h,Bool.false_eq_true,if_false];obtain⟨f1,f2,f3⟩:=hF (s.1+1,max s.2 (k+1)) (by simp only;omega);simp only at f1 f2 f3;obtain⟨g1,g2,g3⟩:=hG (F (s.1+1,max s.2 (k+1))) Ab;refine⟨by omega,?_⟩;cases h2:Bf (s.1+1+N) (max (max s.2 (k+1)) (k+1+L))with
   | true=>
     rw[h2]at f2;have ha:=Hh f2 g1.1 g1.2;have hb:=Hh h2 (show s.1+1+N≤s.1+1+N+N' by omega) (show max (max s.2 (k+1)) (k+1+L)≤max (max (max s.2 (k+1)) (k+1+L)) (k+L')by omega);rw[ha,hb];exact⟨rfl,fun h=>by cases h⟩
   | false=>
     have hs:=f3 h2;rw[hs]at g2 g3;simp only at g2 g3 ⊢;rw[hs];exact⟨g2,g3⟩
def BN:Bl→Nat→Nat×Nat→Nat×Nat
 | .nil,_,s=>s
 | .st h b next,k,s=>if Bf (s.1+1) (max s.2 (k+1))then(s.1+1,max s.2 (k+1))else
  BN next k (BN b (k+1) (Be h.w (k+1) (Be h.f (k+1) (Be h.n (k+1) (Be h.x (k+1) (s.1+1,max s.2 (k+1)))))))
 | .bl b next,k,s=>BN next k (BN b k s)
theorem Cnt.eqs{k:Nat}{F:Nat×Nat→Nat×Nat}{N L N' L':Nat}(h:Cnt k F N L)(e:N=N')(e':L=L'):Cnt k F N' L':=e ▸ e' ▸ h
theorem sQ:∀(b:Bl)(k:Nat),Cnt k (BN b k) b.nodes b.levels:=by
 intro b;induction b with
 |nil=>exact fun k=>Xl k
 | st h b next ihb ihn=>
   intro k;have h1:=((((Mf h.x (k+1)).comp (Mf h.n (k+1))).comp (Mf h.f (k+1))).comp (Mf h.w (k+1))).comp (ihb (k+1));exact(h1.node (ihn k)).eqs (by simp only[Bl.nodes,Sd.nodes];omega) (by simp only[Bl.levels,Sd.levels];omega)
 | bl b next ihb ihn=>
   intro k;exact((ihb k).comp (ihn k)).eqs (by simp only[Bl.nodes]) (by simp only[Bl.levels])
def DI(a:List Bl):Nat:=a.foldr (fun b n=>max b.levels n) 0
def IG(a:List Bl):Nat:=a.foldr (fun b n=>b.nodes+n) 0
def GQ:List Bl→Nat×Nat→Nat×Nat
 | [],s=>s
 |b::r,s=>GQ r (BN b 0 s)
theorem yZ:∀a:List Bl,Cnt 0 (GQ a) (IG a) (DI a):=by
 intro a;induction a with
 |nil=>exact Xl 0
 |cons b r ih=>exact((sQ b 0).comp ih).eqs rfl rfl
theorem WY:∀(f:Bl)(k:Nat)(s:Nat×Nat),(BN f k s).1≤s.1+f.nodes:=by
 intro f;induction f with
 |nil=>intro k s;exact Nat.le_refl _
 | st h b next ihb ihn=>
   intro k s;unfold BN;simp only[Bl.nodes];split
   ·simp;omega
   ·have h1:=Gj h.x (k+1) (s.1+1,max s.2 (k+1));have h2:=Gj h.n (k+1) (Be h.x (k+1) (s.1+1,max s.2 (k+1)));have h3:=Gj h.f (k+1) (Be h.n (k+1) (Be h.x (k+1) (s.1+1,max s.2 (k+1))));have h4:=Gj h.w (k+1) (Be h.f (k+1) (Be h.n (k+1) (Be h.x (k+1) (s.1+1,max s.2 (k+1)))));have h5:=ihb (k+1) (Be h.w (k+1) (Be h.f (k+1) (Be h.n (k+1) (Be h.x (k+1) (s.1+1,max s.2 (k+1))))));have h6:=ihn k (BN b (k+1) (Be h.w (k+1) (Be h.f (k+1) (Be h.n (k+1) (Be h.x (k+1) (s.1+1,max s.2 (k+1)))))));simp only[Sd.nodes]at*;omega
 | bl b next ihb ihn=>
   intro k s;have h1:=ihb k s;have h2:=ihn k (BN b k s);show(BN next k (BN b k s)).1≤s.1+(b.nodes+next.nodes);omega
theorem Me{w W:World}{b k:Nat}{f:Fo}{s:Nat×Nat}{la:Option Addr}{lc:Nat}{z:Int}(hf:RepL (· ≠ b) w (.slice la f.len lc) f)(g:w.grownBy W (some b))(hC:Cn W b s)(h1:f.nodes≤100000)(h2:s.1+f.nodes≤1000000)(h3:k≤800000)(hz:z=((k+1:Nat):Int)):
 Calls Tryz.prog 30 #[.pointer (some ⟨b,0,none⟩),.slice la f.len lc,.int .i64 z] W (PT W b (Be f k s)):=by
 subst hz;exact wT b (f.nodes+1) f (Nat.lt_succ_self _) h1 la lc W s k h2 Ab (hf.gb g Qh) hC
theorem zA(b:Nat):∀(N:Nat)(f:Bl),f.wt<N→∀(la:Option Addr)(lc:Nat)(w:World)(s:Nat×Nat)(k:Nat),f.nodes≤100000→s.1+f.nodes≤900000→k+f.wt≤700000→RepV (· ≠ b) w false (.slice la f.len lc) f→Cn w b s→
 Calls Tryz.prog 76 #[.pointer (some ⟨b,0,none⟩),.slice la f.len lc,.int .i64 ((k+1:Nat):Int)] w (PT w b (BN f k s)):=by
 intro N;induction N with
 |zero=>intro f hN;omega
 | succ N ih=>
   intro f hN la lc w s k hfn hs hkN hf hC;have RR{P}(h:P:=by
   have HC:=Z (Ac hc1 ih);have HR:=Z (Ac hr1 hC);have hb:=Blk.lt hC;clear hc1 ih hr1 hC;generalize hT:BN f k s=T;go_enter func76,ntmps76;go_wp2_with fail;go_loopg [6,7] f.len (fun g v6 v7 wr=>∃rf:Bl,∃i:Nat,∃t:Nat×Nat,rf.len=g∧i+g=f.len∧v6= .int .i64 i∧t.1+rf.nodes≤900000∧rf.nodes≤f.nodes∧rf.wt≤f.wt∧BN rf k t=T∧RepT (· ≠ b) w rf false (cs.drop (i*10))∧Cn wr b t∧w.grownBy wr (some b))
   case atStart=>exact⟨f,0,s,rfl,by omega,rfl,hs,Nat.le_refl _,Nat.le_refl _,hT,by simpa using HR.out.1,HR.out.2,Aj _ _⟩
   case round=>
    obtain⟨rf,i,⟨n,m⟩,hn,hk,rfl,ht,hrn,hrw,hcnt,hrf,hCt,hgr⟩:=hrel;clear HR hT;cases rf with
    |bl _ _=>exact hrf.elim
    | nil=>
      have hkI:decide (i<f.len)=false:=by simp[Bl.len]at hn;simp;omega
      exact aN
    | st h1 k1 n1=>
      simp only[Bl.len]at hn;simp only[Bl.nodes,Sd.nodes]at ht hrn;simp only[Bl.wt]at hrw;subst hn;have hkI:decide (i<f.len)=true:=Ag;obtain⟨pa,xa,na,fa,wa,ba,pc,xc,nc,fc,wc,bc,hSd,hbv,hx1,ha1⟩:=RepT.elem (k:=i) HC.out.1 hrf;have HA:=Z (WW hCt (k+1) Ab);unfold BN at hcnt;simp only at hcnt;have i0:(0:Int)≤(i:Int):=Ab;have i1:(i:Int)<(f.len:Int):=Ab;have i2:i<f.len:=Ab;have HN:=Z (Ac hcnt (Ac hx1 (Ac hgr (Ac hSd hbv))));obtain⟨g1,o1,rfl,hok1,z4⟩:=ha1 4 _ rfl;obtain⟨_,_,e1,_,z5⟩:=ha1 5 _ rfl;cases e1;obtain⟨_,_,e1,_,z7⟩:=ha1 7 _ rfl;cases e1;obtain⟨_,_,e1,_,z8⟩:=ha1 8 _ rfl;cases e1;obtain⟨_,_,e1,_,z9⟩:=ha1 9 _ rfl;cases e1;rw[←Nat.add_assoc]at z4 z5 z7 z8 z9;have HZ:=Z (Ac z4 (Ac z7 (Ac z8 (Ac z9 z5))));have hgl:=World.block_lt_of_cell? w _ z4;have hne:some g1≠some b:=fun e=>hok1 Qo;clear hcnt hrf hSd hbv hx1 ha1 hCt hgr z4 z5 z7 z8 z9;go_wp2_with fail;refine HA.out.mono ?_;rintro e w2 ⟨rfl,g2,hC2⟩;have G2:=Ah HN.out.2.2.1 g2;cases hL:Bf (n+1) (max m (k+1))with
      | true=>
        have HF:=Z (Ac G2 (Ac hC2 (show(n+1,max m (k+1))=T by rw[←HN.out.1,hL];rfl)));clear hL g2 hC2 G2;go_wp2;go_end0;exact⟨rfl,HF.out.1,by rw[←HF.out.2.2];exact HF.out.2.1⟩
      | false=>
        have hF:=HN.out.1;rw[hL,if_neg Ae]at hF;have hw1:IntKind.i64.wrap (((k+1:Nat):Int)+1)=((k+1+1:Nat):Int):=by rw[IntWalk.i64_in _ Ab];push_cast;rfl
        have hSd:=HN.out.2.2.2.1;have e1:=Gj h1.x (k+1) (n+1,max m (k+1));have y4:=B6 G2 HZ.out.1 hne;have hlt2:=Blk.lt hC2;have hgl2:=World.block_lt_of_cell? w2 _ y4;have HX:=Z (Me hSd.x G2 hC2 (k:=k+1) Ab (by simp only;omega) Ab rfl);have HG2:=Z G2;have HFF:=Z hF;clear hL g2 hC2 hF G2;go_wp2_with fail;refine HX.out.mono ?_;rintro e w3 ⟨rfl,g3,hC3⟩;have G3:=Ah HG2.out g3;generalize hs3:Be h1.x (k+1) (n+1,max m (k+1))=s3 at*;have e2:=Gj h1.n (k+1) s3;clear y4 hlt2 hgl2;have y7:=B6 G3 HZ.out.2.1 hne;have hlt3:=Blk.lt hC3;have hgl3:=World.block_lt_of_cell? w3 _ y7;have HX:=Z (Me hSd.n G3 hC3 (k:=k+1) Ab Ab Ab rfl);have HG3:=Z G3;clear g3 hC3 G3;go_wp2_with fail;refine HX.out.mono ?_;rintro e w4 ⟨rfl,g4,hC4⟩;have G4:=Ah HG3.out g4;generalize hs4:Be h1.n (k+1) s3=s4 at*;have e3:=Gj h1.f (k+1) s4;clear y7 hlt3 hgl3;have y8:=B6 G4 HZ.out.2.2.1 hne;have hlt4:=Blk.lt hC4;have hgl4:=World.block_lt_of_cell? w4 _ y8;have HX:=Z (Me hSd.f G4 hC4 (k:=k+1) Ab Ab Ab rfl);have HG4:=Z G4;clear g4 hC4 G4;go_wp2_with fail;refine HX.out.mono ?_;rintro e w5 ⟨rfl,g5,hC5⟩;have G5:=Ah HG4.out g5;generalize hs5:Be h1.f (k+1) s4=s5 at*;have e4:=Gj h1.w (k+1) s5;clear y8 hlt4 hgl4;have y9:=B6 G5 HZ.out.2.2.2.1 hne;have hlt5:=Blk.lt hC5;have hgl5:=World.block_lt_of_cell? w5 _ y9;have HX:=Z (Me hSd.w G5 hC5 (k:=k+1) Ab Ab Ab rfl);have HG5:=Z G5;clear g5 hC5 G5;go_wp2_with fail;refine HX.out.mono ?_;rintro e w6 ⟨rfl,g6,hC6⟩;have G6:=Ah HG5.out g6;generalize hs6:Be h1.w (k+1) s5=s6 at*;clear y9 hlt5 hgl5
        obtain⟨kcs,hck,hrk⟩:=HN.out.2.2.2.2;obtain⟨_,_,e,hkle,hkmx,_,hck⟩:=hck;cases e;have hkmax:k1.len≤maxLen:=Ab;unfold maxLen at hkmax;have HK:=Z (Ac hck hrk);have HT1:=Z (show BN n1 k (BN k1 (k+1) s6)=T by have:=HFF.out;simpa only[hs3,hs4,hs5,hs6]using this);have H6:=Z (Ac hC6 G6);have hle6:=Gj h1.w (k+1) s5;rw[hs6]at hle6;have e1':=e1;have hs6b:s6.1+k1.nodes+n1.nodes≤900000:=Ab;clear hck hrk hkle hkmx HX HG2 HG3 HG4 HG5 HFF g6 hC6 G6;go_wp2_with fail;go_loopg [7] k1.len (fun g v7 wr2=>∃rb:Bl,∃j:Nat,∃u:Nat×Nat,rb.len=g∧j+g=k1.len∧v7= .int .i64 j∧u.1+rb.nodes+n1.nodes≤900000∧rb.nodes≤k1.nodes∧rb.wt≤k1.wt∧BN rb (k+1) u=BN k1 (k+1) s6∧RepT (· ≠ b) w rb true (kcs.drop j)∧Cn wr2 b u∧w.grownBy wr2 (some b))
        case atStart=>exact⟨k1,0,s6,rfl,by omega,rfl,hs6b,Nat.le_refl _,Nat.le_refl _,rfl,by simpa using HK.out.2,H6.out.1,H6.out.2⟩
        case round=>
         obtain⟨rb,j,u,hnj,hkj,rfl,hu,hrbn,hrbw,hcb,hrb,hCu,hg2⟩:=hrel;have y5:=B6 hg2 HZ.out.2.2.2.2 hne;have hgl7:=World.block_lt_of_cell? _ _ y5;cases rb with
         |st _ _ _=>exact hrb.elim
         | nil=>
           have hjI:decide (j<k1.len)=false:=by simp[Bl.len]at hnj;simp;omega
           have HE:=Z (Ac hCu (Ac hg2 (show BN n1 k u=T by rw[←HT1.out,←hcb];rfl)));simp only[Bl.nodes]at hu;clear hrb hCu hg2 hcb;go_wp2;go_roundg n1.len
           case measure=>omega
           case rel=>exact⟨n1,i+1,u,rfl,by omega,by go_num,by omega,by omega,by omega,HE.out.2.2,HN.out.2.1,HE.out.1,HE.out.2.1⟩
         | bl b1 nx=>
           simp only[Bl.len]at hnj;simp only[Bl.nodes]at hu hrbn;simp only[Bl.wt]at hrbw;subst hnj;have hjI:decide (j<k1.len)=true:=Ag;obtain⟨bb,bd,hbb,hnx,gB,oB,e9,hokB,cB⟩:=RepT.elemB (k:=j) HK.out.1 hrb;subst e9;have j0:(0:Int)≤(j:Int):=Ab;have j1:(j:Int)<(k1.len:Int):=Ab;have yB:=B6 hg2 cB (fun e=>hokB Qo);have hglB:=World.block_lt_of_cell? _ _ yB;have hle7:=WY b1 (k+1) u;have HE:=Z (HC.out.2 b1 Ab bb bd _ u (k+1) Ab Ab Ab (hbb.gb hg2 Qh) hCu);have HM:=Z (Ac hg2 (Ac hnx (show BN nx (k+1) (BN b1 (k+1) u)=BN k1 (k+1) s6 from hcb)));clear hrb hCu hg2 hcb hbb hnx cB;go_wp2_with fail;refine HE.out.mono ?_;rintro e w7 ⟨rfl,g7,hC7⟩;have HG:=Z (Ac (Ah HM.out.1 g7) hC7);clear g7 hC7 y5 yB;go_wp2;go_roundg nx.len
           case measure=>omega
           case rel=>exact⟨nx,j+1,_,rfl,by omega,by go_num,by omega,by omega,by omega,HM.out.2.2,HM.out.2.1,HG.out.2,HG.out.1⟩):=Aa h
   exact QW
theorem RepV.mono{w:World}{ok ok':Nat→Prop}{k:Bool}{v:Value}{b:Bl}(h:RepV ok w k v b)(hk:∀k,ok k→k<w.heap.size→ok' k):RepV ok' w k v b:=by
 obtain⟨cs,h1,h2⟩:=h;exact⟨cs,h1.mono hk,h2.monoE hk⟩
def C6(l:List Pd):Nat:=IG (l.map Pd.body)
theorem Uk(a:Pd)(r:List Pd):C6 (a::r)=a.body.nodes+C6 r:=rfl
theorem xE{w:World}{la:Option Addr}{lc:Nat}{l:List Pd}(hf:RepQ (fun _=>True) w (.slice la l.length lc) l)(hn:C6 l≤100000)(hw:∀p∈l,p.body.wt≤700000):
 Calls Tryz.prog 39 #[.slice la l.length lc] w fun e w'=>∃q,e= .returned (.pointer (some ⟨q,0,none⟩))∧w.heap.size≤q∧Cn w' q (GQ (l.map Pd.body) (0,0))∧w.grownBy w' none:=by
 have RN{P}(h:P:=by
 have HC:=Z hc1;have g0:=World.grownBy_alloc w (.cells #[.int .i64 0,.int .i64 0] 66 (0,0)) none;have HR:=Z (Ac hr1 (Ac (show Cn (w.alloc (.cells #[.int .i64 0,.int .i64 0] 66 (0,0))) w.heap.size (0,0)from Blk.new w [.int .i64 0,.int .i64 0] _) g0));have HW:=Z hw;clear hc1 hr1 g0 hw;generalize hT:GQ (l.map Pd.body) (0,0)=T;go_enter func39,ntmps39;go_wp2_with fail;go_loopg [4] l.length (fun g v4 wr=>∃r:List Pd,∃i:Nat,∃t:Nat×Nat,r.length=g∧i+g=l.length∧v4= .int .i64 i∧t.1+C6 r≤100000∧(∀p∈r,p.body.wt≤700000)∧GQ (r.map Pd.body) t=T∧RepP (fun _=>True) w r (cs.drop (i*4))∧Cn wr w.heap.size t∧w.grownBy wr none)
 case atStart=>exact⟨l,0,(0,0),rfl,by omega,rfl,by simpa using hn,HW.out,hT,by simpa using HR.out.1,HR.out.2.1,HR.out.2.2⟩
 case round=>
  obtain⟨r,i,t,hg,hk,rfl,ht,hwt,hcnt,hrf,hCt,hgr⟩:=hrel;clear HR hT;cases r with
  | nil=>
    have hkI:decide (i<l.length)=false:=by simp at hg;simp;omega
    have HG:=Z (Ac hgr (Ac hCt (show t=T from hcnt)));clear hgr hg hrf hCt hcnt hwt;go_wp2;go_ret;exact⟨_,rfl,Nat.le_refl _,by rw[←HG.out.2.2];exact HG.out.2.1,HG.out.1⟩
  | cons p r=>
    simp only[List.length_cons]at hg;subst hg;have hkI:decide (i<l.length)=true:=Ag;obtain⟨pa,ba,pc,bc,_,hbv,hnx,hat⟩:=RepP.elem (k:=i) HC.out hrf;rw[Uk]at ht;have i0:(0:Int)≤(i:Int):=Ab;have i1:(i:Int)<(l.length:Int):=Ab;obtain⟨g1,o1,rfl,_,z3⟩:=hat 3 _ rfl;rw[←Nat.add_assoc]at z3;have y3:=Am hgr z3;have hgl:=World.block_lt_of_cell? _ _ y3;have hbl:=Blk.lt hCt;have hbv1:=(RepV.mono (ok':=(· ≠ w.heap.size)) hbv (fun q _ hq=>Nat.ne_of_lt hq)).gb hgr Ae;have hp:=hwt p List.mem_cons_self;have HS:=Z (zA w.heap.size (p.body.wt+1) p.body (Nat.lt_succ_self _) ba bc _ t 0 Ab Ab Ab hbv1 hCt);have hle:=WY p.body 0 t;have HN:=Z (Ac hgr (Ac hnx (Ac (show GQ (r.map Pd.body) (BN p.body 0 t)=T from hcnt) (fun q hq=>hwt q (List.mem_cons_of_mem _ hq)))));clear hgr hnx hcnt hrf hCt hat hbv hbv1 z3 hwt;go_wp2_with fail;refine HS.out.mono ?_;rintro e w2 ⟨rfl,g2,hC2⟩;have HG:=Z (Ac (A5 HN.out.1 g2 (.inr (Nat.le_refl _))) hC2);clear g2 hC2 y3;go_wp2;go_roundg r.length
    case measure=>omega
    case rel=>exact⟨r,i+1,_,rfl,by omega,by go_num,by omega,HN.out.2.2.2,HN.out.2.2.1,HN.out.2.1,HG.out.2,HG.out.1⟩):=Aa h
 exact QQ
def Cv(fs:Nat→Fo):Nat→Fo
 | 0=> .nil
 |k+1=>(Cv fs k).app (fs k)
theorem KF(fs:Nat→Fo)(k:Nat):(Cv fs (k+1)).len=(Cv fs k).len+(fs k).len:=Fo.len_app _ _
theorem Xa(fs:Nat→Fo):∀m k,k≤m→(Cv fs k).len≤(Cv fs m).len:=by
 intro m;induction m with
 | zero => intro k hk; have : k = 0 := by omega
           subst this;exact Nat.le_refl _
 | succ m ih=>
   intro k hk;by_cases h:k=m+1
   ·subst h;exact Nat.le_refl _
   ·have:=ih k Ab;rw[KF];omega
theorem vG(w:World):Calls Tryz.prog 185 #[.slice none 0 0,.int .i64 0] w fun e w'=>e= .returned (.slice none 0 0)∧w.grownBy w' none:=by
 go_enter func185,ntmps185;go_wp2;go_ret;exact⟨rfl,gw⟩
theorem AaL(n:Nat)(hn:n≤1000000)(w:World):Calls Tryz.prog 185 #[.slice none 0 0,.int .i64 n] w fun e w'=>∃v,e= .returned v∧w'.ownsRow w.heap.size 29 7 v 0 []∧w.grownBy w' none:=by
 by_cases h:0<n
 ·exact zH n h hn w
 ·have e:n=0:=by omega
  subst e;refine(vG w).mono ?_;rintro e w' ⟨rfl,g⟩;exact⟨_,rfl,World.ownsRow_nil _ _ _ _,g⟩
theorem kD{w:World}{P:Program}(base:Nat)(t ty e:TypeId)(i:TypeInfo)(size c:Nat)(ht:P.underlying t=some (.slice e))(hi:P.info? e=some i)
 (v:Value) (n:Nat) (xs:List Value) (hown:w.ownsRow base e size v n xs):(Builtin.append_ #[t,t] ty #[v,.slice none 0 c]).run P w= .ok v w:=by
 rcases hown.2 with⟨rfl,rfl⟩| ⟨g,cap,cur,rfl,_,_,hnc,_⟩
 ·simp[Builtin.append_,run_underlying ht,sizeOf,typeInfo,hi,Builtin.lenOf,Builtin.firstCells]
 ·simp[Builtin.append_,run_underlying ht,sizeOf,typeInfo,hi,Builtin.lenOf,Builtin.firstCells,hnc,storeCells]
theorem jS{P:Program}{w:World}{ops:Array Oper}{rest:List Oper}{o:Oper}{a:Act}{Q:Exit→Act→World→Prop}(hgd:o.guard=none)(s x:Operand)(t:TypeId)
 (ho:o.op= .call {callee:= .builtin .append,args:=#[s,x],argTypes:=#[t,t]})
 (base:Nat) (e:TypeId) (i:TypeInfo) (size c:Nat) (ht:P.underlying t=some (.slice e)) (hi:P.info? e=some i)
 (v:Value) (n:Nat) (xs:List Value) (hs:a.eval s=v) (hown:w.ownsRow base e size v n xs) (hx:a.eval x= .slice none 0 c)
 (h:wpList P ops Q rest (a.put o.dst v) w):wpList P ops Q (o::rest) a w:=by
 refine wpList_plain hgd fun K hK=>?_;have hrun:=kD (P:=P) (w:=w) base t o.type e i size c ht hi v n xs hown;unfold Oper.wp;simp[execOp,ho,resolve,invoke,builtin,hs,hx,hrun,Result.andThen];exact hK _ _ h
theorem p5{w:World}{ok:Nat→Prop}(hok:∀q,ok q→q<w.heap.size){R:Nat}{la:Nat→Option Addr}{lc:Nat→Nat}{fs:Nat→Fo}(hc:∀k,k<4→w.cell? ⟨R,k,none⟩=some (.slice (la k) (fs k).len (lc k)))
 (hn:(Cv fs 4).len≤1000000) (hrep:∀k,k<4→RepL ok w (.slice (la k) (fs k).len (lc k)) (fs k)):
 Calls Tryz.prog 135 #[.slice (some ⟨R,0,none⟩) 4 4] w fun e w'=>∃v cs,e= .returned v∧w'.ownsRow w.heap.size 29 7 v (Cv fs 4).len cs∧RepF ok w' (Cv fs 4) cs∧w.grownBy w' none:=by
 have HC:=Z hc;have HR:=Z hrep;have HOK:=Z hok;clear hc hrep hok;go_enter func135,ntmps135;go_wp2_with fail;go_loopg [3,11] 4 (fun g v3 v11 wr=>∃k:Nat,k+g=4∧v11= .int .i64 k∧v3= .int .i64 (Cv fs k).len∧wr=w)
 case atStart=>exact⟨0,rfl,rfl,rfl,rfl⟩
 case round=>
  obtain⟨k,hg,rfl,rfl,hw⟩:=hrel;have hw':=hw.symm;clear hw;subst hw';by_cases hk:k<4
  ·have c0:=HC.out k hk;have k0:(0:Int)≤(k:Int):=Ab;have k1:(k:Int)<4:=Ab;have hk1:decide (k<4)=true:=BE;have hle:=Xa fs 4 (k+1) Ab;rw[KF]at hle;have hw1:IntKind.i64.wrap (((Cv fs k).len:Int)+((fs k).len:Int))=((Cv fs k).len:Int)+((fs k).len:Int):=IntWalk.i64_in _ Ab;have hneg:decide (((Cv fs k).len:Int)+((fs k).len:Int)<0)=false:=Ag;have HN:=Z (KF fs k);go_wp2_with fail;go_roundg (3-k)
   case measure=>omega
   case rel=>exact⟨k+1,by omega,by go_num,by rw[HN.out];push_cast;rfl,rfl⟩
  ·have e4:k=4:=by omega
   subst e4;have HGr:=Z (fun(W:World)=>AaL (Cv fs 4).len hn W);go_wp2_with fail;refine(HGr.out _).mono ?_;rintro e w1 ⟨v,rfl,hO,g1⟩;have hs1:=g1.size;have HO:=Z (Ac hO g1);clear hO g1 HGr;go_wp2_with fail;go_loopg [6,27] 4 (fun g v6 v27 w2=>∃k:Nat,k+g=4∧v27= .int .i64 k∧∃cs,w2.ownsRow w.heap.size 29 7 v6 (Cv fs k).len cs∧RepF ok w2 (Cv fs k) cs∧w.grownBy w2 none)
   case atStart=>exact⟨0,rfl,rfl,[],HO.out.1,rfl,HO.out.2⟩
   case round=>
    obtain⟨k,hg2,rfl,cs,hO,hF,hgr⟩:=hrel;by_cases hk:k<4
    ·have c0:=Am hgr (HC.out k hk);have k0:(0:Int)≤(k:Int):=Ab;have k1:(k:Int)<4:=Ab;have hk1:decide (k<4)=true:=BE;have hle:=Xa fs 4 (k+1) Ab;rw[KF]at hle;have hs2:=hgr.size;obtain⟨ds,hcs,hds⟩:=HR.out k hk;have hlen:=hds.one;obtain⟨_,_,e,_,_,_,hat⟩:=hcs;cases e;have HD:=Z (Ac hO (Ac hF (Ac hgr (Ac hds (Ac hlen hat)))));have HP:=Z (KF fs k);clear hO hF hgr hds hlen hat;generalize hla:la k=a at*;cases a with
     | none=>
       have hd0:ds=[]:=by
        cases ds with
        |nil=>rfl
        | cons u r=>
          obtain⟨_,_,e,_⟩:=HD.out.2.2.2.2.2 0 u rfl;cases e
       have hf0:(fs k).len=0:=by have:=HD.out.2.2.2.2.1.1;rw[hd0]at this;simp at this;omega
       have HZ:=Z (Ac hd0 hf0);rw[hf0]at c0;clear hd0 hf0;obtain⟨i0,hi0,hz0,hz1,hz2⟩:=info_parts Kq;have HI:=Z hi0;clear hi0 hz0 hz1 hz2;go_wp2_with (at_builtin;have hi0:=HI.out;have hown:=HD.out.1;refine jS rfl _ _ 27 rfl w.heap.size 29 i0 7 _ underlying27 hi0 _ _ _ rfl hown rfl ?_;clear hi0 hown);go_roundg (3-k)
       case measure=>omega
       case rel=>exact⟨k+1,by omega,by go_num,cs,by rw[HP.out,HZ.out.2];exact HD.out.1,by have:=RepF.app HD.out.2.1 (RepF.gb HD.out.2.2.1 Ae HD.out.2.2.2.1);rw[HZ.out.1,List.append_nil]at this;exact this,HD.out.2.2.1⟩
     | some a=>
       have EQ{P}(h:P:=by
       clear hi0 hz0 hz1 hz2;have hat1:∀j u,ds[j]? =some u→wr.cell? (a.add j)=some u:=by
        intro j u hj;obtain⟨g,o,e,_,hc⟩:=HD.out.2.2.2.2.2 j u hj;cases e;have e:(⟨g,o,none⟩:Addr).add j=⟨g,o+j,none⟩:=MJ;rw[e];exact Am HD.out.2.2.1 hc
       have HA:=Z hat1;clear hat1;go_wp2_with (at_builtin;obtain⟨hi0,hz0,hz1,hz2⟩:=HI.out;have hown:=HD.out.1;refine Oe rfl _ _ 27 rfl w.heap.size 29 i0 _ 7 104 underlying27 hi0 hz0 hz1 hz2 rfl Ad _ _ _ rfl hown a (fs k).len (lc k) ds rfl HD.out.2.2.2.2.1.1 HA.out HD.out.2.2.2.2.1.2 AI Ab hs2 ?_;intro v' w5 hown5 g5 hn5;clear hi0 hz0 hz1 hz2 hown);have g5':World.grownBy wr w5 u6.ownBlock:=g5;have gW:w.grownBy w5 none:=by
        have hlt:=HD.out.1.lt;have g6:=g5';cases hv:u6.ownBlock with
        |none=>rw[hv]at g6;exact Ah HD.out.2.2.1 g6
        |some q=>rw[hv]at g6;exact A5 HD.out.2.2.1 g6 (.inr (hlt q hv).1)
       have HO5:=Z (Ac hown5 (Ac (RepF.app (RepF.gb g5' (fun q hq _ e=>by have:=(HD.out.1.lt q e.symm).1;have h8:=HOK.out q hq;omega) HD.out.2.1) (RepF.gb gW Ae HD.out.2.2.2.1)) gW));clear hown5 gW;go_roundg (3-k)
       case measure=>omega
       case rel=>exact⟨k+1,by omega,by go_num,_,by rw[HP.out];exact HO5.out.1,HO5.out.2.1,HO5.out.2.2⟩):=Aa h;exact EN
    ·have e4:k=4:=by omega
     subst e4;have HE:=Z (Ac hO (Ac hF hgr));clear hO hF hgr;go_wp2;go_ret;exact⟨_,cs,rfl,HE.out.1,HE.out.2.1,HE.out.2.2⟩
def MD:Bs:=[105,102,32,61,32,49]
def Qa:Bs:=[97,45,62,98,32,43,32,49]
def Xg:List Tok:=[⟨0,0,[73,70]⟩,⟨4,3,[61]⟩,⟨1,5,[49]⟩,⟨5,6,[]⟩]
theorem Xo:Dx MD= .ok Xg:=Bk
def xAb:Ex:=AH [43] ⟨hd0 2 [65],.one (AC [66])⟩ (A1 2 1 [])
theorem pe_ab:peM Qa= .ok xAb 6:=Bk
def xOne:Ex:=A1 2 1 []
end Go.Proofs.YtmcajbhljbbglaaGreatDoor
