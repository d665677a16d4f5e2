/-
  QgK KgW KgX VaC VaD Code: an expression that was read has short texts.
-/
import Derived.Test.YtbjfaimkiclhgaaGreatDoorCt15
import Derived.Test.YtbjfaimkiclhgaaGreatDoorCt13
import Derived.Test.YtbjfaimkiclhgaaGreatDoorCt08
import Derived.Test.YtbjfaimkiclhgaaGreatDoorCt10
set_option linter.all false
set_option maxRecDepth 100000
set_option maxHeartbeats 8000000
namespace Go.Proofs.YtbjfaimkiclhgaaGreatDoor
open Go.Proofs.Tryz
open Go.RowKit
section
variable {w wr:World}{b:Nat}{tv wo:Value}{l:List Tok}{i:Nat}
def Gm(b:Nat)(tv wo:Value)(l:List Tok)(w:World)(L:Nat)(h:Sd)(i:Nat)(W:World):Prop:=
 (∃pv xv,KS b w L W h .nil pv xv (.slice none 0 0) (.slice none 0 0) (.slice none 0 0) (.slice none 0 0))/\Par W b tv wo l wordsL i
def X6(hn:Aj l){day:Bs->Int}{n L:Nat}{wd:Bs}(hE:CE 208 b tv wo l wordsL (Ai l day n))(hok:∀i,As (Ab l i))(hl:Ay l)(k:KS b w L wr (sd0 13 wd) .nil (.slice none 0 0) (.slice none 0 0) (.slice none 0 0) (.slice none 0 0) (.slice none 0 0) (.slice none 0 0))(h:Par wr b tv wo l wordsL i)(ho:(Fg hn wordsL day n (sd0 13 wd)).f i ≠ .out):
 Calls Tryz.prog 354 #[.pointer (some ⟨b,0,none⟩),.pointer (some ⟨L,0,none⟩)] wr (Post b tv wo l wordsL w (VIn b w L) ((Fg hn wordsL day n (sd0 13 wd)).f i)):=by
 have hb:=h.lt;have HO:=S ho;generalize hR:(Fg hn wordsL day n (sd0 13 wd)).f i=R at*;unfold Fg at hR;rw[Rd.here_f]at hR;have HQ:=S hR;have HE:=S hE;have HTk:=S hok;have HSh:=S hl;have HK:=S k;have hp:=h;have HA:=S (Bn h);have HI:=S (λh=>CV (l:=l) (W:=wordsL) (i:=i) h);have hbL:b<L:=by have:=k.bw;have:=k.wL;omega
 clear hE hok hl h ho hR k;go_enter func354,ntmps354;go_wp2_with fail;refine mR HA.1 λw1 g1=>?_;replace HK:=S (HK.1.gbN g1);replace hp:=hp.gbN g1;clear g1 HA;go_wp2_with fail;refine mR (Fc hp HTk.1 i) λw2 g2=>?_;replace HK:=S (HK.1.gbN g2);replace hp:=hp.gbN g2;clear g2;generalize Ar l wordsL i=s at*;have hkl:=HK.1.lt;have d1:=HK.1.blk.cell' 1 rfl;have f1:=HK.1.blk.frozen 1;have HF:=S (X (HK.1.putS s) (hp.set hbL 1 (str s)));go_upto_region 3 with fail;refine Ax (Gm b tv wo l w L {sd0 13 wd with s:=s} i) ⟨⟨_,_,HF.1.1⟩,HF.1.2⟩ ?_;rintro W1 ⟨⟨pv,xv,hK⟩,hp1⟩;replace HK:=S hK;replace hp:=hp1;clear hK hp1 HF d1 f1 hkl;have hkl:=HK.1.lt;by_cases h1:s=Lm\/s=KJ
 ·have hi:=HI.1 (by rcases h1 with rfl|rfl<;>decide);rw[if_pos h1,Rd.skip_f,Rd.here_f]at HQ;have HI2:=S (λh=>CV (l:=l) (W:=wordsL) (i:=i+1) h);rcases h1 with rfl|rfl
  all_goals
   have c1:=hp.c1;have f1:=hp.f1;have hbl9:=hp.lt;have hfew9:=hp.few;have hgI:=Am (Aa W1 (some b)) 1 (.int .i64 ((i:Int)+1));have HPI:=S (hp.goI ((i:Int)+1) (i+1) (by omega) (by omega));have HKI:=S (HK.1.gb hgI);clear hgI;go_upto_region 22 with fail;refine Ax (Gm b tv wo l w L _ (i+1)) ⟨⟨_,_,HKI.1⟩,HPI.1⟩ ?_;rintro W2 ⟨⟨pv2,xv2,hK⟩,hp1⟩;replace HK:=S hK;replace hp:=hp1;clear hK hp1 HKI HPI c1 f1;have HA:=S (Bn hp);go_wp2_with fail;refine mR HA.1 λw3 g3=>?_;replace HK:=S (HK.1.gbN g3);replace hp:=hp.gbN g3;clear g3 HA;go_wp2_with fail;refine mR (Fc hp HTk.1 (i+1)) λw4 g4=>?_;replace HK:=S (HK.1.gbN g4);replace hp:=hp.gbN g4;clear g4;generalize Ar l wordsL (i+1)=t at*;have hkl:=HK.1.lt;have d2:=HK.1.blk.cell' 2 rfl;have f2:=HK.1.blk.frozen 2;have HF:=S (X (HK.1.putT t) (hp.set hbL 2 (str t)));go_upto_region 23 with fail;refine Ax (Gm b tv wo l w L _ (i+1)) ⟨⟨_,_,HF.1.1⟩,HF.1.2⟩ ?_;rintro W3 ⟨⟨pv3,xv3,hK⟩,hp1⟩;replace HK:=S hK;replace hp:=hp1;clear hK hp1 HF d2 f2 hkl;have hkl:=HK.1.lt;have d2:=HK.1.blk.cell' 2 rfl;by_cases ht:t=wON\/t=wOFF
   ·have hi2:=HI2.1 (by rcases ht with rfl|rfl<;>decide);rw[if_pos ht,Rd.skip_f,Rd.pure_f]at HQ;rcases ht with rfl|rfl
    all_goals
     have c1:=hp.c1;have f1:=hp.f1;have hbl9:=hp.lt;have hfew9:=hp.few;have hgI:=Am (Aa W3 (some b)) 1 (.int .i64 (((i+1):Int)+1));have HPI:=S (hp.goI (((i+1):Int)+1) ((i+1)+1) (by omega) (by omega));have HKI:=S (HK.1.gb hgI);clear hgI;go_wp2;go_end0;exact Post.ok HKI.1.gr HQ.1.symm ⟨rfl,_,_,_,_,_,HKI.1⟩ HPI.1
   ·skip;rw[if_neg ht,Rd.bad_f]at HQ;have hs1:(t !=[79,78])=true:=by have:t≠wON:=λe=>ht (.inl e);simpa using this
    have hs2:(t !=[79,70,70])=true:=by have:t≠wOFF:=λe=>ht (.inr e);simpa using this
    have hs3:(t==[79,78])=false:=by have:t≠wON:=λe=>ht (.inl e);simpa using this
    have hs4:(t==[79,70,70])=false:=by have:t≠wOFF:=λe=>ht (.inr e);simpa using this
    go_wp2_with fail;refine(DQ hp.c1).mono ?_;rintro e w9 ⟨rfl,rfl⟩;exact⟨rfl,Post.bad HK.1.gr HQ.1.symm⟩
 ·skip;rw[if_neg h1]at HQ;by_cases h2:s=GD\/s=Hq\/s=GW
  ·have hi:=HI.1 (by rcases h2 with rfl|rfl|rfl<;>decide);rw[if_pos h2,Rd.skip_f,Rd.must_f]at HQ;rcases h2 with rfl|rfl|rfl
   ·skip;have c1:=hp.c1;have f1:=hp.f1;have hbl9:=hp.lt;have hfew9:=hp.few;have hgI:=Am (Aa W1 (some b)) 1 (.int .i64 ((i:Int)+1));have HPI:=S (hp.goI ((i:Int)+1) (i+1) (by omega) (by omega));have HKI:=S (HK.1.gb hgI);clear hgI;go_upto_region 5 with fail;refine Ax (Gm b tv wo l w L _ (i+1)) ⟨⟨_,_,HKI.1⟩,HPI.1⟩ ?_;rintro W2 ⟨⟨pv2,xv2,hK⟩,hp1⟩;replace HK:=S hK;replace hp:=hp1;clear hK hp1 HKI HPI c1 f1 hkl;have hkl:=HK.1.lt;go_wp2_with fail;refine(BJ hp HTk.1 wTO (by decide)).mono ?_;intro e w3 hq;obtain⟨g,⟨q,hr,rfl⟩| ⟨u,i3,v,hr,rfl,rfl,hp9⟩⟩:=hq.split
    ·exact⟨rfl,Post.bad (Z HK.1.gr g) (by rw[<-HQ.1,hr];rfl)⟩
    replace HK:=S (HK.1.gb g);replace hp:=hp9;clear hp9;rw[hr,Res.bind_ok]at HQ;clear hr g;rw[Rd.cond_f]at HQ;have HA:=S (Bn hp);cases hk:(Ab l i3).kind==5 with
    | true=>
      have hk5:(Ab l i3).kind=5:=by simpa using hk
      rw[if_pos (show Rd.atEnd l i3=true from hk),Rd.pure_f]at HQ;clear hk;go_wp2_with fail;refine mR HA.1 λw4 g4=>?_;rw[AR,hk5];replace HK:=S (HK.1.gbN g4);replace hp:=hp.gbN g4;clear g4 HA;go_wp2;go_end0;exact Post.ok HK.1.gr HQ.1.symm ⟨rfl,_,_,_,_,_,HK.1⟩ hp
    | false=>
      have hk5:((Ab l i3).kind !=5)=true:=by simp only[bne,hk];rfl
      rw[if_neg (nF (show Rd.atEnd l i3=false from hk))]at HQ;have e0:=HQ.1;first|rw[if_pos True.intro]at e0|rw[if_pos (rfl:GD=GD)]at e0
      replace HQ:=S e0;clear e0;rw[Rd.name_f]at HQ;go_wp2_with fail;refine mR HA.1 λw4 g4=>?_;rw[AR];replace HK:=S (HK.1.gbN g4);replace hp:=hp.gbN g4;clear g4 HA;have hkl:=HK.1.lt;have hwL:=HK.1.wL;go_wp2_with fail;refine(B6 hp HSh.1).mono ?_;intro e w5 hq;obtain⟨g,⟨q,hr,rfl⟩| ⟨p,j5,v,hr,rfl,rfl,hp9⟩⟩:=hq.split
      ·exact⟨rfl,Post.bad (Z HK.1.gr g) (by rw[<-HQ.1,hr];rfl)⟩
      replace HK:=S (HK.1.gb g);replace hp:=hp9;clear hp9;rw[hr,Res.bind_ok]at HQ;clear hr g;have hkl3:=HK.1.lt;have d3:=HK.1.blk.cell' 3 rfl;have f3:=HK.1.blk.frozen 3;have hbL:b<L:=by have:=HK.1.bw;omega
      have hp3:=(hp.set (L:=L) hbL 3 (.slice (some ⟨(w5).heap.size,0,none⟩) 1 1)).alloc (.cells #[str p] 9 (0,0));replace HK:=S (HK.1.layP p);replace hp:=hp3;clear hp3;rw[Rd.pure_f]at HQ;go_wp2;go_end0;exact Post.ok HK.1.gr HQ.1.symm ⟨rfl,_,_,_,_,_,HK.1⟩ hp
   ·skip;have c1:=hp.c1;have f1:=hp.f1;have hbl9:=hp.lt;have hfew9:=hp.few;have hgI:=Am (Aa W1 (some b)) 1 (.int .i64 ((i:Int)+1));have HPI:=S (hp.goI ((i:Int)+1) (i+1) (by omega) (by omega));have HKI:=S (HK.1.gb hgI);clear hgI;go_upto_region 10 with fail;refine Ax (Gm b tv wo l w L _ (i+1)) ⟨⟨_,_,HKI.1⟩,HPI.1⟩ ?_;rintro W2 ⟨⟨pv2,xv2,hK⟩,hp1⟩;replace HK:=S hK;replace hp:=hp1;clear hK hp1 HKI HPI c1 f1 hkl;have hkl:=HK.1.lt;go_wp2_with fail;refine(BJ hp HTk.1 wTO (by decide)).mono ?_;intro e w3 hq;obtain⟨g,⟨q,hr,rfl⟩| ⟨u,i3,v,hr,rfl,rfl,hp9⟩⟩:=hq.split
    ·exact⟨rfl,Post.bad (Z HK.1.gr g) (by rw[<-HQ.1,hr];rfl)⟩
    replace HK:=S (HK.1.gb g);replace hp:=hp9;clear hp9;rw[hr,Res.bind_ok]at HQ;clear hr g;have e0:(D0 l (Ai l day n) i3).bind (λf k=> .ok {sd0 13 wd with s:=Hq,x:=f} k)=R:=by
     rw[<-HQ.1];unfold D0;rw[Rd.cond_f];cases Rd.atEnd l i3 with
     |true=>rfl
     | false=>
       show Res.bind (Res.bind _ _) _=Res.bind _ _;rw[Res.bind_assoc];rfl
    replace HQ:=S e0;clear e0;have hkl:=HK.1.lt;have hwL:=HK.1.wL;go_wp2_with fail;refine(FH HE.1 hp (λe=>HO.1 (by rw[<-HQ.1,e];rfl))).mono ?_;intro e w5 hq;obtain⟨g,⟨q,hr,rfl⟩| ⟨f,j5,v,hr,rfl,⟨fa,fc,rfl,hF⟩,hp9⟩⟩:=hq.split
    ·exact⟨rfl,Post.bad (Z HK.1.gr g) (by rw[<-HQ.1,hr];rfl)⟩
    replace HK:=S (HK.1.gb g);replace hp:=hp9;clear hp9;rw[hr,Res.bind_ok]at HQ;clear hr;have hkl5:=HK.1.lt;have hbw:=HK.1.bw;have hx4:=HK.1.blk.cell' 4 rfl;have hf4:=HK.1.blk.frozen 4;have hK6:=HK.1.putX (hF.mono (λq hq _=>by have h1:(w3).heap.size<=q:=hq;(try simp at h1);exact⟨by omega,by omega⟩));have hp6:=hp.set (L:=L) (by omega) 4 (.slice fa f.len fc);replace HK:=S hK6;replace hp:=hp6;clear hK6 hp6 hF g;go_wp2;go_end0;exact Post.ok HK.1.gr HQ.1.symm ⟨rfl,_,_,_,_,_,HK.1⟩ hp
   ·skip;have c1:=hp.c1;have f1:=hp.f1;have hbl9:=hp.lt;have hfew9:=hp.few;have hgI:=Am (Aa W1 (some b)) 1 (.int .i64 ((i:Int)+1));have HPI:=S (hp.goI ((i:Int)+1) (i+1) (by omega) (by omega));have HKI:=S (HK.1.gb hgI);clear hgI;go_upto_region 14 with fail;refine Ax (Gm b tv wo l w L _ (i+1)) ⟨⟨_,_,HKI.1⟩,HPI.1⟩ ?_;rintro W2 ⟨⟨pv2,xv2,hK⟩,hp1⟩;replace HK:=S hK;replace hp:=hp1;clear hK hp1 HKI HPI c1 f1 hkl;have hkl:=HK.1.lt;go_wp2_with fail;refine(BJ hp HTk.1 wTO (by decide)).mono ?_;intro e w3 hq;obtain⟨g,⟨q,hr,rfl⟩| ⟨u,i3,v,hr,rfl,rfl,hp9⟩⟩:=hq.split
    ·exact⟨rfl,Post.bad (Z HK.1.gr g) (by rw[<-HQ.1,hr];rfl)⟩
    replace HK:=S (HK.1.gb g);replace hp:=hp9;clear hp9;rw[hr,Res.bind_ok]at HQ;clear hr g;have e0:(D0 l (Ai l day n) i3).bind (λf k=>if f.len=0 then .ok {sd0 13 wd with s:=GW,x:=f} k else(GI l wordsL Lq k).bind λ_ k=>(AD l k).bind λp k=> .ok {sd0 13 wd with s:=GW,x:=f,p:=[p]} k)=R:=by
     rw[<-HQ.1];unfold D0;rw[Rd.cond_f];cases Rd.atEnd l i3 with
     |true=>rfl
     | false=>
       show Res.bind (Res.bind _ _) _=Res.bind _ _;rw[Res.bind_assoc];rfl
    replace HQ:=S e0;clear e0;have hkl:=HK.1.lt;have hwL:=HK.1.wL;go_wp2_with fail;refine(FH HE.1 hp (λe=>HO.1 (by rw[<-HQ.1,e];rfl))).mono ?_;intro e w5 hq;obtain⟨g,⟨q,hr,rfl⟩| ⟨f,j5,v,hr,rfl,⟨fa,fc,rfl,hF⟩,hp9⟩⟩:=hq.split
    ·exact⟨rfl,Post.bad (Z HK.1.gr g) (by rw[<-HQ.1,hr];rfl)⟩
    replace HK:=S (HK.1.gb g);replace hp:=hp9;clear hp9;rw[hr,Res.bind_ok]at HQ;clear hr;have hkl5:=HK.1.lt;have hbw:=HK.1.bw;have hx4:=HK.1.blk.cell' 4 rfl;have hf4:=HK.1.blk.frozen 4;have hK6:=HK.1.putX (hF.mono (λq hq _=>by have h1:(w3).heap.size<=q:=hq;(try simp at h1);exact⟨by omega,by omega⟩));have hp6:=hp.set (L:=L) (by omega) 4 (.slice fa f.len fc);replace HK:=S hK6;replace hp:=hp6;clear hK6 hp6 hF g;go_upto_region 16 with fail;refine Ax (Gm b tv wo l w L _ j5) ⟨⟨_,_,HK.1⟩,hp⟩ ?_;rintro W5 ⟨⟨pv5,xv5,hK⟩,hp1⟩;replace HK:=S hK;replace hp:=hp1;clear hK hp1 hx4 hf4 hkl5;obtain⟨xa5,xc5,e5⟩:∃xa xc,xv5= .slice xa f.len xc:=by
     obtain⟨_,⟨xa,xc,e,_⟩,_⟩:=HK.1.x;exact⟨xa,xc,e⟩
    subst e5;have hkl:=HK.1.lt;have hx4:=HK.1.blk.cell' 4 rfl;by_cases hf:f.len=0
    ·have hf1:decide ((0:Int)<(f.len:Int))=false:=by simp;omega
     have hf2:decide (0<f.len)=false:=by simp;omega
     rw[if_pos hf]at HQ;have hx0:W5.cell? ⟨L,4,none⟩=some (.slice xa5 0 xc5):=by rw[<-hf];exact hx4
     clear hx4;go_wp2;go_end0;exact Post.ok HK.1.gr HQ.1.symm ⟨rfl,_,_,_,_,_,HK.1⟩ hp
    ·have hf1:decide ((0:Int)<(f.len:Int))=true:=by simp;omega
     have hf2:decide (0<f.len)=true:=by simp;omega
     rw[if_neg hf]at HQ;go_wp2_with fail;refine(BJ hp HTk.1 Lq (by decide)).mono ?_;intro e w6 hq;obtain⟨g,⟨q,hr,rfl⟩| ⟨u,i6,v,hr,rfl,rfl,hp9⟩⟩:=hq.split
     ·exact⟨rfl,Post.bad (Z HK.1.gr g) (by rw[<-HQ.1,hr];rfl)⟩
     replace HK:=S (HK.1.gb g);replace hp:=hp9;clear hp9;rw[hr,Res.bind_ok]at HQ;clear hr g hx4;have hkl:=HK.1.lt;have hwL:=HK.1.wL;go_wp2_with fail;refine(B6 hp HSh.1).mono ?_;intro e w7 hq;obtain⟨g,⟨q,hr,rfl⟩| ⟨p,j7,v,hr,rfl,rfl,hp9⟩⟩:=hq.split
     ·exact⟨rfl,Post.bad (Z HK.1.gr g) (by rw[<-HQ.1,hr];rfl)⟩
     replace HK:=S (HK.1.gb g);replace hp:=hp9;clear hp9;rw[hr,Res.bind_ok]at HQ;clear hr g;have hkl3:=HK.1.lt;have d3:=HK.1.blk.cell' 3 rfl;have f3:=HK.1.blk.frozen 3;have hbL:b<L:=by have:=HK.1.bw;omega
     have hp3:=(hp.set (L:=L) hbL 3 (.slice (some ⟨(w7).heap.size,0,none⟩) 1 1)).alloc (.cells #[str p] 9 (0,0));replace HK:=S (HK.1.layP p);replace hp:=hp3;clear hp3;go_wp2;go_end0;exact Post.ok HK.1.gr HQ.1.symm ⟨rfl,_,_,_,_,_,HK.1⟩ hp
  ·skip;rw[if_neg h2,Rd.bad_f]at HQ;have hs1:(s==[79,82,68,69,82])=false:=by have:s≠GD:=λe=>h2 (.inl e);simpa using this
   have hs2:(s==[70,73,76,84,69,82])=false:=by have:s≠Hq:=λe=>h2 (.inr (.inl e));simpa using this
   have hs3:(s==[82,69,76,65,84,73,79,78])=false:=by have:s≠GW:=λe=>h2 (.inr (.inr e));simpa using this
   have hs4:(s==[69,88,65,67,84])=false:=by have:s≠Lm:=λe=>h1 (.inl e);simpa using this
   have hs5:(s==[68,69,76,69,84,69,68])=false:=by have:s≠KJ:=λe=>h1 (.inr e);simpa using this
   go_wp2_with fail;refine(DQ hp.c1).mono ?_;rintro e w9 ⟨rfl,rfl⟩;exact⟨rfl,Post.bad HK.1.gr HQ.1.symm⟩
end
variable{w W0:World}{b i n k j m s pc lc:Nat}{l:List Tok}{day:Bs->Int}{wd:Bs}{t:Array Value}{op:Int}{L:Array Bool}{v:Value}{a:Act}{R:Bool->World->Prop}{x y:Ex}{e1 e2:Bs×Value}{Q:Exit->Act->World->Prop}{es:List (Bs×Value)}{c:Bool}{pa la:Option Addr}{f:Fo}{opnd E:Nat->Res Ex}
def Cb(k:Nat):Nat->Nat
 | 0=>k
 | 3=>k+1
 | 4=>k+2
 | 5=>k+3
 | 6=>k+4
 | 7=>k+5
 | 8=>k+6
 |_=>5
def DB(b:Nat)(wd:Bs)(op:Int)(m s:Nat)(v:Value):Nat->Value
 | 0=> .map (some m)
 | 3=> .map (some m)
 | 4=>str wd
 | 5=> .int .i64 op
 | 6=> .pointer (some ⟨b,0,none⟩)
 | 7=>v
 | 8=> .agg (Cj op v).toArray
 |_=> .pointer (some ⟨s,0,none⟩)
abbrev BZ:List Nat:=[0,3,4,5,6,7,8,9]
structure LitA(t:Array Value)(k:Nat)(b:Nat)(wd:Bs)(op:Int)(L:Array Bool)(m s:Nat)(v:Value)(a:Act):Prop where
 d:a.defers=[]
 sz:a.tmps.size=t.size
 off:∀j,(∀i∈BZ,j≠Cb k i)->a.tmps[j]? =t[j]?
 at':∀i∈BZ,Ak L i=true->a.tmps[Cb k i]? =some (DB b wd op m s v i)
def QD(hk:5<k)(hi:i∈BZ)(hj:j∈BZ)(hne:i≠j):Cb k i≠Cb k j:=by
 simp only[BZ,List.mem_cons,List.not_mem_nil,or_false]at hi hj;rcases hi with rfl|rfl|rfl|rfl|rfl|rfl|rfl|rfl<;>rcases hj with rfl|rfl|rfl|rfl|rfl|rfl|rfl|rfl<;>simp only[Cb]<;>omega
def LitA.put{m' s':Nat}{v':Value}(h:LitA t k b wd op L m s v a)(hL:L.size=11)(hk:5<k)(ht:k+6<t.size)(hi:i∈BZ)
 (hv:∀j∈BZ,j≠i->Ak L j=true->DB b wd op m' s' v' j=DB b wd op m s v j):LitA t k b wd op (L.setIfInBounds i true) m' s' v' (a.put (some (Cb k i)) (DB b wd op m' s' v' i)):=by
 have hlt:i<L.size:=by
  simp only[BZ,List.mem_cons,List.not_mem_nil,or_false]at hi;omega
 have hp:Cb k i<a.tmps.size:=by
  rw[h.sz];simp only[BZ,List.mem_cons,List.not_mem_nil,or_false]at hi;rcases hi with rfl|rfl|rfl|rfl|rfl|rfl|rfl|rfl<;>simp only[Cb]<;>omega
 refine⟨h.d,by simp[Act.put,h.sz],λj hj=>?_,λj hj hT=>?_⟩
 ·have hne:=hj i hi;simp only[Act.put];rw[Array.getElem?_setIfInBounds_ne (Ne.symm hne)];exact h.off j hj
 ·simp only[Act.put];by_cases e:j=i
  ·subst e;rw[Array.getElem?_setIfInBounds_self_of_lt hp]
  ·rw[Array.getElem?_setIfInBounds_ne (QD hk hi hj (Ne.symm e)),hv j hj e ?_]
   ·rw[Dt hlt,if_neg e]at hT;exact h.at' j hj hT
   ·rw[Dt hlt,if_neg e]at hT;exact hT
def LitA.whole(h:LitA t k b wd op L m s v a)(hk:5<k)(ht:k+6<t.size)(hT:∀i∈BZ,Ak L i=true):
 a={tmps:=(((((((t.setIfInBounds k (.map (some m))).setIfInBounds (k+1) (.map (some m))).setIfInBounds (k+2) (str wd)).setIfInBounds (k+3) (.int .i64 op)).setIfInBounds (k+4) (.pointer (some ⟨b,0,none⟩))).setIfInBounds (k+5) v).setIfInBounds (k+6) (.agg (Cj op v).toArray)).setIfInBounds 5 (.pointer (some ⟨s,0,none⟩)),defers:=[]}:=by
 obtain⟨tm,df⟩:=a;have hd:df=[]:=h.d;subst hd;refine congrArg (λx=>({tmps:=x,defers:=[]}:Act)) ?_;apply Array.ext_getElem?;intro j;have hs:tm.size=t.size:=h.sz;by_cases hj:∀i∈BZ,j≠Cb k i
 ·have:=h.off j hj;simp only at this;rw[this];have hj0:=hj 0 (by decide);have hj3:=hj 3 (by decide);have hj4:=hj 4 (by decide);have hj5:=hj 5 (by decide);have hj6:=hj 6 (by decide);have hj7:=hj 7 (by decide);have hj8:=hj 8 (by decide);have hj9:=hj 9 (by decide);simp only[Cb]at hj0 hj3 hj4 hj5 hj6 hj7 hj8 hj9;repeat rw[Array.getElem?_setIfInBounds_ne (by omega)]
 ·simp only[Classical.not_forall,Classical.not_not]at hj;obtain⟨i,hi,rfl⟩:=hj;have hat:=h.at' i hi (hT i hi);simp only at hat;rw[hat];simp only[BZ,List.mem_cons,List.not_mem_nil,or_false]at hi;rcases hi with rfl|rfl|rfl|rfl|rfl|rfl|rfl|rfl<;>simp only[Cb,DB]<;>(repeat rw[Array.getElem?_setIfInBounds_ne (by omega)])<;>rw[Array.getElem?_setIfInBounds_self_of_lt (by first|omega| (simp;omega))]
abbrev Dr(k fc tp:Nat)(k1:Bs)(v1:Int)(k2:Bs)(v2:Int)(pos:String):Array Oper:=
 #[{dst:=some k,op:= .makeMap 68 none,type:=68,pos:=pos,after:=#[],guard:=none},
  {dst:=none,op:= .insert 68 (.tmp k) (.const (str k1)) (.const (.int .i64 v1)),type:=0,pos:=pos,after:=#[{on:=0,ground:= .data}],guard:=none},
  {dst:=none,op:= .insert 68 (.tmp k) (.const (str k2)) (.const (.int .i64 v2)),type:=0,pos:=pos,after:=#[{on:=0,ground:= .data}],guard:=none},
  {dst:=some (k+1),op:= .move (.tmp k),type:=68,pos:=pos,after:=#[{on:=0,ground:= .data},{on:=1,ground:= .data},{on:=2,ground:= .data}],guard:=none},
  {dst:=some (k+2),op:= .move (.tmp 1),type:=9,pos:=pos,after:=#[],guard:=none},
  {dst:=some (k+3),op:= .lookup 68 (.tmp (k+1)) (.tmp (k+2)) false,type:=3,pos:=pos,after:=#[{on:=3,ground:= .data},{on:=4,ground:= .data}],guard:=none},
  {dst:=some (k+4),op:= .move (.tmp 0),type:=tp,pos:=pos,after:=#[],guard:=none},
  {dst:=some (k+5),op:= .call {callee:= .value (.func fc),args:=#[.tmp (k+4)],argTypes:=#[tp]},type:=129,pos:=pos,after:=#[{on:=6,ground:= .data}],guard:=none},
  {dst:=some (k+6),op:= .build 134 #[(0,.tmp (k+3)),(4,.tmp (k+5))],type:=134,pos:=pos,after:=#[{on:=5,ground:= .data},{on:=7,ground:= .data}],guard:=none},
  {dst:=some 5,op:= .alloc 134,type:=0,pos:=pos,after:=#[],guard:=none},
  {dst:=none,op:= .store 134 (.tmp 5) (.tmp (k+6)),type:=0,pos:=pos,
   after:=#[{on:=9,ground:= .data},{on:=8,ground:= .data},{on:=7,ground:= .chain},{on:=0,ground:= .phase},{on:=1,ground:= .phase},{on:=2,ground:= .phase},{on:=3,ground:= .phase},{on:=4,ground:= .phase},{on:=5,ground:= .phase},{on:=6,ground:= .phase},{on:=7,ground:= .phase},{on:=8,ground:= .phase},{on:=9,ground:= .phase}],guard:=none}]
abbrev G8:List (Nat×Nat):=[(1,0),(2,0),(3,0),(3,1),(3,2),(5,3),(5,4),(7,6),(8,5),(8,7),(10,9),(10,8)]
def LitC(L:Array Bool):Prop:=∀p∈G8,Ak L p.1=true->Ak L p.2=true
def LitC.set(h:LitC L)(hL:L.size=11)(hi:i<11)(hd:∀p∈G8,p.1=i->Ak L p.2=true):LitC (L.setIfInBounds i true):=by
 have ht:=Dt (L:=L) (i:=i) (by omega);intro p hp h1;rw[ht]at h1 ⊢;split
 ·rfl
 ·split at h1
  ·rename_i e;exact hd p hp e
  ·exact h p hp h1
section
variable {x:Fo}
def E3(b:Nat)(R:Bool->World->Prop)(W0:World)(x:Fo)(e1 e2:Bs×Value)(op:Int)(t:Array Value)(k:Nat)(wd:Bs)(L:Array Bool)(a:Act)(w:World):Prop:=
 LitC L/\∃m s v,LitW b R W0 x e1 e2 (Cj op) L m s v w/\LitA t k b wd op L m s v a
def E6(h:a.tmps[j]? =some v):a.eval (.tmp j)=v:=by
 show a.tmps.getD j undef=v;simp[Array.getD_eq_getD_getElem?,h]
def LitA.quiet(h:LitA t k b wd op L m s v a)(hL:L.size=11)(hi:i<11)(hn:i ∉ BZ):LitA t k b wd op (L.setIfInBounds i true) m s v a:=
 ⟨h.d,h.sz,h.off,λj hj hT=>h.at' j hj (by
  rw[Dt (by omega)]at hT
  split at hT
  ·rename_i e;subst e;exact absurd hj hn
  ·exact hT)⟩
end
section
variable {P:Program}{o:Oper}{w':World}{next:Act->World->Prop}
def FR(h:(execOp a.eval o).run P w= .ok (.value v) w')(hk:next (a.put o.dst v) w'):o.wp P a w next Q:=by
 unfold Oper.wp;rw[h];exact hk
def Ke(h:(execOp a.eval o).run P w= .ok .skip w')(hk:next (a.put o.dst undef) w'):o.wp P a w next Q:=by
 unfold Oper.wp;rw[h];exact hk
def Tk{f:FuncId}{args:Array Value}(h:(execOp a.eval o).run P w= .ok (.enter f args) w')(hc:Calls P f args w' λe w''=>match e with| .returned v=>next (a.put o.dst v) w'' | .panicked chain=>Q (.panic chain) a w'' | .outgrown=>LetsOut Q):o.wp P a w next Q:=by
 unfold Oper.wp;rw[h];refine hc.mono ?_;intro e w'' h;cases e<;>exact h
def DX{ops:Array Oper}{K:Act->World->Prop}(ho:ops[i]? =some o)(hg:o.guard=none)(h:∀K':Act->World->Prop,(∀a w,K a w->K' a w)->o.wp P a w K' Q):wpOp P ops Q i K a w:=
 wpOp_step ho λK' hK=>by
  rw[if_pos (by unfold Region.wanted;rw[hg])]
  exact h K' hK
end
def TQ(n:Int)(xa:Option Addr)(xl xc:Nat)(w:World):(Instr.build 134 #[(0,.int .i64 n),(4,.slice xa xl xc)]).run Tryz.prog w= .ok (.agg (Cj n (.slice xa xl xc)).toArray) w:=by kernel_rfl
def TN(w:World):(Instr.alloc 134 true (.tuple #[])).run Tryz.prog w= .ok (.pointer (some ⟨w.heap.size,0,none⟩)) (w.alloc (.cells (stC 0 (.slice none 0 0)).toArray 134 (0,0))):=by kernel_rfl
def Wb(hne:e1.1≠e2.1)(h:wd=e1.1/\v=e1.2\/wd=e2.1/\v=e2.2)(hes:Ea e1 e2 true true es)(hm:w.heap[m]? =some (AL es)):
 (Instr.lookup 68 (.map (some m)) (str wd) false).run Tryz.prog w= .ok v w:=by
 rw[Kb hm];obtain⟨k1,v1⟩:=e1;obtain⟨k2,v2⟩:=e2;simp only at h hne;have n1:(k1==k2)=false:=by simpa using hne
 have n2:(k2==k1)=false:=by simpa using λe=>hne e.symm
 rcases hes with rfl|rfl<;>rcases h with⟨rfl,rfl⟩| ⟨rfl,rfl⟩<;>simp[Cg,n1,n2]
def SU(hne:e1.1≠e2.1)(h:Ea e1 e2 false c es):Es e1.1 es:=by
 cases c with
 |false=>have h:es=[]:=h;subst h;trivial
 |true=>have h:es=[e2]:=h;subst h;exact⟨hne,trivial⟩
def SV(hne:e1.1≠e2.1)(h:Ea e1 e2 c false es):Es e2.1 es:=by
 cases c with
 |false=>have h:es=[]:=h;subst h;trivial
 |true=>have h:es=[e1]:=h;subst h;exact⟨λe=>hne e.symm,trivial⟩
section
variable {x:Fo}{k1 k2:Bs}{v1 v2:Int}{fc tp:Nat}{pos:String}
structure E0(b:Nat)(R:Bool->World->Prop)(W0:World)(x:Fo)(k1:Bs)(v1:Int)(k2:Bs)(v2:Int)(op:Int)(t:Array Value)(k fc:Nat)(wd:Bs)(Q:Exit->Act->World->Prop):Prop where
 st:GF b R
 bw:b<W0.heap.size
 hk:5<k
 hs:k+6<t.size
 t0:t[0]? =some (.pointer (some ⟨b,0,none⟩))
 t1:t[1]? =some (str wd)
 ne:k1≠k2
 wds:wd=k1/\op=v1\/wd=k2/\op=v2
 ent:∀args w,(callFunc fc args).run Tryz.prog w= .ok (.enter fc args) w
 call:∀W,W0.grownBy W (some b)->R false W->Calls Tryz.prog fc #[.pointer (some ⟨b,0,none⟩)] W λe w'=>(∃v,e= .returned v/\W.grownBy w' (some b)/\RepL (Al W.heap.size) w' v x/\R true w')\/(∃c,e= .panicked c/\∀a,a.defers=[]->Q (.panic c) a w')
def UC(hi:i∈BZ):i<11:=by
 simp only[BZ,List.mem_cons,List.not_mem_nil,or_false]at hi;omega
def UD(H:E0 b R W0 x k1 v1 k2 v2 op t k fc wd Q)(hL:L.size=11)(hC:LitC (L.setIfInBounds 0 true))(h0:Ak L 0=false)(h1:Ak L 1=false)(h2:Ak L 2=false)(h3:Ak L 3=false)(hW:LitW b R W0 x (k1,.int .i64 v1) (k2,.int .i64 v2) (Cj op) L m s v w)(hA:LitA t k b wd op L m s v a):
 wpOp Tryz.prog (Dr k fc tp k1 v1 k2 v2 pos) Q 0 (E3 b R W0 x (k1,.int .i64 v1) (k2,.int .i64 v2) op t k wd (L.setIfInBounds 0 true)) a w:=by
 refine DX rfl rfl λK' hK=>FR (v:= .map (some w.heap.size)) (w':=w.alloc (AL [])) ?_ (hK _ _ ⟨hC,w.heap.size,s,v,hW.make H.st hL h0 h1 h2,?_⟩)
 ·simp[execOp,IP]
 ·refine hA.put hL H.hk H.hs (i:=0) (by decide) ?_;intro j hj hne hT;simp only[BZ,List.mem_cons,List.not_mem_nil,or_false]at hj;rcases hj with rfl|rfl|rfl|rfl|rfl|rfl|rfl|rfl
  ·exact absurd rfl hne
  ·rw[h3]at hT;cases hT
  all_goals rfl
def UE(H:E0 b R W0 x k1 v1 k2 v2 op t k fc wd Q)(hL:L.size=11)(hC:LitC (L.setIfInBounds 1 true))(h0:Ak L 0=true)(h1:Ak L 1=false)(hW:LitW b R W0 x (k1,.int .i64 v1) (k2,.int .i64 v2) (Cj op) L m s v w)(hA:LitA t k b wd op L m s v a):
 wpOp Tryz.prog (Dr k fc tp k1 v1 k2 v2 pos) Q 1 (E3 b R W0 x (k1,.int .i64 v1) (k2,.int .i64 v2) op t k wd (L.setIfInBounds 1 true)) a w:=by
 obtain⟨es,hm,hes,hW'⟩:=hW.ins1 H.st hL H.bw h0 h1;rw[h1]at hes;have hk:=E6 (hA.at' 0 (by decide) h0);refine DX rfl rfl λK' hK=>Ke (w':=DE w m (es++[(k1,.int .i64 v1)])) ?_ (hK _ _ ⟨hC,m,s,v,hW',hA.quiet hL (by omega) (by decide)⟩);have hu:=M2 hm k1 v1 (SU H.ne hes);simp only[Cb,DB]at hk;have hc:∀u,a.eval (.const u)=u:=λ_=>rfl;simp[execOp,hk,hu,hc]
def UF(H:E0 b R W0 x k1 v1 k2 v2 op t k fc wd Q)(hL:L.size=11)(hC:LitC (L.setIfInBounds 2 true))(h0:Ak L 0=true)(h1:Ak L 2=false)(hW:LitW b R W0 x (k1,.int .i64 v1) (k2,.int .i64 v2) (Cj op) L m s v w)(hA:LitA t k b wd op L m s v a):
 wpOp Tryz.prog (Dr k fc tp k1 v1 k2 v2 pos) Q 2 (E3 b R W0 x (k1,.int .i64 v1) (k2,.int .i64 v2) op t k wd (L.setIfInBounds 2 true)) a w:=by
 obtain⟨es,hm,hes,hW'⟩:=hW.ins2 H.st hL H.bw h0 h1;rw[h1]at hes;have hk:=E6 (hA.at' 0 (by decide) h0);refine DX rfl rfl λK' hK=>Ke (w':=DE w m (es++[(k2,.int .i64 v2)])) ?_ (hK _ _ ⟨hC,m,s,v,hW',hA.quiet hL (by omega) (by decide)⟩);have hu:=M2 hm k2 v2 (SV H.ne hes);simp only[Cb,DB]at hk;have hc:∀u,a.eval (.const u)=u:=λ_=>rfl;simp[execOp,hk,hu,hc]
def Kx(H:E0 b R W0 x k1 v1 k2 v2 op t k fc wd Q)(hL:L.size=11)(hi:i=3\/i=4\/i=6)(hC:LitC (L.setIfInBounds i true))(h0:i=3->Ak L 0=true)(hW:LitW b R W0 x (k1,.int .i64 v1) (k2,.int .i64 v2) (Cj op) L m s v w)(hA:LitA t k b wd op L m s v a):
 wpOp Tryz.prog (Dr k fc tp k1 v1 k2 v2 pos) Q i (E3 b R W0 x (k1,.int .i64 v1) (k2,.int .i64 v2) op t k wd (L.setIfInBounds i true)) a w:=by
 have hoff:∀j,j<5->∀i∈BZ,j≠Cb k i:=by
  intro j hj i hi;have:=H.hk;simp only[BZ,List.mem_cons,List.not_mem_nil,or_false]at hi;rcases hi with rfl|rfl|rfl|rfl|rfl|rfl|rfl|rfl<;>simp only[Cb]<;>omega
 have e0:=E6 ((hA.off 0 (hoff 0 (by omega))).trans H.t0);have e1:=E6 ((hA.off 1 (hoff 1 (by omega))).trans H.t1);rcases hi with rfl|rfl|rfl
 ·have hk:=E6 (hA.at' 0 (by decide) (h0 rfl));refine DX rfl rfl λK' hK=>FR (v:= .map (some m)) (w':=w) ?_ (hK _ _ ⟨hC,m,s,v,hW.quiet hL (by omega) (by decide) (by decide) (by decide) (by decide) (by decide) (by decide),hA.put hL H.hk H.hs (i:=3) (by decide) λj _ _ _=>rfl⟩);simp only[Cb,DB]at hk;simp[execOp,hk]
 ·refine DX rfl rfl λK' hK=>FR (v:=str wd) (w':=w) ?_ (hK _ _ ⟨hC,m,s,v,hW.quiet hL (by omega) (by decide) (by decide) (by decide) (by decide) (by decide) (by decide),hA.put hL H.hk H.hs (i:=4) (by decide) λj _ _ _=>rfl⟩);simp[execOp,e1]
 ·refine DX rfl rfl λK' hK=>FR (v:= .pointer (some ⟨b,0,none⟩)) (w':=w) ?_ (hK _ _ ⟨hC,m,s,v,hW.quiet hL (by omega) (by decide) (by decide) (by decide) (by decide) (by decide) (by decide),hA.put hL H.hk H.hs (i:=6) (by decide) λj _ _ _=>rfl⟩);simp[execOp,e0]
def UG(H:E0 b R W0 x k1 v1 k2 v2 op t k fc wd Q)(hL:L.size=11)(hC:LitC (L.setIfInBounds 5 true))(h0:Ak L 0=true)(h1:Ak L 1=true)(h2:Ak L 2=true)(h3:Ak L 3=true)(h4:Ak L 4=true)(hW:LitW b R W0 x (k1,.int .i64 v1) (k2,.int .i64 v2) (Cj op) L m s v w)(hA:LitA t k b wd op L m s v a):
 wpOp Tryz.prog (Dr k fc tp k1 v1 k2 v2 pos) Q 5 (E3 b R W0 x (k1,.int .i64 v1) (k2,.int .i64 v2) op t k wd (L.setIfInBounds 5 true)) a w:=by
 obtain⟨_,_,es,hm,hes⟩:=hW.map h0;rw[h1,h2]at hes;have hk3:=E6 (hA.at' 3 (by decide) h3);have hk4:=E6 (hA.at' 4 (by decide) h4);have hl:=Wb (wd:=wd) (v:= .int .i64 op) H.ne (by
  rcases H.wds with⟨e1,e2⟩| ⟨e1,e2⟩
  ·exact .inl ⟨e1,by rw[e2]⟩
  ·exact .inr ⟨e1,by rw[e2]⟩) hes hm
 refine DX rfl rfl λK' hK=>FR (v:= .int .i64 op) (w':=w) ?_ (hK _ _ ⟨hC,m,s,v,hW.quiet hL (by omega) (by decide) (by decide) (by decide) (by decide) (by decide) (by decide),hA.put hL H.hk H.hs (i:=5) (by decide) λj _ _ _=>rfl⟩);simp only[Cb,DB]at hk3 hk4;simp[execOp,hk3,hk4,hl]
def UH(H:E0 b R W0 x k1 v1 k2 v2 op t k fc wd Q)(hL:L.size=11)(hC:LitC (L.setIfInBounds 7 true))(h6:Ak L 6=true)(h7:Ak L 7=false)(h8:Ak L 8=false)(h10:Ak L 10=false)(hW:LitW b R W0 x (k1,.int .i64 v1) (k2,.int .i64 v2) (Cj op) L m s v w)(hA:LitA t k b wd op L m s v a):
 wpOp Tryz.prog (Dr k fc tp k1 v1 k2 v2 pos) Q 7 (E3 b R W0 x (k1,.int .i64 v1) (k2,.int .i64 v2) op t k wd (L.setIfInBounds 7 true)) a w:=by
 have hk:=hA.at' 6 (by decide) h6;simp only[Cb,DB]at hk;refine DX rfl rfl λK' hK=>Tk (f:=fc) (args:=#[.pointer (some ⟨b,0,none⟩)]) (w':=w) ?_ ?_
 ·simp[execOp,resolve,invoke,Act.eval,H.ent,go_sem,hk]
 ·refine(H.call w hW.g (by have:=hW.r;rwa[h7]at this)).mono ?_;rintro e w' (⟨v',rfl,g,hr,hR⟩| ⟨c,rfl,hq⟩)
  ·refine hK _ _ ⟨hC,m,s,v',hW.call hL H.bw h10 g hR hr,hA.put hL H.hk H.hs (i:=7) (by decide) ?_⟩;intro j hj hne hT;simp only[BZ,List.mem_cons,List.not_mem_nil,or_false]at hj;rcases hj with rfl|rfl|rfl|rfl|rfl|rfl|rfl|rfl
   ·rfl
   ·rfl
   ·rfl
   ·rfl
   ·rfl
   ·exact absurd rfl hne
   ·rw[h8]at hT;cases hT
   ·rfl
  ·exact hq _ hA.d
def TS(H:E0 b R W0 x k1 v1 k2 v2 op t k fc wd Q)(hL:L.size=11)(hC:LitC (L.setIfInBounds 8 true))(h5:Ak L 5=true)(h7:Ak L 7=true)(hW:LitW b R W0 x (k1,.int .i64 v1) (k2,.int .i64 v2) (Cj op) L m s v w)(hA:LitA t k b wd op L m s v a):
 wpOp Tryz.prog (Dr k fc tp k1 v1 k2 v2 pos) Q 8 (E3 b R W0 x (k1,.int .i64 v1) (k2,.int .i64 v2) op t k wd (L.setIfInBounds 8 true)) a w:=by
 have hk5:=E6 (hA.at' 5 (by decide) h5);have hk7:=E6 (hA.at' 7 (by decide) h7);obtain⟨_,⟨xa,xc,rfl,_⟩,_⟩:=hW.val h7;refine DX rfl rfl λK' hK=>FR (v:= .agg (Cj op (.slice xa x.len xc)).toArray) (w':=w) ?_ (hK _ _ ⟨hC,m,s,_,hW.quiet hL (by omega) (by decide) (by decide) (by decide) (by decide) (by decide) (by decide),hA.put hL H.hk H.hs (i:=8) (by decide) λj _ _ _=>rfl⟩);have hb:=TQ op xa x.len xc w;simp only[Cb,DB]at hk5 hk7;simp[execOp,hk5,hk7,hb]
def TT(H:E0 b R W0 x k1 v1 k2 v2 op t k fc wd Q)(hL:L.size=11)(hC:LitC (L.setIfInBounds 9 true))(h9:Ak L 9=false)(h10:Ak L 10=false)(hW:LitW b R W0 x (k1,.int .i64 v1) (k2,.int .i64 v2) (Cj op) L m s v w)(hA:LitA t k b wd op L m s v a):
 wpOp Tryz.prog (Dr k fc tp k1 v1 k2 v2 pos) Q 9 (E3 b R W0 x (k1,.int .i64 v1) (k2,.int .i64 v2) op t k wd (L.setIfInBounds 9 true)) a w:=by
 refine DX rfl rfl λK' hK=>FR (v:= .pointer (some ⟨w.heap.size,0,none⟩)) (w':=w.alloc (.cells (stC 0 (.slice none 0 0)).toArray 134 (0,0))) ?_ (hK _ _ ⟨hC,m,w.heap.size,v,hW.alloc H.st hL h9 h10,?_⟩)
 ·have:=TN w;simp[execOp,this]
 ·refine hA.put hL H.hk H.hs (i:=9) (by decide) ?_;intro j hj hne hT;simp only[BZ,List.mem_cons,List.not_mem_nil,or_false]at hj;rcases hj with rfl|rfl|rfl|rfl|rfl|rfl|rfl|rfl
  iterate 7 rfl
  exact absurd rfl hne
def SW(H:E0 b R W0 x k1 v1 k2 v2 op t k fc wd Q)(hL:L.size=11)(hC:LitC (L.setIfInBounds 10 true))(h0:Ak L 0=true)(h7:Ak L 7=true)(h8:Ak L 8=true)(h9:Ak L 9=true)(h10:Ak L 10=false)(hW:LitW b R W0 x (k1,.int .i64 v1) (k2,.int .i64 v2) (Cj op) L m s v w)(hA:LitA t k b wd op L m s v a):
 wpOp Tryz.prog (Dr k fc tp k1 v1 k2 v2 pos) Q 10 (E3 b R W0 x (k1,.int .i64 v1) (k2,.int .i64 v2) op t k wd (L.setIfInBounds 10 true)) a w:=by
 have hk8:=hA.at' 8 (by decide) h8;have hk9:=hA.at' 9 (by decide) h9;obtain⟨_,⟨xa,xc,rfl,_⟩,_⟩:=hW.val h7;obtain⟨_,hs,_,hb⟩:=hW.new h9;rw[h10]at hb;refine DX rfl rfl λK' hK=>Ke (w':=set10 w s (.int .i64 op) (str []) (str []) (.slice none 0 0) (.slice xa x.len xc) (.slice none 0 0) (.int .i64 0) (.slice none 0 0) (.slice none 0 0) (.slice none 0 0)) ?_ (hK _ _ ⟨hC,m,s,_,hW.store H.st hL H.bw h0 h9 h10,hA.quiet hL (by omega) (by decide)⟩);simp only[Cb,DB,Cj,List.size_toArray]at hk8 hk9;have ck_:=hb.c10;simp only[set10,set7];go_simp
def LitC.next(h:LitC L)(hL:L.size=11)(hr:i∈Region.ready .any (Dr k fc tp k1 v1 k2 v2 pos) L):LitC (L.setIfInBounds i true):=by
 obtain⟨hi,_,hd⟩:=Mz hr;have hi:i<11:=hi;refine h.set hL hi ?_;intro p hp e;have h11:i=0\/i=1\/i=2\/i=3\/i=4\/i=5\/i=6\/i=7\/i=8\/i=9\/i=10:=by omega
 simp only[G8,List.mem_cons,List.not_mem_nil,or_false]at hp;rcases h11 with rfl|rfl|rfl|rfl|rfl|rfl|rfl|rfl|rfl|rfl|rfl
 all_goals
  rcases hp with rfl|rfl|rfl|rfl|rfl|rfl|rfl|rfl|rfl|rfl|rfl|rfl<;>first| (exact absurd e (by decide))| (exact hd _ rfl _ (List.mem_map.2 ⟨⟨_,.data⟩,List.mem_filter.2 ⟨by simp,rfl⟩,rfl⟩))
def YD(hL:L.size=11)(hr:Region.ready .any (Dr k fc tp k1 v1 k2 v2 pos) L=[]):∀i,i<11->Ak L i=true:=by
 intro i;induction i using Nat.strongRecOn with
 | _ i ih=>
   intro hi;cases ht:Ak L i with
   |true=>rfl
   | false=>
     exfalso;have hm:i∈Region.ready .any (Dr k fc tp k1 v1 k2 v2 pos) L:=by
      unfold Region.ready;refine List.mem_filter.2 ⟨List.mem_range.2 hi,?_⟩;have h1:L.getD i true=false:=by
       have:Ak L i=L.getD i true:=by
        unfold Ak;simp[Array.getD_eq_getD_getElem?,hL,hi]
       rw[<-this];exact ht
      rw[h1];have h11:i=0\/i=1\/i=2\/i=3\/i=4\/i=5\/i=6\/i=7\/i=8\/i=9\/i=10:=by omega
      have ih':∀j,j<i->L.getD j false=true:=λj hj=>ih j hj (by omega);rcases h11 with rfl|rfl|rfl|rfl|rfl|rfl|rfl|rfl|rfl|rfl|rfl
      all_goals
       simp only[Bool.not_false,Bool.true_and,List.getElem?_toArray,List.getElem?_cons_zero,List.getElem?_cons_succ,Option.map_some,Option.getD_some,Array.all_toList,List.all_toArray,List.all_cons,List.all_nil,Bool.and_true,Bool.and_eq_true,Bool.or_eq_true];try simp[ih']
     rw[hr]at hm;cases hm
def Gt(n i:Nat):Ak (Array.replicate n false) i=false:=by
 unfold Ak;rw[Array.getD_eq_getD_getElem?,Array.getElem?_replicate];split<;>rfl
def Iu{id:Nat} (H:E0 b R {w with drawn:=w.drawn+1} x k1 v1 k2 v2 op t k fc wd Q) (hR:R false {w with drawn:=w.drawn+1})
 (hend:∀W m s v,({w with drawn:=w.drawn+1}:World).grownBy W (some b)->R true W->w.heap.size<=s->s<W.heap.size->RepL (λq=>w.heap.size<=q/\q≠s) W v x->Blk W s (Cj op v) 134->
  Q .normal {tmps:=(((((((t.setIfInBounds k (.map (some m))).setIfInBounds (k+1) (.map (some m))).setIfInBounds (k+2) (str wd)).setIfInBounds (k+3) (.int .i64 op)).setIfInBounds (k+4) (.pointer (some ⟨b,0,none⟩))).setIfInBounds (k+5) v).setIfInBounds (k+6) (.agg (Cj op v).toArray)).setIfInBounds 5 (.pointer (some ⟨s,0,none⟩)),defers:=[]} W):
 (Code.region id (Dr k fc tp k1 v1 k2 v2 pos) true).wp Tryz.prog Q {tmps:=t,defers:=[]} w:=by
 refine wp_region_any (by kernel_rfl) ?_;refine Vh (I:=E3 b R {w with drawn:=w.drawn+1} x (k1,.int .i64 v1) (k2,.int .i64 v2) op t k wd) ?_ ?_ _ _ _ _ (by simp) ?_ ?_
 ·rintro L a W hs ⟨hC,m,s,v,hW,hA⟩ i hi;have hs:L.size=11:=hs;have hN:=hC.next hs hi;obtain⟨hlt,hno,hd⟩:=Mz hi;have hlt:i<11:=hlt;have ht:Ak L i=false:=by
   unfold Ak;have:L.getD i false=L.getD i true:=by simp[Array.getD_eq_getD_getElem?,hs,hlt]
   rw[this];exact hno
  have hc:∀a b,(a,b)∈G8->Ak L b=false->Ak L a=false:=by
   intro a b hab hb;cases h:Ak L a with
   |false=>rfl
   | true=>
     have h2:=hC (a,b) hab h;simp only at h2;rw[hb]at h2;cases h2
  have hy:∀a b,(a,b)∈G8->a=i->Ak L b=true:=by
   intro a b hab e;subst e;have h2:=hN (a,b) hab (by rw[Dt (by omega)];simp);simp only at h2;rw[Dt (by omega)]at h2;split at h2
   ·rename_i e;subst e;simp[G8]at hab;omega
   ·exact h2
  have h11:i=0\/i=1\/i=2\/i=3\/i=4\/i=5\/i=6\/i=7\/i=8\/i=9\/i=10:=by omega
  rcases h11 with rfl|rfl|rfl|rfl|rfl|rfl|rfl|rfl|rfl|rfl|rfl
  ·exact UD H hs hN ht (hc 1 0 (by decide) ht) (hc 2 0 (by decide) ht) (hc 3 0 (by decide) ht) hW hA
  ·exact UE H hs hN (hy 1 0 (by decide) rfl) ht hW hA
  ·exact UF H hs hN (hy 2 0 (by decide) rfl) ht hW hA
  ·exact Kx H hs (.inl rfl) hN (λ_=>hy 3 0 (by decide) rfl) hW hA
  ·exact Kx H hs (.inr (.inl rfl)) hN (λe=>by cases e) hW hA
  ·have h3:=hy 5 3 (by decide) rfl;exact UG H hs hN (hC (3,0) (by decide) h3) (hC (3,1) (by decide) h3) (hC (3,2) (by decide) h3) h3 (hy 5 4 (by decide) rfl) hW hA
  ·exact Kx H hs (.inr (.inr rfl)) hN (λe=>by cases e) hW hA
  ·have h8:=hc 8 7 (by decide) ht;exact UH H hs hN (hy 7 6 (by decide) rfl) ht h8 (hc 10 8 (by decide) h8) hW hA
  ·exact TS H hs hN (hy 8 5 (by decide) rfl) (hy 8 7 (by decide) rfl) hW hA
  ·exact TT H hs hN ht (hc 10 9 (by decide) ht) hW hA
  ·have h8:=hy 10 8 (by decide) rfl;have h5:=hC (8,5) (by decide) h8;have h3:=hC (5,3) (by decide) h5;exact SW H hs hN (hC (3,0) (by decide) h3) (hC (8,7) (by decide) h8) h8 (hy 10 9 (by decide) rfl) ht hW hA
 ·rintro L a W hs ⟨hC,m,s,v,hW,hA⟩ hr;have hs:L.size=11:=hs;have hall:=YD hs hr;obtain⟨s1,s2,s3,s4⟩:=hW.new (hall 9 (by omega));rw[hall 10 (by omega),if_pos rfl]at s4;have hr7:=hW.r;rw[hall 7 (by omega)]at hr7;have hval:=(hW.val (hall 7 (by omega))).mono (ok':=λq=>w.heap.size<=q/\q≠s) (λq hq _=>⟨hq.1,hq.2.2 (hall 9 (by omega))⟩);rw[hA.whole H.hk H.hs (λi hi=>hall i (UC hi))];exact hend W m s v hW.g hr7 s1 s2 hval s4
 ·show(DP _ _).length<=11;unfold DP;exact nT (List.length_filter_le _ _) (by simp)
 ·refine⟨?_,0,0,undef,⟨Aa _ _,?_,?_,?_,?_⟩,⟨rfl,rfl,λj _=>rfl,?_⟩⟩
  ·intro p _ h;rw[Gt]at h;cases h
  ·rw[Gt];exact hR
  ·intro h;rw[Gt]at h;cases h
  ·intro h;rw[Gt]at h;cases h
  ·intro h;rw[Gt]at h;cases h
  ·intro i _ h;rw[Gt]at h;cases h
end
section
variable {h:Hd}
def Uf(h0:h.op≠0)(hv:¬(h.vk=0/\h.vn=0/\h.vs=[])):BY h n=false:=by
 unfold BY;rw[if_pos ⟨h0,hv⟩]
def Ug(hv:¬(h.op≠0/\¬(h.vk=0/\h.vn=0/\h.vs=[])))(h8:h.op≠8)(hp:h.p≠[]):BY h n=false:=by
 unfold BY;rw[if_neg hv,if_pos ⟨h8,hp⟩]
def Uh(hv:¬(h.op≠0/\¬(h.vk=0/\h.vn=0/\h.vs=[])))(h8:¬(h.op≠8/\h.p≠[])):BY h n=Az h n:=by
 unfold BY;rw[if_neg hv,if_neg h8]
def Q4(h0:h.op≠0)(hv:¬(h.vk=0/\h.vn=0/\h.vs=[])):
 Calls Tryz.prog 170 #[exV h (.slice pa h.p.length pc) (.slice la n lc)] w (ρ w (.bool false)):=by
 obtain⟨op,s,vk,vn,vs,p⟩:=h;simp only at h0 hv ⊢;have c1:(op==0)=false:=by simpa using h0
 have c2:(op !=0)=true:=by simpa using h0
 clear h0;by_cases hk:vk=0
 ·subst hk;by_cases hn:vn=0
  ·subst hn;have hs:vs≠[]:=λe=>hv ⟨rfl,rfl,e⟩;clear hv;go_enter func170,ntmps170;go_wp2;go_ret;exact⟨rfl,(Ac (Ac (Aa _ _) _) _)⟩
  ·clear hv;go_enter func170,ntmps170;go_wp2;go_ret;exact⟨rfl,(Ac (Ac (Aa _ _) _) _)⟩
 ·clear hv;go_enter func170,ntmps170;go_wp2;go_ret;exact⟨rfl,(Ac (Ac (Aa _ _) _) _)⟩
def Q5(hv:¬(h.op≠0/\¬(h.vk=0/\h.vn=0/\h.vs=[])))(h8:h.op≠8)(hp:h.p≠[]):
 Calls Tryz.prog 170 #[exV h (.slice pa h.p.length pc) (.slice la n lc)] w (ρ w (.bool false)):=by
 obtain⟨op,s,vk,vn,vs,p⟩:=h;simp only at h8 hp hv ⊢;have c3:(op==8)=false:=by simpa using h8
 have c4:(op !=8)=true:=by simpa using h8
 have hl:0<p.length:=List.length_pos_iff.2 hp;have hlI:decide ((0:Int)<(p.length:Int))=true:=by simp;omega
 by_cases h0:op=0
 ·subst h0;clear hv hp h8;go_enter func170,ntmps170;go_wp2;go_ret;exact⟨rfl,(Ac (Ac (Aa _ _) _) _)⟩
 ·obtain⟨rfl,rfl,rfl⟩:vk=0/\vn=0/\vs=[]:=Classical.not_not.1 λe=>hv ⟨h0,e⟩;have c1:(op==0)=false:=by simpa using h0
  have c2:(op !=0)=true:=by simpa using h0
  clear hv hp h8 h0;go_enter func170,ntmps170;go_wp2;go_ret;exact⟨rfl,(Ac (Ac (Aa _ _) _) _)⟩
def Q6(hv:¬(h.op≠0/\¬(h.vk=0/\h.vn=0/\h.vs=[])))(h8:¬(h.op≠8/\h.p≠[]))
 (HL:∀W,w.grownBy W none->Calls Tryz.prog 122 #[.slice la n lc] W (ρ W (.bool false))):
 Calls Tryz.prog 170 #[exV h (.slice pa h.p.length pc) (.slice la n lc)] w (ρ w (.bool false)):=by
 have H:=S HL;clear HL;obtain⟨op,s,vk,vn,vs,p⟩:=h;simp only at h8 hv ⊢;by_cases h0:op=0
 ·subst h0;obtain rfl:p=[]:=Classical.not_not.1 λe=>h8 ⟨by decide,e⟩;clear hv h8;go_enter func170,ntmps170;go_wp2_with fail;refine(H.1 _ ?gg).mono ?_
  case gg=>exact(Ac (Ac (Aa _ _) _) _)
  rintro e w5 ⟨rfl,g5⟩;go_wp2;go_ret;exact⟨rfl,Z (Ac (Ac (Aa _ _) _) _) g5⟩
 ·obtain⟨rfl,rfl,rfl⟩:vk=0/\vn=0/\vs=[]:=Classical.not_not.1 λe=>hv ⟨h0,e⟩;have c1:(op==0)=false:=by simpa using h0
  have c2:(op !=0)=true:=by simpa using h0
  by_cases e8:op=8
  ·subst e8;clear hv h8 h0;go_enter func170,ntmps170;go_wp2_with fail;refine(H.1 _ ?gg).mono ?_
   case gg=>exact(Ac (Ac (Aa _ _) _) _)
   rintro e w5 ⟨rfl,g5⟩;go_wp2;go_ret;exact⟨rfl,Z (Ac (Ac (Aa _ _) _) _) g5⟩
  ·obtain rfl:p=[]:=Classical.not_not.1 λe=>h8 ⟨e8,e⟩;have c3:(op==8)=false:=by simpa using e8
   have c4:(op !=8)=true:=by simpa using e8
   clear hv h8 h0 e8;go_enter func170,ntmps170;go_wp2_with fail;refine(H.1 _ ?gg).mono ?_
   case gg=>exact(Ac (Ac (Aa _ _) _) _)
   rintro e w5 ⟨rfl,g5⟩;go_wp2;go_ret;exact⟨rfl,Z (Ac (Ac (Aa _ _) _) _) g5⟩
end
def VaH(w:World)(h:Hd)(pa la:Option Addr)(pc n lc:Nat):Prop:=
 (∀W,w.grownBy W none->Calls Tryz.prog 122 #[.slice la n lc] W (ρ W (.bool true)))/\
 (∀W,w.grownBy W none->Calls Tryz.prog 61 #[str h.s] W (ρ W (.bool (Aw h.s))))/\
 (∀W,w.grownBy W none->Calls Tryz.prog 218 #[.agg #[.int .i64 h.vk,.int .i64 h.vn,str h.vs]] W (ρ W (.bool (A8 h))))/\
 (∀W,w.grownBy W none->Calls Tryz.prog 219 #[str h.s] W (ρ W (.bool (opsL.contains h.s))))/\
 (∀W,w.grownBy W none->Calls Tryz.prog 62 #[.slice pa h.p.length pc] W (ρ W (.bool (h.p.all Aw))))
section
variable {s vs:Bs}{p:List Bs}{vk vn:Int}
def VH(H:Hid (VaH w ⟨0,s,vk,vn,vs,[]⟩ pa la pc n lc)):
 Calls Tryz.prog 170 #[exV ⟨0,s,vk,vn,vs,[]⟩ (.slice pa (List.length ([]:List Bs)) pc) (.slice la n lc)] w (ρ w (.bool (Az ⟨0,s,vk,vn,vs,[]⟩ n))):=by
 go_enter func170,ntmps170;go_wp2_with fail;refine(H.1.1 _ ?gg).mono ?_
 case gg=>exact(Ac (Ac (Aa _ _) _) _)
 rintro e w5 ⟨rfl,g5⟩;have hb5:=((Blk.new w (hdC ⟨0,s,vk,vn,vs,[]⟩ (.slice pa ([]:List Bs).length pc) (.slice la n lc)) 163).alloc (.cells #[.int .i64 0,.int .i64 0,.string ⟨#[]⟩] 161 (0,0))).gb g5 (by simp);have x_:=hb5.c7;simp only at x_;have HB:=S hb5;have HG:=S (Z (Ac (gZ w (.cells (hdC ⟨0,s,vk,vn,vs,[]⟩ (.slice pa ([]:List Bs).length pc) (.slice la n lc)).toArray 163 (0,0)) none) (.cells #[.int .i64 0,.int .i64 0,.string ⟨#[]⟩] 161 (0,0))) g5);clear g5 hb5;have HM:=S (show Az ⟨0,s,vk,vn,vs,[]⟩ n=(s.isEmpty&&n==0&&A8 ⟨0,s,vk,vn,vs,[]⟩)from rfl);by_cases hs:s=[]
 ·have hsI:(s==[])=true:=by simpa using hs
  by_cases hn:n=0
  ·have hnI:((n:Int)==0)=true:=by simp;omega
   have HF:=S (show Az ⟨0,s,vk,vn,vs,[]⟩ n=A8 ⟨0,s,vk,vn,vs,[]⟩by rw[HM.1];simp[hs,hn]);clear HM hs hn;have H3:=S H.1.2.2.1;simp only at H3;go_wp2_with fail;refine mR (H3.1 _ HG.1) λw6 g6=>?_;go_wp2;go_ret;exact⟨by rw[HF.1];rfl,Z HG.1 g6⟩
  ·have hnI:((n:Int)==0)=false:=by simp;omega
   have HF:=S (show Az ⟨0,s,vk,vn,vs,[]⟩ n=false by rw[HM.1];simp[hn]);clear HM hs hn;go_wp2;go_ret;exact⟨by rw[HF.1];rfl,HG.1⟩
 ·have hsI:(s==[])=false:=by simpa using hs
  have HF:=S (show Az ⟨0,s,vk,vn,vs,[]⟩ n=false by rw[HM.1];simp[hs]);clear HM hs;go_wp2;go_ret;exact⟨by rw[HF.1];rfl,HG.1⟩
def VI(H:Hid (VaH w ⟨1,s,0,0,[],[]⟩ pa la pc n lc)):
 Calls Tryz.prog 170 #[exV ⟨1,s,0,0,[],[]⟩ (.slice pa (List.length ([]:List Bs)) pc) (.slice la n lc)] w (ρ w (.bool (Az ⟨1,s,0,0,[],[]⟩ n))):=by
 go_enter func170,ntmps170;go_wp2_with fail;refine(H.1.1 _ ?gg).mono ?_
 case gg=>exact(Ac (Ac (Aa _ _) _) _)
 rintro e w5 ⟨rfl,g5⟩;have hb5:=((Blk.new w (hdC ⟨1,s,0,0,[],[]⟩ (.slice pa ([]:List Bs).length pc) (.slice la n lc)) 163).alloc (.cells #[.int .i64 0,.int .i64 0,.string ⟨#[]⟩] 161 (0,0))).gb g5 (by simp);have x_:=hb5.c7;simp only at x_;have HB:=S hb5;have HG:=S (Z (Ac (gZ w (.cells (hdC ⟨1,s,0,0,[],[]⟩ (.slice pa ([]:List Bs).length pc) (.slice la n lc)).toArray 163 (0,0)) none) (.cells #[.int .i64 0,.int .i64 0,.string ⟨#[]⟩] 161 (0,0))) g5);clear g5 hb5;have HM:=S (show Az ⟨1,s,0,0,[],[]⟩ n=(Aw s&&n==0)from rfl);have H3:=S H.1.2.1;simp only at H3;cases hb:Aw s with
 | true=>
   have HF:=S (show Az ⟨1,s,0,0,[],[]⟩ n=((n:Int)==0)by rw[HM.1,hb,Bool.true_and,Bool.eq_iff_iff];first| (simp;done)| (simp;omega));rw[hb]at H3;clear HM hb;go_wp2_with fail;refine mR (H3.1 _ HG.1) λw6 g6=>?_;have hb6:=HB.1.gb g6 (by simp);have y_:=hb6.c7;simp only at y_;have HG6:=S (Z HG.1 g6);clear g6 hb6;go_wp2;go_ret;exact⟨by rw[HF.1];rfl,HG6.1⟩
 | false=>
   have HF:=S (show Az ⟨1,s,0,0,[],[]⟩ n=false by rw[HM.1,hb];rfl);rw[hb]at H3;clear HM hb;go_wp2_with fail;refine mR (H3.1 _ HG.1) λw6 g6=>?_;go_wp2;go_ret;exact⟨by rw[HF.1];rfl,Z HG.1 g6⟩
def U1(H:Hid (VaH w ⟨10,s,0,0,[],[]⟩ pa la pc n lc)):
 Calls Tryz.prog 170 #[exV ⟨10,s,0,0,[],[]⟩ (.slice pa (List.length ([]:List Bs)) pc) (.slice la n lc)] w (ρ w (.bool (Az ⟨10,s,0,0,[],[]⟩ n))):=by
 go_enter func170,ntmps170;go_wp2_with fail;refine(H.1.1 _ ?gg).mono ?_
 case gg=>exact(Ac (Ac (Aa _ _) _) _)
 rintro e w5 ⟨rfl,g5⟩;have hb5:=((Blk.new w (hdC ⟨10,s,0,0,[],[]⟩ (.slice pa ([]:List Bs).length pc) (.slice la n lc)) 163).alloc (.cells #[.int .i64 0,.int .i64 0,.string ⟨#[]⟩] 161 (0,0))).gb g5 (by simp);have x_:=hb5.c7;simp only at x_;have HB:=S hb5;have HG:=S (Z (Ac (gZ w (.cells (hdC ⟨10,s,0,0,[],[]⟩ (.slice pa ([]:List Bs).length pc) (.slice la n lc)).toArray 163 (0,0)) none) (.cells #[.int .i64 0,.int .i64 0,.string ⟨#[]⟩] 161 (0,0))) g5);clear g5 hb5;have HM:=S (show Az ⟨10,s,0,0,[],[]⟩ n=(Aw s&&n==0)from rfl);have H3:=S H.1.2.1;simp only at H3;cases hb:Aw s with
 | true=>
   have HF:=S (show Az ⟨10,s,0,0,[],[]⟩ n=((n:Int)==0)by rw[HM.1,hb,Bool.true_and,Bool.eq_iff_iff];first| (simp;done)| (simp;omega));rw[hb]at H3;clear HM hb;go_wp2_with fail;refine mR (H3.1 _ HG.1) λw6 g6=>?_;have hb6:=HB.1.gb g6 (by simp);have y_:=hb6.c7;simp only at y_;have HG6:=S (Z HG.1 g6);clear g6 hb6;go_wp2;go_ret;exact⟨by rw[HF.1];rfl,HG6.1⟩
 | false=>
   have HF:=S (show Az ⟨10,s,0,0,[],[]⟩ n=false by rw[HM.1,hb];rfl);rw[hb]at H3;clear HM hb;go_wp2_with fail;refine mR (H3.1 _ HG.1) λw6 g6=>?_;go_wp2;go_ret;exact⟨by rw[HF.1];rfl,Z HG.1 g6⟩
def VJ(H:Hid (VaH w ⟨2,s,0,0,[],[]⟩ pa la pc n lc)):
 Calls Tryz.prog 170 #[exV ⟨2,s,0,0,[],[]⟩ (.slice pa (List.length ([]:List Bs)) pc) (.slice la n lc)] w (ρ w (.bool (Az ⟨2,s,0,0,[],[]⟩ n))):=by
 go_enter func170,ntmps170;go_wp2_with fail;refine(H.1.1 _ ?gg).mono ?_
 case gg=>exact(Ac (Ac (Aa _ _) _) _)
 rintro e w5 ⟨rfl,g5⟩;have hb5:=((Blk.new w (hdC ⟨2,s,0,0,[],[]⟩ (.slice pa ([]:List Bs).length pc) (.slice la n lc)) 163).alloc (.cells #[.int .i64 0,.int .i64 0,.string ⟨#[]⟩] 161 (0,0))).gb g5 (by simp);have x_:=hb5.c7;simp only at x_;have HB:=S hb5;have HG:=S (Z (Ac (gZ w (.cells (hdC ⟨2,s,0,0,[],[]⟩ (.slice pa ([]:List Bs).length pc) (.slice la n lc)).toArray 163 (0,0)) none) (.cells #[.int .i64 0,.int .i64 0,.string ⟨#[]⟩] 161 (0,0))) g5);clear g5 hb5;have HM:=S (show Az ⟨2,s,0,0,[],[]⟩ n=(Aw s&&n==1)from rfl);have H3:=S H.1.2.1;simp only at H3;cases hb:Aw s with
 | true=>
   have HF:=S (show Az ⟨2,s,0,0,[],[]⟩ n=((n:Int)==1)by rw[HM.1,hb,Bool.true_and,Bool.eq_iff_iff];first| (simp;done)| (simp;omega));rw[hb]at H3;clear HM hb;go_wp2_with fail;refine mR (H3.1 _ HG.1) λw6 g6=>?_;have hb6:=HB.1.gb g6 (by simp);have y_:=hb6.c7;simp only at y_;have HG6:=S (Z HG.1 g6);clear g6 hb6;go_wp2;go_ret;exact⟨by rw[HF.1];rfl,HG6.1⟩
 | false=>
   have HF:=S (show Az ⟨2,s,0,0,[],[]⟩ n=false by rw[HM.1,hb];rfl);rw[hb]at H3;clear HM hb;go_wp2_with fail;refine mR (H3.1 _ HG.1) λw6 g6=>?_;go_wp2;go_ret;exact⟨by rw[HF.1];rfl,Z HG.1 g6⟩
def VK(H:Hid (VaH w ⟨3,s,0,0,[],[]⟩ pa la pc n lc)):
 Calls Tryz.prog 170 #[exV ⟨3,s,0,0,[],[]⟩ (.slice pa (List.length ([]:List Bs)) pc) (.slice la n lc)] w (ρ w (.bool (Az ⟨3,s,0,0,[],[]⟩ n))):=by
 have HM:=S (show Az ⟨3,s,0,0,[],[]⟩ n=Aw s from rfl);rw[HM.1];clear HM;have H3:=S H.1.2.1;simp only at H3;generalize Aw s=b at*;go_enter func170,ntmps170;go_wp2_with fail;refine(H.1.1 _ ?gg).mono ?_
 case gg=>exact(Ac (Ac (Aa _ _) _) _)
 rintro e w5 ⟨rfl,g5⟩;have hb5:=((Blk.new w (hdC ⟨3,s,0,0,[],[]⟩ (.slice pa ([]:List Bs).length pc) (.slice la n lc)) 163).alloc (.cells #[.int .i64 0,.int .i64 0,.string ⟨#[]⟩] 161 (0,0))).gb g5 (by simp);have x_:=hb5.c7;simp only at x_;have HB:=S hb5;have HG:=S (Z (Ac (gZ w (.cells (hdC ⟨3,s,0,0,[],[]⟩ (.slice pa ([]:List Bs).length pc) (.slice la n lc)).toArray 163 (0,0)) none) (.cells #[.int .i64 0,.int .i64 0,.string ⟨#[]⟩] 161 (0,0))) g5);clear g5 hb5;go_wp2_with fail;refine mR (H3.1 _ HG.1) λw6 g6=>?_;go_wp2;go_ret;exact⟨rfl,Z HG.1 g6⟩
def VM(H:Hid (VaH w ⟨4,s,0,0,[],[]⟩ pa la pc n lc)):
 Calls Tryz.prog 170 #[exV ⟨4,s,0,0,[],[]⟩ (.slice pa (List.length ([]:List Bs)) pc) (.slice la n lc)] w (ρ w (.bool (Az ⟨4,s,0,0,[],[]⟩ n))):=by
 go_enter func170,ntmps170;go_wp2_with fail;refine(H.1.1 _ ?gg).mono ?_
 case gg=>exact(Ac (Ac (Aa _ _) _) _)
 rintro e w5 ⟨rfl,g5⟩;have hb5:=((Blk.new w (hdC ⟨4,s,0,0,[],[]⟩ (.slice pa ([]:List Bs).length pc) (.slice la n lc)) 163).alloc (.cells #[.int .i64 0,.int .i64 0,.string ⟨#[]⟩] 161 (0,0))).gb g5 (by simp);have x_:=hb5.c7;simp only at x_;have HB:=S hb5;have HG:=S (Z (Ac (gZ w (.cells (hdC ⟨4,s,0,0,[],[]⟩ (.slice pa ([]:List Bs).length pc) (.slice la n lc)).toArray 163 (0,0)) none) (.cells #[.int .i64 0,.int .i64 0,.string ⟨#[]⟩] 161 (0,0))) g5);clear g5 hb5;have HM:=S (show Az ⟨4,s,0,0,[],[]⟩ n=((s==[45]||s==[46,78,79,84,46])&&n==1)from rfl);cases h1:(s==[45])with
 | true=>
   have HF:=S (show Az ⟨4,s,0,0,[],[]⟩ n=((n:Int)==1)by rw[HM.1,h1,Bool.true_or,Bool.true_and,Bool.eq_iff_iff];first| (simp;done)| (simp;omega));clear HM;go_wp2;go_ret;exact⟨by rw[HF.1];rfl,HG.1⟩
 | false=>
   cases h2:(s==[46,78,79,84,46])with
   | true=>
     have HF:=S (show Az ⟨4,s,0,0,[],[]⟩ n=((n:Int)==1)by rw[HM.1,h1,h2,Bool.false_or,Bool.true_and,Bool.eq_iff_iff];first| (simp;done)| (simp;omega));clear HM;go_wp2;go_ret;exact⟨by rw[HF.1];rfl,HG.1⟩
   | false=>
     have HF:=S (show Az ⟨4,s,0,0,[],[]⟩ n=false by rw[HM.1,h1,h2];rfl);clear HM;go_wp2;go_ret;exact⟨by rw[HF.1];rfl,HG.1⟩
def VN(H:Hid (VaH w ⟨5,s,0,0,[],[]⟩ pa la pc n lc)):
 Calls Tryz.prog 170 #[exV ⟨5,s,0,0,[],[]⟩ (.slice pa (List.length ([]:List Bs)) pc) (.slice la n lc)] w (ρ w (.bool (Az ⟨5,s,0,0,[],[]⟩ n))):=by
 go_enter func170,ntmps170;go_wp2_with fail;refine(H.1.1 _ ?gg).mono ?_
 case gg=>exact(Ac (Ac (Aa _ _) _) _)
 rintro e w5 ⟨rfl,g5⟩;have hb5:=((Blk.new w (hdC ⟨5,s,0,0,[],[]⟩ (.slice pa ([]:List Bs).length pc) (.slice la n lc)) 163).alloc (.cells #[.int .i64 0,.int .i64 0,.string ⟨#[]⟩] 161 (0,0))).gb g5 (by simp);have x_:=hb5.c7;simp only at x_;have HB:=S hb5;have HG:=S (Z (Ac (gZ w (.cells (hdC ⟨5,s,0,0,[],[]⟩ (.slice pa ([]:List Bs).length pc) (.slice la n lc)).toArray 163 (0,0)) none) (.cells #[.int .i64 0,.int .i64 0,.string ⟨#[]⟩] 161 (0,0))) g5);clear g5 hb5;have HM:=S (show Az ⟨5,s,0,0,[],[]⟩ n=(opsL.contains s&&n==2)from rfl);have H3:=S H.1.2.2.2.1;simp only at H3;cases hb:opsL.contains s with
 | true=>
   have HF:=S (show Az ⟨5,s,0,0,[],[]⟩ n=((n:Int)==2)by rw[HM.1,hb,Bool.true_and,Bool.eq_iff_iff];first| (simp;done)| (simp;omega));rw[hb]at H3;clear HM hb;go_wp2_with fail;refine mR (H3.1 _ HG.1) λw6 g6=>?_;have hb6:=HB.1.gb g6 (by simp);have y_:=hb6.c7;simp only at y_;have HG6:=S (Z HG.1 g6);clear g6 hb6;go_wp2;go_ret;exact⟨by rw[HF.1];rfl,HG6.1⟩
 | false=>
   have HF:=S (show Az ⟨5,s,0,0,[],[]⟩ n=false by rw[HM.1,hb];rfl);rw[hb]at H3;clear HM hb;go_wp2_with fail;refine mR (H3.1 _ HG.1) λw6 g6=>?_;go_wp2;go_ret;exact⟨by rw[HF.1];rfl,Z HG.1 g6⟩
def VO(H:Hid (VaH w ⟨6,s,0,0,[],[]⟩ pa la pc n lc)):
 Calls Tryz.prog 170 #[exV ⟨6,s,0,0,[],[]⟩ (.slice pa (List.length ([]:List Bs)) pc) (.slice la n lc)] w (ρ w (.bool (Az ⟨6,s,0,0,[],[]⟩ n))):=by
 go_enter func170,ntmps170;go_wp2_with fail;refine(H.1.1 _ ?gg).mono ?_
 case gg=>exact(Ac (Ac (Aa _ _) _) _)
 rintro e w5 ⟨rfl,g5⟩;have hb5:=((Blk.new w (hdC ⟨6,s,0,0,[],[]⟩ (.slice pa ([]:List Bs).length pc) (.slice la n lc)) 163).alloc (.cells #[.int .i64 0,.int .i64 0,.string ⟨#[]⟩] 161 (0,0))).gb g5 (by simp);have x_:=hb5.c7;simp only at x_;have HB:=S hb5;have HG:=S (Z (Ac (gZ w (.cells (hdC ⟨6,s,0,0,[],[]⟩ (.slice pa ([]:List Bs).length pc) (.slice la n lc)).toArray 163 (0,0)) none) (.cells #[.int .i64 0,.int .i64 0,.string ⟨#[]⟩] 161 (0,0))) g5);clear g5 hb5;have HM:=S (show Az ⟨6,s,0,0,[],[]⟩ n=(s.isEmpty&&n==2)from rfl);by_cases hs:s=[]
 ·have hsI:(s==[])=true:=by simpa using hs
  by_cases hn:n=2
  ·have hnI:((n:Int)==2)=true:=by simp;omega
   have HF:=S (show Az ⟨6,s,0,0,[],[]⟩ n=true by rw[HM.1];simp[hs,hn]);clear HM hs hn;go_wp2;go_ret;exact⟨by rw[HF.1];rfl,HG.1⟩
  ·have hnI:((n:Int)==2)=false:=by simp;omega
   have HF:=S (show Az ⟨6,s,0,0,[],[]⟩ n=false by rw[HM.1];simp[hn]);clear HM hs hn;go_wp2;go_ret;exact⟨by rw[HF.1];rfl,HG.1⟩
 ·have hsI:(s==[])=false:=by simpa using hs
  have HF:=S (show Az ⟨6,s,0,0,[],[]⟩ n=false by rw[HM.1];simp[hs]);clear HM hs;go_wp2;go_ret;exact⟨by rw[HF.1];rfl,HG.1⟩
def VP(H:Hid (VaH w ⟨7,s,0,0,[],[]⟩ pa la pc n lc)):
 Calls Tryz.prog 170 #[exV ⟨7,s,0,0,[],[]⟩ (.slice pa (List.length ([]:List Bs)) pc) (.slice la n lc)] w (ρ w (.bool (Az ⟨7,s,0,0,[],[]⟩ n))):=by
 go_enter func170,ntmps170;go_wp2_with fail;refine(H.1.1 _ ?gg).mono ?_
 case gg=>exact(Ac (Ac (Aa _ _) _) _)
 rintro e w5 ⟨rfl,g5⟩;have hb5:=((Blk.new w (hdC ⟨7,s,0,0,[],[]⟩ (.slice pa ([]:List Bs).length pc) (.slice la n lc)) 163).alloc (.cells #[.int .i64 0,.int .i64 0,.string ⟨#[]⟩] 161 (0,0))).gb g5 (by simp);have x_:=hb5.c7;simp only at x_;have HB:=S hb5;have HG:=S (Z (Ac (gZ w (.cells (hdC ⟨7,s,0,0,[],[]⟩ (.slice pa ([]:List Bs).length pc) (.slice la n lc)).toArray 163 (0,0)) none) (.cells #[.int .i64 0,.int .i64 0,.string ⟨#[]⟩] 161 (0,0))) g5);clear g5 hb5;have HM:=S (show Az ⟨7,s,0,0,[],[]⟩ n=(s.isEmpty&&decide (1<=n))from rfl);by_cases hs:s=[]
 ·have hsI:(s==[])=true:=by simpa using hs
  by_cases hn:1<=n
  ·have hnI:(decide ((1:Int)<=(n:Int)))=true:=by simp;omega
   have HF:=S (show Az ⟨7,s,0,0,[],[]⟩ n=true by rw[HM.1];simp[hs,hn]);clear HM hs hn;go_wp2;go_ret;exact⟨by rw[HF.1];rfl,HG.1⟩
  ·have hnI:(decide ((1:Int)<=(n:Int)))=false:=by simp;omega
   have HF:=S (show Az ⟨7,s,0,0,[],[]⟩ n=false by rw[HM.1];simp[hn]);clear HM hs hn;go_wp2;go_ret;exact⟨by rw[HF.1];rfl,HG.1⟩
 ·have hsI:(s==[])=false:=by simpa using hs
  have HF:=S (show Az ⟨7,s,0,0,[],[]⟩ n=false by rw[HM.1];simp[hs]);clear HM hs;go_wp2;go_ret;exact⟨by rw[HF.1];rfl,HG.1⟩
def VQ(H:Hid (VaH w ⟨8,s,0,0,[],p⟩ pa la pc n lc)):
 Calls Tryz.prog 170 #[exV ⟨8,s,0,0,[],p⟩ (.slice pa p.length pc) (.slice la n lc)] w (ρ w (.bool (Az ⟨8,s,0,0,[],p⟩ n))):=by
 go_enter func170,ntmps170;go_wp2_with fail;refine(H.1.1 _ ?gg).mono ?_
 case gg=>exact(Ac (Ac (Aa _ _) _) _)
 rintro e w5 ⟨rfl,g5⟩;have hb5:=((Blk.new w (hdC ⟨8,s,0,0,[],p⟩ (.slice pa (p:List Bs).length pc) (.slice la n lc)) 163).alloc (.cells #[.int .i64 0,.int .i64 0,.string ⟨#[]⟩] 161 (0,0))).gb g5 (by simp);have x_:=hb5.c7;simp only at x_;have HB:=S hb5;have HG:=S (Z (Ac (gZ w (.cells (hdC ⟨8,s,0,0,[],p⟩ (.slice pa (p:List Bs).length pc) (.slice la n lc)).toArray 163 (0,0)) none) (.cells #[.int .i64 0,.int .i64 0,.string ⟨#[]⟩] 161 (0,0))) g5);clear g5 hb5;have HM:=S (show Az ⟨8,s,0,0,[],p⟩ n=(s.isEmpty&&n==1&&p.all Aw)from rfl);by_cases hs:s=[]
 ·have hsI:(s==[])=true:=by simpa using hs
  by_cases hn:n=1
  ·have hnI:((n:Int)==1)=true:=by simp;omega
   have HF:=S (show Az ⟨8,s,0,0,[],p⟩ n=p.all Aw by rw[HM.1];simp[hs,hn]);clear HM hs hn;have H3:=S H.1.2.2.2.2;simp only at H3;go_wp2_with fail;refine mR (H3.1 _ HG.1) λw6 g6=>?_;go_wp2;go_ret;exact⟨by rw[HF.1];rfl,Z HG.1 g6⟩
  ·have hnI:((n:Int)==1)=false:=by simp;omega
   have HF:=S (show Az ⟨8,s,0,0,[],p⟩ n=false by rw[HM.1];simp[hn]);clear HM hs hn;go_wp2;go_ret;exact⟨by rw[HF.1];rfl,HG.1⟩
 ·have hsI:(s==[])=false:=by simpa using hs
  have HF:=S (show Az ⟨8,s,0,0,[],p⟩ n=false by rw[HM.1];simp[hs]);clear HM hs;go_wp2;go_ret;exact⟨by rw[HF.1];rfl,HG.1⟩
def VR(H:Hid (VaH w ⟨9,s,0,0,[],[]⟩ pa la pc n lc)):
 Calls Tryz.prog 170 #[exV ⟨9,s,0,0,[],[]⟩ (.slice pa (List.length ([]:List Bs)) pc) (.slice la n lc)] w (ρ w (.bool (Az ⟨9,s,0,0,[],[]⟩ n))):=by
 go_enter func170,ntmps170;go_wp2_with fail;refine(H.1.1 _ ?gg).mono ?_
 case gg=>exact(Ac (Ac (Aa _ _) _) _)
 rintro e w5 ⟨rfl,g5⟩;have hb5:=((Blk.new w (hdC ⟨9,s,0,0,[],[]⟩ (.slice pa ([]:List Bs).length pc) (.slice la n lc)) 163).alloc (.cells #[.int .i64 0,.int .i64 0,.string ⟨#[]⟩] 161 (0,0))).gb g5 (by simp);have x_:=hb5.c7;simp only at x_;have HB:=S hb5;have HG:=S (Z (Ac (gZ w (.cells (hdC ⟨9,s,0,0,[],[]⟩ (.slice pa ([]:List Bs).length pc) (.slice la n lc)).toArray 163 (0,0)) none) (.cells #[.int .i64 0,.int .i64 0,.string ⟨#[]⟩] 161 (0,0))) g5);clear g5 hb5;have HM:=S (show Az ⟨9,s,0,0,[],[]⟩ n=((Aw s&&n==0)||(s.isEmpty&&n==1))from rfl);have H3:=S H.1.2.1;simp only at H3;cases hb:(Aw s&&n==0)with
 | true=>
   obtain⟨hb1,hb2⟩:=(Bool.and_eq_true _ _).mp hb;have hnI:((n:Int)==0)=true:=by simpa using hb2
   have HF:=S (show Az ⟨9,s,0,0,[],[]⟩ n=true by rw[HM.1,hb];rfl);rw[hb1]at H3;clear HM hb hb1 hb2;go_wp2_with fail;refine mR (H3.1 _ HG.1) λw6 g6=>?_;have hb6:=HB.1.gb g6 (by simp);have y_:=hb6.c7;simp only at y_;have HG6:=S (Z HG.1 g6);clear g6 hb6;go_wp2;go_ret;exact⟨by rw[HF.1];rfl,HG6.1⟩
 | false=>
   have HF0:=S (show Az ⟨9,s,0,0,[],[]⟩ n=(s.isEmpty&&n==1)by rw[HM.1,hb];rfl);clear HM;cases hs:(s==[])with
   | true=>
     have HF:=S (show Az ⟨9,s,0,0,[],[]⟩ n=((n:Int)==1)by rw[HF0.1,show s.isEmpty=true by simpa using hs,Bool.true_and,Bool.eq_iff_iff];first| (simp;done)| (simp;omega));have hn:Aw s=false:=by rw[show s=[]by simpa using hs];rfl
     rw[hn]at H3;clear HF0 hb hn;go_wp2_with fail;refine mR (H3.1 _ HG.1) λw6 g6=>?_;have hb6:=HB.1.gb g6 (by simp);have y_:=hb6.c7;simp only at y_;have HG6:=S (Z HG.1 g6);clear g6 hb6;go_wp2;go_ret;exact⟨by rw[HF.1];rfl,HG6.1⟩
   | false=>
     have HF:=S (show Az ⟨9,s,0,0,[],[]⟩ n=false by rw[HF0.1,show s.isEmpty=false by simpa using hs];rfl);cases hn:Aw s
     case' true=>
      have hnI:((n:Int)==0)=false:=by rw[hn]at hb;simpa using hb
     case' false=>
      skip
     all_goals
      rw[hn]at H3;clear HF0 hb hn;go_wp2_with fail;refine mR (H3.1 _ HG.1) λw6 g6=>?_;have hb6:=HB.1.gb g6 (by simp);have y_:=hb6.c7;simp only at y_;have HG6:=S (Z HG.1 g6);clear g6 hb6;go_wp2;go_ret;exact⟨by rw[HF.1];rfl,HG6.1⟩
end
def AllR{α:Type}(P:α->Prop):Res α->Prop
 | .ok a _=>P a
 |_=>True
def AllR.bind{α β:Type}{P:α->Prop}{Q:β->Prop}{r:Res α}{f:α->Nat->Res β}(h:AllR P r)(hf:∀a j,P a->AllR Q (f a j)):AllR Q (r.bind f):=by
 cases r with
 |ok a j=>exact hf a j h
 |bad k=>trivial
 |out=>trivial
def FX(x:Ex):Prop:=x.h.fit/\x.kids.fit
def Dp{s:Bs}(h:s.length<=2000000):(hd0 op s).fit:=⟨h,nZ _,nZ _,λs hs=>by cases hs⟩
def XR{g:Fo}(hf:f.fit)(hg:g.fit):(f.app g).fit:=by
 induction f with
 |nil=>exact hg
 |cons h k n _ ih=>exact⟨hf.1,hf.2.1,ih hf.2.2⟩
def G4(h:FX x):(Fo.one x).fit:=⟨h.1,h.2,trivial⟩
def NQ(h:FX x)(k:FX y):(Fo.two x y).fit:=⟨h.1,h.2,k.1,k.2,trivial⟩
def V7(hf:f.fit)(h:FX x):(f.snoc x).fit:=XR hf ⟨h.1,h.2,trivial⟩
def KM{s:Bs}(hs:s.length<=2000000)(h:FX x)(k:FX y):FX (Bq s x y):=⟨Dp hs,NQ h k⟩
def Ow{s:Bs}(hs:s.length<=2000000)(h:FX x):FX (unE s x):=⟨Dp hs,G4 h⟩
def Gx{a b:Int}{s:Bs}(hs:s.length<=2000000):FX (A6 a b s):=⟨⟨nZ _,hs,nZ _,λs h=>by cases h⟩,trivial⟩
def Qg{s:Bs}:(Gq k s).length<=8:=by
 have h:∀(L:List (Bs×Bs)),(∀p∈L,p.2.length<=8)->((L.lookup s).getD []).length<=8:=by
  intro L;induction L with
  |nil=>intro _;simp
  | cons p L ih=>
    intro hp;obtain⟨a,b⟩:=p;rw[List.lookup_cons];split
    ·exact hp (a,b) (by simp)
    ·exact ih (λq hq=>hp q (by simp[hq]))
 unfold Gq;refine h _ ?_;unfold lvl;split<;>decide
def JL(k i:Nat):(AM l k i).length<=2000000:=by
 unfold AM;split
 ·exact nT Qg (by decide)
 ·exact nZ _
def FK(i:Nat):AllR (λs:Bs=>s.length<=10) (AD l i):=by
 unfold AD;split
 ·rename_i h;simp only[Bool.and_eq_true,Aw,decide_eq_true_eq]at h;exact h.2.1.1.2
 ·trivial
def Ej(s:Bs)(i:Nat):AllR (λ_:Unit=>True) (AW l s i):=by
 unfold AW;split<;>trivial
def P8(h:∀q,AllR FX (opnd q)):∀n x j,FX x->AllR FX (Dg l k opnd n x j):=by
 intro n;induction n with
 |zero=>intro x j _;trivial
 | succ n ih=>
   intro x j h1;unfold Dg;split
   ·exact h1
   ·exact AllR.bind (h _) λy q hq=>ih _ _ (KM (JL _ _) h1 hq)
def IA(h:∀q,AllR FX (opnd q))(q:Nat):AllR FX (Bj l k n opnd q):=AllR.bind (h q) λx j hj=>P8 h n x j hj
def Xs{un:Nat->Res Ex}(h:∀q,AllR FX (un q)):∀n q,AllR FX (D2 l un n q):=by
 intro n;induction n with
 |zero=>intro q;trivial
 | succ n ih=>
   intro q;unfold D2;refine AllR.bind (h q) λx j hj=>?_;split
   ·exact hj
   ·exact AllR.bind (ih _) λy k hk=>KM (JL _ _) hj hk
def Xk{sum:Nat->Res Ex}(h:∀q,AllR FX (sum q)):∀n q,AllR FX (Do l sum n q):=by
 intro n;induction n with
 |zero=>intro q;trivial
 | succ n ih=>
   intro q;unfold Do;split
   ·exact AllR.bind (ih _) λy k hk=>Ow (by decide) hk
   ·refine AllR.bind (h q) λx j hj=>?_;split
    ·exact hj
    ·exact AllR.bind (h _) λy k hk=>KM (JL _ _) hj hk
def Q2(h:∀q,AllR FX (E q)):∀n x j,FX x->AllR FX (CH l E n x j):=by
 intro n;induction n with
 |zero=>intro x j _;trivial
 | succ n ih=>
   intro x j h1;unfold CH;split
   ·exact AllR.bind (h _) λy q hq=>AllR.bind (Ej _ _) λ_ k _=>ih _ _ ⟨Dp (nZ _),NQ h1 hq⟩
   ·exact h1
def TE{prim:Nat->Res Ex}(hE:∀q,AllR FX (E q))(hP:∀q,AllR FX (prim q)):∀n q,AllR FX (CG l E prim n q):=by
 intro n;induction n with
 |zero=>intro q;trivial
 | succ n ih=>
   intro q;unfold CG;split
   ·exact AllR.bind (ih _) λy k hk=>Ow (by decide) hk
   ·exact AllR.bind (hP q) λx j hj=>Q2 hE n x j hj
def PD(h:∀q,AllR FX (E q)):∀n f j,f.fit->AllR Fo.fit (Dh l E n f j):=by
 intro n;induction n with
 |zero=>intro x j _;trivial
 | succ n ih=>
   intro x j h1;unfold Dh;split
   ·exact AllR.bind (h _) λy q hq=>ih _ _ (V7 h1 hq)
   ·exact h1
def MG(h:∀q,AllR FX (E q))(q:Nat):AllR Fo.fit (Dd l E n q):=AllR.bind (h q) λx j hj=>PD h n _ j (G4 hj)
def NmOk(m:Nat)(p:List Bs):Prop:=p.length<=m/\∀s∈p,s.length<=2000000
def Pg:∀n f j,f.length+n<=m->(∀s∈f,s.length<=2000000)->AllR (NmOk m) (Dj l n f j):=by
 intro n;induction n with
 |zero=>intro x j _ _;trivial
 | succ n ih=>
   intro x j h1 h2;unfold Dj;split
   ·refine AllR.bind (FK _) λy q hq=>ih _ _ (by simp;omega) λs hs=>?_;rcases List.mem_append.1 hs with h|h
    ·exact h2 s h
    ·simp at h;subst h;exact nT hq (by decide)
   ·exact⟨by omega,h2⟩
def Th(q:Nat):AllR (NmOk (n+1)) (CF l n q):=
 AllR.bind (FK _) λx j hj=>Pg n _ j (by simp;omega) (λs hs=>by simp at hs;subst hs;exact nT hj (by decide))
def Tm(hE:∀q,AllR FX (E q))(q:Nat):AllR FX (DH l E n q):=by
 unfold DH;refine AllR.bind (FK _) λs j hj=>AllR.bind (Ej _ _) λ_ k _=>?_;split
 ·exact⟨Dp (nT hj (by decide)),trivial⟩
 ·exact AllR.bind (MG hE _) λf p hp=>AllR.bind (Ej _ _) λ_ r _=>⟨Dp (nT hj (by decide)),hp⟩
def Ta(hE:∀q,AllR FX (E q))(q:Nat):AllR FX (DD l E q):=by
 unfold DD;refine AllR.bind (Ej _ _) λs j _=>?_;split
 ·exact AllR.bind (hE _) λf p hp=>AllR.bind (Ej _ _) λ_ k _=>⟨Dp (nZ _),G4 hp⟩
 ·exact AllR.bind (FK _) λs p hp=>⟨Dp (nT hp (by decide)),trivial⟩
def QS(hn:n+1<=2000000)(hE:∀q,AllR FX (E q))(q:Nat):AllR FX (DO l E n q):=by
 unfold DO;split
 ·have h1 : AllR (NmOk (n + 1)) (if Ah (Ab l (q + 1)) [124] then (.ok [] (q + 2) : Res (List Bs)) else (CF l n (q + 1)).bind λp j => (AW l [124] j).bind λ_ j => .ok p j) := by
   split
   ·exact⟨nZ _,λs h=>by cases h⟩
   ·exact AllR.bind (Th _) λp j hj=>AllR.bind (Ej _ _) λ_ k _=>hj
  exact AllR.bind h1 λp j hj=>AllR.bind (hE _) λf p' hp=>AllR.bind (Ej _ _) λ_ k _=>⟨⟨nZ _,nZ _,nT hj.1 hn,hj.2⟩,G4 hp⟩
 ·exact AllR.bind (MG hE _) λf p hp=>AllR.bind (Ej _ _) λ_ k _=>⟨Dp (nZ _),hp⟩
def Rc(hn:n+1<=2000000)(hE:∀q,AllR FX (E q))(q:Nat):AllR FX (Ep l E n q):=by
 unfold Ep;split
 ·exact Ta hE q
 split
 ·exact Gx (nZ _)
 split
 ·exact Gx (nZ _)
 split
 ·exact Gx (nZ _)
 split
 ·exact AllR.bind (hE _) λf p hp=>AllR.bind (Ej _ _) λ_ k _=>hp
 split
 ·exact AllR.bind (FK _) λs p hp=>⟨Dp (nT hp (by decide)),trivial⟩
 split
 ·exact QS hn hE _
 ·trivial
def Tg(hE:∀q,AllR FX (E q))(q:Nat):AllR FX (Et l E n q):=by
 unfold Et;split
 ·exact Tm hE q
 refine AllR.bind (FK _) λs j hj=>?_;split
 ·split
  ·exact AllR.bind (hE _) λf p hp=>AllR.bind (Ej _ _) λ_ k _=>⟨Dp (nT hj (by decide)),G4 hp⟩
  ·exact AllR.bind (FK _) λs p hp=>⟨Dp (nT hj (by decide)),G4 ⟨Dp (nT hp (by decide)),trivial⟩⟩
 ·exact⟨Dp (nT hj (by decide)),trivial⟩
def Ut(hn:n+1<=2000000)(hE:∀q,AllR FX (E q))(q:Nat):AllR FX (DK l day E n q):=by
 unfold DK;split
 ·exact Gx (nZ _)
 split
 ·split
  ·trivial
  ·rename_i h;exact Gx (nT (Nat.le_of_not_lt h) (by decide))
 split
 ·exact Gx (nZ _)
 split
 ·exact Tg hE q
 ·exact Rc hn hE q
def T8(day:Bs->Int):∀n q,n<=1999999->AllR FX (Ai l day n q):=by
 intro n;induction n with
 |zero=>intro q _;trivial
 | succ n ih=>
   intro q hn;have ih:=λq=>ih q (by omega);unfold Ai;exact IA (IA λp=>Xk (λp=>IA (IA λp=>Xs (λp=>TE ih (λp=>Ut (by omega) ih p) n p) n p) p) n p) q
def U9(day:Bs->Int)(n:Nat)(hn:n<=1999999)(h:BV l day n= .ok x j):FX x:=by
 have h1:=T8 (l:=l) day n 0 hn;unfold BV at h;cases hr:Ai l day n 0 with
 | ok y i=>
   rw[hr,Res.bind_ok]at h;rw[hr]at h1;cases he:B4 l i with
   |ok u k=>rw[he,Res.bind_ok]at h;cases h;exact h1
   |bad k=>rw[he]at h;cases h
   |out=>rw[he]at h;cases h
 |bad k=>rw[hr]at h;cases h
 |out=>rw[hr]at h;cases h
end Go.Proofs.YtbjfaimkiclhgaaGreatDoor
