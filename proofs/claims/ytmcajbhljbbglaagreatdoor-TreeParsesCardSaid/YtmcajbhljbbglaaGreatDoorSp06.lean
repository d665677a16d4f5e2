/-
  Contracts of the parser: pow, not. Contracts of the parser: variable, names, unary, list. Contracts of the parser: list, unary.
-/
import Derived.Test.YtmcajbhljbbglaaGreatDoorSpF
import Derived.Test.YtmcajbhljbbglaaGreatDoorSp04
import Derived.Test.YtmcajbhljbbglaaGreatDoorSp02
set_option linter.all false
set_option maxRecDepth 100000
set_option maxHeartbeats 8000000
namespace Go.Proofs.YtmcajbhljbbglaaGreatDoor
open Tryz
open Go.RowKit
section
variable {b:Nat}{tv wv:Value}{l:List Tok}{wl:List Bs}
theorem E9{w w1 w2:World}{r:Res Ex}{i:Nat}{x:Ex}{ok:Nat→Prop}(h0:b<w.heap.size)(hr:r= .ok x i)(g:w.grownBy w1 (some b)){v:Value}(hv:VE ok w1 v x)(hok:∀k,ok k→w.heap.size<k)(hp:Par w1 b tv wv l wl i)
 (g2:w1.grownBy w2 (some w.heap.size)):PE b tv wv l wl w r (.returned v) w2:=
 Post.ok (A5 g g2 (.inr (Nat.le_refl _))) hr ((hv.gb g2 JN).mono JM) (hp.gb g2 A6)
theorem Mz{w w1 W:World}{r:Res Ex}{i:Nat}{x:Ex}{op:Int}{s:Bs}{ok:Nat→Prop}{pa la:Option Addr}{pc lc:Nat}(h0:b<w.heap.size)(hr:r= .ok ⟨hd0 op s,.one x⟩ i)(g:w.grownBy w1 (some b))
 (rp:Cells w1 (.slice pa x.h.p.length pc) 1 x.h.p.length (x.h.p.map str) ok) (rl:RepL ok w1 (.slice la x.kids.len lc) x.kids) (hok:∀k,ok k→w.heap.size<k) (hp:Par w1 b tv wv l wl i) (g7:w1.grownBy W (some w.heap.size)) (hsz:W.heap.size=w1.heap.size):
 PE b tv wv l wl w r (.returned (exV (hd0 op s) (.slice none 0 0) (.slice (some ⟨w1.heap.size,0,none⟩) 1 1))) (W.alloc (Obj.cells #[Value.int IntKind.i64 x.h.op,str x.h.s,Value.int IntKind.i64 x.h.vk,Value.int IntKind.i64 x.h.vn,str x.h.vs,Value.slice pa x.h.p.length pc,Value.slice la x.kids.len lc] 29)):=by
 have eU{P}(h:P:=by exact Post.ok (Ar (A5 g g7 (.inr (Nat.le_refl _))) _) hr hV ((hp.gb g7 A6).alloc _)):=Aa h;exact Yy
theorem Ab5{unf:Nat→Res Ex}(hun:CE 211 b tv wv l wl unf):∀m,CE 167 b tv wv l wl (DS l unf m):=by
 intro m;induction m with
 |zero=>intro w i h ho;exact absurd rfl ho
 |succ m ih=>
 intro w i h ho;have hb:=h.lt;have g0:w.grownBy (w.alloc (.cells zeroE.toArray 29 (0,0))) (some b):=Ar (Aj _ _) _;have hB:=Blk.new w zeroE 29;have h0:=h.alloc (.cells zeroE.toArray 29 (0,0));have H:=Z (Ac hun (Ac ih ho));clear hun ih ho;generalize hR:DS l unf (m+1) i=R at*;have hR':(unf i).bind (fun x j=>if(AO l 5 j).isEmpty then .ok x j else(DS l unf m (j+1)).bind fun y k=> .ok (AH (AO l 5 j) x y) k)=R:=by rw[←hR];rfl
 have HR:=Z hR';clear hR hR';go_enter func167,ntmps167;go_wp2_with fail;have hw0:w.heap.size<(w.alloc (.cells zeroE.toArray 29 (0,0))).heap.size:=Ae;refine(H.out.1 _ _ h0 (fun e=>H.out.2.2 Li)).mono ?_;rintro e w1 ⟨g1,h1⟩;cases ho:unf i with
 |out=>rw[ho]at h1;exact h1.elim
 | bad q=>
   exact L2
 | ok x j=>
   rw[ho]at h1;obtain⟨v,rfl,⟨pa,pc,la,lc,rfl,rp,rl⟩,h1⟩:=h1;have hb1:=h1.lt;have hs1:=g1.size;have HV:=Z (VE.mono (ok':=fun g=>w.heap.size<g∧g≠w1.heap.size) (⟨_,_,_,_,rfl,rp,rl⟩:VE (Ap _) w1 _ x) (by intro q hq hq2;have:(w.alloc (.cells zeroE.toArray 29 (0,0))).heap.size≤q:=hq;exact⟨by omega,by omega⟩));have gH{P}(h:P:=by
   refine(LX hA 5 Ad).mono ?_;have fH{P}(h:P:=by
   by_cases he:AO l 5 j=[]
   ·exact Yx
   ·rw[GG he]at h2;have hs0:(AO l 5 j==[])=false:=D3;have hs2:(AO l 5 j).isEmpty=false:=D3;have HQ:=Z (show(DS l unf m (j+1)).bind (fun y k=> .ok (AH (AO l 5 j) x y) k)=R by rw[←HR.out,ho];simp[Res.bind,he]);clear he;generalize hO:AO l 5 j=o at*;clear hO;cases ho2:DS l unf m (j+1)with
    |out=>exact absurd (show R= .out by rw[←HQ.out,ho2];rfl) H.out.2.2
    | bad q=>
      go_wp2_with fail;go_region_with(go_at_call 167;refine(H.out.2.1 _ _ (h2.gbN (An (Aj _ _))) Ih).mono ?_;rintro e w4 ⟨g4,h4⟩;rw[ho2]at h4;subst h4;refine Cd (P:=Tryz.prog) ⟨rfl,Post.bad (Ah (An gr) g4) (by rw[←HQ.out,ho2];rfl)⟩ ⟨#[],[]⟩ w4 ?_);all_goals trivial
    | ok z q=>
      go_wp2_with fail;go_region_with(first| (go_at_call 167;refine(H.out.2.1 _ _ (h2.gbN (An (Aj _ _))) Ih).mono ?_;rintro e w4 ⟨g4,h4⟩;rw[ho2]at h4;obtain⟨v,rfl,hv,h4⟩:=h4;have hg4:=Ah (An (Aj wr (some b))) g4;have hL4:=hL2.gb hg4 Ag;obtain⟨dl_0,dl_1,dl_2,dl_3,dl_4,dl_5,dl_6,dl_f⟩:=(hL4).c7;have hok:∀q,w4.heap.size≤q→w.heap.size<q∧q≠w1.heap.size:=(fun q hq=>by have:=hL4.lt;exact⟨by omega,by omega⟩);have hy:VE (fun g=>w.heap.size<g∧g≠w1.heap.size) w4 _ x:=HV2.out.gb hg4 (fun q hq _ e=>by cases e;omega);have hz:VE (fun g=>w.heap.size<g∧g≠w1.heap.size) w4 v z:=hv.mono (fun q hq _=>⟨by have:wr.heap.size≤q:=hq;omega,by have:wr.heap.size≤q:=hq;omega⟩))| (go_at_call 116;refine(Pb o x z _ _ hok hy hz).mono ?_;rintro e w5 ⟨u,rfl,hu,g5⟩;obtain⟨ua,uc,va,vc,rfl,ru,rv⟩:=hu;have hL5:=hL4.gb g5 Ae;obtain⟨el_0,el_1,el_2,el_3,el_4,el_5,el_6,el_f⟩:=(hL5).c7));all_goals
       exact XK):=Aa h
   exact YN):=Aa h;exact Zo
theorem Aaz{sumf:Nat→Res Ex}(hsum:CE 118 b tv wv l wl sumf):∀m,CE 89 b tv wv l wl (CQ l sumf m):=by
 have iS{P}(h:P:=by
 by_cases hn1:Ak (Af l i) [46,78,79,84,46]=true
 ·have H:=Z (Ac ih ho);have HN:=Z (Ac True.intro hn1);generalize hR:CQ l sumf (m+1) i=R at*;have hR':(CQ l sumf m (i+1)).bind (fun x j=> .ok (unE [46,78,79,84,46] x) j)=R:=by rw[←hR];simp[CQ,hn1]
  have HR:=Z hR';clear hR hR' hn1 hsum ih ho;go_enter func89,ntmps89;have cK{P}(h:P:=by exact XL):=Aa h;exact SR
 have hn1':Ak (Af l i) [46,78,79,84,46]=false:=by simpa using hn1
 by_cases hn2:Ak (Af l i) [33]=true
 ·have H:=Z (Ac ih ho);have HN:=Z (Ac hn1' hn2);generalize hR:CQ l sumf (m+1) i=R at*;have hR':(CQ l sumf m (i+1)).bind (fun x j=> .ok (unE [46,78,79,84,46] x) j)=R:=by rw[←hR];simp[CQ,hn2]
  have HR:=Z hR';clear hR hR' hn2 hsum ih ho hn1 hn1';go_enter func89,ntmps89;go_wp2_with fail;refine(B5 hp _ HN.out.1).mono ?_;rintro e wa ⟨rfl,ga⟩;have hpa:=hp.gbN ga;go_wp2_with fail;refine(BC hpa _ HN.out.2).mono ?_;rintro e wb ⟨rfl,h0,gb⟩;have g0:w.grownBy wb (some b):=Ah (A0 gz ga) gb;have hB:=Blk.gb (hz.gb ga Ae) gb Ag;have hw0:w.heap.size<wb.heap.size:=by have:=ga.size;have:=gb.size;simp at*;omega
  clear hz hp hpa ga gb gz;exact XL
 have hn2':Ak (Af l i) [33]=false:=by simpa using hn2
 have H:=Z (Ac hsum (Ac hsum ho));have HN:=Z (Ac hn1' hn2');generalize hR:CQ l sumf (m+1) i=R at*;have hR':(sumf i).bind (fun x j=>if(AO l 2 j).isEmpty then .ok x j else(sumf (j+1)).bind fun y k=> .ok (AH (AO l 2 j) x y) k)=R:=by rw[←hR];simp[CQ,hn1',hn2']
 have HR:=Z hR';clear hR hR' hn1 hn2 hn1' hn2' hsum ih ho;go_enter func89,ntmps89;go_wp2_with fail;refine(B5 hp _ HN.out.1).mono ?_;rintro e wa ⟨rfl,ga⟩;have hpa:=hp.gbN ga;go_wp2_with fail;refine(B5 hpa _ HN.out.2).mono ?_;rintro e wb ⟨rfl,gb⟩;have h0:=hpa.gbN gb;have g0:w.grownBy wb (some b):=A0 (A0 gz ga) gb;have hB:=Blk.gb (hz.gb ga Ae) gb Ae;have hw0:w.heap.size<wb.heap.size:=by have:=ga.size;have:=gb.size;simp at*;omega
 clear hz hp hpa ga gb gz;go_wp2_with fail;refine(H.out.1 _ _ h0 (fun e=>H.out.2.2 Li)).mono ?_;rintro e w1 ⟨g1,h1⟩;cases ho:sumf i with
 |out=>rw[ho]at h1;exact h1.elim
 | bad q=>
   exact L2
 | ok x j=>
   rw[ho]at h1;obtain⟨v,rfl,⟨pa,pc,la,lc,rfl,rp,rl⟩,h1⟩:=h1;have hb1:=h1.lt;have hs1:=g1.size;have HV:=Z (VE.mono (ok':=fun g=>w.heap.size<g∧g≠w1.heap.size) (⟨_,_,_,_,rfl,rp,rl⟩:VE (Ap _) w1 _ x) (by intro q hq hq2;have:(wb).heap.size≤q:=hq;exact⟨by omega,by omega⟩));have gH{P}(h:P:=by
   refine(LX hA 2 Ad).mono ?_;have fH{P}(h:P:=by
   by_cases he:AO l 2 j=[]
   ·exact Yx
   ·rw[GG he]at h2;have hs0:(AO l 2 j==[])=false:=D3;have hs2:(AO l 2 j).isEmpty=false:=D3;have HQ:=Z (show(sumf (j+1)).bind (fun y k=> .ok (AH (AO l 2 j) x y) k)=R by rw[←HR.out,ho];simp[Res.bind,he]);clear he;generalize hO:AO l 2 j=o at*;clear hO;cases ho2:sumf (j+1)with
    |out=>exact absurd (show R= .out by rw[←HQ.out,ho2];rfl) H.out.2.2
    | bad q=>
      go_wp2_with fail;go_region_with(go_at_call 118;refine(H.out.2.1 _ _ (h2.gbN (An (Aj _ _))) Ih).mono ?_;rintro e w4 ⟨g4,h4⟩;rw[ho2]at h4;subst h4;refine Cd (P:=Tryz.prog) ⟨rfl,Post.bad (Ah (An gr) g4) (by rw[←HQ.out,ho2];rfl)⟩ ⟨#[],[]⟩ w4 ?_);all_goals trivial
    | ok z q=>
      go_wp2_with fail;go_region_with(first| (go_at_call 118;refine(H.out.2.1 _ _ (h2.gbN (An (Aj _ _))) Ih).mono ?_;rintro e w4 ⟨g4,h4⟩;rw[ho2]at h4;obtain⟨v,rfl,hv,h4⟩:=h4;have hg4:=Ah (An (Aj wr (some b))) g4;have hL4:=hL2.gb hg4 Ag;obtain⟨dl_0,dl_1,dl_2,dl_3,dl_4,dl_5,dl_6,dl_f⟩:=(hL4).c7;have hok:∀q,w4.heap.size≤q→w.heap.size<q∧q≠w1.heap.size:=(fun q hq=>by have:=hL4.lt;exact⟨by omega,by omega⟩);have hy:VE (fun g=>w.heap.size<g∧g≠w1.heap.size) w4 _ x:=HV2.out.gb hg4 (fun q hq _ e=>by cases e;omega);have hz:VE (fun g=>w.heap.size<g∧g≠w1.heap.size) w4 v z:=hv.mono (fun q hq _=>⟨by have:wr.heap.size≤q:=hq;omega,by have:wr.heap.size≤q:=hq;omega⟩))| (go_at_call 116;refine(Pb o x z _ _ hok hy hz).mono ?_;rintro e w5 ⟨u,rfl,hu,g5⟩;obtain⟨ua,uc,va,vc,rfl,ru,rv⟩:=hu;have hL5:=hL4.gb g5 Ae;obtain⟨el_0,el_1,el_2,el_3,el_4,el_5,el_6,el_f⟩:=(hL5).c7));all_goals
       exact XK):=Aa h
   exact YN):=Aa h;exact Zo):=Aa h
 exact aA
end
section
variable {b:Nat}{tv wv:Value}{l:List Tok}{wl:List Bs}
theorem U3{w:World}{i:Nat}(h:Par w b tv wv l wl i)(hl:AF l):
 Calls Tryz.prog 287 #[.pointer (some ⟨b,0,none⟩)] w (Post b tv wv l wl w (fun _ v x=>v=str x) (AW l i)):=by
 have hb:=h.lt;have c3:=h.c3;have HL:=Z hl;clear hl;go_enter func287,ntmps287;go_wp2_with fail;go_region_with(first| (go_at_call 90;refine(CI (h.gbN (An (Aj _ _)))).mono ?_;rintro e w1 ⟨rfl,g1⟩;have h1:=h.gbN (Ah (An (Aj _ _)) g1);have d3:=h1.c3)| (go_at_call 178;refine(slices_Contains_string_empty _ _ _ _).mono ?_;rintro e w2 ⟨rfl,rfl⟩));all_goals
  have gA:=Ah (An (Aj w none)) g1;go_wp2_with fail;refine(C4 h1 HL.out).mono ?_;rintro e w2 ⟨g2,h2⟩;cases hr:AW l i with
  |out=>rw[hr]at h2;exact h2.elim
  | bad q=>
    rw[hr]at h2;subst h2;exact⟨rfl,Post.bad (Ah (AY gA) g2) hr⟩
  | ok x j=>
    rw[hr]at h2;obtain⟨v,rfl,rfl,h2⟩:=h2;have HR:=Z hr;clear hr;go_wp2;go_ret;exact Post.ok (Ah (AY gA) g2) HR.out rfl h2
theorem Ji{w:World}{base e size n m:Nat}{cs:List Value}(hm:m=w.heap.size)(hb:base≤w.heap.size)(h:cs.length=n*size)(hn:n≤maxLen):(w.alloc (.cells cs.toArray e (0,0))).ownsRow base e size (.slice (some ⟨m,0,none⟩) n n) n cs:=by
 subst hm;exact⟨h,.inr ⟨_,_,cs.toArray,rfl,hb,heap_alloc_new w _,Nat.le_refl _,hn,by simpa using h,by simp[←h]⟩⟩
def VS(B:Nat)(w:World)(v:Value)(p:List Bs):Prop:=∃pa pc,v= .slice pa p.length pc∧Cells w v 1 p.length (p.map str) (Ap B)
theorem VS.of_owns{w:World}{B:Nat}{v:Value}{p:List Bs}(h:w.ownsRow B 9 1 v p.length (p.map str)):VS B w v p:=by
 have hc:=GE h;obtain⟨a,cap,e,_⟩:=id hc;exact⟨a,cap,e,hc⟩
def Aah(l:List Tok)(wl:List Bs)(b:Nat)(tv wv:Value)(w:World)(r:Res (List Bs))(m:Nat)(v:Value)(wr:World):Prop:=
 ∃acc j,wr.ownsRow w.heap.size 9 1 v acc.length (acc.map str)∧Par wr b tv wv l wl j∧E5 l m acc j=r∧w.grownBy wr (some b)∧acc.length≤j∧acc≠[]
theorem VC{w:World}{i:Nat}(h:Par w b tv wv l wl i)(hl:AF l)(n:Nat)(ho:Eh l n i ≠ .out):
 Calls Tryz.prog 133 #[.pointer (some ⟨b,0,none⟩)] w (Post b tv wv l wl w (VS w.heap.size) (Eh l n i)):=by
 have hb:=h.lt;have hf:=h.few;generalize hR:Eh l n i=R at*;have H:=Z (Ac hl (Ac ho hR));clear hl ho hR;go_enter func133,ntmps133;go_wp2_with fail;refine(C4 h H.out.1).mono ?_;rintro e w1 ⟨g1,h1⟩;cases hr:AW l i with
 |out=>rw[hr]at h1;exact h1.elim
 | bad q=>
   rw[hr]at h1;subst h1;exact⟨rfl,Post.bad g1 (by rw[←H.out.2.2,Eh,hr];rfl)⟩
 | ok x j=>
   rw[hr]at h1;obtain⟨v,rfl,rfl,h1⟩:=h1;have HR:=Z (show E5 l n [x] j=R by rw[←H.out.2.2,Eh,hr];rfl);have hj:1≤j:=by
    unfold AW at hr;split at hr
    ·cases hr;omega
    ·cases hr
   have iM{P}(h:P:=by
   clear hr;go_wp2_with fail;go_loopg [3] n (fun m v wr=>Aah l wl b tv wv w R m v wr)
   case atStart=>exact⟨[x],j,ho1,h1',HR.out,g1',hj,by simp⟩
   case round=>
    obtain⟨acc,q,hown,hp,hloop,gr,hlen,hne⟩:=hrel;clear ho1 h1' g1' h1 g1;have hj2:=hp.le;cases gk with
    |zero=>exact absurd hloop.symm H.out.2.1
    |succ m=>
    cases hs:Ak (Af l q) [44]with
    | false=>
      have HQ:=Z (show R= .ok acc q by rw[←hloop];simp[E5,hs]);have iY{P}(h:P:=by exact Post.ok (A0 gr g2) HQ.out (VS.of_owns (E7 HO.out g2 Ae)) h2):=Aa h;exact aK
    | true=>
      have HQ:=Z (show(AW l (q+1)).bind (fun y j=>E5 l m (acc++[y]) j)=R by rw[←hloop];simp[E5,hs]);have bX{P}(h:P:=by
      refine(C4 h2 H.out.1).mono ?_;rintro e w3 ⟨g3,h3⟩;cases hr2:AW l (q+1)with
      |out=>rw[hr2]at h3;exact h3.elim
      | bad z=>
        exact Tg
      | ok y z=>
        rw[hr2]at h3;obtain⟨v',rfl,rfl,h3⟩:=h3;have hz:q+2≤z:=by
         unfold AW at hr2;split at hr2
         ·cases hr2;omega
         ·cases hr2
        have HQ2:=Z (show E5 l m (acc++[y]) z=R by rw[←HQ.out,hr2];rfl);have g23:=Ah g2 g3;have hown3:=E7 HO.out g23 If;have hown4:=hown3.alloc (.cells [str y].toArray 9 (0,0));have hlen2:=h3.le;have iP{P}(h:P:=by
        clear hr2 hown3;have e8{P}(h:P:=by
        go_roundg m
        case measure=>omega
        case rel=>
         have dR{P}(h:P:=by refine⟨acc++[y],z,by simpa using HO5.out,hA.gb g5 hob,HQ2.out,?_,by simp;omega,by simp⟩;exact Z8):=Aa h;exact TL):=Aa h
        exact Y4):=Aa h;exact ZW):=Aa h
      exact Sz):=Aa h
   exact ZT
end
section
variable {b:Nat}{tv wv:Value}{l:List Tok}{wl:List Bs}
def VL(B:Nat)(w:World)(v:Value)(f:Fo):Prop:=∃la lc,v= .slice la f.len lc∧RepL (Ap B) w v f
theorem VL.of_owns{w:World}{B:Nat}{v:Value}{f:Fo}(h:OwnF w B v f):VL B w v f:=by
 obtain⟨cs,h1,h2⟩:=id h;obtain⟨a,cap,e,_⟩:=GE h1;exact⟨a,cap,e,h.rep⟩
def ListR(l:List Tok)(wl:List Bs)(E:Nat→Res Ex)(b:Nat)(tv wv:Value)(w:World)(r:Res Fo)(m:Nat)(v:Value)(wr:World):Prop:=
 ∃acc j,OwnF wr w.heap.size v acc∧Par wr b tv wv l wl j∧E3 l E m acc j=r∧w.grownBy wr (some b)∧acc.len≤j
def H9(E:Nat→Res Ex):Prop:=∀i x j,E i= .ok x j→i<j
theorem UR{E:Nat→Res Ex}(hE:CE 56 b tv wv l wl E)(hgo:H9 E){w:World}{i:Nat}(h:Par w b tv wv l wl i)(n:Nat)(ho:D1 l E n i ≠ .out):
 Calls Tryz.prog 180 #[.pointer (some ⟨b,0,none⟩)] w (Post b tv wv l wl w (VL w.heap.size) (D1 l E n i)):=by
 have hb:=h.lt;have hf:=h.few;generalize hR:D1 l E n i=R at*;have H:=Z (Ac hE (Ac ho (Ac hR hgo)));clear hE ho hR hgo;go_enter func180,ntmps180;go_wp2_with fail;refine(H.out.1 _ _ h (fun e=>H.out.2.1 (by rw[←H.out.2.2.1,D1,e];rfl))).mono ?_;rintro e w1 ⟨g1,h1⟩;cases hr:E i with
 |out=>rw[hr]at h1;exact h1.elim
 | bad q=>
   rw[hr]at h1;subst h1;exact⟨rfl,Post.bad g1 (by rw[←H.out.2.2.1,D1,hr];rfl)⟩
 | ok x j=>
   rw[hr]at h1;obtain⟨v,rfl,⟨pa,pc,la,lc,rfl,rp,rl⟩,h1⟩:=h1;have HR:=Z (show E3 l E n (.one x) j=R by rw[←H.out.2.2.1,D1,hr];rfl);have hj:1≤j:=by have:=H.out.2.2.2 _ _ _ hr;omega
   have eL{P}(h:P:=by
   clear hr ho1 rp rl;go_wp2_with fail;go_loopg [3] n (fun m v wr=>ListR l wl E b tv wv w R m v wr)
   case atStart=>exact⟨.one x,j,HO.out,h1',HR.out,g1',hj⟩
   case round=>
    obtain⟨acc,q,hown,hp,hloop,gr,hlen⟩:=hrel;clear HO h1' g1' h1 g1;have hj2:=hp.le;cases gk with
    |zero=>exact absurd hloop.symm H.out.2.1
    |succ m=>
    cases hs:Ak (Af l q) [44]with
    | false=>
      have HQ:=Z (show R= .ok acc q by rw[←hloop];simp[E3,hs]);have iY{P}(h:P:=by exact Post.ok (A0 gr g2) HQ.out (VL.of_owns (HO.out.gb g2 Ae)) h2):=Aa h;exact aK
    | true=>
      have HQ:=Z (show(E (q+1)).bind (fun y j=>E3 l E m (acc.snoc y) j)=R by rw[←hloop];simp[E3,hs]);have bX{P}(h:P:=by
      refine(H.out.1 _ _ h2 (fun e=>H.out.2.1 B8)).mono ?_;rintro e w3 ⟨g3,h3⟩;cases hr2:E (q+1)with
      |out=>rw[hr2]at h3;exact h3.elim
      | bad z=>
        exact Tg
      | ok y z=>
        rw[hr2]at h3;obtain⟨v',rfl,⟨ya,yc,ma,mc,rfl,ry,rm⟩,h3⟩:=h3;have hz:q+1<z:=H.out.2.2.2 _ _ _ hr2;have HQ2:=Z (show E3 l E m (acc.snoc y) z=R by rw[←HQ.out,hr2];rfl);have dH{P}(h:P:=by
        have hlen2:=h3.le;have eI{P}(h:P:=by
        have HY:=Z (Ac (hrep3.gb gB Ae) (Ac (ry.gb gB Ae) (rm.gb gB Ae)));have HX:=Z (Ac hi (Ac hz0 (Ac hz1 (Ac hz2 (Ac hnc (Ac hml (Ac hown4 hol)))))));clear hr2 hown3 hrep3 ry rm hi hz0 hz1 hz2 hnc hml hown4 hol;have fC{P}(h:P:=by
        go_roundg m
        case measure=>omega
        case rel=>
         have hol:=HX.out.2.2.2.2.2.2.2;have g5':World.grownBy (w3.alloc _) w5 u3.ownBlock:=g5;refine⟨acc.snoc y,z,?_,hA.gb g5' (fun k hk=>by have:=(hol k hk).1;omega),HQ2.out,?_,by rw[Fo.len_snoc];omega⟩
         ·exact OwnF.snoc (v:=u3) (okx:=Ap w2.heap.size) HY.out.1 rfl HY.out.2.1 HY.out.2.2 Xu HO5.out.1 g5' HO5.out.2
         ·exact Tp):=Aa h
        exact YA):=Aa h;exact Yg):=Aa h;exact T3):=Aa h
      exact Sz):=Aa h
   exact Yj
end
end Go.Proofs.YtmcajbhljbbglaaGreatDoor
