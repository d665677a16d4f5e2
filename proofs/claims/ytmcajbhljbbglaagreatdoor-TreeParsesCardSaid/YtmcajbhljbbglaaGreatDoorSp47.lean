/-
  The program's reader of statements: stmt. The program's reader of statements: stmt where a value is set. The program's reader of statements: stmt where a value is set. The program's reader of statemen
-/
import Derived.Test.YtmcajbhljbbglaaGreatDoorSpF
import Derived.Test.YtmcajbhljbbglaaGreatDoorSp45
import Derived.Test.YtmcajbhljbbglaaGreatDoorSp42
import Derived.Test.YtmcajbhljbbglaaGreatDoorSp41
import Derived.Deep.Cut
import Derived.Test.YtmcajbhljbbglaaGreatDoorSp43
import Derived.Test.YtmcajbhljbbglaaGreatDoorSp34
import Derived.Test.YtmcajbhljbbglaaGreatDoorSp46
import Derived.Test.YtmcajbhljbbglaaGreatDoorSp14
import Derived.Test.YtmcajbhljbbglaaGreatDoorSp27
import Derived.Test.YtmcajbhljbbglaaGreatDoorSp39
import Derived.Test.YtmcajbhljbbglaaGreatDoorSp44
set_option linter.all false
set_option maxRecDepth 100000
set_option maxHeartbeats 8000000
namespace Go.Proofs.YtmcajbhljbbglaaGreatDoor
open Tryz
open Go.RowKit
def StmtQ(b:Nat)(tv wo:Value)(l:List Tok)(hn:Al l)(day:Bs→Int)(n:Nat)(block:Rd l Bl):Prop:=
 ∀(w:World)(i:Nat),Glob w→Par w b tv wo l wordsL i→i<l.length→(C7 hn wordsL day n block).f i ≠ .out→Calls Tryz.prog 130 #[.pointer (some ⟨b,0,none⟩)] w (Post b tv wo l wordsL w (VSt w) ((C7 hn wordsL day n block).f i))
section
variable {b:Nat}{tv wo:Value}{l:List Tok}{day:Bs→Int}{n:Nat}{w:World}{i:Nat}
theorem M5{block:Rd l Bl}{hn:Al l}:(C7 hn wordsL day n block).f i=if AR l wordsL i=[]then J0 l (Aw l day n) n i else(Bx hn wordsL day n block (AR l wordsL i)).f i:=by
 show(if AR l wordsL i=[]then Dy hn day n else Bx hn wordsL day n block (AR l wordsL i)).f i=_;split
 ·exact Ab4 hn day n i
 ·rfl
theorem pL{block:Rd l Bl}(hn:Al l)(hE:CE 56 b tv wo l wordsL (Aw l day n))(hok:∀i,At (Af l i))(hl:AF l)(hgb:0<b)(hS:DQ b tv wo l hn day n block (AR l wordsL i))(hk:AR l wordsL i≠[])(hg:Glob w)(h:Par w b tv wo l wordsL i)(hi:i<l.length)(ho:(C7 hn wordsL day n block).f i ≠ .out):
 Calls Tryz.prog 130 #[.pointer (some ⟨b,0,none⟩)] w (Post b tv wo l wordsL w (VSt w) ((C7 hn wordsL day n block).f i)):=by
 have HGl:=Z (Ac hg hgb);have HS:=Z hS;have HKk:=Z hk;clear hg hgb hS hk;have L9{P}(h:P:=by
 rw[M5,if_neg HKk.out]at hR;have HQ:=Z hR;clear hR;have HC:=Z (HS.out _ _ (DO HGl.out.1 HGl.out.2 HZ.out.2) hp hi (fun e=>HO.out Cg));have hs9:(AR l wordsL i !=[])=true:=by simpa using HKk.out
 have hs0:(AR l wordsL i==[])=false:=by simpa using HKk.out
 have hlz:=HZ.out.1.lt;generalize AR l wordsL i=s at*;exact Gu):=Aa h;exact Lq
theorem pM{block:Rd l Bl}(hn:Al l)(hE:CE 56 b tv wo l wordsL (Aw l day n))(hok:∀i,At (Af l i))(hl:AF l)(hk:AR l wordsL i=[])(h63:Ak (Af l i) [63]=true)(h:Par w b tv wo l wordsL i)(ho:(C7 hn wordsL day n block).f i ≠ .out):
 Calls Tryz.prog 130 #[.pointer (some ⟨b,0,none⟩)] w (Post b tv wo l wordsL w (VSt w) ((C7 hn wordsL day n block).f i)):=by
 have HKk:=Z (Ac hk h63);clear hk h63;have L9{P}(h:P:=by
 rw[M5,if_pos HKk.out.1]at hR;unfold J0 at hR;rw[if_pos HKk.out.2]at hR;have HQ:=Z hR;rw[HKk.out.1];clear hR hT;go_wp2_with fail;refine(BC hp [63] HKk.out.2).mono ?_;rintro e w3 ⟨rfl,hp9,g⟩;have DX{P}(h:P:=by
 have hs3:=g.size;have hlz:=HZ.out.1.lt;have HK:=Z (KS.start (o:=1) (s:=[]) HZ.out.1 HZ.out.2 hb Ab);have hp8:=hp9.alloc (.cells #[.int .i64 1,str [],str [],.slice none 0 0,.slice none 0 0,.slice none 0 0,.int .i64 0,.slice none 0 0,.slice none 0 0,.slice none 0 0] 50 (0,0));replace hp:=hp8;clear g hp9 hp8 HZ;have HA:=Z (CI hp);cases hk5:(Af l (i+1)).kind==5 with
 | true=>
   have hkk:(Af l (i+1)).kind=5:=by simpa using hk5
   replace HQ:=HQr HQ (by rw[if_pos hk5]);replace HQ:=HQr HQ CU;clear hk5;go_wp2_with fail;refine HA.out.mono ?_;rintro e w4 ⟨rfl,g4⟩;rw[AG,hkk];replace HK:=Z (HK.out.gbN g4);replace hp:=hp.gbN g4;clear g4 HA;go_wp2_with fail;refine(Gb hp).mono ?_;have Iz{P}(h:P:=by exact Ow):=Aa h;exact Ir
 | false=>
   have hkk:((Af l (i+1)).kind !=5)=true:=by simp only[bne,hk5];rfl
   replace HQ:=HQr HQ (by rw[if_neg (ne_true_of_eq_false hk5)]);clear hk5;have b7{P}(h:P:=by have hkl:=HK.out.lt;have hwL:=HK.out.wL;have hbw:=HK.out.bw;have jE{P}(h:P:=by have AV{P}(h:P:=by have hkl5:=HK.out.lt;have fM{P}(h:P:=by exact S9):=Aa h;exact YS):=Aa h;exact AT):=Aa h;exact aR):=Aa h;exact S6):=Aa h
 exact DW):=Aa h;exact Lq
theorem qU{block:Rd l Bl}(hn:Al l)(hE:CE 56 b tv wo l wordsL (Aw l day n))(hok:∀i,At (Af l i))(hl:AF l)(hk:AR l wordsL i=[])(h63:Ak (Af l i) [63]=false)(hk0:(Af l i).kind=0)(h40:Ak (Af l (i+1)) [40]=true)(h:Par w b tv wo l wordsL i)(ho:(C7 hn wordsL day n block).f i ≠ .out):
 Calls Tryz.prog 130 #[.pointer (some ⟨b,0,none⟩)] w (Post b tv wo l wordsL w (VSt w) ((C7 hn wordsL day n block).f i)):=by
 have HKk:=Z (Ac hk (Ac h63 (Ac hk0 h40)));clear hk h63 hk0 h40;have L9{P}(h:P:=by
 rw[M5,if_pos HKk.out.1]at hR;unfold J0 at hR;rw[if_neg (by rw[HKk.out.2.1];simp),if_pos (by rw[HKk.out.2.2.1,HKk.out.2.2.2];rfl)]at hR;have HQ:=Z hR;rw[HKk.out.1];clear hR;go_wp2_with fail;refine(B5 hp [63] HKk.out.2.1).mono ?_;rintro e w3 ⟨rfl,g⟩;have G7{P}(h:P:=by
 replace hT:=hT.gb g Ae;have t0:=hT.cell' 0 rfl;rw[HKk.out.2.2.1]at t0;have hTl:=hT.lt;clear g hT;go_wp2_with fail;refine(KO hp).mono ?_;rintro e w4 ⟨rfl,g⟩;have G7{P}(h:P:=by
 clear g;go_wp2_with fail;refine(Hg _ _ _ [40] _).mono ?_;rintro e w5 ⟨rfl,g⟩;have G7{P}(h:P:=by
 clear g t0 hTl;rw[show((Af l (i+1)).kind==4&&(Af l (i+1)).text==[40])=true from HKk.out.2.2.2];have hlz:=HZ.out.1.lt;go_wp2_with fail;refine(WF HE.out (UD l day n) HSh.out n _ _ hp (fun e=>HO.out B8)).mono ?_;intro e w6 hq;obtain⟨g,⟨q,hr,rfl⟩| ⟨x,i6,v,hr,rfl,⟨pa,pc,la,lc,rfl,rp,rl⟩,hp9⟩⟩:=hq.split
 ·exact D6
 have DX{P}(h:P:=by
 have Cj{P}(h:P:=by
 have hs6:=g.size;have hl6:=HZ.out.1.lt;have hb6:=hp.lt;have gA:=World.grownBy_alloc w6 (.cells (hdC x.h (.slice pa x.h.p.length pc) (.slice la x.kids.len lc)).toArray 29 (0,0)) none;have hsince:∀q,Ap w5.heap.size q→q<w6.heap.size→but w (w6.heap.size+1) q:=fun q hq _=>by have:w5.heap.size≤q:=hq;exact⟨by omega,by omega⟩
 have hRow:=RepL.one (n:=w6.heap.size) (x:=x) (ok:=but w (w6.heap.size+1)) rfl ⟨by omega,by omega⟩ (rp.mono hsince) (rl.mono hsince);have gB:=World.grownBy_alloc (w6.alloc (.cells (hdC x.h (.slice pa x.h.p.length pc) (.slice la x.kids.len lc)).toArray 29 (0,0))) (.cells #[.int .i64 10,str [],str [],.slice none 0 0,.slice (some ⟨w6.heap.size,0,none⟩) 1 1,.slice none 0 0,.int .i64 0,.slice none 0 0,.slice none 0 0,.slice none 0 0] 50 (0,0)) none;have HK:=Z (show KS b w (w6.heap.size+1) _ {sd0 10 []with x:= .one x} .nil (.slice none 0 0) (.slice (some ⟨w6.heap.size,0,none⟩) 1 1) (.slice none 0 0) (.slice none 0 0) (.slice none 0 0) (.slice none 0 0)from
  ⟨(Blk.new (w6.alloc (.cells (hdC x.h (.slice pa x.h.p.length pc) (.slice la x.kids.len lc)).toArray 29 (0,0))) [.int .i64 10,str [],str [],.slice none 0 0,.slice (some ⟨w6.heap.size,0,none⟩) 1 1,.slice none 0 0,.int .i64 0,.slice none 0 0,.slice none 0 0,.slice none 0 0] 50).of_eq Ae rfl,Cells.nil _ _ _,hRow.gb gB Ae,RepV.nil _ _ _,RepL.nil _ _,RepL.nil _ _,RepL.nil _ _,A0 (A0 HZ.out.2 gA) gB,hb,by omega,(HZ.out.1.gb gA Ae).gb gB Ae⟩)
 have hp8:=(hp.gbN gA).gbN gB;replace hp:=hp8;clear g rp rl gA gB hRow hsince hp8 HZ;exact S9):=Aa h;exact Ch):=Aa h;exact DW):=Aa h;exact Gx):=Aa h;exact Gx):=Aa h;exact Gx):=Aa h;exact Lq
end
theorem nR{b:Nat}{tv wo:Value}{l:List Tok}{i:Nat}{w:World}(h:Par w b tv wo l wordsL i)(s:Bs):
 Calls Tryz.prog 117 #[.pointer (some ⟨b,0,none⟩),str s] w fun e w'=>e= .returned (.bool (Ak (Af l i) s))∧Par w' b tv wo l wordsL (if Ak (Af l i) s then i+1 else i)∧w.grownBy w' (some b):=by
 cases hw:Ak (Af l i) s with
 |true=>exact(BC h s hw).mono fun e w' ⟨h1,h2,h3⟩=>⟨h1,h2,h3⟩
 |false=>exact(B5 h s hw).mono fun e w' ⟨h1,h2⟩=>⟨h1,h.gbN h2,AY h2⟩
section
variable {b:Nat}{tv wo:Value}{l:List Tok}{day:Bs→Int}{n:Nat}{w:World}{i:Nat}
theorem qV{block:Rd l Bl}(hn:Al l)(hE:CE 56 b tv wo l wordsL (Aw l day n))(hok:∀i,At (Af l i))(hl:AF l)(hk:AR l wordsL i=[])(h63:Ak (Af l i) [63]=false) (hc:((Af l i).kind==0&&Ak (Af l (i+1)) [40])=false) (hk0:((Af l i).kind==0)=true) (h:Par w b tv wo l wordsL i) (ho:(C7 hn wordsL day n block).f i ≠ .out):
 Calls Tryz.prog 130 #[.pointer (some ⟨b,0,none⟩)] w (Post b tv wo l wordsL w (VSt w) ((C7 hn wordsL day n block).f i)):=by
 have HKk:=Z (Ac hk (Ac h63 hc));clear hk h63 hc;have L9{P}(h:P:=by
 have iC{P}(h:P:=by
 have G7{P}(h:P:=by
 replace hT:=hT.gb g Ae;have t0:=hT.cell' 0 rfl;have hTl:=hT.lt;clear g hT;have hkk:(Af l i).kind=0:=by simpa using hk0
 have h40:Ak (Af l (i+1)) [40]=false:=by have:=HKk.out.2.2;rw[hk0,Bool.true_and]at this;exact this
 rw[hkk]at t0;clear hk0;go_wp2_with fail;refine(KO hp).mono ?_;rintro e w4 ⟨rfl,g⟩;have G7{P}(h:P:=by
 clear g;go_wp2_with fail;refine(Hg _ _ _ [40] _).mono ?_;rintro e w5 ⟨rfl,g⟩;have G7{P}(h:P:=by
 clear g t0 hTl;rw[show((Af l (i+1)).kind==4&&(Af l (i+1)).text==[40])=false from h40];have iT{P}(h:P:=by
 have DX{P}(h:P:=by
 have Cj{P}(h:P:=by
 have hs6:=g.size;have hL:=Blk.new w6 (hdC t.h (.slice pa t.h.p.length pc) (.slice la t.kids.len lc)) 29;have hsince:∀q,Ap (w5).heap.size q→q<w6.heap.size→w.heap.size<q:=fun q hq _=>by have:(w5).heap.size≤q:=hq;omega
 have gP{P}(h:P:=by exact XZ):=Aa h;exact Zr):=Aa h;exact Ch):=Aa h;exact DW):=Aa h;exact aD):=Aa h;exact Gx):=Aa h;exact Gx):=Aa h;exact Gx):=Aa h;exact Z4):=Aa h;exact Lq
end
section
variable {b:Nat}{tv wo:Value}{l:List Tok}{day:Bs→Int}{n:Nat}{w:World}{i:Nat}
theorem qW{block:Rd l Bl}(hn:Al l)(hE:CE 56 b tv wo l wordsL (Aw l day n))(hok:∀i,At (Af l i))(hl:AF l)(hk:AR l wordsL i=[])(h63:Ak (Af l i) [63]=false) (hc:((Af l i).kind==0&&Ak (Af l (i+1)) [40])=false) (hk0:((Af l i).kind==0)=false) (h:Par w b tv wo l wordsL i) (ho:(C7 hn wordsL day n block).f i ≠ .out):
 Calls Tryz.prog 130 #[.pointer (some ⟨b,0,none⟩)] w (Post b tv wo l wordsL w (VSt w) ((C7 hn wordsL day n block).f i)):=by
 have HKk:=Z (Ac hk (Ac h63 hc));clear hk h63 hc;have L9{P}(h:P:=by
 have iC{P}(h:P:=by
 have G7{P}(h:P:=by
 replace hT:=hT.gb g Ae;have t0:=hT.cell' 0 rfl;have hTl:=hT.lt;clear g hT;have iT{P}(h:P:=by
 have DX{P}(h:P:=by
 have Cj{P}(h:P:=by
 have hs6:=g.size;have hL:=Blk.new w6 (hdC t.h (.slice pa t.h.p.length pc) (.slice la t.kids.len lc)) 29;have hsince:∀q,Ap (w3).heap.size q→q<w6.heap.size→w.heap.size<q:=fun q hq _=>by have:(w3).heap.size≤q:=hq;omega
 have gP{P}(h:P:=by exact XZ):=Aa h;exact Zr):=Aa h;exact Ch):=Aa h;exact DW):=Aa h;exact aD):=Aa h;exact Gx):=Aa h;exact Z4):=Aa h;exact Lq
end
section
variable {b:Nat}{tv wo:Value}{l:List Tok}{day:Bs→Int}{n:Nat}{w:World}{i:Nat}
theorem uJ{block:Rd l Bl}(hn:Al l)(hnn:n≤90000)(hB:CQB b tv wo l block.f)(hE:CE 56 b tv wo l wordsL (Aw l day n))(hok:∀i,At (Af l i))(hl:AF l)(hgb:0<b):StmtQ b tv wo l hn day n block:=by
 intro w i hg h hi ho;by_cases hk:AR l wordsL i=[]
 ·cases h63:Ak (Af l i) [63]with
  |true=>exact pM hn hE hok hl hk h63 h ho
  | false=>
    cases hk0:(Af l i).kind==0 with
    |false=>exact qW hn hE hok hl hk h63 (by rw[hk0];rfl) hk0 h ho
    | true=>
      cases h40:Ak (Af l (i+1)) [40]with
      |true=>exact qU hn hE hok hl hk h63 (by simpa using hk0) h40 h ho
      |false=>exact qV hn hE hok hl hk h63 (by rw[hk0,h40];rfl) hk0 h ho
 ·exact pL hn hE hok hl hgb (qT hn hnn hB hE hok hl hgb _) hk hg h hi ho
def Aaf(stp:Rd l StB)(b:Nat)(tv wo:Value)(w:World)(n:Nat)(R:Res Bl)(g:Nat)(v:Value)(wr:World):Prop:=
 ∃a j,OwnB wr w.heap.size v a∧Par wr b tv wo l wordsL j∧w.grownBy wr (some b)∧a.len+g≤n∧(CY wordsL stp g a).f j=R
theorem qK{stp:Rd l StB}{n:Nat}(hnn:n≤100000)(hok:∀i,At (Af l i))(hgb:0<b)
 (hS:∀w i,Glob w→Par w b tv wo l wordsL i→i<l.length→stp.f i ≠ .out→Calls Tryz.prog 130 #[.pointer (some ⟨b,0,none⟩)] w (Post b tv wo l wordsL w (VSt w) (stp.f i)))
 (hg:Glob w) (h:Par w b tv wo l wordsL i) (ho:(CY wordsL stp n .nil).f i ≠ .out):
 Calls Tryz.prog 95 #[.pointer (some ⟨b,0,none⟩)] w (Post b tv wo l wordsL w (VBl w) ((CY wordsL stp n .nil).f i)):=by
 have hb:=h.lt;have HO:=Z ho;generalize hR:(CY wordsL stp n .nil).f i=R at*;have HQ0:=Z (Ac h hR);have HTk:=Z hok;have HSt:=Z hS;have HGl:=Z (Ac hg hgb);clear hok hS hg h ho hR;go_enter func95,ntmps95;go_wp2_with fail;go_loopg [3] n (fun g v3 wr=>Aaf stp b tv wo w n R g v3 wr)
 case atStart=>exact⟨.nil,i,⟨[],World.ownsRow_nil _ _ _ _,rfl⟩,HQ0.out.1,Aj _ _,by simp[Bl.len],HQ0.out.2⟩
 case round=>
  obtain⟨a,j,hown,hp1,hgr,hlen,hq⟩:=hrel;clear HQ0;have hp:=hp1;obtain⟨ta,tc,rfl⟩:=hp.tv_eq;have c0:=hp.c0;have c1:=hp.c1;have hbr:=hp.lt;have hfew:=hp.few;have HW:=Z (Ac hown hgr);have HQ:=Z hq;clear hown hgr hp1 hq;cases gk with
  |zero=>exact absurd HQ.out.symm HO.out
  |succ k=>
  have e0:=HQ.out;unfold CY at e0;rw[Rd.condN_f]at e0;replace HQ:=Z e0;clear e0;by_cases hi:j<l.length
  ·have hd:decide ((j:Int)<(l.length:Int))=true:=by simp;omega
   have hD:=An (Aj wr none);have HG9:=Z (fun(W:World)(g:wr.grownBy W none)=>DO HGl.out.1 HGl.out.2 (A0 HW.out.2 g));have HPp:=Z hp;clear hp;cases hK:endWords.contains (AR l wordsL j)with
   | true=>
     have HKW:=Z ((Uj (AR l wordsL j)).trans hK);replace HQ:=HQr HQ (by rw[if_neg (ne_true_of_eq_false (show EB l wordsL j=false by unfold EB;rw[hK];simp))]);replace HQ:=HQr HQ Bj;clear hK;go_wp2_with fail;go_region_held3 (fun W=>W.cell? ⟨b,0,none⟩=some (.slice ta l.length tc)∧W.cell? ⟨b,1,none⟩=some (.int .i64 j)∧wr.grownBy W none) (first|exact⟨c0,c1,hD⟩|exact⟨Am gA c0,Am gA c1,gA⟩|exact⟨Am gF c0,Am gF c1,gF⟩) (first| (go_at_call 129;refine(Oc (HPp.out.gbN hD) HTk.out).mono ?_;rintro e w1 ⟨rfl,g1⟩;(have gF:=Ah hD g1);clear g1)| (go_at_call 128;refine(Ux _ (HG9.out _ gF)).mono ?_;rintro e w2 ⟨rfl,g2⟩;rw[HKW.out];(have gA:=Ah gF g2);clear g2));all_goals
      have HF:=Z (Ac (A0 HW.out.2 gA) (Ac (HW.out.1.gb gA Ae) (HPp.out.gbN gA)));clear gA;go_wp2;go_ret;exact Post.ok HF.out.1 HQ.out.symm HF.out.2.1.rep HF.out.2.2
   | false=>
     have HKW:=Z ((Uj (AR l wordsL j)).trans hK);replace HQ:=HQr HQ (by rw[if_pos (show EB l wordsL j=true by unfold EB;rw[hK];simpa using hi)]);replace HQ:=HQr HQ BQ;clear hK;go_wp2_with fail;go_region_held3 (fun W=>W.cell? ⟨b,0,none⟩=some (.slice ta l.length tc)∧W.cell? ⟨b,1,none⟩=some (.int .i64 j)∧wr.grownBy W none) (first|exact⟨c0,c1,hD⟩|exact⟨Am gA c0,Am gA c1,gA⟩|exact⟨Am gF c0,Am gF c1,gF⟩) (first| (go_at_call 129;refine(Oc (HPp.out.gbN hD) HTk.out).mono ?_;rintro e w1 ⟨rfl,g1⟩;(have gF:=Ah hD g1);clear g1)| (go_at_call 128;refine(Ux _ (HG9.out _ gF)).mono ?_;rintro e w2 ⟨rfl,g2⟩;rw[HKW.out];(have gA:=Ah gF g2);clear g2));all_goals
      have hs2:=gA.size;have HA:=Z (Ac (HW.out.1.gb gA Ae) (Ac (HPp.out.gbN gA) (A0 HW.out.2 gA)));clear gA;go_wp2_with fail;refine(HSt.out _ _ (DO HGl.out.1 HGl.out.2 HA.out.2.2) HA.out.2.1 hi (fun e=>HO.out B8)).mono ?_;intro e w3 hq;obtain⟨g3,⟨q,hr,rfl⟩| ⟨⟨s1,c1'⟩,j3,v,hr,rfl,⟨pa,xa,na,fa,wa,ba,pc,xc,nc,fc,wc,bc,rfl,k1,k2⟩,h3⟩⟩:=hq.split
      ·exact⟨rfl,Post.bad (Ah HA.out.2.2 g3) DT⟩
      replace HQ:=HQr HQ DU;clear hr;simp only at k1 k2 HQ;have hs3:=g3.size;have hs4:=HA.out.2.2.size;have bY{P}(h:P:=by
      have HFr:=Z (fun q hq=>HA.out.1.fresh Ab q hq);have hown:=(HA.out.1.gb g3 JI).gb gN Ae;obtain⟨cs,ho1,ho2⟩:=hown;obtain⟨i0,hi0,hz0,hz1,hz2⟩:=info_parts Xb;have HI:=Z (Ac hi0 (Ac hz0 (Ac hz1 hz2)));have k1':=k1.gb gN Ae;have k2':=k2.gb gN Ae;have HB:=Z (Ac ho1 (Ac ho2 (Ac k1' (Ac k2' (Ac (h3.gbN gN) (A0 (Ah HA.out.2.2 g3) gN))))));have hlen2:a.len≤200000:=Ab;clear hi0 hz0 hz1 hz2 ho1 ho2 k1 k2 k1' k2' g3 gN h3;simp only[sdC];go_wp2_with (at_builtin;go_loud(refine wpList_append_lies _ rfl _ _ 43 rfl w.heap.size 50 i0 _ 10 192 underlying43 HI.out.1 HI.out.2.1 HI.out.2.2.1 HI.out.2.2.2 rfl Ad _ _ cs rfl HB.out.1 ⟨w3.heap.size,0,none⟩ 1 1 (sdC s1 (.slice pa s1.p.length pc) (.slice xa s1.x.len xc) (.slice ba c1'.len bc) (.slice na s1.n.len nc) (.slice fa s1.f.len fc) (.slice wa s1.w.len wc)) rfl rfl (Bu _ _ _) (by simp[sdC,Value.oneCell']) Ad AI Ab Ag _ rfl ?_;intro j9 cap w7 hown hgrow hat hlt;(have HE:=Z (Ac (OwnB.snoc HB.out.1 HB.out.2.1 HB.out.2.2.1 HB.out.2.2.2.1 (fun q hq _=>HFr.out q hq) hown hgrow hat) (Ac (HB.out.2.2.2.2.1.gb hgrow (fun q hq=>by have:=(HB.out.1.lt q hq).1;omega)) (C0 HB.out.2.2.2.2.2 hgrow (fun q hq=>(HB.out.1.lt q hq).1)))));clear hown hgrow hat));go_roundg k
      case measure=>omega
      case rel=>exact⟨_,_,HE.out.1,HE.out.2.1,HE.out.2.2,by rw[Bl.len_app];simp only[Bl.len];omega,HQ.out⟩):=Aa h;exact S2
  ·have hd:decide ((j:Int)<(l.length:Int))=false:=by simp;omega
   replace HQ:=HQr HQ (by rw[if_neg (ne_true_of_eq_false (show EB l wordsL j=false by unfold EB;rw[show decide (j<l.length)=false by simpa using hi];rfl))]);replace HQ:=HQr HQ Bj;have HPp:=Z hp;clear hp;go_wp2_with fail;go_quiet(fail);go_wp2;go_ret;refine Post.ok (AA HW.out.2 _) HQ.out.symm ?_ ?_
   ·exact(HW.out.1.gb (AA (Aj wr none) _) Ae).rep
   ·exact HPp.out.drewN _
end
section
variable {b:Nat}{tv wo:Value}{l:List Tok}
theorem Ab7(hn:Al l)(hl:FO A8 l)(hok:∀i,At (Af l i))(hgb:0<b):∀n,n≤90000→CQB b tv wo l (Dv hn wordsL A8 n).f:=by
 intro n;induction n with
 |zero=>intro _ w i _ _ ho;exact absurd rfl ho
 | succ n ih=>
   intro hnn w i hg h ho;have hB:=ih Ab;have hE:=VV (b:=b) (tv:=tv) (wv:=wo) (wl:=wordsL) hl n;exact qK (n:=n) Ab hok hgb (uJ hn Ab hB hE hok hl.short hgb) hg h ho
end
section
variable {l:List Tok}(hn:Al l){β:Type}{W:List Bs}{day:Bs→Int}{n:Nat}{a:List Pq}{q:List Pq→Rd l β}{i:Nat}
theorem Qb{fn:Bool}:((Fd hn W day n a fn).bind q).f i=(AW l i).bind fun s j=>(IH l n j).bind fun p j=>(BP l j).bind fun _ j=>((Dv hn W day n).f j).bind fun b j=>(q (a++[(s,fn,p,b)])).f j:=by
 have e:((Fd hn W day n a fn).bind q).f i=((AW l i).bind fun s j=>(IH l n j).bind fun p j=>(BP l j).bind fun _ j=>((Dv hn W day n).f j).bind fun b j=> .ok (a++[(s,fn,p,b)]) j).bind fun x j=>(q x).f j:=rfl;rw[e];simp only[Res.bind_assoc];rfl
theorem xW{x:β}(hw:(Av l W i==Ce)=false):
 (if Av l W i=Ee∨Av l W i=Ce then Rd.skip.bind fun _=>(Fd hn W day n a (Av l W i==Ce)).bind q else(Rd.bad x:Rd l β)).f i=(J6 l W Ee i).bind fun _ j=>((Fd hn W day n a false).bind q).f j:=by
 have hw':Av l W i≠Ce:=GV;unfold J6;rw[hw];cases hP:Av l W i==Ee with
 | true=>
   have hP':Av l W i=Ee:=by simpa using hP
   rw[if_pos (.inl hP'),if_pos rfl];rfl
 | false=>
   have hP':Av l W i≠Ee:=by simpa using hP
   rw[if_neg (by simp[hw',hP']),if_neg Ae];rfl
theorem tZ{x:β}(hw:(Av l W i==Ce)=true):
 (if Av l W i=Ee∨Av l W i=Ce then Rd.skip.bind fun _=>(Fd hn W day n a (Av l W i==Ce)).bind q else(Rd.bad x:Rd l β)).f i=((Fd hn W day n a true).bind q).f (i+1):=by
 have hw':Av l W i=Ce:=GV;rw[hw,if_pos (.inr hw')];rfl
end
section
variable {b:Nat}{tv wo:Value}{l:List Tok}{n:Nat}{w:World}{i:Nat}
def ProgQ(hn:Al l)(m b:Nat)(tv wo:Value)(w:World)(R:Res (List Pq))(g:Nat)(v:Value)(wr:World):Prop:=
 ∃a j,OwnP wr w.heap.size v a∧Par wr b tv wo l wordsL j∧w.grownBy wr (some b)∧a.length+g≤m+1∧(Dp hn wordsL A8 m g a).f j=R
theorem l0(hn:Al l)(hl:FO A8 l)(hok:∀i,At (Af l i))(hgb:0<b)(hnn:n≤90000)(hg:Glob w)(h:Par w b tv wo l wordsL i)(ho:(BM hn wordsL A8 n).f i ≠ .out):
 Calls Tryz.prog 67 #[.pointer (some ⟨b,0,none⟩)] w (Post b tv wo l wordsL w (VPr w) ((BM hn wordsL A8 n).f i)):=by
 have hb:=h.lt;have HO:=Z ho;generalize hR:(BM hn wordsL A8 n).f i=R at*;replace hR:((Dv hn wordsL A8 n).f i).bind (fun x j=>(Dp hn wordsL A8 n n [([77,65,73,78],false,[],x)]).f j)=R:=hR;have HQ0:=Z hR;have HTk:=Z hok;have HSh:=Z hl.short;have HGl:=Z (Ac hg hgb);have HBk:=Z (Ab7 (b:=b) (tv:=tv) (wo:=wo) hn hl hok hgb n hnn);have HC:=Z (HBk.out w i hg h (fun e=>HO.out (by rw[←HQ0.out,e];rfl)));clear hok hl hg hgb ho hR h;go_enter func67,ntmps67;go_wp2_with fail;refine HC.out.mono ?_;intro e w1 hq;obtain⟨g,⟨q,hr,rfl⟩| ⟨c,i1,v,hr,rfl,hv,hp1⟩⟩:=hq.split
 ·exact⟨rfl,Post.bad g (by rw[←HQ0.out,hr];rfl)⟩
 obtain⟨ba,bc,rfl⟩:∃ba bc,v= .slice ba c.len bc:=XE;have e0:=HQ0.out;rw[hr,Res.bind_ok]at e0;replace HQ0:=Z e0;clear e0 hr HC hq;have gE{P}(h:P:=by
 go_loopg [3] n (fun g v3 wr=>ProgQ hn n b tv wo w R g v3 wr)
 case atStart=>exact⟨_,i1,HR0.out.1,HR0.out.2.1,HR0.out.2.2,by simp;omega,HQ0.out⟩
 case round=>
  obtain⟨a,j,hown,hp1,hgr,hlen,hq⟩:=hrel;clear HQ0 HR0;have hp:=hp1;obtain⟨ta,tc,rfl⟩:=hp.tv_eq;have c0:=hp.c0;have c1:=hp.c1;have hbr:=hp.lt;have hfew:=hp.few;have hsr:=hgr.size;have HFr:=Z (fun q (hq:wr.heap.size≤q)=>hown.fresh hsr q hq);have HZ:=Z (Ac hown hgr);have HQ:=Z hq;clear hown hgr hp1 hq;cases gk with
  |zero=>exact absurd HQ.out.symm HO.out
  |succ k=>
  have e0:=HQ.out;unfold Dp at e0;rw[Rd.condN_f]at e0;replace HQ:=Z e0;clear e0;by_cases hi:j<l.length
  ·have hd:decide ((j:Int)<(l.length:Int))=true:=by simp;omega
   replace HQ:=HQr HQ (by rw[if_pos (show decide (j<l.length)=true by simpa using hi)]);replace HQ:=HQr HQ (by rw[Rd.here_f]);go_wp2_with fail;go_quiet(fail);have hZ1:=HZ.out.1.gb (AA (Aj wr none) nq) Ae;have hZ2:=AA HZ.out.2 nq;have hp2:=hp.drewN nq;have hs2:wr.heap.size≤(wr.drewN nq).heap.size:=Nat.le_refl _;generalize wr.drewN nq=w2 at*;replace HZ:=Z (Ac hZ1 hZ2);replace hp:=hp2;clear hZ1 hZ2 hp2 c0 c1 hbr hd;cases hw:Av l wordsL j==Ce with
   | true=>
     replace HQ:=HQr HQ (by rw[tZ hn hw]);replace HQ:=HQr HQ (by rw[Qb hn]);go_wp2_with fail;refine(Ey hp HTk.out Ce Ad hw).mono ?_;rintro e w3 ⟨rfl,hp9,g⟩;have Ep{P}(h:P:=by
     replace hp:=hp9;have hs3:=Nat.le_trans hs2 g.size;clear hp9 g hw;have jA{P}(h:P:=by
     have Cj{P}(h:P:=by
     have jH{P}(h:P:=by
     have Cj{P}(h:P:=by
     have hs5:=g.size;have hT:=Blk.new w5 [str s,.bool true,.slice pa p.length pc,.slice none 0 0] 45;have gN:=World.grownBy_alloc w5 (.cells [str s,.bool true,.slice pa p.length pc,.slice none 0 0].toArray 45 (0,0)) none;have fJ{P}(h:P:=by
     obtain⟨g,⟨q,hr,rfl⟩| ⟨u,i6,v,hr,rfl,rfl,hp9⟩⟩:=hq.split
     ·exact D6
     have Ep{P}(h:P:=by
     have Cj{P}(h:P:=by
     have fO{P}(h:P:=by
     obtain⟨g,⟨q,hr,rfl⟩| ⟨c,i7,v,hr,rfl,hB,hp9⟩⟩:=hq.split
     ·exact D6
     have Ep{P}(h:P:=by
     have Cj{P}(h:P:=by
     have fS{P}(h:P:=by
     have HG:=Z (Ac ((hT.set 3 (.slice ba c.len bc)).of_eq (cs':=[str s,.bool true,.slice pa p.length pc,.slice ba c.len bc]) rfl rfl) (Ac (HZ.out.1.gb gS GU).back (Ac (C0 HZ.out.2 gS IU) (Ac (hp.gb gS A6) (Ac (hV9.out.gb gS MQ) (RepV.gb hB gS Xx))))));clear g gS hT hV9 hB HZ hp;go_upto_region 9 with fail;refine AL (fun W=>Blk W w5.heap.size [str s,.bool true,.slice pa p.length pc,.slice ba c.len bc] 45∧OwnP W w.heap.size u3 a∧w.grownBy W (some b)∧Par W b (.slice ta l.length tc) wo l wordsL i7∧Cells W (.slice pa p.length pc) 1 p.length (p.map str) (fun q=>w4.heap.size≤q∧q<w5.heap.size)∧RepV (Ap w6.heap.size) W false (.slice ba c.len bc) c) HG.out ?_;have Kl{P}(h:P:=by
     have gN:=World.grownBy_alloc W (.cells (pdC (AB (s,true,p,c)) (.slice pa p.length pc) (.slice ba c.len bc)).toArray 45 (0,0)) none;have eX{P}(h:P:=by go_wp2_with (at_builtin;go_loud(refine wpList_append_lies _ rfl _ _ 34 rfl w.heap.size 45 i0 _ 4 72 underlying34 HI.out.1 HI.out.2.1 HI.out.2.2.1 HI.out.2.2.2 rfl Ad _ _ cs rfl HB.out.1 ⟨W.heap.size,0,none⟩ 1 1 (pdC (AB (s,true,p,c)) (.slice pa p.length pc) (.slice ba c.len bc)) rfl rfl (Bu _ _ _) JJ Ad AI Ab Ag _ rfl ?_;intro j9 cap w9 hown hgrow hat hlt;(have HE:=Z (Ac (OwnP.snoc (q:=(s,true,p,c)) HB.out.1 HB.out.2.1 HB.out.2.2.1 HB.out.2.2.2.1 (fun q hq _=>HFr.out q hq) hown hgrow hat) (Ac (HB.out.2.2.2.2.1.gb hgrow (fun q hq=>by have:=(HB.out.1.lt q hq).1;omega)) (C0 HB.out.2.2.2.2.2 hgrow (fun q hq=>(HB.out.1.lt q hq).1)))));clear hown hgrow hat));exact SF):=Aa h;exact Y1):=Aa h;exact Ka):=Aa h;exact Za):=Aa h;exact Ch):=Aa h;exact Eg):=Aa h;exact YW):=Aa h;exact Ch):=Aa h;exact Eg):=Aa h;exact YP):=Aa h;exact Ch):=Aa h;exact bF):=Aa h;exact Ch):=Aa h;exact aM):=Aa h;exact Eg
   | false=>
     replace HQ:=HQr HQ (by rw[xW hn hw]);go_wp2_with fail;refine(Ev hp HTk.out Ce hw).mono ?_;rintro e w20 ⟨rfl,g⟩;have G7{P}(h:P:=by
     have hs20:=g.size;clear g hw;go_wp2_with fail;refine(CJ hp HTk.out Ee Ad).mono ?_;intro e w3 hq;obtain⟨g,⟨q,hr,rfl⟩| ⟨u,i3,v,hr,rfl,rfl,hp9⟩⟩:=hq.split
     ·exact D6
     have Ep{P}(h:P:=by
     have Cj{P}(h:P:=by
     have hs3:wr.heap.size≤w3.heap.size:=Nat.le_trans hs2 (Nat.le_trans hs20 g.size);clear g;replace HQ:=HQr HQ (by rw[Qb hn]);have jA{P}(h:P:=by
     have Cj{P}(h:P:=by
     have jH{P}(h:P:=by
     have Cj{P}(h:P:=by
     have hs5:=g.size;have hT:=Blk.new w5 [str s,.bool false,.slice pa p.length pc,.slice none 0 0] 45;have gN:=World.grownBy_alloc w5 (.cells [str s,.bool false,.slice pa p.length pc,.slice none 0 0].toArray 45 (0,0)) none;have fJ{P}(h:P:=by
     obtain⟨g,⟨q,hr,rfl⟩| ⟨u,i6,v,hr,rfl,rfl,hp9⟩⟩:=hq.split
     ·exact D6
     have Ep{P}(h:P:=by
     have Cj{P}(h:P:=by
     have fO{P}(h:P:=by
     obtain⟨g,⟨q,hr,rfl⟩| ⟨c,i7,v,hr,rfl,hB,hp9⟩⟩:=hq.split
     ·exact D6
     have Ep{P}(h:P:=by
     have Cj{P}(h:P:=by
     have fS{P}(h:P:=by
     have HG:=Z (Ac ((hT.set 3 (.slice ba c.len bc)).of_eq (cs':=[str s,.bool false,.slice pa p.length pc,.slice ba c.len bc]) rfl rfl) (Ac (HZ.out.1.gb gS GU).back (Ac (C0 HZ.out.2 gS IU) (Ac (hp.gb gS A6) (Ac (hV9.out.gb gS MQ) (RepV.gb hB gS Xx))))));clear g gS hT hV9 hB HZ hp;go_upto_region 9 with fail;refine AL (fun W=>Blk W w5.heap.size [str s,.bool false,.slice pa p.length pc,.slice ba c.len bc] 45∧OwnP W w.heap.size u3 a∧w.grownBy W (some b)∧Par W b (.slice ta l.length tc) wo l wordsL i7∧Cells W (.slice pa p.length pc) 1 p.length (p.map str) (fun q=>w4.heap.size≤q∧q<w5.heap.size)∧RepV (Ap w6.heap.size) W false (.slice ba c.len bc) c) HG.out ?_;have Kl{P}(h:P:=by
     have gN:=World.grownBy_alloc W (.cells (pdC (AB (s,false,p,c)) (.slice pa p.length pc) (.slice ba c.len bc)).toArray 45 (0,0)) none;have eX{P}(h:P:=by go_wp2_with (at_builtin;go_loud(refine wpList_append_lies _ rfl _ _ 34 rfl w.heap.size 45 i0 _ 4 72 underlying34 HI.out.1 HI.out.2.1 HI.out.2.2.1 HI.out.2.2.2 rfl Ad _ _ cs rfl HB.out.1 ⟨W.heap.size,0,none⟩ 1 1 (pdC (AB (s,false,p,c)) (.slice pa p.length pc) (.slice ba c.len bc)) rfl rfl (Bu _ _ _) JJ Ad AI Ab Ag _ rfl ?_;intro j9 cap w9 hown hgrow hat hlt;(have HE:=Z (Ac (OwnP.snoc (q:=(s,false,p,c)) HB.out.1 HB.out.2.1 HB.out.2.2.1 HB.out.2.2.2.1 (fun q hq _=>HFr.out q hq) hown hgrow hat) (Ac (HB.out.2.2.2.2.1.gb hgrow (fun q hq=>by have:=(HB.out.1.lt q hq).1;omega)) (C0 HB.out.2.2.2.2.2 hgrow (fun q hq=>(HB.out.1.lt q hq).1)))));clear hown hgrow hat));exact SF):=Aa h;exact Y1):=Aa h;exact Ka):=Aa h;exact Za):=Aa h;exact Ch):=Aa h;exact Eg):=Aa h;exact YW):=Aa h;exact Ch):=Aa h;exact Eg):=Aa h;exact YP):=Aa h;exact Ch):=Aa h;exact bF):=Aa h;exact Ch):=Aa h;exact aM):=Aa h;exact Ch):=Aa h;exact Eg):=Aa h;exact Gx
  ·have hd:decide ((j:Int)<(l.length:Int))=false:=by simp;omega
   replace HQ:=HQr HQ (by rw[if_neg (ne_true_of_eq_false (show decide (j<l.length)=false by simpa using hi))]);replace HQ:=HQr HQ Bj;have HPp:=Z hp;clear hp;go_wp2_with fail;go_quiet(fail);go_wp2;go_ret;refine Post.ok (AA HZ.out.2 _) HQ.out.symm ?_ ?_
   ·exact(HZ.out.1.gb (AA (Aj wr none) _) Ae).rep
   ·exact HPp.out.drewN _):=Aa h
 exact Zl
end
def Xh(k B:Nat)(w:World)(a:List Pq):Prop:=∃la lc,Blk w k [.slice la a.length lc] 34∧RepQ (Ap B) w (.slice la a.length lc) (a.map AB)
theorem lW{w:World}{b k:Nat}{tv wv:Value}{l:List Tok}{n:Nat}(hn:Al l)(hl:FO A8 l)(hok:∀i,At (Af l i))(hgb:0<b)(hnn:n≤90000)(hg:Glob w)(hp:Par w b tv wv l wordsL 0)(hk:Blk w k [.slice none 0 0] 34)(hkb:k<b)
 (ho:(BM hn wordsL A8 n).f 0 ≠ .out):
 Calls Tryz.prog 66 #[.pointer (some ⟨b,0,none⟩),.pointer (some ⟨k,0,none⟩)] w (P7 b k w (Xq k) (Xh k) ((BM hn wordsL A8 n).f 0)):=by
 have hb:=hp.lt;have HB:=Z (l0 hn hl hok hgb hnn hg hp ho);clear hl hok hg ho;generalize(BM hn wordsL A8 n).f 0=R at*;go_enter func66,ntmps66;go_wp2_with fail;refine HB.out.mono ?_;intro e w1 hq;obtain⟨g,⟨q,rfl,rfl⟩| ⟨a,j,v,rfl,rfl,hv,hpar⟩⟩:=hq.split
 ·exact⟨rfl,Grown2.of g (.inr (.inl rfl)),⟨none,0,0,hk.gb g Ag⟩,rfl⟩
 obtain⟨la,lc,rfl⟩:∃la lc,v= .slice la a.length lc:=by
  obtain⟨cs,⟨a9,c9,e9,_⟩,_⟩:=hv;rw[List.length_map]at e9;exact⟨a9,c9,e9⟩
 have hk1:=hk.gb g Ag;have k0:=hk1.cell 0;have kf:=hk1.frozen 0;simp only[List.getElem?_cons_zero]at k0;have hs1:=g.size;have HF:=Z (Ac hv (Ac hpar hk1));clear hv hpar hk1 hq;go_wp2;have gS:w1.grownBy (w1.setCell ⟨k,0,none⟩ (.slice la a.length lc)) (some k):=A7 (Aj _ _) _ _ (.inl rfl);have hk2:=HF.out.2.2.set 0 (.slice la a.length lc);refine⟨rfl,.tuple #[],by simp[results,results66,go_sem],(Grown2.of g (.inr (.inl rfl))).trans (Grown2.of gS (.inr (.inr rfl))),⟨_,_,_,hk2⟩,rfl,⟨_,_,hk2,?_⟩,?_⟩
 ·exact HF.out.1.gb gS (by intro q hq _ e;have h9:w.heap.size≤q:=hq;cases e;omega)
 ·exact B6 gS HF.out.2.1.c1 Ag
theorem uA{w:World}(hg:Glob w){tv:Value}{l:List Tok}(hn:Al l)(hl:FO A8 l)(hok:∀i,At (Af l i))(ht:TRow w tv l (fun _=>True))(hlen:l.length≤4001)(n:Nat)(hnn:n≤90000)(ho:(BM hn wordsL A8 n).f 0 ≠ .out):
 Calls Tryz.prog 34 #[tv] w fun e w'=>∃la ln lc,e= .returned (.tuple #[.slice la ln lc,.int .i64 (Ca l ((BM hn wordsL A8 n).f 0))])∧w.grownBy w' none∧
  ∀a j,(BM hn wordsL A8 n).f 0= .ok a j→ln=a.length∧RepQ (Ap w.heap.size) w' (.slice la ln lc) (a.map AB):=by
 have LC{P}(h:P:=by
 have hK:=Blk.new w [.slice none 0 0] 34;have g0:=World.grownBy_alloc w (.cells [.slice none 0 0].toArray 34 (0,0)) none;have ht0:=(ht.mono (ok':=fun g=>g<w.heap.size) (fun k _ h=>h)).gb g0 Ae;have hg0:=hg.gb g0 Ae;have hK0:=hK.lt;have hw0:0<w.heap.size:=by
  exact Z3
 have H:=Z (fun w1 b wv (hg1:Glob w1) (hb1:w.heap.size+1≤b) (hp1:Par w1 b tv wv l wordsL 0) (hk1:Blk w1 w.heap.size [.slice none 0 0] 34)=>lW (k:=w.heap.size) hn hl hok Ab hnn hg1 hp1 hk1 Ab ho);clear hl hg hok;generalize(BM hn wordsL A8 n).f 0=R at*;go_enter func34,ntmps34;go_wp2_with fail;refine(Xd (k:=w.heap.size) hg0 (ht0.mono (fun _ _ _=>trivial)) hlen 66 #[.pointer (some ⟨w.heap.size,0,none⟩)] (yW _) R hK0 (Xq w.heap.size) ?_ (Xh w.heap.size) ?_ ?_).mono ?_
 ·rintro w2 w3 r ⟨a,n,c,h⟩ g hr;exact⟨a,n,c,h.gb g (by simp at hr ⊢;omega)⟩
 ·rintro B w2 w3 a r ⟨la,lc,hb,hv⟩ g hr hB;exact⟨la,lc,hb.gb g (by simp at hr ⊢;omega),hv.gb g (by intro q hq _ e;have h9:B≤q:=hq;cases e;omega)⟩
 ·intro w1 b wv g1 hb1 hp hs;simp at hb1;exact H.out _ _ _ (hg0.gb g1 Ae) Ab hp (hK.gb g1 Ae)
 rintro e w1 ⟨rfl,g1,hU,hV⟩;obtain⟨la,ln,lc,hb⟩:=hU;have k0:=hb.cell 0;simp only[List.getElem?_cons_zero]at k0;have HF:=Z (Ac (A5 g0 g1 (.inr (Nat.le_refl _))) (show ∀a j,R= .ok a j→ln=a.length∧RepQ (Ap w.heap.size) w1 (.slice la ln lc) (a.map AB)from fun a j e=>by
  obtain⟨B,hB,la',lc',hb',hv⟩:=hV a j e;have e2:=hb'.cell 0;rw[hb.cell 0]at e2;cases e2;simp at hB;refine⟨rfl,?_⟩;obtain⟨cs,h1,h2⟩:=hv;exact⟨cs,h1.mono (fun q hq _=>by have:B≤q:=hq;show w.heap.size≤q;omega),RepP.mono (fun q hq _=>by have:B≤q:=hq;show w.heap.size≤q;omega) h2⟩))
 clear hV g1 hb;go_wp2;exact bodyPost_ret (v:= .tuple #[.slice la ln lc,.int .i64 (Ca l R)]) (by simp[results,results34,go_sem]) rfl ⟨_,_,_,rfl,HF.out.1,HF.out.2⟩):=Aa h;exact Lt
def Bl.sum:Bl→Nat
 | .nil=>0
 | .st h b n=>1+h.nodes+b.sum+n.sum
 | .bl b n=>1+b.sum+n.sum
theorem Bl.wt_le:∀b:Bl,b.wt≤b.sum:=by
 intro b;induction b with
 |nil=>exact Nat.le_refl _
 |st h b n ih1 ih2=>simp only[Bl.wt,Bl.sum];omega
 |bl b n ih1 ih2=>simp only[Bl.wt,Bl.sum];omega
theorem Bl.sum_app:∀a b:Bl,(a.app b).sum=a.sum+b.sum:=by
 intro a;induction a with
 |nil=>intro b;simp[Bl.app,Bl.sum]
 |st h k n _ ih=>intro b;simp[Bl.app,Bl.sum,ih];omega
 |bl k n _ ih=>intro b;simp[Bl.app,Bl.sum,ih];omega
abbrev sw(r:StB):Nat:=1+r.1.nodes+r.2.sum
abbrev pw(a:Fo×Bl):Nat:=a.1.nodes+a.2.sum
section
open Rd
variable {l:List Tok}(hn:Al l)(W:List Bs)(day:Bs→Int){n:Nat}{block:Rd l Bl}
theorem p1(w:Bs):Bg (CH hn day n w) sw 1:=
 Bg.bind (fun p=>p.2.nodes) 0 1 ((Mc hn day ([],.nil)).le IV) (fun a=>Bg.bind (fun p=>p.2.nodes) a.2.nodes 1 (P9 (m:=fun p:List Bs×Fo=>p.2.nodes) (Mc hn day) n a) (fun a=>A4 Bd (Bg.pure Lb)) Ab) Ab
theorem PH(hb:Bg block Bl.sum 0)(a:Fo×Bl):Bg (BS hn day n block a) pw (pw a):=
 BZ hn day fun x=>A4 Bd (Bg.bind Bl.sum 0 (x.nodes+pw a+1) hb (fun b=>Bg.pure (by simp only[pw,Fo.nodes_snoc,Bl.sum_app,Bl.sum];omega)) Ab)
theorem VO(hb:Bg block Bl.sum 0)(more other last:Bs):Bg (DY hn W day n block more other last) sw 1:=
 Bg.bind pw 0 1 ((PH hn day hb (.nil,.nil)).le (by simp[pw,Fo.nodes,Bl.sum])) (fun a=>Bg.bind pw (pw a) 1 (WC (m:=pw) (PH hn day hb) n a) (fun a=>
  Bg.bind Bl.sum a.2.sum (a.1.nodes+1) (Cy (A4 Bd (Bg.bind Bl.sum 0 (a.2.sum+1) hb (fun b=>Bg.pure (by simp only[Bl.sum_app,Bl.sum];omega)) Ab)) (Bg.pure (Nat.le_refl _)))
   (fun b=>A4 BX (A4 Bd (Bg.pure (by simp[sw,Sd.nodes,sd0,Fo.nodes];omega)))) (by simp only[pw];omega)) Ab) Ab
theorem bw_do(hb:Bg block Bl.sum 0):Bg (doP hn W day n block) sw 1:=
 Cy (A4 Bd (A4 BX ((VO hn W day hb _ _ _).le Ab)))
  (Cy (Bg.bind pw 0 1 ((PH hn day hb (.nil,.nil)).le (by simp[pw,Fo.nodes,Bl.sum])) (fun a=>A4 BX (A4 Bd (Bg.pure (by simp[sw,pw,Sd.nodes,sd0,Fo.nodes];omega)))) Ab)
   (Ct fun s=>Bg.bind Fo.nodes 0 1 (Cy ((KL hn day).le Ab) (Bg.pure IV)) (fun f=>A4 Bd (Bg.pure Lb)) Ab))
theorem AaA(hb:Bg block Bl.sum 0):Bg (Fb hn W day n block) sw 1:=
 Ct fun s=>A4 Ht (BZ hn day fun x=>A4 BX (BZ hn day fun y=>Bg.bind Ex.nodes 1 (y.nodes+x.nodes+1) (Cy ((M2 hn day).le Ab) (Bg.pure (by simp[A1,Ex.nodes,Fo.nodes])))
  (fun z=>A4 Bd (Bg.bind Bl.sum 0 (z.nodes+y.nodes+x.nodes+2) hb (fun b=>A4 BX (A4 Bd (Bg.pure (by simp[sw,Sd.nodes,sd0,Fo.nodes,Bl.sum,Fo.nodes_snoc,Fo.nodes_one];omega)))) Ab)) Ab))
theorem wR(hb:Bg block Bl.sum 0):Bg (ET hn W block) sw 1:=
 A4 BX (A4 Bd (Bg.bind Bl.sum 0 2 hb (fun b=>Bg.bind (fun r=>r.2.sum) (b.sum+1) 1
  (Cy (Bg.bind (fun _=>0) 0 (b.sum+2) (Cy (WD hn) (Bg.pure (Nat.le_refl _))) (fun s=>A4 Bd (Bg.bind Bl.sum 0 (b.sum+2) hb (fun c=>Bg.pure (by simp[Bl.sum];omega)) Ab)) Ab)
   (Bg.pure (by simp only[Bl.sum];omega))) (fun r=>A4 BX (A4 Bd (Bg.pure (by simp[sw,Sd.nodes,sd0,Fo.nodes];omega)))) Ab) Ab))
theorem AaD(hb:Bg block Bl.sum 0)(w:Bs):Bg (Bx hn W day n block w) sw 0:=by
 unfold Bx;repeat' refine DK ?_ ?_
 ·exact B1 (p1 hn day w)
 ·exact B1 (VO hn W day hb _ _ _)
 ·exact B1 (bw_do hn W day hb)
 ·exact B1 (AaA hn W day hb)
 ·exact B1 (A4 Bd (Bg.pure (by simp[sw,Sd.nodes,sd0,Fo.nodes,Bl.sum])))
 ·exact B1 (A4 Bd (Bg.pure (by simp[sw,Sd.nodes,sd0,Fo.nodes,Bl.sum])))
 ·exact B1 (Bg.bind Fo.nodes 0 1 (KM hn day) (fun x=>A4 Bd (Bg.pure Lb)) Ab)
 ·exact B1 (Bg.bind Fo.nodes 0 1 (KM hn day) (fun x=>A4 Bd (Bg.pure Lb)) Ab)
 ·exact B1 (wR hn W hb)
 ·exact B1 (Bg.bind Sd.nodes 0 1 (UX hn W day w) (fun s=>A4 Bd (Bg.pure (by simp only[sw,Bl.sum];omega))) Ab)
 ·exact Bg.bad
theorem MA(t:Ex):Bg (setP hn day n t) sw t.nodes:=
 Bg.bind Bv 0 t.nodes (DM (Bg.pure JQ) Ht) (fun _=>BZ hn day fun x=>A4 Bd (Bg.pure (by simp[sw,Sd.nodes,sd0,Fo.nodes,Bl.sum,Fo.nodes_two];omega))) Ab
theorem AaF(s:Bs):Bg (JB hn day n s) sw 1:=
 DM (Bg.bind Fo.nodes 0 2 (VN hn day) (fun f=>A4 Bd (Bg.pure (by simp[sw,Sd.nodes,sd0,Fo.nodes,Bl.sum,Fo.nodes_one,Ex.nodes];omega))) Ab)
  (DM (BZ hn day fun x=>A4 Ht ((MA hn day _).le Xw))
   (DM (Ct fun t=>(MA hn day _).le X2) ((MA hn day _).le (by simp only[AC,Ex.nodes,Fo.nodes];omega))))
theorem wS:Bg (Dy hn day n) sw 0:=
 DM (Bg.bind Fo.nodes 0 1 (GI (Bg.pure IV) (KL hn day)) (fun x=>A4 Bd (Bg.pure Lb)) Ab)
  (GI (Bg.bind Ex.nodes 0 0 (WB hn day) (fun t=>(MA hn day t).le Ab) Ab) (Ct fun s=>AaF hn day s))
theorem AaE(hb:Bg block Bl.sum 0):Bg (C7 hn W day n block) sw 0:=fun i a j e=>by
 have e':(if AR l W i=[]then Dy hn day n else Bx hn W day n block (AR l W i)).f i= .ok a j:=e
 split at e'
 ·exact wS hn day i a j e'
 ·exact AaD hn W day hb _ i a j e'
end
section
open Rd
variable {l:List Tok}(hn:Al l)(W:List Bs)(day:Bs→Int)
def C2(a:List Pq):Nat:=(a.map fun p=>p.2.2.2.sum).sum
theorem kZ(a:List Pq)(p:Pq):C2 (a++[p])=C2 a+p.2.2.2.sum:=by simp[C2]
theorem mJ{st:Rd l StB}(h:Bg st sw 0):∀k a,Bg (CY W st k a) Bl.sum a.sum:=by
 intro k;induction k with
 |zero=>exact fun a=>Bg.out
 |succ k ih=>exact fun a=>K9 (Bg.bind sw 0 a.sum h (fun r=>(ih _).le (by simp only[sw,Bl.sum_app,Bl.sum];omega)) Ab) (Bg.pure (Nat.le_refl _))
theorem WE:∀n,Bg (Dv hn W day n) Bl.sum 0:=by
 intro n;induction n with
 |zero=>exact Bg.out
 |succ n ih=>exact mJ W (AaE hn W day ih) n .nil
theorem AaB(n:Nat)(a:List Pq)(fn:Bool):Bg (Fd hn W day n a fn) C2 (C2 a):=by
 refine Ct fun s=>Bg.bind (fun _=>0) 0 (C2 a) ?_ (fun p=>A4 Bd (Bg.bind Bl.sum 0 (C2 a) (WE hn W day n) (fun b=>Bg.pure (by rw[kZ];show C2 a+b.sum≤b.sum+C2 a;omega)) Ab)) Ab;exact YU
theorem m4(n:Nat):∀k a,Bg (Dp hn W day n k a) C2 (C2 a):=by
 intro k;induction k with
 |zero=>exact fun a=>Bg.out
 |succ k ih=>exact fun a=>K9 (IL fun w=>DK (B1 (Bg.bind C2 (C2 a) 0 (AaB hn W day n a _) (fun a=>ih a) Ab)|> fun h=>h.le (Nat.le_refl _)) Bg.bad) (Bg.pure (Nat.le_refl _))
theorem AaC(n:Nat):Bg (BM hn W day n) C2 0:=
 Bg.bind Bl.sum 0 0 (WE hn W day n) (fun b=>(m4 hn W day n n _).le (by simp[C2])) Ab
theorem lU:∀{a:List Pq}{p:Pq},p∈a→p.2.2.2.sum≤C2 a:=by
 intro a;induction a with
 |nil=>intro p h;cases h
 | cons q r ih=>
   intro p h;have e:C2 (q::r)=q.2.2.2.sum+C2 r:=by simp[C2]
   rcases List.mem_cons.1 h with h|h
   ·subst h;omega
   ·have:=ih h;omega
theorem Ab6{n:Nat}{a:List Pq}{j:Nat}(h:(BM hn W day n).f 0= .ok a j):∀p∈a,p.2.2.2.wt≤j:=by
 intro p hp;have h1:=AaC hn W day n 0 a j h;have h2:=lU hp;have h3:=p.2.2.2.wt_le;omega
theorem zP{i:Nat}{s:Bs}{j:Nat}(h:AW l i= .ok s j):s.length≤10:=by
 unfold AW at h;split at h
 ·rename_i hc;cases h;simp only[DG,Bool.and_eq_true,decide_eq_true_eq]at hc;omega
 ·cases h
theorem kO(n:Nat):∀k (a:List Pq) i r j,(∀p∈a,p.1.length≤10)→(Dp hn W day n k a).f i= .ok r j→∀p∈r,p.1.length≤10:=by
 intro k;induction k with
 |zero=>intro a i r j _ h;cases h
 | succ k ih=>
   intro a i r j ha h;unfold Dp at h;rw[condN_f]at h;split at h
   ·rw[here_f]at h;by_cases hw:Av l W i=Ee∨Av l W i=Ce
    ·rw[if_pos hw,skip_f,Qb]at h;cases h1:AW l (i+1)with
     |out=>rw[h1]at h;cases h
     |bad q=>rw[h1]at h;cases h
     | ok s i1=>
       rw[h1,Res.bind_ok]at h;have hs:=zP h1;cases h2:IH l n i1 with
       |out=>rw[h2]at h;cases h
       |bad q=>rw[h2]at h;cases h
       | ok p i2=>
         rw[h2,Res.bind_ok]at h;cases h3:BP l i2 with
         |out=>rw[h3]at h;cases h
         |bad q=>rw[h3]at h;cases h
         | ok u i3=>
           rw[h3,Res.bind_ok]at h;cases h4:(Dv hn W day n).f i3 with
           |out=>rw[h4]at h;cases h
           |bad q=>rw[h4]at h;cases h
           | ok b i4=>
             rw[h4,Res.bind_ok]at h;refine ih _ _ _ _ ?_ h;intro x hx;rcases List.mem_append.1 hx with hx|hx
             ·exact ha x hx
             ·rw[List.mem_singleton]at hx;subst hx;exact hs
    ·rw[if_neg hw]at h;cases h
   ·cases h;exact ha
theorem qJ{n:Nat}{a:List Pq}{j:Nat}(h:(BM hn W day n).f 0= .ok a j):∀p∈a,p.1.length≤10:=by
 have e:(BM hn W day n).f 0=((Dv hn W day n).f 0).bind fun b i=>(Dp hn W day n n [([77,65,73,78],false,[],b)]).f i:=rfl;rw[e]at h;cases h1:(Dv hn W day n).f 0 with
 |out=>rw[h1]at h;cases h
 |bad q=>rw[h1]at h;cases h
 | ok b i=>
   rw[h1,Res.bind_ok]at h;exact kO hn W day n n _ _ _ _ (by intro p hp;rw[List.mem_singleton]at hp;subst hp;simp) h
theorem xX{n:Nat}(hn3:l.length+3≤n){a:List Pq}{j:Nat}(h:(BM hn wordsL day n).f 0= .ok a j):j≤l.length:=by
 have:=VT hn wordsL day n hn3;rw[h]at this;exact this.2
theorem Pl{n:Nat}(hn3:l.length+3≤n):(BM hn wordsL day n).f 0 ≠ .out:=by
 intro e;have:=VT hn wordsL day n hn3;rw[e]at this;exact this
def OW(a:List Pq):Nat:=(a.map fun p=>p.2.2.2).foldr (fun b n=>b.nodes+n) 0
theorem lV:∀a:List Pq,OW a=Cs a:=by
 intro a;induction a with
 |nil=>rfl
 | cons p r ih=>
   have e1:OW (p::r)=p.2.2.2.nodes+OW r:=rfl;have e2:Cs (p::r)=p.2.2.2.nodes+Cs r:=by simp[Cs]
   rw[e1,e2,ih]
end
theorem Wa{s:Bs}{l:List Tok}(h:Dx s= .ok l):(∀i,At (Af l i))∧l.length≤1200:=by
 unfold Dx at h;by_cases h4:4000<s.length
 ·rw[if_pos h4]at h;cases h
 rw[if_neg h4]at h;cases hl:EU s with
 |out=>rw[hl]at h;cases h
 |bad k=>rw[hl]at h;cases h
 | ok l'=>
   rw[hl]at h;simp only at h;by_cases hm:1200<l'.length
   ·rw[if_pos hm]at h;cases h
   ·rw[if_neg hm]at h;cases h;exact⟨fun i=>KG (PL Ab _ _ _ _ hl) i,by omega⟩
abbrev FQ{l:List Tok}(hn:Al l):Res (List Pq):=(BM hn wordsL A8 (l.length+3)).f 0
def GM{l:List Tok}(hn:Al l):PeR (List Pq):=
 match FQ hn with
 | .ok a j=>if j<l.length then .no j 2 else if EY (a.map AB)then .no 0 5 else if Bf (C6 (a.map AB)) (DI ((a.map AB).map Pd.body))then .no 0 3 else .ok a l.length
 | .bad q=> .no q 2
 | .out=> .no 0 2
open Classical in
noncomputable def prM(s:Bs):PeR (List Pq):=match Dx s with
 | .ok l=>if h:Al l then GM h else .no 0 0
 | .error pc=> .no pc.1 pc.2
theorem PV{s:Bs}{l:List Tok}(hn:Al l)(h:Dx s= .ok l):prM s=GM hn:=by
 unfold prM;rw[h];exact dif_pos hn
theorem Xf{s:Bs}{pc:Int×Int}(h:Dx s= .error pc):prM s= .no pc.1 pc.2:=by
 unfold prM;rw[h]
def PrPost(w:World)(s:Bs)(e:Ending)(w':World):Prop:=w.grownBy w' none∧
 match prM s with
  | .ok a n=>∃v,e= .returned (.tuple #[v,.int .i64 n,.int .i64 0])∧RepQ (Ap w.heap.size) w' v (a.map AB)
  | .no p c=>e= .returned (.tuple #[.slice none 0 0,.int .i64 p,.int .i64 c])
theorem VG{l:List Tok}{hn:Al l}{q:Nat}(h:FQ hn= .bad q):GM hn= .no q 2:=by
 unfold GM;rw[h]
theorem UJ{l:List Tok}{hn:Al l}{a:List Pq}{j:Nat}(h:FQ hn= .ok a j)(hj:j<l.length):GM hn= .no j 2:=by
 unfold GM;rw[h];simp only;rw[if_pos hj]
theorem UK{l:List Tok}{hn:Al l}{a:List Pq}{j:Nat}(h:FQ hn= .ok a j)(hj:¬j<l.length):GM hn=if EY (a.map AB)then .no 0 5 else if Bf (C6 (a.map AB)) (DI ((a.map AB).map Pd.body))then .no 0 3 else .ok a l.length:=by
 unfold GM;rw[h];simp only;rw[if_neg hj]
theorem VD{l:List Tok}(hn:Al l)(hl:l.length≤1200){a:List Pq}{j:Nat}(h:FQ hn= .ok a j):
 j≤l.length∧C6 (a.map AB)≤1200∧(∀p∈a.map AB,p.body.wt≤1200)∧(∀i,i<(a.map AB).length→(Bb (a.map AB) i).length≤maxLen):=by
 have h1:=xX hn A8 (Nat.le_refl _) h;have h2:=Aa4 hn wordsL A8 (l.length+3) 0 a j h;have h3:=Ab6 hn wordsL A8 h;have h4:=qJ hn wordsL A8 h;refine⟨h1,?_,?_,?_⟩
 ·have e : C6 (a.map AB) = Cs a := by
   unfold C6;rw[List.map_map,←lV];rfl
  omega
 ·intro p hp;obtain⟨q,hq,rfl⟩:=List.mem_map.1 hp;have:=h3 q hq;show q.2.2.2.wt≤1200;omega
 ·intro i hi;rw[List.length_map]at hi;have e:Bb (a.map AB) i=(a[i]).1:=by
   unfold Bb;simp[hi,AB]
  rw[e];have:=h4 _ (List.getElem_mem hi);unfold maxLen;omega
theorem sP(a:List Bl):Bf (GQ a (0,0)).1 (GQ a (0,0)).2=Bf (IG a) (DI a):=by
 rw[((yZ a) (0,0) (Nat.le_refl _)).2.1];simp
theorem VF{w:World}(ht:Tabs w.heap.size w)(s:Bs)(hs:s.length≤1000000):Calls Tryz.prog 12 #[str s] w (PrPost w s):=by
 have HL:=Z (Vi ht s hs);have HT:=Z ht;clear ht hs;go_enter func12,ntmps12;go_wp2_with fail;refine HL.out.mono ?_;rintro e w1 ⟨g1,h1⟩;clear HL;cases hq:Dx s with
 | error pc=>
   rw[hq]at h1;obtain⟨rfl,hc⟩:=h1;have HQ:=Z (Ac (Xf hq) g1);have hc1:decide (pc.2=0)=false:=Ag;clear hq g1;go_wp2;refine bodyPost_ret (v:= .tuple #[.slice none 0 0,.int .i64 pc.1,.int .i64 pc.2]) JK rfl ⟨HQ.out.2,?_⟩;rw[HQ.out.1]
 | ok l=>
   rw[hq]at h1;obtain⟨v,rfl,hT,hTame,_⟩:=h1;obtain⟨hok,hl⟩:=Wa hq;have hn:=OG hok;obtain⟨ta,tc,rfl,_⟩:=id hT;have HP:=Z (uA (HT.out.gbN g1).glob hn hTame hok (hT.mono fun _ _ _=>trivial) Ab (l.length+3) Ab (Pl hn A8 (Nat.le_refl _)));have HQ:=Z (Ac (PV hn hq) g1);have HF:=Z (fun a j h=>VD (a:=a) (j:=j) hn hl h);have hfine:FQ hn ≠ .out:=Pl hn A8 (Nat.le_refl _);clear hq g1 hT hTame hok HT;go_wp2_with fail;refine HP.out.mono ?_;rintro e w2 ⟨la,ln,lc,rfl,g2,hV⟩;have HV:=Z (Ac hV (Ah HQ.out.2 g2));have hs1:=HQ.out.2.size;have hs2:=g2.size;clear HP g2 hV;cases hr:FQ hn with
   |out=>exact absurd hr hfine
   | bad q=>
     have HE:=Z (show prM s= .no q 2 by rw[HQ.out.1,VG hr]);rw[show(BM hn wordsL A8 (l.length+3)).f 0=Res.bad q from hr];have hla:Ca l (.bad q:Res (List Pq))=(q:Int):=rfl;rw[hla];have hc1:decide ((0:Int)≤(q:Int))=true:=Ae;clear hr hfine hla;go_wp2;refine bodyPost_ret (v:= .tuple #[.slice none 0 0,.int .i64 q,.int .i64 2]) JK rfl ⟨HV.out.2,?_⟩;rw[HE.out]
   | ok a j=>
     rw[show(BM hn wordsL A8 (l.length+3)).f 0=Res.ok a j from hr];by_cases hj:j<l.length
     ·have HE:=Z (show prM s= .no j 2 by rw[HQ.out.1,UJ hr hj]);have hla:Ca l (.ok a j)=(j:Int):=by simp[Ca,hj]
      rw[hla];have hc1:decide ((0:Int)≤(j:Int))=true:=Ae;clear hr hfine hla;go_wp2;refine bodyPost_ret (v:= .tuple #[.slice none 0 0,.int .i64 j,.int .i64 2]) JK rfl ⟨HV.out.2,?_⟩;rw[HE.out]
     ·have hla:Ca l (.ok a j)=(-1:Int):=by simp[Ca,hj]
      rw[hla];have hP:=UK hr hj;obtain⟨rfl,hRQ⟩:=HV.out.1 a j hr;obtain⟨_,hn1,hn2,hn3⟩:=HF.out a j hr;have HPP:=Z (HQ.out.1.trans hP);rw[←List.length_map (f:=AB)]at hRQ;have H1:=Z (nH hn3 hRQ);have H2:=Z (fun(W:World)(g:w2.grownBy W none)=>pB (hRQ.gb g Ae) Ab);have HR:=Z hRQ;rw[List.length_map]at H1 H2;have hc1:decide ((0:Int)≤-1)=false:=Ad;clear hr hfine hla hP hRQ hn3 hn2 hj HF;generalize C6 (a.map AB)=NN at*;generalize DI ((a.map AB).map Pd.body)=LV at*;go_wp2_with fail;refine H1.out.mono ?_;rintro e w3 ⟨rfl,g3⟩;cases hTw:EY (a.map AB)with
      | true=>
        have HE:=Z (show prM s= .no 0 5 by rw[HPP.out,hTw];rfl);have HG:=Z (Ah HV.out.2 g3);clear g3 hTw;go_wp2;refine bodyPost_ret (v:= .tuple #[.slice none 0 0,.int .i64 0,.int .i64 5]) JK rfl ⟨HG.out,?_⟩;rw[HE.out]
      | false=>
        go_wp2_with fail;refine(H2.out _ g3).mono ?_;rintro e w4 ⟨rfl,g4⟩;go_wp2_with fail;refine(UE _ _ _).mono ?_;rintro e w5 ⟨rfl,g5⟩;have gA:=Ah g3 (Ah g4 g5);cases hLL:Bf NN LV with
        | true=>
          have HE:=Z (show prM s= .no 0 3 by rw[HPP.out,hTw,hLL];rfl);have HG:=Z (Ah HV.out.2 gA);clear g3 g4 g5 gA hTw hLL;go_wp2;refine bodyPost_ret (v:= .tuple #[.slice none 0 0,.int .i64 0,.int .i64 3]) JK rfl ⟨HG.out,?_⟩;rw[HE.out]
        | false=>
          have HE:=Z (show prM s= .ok a l.length by rw[HPP.out,hTw,hLL];rfl);have HG:=Z (Ac (Ah HV.out.2 gA) (HR.out.gb gA Ae));clear g3 g4 g5 gA hTw hLL;go_wp2;refine bodyPost_ret (v:= .tuple #[.slice la a.length lc,.int .i64 l.length,.int .i64 0]) JK rfl ⟨HG.out.1,?_⟩;rw[HE.out];refine⟨_,rfl,?_⟩;have hq:=HG.out.2;rw[List.length_map]at hq;obtain⟨cs,k1,k2⟩:=hq;exact⟨cs,k1.mono (fun q hq _=>Nat.le_trans hs1 hq),RepP.mono (fun q hq _=>Nat.le_trans hs1 hq) k2⟩
theorem rprog{l:List Tok}(hn:Al l):∃a st,(BM hn wordsL A8 (l.length+3)).g (0,false)=some (a,st)∧((st.2=false∧FQ hn= .ok a st.1)∨(st.2=true∧FQ hn= .bad st.1)):=by
 have hs:=(BM hn wordsL A8 (l.length+3)).sim.go 0;have hex:=Pl hn A8 (Nat.le_refl (l.length+3));cases hr:(BM hn wordsL A8 (l.length+3)).f 0 with
 |out=>exact absurd hr hex
 | ok x j=>
   rw[hr,Hs]at hs;exact⟨x,(j,false),hs,.inl ⟨rfl,hr⟩⟩
 | bad k=>
   rw[hr,We]at hs;obtain⟨x,hx⟩:=hs;exact⟨x,(k,true),hx,.inr ⟨rfl,hr⟩⟩
theorem l9(w:World)(s:Bs):Calls Tryz.prog 13 #[str s] w (PrPost w s):=by
 have HX:=Z (fun(W:World)=>rE W s);go_enter func13,ntmps13;go_wp2_with fail;refine(HX.out _).mono ?_;rintro e w1 ⟨g1,h1⟩;clear HX;cases hq:Dx s with
 | error pc=>
   rw[hq]at h1;obtain⟨rfl,hc⟩:=h1;have HQ:=Z (Ac (Xf hq) g1);have hc1:(pc.2 !=0)=true:=Ag;clear hq g1;go_wp2;refine bodyPost_ret (v:= .tuple #[.slice none 0 0,.int .i64 pc.1,.int .i64 pc.2]) Lc rfl ⟨HQ.out.2,?_⟩;rw[HQ.out.1]
 | ok l=>
   rw[hq]at h1;obtain⟨v,rfl,hT,hok,hl⟩:=h1;obtain⟨ta,tc,rfl,_⟩:=id hT;have hn:=OG hok;obtain⟨a,st,hx,hst⟩:=rprog hn;have HQ:=Z (Ac (PV hn hq) g1);have HF:=Z (fun a j h=>VD (a:=a) (j:=j) hn hl h);have gr:=World.grownBy_alloc w1 (.cells #[.slice ta l.length tc,.int .i64 0,.bool false,.slice none 0 0] 62 (0,0)) none;have hR:Rr (w1.alloc (.cells #[.slice ta l.length tc,.int .i64 0,.bool false,.slice none 0 0] 62 (0,0))) w1.heap.size (.slice ta l.length tc) l (0,false):=
    ⟨Blk.new w1 [.slice ta l.length tc,.int .i64 0,.bool false,.slice none 0 0] _,(hT.mono (fun q hq h=>h)).gb gr Ae,Nat.zero_le _,by omega⟩
   have HC:=Z (mC hn hok (n:=l.length+3) Ab hR hx);have HB:=Z (Ah g1 gr);have hs1:=g1.size;clear hq hT hok hx gr hR g1;go_wp2_with fail;refine HC.out.mono ?_;rintro e w2 ⟨g2,v,rfl,hv,hR2⟩;obtain⟨la,lc,rfl⟩:∃la lc,v= .slice la a.length lc:=by
    obtain⟨cs,⟨a9,c9,e9,_⟩,_⟩:=hv;rw[List.length_map]at e9;exact⟨a9,c9,e9⟩
   simp only at hv hR2;have gwx:=A5 HB.out g2 (.inr hs1);have hs2:=g2.size;have HV:=Z (Ac hv gwx);obtain⟨i,f⟩:=st;have c1:=hR2.c1;have c2:=hR2.c2;have hb2:=hR2.lt;simp only at c1 c2 hst;clear HC g2 hv gwx hR2 HB;cases f with
   | true=>
     have hbad:FQ hn= .bad i:=by
      rcases hst with⟨h,_⟩| ⟨_,h⟩
      ·cases h
      ·exact h
     have HE:=Z (show prM s= .no i 2 by rw[HQ.out.1,VG hbad]);clear hst hbad;exact SD
   | false=>
     have hr:FQ hn= .ok a i:=by
      rcases hst with⟨_,h⟩| ⟨h,_⟩
      ·exact h
      ·cases h
     clear hst;by_cases hj:i<l.length
     ·have hi1:decide (i<l.length)=true:=by simpa using hj
      have HE:=Z (show prM s= .no i 2 by rw[HQ.out.1,UJ hr hj]);clear hr hj;exact SD
     ·have hi1:decide (i<l.length)=false:=by simpa using hj
      have hP:=UK hr hj;obtain⟨_,hn1,hn2,hn3⟩:=HF.out a i hr;have HPP:=Z (HQ.out.1.trans hP);have hRQ:=HV.out.1;rw[←List.length_map (f:=AB)]at hRQ;have H1:=Z (sS hRQ);have hRA:RepQ (fun _=>True) w2 (.slice la (a.map AB).length lc) (a.map AB):=by
       obtain⟨cs,k1,k2⟩:=hRQ;exact⟨cs,k1.mono (fun _ _ _=>trivial),RepP.mono (fun _ _ _=>trivial) k2⟩
      have H2:=Z (fun(W:World)(g:w2.grownBy W none)=>xE (hRA.gb g Ae) Ab (fun p hp=>by have:=hn2 p hp;omega));have hcp:=sP ((a.map AB).map Pd.body);rw[List.length_map]at H1 H2;have HCP:=Z hcp;have hNN:IG ((a.map AB).map Pd.body)=C6 (a.map AB):=rfl;rw[hNN]at HCP;clear hr hP hRQ hRA hn3 hn2 hj HF hcp hNN;generalize C6 (a.map AB)=NN at*;generalize DI ((a.map AB).map Pd.body)=LV at*;generalize GQ ((a.map AB).map Pd.body) (0,0)=CP at*;obtain⟨cn,cm⟩:=CP;simp only at HCP;go_wp2_with fail;refine H1.out.mono ?_;rintro e w3 ⟨rfl,g3⟩;cases hTw:EY (a.map AB)with
      | true=>
        have HE:=Z (show prM s= .no 0 5 by rw[HPP.out,hTw];rfl);have HG:=Z (Ah HV.out.2 g3);clear g3 hTw;go_wp2;refine bodyPost_ret (v:= .tuple #[.slice none 0 0,.int .i64 0,.int .i64 5]) Lc rfl ⟨HG.out,?_⟩;rw[HE.out]
      | false=>
        go_wp2_with fail;refine(H2.out _ g3).mono ?_;rintro e w4 ⟨q,rfl,hq,hC,g4⟩;go_wp2_with fail;refine(UY hC).mono ?_;rintro e w5 ⟨rfl,g5⟩;rw[HCP.out];have gA:=Ah g3 (Ah g4 g5);cases hLL:Bf NN LV with
        | true=>
          have HE:=Z (show prM s= .no 0 3 by rw[HPP.out,hTw,hLL];rfl);have HG:=Z (Ah HV.out.2 gA);clear g3 g4 g5 gA hTw hLL hC;go_wp2;refine bodyPost_ret (v:= .tuple #[.slice none 0 0,.int .i64 0,.int .i64 3]) Lc rfl ⟨HG.out,?_⟩;rw[HE.out]
        | false=>
          have HE:=Z (show prM s= .ok a l.length by rw[HPP.out,hTw,hLL];rfl);have HG:=Z (Ac (Ah HV.out.2 gA) (HV.out.1.gb gA Ae));clear g3 g4 g5 gA hTw hLL hC;go_wp2;refine bodyPost_ret (v:= .tuple #[.slice la a.length lc,.int .i64 l.length,.int .i64 0]) Lc rfl ⟨HG.out.1,?_⟩;rw[HE.out];refine⟨_,rfl,?_⟩;obtain⟨cs,k1,k2⟩:=HG.out.2;have hin:∀q,Ap (w1.heap.size+1) q→Ap w.heap.size q:=fun q hq=>by have h1:w1.heap.size+1≤q:=hq;show w.heap.size≤q;omega
          exact⟨cs,k1.mono (fun q hq _=>hin q D4),RepP.mono (fun q hq _=>hin q D4) k2⟩
def aIf:List Pq:=[(mainL,false,[],.st ⟨0,[],[],[],.two (AC [73,70]) xOne,0,.nil,.nil,.nil⟩ .nil .nil)]
theorem xU(hn:Al Xg):GM hn= .ok aIf 4:=Bk
theorem pr_if:prM MD= .ok aIf 4:=by
 rw[PV (OG (Wa Xo).1) Xo];exact xU _
theorem if_at{w:World}{ok:Nat→Prop}{v:Value}(h:RepQ ok w v (aIf.map AB)):∃g o c G O C,v= .slice (some ⟨g,o,none⟩) 1 c∧w.cell? ⟨g,o+3,none⟩=some (.slice (some ⟨G,O,none⟩) 1 C)∧w.cell? ⟨G,O,none⟩=some (.int .i64 0):=by
 obtain⟨cs,⟨la,lc,e,_,_,_,hc⟩,hr⟩:=h;obtain⟨pa,ba,pc,bc,_,⟨ds,⟨lb,ld,e2,_,_,_,hc2⟩,hr2⟩,_,h1⟩:=RepP.elem (k:=0) hc hr;obtain⟨pa,xa,na,fa,wa,ba,pc,xc,nc,fc,wc,bc,_,_,_,h2⟩:=RepT.elem (k:=0) hc2 hr2;obtain⟨g,o,e3,_,k1⟩:=h1 3 _ rfl;obtain⟨G,O,e4,_,k2⟩:=h2 0 _ rfl;subst e e3 e4;cases e2;exact⟨g,o,lc,G,O,_,rfl,by simpa[AB,Bl.len]using k1,by simpa using k2⟩
theorem Aaw{w:World}(ht:Tabs w.heap.size w):Calls Tryz.prog 8 #[] w fun e w'=>e= .returned (.bool true)∧w.grownBy w' none:=by
 have HE:=Z (kV ht Qa Ad);have HP:=Z (fun(W:World)(g:w.grownBy W none)=>VF ((ht.gbN g).mono g.size) MD Ad);clear ht;generalize hsrc:Qa=src at*;generalize hsrc2:MD=src2 at*;go_enter func8,ntmps8;rw[show(Value.string {data:=#[97,45,62,98,32,43,32,49]})=str src by rw[←hsrc];rfl,show(Value.string {data:=#[105,102,32,61,32,49]})=str src2 by rw[←hsrc2];rfl];go_wp2_with fail;refine HE.out.mono ?_;rintro e w1 ⟨g1,h1⟩;rw[←hsrc,pe_ab]at h1;obtain⟨v,rfl,hV⟩:=h1;obtain⟨pa,pc,la,lc,rfl,hp,hl⟩:=hV;have HV:=Z (Ac hp (Ac hl g1));clear hp hl g1 HE hsrc;go_wp2_with fail;refine(Ab0 1 _).mono ?_;rintro e w2 ⟨rfl,g2⟩;have HW:=Z (AaV (n1:=w1.heap.size+1) rfl g2);have hb1:=((Blk.new w1 (hdC xAb.h (.slice pa xAb.h.p.length pc) (.slice la xAb.kids.len lc)) 29).alloc _).gb g2 Ae;have gw2:w1.grownBy w2 none:=Ah (Ar (World.grownBy_alloc _ _ _) _) g2;have HB1:=Z (Ac hb1 gw2);clear hb1 gw2 g2;go_wp2_with fail;refine(HP.out _ (Ar (Ar (Ah HV.out.2.2 HB1.out.2) _) _)).mono ?_;rintro e w3 ⟨g3,hS⟩;rw[←hsrc2,pr_if]at hS;obtain⟨v3,rfl,hS⟩:=hS;obtain⟨g,o,c,G,O,C,rfl,kA,kB⟩:=if_at hS;clear hS hsrc2 HP;have gw3:w2.grownBy w3 none:=Ah (Ar (World.grownBy_alloc _ _ _) _) g3;have hx:VE (Ap w.heap.size) w3 (exV xAb.h (.slice pa xAb.h.p.length pc) (.slice la xAb.kids.len lc)) xAb:=⟨pa,pc,la,lc,rfl,(HV.out.1.gb HB1.out.2 Ae).gb gw3 Ae,(HV.out.2.1.gb HB1.out.2 Ae).gb gw3 Ae⟩;have hy:=(HW.out _).gb g3 Ae;have HS:=Z (kC hx hy);have b1:=HB1.out.1.gb gw3 Ae
 have b4:Blk w3 (w2.heap.size+1) (hdC (hd0 5 [43]) IT (.slice (some ⟨w2.heap.size,0,none⟩) 2 2)) 29:=((Blk.new _ _ _).of_eq Ae rfl).gb g3 Ae;have HN:=Z (Ac kA (Ac kB (Ah (Ah HV.out.2.2 HB1.out.2) gw3)));clear hx hy kA kB gw3 g3;obtain⟨x_0,x_1,x_2,x_3,x_4,x_5,x_6,x_f⟩:=(b1).c7;obtain⟨y_0,y_1,y_2,y_3,y_4,y_5,y_6,y_f⟩:=(b4).c7;clear b1 b4;rw[sW]at HS;go_wp2_with fail;refine HS.out.mono ?_;rintro e w4 ⟨rfl,g4⟩;have z3:=Am g4 HN.out.1;have t0:=Am g4 HN.out.2.1;have HG:=Z (Ah HN.out.2.2 g4);clear g4;go_wp2;go_ret;exact⟨rfl,HG.out⟩
noncomputable def prX(s:Bs):List Pd×Int×Int:=match prM s with
 | .ok a n=>(a.map AB,n,0)
 | .no p c=>([],p,c)
theorem PrPost.val{w w':World}{s:Bs}{e:Ending}(h:PrPost w s e w'):w.grownBy w' none∧∃la lc,e= .returned (.tuple #[.slice la (prX s).1.length lc,.int .i64 (prX s).2.1,.int .i64 (prX s).2.2])∧RepQ (Ap w.heap.size) w' (.slice la (prX s).1.length lc) (prX s).1:=by
 obtain⟨g,h⟩:=h;refine⟨g,?_⟩;unfold prX;cases hq:prM s with
 | ok a n=>
   rw[hq]at h;obtain⟨v,rfl,hv⟩:=h;obtain⟨cs,⟨la,lc,rfl,h1⟩,h2⟩:=id hv;exact⟨la,lc,rfl,hv⟩
 | no p c=>
   rw[hq]at h;exact⟨none,0,h,[],Cells.nil _ _ _,rfl⟩
theorem kJ{w:World}(ht:Tabs w.heap.size w)(s:Bs):
 Calls Tryz.prog 4 #[str s] w fun e w'=>e= .returned (.bool true)∧w.grownBy w' none:=by
 have HK:=Z (fun(W:World)(g:w.grownBy W none)=>Aaw ((ht.gbN g).mono g.size));by_cases hs:16000<s.length
 ·have hs1:decide (16000<s.length)=true:=by simpa using hs
  clear ht hs;go_enter Tryz.func4,ntmps4;go_wp2_with fail;refine(WL s _).mono ?_;rintro e w1 ⟨rfl,g1⟩;go_wp2_with fail;refine(HK.out _ g1).mono ?_;rintro e w2 ⟨rfl,g2⟩;go_wp2;go_ret;exact⟨rfl,Ah g1 g2⟩
 ·have hs1:decide (16000<s.length)=false:=by simpa using hs
  have HE:=Z (fun(W:World)(g:w.grownBy W none)=>VF ((ht.gbN g).mono g.size) s Ab);have HF:=Z (fun(W:World)=>l9 W s);clear ht hs;go_enter Tryz.func4,ntmps4;go_wp2_with fail;refine(WL s _).mono ?_;rintro e w1 ⟨rfl,g1⟩;go_wp2_with fail;refine(HE.out _ g1).mono ?_;rintro e w2 h2;obtain⟨g2,la,lc,rfl,hv⟩:=h2.val;clear h2;have HV:=Z (Ac hv (Ah g1 g2));clear hv g1 g2 HE;go_wp2_with fail;refine(HF.out _).mono ?_;rintro e w3 h3;obtain⟨g3,lb,ld,rfl,hu⟩:=h3.val;clear h3;generalize(prX s).1=x at*;generalize(prX s).2.1=n at*;generalize(prX s).2.2=c at*;have HS:=Z (oE (HV.out.1.gb g3 Ae) hu);have HG:=Z (Ah HV.out.2 g3);rw[sV]at HS;clear hu g3 HV HF;have hn1:(n==n)=true:=Ae;have hc1:(c==c)=true:=Ae;go_wp2_with fail;refine HS.out.mono ?_;rintro e w4 ⟨rfl,g4⟩;have gwx:=Ah HG.out g4;go_wp2_with fail;refine(HK.out _ gwx).mono ?_;rintro e w5 ⟨rfl,g5⟩;go_wp2;go_ret;exact⟨rfl,Ah gwx g5⟩
end Go.Proofs.YtmcajbhljbbglaaGreatDoor
