/-
  Contracts of the parser: number, truth, signed, named. Contracts of the parser: prim; and the whole of expr, by the fuel. The whole of expr, by the fuel. run: a rule of the grammar under a deferred re
-/
import Derived.Test.YtmcajbhljbbglaaGreatDoorSpF
import Derived.Test.YtmcajbhljbbglaaGreatDoorSp08
import Derived.Lib.SmallJoins
import Derived.Test.YtmcajbhljbbglaaGreatDoorSp02
import Derived.Defers
import Derived.Recover
import Derived.Lib.ItoaMem
set_option linter.all false
set_option maxRecDepth 100000
set_option maxHeartbeats 8000000
namespace Go.Proofs.YtmcajbhljbbglaaGreatDoor
open Tryz
open Go.RowKit
theorem Vo(n:Int)(w:World):Calls Tryz.prog 273 #[.int .i64 n] w fun e w'=>e= .returned (exV (A1 2 n []).h (.slice none 0 0) (.slice none 0 0))∧w.grownBy w' none:=by
 go_enter func273,ntmps273;go_wp2;refine bodyPost_ret (v:=exV (A1 2 n []).h (.slice none 0 0) (.slice none 0 0)) ?_ rfl ⟨rfl,gw⟩;simp[results,results273,go_sem,A1]
theorem Wj(n:Int)(w:World):Calls Tryz.prog 288 #[.int .i64 n] w fun e w'=>e= .returned (exV (A1 1 n []).h (.slice none 0 0) (.slice none 0 0))∧w.grownBy w' none:=by
 go_enter func288,ntmps288;go_wp2;refine bodyPost_ret (v:=exV (A1 1 n []).h (.slice none 0 0) (.slice none 0 0)) ?_ rfl ⟨rfl,gw⟩;simp[results,results288,go_sem,A1]
section
variable {b:Nat}{tv wv:Value}{l:List Tok}{wl:List Bs}
theorem tC{E:Nat→Res Ex}(hE:CE 56 b tv wv l wl E)(hgo:H9 E)(hl:AF l)(n:Nat):CE 275 b tv wv l wl (ES l E n):=by
 have Jf{P}(h:P:=by
 have H:=Z (Ac hE (Ac hgo (Ac hl ho)));generalize hR:ES l E n i=R at*;have HQ:=Z hR;rw[ES]at HQ;clear hE hgo hl ho hR;go_enter func275,ntmps275;go_wp2_with fail;refine(CI hp).mono ?_;rintro e w1 ⟨rfl,g⟩;have DB{P}(h:P:=by
 have hs0:=hz.lt;go_wp2_with fail;refine(Hg _ _ _ [38] _).mono ?_;have Rq{P}(h:P:=by
 cases hs:Ak (Af l i) [38]with
 | true=>
   have hs':((Af l i).kind==4&&(Af l i).text==[38])=true:=hs;rw[hs'];replace HQ:=HQr HQ EI;go_wp2_with fail;refine(VA H.out.1 H.out.2.2.1 _ _ hp (fun e=>H.out.2.2.2 Cg)).mono ?_;intro e w3 hq;exact JR
 |false=>
 have hs':((Af l i).kind==4&&(Af l i).text==[38])=false:=hs;rw[hs'];clear hs';replace HQ:=HQr HQ Cx;go_wp2_with fail;cases hs:Ak (Af l i) [46,84,46]with
 | true=>
   refine(BC hp _ hs).mono ?_;rintro e w3 ⟨rfl,hp',g⟩;have Hb{P}(h:P:=by refine(Wj _ _).mono ?_;rintro e w4 ⟨rfl,g⟩;have DB{P}(h:P:=by have I0{P}(h:P:=by exact bodyPost_ret (AX (hd:=(A1 1 1 []:Ex).h) (pv:= .slice none 0 0) (lv:= .slice none 0 0) rfl _ (hz.set7 _ _ _ _ _ _ _) rfl) rfl (E9 (ok:=fun k=>w.heap.size<k) (x:=A1 1 1 []) hb HQ.out.symm gr ⟨none,0,none,0,rfl,Cells.nil _ _ _,RepL.nil _ _⟩ (fun k hk=>hk) hp (AD _ _ _ _ _ _ _ _ _))):=Aa h;exact Is):=Aa h;exact D7):=Aa h;exact GX
 |false=>
 refine(B5 hp _ hs).mono ?_;rintro e w3 ⟨rfl,g⟩;have DB{P}(h:P:=by
 replace HQ:=HQr HQ Cx;go_wp2_with fail;cases hs:Ak (Af l i) [46,70,46]with
 | true=>
   refine(BC hp _ hs).mono ?_;rintro e w4 ⟨rfl,hp',g⟩;have Hb{P}(h:P:=by refine(Wj _ _).mono ?_;rintro e w5 ⟨rfl,g⟩;have DB{P}(h:P:=by have I0{P}(h:P:=by exact bodyPost_ret (AX (hd:=(A1 1 0 []:Ex).h) (pv:= .slice none 0 0) (lv:= .slice none 0 0) rfl _ (hz.set7 _ _ _ _ _ _ _) rfl) rfl (E9 (ok:=fun k=>w.heap.size<k) (x:=A1 1 0 []) hb HQ.out.symm gr ⟨none,0,none,0,rfl,Cells.nil _ _ _,RepL.nil _ _⟩ (fun k hk=>hk) hp (AD _ _ _ _ _ _ _ _ _))):=Aa h;exact Is):=Aa h;exact D7):=Aa h;exact GX
 |false=>
 refine(B5 hp _ hs).mono ?_;rintro e w4 ⟨rfl,g⟩;have DB{P}(h:P:=by
 replace HQ:=HQr HQ Cx;go_wp2_with fail;cases hs:Ak (Af l i) [46,78,85,76,76,46]with
 | true=>
   refine(BC hp _ hs).mono ?_;rintro e w5 ⟨rfl,hp',g⟩;replace hz:=hz.gb g Ag;replace gr:=Ah gr g;replace hp:=hp';have hs0:=hz.lt;clear g;replace HQ:=HQr HQ EI;have I0{P}(h:P:=by exact bodyPost_ret (AX (hd:=(A1 0 0 []:Ex).h) (pv:= .slice none 0 0) (lv:= .slice none 0 0) rfl _ (hz.set7 _ _ _ _ _ _ _) rfl) rfl (E9 (ok:=fun k=>w.heap.size<k) (x:=A1 0 0 []) hb HQ.out.symm gr ⟨none,0,none,0,rfl,Cells.nil _ _ _,RepL.nil _ _⟩ (fun k hk=>hk) hp (AD _ _ _ _ _ _ _ _ _))):=Aa h;exact Is
 |false=>
 refine(B5 hp _ hs).mono ?_;rintro e w5 ⟨rfl,g⟩;have DB{P}(h:P:=by
 replace HQ:=HQr HQ Cx;go_wp2_with fail;cases hs:Ak (Af l i) [40]with
 | true=>
   refine(BC hp _ hs).mono ?_;rintro e w6 ⟨rfl,hp',g⟩;have Hb{P}(h:P:=by
   refine(H.out.1 _ _ hp (fun e=>H.out.2.2.2 B8)).mono ?_;intro e w7 hq;obtain⟨g,⟨q,hr,rfl⟩| ⟨x,j,v,hr,rfl,⟨pa,pc,la,lc,rfl,rp,rl⟩,hp⟩⟩:=hq.split
   ·exact CV
   have BW{P}(h:P:=by
   replace hz:=hz.gb g Ag;have hk:=Kept.new hb gr hz hp (rp.mono fun g hg _=>by have:w6.heap.size≤g:=hg;show w.heap.size<g;omega) (rl.mono fun g hg _=>by have:w6.heap.size≤g:=hg;show w.heap.size<g;omega) rfl;clear rp rl g hz;go_wp2_with fail;replace gr:=hk.gr;refine(Ec hk.par [41]).mono ?_;intro e w8 hq;obtain⟨g,⟨q,hr,rfl⟩| ⟨_,j2,v,hr,rfl,rfl,hp⟩⟩:=hq.split
   ·exact CV
   exact TG):=Aa h;exact BV):=Aa h;exact GX
 |false=>
 refine(B5 hp _ hs).mono ?_;rintro e w6 ⟨rfl,g⟩;have DB{P}(h:P:=by
 replace HQ:=HQr HQ Cx;go_wp2_with fail;cases hs:Ak (Af l i) [64]with
 | true=>
   refine(BC hp _ hs).mono ?_;rintro e w7 ⟨rfl,hp',g⟩;have Hb{P}(h:P:=by refine(C4 hp H.out.2.2.1).mono ?_;intro e w8 hq;have N5{P}(h:P:=by have BW{P}(h:P:=by replace hz:=hz.gb g Ag;clear g;have I0{P}(h:P:=by exact bodyPost_ret (AX (hd:=(⟨hd0 10 s,.nil⟩:Ex).h) (pv:= .slice none 0 0) (lv:= .slice none 0 0) rfl _ (hz.set7 _ _ _ _ _ _ _) rfl) rfl (E9 (ok:=fun k=>w.heap.size<k) (x:=⟨hd0 10 s,.nil⟩) hb HQ.out.symm gr ⟨none,0,none,0,rfl,Cells.nil _ _ _,RepL.nil _ _⟩ (fun k hk=>hk) hp (AD _ _ _ _ _ _ _ _ _))):=Aa h;exact Is):=Aa h;exact BV):=Aa h;exact LQ):=Aa h;exact GX
 |false=>
 refine(B5 hp _ hs).mono ?_;rintro e w7 ⟨rfl,g⟩;have DB{P}(h:P:=by
 replace HQ:=HQr HQ Cx;go_wp2_with fail;cases hs:Ak (Af l i) [123]with
 | true=>
   refine(BC hp _ hs).mono ?_;rintro e w8 ⟨rfl,hp',g⟩;have Hb{P}(h:P:=by refine(p0 H.out.1 H.out.2.1 H.out.2.2.1 n _ _ hp (fun e=>H.out.2.2.2 Cg)).mono ?_;intro e w9 hq;exact JR):=Aa h;exact GX
 |false=>
 refine(B5 hp _ hs).mono ?_;rintro e w8 ⟨rfl,g⟩;have DB{P}(h:P:=by replace HQ:=HQr HQ Cx;exact T0):=Aa h;exact D7):=Aa h;exact D7):=Aa h;exact D7):=Aa h;exact D7):=Aa h;exact D7):=Aa h;exact D7):=Aa h;exact Op):=Aa h;exact D7):=Aa h;exact Jb
theorem tR{E:Nat→Res Ex}(hE:CE 56 b tv wv l wl E)(hgo:H9 E)(hl:AF l)(n:Nat):CE 274 b tv wv l wl (Gl l E n):=by
 have Jf{P}(h:P:=by
 have H:=Z (Ac hE (Ac hgo (Ac hl ho)));generalize hR:Gl l E n i=R at*;have HQ:=Z hR;rw[Gl]at HQ;clear hE hgo hl ho hR;go_enter func274,ntmps274;go_wp2_with fail;refine(KO hp).mono ?_;rintro e w1 ⟨rfl,g⟩;have DB{P}(h:P:=by
 have hs0:=hz.lt;go_wp2_with fail;refine(Hg _ _ _ [40] _).mono ?_;have Rq{P}(h:P:=by
 cases hs:Ak (Af l (i+1)) [40]with
 | true=>
   have hs':((Af l (i+1)).kind==4&&(Af l (i+1)).text==[40])=true:=hs;rw[hs'];replace HQ:=HQr HQ EI;go_wp2_with fail;refine(WF H.out.1 H.out.2.1 H.out.2.2.1 n _ _ hp (fun e=>H.out.2.2.2 Cg)).mono ?_;intro e w3 hq;exact JR
 |false=>
 have hs':((Af l (i+1)).kind==4&&(Af l (i+1)).text==[40])=false:=hs;rw[hs'];clear hs';replace HQ:=HQr HQ Cx;go_wp2_with fail;refine(U3 hp H.out.2.2.1).mono ?_;intro e w3 hq;have N5{P}(h:P:=by
 have BW{P}(h:P:=by
 replace hz:=hz.gb g Ag;clear g;go_wp2_with fail;cases hs:Ak (Af l j) [45,62]with
 | false=>
   refine(B5 hp _ hs).mono ?_;rintro e w4 ⟨rfl,g⟩;have DB{P}(h:P:=by exact Y7):=Aa h;exact D7
 |true=>
 refine(BC hp _ hs).mono ?_;rintro e w4 ⟨rfl,hp',g⟩;have Hb{P}(h:P:=by
 cases hs:Ak (Af l (j+1)) [40]with
 | true=>
   refine(BC hp _ hs).mono ?_;rintro e w5 ⟨rfl,hp',g⟩;have Hb{P}(h:P:=by
   refine(H.out.1 _ _ hp (fun e=>H.out.2.2.2 B8)).mono ?_;intro e w6 hq;have R0{P}(h:P:=by
   have BW{P}(h:P:=by
   replace hz:=hz.gb g Ag;have hk:=Kept.new hb gr hz hp (rp.mono fun g hg _=>by have:w5.heap.size≤g:=hg;show w.heap.size<g;omega) (rl.mono fun g hg _=>by have:w5.heap.size≤g:=hg;show w.heap.size<g;omega) rfl;clear rp rl g hz;go_wp2_with fail;replace gr:=hk.gr;refine(Ec hk.par [41]).mono ?_;intro e w7 hq;obtain⟨g,⟨q,hr,rfl⟩| ⟨_,j3,v,hr,rfl,rfl,hp⟩⟩:=hq.split
   ·exact CV
   have BW{P}(h:P:=by have iL{P}(h:P:=by have Fx{P}(h:P:=by have RW{P}(h:P:=by have g7:=AD w7 w.heap.size (.int .i64 2) (str s) (.int .i64 0) (.int .i64 0) (str []) (.slice none 0 0) (.slice (some ⟨w7.heap.size,0,none⟩) 1 1);have hW:=hz.set7 (.int .i64 2) (str s) (.int .i64 0) (.int .i64 0) (str []) (.slice none 0 0) (.slice (some ⟨w7.heap.size,0,none⟩) 1 1);have hsz:(set7 w7 w.heap.size (.int .i64 2) (str s) (.int .i64 0) (.int .i64 0) (str []) (.slice none 0 0) (.slice (some ⟨w7.heap.size,0,none⟩) 1 1)).heap.size=w7.heap.size:=Ii;simp only[set7]at hW g7 hsz;generalize(((((((w7.setCell {block:=w.heap.size,off:=0} (.int .i64 2)).setCell {block:=w.heap.size,off:=1} (str s)).setCell {block:=w.heap.size,off:=2} (.int .i64 0)).setCell {block:=w.heap.size,off:=3} (.int .i64 0)).setCell {block:=w.heap.size,off:=4} (str [])).setCell {block:=w.heap.size,off:=5} (.slice none 0 0)).setCell {block:=w.heap.size,off:=6} (.slice (some ⟨w7.heap.size,0,none⟩) 1 1))=W' at*;exact bodyPost_ret (AX (hd:=hd0 2 s) (pv:= .slice none 0 0) (lv:= .slice (some ⟨w7.heap.size,0,none⟩) 1 1) rfl _ (Blk.alloc hW (Obj.cells #[Value.int IntKind.i64 x.h.op,str x.h.s,Value.int IntKind.i64 x.h.vk,Value.int IntKind.i64 x.h.vn,str x.h.vs,Value.slice pa x.h.p.length pc,Value.slice la x.kids.len lc] 29)) rfl) rfl (Mz (op:=2) (s:=s) hb HQ.out.symm gr HV.out.1 HV.out.2 (fun k hk=>hk) hp g7 hsz)):=Aa h;exact Rb):=Aa h;exact Fq):=Aa h;exact ZS):=Aa h;exact BV):=Aa h;exact BV):=Aa h;exact O5):=Aa h;exact GX
 | false=>
   refine(B5 hp _ hs).mono ?_;rintro e w5 ⟨rfl,g⟩;have DB{P}(h:P:=by replace HQ:=HQr HQ Cx;go_wp2_with fail;refine(U3 hp H.out.2.2.1).mono ?_;exact XM):=Aa h;exact D7):=Aa h
 exact GX):=Aa h;exact BV):=Aa h;exact LQ):=Aa h;exact Op):=Aa h;exact D7):=Aa h;exact Jb
end
section
variable {b:Nat}{tv wv:Value}{l:List Tok}{wl:List Bs}
structure FO(day:Bs→Int)(l:List Tok):Prop where
 short:AF l
 num:∀i,(Af l i).kind=1→(Af l i).text.length≤18∧Lib.atoi (Af l i).text=some (AS (Af l i).text)
 date:∀i,(Af l i).kind=3→∀w,Calls Tryz.prog 209 #[str (Af l i).text] w fun e w'=>(∃v,e= .returned (.tuple #[.int .i64 (day (Af l i).text),v]))∧w.grownBy w' none
theorem Par.goA{w:World}{i:Nat}(h:Par w b tv wv l wl i)(hi:i<l.length)(o:Obj):Par ((w.setCell ⟨b,1,none⟩ (.int .i64 (i+1))).alloc o) b tv wv l wl (i+1):=(h.goI _ _ Ab Ab).alloc o
theorem xV{day:Bs→Int}{E:Nat→Res Ex}(hE:CE 56 b tv wv l wl E)(hgo:H9 E)(hl:FO day l)(n:Nat):CE 244 b tv wv l wl (Fc l day E n):=by
 have Jf{P}(h:P:=by
 have H:=Z (Ac hE (Ac hgo (Ac hl ho)));generalize hR:Fc l day E n i=R at*;have HQ:=Z hR;rw[Fc]at HQ;clear hE hgo ho hR;have hnum:=hl.num i;have hdate:=hl.date i;have hilt:=fun h=>@ID l i h;go_enter func244,ntmps244;go_wp2_with fail;refine(CI hp).mono ?_;rintro e w1 ⟨rfl,g⟩;generalize Af l i=t at*;obtain⟨kd,ps,tx⟩:=t;simp only at HQ hnum hdate hilt;replace hz:=hz.gb g Ae;replace gr:=A0 gr g;replace hp:=hp.gbN g;clear g hl;have hs0:=hz.lt;have hb1:=hp.lt;have c1:=hp.c1;have f1:=hp.f1;have hf:=hp.few;by_cases h1:kd=1
 ·subst h1;have hi:=hilt Ad;obtain⟨hn1,hn2⟩:=hnum rfl;have HN:=Z hn2;clear hn2 hnum hdate hilt;simp only[BEq.rfl,if_true]at HQ;have HP:=Z (hp.goA hi (.cells [.int .i64 1,.int .i64 ps,str tx].toArray 89 (0,0)));go_wp2_with fail;refine(strconv_Atoi ⟨tx.toArray⟩ (AS tx) hn1 HN.out _).mono ?_;rintro e w2 ⟨rfl,t',e2⟩;have g2:=OS (Go.Joins.below_bytesWorld _ ((w1.setCell ⟨b,1,none⟩ (.int .i64 (i+1))).alloc (.cells [.int .i64 1,.int .i64 ps,str tx].toArray 89 (0,0))) 5 t' (Nat.le_refl _));replace e2:w2=_:=e2;rw[←e2]at g2;have g02:w1.grownBy w2 (some b):=A0 (Ar (A7 (Aj _ _) _ _ (.inl rfl)) _) g2;replace gr:=Ah gr g02;replace hz:=hz.gb g02 Ag;replace hp:=HP.out.gbN g2;have hs2:=g02.size;clear e2 g2 g02 HP c1 f1;go_wp2_with fail;refine(Vo _ _).mono ?_;rintro e w3 ⟨rfl,g3⟩;replace hz:=hz.gb g3 Ae;replace gr:=A0 gr g3;replace hp:=hp.gbN g3;clear g3;have I0{P}(h:P:=by exact bodyPost_ret (AX (hd:=(A1 2 (AS tx) []:Ex).h) (pv:= .slice none 0 0) (lv:= .slice none 0 0) rfl _ (hz.set7 _ _ _ _ _ _ _) rfl) rfl (E9 (ok:=fun k=>w.heap.size<k) (x:=A1 2 (AS tx) []) hb HQ.out.symm gr ⟨none,0,none,0,rfl,Cells.nil _ _ _,RepL.nil _ _⟩ (fun k hk=>hk) hp (AD _ _ _ _ _ _ _ _ _))):=Aa h;exact Is
 by_cases h2:kd=2
 ·subst h2;have hi:=hilt Ad;clear hnum hdate hilt h1;simp only[Int.reduceBEq,Bool.false_eq_true,if_false,if_true]at HQ;by_cases h3:tx.length>2048
  ·rw[if_pos h3]at HQ;replace hp:=hp.alloc (.cells [.int .i64 2,.int .i64 ps,str tx].toArray 89 (0,0));replace gr:=Ar gr (.cells [.int .i64 2,.int .i64 ps,str tx].toArray 89 (0,0));exact T0
  ·rw[if_neg h3]at HQ;have gW:=As (Aj w1 (some b)) 1 (.int .i64 (i+1));have hp1:=hp.goI (i+1) (i+1) rfl Ab;have hz1:=hz.gb gW Ag;have I0{P}(h:P:=by exact bodyPost_ret (AX (hd:=(A1 4 0 tx).h) (pv:= .slice none 0 0) (lv:= .slice none 0 0) rfl _ ((hz1.set7 _ _ _ _ _ _ _).alloc _) rfl) rfl (E9 (ok:=fun k=>w.heap.size<k) (x:=A1 4 0 tx) hb HQ.out.symm (Ah gr gW) ⟨none,0,none,0,rfl,Cells.nil _ _ _,RepL.nil _ _⟩ (fun k hk=>hk) hp1 (Ar (AD _ _ _ _ _ _ _ _ _) _))):=Aa h;exact Is
 by_cases h3:kd=3
 ·subst h3;have hi:=hilt Ad;have HD:=Z (hdate rfl);clear hnum hdate hilt h1 h2;simp only[Int.reduceBEq,Bool.false_eq_true,if_false,if_true]at HQ;have HP:=Z (hp.goA hi (.cells [.int .i64 3,.int .i64 ps,str tx].toArray 89 (0,0)));have g02:w1.grownBy ((w1.setCell ⟨b,1,none⟩ (.int .i64 (i+1))).alloc (.cells [.int .i64 3,.int .i64 ps,str tx].toArray 89 (0,0))) (some b):=Ar (A7 (Aj _ _) _ _ (.inl rfl)) _;go_wp2_with fail;refine(HD.out _).mono ?_;rintro e w2 ⟨⟨v,rfl⟩,g2⟩;replace g02:=A0 g02 g2;replace gr:=Ah gr g02;replace hz:=hz.gb g02 Ag;replace hp:=HP.out.gbN g2;clear g2 g02 HP c1 f1;have I0{P}(h:P:=by exact bodyPost_ret (AX (hd:=(A1 3 (day tx) []:Ex).h) (pv:= .slice none 0 0) (lv:= .slice none 0 0) rfl _ (hz.set7 _ _ _ _ _ _ _) rfl) rfl (E9 (ok:=fun k=>w.heap.size<k) (x:=A1 3 (day tx) []) hb HQ.out.symm gr ⟨none,0,none,0,rfl,Cells.nil _ _ _,RepL.nil _ _⟩ (fun k hk=>hk) hp (AD _ _ _ _ _ _ _ _ _))):=Aa h;exact Is
 have hd1:(kd==1)=false:=JP;have hd2:(kd==2)=false:=by simpa using h2
 have hd3:(kd==3)=false:=by simpa using h3
 simp only[hd1,hd2,hd3,Bool.false_eq_true,if_false]at HQ;replace hp:=hp.alloc (.cells [.int .i64 kd,.int .i64 ps,str tx].toArray 89 (0,0));replace gr:=Ar gr (.cells [.int .i64 kd,.int .i64 ps,str tx].toArray 89 (0,0));replace hz:=hz.alloc (.cells [.int .i64 kd,.int .i64 ps,str tx].toArray 89 (0,0));have hlz:=hz.lt;by_cases h0:kd=0
 ·subst h0;simp only[BEq.rfl,if_true]at HQ;clear hd1 hd2 hd3 h1 h2 h3 hnum hdate hilt;go_wp2_with fail;refine(tR H.out.1 H.out.2.1 H.out.2.2.1.short n _ _ hp (fun e=>H.out.2.2.2 Cg)).mono ?_;intro e w3 hq;exact JR
 have hd0:(kd==0)=false:=Lm;simp only[hd0,Bool.false_eq_true,if_false]at HQ;clear hnum hdate hilt;go_wp2_with fail;refine(tC H.out.1 H.out.2.1 H.out.2.2.1.short n _ _ hp (fun e=>H.out.2.2.2 Cg)).mono ?_;intro e w3 hq;exact JR):=Aa h;exact Jb
end
theorem VX(l:List Tok)(day:Bs→Int)(n:Nat):H9 (Aw l day n):=by
 intro i x j h;have:=K5 (l:=l) day n i;rw[h]at this;exact this.1
theorem VV{b:Nat}{tv wv:Value}{l:List Tok}{wl:List Bs}{day:Bs→Int}(hl:FO day l):∀n,CE 56 b tv wv l wl (Aw l day n):=by
 intro n;induction n with
 |zero=>intro w i h ho;exact absurd rfl ho
 | succ n ih=>
   have hp:=xV ih (VX l day n) hl n;have hu:=vY ih hp n;have hw:=Ab5 hu n;exact zF (Aaz (sumf:=sumM l n _) (Aaa hw n) n) n
theorem lQ(i:Int)(w:World):(binOp .neq 20 (.iface 115 (.agg #[.int .i64 i])) .nilIface).run Tryz.prog w= .ok (.bool true) w:=Bk
theorem lP(w:World):(binOp .neq 20 .nilIface .nilIface).run Tryz.prog w= .ok (.bool false) w:=Bk
theorem p4(p:Addr)(w:World):
 CallsD Tryz.prog 85 #[.pointer (some p)] .returning w fun e u' w'=>e= .returned (.tuple #[])∧u'= .returning∧w'=w:=by
 have hnn:=lP;refine callsD_of_wpS func85 rfl fun c₀ cs hu=>?_;apply wpS_seq;apply wpS_region;simp[wpOpsS,go_sem,recoverD,hu,hnn,ntmps85,Exit.thenS];apply wpS_seq;apply wpS_region;simp[wpOpsS,go_sem,hnn,Exit.thenS];refine wpS_cond (t:=false) (by simp[Act.eval,Array.replicate]) ?_;simp only[Bool.false_eq_true,if_false];refine wpS_of_wp (wp_skip ?_);cases c₀;simp_all [bodyPostS,results,results85]
theorem mZ(i:Int)(w:World):(Instr.typeAssert (.iface 115 (.agg #[.int .i64 i])) 20 115 true).run Tryz.prog w= .ok (.tuple #[.agg #[.int .i64 i],.bool true]) w:=Bk
theorem kE{k:Nat}{i:Int}{x:Value}{w:World}(hc:w.cell? ⟨k,0,none⟩=some x)(hz:w.frozen? ⟨k,0,none⟩=false):
 CallsD Tryz.prog 85 #[.pointer (some ⟨k,0,none⟩)] (.panicking [{v:= .iface 115 (.agg #[.int .i64 i]),recovered:=false}]) w fun e u' w'=>
  e= .returned (.tuple #[])∧u'= .panicking [{v:= .iface 115 (.agg #[.int .i64 i]),recovered:=true}]∧w'=(w.setCell ⟨k,0,none⟩ (.int .i64 i)).alloc (.cells #[.int .i64 i] 115 (0,0)):=by
 have hnn:=lQ i;have hk:=World.block_lt_of_cell? w _ hc;refine callsD_of_wpS func85 rfl fun c₀ cs hu=>?_;simp only[ntmps85,List.size_toArray,List.length_cons,List.length_nil,Nat.reduceAdd,Nat.reduceSub,Array.replicate_succ,Array.replicate_zero,List.push_toArray,List.append_toArray,List.nil_append,List.cons_append];apply wpS_seq;apply wpS_region;simp[wpOpsS,go_sem,recoverD,hu,hnn,ntmps85,Exit.thenS];apply wpS_seq;apply wpS_region;simp[wpOpsS,go_sem,hnn,Exit.thenS];refine wpS_cond (t:=true) (by simp[Act.eval,Array.replicate]) ?_;simp only[if_true];refine wpS_of_wp ?_;have hta:=mZ i;go_wp2;exact⟨rfl,_,rfl,_,by simp[results,results85,go_sem],rfl,rfl,rfl⟩
open Go.Sort
def wordsText:Bs:=[80,82,79,67,69,68,85,82,69,32,70,85,78,67,84,73,79,78,32,76,79,67,65,76,32,80,82,73,86,65,84,69,32,80,85,66,76,73,67,32,83,84,65,84,73,67,32,73,70,32,69,76,83,69,73,70,32,69,76,83,69,32,69,78,68,73,70,32,68,79,32,67,65,83,69,32,79,84,72,69,82,87,73,83,69,32,69,78,68,67,65,83,69,32,87,72,73,76,69,32,69,78,68,68,79,32,70,79,82,32,84,79,32,83,84,69,80,32,78,69,88,84,32,76,79,79,80,32,69,88,73,84,32,82,69,84,85,82,78,32,87,73,84,72,32,66,82,69,65,75,32,66,69,71,73,78,32,83,69,81,85,69,78,67,69,32,82,69,67,79,86,69,82,32,85,83,73,78,71,32,69,78,68,32,83,69,76,69,67,84,32,85,83,69,32,65,76,73,65,83,32,71,79,32,84,79,80,32,66,79,84,84,79,77,32,83,75,73,80,32,83,69,69,75,32,76,79,67,65,84,69,32,67,79,78,84,73,78,85,69,32,82,69,80,76,65,67,69,32,68,69,76,69,84,69,32,82,69,67,65,76,76,32,65,80,80,69,78,68,32,66,76,65,78,75,32,80,65,67,75,32,90,65,80,32,67,79,85,78,84,32,83,85,77,32,73,78,68,69,88,32,79,78,32,84,65,71,32,85,78,73,81,85,69,32,67,65,78,68,73,68,65,84,69,32,68,69,83,67,69,78,68,73,78,71,32,83,69,84,32,79,82,68,69,82,32,70,73,76,84,69,82,32,82,69,76,65,84,73,79,78,32,73,78,84,79,32,69,88,65,67,84,32,68,69,76,69,84,69,68,32,79,70,70,32,65,76,76,32,82,69,83,84,32,82,69,67,79,82,68]
def wordsRaw:List Bs:=[[80,82,79,67,69,68,85,82,69],[70,85,78,67,84,73,79,78],[76,79,67,65,76],[80,82,73,86,65,84,69],[80,85,66,76,73,67],[83,84,65,84,73,67],[73,70],[69,76,83,69,73,70],[69,76,83,69],[69,78,68,73,70],[68,79],[67,65,83,69],[79,84,72,69,82,87,73,83,69],[69,78,68,67,65,83,69],[87,72,73,76,69],[69,78,68,68,79],[70,79,82],[84,79],[83,84,69,80],[78,69,88,84],[76,79,79,80],[69,88,73,84],[82,69,84,85,82,78],[87,73,84,72],[66,82,69,65,75],[66,69,71,73,78],[83,69,81,85,69,78,67,69],[82,69,67,79,86,69,82],[85,83,73,78,71],[69,78,68],[83,69,76,69,67,84],[85,83,69],[65,76,73,65,83],[71,79],[84,79,80],[66,79,84,84,79,77],[83,75,73,80],[83,69,69,75],[76,79,67,65,84,69],[67,79,78,84,73,78,85,69],[82,69,80,76,65,67,69],[68,69,76,69,84,69],[82,69,67,65,76,76],[65,80,80,69,78,68],[66,76,65,78,75],[80,65,67,75],[90,65,80],[67,79,85,78,84],[83,85,77],[73,78,68,69,88],[79,78],[84,65,71],[85,78,73,81,85,69],[67,65,78,68,73,68,65,84,69],[68,69,83,67,69,78,68,73,78,71],[83,69,84],[79,82,68,69,82],[70,73,76,84,69,82],[82,69,76,65,84,73,79,78],[73,78,84,79],[69,88,65,67,84],[68,69,76,69,84,69,68],[79,70,70],[65,76,76],[82,69,83,84],[82,69,67,79,82,68]]
def wordsL:List Bs:=[[65,76,73,65,83],[65,76,76],[65,80,80,69,78,68],[66,69,71,73,78],[66,76,65,78,75],[66,79,84,84,79,77],[66,82,69,65,75],[67,65,78,68,73,68,65,84,69],[67,65,83,69],[67,79,78,84,73,78,85,69],[67,79,85,78,84],[68,69,76,69,84,69],[68,69,76,69,84,69,68],[68,69,83,67,69,78,68,73,78,71],[68,79],[69,76,83,69],[69,76,83,69,73,70],[69,78,68],[69,78,68,67,65,83,69],[69,78,68,68,79],[69,78,68,73,70],[69,88,65,67,84],[69,88,73,84],[70,73,76,84,69,82],[70,79,82],[70,85,78,67,84,73,79,78],[71,79],[73,70],[73,78,68,69,88],[73,78,84,79],[76,79,67,65,76],[76,79,67,65,84,69],[76,79,79,80],[78,69,88,84],[79,70,70],[79,78],[79,82,68,69,82],[79,84,72,69,82,87,73,83,69],[80,65,67,75],[80,82,73,86,65,84,69],[80,82,79,67,69,68,85,82,69],[80,85,66,76,73,67],[82,69,67,65,76,76],[82,69,67,79,82,68],[82,69,67,79,86,69,82],[82,69,76,65,84,73,79,78],[82,69,80,76,65,67,69],[82,69,83,84],[82,69,84,85,82,78],[83,69,69,75],[83,69,76,69,67,84],[83,69,81,85,69,78,67,69],[83,69,84],[83,75,73,80],[83,84,65,84,73,67],[83,84,69,80],[83,85,77],[84,65,71],[84,79],[84,79,80],[85,78,73,81,85,69],[85,83,69],[85,83,73,78,71],[87,72,73,76,69],[87,73,84,72],[90,65,80]]
theorem mW:Lib.fields wordsText=wordsRaw:=En
theorem jV:(wordsRaw.mergeSort fun x y=>decide (x≤y))=wordsL:=by
 refine List.Perm.eq_of_pairwise (le:=fun x y=>decide (x≤y)=true) ?_ (List.pairwise_mergeSort ?_ ?_ _) ?_ ((List.mergeSort_perm _ _).trans ?_)
 ·intro a b _ _ h1 h2;exact List.le_antisymm JP (by simpa using h2)
 ·intro a b c h1 h2;simp only[decide_eq_true_eq]at*;exact List.le_trans h1 h2
 ·intro a b;simp only[Bool.or_eq_true,decide_eq_true_eq];exact List.le_total a b
 ·decide+kernel
 ·exact List.isPerm_iff.1 En
theorem o6:wordsText.all (fun b=>decide (b.toNat<128))=true:=En
def Glob (w : World) : Prop := Lib.TabIs Tryz.prog w "strings.asciiSpace" .u8 Lib.asciiSpaceTab
theorem Ms : Tryz.prog.globalNamed "strings.asciiSpace" = some 0 := by kernel_rfl
theorem Glob.gb{w w1:World}{r:Option Nat}(h:Glob w)(g:w.grownBy w1 r)(hr:some 0≠r):Glob w1:=by
 unfold Glob Lib.TabIs World.var? at*;simp only[Ms,Option.bind_some]at h ⊢;have hlt:0<w.heap.size:=by
  rcases Nat.lt_or_ge 0 w.heap.size with h' |h'
  ·exact h'
  ·rw[Array.getElem?_eq_none h']at h;simp at h
 rw[g.block _ hlt hr];exact h
theorem OT(w:World):Holds encStr (w.alloc (.cells (wordsRaw.map fun l=>Value.string ⟨l.toArray⟩).toArray 9 (0,0))) w.heap.size 0 wordsRaw.toArray:=by
 intro j hj;have hB:=Blk.new w (wordsRaw.map fun l=>Value.string ⟨l.toArray⟩) 9;refine⟨?_,hB.frozen _⟩;rw[hB.cell];simp at hj;simp[encStr,hj]
theorem jX(w:World)(n:Nat):Holds encStr (Sort.ahead (w.alloc (.cells (wordsRaw.map fun(l:Bs)=>Value.string ⟨l.toArray⟩).toArray 9 (0,0))) n) w.heap.size 0 wordsRaw.toArray:=OT w
theorem nV{w:World}{g n:Nat}{os:Array Obj}(d:Array (List UInt8)):w.grownBy (grow (putRow encStr (Sort.ahead w n) g 0 d) os) (some g):=by
 refine⟨rfl,rfl,rfl,by simp,fun k hk hne=>?_⟩;rw[heap_grow_old _ _ BE];have:g≠k:=fun e=>hne (by rw[e]);simp[putRow,mapBlock,Sort.ahead,Array.getElem?_modify,this]
theorem wF{w:World}(hg:Glob w):Calls Tryz.prog 49 #[] w fun e w'=>∃wv,e= .returned wv∧SRow w' wv wordsL (Ap w.heap.size)∧w.grownBy w' none:=by
 go_enter func49,ntmps49;go_wp2_with fail;refine(strings_Fields ⟨wordsText.toArray⟩ w En ?_ hg).mono ?_
 ·intro j b hb;have:=List.all_eq_true.1 o6 b (by
   have:wordsText[j]? =some b:=hb;exact List.mem_of_getElem? this)
  simpa using this
 rintro e w1 ⟨rfl,rfl⟩;rw[show(Lib.fields (ByteArray.mk wordsText.toArray).data.toList)=wordsRaw from mW];go_wp2_with fail;refine(slices_Sort_string w.heap.size 0 wordsRaw.length wordsRaw _ (OT w) Ae En).mono ?_;exact Ys
end Go.Proofs.YtmcajbhljbbglaaGreatDoor
