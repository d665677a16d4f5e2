/-
  Contracts of the parser: prim; and the whole of expr, by the fuel. The whole of expr, by the fuel. run: a rule of the grammar under a deferred recover. The words of statements; the package variables t
-/
import Derived.Test.YtgjdhajcnechdaaGreatDoorSw13
import Derived.Lib.SmallJoins
import Derived.Test.YtgjdhajcnechdaaGreatDoorSw03
import Derived.Defers
import Derived.Recover
import Derived.Lib.ItoaMem
set_option linter.all false
set_option maxRecDepth 100000
set_option maxHeartbeats 8000000
namespace Go.Proofs.YtgjdhajcnechdaaGreatDoor
open Go.Proofs.Tryz
open Go.RowKit
section
variable {b:Nat}{tv wv:Value}{l:List Tok}{wl:List Bs}
structure Du(day:Bs→Int)(l:List Tok):Prop where
 short:CD l
 num:∀i,(Ab l i).kind=1→(Ab l i).text.length≤18∧Lib.atoi (Ab l i).text=some (As (Ab l i).text)
 date:∀i,(Ab l i).kind=3→∀w,Calls Tryz.prog 241 #[str (Ab l i).text] w fun e w'=>(∃v,e= .returned (.tuple #[.int .i64 (day (Ab l i).text),v]))∧w.grownBy w' none
theorem Par.goA{w:World}{i:Nat}(h:Par w b tv wv l wl i)(hi:i<l.length)(o:Obj):Par ((w.setCell ⟨b,1,none⟩ (.int .i64 (i+1))).alloc o) b tv wv l wl (i+1):=(h.goI _ _ (by omega) (by omega)).alloc o
theorem Qo{day:Bs→Int}{E:Nat→Res Ex}(hE:CE 67 b tv wv l wl E)(hgo:Ej E)(hl:Du day l)(n:Nat):CE 278 b tv wv l wl (Bd l day E n):=by
 intro w i hp ho;have hb:=hp.lt;have gr:w.grownBy (w.alloc (.cells zeroE.toArray 27 (0,0))) (some b):=Ad (Ac _ _) _;have hz:=Blk.new w zeroE 27;replace hp:=hp.alloc (.cells zeroE.toArray 27 (0,0));have H:=O (Z hE (Z hgo (Z hl ho)));generalize hR:Bd l day E n i=R at*;have HQ:=O hR;rw[Bd]at HQ;clear hE hgo ho hR;have hnum:=hl.num i;have hdate:=hl.date i;have hilt:=fun h=>@DM l i h;go_enter func278,ntmps278;go_wp2_with fail;refine(Cl hp).mono ?_;rintro e w1 ⟨rfl,g⟩;generalize Ab l i=t at*;obtain⟨kd,ps,tx⟩:=t;simp only at HQ hnum hdate hilt;replace hz:=hz.gb g (by simp);replace gr:=Ag gr g;replace hp:=hp.gbN g;clear g hl;have hs0:=hz.lt;have hb1:=hp.lt;have c1:=hp.c1;have f1:=hp.f1;have hf:=hp.few;by_cases h1:kd=1
 ·subst h1;have hi:=hilt (by decide);obtain⟨hn1,hn2⟩:=hnum rfl;have HN:=O hn2;clear hn2 hnum hdate hilt;simp only[BEq.rfl,if_true]at HQ;have HP:=O (hp.goA hi (.cells [.int .i64 1,.int .i64 ps,str tx].toArray 105 (0,0)));go_wp2_with fail;refine(strconv_Atoi ⟨tx.toArray⟩ (As tx) hn1 HN.out _).mono ?_;rintro e w2 ⟨rfl,t',e2⟩;have g2:=LG (Go.Joins.below_bytesWorld _ ((w1.setCell ⟨b,1,none⟩ (.int .i64 (i+1))).alloc (.cells [.int .i64 1,.int .i64 ps,str tx].toArray 105 (0,0))) 5 t' (Nat.le_refl _));replace e2:w2=_:=e2;rw[←e2]at g2;have g02:w1.grownBy w2 (some b):=Ag (Ad (Az (Ac _ _) _ _ (.inl rfl)) _) g2;replace gr:=Aa gr g02;replace hz:=hz.gb g02 (by simp;omega);replace hp:=HP.out.gbN g2;have hs2:=g02.size;clear e2 g2 g02 HP c1 f1;go_wp2_with fail;refine(MQ _ _).mono ?_;rintro e w3 ⟨rfl,g3⟩;replace hz:=hz.gb g3 (by simp);replace gr:=Ag gr g3;replace hp:=hp.gbN g3;clear g3;obtain⟨cz_0,cz_1,cz_2,cz_3,cz_4,cz_5,cz_6,cz_f⟩:=(hz).c7;go_wp2;exact bodyPost_ret (Al (hd:=(A0 2 (As tx) []:Ex).h) (pv:= .slice none 0 0) (lv:= .slice none 0 0) rfl _ (hz.set7 _ _ _ _ _ _ _) rfl) rfl (Bj (ok:=fun k=>w.heap.size<k) (x:=A0 2 (As tx) []) hb HQ.out.symm gr ⟨none,0,none,0,rfl,Cells.nil _ _ _,RepL.nil _ _⟩ (fun k hk=>hk) hp (Ah _ _ _ _ _ _ _ _ _))
 by_cases h2:kd=2
 ·subst h2;have hi:=hilt (by decide);clear hnum hdate hilt h1;simp only[Int.reduceBEq,Bool.false_eq_true,if_false,if_true]at HQ;by_cases h3:tx.length>2048
  ·rw[if_pos h3]at HQ;replace hp:=hp.alloc (.cells [.int .i64 2,.int .i64 ps,str tx].toArray 105 (0,0));replace gr:=Ad gr (.cells [.int .i64 2,.int .i64 ps,str tx].toArray 105 (0,0));go_wp2_with fail;refine(DI hp.c1).mono ?_;rintro e w9 ⟨rfl,rfl⟩;exact⟨rfl,Post.bad gr HQ.out.symm⟩
  ·rw[if_neg h3]at HQ;have gW:=AH (Ac w1 (some b)) 1 (.int .i64 (i+1));have hp1:=hp.goI (i+1) (i+1) rfl (by omega);have hz1:=hz.gb gW (by simp;omega);obtain⟨cz_0,cz_1,cz_2,cz_3,cz_4,cz_5,cz_6,cz_f⟩:=(hz).c7;go_wp2;exact bodyPost_ret (Al (hd:=(A0 4 0 tx).h) (pv:= .slice none 0 0) (lv:= .slice none 0 0) rfl _ ((hz1.set7 _ _ _ _ _ _ _).alloc _) rfl) rfl (Bj (ok:=fun k=>w.heap.size<k) (x:=A0 4 0 tx) hb HQ.out.symm (Aa gr gW) ⟨none,0,none,0,rfl,Cells.nil _ _ _,RepL.nil _ _⟩ (fun k hk=>hk) hp1 (Ad (Ah _ _ _ _ _ _ _ _ _) _))
 by_cases h3:kd=3
 ·subst h3;have hi:=hilt (by decide);have HD:=O (hdate rfl);clear hnum hdate hilt h1 h2;simp only[Int.reduceBEq,Bool.false_eq_true,if_false,if_true]at HQ;have HP:=O (hp.goA hi (.cells [.int .i64 3,.int .i64 ps,str tx].toArray 105 (0,0)));have g02:w1.grownBy ((w1.setCell ⟨b,1,none⟩ (.int .i64 (i+1))).alloc (.cells [.int .i64 3,.int .i64 ps,str tx].toArray 105 (0,0))) (some b):=Ad (Az (Ac _ _) _ _ (.inl rfl)) _;go_wp2_with fail;refine(HD.out _).mono ?_;rintro e w2 ⟨⟨v,rfl⟩,g2⟩;replace g02:=Ag g02 g2;replace gr:=Aa gr g02;replace hz:=hz.gb g02 (by simp;omega);replace hp:=HP.out.gbN g2;clear g2 g02 HP c1 f1;obtain⟨cz_0,cz_1,cz_2,cz_3,cz_4,cz_5,cz_6,cz_f⟩:=(hz).c7;go_wp2;exact bodyPost_ret (Al (hd:=(A0 3 (day tx) []:Ex).h) (pv:= .slice none 0 0) (lv:= .slice none 0 0) rfl _ (hz.set7 _ _ _ _ _ _ _) rfl) rfl (Bj (ok:=fun k=>w.heap.size<k) (x:=A0 3 (day tx) []) hb HQ.out.symm gr ⟨none,0,none,0,rfl,Cells.nil _ _ _,RepL.nil _ _⟩ (fun k hk=>hk) hp (Ah _ _ _ _ _ _ _ _ _))
 have hd1:(kd==1)=false:=by simpa using h1
 have hd2:(kd==2)=false:=by simpa using h2
 have hd3:(kd==3)=false:=by simpa using h3
 simp only[hd1,hd2,hd3,Bool.false_eq_true,if_false]at HQ;replace hp:=hp.alloc (.cells [.int .i64 kd,.int .i64 ps,str tx].toArray 105 (0,0));replace gr:=Ad gr (.cells [.int .i64 kd,.int .i64 ps,str tx].toArray 105 (0,0));replace hz:=hz.alloc (.cells [.int .i64 kd,.int .i64 ps,str tx].toArray 105 (0,0));have hlz:=hz.lt;by_cases h0:kd=0
 ·subst h0;simp only[BEq.rfl,if_true]at HQ;clear hd1 hd2 hd3 h1 h2 h3 hnum hdate hilt;go_wp2_with fail;refine(Po H.out.1 H.out.2.1 H.out.2.2.1.short n _ _ hp (fun e=>H.out.2.2.2 (by rw[←HQ.out,e]))).mono ?_;intro e w3 hq;obtain⟨g,⟨q,hr,rfl⟩| ⟨x,j,v,hr,rfl,⟨pa,pc,la,lc,rfl,rp,rl⟩,hp⟩⟩:=hq.split
  ·exact⟨rfl,Post.bad (Aa gr g) (by rw[←HQ.out,hr])⟩
  replace gr:=Aa gr g;replace HQ:=HQr HQ (by rw[hr]);clear hr;replace hz:=hz.gb g (by simp;omega);obtain⟨cz_0,cz_1,cz_2,cz_3,cz_4,cz_5,cz_6,cz_f⟩:=(hz).c7;have HV:=O (Z rp rl);clear rp rl g;go_wp2;exact bodyPost_ret (Al rfl _ (hz.set7 _ _ _ _ _ _ _) rfl) rfl (Bj hb HQ.out.symm gr ⟨_,_,_,_,rfl,HV.out.1,HV.out.2⟩ (by intro k hk;have:_≤k:=hk;omega) hp (Ah _ _ _ _ _ _ _ _ _))
 have hd0:(kd==0)=false:=by simpa using h0
 simp only[hd0,Bool.false_eq_true,if_false]at HQ;clear hnum hdate hilt;go_wp2_with fail;refine(Ok H.out.1 H.out.2.1 H.out.2.2.1.short n _ _ hp (fun e=>H.out.2.2.2 (by rw[←HQ.out,e]))).mono ?_;intro e w3 hq;obtain⟨g,⟨q,hr,rfl⟩| ⟨x,j,v,hr,rfl,⟨pa,pc,la,lc,rfl,rp,rl⟩,hp⟩⟩:=hq.split
 ·exact⟨rfl,Post.bad (Aa gr g) (by rw[←HQ.out,hr])⟩
 replace gr:=Aa gr g;replace HQ:=HQr HQ (by rw[hr]);clear hr;replace hz:=hz.gb g (by simp;omega);obtain⟨cz_0,cz_1,cz_2,cz_3,cz_4,cz_5,cz_6,cz_f⟩:=(hz).c7;have HV:=O (Z rp rl);clear rp rl g;go_wp2;exact bodyPost_ret (Al rfl _ (hz.set7 _ _ _ _ _ _ _) rfl) rfl (Bj hb HQ.out.symm gr ⟨_,_,_,_,rfl,HV.out.1,HV.out.2⟩ (by intro k hk;have:_≤k:=hk;omega) hp (Ah _ _ _ _ _ _ _ _ _))
end
theorem OZ(l:List Tok)(day:Bs→Int)(n:Nat):Ej (AB l day n):=by
 intro i x j h;have:=Gs (l:=l) day n i;rw[h]at this;exact this.1
theorem Jp{b:Nat}{tv wv:Value}{l:List Tok}{wl:List Bs}{day:Bs→Int}(hl:Du day l):∀n,CE 67 b tv wv l wl (AB l day n):=by
 intro n;induction n with
 |zero=>intro w i h ho;exact absurd rfl ho
 | succ n ih=>
   have hp:=Qo ih (OZ l day n) hl n;have hu:=Qh ih hp n;have hw:=SG hu n;exact PH (Sz (sumf:=CJ l n _) (SS hw n) n) n
theorem Lj(i:Int)(w:World):(binOp .neq 20 (.iface 148 (.agg #[.int .i64 i])) .nilIface).run Tryz.prog w= .ok (.bool true) w:=by kernel_rfl
theorem Li(w:World):(binOp .neq 20 .nilIface .nilIface).run Tryz.prog w= .ok (.bool false) w:=by kernel_rfl
theorem Np(p:Addr)(w:World):
 CallsD Tryz.prog 105 #[.pointer (some p)] .returning w fun e u' w'=>e= .returned (.tuple #[])∧u'= .returning∧w'=w:=by
 have hnn:=Li;refine callsD_of_wpS func105 rfl fun c₀ cs hu=>?_;apply wpS_seq;apply wpS_region;simp[wpOpsS,go_sem,recoverD,hu,hnn,ntmps105,Exit.thenS];apply wpS_seq;apply wpS_region;simp[wpOpsS,go_sem,hnn,Exit.thenS];refine wpS_cond (t:=false) (by simp[Act.eval,Array.replicate]) ?_;simp only[Bool.false_eq_true,if_false];refine wpS_of_wp (wp_skip ?_);cases c₀;simp_all [bodyPostS,results,results105]
theorem Mg(i:Int)(w:World):(Instr.typeAssert (.iface 148 (.agg #[.int .i64 i])) 20 148 true).run Tryz.prog w= .ok (.tuple #[.agg #[.int .i64 i],.bool true]) w:=by kernel_rfl
theorem Iy{k:Nat}{i:Int}{x:Value}{w:World}(hc:w.cell? ⟨k,0,none⟩=some x)(hz:w.frozen? ⟨k,0,none⟩=false):
 CallsD Tryz.prog 105 #[.pointer (some ⟨k,0,none⟩)] (.panicking [{v:= .iface 148 (.agg #[.int .i64 i]),recovered:=false}]) w fun e u' w'=>
  e= .returned (.tuple #[])∧u'= .panicking [{v:= .iface 148 (.agg #[.int .i64 i]),recovered:=true}]∧w'=(w.setCell ⟨k,0,none⟩ (.int .i64 i)).alloc (.cells #[.int .i64 i] 148 (0,0)):=by
 have hnn:=Lj i;have hk:=World.block_lt_of_cell? w _ hc;refine callsD_of_wpS func105 rfl fun c₀ cs hu=>?_;simp only[ntmps105,List.size_toArray,List.length_cons,List.length_nil,Nat.reduceAdd,Nat.reduceSub,Array.replicate_succ,Array.replicate_zero,List.push_toArray,List.append_toArray,List.nil_append,List.cons_append];apply wpS_seq;apply wpS_region;simp[wpOpsS,go_sem,recoverD,hu,hnn,ntmps105,Exit.thenS];apply wpS_seq;apply wpS_region;simp[wpOpsS,go_sem,hnn,Exit.thenS];refine wpS_cond (t:=true) (by simp[Act.eval,Array.replicate]) ?_;simp only[if_true];refine wpS_of_wp ?_;have hta:=Mg i;go_wp2;exact⟨rfl,_,rfl,_,by simp[results,results105,go_sem],rfl,rfl,rfl⟩
open Go.Sort
def wordsText:Bs:=[80,82,79,67,69,68,85,82,69,32,70,85,78,67,84,73,79,78,32,76,79,67,65,76,32,80,82,73,86,65,84,69,32,80,85,66,76,73,67,32,83,84,65,84,73,67,32,73,70,32,69,76,83,69,73,70,32,69,76,83,69,32,69,78,68,73,70,32,68,79,32,67,65,83,69,32,79,84,72,69,82,87,73,83,69,32,69,78,68,67,65,83,69,32,87,72,73,76,69,32,69,78,68,68,79,32,70,79,82,32,84,79,32,83,84,69,80,32,78,69,88,84,32,76,79,79,80,32,69,88,73,84,32,82,69,84,85,82,78,32,87,73,84,72,32,66,82,69,65,75,32,66,69,71,73,78,32,83,69,81,85,69,78,67,69,32,82,69,67,79,86,69,82,32,85,83,73,78,71,32,69,78,68,32,83,69,76,69,67,84,32,85,83,69,32,65,76,73,65,83,32,71,79,32,84,79,80,32,66,79,84,84,79,77,32,83,75,73,80,32,83,69,69,75,32,76,79,67,65,84,69,32,67,79,78,84,73,78,85,69,32,82,69,80,76,65,67,69,32,68,69,76,69,84,69,32,82,69,67,65,76,76,32,65,80,80,69,78,68,32,66,76,65,78,75,32,80,65,67,75,32,90,65,80,32,67,79,85,78,84,32,83,85,77,32,73,78,68,69,88,32,79,78,32,84,65,71,32,85,78,73,81,85,69,32,67,65,78,68,73,68,65,84,69,32,68,69,83,67,69,78,68,73,78,71,32,83,69,84,32,79,82,68,69,82,32,70,73,76,84,69,82,32,82,69,76,65,84,73,79,78,32,73,78,84,79,32,69,88,65,67,84,32,68,69,76,69,84,69,68,32,79,70,70,32,65,76,76,32,82,69,83,84,32,82,69,67,79,82,68]
def wordsRaw:List Bs:=[[80,82,79,67,69,68,85,82,69],[70,85,78,67,84,73,79,78],[76,79,67,65,76],[80,82,73,86,65,84,69],[80,85,66,76,73,67],[83,84,65,84,73,67],[73,70],[69,76,83,69,73,70],[69,76,83,69],[69,78,68,73,70],[68,79],[67,65,83,69],[79,84,72,69,82,87,73,83,69],[69,78,68,67,65,83,69],[87,72,73,76,69],[69,78,68,68,79],[70,79,82],[84,79],[83,84,69,80],[78,69,88,84],[76,79,79,80],[69,88,73,84],[82,69,84,85,82,78],[87,73,84,72],[66,82,69,65,75],[66,69,71,73,78],[83,69,81,85,69,78,67,69],[82,69,67,79,86,69,82],[85,83,73,78,71],[69,78,68],[83,69,76,69,67,84],[85,83,69],[65,76,73,65,83],[71,79],[84,79,80],[66,79,84,84,79,77],[83,75,73,80],[83,69,69,75],[76,79,67,65,84,69],[67,79,78,84,73,78,85,69],[82,69,80,76,65,67,69],[68,69,76,69,84,69],[82,69,67,65,76,76],[65,80,80,69,78,68],[66,76,65,78,75],[80,65,67,75],[90,65,80],[67,79,85,78,84],[83,85,77],[73,78,68,69,88],[79,78],[84,65,71],[85,78,73,81,85,69],[67,65,78,68,73,68,65,84,69],[68,69,83,67,69,78,68,73,78,71],[83,69,84],[79,82,68,69,82],[70,73,76,84,69,82],[82,69,76,65,84,73,79,78],[73,78,84,79],[69,88,65,67,84],[68,69,76,69,84,69,68],[79,70,70],[65,76,76],[82,69,83,84],[82,69,67,79,82,68]]
def wordsL:List Bs:=[[65,76,73,65,83],[65,76,76],[65,80,80,69,78,68],[66,69,71,73,78],[66,76,65,78,75],[66,79,84,84,79,77],[66,82,69,65,75],[67,65,78,68,73,68,65,84,69],[67,65,83,69],[67,79,78,84,73,78,85,69],[67,79,85,78,84],[68,69,76,69,84,69],[68,69,76,69,84,69,68],[68,69,83,67,69,78,68,73,78,71],[68,79],[69,76,83,69],[69,76,83,69,73,70],[69,78,68],[69,78,68,67,65,83,69],[69,78,68,68,79],[69,78,68,73,70],[69,88,65,67,84],[69,88,73,84],[70,73,76,84,69,82],[70,79,82],[70,85,78,67,84,73,79,78],[71,79],[73,70],[73,78,68,69,88],[73,78,84,79],[76,79,67,65,76],[76,79,67,65,84,69],[76,79,79,80],[78,69,88,84],[79,70,70],[79,78],[79,82,68,69,82],[79,84,72,69,82,87,73,83,69],[80,65,67,75],[80,82,73,86,65,84,69],[80,82,79,67,69,68,85,82,69],[80,85,66,76,73,67],[82,69,67,65,76,76],[82,69,67,79,82,68],[82,69,67,79,86,69,82],[82,69,76,65,84,73,79,78],[82,69,80,76,65,67,69],[82,69,83,84],[82,69,84,85,82,78],[83,69,69,75],[83,69,76,69,67,84],[83,69,81,85,69,78,67,69],[83,69,84],[83,75,73,80],[83,84,65,84,73,67],[83,84,69,80],[83,85,77],[84,65,71],[84,79],[84,79,80],[85,78,73,81,85,69],[85,83,69],[85,83,73,78,71],[87,72,73,76,69],[87,73,84,72],[90,65,80]]
theorem Mc:Lib.fields wordsText=wordsRaw:=by decide+kernel
theorem Md:(wordsRaw.mergeSort fun x y=>decide (x≤y))=wordsL:=by
 refine List.Perm.eq_of_pairwise (le:=fun x y=>decide (x≤y)=true) ?_ (List.pairwise_mergeSort ?_ ?_ _) ?_ ((List.mergeSort_perm _ _).trans ?_)
 ·intro a b _ _ h1 h2;exact List.le_antisymm (by simpa using h1) (by simpa using h2)
 ·intro a b c h1 h2;simp only[decide_eq_true_eq]at*;exact List.le_trans h1 h2
 ·intro a b;simp only[Bool.or_eq_true,decide_eq_true_eq];exact List.le_total a b
 ·decide+kernel
 ·exact List.isPerm_iff.1 (by decide+kernel)
theorem MB:wordsText.all (fun b=>decide (b.toNat<128))=true:=by decide+kernel
def Glob (w : World) : Prop := Lib.TabIs Tryz.prog w "strings.asciiSpace" .u8 Lib.asciiSpaceTab
theorem EZ : Tryz.prog.globalNamed "strings.asciiSpace" = some 0 := by kernel_rfl
theorem Glob.gb{w w1:World}{r:Option Nat}(h:Glob w)(g:w.grownBy w1 r)(hr:some 0≠r):Glob w1:=by
 unfold Glob Lib.TabIs World.var? at*;simp only[EZ,Option.bind_some]at h ⊢;have hlt:0<w.heap.size:=by
  rcases Nat.lt_or_ge 0 w.heap.size with h' |h'
  ·exact h'
  ·rw[Array.getElem?_eq_none h']at h;simp at h
 rw[g.block _ hlt hr];exact h
theorem I6(w:World):Holds encStr (w.alloc (.cells (wordsRaw.map fun l=>Value.string ⟨l.toArray⟩).toArray 9 (0,0))) w.heap.size 0 wordsRaw.toArray:=by
 intro j hj;have hB:=Blk.new w (wordsRaw.map fun l=>Value.string ⟨l.toArray⟩) 9;refine⟨?_,hB.frozen _⟩;rw[hB.cell];simp at hj;simp[encStr,hj]
theorem LJ(w:World)(n:Nat):Holds encStr (Sort.ahead (w.alloc (.cells (wordsRaw.map fun(l:Bs)=>Value.string ⟨l.toArray⟩).toArray 9 (0,0))) n) w.heap.size 0 wordsRaw.toArray:=I6 w
theorem PU{w:World}{g n:Nat}{os:Array Obj}(d:Array (List UInt8)):w.grownBy (grow (putRow encStr (Sort.ahead w n) g 0 d) os) (some g):=by
 refine⟨rfl,rfl,rfl,by simp,fun k hk hne=>?_⟩;rw[heap_grow_old _ _ (by simpa using hk)];have:g≠k:=fun e=>hne (by rw[e]);simp[putRow,mapBlock,Sort.ahead,Array.getElem?_modify,this]
theorem Pu{w:World}(hg:Glob w):Calls Tryz.prog 106 #[] w fun e w'=>∃wv,e= .returned wv∧SRow w' wv wordsL (A8 w.heap.size)∧w.grownBy w' none:=by
 go_enter func106,ntmps106;go_wp2_with fail;refine(strings_Fields ⟨wordsText.toArray⟩ w (by decide+kernel) ?_ hg).mono ?_
 ·intro j b hb;have:=List.all_eq_true.1 MB b (by
   have:wordsText[j]? =some b:=hb;exact List.mem_of_getElem? this)
  simpa using this
 rintro e w1 ⟨rfl,rfl⟩;rw[show(Lib.fields (ByteArray.mk wordsText.toArray).data.toList)=wordsRaw from Mc];go_wp2_with fail;refine(slices_Sort_string w.heap.size 0 wordsRaw.length wordsRaw _ (I6 w) (by simp) (by decide+kernel)).mono ?_;rintro e w2 ⟨rfl,n,os,rfl⟩;rw[Md];go_wp2;go_ret;have hA:=World.grownBy_alloc w (.cells (wordsRaw.map fun l=>Value.string ⟨l.toArray⟩).toArray 9 (0,0)) none;have hS:=PU (os:=os) (n:=n) (w:=w.alloc (.cells (wordsRaw.map fun l=>Value.string ⟨l.toArray⟩).toArray 9 (0,0))) (g:=w.heap.size) wordsL.toArray;refine⟨_,rfl,⟨_,_,rfl,Nat.le_refl _,by decide,fun j hj=>⟨w.heap.size,0,rfl,Nat.le_refl _,?_⟩⟩,?_⟩
 ·have hc:=cell?_putRow encStr _ w.heap.size 0 wordsRaw.toArray wordsL.toArray (LJ w n) (by decide) j (by simpa using hj);have hlt:=World.block_lt_of_cell? _ _ hc;have hb:∀(W:World) os (k:Nat) a,k<W.heap.size→(grow W os).cell? ⟨k,a,none⟩=W.cell? ⟨k,a,none⟩:=fun W os k a h=>by
   unfold World.cell?;rw[heap_grow_old _ _ h]
  rw[hb _ _ _ _ hlt,hc];simp[encStr,List.getD_eq_getElem?_getD,hj]
 ·refine⟨hS.os.trans hA.os,hS.tape.trans hA.tape,hS.output.trans hA.output,Nat.le_trans hA.size hS.size,fun k hk _=>?_⟩;rw[hS.block k (by simp;omega) (by simp;omega)];exact hA.block k hk (by simp)
end Go.Proofs.YtgjdhajcnechdaaGreatDoor
