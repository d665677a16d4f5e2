/-
  Plain laws: where tokens stand does not matter to the grammar of expressions. Plain laws: what ParseExpr gives at the text of an expression that is right: the expression, or that the text is too large
-/
import Derived.Test.YtgjdhajcnechdaaGreatDoorSb22
import Derived.Test.YtgjdhajcnechdaaGreatDoorSb18
import Derived.Test.YtgjdhajcnechdaaGreatDoorSb19
import Derived.Maps.Own
import Derived.Test.YtgjdhajcnechdaaGreatDoorSb10
import Derived.Test.YtgjdhajcnechdaaGreatDoorSb21
import Derived.Test.YtgjdhajcnechdaaGreatDoorSb12
import Derived.Lib.LaidU8
import Derived.Lib.LaidCase
import Derived.Lib.LaidTab
import Derived.PinnedBridge
import Derived.Test.YtgjdhajcnechdaaGreatDoorSb02
import Derived.OpenShut
import Derived.SliceStrings
set_option linter.all false
set_option maxRecDepth 100000
set_option maxHeartbeats 8000000
namespace Go.Proofs.YtgjdhajcnechdaaGreatDoor
open Go.Proofs.Tryz
structure SameK(l m:List Tok):Prop where
 k:∀i,(Z l i).kind=(Z m i).kind
 t:∀i,(Z l i).text=(Z m i).text
section
variable {l m:List Tok}
theorem SameK.sign(h:SameK l m)(i:Nat)(s:Bs):Ad (Z l i) s=Ad (Z m i) s:=by unfold Ad;rw[h.k,h.t]
theorem SameK.oper(h:SameK l m)(k i:Nat):As l k i=As m k i:=by unfold As;rw[h.k,h.t]
theorem SameK.want(h:SameK l m)(s:Bs)(i:Nat):A8 l s i=A8 m s i:=by unfold A8;rw[h.sign]
theorem SameK.name(h:SameK l m)(i:Nat):AM l i=AM m i:=by unfold AM;rw[h.k,h.t]
theorem Bh{α β:Type}{r:Res α}{f g:α→Nat→Res β}(h:∀a i,f a i=g a i):r.bind f=r.bind g:=by
 rw[show f=g from funext fun a=>funext fun i=>h a i]
theorem SameK.joinLoop(h:SameK l m)(k:Nat)(E:Nat→Res Ex):∀n x i,joinLoop l k E n x i=Proofs.YtgjdhajcnechdaaGreatDoor.joinLoop m k E n x i:=by
 intro n;induction n with
 |zero=>intro x i;rfl
 | succ n ih=>
   intro x i;unfold Proofs.YtgjdhajcnechdaaGreatDoor.joinLoop;rw[h.oper];split
   ·rfl
   ·exact Bh fun y j=>ih _ _
theorem SameK.join(h:SameK l m)(k n:Nat)(E:Nat→Res Ex)(i:Nat):A0 l k n E i=A0 m k n E i:=Bh fun x j=>h.joinLoop k E n x j
theorem SameK.not(h:SameK l m)(E:Nat→Res Ex):∀n i,AL l E n i=AL m E n i:=by
 intro n;induction n with
 |zero=>intro i;rfl
 | succ n ih=>
   intro i;unfold AL;rw[h.sign,h.sign];split
   ·rw[ih]
   ·refine Bh fun x j=>?_;rw[h.oper]
theorem SameK.pow(h:SameK l m)(E:Nat→Res Ex):∀n i,AI l E n i=AI m E n i:=by
 intro n;induction n with
 |zero=>intro i;rfl
 | succ n ih=>
   intro i;unfold AI;refine Bh fun x j=>?_;rw[h.oper,ih]
theorem SameK.idx(h:SameK l m)(E:Nat→Res Ex):∀n x i,Br l E n x i=Br m E n x i:=by
 intro n;induction n with
 |zero=>intro x i;rfl
 | succ n ih=>
   intro x i;unfold Br;rw[h.sign];split
   ·refine Bh fun y j=>?_;rw[h.want];exact Bh fun _ k=>ih _ _
   ·rfl
theorem SameK.unary(h:SameK l m)(E P:Nat→Res Ex):∀n i,AQ l E P n i=AQ m E P n i:=by
 intro n;induction n with
 |zero=>intro i;rfl
 | succ n ih=>
   intro i;unfold AQ;rw[h.sign,ih];split
   ·rfl
   ·exact Bh fun x j=>h.idx E n x j
theorem SameK.listLoop(h:SameK l m)(E:Nat→Res Ex):∀n f i,listLoop l E n f i=Proofs.YtgjdhajcnechdaaGreatDoor.listLoop m E n f i:=by
 intro n;induction n with
 |zero=>intro f i;rfl
 | succ n ih=>
   intro f i;unfold Proofs.YtgjdhajcnechdaaGreatDoor.listLoop;rw[h.sign];split
   ·exact Bh fun y j=>ih _ _
   ·rfl
theorem SameK.list(h:SameK l m)(E:Nat→Res Ex)(n i:Nat):BN l E n i=BN m E n i:=Bh fun x j=>h.listLoop E n _ j
theorem SameK.namesLoop(h:SameK l m):∀n f i,namesLoop l n f i=Proofs.YtgjdhajcnechdaaGreatDoor.namesLoop m n f i:=by
 intro n;induction n with
 |zero=>intro f i;rfl
 | succ n ih=>
   intro f i;unfold Proofs.YtgjdhajcnechdaaGreatDoor.namesLoop;rw[h.sign,h.name];split
   ·exact Bh fun y j=>ih _ _
   ·rfl
theorem SameK.names(h:SameK l m)(n i:Nat):B7 l n i=B7 m n i:=by
 unfold B7;rw[h.name];exact Bh fun x j=>h.namesLoop n _ j
theorem SameK.call(h:SameK l m)(E:Nat→Res Ex)(n i:Nat):BT l E n i=BT m E n i:=by
 unfold BT;rw[h.name];refine Bh fun s j=>?_;rw[h.want];refine Bh fun _ j=>?_;rw[h.sign,h.list];split
 ·rfl
 ·exact Bh fun f k=>by rw[h.want]
theorem SameK.mcr(h:SameK l m)(E:Nat→Res Ex)(i:Nat):BO l E i=BO m E i:=by
 unfold BO;rw[h.want];refine Bh fun _ i=>?_;rw[h.sign,h.name];split
 ·exact Bh fun x j=>by rw[h.want]
 ·exact Bh fun s j=>by rw[h.sign]
theorem SameK.braced(h:SameK l m)(E:Nat→Res Ex)(n i:Nat):BJ l E n i=BJ m E n i:=by
 unfold BJ;rw[h.sign,h.sign,h.names,h.list];have e1:∀(j:Nat)(p:List Bs),((A8 l [124] j).bind fun _ j=>Res.ok p j)=((A8 m [124] j).bind fun _ j=>Res.ok p j):=fun j p=>by rw[h.want]
 have e2:((B7 m n (i+1)).bind fun p j=>(A8 l [124] j).bind fun _ j=>Res.ok p j)=((B7 m n (i+1)).bind fun p j=>(A8 m [124] j).bind fun _ j=>Res.ok p j):=Bh fun p j=>e1 j p;rw[e2];split
 ·exact Bh fun p j=>Bh fun x j=>by rw[h.want]
 ·exact Bh fun f j=>by rw[h.want]
theorem SameK.signed(h:SameK l m)(E:Nat→Res Ex)(n i:Nat):By l E n i=By m E n i:=by
 unfold By;rw[h.sign,h.sign,h.sign,h.sign,h.sign,h.sign,h.sign,h.mcr,h.braced,h.name];have e1:((E (i+1)).bind fun x j=>(A8 l [41] j).bind fun _ j=>Res.ok x j)=((E (i+1)).bind fun x j=>(A8 m [41] j).bind fun _ j=>Res.ok x j):=Bh fun x j=>by rw[h.want]
 rw[e1]
theorem SameK.named(h:SameK l m)(E:Nat→Res Ex)(n i:Nat):B6 l E n i=B6 m E n i:=by
 unfold B6;rw[h.sign,h.call,h.name];split
 ·rfl
 ·refine Bh fun s j=>?_;rw[h.sign,h.sign,h.name];have e1:((E (j+2)).bind fun x k=>(A8 l [41] k).bind fun _ k=>Res.ok (⟨hd0 2 s,.one x⟩:Ex) k)=((E (j+2)).bind fun x k=>(A8 m [41] k).bind fun _ k=>Res.ok (⟨hd0 2 s,.one x⟩:Ex) k):=Bh fun x k=>by rw[h.want]
  rw[e1]
theorem SameK.prim(h:SameK l m)(day:Bs→Int)(E:Nat→Res Ex)(n i:Nat):AG l day E n i=AG m day E n i:=by
 unfold AG;rw[h.k,h.t,h.named,h.signed]
theorem SameK.expr(h:SameK l m)(day:Bs→Int):∀n i,Ap l day n i=Ap m day n i:=by
 intro n;induction n with
 |zero=>intro i;rfl
 | succ n ih=>
   intro i;have eE:Ap l day n=Ap m day n:=funext ih;unfold Ap;rw[eE];have eP:AG l day (Ap m day n) n=AG m day (Ap m day n) n:=funext fun i=>h.prim day _ n i;rw[eP];have eU:AQ l (Ap m day n) (AG m day (Ap m day n) n) n=AQ m (Ap m day n) (AG m day (Ap m day n) n) n:=funext fun i=>h.unary _ _ n i;rw[eU];generalize AQ m (Ap m day n) (AG m day (Ap m day n) n) n=U;have eW:AI l U n=AI m U n:=funext fun i=>h.pow _ n i;rw[eW];generalize AI m U n=W;have eS:BF l n W=BF m n W:=funext fun i=>by
    unfold BF;rw[show A0 l 4 n W=A0 m 4 n W from funext fun i=>h.join 4 n W i];exact h.join 3 n _ i
   rw[eS];generalize BF m n W=S;rw[show AL l S n=AL m S n from funext fun i=>h.not S n i];generalize AL m S n=T;rw[show A0 l 1 n T=A0 m 1 n T from funext fun i=>h.join 1 n T i];exact h.join 0 n _ i
end
theorem LN{a b:List Tok}(h:D2 a b):SameK a b:=by
 have hi:∀i:Nat,(a[i]?).map (fun t:Tok=>(t.kind,t.text))=(b[i]?).map (fun t:Tok=>(t.kind,t.text)):=by
  intro i;have:=congrArg (fun l:List (Int×Bs)=>l[i]?) h;simpa using this
 constructor
 ·intro i;have:=hi i;unfold Z;cases e1:a[i]? with
  | none=>cases e2:b[i]? with
    |none=>rfl
    |some d=>rw[e1,e2]at this;cases this
  | some c=>cases e2:b[i]? with
    |none=>rw[e1,e2]at this;cases this
    | some d=>
      rw[e1,e2]at this;simp at this;exact this.1
 ·intro i;have:=hi i;unfold Z;cases e1:a[i]? with
  | none=>cases e2:b[i]? with
    |none=>rfl
    |some d=>rw[e1,e2]at this;cases this
  | some c=>cases e2:b[i]? with
    |none=>rw[e1,e2]at this;cases this
    | some d=>
      rw[e1,e2]at this;simp at this;exact this.2
theorem K4{x:Ex}(ho:okX x=true):∃l,Cw (Aw wdM x)= .ok l∧1≤l.length∧(∀n,l.length+1<n→Ap l Bn n 0= .ok x (l.length-1))∧(Z l (l.length-1)).kind=5:=by
 obtain⟨t,l,e,hl,heq⟩:=I4 ho;obtain⟨t',s',e',hp,_⟩:=M7 (x:=x) wdM_ok.toC3 (by rw[GI];exact ho);have hlen:l.length=t.length+1:=by
  have:=congrArg List.length heq;simpa using this
 have hS:=LN heq;have hk:∀i,(Z l i).kind=(Z (t++[⟨5,0,[]⟩]) i).kind:=hS.k;have hend:Z (t++[⟨5,0,[]⟩]) t.length=⟨5,0,[]⟩:=by simp[Z]
 have hg:=(Gz wdM_ok.toC3 (.one x) (by rw[GI];exact ho)).1.ex;obtain⟨t2,s2,e2,_,hr,_⟩:=hg;have e3:some (t2,s2)=some (t,Aw wdM x):=e2.symm.trans e;cases e3;refine⟨l,hl,by omega,fun n hn=>?_,?_⟩
 ·rw[hS.expr];have:=hr (t++[⟨5,0,[]⟩]) n 0 (by omega) ⟨[⟨5,0,[]⟩],by simp⟩ (by rw[Nat.zero_add,hend];intro h4;exact absurd h4 (by decide));rw[this,hlen];congr 1;omega
 ·rw[hk,hlen,show t.length+1-1=t.length by omega,hend]
theorem MK{x:Ex}(ho:okX x=true)(hl:BK x.nodes x.levels=false):peM (Aw wdM x)= .no 0 3∨∃n,peM (Aw wdM x)= .ok x n:=by
 obtain⟨l,h1,h2,h3,h4⟩:=K4 ho;by_cases hs:4000<(Aw wdM x).length
 ·left;unfold peM Cx;rw[if_pos hs]
 by_cases hm:1200<l.length
 ·left;unfold peM Cx;rw[if_neg hs,h1];simp only;rw[if_pos hm]
 right;refine⟨l.length,?_⟩;unfold peM Cx;rw[if_neg hs,h1];simp only;rw[if_neg hm];simp only;have e:Dx l= .ok x l.length:=by
  unfold Dx Bt;rw[h3 _ (by omega),Res.bind_ok];unfold BZ;rw[h4,if_pos (by decide),Res.bind_ok];congr 1;omega
 unfold CS;rw[e];simp only;rw[if_neg (by omega),hl];rfl
open Go.RowKit Go.Maps Go.WideMaps Go.ChangeMaps Go.MapKept
theorem lawS:Keyed Tryz.prog 9:=string_keyed underlying9
theorem zeroB(w:World):(zeroValue 4).run Tryz.prog w= .ok (.bool false) w:=by kernel_rfl
theorem J8{w:World}{b:Nat}{s:Bs}{R:Value→Option (DataW Unit×List MemPlace)}(hs:s.length≤maxLen)(h:w.ownsMap Tryz.prog 9 R b 0 (.map [])):
 (Instr.lookup 125 (.map (some b)) (str s) false).run Tryz.prog w= .ok (.bool false) w:=by
 obtain⟨es,clock,hb,F,hn,hD⟩:=h;have he:es=#[]:=Array.eq_empty_of_size_eq_zero (by omega);subst he;rcases Maps.fit_look false lawS underlying125 (zeroB w) hb F (keyOf_string_mk (s:=⟨s.toArray⟩) underlying9 hs)with⟨h,_,_⟩| ⟨e0,y,_,_,_,_,hat,_⟩
 ·exact h
 ·have:=hat .nil;have h2:=hat (.lit (.bool true));rw[←this]at h2;cases h2
theorem I2{B:Nat}{w:World}{v:Value}{t x:Ex}(h:SetProg B w v t x):
 Calls Tryz.prog 50 #[v] w fun e w'=>e= .returned (.bool false)∧w.grownBy w' none:=by
 obtain⟨kP,bv,rfl,hB,hblk,hrow⟩:=h;obtain⟨G,cap,la,lc,e,_⟩:=hrow.open;subst e;have hmm:=@run_makeMap Tryz.prog;have HB:=I hblk;clear hblk hrow hB;go_enter func50,ntmps50;go_wp2_with fail;go_loopg [9] 1 (fun g v9 wr=>(g=1∧v9= .int .i64 0∧wr=w.alloc (.map #[] 0))∨(g=0∧v9= .int .i64 1∧w.grownBy wr none))
 case atStart=>exact .inl ⟨rfl,rfl,rfl⟩
 case round=>
  rcases hrel with⟨rfl,rfl,rfl⟩| ⟨rfl,rfl,hg⟩
  ·have g0:=World.grownBy_alloc w (.map #[] 0) none;have hbk:=HB.out.gb g0 (by simp);have z0:=hbk.cell 0;have z1:=hbk.cell 1;have z2:=hbk.cell 2;have z3:=hbk.cell 3;simp only[List.getElem?_cons_zero,List.getElem?_cons_succ]at z0 z1 z2 z3;have hgl:=hbk.lt;have HM:=I (World.ownsMap_made (H:=Unit) w Tryz.prog 9 (plainElem Tryz.prog 4));have hlk:=fun(W:World)(h:W.ownsMap Tryz.prog 9 (plainElem (H:=Unit) Tryz.prog 4) w.heap.size 0 (.map []))=>J8 (s:=mainL) (by decide) h;have hl1:=hlk _ (HM.out.alloc (.cells #[str mainL,.bool false,.slice none 0 0,.slice (some ⟨G,0,none⟩) 1 cap] 51 (0,0)));clear hbk hlk;have hkey:keyOf Tryz.prog 9 (str mainL)=some _:=keyOf_string_mk (s:=⟨mainL.toArray⟩) underlying9 (by decide);go_wp2_with (at_mapUpdate;refine wpList_mapUpdate_own _ rfl _ _ _ 125 rfl 9 4 lawS underlying125 (plainElem (H:=Unit) Tryz.prog 4) w.heap.size 0 _ rfl (HM.out.alloc _) (by unfold maxLen;omega) _ _ _ rfl rfl hkey _ [] (plainElem_bool underlying4 true) ?_;intro w1 hown1 hgrow1);have gwx:w.grownBy w1 none:=AN (Aa (World.grownBy_alloc w _ none) _) hgrow1 (.inr (Nat.le_refl _));clear hown1 hgrow1;go_roundg 0
   case measure=>omega
   case rel=>exact .inr ⟨rfl,rfl,gwx⟩
  ·have HG:=I hg;clear hg;go_wp2;go_ret;exact⟨rfl,HG.out⟩
def D5:Bs:=[105,102,32,61,32,49]
def Fb:Bs:=[97,45,62,98,32,43,32,49]
def toksIf:List Tok:=[⟨0,0,[73,70]⟩,⟨4,3,[61]⟩,⟨1,5,[49]⟩,⟨5,6,[]⟩]
theorem N8:Cx D5= .ok toksIf:=by kernel_rfl
def xAb:Ex:=AK [43] ⟨hd0 2 [65],.one (A1 [66])⟩ (A4 2 1 [])
theorem pe_ab:peM Fb= .ok xAb 6:=by kernel_rfl
def D8:Ex:=A4 2 1 []
theorem tg_if:CG toksIf (Ap toksIf Bn 10) 0= .ok (A1 [73,70]) 1:=by kernel_rfl
theorem ex_if:Ap toksIf Bn 10 2= .ok D8 3:=by kernel_rfl
theorem N5:BZ toksIf 3= .ok () 4:=by kernel_rfl
theorem JM{w:World}(hg:Glob w){tv:Value}(ht:TRow w tv toksIf (fun _=>True))(hl:C2 Bn toksIf):
 Calls Tryz.prog 49 #[tv] w fun e w'=>∃v,e= .returned (.tuple #[v,.int .i64 (-1)])∧SetProg w.heap.size w' v (A1 [73,70]) D8∧w.grownBy w' none:=
 Lz hg hl ht (by decide) 10 rfl (by decide) tg_if (by decide) ex_if N5 rfl
theorem LF{w:World}(ht:Tabs w.heap.size w):Calls Tryz.prog 23 #[str D5] w fun e w'=>∃v,e= .returned (.tuple #[v,.int .i64 4,.int .i64 0])∧SetProg w.heap.size w' v (A1 [73,70]) D8∧w.grownBy w' none:=by
 have HL:=I (FK ht D5 (by decide));have HT:=I ht;clear ht;generalize hsrc:D5=src at*;go_enter func23,ntmps23;go_wp2_with fail;refine HL.out.mono ?_;rintro e w1 ⟨g1,h1⟩;rw[←hsrc,N8]at h1;clear HL hsrc;obtain⟨v,rfl,hT,hTame,_⟩:=h1;obtain⟨ta,tc,rfl⟩:∃ta tc,v= .slice ta 4 tc:=by
  obtain⟨a,cap,e,_⟩:=hT;exact⟨a,cap,e⟩
 have HP:=I (JM (HT.out.gbN g1).glob (hT.mono fun _ _ _=>trivial) hTame);have HG:=I g1;have e4:((toksIf.length:Nat):Int)=4:=rfl;rw[e4];clear hT hTame g1 e4;go_wp2_with fail;refine HP.out.mono ?_;rintro e w2 ⟨v,rfl,hS,g2⟩;have HS:=I (X hS (O HG.out g2));have H1:=I (I2 hS);obtain⟨kP,bv,rfl,_⟩:=hS;clear g2;go_wp2_with fail;refine H1.out.mono ?_;rintro e w3 ⟨rfl,g3⟩;have H2:=I (IC (HS.out.1.gb g3 (by simp)) (by decide));go_wp2_with fail;refine H2.out.mono ?_;rintro e w4 ⟨rfl,g4⟩;go_wp2_with fail;refine(Eo _ _ _).mono ?_;rintro e w5 ⟨rfl,g5⟩;have hf:BK (1+(Fo.two (A1 [73,70]) D8).nodes) (1+(Fo.two (A1 [73,70]) D8).levels)=false:=by decide
 rw[hf];have HF:=I (X (SetProg.mono (((HS.out.1.gb g3 (by simp)).gb g4 (by simp)).gb g5 (by simp)) (by have h1:=HG.out.size;exact h1)) (O (O (O HS.out.2 g3) g4) g5));clear g3 g4 g5 hf;go_wp2;exact bodyPost_ret (v:= .tuple #[.slice (some ⟨kP,0,none⟩) 1 1,.int .i64 4,.int .i64 0]) (by simp[results,results23,go_sem]) rfl ⟨_,rfl,HF.out.1,HF.out.2⟩
def GS(w:World)(e:Ending)(w':World):Prop:=∃n:Int,e= .returned (.int .i64 n)∧w.grownBy w' none
def SomeB(w:World)(e:Ending)(w':World):Prop:=∃b:Bool,e= .returned (.bool b)∧w.grownBy w' none
theorem M8:∀(N:Nat)(f:Fo),f.wt<N→∀(ok:Nat→Prop)(la:Option Addr)(lc:Nat)(w:World),RepL ok w (.slice la f.len lc) f→
 Calls Tryz.prog 21 #[.slice la f.len lc] w (GS w):=by
 intro N;induction N with
 |zero=>intro f hN;omega
 | succ N ih=>
   intro f hN ok la lc w hf;obtain⟨cs,hc1,hr1⟩:=hf;obtain⟨_,_,e,hle,hmx,_,hc1⟩:=hc1;cases e;have hmax:f.len≤maxLen:=by omega
   unfold maxLen at hmax;clear hle hmx;have HC:=I (X hc1 ih);have HR:=I hr1;clear hc1 ih hr1;go_enter func21,ntmps21;go_wp2_with fail;go_loopg [3,4] f.len (fun g v3 v4 wr=>∃rf:Fo,∃k:Nat,∃n:Int,rf.len=g∧k+g=f.len∧v3= .int .i64 n∧v4= .int .i64 k∧rf.wt≤f.wt∧RepF ok w rf (cs.drop (k*7))∧w.grownBy wr none)
   case atStart=>exact⟨f,0,_,rfl,by omega,rfl,rfl,Nat.le_refl _,by simpa using HR.out,Ac _ _⟩
   case round=>
    obtain⟨rf,k,n,hn,hk,rfl,rfl,hno,hrf,hgr⟩:=hrel;clear HR;cases rf with
    | nil=>
      have hkI:decide (k<f.len)=false:=by simp[Fo.len]at hn;simp;omega
      have HG:=I hgr;clear hgr hn hrf;go_wp2;go_ret;exact⟨_,rfl,HG.out⟩
    | cons h1 k1 n1=>
      simp only[Fo.len]at hn;simp only[Fo.wt]at hno;subst hn;have hkI:decide (k<f.len)=true:=by simp;omega
      by_cases hlim:n<65536
      ·have hnI:decide (n<65536)=true:=by simpa using hlim
       obtain⟨pa1,pc1,lb1,ld1,hp1,hl1,hx1,ha1⟩:=RepF.elem (n:=f.len) (lc:=lc) (f:=f) HC.out.1 hrf;have hkf:k+1≤f.len:=by omega
       have HE:=I (fun(W:World)(gW:wr.grownBy W none)=>HC.out.2 k1 (by omega) ok lb1 ld1 W (hl1.gb (O hgr gW) (by simp)));have hpm:h1.p.length≤maxLen:=by obtain⟨_,_,e,h3,h4,_⟩:=hp1;omega
       unfold maxLen at hpm;have HN:=I (X (show n1.wt≤f.wt by omega) (X hx1 (X hgr hp1.at1.2)));clear hno hrf hp1 hl1 hx1;obtain⟨g1,o1,rfl,hokz,y0⟩:=ha1 0 _ rfl;obtain⟨_,_,e1,_,y1⟩:=ha1 1 _ rfl;cases e1;obtain⟨_,_,e1,_,y2⟩:=ha1 2 _ rfl;cases e1;obtain⟨_,_,e1,_,y3⟩:=ha1 3 _ rfl;cases e1;obtain⟨_,_,e1,_,y4⟩:=ha1 4 _ rfl;cases e1;obtain⟨_,_,e1,_,y5⟩:=ha1 5 _ rfl;cases e1;obtain⟨_,_,e1,_,y6⟩:=ha1 6 _ rfl;cases e1;have hglz:=World.block_lt_of_cell? w _ y0;have z0:=Ab hgr y0;have z1:=Ab hgr y1;have z2:=Ab hgr y2;have z3:=Ab hgr y3;have z4:=Ab hgr y4;have z5:=Ab hgr y5;have z6:=Ab hgr y6;simp only[Nat.add_zero,←Nat.add_assoc]at z0 z1 z2 z3 z4 z5 z6;clear y0 y1 y2 y3 y4 y5 y6;clear ha1 hgr;have hws:=HN.out.2.2.1.size;have HZ5:=I z5;have i0:(0:Int)≤(k:Int):=by omega
       have i1:(k:Int)<(f.len:Int):=by omega
       have i2:k<f.len:=by omega
       clear z0 z2 z3 z5;go_wp2_with fail;go_region_held3 (fun W=>W.cell? ⟨g1,o1+k*7+1,none⟩=some (str h1.s)∧W.cell? ⟨g1,o1+k*7+4,none⟩=some (str h1.vs)∧W.cell? ⟨g1,o1+k*7+6,none⟩=some (.slice lb1 k1.len ld1)∧wr.grownBy W none) (first|exact⟨z1,z4,z6,Aj (Ac wr none)⟩|exact⟨Ab g5 z1,Ab g5 z4,Ab g5 z6,Ae (Aj (Ac wr none)) g5⟩) (first| (go_at_call 21;refine(HE.out _ ?_).mono ?_;(simp[*]);rintro e w5 ⟨n5,rfl,g5⟩));all_goals
        have gA:wr.grownBy w5 none:=Ae (Aj (Ac wr none)) g5;have HZ:=I (X gA HZ5.out);clear gA g5;go_wp2_with fail;go_loopg [3,5] h1.p.length (fun g v3 v5 w2=>∃j:Nat,∃n:Int,j+g=h1.p.length∧v3= .int .i64 n∧v5= .int .i64 j∧wr.grownBy w2 none)
        case atStart=>exact⟨0,_,by omega,rfl,rfl,HZ.out.1⟩
        case round=>
         obtain⟨j,n2,hj,rfl,rfl,hg2⟩:=hrel;have y5:=Ab hg2 HZ.out.2;by_cases hjl:j<h1.p.length
         ·have hjI:decide (j<h1.p.length)=true:=by simpa using hjl
          obtain⟨gp,op,rfl,hcp⟩:=HN.out.2.2.2 j hjl;have t0:=Ab (O HN.out.2.2.1 hg2) hcp;have HG:=I hg2;clear hcp hg2;generalize h1.p.getD j []=s at*;go_wp2;go_roundg (h1.p.length-(j+1))
          case measure=>omega
          case rel=>exact⟨j+1,_,by omega,rfl,by go_num,HG.out⟩
         ·have hjI:decide (j<h1.p.length)=false:=by simpa using hjl
          have HG:=I (O HN.out.2.2.1 hg2);clear hg2;go_wp2;go_roundg n1.len
          case measure=>omega
          case rel=>exact⟨n1,k+1,_,rfl,by omega,rfl,by go_num,HN.out.1,HN.out.2.1,HG.out⟩
      ·have hnI:decide (n<65536)=false:=by simpa using hlim
       have HG:=I hgr;clear hgr hrf;go_wp2;go_ret;exact⟨_,rfl,HG.out⟩
theorem over1{w:World}{ok:Nat→Prop}{x:Ex}{pa la:Option Addr}{pc lc:Nat}(hp:Cells w (.slice pa x.h.p.length pc) 1 x.h.p.length (x.h.p.map str) ok)(hl:RepL ok w (.slice la x.kids.len lc) x.kids)(W:World)(g:w.grownBy W none)(n:Nat)(hn:n=W.heap.size):
 Calls Tryz.prog 21 #[.slice (some ⟨n,0,none⟩) 1 1] (W.alloc (.cells (hdC x.h (.slice pa x.h.p.length pc) (.slice la x.kids.len lc)).toArray 27 (0,0))) (GS (W.alloc (.cells (hdC x.h (.slice pa x.h.p.length pc) (.slice la x.kids.len lc)).toArray 27 (0,0)))):=by
 subst hn;exact M8 ((Fo.one x).wt+1) (.one x) (Nat.lt_succ_self _) (fun _=>True) (some ⟨W.heap.size,0,none⟩) 1 _ (RepL.one rfl trivial ((hp.gb g (by simp)).mono (fun _ _ _=>trivial)) ((hl.gb g (by simp)).mono (fun _ _ _=>trivial)))
theorem H9{w:World}{ok:Nat→Prop}{v:Value}{x:Ex}(hx:VE ok w v x):Calls Tryz.prog 6 #[v] w (SomeB w):=by
 obtain⟨pa,pc,la,lc,rfl,hp,hl⟩:=hx;have HR:=I (over1 hp hl (w.alloc (.cells (hdC x.h (.slice pa x.h.p.length pc) (.slice la x.kids.len lc)).toArray 27 (0,0))) (World.grownBy_alloc _ _ _) (w.heap.size+1) (by simp));clear hp hl;go_enter func6,ntmps6;go_wp2_with fail;refine HR.out.mono ?_;rintro e w1 ⟨n,rfl,g1⟩;have gwx:w.grownBy w1 none:=O (Aa (World.grownBy_alloc _ _ _) _) g1;clear g1;go_wp2;go_ret;exact⟨_,rfl,gwx⟩
theorem MH(n:Int)(w:World):Calls Tryz.prog 22 #[.int .i64 n] w fun e w'=>e= .returned (.agg #[.int .i64 2,.int .i64 n,str []])∧w.grownBy w' none:=by
 go_enter func22,ntmps22;go_wp2;exact bodyPost_ret (v:= .agg #[.int .i64 2,.int .i64 n,str []]) (by simp[results,results22,go_sem]) rfl ⟨rfl,(by repeat(first| (with_reducible exact Ac _ _)| (with_reducible assumption)| (with_reducible exact AW (by assumption))| (with_reducible refine Aa ?_ _)| (with_reducible refine Aj ?_)| (with_reducible refine AH ?_ _)| ((with_reducible refine Ax ?_ _ _ ?h2);case h2=>first|exact .inl rfl|exact .inr (Nat.le_refl _)|exact .inr (by simp<;>omega))| (with_reducible refine Ae ?_ (by assumption))| (with_reducible refine O ?_ (by assumption))))⟩
abbrev CV:Value:= .slice none 0 0
theorem Nf{w1 w2:World}{o1:Obj}{n1:Nat}(hn1:n1=w1.heap.size+1) (g2:((w1.alloc o1).alloc (.cells (hdC (hd0 1 [66]) CV CV).toArray 27 (0,0))).grownBy w2 none) (o4:Obj):
 VE (fun _=>True) ((w2.alloc (.cells (hdC (hd0 2 [65]) CV (.slice (some ⟨n1,0,none⟩) 1 1)++hdC (A4 2 1 []).h CV CV).toArray 27 (0,0))).alloc o4) (exV (hd0 5 [43]) CV (.slice (some ⟨w2.heap.size,0,none⟩) 2 2)) xAb:=by
 have r1:RepL (fun _=>True) w2 (.slice (some ⟨n1,0,none⟩) 1 1) (.one (A1 [66])):=
  (RepL.one (x:=A1 [66]) (w:=w1.alloc o1) (by rw[hn1];simp) trivial (Cells.nil _ _ _) (RepL.nil _ _)).gb g2 (by simp)
 have r2:=RepL.two (x:=⟨hd0 2 [65],.one (A1 [66])⟩) (y:=A4 2 1 []) (w:=w2) (n:=w2.heap.size) (ok:=fun _=>True) rfl trivial (Cells.nil _ 1 _) r1 (Cells.nil _ 1 _) (RepL.nil _ _);exact VE.node (f:= .two ⟨hd0 2 [65],.one (A1 [66])⟩ (A4 2 1 [])) (r2.gb (World.grownBy_alloc _ o4 none) (by simp))
theorem Kr{w:World}(ht:Tabs w.heap.size w):Calls Tryz.prog 8 #[] w fun e w'=>e= .returned (.bool true)∧w.grownBy w' none:=by
 have HE:=I (Fi ht Fb (by decide));have HP:=I (fun(W:World)(g:w.grownBy W none)=>LF ((ht.gbN g).mono g.size));clear ht;generalize hsrc:Fb=src at*;generalize hsrc2:D5=src2 at*;go_enter func8,ntmps8;rw[show(Value.string {data:=#[97,45,62,98,32,43,32,49]})=str src by rw[←hsrc];rfl,show(Value.string {data:=#[105,102,32,61,32,49]})=str src2 by rw[←hsrc2];rfl];go_wp2_with fail;refine HE.out.mono ?_;rintro e w1 ⟨g1,h1⟩;rw[←hsrc,pe_ab]at h1;obtain⟨v,rfl,hV⟩:=h1;obtain⟨pa,pc,la,lc,rfl,hp,hl⟩:=hV;have HV:=I (X hp (X hl g1));clear hp hl g1 HE hsrc;go_wp2_with fail;refine(MH 1 _).mono ?_;rintro e w2 ⟨rfl,g2⟩;have HW:=I (Nf (n1:=w1.heap.size+1) rfl g2);have hb1:=((Blk.new w1 (hdC xAb.h (.slice pa xAb.h.p.length pc) (.slice la xAb.kids.len lc)) 27).alloc _).gb g2 (by simp);have gw2:w1.grownBy w2 none:=O (Aa (World.grownBy_alloc _ _ _) _) g2;have HB1:=I (X hb1 gw2);clear hb1 gw2 g2;go_wp2_with fail;refine(HP.out _ (Aa (Aa (O HV.out.2.2 HB1.out.2) _) _)).mono ?_;rintro e w3 ⟨v3,rfl,hS,g3⟩;obtain⟨kP,bv,rfl,hB,hblk,hrow⟩:=hS;obtain⟨G,cap,la',lc',e,_,_,hat⟩:=hrow.open;subst e;have gw3:w2.grownBy w3 none:=O (Aa (World.grownBy_alloc _ _ _) _) g3;have hx:VE (AD w.heap.size) w3 (exV xAb.h (.slice pa xAb.h.p.length pc) (.slice la xAb.kids.len lc)) xAb:=⟨pa,pc,la,lc,rfl,(HV.out.1.gb HB1.out.2 (by simp)).gb gw3 (by simp),(HV.out.2.1.gb HB1.out.2 (by simp)).gb gw3 (by simp)⟩;have hy:=(HW.out _).gb g3 (by simp);have HS:=I (GY hx hy);have b1:=HB1.out.1.gb gw3 (by simp)
 have b4:Blk w3 (w2.heap.size+1) (hdC (hd0 5 [43]) CV (.slice (some ⟨w2.heap.size,0,none⟩) 2 2)) 27:=((Blk.new _ _ _).of_eq (by simp) rfl).gb g3 (by simp);have HN:=I (X hblk (X (hat 0 _ rfl) (O (O HV.out.2.2 HB1.out.2) gw3)));clear hx hy hblk hat hrow hB gw3 g3;obtain⟨x_0,x_1,x_2,x_3,x_4,x_5,x_6,x_f⟩:=(b1).c7;obtain⟨y_0,y_1,y_2,y_3,y_4,y_5,y_6,y_f⟩:=(b4).c7;clear b1 b4;rw[F7]at HS;go_wp2_with fail;refine HS.out.mono ?_;rintro e w4 ⟨rfl,g4⟩;have z0:=Ab g4 (HN.out.1.cell' 0 rfl);have z1:=Ab g4 (HN.out.1.cell' 1 rfl);have z2:=Ab g4 (HN.out.1.cell' 2 rfl);have z3:=Ab g4 (HN.out.1.cell' 3 rfl);have t0:=Ab g4 HN.out.2.1;have HG:=I (O HN.out.2.2 g4);clear g4;go_wp2;go_ret;exact⟨rfl,HG.out⟩
def nilEx:Ex:=⟨⟨0,[],0,0,[],[]⟩,.nil⟩
def peX(s:Bs):Ex×Int×Int:=match peM s with
 | .ok x n=>(x,n,0)
 | .no p c=>(nilEx,p,c)
theorem PePost.val{w w':World}{s:Bs}{e:Ending}(h:PePost w s e w'):w.grownBy w' none∧∃v,e= .returned (.tuple #[v,.int .i64 (peX s).2.1,.int .i64 (peX s).2.2])∧VE (AD w.heap.size) w' v (peX s).1:=by
 obtain⟨g,h⟩:=h;refine⟨g,?_⟩;unfold peX;cases hq:peM s with
 |ok x n=>rw[hq]at h;exact h
 | no p c=>
   rw[hq]at h;exact⟨exV0,h,none,0,none,0,rfl,Cells.nil _ _ _,RepL.nil _ _⟩
theorem LZ{x:Ex}(h:(BY x).2=0):BH x=0∧BY x=(Aw wdM x,0)∧(Aw wdM x).length≤4000:=by
 unfold BY at h ⊢;by_cases hv:BH x=0
 ·rw[if_neg (by simpa using hv)]at h ⊢;by_cases hl:4000<(Aw wdM x).length
  ·rw[if_pos hl]at h;simp at h
  ·rw[if_neg hl];exact⟨hv,rfl,by omega⟩
 ·rw[if_pos hv]at h;exact absurd h hv
theorem Hb{w:World}{ok:Nat→Prop}{v:Value}{x:Ex}(ht:Tabs w.heap.size w)(hp:Pow w)(hx:VE ok w v x)(h1:x.h.fit)(h2:x.kids.fit)(hn:x.kids.nodes≤1000000):
 Calls Tryz.prog 4 #[v] w fun e w'=>e= .returned (.bool true)∧w.grownBy w' none:=by
 have HK:=I (fun(W:World)(g:w.grownBy W none)=>Kr ((ht.gbN g).mono g.size));have H1:=I (fun(W:World)(g:w.grownBy W none)=>H9 (hx.gb g (by simp)));have H2:=I (fun(W:World)(g:w.grownBy W none)=>F4 (hp.gb g) (hx.gb g (by simp)) h1 h2 hn);have HE:=I (fun(W:World)(g:w.grownBy W none)(s:Bs)(hs:s.length≤4000)=>Fi ((ht.gbN g).mono g.size) s (by omega));have HX:=I (fun(W W2:World)(g:w.grownBy W none)(g2:W.grownBy W2 none)(u:Value)(hu:VE (AD 0) W u x)=>X (F4 (hp.gb (O g g2)) (hu.gb g2 (by simp)) h1 h2 hn) (Ic (hx.gb (O g g2) (by simp)) (hu.gb g2 (by simp))));rw[F7]at HX;have HP:=I (fun(h:BH x=0)=>MK (E9 h).1 (E9 h).2);have hT:=@LZ x;obtain⟨pa,pc,la,lc,rfl,_,_⟩:=hx;have hB1:=Blk.new w (hdC x.h (.slice pa x.h.p.length pc) (.slice la x.kids.len lc)) 27;have gA:w.grownBy (w.alloc (.cells (hdC x.h (.slice pa x.h.p.length pc) (.slice la x.kids.len lc)).toArray 27 (0,0))) none:=World.grownBy_alloc _ _ _;have HB:=I (X hB1 gA);clear hB1 gA ht hp h1 h2 hn;go_enter Tryz.func4,ntmps4;go_wp2_with fail;refine(H1.out _ HB.out.2).mono ?_;rintro e w1 ⟨o1,rfl,g1⟩;cases o1 with
 | true=>
   have gwx:=O HB.out.2 g1;go_wp2_with fail;refine(HK.out _ gwx).mono ?_;rintro e w2 ⟨rfl,g2⟩;go_wp2;go_ret;exact⟨rfl,O gwx g2⟩
 | false=>
   have HB1:=I (X (HB.out.1.gb g1 (by simp)) (O HB.out.2 g1));have b1:=HB1.out.1;obtain⟨x_0,x_1,x_2,x_3,x_4,x_5,x_6,x_f⟩:=(b1).c7;clear b1 g1 HB H1;go_wp2_with fail;refine(H2.out _ HB1.out.2).mono ?_;rintro e w2 ⟨rfl,g2⟩;clear x_0 x_1 x_2 x_3 x_4 x_5 x_6 x_f H2;have HB2:=I (X (HB1.out.1.gb g2 (by simp)) (O HB1.out.2 g2));clear g2 HB1;by_cases he:(BY x).2=0
   ·obtain⟨hv,e2,hl⟩:=hT he;have HR:=HP.out hv;rw[e2]at HX;rw[e2];clear he e2 hT HP hv;generalize Aw wdM x=s at*;have HL:=I (fun W g=>HE.out W g s hl);clear HE hl;go_wp2_with fail;refine(HL.out _ HB2.out.2).mono ?_;rintro e w3 h3;obtain⟨g3,u,rfl,hu⟩:=h3.val;clear h3 HL;rcases HR with hr| ⟨n,hr⟩
    ·have e3:peX s=(nilEx,0,3):=by unfold peX;rw[hr]
     rw[e3]at hu ⊢;obtain⟨pb,pd,lb,ld,rfl,_,_⟩:=hu;have gwx:=Aa (O HB2.out.2 g3) (.cells (hdC nilEx.h (.slice pb nilEx.h.p.length pd) (.slice lb nilEx.kids.len ld)).toArray 27 (0,0));have HG:=I gwx;clear hr e3 gwx g3 HX;go_wp2_with fail;refine(HK.out _ HG.out).mono ?_;rintro e w4 ⟨rfl,g4⟩;go_wp2;go_ret;exact⟨rfl,O HG.out g4⟩
    ·have e3:peX s=(x,(n:Int),0):=by unfold peX;rw[hr]
     rw[e3]at hu ⊢;have HU:=I (fun(W2:World)(g2:w3.grownBy W2 none)=>HX.out w3 W2 (O HB2.out.2 g3) g2 _ (hu.mono (fun q h _=>Nat.zero_le _)));obtain⟨pb,pd,lb,ld,rfl,_,_⟩:=hu;have gM:=World.grownBy_alloc w3 (.cells (hdC x.h (.slice pb x.h.p.length pd) (.slice lb x.kids.len ld)).toArray 27 (0,0)) none;have hb2:=(HB2.out.1.gb g3 (by simp)).gb gM (by simp);have hy:=Blk.new w3 (hdC x.h (.slice pb x.h.p.length pd) (.slice lb x.kids.len ld)) 27;have HY:=I (X hb2 (X hy (X gM (O (O HB2.out.2 g3) gM))));clear hr e3 HX hb2 gM g3 HB2;obtain⟨y_0,y_1,y_2,y_3,y_4,y_5,y_6,y_f⟩:=(hy).c7;clear hy;have hss:(s==s)=true:=by simp
     go_wp2_with fail;refine((HU.out _ HY.out.2.2.1).1).mono ?_;rintro e w4 ⟨rfl,g4⟩;have hbx:=HY.out.1.gb g4 (by simp);have hby:=HY.out.2.1.gb g4 (by simp);have HG:=I (X (O HY.out.2.2.1 g4) (O HY.out.2.2.2 g4));clear y_0 y_1 y_2 y_3 y_4 y_5 y_6 y_f g4 HY;obtain⟨x_0,x_1,x_2,x_3,x_4,x_5,x_6,x_f⟩:=(hbx).c7;obtain⟨y_0,y_1,y_2,y_3,y_4,y_5,y_6,y_f⟩:=(hby).c7;clear hbx hby;go_wp2_with fail;refine((HU.out _ HG.out.1).2).mono ?_;rintro e w5 ⟨rfl,g5⟩;have gwx:=O HG.out.2 g5;clear g5;go_wp2_with fail;refine(HK.out _ gwx).mono ?_;rintro e w6 ⟨rfl,g6⟩;go_wp2;go_ret;exact⟨rfl,O gwx g6⟩
   ·have heI:((BY x).2==0)=false:=by simpa using he
    have heI2:((BY x).2 !=0)=true:=by simpa using he
    clear he HX HE HP hT;generalize BY x=z at*;go_wp2_with fail;refine(HK.out _ HB2.out.2).mono ?_;rintro e w3 ⟨rfl,g3⟩;go_wp2;go_ret;exact⟨rfl,O HB2.out.2 g3⟩
open Go.Lib
theorem u8x:U8Extra Tryz.prog lays260_ren:=⟨by kernel_rfl,by kernel_rfl,by kernel_rfl,by kernel_rfl,by kernel_rfl,by kernel_rfl,by kernel_rfl⟩
theorem casex:CaseExtra Tryz.prog Tryz.lays203_ren:=⟨by kernel_rfl,by kernel_rfl,by kernel_rfl,by kernel_rfl,by kernel_rfl,by kernel_rfl⟩
theorem Fm{P:Program}{W:World}{name:String}{k:IntKind}{zs:List Int}{g:Nat}{t e:TypeId}{n:Nat}
 (hg:P.globalNamed name=some g) (hty:(P.globals[g]?).map (·.type)=some t) (ht:P.underlying t=some (.array n e)) (he:P.underlying e=some (.int k)) (hce:P.cellsOf e=1) (hct:P.cellsOf t=n)
 (h:VarReads P W name (tabData k zs)):TabIs P W name k zs:=by
 obtain⟨g',t',cs,fuel,p,hg',ht',hvar,hd⟩:=h;obtain rfl:=Option.some.inj (hg.symm.trans hg');obtain rfl:=Option.some.inj (hty.symm.trans ht');unfold TabIs;rw[hvar,←cells_of_tab ht he hce hct hd]
theorem IQ{P:Program}{W:World}{name:String}{d:DataW Unit}{g:Nat}(hg:P.globalNamed name=some g)(h:VarReads P W name d):g<W.heap.size:=by
 obtain⟨g',t',cs,fuel,p,hg',ht',hvar,hd⟩:=h;obtain rfl:=Option.some.inj (hg.symm.trans hg');unfold World.var? at hvar;rw[hg]at hvar;simp only[Option.bind_some]at hvar;rcases Nat.lt_or_ge g W.heap.size with h|h
 ·exact h
 ·rw[Array.getElem?_eq_none h]at hvar;simp at hvar
theorem Ih {W : World} {laid : List (String × DataW Unit)} (h : laidMet Tryz.prog laid W) {d : DataW Unit} (h1 : ("unicode/utf8.first", firstData) ∈ laid) (h2 : ("unicode/utf8.acceptRanges", acceptData) ∈ laid)
 (h3 : ("unicode.CaseRanges", caseData) ∈ laid) (h4 : ("strings.asciiSpace", tabData .u8 asciiSpaceTab) ∈ laid) (h5 : ("strconv.ErrRange", d) ∈ laid) : Tabs W.heap.size W := by
 have hu:=utf8Tabs_of_reads lays260 u8x (laidMet.reads h h1) (laidMet.reads h h2);have hc:=caseVar_of_reads {Tryz.lays203 with} Tryz.lays203.t206 casex (laidMet.reads h h3);have hg:=IQ (g:=10) (by kernel_rfl) (laidMet.reads h h5);have e13:Tryz.lays203_ren.g 13=4:=by kernel_rfl
 rw[e13]at hc;obtain⟨R,oR,cap,hcell,hT⟩:=hc;have hR:=World.block_lt_of_cell? W _ (hT 0 (by decide+kernel)).1;exact⟨hu,hg,⟨R,oR,cap,hR,hcell,hT⟩,Fm Dy (t:=99) (e:=5) (n:=256) (by kernel_rfl) underlying99 underlying5 (by kernel_rfl) (by kernel_rfl) (laidMet.reads h h4)⟩
open Go.ChangeShapes
theorem co29:Tryz.prog.cellsOf 27=7:=by kernel_rfl
theorem co3:Tryz.prog.cellsOf 3=1:=by kernel_rfl
theorem co9:Tryz.prog.cellsOf 9=1:=by kernel_rfl
theorem co25:Tryz.prog.cellsOf 23=3:=by kernel_rfl
theorem co26:Tryz.prog.cellsOf 24=1:=by kernel_rfl
theorem co27:Tryz.prog.cellsOf 25=1:=by kernel_rfl
theorem GP(s:ByteArray):Value.string s=str s.data.toList:=by cases s;simp[str]
section
variable {H:Type}{enc:TypeId×Value→H}{W:World}{base:Nat}{sp:Nat→Bool}{held:Bool}
theorem FY{a:Addr}{len cap size:Nat}{cs:List Value}(h1:len≤cap)(h2:cap≤maxLen)(hl:cs.length=len*size)(hc:∀j u,cs[j]? =some u→W.cell? (a.add j)=some u):
 Cells W (.slice (some a) len cap) size len cs (fun _=>True):=by
 refine⟨_,_,rfl,h1,h2,hl,fun j u hj=>?_⟩;have h0:∃v,cs[0]? =some v:=by
  cases cs with
  |nil=>simp at hj
  |cons v r=>exact⟨v,rfl⟩
 obtain⟨v,hv⟩:=h0;have hs:=World.cell?_spot (hc 0 v hv);have ha:a.add 0=a:=by unfold Addr.add;simp
 rw[ha]at hs;obtain⟨g,o,spot⟩:=a;simp only at hs;subst hs;refine⟨g,o,rfl,trivial,?_⟩;have:=hc j u hj;rwa[Addr.add_lit]at this
end
end Go.Proofs.YtgjdhajcnechdaaGreatDoor
