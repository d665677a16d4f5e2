/-
  Plain laws: the reference's reader of expressions as a function of its state (the place, and whether something was wrong), with fuel; it answers as the grammar 'exprM' does. Dates: Days. Dates: Val of
-/
import Derived.Test.YtmcajbhljbbglaaGreatDoorSpF
import Derived.Test.YtmcajbhljbbglaaGreatDoorSp02
import Derived.Test.YtmcajbhljbbglaaGreatDoorSp03
import Derived.Deep.LoopGhost
import Derived.Lib.Case
import Derived.Shelf.Strings.CaseAny
import Derived.Lib.MapLaws
set_option linter.all false
set_option maxRecDepth 100000
set_option maxHeartbeats 8000000
namespace Go.Proofs.YtmcajbhljbbglaaGreatDoor
open Tryz
abbrev RS:=Nat×Bool
def A2(l:List Tok)(s:Bs)(st:RS):Bool:= !st.2&&Ak (Af l st.1) s
def Aq(l:List Tok)(s:Bs)(st:RS):RS:=if A2 l s st then(st.1+1,st.2)else st
def AZ(l:List Tok)(s:Bs)(st:RS):RS:=if A2 l s st then(st.1+1,st.2)else(st.1,true)
def Fi(l:List Tok)(st:RS):RS:=if !st.2&&(Af l st.1).kind==5 then(st.1+1,st.2)else(st.1,true)
def BT(st:RS):RS:=if st.2 then st else(st.1+1,st.2)
def Hp(l:List Tok)(st:RS):Bool:= !st.2&&((Af l st.1).kind==0&&decide ((Af l st.1).text.length≤10))
def Ax(l:List Tok)(st:RS):Bs×RS:=if Hp l st then((Af l st.1).text,(st.1+1,st.2))else([],(st.1,true))
def A9(l:List Tok)(L:List Bs)(st:RS):Bs:=if st.2 then []else(L.find? (Ak (Af l st.1))).getD []
def AJ(l:List Tok)(L:List Bs)(st:RS):Bs×RS:=(A9 l L st,(J9 (A9 l L st) st.1,st.2))
abbrev OR(α:Type):=Option (α×RS)
abbrev FR(α:Type):=RS→OR α
def Bi:Ex:=⟨hd0 0 [],.nil⟩
def CM(l:List Tok)(L:List Bs)(opnd:FR Ex):Nat→Ex→FR Ex
 | 0,_,_=>none
 |n+1,x,st=>if(A9 l L st).isEmpty then some (x,(AJ l L st).2)else(opnd (AJ l L st).2).bind fun r=>CM l L opnd n (AH (A9 l L st) x r.1) r.2
def DE(l:List Tok)(L:List Bs)(n:Nat)(opnd:FR Ex):FR Ex:=fun st=>(opnd st).bind fun r=>CM l L opnd n r.1 r.2
def orL:List Bs:=[[46,79,82,46]]
def andL:List Bs:=[[46,65,78,68,46]]
def Ib:List Bs:=[[46,78,79,84,46],[33]]
def Gs:List Bs:=[[61],[61,61],[60,62],[35],[33,61],[60],[62],[60,61],[62,61],[36]]
def sumL:List Bs:=[[43],[45]]
def Xr:List Bs:=[[42],[47],[37]]
def primL:List Bs:=[[46,84,46],[46,70,46],[46,78,85,76,76,46],[40],[123],[64]]
def JE(s:Bs):Bs:=if s=[35]∨s=[33,61]then [60,62]else s
def GR(l:List Tok)(sum:FR Ex):Nat→FR Ex
 | 0,_=>none
 | n+1,st=>
   if(A9 l Ib st).isEmpty then(sum (AJ l Ib st).2).bind fun r=>
    if(A9 l Gs r.2).isEmpty then some (r.1,(AJ l Gs r.2).2)else(sum (AJ l Gs r.2).2).bind fun q=>some (AH (JE (A9 l Gs r.2)) r.1 q.1,q.2)
   else(GR l sum n (AJ l Ib st).2).bind fun r=>some (unE [46,78,79,84,46] r.1,r.2)
def Ie(l:List Tok)(un:FR Ex):Nat→FR Ex
 | 0,_=>none
 |n+1,st=>(un st).bind fun r=>if A2 l [94] r.2 then(Ie l un n (Aq l [94] r.2)).bind fun q=>some (AH [94] r.1 q.1,q.2)else some (r.1,Aq l [94] r.2)
def Gt(l:List Tok)(expr:FR Ex):Nat→Ex→FR Ex
 | 0,_,_=>none
 |n+1,x,st=>if A2 l [91] st then(expr (Aq l [91] st)).bind fun r=>Gt l expr n (DN x r.1) (AZ l [93] r.2)else some (x,Aq l [91] st)
def Hu(l:List Tok)(expr prim:FR Ex)(N:Nat):Nat→FR Ex
 | 0,_=>none
 |n+1,st=>if A2 l [45] st then(Hu l expr prim N n (Aq l [45] st)).bind fun r=>some (unE [45] r.1,r.2)else(prim (Aq l [45] st)).bind fun r=>Gt l expr N r.1 r.2
def IS(l:List Tok)(expr:FR Ex):Nat→Fo→FR Fo
 | 0,_,_=>none
 |n+1,acc,st=>if A2 l [44] st then(expr (Aq l [44] st)).bind fun r=>IS l expr n (acc.snoc r.1) r.2 else some (acc,Aq l [44] st)
def FG(l:List Tok)(expr:FR Ex)(n:Nat):FR Fo:=fun st=>(expr st).bind fun r=>IS l expr n (.one r.1) r.2
def GJ(l:List Tok)(expr:FR Ex)(n:Nat)(s:Bs):FR Fo:=fun st=>
 if A2 l s st then some (.nil,Aq l s st)else(FG l expr n (Aq l s st)).bind fun r=>some (r.1,AZ l s r.2)
def Hi(l:List Tok):Nat→List Bs→FR (List Bs)
 | 0,_,_=>none
 |n+1,acc,st=>if A2 l [44] st then Hi l n (acc++[(Ax l (Aq l [44] st)).1]) (Ax l (Aq l [44] st)).2 else some (acc,Aq l [44] st)
def IP(l:List Tok)(n:Nat):FR (List Bs):=fun st=>Hi l n [(Ax l st).1] (Ax l st).2
def J1(l:List Tok)(expr:FR Ex):FR Ex:=fun st=>
 if A2 l [40] (AZ l [38] st)then(expr (Aq l [40] (AZ l [38] st))).bind fun r=>some (⟨hd0 9 [],.one r.1⟩,AZ l [41] r.2)
 else some (⟨hd0 9 (Ax l (Aq l [40] (AZ l [38] st))).1,.nil⟩,Aq l [46] (Ax l (Aq l [40] (AZ l [38] st))).2)
def IN(l:List Tok)(expr:FR Ex)(n:Nat):FR Ex:=fun st=>
 if Ak (Af l (st.1+1)) [40]then(GJ l expr n [41] (AZ l [40] (Ax l st).2)).bind fun r=>some (⟨hd0 3 (Ax l st).1,r.1⟩,r.2)
 else
  if A2 l [45,62] (Ax l st).2 then
   if A2 l [40] (Aq l [45,62] (Ax l st).2)then(expr (Aq l [40] (Aq l [45,62] (Ax l st).2))).bind fun r=>some (⟨hd0 2 (Ax l st).1,.one r.1⟩,AZ l [41] r.2)
   else some (⟨hd0 2 (Ax l st).1,.one (AC (Ax l (Aq l [40] (Aq l [45,62] (Ax l st).2))).1)⟩,(Ax l (Aq l [40] (Aq l [45,62] (Ax l st).2))).2)
  else some (AC (Ax l st).1,Aq l [45,62] (Ax l st).2)
def Jx(l:List Tok)(expr:FR Ex)(n:Nat):FR Ex:=fun st=>
 if A2 l [124] st then
  (if A2 l [124] (Aq l [124] st)then some ([],Aq l [124] (Aq l [124] st))else(IP l n (Aq l [124] (Aq l [124] st))).bind fun p=>some (p.1,AZ l [124] p.2)).bind fun p=>
   (expr p.2).bind fun r=>some (⟨⟨8,[],0,0,[],p.1⟩,.one r.1⟩,AZ l [125] r.2)
 else(FG l expr n (Aq l [124] st)).bind fun r=>some (⟨hd0 7 [],r.1⟩,AZ l [125] r.2)
def II(l:List Tok)(expr:FR Ex)(n:Nat):FR Ex:=fun st=>
 if A9 l primL st=[46,84,46]then some (A1 1 1 [],(AJ l primL st).2)
 else if A9 l primL st=[46,70,46]then some (A1 1 0 [],(AJ l primL st).2)
 else if A9 l primL st=[46,78,85,76,76,46]then some (Bi,(AJ l primL st).2)
 else if A9 l primL st=[40]then(expr (AJ l primL st).2).bind fun r=>some (r.1,AZ l [41] r.2)
 else if A9 l primL st=[123]then Jx l expr n (AJ l primL st).2
 else if A9 l primL st=[64]then some (⟨hd0 10 (Ax l (AJ l primL st).2).1,.nil⟩,(Ax l (AJ l primL st).2).2)
 else some (Bi,((AJ l primL st).2.1,true))
def D2(l:List Tok)(day:Bs→Int)(expr:FR Ex)(n:Nat):FR Ex:=fun st=>
 if st.2 then some (Bi,st)
 else if(Af l st.1).kind=1 then some (A1 2 (AS (Af l st.1).text) [],BT st)
 else if(Af l st.1).kind=2∧(Af l st.1).text.length≤2048 then some (A1 4 0 (Af l st.1).text,BT st)
 else if(Af l st.1).kind=3 then some (A1 3 (day (Af l st.1).text) [],BT st)
 else if(Af l st.1).kind=0 then IN l expr n st
 else if Ak (Af l st.1) [38]then J1 l expr st
 else II l expr n st
def sumR(l:List Tok)(n:Nat)(pow:FR Ex):FR Ex:=DE l sumL n (DE l Xr n pow)
def KV(l:List Tok)(day:Bs→Int)(g:FR Ex)(n:Nat):FR Ex:=DE l orL n (DE l andL n (GR l (sumR l n (Ie l (Hu l g (D2 l day g n) n n) n)) n))
def AN(l:List Tok)(day:Bs→Int):Nat→FR Ex
 | 0=>KV l day (fun _=>none) 1
 |n+1=>KV l day (AN l day n) (n+1)
def KT{α:Type}:Res α→OR α→Prop
 | .ok x j,o=>o=some (x,(j,false))
 | .bad k,o=>∃x,o=some (x,(k,true))
 | .out,_=>True
theorem Hs{α:Type}(x:α)(j:Nat)(o:OR α):KT (.ok x j) o=(o=some (x,(j,false))):=rfl
theorem We{α:Type}(k:Nat)(o:OR α):KT (.bad k) o=∃x,o=some (x,(k,true)):=rfl
structure Sim{α:Type}(f:Nat→Res α)(g:FR α):Prop where
 go:∀i,KT (f i) (g (i,false))
 stop:∀i,∃x,g (i,true)=some (x,(i,true))
theorem I9(l:List Tok)(s:Bs)(i:Nat):A2 l s (i,true)=false:=rfl
theorem Vd(l:List Tok)(s:Bs)(i:Nat):A2 l s (i,false)=Ak (Af l i) s:=rfl
theorem IA(l:List Tok)(s:Bs)(i:Nat):Aq l s (i,true)=(i,true):=rfl
theorem sF(l:List Tok)(s:Bs)(i:Nat):AZ l s (i,true)=(i,true):=rfl
theorem r9(l:List Tok)(i:Nat):Ax l (i,true)=([],(i,true)):=rfl
theorem K1(l:List Tok)(L:List Bs)(i:Nat):A9 l L (i,true)=[]:=rfl
theorem K0(l:List Tok)(L:List Bs)(i:Nat):AJ l L (i,true)=([],(i,true)):=rfl
theorem P5{l:List Tok}{s:Bs}{i:Nat}(h:Ak (Af l i) s=true):Aq l s (i,false)=(i+1,false):=by simp[Aq,A2,h]
theorem PN{l:List Tok}{s:Bs}{i:Nat}(h:Ak (Af l i) s=false):Aq l s (i,false)=(i,false):=by simp[Aq,A2,h]
theorem P6{l:List Tok}{s:Bs}{i:Nat}(h:Ak (Af l i) s=true):AZ l s (i,false)=(i+1,false):=by simp[AZ,A2,h]
theorem PP{l:List Tok}{s:Bs}{i:Nat}(h:Ak (Af l i) s=false):AZ l s (i,false)=(i,true):=by simp[AZ,A2,h]
theorem o7(m:Bs→Bs):∀(T:List (Bs×Bs)),(∀p∈T,m p.1=p.2)→∀t,T.lookup t=((T.map Prod.fst).find? (fun s=>t==s)).map m:=by
 intro T;induction T with
 |nil=>intro _ t;rfl
 | cons p T ih=>
   intro h t;obtain⟨a,b⟩:=p;have h0:=h (a,b) List.mem_cons_self;rw[List.lookup_cons,List.map_cons,List.find?_cons];cases hc:t==a with
   |true=>simp only[Option.map_some];exact congrArg some h0.symm
   |false=>exact ih (fun p hp=>h p (List.mem_cons_of_mem _ hp)) t
theorem tT(l:List Tok)(i:Nat)(k:Nat)(L:List Bs)(m:Bs→Bs)(hL:(lvl k).map Prod.fst=L)(hT:∀p∈lvl k,m p.1=p.2)(hm:∀s∈L,s≠[]∧m s≠[]):
 (A9 l L (i,false)=[]∧AO l k i=[])∨(A9 l L (i,false)≠[]∧AO l k i=m (A9 l L (i,false))∧AO l k i≠[]):=by
 unfold AO A9 Ak;simp only[Bool.false_eq_true,if_false];cases hk:(Af l i).kind==4 with
 | false=>
   left;have e:L.find? (fun _=>false)=none:=by rw[List.find?_eq_none];simp
   simp[e]
 | true=>
   simp only[Bool.true_and,if_true];have ho:Ic k (Af l i).text=((L.find? (fun s=>(Af l i).text==s)).map m).getD []:=by
    unfold Ic;rw[o7 m (lvl k) hT,hL]
   rw[ho];cases hf:L.find? (fun s=>(Af l i).text==s)with
   |none=>left;exact⟨rfl,rfl⟩
   | some s=>
     right;have hs:=hm s (List.mem_of_find?_eq_some hf);exact⟨hs.1,rfl,hs.2⟩
theorem Sim.bind{α β:Type}{f:Nat→Res α}{g:FR α}{f2:α→Nat→Res β}{g2:α→FR β}(h:Sim f g)(h2:∀x,Sim (f2 x) (g2 x)):Sim (fun i=>(f i).bind f2) (fun st=>(g st).bind fun r=>g2 r.1 r.2):=by
 constructor
 ·intro i;have h0:=h.go i;cases hf:f i with
  |out=>trivial
  | bad k=>
    rw[hf]at h0;obtain⟨x,hx⟩:=h0;obtain⟨y,hy⟩:=(h2 x).stop k;refine⟨y,?_⟩;simp only[hx,Option.bind_some];exact hy
  | ok x j=>
    rw[hf,Hs]at h0;have h3:=(h2 x).go j;simp only[Res.bind_ok,h0,Option.bind_some];exact h3
 ·intro i;obtain⟨x,hx⟩:=h.stop i;obtain⟨y,hy⟩:=(h2 x).stop i;exact⟨y,by simp only[hx,Option.bind_some];exact hy⟩
theorem Sim.pure{α:Type}(a:α):Sim (fun i=>Res.ok a i) (fun st=>some (a,st)):=⟨fun _=>rfl,fun _=>⟨a,rfl⟩⟩
theorem Sim.want(l:List Tok)(s:Bs){α:Type}(a:α):Sim (fun i=>(Br l s i).bind fun _ j=> .ok a j) (fun st=>some (a,AZ l s st)):=by
 constructor
 ·intro i;unfold Br;cases h:Ak (Af l i) s with
  |true=>rw[if_pos rfl];simp only[Res.bind_ok];rw[P6 h];rfl
  |false=>rw[if_neg Ae];simp only[Res.bind_bad];exact⟨a,by rw[PP h]⟩
 ·intro i;exact⟨a,rfl⟩
theorem Sim.wants{β:Type}(l:List Tok)(s:Bs){f:Nat→Res β}{g:FR β}(h:Sim f g):Sim (fun i=>(Br l s i).bind fun _ j=>f j) (fun st=>g (AZ l s st)):=by
 constructor
 ·intro i;unfold Br;cases hs:Ak (Af l i) s with
  |true=>rw[if_pos rfl];simp only[Res.bind_ok];rw[P6 hs];exact h.go (i+1)
  | false=>
    rw[if_neg Ae];simp only[Res.bind_bad];rw[PP hs];exact h.stop i
 ·intro i;rw[sF];exact h.stop i
theorem Sim.ifs{β:Type}(l:List Tok)(s:Bs){f f':Nat→Res β}{g g':FR β}(h:Sim f g)(h':Sim f' g'):
 Sim (fun i=>if Ak (Af l i) s then f (i+1)else f' i) (fun st=>if A2 l s st then g (Aq l s st)else g' (Aq l s st)):=by
 constructor
 ·intro i;cases hs:Ak (Af l i) s with
  |true=>simp only[Vd,hs,if_true,P5 hs];exact h.go (i+1)
  |false=>simp only[Vd,hs,PN hs,Bool.false_eq_true,if_false];exact h'.go i
 ·intro i;simp only[I9,IA,Bool.false_eq_true,if_false];exact h'.stop i
def Al(l:List Tok):Prop:=∀i,(Af l i).kind=0→DG (Af l i).text=decide ((Af l i).text.length≤10)
theorem Sim.name{l:List Tok}(hn:Al l){β:Type}{f:Bs→Nat→Res β}{g:Bs→FR β}(h:∀s,Sim (f s) (g s)):Sim (fun i=>(AW l i).bind f) (fun st=>g (Ax l st).1 (Ax l st).2):=by
 have hE:∀i,((Af l i).kind==0&&DG (Af l i).text)=Hp l (i,false):=by
  intro i;simp only[Hp,Bool.not_false,Bool.true_and];by_cases hk:(Af l i).kind=0
  ·rw[hn i hk]
  ·have hk':((Af l i).kind==0)=false:=by simpa using hk
   rw[hk'];rfl
 constructor
 ·intro i;show KT ((AW l i).bind f) (g (Ax l (i,false)).1 (Ax l (i,false)).2);simp only[AW,Ax,hE];cases hs:Hp l (i,false)with
  |true=>simp only[if_true,Res.bind_ok];exact(h _).go (i+1)
  |false=>simp only[Bool.false_eq_true,if_false,Res.bind_bad];exact(h _).stop i
 ·intro i;simp only[r9];exact(h _).stop i
theorem Sim.oper(l:List Tok)(k:Nat)(L:List Bs)(m:Bs→Bs)(hL:(lvl k).map Prod.fst=L)(hT:∀p∈lvl k,m p.1=p.2)(hm:∀s∈L,s≠[]∧m s≠[]){β:Type}{f:Nat→Res β}{g:FR β}{f':Bs→Nat→Res β}{g':Bs→FR β}
 (h:Sim f g) (h':∀s,Sim (f' s) (g' s)):Sim (fun i=>if(AO l k i).isEmpty then f i else f' (AO l k i) (i+1)) (fun st=>if(A9 l L st).isEmpty then g (AJ l L st).2 else g' (m (A9 l L st)) (AJ l L st).2):=by
 constructor
 ·intro i;rcases tT l i k L m hL hT hm with⟨h1,h2⟩| ⟨h1,h2,h3⟩
  ·simp only[h1,h2,List.isEmpty_nil,if_true,AJ,GC];exact h.go i
  ·have e1:(AO l k i).isEmpty=false:=by simpa using h3
   have e2:(A9 l L (i,false)).isEmpty=false:=JP;simp only[e1,e2,Bool.false_eq_true,if_false,AJ,GG h1];rw[←h2];exact(h' _).go (i+1)
 ·intro i;simp only[K1,K0,List.isEmpty_nil,if_true];exact h.stop i
theorem AaM{l:List Tok}{k:Nat}{L:List Bs}(hL:(lvl k).map Prod.fst=L)(hT:∀p∈lvl k,p.1=p.2)(hm:∀s∈L,s≠[]){f:Nat→Res Ex}{g:FR Ex}(h:Sim f g):∀n x,Sim (E1 l k f n x) (CM l L g (n+1) x):=by
 intro n;induction n with
 | zero=>
   intro x;refine⟨fun i=>trivial,fun i=>⟨x,?_⟩⟩;simp[CM,K1,K0]
 | succ n ih=>
   intro x;have h1:=Sim.oper l k L id hL (by simpa using hT) (fun s hs=>⟨hm s hs,hm s hs⟩) (Sim.pure x) (fun s=>h.bind fun y=>ih (AH s x y));exact h1
theorem My{l:List Tok}{k:Nat}{L:List Bs}(hL:(lvl k).map Prod.fst=L)(hT:∀p∈lvl k,p.1=p.2)(hm:∀s∈L,s≠[]){f:Nat→Res Ex}{g:FR Ex}(h:Sim f g)(n:Nat):Sim (B0 l k n f) (DE l L (n+1) g):=
 h.bind fun x=>AaM hL hT hm h n x
theorem Pi(l:List Tok)(i:Nat):(A9 l Ib (i,false)).isEmpty= !(Ak (Af l i) [46,78,79,84,46]||Ak (Af l i) [33]):=by
 unfold A9 Ib;simp only[Bool.false_eq_true,if_false,List.find?_cons,List.find?_nil];cases Ak (Af l i) [46,78,79,84,46]<;>cases Ak (Af l i) [33]<;>rfl
theorem AaY{l:List Tok}{f:Nat→Res Ex}{g:FR Ex}(h:Sim f g):∀n,Sim (CQ l f n) (GR l g (n+1)):=by
 have hz:Sim (fun i=>(f i).bind fun x j=>if(AO l 2 j).isEmpty then .ok x j else(f (j+1)).bind fun y k=> .ok (AH (AO l 2 j) x y) k)
  (fun st=>(g st).bind fun r=>if(A9 l Gs r.2).isEmpty then some (r.1,(AJ l Gs r.2).2)else(g (AJ l Gs r.2).2).bind fun q=>some (AH (JE (A9 l Gs r.2)) r.1 q.1,q.2)):=
  h.bind fun x=>Sim.oper l 2 Gs JE Ad Ad Ad (β:=Ex) (Sim.pure x) (fun s=>h.bind fun y=>Sim.pure (AH s x y))
 intro n;induction n with
 | zero=>
   refine⟨fun i=>trivial,fun i=>?_⟩;obtain⟨x,hx⟩:=hz.stop i;exact⟨x,by simpa[GR,K1,K0]using hx⟩
 | succ n ih=>
   constructor
   ·intro i;rw[CQ,GR,Pi];cases hc:Ak (Af l i) [46,78,79,84,46]||Ak (Af l i) [33]with
    | true=>
      have he:A9 l Ib (i,false)≠[]:=by
       have:=Pi l i;rw[hc]at this;intro e;rw[e]at this;simp at this
      simp only[if_true,Bool.not_true,Bool.false_eq_true,if_false,AJ,GG he];exact(ih.bind fun x=>Sim.pure (unE [46,78,79,84,46] x)).go (i+1)
    | false=>
      have he:A9 l Ib (i,false)=[]:=by
       have:=Pi l i;rw[hc]at this;simpa using this
      simp only[if_true,Bool.not_false,Bool.false_eq_true,if_false,AJ,he,GC];exact hz.go i
   ·intro i;obtain⟨x,hx⟩:=hz.stop i;exact⟨x,by simpa[GR,K1,K0]using hx⟩
theorem oper5(l:List Tok)(i:Nat):AO l 5 i=if Ak (Af l i) [94]then [94]else []:=by
 unfold AO Ak Ic lvl;cases(Af l i).kind==4 with
 |false=>simp
 | true=>
   simp only[if_true,Bool.true_and,List.lookup];cases(Af l i).text==[94]<;>rfl
theorem AaZ{l:List Tok}{f:Nat→Res Ex}{g:FR Ex}(h:Sim f g):∀n,Sim (DS l f n) (Ie l g (n+1)):=by
 intro n;induction n with
 | zero=>
   refine⟨fun i=>trivial,fun i=>?_⟩;obtain⟨x,hx⟩:=h.stop i;exact⟨x,by simp[Ie,hx,I9,IA]⟩
 | succ n ih=>
   have h1:=h.bind fun x=>Sim.ifs l [94] (ih.bind fun y=>Sim.pure (AH [94] x y)) (Sim.pure x);refine⟨fun i=>?_,h1.stop⟩;have h2:=h1.go i;have e:(f i).bind (fun x j=>if Ak (Af l j) [94]then(DS l f n (j+1)).bind fun y k=> .ok (AH [94] x y) k else .ok x j)=DS l f (n+1) i:=by
    rw[DS];congr 1;funext x j;rw[oper5];cases Ak (Af l j) [94]<;>simp
   rw[←e];exact h2
theorem AaX{l:List Tok}{f:Nat→Res Ex}{g:FR Ex}(h:Sim f g):∀n N x,n<N→Sim (DF l f n x) (Gt l g N x):=by
 intro n;induction n with
 | zero=>
   intro N x hN;obtain⟨M,rfl⟩:∃M,N=M+1:=⟨N-1,by omega⟩;exact⟨fun i=>trivial,fun i=>⟨x,by simp[Gt,I9,IA]⟩⟩
 | succ n ih=>
   intro N x hN;obtain⟨M,rfl⟩:∃M,N=M+1:=⟨N-1,by omega⟩;exact Sim.ifs l [91] (h.bind fun y=>Sim.wants l [93] (ih M (DN x y) Ab)) (Sim.pure x)
theorem xQ{l:List Tok}{f p:Nat→Res Ex}{g q:FR Ex}(h:Sim f g)(hp:Sim p q)(N:Nat):∀n,n<N→Sim (DL l f p n) (Hu l g q N (n+1)):=by
 intro n;induction n with
 | zero=>
   intro hN;refine⟨fun i=>trivial,fun i=>?_⟩;obtain⟨x,hx⟩:=hp.stop i;obtain⟨M,rfl⟩:∃M,N=M+1:=⟨N-1,by omega⟩;exact⟨x,by simp[Hu,Gt,hx,I9,IA]⟩
 | succ n ih=>
   intro hN;exact Sim.ifs l [45] ((ih Ab).bind fun x=>Sim.pure (unE [45] x)) (hp.bind fun x=>AaX h n N x Ab)
theorem AaN{l:List Tok}{f:Nat→Res Ex}{g:FR Ex}(h:Sim f g):∀n x,Sim (E3 l f n x) (IS l g (n+1) x):=by
 intro n;induction n with
 |zero=>exact fun x=>⟨fun i=>trivial,fun i=>⟨x,by simp[IS,I9,IA]⟩⟩
 |succ n ih=>exact fun x=>Sim.ifs l [44] (h.bind fun y=>ih (x.snoc y)) (Sim.pure x)
theorem P2{l:List Tok}{f:Nat→Res Ex}{g:FR Ex}(h:Sim f g)(n:Nat):Sim (D1 l f n) (FG l g (n+1)):=h.bind fun x=>AaN h n _
theorem lB{l:List Tok}(hn:Al l):∀n x,Sim (E5 l n x) (Hi l (n+1) x):=by
 intro n;induction n with
 |zero=>exact fun x=>⟨fun i=>trivial,fun i=>⟨x,by simp[Hi,I9,IA]⟩⟩
 |succ n ih=>exact fun x=>Sim.ifs l [44] (Sim.name hn fun s=>ih (x++[s])) (Sim.pure x)
theorem Wg{l:List Tok}(hn:Al l)(n:Nat):Sim (Eh l n) (IP l (n+1)):=Sim.name hn fun s=>lB hn n [s]
theorem yT{l:List Tok}(hn:Al l){f:Nat→Res Ex}{g:FR Ex}(h:Sim f g)(n:Nat):
 Sim (FK l f n) (fun st=>(GJ l g (n+1) [41] (AZ l [40] (Ax l st).2)).bind fun r=>some (⟨hd0 3 (Ax l st).1,r.1⟩,r.2)):=by
 have h1:∀s,Sim (fun j=>if Ak (Af l j) [41]then Res.ok (⟨hd0 3 s,.nil⟩:Ex) (j+1)else(D1 l f n j).bind fun f k=>(Br l [41] k).bind fun _ k=> .ok ⟨hd0 3 s,f⟩ k)
  (fun st=>(GJ l g (n+1) [41] st).bind fun r=>some ((⟨hd0 3 s,r.1⟩:Ex),r.2)):=by
  intro s;have h2:=Sim.ifs l [41] (Sim.pure (⟨hd0 3 s,.nil⟩:Ex)) ((P2 (l:=l) h n).bind fun f=>Sim.want l [41] (⟨hd0 3 s,f⟩:Ex));have e:(fun st=>(GJ l g (n+1) [41] st).bind fun r=>some ((⟨hd0 3 s,r.1⟩:Ex),r.2))=
   (fun st=>if A2 l [41] st then some ((⟨hd0 3 s,.nil⟩:Ex),Aq l [41] st)else(FG l g (n+1) (Aq l [41] st)).bind fun r=>some ((⟨hd0 3 s,r.1⟩:Ex),AZ l [41] r.2)):=by
   funext st;unfold GJ;cases A2 l [41] st with
   |true=>rfl
   |false=>simp only[Bool.false_eq_true,if_false];rw[Option.bind_assoc];rfl
  rw[e];exact h2
 exact Sim.name hn fun s=>Sim.wants l [40] (h1 s)
theorem Wf{l:List Tok}(hn:Al l){f:Nat→Res Ex}{g:FR Ex}(h:Sim f g):Sim (EW l f) (J1 l g):=by
 have h1:=Sim.wants l [38] (Sim.ifs l [40] (h.bind fun x=>Sim.want l [41] (⟨hd0 9 [],.one x⟩:Ex)) (Sim.name hn (f:=fun s j=>Res.ok (⟨hd0 9 s,.nil⟩:Ex) (if Ak (Af l j) [46]then j+1 else j)) (g:=fun s st=>some (⟨hd0 9 s,.nil⟩,Aq l [46] st)) (fun s=>?_)))
 ·exact h1
 ·constructor
  ·intro i;cases hs:Ak (Af l i) [46]with
   |true=>simp only[if_true];rw[P5 hs];rfl
   |false=>simp only[Bool.false_eq_true,if_false];rw[PN hs];rfl
  ·exact fun i=>⟨_,rfl⟩
theorem xP{l:List Tok}(hn:Al l){f:Nat→Res Ex}{g:FR Ex}(h:Sim f g)(n:Nat):Sim (Gl l f n) (IN l g (n+1)):=by
 have hc:=yT hn h n;have hv:=Sim.name hn fun s=>Sim.ifs l [45,62] (Sim.ifs l [40] (h.bind fun x=>Sim.want l [41] (⟨hd0 2 s,.one x⟩:Ex)) (Sim.name hn fun t=>Sim.pure (⟨hd0 2 s,.one (AC t)⟩:Ex))) (Sim.pure (AC s));constructor
 ·intro i;unfold Gl IN;cases hs:Ak (Af l (i+1)) [40]with
  |true=>simp only[if_true];exact hc.go i
  |false=>simp only[Bool.false_eq_true,if_false];exact hv.go i
 ·intro i;unfold IN;cases hs:Ak (Af l (i+1)) [40]with
  |true=>simp only[if_true];exact hc.stop i
  |false=>simp only[hs,Bool.false_eq_true,if_false];exact hv.stop i
theorem tD{l:List Tok}(hn:Al l){f:Nat→Res Ex}{g:FR Ex}(h:Sim f g)(n:Nat):Sim (Gi l f n) (Jx l g (n+1)):=by
 have hp:=Sim.ifs l [124] (Sim.pure ([]:List Bs)) ((Wg hn n).bind fun p=>Sim.want l [124] p);have hb:=Sim.ifs l [124] (hp.bind fun p=>h.bind fun x=>Sim.want l [125] (⟨⟨8,[],0,0,[],p⟩,.one x⟩:Ex)) ((P2 (l:=l) h n).bind fun f=>Sim.want l [125] (⟨hd0 7 [],f⟩:Ex));exact hb
theorem Js{l:List Tok}{L:List Bs}{i:Nat}{s:Bs}(hs:s∈L)(hne:s≠[]):Ak (Af l i) s=decide (A9 l L (i,false)=s):=by
 unfold A9;simp only[Bool.false_eq_true,if_false];cases hf:L.find? (Ak (Af l i))with
 | none=>
   rw[List.find?_eq_none]at hf;have:=hf s hs;simp only[Option.getD_none];simp[Bool.eq_false_iff.2 this,hne.symm]
 | some t=>
   have h1:=List.find?_some hf;simp only[Option.getD_some];simp only[Ak,Bool.and_eq_true,beq_iff_eq]at h1;by_cases e:t=s
   ·subst e;simp[Ak,h1.1,h1.2]
   ·simp[Ak,h1.2,e]
theorem tE{l:List Tok}(hn:Al l){f:Nat→Res Ex}{g:FR Ex}(h:Sim f g)(n i:Nat)(h38:Ak (Af l i) [38]=false):KT (ES l f n i) (II l g (n+1) (i,false)):=by
 unfold ES II;rw[h38,Js (L:=primL) (s:=[46,84,46]) Ad Ad,Js (L:=primL) (s:=[46,70,46]) Ad Ad,Js (L:=primL) (s:=[46,78,85,76,76,46]) Ad Ad,
  Js (L:=primL) (s:=[40]) Ad Ad,Js (L:=primL) (s:=[64]) Ad Ad,Js (L:=primL) (s:=[123]) Ad Ad]
 have hstep:A9 l primL (i,false)≠[]→(AJ l primL (i,false)).2=(i+1,false):=fun hne=>by simp only[AJ,GG hne]
 have hstop:A9 l primL (i,false)=[]→(AJ l primL (i,false)).2=(i,false):=fun hne=>by simp only[AJ,hne,GC]
 have hin:A9 l primL (i,false)=[]∨A9 l primL (i,false)∈primL:=by
  unfold A9;simp only[Bool.false_eq_true,if_false];cases hf:primL.find? (Ak (Af l i))with
  |none=>left;rfl
  |some t=>right;exact List.mem_of_find?_eq_some hf
 simp only[Bool.false_eq_true,if_false,decide_eq_true_eq];have dC{P}(h:P:=by
 rcases hS with rfl|rfl|rfl|rfl|rfl|rfl|rfl
 ·rw[hstop rfl];simp[We]
 ·rw[hstep Ad];simp[Hs]
 ·rw[hstep Ad];simp[Hs]
 ·rw[hstep Ad];simp[Hs,Bi,A1,hd0]
 ·rw[hstep Ad];simp only[show(([40]:Bs)=[46,84,46])=False by decide+kernel,show(([40]:Bs)=[46,70,46])=False by decide+kernel,show(([40]:Bs)=[46,78,85,76,76,46])=False by decide+kernel,if_false,if_true];exact(h.bind fun x=>Sim.want l [41] x).go (i+1)
 ·rw[hstep Ad];simp only[show(([123]:Bs)=[46,84,46])=False by decide+kernel,show(([123]:Bs)=[46,70,46])=False by decide+kernel,show(([123]:Bs)=[46,78,85,76,76,46])=False by decide+kernel,show(([123]:Bs)=[40])=False by decide+kernel,show(([123]:Bs)=[64])=False by decide+kernel,if_false,if_true];exact(tD hn h n).go (i+1)
 ·rw[hstep Ad];simp only[show(([64]:Bs)=[46,84,46])=False by decide+kernel,show(([64]:Bs)=[46,70,46])=False by decide+kernel,show(([64]:Bs)=[46,78,85,76,76,46])=False by decide+kernel,show(([64]:Bs)=[40])=False by decide+kernel,show(([64]:Bs)=[123])=False by decide+kernel,if_false,if_true];exact(Sim.name hn fun s=>Sim.pure (⟨hd0 10 s,.nil⟩:Ex)).go (i+1)):=Aa h
 exact Tu
theorem AaO{l:List Tok}(hn:Al l)(day:Bs→Int){f:Nat→Res Ex}{g:FR Ex}(h:Sim f g)(n:Nat):Sim (Fc l day f n) (D2 l day g (n+1)):=by
 constructor
 ·intro i;unfold Fc D2;simp only[Bool.false_eq_true,if_false,beq_iff_eq];by_cases h1:(Af l i).kind=1
  ·simp[h1,BT,Hs]
  by_cases h2:(Af l i).kind=2
  ·simp only[h2,show((2:Int)=1)=False by decide+kernel,show((2:Int)=3)=False by decide+kernel,show((2:Int)=0)=False by decide+kernel,if_false,if_true,true_and];by_cases hl:(Af l i).text.length≤2048
   ·rw[if_neg Ab,if_pos hl];simp[BT,Hs]
   ·rw[if_pos Ab,if_neg hl];have h38:∀s,Ak (Af l i) s=false:=by intro s;simp[Ak,h2]
    rw[h38];simp only[Bool.false_eq_true,if_false];have hs:A9 l primL (i,false)=[]:=by
     exact Tf
    exact⟨Bi,by simp[II,AJ,hs,GC]⟩
  by_cases h3:(Af l i).kind=3
  ·simp[h3,BT,Hs]
  by_cases h0:(Af l i).kind=0
  ·simp only[h0,show((0:Int)=1)=False by decide+kernel,show((0:Int)=2)=False by decide+kernel,show((0:Int)=3)=False by decide+kernel,if_false,if_true,false_and];exact(xP hn h n).go i
  simp only[h1,h2,h3,h0,if_false,false_and];cases h38:Ak (Af l i) [38]with
  | true=>
    have:ES l f n i=EW l f i:=by unfold ES;rw[h38,if_pos rfl]
    rw[this];simp only[if_true];exact(Wf hn h).go i
  | false=>
    simp only[Bool.false_eq_true,if_false];exact tE hn h n i h38
 ·intro i;exact⟨Bi,by simp[D2]⟩
theorem tG(l:List Tok)(day:Bs→Int)(g:FR Ex)(i:Nat):KV l day g 1 (i,true)=some (Bi,(i,true)):=by
 simp[KV,DE,CM,GR,sumR,Ie,Hu,Gt,D2,K1,K0,I9,IA]
theorem yU{l:List Tok}(hn:Al l)(day:Bs→Int):∀n,Sim (Aw l day n) (AN l day n):=by
 intro n;induction n with
 |zero=>exact⟨fun i=>trivial,fun i=>⟨Bi,tG _ _ _ _⟩⟩
 | succ n ih=>
   exact My (k:=0) Ad Ad Ad (My (k:=1) Ad Ad Ad (AaY (My (k:=3) Ad Ad Ad (My (k:=4) Ad Ad Ad (AaZ (xQ ih (AaO hn day ih n) (n+1) n Ab) n) n) n) n) n) n
open Go.RowKit
theorem zC(y m d:Int)(hy0:0≤y)(hy1:y≤9999)(hm0:0≤m)(hm1:m≤99)(hd0:0≤d)(hd1:d≤99)(w:World):
 Calls Tryz.prog 242 #[.int .i64 y,.int .i64 m,.int .i64 d] w fun e w'=>e= .returned (.tuple #[.int .i64 (Bq y m d).1,.int .i64 (Bq y m d).2])∧w.grownBy w' none:=by
 by_cases h1:y<1
 ·have hB:Bq y m d=(0,1):=by simp[Bq,EE,h1]
  exact Ns
 by_cases h2:m<1
 ·have hB:Bq y m d=(0,1):=by simp[Bq,EE,h2]
  exact Ns
 by_cases h3:12<m
 ·have hB:Bq y m d=(0,1):=by simp[Bq,EE,h3]
  exact Ns
 by_cases h4:d<1
 ·have hB:Bq y m d=(0,1):=by simp[Bq,EE,h4]
  exact Ns
 have hml:=K4 y m Ab Ab;have hyl:0≤Gm y∧Gm y≤4000000:=by
  unfold Gm;rw[Int.tdiv_eq_ediv_of_nonneg Ab,Int.tdiv_eq_ediv_of_nonneg Ab,Int.tdiv_eq_ediv_of_nonneg Ab];omega
 by_cases h5:EF y m<d
 ·have hB:Bq y m d=(0,1):=by simp[Bq,EE,h5]
  rw[hB];go_enter func242,ntmps242;go_wp2_with fail;refine(OD y m Ab Ab Ab Ab _).mono ?_;rintro e w1 ⟨rfl,g1⟩;go_wp2;exact bodyPost_ret (v:= .tuple #[_,_]) Qd rfl ⟨rfl,g1⟩
 have hB:Bq y m d=(Gm y+d+Do y (m-1).toNat,0):=by simp[Bq,EE,h1,h2,h3,h4,h5];omega
 rw[hB];clear hB;go_enter func242,ntmps242;go_wp2_with fail;refine(OD y m Ab Ab Ab Ab _).mono ?_;rintro e w1 ⟨rfl,g1⟩;go_wp2_with fail;refine(lF y Ab Ab _).mono ?_;rintro e w2 ⟨rfl,rfl⟩;go_wp2_with fail;generalize hM:(m-1).toNat=M at*;go_loopg [8,9,41] M (fun g v8 v9 v41 wr=>∃k:Nat,k+g=M∧v8= .int .i64 (Gm y+d+Do y k)∧v41= .int .i64 k∧w.grownBy wr none)
 case atStart=>exact⟨0,by omega,by simp[Do],rfl,g1⟩
 case round=>
  obtain⟨k,hk,rfl,rfl,gr⟩:=hrel;have hbl:=UW y k Ab;cases gk with
  | zero=>
    have hkM:k=M:=Ab;subst hkM;go_wp2;exact bodyPost_ret (v:= .tuple #[_,_]) Qd rfl ⟨rfl,gr⟩
  | succ gk=>
    go_wp2_with fail;refine(OD y (k+1) Ab Ab Ab Ab _).mono ?_;rintro e w3 ⟨rfl,g3⟩;have hm2:=K4 y (k+1) Ab Ab;go_wp2_with fail;go_roundg gk
    case measure=>omega
    case rel=>exact⟨k+1,by omega,by simp[Do];omega,by simp,Ah gr g3⟩
def Bc(b:UInt8):Bool:=decide (48≤b.toNat)&&decide (b.toNat≤57)
theorem Aaj(s:Bs)(k:Nat)(h:k<(⟨s.toArray⟩:ByteArray).size)(h2:k<s.length):(⟨s.toArray⟩:ByteArray)[k]'h=s[k]:=rfl
theorem Pj(s:Bs)(k:Nat)(h:k<s.length):AS (s.take (k+1))=10*AS (s.take k)+((s[k].toNat:Int)-48):=by
 unfold AS;rw[List.take_succ_eq_append_getElem h,List.foldl_append];rfl
theorem GH(s:Bs)(hd:s.all Bc=true):∀k,k≤s.length→0≤AS (s.take k)∧AS (s.take k)<10 ^ k:=by
 intro k;induction k with
 |zero=>intro _;simp[AS]
 | succ k ih=>
   intro hk;have h1:=ih Ab;have h2:=List.all_eq_true.1 hd s[k] (List.getElem_mem _);simp[Bc]at h2;rw[Pj s k Ab,Int.pow_succ];omega
theorem n5(s:Bs)(hd:s.all Bc=true):Lib.trimLeftS s [32]=s:=by
 cases s with
 |nil=>rfl
 | cons c t=>
   simp[Bc]at hd;have:c≠32:=by rintro rfl;simp at hd
   simp[Lib.trimLeftS,this]
theorem PO(s:Bs)(hd:s.all Bc=true)(h0:1≤s.length)(h8:s.length≤8)(w:World):
 Calls Tryz.prog 243 #[str s] w fun e w'=>e= .returned (.int .i64 (AS s))∧w.grownBy w' none:=by
 cases s with
 |nil=>simp at h0
 |cons c t=>
 have hc:=List.all_eq_true.1 hd c Ae;have hg:=WU c t;simp[Bc]at hc;obtain⟨hc1,hc2⟩:=hc;have h45:((c.toNat:Int)==45)=false:=Ag;have h43:((c.toNat:Int)==43)=false:=Ag;have H:=Z hd;have h8':t.length≤7:=by simpa using h8
 go_enter func243,ntmps243;go_wp2_with fail;refine(strings_TrimLeft ⟨(c::t).toArray⟩ ⟨#[32]⟩ _ Ad (ascii_of_all Ad)).mono ?_;rintro e w1 ⟨rfl,hb⟩;have gr:=gbB hb none;rw[show Lib.trimLeftS (ByteArray.mk (c::t).toArray).data.toList (ByteArray.mk #[32]).data.toList=c::t from n5 _ H.out];clear hb;go_wp2_with fail;go_loopg [4,5,27] (c::t).length (fun g v4 v5 v27 wr=>∃k:Nat,k+g=(c::t).length∧v4= .int .i64 (AS ((c::t).take k))∧v27= .int .i64 k∧w.grownBy wr none)
 case atStart=>exact⟨0,by omega,by simp[AS],rfl,gr⟩
 case round=>
  obtain⟨k,hk,rfl,rfl,g⟩:=hrel;have hnl:0≤AS ((c::t).take k)∧AS ((c::t).take k)<100000000:=by
   have h1:=GH (c::t) H.out k Ab;have h2:(10:Int) ^ k≤10 ^ 8:=by exact_mod_cast Nat.pow_le_pow_right (n:=10) Ad (by simp only[List.length_cons]at hk;omega:k≤8)
   have h3:(10:Int) ^ 8=100000000:=Ad;omega
  cases gk with
  | zero=>
    have hkM:k=t.length+1:=BE;rw[List.take_of_length_le Ag]at*;generalize hzz:AS (c::t)=z at*;have HZ:=Z hzz;clear hzz;have hnlt:((k:Int)<(t.length:Int)+1)=False:=Ag;clear hk hkM;go_wp2;go_ret;exact⟨by rw[HZ.out];rfl,g⟩
  | succ gk=>
    have hlt:k<(c::t).length:=Ab;have hx:=List.all_eq_true.1 H.out (c::t)[k] (List.getElem_mem _);simp only[Bc,Bool.and_eq_true,decide_eq_true_eq]at hx;obtain⟨hx1,hx2⟩:=hx;have hgk:=fun h=>Aaj (c::t) k h hlt;have hn1:=Pj (c::t) k hlt;have hkl:(k:Int)<t.length+1:=by simp only[List.length_cons]at hlt;omega
    generalize hz:AS ((c::t).take k)=z at*;generalize hq:(c::t)[k]=q at*;go_wp2_with fail;go_roundg gk
    case measure=>omega
    case rel=>exact⟨k+1,by omega,by rw[hn1];congr 1;omega,by simp,g⟩
def Ew:Bs:=[32,32,32,32,32,32,32,32]
def BD(s:Bs):Int×Bool:=
 if s=Ew then(0,true)
 else if s.length≠8∨s.all Bc=false then(0,false)
 else((Bq (AS (s.take 4)) (AS ((s.drop 4).take 2)) (AS (s.drop 6))).1,(Bq (AS (s.take 4)) (AS ((s.drop 4).take 2)) (AS (s.drop 6))).2==0)
def digSet:Bs:=[48,49,50,51,52,53,54,55,56,57]
theorem sR(b:UInt8):digSet.contains b=Bc b:=by
 rw[Bool.eq_iff_iff];constructor
 ·intro h;simp[digSet]at h;rcases h with h|h|h|h|h|h|h|h|h|h<;>subst h<;>decide
 ·intro h;simp[Bc]at h;have:b.toNat=48∨b.toNat=49∨b.toNat=50∨b.toNat=51∨b.toNat=52∨b.toNat=53∨b.toNat=54∨b.toNat=55∨b.toNat=56∨b.toNat=57:=Ab;rcases this with h|h|h|h|h|h|h|h|h|h<;>(have e:b=UInt8.ofNat b.toNat:=Ae;rw[h]at e;rw[e];decide)
theorem Wr(l:List UInt8):(Lib.trimS l digSet==[])=l.all Bc:=by
 rw[Wi];congr 1;funext b;exact sR b
theorem V1(s:Bs)(hs:s.length≤1000000)(w:World):
 Calls Tryz.prog 209 #[str s] w fun e w'=>e= .returned (.tuple #[.int .i64 (BD s).1,.bool (BD s).2])∧w.grownBy w' none:=by
 by_cases hb:s=Ew
 ·subst hb;go_enter func209,ntmps209;go_wp2;exact bodyPost_ret (v:= .tuple #[.int .i64 0,.bool true]) MR rfl ⟨rfl,Aj _ _⟩
 have hb':(s==[32,32,32,32,32,32,32,32])=false:=by simpa[Ew]using hb
 by_cases h8:s.length=8
 ·have h8n:((s.length:Int)==8)=true:=by simp;omega
  have h8m:((s.length:Int) !=8)=false:=Ag;cases hd:s.all Bc with
  | false=>
    have hm:BD s=(0,false):=by simp only[BD,hb,if_false,hd];simp
    rw[hm];rw[←Wr]at hd;go_enter func209,ntmps209;go_wp2_with fail;refine(strings_Trim ⟨s.toArray⟩ ⟨digSet.toArray⟩ _ Qq Ad (ascii_of_all Ad)).mono ?_;rintro e w1 ⟨rfl,hbe⟩;have hgb:=gbB hbe none;change(Lib.trimS s digSet==[])=false at hd;rw[show Lib.trimS (ByteArray.mk s.toArray).data.toList (ByteArray.mk digSet.toArray).data.toList=Lib.trimS s digSet from rfl];generalize Lib.trimS s digSet=z at*;clear hbe;go_wp2;exact bodyPost_ret (v:= .tuple #[.int .i64 0,.bool false]) MR rfl ⟨rfl,hgb⟩
  | true=>
    have bQ{P}(h:P:=by
    obtain⟨a0,a1,a2,a3,a4,a5,a6,a7,rfl⟩:∃a0 a1 a2 a3 a4 a5 a6 a7,s=[a0,a1,a2,a3,a4,a5,a6,a7]:=by
     match s,h8 with
     | [a0,a1,a2,a3,a4,a5,a6,a7],_=>exact⟨_,_,_,_,_,_,_,_,rfl⟩
    have hd4:[a0,a1,a2,a3].all Bc=true∧[a4,a5].all Bc=true∧[a6,a7].all Bc=true:=by
     simp at hd ⊢;simp[hd]
    have HD:=Z hd4;clear hd4;rw[←Wr]at hd;go_enter func209,ntmps209;go_wp2_with fail;refine(strings_Trim ⟨[a0,a1,a2,a3,a4,a5,a6,a7].toArray⟩ ⟨digSet.toArray⟩ _ (by simp[ByteArray.size]) Ad (ascii_of_all Ad)).mono ?_;rintro e w1 ⟨rfl,hbe⟩;have hgb:=gbB hbe none;change(Lib.trimS [a0,a1,a2,a3,a4,a5,a6,a7] digSet==[])=true at hd;rw[show Lib.trimS (ByteArray.mk [a0,a1,a2,a3,a4,a5,a6,a7].toArray).data.toList (ByteArray.mk digSet.toArray).data.toList=Lib.trimS [a0,a1,a2,a3,a4,a5,a6,a7] digSet from rfl];generalize Lib.trimS [a0,a1,a2,a3,a4,a5,a6,a7] digSet=z at*;clear hbe;go_wp2_with fail;have hy:=GH _ HD.out.1 4 Ae;have hm:=GH _ HD.out.2.1 2 Ae;have hd':=GH _ HD.out.2.2 2 Ae;have iG{P}(h:P:=by
    have hx1:({data:=#[a0,a1,a2,a3,a4,a5,a6,a7]}:ByteArray).extract 0 4={data:=#[a0,a1,a2,a3]}:=rfl;have hx2:({data:=#[a0,a1,a2,a3,a4,a5,a6,a7]}:ByteArray).extract 4 6={data:=#[a4,a5]}:=rfl;have hx3:({data:=#[a0,a1,a2,a3,a4,a5,a6,a7]}:ByteArray).extract 6 8={data:=#[a6,a7]}:=rfl;have hda:=zC Y M D Ab Ab Ab Ab Ab Ab;have hv1:∀w,Calls Tryz.prog 243 #[.string ⟨#[a0,a1,a2,a3]⟩] w fun e w'=>e= .returned (.int .i64 Y)∧w.grownBy w' none:=fun w=>by rw[←HN.out.1];exact PO [a0,a1,a2,a3] HD.out.1 Ae Ae w
    have hv2:∀w,Calls Tryz.prog 243 #[.string ⟨#[a4,a5]⟩] w fun e w'=>e= .returned (.int .i64 M)∧w.grownBy w' none:=fun w=>by rw[←HN.out.2.1];exact PO [a4,a5] HD.out.2.1 Ae Ae w
    have hv3:∀w,Calls Tryz.prog 243 #[.string ⟨#[a6,a7]⟩] w fun e w'=>e= .returned (.int .i64 D)∧w.grownBy w' none:=fun w=>by rw[←HN.out.2.2];exact PO [a6,a7] HD.out.2.2 Ae Ae w
    have HV:=Z (Ac hda (Ac hv1 (Ac hv2 hv3)));clear hda hv1 hv2 hv3;go_region_with(first| (go_at_call 242;with_reducible refine(HV.out.1 _).mono ?_;rintro e w5 ⟨rfl,g5⟩)| (with_reducible refine(HV.out.2.1 _).mono ?_;rintro e w2 ⟨rfl,g2⟩)| (with_reducible refine(HV.out.2.2.1 _).mono ?_;rintro e w3 ⟨rfl,g3⟩)| (with_reducible refine(HV.out.2.2.2 _).mono ?_;rintro e w4 ⟨rfl,g4⟩));all_goals
     go_wp2;exact bodyPost_ret (v:= .tuple #[.int .i64 (Bq Y M D).1,.bool ((Bq Y M D).2==0)]) MR rfl ⟨by rw[←HN.out.1,←HN.out.2.1,←HN.out.2.2];rfl,Ah (Ah (Ah (Ah (An hgb) g2) g3) g4) g5⟩):=Aa h
    exact ZL):=Aa h;exact Sp
 ·have hm:BD s=(0,false):=by simp[BD,hb,h8]
  rw[hm];have h8n:((s.length:Int)==8)=false:=Ag;have h8m:((s.length:Int) !=8)=true:=Ag;go_enter func209,ntmps209;go_wp2;exact bodyPost_ret (v:= .tuple #[.int .i64 0,.bool false]) MR rfl ⟨rfl,Aj _ _⟩
def Cl(b:Nat):Int:=
 if b=9∨b=32 then 3 else if b=95∨(97≤b∧b≤122)∨(65≤b∧b≤90)then 1 else if 48≤b∧b≤57 then 2 else if b≠10∧(b<32∨126<b)then 4 else 0
def cls(c:Int)(b:UInt8):Bool:=Cl b.toNat==c
def Bm(b:UInt8):Bool:=cls 1 b||cls 2 b
def bAt(s:Bs)(i:Nat):UInt8:=(s[i]?).getD 0
theorem Gg{s:Bs}{i:Nat}(h:i<s.length):bAt s i=s[i]:=by simp[bAt,h]
def Au(s:Bs)(p:UInt8→Bool)(i:Nat):Nat:=i+((s.drop i).takeWhile p).length
theorem GB{s:Bs}{i:Nat}(h:i<s.length):s.drop i=bAt s i::s.drop (i+1):=by rw[Gg h];exact List.drop_eq_getElem_cons h
theorem DZ{s:Bs}{p:UInt8→Bool}{i:Nat}(h:s.length≤i):Au s p i=i:=by simp[Au,List.drop_eq_nil_of_le h]
theorem Dq{s:Bs}{p:UInt8→Bool}{i:Nat}(h:i<s.length)(hp:p (bAt s i)=false):Au s p i=i:=by
 simp[Au,GB h,hp]
theorem BK{s:Bs}{p:UInt8→Bool}{i:Nat}(h:i<s.length)(hp:p (bAt s i)=true):Au s p i=Au s p (i+1):=by
 simp[Au,GB h,hp];omega
theorem By(s:Bs)(p:UInt8→Bool)(i:Nat):i≤Au s p i:=Nat.le_add_right _ _
theorem Cp{s:Bs}{p:UInt8→Bool}{i:Nat}(h:i≤s.length):Au s p i≤s.length:=by
 have h1:((s.drop i).takeWhile p).length≤(s.drop i).length:=(List.takeWhile_sublist p).length_le;simp at h1;unfold Au;omega
theorem Jw{s:Bs}{p:UInt8→Bool}{i:Nat}(h:Au s p i<s.length):p (bAt s (Au s p i))=false:=by
 induction hn:s.length-i generalizing i with
 |zero=>have:=By s p i;omega
 | succ n ih=>
   have hi:i<s.length:=Ab;cases hp:p (bAt s i)with
   |false=>rw[Dq hi hp];exact hp
   | true=>
     rw[BK hi hp]at h ⊢;exact ih h Ab
theorem Hr{s:Bs}{p:UInt8→Bool}{i j:Nat}(h1:i≤j)(h2:j<Au s p i):j<s.length∧p (bAt s j)=true:=by
 induction hn:s.length-i generalizing i with
 |zero=>rw[DZ Ab]at h2;omega
 | succ n ih=>
   have hi:i<s.length:=Ab;cases hp:p (bAt s i)with
   |false=>rw[Dq hi hp]at h2;omega
   | true=>
     by_cases e:i=j
     ·subst e;exact⟨hi,hp⟩
     ·rw[BK hi hp]at h2;exact ih Ab h2 Ab
theorem xH{s:Bs}{p:UInt8→Bool}{i j:Nat}(h1:i≤j)(h2:j≤Au s p i):Au s p j=Au s p i:=by
 induction hn:j-i generalizing i with
 | zero => have : i = j := by omega
           subst this;rfl
 | succ n ih=>
   have h3:=Hr (Nat.le_refl i) (by omega:i<Au s p i);have h4:=BK h3.1 h3.2;rw[h4];exact ih Ab Ab Ab
theorem Pt{s:Bs}{p q:UInt8→Bool}(h:∀b,p b=true→q b=true)(i:Nat):Au s p i≤Au s q i:=by
 induction hn:s.length-i generalizing i with
 |zero=>rw[DZ Ab,DZ Ab];exact Nat.le_refl _
 | succ n ih=>
   have hi:i<s.length:=Ab;cases hp:p (bAt s i)with
   |false=>rw[Dq hi hp];exact By _ _ _
   | true=>
     rw[BK hi hp,BK hi (h _ hp)];exact ih _ Ab
def A3(s:Bs)(i j:Nat):Bs:=(s.drop i).take (j-i)
theorem Hj{s:Bs}{i j:Nat}(h1:i≤j)(h2:j≤s.length):(A3 s i j).length=j-i:=by simp[A3];omega
theorem Wh{s:Bs}{i j k:Nat}(h:k<j-i):(A3 s i j)[k]? =s[i+k]?:=by
 simp[A3,h]
def AE(s:Bs)(i:Nat):Nat:=Au s (cls 3) i
def Az(s:Bs)(i:Nat):Nat:=Au s (fun b=>b !=10) i
def BO(s:Bs)(i:Nat):Nat:=Au s (fun b=>b !=10&&!cls 4 b) i
theorem yX(s:Bs)(i:Nat):BO s i≤Az s i:=Pt (by intro b hb;simp at hb ⊢;exact hb.1) i
def Cf(s:Bs)(i:Nat):Bool:=[38,38].isPrefixOf (s.drop i)
def signsL:List Bs:=[[46,78,85,76,76,46],[46,65,78,68,46],[46,78,79,84,46],[46,79,82,46],[46,84,46],[46,70,46],[58,61],[61,61],[60,62],[33,61],[60,61],[62,61],[45,62],[40],[41],[91],[93],[123],[125],[44],[124],[58],[46],[61],[35],[60],[62],[43],[45],[42],[47],[37],[94],[36],[38],[63],[64],[33]]
def C3(s:Bs)(i:Nat)(w:Bs):Bool:=decide (i+w.length≤s.length)&&Lib.toUpperA (A3 s i (i+w.length))==w
def Dc(s:Bs)(i:Nat):Option Bs:=signsL.find? (C3 s i)
def F4(t:Bs):Bs:=A3 t 2 6++A3 t 7 9++A3 t 10 12
def DH(t:Bs):Bool:=decide (13≤t.length)&&t.take 2==[123,94]&&bAt t 6==45&&bAt t 9==45&&bAt t 12==125
def BB(t:Bs):Option (Bs×Nat):=
 if [123,125].isPrefixOf t then some ([],2)
 else if DH t then(if(BD (F4 t)).2&&F4 t !=Ew then some (F4 t,13)else none)
 else none
inductive St where
 |tok (t:Tok) (at':Nat) (line:Bool)
 |again (at':Nat) (line:Bool)
 |stop
 |bad (k:Nat)
def Dz(s:Bs)(i:Nat):St:=
 let q:=Au s (fun b=>b !=10&&b !=bAt s i) (i+1)
 if q<s.length∧bAt s q≠10 then
  (if Au (A3 s (i+1) q) (fun b=>!cls 4 b) 0<q-(i+1)then .bad (i+1+Au (A3 s (i+1) q) (fun b=>!cls 4 b) 0)else .tok ⟨2,i,A3 s (i+1) q⟩ (q+1) true)
 else .bad i
def AK(s:Bs)(i:Nat):St:=
 if cls 1 (bAt s i)then(if 24<Au s Bm i-i then .bad i else .tok ⟨0,i,Lib.toUpperA (A3 s i (Au s Bm i))⟩ (Au s Bm i) true)
 else if cls 2 (bAt s i)then(if 15<Au s (cls 2) i-i then .bad i else .tok ⟨1,i,A3 s i (Au s (cls 2) i)⟩ (Au s (cls 2) i) true)
 else if bAt s i=34∨bAt s i=39 then Dz s i
 else match BB (s.drop i)with
  |some (d,n)=> .tok ⟨3,i,d⟩ (i+n) true
  | none=>match Dc s i with
    |some w=> .tok ⟨4,i,w⟩ (i+w.length) true
    |none=> .bad i
def Bw(s:Bs)(i:Nat):Option Nat:=if BO s i<Az s i then some (BO s i)else none
def BJ(s:Bs)(i:Nat):Nat:=if Az s i<s.length then Az s i+1 else Az s i
def BF(s:Bs)(k:Nat):Bool:=decide (s.length≤k)||bAt s k==10||Cf s k
def Bt(s:Bs)(i:Nat)(line:Bool):St:=
 if s.length≤i then(if line then .tok ⟨5,i,[]⟩ i false else .stop)
 else if bAt s i=10 then(if line then .tok ⟨5,i,[]⟩ (i+1) false else .again (i+1) false)
 else if cls 3 (bAt s i)then .again (i+1) line
 else if(bAt s i==42&&!line)||Cf s i then
  match Bw s i with
  |some k=> .bad k
  |none=> .again (Az s i) line
 else if bAt s i=59 then
  (if BF s (AE s (i+1))then
   match Bw s (AE s (i+1))with
   |some k=> .bad k
   |none=> .again (BJ s (AE s (i+1))) line
  else .bad i)
 else AK s i
inductive NR where
 |tok (t:Tok) (at':Nat) (line:Bool) (n:Nat)
 |stop
 |bad (k:Nat)
 |out
def Bo(s:Bs):Nat→Nat→Bool→NR
 | 0,_,_=> .out
 | n+1,i,line=>match Bt s i line with
   | .tok t j l=> .tok t j l n
   | .again j l=>Bo s n j l
   | .stop=> .stop
   | .bad k=> .bad k
inductive LexR where
 |ok (l:List Tok)
 |bad (k:Nat)
 |out
def LexR.cons(t:Tok):LexR→LexR
 | .ok l=> .ok (t::l)
 | .bad k=> .bad k
 | .out=> .out
def LexR.pre(p:List Tok):LexR→LexR
 | .ok l=> .ok (p++l)
 | .bad k=> .bad k
 | .out=> .out
theorem LexR.pre_nil(r:LexR):r.pre []=r:=by cases r<;>rfl
theorem LexR.pre_cons(p:List Tok)(t:Tok)(r:LexR):(r.cons t).pre p=r.pre (p++[t]):=by cases r<;>simp[LexR.cons,LexR.pre]
def BU(s:Bs):Nat→Nat→Bool→LexR
 | 0,_,_=> .out
 | n+1,i,line=>match Bt s i line with
   | .tok t j l=>(BU s n j l).cons t
   | .again j l=>BU s n j l
   | .stop=> .ok []
   | .bad k=> .bad k
theorem Pg(s:Bs):∀n i line,BU s n i line=match Bo s n i line with
 | .tok t j l m=>(BU s m j l).cons t
 | .stop=> .ok []
 | .bad k=> .bad k
 | .out=> .out:=by
 intro n;induction n with
 |zero=>intro i line;rfl
 | succ n ih=>
   intro i line;rw[BU,Bo];cases Bt s i line with
   |tok t j l=>rfl
   |again j l=>exact ih j l
   |stop=>rfl
   |bad k=>rfl
theorem Pn{t:Bs}{d:Bs}{n:Nat}(h:BB t=some (d,n)):2≤n∧n≤t.length:=by
 unfold BB at h;split at h
 ·rename_i h1;have:=(List.isPrefixOf_iff_prefix.1 h1).length_le;simp at h this;omega
 ·split at h
  ·rename_i h2;simp[DH]at h2;split at h
   ·simp at h;omega
   ·simp at h
  ·simp at h
theorem Kv{w:Bs}(h:w∈signsL):1≤w.length∧w.length≤6:=by
 have:signsL.all (fun w=>decide (1≤w.length)&&decide (w.length≤6))=true:=Ad;have:=List.all_eq_true.1 this w h;simpa using this
theorem Pu{s:Bs}{i:Nat}{w:Bs}(h:Dc s i=some w):w∈signsL∧i+w.length≤s.length∧Lib.toUpperA (A3 s i (i+w.length))=w:=by
 have h1:=List.mem_of_find?_eq_some h;have h2:=List.find?_some h;simp[C3]at h2;exact⟨h1,h2.1,h2.2⟩
theorem rY{s:Bs}{i:Nat}(h:i<s.length)(h10:bAt s i≠10):i<Az s i:=by
 unfold Az;rw[BK h (by simpa using h10)];exact By _ _ _
theorem o9(s:Bs)(i:Nat):i≤BJ s i:=by
 unfold BJ;have:=By s (fun b=>b !=10) i;change i≤Az s i at this;split<;>omega
theorem pA{s:Bs}{i:Nat}(h:i≤s.length):BJ s i≤s.length:=by
 unfold BJ;have:Az s i≤s.length:=Cp h;split<;>omega
def PX(s:Bs)(i:Nat)(line:Bool):St→Prop
 | .tok _ j l=>i≤j∧j≤s.length∧2*(s.length-j)+l.toNat<2*(s.length-i)+line.toNat
 | .again j l=>i<j∧j≤s.length∧2*(s.length-j)+l.toNat<2*(s.length-i)+line.toNat
 | .stop=>i=s.length∧line=false
 | .bad k=>k<s.length
theorem pN{s:Bs}{i:Nat}{line:Bool}(h:i<s.length):PX s i line (Dz s i):=by
 unfold Dz;have h1:=By s (fun b=>b !=10&&b !=bAt s i) (i+1);simp only[];split
 ·rename_i h2;split
  ·rename_i h3;show _<s.length;omega
  ·exact Lx
 ·exact h
theorem oV{s:Bs}{i:Nat}{line:Bool}(h:i<s.length):PX s i line (AK s i):=by
 unfold AK;split
 ·rename_i h1;have h2:=BK (p:=Bm) h (by simp[Bm,h1]);have h3:=By s Bm (i+1);have h4:=Cp (p:=Bm) (Nat.le_of_lt h);split
  ·exact h
  ·exact Lx
 ·split
  ·rename_i h1;have h2:=BK (p:=cls 2) h h1;have h3:=By s (cls 2) (i+1);have h4:=Cp (p:=cls 2) (Nat.le_of_lt h);split
   ·exact h
   ·exact Lx
  ·split
   ·exact pN h
   ·cases hd:BB (s.drop i)with
    | some p=>
      obtain⟨d,n⟩:=p;have:=Pn hd;simp at this;exact Lx
    | none=>
      cases hs:Dc s i with
      |none=>exact h
      | some w=>
        obtain⟨h1,h2,_⟩:=Pu hs;have:=Kv h1;exact Lx
theorem Ut{s:Bs}{i k:Nat}(h:i≤s.length)(hc:Bw s i=some k):k<s.length:=by
 unfold Bw at hc;have:Az s i≤s.length:=Cp h;split at hc
 ·simp at hc;omega
 ·simp at hc
theorem Uy(s:Bs){i:Nat}(line:Bool)(h:i≤s.length):PX s i line (Bt s i line):=by
 unfold Bt;split
 ·have e:i=s.length:=by omega
  cases line with
  |true=>exact⟨by omega,by omega,by simp⟩
  |false=>exact⟨e,rfl⟩
 ·rename_i hi;split
  ·cases line with
   |true=>exact⟨by omega,by omega,by simp;omega⟩
   |false=>exact⟨by omega,by omega,by simp;omega⟩
  ·rename_i h10;split
   ·exact⟨by omega,by omega,by omega⟩
   ·split
    ·cases hc:Bw s i with
     |some k=>exact Ut h hc
     | none=>
       have h1:=rY Ab h10;have h2:Az s i≤s.length:=Cp h;exact⟨by omega,by omega,by omega⟩
    ·split
     ·have h1:i+1≤AE s (i+1):=By _ _ _;have h2:AE s (i+1)≤s.length:=Cp Ab;split
      ·cases hc:Bw s (AE s (i+1))with
       |some k=>exact Ut h2 hc
       | none=>
         have h3:=o9 s (AE s (i+1));have h4:=pA h2;exact⟨by omega,by omega,by omega⟩
      ·show _<_;omega
     ·exact oV Ab
theorem sB(s:Bs):∀n i line,i≤s.length→2*(s.length-i)+line.toNat<n→match Bo s n i line with
 | .tok _ j l m=>j≤s.length∧2*(s.length-j)+l.toNat<m
 | .stop=>True
 | .bad k=>k<s.length
 | .out=>False:=by
 intro n;induction n with
 |zero=>intro i line _ h;omega
 | succ n ih=>
   intro i line hi hn;have hg:=Uy s line hi;unfold Bo;cases hs:Bt s i line with
   |tok t j l=>rw[hs]at hg;exact⟨hg.2.1,by have:=hg.2.2;omega⟩
   |again j l=>rw[hs]at hg;exact ih j l hg.2.1 (by have:=hg.2.2;omega)
   |stop=>trivial
   |bad k=>rw[hs]at hg;exact hg
def Dw(s:Bs):Nat→Bool
 | 0=>true
 |i+1=>if cls 3 (bAt s i)then Dw s i else bAt s i==10
def InvF(s:Bs)(i:Nat)(line:Bool):Prop:=line=false→i<s.length→Dw s i=true∨bAt s i=10
theorem Uv{s:Bs}{i:Nat}(h:cls 3 (bAt s i)=true):Dw s (i+1)=Dw s i:=by rw[Dw,if_pos h]
theorem Uw{s:Bs}{i:Nat}(h:cls 3 (bAt s i)=false):Dw s (i+1)=(bAt s i==10):=by rw[Dw,if_neg (by rw[h];simp)]
theorem yY{b:UInt8}(h:b=10):cls 3 b=false:=by subst h;decide
theorem Pf{s:Bs}{i:Nat}(h:bAt s i=10):Dw s (i+1)=true:=by rw[Uw (yY h),h];rfl
theorem PA{b:UInt8}(h:cls 3 b=true):b≠10:=by rintro rfl;revert h;decide
theorem oW{s:Bs}{i:Nat}{t:Tok}{j:Nat}{l:Bool}(h:AK s i= .tok t j l):l=true:=by
 unfold AK at h;split at h
 ·split at h
  ·cases h
  ·cases h;rfl
 ·split at h
  ·split at h
   ·cases h
   ·cases h;rfl
  ·split at h
   ·unfold Dz at h;simp only[]at h;split at h
    ·split at h
     ·cases h
     ·cases h;rfl
    ·cases h
   ·cases hd:BB (s.drop i)with
    |some p=>rw[hd]at h;cases h;rfl
    | none=>
      rw[hd]at h;cases hs:Dc s i with
      |some w=>rw[hs]at h;cases h;rfl
      |none=>rw[hs]at h;cases h
theorem nY{s:Bs}{i:Nat}{j:Nat}{l:Bool}(h:AK s i= .again j l):False:=by
 unfold AK at h;split at h
 ·split at h<;>cases h
 ·split at h
  ·split at h<;>cases h
  ·split at h
   ·unfold Dz at h;simp only[]at h;split at h
    ·split at h<;>cases h
    ·cases h
   ·cases hd:BB (s.drop i)with
    |some p=>rw[hd]at h;cases h
    | none=>
      rw[hd]at h;cases hs:Dc s i with
      |some w=>rw[hs]at h;cases h
      |none=>rw[hs]at h;cases h
theorem UF{s:Bs}{i:Nat}(h:Az s i<s.length):bAt s (Az s i)=10:=by
 have h':=Jw (p:=fun b=>b !=10) h;have e:bAt s (Au s (fun b=>b !=10) i)=10:=by simpa using h'
 exact e
theorem lR(s:Bs)(k:Nat)(line:Bool):InvF s (BJ s k) line:=by
 intro _ hj;unfold BJ at hj ⊢;by_cases h:Az s k<s.length
 ·rw[if_pos h]at hj ⊢;exact .inl (Pf (UF h))
 ·rw[if_neg h]at hj;exact absurd hj h
def StInv(s:Bs):St→Prop
 | .tok _ j l=>InvF s j l
 | .again j l=>InvF s j l
 |_=>True
theorem vI{s:Bs}{i:Nat}{line:Bool}(hI:InvF s i line):StInv s (Bt s i line):=by
 unfold Bt;split
 ·split
  ·intro _ h;omega
  ·trivial
 ·split
  ·rename_i h10;split
   ·exact fun _ _=> .inl (Pf h10)
   ·exact fun _ _=> .inl (Pf h10)
  ·rename_i h10;split
   ·rename_i hb;intro hl hj;rcases hI hl Ab with h|h
    ·exact .inl (by rw[Uv hb];exact h)
    ·exact absurd h h10
   ·split
    ·cases Bw s i with
     |some k=>trivial
     |none=>exact fun _ hj=> .inr (UF hj)
    ·split
     ·split
      ·cases Bw s (AE s (i+1))with
       |some k=>trivial
       |none=>exact lR _ _ _
      ·trivial
     ·cases ht:AK s i with
      | tok t j l=>
        intro hl;rw[oW ht]at hl;cases hl
      |again j l=>exact(nY ht).elim
      |stop=>trivial
      |bad k=>trivial
theorem InvF.start(s:Bs):InvF s 0 false:=fun _ _=> .inl rfl
theorem Wx(s:Bs)(i:Nat):Cf s i=(decide (i+1<s.length)&&(bAt s i==38&&bAt s (i+1)==38)):=by
 unfold Cf;by_cases h:i+1<s.length
 ·rw[GB (by omega:i<s.length),GB h];simp[List.isPrefixOf,h,Bool.beq_comm (a:=(38:UInt8))]
 ·simp only[h,decide_false,Bool.false_and];by_cases h1:i<s.length
  ·rw[GB h1,List.drop_eq_nil_of_le Ab];simp[List.isPrefixOf]
  ·rw[List.drop_eq_nil_of_le Ab];rfl
theorem Wl{s:Bs}{p q:UInt8→Bool}(h:∀b,q b=true→p b=true)(i:Nat):Au s p (Au s q i)=Au s p i:=
 xH (By _ _ _) (Pt h i)
theorem UZ(b:UInt8)(h:cls 3 b=true):(b !=10&&!cls 4 b)=true:=by
 have h':Cl b.toNat=3:=by simpa[cls]using h
 have h4:cls 4 b=false:=by simp[cls,h']
 have h10:=PA h;simp[h4,h10]
theorem U1(s:Bs)(i:Nat):Az s (AE s i)=Az s i:=Wl (fun b hb=>by have:=UZ b hb;simp at this ⊢;exact this.1) i
theorem tF(s:Bs)(i:Nat):BO s (AE s i)=BO s i:=Wl (fun b hb=>UZ b hb) i
theorem nU(s:Bs)(i:Nat):Bw s (AE s i)=Bw s i:=by unfold Bw;rw[tF,U1]
theorem lC(s:Bs)(i:Nat):BJ s (AE s i)=BJ s i:=by unfold BJ;rw[U1]
theorem m9{t:Bs}{b:UInt8}{r:Bs}(h:t=b::r)(hb:b≠123):BB t=none:=by
 subst h;unfold BB;have h1:[123,125].isPrefixOf (b::r)=false:=by simp[List.isPrefixOf];intro e;exact absurd e.symm hb
 rw[if_neg (by rw[h1];simp)];have h2:DH (b::r)=false:=by
  unfold DH;cases r with
  |nil=>simp
  |cons c r=>simp[hb]
 rw[if_neg (by rw[h2];simp)]
theorem tA{s:Bs}{i:Nat}(hi:i<s.length)(h:bAt s i=59):Dc s i=none:=by
 unfold Dc;rw[List.find?_eq_none];intro w hw hx;have hl:=Kv hw;simp only[C3,Bool.and_eq_true,decide_eq_true_eq,beq_iff_eq]at hx;have h0:(Lib.toUpperA (A3 s i (i+w.length)))[0]? =some 59:=by
  have:(A3 s i (i+w.length))[0]? =some 59:=by
   rw[Wh Ab];rw[←h,Gg hi];simp[hi]
  unfold Lib.toUpperA;rw[List.getElem?_map,this];rfl
 rw[hx.2]at h0;have:signsL.all (fun w=>w[0]? !=some 59)=true:=Ad;have:=List.all_eq_true.1 this w hw;rw[h0]at this;simp at this
theorem oY{s:Bs}{i:Nat}(hi:i<s.length)(h:bAt s i=59):AK s i= .bad i:=by
 unfold AK;rw[if_neg (by rw[h];decide),if_neg (by rw[h];decide),if_neg (by rw[h];decide),m9 (GB hi) (by rw[h];decide)];rw[tA hi h]
theorem yP{s:Bs}{p:UInt8→Bool}{a q:Nat}(h1:a≤q)(h2:q≤s.length):Au (A3 s a q) p 0=min (Au s p a) q-a:=by
 induction hn:q-a generalizing a with
 | zero=>
   have:a=q:=Ab;subst this;rw[DZ (by simp[A3])];omega
 | succ n ih=>
   have hlt:a<q:=Ab;have hc:A3 s a q=bAt s a::A3 s (a+1) q:=by
    unfold A3;rw[GB (by omega:a<s.length),show q-a=(q-(a+1))+1 by omega,List.take_succ_cons]
   have ih':=ih (a:=a+1) Ab Ab;cases hp:p (bAt s a)with
   | true=>
     rw[BK (by omega:a<s.length) hp];have hge:=By s p (a+1);have e:Au (A3 s a q) p 0=Au (A3 s (a+1) q) p 0+1:=by
      simp only[Au,hc,List.drop_zero,List.takeWhile_cons,hp,if_true,List.length_cons];omega
     rw[e,ih'];omega
   | false=>
     rw[Dq (by omega:a<s.length) hp];simp only[Au,hc,List.drop_zero,List.takeWhile_cons,hp];simp;omega
open Go.Lib
theorem uT(x:Int)(h:∀b∈encodeRune x,b.toNat<128):(0≤x∧x≤127)∧encodeRune x=[x.toNat.toUInt8]:=by
 have hz:∀y∈encodeRuneZ x,y<128:=by
  intro y hy;have hb:=encodeRuneZ_byte x y hy;have:=h y.toNat.toUInt8 (List.mem_map.2 ⟨y,hy,rfl⟩);simp[UInt8.toNat_ofNat']at this;omega
 by_cases h0:0≤x∧x≤127
 ·exact⟨h0,by simp[encodeRune,encodeRuneZ_one h0.1 h0.2]⟩
 ·exfalso;by_cases h1:128≤x∧x≤2047
  ·have:=hz (192+x/64) (by rw[encodeRuneZ_two h1.1 h1.2];simp);omega
  ·by_cases h2:(2048≤x∧x<55296)∨(57343<x∧x≤65535)
   ·have:=hz (224+x/4096) (by rw[encodeRuneZ_three h2];simp);omega
   ·by_cases h3:65536≤x∧x≤1114111
    ·have:=hz (240+x/262144) (by rw[encodeRuneZ_four h3.1 h3.2];simp);omega
    ·have:=hz 239 (by rw[encodeRuneZ_bad Ab];simp);omega
theorem Aac:toUpperU 65533=65533:=En
theorem p6{l:List UInt8}(hne:l≠[])(h1:(decodeL l).2=1):(decodeL l).1=65533∨∀b∈l.take 1,b.toNat<128:=by
 by_cases hv:(decodeL l).1=65533
 ·exact .inl hv
 ·refine .inr ?_;have he:=encode_decode l hne (fun h=>hv h.1);rw[h1]at he;by_cases h0:((decodeL l).1:Int)≤127
  ·rw[←he];intro b hb;rw[encodeRune,encodeRuneZ_one Ab h0]at hb;simp at hb;subst hb;simp[UInt8.toNat_ofNat'];omega
  ·exfalso;have hlen:(encodeRune ((decodeL l).1:Int)).length≤1:=by rw[he];simp;omega
   generalize((decodeL l).1:Int)=x at*;unfold encodeRune at hlen;rw[List.length_map]at hlen;by_cases h1:128≤x∧x≤2047
   ·rw[encodeRuneZ_two h1.1 h1.2]at hlen;simp at hlen
   ·by_cases h2:(2048≤x∧x<55296)∨(57343<x∧x≤65535)
    ·rw[encodeRuneZ_three h2]at hlen;simp at hlen
    ·by_cases h3:65536≤x∧x≤1114111
     ·rw[encodeRuneZ_four h3.1 h3.2]at hlen;simp at hlen
     ·rw[encodeRuneZ_bad Ab]at hlen;simp at hlen
theorem p7(l:List UInt8):1≤(decodeL l).2:=by
 unfold decodeL Utf8.decode;simp only[];repeat' split
 all_goals simp
theorem vZ:∀(n:Nat)(l:List UInt8),l.length≤n→(∀b∈toUpperD l,b.toNat<128)→(toUpperD l).length≤l.length∧((toUpperD l).length=l.length→∀b∈l,b.toNat<128):=by
 intro n;induction n with
 | zero=>
   intro l hl _;have:l=[]:=List.eq_nil_of_length_eq_zero Ab;subst this;exact⟨Nat.le_refl _,by simp⟩
 | succ n ih=>
   intro l hl h;by_cases hne:l=[]
   ·subst hne;exact⟨Nat.le_refl _,by simp⟩
   ·have hp:=p7 l;have hk:=decodeL_le l hne;have hlen:0<l.length:=List.length_pos_iff.2 hne;unfold toUpperD at h ⊢;rw[mapD_step _ _ hne]at h ⊢;have ih':=ih (l.drop (decodeL l).2) Ag;unfold toUpperD at ih';have h2:=ih' (fun b hb=>h b (List.mem_append.2 (.inr hb)));rw[List.length_drop]at h2;by_cases h0:0≤toUpperU (decodeL l).1
    ·rw[if_pos h0]at h ⊢;obtain⟨hx,he⟩:=uT _ (fun b hb=>h b (List.mem_append.2 (.inl hb)));rw[he];simp only[List.length_append,List.length_cons,List.length_nil];refine⟨by omega,fun e=>?_⟩;have hk1:(decodeL l).2=1:=Ab;rcases p6 hne hk1 with h3|h3
     ·rw[h3]at hx;have:=Aac;simp at hx;omega
     ·intro b hb;rw[hk1]at h2;rw[←List.take_append_drop 1 l]at hb;rcases List.mem_append.1 hb with hb|hb
      ·exact h3 b hb
      ·exact h2.2 (by rw[hk1]at e;omega) b hb
    ·rw[if_neg h0];simp only[List.nil_append];exact⟨by omega,fun e=>by omega⟩
theorem o3(b:UInt8)(h:128≤b.toNat):upperB b=b:=by
 unfold upperB isLowerB;split
 ·rename_i h1;simp[UInt8.le_iff_toNat_le]at h1;omega
 ·rfl
theorem sE(x w:List UInt8)(hl:x.length=w.length)(hw:∀b∈w,b.toNat<128):(toUpperD x==w)=(toUpperA x==w):=by
 by_cases ha:∀b∈x,b.toNat<128
 ·rw[toUpperD_ascii x ha]
 ·have h1 : toUpperA x ≠ w := by
   rintro rfl;apply ha;intro b hb;by_cases hh:b.toNat<128
   ·exact hh
   ·exact absurd (hw (upperB b) (List.mem_map.2 ⟨b,hb,rfl⟩)) (by rw[o3 b Ab];exact hh)
  have h2:toUpperD x≠w:=by
   intro e;apply ha;exact(vZ x.length x (Nat.le_refl _) (by rw[e];exact hw)).2 (by rw[e,hl])
  rw[beq_eq_false_iff_ne.2 h1,beq_eq_false_iff_ne.2 h2]
end Go.Proofs.YtmcajbhljbbglaaGreatDoor
