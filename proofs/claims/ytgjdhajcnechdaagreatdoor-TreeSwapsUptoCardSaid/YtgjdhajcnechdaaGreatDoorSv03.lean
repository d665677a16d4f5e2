/-
  Plain laws: the reference's reader of expressions as a function of its state (the place, and whether something was wrong), with fuel; it answers as the grammar 'exprM' does.
-/
import Derived.Test.YtgjdhajcnechdaaGreatDoorSv02
set_option linter.all false
set_option maxRecDepth 100000
set_option maxHeartbeats 8000000
namespace Go.Proofs.YtgjdhajcnechdaaGreatDoor
abbrev RS:=Nat×Bool
def A2(l:List Tok)(s:Bs)(st:RS):Bool:= !st.2&&Ae (Ab l st.1) s
def Aj(l:List Tok)(s:Bs)(st:RS):RS:=if A2 l s st then(st.1+1,st.2)else st
def AQ(l:List Tok)(s:Bs)(st:RS):RS:=if A2 l s st then(st.1+1,st.2)else(st.1,true)
def DR(st:RS):RS:=if st.2 then st else(st.1+1,st.2)
def Dj(l:List Tok)(st:RS):Bool:= !st.2&&((Ab l st.1).kind==0&&decide ((Ab l st.1).text.length≤10))
def A1(l:List Tok)(st:RS):Bs×RS:=if Dj l st then((Ab l st.1).text,(st.1+1,st.2))else([],(st.1,true))
def Au(l:List Tok)(L:List Bs)(st:RS):Bs:=if st.2 then []else(L.find? (Ae (Ab l st.1))).getD []
def A7(l:List Tok)(L:List Bs)(st:RS):Bs×RS:=(Au l L st,(Er (Au l L st) st.1,st.2))
abbrev OR(α:Type):=Option (α×RS)
abbrev FR(α:Type):=RS→OR α
def BB:Ex:=⟨hd0 0 [],.nil⟩
def BE(l:List Tok)(L:List Bs)(opnd:FR Ex):Nat→Ex→FR Ex
 | 0,_,_=>none
 |n+1,x,st=>if(Au l L st).isEmpty then some (x,(A7 l L st).2)else(opnd (A7 l L st).2).bind fun r=>BE l L opnd n (Aw (Au l L st) x r.1) r.2
def BF(l:List Tok)(L:List Bs)(n:Nat)(opnd:FR Ex):FR Ex:=fun st=>(opnd st).bind fun r=>BE l L opnd n r.1 r.2
def orL:List Bs:=[[46,79,82,46]]
def andL:List Bs:=[[46,65,78,68,46]]
def D0:List Bs:=[[46,78,79,84,46],[33]]
def CO:List Bs:=[[61],[61,61],[60,62],[35],[33,61],[60],[62],[60,61],[62,61],[36]]
def sumL:List Bs:=[[43],[45]]
def JQ:List Bs:=[[42],[47],[37]]
def primL:List Bs:=[[46,84,46],[46,70,46],[46,78,85,76,76,46],[40],[123],[64]]
def Eu(s:Bs):Bs:=if s=[35]∨s=[33,61]then [60,62]else s
def Df(l:List Tok)(sum:FR Ex):Nat→FR Ex
 | 0,_=>none
 | n+1,st=>
   if(Au l D0 st).isEmpty then(sum (A7 l D0 st).2).bind fun r=>
    if(Au l CO r.2).isEmpty then some (r.1,(A7 l CO r.2).2)else(sum (A7 l CO r.2).2).bind fun q=>some (Aw (Eu (Au l CO r.2)) r.1 q.1,q.2)
   else(Df l sum n (A7 l D0 st).2).bind fun r=>some (unE [46,78,79,84,46] r.1,r.2)
def D1(l:List Tok)(un:FR Ex):Nat→FR Ex
 | 0,_=>none
 |n+1,st=>(un st).bind fun r=>if A2 l [94] r.2 then(D1 l un n (Aj l [94] r.2)).bind fun q=>some (Aw [94] r.1 q.1,q.2)else some (r.1,Aj l [94] r.2)
def CP(l:List Tok)(expr:FR Ex):Nat→Ex→FR Ex
 | 0,_,_=>none
 |n+1,x,st=>if A2 l [91] st then(expr (Aj l [91] st)).bind fun r=>CP l expr n (Ct x r.1) (AQ l [93] r.2)else some (x,Aj l [91] st)
def Dw(l:List Tok)(expr prim:FR Ex)(N:Nat):Nat→FR Ex
 | 0,_=>none
 |n+1,st=>if A2 l [45] st then(Dw l expr prim N n (Aj l [45] st)).bind fun r=>some (unE [45] r.1,r.2)else(prim (Aj l [45] st)).bind fun r=>CP l expr N r.1 r.2
def DQ(l:List Tok)(expr:FR Ex):Nat→Fo→FR Fo
 | 0,_,_=>none
 |n+1,acc,st=>if A2 l [44] st then(expr (Aj l [44] st)).bind fun r=>DQ l expr n (acc.snoc r.1) r.2 else some (acc,Aj l [44] st)
def Dz(l:List Tok)(expr:FR Ex)(n:Nat):FR Fo:=fun st=>(expr st).bind fun r=>DQ l expr n (.one r.1) r.2
def Di(l:List Tok)(expr:FR Ex)(n:Nat)(s:Bs):FR Fo:=fun st=>
 if A2 l s st then some (.nil,Aj l s st)else(Dz l expr n (Aj l s st)).bind fun r=>some (r.1,AQ l s r.2)
def Dt(l:List Tok):Nat→List Bs→FR (List Bs)
 | 0,_,_=>none
 |n+1,acc,st=>if A2 l [44] st then Dt l n (acc++[(A1 l (Aj l [44] st)).1]) (A1 l (Aj l [44] st)).2 else some (acc,Aj l [44] st)
def EK(l:List Tok)(n:Nat):FR (List Bs):=fun st=>Dt l n [(A1 l st).1] (A1 l st).2
def EJ(l:List Tok)(expr:FR Ex):FR Ex:=fun st=>
 if A2 l [40] (AQ l [38] st)then(expr (Aj l [40] (AQ l [38] st))).bind fun r=>some (⟨hd0 9 [],.one r.1⟩,AQ l [41] r.2)
 else some (⟨hd0 9 (A1 l (Aj l [40] (AQ l [38] st))).1,.nil⟩,Aj l [46] (A1 l (Aj l [40] (AQ l [38] st))).2)
def DM(l:List Tok)(expr:FR Ex)(n:Nat):FR Ex:=fun st=>
 if Ae (Ab l (st.1+1)) [40]then(Di l expr n [41] (AQ l [40] (A1 l st).2)).bind fun r=>some (⟨hd0 3 (A1 l st).1,r.1⟩,r.2)
 else
  if A2 l [45,62] (A1 l st).2 then
   if A2 l [40] (Aj l [45,62] (A1 l st).2)then(expr (Aj l [40] (Aj l [45,62] (A1 l st).2))).bind fun r=>some (⟨hd0 2 (A1 l st).1,.one r.1⟩,AQ l [41] r.2)
   else some (⟨hd0 2 (A1 l st).1,.one (A6 (A1 l (Aj l [40] (Aj l [45,62] (A1 l st).2))).1)⟩,(A1 l (Aj l [40] (Aj l [45,62] (A1 l st).2))).2)
  else some (A6 (A1 l st).1,Aj l [45,62] (A1 l st).2)
def Ef(l:List Tok)(expr:FR Ex)(n:Nat):FR Ex:=fun st=>
 if A2 l [124] st then
  (if A2 l [124] (Aj l [124] st)then some ([],Aj l [124] (Aj l [124] st))else(EK l n (Aj l [124] (Aj l [124] st))).bind fun p=>some (p.1,AQ l [124] p.2)).bind fun p=>
   (expr p.2).bind fun r=>some (⟨⟨8,[],0,0,[],p.1⟩,.one r.1⟩,AQ l [125] r.2)
 else(Dz l expr n (Aj l [124] st)).bind fun r=>some (⟨hd0 7 [],r.1⟩,AQ l [125] r.2)
def DH(l:List Tok)(expr:FR Ex)(n:Nat):FR Ex:=fun st=>
 if Au l primL st=[46,84,46]then some (Az 1 1 [],(A7 l primL st).2)
 else if Au l primL st=[46,70,46]then some (Az 1 0 [],(A7 l primL st).2)
 else if Au l primL st=[46,78,85,76,76,46]then some (BB,(A7 l primL st).2)
 else if Au l primL st=[40]then(expr (A7 l primL st).2).bind fun r=>some (r.1,AQ l [41] r.2)
 else if Au l primL st=[123]then Ef l expr n (A7 l primL st).2
 else if Au l primL st=[64]then some (⟨hd0 10 (A1 l (A7 l primL st).2).1,.nil⟩,(A1 l (A7 l primL st).2).2)
 else some (BB,((A7 l primL st).2.1,true))
def BY(l:List Tok)(day:Bs→Int)(expr:FR Ex)(n:Nat):FR Ex:=fun st=>
 if st.2 then some (BB,st)
 else if(Ab l st.1).kind=1 then some (Az 2 (Aq (Ab l st.1).text) [],DR st)
 else if(Ab l st.1).kind=2∧(Ab l st.1).text.length≤2048 then some (Az 4 0 (Ab l st.1).text,DR st)
 else if(Ab l st.1).kind=3 then some (Az 3 (day (Ab l st.1).text) [],DR st)
 else if(Ab l st.1).kind=0 then DM l expr n st
 else if Ae (Ab l st.1) [38]then EJ l expr st
 else DH l expr n st
def sumR(l:List Tok)(n:Nat)(pow:FR Ex):FR Ex:=BF l sumL n (BF l JQ n pow)
def EQ(l:List Tok)(day:Bs→Int)(g:FR Ex)(n:Nat):FR Ex:=BF l orL n (BF l andL n (Df l (sumR l n (D1 l (Dw l g (BY l day g n) n n) n)) n))
def F4(l:List Tok)(day:Bs→Int):Nat→FR Ex
 | 0=>EQ l day (fun _=>none) 1
 |n+1=>EQ l day (F4 l day n) (n+1)
def EL{α:Type}:Res α→OR α→Prop
 | .ok x j,o=>o=some (x,(j,false))
 | .bad k,o=>∃x,o=some (x,(k,true))
 | .out,_=>True
theorem Do{α:Type}(x:α)(j:Nat)(o:OR α):EL (.ok x j) o=(o=some (x,(j,false))):=rfl
theorem IK{α:Type}(k:Nat)(o:OR α):EL (.bad k) o=∃x,o=some (x,(k,true)):=rfl
structure Sim{α:Type}(f:Nat→Res α)(g:FR α):Prop where
 go:∀i,EL (f i) (g (i,false))
 stop:∀i,∃x,g (i,true)=some (x,(i,true))
theorem DA(l:List Tok)(s:Bs)(i:Nat):A2 l s (i,true)=false:=rfl
theorem H5(l:List Tok)(s:Bs)(i:Nat):A2 l s (i,false)=Ae (Ab l i) s:=rfl
theorem DD(l:List Tok)(s:Bs)(i:Nat):Aj l s (i,true)=(i,true):=rfl
theorem MS(l:List Tok)(s:Bs)(i:Nat):AQ l s (i,true)=(i,true):=rfl
theorem M2(l:List Tok)(i:Nat):A1 l (i,true)=([],(i,true)):=rfl
theorem E5(l:List Tok)(L:List Bs)(i:Nat):Au l L (i,true)=[]:=rfl
theorem E9(l:List Tok)(L:List Bs)(i:Nat):A7 l L (i,true)=([],(i,true)):=rfl
theorem Gx{l:List Tok}{s:Bs}{i:Nat}(h:Ae (Ab l i) s=true):Aj l s (i,false)=(i+1,false):=by simp[Aj,A2,h]
theorem GE{l:List Tok}{s:Bs}{i:Nat}(h:Ae (Ab l i) s=false):Aj l s (i,false)=(i,false):=by simp[Aj,A2,h]
theorem Jo{l:List Tok}{s:Bs}{i:Nat}(h:Ae (Ab l i) s=true):AQ l s (i,false)=(i+1,false):=by simp[AQ,A2,h]
theorem J4{l:List Tok}{s:Bs}{i:Nat}(h:Ae (Ab l i) s=false):AQ l s (i,false)=(i,true):=by simp[AQ,A2,h]
theorem LM(m:Bs→Bs):∀(T:List (Bs×Bs)),(∀p∈T,m p.1=p.2)→∀t,T.lookup t=((T.map Prod.fst).find? (fun s=>t==s)).map m:=by
 intro T;induction T with
 |nil=>intro _ t;rfl
 | cons p T ih=>
   intro h t;obtain⟨a,b⟩:=p;have h0:=h (a,b) List.mem_cons_self;rw[List.lookup_cons,List.map_cons,List.find?_cons];cases hc:t==a with
   |true=>simp only[Option.map_some];exact congrArg some h0.symm
   |false=>exact ih (fun p hp=>h p (List.mem_cons_of_mem _ hp)) t
theorem NK(l:List Tok)(i:Nat)(k:Nat)(L:List Bs)(m:Bs→Bs)(hL:(lvl k).map Prod.fst=L)(hT:∀p∈lvl k,m p.1=p.2)(hm:∀s∈L,s≠[]∧m s≠[]):
 (Au l L (i,false)=[]∧Av l k i=[])∨(Au l L (i,false)≠[]∧Av l k i=m (Au l L (i,false))∧Av l k i≠[]):=by
 unfold Av Au Ae;simp only[Bool.false_eq_true,if_false];cases hk:(Ab l i).kind==4 with
 | false=>
   left;have e:L.find? (fun _=>false)=none:=by rw[List.find?_eq_none];simp
   simp[e]
 | true=>
   simp only[Bool.true_and,if_true];have ho:Cj k (Ab l i).text=((L.find? (fun s=>(Ab l i).text==s)).map m).getD []:=by
    unfold Cj;rw[LM m (lvl k) hT,hL]
   rw[ho];cases hf:L.find? (fun s=>(Ab l i).text==s)with
   |none=>left;exact⟨rfl,rfl⟩
   | some s=>
     right;have hs:=hm s (List.mem_of_find?_eq_some hf);exact⟨hs.1,rfl,hs.2⟩
theorem Sim.bind{α β:Type}{f:Nat→Res α}{g:FR α}{f2:α→Nat→Res β}{g2:α→FR β}(h:Sim f g)(h2:∀x,Sim (f2 x) (g2 x)):Sim (fun i=>(f i).bind f2) (fun st=>(g st).bind fun r=>g2 r.1 r.2):=by
 constructor
 ·intro i;have h0:=h.go i;cases hf:f i with
  |out=>trivial
  | bad k=>
    rw[hf]at h0;obtain⟨x,hx⟩:=h0;obtain⟨y,hy⟩:=(h2 x).stop k;refine⟨y,?_⟩;simp only[hx,Option.bind_some];exact hy
  | ok x j=>
    rw[hf,Do]at h0;have h3:=(h2 x).go j;simp only[Res.bind_ok,h0,Option.bind_some];exact h3
 ·intro i;obtain⟨x,hx⟩:=h.stop i;obtain⟨y,hy⟩:=(h2 x).stop i;exact⟨y,by simp only[hx,Option.bind_some];exact hy⟩
theorem Sim.pure{α:Type}(a:α):Sim (fun i=>Res.ok a i) (fun st=>some (a,st)):=⟨fun _=>rfl,fun _=>⟨a,rfl⟩⟩
theorem Sim.want(l:List Tok)(s:Bs){α:Type}(a:α):Sim (fun i=>(Ba l s i).bind fun _ j=> .ok a j) (fun st=>some (a,AQ l s st)):=by
 constructor
 ·intro i;unfold Ba;cases h:Ae (Ab l i) s with
  |true=>rw[if_pos rfl];simp only[Res.bind_ok];rw[Jo h];rfl
  |false=>rw[if_neg (by simp)];simp only[Res.bind_bad];exact⟨a,by rw[J4 h]⟩
 ·intro i;exact⟨a,rfl⟩
theorem Sim.wants{β:Type}(l:List Tok)(s:Bs){f:Nat→Res β}{g:FR β}(h:Sim f g):Sim (fun i=>(Ba l s i).bind fun _ j=>f j) (fun st=>g (AQ l s st)):=by
 constructor
 ·intro i;unfold Ba;cases hs:Ae (Ab l i) s with
  |true=>rw[if_pos rfl];simp only[Res.bind_ok];rw[Jo hs];exact h.go (i+1)
  | false=>
    rw[if_neg (by simp)];simp only[Res.bind_bad];rw[J4 hs];exact h.stop i
 ·intro i;rw[MS];exact h.stop i
theorem Sim.ifs{β:Type}(l:List Tok)(s:Bs){f f':Nat→Res β}{g g':FR β}(h:Sim f g)(h':Sim f' g'):
 Sim (fun i=>if Ae (Ab l i) s then f (i+1)else f' i) (fun st=>if A2 l s st then g (Aj l s st)else g' (Aj l s st)):=by
 constructor
 ·intro i;cases hs:Ae (Ab l i) s with
  |true=>simp only[H5,hs,if_true,Gx hs];exact h.go (i+1)
  |false=>simp only[H5,hs,GE hs,Bool.false_eq_true,if_false];exact h'.go i
 ·intro i;simp only[DA,DD,Bool.false_eq_true,if_false];exact h'.stop i
def C0(l:List Tok):Prop:=∀i,(Ab l i).kind=0→Al (Ab l i).text=decide ((Ab l i).text.length≤10)
theorem Sim.name{l:List Tok}(hn:C0 l){β:Type}{f:Bs→Nat→Res β}{g:Bs→FR β}(h:∀s,Sim (f s) (g s)):Sim (fun i=>(AT l i).bind f) (fun st=>g (A1 l st).1 (A1 l st).2):=by
 have hE:∀i,((Ab l i).kind==0&&Al (Ab l i).text)=Dj l (i,false):=by
  intro i;simp only[Dj,Bool.not_false,Bool.true_and];by_cases hk:(Ab l i).kind=0
  ·rw[hn i hk]
  ·have hk':((Ab l i).kind==0)=false:=by simpa using hk
   rw[hk'];rfl
 constructor
 ·intro i;show EL ((AT l i).bind f) (g (A1 l (i,false)).1 (A1 l (i,false)).2);simp only[AT,A1,hE];cases hs:Dj l (i,false)with
  |true=>simp only[if_true,Res.bind_ok];exact(h _).go (i+1)
  |false=>simp only[Bool.false_eq_true,if_false,Res.bind_bad];exact(h _).stop i
 ·intro i;simp only[M2];exact(h _).stop i
theorem Sim.oper(l:List Tok)(k:Nat)(L:List Bs)(m:Bs→Bs)(hL:(lvl k).map Prod.fst=L)(hT:∀p∈lvl k,m p.1=p.2)(hm:∀s∈L,s≠[]∧m s≠[]){β:Type}{f:Nat→Res β}{g:FR β}{f':Bs→Nat→Res β}{g':Bs→FR β}
 (h:Sim f g) (h':∀s,Sim (f' s) (g' s)):Sim (fun i=>if(Av l k i).isEmpty then f i else f' (Av l k i) (i+1)) (fun st=>if(Au l L st).isEmpty then g (A7 l L st).2 else g' (m (Au l L st)) (A7 l L st).2):=by
 constructor
 ·intro i;rcases NK l i k L m hL hT hm with⟨h1,h2⟩| ⟨h1,h2,h3⟩
  ·simp only[h1,h2,List.isEmpty_nil,if_true,A7,CH];exact h.go i
  ·have e1:(Av l k i).isEmpty=false:=by simpa using h3
   have e2:(Au l L (i,false)).isEmpty=false:=by simpa using h1
   simp only[e1,e2,Bool.false_eq_true,if_false,A7,CV h1];rw[←h2];exact(h' _).go (i+1)
 ·intro i;simp only[E5,E9,List.isEmpty_nil,if_true];exact h.stop i
theorem Q1{l:List Tok}{k:Nat}{L:List Bs}(hL:(lvl k).map Prod.fst=L)(hT:∀p∈lvl k,p.1=p.2)(hm:∀s∈L,s≠[]){f:Nat→Res Ex}{g:FR Ex}(h:Sim f g):∀n x,Sim (BJ l k f n x) (BE l L g (n+1) x):=by
 intro n;induction n with
 | zero=>
   intro x;refine⟨fun i=>trivial,fun i=>⟨x,?_⟩⟩;simp[BE,E5,E9]
 | succ n ih=>
   intro x;have h1:=Sim.oper l k L id hL (by simpa using hT) (fun s hs=>⟨hm s hs,hm s hs⟩) (Sim.pure x) (fun s=>h.bind fun y=>ih (Aw s x y));exact h1
theorem Fw{l:List Tok}{k:Nat}{L:List Bs}(hL:(lvl k).map Prod.fst=L)(hT:∀p∈lvl k,p.1=p.2)(hm:∀s∈L,s≠[]){f:Nat→Res Ex}{g:FR Ex}(h:Sim f g)(n:Nat):Sim (AK l k n f) (BF l L (n+1) g):=
 h.bind fun x=>Q1 hL hT hm h n x
theorem F_S(l:List Tok)(i:Nat):(Au l D0 (i,false)).isEmpty= !(Ae (Ab l i) [46,78,79,84,46]||Ae (Ab l i) [33]):=by
 unfold Au D0;simp only[Bool.false_eq_true,if_false,List.find?_cons,List.find?_nil];cases Ae (Ab l i) [46,78,79,84,46]<;>cases Ae (Ab l i) [33]<;>rfl
theorem QO{l:List Tok}{f:Nat→Res Ex}{g:FR Ex}(h:Sim f g):∀n,Sim (Bd l f n) (Df l g (n+1)):=by
 have hz:Sim (fun i=>(f i).bind fun x j=>if(Av l 2 j).isEmpty then .ok x j else(f (j+1)).bind fun y k=> .ok (Aw (Av l 2 j) x y) k)
  (fun st=>(g st).bind fun r=>if(Au l CO r.2).isEmpty then some (r.1,(A7 l CO r.2).2)else(g (A7 l CO r.2).2).bind fun q=>some (Aw (Eu (Au l CO r.2)) r.1 q.1,q.2)):=
  h.bind fun x=>Sim.oper l 2 CO Eu (by decide) (by decide) (by decide) (β:=Ex) (Sim.pure x) (fun s=>h.bind fun y=>Sim.pure (Aw s x y))
 intro n;induction n with
 | zero=>
   refine⟨fun i=>trivial,fun i=>?_⟩;obtain⟨x,hx⟩:=hz.stop i;exact⟨x,by simpa[Df,E5,E9]using hx⟩
 | succ n ih=>
   constructor
   ·intro i;rw[Bd,Df,F_S];cases hc:Ae (Ab l i) [46,78,79,84,46]||Ae (Ab l i) [33]with
    | true=>
      have he:Au l D0 (i,false)≠[]:=by
       have:=F_S l i;rw[hc]at this;intro e;rw[e]at this;simp at this
      simp only[if_true,Bool.not_true,Bool.false_eq_true,if_false,A7,CV he];exact(ih.bind fun x=>Sim.pure (unE [46,78,79,84,46] x)).go (i+1)
    | false=>
      have he:Au l D0 (i,false)=[]:=by
       have:=F_S l i;rw[hc]at this;simpa using this
      simp only[if_true,Bool.not_false,Bool.false_eq_true,if_false,A7,he,CH];exact hz.go i
   ·intro i;obtain⟨x,hx⟩:=hz.stop i;exact⟨x,by simpa[Df,E5,E9]using hx⟩
theorem oper5(l:List Tok)(i:Nat):Av l 5 i=if Ae (Ab l i) [94]then [94]else []:=by
 unfold Av Ae Cj lvl;cases(Ab l i).kind==4 with
 |false=>simp
 | true=>
   simp only[if_true,Bool.true_and,List.lookup];cases(Ab l i).text==[94]<;>rfl
theorem QP{l:List Tok}{f:Nat→Res Ex}{g:FR Ex}(h:Sim f g):∀n,Sim (AV l f n) (D1 l g (n+1)):=by
 intro n;induction n with
 | zero=>
   refine⟨fun i=>trivial,fun i=>?_⟩;obtain⟨x,hx⟩:=h.stop i;exact⟨x,by simp[D1,hx,DA,DD]⟩
 | succ n ih=>
   have h1:=h.bind fun x=>Sim.ifs l [94] (ih.bind fun y=>Sim.pure (Aw [94] x y)) (Sim.pure x);refine⟨fun i=>?_,h1.stop⟩;have h2:=h1.go i;have e:(f i).bind (fun x j=>if Ae (Ab l j) [94]then(AV l f n (j+1)).bind fun y k=> .ok (Aw [94] x y) k else .ok x j)=AV l f (n+1) i:=by
    rw[AV];congr 1;funext x j;rw[oper5];cases Ae (Ab l j) [94]<;>simp
   rw[←e];exact h2
theorem QN{l:List Tok}{f:Nat→Res Ex}{g:FR Ex}(h:Sim f g):∀n N x,n<N→Sim (B4 l f n x) (CP l g N x):=by
 intro n;induction n with
 | zero=>
   intro N x hN;obtain⟨M,rfl⟩:∃M,N=M+1:=⟨N-1,by omega⟩;exact⟨fun i=>trivial,fun i=>⟨x,by simp[CP,DA,DD]⟩⟩
 | succ n ih=>
   intro N x hN;obtain⟨M,rfl⟩:∃M,N=M+1:=⟨N-1,by omega⟩;exact Sim.ifs l [91] (h.bind fun y=>Sim.wants l [93] (ih M (Ct x y) (by omega))) (Sim.pure x)
theorem Pb{l:List Tok}{f p:Nat→Res Ex}{g q:FR Ex}(h:Sim f g)(hp:Sim p q)(N:Nat):∀n,n<N→Sim (Bi l f p n) (Dw l g q N (n+1)):=by
 intro n;induction n with
 | zero=>
   intro hN;refine⟨fun i=>trivial,fun i=>?_⟩;obtain⟨x,hx⟩:=hp.stop i;obtain⟨M,rfl⟩:∃M,N=M+1:=⟨N-1,by omega⟩;exact⟨x,by simp[Dw,CP,hx,DA,DD]⟩
 | succ n ih=>
   intro hN;exact Sim.ifs l [45] ((ih (by omega)).bind fun x=>Sim.pure (unE [45] x)) (hp.bind fun x=>QN h n N x (by omega))
theorem Q2{l:List Tok}{f:Nat→Res Ex}{g:FR Ex}(h:Sim f g):∀n x,Sim (BK l f n x) (DQ l g (n+1) x):=by
 intro n;induction n with
 |zero=>exact fun x=>⟨fun i=>trivial,fun i=>⟨x,by simp[DQ,DA,DD]⟩⟩
 |succ n ih=>exact fun x=>Sim.ifs l [44] (h.bind fun y=>ih (x.snoc y)) (Sim.pure x)
theorem Jk{l:List Tok}{f:Nat→Res Ex}{g:FR Ex}(h:Sim f g)(n:Nat):Sim (Ch l f n) (Dz l g (n+1)):=h.bind fun x=>Q2 h n _
theorem KE{l:List Tok}(hn:C0 l):∀n x,Sim (BN l n x) (Dt l (n+1) x):=by
 intro n;induction n with
 |zero=>exact fun x=>⟨fun i=>trivial,fun i=>⟨x,by simp[Dt,DA,DD]⟩⟩
 |succ n ih=>exact fun x=>Sim.ifs l [44] (Sim.name hn fun s=>ih (x++[s])) (Sim.pure x)
theorem Pa{l:List Tok}(hn:C0 l)(n:Nat):Sim (Ck l n) (EK l (n+1)):=Sim.name hn fun s=>KE hn n [s]
theorem Qz{l:List Tok}(hn:C0 l){f:Nat→Res Ex}{g:FR Ex}(h:Sim f g)(n:Nat):
 Sim (Cs l f n) (fun st=>(Di l g (n+1) [41] (AQ l [40] (A1 l st).2)).bind fun r=>some (⟨hd0 3 (A1 l st).1,r.1⟩,r.2)):=by
 have h1:∀s,Sim (fun j=>if Ae (Ab l j) [41]then Res.ok (⟨hd0 3 s,.nil⟩:Ex) (j+1)else(Ch l f n j).bind fun f k=>(Ba l [41] k).bind fun _ k=> .ok ⟨hd0 3 s,f⟩ k)
  (fun st=>(Di l g (n+1) [41] st).bind fun r=>some ((⟨hd0 3 s,r.1⟩:Ex),r.2)):=by
  intro s;have h2:=Sim.ifs l [41] (Sim.pure (⟨hd0 3 s,.nil⟩:Ex)) ((Jk (l:=l) h n).bind fun f=>Sim.want l [41] (⟨hd0 3 s,f⟩:Ex));have e:(fun st=>(Di l g (n+1) [41] st).bind fun r=>some ((⟨hd0 3 s,r.1⟩:Ex),r.2))=
   (fun st=>if A2 l [41] st then some ((⟨hd0 3 s,.nil⟩:Ex),Aj l [41] st)else(Dz l g (n+1) (Aj l [41] st)).bind fun r=>some ((⟨hd0 3 s,r.1⟩:Ex),AQ l [41] r.2)):=by
   funext st;unfold Di;cases A2 l [41] st with
   |true=>rfl
   |false=>simp only[Bool.false_eq_true,if_false];rw[Option.bind_assoc];rfl
  rw[e];exact h2
 exact Sim.name hn fun s=>Sim.wants l [40] (h1 s)
theorem OY{l:List Tok}(hn:C0 l){f:Nat→Res Ex}{g:FR Ex}(h:Sim f g):Sim (Cb l f) (EJ l g):=by
 have h1:=Sim.wants l [38] (Sim.ifs l [40] (h.bind fun x=>Sim.want l [41] (⟨hd0 9 [],.one x⟩:Ex)) (Sim.name hn (f:=fun s j=>Res.ok (⟨hd0 9 s,.nil⟩:Ex) (if Ae (Ab l j) [46]then j+1 else j)) (g:=fun s st=>some (⟨hd0 9 s,.nil⟩,Aj l [46] st)) (fun s=>?_)))
 ·exact h1
 ·constructor
  ·intro i;cases hs:Ae (Ab l i) [46]with
   |true=>simp only[if_true];rw[Gx hs];rfl
   |false=>simp only[Bool.false_eq_true,if_false];rw[GE hs];rfl
  ·exact fun i=>⟨_,rfl⟩
theorem OZ{l:List Tok}(hn:C0 l){f:Nat→Res Ex}{g:FR Ex}(h:Sim f g)(n:Nat):Sim (BH l f n) (DM l g (n+1)):=by
 have hc:=Qz hn h n;have hv:=Sim.name hn fun s=>Sim.ifs l [45,62] (Sim.ifs l [40] (h.bind fun x=>Sim.want l [41] (⟨hd0 2 s,.one x⟩:Ex)) (Sim.name hn fun t=>Sim.pure (⟨hd0 2 s,.one (A6 t)⟩:Ex))) (Sim.pure (A6 s));constructor
 ·intro i;unfold BH DM;cases hs:Ae (Ab l (i+1)) [40]with
  |true=>simp only[if_true];exact hc.go i
  |false=>simp only[Bool.false_eq_true,if_false];exact hv.go i
 ·intro i;unfold DM;cases hs:Ae (Ab l (i+1)) [40]with
  |true=>simp only[if_true];exact hc.stop i
  |false=>simp only[hs,Bool.false_eq_true,if_false];exact hv.stop i
theorem ME{l:List Tok}(hn:C0 l){f:Nat→Res Ex}{g:FR Ex}(h:Sim f g)(n:Nat):Sim (Cc l f n) (Ef l g (n+1)):=by
 have hp:=Sim.ifs l [124] (Sim.pure ([]:List Bs)) ((Pa hn n).bind fun p=>Sim.want l [124] p);have hb:=Sim.ifs l [124] (hp.bind fun p=>h.bind fun x=>Sim.want l [125] (⟨⟨8,[],0,0,[],p⟩,.one x⟩:Ex)) ((Jk (l:=l) h n).bind fun f=>Sim.want l [125] (⟨hd0 7 [],f⟩:Ex));exact hb
theorem DZ{l:List Tok}{L:List Bs}{i:Nat}{s:Bs}(hs:s∈L)(hne:s≠[]):Ae (Ab l i) s=decide (Au l L (i,false)=s):=by
 unfold Au;simp only[Bool.false_eq_true,if_false];cases hf:L.find? (Ae (Ab l i))with
 | none=>
   rw[List.find?_eq_none]at hf;have:=hf s hs;simp only[Option.getD_none];simp[Bool.eq_false_iff.2 this,hne.symm]
 | some t=>
   have h1:=List.find?_some hf;simp only[Option.getD_some];simp only[Ae,Bool.and_eq_true,beq_iff_eq]at h1;by_cases e:t=s
   ·subst e;simp[Ae,h1.1,h1.2]
   ·simp[Ae,h1.2,e]
theorem MF{l:List Tok}(hn:C0 l){f:Nat→Res Ex}{g:FR Ex}(h:Sim f g)(n i:Nat)(h38:Ae (Ab l i) [38]=false):EL (Bv l f n i) (DH l g (n+1) (i,false)):=by
 unfold Bv DH;rw[h38,DZ (L:=primL) (s:=[46,84,46]) (by decide) (by decide),DZ (L:=primL) (s:=[46,70,46]) (by decide) (by decide),DZ (L:=primL) (s:=[46,78,85,76,76,46]) (by decide) (by decide),
  DZ (L:=primL) (s:=[40]) (by decide) (by decide),DZ (L:=primL) (s:=[64]) (by decide) (by decide),DZ (L:=primL) (s:=[123]) (by decide) (by decide)]
 have hstep:Au l primL (i,false)≠[]→(A7 l primL (i,false)).2=(i+1,false):=fun hne=>by simp only[A7,CV hne]
 have hstop:Au l primL (i,false)=[]→(A7 l primL (i,false)).2=(i,false):=fun hne=>by simp only[A7,hne,CH]
 have hin:Au l primL (i,false)=[]∨Au l primL (i,false)∈primL:=by
  unfold Au;simp only[Bool.false_eq_true,if_false];cases hf:primL.find? (Ae (Ab l i))with
  |none=>left;rfl
  |some t=>right;exact List.mem_of_find?_eq_some hf
 simp only[Bool.false_eq_true,if_false,decide_eq_true_eq];generalize Au l primL (i,false)=S at*;have hS:S=[]∨S=[46,84,46]∨S=[46,70,46]∨S=[46,78,85,76,76,46]∨S=[40]∨S=[123]∨S=[64]:=by
  rcases hin with h|h
  ·exact .inl h
  ·right;simpa[primL]using h
 rcases hS with rfl|rfl|rfl|rfl|rfl|rfl|rfl
 ·rw[hstop rfl];simp[IK]
 ·rw[hstep (by decide)];simp[Do]
 ·rw[hstep (by decide)];simp[Do]
 ·rw[hstep (by decide)];simp[Do,BB,Az,hd0]
 ·rw[hstep (by decide)];simp only[show(([40]:Bs)=[46,84,46])=False by decide+kernel,show(([40]:Bs)=[46,70,46])=False by decide+kernel,show(([40]:Bs)=[46,78,85,76,76,46])=False by decide+kernel,if_false,if_true];exact(h.bind fun x=>Sim.want l [41] x).go (i+1)
 ·rw[hstep (by decide)];simp only[show(([123]:Bs)=[46,84,46])=False by decide+kernel,show(([123]:Bs)=[46,70,46])=False by decide+kernel,show(([123]:Bs)=[46,78,85,76,76,46])=False by decide+kernel,show(([123]:Bs)=[40])=False by decide+kernel,show(([123]:Bs)=[64])=False by decide+kernel,if_false,if_true];exact(ME hn h n).go (i+1)
 ·rw[hstep (by decide)];simp only[show(([64]:Bs)=[46,84,46])=False by decide+kernel,show(([64]:Bs)=[46,70,46])=False by decide+kernel,show(([64]:Bs)=[46,78,85,76,76,46])=False by decide+kernel,show(([64]:Bs)=[40])=False by decide+kernel,show(([64]:Bs)=[123])=False by decide+kernel,if_false,if_true];exact(Sim.name hn fun s=>Sim.pure (⟨hd0 10 s,.nil⟩:Ex)).go (i+1)
theorem Q3{l:List Tok}(hn:C0 l)(day:Bs→Int){f:Nat→Res Ex}{g:FR Ex}(h:Sim f g)(n:Nat):Sim (AZ l day f n) (BY l day g (n+1)):=by
 constructor
 ·intro i;unfold AZ BY;simp only[Bool.false_eq_true,if_false,beq_iff_eq];by_cases h1:(Ab l i).kind=1
  ·simp[h1,DR,Do]
  by_cases h2:(Ab l i).kind=2
  ·simp only[h2,show((2:Int)=1)=False by decide+kernel,show((2:Int)=3)=False by decide+kernel,show((2:Int)=0)=False by decide+kernel,if_false,if_true,true_and];by_cases hl:(Ab l i).text.length≤2048
   ·rw[if_neg (by omega),if_pos hl];simp[DR,Do]
   ·rw[if_pos (by omega),if_neg hl];have h38:∀s,Ae (Ab l i) s=false:=by intro s;simp[Ae,h2]
    rw[h38];simp only[Bool.false_eq_true,if_false];have hs:Au l primL (i,false)=[]:=by
     unfold Au;simp only[Bool.false_eq_true,if_false];rw[List.find?_eq_none.2 (fun x _=>by rw[h38];simp)];rfl
    exact⟨BB,by simp[DH,A7,hs,CH]⟩
  by_cases h3:(Ab l i).kind=3
  ·simp[h3,DR,Do]
  by_cases h0:(Ab l i).kind=0
  ·simp only[h0,show((0:Int)=1)=False by decide+kernel,show((0:Int)=2)=False by decide+kernel,show((0:Int)=3)=False by decide+kernel,if_false,if_true,false_and];exact(OZ hn h n).go i
  simp only[h1,h2,h3,h0,if_false,false_and];cases h38:Ae (Ab l i) [38]with
  | true=>
    have:Bv l f n i=Cb l f i:=by unfold Bv;rw[h38,if_pos rfl]
    rw[this];simp only[if_true];exact(OY hn h).go i
  | false=>
    simp only[Bool.false_eq_true,if_false];exact MF hn h n i h38
 ·intro i;exact⟨BB,by simp[BY]⟩
theorem MI(l:List Tok)(day:Bs→Int)(g:FR Ex)(i:Nat):EQ l day g 1 (i,true)=some (BB,(i,true)):=by
 simp[EQ,BF,BE,Df,sumR,D1,Dw,CP,BY,E5,E9,DA,DD]
theorem Q0{l:List Tok}(hn:C0 l)(day:Bs→Int):∀n,Sim (A8 l day n) (F4 l day n):=by
 intro n;induction n with
 |zero=>exact⟨fun i=>trivial,fun i=>⟨BB,MI _ _ _ _⟩⟩
 | succ n ih=>
   exact Fw (k:=0) (by decide) (by decide) (by decide) (Fw (k:=1) (by decide) (by decide) (by decide) (QO (Fw (k:=3) (by decide) (by decide) (by decide) (Fw (k:=4) (by decide) (by decide) (by decide) (QP (Pb ih (Q3 hn day ih n) (n+1) n (by omega)) n) n) n) n) n) n
end Go.Proofs.YtgjdhajcnechdaaGreatDoor
