/-
  Plain laws: the reference's reader of expressions as a function of its state (the place, and whether something was wrong), with fuel; it answers as the grammar 'exprM' does. append onto a slice that t
-/
import Derived.Test.YtgjdhajcnechdaaGreatDoorSw02
import Derived.Test.YtgjdhajcnechdaaGreatDoorSw04
import Derived.Test.YtgjdhajcnechdaaGreatDoorPlain
set_option linter.all false
set_option maxRecDepth 100000
set_option maxHeartbeats 8000000
namespace Go.Proofs.YtgjdhajcnechdaaGreatDoor
open Go.Proofs.Tryz
abbrev RS:=Nat×Bool
def A4(l:List Tok)(s:Bs)(st:RS):Bool:= !st.2&&Ae (Ab l st.1) s
def Ak(l:List Tok)(s:Bs)(st:RS):RS:=if A4 l s st then(st.1+1,st.2)else st
def AR(l:List Tok)(s:Bs)(st:RS):RS:=if A4 l s st then(st.1+1,st.2)else(st.1,true)
def Eg(st:RS):RS:=if st.2 then st else(st.1+1,st.2)
def D9(l:List Tok)(st:RS):Bool:= !st.2&&((Ab l st.1).kind==0&&decide ((Ab l st.1).text.length≤10))
def A3(l:List Tok)(st:RS):Bs×RS:=if D9 l st then((Ab l st.1).text,(st.1+1,st.2))else([],(st.1,true))
def Au(l:List Tok)(L:List Bs)(st:RS):Bs:=if st.2 then []else(L.find? (Ae (Ab l st.1))).getD []
def A6(l:List Tok)(L:List Bs)(st:RS):Bs×RS:=(Au l L st,(E9 (Au l L st) st.1,st.2))
abbrev OR(α:Type):=Option (α×RS)
abbrev FR(α:Type):=RS→OR α
def BH:Ex:=⟨hd0 0 [],.nil⟩
def BV(l:List Tok)(L:List Bs)(opnd:FR Ex):Nat→Ex→FR Ex
 | 0,_,_=>none
 |n+1,x,st=>if(Au l L st).isEmpty then some (x,(A6 l L st).2)else(opnd (A6 l L st).2).bind fun r=>BV l L opnd n (Ax (Au l L st) x r.1) r.2
def BL(l:List Tok)(L:List Bs)(n:Nat)(opnd:FR Ex):FR Ex:=fun st=>(opnd st).bind fun r=>BV l L opnd n r.1 r.2
def orL:List Bs:=[[46,79,82,46]]
def andL:List Bs:=[[46,65,78,68,46]]
def DH:List Bs:=[[46,78,79,84,46],[33]]
def Dd:List Bs:=[[61],[61,61],[60,62],[35],[33,61],[60],[62],[60,61],[62,61],[36]]
def sumL:List Bs:=[[43],[45]]
def Kx:List Bs:=[[42],[47],[37]]
def primL:List Bs:=[[46,84,46],[46,70,46],[46,78,85,76,76,46],[40],[123],[64]]
def EB(s:Bs):Bs:=if s=[35]∨s=[33,61]then [60,62]else s
def Dw(l:List Tok)(sum:FR Ex):Nat→FR Ex
 | 0,_=>none
 | n+1,st=>
   if(Au l DH st).isEmpty then(sum (A6 l DH st).2).bind fun r=>
    if(Au l Dd r.2).isEmpty then some (r.1,(A6 l Dd r.2).2)else(sum (A6 l Dd r.2).2).bind fun q=>some (Ax (EB (Au l Dd r.2)) r.1 q.1,q.2)
   else(Dw l sum n (A6 l DH st).2).bind fun r=>some (unE [46,78,79,84,46] r.1,r.2)
def DF(l:List Tok)(un:FR Ex):Nat→FR Ex
 | 0,_=>none
 |n+1,st=>(un st).bind fun r=>if A4 l [94] r.2 then(DF l un n (Ak l [94] r.2)).bind fun q=>some (Ax [94] r.1 q.1,q.2)else some (r.1,Ak l [94] r.2)
def De(l:List Tok)(expr:FR Ex):Nat→Ex→FR Ex
 | 0,_,_=>none
 |n+1,x,st=>if A4 l [91] st then(expr (Ak l [91] st)).bind fun r=>De l expr n (C5 x r.1) (AR l [93] r.2)else some (x,Ak l [91] st)
def DB(l:List Tok)(expr prim:FR Ex)(N:Nat):Nat→FR Ex
 | 0,_=>none
 |n+1,st=>if A4 l [45] st then(DB l expr prim N n (Ak l [45] st)).bind fun r=>some (unE [45] r.1,r.2)else(prim (Ak l [45] st)).bind fun r=>De l expr N r.1 r.2
def Ef(l:List Tok)(expr:FR Ex):Nat→Fo→FR Fo
 | 0,_,_=>none
 |n+1,acc,st=>if A4 l [44] st then(expr (Ak l [44] st)).bind fun r=>Ef l expr n (acc.snoc r.1) r.2 else some (acc,Ak l [44] st)
def DC(l:List Tok)(expr:FR Ex)(n:Nat):FR Fo:=fun st=>(expr st).bind fun r=>Ef l expr n (.one r.1) r.2
def D8(l:List Tok)(expr:FR Ex)(n:Nat)(s:Bs):FR Fo:=fun st=>
 if A4 l s st then some (.nil,Ak l s st)else(DC l expr n (Ak l s st)).bind fun r=>some (r.1,AR l s r.2)
def D5(l:List Tok):Nat→List Bs→FR (List Bs)
 | 0,_,_=>none
 |n+1,acc,st=>if A4 l [44] st then D5 l n (acc++[(A3 l (Ak l [44] st)).1]) (A3 l (Ak l [44] st)).2 else some (acc,Ak l [44] st)
def Fd(l:List Tok)(n:Nat):FR (List Bs):=fun st=>D5 l n [(A3 l st).1] (A3 l st).2
def Fc(l:List Tok)(expr:FR Ex):FR Ex:=fun st=>
 if A4 l [40] (AR l [38] st)then(expr (Ak l [40] (AR l [38] st))).bind fun r=>some (⟨hd0 9 [],.one r.1⟩,AR l [41] r.2)
 else some (⟨hd0 9 (A3 l (Ak l [40] (AR l [38] st))).1,.nil⟩,Ak l [46] (A3 l (Ak l [40] (AR l [38] st))).2)
def Ed(l:List Tok)(expr:FR Ex)(n:Nat):FR Ex:=fun st=>
 if Ae (Ab l (st.1+1)) [40]then(D8 l expr n [41] (AR l [40] (A3 l st).2)).bind fun r=>some (⟨hd0 3 (A3 l st).1,r.1⟩,r.2)
 else
  if A4 l [45,62] (A3 l st).2 then
   if A4 l [40] (Ak l [45,62] (A3 l st).2)then(expr (Ak l [40] (Ak l [45,62] (A3 l st).2))).bind fun r=>some (⟨hd0 2 (A3 l st).1,.one r.1⟩,AR l [41] r.2)
   else some (⟨hd0 2 (A3 l st).1,.one (A5 (A3 l (Ak l [40] (Ak l [45,62] (A3 l st).2))).1)⟩,(A3 l (Ak l [40] (Ak l [45,62] (A3 l st).2))).2)
  else some (A5 (A3 l st).1,Ak l [45,62] (A3 l st).2)
def Ez(l:List Tok)(expr:FR Ex)(n:Nat):FR Ex:=fun st=>
 if A4 l [124] st then
  (if A4 l [124] (Ak l [124] st)then some ([],Ak l [124] (Ak l [124] st))else(Fd l n (Ak l [124] (Ak l [124] st))).bind fun p=>some (p.1,AR l [124] p.2)).bind fun p=>
   (expr p.2).bind fun r=>some (⟨⟨8,[],0,0,[],p.1⟩,.one r.1⟩,AR l [125] r.2)
 else(DC l expr n (Ak l [124] st)).bind fun r=>some (⟨hd0 7 [],r.1⟩,AR l [125] r.2)
def DX(l:List Tok)(expr:FR Ex)(n:Nat):FR Ex:=fun st=>
 if Au l primL st=[46,84,46]then some (A0 1 1 [],(A6 l primL st).2)
 else if Au l primL st=[46,70,46]then some (A0 1 0 [],(A6 l primL st).2)
 else if Au l primL st=[46,78,85,76,76,46]then some (BH,(A6 l primL st).2)
 else if Au l primL st=[40]then(expr (A6 l primL st).2).bind fun r=>some (r.1,AR l [41] r.2)
 else if Au l primL st=[123]then Ez l expr n (A6 l primL st).2
 else if Au l primL st=[64]then some (⟨hd0 10 (A3 l (A6 l primL st).2).1,.nil⟩,(A3 l (A6 l primL st).2).2)
 else some (BH,((A6 l primL st).2.1,true))
def Ci(l:List Tok)(day:Bs→Int)(expr:FR Ex)(n:Nat):FR Ex:=fun st=>
 if st.2 then some (BH,st)
 else if(Ab l st.1).kind=1 then some (A0 2 (As (Ab l st.1).text) [],Eg st)
 else if(Ab l st.1).kind=2∧(Ab l st.1).text.length≤2048 then some (A0 4 0 (Ab l st.1).text,Eg st)
 else if(Ab l st.1).kind=3 then some (A0 3 (day (Ab l st.1).text) [],Eg st)
 else if(Ab l st.1).kind=0 then Ed l expr n st
 else if Ae (Ab l st.1) [38]then Fc l expr st
 else DX l expr n st
def sumR(l:List Tok)(n:Nat)(pow:FR Ex):FR Ex:=BL l sumL n (BL l Kx n pow)
def Fi(l:List Tok)(day:Bs→Int)(g:FR Ex)(n:Nat):FR Ex:=BL l orL n (BL l andL n (Dw l (sumR l n (DF l (DB l g (Ci l day g n) n n) n)) n))
def FU(l:List Tok)(day:Bs→Int):Nat→FR Ex
 | 0=>Fi l day (fun _=>none) 1
 |n+1=>Fi l day (FU l day n) (n+1)
def Fe{α:Type}:Res α→OR α→Prop
 | .ok x j,o=>o=some (x,(j,false))
 | .bad k,o=>∃x,o=some (x,(k,true))
 | .out,_=>True
theorem D1{α:Type}(x:α)(j:Nat)(o:OR α):Fe (.ok x j) o=(o=some (x,(j,false))):=rfl
theorem Jg{α:Type}(k:Nat)(o:OR α):Fe (.bad k) o=∃x,o=some (x,(k,true)):=rfl
structure Sim{α:Type}(f:Nat→Res α)(g:FR α):Prop where
 go:∀i,Fe (f i) (g (i,false))
 stop:∀i,∃x,g (i,true)=some (x,(i,true))
theorem DT(l:List Tok)(s:Bs)(i:Nat):A4 l s (i,true)=false:=rfl
theorem I0(l:List Tok)(s:Bs)(i:Nat):A4 l s (i,false)=Ae (Ab l i) s:=rfl
theorem DS(l:List Tok)(s:Bs)(i:Nat):Ak l s (i,true)=(i,true):=rfl
theorem O2(l:List Tok)(s:Bs)(i:Nat):AR l s (i,true)=(i,true):=rfl
theorem MK(l:List Tok)(i:Nat):A3 l (i,true)=([],(i,true)):=rfl
theorem EP(l:List Tok)(L:List Bs)(i:Nat):Au l L (i,true)=[]:=rfl
theorem EK(l:List Tok)(L:List Bs)(i:Nat):A6 l L (i,true)=([],(i,true)):=rfl
theorem GS{l:List Tok}{s:Bs}{i:Nat}(h:Ae (Ab l i) s=true):Ak l s (i,false)=(i+1,false):=by simp[Ak,A4,h]
theorem Hk{l:List Tok}{s:Bs}{i:Nat}(h:Ae (Ab l i) s=false):Ak l s (i,false)=(i,false):=by simp[Ak,A4,h]
theorem JP{l:List Tok}{s:Bs}{i:Nat}(h:Ae (Ab l i) s=true):AR l s (i,false)=(i+1,false):=by simp[AR,A4,h]
theorem Kf{l:List Tok}{s:Bs}{i:Nat}(h:Ae (Ab l i) s=false):AR l s (i,false)=(i,true):=by simp[AR,A4,h]
theorem LS(m:Bs→Bs):∀(T:List (Bs×Bs)),(∀p∈T,m p.1=p.2)→∀t,T.lookup t=((T.map Prod.fst).find? (fun s=>t==s)).map m:=by
 intro T;induction T with
 |nil=>intro _ t;rfl
 | cons p T ih=>
   intro h t;obtain⟨a,b⟩:=p;have h0:=h (a,b) List.mem_cons_self;rw[List.lookup_cons,List.map_cons,List.find?_cons];cases hc:t==a with
   |true=>simp only[Option.map_some];exact congrArg some h0.symm
   |false=>exact ih (fun p hp=>h p (List.mem_cons_of_mem _ hp)) t
theorem O7(l:List Tok)(i:Nat)(k:Nat)(L:List Bs)(m:Bs→Bs)(hL:(lvl k).map Prod.fst=L)(hT:∀p∈lvl k,m p.1=p.2)(hm:∀s∈L,s≠[]∧m s≠[]):
 (Au l L (i,false)=[]∧Aw l k i=[])∨(Au l L (i,false)≠[]∧Aw l k i=m (Au l L (i,false))∧Aw l k i≠[]):=by
 unfold Aw Au Ae;simp only[Bool.false_eq_true,if_false];cases hk:(Ab l i).kind==4 with
 | false=>
   left;have e:L.find? (fun _=>false)=none:=by rw[List.find?_eq_none];simp
   simp[e]
 | true=>
   simp only[Bool.true_and,if_true];have ho:Cs k (Ab l i).text=((L.find? (fun s=>(Ab l i).text==s)).map m).getD []:=by
    unfold Cs;rw[LS m (lvl k) hT,hL]
   rw[ho];cases hf:L.find? (fun s=>(Ab l i).text==s)with
   |none=>left;exact⟨rfl,rfl⟩
   | some s=>
     right;have hs:=hm s (List.mem_of_find?_eq_some hf);exact⟨hs.1,rfl,hs.2⟩
theorem Sim.bind{α β:Type}{f:Nat→Res α}{g:FR α}{f2:α→Nat→Res β}{g2:α→FR β}(h:Sim f g)(h2:∀x,Sim (f2 x) (g2 x)):Sim (fun i=>(f i).bind f2) (fun st=>(g st).bind fun r=>g2 r.1 r.2):=by
 constructor
 ·intro i;have h0:=h.go i;cases hf:f i with
  |out=>trivial
  | bad k=>
    rw[hf]at h0;obtain⟨x,hx⟩:=h0;obtain⟨y,hy⟩:=(h2 x).stop k;refine⟨y,?_⟩;simp only[hx,Option.bind_some];exact hy
  | ok x j=>
    rw[hf,D1]at h0;have h3:=(h2 x).go j;simp only[Res.bind_ok,h0,Option.bind_some];exact h3
 ·intro i;obtain⟨x,hx⟩:=h.stop i;obtain⟨y,hy⟩:=(h2 x).stop i;exact⟨y,by simp only[hx,Option.bind_some];exact hy⟩
theorem Sim.pure{α:Type}(a:α):Sim (fun i=>Res.ok a i) (fun st=>some (a,st)):=⟨fun _=>rfl,fun _=>⟨a,rfl⟩⟩
theorem Sim.want(l:List Tok)(s:Bs){α:Type}(a:α):Sim (fun i=>(Be l s i).bind fun _ j=> .ok a j) (fun st=>some (a,AR l s st)):=by
 constructor
 ·intro i;unfold Be;cases h:Ae (Ab l i) s with
  |true=>rw[if_pos rfl];simp only[Res.bind_ok];rw[JP h];rfl
  |false=>rw[if_neg (by simp)];simp only[Res.bind_bad];exact⟨a,by rw[Kf h]⟩
 ·intro i;exact⟨a,rfl⟩
theorem Sim.wants{β:Type}(l:List Tok)(s:Bs){f:Nat→Res β}{g:FR β}(h:Sim f g):Sim (fun i=>(Be l s i).bind fun _ j=>f j) (fun st=>g (AR l s st)):=by
 constructor
 ·intro i;unfold Be;cases hs:Ae (Ab l i) s with
  |true=>rw[if_pos rfl];simp only[Res.bind_ok];rw[JP hs];exact h.go (i+1)
  | false=>
    rw[if_neg (by simp)];simp only[Res.bind_bad];rw[Kf hs];exact h.stop i
 ·intro i;rw[O2];exact h.stop i
theorem Sim.ifs{β:Type}(l:List Tok)(s:Bs){f f':Nat→Res β}{g g':FR β}(h:Sim f g)(h':Sim f' g'):
 Sim (fun i=>if Ae (Ab l i) s then f (i+1)else f' i) (fun st=>if A4 l s st then g (Ak l s st)else g' (Ak l s st)):=by
 constructor
 ·intro i;cases hs:Ae (Ab l i) s with
  |true=>simp only[I0,hs,if_true,GS hs];exact h.go (i+1)
  |false=>simp only[I0,hs,Hk hs,Bool.false_eq_true,if_false];exact h'.go i
 ·intro i;simp only[DT,DS,Bool.false_eq_true,if_false];exact h'.stop i
def CC(l:List Tok):Prop:=∀i,(Ab l i).kind=0→An (Ab l i).text=decide ((Ab l i).text.length≤10)
theorem Sim.name{l:List Tok}(hn:CC l){β:Type}{f:Bs→Nat→Res β}{g:Bs→FR β}(h:∀s,Sim (f s) (g s)):Sim (fun i=>(AV l i).bind f) (fun st=>g (A3 l st).1 (A3 l st).2):=by
 have hE:∀i,((Ab l i).kind==0&&An (Ab l i).text)=D9 l (i,false):=by
  intro i;simp only[D9,Bool.not_false,Bool.true_and];by_cases hk:(Ab l i).kind=0
  ·rw[hn i hk]
  ·have hk':((Ab l i).kind==0)=false:=by simpa using hk
   rw[hk'];rfl
 constructor
 ·intro i;show Fe ((AV l i).bind f) (g (A3 l (i,false)).1 (A3 l (i,false)).2);simp only[AV,A3,hE];cases hs:D9 l (i,false)with
  |true=>simp only[if_true,Res.bind_ok];exact(h _).go (i+1)
  |false=>simp only[Bool.false_eq_true,if_false,Res.bind_bad];exact(h _).stop i
 ·intro i;simp only[MK];exact(h _).stop i
theorem Sim.oper(l:List Tok)(k:Nat)(L:List Bs)(m:Bs→Bs)(hL:(lvl k).map Prod.fst=L)(hT:∀p∈lvl k,m p.1=p.2)(hm:∀s∈L,s≠[]∧m s≠[]){β:Type}{f:Nat→Res β}{g:FR β}{f':Bs→Nat→Res β}{g':Bs→FR β}
 (h:Sim f g) (h':∀s,Sim (f' s) (g' s)):Sim (fun i=>if(Aw l k i).isEmpty then f i else f' (Aw l k i) (i+1)) (fun st=>if(Au l L st).isEmpty then g (A6 l L st).2 else g' (m (Au l L st)) (A6 l L st).2):=by
 constructor
 ·intro i;rcases O7 l i k L m hL hT hm with⟨h1,h2⟩| ⟨h1,h2,h3⟩
  ·simp only[h1,h2,List.isEmpty_nil,if_true,A6,Da];exact h.go i
  ·have e1:(Aw l k i).isEmpty=false:=by simpa using h3
   have e2:(Au l L (i,false)).isEmpty=false:=by simpa using h1
   simp only[e1,e2,Bool.false_eq_true,if_false,A6,Dj h1];rw[←h2];exact(h' _).go (i+1)
 ·intro i;simp only[EP,EK,List.isEmpty_nil,if_true];exact h.stop i
theorem Q2{l:List Tok}{k:Nat}{L:List Bs}(hL:(lvl k).map Prod.fst=L)(hT:∀p∈lvl k,p.1=p.2)(hm:∀s∈L,s≠[]){f:Nat→Res Ex}{g:FR Ex}(h:Sim f g):∀n x,Sim (BP l k f n x) (BV l L g (n+1) x):=by
 intro n;induction n with
 | zero=>
   intro x;refine⟨fun i=>trivial,fun i=>⟨x,?_⟩⟩;simp[BV,EP,EK]
 | succ n ih=>
   intro x;have h1:=Sim.oper l k L id hL (by simpa using hT) (fun s hs=>⟨hm s hs,hm s hs⟩) (Sim.pure x) (fun s=>h.bind fun y=>ih (Ax s x y));exact h1
theorem FF{l:List Tok}{k:Nat}{L:List Bs}(hL:(lvl k).map Prod.fst=L)(hT:∀p∈lvl k,p.1=p.2)(hm:∀s∈L,s≠[]){f:Nat→Res Ex}{g:FR Ex}(h:Sim f g)(n:Nat):Sim (AP l k n f) (BL l L (n+1) g):=
 h.bind fun x=>Q2 hL hT hm h n x
theorem GF(l:List Tok)(i:Nat):(Au l DH (i,false)).isEmpty= !(Ae (Ab l i) [46,78,79,84,46]||Ae (Ab l i) [33]):=by
 unfold Au DH;simp only[Bool.false_eq_true,if_false,List.find?_cons,List.find?_nil];cases Ae (Ab l i) [46,78,79,84,46]<;>cases Ae (Ab l i) [33]<;>rfl
theorem SL{l:List Tok}{f:Nat→Res Ex}{g:FR Ex}(h:Sim f g):∀n,Sim (Bg l f n) (Dw l g (n+1)):=by
 have hz:Sim (fun i=>(f i).bind fun x j=>if(Aw l 2 j).isEmpty then .ok x j else(f (j+1)).bind fun y k=> .ok (Ax (Aw l 2 j) x y) k)
  (fun st=>(g st).bind fun r=>if(Au l Dd r.2).isEmpty then some (r.1,(A6 l Dd r.2).2)else(g (A6 l Dd r.2).2).bind fun q=>some (Ax (EB (Au l Dd r.2)) r.1 q.1,q.2)):=
  h.bind fun x=>Sim.oper l 2 Dd EB (by decide) (by decide) (by decide) (β:=Ex) (Sim.pure x) (fun s=>h.bind fun y=>Sim.pure (Ax s x y))
 intro n;induction n with
 | zero=>
   refine⟨fun i=>trivial,fun i=>?_⟩;obtain⟨x,hx⟩:=hz.stop i;exact⟨x,by simpa[Dw,EP,EK]using hx⟩
 | succ n ih=>
   constructor
   ·intro i;rw[Bg,Dw,GF];cases hc:Ae (Ab l i) [46,78,79,84,46]||Ae (Ab l i) [33]with
    | true=>
      have he:Au l DH (i,false)≠[]:=by
       have:=GF l i;rw[hc]at this;intro e;rw[e]at this;simp at this
      simp only[if_true,Bool.not_true,Bool.false_eq_true,if_false,A6,Dj he];exact(ih.bind fun x=>Sim.pure (unE [46,78,79,84,46] x)).go (i+1)
    | false=>
      have he:Au l DH (i,false)=[]:=by
       have:=GF l i;rw[hc]at this;simpa using this
      simp only[if_true,Bool.not_false,Bool.false_eq_true,if_false,A6,he,Da];exact hz.go i
   ·intro i;obtain⟨x,hx⟩:=hz.stop i;exact⟨x,by simpa[Dw,EP,EK]using hx⟩
theorem oper5(l:List Tok)(i:Nat):Aw l 5 i=if Ae (Ab l i) [94]then [94]else []:=by
 unfold Aw Ae Cs lvl;cases(Ab l i).kind==4 with
 |false=>simp
 | true=>
   simp only[if_true,Bool.true_and,List.lookup];cases(Ab l i).text==[94]<;>rfl
theorem SM{l:List Tok}{f:Nat→Res Ex}{g:FR Ex}(h:Sim f g):∀n,Sim (AY l f n) (DF l g (n+1)):=by
 intro n;induction n with
 | zero=>
   refine⟨fun i=>trivial,fun i=>?_⟩;obtain⟨x,hx⟩:=h.stop i;exact⟨x,by simp[DF,hx,DT,DS]⟩
 | succ n ih=>
   have h1:=h.bind fun x=>Sim.ifs l [94] (ih.bind fun y=>Sim.pure (Ax [94] x y)) (Sim.pure x);refine⟨fun i=>?_,h1.stop⟩;have h2:=h1.go i;have e:(f i).bind (fun x j=>if Ae (Ab l j) [94]then(AY l f n (j+1)).bind fun y k=> .ok (Ax [94] x y) k else .ok x j)=AY l f (n+1) i:=by
    rw[AY];congr 1;funext x j;rw[oper5];cases Ae (Ab l j) [94]<;>simp
   rw[←e];exact h2
theorem SK{l:List Tok}{f:Nat→Res Ex}{g:FR Ex}(h:Sim f g):∀n N x,n<N→Sim (B8 l f n x) (De l g N x):=by
 intro n;induction n with
 | zero=>
   intro N x hN;obtain⟨M,rfl⟩:∃M,N=M+1:=⟨N-1,by omega⟩;exact⟨fun i=>trivial,fun i=>⟨x,by simp[De,DT,DS]⟩⟩
 | succ n ih=>
   intro N x hN;obtain⟨M,rfl⟩:∃M,N=M+1:=⟨N-1,by omega⟩;exact Sim.ifs l [91] (h.bind fun y=>Sim.wants l [93] (ih M (C5 x y) (by omega))) (Sim.pure x)
theorem OU{l:List Tok}{f p:Nat→Res Ex}{g q:FR Ex}(h:Sim f g)(hp:Sim p q)(N:Nat):∀n,n<N→Sim (Bm l f p n) (DB l g q N (n+1)):=by
 intro n;induction n with
 | zero=>
   intro hN;refine⟨fun i=>trivial,fun i=>?_⟩;obtain⟨x,hx⟩:=hp.stop i;obtain⟨M,rfl⟩:∃M,N=M+1:=⟨N-1,by omega⟩;exact⟨x,by simp[DB,De,hx,DT,DS]⟩
 | succ n ih=>
   intro hN;exact Sim.ifs l [45] ((ih (by omega)).bind fun x=>Sim.pure (unE [45] x)) (hp.bind fun x=>SK h n N x (by omega))
theorem Q3{l:List Tok}{f:Nat→Res Ex}{g:FR Ex}(h:Sim f g):∀n x,Sim (BQ l f n x) (Ef l g (n+1) x):=by
 intro n;induction n with
 |zero=>exact fun x=>⟨fun i=>trivial,fun i=>⟨x,by simp[Ef,DT,DS]⟩⟩
 |succ n ih=>exact fun x=>Sim.ifs l [44] (h.bind fun y=>ih (x.snoc y)) (Sim.pure x)
theorem JK{l:List Tok}{f:Nat→Res Ex}{g:FR Ex}(h:Sim f g)(n:Nat):Sim (Cr l f n) (DC l g (n+1)):=h.bind fun x=>Q3 h n _
theorem KY{l:List Tok}(hn:CC l):∀n x,Sim (BS l n x) (D5 l (n+1) x):=by
 intro n;induction n with
 |zero=>exact fun x=>⟨fun i=>trivial,fun i=>⟨x,by simp[D5,DT,DS]⟩⟩
 |succ n ih=>exact fun x=>Sim.ifs l [44] (Sim.name hn fun s=>ih (x++[s])) (Sim.pure x)
theorem OT{l:List Tok}(hn:CC l)(n:Nat):Sim (Cu l n) (Fd l (n+1)):=Sim.name hn fun s=>KY hn n [s]
theorem Q0{l:List Tok}(hn:CC l){f:Nat→Res Ex}{g:FR Ex}(h:Sim f g)(n:Nat):
 Sim (C4 l f n) (fun st=>(D8 l g (n+1) [41] (AR l [40] (A3 l st).2)).bind fun r=>some (⟨hd0 3 (A3 l st).1,r.1⟩,r.2)):=by
 have h1:∀s,Sim (fun j=>if Ae (Ab l j) [41]then Res.ok (⟨hd0 3 s,.nil⟩:Ex) (j+1)else(Cr l f n j).bind fun f k=>(Be l [41] k).bind fun _ k=> .ok ⟨hd0 3 s,f⟩ k)
  (fun st=>(D8 l g (n+1) [41] st).bind fun r=>some ((⟨hd0 3 s,r.1⟩:Ex),r.2)):=by
  intro s;have h2:=Sim.ifs l [41] (Sim.pure (⟨hd0 3 s,.nil⟩:Ex)) ((JK (l:=l) h n).bind fun f=>Sim.want l [41] (⟨hd0 3 s,f⟩:Ex));have e:(fun st=>(D8 l g (n+1) [41] st).bind fun r=>some ((⟨hd0 3 s,r.1⟩:Ex),r.2))=
   (fun st=>if A4 l [41] st then some ((⟨hd0 3 s,.nil⟩:Ex),Ak l [41] st)else(DC l g (n+1) (Ak l [41] st)).bind fun r=>some ((⟨hd0 3 s,r.1⟩:Ex),AR l [41] r.2)):=by
   funext st;unfold D8;cases A4 l [41] st with
   |true=>rfl
   |false=>simp only[Bool.false_eq_true,if_false];rw[Option.bind_assoc];rfl
  rw[e];exact h2
 exact Sim.name hn fun s=>Sim.wants l [40] (h1 s)
theorem OQ{l:List Tok}(hn:CC l){f:Nat→Res Ex}{g:FR Ex}(h:Sim f g):Sim (Co l f) (Fc l g):=by
 have h1:=Sim.wants l [38] (Sim.ifs l [40] (h.bind fun x=>Sim.want l [41] (⟨hd0 9 [],.one x⟩:Ex)) (Sim.name hn (f:=fun s j=>Res.ok (⟨hd0 9 s,.nil⟩:Ex) (if Ae (Ab l j) [46]then j+1 else j)) (g:=fun s st=>some (⟨hd0 9 s,.nil⟩,Ak l [46] st)) (fun s=>?_)))
 ·exact h1
 ·constructor
  ·intro i;cases hs:Ae (Ab l i) [46]with
   |true=>simp only[if_true];rw[GS hs];rfl
   |false=>simp only[Bool.false_eq_true,if_false];rw[Hk hs];rfl
  ·exact fun i=>⟨_,rfl⟩
theorem OS{l:List Tok}(hn:CC l){f:Nat→Res Ex}{g:FR Ex}(h:Sim f g)(n:Nat):Sim (BN l f n) (Ed l g (n+1)):=by
 have hc:=Q0 hn h n;have hv:=Sim.name hn fun s=>Sim.ifs l [45,62] (Sim.ifs l [40] (h.bind fun x=>Sim.want l [41] (⟨hd0 2 s,.one x⟩:Ex)) (Sim.name hn fun t=>Sim.pure (⟨hd0 2 s,.one (A5 t)⟩:Ex))) (Sim.pure (A5 s));constructor
 ·intro i;unfold BN Ed;cases hs:Ae (Ab l (i+1)) [40]with
  |true=>simp only[if_true];exact hc.go i
  |false=>simp only[Bool.false_eq_true,if_false];exact hv.go i
 ·intro i;unfold Ed;cases hs:Ae (Ab l (i+1)) [40]with
  |true=>simp only[if_true];exact hc.stop i
  |false=>simp only[hs,Bool.false_eq_true,if_false];exact hv.stop i
theorem Ol{l:List Tok}(hn:CC l){f:Nat→Res Ex}{g:FR Ex}(h:Sim f g)(n:Nat):Sim (Cp l f n) (Ez l g (n+1)):=by
 have hp:=Sim.ifs l [124] (Sim.pure ([]:List Bs)) ((OT hn n).bind fun p=>Sim.want l [124] p);have hb:=Sim.ifs l [124] (hp.bind fun p=>h.bind fun x=>Sim.want l [125] (⟨⟨8,[],0,0,[],p⟩,.one x⟩:Ex)) ((JK (l:=l) h n).bind fun f=>Sim.want l [125] (⟨hd0 7 [],f⟩:Ex));exact hb
theorem Ep{l:List Tok}{L:List Bs}{i:Nat}{s:Bs}(hs:s∈L)(hne:s≠[]):Ae (Ab l i) s=decide (Au l L (i,false)=s):=by
 unfold Au;simp only[Bool.false_eq_true,if_false];cases hf:L.find? (Ae (Ab l i))with
 | none=>
   rw[List.find?_eq_none]at hf;have:=hf s hs;simp only[Option.getD_none];simp[Bool.eq_false_iff.2 this,hne.symm]
 | some t=>
   have h1:=List.find?_some hf;simp only[Option.getD_some];simp only[Ae,Bool.and_eq_true,beq_iff_eq]at h1;by_cases e:t=s
   ·subst e;simp[Ae,h1.1,h1.2]
   ·simp[Ae,h1.2,e]
theorem Om{l:List Tok}(hn:CC l){f:Nat→Res Ex}{g:FR Ex}(h:Sim f g)(n i:Nat)(h38:Ae (Ab l i) [38]=false):Fe (B0 l f n i) (DX l g (n+1) (i,false)):=by
 unfold B0 DX;rw[h38,Ep (L:=primL) (s:=[46,84,46]) (by decide) (by decide),Ep (L:=primL) (s:=[46,70,46]) (by decide) (by decide),Ep (L:=primL) (s:=[46,78,85,76,76,46]) (by decide) (by decide),
  Ep (L:=primL) (s:=[40]) (by decide) (by decide),Ep (L:=primL) (s:=[64]) (by decide) (by decide),Ep (L:=primL) (s:=[123]) (by decide) (by decide)]
 have hstep:Au l primL (i,false)≠[]→(A6 l primL (i,false)).2=(i+1,false):=fun hne=>by simp only[A6,Dj hne]
 have hstop:Au l primL (i,false)=[]→(A6 l primL (i,false)).2=(i,false):=fun hne=>by simp only[A6,hne,Da]
 have hin:Au l primL (i,false)=[]∨Au l primL (i,false)∈primL:=by
  unfold Au;simp only[Bool.false_eq_true,if_false];cases hf:primL.find? (Ae (Ab l i))with
  |none=>left;rfl
  |some t=>right;exact List.mem_of_find?_eq_some hf
 simp only[Bool.false_eq_true,if_false,decide_eq_true_eq];generalize Au l primL (i,false)=S at*;have hS:S=[]∨S=[46,84,46]∨S=[46,70,46]∨S=[46,78,85,76,76,46]∨S=[40]∨S=[123]∨S=[64]:=by
  rcases hin with h|h
  ·exact .inl h
  ·right;simpa[primL]using h
 rcases hS with rfl|rfl|rfl|rfl|rfl|rfl|rfl
 ·rw[hstop rfl];simp[Jg]
 ·rw[hstep (by decide)];simp[D1]
 ·rw[hstep (by decide)];simp[D1]
 ·rw[hstep (by decide)];simp[D1,BH,A0,hd0]
 ·rw[hstep (by decide)];simp only[show(([40]:Bs)=[46,84,46])=False by decide+kernel,show(([40]:Bs)=[46,70,46])=False by decide+kernel,show(([40]:Bs)=[46,78,85,76,76,46])=False by decide+kernel,if_false,if_true];exact(h.bind fun x=>Sim.want l [41] x).go (i+1)
 ·rw[hstep (by decide)];simp only[show(([123]:Bs)=[46,84,46])=False by decide+kernel,show(([123]:Bs)=[46,70,46])=False by decide+kernel,show(([123]:Bs)=[46,78,85,76,76,46])=False by decide+kernel,show(([123]:Bs)=[40])=False by decide+kernel,show(([123]:Bs)=[64])=False by decide+kernel,if_false,if_true];exact(Ol hn h n).go (i+1)
 ·rw[hstep (by decide)];simp only[show(([64]:Bs)=[46,84,46])=False by decide+kernel,show(([64]:Bs)=[46,70,46])=False by decide+kernel,show(([64]:Bs)=[46,78,85,76,76,46])=False by decide+kernel,show(([64]:Bs)=[40])=False by decide+kernel,show(([64]:Bs)=[123])=False by decide+kernel,if_false,if_true];exact(Sim.name hn fun s=>Sim.pure (⟨hd0 10 s,.nil⟩:Ex)).go (i+1)
theorem Q4{l:List Tok}(hn:CC l)(day:Bs→Int){f:Nat→Res Ex}{g:FR Ex}(h:Sim f g)(n:Nat):Sim (Bd l day f n) (Ci l day g (n+1)):=by
 constructor
 ·intro i;unfold Bd Ci;simp only[Bool.false_eq_true,if_false,beq_iff_eq];by_cases h1:(Ab l i).kind=1
  ·simp[h1,Eg,D1]
  by_cases h2:(Ab l i).kind=2
  ·simp only[h2,show((2:Int)=1)=False by decide+kernel,show((2:Int)=3)=False by decide+kernel,show((2:Int)=0)=False by decide+kernel,if_false,if_true,true_and];by_cases hl:(Ab l i).text.length≤2048
   ·rw[if_neg (by omega),if_pos hl];simp[Eg,D1]
   ·rw[if_pos (by omega),if_neg hl];have h38:∀s,Ae (Ab l i) s=false:=by intro s;simp[Ae,h2]
    rw[h38];simp only[Bool.false_eq_true,if_false];have hs:Au l primL (i,false)=[]:=by
     unfold Au;simp only[Bool.false_eq_true,if_false];rw[List.find?_eq_none.2 (fun x _=>by rw[h38];simp)];rfl
    exact⟨BH,by simp[DX,A6,hs,Da]⟩
  by_cases h3:(Ab l i).kind=3
  ·simp[h3,Eg,D1]
  by_cases h0:(Ab l i).kind=0
  ·simp only[h0,show((0:Int)=1)=False by decide+kernel,show((0:Int)=2)=False by decide+kernel,show((0:Int)=3)=False by decide+kernel,if_false,if_true,false_and];exact(OS hn h n).go i
  simp only[h1,h2,h3,h0,if_false,false_and];cases h38:Ae (Ab l i) [38]with
  | true=>
    have:B0 l f n i=Co l f i:=by unfold B0;rw[h38,if_pos rfl]
    rw[this];simp only[if_true];exact(OQ hn h).go i
  | false=>
    simp only[Bool.false_eq_true,if_false];exact Om hn h n i h38
 ·intro i;exact⟨BH,by simp[Ci]⟩
theorem Ot(l:List Tok)(day:Bs→Int)(g:FR Ex)(i:Nat):Fi l day g 1 (i,true)=some (BH,(i,true)):=by
 simp[Fi,BL,BV,Dw,sumR,DF,DB,De,Ci,EP,EK,DT,DS]
theorem Q1{l:List Tok}(hn:CC l)(day:Bs→Int):∀n,Sim (AB l day n) (FU l day n):=by
 intro n;induction n with
 |zero=>exact⟨fun i=>trivial,fun i=>⟨BH,Ot _ _ _ _⟩⟩
 | succ n ih=>
   exact FF (k:=0) (by decide) (by decide) (by decide) (FF (k:=1) (by decide) (by decide) (by decide) (SL (FF (k:=3) (by decide) (by decide) (by decide) (FF (k:=4) (by decide) (by decide) (by decide) (SM (OU ih (Q4 hn day ih n) (n+1) n (by omega)) n) n) n) n) n) n
open Go.RowKit
theorem Lo{P:Program}(w:World)(base:Nat)(t ty e:TypeId)(i:TypeInfo)(z:Value)(size bytes:Nat)(ht:P.underlying t=some (.slice e))(hi:P.info? e=some i)(hz:i.zero=some z)
 (hsize:i.size=size) (hby:i.bytes=bytes) (hzs:z.cells.size=size) (hsz:0<size)
 (v:Value) (n:Nat) (xs:List Value) (hown:w.ownsRow base e size v n xs)
 (a:Addr) (m c:Nat) (news:List Value) (hl:news.length=m*size) (hnews:∀j u,news[j]? =some u→w.cell? (a.add j)=some u) (h1:∀u∈news,u.oneCell'=true)
 (h63:n+m≤maxLen) (hbytes:(n+m)*bytes≤140737488355328) (hbase:base≤w.heap.size):
 ∃v' w',(Builtin.append_ #[t,t] ty #[v,.slice (some a) m c]).run P w= .ok v' w'∧w'.ownsRow base e size v' (n+m) (xs++news)∧w.grownBy w' v.ownBlock∧
  (∀k,v'.ownBlock=some k→v.ownBlock=some k∨w.heap.size≤k):=by
 obtain⟨v1,w1,hr1,ho1,hg1,_⟩:=run_append_own (P:=P) w base t ty e i z size bytes ht hi hz hsize hby hzs hsz v n xs hown a m c news hl hnews h1 h63 hbytes hbase;refine⟨v1,w1,hr1,ho1,hg1,fun k hk=>?_⟩;rcases hown.2 with⟨rfl,rfl⟩| ⟨g,cap,cur,rfl,hbg,hg,hnc,hcm,hcs,htake⟩
 ·obtain⟨v2,w2,hr2,ho2,_,_⟩:=run_append_own (P:=P) w w.heap.size t ty e i z size bytes ht hi hz hsize hby hzs hsz _ 0 xs ⟨hown.1,.inl ⟨rfl,rfl⟩⟩ a m c news hl hnews h1 h63 hbytes (Nat.le_refl _);rw[hr1]at hr2;cases hr2;exact .inr (ho2.lt k hk).1
 ·by_cases hroom:n+m≤cap
  ·have hfit:n*i.size+news.length≤cur.size:=by rw[hl,hcs,hsize,←Nat.add_mul];exact Nat.mul_le_mul_right _ hroom
   have hr:=run_append_room (P:=P) w t ty e i ht hi g n cap cur hg a m c news (by rw[hsize];exact hl) hnews h1 hroom hfit;rw[hr1]at hr;cases hr;left;simpa[Value.ownBlock]using hk
  ·have holds:∀j u,xs[j]? =some u→w.cell? ((⟨g,0,none⟩:Addr).add j)=some u:=hown.cells (g:=g) rfl;have hr:=run_append_grow (P:=P) w t ty e i z ht hi hz ⟨g,0,none⟩ n cap xs (by rw[hsize];exact hown.1) holds a m c news (by rw[hsize];exact hl) hnews (by omega) (by unfold maxLen at h63;omega) (by rw[hby];exact growslice_fits (by unfold maxLen at h63;omega) hbytes);rw[hr1]at hr;cases hr;right;simp[Value.ownBlock]at hk;omega
theorem D7{P:Program}{w:World}{ops:Array Oper}{rest:List Oper}{o:Oper}{a:Act}{Q:Exit→Act→World→Prop}(hgd:o.guard=none)(s x:Operand)(t:TypeId)
 (ho:o.op= .call {callee:= .builtin .append,args:=#[s,x],argTypes:=#[t,t]})
 (base:Nat) (e:TypeId) (i:TypeInfo) (z:Value) (size bytes:Nat) (ht:P.underlying t=some (.slice e)) (hi:P.info? e=some i) (hz:i.zero=some z)
 (hsize:i.size=size) (hby:i.bytes=bytes) (hzs:z.cells.size=size) (hsz:0<size)
 (v:Value) (n:Nat) (xs:List Value) (hs:a.eval s=v) (hown:w.ownsRow base e size v n xs)
 (ad:Addr) (m c:Nat) (news:List Value) (hx:a.eval x= .slice (some ad) m c) (hl:news.length=m*size) (hnews:∀j u,news[j]? =some u→w.cell? (ad.add j)=some u) (h1:∀u∈news,u.oneCell'=true)
 (h63:n+m≤maxLen) (hbytes:(n+m)*bytes≤140737488355328) (hbase:base≤w.heap.size)
 (h:∀v' w',w'.ownsRow base e size v' (n+m) (xs++news)→w.grownBy w' v.ownBlock→(∀k,v'.ownBlock=some k→v.ownBlock=some k∨w.heap.size≤k)→wpList P ops Q rest (a.put o.dst v') w'):wpList P ops Q (o::rest) a w:=by
 refine wpList_plain hgd fun K hK=>?_;obtain⟨v',w',hr,h2,h3,h4⟩:=Lo (P:=P) w base t o.type e i z size bytes ht hi hz hsize hby hzs hsz v n xs hown ad m c news hl hnews h1 h63 hbytes hbase;unfold Oper.wp execOp;simp only[ho,resolve,invoke,builtin,Sem.run_bind,Sem.run_pure,Result.andThen_ok,List.map_toArray,List.map_cons,List.map_nil,hs,hx,hr];exact hK _ _ (h v' w' h2 h3 h4)
theorem BZ(w:World)(cs:List Value)(t:TypeId):∀j u,cs[j]? =some u→(w.alloc (.cells cs.toArray t (0,0))).cell? ((⟨w.heap.size,0,none⟩:Addr).add j)=some u:=by
 intro j u h;have e:(⟨w.heap.size,0,none⟩:Addr).add j=⟨w.heap.size,j,none⟩:=by unfold Addr.add;split<;>simp_all
 rw[e];exact(Blk.new w cs t).cell' j h
theorem OwnF.snoc{w w1:World}{B n:Nat}{v v':Value}{f:Fo}{x:Ex}{cs:List Value}{pa la:Option Addr}{pc lc:Nat}{okx:Nat→Prop}
 (hf:RepF (fun g=>B≤g∧v.ownBlock≠some g) w f cs) (hn:n=f.len)
 (rp:Cells w (.slice pa x.h.p.length pc) 1 x.h.p.length (x.h.p.map str) okx) (rl:RepL okx w (.slice la x.kids.len lc) x.kids) (hokx:∀k,okx k→B≤k∧v.ownBlock≠some k)
 (ho:w1.ownsRow B 27 7 v' (n+1) (cs++hdC x.h (.slice pa x.h.p.length pc) (.slice la x.kids.len lc))) (hg:w.grownBy w1 v.ownBlock) (hnew:∀k,v'.ownBlock=some k→v.ownBlock=some k∨w.heap.size≤k):
 OwnF w1 B v' (f.snoc x):=by
 subst hn;refine⟨_,by rw[Fo.len_snoc];exact ho,?_⟩;have h1:RepF (fun g=>B≤g∧v.ownBlock≠some g) w (f.snoc x) (cs++hdC x.h (.slice pa x.h.p.length pc) (.slice la x.kids.len lc)):=
  hf.app (VE.rep (rp.mono fun k hk _=>hokx k hk) (rl.mono fun k hk _=>hokx k hk))
 have h2:=RepF.mono (ok':=fun g=>B≤g∧v.ownBlock≠some g∧v'.ownBlock≠some g) (fun k hk hlt=>⟨hk.1,hk.2,fun e=>by
  rcases hnew k e with h|h
  ·exact hk.2 h
  ·omega⟩) h1
 exact(h2.gb hg fun k hk _ e=>hk.2.1 e.symm).mono fun k hk _=>⟨hk.1,hk.2.2⟩
theorem CM:(Tryz.prog.info? 27).map (fun i=>(i.zero,i.size,i.bytes))=some (some (.agg #[.int .i64 0,str [],.int .i64 0,.int .i64 0,str [],.slice none 0 0,.slice none 0 0]),7,104):=by kernel_rfl
theorem C0:(Tryz.prog.info? 9).map (fun i=>(i.zero,i.size,i.bytes))=some (some (str []),1,16):=by kernel_rfl
theorem JB:(Tryz.prog.info? 105).map (fun i=>(i.zero,i.size,i.bytes))=some (some (.agg #[.int .i64 0,.int .i64 0,str []]),3,32):=by kernel_rfl
theorem gbB{w w':World}(h:Below w.heap.size w w')(r:Option Nat):w.grownBy w' r:=⟨h.os,h.tape,h.output,h.size,fun k hk _=>h.block k hk⟩
theorem Js(l cs:List UInt8):(Lib.trimS l cs==[])=l.all (cs.contains ·):=by
 have h1:∀l:List UInt8,(l.dropWhile (cs.contains ·)==[])=l.all (cs.contains ·):=by
  intro l;induction l with
  |nil=>rfl
  | cons a t ih=>
    simp only[List.dropWhile_cons,List.all_cons];cases cs.contains a
    ·simp
    ·simpa using ih
 have h2:∀l:List UInt8,((l.reverse.dropWhile (cs.contains ·)).reverse).all (cs.contains ·)=l.all (cs.contains ·):=by
  intro l;have:∀m:List UInt8,(m.dropWhile (cs.contains ·)).all (cs.contains ·)=m.all (cs.contains ·):=by
   intro m;induction m with
   |nil=>rfl
   | cons a t ih=>
     simp only[List.dropWhile_cons,List.all_cons];cases h:cs.contains a
     ·show(a::t).all _=_;rw[List.all_cons,h]
     ·simpa using ih
  rw[List.all_reverse,this,List.all_reverse]
 unfold Lib.trimS Lib.trimLeftS;rw[h1];exact h2 l
def nameSet:List UInt8:=[65,66,67,68,69,70,71,72,73,74,75,76,77,78,79,80,81,82,83,84,85,86,87,88,89,90,48,49,50,51,52,53,54,55,56,57,95]
theorem MI(b:UInt8):nameSet.contains b=C1 b:=by
 have h:∀n:Fin 256,nameSet.contains (UInt8.ofNat n.val)=C1 (UInt8.ofNat n.val):=by decide+kernel
 have:=h ⟨b.toNat,b.toNat_lt⟩;simpa using this
theorem Qg(l:List UInt8):(Lib.trimS l nameSet==[])=l.all C1:=by
 rw[Js];congr 1;funext b;exact MI b
theorem JU(c:UInt8)(t:List UInt8)(h:0<(⟨(c::t).toArray⟩:ByteArray).size):(⟨(c::t).toArray⟩:ByteArray)[0]'h=c:=rfl
theorem Ig(s:Bs)(w:World)(hs:s.length≤4000000):Calls Tryz.prog 126 #[str s] w fun e w'=>e= .returned (.bool (An s))∧w.grownBy w' none:=by
 cases s with
 | nil=>
   go_enter func126,ntmps126;go_wp2;go_ret;exact⟨rfl,Ac _ _⟩
 | cons c t=>
   simp only[List.length_cons]at hs;have hg:=JU c t;by_cases h10:t.length≤9
   ·by_cases hd:48≤c.toNat∧c.toNat≤57
    ·have hm:An (c::t)=false:=by simp[An,UInt8.le_iff_toNat_le,hd]
     rw[hm];clear hm;obtain⟨hd1,hd2⟩:=hd;go_enter func126,ntmps126;go_wp2;go_ret;exact⟨rfl,Ac _ _⟩
    ·have hm : An (c :: t) = (c :: t).all C1 := by
      have e1:decide ((c::t).length≤10)=true:=by simp;omega
      have e2:(decide (48≤c)&&decide (c≤57))=false:=by
       rw[Bool.and_eq_false_iff,decide_eq_false_iff_not,decide_eq_false_iff_not,UInt8.le_iff_toNat_le,UInt8.le_iff_toNat_le];have:(48:UInt8).toNat=48:=rfl;have:(57:UInt8).toNat=57:=rfl;omega
      simp only[An,e1,e2];rfl
     rw[hm,←Qg];clear hm;have hc:c.toNat<48∨57<c.toNat:=by omega
     rcases hc with hc|hc
     all_goals
      clear hd;go_enter func126,ntmps126;go_wp2_with fail;refine(strings_Trim ⟨(c::t).toArray⟩ ⟨nameSet.toArray⟩ _ (by simp[ByteArray.size];omega) (by decide) (ascii_of_all (by decide))).mono ?_;rintro e w1 ⟨rfl,hb⟩;have hgb:=gbB hb none;generalize hz:Lib.trimS (c::t) nameSet=z at*;have HZ:=O hz;clear hz hb;go_wp2;go_ret;refine⟨?_,hgb⟩;rw[HZ.out];cases z<;>rfl
   ·have hm:An (c::t)=false:=by simp[An];omega
    rw[hm];clear hm;go_enter func126,ntmps126;go_wp2;go_ret;exact⟨rfl,Ac _ _⟩
theorem I2(s:Bs)(w:World)(hs:s.length≤1000000):Calls Tryz.prog 184 #[str s] w fun e w'=>e= .returned (.bool (An s))∧w.grownBy w' none:=by
 go_enter func184,ntmps184;go_wp2_with fail;refine(Ig s w (by omega)).mono ?_;rintro e w1 ⟨rfl,hb⟩;go_wp2;go_ret;exact⟨rfl,hb⟩
theorem Rc{l:List Tok}{i:Nat}(h:(Ab l i).kind=0):i<l.length:=DM (by omega)
def CD(l:List Tok):Prop:=∀i,(Ab l i).text.length≤4000
theorem Dz{w:World}{b:Nat}{tv wv:Value}{l:List Tok}{wl:List Bs}{i:Nat}(h:Par w b tv wv l wl i)(hl:CD l):
 Calls Tryz.prog 143 #[.pointer (some ⟨b,0,none⟩)] w (Post b tv wv l wl w (fun _ v x=>v=str x) (AV l i)):=by
 have hb:=h.lt;have hf:=h.few;by_cases hk:(Ab l i).kind=0
 ·have hi:=Rc hk;have hs:=hl i;cases hn:An (Ab l i).text with
  | true=>
    have HM:=O (show AV l i= .ok (Ab l i).text (i+1)by simp[AV,hk,hn]);have HK:=O hk;have HN:=O hn;clear hk hn;go_enter func143,ntmps143;go_wp2_with fail;refine(Cl h).mono ?_;rintro e w1 ⟨rfl,g1⟩;rw[Bc,HK.out];go_wp2_with fail;refine(I2 _ _ (by omega)).mono ?_;rintro e w2 ⟨rfl,g2⟩;rw[HN.out];have h2:Par w2 b tv wv l wl i:=h.gbN (by repeat(first| (with_reducible exact Ac _ _)| (with_reducible assumption)| (with_reducible exact AX (by assumption))| (with_reducible refine Ad ?_ _)| (with_reducible refine Am ?_)| (with_reducible refine Ay ?_ _)| ((with_reducible refine Az ?_ _ _ ?h2);case h2=>first|exact .inl rfl|exact .inr (Nat.le_refl _)|exact .inr (by simp<;>omega))| (with_reducible refine Ag ?_ (by assumption))| (with_reducible refine Aa ?_ (by assumption))));have c1:=h2.c1;have f1:=h2.f1;have ct:w2.cell? ⟨w1.heap.size,2,none⟩=some (str (Ab l i).text):=Af g2 (by simp);have hlt:=g1.size;go_wp2;go_ret;exact Post.ok (by repeat(first| (with_reducible exact Ac _ _)| (with_reducible assumption)| (with_reducible exact AX (by assumption))| (with_reducible refine Ad ?_ _)| (with_reducible refine Am ?_)| (with_reducible refine Ay ?_ _)| ((with_reducible refine Az ?_ _ _ ?h2);case h2=>first|exact .inl rfl|exact .inr (Nat.le_refl _)|exact .inr (by simp<;>omega))| (with_reducible refine Ag ?_ (by assumption))| (with_reducible refine Aa ?_ (by assumption)))) HM.out rfl (h2.goI _ _ (by omega) (by omega))
  | false=>
    have HM:=O (show AV l i= .bad i by simp[AV,hn]);have HK:=O hk;have HN:=O hn;clear hk hn;go_enter func143,ntmps143;go_wp2_with fail;refine(Cl h).mono ?_;rintro e w1 ⟨rfl,g1⟩;rw[Bc,HK.out];go_wp2_with fail;refine(I2 _ _ (by omega)).mono ?_;rintro e w2 ⟨rfl,g2⟩;rw[HN.out];have h2:Par w2 b tv wv l wl i:=h.gbN (by repeat(first| (with_reducible exact Ac _ _)| (with_reducible assumption)| (with_reducible exact AX (by assumption))| (with_reducible refine Ad ?_ _)| (with_reducible refine Am ?_)| (with_reducible refine Ay ?_ _)| ((with_reducible refine Az ?_ _ _ ?h2);case h2=>first|exact .inl rfl|exact .inr (Nat.le_refl _)|exact .inr (by simp<;>omega))| (with_reducible refine Ag ?_ (by assumption))| (with_reducible refine Aa ?_ (by assumption))));go_wp2_with fail;refine(DI h2.c1).mono ?_;rintro e w3 ⟨rfl,rfl⟩;exact⟨rfl,Post.bad (by repeat(first| (with_reducible exact Ac _ _)| (with_reducible assumption)| (with_reducible exact AX (by assumption))| (with_reducible refine Ad ?_ _)| (with_reducible refine Am ?_)| (with_reducible refine Ay ?_ _)| ((with_reducible refine Az ?_ _ _ ?h2);case h2=>first|exact .inl rfl|exact .inr (Nat.le_refl _)|exact .inr (by simp<;>omega))| (with_reducible refine Ag ?_ (by assumption))| (with_reducible refine Aa ?_ (by assumption)))) HM.out⟩
 ·have HM:=O (show AV l i= .bad i by simp[AV,hk]);have hk':((Ab l i).kind==0)=false:=by simpa using hk
  have hk2:((Ab l i).kind !=0)=true:=by simpa using hk
  clear hk;go_enter func143,ntmps143;go_wp2_with fail;refine(Cl h).mono ?_;rintro e w1 ⟨rfl,g1⟩;have h1:∀o,Par (w1.alloc o) b tv wv l wl i:=fun o=>(h.gbN g1).alloc o;go_wp2_with fail;refine(DI (h1 _).c1).mono ?_;rintro e w3 ⟨rfl,rfl⟩;exact⟨rfl,Post.bad (by repeat(first| (with_reducible exact Ac _ _)| (with_reducible assumption)| (with_reducible exact AX (by assumption))| (with_reducible refine Ad ?_ _)| (with_reducible refine Am ?_)| (with_reducible refine Ay ?_ _)| ((with_reducible refine Az ?_ _ _ ?h2);case h2=>first|exact .inl rfl|exact .inr (Nat.le_refl _)|exact .inr (by simp<;>omega))| (with_reducible refine Ag ?_ (by assumption))| (with_reducible refine Aa ?_ (by assumption)))) HM.out⟩
end Go.Proofs.YtgjdhajcnechdaaGreatDoor
