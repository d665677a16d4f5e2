/-
  Plain laws: an expression that is read is right. Plain laws: a name is replaced by an expression: the program's way and the reference's way give the same. Plain laws: operators, indexes, lists, blocks
-/
import Derived.Test.YtgjdhajcnechdaaGreatDoorSw04
import Derived.Test.YtgjdhajcnechdaaGreatDoorSw19
import Derived.Test.YtgjdhajcnechdaaGreatDoorSw08
import Derived.Test.YtgjdhajcnechdaaGreatDoorSw17
import Derived.Test.YtgjdhajcnechdaaGreatDoorSw16
import Derived.Lib.LaidU8
import Derived.Lib.LaidCase
import Derived.Lib.LaidTab
import Derived.PinnedBridge
set_option linter.all false
set_option maxRecDepth 100000
set_option maxHeartbeats 8000000
namespace Go.Proofs.YtgjdhajcnechdaaGreatDoor
open Go.Proofs.Tryz
def okX(x:Ex):Bool:=AI x.h x.kids.len&&okF x.kids
theorem Ht(x:Ex)(n:Fo):okF (x.fo n)=(okX x&&okF n):=rfl
theorem DA(x:Ex):okF (.one x)=okX x:=by simp[Fo.one,Ht,okF]
theorem Ke(x y:Ex):okF (.two x y)=(okX x&&okX y):=by simp[Fo.two,Ht,okF]
theorem SA(f g:Fo):okF (f.app g)=(okF f&&okF g):=by
 induction f with
 |nil=>simp[Fo.app,okF]
 |cons h k n _ ih=>simp[Fo.app,okF,ih,Bool.and_assoc]
theorem Rg(f:Fo)(x:Ex):okF (f.snoc x)=(okF f&&okX x):=by simp[Fo.snoc,SA,Ht,okF]
structure TokC(day:Bs→Int)(t:Tok):Prop where
 num:t.kind=1→0≤As t.text∧As t.text≤999999999999999
 str:t.kind=2→t.text.all BG=true∧¬(t.text.contains 34=true∧t.text.contains 39=true)
 day:t.kind=3→0≤day t.text∧day t.text≤3652059
def Snd{α:Type}(r:Res α)(P:α→Prop):Prop:=∀a j,r= .ok a j→P a
theorem Snd.bind{α β:Type}{r:Res α}{f:α→Nat→Res β}{P:α→Prop}{Q:β→Prop}(h:Snd r P)(hf:∀a j,P a→Snd (f a j) Q):Snd (r.bind f) Q:=by
 cases r with
 |ok a i=>exact hf a i (h a i rfl)
 |bad k=>intro a j e;cases e
 |out=>intro a j e;cases e
theorem Snd.okk{α:Type}{P:α→Prop}{a:α}{i:Nat}(h:P a):Snd (.ok a i) P:=by
 intro b j e;cases e;exact h
theorem Snd.bad{α:Type}{P:α→Prop}{k:Nat}:Snd (.bad k:Res α) P:=by intro b j e;cases e
theorem Snd.out{α:Type}{P:α→Prop}:Snd (.out:Res α) P:=by intro b j e;cases e
theorem Snd.ite{α:Type}{P:α→Prop}{c:Prop} [Decidable c] {p q:Res α} (hp:c→Snd p P) (hq:¬c→Snd q P):Snd (if c then p else q) P:=by
 split
 ·exact hp ‹_›
 ·exact hq ‹_›
theorem Snd.any{α:Type}(r:Res α):Snd r fun _=>True:=fun _ _ _=>trivial
theorem Ra:∀k<6,∀p∈lvl k,p.2∈opsL:=by decide
theorem SC(k:Nat)(s:Bs):Cs k s=[]∨Cs k s∈opsL:=by
 have h6:∃k'<6,lvl k=lvl k':=by
  match k with
  | 0=>exact⟨0,by omega,rfl⟩
  | 1=>exact⟨1,by omega,rfl⟩
  | 2=>exact⟨2,by omega,rfl⟩
  | 3=>exact⟨3,by omega,rfl⟩
  | 4=>exact⟨4,by omega,rfl⟩
  |k+5=>exact⟨5,by omega,rfl⟩
 obtain⟨k',hk',e⟩:=h6;unfold Cs;rw[e];have hv:=Ra k' hk';generalize lvl k'=L at hv;clear e;induction L with
 |nil=>left;rfl
 | cons p L ih=>
   rw[List.lookup_cons];cases hq:s==p.1 with
   |true=>right;exact hv p (by simp)
   |false=>exact ih (fun q hq=>hv q (by simp[hq]))
theorem He{l:List Tok}{k i:Nat}(h:¬(Aw l k i).isEmpty=true):opsL.contains (Aw l k i)=true:=by
 unfold Aw at h ⊢;split at h
 ·rename_i hk;rw[if_pos hk];rcases SC k (Ab l i).text with e|e
  ·rw[e]at h;simp at h
  ·simpa using e
 ·simp at h
section
variable {l:List Tok}{day:Bs→Int}{E:Nat→Res Ex}
abbrev RX(x:Ex):Prop:=okX x=true
abbrev RF(f:Fo):Prop:=okF f=true
abbrev RN(s:Bs):Prop:=An s=true
theorem Hb{s:Bs}{x y:Ex}(hs:opsL.contains s=true)(hx:RX x)(hy:RX y):RX (Ax s x y):=by
 have h1:okF (.two x y)=true:=by rw[Ke,hx,hy];rfl
 have h2:(Fo.two x y).len=2:=rfl;show(AI (hd0 5 s) (Fo.two x y).len&&okF (.two x y))=true;rw[h1,h2,Bool.and_true];simp only[AI,Ap,hd0];simpa using hs
theorem Kh{s:Bs}{x:Ex}(hs:s=[45]∨s=[46,78,79,84,46])(hx:RX x):RX (unE s x):=by
 have h1:okF (.one x)=true:=by rw[DA];exact hx
 show(AI (hd0 4 s) 1&&okF (.one x))=true;rw[h1,Bool.and_true];rcases hs with rfl|rfl<;>rfl
theorem O6{x y:Ex}(hx:RX x)(hy:RX y):RX (C5 x y):=by
 have h1:okF (.two x y)=true:=by rw[Ke,hx,hy];rfl
 show(AI (hd0 6 []) 2&&okF (.two x y))=true;rw[h1];rfl
theorem Ls{level:Nat}(hE:∀i,Snd (E i) RX):∀n x i,RX x→Snd (BP l level E n x i) RX:=by
 intro n;induction n with
 |zero=>intro x i _;exact Snd.out
 | succ n ih=>
   intro x i hx;unfold BP;exact Snd.ite (fun _=>Snd.okk hx) fun ho=>(hE _).bind fun y j hy=>ih _ _ (Hb (He ho) hx hy)
theorem FG{level n:Nat}(hE:∀i,Snd (E i) RX)(i:Nat):Snd (AP l level n E i) RX:=(hE i).bind fun _ _ hx=>Ls hE _ _ _ hx
theorem SO(hE:∀i,Snd (E i) RX):∀n i,Snd (Bg l E n i) RX:=by
 intro n;induction n with
 |zero=>intro i;exact Snd.out
 | succ n ih=>
   intro i;unfold Bg;exact Snd.ite (fun _=>(ih _).bind fun x j hx=>Snd.okk (Kh (.inr rfl) hx)) fun _=>(hE _).bind fun x j hx=>Snd.ite (fun _=>Snd.okk hx) fun ho=>(hE _).bind fun y k hy=>Snd.okk (Hb (He ho) hx hy)
theorem SP(hE:∀i,Snd (E i) RX):∀n i,Snd (AY l E n i) RX:=by
 intro n;induction n with
 |zero=>intro i;exact Snd.out
 | succ n ih=>
   intro i;unfold AY;exact(hE _).bind fun x j hx=>Snd.ite (fun _=>Snd.okk hx) fun ho=>(ih _).bind fun y k hy=>Snd.okk (Hb (He ho) hx hy)
theorem SN(hE:∀i,Snd (E i) RX):∀n x i,RX x→Snd (B8 l E n x i) RX:=by
 intro n;induction n with
 |zero=>intro x i _;exact Snd.out
 | succ n ih=>
   intro x i hx;unfold B8;exact Snd.ite (fun _=>(hE _).bind fun y j hy=>(Snd.any _).bind fun _ k _=>ih _ _ (O6 hx hy)) fun _=>Snd.okk hx
theorem PS{prim:Nat→Res Ex}(hE:∀i,Snd (E i) RX)(hP:∀i,Snd (prim i) RX):∀n i,Snd (Bm l E prim n i) RX:=by
 intro n;induction n with
 |zero=>intro i;exact Snd.out
 | succ n ih=>
   intro i;unfold Bm;exact Snd.ite (fun _=>(ih _).bind fun x j hx=>Snd.okk (Kh (.inl rfl) hx)) fun _=>(hP _).bind fun x j hx=>SN hE _ _ _ hx
theorem Lt(hE:∀i,Snd (E i) RX):∀n f i,RF f∧1≤f.len→Snd (BQ l E n f i) fun f=>RF f∧1≤f.len:=by
 intro n;induction n with
 |zero=>intro f i _;exact Snd.out
 | succ n ih=>
   intro f i hf;unfold BQ;exact Snd.ite (fun _=>(hE _).bind fun y j hy=>ih _ _ ⟨by show okF _=true;rw[Rg,hf.1,hy];rfl,by rw[Fo.len_snoc];omega⟩) fun _=>Snd.okk hf
theorem JL{n:Nat}(hE:∀i,Snd (E i) RX)(i:Nat):Snd (Cr l E n i) fun f=>RF f∧1≤f.len:=
 (hE i).bind fun x _ hx=>Lt hE _ _ _ ⟨by show okF (.one x)=true;rw[DA];exact hx,Nat.le_refl _⟩
theorem DL(i:Nat):Snd (AV l i) RN:=by
 unfold AV;refine Snd.ite (fun h=>Snd.okk ?_) fun _=>Snd.bad;rw[Bool.and_eq_true]at h;exact h.2
theorem KZ:∀n p i,p.all An=true→Snd (BS l n p i) fun p=>p.all An=true:=by
 intro n;induction n with
 |zero=>intro f i _;exact Snd.out
 | succ n ih=>
   intro p i hp;unfold BS;exact Snd.ite (fun _=>(DL _).bind fun y j hy=>ih _ _ (by rw[List.all_append,hp];simp;exact hy)) fun _=>Snd.okk hp
theorem PR(n i:Nat):Snd (Cu l n i) fun p=>p.all An=true:=(DL i).bind fun x _ hx=>KZ _ _ _ (by simp;exact hx)
theorem Do{o:Int}{s:Bs}{f:Fo}(ho:AI (hd0 o s) f.len=true)(hf:RF f):RX ⟨hd0 o s,f⟩:=by
 show(AI (hd0 o s) f.len&&okF f)=true;rw[ho,hf];rfl
theorem Q6{n:Nat}(hE:∀i,Snd (E i) RX)(i:Nat):Snd (C4 l E n i) RX:=by
 unfold C4;have h3:∀{s:Bs}{f:Fo},RN s→AI (hd0 3 s) f.len=true:=fun hs=>by simp only[AI,Ap,hd0];simp;exact hs
 exact(DL i).bind fun s _ hs=>(Snd.any _).bind fun _ _ _=>Snd.ite (fun _=>Snd.okk (Do (h3 hs) rfl)) fun _=>(JL hE _).bind fun f _ hf=>(Snd.any _).bind fun _ _ _=>Snd.okk (Do (h3 hs) hf.1)
theorem PP(hE:∀i,Snd (E i) RX)(i:Nat):Snd (Co l E i) RX:=by
 unfold Co;refine(Snd.any _).bind fun _ _ _=>Snd.ite (fun _=>(hE _).bind fun x _ hx=>(Snd.any _).bind fun _ _ _=>Snd.okk (Do (f:= .one x) rfl (by show okF (.one x)=true;rw[DA];exact hx))) fun _=>(DL _).bind fun s _ hs=>Snd.okk (Do (f:= .nil) ?_ rfl);simp only[AI,Ap,hd0];simp[Fo.len];exact hs
theorem On{n:Nat}(hE:∀i,Snd (E i) RX)(i:Nat):Snd (Cp l E n i) RX:=by
 unfold Cp;refine Snd.ite (fun _=>?_) fun _=>(JL hE _).bind fun f _ hf=>(Snd.any _).bind fun _ _ _=>Snd.okk (Do ?_ hf.1)
 ·refine Snd.bind (P:=fun p=>p.all An=true) (Snd.ite (fun _=>Snd.okk rfl) fun _=>(PR _ _).bind fun p _ hp=>(Snd.any _).bind fun _ _ _=>Snd.okk hp) fun p _ hp=>(hE _).bind fun x _ hx=>(Snd.any _).bind fun _ _ _=>Snd.okk ?_;show(AI ⟨8,[],0,0,[],p⟩ 1&&okF (.one x))=true;rw[DA,hx,Bool.and_true];simp only[AI,Ap];simpa using hp
 ·simp only[AI,Ap,hd0];simpa using hf.2
theorem Em{vk vn:Int}{vs:Bs}(h:A2 ⟨0,[],vk,vn,vs,[]⟩=true):RX (A0 vk vn vs):=by
 show(AI ⟨0,[],vk,vn,vs,[]⟩ 0&&true)=true;simp only[AI,Ap];simpa using h
theorem Oo{n:Nat}(hE:∀i,Snd (E i) RX)(i:Nat):Snd (B0 l E n i) RX:=by
 unfold B0;refine Snd.ite (fun _=>PP hE _) fun _=>Snd.ite (fun _=>Snd.okk (Em rfl)) fun _=>Snd.ite (fun _=>Snd.okk (Em rfl)) fun _=>Snd.ite (fun _=>Snd.okk (Em rfl)) fun _=>
  Snd.ite (fun _=>(hE _).bind fun x _ hx=>(Snd.any _).bind fun _ _ _=>Snd.okk hx) fun _=>Snd.ite (fun _=>(DL _).bind fun s _ hs=>Snd.okk (Do (f:= .nil) ?_ rfl)) fun _=>Snd.ite (fun _=>On hE _) fun _=>Snd.bad
 simp only[AI,Ap,hd0];simp[Fo.len];exact hs
theorem PQ{n:Nat}(hE:∀i,Snd (E i) RX)(i:Nat):Snd (BN l E n i) RX:=by
 unfold BN;have h2:∀{s:Bs},RN s→AI (hd0 2 s) 1=true:=fun hs=>by simp only[AI,Ap,hd0];simp;exact hs
 have h1:∀{s:Bs},RN s→RX (A5 s):=fun hs=>Do (f:= .nil) (by simp only[AI,Ap,hd0];simp[Fo.len];exact hs) rfl;refine Snd.ite (fun _=>Q6 hE _) fun _=>(DL _).bind fun s _ hs=>Snd.ite (fun _=>Snd.ite (fun _=>(hE _).bind fun x _ hx=>(Snd.any _).bind fun _ _ _=>Snd.okk (Do (f:= .one x) (h2 hs) (by show okF (.one x)=true;rw[DA];exact hx))) fun _=>
  (DL _).bind fun t _ ht=>Snd.okk (Do (f:= .one (A5 t)) (h2 hs) (by show okF (.one (A5 t))=true;rw[DA];exact h1 ht))) fun _=>Snd.okk (h1 hs)
theorem Q8{n:Nat}(hT:∀i,TokC day (Ab l i))(hE:∀i,Snd (E i) RX)(i:Nat):Snd (Bd l day E n i) RX:=by
 unfold Bd;refine Snd.ite (fun h=>Snd.okk (Em ?_)) fun _=>Snd.ite (fun h=>Snd.ite (fun _=>Snd.bad) fun hl=>Snd.okk (Em ?_)) fun _=>Snd.ite (fun h=>Snd.okk (Em ?_)) fun _=>Snd.ite (fun _=>PQ hE _) fun _=>Oo hE _
 ·have:=(hT i).num (by simpa using h);simp[A2];omega
 ·obtain⟨h1,h2⟩:=(hT i).str (by simpa using h);simp only[A2,Cy];simp only[h1];simp;refine⟨by omega,?_⟩;simp at h2;by_cases h3:(34:UInt8)∈(Ab l i).text
  ·exact .inr (h2 h3)
  ·exact .inl h3
 ·have:=(hT i).day (by simpa using h);simp[A2];omega
theorem Q7(hT:∀i,TokC day (Ab l i)):∀n i,Snd (AB l day n i) RX:=by
 intro n;induction n with
 |zero=>intro i;exact Snd.out
 | succ n ih=>
   intro i;exact FG (fun i=>FG (fun i=>SO (fun i=>FG (fun i=>FG (fun i=>SP (fun i=>PS ih (fun i=>Q8 hT ih i) _ i) _ i) i) i) _ i) i) i
end
def Bn(f:Ex→Ex)(h:Hd)(p:List Bs)(k:Fo)(k':List Bs→Fo):Ex:=
 if h.op=1∧p.contains h.s=false then f ⟨h,k⟩else if h.op=2 then⟨h,k⟩else if h.op=8 then⟨h,k' (p++h.p)⟩else⟨h,k' p⟩
def AG(f:Ex→Ex):Fo→List Bs→Fo
 | .nil,_=> .nil
 | .cons h k n,p=>(Bn f h p k (AG f k)).fo (AG f n p)
theorem O5{h:Hd}{n:Nat}(ho:AI h n=true)(h1:h.op=1):n=0:=by
 obtain⟨_,_,p3⟩:=DQ ho;unfold Ap at p3;rw[if_neg (by omega),if_pos (.inl h1)]at p3;simp only[Bool.and_eq_true,beq_iff_eq]at p3;exact p3.2
theorem Ta{k:Fo}(h:k.len=0):k= .nil:=by
 cases k with
 |nil=>rfl
 |cons a b c=>simp[Fo.len]at h
section
variable {day:Bs→Int}{d:Wd}
theorem Hs{x:Ex}{t:List Tok}(h:ReadsU day x t)(hf:Fst noO t){l:List Tok}{n i a:Nat}(ha6:a≤6)(hn:t.length+1≤n)(ha:At l i t)(hs:StopP (Ab l (i+t.length)))
 (ho:∀k,a≤k→k<6→Aw l k (i+t.length)=[]):lvR l (Bm l (AB l day n) (Bd l day (AB l day n) n) n) n a i= .ok x (i+t.length):=
 FL ha6 (Nat.le_refl _) (by omega) (h.ok hn (by omega) ha hs) ho ⟨hf.sign ha (by decide),hf.sign ha (by decide)⟩
theorem N4{h:Hd}{k:Fo}{w:OW}(g:Good day h k w):Good day (hd0 4 [45]) (.cons h k .nil) (catL [sgn [45],some ([],[]),Bl (h,w)]):=by
 obtain⟨t,s,e,hf,hu⟩:=g.opd;have e3:catL [sgn [45],some ([],[]),Bl (h,w)]=some (sg [45]::t,[45]++s):=by rw[e];simp[catL,Av,sgn]
 rw[e3];refine⟨_,_,rfl,⟨_,_,rfl,by simp[sg]⟩,?_,fun q=>absurd rfl q.1⟩;intro l n i hn ha hs;simp only[List.length_cons]at hn hs ⊢;obtain⟨n,rfl⟩:∃q,n=q+2:=⟨n-2,by omega⟩;have hs':StopE (Ab l (i+1+t.length)):=by rwa[show i+1+t.length=i+(t.length+1)by omega]
 have h6:lvR l (Bm l (AB l day (n+1)) (Bd l day (AB l day (n+1)) (n+1)) (n+1)) (n+1) 6 i= .ok ⟨hd0 4 [45],.cons h k .nil⟩ (i+(t.length+1)):=by
  show Bm l _ _ (n+1) i=_;unfold Bm;rw[ha.head,Bk,if_pos (by decide),hu.ok (by omega) (by omega) ha.tail hs'.p,Res.bind_ok];show Res.ok _ _=_;congr 1;omega
 rw[F9];exact FL (a:=0) (b:=6) (by omega) (by omega) (by omega) h6 (fun k _ hk=>Dl hk hs) ⟨by rw[ha.head];decide,by rw[ha.head];decide⟩
theorem PN{h:Hd}{k:Fo}{w:OW}(g:Good day h k w):Good day (hd0 4 [46,78,79,84,46]) (.cons h k .nil) (catL [sgn [46,78,79,84,46],Bb,Bl (h,w)]):=by
 obtain⟨t,s,e,hf,hu⟩:=g.opd;have e3:catL [sgn [46,78,79,84,46],Bb,Bl (h,w)]=some (sg [46,78,79,84,46]::t,[46,78,79,84,46]++([32]++s)):=by rw[e];simp[catL,Av,sgn,Bb]
 rw[e3];refine⟨_,_,rfl,⟨_,_,rfl,by simp[sg]⟩,?_,fun q=>absurd rfl q.1⟩;intro l n i hn ha hs;simp only[List.length_cons]at hn hs ⊢;obtain⟨n,rfl⟩:∃q,n=q+2:=⟨n-2,by omega⟩;have hs':StopE (Ab l (i+1+t.length)):=by rwa[show i+1+t.length=i+(t.length+1)by omega]
 have hn0:0<n:=by have:=hf.pos;omega
 have h3:=Hs hu hf (n:=n+1) (a:=3) (by omega) (by omega) ha.tail hs'.p (fun k _ hk=>Dl hk hs');have h2:lvR l (Bm l (AB l day (n+1)) (Bd l day (AB l day (n+1)) (n+1)) (n+1)) (n+1) 2 i= .ok ⟨hd0 4 [46,78,79,84,46],.cons h k .nil⟩ (i+(t.length+1)):=by
  show Bg l (CJ l (n+1) (AY l _ (n+1))) (n+1) i=_;unfold Bg;rw[ha.head];simp only[Bk];rw[if_pos (by decide)];obtain⟨m,rfl⟩:∃q,n=q+1:=⟨n-1,by omega⟩;unfold Bg;rw[hf.sign ha.tail (by decide),hf.sign ha.tail (by decide)];simp only[Bool.or_self,Bool.false_eq_true,if_false];have h3':CJ l (m+1+1) (AY l (Bm l (AB l day (m+1+1)) (Bd l day (AB l day (m+1+1)) (m+1+1)) (m+1+1)) (m+1+1)) (i+1)= .ok ⟨h,k⟩ (i+1+t.length):=h3;rw[h3',Res.bind_ok,Dl (by omega) hs'];simp only[List.isEmpty_nil,if_true,Res.bind_ok];show Res.ok _ _=_;congr 1;omega
 rw[F9];exact Hw (by omega) (by omega) (Hw (by omega) (by omega) h2 (Dl (by omega) hs) (fun q=>absurd q (by decide))) (Dl (by omega) hs) (fun q=>absurd q (by decide))
theorem PM{s:Bs}{h h':Hd}{k k':Fo}{w w':OW}(hs:s∈opsL)(g:Good day h k w)(g':Good day h' k' w'):
 Good day (hd0 5 s) (.cons h k (.cons h' k' .nil)) (catL [Bl (h,w),Bb,sgn s,Bb,Bl (h',w')]):=by
 obtain⟨t1,s1,e1,hf1,hu1⟩:=g.opd;obtain⟨t2,s2,e2,hf2,hu2⟩:=g'.opd;have e3:catL [Bl (h,w),Bb,sgn s,Bb,Bl (h',w')]=some (t1++(sg s::t2),s1++([32]++(s++([32]++s2)))):=by rw[e1,e2];simp[catL,Av,sgn,Bb]
 rw[e3];refine⟨_,_,rfl,hf1.weak.app _,?_,fun q=>absurd rfl q.2⟩;intro l n i hn ha hst;simp only[List.length_cons,List.length_append]at hn hst ⊢;obtain⟨n,rfl⟩:∃q,n=q+1:=⟨n-1,by omega⟩;have hop:Ab l (i+t1.length)=sg s:=ha.right.head;obtain⟨hlv,hval,hne,hoth,hgo⟩:=SE s hs;have ha2:At l (i+t1.length+1) t2:=ha.right.tail;have hst':StopE (Ab l (i+t1.length+1+t2.length)):=by rwa[show i+t1.length+1+t2.length=i+(t1.length+(t2.length+1))by omega]
 have hp1:=hf1.pos;have hp2:=hf2.pos;rw[F9];have r1:=Hs hu1 hf1 (n:=n) (a:=ED s+1) (by omega) (by omega) ha.left (by rw[hop];exact fun _=>hgo) (fun q h1 h2=>by rw[JY hop];exact hoth q h2 (by omega));have r2:=Hs hu2 hf2 (n:=n) (a:=ED s+1) (by omega) (by omega) ha2 hst'.p (fun q _ hk=>Dl hk hst');have hfs:Ae (Ab l i) [46,78,79,84,46]=false∧Ae (Ab l i) [33]=false:=⟨hf1.sign ha.left (by decide),hf1.sign ha.left (by decide)⟩;have r3:=Te hlv (by omega) r1 (by rw[JY hop];exact hval) hne r2 (Dl hlv hst') hfs;have r4:=FL (a:=0) (b:=ED s) (by omega) (by omega) (by omega) r3 (fun q _ hk=>Dl (by omega) hst') hfs;rw[r4];show Res.ok _ _=_;congr 1;omega
theorem N3{h h':Hd}{k k':Fo}{w w':OW}(g:Good day h k w)(g':Good day h' k' w'):
 Good day (hd0 6 []) (.cons h k (.cons h' k' .nil)) (catL [Bl (h,w),sgn [91],w',sgn [93]]):=by
 obtain⟨t1,s1,e1,hf1,hu1⟩:=g.opd;obtain⟨t2,s2,rfl,hf2,hr2,_⟩:=g'.ex;have e3:catL [Bl (h,w),sgn [91],some (t2,s2),sgn [93]]=some (t1++(sg [91]::(t2++[sg [93]])),s1++([91]++(s2++[93]))):=by rw[e1];simp[catL,Av,sgn]
 rw[e3];have hU:ReadsU day ⟨hd0 6 [],.cons h k (.cons h' k' .nil)⟩ (t1++(sg [91]::(t2++[sg [93]]))):=by
  intro l N n i hN hn ha hst;simp only[List.length_cons,List.length_append,List.length_nil]at hN hn hst ⊢;have hp1:=hf1.pos;have hop:Ab l (i+t1.length)=sg [91]:=ha.right.head;have hc:Ab l (i+t1.length+1+t2.length)=sg [93]:=ha.right.tail.right.head;obtain⟨m,hm,e⟩:=hu1 l N n i (by omega) (by omega) ha.left (by rw[hop];exact QD (by decide));obtain⟨m,rfl⟩:∃q,m=q+1:=⟨m-1,by omega⟩;refine⟨m,by omega,?_⟩;rw[e];conv=>lhs;unfold B8
  rw[hop,Bk,if_pos (by decide),hr2 l N (i+t1.length+1) (by omega) ha.right.tail.left (by rw[hc];exact CW (by decide)),Res.bind_ok,C8 hc,Res.bind_ok];show B8 l _ m ⟨hd0 6 [],.cons h k (.cons h' k' .nil)⟩ _=_;congr 1;omega
 exact⟨_,_,rfl,hf1.weak.app _,hU.e (hf1.app _),fun _=>⟨hf1.app _,hU⟩⟩
theorem Pb{k:Fo}(hn:1≤k.len)(hk:Eh day d k):Good day (hd0 7 []) k (catL [sgn [123],AZ ((Ao d k).map (·.2)),sgn [125]]):=by
 cases k with
 |nil=>simp[Fo.len]at hn
 | cons h' k' n'=>
   obtain⟨t,s',e,hf,hr⟩:=IE d hk;have e3:catL [sgn [123],AZ ((Ao d (.cons h' k' n')).map (·.2)),sgn [125]]=some (sg [123]::(t++[sg [125]]),[123]++(s'++[125])):=by
    rw[e];simp[catL,Av,sgn]
   rw[e3];refine Good.prim ⟨_,_,rfl,by simp[sg]⟩ ?_;intro l N i hN ha _;simp only[List.length_cons,List.length_append,List.length_nil]at hN ⊢;have hc:Ab l (i+1+t.length)=sg [125]:=ha.tail.right.head;rw[D2 ha.head];unfold B0;rw[ha.head];simp only[Bk];rw[if_neg (by decide),if_neg (by decide),if_neg (by decide),if_neg (by decide),if_neg (by decide),if_neg (by decide),if_pos (by decide)];unfold Cp;rw[if_neg (by rw[hf.sign ha.tail.left (by decide)];simp)];rw[hr l N N (i+1) (by omega) (by omega) ha.tail.left (by rw[hc];exact⟨CW (by decide),by decide⟩),Res.bind_ok,C8 hc,Res.bind_ok];show Res.ok _ _=_;congr 1;omega
theorem N1{p:List Bs}{h:Hd}{k:Fo}{w:OW}(hp:p.all An=true)(g:Good day h k w):
 Good day ⟨8,[],0,0,[],p⟩ (.cons h k .nil) (catL [sgn [123],sgn [124],AZ (p.map nmW),sgn [124],Bb,w,sgn [125]]):=by
 obtain⟨t,s,rfl,hf,hr,_⟩:=g.ex;cases p with
 | nil=>
   have e3:catL [sgn [123],sgn [124],AZ (([]:List Bs).map nmW),sgn [124],Bb,some (t,s),sgn [125]]=some (sg [123]::sg [124]::sg [124]::(t++[sg [125]]),[123]++([124]++([124]++([32]++(s++[125]))))):=by simp[catL,Av,sgn,Bb,AZ]
   rw[e3];refine Good.prim ⟨_,_,rfl,by simp[sg]⟩ ?_;intro l N i hN ha _;simp only[List.length_cons,List.length_append,List.length_nil]at hN ⊢;have hc:Ab l (i+1+1+1+t.length)=sg [125]:=ha.tail.tail.tail.right.head;rw[D2 ha.head];unfold B0;rw[ha.head];simp only[Bk];rw[if_neg (by decide),if_neg (by decide),if_neg (by decide),if_neg (by decide),if_neg (by decide),if_neg (by decide),if_pos (by decide)];unfold Cp;rw[ha.tail.head,Bk,if_pos (by decide),ha.tail.tail.head,Bk,if_pos (by decide),Res.bind_ok];rw[show i+1+2=i+1+1+1 from rfl,hr l N (i+1+1+1) (by omega) ha.tail.tail.tail.left (by rw[hc];exact CW (by decide)),Res.bind_ok,C8 hc,Res.bind_ok];show Res.ok _ _=_;congr 1;omega
 | cons a p=>
   obtain⟨q,s2,e2,hq⟩:=LX hp;have e3:catL [sgn [123],sgn [124],AZ ((a::p).map nmW),sgn [124],Bb,some (t,s),sgn [125]]=some (sg [123]::sg [124]::(wd a::q++(sg [124]::(t++[sg [125]]))),[123]++([124]++(s2++([124]++([32]++(s++[125])))))):=by
    rw[e2];simp[catL,Av,sgn,Bb]
   rw[e3];refine Good.prim ⟨_,_,rfl,by simp[sg]⟩ ?_;intro l N i hN ha _;simp only[List.length_cons,List.length_append,List.length_nil]at hN ⊢;have ha3:=ha.tail.tail;have hb:Ab l (i+1+1+(wd a::q).length)=sg [124]:=ha3.right.head;have hc:Ab l (i+1+1+(wd a::q).length+1+t.length)=sg [125]:=ha3.right.tail.right.head;rw[D2 ha.head];unfold B0;rw[ha.head];simp only[Bk];rw[if_neg (by decide),if_neg (by decide),if_neg (by decide),if_neg (by decide),if_neg (by decide),if_neg (by decide),if_pos (by decide)];unfold Cp;rw[ha.tail.head,Bk,if_pos (by decide),ha3.left.head,Hj,if_neg (by simp)];rw[hq l N (i+1+1) (by omega) ha3.left (by rw[hb];decide),Res.bind_ok,C8 hb,Res.bind_ok,Res.bind_ok];rw[hr l N _ (by omega) ha3.right.tail.left (by rw[hc];exact CW (by decide)),Res.bind_ok,C8 hc,Res.bind_ok];show Res.ok _ _=_;congr 1;simp only[List.length_cons];omega
theorem LI{s:Bs}(hs:An s=true):Good day (hd0 9 s) .nil (catL [sgn [38],nmW s,sgn [46]]):=by
 have e3:catL [sgn [38],nmW s,sgn [46]]=some ([sg [38],wd s,sg [46]],[38]++(s++[46])):=by simp[catL,Av,sgn,nmW,hs]
 rw[e3];refine Good.prim ⟨_,_,rfl,by simp[sg]⟩ ?_;intro l N i _ ha _;rw[D2 ha.head];unfold B0;rw[ha.head];simp only[Bk];rw[if_pos (by decide)];unfold Co;rw[C8 ha.head,Res.bind_ok,ha.tail.head,Hj,if_neg (by simp),CU ha.tail.head hs,Res.bind_ok,ha.tail.tail.head,Bk,if_pos (by decide)];rfl
theorem LH{h:Hd}{k:Fo}{w:OW}(g:Good day h k w):Good day (hd0 9 []) (.cons h k .nil) (catL [sgn [38],BX w]):=by
 obtain⟨t,s,rfl,hf,hr,_⟩:=g.ex;have e3:catL [sgn [38],BX (some (t,s))]=some (sg [38]::sg [40]::(t++[sg [41]]),[38]++([40]++(s++[41]))):=by simp[catL,Av,sgn,BX]
 rw[e3];refine Good.prim ⟨_,_,rfl,by simp[sg]⟩ ?_;intro l N i hN ha _;simp only[List.length_cons,List.length_append,List.length_nil]at hN ⊢;have hc:Ab l (i+1+1+t.length)=sg [41]:=ha.tail.tail.right.head;rw[D2 ha.head];unfold B0;rw[ha.head];simp only[Bk];rw[if_pos (by decide)];unfold Co;rw[C8 ha.head,Res.bind_ok,ha.tail.head,Bk,if_pos (by decide)];rw[hr l N (i+1+1) (by omega) ha.tail.tail.left (by rw[hc];exact CW (by decide)),Res.bind_ok,C8 hc,Res.bind_ok];show Res.ok _ _=_;congr 1;omega
theorem Pd(hd:Dv d day){h:Hd}{k:Fo}(ho:AI h k.len=true)(hk:okF k=true)(g:Eh day d k):Good day h k (AC d h (Ao d k)):=by
 obtain⟨p1,p2,p3⟩:=DQ ho;unfold Ap at p3;unfold AC;by_cases e0:h.op=0
 ·rw[if_pos e0]at p3 ⊢;simp only[Bool.and_eq_true,beq_iff_eq,List.isEmpty_iff]at p3;rw[DV p3.1.2];exact N2 hd e0 p3.1.1 (p2 (by omega)) p3.2
 rw[if_neg e0]at p3 ⊢;by_cases e1:h.op=1
 ·rw[if_pos (.inl e1)]at p3;rw[if_pos e1];simp only[Bool.and_eq_true,beq_iff_eq]at p3;rw[DV p3.2];have e:=Dc e1 (p1 (by omega)) (p2 (by omega));have:=Pc (day:=day) p3.1;rwa[←e]at this
 rw[if_neg e1];by_cases e10:h.op=10
 ·rw[if_pos (.inr e10)]at p3;rw[if_neg (by omega),if_neg (by omega),if_neg (by omega),if_neg (by omega),if_neg (by omega),if_neg (by omega),if_neg (by omega),if_neg (by omega),if_pos e10];simp only[Bool.and_eq_true,beq_iff_eq]at p3;rw[DV p3.2];have e:=Dc e10 (p1 (by omega)) (p2 (by omega));have:=QJ (day:=day) p3.1;rwa[←e]at this
 rw[if_neg (by omega)]at p3;by_cases e2:h.op=2
 ·rw[if_pos e2]at p3 ⊢;simp only[Bool.and_eq_true,beq_iff_eq]at p3;obtain⟨a,b,rfl⟩:=Cz p3.2;have e:=Dc e2 (p1 (by omega)) (p2 (by omega));simp only[okF,Bool.and_eq_true]at hk;have:=N0 p3.1 g.1 hk.1.1;rwa[←e]at this
 rw[if_neg e2]at p3 ⊢;by_cases e3:h.op=3
 ·rw[if_pos e3]at p3 ⊢;have e:=Dc e3 (p1 (by omega)) (p2 (by omega));have:=Pa p3 g;rwa[←e]at this
 rw[if_neg e3]at p3 ⊢;by_cases e4:h.op=4
 ·rw[if_pos e4]at p3 ⊢;simp only[Bool.and_eq_true,Bool.or_eq_true,beq_iff_eq]at p3;obtain⟨a,b,rfl⟩:=Cz p3.2;have e:=Dc e4 (p1 (by omega)) (p2 (by omega));show Good day h _ (catL [sgn h.s,if h.s=[46,78,79,84,46]then Bb else some ([],[]),Bl (a,AC d a (Ao d b))]);rcases p3.1 with hs|hs
  ·rw[hs,if_neg (by decide),e,hs];exact N4 g.1
  ·rw[hs,if_pos rfl,e,hs];exact PN g.1
 rw[if_neg e4]at p3 ⊢;by_cases e5:h.op=5
 ·rw[if_pos e5]at p3 ⊢;simp only[Bool.and_eq_true,beq_iff_eq,List.contains_iff_mem]at p3;obtain⟨a,b,a',b',rfl⟩:=E0 p3.2;have e:=Dc e5 (p1 (by omega)) (p2 (by omega));have:=PM p3.1 g.1 g.2.1;rwa[←e]at this
 rw[if_neg e5]at p3 ⊢;by_cases e6:h.op=6
 ·rw[if_pos e6]at p3 ⊢;simp only[Bool.and_eq_true,beq_iff_eq,List.isEmpty_iff]at p3;obtain⟨a,b,a',b',rfl⟩:=E0 p3.2;have e:=Dc e6 (p1 (by omega)) (p2 (by omega));rw[p3.1]at e;have:=N3 g.1 g.2.1;rwa[←e]at this
 rw[if_neg e6]at p3 ⊢;by_cases e7:h.op=7
 ·rw[if_pos e7]at p3 ⊢;simp only[Bool.and_eq_true,decide_eq_true_eq,List.isEmpty_iff]at p3;have e:=Dc e7 (p1 (by omega)) (p2 (by omega));rw[p3.1]at e;have:=Pb p3.2 g;rwa[←e]at this
 rw[if_neg e7]at p3 ⊢;by_cases e8:h.op=8
 ·rw[if_pos e8]at p3 ⊢;simp only[Bool.and_eq_true,beq_iff_eq,List.isEmpty_iff]at p3;obtain⟨a,b,rfl⟩:=Cz p3.1.2;have e:h=⟨8,[],0,0,[],h.p⟩:=by
   obtain⟨h3,h4,h5⟩:=p1 (by omega);have:=p3.1.1;cases h;simp_all
  have:=N1 p3.2 g.1;rwa[←e]at this
 rw[if_neg e8]at p3 ⊢;by_cases e9:h.op=9
 ·rw[if_pos e9]at p3 ⊢;simp only[Bool.and_eq_true,Bool.or_eq_true,beq_iff_eq,List.isEmpty_iff]at p3;have e:=Dc e9 (p1 (by omega)) (p2 (by omega));rcases p3 with⟨hs,hn⟩| ⟨hs,hn⟩
  ·rw[DV hn];have:=LI (day:=day) hs;rwa[←e]at this
  ·obtain⟨a,b,rfl⟩:=Cz hn;rw[hs]at e;have:=LH g.1;rwa[←e]at this
 rw[if_neg e9]at p3;cases p3
theorem PL(hd:Dv d day):∀f:Fo,okF f=true→Eh day d f:=by
 intro f;induction f with
 |nil=>intro _;exact trivial
 | cons h k n ihk ihn=>
   intro ho;simp only[okF,Bool.and_eq_true]at ho;exact⟨Pd hd ho.1.1 ho.1.2 (ihk ho.1.2),ihn ho.2⟩
theorem Rw(hd:Dv d day){x:Ex}(ho:okF (.one x)=true):∃t s,exW d x=some (t,s)∧0<t.length∧∀n,t.length+1<n→AB t day n 0= .ok x t.length:=by
 obtain⟨t,s,e,hf,hr,_⟩:=(PL hd _ ho).1.ex;refine⟨t,s,e,hf.pos,fun n hn=>?_⟩;have h5:Ab t (0+t.length)=⟨-1,0,[]⟩:=by
  unfold Ab;rw[Nat.zero_add,List.getElem?_eq_none (Nat.le_refl _)];rfl
 have:=hr t n 0 hn (At.all t) (by intro h4;rw[h5]at h4;exact absurd h4 (by decide));rwa[Nat.zero_add]at this
end
open Go.RowKit
def Dr(x y:Ex):Bool:=Cb x.h y.h&&By x.kids y.kids
theorem IL(x:Ex):Dr x x=true:=by simp[Dr,Cb,Of]
theorem Ij{w:World}{ok ok':Nat→Prop}{u v:Value}{x y:Ex}(hx:VE ok w u x)(hy:VE ok' w v y):
 Calls Tryz.prog 11 #[u,v] w fun e w'=>e= .returned (.bool (Dr x y))∧w.grownBy w' none:=by
 obtain⟨pa,pc,la,lc,rfl,hp,hl⟩:=hx;obtain⟨pb,pd,lb,ld,rfl,hp2,hl2⟩:=hy;exact Ih hp hp2 (fun W g=>KF _ x.kids y.kids (Nat.lt_succ_self _) _ _ la lb lc ld W (hl.gb g (by simp)) (hl2.gb g (by simp)))
theorem P5(k:Nat)(v:Value)(w:World):(callFunc 66 (#[v]++#[.pointer (some ⟨k,0,none⟩)])).run Tryz.prog w= .ok (.enter 66 (#[v]++#[.pointer (some ⟨k,0,none⟩)])) w:=by kernel_rfl
def Py(l:List Tok)(w:World)(M:Res Ex)(e:Ending)(w':World):Prop:=
 ∃h pa pn pc la ln lc,e= .returned (.tuple #[exV h (.slice pa pn pc) (.slice la ln lc),.int .i64 (Ce l M)])∧w.grownBy w' none∧
  ∀x j,M= .ok x j→VE (A8 w.heap.size) w' (exV h (.slice pa pn pc) (.slice la ln lc)) x
theorem QX{w:World}(hg:Glob w){tv:Value}{l:List Tok}{day:Bs→Int}(hl:Du day l)(ht:TRow w tv l (fun _=>True))(hlen:l.length≤4001)(n:Nat)(ho:BE l day n ≠ .out):
 Calls Tryz.prog 37 #[tv] w (Py l w (BE l day n)):=by
 have hmf:∀(fn:Fn)(first cap:Array Value)(w:World),(Instr.makeFunc fn first cap).run Tryz.prog w= .ok (.func fn first cap) w:=fun _ _ _ _=>rfl;have g0:w.grownBy ((w.alloc (.cells zeroE.toArray 27 (0,0))).alloc (.cells zeroE.toArray 27 (0,0))) none:=Ad (World.grownBy_alloc w _ none) _;have hz:=(Blk.new w zeroE 27).alloc (.cells zeroE.toArray 27 (0,0));have hk:=Blk.new (w.alloc (.cells zeroE.toArray 27 (0,0))) zeroE 27;replace hk:=hk.of_eq (k':=w.heap.size+1) (by simp) rfl;have ht0:=(ht.mono (ok':=fun g=>g<w.heap.size) (fun k _ h=>h)).gb g0 (by simp);have hg0:=hg.gb g0 (by simp);have hk0:=hk.lt;have hw0:0<w.heap.size:=by
  unfold Glob Lib.TabIs World.var? at hg;simp only[EZ,Option.bind_some]at hg;rcases Nat.lt_or_ge 0 w.heap.size with h' |h'
  ·exact h'
  ·rw[Array.getElem?_eq_none h']at hg;simp at hg
 have H:=O (Z hl ho);clear hl ho hg;go_enter func37,ntmps37;go_wp2_with fail;refine(Ka (k:=w.heap.size+1) hg0 (ht0.mono (fun _ _ _=>trivial)) hlen 66 #[.pointer (some ⟨w.heap.size+1,0,none⟩)] (P5 _) (BE l day n) hk0 (SomeE (w.heap.size+1)) ?_ (HoldsE (w.heap.size+1)) ?_ ?_).mono ?_
 ·intro w2 w3 r h g hr;exact h.gb g (by simp;simp at hr;omega)
 ·intro B w2 w3 a r h g hr hB;exact h.gb g (by simp;simp at hr;omega) (by intro q e;cases e;exact hB)
 ·intro w1 b wv g1 hb1 hp hs;refine Pj H.out.1 n hp (hk.gb g1 (by simp)) (by simp at hb1;omega) ((ht0.gb g1 (by simp)).mono (fun q hq _=>by have:q<w.heap.size:=hq;omega)) (hs.mono (fun q hq _=>⟨by have:=hq.1;simp at this;omega,hq.2⟩)) H.out.2
 rintro e w1 ⟨rfl,g1,⟨h,pa,pn,pc,la,ln,lc,hB⟩,hV⟩;have hz1:=hz.gb g1 (by simp);obtain⟨cl_0,cl_1,cl_2,cl_3,cl_4,cl_5,cl_6,cl_f⟩:=(hB).c7;obtain⟨cz_0,cz_1,cz_2,cz_3,cz_4,cz_5,cz_6,cz_f⟩:=(hz1).c7;have hltz:=hz1.lt;go_wp2;have g7:=Ah w1 w.heap.size (.int .i64 h.op) (str h.s) (.int .i64 h.vk) (.int .i64 h.vn) (str h.vs) (.slice pa pn pc) (.slice la ln lc);have hW:=hz1.set7 (.int .i64 h.op) (str h.s) (.int .i64 h.vk) (.int .i64 h.vn) (str h.vs) (.slice pa pn pc) (.slice la ln lc);simp only[set7]at hW g7;generalize(((((((w1.setCell {block:=w.heap.size,off:=0} (.int .i64 h.op)).setCell {block:=w.heap.size,off:=1} (str h.s)).setCell {block:=w.heap.size,off:=2} (.int .i64 h.vk)).setCell {block:=w.heap.size,off:=3} (.int .i64 h.vn)).setCell {block:=w.heap.size,off:=4} (str h.vs)).setCell {block:=w.heap.size,off:=5} (.slice pa pn pc)).setCell {block:=w.heap.size,off:=6} (.slice la ln lc))=W at*;obtain⟨dl_0,dl_1,dl_2,dl_3,dl_4,dl_5,dl_6,dl_f⟩:=(hW).c7;refine bodyPost_ret (v:= .tuple #[exV h (.slice pa pn pc) (.slice la ln lc),.int .i64 (Ce l (BE l day n))]) ?_ rfl ⟨h,pa,pn,pc,la,ln,lc,rfl,?_,?_⟩
 ·simp[results,results37,go_sem,dl_0,dl_1,dl_2,dl_3,dl_4,dl_5,dl_6]
 ·exact A9 (A9 g0 g1 (.inr (by omega))) g7 (.inr (Nat.le_refl _))
 ·intro x j e;obtain⟨B,hB',pa',pc',la',lc',hb',rp,rl⟩:=hV x j e;have hok:∀q,A8 B q→q<w1.heap.size→some q≠some w.heap.size:=fun q hq _ e=>by simp at hB' hq;cases e;omega
  have hok2:∀q,A8 B q→q<W.heap.size→A8 w.heap.size q:=fun q hq _=>by simp at hB' hq ⊢;omega
  have e1:(hdC x.h (.slice pa' x.h.p.length pc') (.slice la' x.kids.len lc')).toArray=(hdC h (.slice pa pn pc) (.slice la ln lc)).toArray:=by
   have e2:=hb'.symm.trans hB;injection e2 with e2
   injection e2
  have e3:exV h (.slice pa pn pc) (.slice la ln lc)=exV x.h (.slice pa' x.h.p.length pc') (.slice la' x.kids.len lc'):=by rw[show exV h _ _= .agg (hdC h (.slice pa pn pc) (.slice la ln lc)).toArray from rfl,←e1];rfl
  rw[e3];exact⟨pa',pc',la',lc',rfl,(rp.gb g7 hok).mono hok2,(rl.gb g7 hok).mono hok2⟩
open Go.Lib
theorem u8x:U8Extra Tryz.prog lays260_ren:=⟨by kernel_rfl,by kernel_rfl,by kernel_rfl,by kernel_rfl,by kernel_rfl,by kernel_rfl,by kernel_rfl⟩
theorem casex:CaseExtra Tryz.prog Tryz.lays203_ren:=⟨by kernel_rfl,by kernel_rfl,by kernel_rfl,by kernel_rfl,by kernel_rfl,by kernel_rfl⟩
theorem Ia{P:Program}{W:World}{name:String}{k:IntKind}{zs:List Int}{g:Nat}{t e:TypeId}{n:Nat}
 (hg:P.globalNamed name=some g) (hty:(P.globals[g]?).map (·.type)=some t) (ht:P.underlying t=some (.array n e)) (he:P.underlying e=some (.int k)) (hce:P.cellsOf e=1) (hct:P.cellsOf t=n)
 (h:VarReads P W name (tabData k zs)):TabIs P W name k zs:=by
 obtain⟨g',t',cs,fuel,p,hg',ht',hvar,hd⟩:=h;obtain rfl:=Option.some.inj (hg.symm.trans hg');obtain rfl:=Option.some.inj (hty.symm.trans ht');unfold TabIs;rw[hvar,←cells_of_tab ht he hce hct hd]
theorem MA{P:Program}{W:World}{name:String}{d:DataW Unit}{g:Nat}(hg:P.globalNamed name=some g)(h:VarReads P W name d):g<W.heap.size:=by
 obtain⟨g',t',cs,fuel,p,hg',ht',hvar,hd⟩:=h;obtain rfl:=Option.some.inj (hg.symm.trans hg');unfold World.var? at hvar;rw[hg]at hvar;simp only[Option.bind_some]at hvar;rcases Nat.lt_or_ge g W.heap.size with h|h
 ·exact h
 ·rw[Array.getElem?_eq_none h]at hvar;simp at hvar
theorem Lu {W : World} {laid : List (String × DataW Unit)} (h : laidMet Tryz.prog laid W) {d : DataW Unit} (h1 : ("unicode/utf8.first", firstData) ∈ laid) (h2 : ("unicode/utf8.acceptRanges", acceptData) ∈ laid)
 (h3 : ("unicode.CaseRanges", caseData) ∈ laid) (h4 : ("strings.asciiSpace", tabData .u8 asciiSpaceTab) ∈ laid) (h5 : ("strconv.ErrRange", d) ∈ laid) : Tabs W.heap.size W := by
 have hu:=utf8Tabs_of_reads lays260 u8x (laidMet.reads h h1) (laidMet.reads h h2);have hc:=caseVar_of_reads {Tryz.lays203 with} Tryz.lays203.t206 casex (laidMet.reads h h3);have hg:=MA (g:=10) (by kernel_rfl) (laidMet.reads h h5);have e13:Tryz.lays203_ren.g 13=4:=by kernel_rfl
 rw[e13]at hc;obtain⟨R,oR,cap,hcell,hT⟩:=hc;have hR:=World.block_lt_of_cell? W _ (hT 0 (by decide+kernel)).1;exact⟨hu,hg,⟨R,oR,cap,hR,hcell,hT⟩,Ia EZ (t:=99) (e:=5) (n:=256) (by kernel_rfl) underlying99 underlying5 (by kernel_rfl) (by kernel_rfl) (laidMet.reads h h4)⟩
end Go.Proofs.YtgjdhajcnechdaaGreatDoor
