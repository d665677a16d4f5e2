/-
  Plain laws: the text of an expression that is right, as the program makes it, is what the reference writes. A reading's expression has no more nodes than the tokens read. tree.ParseExpr.
-/
import Derived.Test.YtgjdhajcnechdaaGreatDoorSw25
set_option linter.all false
set_option maxRecDepth 100000
set_option maxHeartbeats 8000000
namespace Go.Proofs.YtgjdhajcnechdaaGreatDoor
open Go.Proofs.Tryz
def BD:List Bs→Bs
 | []=>[]
 |a::r=>a++(r.map fun s=>[44,32]++s).flatten
def Eb(d:Wd)(h:Hd):Bs:=
 if h.vk=1 then(if h.vn=0 then [46,70,46]else [46,84,46])
 else if h.vk=2 then d.num h.vn
 else if h.vk=3 then(if h.vn=0 then [123,125]else CZ (d.day h.vn))
 else if h.vk=4 then(if h.vs.contains 34 then [39]++h.vs++[39]else [34]++h.vs++[34])
 else [46,78,85,76,76,46]
def opT(x:Hd×Bs):Bs:=if x.1.op=4∨x.1.op=5 then [40]++x.2++[41]else x.2
def Bi(d:Wd)(h:Hd)(ks:List (Hd×Bs)):Bs:=
 if h.op=0 then Eb d h
 else if h.op=2 then(match ks with
  |x::_=>if x.1.op=1 then h.s++[45,62]++x.1.s else h.s++[45,62,40]++x.2++[41]
  | []=>[])
 else if h.op=3 then h.s++[40]++BD (ks.map (·.2))++[41]
 else if h.op=4 then(match ks with
  |x::_=>if h.s=[45]then [45]++opT x else h.s++[32]++opT x
  | []=>[])
 else if h.op=5 then(match ks with
  |x::y::_=>opT x++[32]++h.s++[32]++opT y
  |_=>[])
 else if h.op=6 then(match ks with
  |x::y::_=>opT x++[91]++y.2++[93]
  |_=>[])
 else if h.op=7 then [123]++BD (ks.map (·.2))++[125]
 else if h.op=8 then(match ks with
  |x::_=>[123,124]++BD h.p++[124,32]++x.2++[125]
  | []=>[])
 else if h.op=9 then(if h.s≠[]then [38]++h.s++[46]else(match ks with
  |x::_=>[38,40]++x.2++[41]
  | []=>[]))
 else if h.op=10 then [64]++h.s
 else h.s
def A7(d:Wd):Fo→List (Hd×Bs)
 | .nil=>[]
 | .cons h k n=>(h,Bi d h (A7 d k))::A7 d n
def Cj(d:Wd)(x:Ex):Bs:=Bi d x.h (A7 d x.kids)
def HasT(w:OW)(s:Bs):Prop:=∃t,w=some (t,s)
def RowT:List (Hd×OW)→List (Hd×Bs)→Prop
 | [],[]=>True
 |x::r,y::q=>x.1=y.1∧HasT x.2 y.2∧RowT r q
 |_,_=>False
section
variable {d:Wd}
theorem HasT.cat{a b:OW}{s u:Bs}(ha:HasT a s)(hb:HasT b u):HasT (Av a b) (s++u):=by
 obtain⟨t,rfl⟩:=ha;obtain⟨q,rfl⟩:=hb;exact⟨t++q,rfl⟩
theorem HasT.nil:HasT (catL []) []:=⟨[],rfl⟩
theorem HasT.sg(s:Bs):HasT (sgn s) s:=⟨_,rfl⟩
theorem HasT.bl:HasT Bb [32]:=⟨_,rfl⟩
theorem HasT.nm{s:Bs}(h:An s=true):HasT (nmW s) s:=⟨_,by unfold nmW;rw[if_pos h]⟩
theorem HasT.closed{w:OW}{s:Bs}(h:HasT w s):HasT (BX w) ([40]++s++[41]):=by
 have:=(HasT.sg [40]).cat (h.cat ((HasT.sg [41]).cat HasT.nil));simpa[BX,catL]using this
theorem HasT.opd{h:Hd}{w:OW}{s:Bs}(k:HasT w s):HasT (Bl (h,w)) (opT (h,s)):=by
 unfold Bl opT;by_cases ho:h.op≠4∧h.op≠5
 ·rw[if_pos ho,if_neg (by rintro(e|e);exact ho.1 e;exact ho.2 e)];exact k
 ·rw[if_neg ho,if_pos (by by_cases e:h.op=4;exact .inl e;exact .inr (Classical.not_not.1 fun e2=>ho ⟨e,e2⟩))];exact k.closed
theorem HasT.tail:∀{L:List OW}{S:List Bs},L.length=S.length→(∀i,i<L.length→∃w s,L[i]? =some w∧S[i]? =some s∧HasT w s)→HasT (CG L) ((S.map fun s=>[44,32]++s).flatten):=by
 intro L;induction L with
 | nil=>
   intro S hl _;cases S with
   |nil=>exact⟨_,rfl⟩
   |cons _ _=>simp at hl
 | cons a r ih=>
   intro S hl h;cases S with
   |nil=>simp at hl
   | cons s q=>
     obtain⟨w,u,e1,e2,h1⟩:=h 0 (by simp);simp at e1 e2;subst e1 e2;have h2:=ih (S:=q) (by simpa using hl) (fun i hi=>by
      obtain⟨w,u,e1,e2,h1⟩:=h (i+1) (by simp;omega);exact⟨w,u,by simpa using e1,by simpa using e2,h1⟩)
     have h3:=(HasT.sg [44]).cat (HasT.bl.cat (h1.cat (h2.cat HasT.nil)));simpa[CG,catL]using h3
theorem HasT.list{L:List OW}{S:List Bs}(hl:L.length=S.length)(h:∀i,i<L.length→∃w s,L[i]? =some w∧S[i]? =some s∧HasT w s):HasT (AZ L) (BD S):=by
 cases L with
 | nil=>
   cases S with
   |nil=>exact⟨_,rfl⟩
   |cons _ _=>simp at hl
 | cons a r=>
   cases S with
   |nil=>simp at hl
   | cons s q=>
     obtain⟨w,u,e1,e2,h1⟩:=h 0 (by simp);simp at e1 e2;subst e1 e2;exact h1.cat (HasT.tail (S:=q) (by simpa using hl) (fun i hi=>by
      obtain⟨w,u,e1,e2,h1⟩:=h (i+1) (by simp;omega);exact⟨w,u,by simpa using e1,by simpa using e2,h1⟩))
theorem RowT.list:∀{ks:List (Hd×OW)}{qs:List (Hd×Bs)},RowT ks qs→(ks.map (·.2)).length=(qs.map (·.2)).length∧∀i,i<(ks.map (·.2)).length→∃w s,(ks.map (·.2))[i]? =some w∧(qs.map (·.2))[i]? =some s∧HasT w s:=by
 intro ks;induction ks with
 | nil=>
   intro qs h;cases qs with
   |nil=>exact⟨rfl,fun i hi=>by simp at hi⟩
   |cons _ _=>exact h.elim
 | cons x r ih=>
   intro qs h;cases qs with
   |nil=>exact h.elim
   | cons y q=>
     obtain⟨h1,h2,h3⟩:=h;obtain⟨i1,i2⟩:=ih h3;refine⟨by simpa using i1,fun i hi=>?_⟩;cases i with
     |zero=>exact⟨x.2,y.2,rfl,rfl,h2⟩
     |succ i=>simpa using i2 i (by simpa using hi)
theorem MN{p:List Bs}(hp:p.all An=true):HasT (AZ (p.map nmW)) (BD p):=by
 refine HasT.list (by simp) fun i hi=>?_;simp only[List.length_map]at hi;refine⟨nmW p[i],p[i],by simp[hi],by simp[hi],HasT.nm ?_⟩;exact List.all_eq_true.1 hp _ (List.getElem_mem hi)
theorem Ox{day:Bs→Int}(hd:Dv d day){h:Hd}(hc:A2 h=true):HasT (BK d h) (Eb d h):=by
 unfold A2 at hc;unfold BK Eb;by_cases k0:h.vk=0
 ·rw[if_pos k0]at hc;simp at hc;rw[if_neg (by simp[A1,k0,hc.1,hc.2]),if_pos k0,if_neg (by omega),if_neg (by omega),if_neg (by omega),if_neg (by omega)];exact HasT.sg _
 rw[if_neg k0]at hc;by_cases k1:h.vk=1
 ·rw[if_pos k1]at hc;simp at hc;rw[if_neg (by simp[A1,k1,hc.2];omega),if_neg k0,if_pos k1,if_pos k1];exact HasT.sg _
 rw[if_neg k1]at hc;by_cases k2:h.vk=2
 ·rw[if_pos k2]at hc;simp at hc;obtain⟨e1,e2⟩:=hd.nums h.vn hc.1.1 hc.1.2;rw[if_neg (by simp[A1,k2,hc.2];omega),if_neg k0,if_neg k1,if_pos k2,if_neg (by omega),if_neg k1,if_pos k2];exact⟨_,rfl⟩
 rw[if_neg k2]at hc;by_cases k3:h.vk=3
 ·rw[if_pos k3]at hc;simp at hc;rw[if_neg (by simp[A1,k3,hc.2];omega),if_neg k0,if_neg k1,if_neg k2,if_pos k3,if_neg k1,if_neg k2,if_pos k3];split
  ·exact⟨_,rfl⟩
  ·exact⟨_,rfl⟩
 rw[if_neg k3]at hc;by_cases k4:h.vk=4
 ·rw[if_pos k4]at hc;simp only[Bool.and_eq_true,beq_iff_eq]at hc;obtain⟨hn,ht⟩:=hc;unfold Cy at ht;simp only[Bool.and_eq_true,decide_eq_true_eq,Bool.not_eq_true',Bool.and_eq_false_iff]at ht;obtain⟨⟨h1,h2⟩,h3⟩:=ht;rw[if_neg (by simp[A1,k4,hn];omega),if_neg k0,if_neg k1,if_neg k2,if_neg k3,if_neg k1,if_neg k2,if_neg k3,if_pos k4];have hall:(h.vs.all fun b=>BG b&&b !=Bq h.vs)=true:=by
   rw[List.all_eq_true]at h1 ⊢;intro b hb;rw[Bool.and_eq_true];refine⟨h1 b hb,?_⟩;unfold Bq;rcases h3 with h3|h3
   ·rw[h3];simp only[Bool.false_eq_true,if_false,bne_iff_ne,ne_eq];rintro rfl;simp[List.contains_eq_mem]at h3;exact h3 hb
   ·split
    ·simp only[bne_iff_ne,ne_eq];rintro rfl;simp[List.contains_eq_mem]at h3;exact h3 hb
    ·rename_i h34;simp only[bne_iff_ne,ne_eq];rintro rfl;simp[List.contains_eq_mem]at h34;exact h34 hb
  unfold Dx;rw[if_pos hall];unfold Bq;split
  ·exact⟨_,rfl⟩
  ·exact⟨_,rfl⟩
 rw[if_neg k4]at hc;cases hc
theorem Jj{day:Bs→Int}(hd:Dv d day){h:Hd}{k:Fo}(ho:AI h k.len=true)(hk:okF k=true)(g:RowT (Ao d k) (A7 d k)):HasT (AC d h (Ao d k)) (Bi d h (A7 d k)):=by
 obtain⟨p1,p2,p3⟩:=DQ ho;unfold Ap at p3;unfold AC Bi;by_cases e0:h.op=0
 ·rw[if_pos e0]at p3;rw[if_pos e0,if_pos e0];simp only[Bool.and_eq_true]at p3;exact Ox hd p3.2
 rw[if_neg e0]at p3;rw[if_neg e0,if_neg e0];by_cases e1:h.op=1
 ·rw[if_pos (.inl e1)]at p3;rw[if_pos e1,if_neg (by omega),if_neg (by omega),if_neg (by omega),if_neg (by omega),if_neg (by omega),if_neg (by omega),if_neg (by omega),if_neg (by omega),if_neg (by omega)];simp only[Bool.and_eq_true]at p3;exact HasT.nm p3.1
 rw[if_neg e1];by_cases e10:h.op=10
 ·rw[if_pos (.inr e10)]at p3;rw[if_neg (by omega),if_neg (by omega),if_neg (by omega),if_neg (by omega),if_neg (by omega),if_neg (by omega),if_neg (by omega),if_neg (by omega),if_pos e10];rw[if_neg (by omega),if_neg (by omega),if_neg (by omega),if_neg (by omega),if_neg (by omega),if_neg (by omega),if_neg (by omega),if_neg (by omega),if_pos e10];simp only[Bool.and_eq_true]at p3;have:=(HasT.sg [64]).cat ((HasT.nm p3.1).cat HasT.nil);simpa[catL]using this
 rw[if_neg (by omega)]at p3;by_cases e2:h.op=2
 ·rw[if_pos e2]at p3;rw[if_pos e2,if_pos e2];simp only[Bool.and_eq_true,beq_iff_eq]at p3;obtain⟨a,b,rfl⟩:=Cz p3.2;simp only[okF,Bool.and_eq_true]at hk;have hq:A7 d (.cons a b .nil)=[(a,Bi d a (A7 d b))]:=rfl;have hw:Ao d (.cons a b .nil)=[(a,AC d a (Ao d b))]:=rfl;rw[hq,hw]at g ⊢;simp only;by_cases ea:a.op=1
  ·rw[if_pos ea,if_pos ea];have hn:An a.s=true:=by
    obtain⟨_,_,q3⟩:=DQ hk.1.1;unfold Ap at q3;rw[if_neg (by omega),if_pos (.inl ea)]at q3;simp only[Bool.and_eq_true]at q3;exact q3.1
   have:=(HasT.nm p3.1).cat ((HasT.sg [45,62]).cat ((HasT.nm hn).cat HasT.nil));simpa[catL]using this
  ·rw[if_neg ea,if_neg ea];have:=(HasT.nm p3.1).cat ((HasT.sg [45,62]).cat ((g.2.1.closed).cat HasT.nil));simpa[catL]using this
 rw[if_neg e2]at p3;rw[if_neg e2,if_neg e2];by_cases e3:h.op=3
 ·rw[if_pos e3]at p3;rw[if_pos e3,if_pos e3];have:=(HasT.nm p3).cat ((HasT.sg [40]).cat ((HasT.list g.list.1 g.list.2).cat ((HasT.sg [41]).cat HasT.nil)));simpa[catL]using this
 rw[if_neg e3]at p3;rw[if_neg e3,if_neg e3];by_cases e4:h.op=4
 ·rw[if_pos e4]at p3;rw[if_pos e4,if_pos e4];simp only[Bool.and_eq_true,Bool.or_eq_true,beq_iff_eq]at p3;obtain⟨a,b,rfl⟩:=Cz p3.2;have hq:A7 d (.cons a b .nil)=[(a,Bi d a (A7 d b))]:=rfl;have hw:Ao d (.cons a b .nil)=[(a,AC d a (Ao d b))]:=rfl;rw[hq,hw]at g ⊢;simp only;rcases p3.1 with hs|hs
  ·rw[hs,if_neg (by decide),if_pos rfl];have:=(HasT.sg [45]).cat ((show HasT (some ([],[])) []from⟨_,rfl⟩).cat ((HasT.opd (h:=a) g.2.1).cat HasT.nil));simpa[catL]using this
  ·rw[hs,if_pos rfl,if_neg (by decide)];have:=(HasT.sg [46,78,79,84,46]).cat (HasT.bl.cat ((HasT.opd (h:=a) g.2.1).cat HasT.nil));simpa[catL]using this
 rw[if_neg e4]at p3;rw[if_neg e4,if_neg e4];by_cases e5:h.op=5
 ·rw[if_pos e5]at p3;rw[if_pos e5,if_pos e5];simp only[Bool.and_eq_true,beq_iff_eq]at p3;obtain⟨a,b,a',b',rfl⟩:=E0 p3.2;have hq:A7 d (.cons a b (.cons a' b' .nil))=[(a,Bi d a (A7 d b)),(a',Bi d a' (A7 d b'))]:=rfl;have hw:Ao d (.cons a b (.cons a' b' .nil))=[(a,AC d a (Ao d b)),(a',AC d a' (Ao d b'))]:=rfl;rw[hq,hw]at g ⊢;simp only;have:=(HasT.opd (h:=a) g.2.1).cat (HasT.bl.cat ((HasT.sg h.s).cat (HasT.bl.cat ((HasT.opd (h:=a') g.2.2.2.1).cat HasT.nil))));simpa[catL]using this
 rw[if_neg e5]at p3;rw[if_neg e5,if_neg e5];by_cases e6:h.op=6
 ·rw[if_pos e6]at p3;rw[if_pos e6,if_pos e6];simp only[Bool.and_eq_true,beq_iff_eq]at p3;obtain⟨a,b,a',b',rfl⟩:=E0 p3.2;have hq:A7 d (.cons a b (.cons a' b' .nil))=[(a,Bi d a (A7 d b)),(a',Bi d a' (A7 d b'))]:=rfl;have hw:Ao d (.cons a b (.cons a' b' .nil))=[(a,AC d a (Ao d b)),(a',AC d a' (Ao d b'))]:=rfl;rw[hq,hw]at g ⊢;simp only;have:=(HasT.opd (h:=a) g.2.1).cat ((HasT.sg [91]).cat (g.2.2.2.1.cat ((HasT.sg [93]).cat HasT.nil)));simpa[catL]using this
 rw[if_neg e6]at p3;rw[if_neg e6,if_neg e6];by_cases e7:h.op=7
 ·rw[if_pos e7,if_pos e7];have:=(HasT.sg [123]).cat ((HasT.list g.list.1 g.list.2).cat ((HasT.sg [125]).cat HasT.nil));simpa[catL]using this
 rw[if_neg e7]at p3;rw[if_neg e7,if_neg e7];by_cases e8:h.op=8
 ·rw[if_pos e8]at p3;rw[if_pos e8,if_pos e8];simp only[Bool.and_eq_true,beq_iff_eq]at p3;obtain⟨a,b,rfl⟩:=Cz p3.1.2;have hq:A7 d (.cons a b .nil)=[(a,Bi d a (A7 d b))]:=rfl;have hw:Ao d (.cons a b .nil)=[(a,AC d a (Ao d b))]:=rfl;rw[hq,hw]at g ⊢;simp only;have:=(HasT.sg [123]).cat ((HasT.sg [124]).cat ((MN p3.2).cat ((HasT.sg [124]).cat (HasT.bl.cat (g.2.1.cat ((HasT.sg [125]).cat HasT.nil))))));simpa[catL]using this
 rw[if_neg e8]at p3;rw[if_neg e8,if_neg e8];by_cases e9:h.op=9
 ·rw[if_pos e9]at p3;rw[if_pos e9,if_pos e9];simp only[Bool.and_eq_true,Bool.or_eq_true,beq_iff_eq,List.isEmpty_iff]at p3;rcases p3 with⟨hs,hn⟩| ⟨hs,hn⟩
  ·rw[DV hn];rw[if_pos (by intro e;rw[e]at hs;exact absurd hs (by decide))];have hw:Ao d .nil=[]:=rfl;rw[hw];simp only;have:=(HasT.sg [38]).cat ((HasT.nm hs).cat ((HasT.sg [46]).cat HasT.nil));simpa[catL]using this
  ·obtain⟨a,b,rfl⟩:=Cz hn;have hq:A7 d (.cons a b .nil)=[(a,Bi d a (A7 d b))]:=rfl;have hw:Ao d (.cons a b .nil)=[(a,AC d a (Ao d b))]:=rfl;rw[hq,hw]at g ⊢;rw[if_neg (by simpa using hs)];simp only;have:=(HasT.sg [38]).cat (g.2.1.closed.cat HasT.nil);simpa[catL]using this
 rw[if_neg e9]at p3;cases p3
theorem QG{day:Bs→Int}(hd:Dv d day):∀f:Fo,okF f=true→RowT (Ao d f) (A7 d f):=by
 intro f;induction f with
 |nil=>intro _;exact trivial
 | cons h k n ihk ihn=>
   intro ho;simp only[okF,Bool.and_eq_true]at ho;exact⟨rfl,Jj hd ho.1.1 ho.1.2 (ihk ho.1.2),ihn ho.2⟩
theorem RY{day:Bs→Int}(hd:Dv d day){x:Ex}(ho:okX x=true):∃t,exW d x=some (t,Cj d x):=by
 unfold okX at ho;rw[Bool.and_eq_true]at ho;exact Jj hd ho.1 ho.2 (QG hd _ ho.2)
end
def Big{α:Type}(m:α→Nat)(i:Nat):Res α→Prop
 | .ok a j=>m a+i≤j
 |_=>True
theorem Big.bind{α β:Type}{m:α→Nat}{m':β→Nat}{i i':Nat}{r:Res α}{f:α→Nat→Res β}(h:Big m i' r)(hf:∀a j,m a+i'≤j→Big m' i (f a j)):Big m' i (r.bind f):=by
 cases r with
 |ok a j=>exact hf a j h
 |bad k=>trivial
 |out=>trivial
theorem Fo.nodes_app(f g:Fo):(f.app g).nodes=f.nodes+g.nodes:=by
 induction f with
 |nil=>simp[Fo.app,Fo.nodes]
 |cons h k n _ ih=>simp[Fo.app,Fo.nodes,ih];omega
theorem Fo.nodes_snoc(f:Fo)(x:Ex):(f.snoc x).nodes=f.nodes+x.nodes:=by simp[Fo.snoc,Fo.nodes_app,Ex.fo,Fo.nodes,Ex.nodes]
theorem Fo.nodes_one(x:Ex):(Fo.one x).nodes=x.nodes:=by simp[Fo.one,Ex.fo,Fo.nodes,Ex.nodes]
theorem Fo.nodes_two(x y:Ex):(Fo.two x y).nodes=x.nodes+y.nodes:=by simp[Fo.two,Ex.fo,Fo.nodes,Ex.nodes]
abbrev BJ{α:Type}:α→Nat:=fun _=>1
section
variable {l:List Tok}{i:Nat}
theorem CX(s:Bs)(q:Nat):Big BJ q (Be l s q):=by
 unfold Be;split
 ·show 1+q≤q+1;omega
 ·trivial
theorem DK(q:Nat):Big BJ q (AV l q):=by
 unfold AV;split
 ·show 1+q≤q+1;omega
 ·trivial
theorem L5{k:Nat}{opnd:Nat→Res Ex}(h:∀q,Big Ex.nodes q (opnd q)):∀n x j,x.nodes+i≤j→Big Ex.nodes i (BP l k opnd n x j):=by
 intro n;induction n with
 |zero=>intro x j _;trivial
 | succ n ih=>
   intro x j h1;unfold BP;split
   ·exact h1
   ·refine Big.bind (h _) fun y q hq=>ih _ _ ?_;simp only[Ax,Ex.nodes,Fo.nodes_two]at hq h1 ⊢;omega
theorem Fx{k n:Nat}{opnd:Nat→Res Ex}(h:∀q,Big Ex.nodes q (opnd q))(q:Nat):Big Ex.nodes q (AP l k n opnd q):=
 Big.bind (h q) fun x j hj=>L5 h n x j hj
theorem Qn{un:Nat→Res Ex}(h:∀q,Big Ex.nodes q (un q)):∀n q,Big Ex.nodes q (AY l un n q):=by
 intro n;induction n with
 |zero=>intro q;trivial
 | succ n ih=>
   intro q;unfold AY;refine Big.bind (h q) fun x j hj=>?_;split
   ·exact hj
   ·refine Big.bind (ih _) fun y k hk=>?_;simp only[Big,Ax,Ex.nodes,Fo.nodes_two]at hj hk ⊢;omega
theorem Re{sum:Nat→Res Ex}(h:∀q,Big Ex.nodes q (sum q)):∀n q,Big Ex.nodes q (Bg l sum n q):=by
 intro n;induction n with
 |zero=>intro q;trivial
 | succ n ih=>
   intro q;unfold Bg;split
   ·refine Big.bind (ih _) fun y k hk=>?_;simp only[Big,unE,Ex.nodes,Fo.nodes_one]at hk ⊢;omega
   ·refine Big.bind (h q) fun x j hj=>?_;split
    ·exact hj
    ·refine Big.bind (h _) fun y k hk=>?_;simp only[Big,Ax,Ex.nodes,Fo.nodes_two]at hj hk ⊢;omega
theorem LK{E:Nat→Res Ex}(h:∀q,Big Ex.nodes q (E q)):∀n x j,x.nodes+i≤j→Big Ex.nodes i (B8 l E n x j):=by
 intro n;induction n with
 |zero=>intro x j _;trivial
 | succ n ih=>
   intro x j h1;unfold B8;split
   ·refine Big.bind (h _) fun y q hq=>Big.bind (CX _ _) fun _ k hk=>ih _ _ ?_;simp only[BJ,C5,Ex.nodes,Fo.nodes_two]at hq hk h1 ⊢;omega
   ·exact h1
theorem O0{E prim:Nat→Res Ex}(hE:∀q,Big Ex.nodes q (E q))(hP:∀q,Big Ex.nodes q (prim q)):∀n q,Big Ex.nodes q (Bm l E prim n q):=by
 intro n;induction n with
 |zero=>intro q;trivial
 | succ n ih=>
   intro q;unfold Bm;split
   ·refine Big.bind (ih _) fun y k hk=>?_;simp only[Big,unE,Ex.nodes,Fo.nodes_one]at hk ⊢;omega
   ·exact Big.bind (hP q) fun x j hj=>LK hE n x j hj
theorem L8{E:Nat→Res Ex}(h:∀q,Big Ex.nodes q (E q)):∀n f j,f.nodes+i≤j→Big Fo.nodes i (BQ l E n f j):=by
 intro n;induction n with
 |zero=>intro x j _;trivial
 | succ n ih=>
   intro x j h1;unfold BQ;split
   ·refine Big.bind (h _) fun y q hq=>ih _ _ ?_;rw[Fo.nodes_snoc];omega
   ·exact h1
theorem IT{E:Nat→Res Ex}{n:Nat}(h:∀q,Big Ex.nodes q (E q))(q:Nat):Big Fo.nodes q (Cr l E n q):=
 Big.bind (h q) fun x j hj=>L8 h n _ j (by rw[Fo.nodes_one];exact hj)
theorem KO:∀n f j,1+i≤j→Big BJ i (BS l n f j):=by
 intro n;induction n with
 |zero=>intro x j _;trivial
 | succ n ih=>
   intro x j h1;unfold BS;split
   ·exact Big.bind (DK _) fun y q hq=>ih _ _ (by simp only[BJ]at hq;omega)
   ·exact h1
theorem MM{n:Nat}(q:Nat):Big BJ q (Cu l n q):=
 Big.bind (DK _) fun x j hj=>KO n _ j hj
theorem NO{E:Nat→Res Ex}{n:Nat}(hE:∀q,Big Ex.nodes q (E q))(q:Nat):Big Ex.nodes q (C4 l E n q):=by
 unfold C4;refine Big.bind (DK _) fun s j hj=>Big.bind (CX _ _) fun _ k hk=>?_;split
 ·simp only[Big,BJ,Ex.nodes,Fo.nodes]at hj hk ⊢;omega
 ·refine Big.bind (IT hE _) fun f p hp=>Big.bind (CX _ _) fun _ r hr=>?_;simp only[Big,BJ,Ex.nodes,Fo.nodes]at hj hk hp hr ⊢;omega
theorem MF{E:Nat→Res Ex}(hE:∀q,Big Ex.nodes q (E q))(q:Nat):Big Ex.nodes q (Co l E q):=by
 unfold Co;refine Big.bind (CX _ _) fun s j hj=>?_;split
 ·refine Big.bind (hE _) fun f p hp=>Big.bind (CX _ _) fun _ k hk=>?_;simp only[Big,BJ,Ex.nodes,Fo.nodes_one]at hj hk hp ⊢;omega
 ·refine Big.bind (DK _) fun s p hp=>?_;simp only[Big,BJ,Ex.nodes,Fo.nodes]at hj hp ⊢;split<;>omega
theorem Mh{E:Nat→Res Ex}{n:Nat}(hE:∀q,Big Ex.nodes q (E q))(q:Nat):Big Ex.nodes q (Cp l E n q):=by
 unfold Cp;split
 ·have h1 : Big BJ (q + 1) (if Ae (Ab l (q + 1)) [124] then (.ok [] (q + 2) : Res (List Bs)) else (Cu l n (q + 1)).bind fun p j => (Be l [124] j).bind fun _ j => .ok p j) := by
   split
   ·show 1+(q+1)≤q+2;omega
   ·refine Big.bind (MM _) fun p j hj=>Big.bind (CX _ _) fun _ k hk=>?_;simp only[Big,BJ]at hj hk ⊢;omega
  refine Big.bind h1 fun p j hj=>Big.bind (hE _) fun f p hp=>Big.bind (CX _ _) fun _ k hk=>?_;simp only[Big,BJ,Ex.nodes,Fo.nodes_one]at hj hk hp ⊢;omega
 ·refine Big.bind (IT hE _) fun f p hp=>Big.bind (CX _ _) fun _ k hk=>?_;simp only[Big,BJ,Ex.nodes]at hk hp ⊢;omega
theorem M5{E:Nat→Res Ex}{n:Nat}(hE:∀q,Big Ex.nodes q (E q))(q:Nat):Big Ex.nodes q (B0 l E n q):=by
 unfold B0;split
 ·exact MF hE q
 split
 ·simp only[Big,A0,Ex.nodes,Fo.nodes];omega
 split
 ·simp only[Big,A0,Ex.nodes,Fo.nodes];omega
 split
 ·simp only[Big,A0,Ex.nodes,Fo.nodes];omega
 split
 ·refine Big.bind (hE _) fun f p hp=>Big.bind (CX _ _) fun _ k hk=>?_;simp only[Big,BJ]at hk hp ⊢;omega
 split
 ·refine Big.bind (DK _) fun s p hp=>?_;simp only[Big,BJ,Ex.nodes,Fo.nodes]at hp ⊢;omega
 split
 ·have h:=Mh (n:=n) hE (l:=l) (q+1);revert h;generalize Cp l E n (q+1)=r;intro h;cases r with
  |ok a j=>simp only[Big]at h ⊢;omega
  |bad k=>trivial
  |out=>trivial
 ·trivial
theorem ML{E:Nat→Res Ex}{n:Nat}(hE:∀q,Big Ex.nodes q (E q))(q:Nat):Big Ex.nodes q (BN l E n q):=by
 unfold BN;split
 ·exact NO hE q
 refine Big.bind (DK _) fun s j hj=>?_;split
 ·split
  ·refine Big.bind (hE _) fun f p hp=>Big.bind (CX _ _) fun _ k hk=>?_;simp only[Big,BJ,Ex.nodes,Fo.nodes_one]at hj hk hp ⊢;omega
  ·refine Big.bind (DK _) fun s p hp=>?_;simp only[Big,BJ,A5,Ex.nodes,Fo.nodes_one,Fo.nodes]at hj hp ⊢;omega
 ·simp only[Big,BJ,A5,Ex.nodes,Fo.nodes]at hj ⊢;omega
theorem OA{day:Bs→Int}{E:Nat→Res Ex}{n:Nat}(hE:∀q,Big Ex.nodes q (E q))(q:Nat):Big Ex.nodes q (Bd l day E n q):=by
 have hc:∀a b c,Big Ex.nodes q (.ok (A0 a b c) (q+1)):=by
  intro a b c;simp only[Big,A0,Ex.nodes,Fo.nodes];omega
 unfold Bd;split
 ·exact hc _ _ _
 split
 ·split
  ·trivial
  ·exact hc _ _ _
 split
 ·exact hc _ _ _
 split
 ·exact ML hE q
 ·exact M5 hE q
theorem NZ(day:Bs→Int):∀n q,Big Ex.nodes q (AB l day n q):=by
 intro n;induction n with
 |zero=>intro q;trivial
 | succ n ih=>
   intro q;unfold AB;exact Fx (Fx fun p=>Re (fun p=>Fx (Fx fun p=>Qn (fun p=>O0 ih (fun p=>OA ih p) n p) n p) p) n p) q
theorem Pk(day:Bs→Int)(n:Nat){x:Ex}{j:Nat}(h:BE l day n= .ok x j):x.nodes+1≤l.length:=by
 have h1:=NZ (l:=l) day n 0;unfold BE at h;cases hr:AB l day n 0 with
 | ok y i=>
   rw[hr,Res.bind_ok]at h;rw[hr]at h1;have h2:=PF (l:=l) (o:=True) i;cases he:CH l i with
   | ok u k=>
     rw[he,Res.bind_ok]at h;rw[he]at h2;cases h;have:=h2.2;have:=h2.1;simp only[Big]at h1;omega
   |bad k=>rw[he]at h;cases h
   |out=>rw[he]at h;cases h
 |bad k=>rw[hr]at h;cases h
 |out=>rw[hr]at h;cases h
theorem Gv(day:Bs→Int)(n:Nat)(hn:l.length+2≤n):BE l day n ≠ .out:=by
 have h:=Gs (l:=l) day n 0;unfold BE;cases hr:AB l day n 0 with
 | ok y i=>
   rw[Res.bind_ok];unfold CH;split<;>simp[Res.bind]
 |bad k=>simp[Res.bind]
 |out=>rw[hr]at h;exact absurd (by omega) h
end
open Go.RowKit
def E5(s:Bs):Except (Int×Int) (List Tok):=
 if 4000<s.length then .error (0,3)else match E4 s with
  | .ok l=>if 1200<l.length then .error (0,3)else .ok l
  | .bad k=> .error (k,2)
  | .out=> .error (0,2)
def Mo(w:World)(s:Bs)(e:Ending)(w':World):Prop:=w.grownBy w' none∧
 match E5 s with
  | .ok l=>∃v,e= .returned (.tuple #[v,.int .i64 l.length,.int .i64 0])∧TRow w' v l (A8 w.heap.size)∧Du AO l∧l.length≤1200
  | .error pc=>e= .returned (.tuple #[.slice none 0 0,.int .i64 pc.1,.int .i64 pc.2])∧(pc.2=2∨pc.2=3)
theorem IC{w:World}(ht:Tabs w.heap.size w)(s:Bs)(hs:s.length≤1000000):Calls Tryz.prog 36 #[str s] w (Mo w s):=by
 refine(R3 ht s hs).mono ?_;rintro e w1 ⟨g,h⟩;refine⟨g,?_⟩;unfold E5;by_cases h4:4000<s.length
 ·rw[if_pos h4]at h ⊢;exact⟨h,.inr rfl⟩
 rw[if_neg h4]at h ⊢;cases hl:E4 s with
 |out=>exact absurd hl (Gb s)
 |bad k=>rw[hl]at h;exact⟨h,.inl rfl⟩
 | ok l=>
   rw[hl]at h;replace h:ite _ _ _:=h;simp only[];by_cases hm:1200<l.length
   ·rw[if_pos hm]at h ⊢;exact⟨h,.inr rfl⟩
   ·rw[if_neg hm]at h ⊢;obtain⟨v,rfl,ht⟩:=h;exact⟨v,rfl,ht,LR (by omega) hl,by omega⟩
inductive PeR (α:Type) where
 |ok (x:α) (n:Nat)
 |no (p c:Int)
def GZ(l:List Tok):Res Ex:=BE l AO (l.length+2)
def E8(l:List Tok):PeR Ex:=
 match GZ l with
 | .ok x j=>if j<l.length then .no j 2 else if AW x.nodes x.levels then .no 0 3 else .ok x l.length
 | .bad q=> .no q 2
 | .out=> .no 0 2
def peM(s:Bs):PeR Ex:=match E5 s with
 | .ok l=>E8 l
 | .error pc=> .no pc.1 pc.2
abbrev exV0:Value:= .agg zeroE.toArray
def Sp(w:World)(s:Bs)(e:Ending)(w':World):Prop:=w.grownBy w' none∧
 match peM s with
  | .ok x n=>∃v,e= .returned (.tuple #[v,.int .i64 n,.int .i64 0])∧VE (A8 w.heap.size) w' v x
  | .no p c=>e= .returned (.tuple #[exV0,.int .i64 p,.int .i64 c])
theorem F2{fn:Func}{p i j:Tmp}(h:fn.results=#[.cell p 27,.tmp i,.tmp j])(tmps:Array Value){w:World}{k:Nat}{a0 a1 a2 a3 a4 a5 a6 u v:Value}(hb:Blk w k [a0,a1,a2,a3,a4,a5,a6] 27)
 (hp:tmps.getD p undef= .pointer (some ⟨k,0,none⟩)) (hi:tmps.getD i undef=u) (hj:tmps.getD j undef=v):(results fn tmps).run Tryz.prog w= .ok (.tuple #[.agg #[a0,a1,a2,a3,a4,a5,a6],u,v]) w:=by
 have c0:=hb.cell 0;have c1:=hb.cell 1;have c2:=hb.cell 2;have c3:=hb.cell 3;have c4:=hb.cell 4;have c5:=hb.cell 5;have c6:=hb.cell 6;have hp':tmps[p]?.getD undef= .pointer (some ⟨k,0,none⟩):=by simpa using hp
 have hi':tmps[i]?.getD undef=u:=by simpa using hi
 have hj':tmps[j]?.getD undef=v:=by simpa using hj
 simp only[List.getElem?_cons_zero,List.getElem?_cons_succ]at c0 c1 c2 c3 c4 c5 c6;simp[results,h,hp',hi',hj',go_sem,c0,c1,c2,c3,c4,c5,c6]
theorem Qm{l:List Tok}{q:Nat}(hq:Ce l (BE l AO (l.length+2))=q):E8 l= .no q 2:=by
 have hex:=Gv (l:=l) AO (l.length+2) (Nat.le_refl _);unfold E8 GZ;cases hr:BE l AO (l.length+2)with
 | ok x j=>
   rw[hr]at hq;simp only[Ce]at hq ⊢;by_cases hj:j<l.length
   ·rw[if_pos hj]at hq ⊢;rw[hq]
   ·rw[if_neg hj]at hq;omega
 |bad k=>rw[hr]at hq;simp only[Ce]at hq ⊢;rw[hq]
 |out=>exact absurd hr hex
theorem L7{α:Type}(R:Res α)(l:List Tok):Ce l R= -1∨∃q:Nat,Ce l R=q:=by
 cases R with
 | ok x j=>
   simp only[Ce];split
   ·exact .inr ⟨j,rfl⟩
   ·exact .inl rfl
 |bad k=>exact .inr ⟨k,rfl⟩
 |out=>exact .inr ⟨0,rfl⟩
theorem O8{l:List Tok}(hq:Ce l (BE l AO (l.length+2))= -1):∃x j,BE l AO (l.length+2)= .ok x j∧E8 l=if AW x.nodes x.levels then .no 0 3 else .ok x l.length:=by
 have hex:=Gv (l:=l) AO (l.length+2) (Nat.le_refl _);unfold E8 GZ;cases hr:BE l AO (l.length+2)with
 | ok x j=>
   rw[hr]at hq;refine⟨x,j,rfl,?_⟩;simp only[Ce]at hq ⊢;by_cases hj:j<l.length
   ·rw[if_pos hj]at hq;omega
   ·rw[if_neg hj]
 |bad k=>rw[hr]at hq;simp only[Ce]at hq;omega
 |out=>exact absurd hr hex
theorem KQ{w:World}(ht:Tabs w.heap.size w)(s:Bs)(hs:s.length≤1000000):Calls Tryz.prog 13 #[str s] w (Sp w s):=by
 have g0:=World.grownBy_alloc w (.cells zeroE.toArray 27 (0,0)) none;have hB:=Blk.new w zeroE 27;have ht0:=(ht.gbN g0).mono g0.size;go_enter func13,ntmps13;go_wp2_with fail;refine(IC ht0 s hs).mono ?_;rintro e w1 ⟨g1,h1⟩;have hB1:=hB.gb g1 (by simp);have gA:=O (Aa g0 g1);have HT0:=O (ht0.gbN g1).glob;have hPM:∀l,E5 s= .ok l→peM s=E8 l:=fun l h=>by unfold peM;rw[h]
 have hlt:=hB1.lt;clear ht0 g0 hB ht hs g1;cases hq:E5 s with
 | error pc=>
   rw[hq]at h1;obtain⟨rfl,hc⟩:=h1;have HQ:=O (show peM s= .no pc.1 pc.2 by unfold peM;rw[hq]);have hc1:decide (pc.2=0)=false:=by simp;omega
   clear hq hPM;obtain⟨cb_0,cb_1,cb_2,cb_3,cb_4,cb_5,cb_6,cb_f⟩:=(hB1).c7;have HB:=O hB1;clear hB1;go_wp2;exact bodyPost_ret (F2 rfl _ (HB.out.set7 (.int .i64 0) (str []) (.int .i64 0) (.int .i64 0) (str []) (.slice none 0 0) (.slice none 0 0)) rfl rfl rfl) rfl ⟨A9 gA.out (Ah w1 w.heap.size (.int .i64 0) (str []) (.int .i64 0) (.int .i64 0) (str []) (.slice none 0 0) (.slice none 0 0)) (.inr (Nat.le_refl _)),by rw[HQ.out];rfl⟩
 | ok l=>
   rw[hq]at h1;obtain⟨v,rfl,hT,hTame,hl⟩:=h1;have hex:=Gv (l:=l) AO (l.length+2) (Nat.le_refl _);obtain⟨ta,tc,rfl,_⟩:=id hT;have HL:=QX HT0.out hTame (hT.mono fun _ _ _=>trivial) (by omega) (l.length+2) hex;have HQ:=O (hPM l hq);have HB:=O hB1;have HLL:=O HL;clear hPM hq hTame hT HL hex hB1;go_wp2_with fail;refine HLL.out.mono ?_;rintro e w2 ⟨h,pa,pn,pc,la,ln,lc,rfl,g2,hV⟩;have hB2:=HB.out.gb g2 (by simp);have gB:=O (Aa gA.out g2);have hs2:=g2.size;have hlt2:w.heap.size<w2.heap.size:=by omega
   have hno:=fun q=>Qm (l:=l) (q:=q);have hgo:=O8 (l:=l);have hyes:=L7 (BE l AO (l.length+2)) l;clear HLL HT0;rcases hyes with hy| ⟨q,hy⟩
   ·obtain⟨x,j,hr,hP⟩:=hgo hy;have hX:=hV x j hr;have hxn:=Pk AO _ hr;rw[hy];clear hgo hno hV hr hy;have HX:=O hX;obtain⟨pa',pc',la',lc',e1,rp,rl⟩:=hX;rw[e1]at HX ⊢;have HPP:=O (hP ▸ HQ.out);have HR:=O (Z rp rl);clear rp rl e1 hP;have hc1:decide ((0:Int)≤-1)=false:=by decide
    obtain⟨cb_0,cb_1,cb_2,cb_3,cb_4,cb_5,cb_6,cb_f⟩:=(hB2).c7;have HB2:=O hB2;clear hB2;have gK:=World.grownBy_alloc w2 (.cells (hdC x.h (.slice pa' x.h.p.length pc') (.slice la' x.kids.len lc')).toArray 27 (0,0)) none;have hE:=Blk.new w2 (hdC x.h (.slice pa' x.h.p.length pc') (.slice la' x.kids.len lc')) 27;have HS:=O (II (HX.out.gb gK (by simp)) (by unfold Ex.nodes at hxn;omega));have HE:=O (Z gK hE);clear gK hE;go_wp2_with fail;refine HS.out.mono ?_;rintro e w3 ⟨rfl,g3⟩;go_wp2_with fail;refine(Ga _ _ _).mono ?_;rintro e w4 ⟨rfl,g4⟩;have gM:=Aa (Aa HE.out.1 g3) g4;have hE4:=(HE.out.2.gb g3 (by simp)).gb g4 (by simp);have hR4:=HB2.out.gb gM (by simp);have hX4:=HX.out.gb gM (by simp);have gT:=O (Z (Aa gB.out gM) hX4);have hlt4:=gM.size;clear cb_0 cb_1 cb_2 cb_3 cb_4 cb_5 cb_6 cb_f gM hX4;obtain⟨ce_0,ce_1,ce_2,ce_3,ce_4,ce_5,ce_6,ce_f⟩:=(hE4).c7;obtain⟨cb_0,cb_1,cb_2,cb_3,cb_4,cb_5,cb_6,cb_f⟩:=(hR4).c7;have HR4:=O hR4;have hltE:=hE4.lt;clear hE4 hR4 g3 g4;cases hLL:AW x.nodes x.levels with
    | true=>
      have HF:=O (show peM s= .no 0 3 by rw[HPP.out];rw[hLL];rfl);clear hLL;go_wp2;exact bodyPost_ret (F2 rfl _ (HR4.out.set7 (.int .i64 0) (str []) (.int .i64 0) (.int .i64 0) (str []) (.slice none 0 0) (.slice none 0 0)) rfl rfl rfl) rfl ⟨A9 gT.out.1 (Ah w4 w.heap.size (.int .i64 0) (str []) (.int .i64 0) (.int .i64 0) (str []) (.slice none 0 0) (.slice none 0 0)) (.inr (Nat.le_refl _)),by rw[HF.out];rfl⟩
    | false=>
      have HF:=O (show peM s= .ok x l.length by rw[HPP.out];rw[hLL];rfl);clear hLL;go_wp2;have g7:=Ah w4 w.heap.size (.int .i64 x.h.op) (str x.h.s) (.int .i64 x.h.vk) (.int .i64 x.h.vn) (str x.h.vs) (.slice pa' x.h.p.length pc') (.slice la' x.kids.len lc');refine bodyPost_ret (F2 rfl _ (HR4.out.set7 (.int .i64 x.h.op) (str x.h.s) (.int .i64 x.h.vk) (.int .i64 x.h.vn) (str x.h.vs) (.slice pa' x.h.p.length pc') (.slice la' x.kids.len lc')) rfl rfl rfl) rfl ⟨A9 gT.out.1 g7 (.inr (Nat.le_refl _)),?_⟩;rw[HF.out];exact⟨_,rfl,(gT.out.2.gb g7 (by intro q hq _ e;cases e;simp at hq;omega)).mono (by intro q hq _;simp at hq ⊢;omega)⟩
   ·rw[hy];have HQ2:=O (show peM s= .no q 2 by rw[HQ.out,hno q hy]);clear hgo hno hV;have hc1:decide ((0:Int)≤(q:Int))=true:=by simp
    obtain⟨cb_0,cb_1,cb_2,cb_3,cb_4,cb_5,cb_6,cb_f⟩:=(hB2).c7;have HB2:=O hB2;clear hB2;go_wp2;have hBA:=(HB2.out.set7 (.int .i64 0) (str []) (.int .i64 0) (.int .i64 0) (str []) (.slice none 0 0) (.slice none 0 0)).alloc (.cells (hdC h (.slice pa pn pc) (.slice la ln lc)).toArray 27 (0,0));have gBA:=Ad (A9 gB.out (Ah w2 w.heap.size (.int .i64 0) (str []) (.int .i64 0) (.int .i64 0) (str []) (.slice none 0 0) (.slice none 0 0)) (.inr (Nat.le_refl _))) (.cells (hdC h (.slice pa pn pc) (.slice la ln lc)).toArray 27 (0,0));exact bodyPost_ret (F2 rfl _ hBA rfl rfl rfl) rfl ⟨gBA,by rw[HQ2.out];rfl⟩
end Go.Proofs.YtgjdhajcnechdaaGreatDoor
