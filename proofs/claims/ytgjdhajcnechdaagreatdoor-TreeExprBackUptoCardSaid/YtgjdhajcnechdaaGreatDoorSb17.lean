/-
  Plain laws: the text of an expression that is right, as the program makes it, is what the reference writes. Plain laws: how long the text of an expression is. The text of a constant. isText, isConst, 
-/
import Derived.Test.YtgjdhajcnechdaaGreatDoorSb16
import Derived.Test.YtgjdhajcnechdaaGreatDoorSb04
import Derived.Test.YtgjdhajcnechdaaGreatDoorSb09
import Derived.Test.YtgjdhajcnechdaaGreatDoorSb08
import Derived.Lib.ItoaMem
import Derived.Test.YtgjdhajcnechdaaGreatDoorSb05
import Derived.Test.YtgjdhajcnechdaaGreatDoorSb12
set_option linter.all false
set_option maxRecDepth 100000
set_option maxHeartbeats 8000000
namespace Go.Proofs.YtgjdhajcnechdaaGreatDoor
open Go.Proofs.Tryz
def Bz:List Bs→Bs
 | []=>[]
 |a::r=>a++(r.map fun s=>[44,32]++s).flatten
def CO(d:Wd)(h:Hd):Bs:=
 if h.vk=1 then(if h.vn=0 then [46,70,46]else [46,84,46])
 else if h.vk=2 then d.num h.vn
 else if h.vk=3 then(if h.vn=0 then [123,125]else Cz (d.day h.vn))
 else if h.vk=4 then(if h.vs.contains 34 then [39]++h.vs++[39]else [34]++h.vs++[34])
 else [46,78,85,76,76,46]
def opT(x:Hd×Bs):Bs:=if x.1.op=4∨x.1.op=5 then [40]++x.2++[41]else x.2
def AR(d:Wd)(h:Hd)(ks:List (Hd×Bs)):Bs:=
 if h.op=0 then CO d h
 else if h.op=2 then(match ks with
  |x::_=>if x.1.op=1 then h.s++[45,62]++x.1.s else h.s++[45,62,40]++x.2++[41]
  | []=>[])
 else if h.op=3 then h.s++[40]++Bz (ks.map (·.2))++[41]
 else if h.op=4 then(match ks with
  |x::_=>if h.s=[45]then [45]++opT x else h.s++[32]++opT x
  | []=>[])
 else if h.op=5 then(match ks with
  |x::y::_=>opT x++[32]++h.s++[32]++opT y
  |_=>[])
 else if h.op=6 then(match ks with
  |x::y::_=>opT x++[91]++y.2++[93]
  |_=>[])
 else if h.op=7 then [123]++Bz (ks.map (·.2))++[125]
 else if h.op=8 then(match ks with
  |x::_=>[123,124]++Bz h.p++[124,32]++x.2++[125]
  | []=>[])
 else if h.op=9 then(if h.s≠[]then [38]++h.s++[46]else(match ks with
  |x::_=>[38,40]++x.2++[41]
  | []=>[]))
 else if h.op=10 then [64]++h.s
 else h.s
def Ar(d:Wd):Fo→List (Hd×Bs)
 | .nil=>[]
 | .cons h k n=>(h,AR d h (Ar d k))::Ar d n
def Aw(d:Wd)(x:Ex):Bs:=AR d x.h (Ar d x.kids)
def HasT(w:OW)(s:Bs):Prop:=∃t,w=some (t,s)
def RowT:List (Hd×OW)→List (Hd×Bs)→Prop
 | [],[]=>True
 |x::r,y::q=>x.1=y.1∧HasT x.2 y.2∧RowT r q
 |_,_=>False
section
variable {d:Wd}
theorem HasT.cat{a b:OW}{s u:Bs}(ha:HasT a s)(hb:HasT b u):HasT (A9 a b) (s++u):=by
 obtain⟨t,rfl⟩:=ha;obtain⟨q,rfl⟩:=hb;exact⟨t++q,rfl⟩
theorem HasT.nil:HasT (Af []) []:=⟨[],rfl⟩
theorem HasT.sg(s:Bs):HasT (sgn s) s:=⟨_,rfl⟩
theorem HasT.bl:HasT AY [32]:=⟨_,rfl⟩
theorem HasT.nm{s:Bs}(h:Ak s=true):HasT (nmW s) s:=⟨_,by unfold nmW;rw[if_pos h]⟩
theorem HasT.closed{w:OW}{s:Bs}(h:HasT w s):HasT (BU w) ([40]++s++[41]):=by
 have:=(HasT.sg [40]).cat (h.cat ((HasT.sg [41]).cat HasT.nil));simpa[BU,Af]using this
theorem HasT.opd{h:Hd}{w:OW}{s:Bs}(k:HasT w s):HasT (Bo (h,w)) (opT (h,s)):=by
 unfold Bo opT;by_cases ho:h.op≠4∧h.op≠5
 ·rw[if_pos ho,if_neg (by rintro(e|e);exact ho.1 e;exact ho.2 e)];exact k
 ·rw[if_neg ho,if_pos (by by_cases e:h.op=4;exact .inl e;exact .inr (Classical.not_not.1 fun e2=>ho ⟨e,e2⟩))];exact k.closed
theorem HasT.tail:∀{L:List OW}{S:List Bs},L.length=S.length→(∀i,i<L.length→∃w s,L[i]? =some w∧S[i]? =some s∧HasT w s)→HasT (Cl L) ((S.map fun s=>[44,32]++s).flatten):=by
 intro L;induction L with
 | nil=>
   intro S hl _;cases S with
   |nil=>exact⟨_,rfl⟩
   |cons _ _=>simp at hl
 | cons a r ih=>
   intro S hl h;cases S with
   |nil=>simp at hl
   | cons s q=>
     obtain⟨w,u,e1,e2,h1⟩:=h 0 (by simp);simp at e1 e2;subst e1 e2;have h2:=ih (S:=q) (by simpa using hl) (fun i hi=>by
      obtain⟨w,u,e1,e2,h1⟩:=h (i+1) (by simp;omega);exact⟨w,u,by simpa using e1,by simpa using e2,h1⟩)
     have h3:=(HasT.sg [44]).cat (HasT.bl.cat (h1.cat (h2.cat HasT.nil)));simpa[Cl,Af]using h3
theorem HasT.list{L:List OW}{S:List Bs}(hl:L.length=S.length)(h:∀i,i<L.length→∃w s,L[i]? =some w∧S[i]? =some s∧HasT w s):HasT (Bi L) (Bz S):=by
 cases L with
 | nil=>
   cases S with
   |nil=>exact⟨_,rfl⟩
   |cons _ _=>simp at hl
 | cons a r=>
   cases S with
   |nil=>simp at hl
   | cons s q=>
     obtain⟨w,u,e1,e2,h1⟩:=h 0 (by simp);simp at e1 e2;subst e1 e2;exact h1.cat (HasT.tail (S:=q) (by simpa using hl) (fun i hi=>by
      obtain⟨w,u,e1,e2,h1⟩:=h (i+1) (by simp;omega);exact⟨w,u,by simpa using e1,by simpa using e2,h1⟩))
theorem RowT.list:∀{ks:List (Hd×OW)}{qs:List (Hd×Bs)},RowT ks qs→(ks.map (·.2)).length=(qs.map (·.2)).length∧∀i,i<(ks.map (·.2)).length→∃w s,(ks.map (·.2))[i]? =some w∧(qs.map (·.2))[i]? =some s∧HasT w s:=by
 intro ks;induction ks with
 | nil=>
   intro qs h;cases qs with
   |nil=>exact⟨rfl,fun i hi=>by simp at hi⟩
   |cons _ _=>exact h.elim
 | cons x r ih=>
   intro qs h;cases qs with
   |nil=>exact h.elim
   | cons y q=>
     obtain⟨h1,h2,h3⟩:=h;obtain⟨i1,i2⟩:=ih h3;refine⟨by simpa using i1,fun i hi=>?_⟩;cases i with
     |zero=>exact⟨x.2,y.2,rfl,rfl,h2⟩
     |succ i=>simpa using i2 i (by simpa using hi)
theorem JG{p:List Bs}(hp:p.all Ak=true):HasT (Bi (p.map nmW)) (Bz p):=by
 refine HasT.list (by simp) fun i hi=>?_;simp only[List.length_map]at hi;refine⟨nmW p[i],p[i],by simp[hi],by simp[hi],HasT.nm ?_⟩;exact List.all_eq_true.1 hp _ (List.getElem_mem hi)
theorem K3{day:Bs→Int}(hd:C3 d day){h:Hd}(hc:Ao h=true):HasT (Cg d h) (CO d h):=by
 unfold Ao at hc;unfold Cg CO;by_cases k0:h.vk=0
 ·rw[if_pos k0]at hc;simp at hc;rw[if_neg (by simp[BP,k0,hc.1,hc.2]),if_pos k0,if_neg (by omega),if_neg (by omega),if_neg (by omega),if_neg (by omega)];exact HasT.sg _
 rw[if_neg k0]at hc;by_cases k1:h.vk=1
 ·rw[if_pos k1]at hc;simp at hc;rw[if_neg (by simp[BP,k1,hc.2];omega),if_neg k0,if_pos k1,if_pos k1];exact HasT.sg _
 rw[if_neg k1]at hc;by_cases k2:h.vk=2
 ·rw[if_pos k2]at hc;simp at hc;obtain⟨e1,e2⟩:=hd.nums h.vn hc.1.1 hc.1.2;rw[if_neg (by simp[BP,k2,hc.2];omega),if_neg k0,if_neg k1,if_pos k2,if_neg (by omega),if_neg k1,if_pos k2];exact⟨_,rfl⟩
 rw[if_neg k2]at hc;by_cases k3:h.vk=3
 ·rw[if_pos k3]at hc;simp at hc;rw[if_neg (by simp[BP,k3,hc.2];omega),if_neg k0,if_neg k1,if_neg k2,if_pos k3,if_neg k1,if_neg k2,if_pos k3];split
  ·exact⟨_,rfl⟩
  ·exact⟨_,rfl⟩
 rw[if_neg k3]at hc;by_cases k4:h.vk=4
 ·rw[if_pos k4]at hc;simp only[Bool.and_eq_true,beq_iff_eq]at hc;obtain⟨hn,ht⟩:=hc;unfold BV at ht;simp only[Bool.and_eq_true,decide_eq_true_eq,Bool.not_eq_true',Bool.and_eq_false_iff]at ht;obtain⟨⟨h1,h2⟩,h3⟩:=ht;rw[if_neg (by simp[BP,k4,hn];omega),if_neg k0,if_neg k1,if_neg k2,if_neg k3,if_neg k1,if_neg k2,if_neg k3,if_pos k4];have hall:(h.vs.all fun b=>B8 b&&b !=BM h.vs)=true:=by
   rw[List.all_eq_true]at h1 ⊢;intro b hb;rw[Bool.and_eq_true];refine⟨h1 b hb,?_⟩;unfold BM;rcases h3 with h3|h3
   ·rw[h3];simp only[Bool.false_eq_true,if_false,bne_iff_ne,ne_eq];rintro rfl;simp[List.contains_eq_mem]at h3;exact h3 hb
   ·split
    ·simp only[bne_iff_ne,ne_eq];rintro rfl;simp[List.contains_eq_mem]at h3;exact h3 hb
    ·rename_i h34;simp only[bne_iff_ne,ne_eq];rintro rfl;simp[List.contains_eq_mem]at h34;exact h34 hb
  unfold txtW;rw[if_pos hall];unfold BM;split
  ·exact⟨_,rfl⟩
  ·exact⟨_,rfl⟩
 rw[if_neg k4]at hc;cases hc
theorem Gd{day:Bs→Int}(hd:C3 d day){h:Hd}{k:Fo}(ho:Ba h k.len=true)(hk:okF k=true)(g:RowT (Ai d k) (Ar d k)):HasT (A6 d h (Ai d k)) (AR d h (Ar d k)):=by
 obtain⟨p1,p2,p3⟩:=CB ho;unfold An at p3;unfold A6 AR;by_cases e0:h.op=0
 ·rw[if_pos e0]at p3;rw[if_pos e0,if_pos e0];simp only[Bool.and_eq_true]at p3;exact K3 hd p3.2
 rw[if_neg e0]at p3;rw[if_neg e0,if_neg e0];by_cases e1:h.op=1
 ·rw[if_pos (.inl e1)]at p3;rw[if_pos e1,if_neg (by omega),if_neg (by omega),if_neg (by omega),if_neg (by omega),if_neg (by omega),if_neg (by omega),if_neg (by omega),if_neg (by omega),if_neg (by omega)];simp only[Bool.and_eq_true]at p3;exact HasT.nm p3.1
 rw[if_neg e1];by_cases e10:h.op=10
 ·rw[if_pos (.inr e10)]at p3;rw[if_neg (by omega),if_neg (by omega),if_neg (by omega),if_neg (by omega),if_neg (by omega),if_neg (by omega),if_neg (by omega),if_neg (by omega),if_pos e10];rw[if_neg (by omega),if_neg (by omega),if_neg (by omega),if_neg (by omega),if_neg (by omega),if_neg (by omega),if_neg (by omega),if_neg (by omega),if_pos e10];simp only[Bool.and_eq_true]at p3;have:=(HasT.sg [64]).cat ((HasT.nm p3.1).cat HasT.nil);simpa[Af]using this
 rw[if_neg (by omega)]at p3;by_cases e2:h.op=2
 ·rw[if_pos e2]at p3;rw[if_pos e2,if_pos e2];simp only[Bool.and_eq_true,beq_iff_eq]at p3;obtain⟨a,b,rfl⟩:=B9 p3.2;simp only[okF,Bool.and_eq_true]at hk;have hq:Ar d (.cons a b .nil)=[(a,AR d a (Ar d b))]:=rfl;have hw:Ai d (.cons a b .nil)=[(a,A6 d a (Ai d b))]:=rfl;rw[hq,hw]at g ⊢;simp only;by_cases ea:a.op=1
  ·rw[if_pos ea,if_pos ea];have hn:Ak a.s=true:=by
    obtain⟨_,_,q3⟩:=CB hk.1.1;unfold An at q3;rw[if_neg (by omega),if_pos (.inl ea)]at q3;simp only[Bool.and_eq_true]at q3;exact q3.1
   have:=(HasT.nm p3.1).cat ((HasT.sg [45,62]).cat ((HasT.nm hn).cat HasT.nil));simpa[Af]using this
  ·rw[if_neg ea,if_neg ea];have:=(HasT.nm p3.1).cat ((HasT.sg [45,62]).cat ((g.2.1.closed).cat HasT.nil));simpa[Af]using this
 rw[if_neg e2]at p3;rw[if_neg e2,if_neg e2];by_cases e3:h.op=3
 ·rw[if_pos e3]at p3;rw[if_pos e3,if_pos e3];have:=(HasT.nm p3).cat ((HasT.sg [40]).cat ((HasT.list g.list.1 g.list.2).cat ((HasT.sg [41]).cat HasT.nil)));simpa[Af]using this
 rw[if_neg e3]at p3;rw[if_neg e3,if_neg e3];by_cases e4:h.op=4
 ·rw[if_pos e4]at p3;rw[if_pos e4,if_pos e4];simp only[Bool.and_eq_true,Bool.or_eq_true,beq_iff_eq]at p3;obtain⟨a,b,rfl⟩:=B9 p3.2;have hq:Ar d (.cons a b .nil)=[(a,AR d a (Ar d b))]:=rfl;have hw:Ai d (.cons a b .nil)=[(a,A6 d a (Ai d b))]:=rfl;rw[hq,hw]at g ⊢;simp only;rcases p3.1 with hs|hs
  ·rw[hs,if_neg (by decide),if_pos rfl];have:=(HasT.sg [45]).cat ((show HasT (some ([],[])) []from⟨_,rfl⟩).cat ((HasT.opd (h:=a) g.2.1).cat HasT.nil));simpa[Af]using this
  ·rw[hs,if_pos rfl,if_neg (by decide)];have:=(HasT.sg [46,78,79,84,46]).cat (HasT.bl.cat ((HasT.opd (h:=a) g.2.1).cat HasT.nil));simpa[Af]using this
 rw[if_neg e4]at p3;rw[if_neg e4,if_neg e4];by_cases e5:h.op=5
 ·rw[if_pos e5]at p3;rw[if_pos e5,if_pos e5];simp only[Bool.and_eq_true,beq_iff_eq]at p3;obtain⟨a,b,a',b',rfl⟩:=C6 p3.2;have hq:Ar d (.cons a b (.cons a' b' .nil))=[(a,AR d a (Ar d b)),(a',AR d a' (Ar d b'))]:=rfl;have hw:Ai d (.cons a b (.cons a' b' .nil))=[(a,A6 d a (Ai d b)),(a',A6 d a' (Ai d b'))]:=rfl;rw[hq,hw]at g ⊢;simp only;have:=(HasT.opd (h:=a) g.2.1).cat (HasT.bl.cat ((HasT.sg h.s).cat (HasT.bl.cat ((HasT.opd (h:=a') g.2.2.2.1).cat HasT.nil))));simpa[Af]using this
 rw[if_neg e5]at p3;rw[if_neg e5,if_neg e5];by_cases e6:h.op=6
 ·rw[if_pos e6]at p3;rw[if_pos e6,if_pos e6];simp only[Bool.and_eq_true,beq_iff_eq]at p3;obtain⟨a,b,a',b',rfl⟩:=C6 p3.2;have hq:Ar d (.cons a b (.cons a' b' .nil))=[(a,AR d a (Ar d b)),(a',AR d a' (Ar d b'))]:=rfl;have hw:Ai d (.cons a b (.cons a' b' .nil))=[(a,A6 d a (Ai d b)),(a',A6 d a' (Ai d b'))]:=rfl;rw[hq,hw]at g ⊢;simp only;have:=(HasT.opd (h:=a) g.2.1).cat ((HasT.sg [91]).cat (g.2.2.2.1.cat ((HasT.sg [93]).cat HasT.nil)));simpa[Af]using this
 rw[if_neg e6]at p3;rw[if_neg e6,if_neg e6];by_cases e7:h.op=7
 ·rw[if_pos e7,if_pos e7];have:=(HasT.sg [123]).cat ((HasT.list g.list.1 g.list.2).cat ((HasT.sg [125]).cat HasT.nil));simpa[Af]using this
 rw[if_neg e7]at p3;rw[if_neg e7,if_neg e7];by_cases e8:h.op=8
 ·rw[if_pos e8]at p3;rw[if_pos e8,if_pos e8];simp only[Bool.and_eq_true,beq_iff_eq]at p3;obtain⟨a,b,rfl⟩:=B9 p3.1.2;have hq:Ar d (.cons a b .nil)=[(a,AR d a (Ar d b))]:=rfl;have hw:Ai d (.cons a b .nil)=[(a,A6 d a (Ai d b))]:=rfl;rw[hq,hw]at g ⊢;simp only;have:=(HasT.sg [123]).cat ((HasT.sg [124]).cat ((JG p3.2).cat ((HasT.sg [124]).cat (HasT.bl.cat (g.2.1.cat ((HasT.sg [125]).cat HasT.nil))))));simpa[Af]using this
 rw[if_neg e8]at p3;rw[if_neg e8,if_neg e8];by_cases e9:h.op=9
 ·rw[if_pos e9]at p3;rw[if_pos e9,if_pos e9];simp only[Bool.and_eq_true,Bool.or_eq_true,beq_iff_eq,List.isEmpty_iff]at p3;rcases p3 with⟨hs,hn⟩| ⟨hs,hn⟩
  ·rw[C5 hn];rw[if_pos (by intro e;rw[e]at hs;exact absurd hs (by decide))];have hw:Ai d .nil=[]:=rfl;rw[hw];simp only;have:=(HasT.sg [38]).cat ((HasT.nm hs).cat ((HasT.sg [46]).cat HasT.nil));simpa[Af]using this
  ·obtain⟨a,b,rfl⟩:=B9 hn;have hq:Ar d (.cons a b .nil)=[(a,AR d a (Ar d b))]:=rfl;have hw:Ai d (.cons a b .nil)=[(a,A6 d a (Ai d b))]:=rfl;rw[hq,hw]at g ⊢;rw[if_neg (by simpa using hs)];simp only;have:=(HasT.sg [38]).cat (g.2.1.closed.cat HasT.nil);simpa[Af]using this
 rw[if_neg e9]at p3;cases p3
theorem Mb{day:Bs→Int}(hd:C3 d day):∀f:Fo,okF f=true→RowT (Ai d f) (Ar d f):=by
 intro f;induction f with
 |nil=>intro _;exact trivial
 | cons h k n ihk ihn=>
   intro ho;simp only[okF,Bool.and_eq_true]at ho;exact⟨rfl,Gd hd ho.1.1 ho.1.2 (ihk ho.1.2),ihn ho.2⟩
theorem MZ{day:Bs→Int}(hd:C3 d day){x:Ex}(ho:okX x=true):∃t,exW d x=some (t,Aw d x):=by
 unfold okX at ho;rw[Bool.and_eq_true]at ho;exact Gd hd ho.1 ho.2 (Mb hd _ ho.2)
end
open Go.Lib
def B5:List (Hd×Bs)→Nat
 | []=>0
 |x::r=>x.2.length+4+B5 r
theorem Mn:∀l:List (Hd×Bs),(((l.map (·.2)).map fun s=>[44,32]++s).flatten).length≤B5 l:=by
 intro l;induction l with
 |nil=>simp[B5]
 | cons x r ih=>
   simp only[List.map_cons,List.flatten_cons,List.length_append,List.length_cons,List.length_nil,B5];omega
theorem E3(l:List (Hd×Bs)):(Bz (l.map (·.2))).length≤B5 l:=by
 cases l with
 |nil=>simp[Bz,B5]
 | cons x r=>
   have:=Mn r;simp only[List.map_cons,Bz,List.length_append,B5];omega
theorem Fu{p:List Bs}(h:p.all Ak=true):(Bz p).length≤12*p.length:=by
 have hl:∀s∈p,s.length≤10:=by
  intro s hs;have:=List.all_eq_true.1 h s hs;unfold Ak at this;simp only[Bool.and_eq_true,decide_eq_true_eq]at this;exact this.1.1.2
 clear h;have hf:∀r:List Bs,(∀s∈r,s.length≤10)→((r.map fun s=>[44,32]++s).flatten).length≤12*r.length:=by
  intro r;induction r with
  |nil=>intro _;simp
  | cons x r ih=>
    intro h;have h1:=ih (fun s hs=>h s (List.mem_cons_of_mem _ hs));have h2:=h x (List.mem_cons_self);simp only[List.map_cons,List.flatten_cons,List.length_append,List.length_cons,List.length_nil];omega
 cases p with
 |nil=>simp[Bz]
 | cons x r=>
   have h1:=hf r (fun s hs=>hl s (List.mem_cons_of_mem _ hs));have h2:=hl x (List.mem_cons_self);simp only[Bz,List.length_append,List.length_cons];omega
theorem Dt{n:Int}(h0:0<n)(h1:n≤3652059):(AX n).length=8:=by
 obtain⟨a,b,c,d,e,f,g⟩:=DC h0 h1;have hm:=EG (AJ n).1 (AJ n).2.1;unfold AX;have l1:=Ca (k:=4) (u:=(AJ n).1) (by omega) (by omega);have l2:=Ca (k:=2) (u:=(AJ n).2.1) (by omega) (by omega);have l3:=Ca (k:=2) (u:=(AJ n).2.2) (by omega) (by omega);rw[List.length_append,List.length_append,l1,l2,l3]
theorem Jq{h:Hd}(hf:h.fit)(hc:Ao h=true):(CO wdM h).length≤2000010:=by
 have hv:=hf.2.1;unfold Ao at hc;unfold CO;split
 ·split<;>simp
 split
 ·rename_i h1 h2;rw[if_neg (by omega),if_neg h1,if_pos h2]at hc;simp at hc;have:=(wdM_ok.nums h.vn hc.1.1 hc.1.2).1;omega
 split
 ·rename_i h1 h2 h3;rw[if_neg (by omega),if_neg h1,if_neg h2,if_pos h3]at hc;simp at hc;split
  ·simp
  ·rename_i h4;have:=Dt (n:=h.vn) (by omega) (by omega);show(Cz (AX h.vn)).length≤_;unfold Cz;simp only[List.length_append,List.length_take,List.length_drop,List.length_cons,List.length_nil];omega
 split
 ·split
  ·simp only[List.length_append,List.length_cons,List.length_nil];omega
  ·simp only[List.length_append,List.length_cons,List.length_nil];omega
 ·simp
theorem Lq{h:Hd}{ks:List (Hd×Bs)}(hf:h.fit)(hp:h.op=8→h.p.all Ak=true)(hc:h.op=0→Ao h=true)(hk:∀x∈ks,x.1.s.length≤2000000):(AR wdM h ks).length≤30000000+B5 ks:=by
 have hs:=hf.1;have hp2:=hf.2.2.1;have hj:=E3 ks;have ho:∀x:Hd×Bs,(opT x).length≤x.2.length+2:=by
  intro x;unfold opT;split<;>simp
 unfold AR;split
 ·rename_i h0;have:=Jq hf (hc h0);omega
 split
 ·cases ks with
  |nil=>simp
  | cons x r=>
    have:=hk x List.mem_cons_self;simp only[B5];split<;>simp only[List.length_append,List.length_cons,List.length_nil]<;>omega
 split
 ·simp only[List.length_append,List.length_cons,List.length_nil];omega
 split
 ·cases ks with
  |nil=>simp
  | cons x r=>
    have:=ho x;simp only[B5];split<;>simp only[List.length_append,List.length_cons,List.length_nil]<;>omega
 split
 ·match ks with
  | []=>simp
  | [_]=>simp
  | x::y::r=>
    have:=ho x;have:=ho y;simp only[B5,List.length_append,List.length_cons,List.length_nil];omega
 split
 ·match ks with
  | []=>simp
  | [_]=>simp
  | x::y::r=>
    have:=ho x;simp only[B5,List.length_append,List.length_cons,List.length_nil];omega
 split
 ·simp only[List.length_append,List.length_cons,List.length_nil];omega
 split
 ·rename_i h8;have:=Fu (hp h8);cases ks with
  |nil=>simp
  | cons x r=>
    simp only[B5,List.length_append,List.length_cons,List.length_nil];omega
 split
 ·split
  ·simp only[List.length_append,List.length_cons,List.length_nil];omega
  ·cases ks with
   |nil=>simp
   | cons x r=>
     simp only[B5,List.length_append,List.length_cons,List.length_nil];omega
 split
 ·simp only[List.length_append,List.length_cons,List.length_nil];omega
 ·omega
theorem EH{h:Hd}{n:Nat}{ks:List (Hd×Bs)}(hf:h.fit)(ho:Ba h n=true)(hk:∀x∈ks,x.1.s.length≤2000000):(AR wdM h ks).length≤30000000+B5 ks:=by
 obtain⟨_,_,h3⟩:=CB ho;unfold An at h3;refine Lq hf (fun h8=>?_) (fun h0=>?_) hk
 ·rw[if_neg (by omega),if_neg (by omega),if_neg (by omega),if_neg (by omega),if_neg (by omega),if_neg (by omega),if_neg (by omega),if_neg (by omega),if_pos h8]at h3;simp only[Bool.and_eq_true]at h3;exact h3.2
 ·rw[if_pos h0]at h3;simp only[Bool.and_eq_true]at h3;exact h3.2
theorem Eb:∀f:Fo,okF f=true→f.fit→B5 (Ar wdM f)≤30000004*f.nodes∧∀x∈Ar wdM f,x.1.s.length≤2000000:=by
 intro f;induction f with
 |nil=>intro _ _;simp[Ar,B5]
 | cons h k n ihk ihn=>
   intro ho hf;simp only[okF,Bool.and_eq_true]at ho;obtain⟨k1,k2⟩:=ihk ho.1.2 hf.2.1;obtain⟨n1,n2⟩:=ihn ho.2 hf.2.2;have:=EH hf.1 ho.1.1 k2;constructor
   ·simp only[Ar,B5,Fo.nodes];omega
   ·intro x hx;simp only[Ar,List.mem_cons]at hx;rcases hx with rfl|hx
    ·exact hf.1.1
    ·exact n2 x hx
open Go.RowKit Go.Sort
theorem Ky(n:Int)(h0:0<n)(h1:n≤3652059)(w:World):Calls Tryz.prog 148 #[.int .i64 n] w fun e w'=>e= .returned (str (AX n))∧w.grownBy w' none:=by
 have H:=I (KG n h0 h1 w);clear h0 h1;go_enter func148,ntmps148;go_wp2_with fail;refine H.out.mono ?_;rintro e w1 ⟨⟨y,m,q,rfl,a1,a2,a3,a4,a5,a6,a7⟩,g1⟩;have hq31:=(FU (y:=y) (m:=m) (by omega) (by omega)).2;have HD:=I (show AX n=AA 4 y++AA 2 m++AA 2 q by unfold AX;rw[KH a1 a2 a3 a4 a5 a6 a7]);have hn:∀k u:Nat,1≤k→u<10 ^ k→(decDigits u).length≤k:=fun k u hk hu=>by rw[decDigits_length];exact Ek k hk hu
 have l1:=Ca (k:=4) (u:=y) (by omega) (by omega);have l2:=Ca (k:=2) (u:=m) (by omega) (by omega);have l3:=Ca (k:=2) (u:=q) (by omega) (by omega);have H1:=I (fun W=>El y 4 (by omega) (hn 4 y (by omega) (by omega)) (by omega) W);have H2:=I (fun W=>El m 2 (by omega) (hn 2 m (by omega) (by omega)) (by omega) W);have H3:=I (fun W=>El q 2 (by omega) (hn 2 q (by omega) (by omega)) (by omega) W);change Hid (∀W,Calls _ _ _ W fun e w'=>e= .returned (str (AA 4 y))∧W.grownBy w' none)at H1;change Hid (∀W,Calls _ _ _ W fun e w'=>e= .returned (str (AA 2 m))∧W.grownBy w' none)at H2;change Hid (∀W,Calls _ _ _ W fun e w'=>e= .returned (str (AA 2 q))∧W.grownBy w' none)at H3;generalize AA 4 y=s1 at*;generalize AA 2 m=s2 at*;generalize AA 2 q=s3 at*;have hc1:¬(9223372036854775807<s1.length+s2.length):=by omega
 have hc2:¬(9223372036854775807<s1.length+s2.length+s3.length):=by omega
 have hc3:¬(9223372036854775807<(s1++s2).length+s3.length):=by rw[List.length_append];omega
 clear a1 a2 a3 a4 a5 a6 a7 hn hq31;go_wp2_with fail;refine(H1.out _).mono ?_;rintro e w2 ⟨rfl,g2⟩;go_wp2_with fail;refine(H2.out _).mono ?_;rintro e w3 ⟨rfl,g3⟩;go_wp2_with fail;refine(H3.out _).mono ?_;rintro e w4 ⟨rfl,g4⟩;have HG:=I (O (O (O g1 g2) g3) g4);clear g1 g2 g3 g4;go_wp2;go_ret;refine⟨?_,HG.out⟩;rw[HD.out,←EP,←ByteArray.mk_append_mk];rfl
theorem KJ(n:Int)(h0:0<n)(h1:n≤3652059)(w:World):Calls Tryz.prog 97 #[.int .i64 n] w fun e w'=>e= .returned (.tuple #[str (AX n),.int .i64 0])∧w.grownBy w' none:=by
 have H:=I (fun W=>Ky n h0 h1 W);have HD:=I (Gq n h0 h1 w);have hz:(n==0)=false:=by simp;omega
 go_enter func97,ntmps97;go_wp2_with fail;refine HD.out.mono ?_;rintro e w1 ⟨rfl,rfl⟩;go_wp2_with fail;refine(H.out _).mono ?_;rintro e w2 ⟨rfl,g2⟩;go_wp2;exact bodyPost_ret (v:= .tuple #[str (AX n),.int .i64 0]) (by simp[results,results97,go_sem]) rfl ⟨rfl,g2⟩
def Pow (w : World) : Prop := Lib.TabIs Tryz.prog w "internal/strconv.uint64pow10" .u64 Lib.pow10Tab
theorem GO : Tryz.prog.globalNamed "internal/strconv.uint64pow10" = some 3 := by kernel_rfl
theorem Pow.gb{w w1:World}(h:Pow w)(g:w.grownBy w1 none):Pow w1:=by
 unfold Pow Lib.TabIs World.var? at*;simp only[GO,Option.bind_some]at h ⊢;have hlt:3<w.heap.size:=by
  rcases Nat.lt_or_ge 3 w.heap.size with h' |h'
  ·exact h'
  ·rw[Array.getElem?_eq_none h']at h;simp at h
 rw[g.block _ hlt (by simp)];exact h
theorem M6(w:World)(k:Nat)(os:Array Obj):w.grownBy (grow (w.drewN k) os) none:=by
 refine⟨rfl,rfl,rfl,by simp,fun i hi _=>?_⟩;rw[heap_grow_old _ _ (by simpa using hi)];rfl
theorem Ez(s:Bs)(c:UInt8):decide (0≤Lib.indexByte s c)=s.contains c:=by
 induction s with
 |nil=>rfl
 | cons b s ih=>
   rw[List.contains_cons,←ih];have:=indexByte_ge s c;show decide (0≤(if b==c then(0:Int)else if Lib.indexByte s c == -1 then -1 else Lib.indexByte s c+1))=_;by_cases h:b=c
   ·subst h;simp
   ·rw[if_neg (by simpa using h),show(c==b)=false by simpa using fun e=>h e.symm,Bool.false_or,decide_eq_decide];split
    ·rename_i h2;have h3:Lib.indexByte s c= -1:=by simpa using h2
     rw[h3]
    ·rename_i h2;have h3:Lib.indexByte s c ≠ -1:=by simpa using h2
     omega
theorem BA{b:ByteArray}{s:Bs}(h:b.data.toList=s):Value.string b=str s:=by subst h;rfl
section
variable {w:World}{vk vn:Int}{vs:Bs}
def HdV(vk vn:Int)(vs:Bs):Hd:=⟨0,[],vk,vn,vs,[]⟩
theorem It(hp:Pow w)(hc:Ao (HdV vk vn vs)=true)(hl:vs.length≤2000000):
 Calls Tryz.prog 58 #[.agg #[.int .i64 vk,.int .i64 vn,str vs]] w fun e w'=>e= .returned (str (CO wdM (HdV vk vn vs)))∧w.grownBy w' none:=by
 unfold Ao HdV at hc;unfold CO HdV;simp only at hc ⊢;by_cases h1:vk=1
 ·subst h1;rw[if_neg (by omega),if_pos rfl]at hc;rw[if_pos rfl];simp at hc;rcases hc.1 with rfl|rfl
  ·rw[if_pos rfl];clear hc;go_enter func58,ntmps58;go_wp2;go_ret;exact⟨rfl,(by repeat(first| (with_reducible exact Ac _ _)| (with_reducible assumption)| (with_reducible exact AW (by assumption))| (with_reducible refine Aa ?_ _)| (with_reducible refine Aj ?_)| (with_reducible refine AH ?_ _)| ((with_reducible refine Ax ?_ _ _ ?h2);case h2=>first|exact .inl rfl|exact .inr (Nat.le_refl _)|exact .inr (by simp<;>omega))| (with_reducible refine Ae ?_ (by assumption))| (with_reducible refine O ?_ (by assumption))))⟩
  ·rw[if_neg (by omega)];clear hc;go_enter func58,ntmps58;go_wp2;go_ret;exact⟨rfl,(by repeat(first| (with_reducible exact Ac _ _)| (with_reducible assumption)| (with_reducible exact AW (by assumption))| (with_reducible refine Aa ?_ _)| (with_reducible refine Aj ?_)| (with_reducible refine AH ?_ _)| ((with_reducible refine Ax ?_ _ _ ?h2);case h2=>first|exact .inl rfl|exact .inr (Nat.le_refl _)|exact .inr (by simp<;>omega))| (with_reducible refine Ae ?_ (by assumption))| (with_reducible refine O ?_ (by assumption))))⟩
 have c1:(vk==1)=false:=by simpa using h1
 rw[if_neg h1];by_cases h2:vk=2
 ·subst h2;rw[if_neg (by omega),if_neg h1,if_pos rfl]at hc;rw[if_pos rfl];simp at hc;have H:=I (fun(W:World)(g:w.grownBy W none)=>strconv_Itoa vn (by omega) (by omega) W (hp.gb g));show Calls _ _ _ _ fun e w'=>e= .returned (str (itoa vn))∧_;clear hc hp h1;go_enter func58,ntmps58;go_wp2_with fail;refine(H.out _ ?gg).mono ?_
  case gg=>exact (by repeat(first| (with_reducible exact Ac _ _)| (with_reducible assumption)| (with_reducible exact AW (by assumption))| (with_reducible refine Aa ?_ _)| (with_reducible refine Aj ?_)| (with_reducible refine AH ?_ _)| ((with_reducible refine Ax ?_ _ _ ?h2);case h2=>first|exact .inl rfl|exact .inr (Nat.le_refl _)|exact .inr (by simp<;>omega))| (with_reducible refine Ae ?_ (by assumption))| (with_reducible refine O ?_ (by assumption))))
  rintro e w1 ⟨rfl,k,os,hw1⟩;have g1:=M6 (w.alloc (.cells #[.int .i64 2,.int .i64 vn,str vs] 23 (0,0))) k os;rw[←hw1]at g1;have HG:=I (O (World.grownBy_alloc w (.cells #[.int .i64 2,.int .i64 vn,str vs] 23 (0,0)) none) g1);clear hw1 g1;go_wp2;go_ret;exact⟨rfl,HG.out⟩
 have c2:(vk==2)=false:=by simpa using h2
 rw[if_neg h2];by_cases h3:vk=3
 ·subst h3;rw[if_neg (by omega),if_neg h1,if_neg h2,if_pos rfl]at hc;rw[if_pos rfl];simp at hc;by_cases hz:vn=0
  ·subst hz;rw[if_pos rfl];clear hc h1 h2;go_enter func58,ntmps58;go_wp2;go_ret;exact⟨rfl,(by repeat(first| (with_reducible exact Ac _ _)| (with_reducible assumption)| (with_reducible exact AW (by assumption))| (with_reducible refine Aa ?_ _)| (with_reducible refine Aj ?_)| (with_reducible refine AH ?_ _)| ((with_reducible refine Ax ?_ _ _ ?h2);case h2=>first|exact .inl rfl|exact .inr (Nat.le_refl _)|exact .inr (by simp<;>omega))| (with_reducible refine Ae ?_ (by assumption))| (with_reducible refine O ?_ (by assumption))))⟩
  ·rw[if_neg hz];have hzI:(vn==0)=false:=by simpa using hz
   have H:=I (fun W=>KJ vn (by omega) (by omega) W);have hl8:=Dt (n:=vn) (by omega) (by omega);show Calls _ _ _ _ fun e w'=>e= .returned (str (Cz (AX vn)))∧_;generalize AX vn=s at*;match s,hl8 with
   | [a0,a1,a2,a3,a4,a5,a6,a7],_=>
     clear hc hz h1 h2 hp;go_enter func58,ntmps58;go_wp2_with fail;refine(H.out _).mono ?_;rintro e w1 ⟨rfl,g1⟩;have HG:=I (O (World.grownBy_alloc w (.cells #[.int .i64 3,.int .i64 vn,str vs] 23 (0,0)) none) g1);clear g1;go_wp2_with fail;go_quiet(fail);go_wp2;go_ret;exact⟨congrArg Ending.returned (BA (by rfl)),AH HG.out _⟩
 have c3:(vk==3)=false:=by simpa using h3
 rw[if_neg h3];by_cases h4:vk=4
 ·subst h4;rw[if_pos rfl];have H:=I (fun W=>strings_Contains_one ⟨vs.toArray⟩ 34 W);have hix:=Ez vs 34;have hcl1:¬(9223372036854775807<1+vs.length):=by omega
  have hcl2:¬(9223372036854775807<1+vs.length+1):=by omega
  clear hc h1 h2 h3 hp;cases hb:vs.contains 34 with
  | true=>
    rw[if_pos rfl];have HB:=I (hix.trans hb);clear hix hb;go_enter func58,ntmps58;go_wp2_with fail;refine(H.out _).mono ?_;rintro e w1 ⟨rfl,rfl⟩;rw[HB.out];go_wp2;go_ret;exact⟨congrArg Ending.returned (BA (by simp[ByteArray.data_append])),(by repeat(first| (with_reducible exact Ac _ _)| (with_reducible assumption)| (with_reducible exact AW (by assumption))| (with_reducible refine Aa ?_ _)| (with_reducible refine Aj ?_)| (with_reducible refine AH ?_ _)| ((with_reducible refine Ax ?_ _ _ ?h2);case h2=>first|exact .inl rfl|exact .inr (Nat.le_refl _)|exact .inr (by simp<;>omega))| (with_reducible refine Ae ?_ (by assumption))| (with_reducible refine O ?_ (by assumption))))⟩
  | false=>
    rw[if_neg (by simp)];have HB:=I (hix.trans hb);clear hix hb;go_enter func58,ntmps58;go_wp2_with fail;refine(H.out _).mono ?_;rintro e w1 ⟨rfl,rfl⟩;rw[HB.out];go_wp2;go_ret;exact⟨congrArg Ending.returned (BA (by simp[ByteArray.data_append])),(by repeat(first| (with_reducible exact Ac _ _)| (with_reducible assumption)| (with_reducible exact AW (by assumption))| (with_reducible refine Aa ?_ _)| (with_reducible refine Aj ?_)| (with_reducible refine AH ?_ _)| ((with_reducible refine Ax ?_ _ _ ?h2);case h2=>first|exact .inl rfl|exact .inr (Nat.le_refl _)|exact .inr (by simp<;>omega))| (with_reducible refine Ae ?_ (by assumption))| (with_reducible refine O ?_ (by assumption))))⟩
 have c4:(vk==4)=false:=by simpa using h4
 rw[if_neg h4];clear hc h1 h2 h3 h4 hp;go_enter func58,ntmps58;go_wp2;go_ret;exact⟨rfl,(by repeat(first| (with_reducible exact Ac _ _)| (with_reducible assumption)| (with_reducible exact AW (by assumption))| (with_reducible refine Aa ?_ _)| (with_reducible refine Aj ?_)| (with_reducible refine AH ?_ _)| ((with_reducible refine Ax ?_ _ _ ?h2);case h2=>first|exact .inl rfl|exact .inr (Nat.le_refl _)|exact .inr (by simp<;>omega))| (with_reducible refine Ae ?_ (by assumption))| (with_reducible refine O ?_ (by assumption))))⟩
end
def ByteC(w:World)(b:Nat)(s:Bs):Prop:=∀j,j<s.length→w.cell? ⟨b,j,none⟩=some (.int .u8 ((s.getD j 0).toNat:Int))
theorem J4(s:Bs)(hs:s.length≤2000000)(w:World):Calls Tryz.prog 125 #[str s] w fun e w'=>e= .returned (.bool (BV s))∧w.grownBy w' none:=by
 have hconv:=run_bytes_of_string (P:=Tryz.prog) w 9 134 5 ⟨s.toArray⟩ underlying9 underlying134 underlying5;have hsz:(⟨s.toArray⟩:ByteArray).size=s.length:=by simp[ByteArray.size]
 rw[hsz]at hconv;generalize hcap:grownCap w s.length 0 5=cap at*;have h0:ByteC (w.drew.alloc (.cells (bytesRow ⟨s.toArray⟩ cap) 5 ((bytesRow ⟨s.toArray⟩ cap).size,(bytesRow ⟨s.toArray⟩ cap).size+1))) w.heap.size s:=by
  intro j hj;show(w.drew.alloc _).cell? ⟨w.drew.heap.size,j,none⟩=_;rw[World.cell?_alloc_mark,bytesRow_at _ _ _ (by simpa using hj)];simp[D0 hj,hj]
 have g0:w.grownBy (w.drew.alloc (.cells (bytesRow ⟨s.toArray⟩ cap) 5 ((bytesRow ⟨s.toArray⟩ cap).size,(bytesRow ⟨s.toArray⟩ cap).size+1))) none:=Aa (Aj (Ac _ _)) _;have H0:=I (X h0 g0);have HL:=I hs;have hM:=I (show BV s=(s.all B8&&decide (s.length≤2048)&&!(s.contains 34&&s.contains 39))from rfl);clear h0 g0 hsz hcap;generalize(w.drew.alloc (.cells (bytesRow ⟨s.toArray⟩ cap) 5 ((bytesRow ⟨s.toArray⟩ cap).size,(bytesRow ⟨s.toArray⟩ cap).size+1)))=W at*;go_enter func125,ntmps125;go_wp2_with fail;go_loopg [8] s.length (fun g v8 wr=>∃k:Nat,k+g=s.length∧v8= .int .i64 k∧(∀j,j<k→B8 (s.getD j 0)=true)∧W.grownBy wr none)
 case atStart=>exact⟨0,by omega,rfl,fun j hj=>by omega,Ac _ _⟩
 case round=>
  obtain⟨k,hk,rfl,hp,gr⟩:=hrel;clear hconv;by_cases hkl:k<s.length
  ·have hj1:decide (k<s.length)=true:=by simpa using hkl
   have ck:=Ab gr (H0.out.1 k hkl);have i0:(0:Int)≤(k:Int):=by omega
   have i1:(k:Int)<(s.length:Int):=by omega
   have HP:=I (X hp gr);have hall:=fun(h:B8 (s.getD k 0)=false)=>G8 (p:=B8) (l:=s) (d:=0) hkl h;clear hp gr;generalize hc:s.getD k 0=c at*;have hpr:B8 c=true↔c.toNat=9∨(32≤c.toNat∧c.toNat≤126):=by
    unfold B8;rw[Bool.or_eq_true,Bool.and_eq_true,beq_iff_eq,decide_eq_true_eq,decide_eq_true_eq,UInt8.le_iff_toNat_le,UInt8.le_iff_toNat_le,←UInt8.toNat_inj];rfl
   by_cases h:c.toNat=9∨(32≤c.toNat∧c.toNat≤126)
   ·have HC:=I (X (hpr.2 h) hc);clear hpr hall hc;rcases h with h| ⟨h,h'⟩
    ·have h9:((c.toNat:Int)==9)=true:=by simp;omega
     have h9':((c.toNat:Int) !=9)=false:=by simp;omega
     go_wp2;go_roundg (s.length-(k+1))
     case measure=>omega
     case rel=>exact⟨k+1,by omega,by go_num,fun j hj=>by rcases Nat.lt_succ_iff_lt_or_eq.1 hj with h|rfl;exact HP.out.1 j h;rw[HC.out.2];exact HC.out.1,HP.out.2⟩
    ·have h9:((c.toNat:Int)==9)=false:=by simp;omega
     have h9':((c.toNat:Int) !=9)=true:=by simp;omega
     have h3:decide ((c.toNat:Int)<32)=false:=by simp;omega
     have h4:decide ((126:Int)<(c.toNat:Int))=false:=by simp;omega
     go_wp2;go_roundg (s.length-(k+1))
     case measure=>omega
     case rel=>exact⟨k+1,by omega,by go_num,fun j hj=>by rcases Nat.lt_succ_iff_lt_or_eq.1 hj with h|rfl;exact HP.out.1 j h;rw[HC.out.2];exact HC.out.1,HP.out.2⟩
   ·have HF := I (show BV s = false by
     rw[hM.out,hall (by cases hb:B8 c with|false=>rfl|true=>exact absurd (hpr.1 hb) h)];rfl)
    have h9:((c.toNat:Int)==9)=false:=by simp;omega
    have h9':((c.toNat:Int) !=9)=true:=by simp;omega
    clear hpr hall hc;by_cases h3:c.toNat<32
    ·have h3I:decide ((c.toNat:Int)<32)=true:=by simp;omega
     go_wp2;go_ret;exact⟨by rw[HF.out];rfl,O H0.out.2 HP.out.2⟩
    ·have h3I:decide ((c.toNat:Int)<32)=false:=by simp;omega
     have h4:decide ((126:Int)<(c.toNat:Int))=true:=by simp;omega
     go_wp2;go_ret;exact⟨by rw[HF.out];rfl,O H0.out.2 HP.out.2⟩
  ·have hj1:decide (k<s.length)=false:=by simpa using hkl
   have hall:s.all B8=true:=G9 (d:=0) fun j hj=>hp j (by omega);have HG:=I (O H0.out.2 gr);have HA:=I (show BV s=(decide (s.length≤2048)&&!(s.contains 34&&s.contains 39))by rw[hM.out,hall];rfl);have H1:=I (fun W=>strings_Contains_one ⟨s.toArray⟩ 34 W);have H2:=I (fun W=>strings_Contains_one ⟨s.toArray⟩ 39 W);have e1:=Ez s 34;have e2:=Ez s 39;clear hp gr hall hM;by_cases hl:s.length≤2048
   ·have hlI:decide ((s.length:Int)≤2048)=true:=by simp;omega
    have hl':decide (s.length≤2048)=true:=by simpa using hl
    cases b1:s.contains 34 with
    | false=>
      have HF:=I (show BV s=true by rw[HA.out,hl',b1];rfl);have E1:=I (e1.trans b1);clear HA e1 e2 b1 hl hl';go_wp2_with fail;refine(H1.out _).mono ?_;rintro e w1 ⟨rfl,rfl⟩;rw[E1.out];go_wp2;go_ret;exact⟨by rw[HF.out];rfl,HG.out⟩
    | true=>
      have HF:=I (show BV s= !(s.contains 39)by rw[HA.out,hl',b1];rfl);have E1:=I (e1.trans b1);have E2:=I e2;clear HA e1 e2 b1 hl hl';generalize s.contains 39=b2 at*;go_wp2_with fail;refine(H1.out _).mono ?_;rintro e w1 ⟨rfl,rfl⟩;rw[E1.out];go_wp2_with fail;refine(H2.out _).mono ?_;rintro e w2 ⟨rfl,rfl⟩;rw[E2.out];go_wp2;go_ret;exact⟨by rw[HF.out];rfl,HG.out⟩
   ·have hlI:decide ((s.length:Int)≤2048)=false:=by simp;omega
    have HF:=I (show BV s=false by rw[HA.out];simp[hl]);clear HA e1 e2 hl;go_wp2;go_ret;exact⟨by rw[HF.out];rfl,HG.out⟩
def Big{α:Type}(m:α→Nat)(i:Nat):Res α→Prop
 | .ok a j=>m a+i≤j
 |_=>True
theorem Big.bind{α β:Type}{m:α→Nat}{m':β→Nat}{i i':Nat}{r:Res α}{f:α→Nat→Res β}(h:Big m i' r)(hf:∀a j,m a+i'≤j→Big m' i (f a j)):Big m' i (r.bind f):=by
 cases r with
 |ok a j=>exact hf a j h
 |bad k=>trivial
 |out=>trivial
theorem Fo.nodes_app(f g:Fo):(f.app g).nodes=f.nodes+g.nodes:=by
 induction f with
 |nil=>simp[Fo.app,Fo.nodes]
 |cons h k n _ ih=>simp[Fo.app,Fo.nodes,ih];omega
theorem Fo.nodes_snoc(f:Fo)(x:Ex):(f.snoc x).nodes=f.nodes+x.nodes:=by simp[Fo.snoc,Fo.nodes_app,Ex.fo,Fo.nodes,Ex.nodes]
theorem Fo.nodes_one(x:Ex):(Fo.one x).nodes=x.nodes:=by simp[Fo.one,Ex.fo,Fo.nodes,Ex.nodes]
theorem Fo.nodes_two(x y:Ex):(Fo.two x y).nodes=x.nodes+y.nodes:=by simp[Fo.two,Ex.fo,Fo.nodes,Ex.nodes]
abbrev B1{α:Type}:α→Nat:=fun _=>1
section
variable {l:List Tok}{i:Nat}
theorem Cq(s:Bs)(q:Nat):Big B1 q (A8 l s q):=by
 unfold A8;split
 ·show 1+q≤q+1;omega
 ·trivial
theorem CJ(q:Nat):Big B1 q (AM l q):=by
 unfold AM;split
 ·show 1+q≤q+1;omega
 ·trivial
theorem Iy{k:Nat}{opnd:Nat→Res Ex}(h:∀q,Big Ex.nodes q (opnd q)):∀n x j,x.nodes+i≤j→Big Ex.nodes i (joinLoop l k opnd n x j):=by
 intro n;induction n with
 |zero=>intro x j _;trivial
 | succ n ih=>
   intro x j h1;unfold joinLoop;split
   ·exact h1
   ·refine Big.bind (h _) fun y q hq=>ih _ _ ?_;simp only[AK,Ex.nodes,Fo.nodes_two]at hq h1 ⊢;omega
theorem DA{k n:Nat}{opnd:Nat→Res Ex}(h:∀q,Big Ex.nodes q (opnd q))(q:Nat):Big Ex.nodes q (A0 l k n opnd q):=
 Big.bind (h q) fun x j hj=>Iy h n x j hj
theorem LH{un:Nat→Res Ex}(h:∀q,Big Ex.nodes q (un q)):∀n q,Big Ex.nodes q (AI l un n q):=by
 intro n;induction n with
 |zero=>intro q;trivial
 | succ n ih=>
   intro q;unfold AI;refine Big.bind (h q) fun x j hj=>?_;split
   ·exact hj
   ·refine Big.bind (ih _) fun y k hk=>?_;simp only[Big,AK,Ex.nodes,Fo.nodes_two]at hj hk ⊢;omega
theorem LC{sum:Nat→Res Ex}(h:∀q,Big Ex.nodes q (sum q)):∀n q,Big Ex.nodes q (AL l sum n q):=by
 intro n;induction n with
 |zero=>intro q;trivial
 | succ n ih=>
   intro q;unfold AL;split
   ·refine Big.bind (ih _) fun y k hk=>?_;simp only[Big,unE,Ex.nodes,Fo.nodes_one]at hk ⊢;omega
   ·refine Big.bind (h q) fun x j hj=>?_;split
    ·exact hj
    ·refine Big.bind (h _) fun y k hk=>?_;simp only[Big,AK,Ex.nodes,Fo.nodes_two]at hj hk ⊢;omega
theorem Jk{E:Nat→Res Ex}(h:∀q,Big Ex.nodes q (E q)):∀n x j,x.nodes+i≤j→Big Ex.nodes i (Br l E n x j):=by
 intro n;induction n with
 |zero=>intro x j _;trivial
 | succ n ih=>
   intro x j h1;unfold Br;split
   ·refine Big.bind (h _) fun y q hq=>Big.bind (Cq _ _) fun _ k hk=>ih _ _ ?_;simp only[B1,CQ,Ex.nodes,Fo.nodes_two]at hq hk h1 ⊢;omega
   ·exact h1
theorem K7{E prim:Nat→Res Ex}(hE:∀q,Big Ex.nodes q (E q))(hP:∀q,Big Ex.nodes q (prim q)):∀n q,Big Ex.nodes q (AQ l E prim n q):=by
 intro n;induction n with
 |zero=>intro q;trivial
 | succ n ih=>
   intro q;unfold AQ;split
   ·refine Big.bind (ih _) fun y k hk=>?_;simp only[Big,unE,Ex.nodes,Fo.nodes_one]at hk ⊢;omega
   ·exact Big.bind (hP q) fun x j hj=>Jk hE n x j hj
theorem I1{E:Nat→Res Ex}(h:∀q,Big Ex.nodes q (E q)):∀n f j,f.nodes+i≤j→Big Fo.nodes i (listLoop l E n f j):=by
 intro n;induction n with
 |zero=>intro x j _;trivial
 | succ n ih=>
   intro x j h1;unfold listLoop;split
   ·refine Big.bind (h _) fun y q hq=>ih _ _ ?_;rw[Fo.nodes_snoc];omega
   ·exact h1
theorem FR{E:Nat→Res Ex}{n:Nat}(h:∀q,Big Ex.nodes q (E q))(q:Nat):Big Fo.nodes q (BN l E n q):=
 Big.bind (h q) fun x j hj=>I1 h n _ j (by rw[Fo.nodes_one];exact hj)
theorem Hm:∀n f j,1+i≤j→Big B1 i (namesLoop l n f j):=by
 intro n;induction n with
 |zero=>intro x j _;trivial
 | succ n ih=>
   intro x j h1;unfold namesLoop;split
   ·exact Big.bind (CJ _) fun y q hq=>ih _ _ (by simp only[B1]at hq;omega)
   ·exact h1
theorem JF{n:Nat}(q:Nat):Big B1 q (B7 l n q):=
 Big.bind (CJ _) fun x j hj=>Hm n _ j hj
theorem Ka{E:Nat→Res Ex}{n:Nat}(hE:∀q,Big Ex.nodes q (E q))(q:Nat):Big Ex.nodes q (BT l E n q):=by
 unfold BT;refine Big.bind (CJ _) fun s j hj=>Big.bind (Cq _ _) fun _ k hk=>?_;split
 ·simp only[Big,B1,Ex.nodes,Fo.nodes]at hj hk ⊢;omega
 ·refine Big.bind (FR hE _) fun f p hp=>Big.bind (Cq _ _) fun _ r hr=>?_;simp only[Big,B1,Ex.nodes,Fo.nodes]at hj hk hp hr ⊢;omega
theorem JA{E:Nat→Res Ex}(hE:∀q,Big Ex.nodes q (E q))(q:Nat):Big Ex.nodes q (BO l E q):=by
 unfold BO;refine Big.bind (Cq _ _) fun s j hj=>?_;split
 ·refine Big.bind (hE _) fun f p hp=>Big.bind (Cq _ _) fun _ k hk=>?_;simp only[Big,B1,Ex.nodes,Fo.nodes_one]at hj hk hp ⊢;omega
 ·refine Big.bind (CJ _) fun s p hp=>?_;simp only[Big,B1,Ex.nodes,Fo.nodes]at hj hp ⊢;split<;>omega
theorem IV{E:Nat→Res Ex}{n:Nat}(hE:∀q,Big Ex.nodes q (E q))(q:Nat):Big Ex.nodes q (BJ l E n q):=by
 unfold BJ;split
 ·have h1 : Big B1 (q + 1) (if Ad (Z l (q + 1)) [124] then (.ok [] (q + 2) : Res (List Bs)) else (B7 l n (q + 1)).bind fun p j => (A8 l [124] j).bind fun _ j => .ok p j) := by
   split
   ·show 1+(q+1)≤q+2;omega
   ·refine Big.bind (JF _) fun p j hj=>Big.bind (Cq _ _) fun _ k hk=>?_;simp only[Big,B1]at hj hk ⊢;omega
  refine Big.bind h1 fun p j hj=>Big.bind (hE _) fun f p hp=>Big.bind (Cq _ _) fun _ k hk=>?_;simp only[Big,B1,Ex.nodes,Fo.nodes_one]at hj hk hp ⊢;omega
 ·refine Big.bind (FR hE _) fun f p hp=>Big.bind (Cq _ _) fun _ k hk=>?_;simp only[Big,B1,Ex.nodes]at hk hp ⊢;omega
theorem IJ{E:Nat→Res Ex}{n:Nat}(hE:∀q,Big Ex.nodes q (E q))(q:Nat):Big Ex.nodes q (By l E n q):=by
 unfold By;split
 ·exact JA hE q
 split
 ·simp only[Big,A4,Ex.nodes,Fo.nodes];omega
 split
 ·simp only[Big,A4,Ex.nodes,Fo.nodes];omega
 split
 ·simp only[Big,A4,Ex.nodes,Fo.nodes];omega
 split
 ·refine Big.bind (hE _) fun f p hp=>Big.bind (Cq _ _) fun _ k hk=>?_;simp only[Big,B1]at hk hp ⊢;omega
 split
 ·refine Big.bind (CJ _) fun s p hp=>?_;simp only[Big,B1,Ex.nodes,Fo.nodes]at hp ⊢;omega
 split
 ·have h:=IV (n:=n) hE (l:=l) (q+1);revert h;generalize BJ l E n (q+1)=r;intro h;cases r with
  |ok a j=>simp only[Big]at h ⊢;omega
  |bad k=>trivial
  |out=>trivial
 ·trivial
theorem JE{E:Nat→Res Ex}{n:Nat}(hE:∀q,Big Ex.nodes q (E q))(q:Nat):Big Ex.nodes q (B6 l E n q):=by
 unfold B6;split
 ·exact Ka hE q
 refine Big.bind (CJ _) fun s j hj=>?_;split
 ·split
  ·refine Big.bind (hE _) fun f p hp=>Big.bind (Cq _ _) fun _ k hk=>?_;simp only[Big,B1,Ex.nodes,Fo.nodes_one]at hj hk hp ⊢;omega
  ·refine Big.bind (CJ _) fun s p hp=>?_;simp only[Big,B1,A1,Ex.nodes,Fo.nodes_one,Fo.nodes]at hj hp ⊢;omega
 ·simp only[Big,B1,A1,Ex.nodes,Fo.nodes]at hj ⊢;omega
theorem Ly{day:Bs→Int}{E:Nat→Res Ex}{n:Nat}(hE:∀q,Big Ex.nodes q (E q))(q:Nat):Big Ex.nodes q (AG l day E n q):=by
 have hc:∀a b c,Big Ex.nodes q (.ok (A4 a b c) (q+1)):=by
  intro a b c;simp only[Big,A4,Ex.nodes,Fo.nodes];omega
 unfold AG;split
 ·exact hc _ _ _
 split
 ·split
  ·trivial
  ·exact hc _ _ _
 split
 ·exact hc _ _ _
 split
 ·exact JE hE q
 ·exact IJ hE q
theorem Kh(day:Bs→Int):∀n q,Big Ex.nodes q (Ap l day n q):=by
 intro n;induction n with
 |zero=>intro q;trivial
 | succ n ih=>
   intro q;unfold Ap;exact DA (DA fun p=>LC (fun p=>DA (DA fun p=>LH (fun p=>K7 ih (fun p=>Ly ih p) n p) n p) p) n p) q
theorem Lk(day:Bs→Int)(n:Nat){x:Ex}{j:Nat}(h:Bt l day n= .ok x j):x.nodes+1≤l.length:=by
 have h1:=Kh (l:=l) day n 0;unfold Bt at h;cases hr:Ap l day n 0 with
 | ok y i=>
   rw[hr,Res.bind_ok]at h;rw[hr]at h1;have h2:=Mk (l:=l) (o:=True) i;cases he:BZ l i with
   | ok u k=>
     rw[he,Res.bind_ok]at h;rw[he]at h2;cases h;have:=h2.2;have:=h2.1;simp only[Big]at h1;omega
   |bad k=>rw[he]at h;cases h
   |out=>rw[he]at h;cases h
 |bad k=>rw[hr]at h;cases h
 |out=>rw[hr]at h;cases h
theorem Ej(day:Bs→Int)(n:Nat)(hn:l.length+2≤n):Bt l day n ≠ .out:=by
 have h:=FE (l:=l) day n 0;unfold Bt;cases hr:Ap l day n 0 with
 | ok y i=>
   rw[Res.bind_ok];unfold BZ;split<;>simp[Res.bind]
 |bad k=>simp[Res.bind]
 |out=>rw[hr]at h;exact absurd (by omega) h
end
end Go.Proofs.YtgjdhajcnechdaaGreatDoor
