/-
  Plain laws: what the reference says of an expression, by writing and reading it again, is whether it is right; how many tokens are written. Plain laws: the digits of numbers and of days are read as wh
-/
import Derived.Test.YtgjdhajcnechdaaGreatDoorSv19
import Derived.Test.YtgjdhajcnechdaaGreatDoorSv06
import Derived.Test.YtgjdhajcnechdaaGreatDoorSv13
import Derived.Test.YtgjdhajcnechdaaGreatDoorSv04
import Derived.Test.YtgjdhajcnechdaaGreatDoorSv26
import Derived.Lib.ItoaMem
set_option linter.all false
set_option maxRecDepth 100000
set_option maxHeartbeats 8000000
namespace Go.Proofs.YtgjdhajcnechdaaGreatDoor
open Go.Proofs.Tryz
theorem Qw:∀f g:Fo,Bt f g=true→f=g:=by
 intro f;induction f with
 |nil=>intro g h;cases g with|nil=>rfl|cons _ _ _=>cases h
 | cons h k n ihk ihn=>
   intro g hg;cases g with
   |nil=>cases hg
   | cons h' k' n'=>
     simp only[Bt,BQ,Bool.and_eq_true,decide_eq_true_eq]at hg;rw[hg.1.1,ihk _ hg.1.2,ihn _ hg.2]
theorem Qx{x y:Ex}(h:Dc x y=true):x=y:=by
 unfold Dc BQ at h;simp only[Bool.and_eq_true,decide_eq_true_eq]at h;obtain⟨hx,kx⟩:=x;obtain⟨hy,ky⟩:=y;simp only at h;rw[h.1,Qw _ _ h.2]
structure TokV(d:Wd)(c:Tok):Prop where
 kinds:c.kind=0∨c.kind=1∨c.kind=2∨c.kind=3∨c.kind=4
 name:c.kind=0→Al c.text=true
 num:c.kind=1→∃n:Int,0≤n∧n≤1000000000000000∧c.text=d.num n∧c.text.length≤15
 str:c.kind=2→c.text.all BI=true∧c.text.length≤2048∧¬(c.text.contains 34=true∧c.text.contains 39=true)
 day:c.kind=3→c.text=[]∨∃n:Int,0<n∧n≤3652059∧c.text=d.day n
def AllW(d:Wd)(w:OW):Prop:=∀t s,w=some (t,s)→∀c∈t,TokV d c
section
variable {d:Wd}
theorem QV(s:Bs):TokV d (sg s):=⟨by simp[sg],by simp[sg],by simp[sg],by simp[sg],by simp[sg]⟩
theorem AllW.none:AllW d none:=by intro t s h;cases h
theorem AllW.sgn(s:Bs):AllW d (sgn s):=by
 intro t s' h c hc;cases h;cases List.mem_singleton.1 hc;exact QV s
theorem AllW.emp{s:Bs}:AllW d (some ([],s)):=by intro t s' h c hc;cases h;cases hc
theorem AllW.nm(s:Bs):AllW d (nmW s):=by
 intro t s' h c hc;unfold nmW at h;split at h
 ·cases h;cases List.mem_singleton.1 hc;rename_i hs;exact⟨by simp[wd],fun _=>hs,by simp[wd],by simp[wd],by simp[wd]⟩
 ·cases h
theorem AllW.cat{a b:OW}(ha:AllW d a)(hb:AllW d b):AllW d (Ax a b):=by
 intro t s h c hc;cases a with
 |none=>cases h
 | some p=>
   cases b with
   |none=>cases h
   | some q=>
     cases h;rcases List.mem_append.1 hc with h1|h1
     ·exact ha _ _ rfl c h1
     ·exact hb _ _ rfl c h1
theorem AllW.catL:∀{L:List OW},(∀w∈L,AllW d w)→AllW d (catL L):=by
 intro L;induction L with
 |nil=>intro _;exact AllW.emp
 |cons a r ih=>intro h;exact(h a (by simp)).cat (ih fun w hw=>h w (by simp[hw]))
theorem AllW.tail:∀{L:List OW},(∀w∈L,AllW d w)→AllW d (CN L):=by
 intro L;induction L with
 |nil=>intro _;exact AllW.emp
 | cons a r ih=>
   intro h;refine AllW.catL fun w hw=>?_;simp only[List.mem_cons,List.not_mem_nil,or_false]at hw;rcases hw with rfl|rfl|rfl|rfl
   ·exact AllW.sgn _
   ·exact AllW.emp
   ·exact h _ (by simp)
   ·exact ih fun w hw=>h w (by simp[hw])
theorem AllW.list{L:List OW}(h:∀w∈L,AllW d w):AllW d (Be L):=by
 cases L with
 |nil=>exact AllW.emp
 |cons a r=>exact(h a (by simp)).cat (AllW.tail fun w hw=>h w (by simp[hw]))
theorem AllW.closed{w:OW}(h:AllW d w):AllW d (Cd w):=by
 refine AllW.catL fun v hv=>?_;simp only[List.mem_cons,List.not_mem_nil,or_false]at hv;rcases hv with rfl|rfl|rfl
 ·exact AllW.sgn _
 ·exact h
 ·exact AllW.sgn _
theorem AllW.opd{x:Hd×OW}(h:AllW d x.2):AllW d (Bk x):=by
 unfold Bk;split
 ·exact h
 ·exact h.closed
theorem AllW.val(h:Hd):AllW d (BS d h):=by
 intro t s hw c hc;unfold BS at hw;by_cases h0:A4 h=false
 ·rw[if_pos h0]at hw;cases hw
 rw[if_neg h0]at hw;replace h0:A4 h=true:=by cases e:A4 h with|true=>rfl|false=>exact absurd e h0
 unfold A4 at h0;by_cases k0:h.vk=0
 ·rw[if_pos k0]at hw;exact AllW.sgn _ t s hw c hc
 rw[if_neg k0]at hw;by_cases k1:h.vk=1
 ·rw[if_pos k1]at hw;exact AllW.sgn _ t s hw c hc
 rw[if_neg k1]at hw;by_cases k2:h.vk=2
 ·rw[if_pos k2]at hw;rw[if_neg k0,if_neg k1,if_pos k2]at h0;simp only[Bool.and_eq_true,decide_eq_true_eq]at h0;by_cases hb:h.vn<0∨15<(d.num h.vn).length
  ·rw[if_pos hb]at hw;cases hw
  rw[if_neg hb]at hw;cases hw;cases List.mem_singleton.1 hc;exact⟨by simp,by simp,fun _=>⟨h.vn,by omega,h0.1.2.2,rfl,by show(d.num h.vn).length≤15;omega⟩,by simp,by simp⟩
 rw[if_neg k2]at hw;by_cases k3:h.vk=3
 ·rw[if_pos k3]at hw;rw[if_neg k0,if_neg k1,if_neg k2,if_pos k3]at h0;simp only[Bool.and_eq_true,decide_eq_true_eq]at h0;by_cases hz:h.vn=0
  ·rw[if_pos hz]at hw;cases hw;cases List.mem_singleton.1 hc;exact⟨by simp,by simp,by simp,by simp,fun _=> .inl rfl⟩
  ·rw[if_neg hz]at hw;cases hw;cases List.mem_singleton.1 hc;exact⟨by simp,by simp,by simp,by simp,fun _=> .inr ⟨h.vn,by omega,h0.1.2.2,rfl⟩⟩
 rw[if_neg k3]at hw;unfold D2 at hw;split at hw
 ·rename_i ha;cases hw;cases List.mem_singleton.1 hc;simp only[Bool.and_eq_true,decide_eq_true_eq]at h0;rw[List.all_eq_true]at ha;refine⟨by simp,by simp,by simp,fun _=>⟨?_,h0.1.1,?_⟩,by simp⟩
  ·rw[List.all_eq_true];intro b hb;have:=ha b hb;rw[Bool.and_eq_true]at this;exact this.1
  ·rintro⟨e1,e2⟩;have e1':h.vs.contains 34=true:=e1;have e2':h.vs.contains 39=true:=e2;have hq:By h.vs=39:=by unfold By;rw[if_pos e1']
   have:=ha 39 (by simpa using e2');rw[hq]at this;simp at this
 ·cases hw
theorem It(h:Hd){ks:List (Hd×OW)}(hk:∀x∈ks,AllW d x.2):AllW d (AM d h ks):=by
 have hm:∀w∈ks.map (·.2),AllW d w:=by
  intro w hw;obtain⟨x,hx,rfl⟩:=List.mem_map.1 hw;exact hk x hx
 have hp:∀w∈h.p.map nmW,AllW d w:=by
  intro w hw;obtain⟨x,_,rfl⟩:=List.mem_map.1 hw;exact AllW.nm x
 unfold AM;by_cases e0:h.op=0
 ·rw[if_pos e0];exact AllW.val h
 rw[if_neg e0];by_cases e1:h.op=1
 ·rw[if_pos e1];exact AllW.nm _
 rw[if_neg e1];by_cases e2:h.op=2
 ·rw[if_pos e2];split
  ·rename_i x;refine AllW.catL fun w hw=>?_;simp only[List.mem_cons,List.not_mem_nil,or_false]at hw;rcases hw with rfl|rfl|rfl
   ·exact AllW.nm _
   ·exact AllW.sgn _
   ·split
    ·exact AllW.nm _
    ·exact(hk x (by simp)).closed
  ·exact AllW.none
 rw[if_neg e2];by_cases e3:h.op=3
 ·rw[if_pos e3];refine AllW.catL fun w hw=>?_;simp only[List.mem_cons,List.not_mem_nil,or_false]at hw;rcases hw with rfl|rfl|rfl|rfl
  ·exact AllW.nm _
  ·exact AllW.sgn _
  ·exact AllW.list hm
  ·exact AllW.sgn _
 rw[if_neg e3];by_cases e4:h.op=4
 ·rw[if_pos e4];split
  ·rename_i x;refine AllW.catL fun w hw=>?_;simp only[List.mem_cons,List.not_mem_nil,or_false]at hw;rcases hw with rfl|rfl|rfl
   ·exact AllW.sgn _
   ·split<;>exact AllW.emp
   ·exact(hk x (by simp)).opd
  ·exact AllW.none
 rw[if_neg e4];by_cases e5:h.op=5
 ·rw[if_pos e5];split
  ·rename_i x y;refine AllW.catL fun w hw=>?_;simp only[List.mem_cons,List.not_mem_nil,or_false]at hw;rcases hw with rfl|rfl|rfl|rfl|rfl
   ·exact(hk x (by simp)).opd
   ·exact AllW.emp
   ·exact AllW.sgn _
   ·exact AllW.emp
   ·exact(hk y (by simp)).opd
  ·exact AllW.none
 rw[if_neg e5];by_cases e6:h.op=6
 ·rw[if_pos e6];split
  ·rename_i x y;refine AllW.catL fun w hw=>?_;simp only[List.mem_cons,List.not_mem_nil,or_false]at hw;rcases hw with rfl|rfl|rfl|rfl
   ·exact(hk x (by simp)).opd
   ·exact AllW.sgn _
   ·exact hk y (by simp)
   ·exact AllW.sgn _
  ·exact AllW.none
 rw[if_neg e6];by_cases e7:h.op=7
 ·rw[if_pos e7];refine AllW.catL fun w hw=>?_;simp only[List.mem_cons,List.not_mem_nil,or_false]at hw;rcases hw with rfl|rfl|rfl
  ·exact AllW.sgn _
  ·exact AllW.list hm
  ·exact AllW.sgn _
 rw[if_neg e7];by_cases e8:h.op=8
 ·rw[if_pos e8];split
  ·rename_i x;refine AllW.catL fun w hw=>?_;simp only[List.mem_cons,List.not_mem_nil,or_false]at hw;rcases hw with rfl|rfl|rfl|rfl|rfl|rfl|rfl
   ·exact AllW.sgn _
   ·exact AllW.sgn _
   ·exact AllW.list hp
   ·exact AllW.sgn _
   ·exact AllW.emp
   ·exact hk x (by simp)
   ·exact AllW.sgn _
  ·exact AllW.none
 rw[if_neg e8];by_cases e9:h.op=9
 ·rw[if_pos e9];split
  ·rename_i x;refine AllW.catL fun w hw=>?_;simp only[List.mem_cons,List.not_mem_nil,or_false]at hw;rcases hw with rfl|rfl
   ·exact AllW.sgn _
   ·exact(hk x (by simp)).closed
  ·refine AllW.catL fun w hw=>?_;simp only[List.mem_cons,List.not_mem_nil,or_false]at hw;rcases hw with rfl|rfl|rfl
   ·exact AllW.sgn _
   ·exact AllW.nm _
   ·exact AllW.sgn _
 rw[if_neg e9];by_cases e10:h.op=10
 ·rw[if_pos e10];refine AllW.catL fun w hw=>?_;simp only[List.mem_cons,List.not_mem_nil,or_false]at hw;rcases hw with rfl|rfl
  ·exact AllW.sgn _
  ·exact AllW.nm _
 ·rw[if_neg e10];exact AllW.none
theorem PK:∀f:Fo,∀x∈A5 d f,AllW d x.2:=by
 intro f;induction f with
 |nil=>intro x hx;cases hx
 | cons h k n ihk ihn=>
   intro x hx;rcases List.mem_cons.1 hx with rfl|hx
   ·exact It h ihk
   ·exact ihn x hx
theorem G8(x:Ex):AllW d (exW d x):=It x.h (PK x.kids)
structure GN(d:Wd)(day:Bs→Int):Prop extends ES d day where
 fit:∀n:Int,0≤n→(d.num n).length≤15→n≤999999999999999
theorem TokV.c{day:Bs→Int}(hd:GN d day){c:Tok}(h:TokV d c):TokC day c:=by
 refine⟨fun k=>?_,fun k=>⟨(h.str k).1,(h.str k).2.2⟩,fun k=>?_⟩
 ·obtain⟨n,h0,_,e,hl⟩:=h.num k;have hf:=hd.fit n h0 (e ▸ hl);rw[e,(hd.nums n h0 hf).2];omega
 ·rcases h.day k with e| ⟨n,h0,h1,e⟩
  ·rw[e,hd.zero];omega
  ·rw[e,hd.days n h0 h1];omega
theorem O4{day:Bs→Int}:TokC day ⟨-1,0,[]⟩:=⟨by simp,by simp,by simp⟩
theorem Gn{P:Tok→Prop}{l:List Tok}(h:∀c∈l,P c)(h0:P ⟨-1,0,[]⟩)(i:Nat):P (Ab l i):=by
 unfold Ab;cases e:l[i]? with
 |none=>exact h0
 |some c=>exact h c (List.mem_of_getElem? e)
def DN(d:Wd)(day:Bs→Int)(x:Ex)(n:Nat):Bool:=
 match exW d x with
 |none=>false
 | some p=>match A8 p.1 day n 0 with
   | .ok y j=>!decide (j<p.1.length)&&Dc x y
   |_=>false
theorem Jj{day:Bs→Int}(hd:GN d day)(x:Ex)(n:Nat)(hn:∀t s,exW d x=some (t,s)→t.length+1<n):DN d day x n=okX x:=by
 rw[Bool.eq_iff_iff];constructor
 ·intro h;unfold DN at h;cases e:exW d x with
  |none=>rw[e]at h;cases h
  | some p=>
    rw[e]at h;simp only at h;cases e2:A8 p.1 day n 0 with
    |out=>rw[e2]at h;cases h
    |bad k=>rw[e2]at h;cases h
    | ok y j=>
      rw[e2]at h;simp only[Bool.and_eq_true]at h;have:=Qx h.2;subst this;exact Q6 (fun i=>Gn (fun c hc=>(G8 x p.1 p.2 e c hc).c hd) O4 i) n 0 x j e2
 ·intro h;obtain⟨t,s,e,hp,hr⟩:=Ro (x:=x) hd.toES (by rw[Dk];exact h);unfold DN;rw[e];simp only;rw[hr n (hn t s e)];simp[Gd]
end
open Go.Lib
theorem IA(s:Bs)(b:UInt8):Aq (s++[b])=10*Aq s+((b.toNat:Int)-48):=by
 unfold Aq;rw[List.foldl_append];rfl
theorem Fm{k:Nat}(h:k<10):(UInt8.ofNat (48+k)).toNat=48+k:=by
 rw[UInt8.toNat_ofNat'];omega
theorem Jg(u:Nat):Aq (decDigits u)=u:=by
 induction u using Nat.strongRecOn with
 | ind u ih=>
   rw[decDigits];split
   ·rename_i h;show Aq ([]++[UInt8.ofNat (48+u)])=u;rw[IA,Fm h];show 10*(0:Int)+_=_;omega
   ·rename_i h;rw[IA,ih (u/10) (by omega),Fm (by omega)];omega
theorem IY(u:Nat):(decDigits u).all AF=true:=by
 induction u using Nat.strongRecOn with
 | ind u ih=>
   rw[decDigits];split
   ·rename_i h;simp only[List.all_cons,List.all_nil,Bool.and_true,AF,Fm h,Bool.and_eq_true,decide_eq_true_eq];omega
   ·rename_i h;rw[List.all_append,ih (u/10) (by omega)];simp only[List.all_cons,List.all_nil,Bool.and_true,Bool.true_and,AF,Fm (show u%10<10 by omega),Bool.and_eq_true,decide_eq_true_eq];omega
theorem FZ{u:Nat}:∀k,1≤k→u<10 ^ k→nDigits u≤k:=by
 induction u using Nat.strongRecOn with
 | ind u ih=>
   intro k h1 h2;by_cases h:u<10
   ·rw[nDigits_small h];omega
   ·rw[nDigits_big h];obtain⟨k,rfl⟩:∃q,k=q+1:=⟨k-1,by omega⟩;have hk:1≤k:=by
     rcases Nat.eq_zero_or_pos k with rfl|hp
     ·simp at h2;omega
     ·exact hp
    have:=ih (u/10) (by omega) k hk (by rw[Nat.pow_succ]at h2;omega);omega
theorem Mw(u:Nat):u<10 ^ nDigits u:=by
 induction u using Nat.strongRecOn with
 | ind u ih=>
   by_cases h:u<10
   ·rw[nDigits_small h];omega
   ·rw[nDigits_big h,Nat.pow_succ];have:=ih (u/10) (by omega);omega
theorem Gs(n:Int)(h:0≤n):itoa n=decDigits n.toNat:=by
 unfold itoa;rw[if_neg (by omega)]
def B2(n:Int):Nat→Nat
 | 0=>1
 |k+1=>if Ak ((k:Int)+2)<n then k+2 else B2 n k
def Co(y n:Int):Nat→Nat
 | 0=>1
 |k+1=>if Ak y+Ap y (k+1)<n then k+2 else Co y n k
theorem Ql(n:Int)(h1:1≤n):∀k:Nat,k≤9998→n≤Ak ((k:Int)+2)→1≤B2 n k∧B2 n k≤k+1∧Ak (B2 n k)<n∧n≤Ak ((B2 n k:Int)+1):=by
 intro k;induction k with
 | zero=>
   intro _ h2;refine⟨Nat.le_refl _,Nat.le_refl _,?_,?_⟩
   ·show Ak 1<n;have:Ak 1=0:=by decide
    omega
   ·exact h2
 | succ k ih=>
   intro hk h2;unfold B2;split
   ·rename_i h;refine⟨by omega,by omega,?_,?_⟩
    ·have e:((k+2:Nat):Int)=(k:Int)+2:=by omega
     rw[e];exact h
    ·have e:((k+2:Nat):Int)+1=((k+1:Nat):Int)+2:=by omega
     rw[e];exact h2
   ·rename_i h;obtain⟨a,b,c,d⟩:=ih (by omega) (by omega);exact⟨a,by omega,c,d⟩
theorem Rx(y n:Int)(h1:Ak y<n):∀k:Nat,k≤11→n≤Ak y+Ap y (k+1)→1≤Co y n k∧Co y n k≤k+1∧Ak y+Ap y (Co y n k-1)<n∧n≤Ak y+Ap y (Co y n k):=by
 intro k;induction k with
 | zero=>
   intro _ h2;exact⟨Nat.le_refl _,Nat.le_refl _,by show Ak y+0<n;omega,h2⟩
 | succ k ih=>
   intro hk h2;unfold Co;split
   ·rename_i h;exact⟨by omega,by omega,h,h2⟩
   ·rename_i h;obtain⟨a,b,c,d⟩:=ih (by omega) (by omega);exact⟨a,by omega,c,d⟩
theorem Qm(y:Int)(h0:1≤y):Ap y 12=if Cm y then 366 else 365:=by
 simp only[Ap,AW];cases Cm y<;>rfl
theorem Gf(y:Int)(h0:1≤y):Ak (y+1)=Ak y+Ap y 12:=by
 rw[Qm y h0];unfold Ak Cm;rw[show y+1-1=y by omega];have e1:∀b:Int,0<b→y.tdiv b=y/b:=fun b hb=>Int.tdiv_eq_ediv_of_nonneg (by omega);have e2:∀b:Int,0<b→(y-1).tdiv b=(y-1)/b:=fun b hb=>Int.tdiv_eq_ediv_of_nonneg (by omega);have e3:∀b:Int,0<b→y.tmod b=y%b:=fun b hb=>Int.tmod_eq_emod_of_nonneg (by omega);rw[e1 4 (by omega),e1 100 (by omega),e1 400 (by omega),e2 4 (by omega),e2 100 (by omega),e2 400 (by omega),e3 4 (by omega),e3 100 (by omega),e3 400 (by omega)];simp only[Bool.and_eq_true,Bool.or_eq_true,beq_iff_eq,bne_iff_ne,ne_eq];split<;>omega
def AN(k:Nat)(u:Nat):Bs:=List.replicate (k-(decDigits u).length) 48++decDigits u
theorem Gt(k u:Nat):Aq (AN k u)=u:=by
 unfold AN;have h:∀(m:Nat)(s:Bs),Aq (List.replicate m 48++s)=Aq s:=by
  intro m s;induction m with
  |zero=>rfl
  | succ m ih=>
    rw[List.replicate_succ];exact ih
 rw[h,Jg]
theorem CS{k u:Nat}(hk:1≤k)(h:u<10 ^ k):(AN k u).length=k:=by
 unfold AN;rw[List.length_append,List.length_replicate,decDigits_length];have:=FZ k hk h;omega
theorem Gv(k u:Nat):(AN k u).all AF=true:=by
 unfold AN;rw[List.all_append,IY,Bool.and_true,List.all_eq_true];intro b hb;rw[List.eq_of_mem_replicate hb];decide
def AX(n:Int):Nat×Nat×Nat:=
 let y:=B2 n 9998
 let m:=Co y n 11
 (y,m,(n-Ak y-Ap y (m-1)).toNat)
theorem Gl{n:Int}(h0:0<n)(h1:n≤3652059):1≤(AX n).1∧(AX n).1≤9999∧1≤(AX n).2.1∧(AX n).2.1≤12∧1≤(AX n).2.2∧((AX n).2.2:Int)≤AW (AX n).1 (AX n).2.1∧
 Ak (AX n).1+Ap (AX n).1 ((AX n).2.1-1)+(AX n).2.2=n:=by
 have hY:n≤Ak (((9998:Nat):Int)+2):=by
  have:Ak (((9998:Nat):Int)+2)=3652059:=by decide
  omega
 obtain⟨a,b,c,d⟩:=Ql n (by omega) 9998 (Nat.le_refl _) hY;rw[Gf _ (by omega)]at d;obtain⟨a2,b2,c2,d2⟩:=Rx (B2 n 9998) n c 11 (Nat.le_refl _) d;have e:Ap (B2 n 9998) (Co (B2 n 9998) n 11)=Ap (B2 n 9998) (Co (B2 n 9998) n 11-1)+AW (B2 n 9998) (Co (B2 n 9998) n 11):=by
  obtain⟨m,hm⟩:∃q,Co (B2 n 9998) n 11=q+1:=⟨Co (B2 n 9998) n 11-1,by omega⟩;rw[hm];show Ap _ m+AW _ ((m:Int)+1)=_;rw[show m+1-1=m by omega];congr 2
 have hs:AX n=(B2 n 9998,Co (B2 n 9998) n 11,(n-Ak (B2 n 9998)-Ap (B2 n 9998) (Co (B2 n 9998) n 11-1)).toNat):=rfl;rw[hs];simp only;refine⟨a,b,a2,b2,by omega,?_,by omega⟩;omega
def Cp(n:Int):Bs:=AN 4 (AX n).1++AN 2 (AX n).2.1++AN 2 (AX n).2.2
theorem Je(y m:Int):AW y m≤31:=by
 unfold AW;split
 ·omega
 ·have h : ∀ k : Nat, ([31, 28, 31, 30, 31, 30, 31, 31, 30, 31, 30, 31] : List Int).getD k 0 ≤ 31 := by
   intro k;match k with
   | 0| 1| 2| 3| 4| 5| 6| 7| 8| 9| 10| 11=>decide
   |k+12=>simp
  exact h _
theorem Oa{n:Int}(h0:0<n)(h1:n≤3652059):AJ (Cp n)=n:=by
 obtain⟨a,b,c,d,e,f,g⟩:=Gl h0 h1;have hm:=Je (AX n).1 (AX n).2.1;unfold Cp;generalize(AX n).1=y at*;generalize(AX n).2.1=m at*;generalize(AX n).2.2=q at*;have l1:=CS (k:=4) (u:=y) (by omega) (by omega);have l2:=CS (k:=2) (u:=m) (by omega) (by omega);have l3:=CS (k:=2) (u:=q) (by omega) (by omega);have e1:(AN 4 y++AN 2 m++AN 2 q).take 4=AN 4 y:=by
  rw[List.append_assoc,List.take_append_of_le_length (by omega),List.take_of_length_le (by omega)]
 have e2:((AN 4 y++AN 2 m++AN 2 q).drop 4).take 2=AN 2 m:=by
  rw[List.append_assoc,List.drop_left' l1,List.take_append_of_le_length (by omega),List.take_of_length_le (by omega)]
 have e3:(AN 4 y++AN 2 m++AN 2 q).drop 6=AN 2 q:=List.drop_left' (by rw[List.length_append];omega);have hd:(AN 4 y++AN 2 m++AN 2 q).all AF=true:=by rw[List.all_append,List.all_append,Gv,Gv,Gv];rfl
 have hl:(AN 4 y++AN 2 m++AN 2 q).length=8:=by rw[List.length_append,List.length_append];omega
 unfold AJ Bj;rw[if_neg (by intro h;rw[h]at hd;exact absurd hd (by decide)),if_neg (by rw[hl,hd];simp),e1,e2,e3,Gt,Gt,Gt];unfold AH;rw[if_neg (by simp[Ca];omega)];show Ak (y:Int)+(q:Int)+Ap (y:Int) ((m:Int)-1).toNat=n;rw[show((m:Int)-1).toNat=m-1 by omega];omega
def wdM:Wd:=⟨itoa,Cp⟩
theorem JK:GN wdM AJ where
 nums n h0 h1:=by
  obtain⟨u,rfl⟩:∃u:Nat,n=u:=⟨n.toNat,by omega⟩;show(itoa (u:Int)).length≤15∧Aq (itoa (u:Int))=u;rw[Gs _ h0,show(u:Int).toNat=u from rfl,decDigits_length,Jg];exact⟨FZ 15 (by omega) (by omega),rfl⟩
 days n h0 h1:=Oa h0 h1;zero:=by decide
 fit n h0 hl:=by
  obtain⟨u,rfl⟩:∃u:Nat,n=u:=⟨n.toNat,by omega⟩;have hl':(itoa (u:Int)).length≤15:=hl;rw[Gs _ h0,show(u:Int).toNat=u from rfl,decDigits_length]at hl';have h1:=Mw u;have h2:(10:Nat) ^ nDigits u≤10 ^ 15:=Nat.pow_le_pow_right (by omega) hl';omega
end Go.Proofs.YtgjdhajcnechdaaGreatDoor
