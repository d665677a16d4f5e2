/-
  Plain laws: operators, indexes, lists, blocks and macros are read from what is written; every expression that is right is. run, Line.
-/
import Derived.Test.YtgjdhajcnechdaaGreatDoorSv10
import Derived.Test.YtgjdhajcnechdaaGreatDoorSv17
set_option linter.all false
set_option maxRecDepth 100000
set_option maxHeartbeats 8000000
namespace Go.Proofs.YtgjdhajcnechdaaGreatDoor
open Go.Proofs.Tryz
section
variable {day:Bs→Int}{d:Wd}
theorem GQ{x:Ex}{t:List Tok}(h:ReadsU day x t)(hf:Fst noO t){l:List Tok}{n i a:Nat}(ha6:a≤6)(hn:t.length+1≤n)(ha:At l i t)(hs:StopP (Ab l (i+t.length)))
 (ho:∀k,a≤k→k<6→Av l k (i+t.length)=[]):lvR l (Bi l (A8 l day n) (AZ l day (A8 l day n) n) n) n a i= .ok x (i+t.length):=
 F0 ha6 (Nat.le_refl _) (by omega) (h.ok hn (by omega) ha hs) ho ⟨hf.sign ha (by decide),hf.sign ha (by decide)⟩
theorem Ml{h:Hd}{k:Fo}{w:OW}(g:Good day h k w):Good day (hd0 4 [45]) (.cons h k .nil) (catL [sgn [45],some ([],[]),Bk (h,w)]):=by
 obtain⟨t,s,e,hf,hu⟩:=g.opd;have e3:catL [sgn [45],some ([],[]),Bk (h,w)]=some (sg [45]::t,[45]++s):=by rw[e];simp[catL,Ax,sgn]
 rw[e3];refine⟨_,_,rfl,⟨_,_,rfl,by simp[sg]⟩,?_,fun q=>absurd rfl q.1⟩;intro l n i hn ha hs;simp only[List.length_cons]at hn hs ⊢;obtain⟨n,rfl⟩:∃q,n=q+2:=⟨n-2,by omega⟩;have hs':StopE (Ab l (i+1+t.length)):=by rwa[show i+1+t.length=i+(t.length+1)by omega]
 have h6:lvR l (Bi l (A8 l day (n+1)) (AZ l day (A8 l day (n+1)) (n+1)) (n+1)) (n+1) 6 i= .ok ⟨hd0 4 [45],.cons h k .nil⟩ (i+(t.length+1)):=by
  show Bi l _ _ (n+1) i=_;unfold Bi;rw[ha.head,Bh,if_pos (by decide),hu.ok (by omega) (by omega) ha.tail hs'.p,Res.bind_ok];show Res.ok _ _=_;congr 1;omega
 rw[Fq];exact F0 (a:=0) (b:=6) (by omega) (by omega) (by omega) h6 (fun k _ hk=>CX hk hs) ⟨by rw[ha.head];decide,by rw[ha.head];decide⟩
theorem Qd{h:Hd}{k:Fo}{w:OW}(g:Good day h k w):Good day (hd0 4 [46,78,79,84,46]) (.cons h k .nil) (catL [sgn [46,78,79,84,46],Bc,Bk (h,w)]):=by
 obtain⟨t,s,e,hf,hu⟩:=g.opd;have e3:catL [sgn [46,78,79,84,46],Bc,Bk (h,w)]=some (sg [46,78,79,84,46]::t,[46,78,79,84,46]++([32]++s)):=by rw[e];simp[catL,Ax,sgn,Bc]
 rw[e3];refine⟨_,_,rfl,⟨_,_,rfl,by simp[sg]⟩,?_,fun q=>absurd rfl q.1⟩;intro l n i hn ha hs;simp only[List.length_cons]at hn hs ⊢;obtain⟨n,rfl⟩:∃q,n=q+2:=⟨n-2,by omega⟩;have hs':StopE (Ab l (i+1+t.length)):=by rwa[show i+1+t.length=i+(t.length+1)by omega]
 have hn0:0<n:=by have:=hf.pos;omega
 have h3:=GQ hu hf (n:=n+1) (a:=3) (by omega) (by omega) ha.tail hs'.p (fun k _ hk=>CX hk hs');have h2:lvR l (Bi l (A8 l day (n+1)) (AZ l day (A8 l day (n+1)) (n+1)) (n+1)) (n+1) 2 i= .ok ⟨hd0 4 [46,78,79,84,46],.cons h k .nil⟩ (i+(t.length+1)):=by
  show Bd l (C4 l (n+1) (AV l _ (n+1))) (n+1) i=_;unfold Bd;rw[ha.head];simp only[Bh];rw[if_pos (by decide)];obtain⟨m,rfl⟩:∃q,n=q+1:=⟨n-1,by omega⟩;unfold Bd;rw[hf.sign ha.tail (by decide),hf.sign ha.tail (by decide)];simp only[Bool.or_self,Bool.false_eq_true,if_false];have h3':C4 l (m+1+1) (AV l (Bi l (A8 l day (m+1+1)) (AZ l day (A8 l day (m+1+1)) (m+1+1)) (m+1+1)) (m+1+1)) (i+1)= .ok ⟨h,k⟩ (i+1+t.length):=h3;rw[h3',Res.bind_ok,CX (by omega) hs'];simp only[List.isEmpty_nil,if_true,Res.bind_ok];show Res.ok _ _=_;congr 1;omega
 rw[Fq];exact GV (by omega) (by omega) (GV (by omega) (by omega) h2 (CX (by omega) hs) (fun q=>absurd q (by decide))) (CX (by omega) hs) (fun q=>absurd q (by decide))
theorem Qc{s:Bs}{h h':Hd}{k k':Fo}{w w':OW}(hs:s∈opsL)(g:Good day h k w)(g':Good day h' k' w'):
 Good day (hd0 5 s) (.cons h k (.cons h' k' .nil)) (catL [Bk (h,w),Bc,sgn s,Bc,Bk (h',w')]):=by
 obtain⟨t1,s1,e1,hf1,hu1⟩:=g.opd;obtain⟨t2,s2,e2,hf2,hu2⟩:=g'.opd;have e3:catL [Bk (h,w),Bc,sgn s,Bc,Bk (h',w')]=some (t1++(sg s::t2),s1++([32]++(s++([32]++s2)))):=by rw[e1,e2];simp[catL,Ax,sgn,Bc]
 rw[e3];refine⟨_,_,rfl,hf1.weak.app _,?_,fun q=>absurd rfl q.2⟩;intro l n i hn ha hst;simp only[List.length_cons,List.length_append]at hn hst ⊢;obtain⟨n,rfl⟩:∃q,n=q+1:=⟨n-1,by omega⟩;have hop:Ab l (i+t1.length)=sg s:=ha.right.head;obtain⟨hlv,hval,hne,hoth,hgo⟩:=R7 s hs;have ha2:At l (i+t1.length+1) t2:=ha.right.tail;have hst':StopE (Ab l (i+t1.length+1+t2.length)):=by rwa[show i+t1.length+1+t2.length=i+(t1.length+(t2.length+1))by omega]
 have hp1:=hf1.pos;have hp2:=hf2.pos;rw[Fq];have r1:=GQ hu1 hf1 (n:=n) (a:=Ev s+1) (by omega) (by omega) ha.left (by rw[hop];exact fun _=>hgo) (fun q h1 h2=>by rw[Jw hop];exact hoth q h2 (by omega));have r2:=GQ hu2 hf2 (n:=n) (a:=Ev s+1) (by omega) (by omega) ha2 hst'.p (fun q _ hk=>CX hk hst');have hfs:Ae (Ab l i) [46,78,79,84,46]=false∧Ae (Ab l i) [33]=false:=⟨hf1.sign ha.left (by decide),hf1.sign ha.left (by decide)⟩;have r3:=RR hlv (by omega) r1 (by rw[Jw hop];exact hval) hne r2 (CX hlv hst') hfs;have r4:=F0 (a:=0) (b:=Ev s) (by omega) (by omega) (by omega) r3 (fun q _ hk=>CX (by omega) hst') hfs;rw[r4];show Res.ok _ _=_;congr 1;omega
theorem Mk{h h':Hd}{k k':Fo}{w w':OW}(g:Good day h k w)(g':Good day h' k' w'):
 Good day (hd0 6 []) (.cons h k (.cons h' k' .nil)) (catL [Bk (h,w),sgn [91],w',sgn [93]]):=by
 obtain⟨t1,s1,e1,hf1,hu1⟩:=g.opd;obtain⟨t2,s2,rfl,hf2,hr2,_⟩:=g'.ex;have e3:catL [Bk (h,w),sgn [91],some (t2,s2),sgn [93]]=some (t1++(sg [91]::(t2++[sg [93]])),s1++([91]++(s2++[93]))):=by rw[e1];simp[catL,Ax,sgn]
 rw[e3];have hU:ReadsU day ⟨hd0 6 [],.cons h k (.cons h' k' .nil)⟩ (t1++(sg [91]::(t2++[sg [93]]))):=by
  intro l N n i hN hn ha hst;simp only[List.length_cons,List.length_append,List.length_nil]at hN hn hst ⊢;have hp1:=hf1.pos;have hop:Ab l (i+t1.length)=sg [91]:=ha.right.head;have hc:Ab l (i+t1.length+1+t2.length)=sg [93]:=ha.right.tail.right.head;obtain⟨m,hm,e⟩:=hu1 l N n i (by omega) (by omega) ha.left (by rw[hop];exact QC (by decide));obtain⟨m,rfl⟩:∃q,m=q+1:=⟨m-1,by omega⟩;refine⟨m,by omega,?_⟩;rw[e];conv=>lhs;unfold B4
  rw[hop,Bh,if_pos (by decide),hr2 l N (i+t1.length+1) (by omega) ha.right.tail.left (by rw[hc];exact CD (by decide)),Res.bind_ok,Cv hc,Res.bind_ok];show B4 l _ m ⟨hd0 6 [],.cons h k (.cons h' k' .nil)⟩ _=_;congr 1;omega
 exact⟨_,_,rfl,hf1.weak.app _,hU.e (hf1.app _),fun _=>⟨hf1.app _,hU⟩⟩
theorem N0{k:Fo}(hn:1≤k.len)(hk:DO day d k):Good day (hd0 7 []) k (catL [sgn [123],Be ((A5 d k).map (·.2)),sgn [125]]):=by
 cases k with
 |nil=>simp[Fo.len]at hn
 | cons h' k' n'=>
   obtain⟨t,s',e,hf,hr⟩:=Ie d hk;have e3:catL [sgn [123],Be ((A5 d (.cons h' k' n')).map (·.2)),sgn [125]]=some (sg [123]::(t++[sg [125]]),[123]++(s'++[125])):=by
    rw[e];simp[catL,Ax,sgn]
   rw[e3];refine Good.prim ⟨_,_,rfl,by simp[sg]⟩ ?_;intro l N i hN ha _;simp only[List.length_cons,List.length_append,List.length_nil]at hN ⊢;have hc:Ab l (i+1+t.length)=sg [125]:=ha.tail.right.head;rw[Dq ha.head];unfold Bv;rw[ha.head];simp only[Bh];rw[if_neg (by decide),if_neg (by decide),if_neg (by decide),if_neg (by decide),if_neg (by decide),if_neg (by decide),if_pos (by decide)];unfold Cc;rw[if_neg (by rw[hf.sign ha.tail.left (by decide)];simp)];rw[hr l N N (i+1) (by omega) (by omega) ha.tail.left (by rw[hc];exact⟨CD (by decide),by decide⟩),Res.bind_ok,Cv hc,Res.bind_ok];show Res.ok _ _=_;congr 1;omega
theorem Mi{p:List Bs}{h:Hd}{k:Fo}{w:OW}(hp:p.all Al=true)(g:Good day h k w):
 Good day ⟨8,[],0,0,[],p⟩ (.cons h k .nil) (catL [sgn [123],sgn [124],Be (p.map nmW),sgn [124],Bc,w,sgn [125]]):=by
 obtain⟨t,s,rfl,hf,hr,_⟩:=g.ex;cases p with
 | nil=>
   have e3:catL [sgn [123],sgn [124],Be (([]:List Bs).map nmW),sgn [124],Bc,some (t,s),sgn [125]]=some (sg [123]::sg [124]::sg [124]::(t++[sg [125]]),[123]++([124]++([124]++([32]++(s++[125]))))):=by simp[catL,Ax,sgn,Bc,Be]
   rw[e3];refine Good.prim ⟨_,_,rfl,by simp[sg]⟩ ?_;intro l N i hN ha _;simp only[List.length_cons,List.length_append,List.length_nil]at hN ⊢;have hc:Ab l (i+1+1+1+t.length)=sg [125]:=ha.tail.tail.tail.right.head;rw[Dq ha.head];unfold Bv;rw[ha.head];simp only[Bh];rw[if_neg (by decide),if_neg (by decide),if_neg (by decide),if_neg (by decide),if_neg (by decide),if_neg (by decide),if_pos (by decide)];unfold Cc;rw[ha.tail.head,Bh,if_pos (by decide),ha.tail.tail.head,Bh,if_pos (by decide),Res.bind_ok];rw[show i+1+2=i+1+1+1 from rfl,hr l N (i+1+1+1) (by omega) ha.tail.tail.tail.left (by rw[hc];exact CD (by decide)),Res.bind_ok,Cv hc,Res.bind_ok];show Res.ok _ _=_;congr 1;omega
 | cons a p=>
   obtain⟨q,s2,e2,hq⟩:=LR hp;have e3:catL [sgn [123],sgn [124],Be ((a::p).map nmW),sgn [124],Bc,some (t,s),sgn [125]]=some (sg [123]::sg [124]::(wd a::q++(sg [124]::(t++[sg [125]]))),[123]++([124]++(s2++([124]++([32]++(s++[125])))))):=by
    rw[e2];simp[catL,Ax,sgn,Bc]
   rw[e3];refine Good.prim ⟨_,_,rfl,by simp[sg]⟩ ?_;intro l N i hN ha _;simp only[List.length_cons,List.length_append,List.length_nil]at hN ⊢;have ha3:=ha.tail.tail;have hb:Ab l (i+1+1+(wd a::q).length)=sg [124]:=ha3.right.head;have hc:Ab l (i+1+1+(wd a::q).length+1+t.length)=sg [125]:=ha3.right.tail.right.head;rw[Dq ha.head];unfold Bv;rw[ha.head];simp only[Bh];rw[if_neg (by decide),if_neg (by decide),if_neg (by decide),if_neg (by decide),if_neg (by decide),if_neg (by decide),if_pos (by decide)];unfold Cc;rw[ha.tail.head,Bh,if_pos (by decide),ha3.left.head,GD,if_neg (by simp)];rw[hq l N (i+1+1) (by omega) ha3.left (by rw[hb];decide),Res.bind_ok,Cv hb,Res.bind_ok,Res.bind_ok];rw[hr l N _ (by omega) ha3.right.tail.left (by rw[hc];exact CD (by decide)),Res.bind_ok,Cv hc,Res.bind_ok];show Res.ok _ _=_;congr 1;simp only[List.length_cons];omega
theorem Ld{s:Bs}(hs:Al s=true):Good day (hd0 9 s) .nil (catL [sgn [38],nmW s,sgn [46]]):=by
 have e3:catL [sgn [38],nmW s,sgn [46]]=some ([sg [38],wd s,sg [46]],[38]++(s++[46])):=by simp[catL,Ax,sgn,nmW,hs]
 rw[e3];refine Good.prim ⟨_,_,rfl,by simp[sg]⟩ ?_;intro l N i _ ha _;rw[Dq ha.head];unfold Bv;rw[ha.head];simp only[Bh];rw[if_pos (by decide)];unfold Cb;rw[Cv ha.head,Res.bind_ok,ha.tail.head,GD,if_neg (by simp),CB ha.tail.head hs,Res.bind_ok,ha.tail.tail.head,Bh,if_pos (by decide)];rfl
theorem Lc{h:Hd}{k:Fo}{w:OW}(g:Good day h k w):Good day (hd0 9 []) (.cons h k .nil) (catL [sgn [38],Cd w]):=by
 obtain⟨t,s,rfl,hf,hr,_⟩:=g.ex;have e3:catL [sgn [38],Cd (some (t,s))]=some (sg [38]::sg [40]::(t++[sg [41]]),[38]++([40]++(s++[41]))):=by simp[catL,Ax,sgn,Cd]
 rw[e3];refine Good.prim ⟨_,_,rfl,by simp[sg]⟩ ?_;intro l N i hN ha _;simp only[List.length_cons,List.length_append,List.length_nil]at hN ⊢;have hc:Ab l (i+1+1+t.length)=sg [41]:=ha.tail.tail.right.head;rw[Dq ha.head];unfold Bv;rw[ha.head];simp only[Bh];rw[if_pos (by decide)];unfold Cb;rw[Cv ha.head,Res.bind_ok,ha.tail.head,Bh,if_pos (by decide)];rw[hr l N (i+1+1) (by omega) ha.tail.tail.left (by rw[hc];exact CD (by decide)),Res.bind_ok,Cv hc,Res.bind_ok];show Res.ok _ _=_;congr 1;omega
theorem N2(hd:ES d day){h:Hd}{k:Fo}(ho:AR h k.len=true)(hk:okF k=true)(g:DO day d k):Good day h k (AM d h (A5 d k)):=by
 obtain⟨p1,p2,p3⟩:=Gb ho;unfold As at p3;unfold AM;by_cases e0:h.op=0
 ·rw[if_pos e0]at p3 ⊢;simp only[Bool.and_eq_true,beq_iff_eq,List.isEmpty_iff]at p3;rw[Ei p3.1.2];exact Mj hd e0 p3.1.1 (p2 (by omega)) p3.2
 rw[if_neg e0]at p3 ⊢;by_cases e1:h.op=1
 ·rw[if_pos (.inl e1)]at p3;rw[if_pos e1];simp only[Bool.and_eq_true,beq_iff_eq]at p3;rw[Ei p3.2];have e:=CM e1 (p1 (by omega)) (p2 (by omega));have:=N1 (day:=day) p3.1;rwa[←e]at this
 rw[if_neg e1];by_cases e10:h.op=10
 ·rw[if_pos (.inr e10)]at p3;rw[if_neg (by omega),if_neg (by omega),if_neg (by omega),if_neg (by omega),if_neg (by omega),if_neg (by omega),if_neg (by omega),if_neg (by omega),if_pos e10];simp only[Bool.and_eq_true,beq_iff_eq]at p3;rw[Ei p3.2];have e:=CM e10 (p1 (by omega)) (p2 (by omega));have:=Qe (day:=day) p3.1;rwa[←e]at this
 rw[if_neg (by omega)]at p3;by_cases e2:h.op=2
 ·rw[if_pos e2]at p3 ⊢;simp only[Bool.and_eq_true,beq_iff_eq]at p3;obtain⟨a,b,rfl⟩:=EF p3.2;have e:=CM e2 (p1 (by omega)) (p2 (by omega));simp only[okF,Bool.and_eq_true]at hk;have:=Mh p3.1 g.1 hk.1.1;rwa[←e]at this
 rw[if_neg e2]at p3 ⊢;by_cases e3:h.op=3
 ·rw[if_pos e3]at p3 ⊢;have e:=CM e3 (p1 (by omega)) (p2 (by omega));have:=Om p3 g;rwa[←e]at this
 rw[if_neg e3]at p3 ⊢;by_cases e4:h.op=4
 ·rw[if_pos e4]at p3 ⊢;simp only[Bool.and_eq_true,Bool.or_eq_true,beq_iff_eq]at p3;obtain⟨a,b,rfl⟩:=EF p3.2;have e:=CM e4 (p1 (by omega)) (p2 (by omega));show Good day h _ (catL [sgn h.s,if h.s=[46,78,79,84,46]then Bc else some ([],[]),Bk (a,AM d a (A5 d b))]);rcases p3.1 with hs|hs
  ·rw[hs,if_neg (by decide),e,hs];exact Ml g.1
  ·rw[hs,if_pos rfl,e,hs];exact Qd g.1
 rw[if_neg e4]at p3 ⊢;by_cases e5:h.op=5
 ·rw[if_pos e5]at p3 ⊢;simp only[Bool.and_eq_true,beq_iff_eq,List.contains_iff_mem]at p3;obtain⟨a,b,a',b',rfl⟩:=Jt p3.2;have e:=CM e5 (p1 (by omega)) (p2 (by omega));have:=Qc p3.1 g.1 g.2.1;rwa[←e]at this
 rw[if_neg e5]at p3 ⊢;by_cases e6:h.op=6
 ·rw[if_pos e6]at p3 ⊢;simp only[Bool.and_eq_true,beq_iff_eq,List.isEmpty_iff]at p3;obtain⟨a,b,a',b',rfl⟩:=Jt p3.2;have e:=CM e6 (p1 (by omega)) (p2 (by omega));rw[p3.1]at e;have:=Mk g.1 g.2.1;rwa[←e]at this
 rw[if_neg e6]at p3 ⊢;by_cases e7:h.op=7
 ·rw[if_pos e7]at p3 ⊢;simp only[Bool.and_eq_true,decide_eq_true_eq,List.isEmpty_iff]at p3;have e:=CM e7 (p1 (by omega)) (p2 (by omega));rw[p3.1]at e;have:=N0 p3.2 g;rwa[←e]at this
 rw[if_neg e7]at p3 ⊢;by_cases e8:h.op=8
 ·rw[if_pos e8]at p3 ⊢;simp only[Bool.and_eq_true,beq_iff_eq,List.isEmpty_iff]at p3;obtain⟨a,b,rfl⟩:=EF p3.1.2;have e:h=⟨8,[],0,0,[],h.p⟩:=by
   obtain⟨h3,h4,h5⟩:=p1 (by omega);have:=p3.1.1;cases h;simp_all
  have:=Mi p3.2 g.1;rwa[←e]at this
 rw[if_neg e8]at p3 ⊢;by_cases e9:h.op=9
 ·rw[if_pos e9]at p3 ⊢;simp only[Bool.and_eq_true,Bool.or_eq_true,beq_iff_eq,List.isEmpty_iff]at p3;have e:=CM e9 (p1 (by omega)) (p2 (by omega));rcases p3 with⟨hs,hn⟩| ⟨hs,hn⟩
  ·rw[Ei hn];have:=Ld (day:=day) hs;rwa[←e]at this
  ·obtain⟨a,b,rfl⟩:=EF hn;rw[hs]at e;have:=Lc g.1;rwa[←e]at this
 rw[if_neg e9]at p3;cases p3
theorem Qb(hd:ES d day):∀f:Fo,okF f=true→DO day d f:=by
 intro f;induction f with
 |nil=>intro _;exact trivial
 | cons h k n ihk ihn=>
   intro ho;simp only[okF,Bool.and_eq_true]at ho;exact⟨N2 hd ho.1.1 ho.1.2 (ihk ho.1.2),ihn ho.2⟩
theorem Ro(hd:ES d day){x:Ex}(ho:okF (.one x)=true):∃t s,exW d x=some (t,s)∧0<t.length∧∀n,t.length+1<n→A8 t day n 0= .ok x t.length:=by
 obtain⟨t,s,e,hf,hr,_⟩:=(Qb hd _ ho).1.ex;refine⟨t,s,e,hf.pos,fun n hn=>?_⟩;have h5:Ab t (0+t.length)=⟨-1,0,[]⟩:=by
  unfold Ab;rw[Nat.zero_add,List.getElem?_eq_none (Nat.le_refl _)];rfl
 have:=hr t n 0 hn (At.all t) (by intro h4;rw[h5]at h4;exact absurd h4 (by decide));rwa[Nat.zero_add]at this
end
open Go.RowKit
structure Grown2(w w':World)(b k:Nat):Prop where
 os:w'.os=w.os
 tape:w'.tape=w.tape
 output:w'.output=w.output
 size:w.heap.size≤w'.heap.size
 block:∀i,i<w.heap.size→i≠b→i≠k→w'.heap[i]? =w.heap[i]?
section
variable {w w1 w2:World}{b k:Nat}{r:Option Nat}
theorem Grown2.of(g:w.grownBy w1 r)(hr:r=none∨r=some b∨r=some k):Grown2 w w1 b k:=
 ⟨g.os,g.tape,g.output,g.size,fun i hi hb hk=>g.block i hi (by rcases hr with rfl|rfl|rfl<;>simp<;>assumption)⟩
theorem Grown2.trans(h:Grown2 w w1 b k)(g:Grown2 w1 w2 b k):Grown2 w w2 b k:=
 ⟨g.os.trans h.os,g.tape.trans h.tape,g.output.trans h.output,Nat.le_trans h.size g.size,fun i hi hb hk=>(g.block i (Nat.lt_of_lt_of_le hi h.size) hb hk).trans (h.block i hi hb hk)⟩
theorem Grown2.gb(g0:w.grownBy w1 none)(h:Grown2 w1 w2 b k)(hb:w.heap.size≤b):w.grownBy w2 (some k):=
 ⟨h.os.trans g0.os,h.tape.trans g0.tape,h.output.trans g0.output,Nat.le_trans g0.size h.size,fun i hi hk=>(h.block i (Nat.lt_of_lt_of_le hi g0.size) (by omega) (by simpa using hk)).trans (g0.block i hi (by simp))⟩
theorem Grown2.blk{cs:List Value}{t:TypeId}{i:Nat}(h:Grown2 w w1 b k)(hB:Blk w i cs t)(h1:i≠b)(h2:i≠k):Blk w1 i cs t:=(h.block i hB.lt h1 h2).trans hB
end
def BU{α:Type}(l:List Tok):Res α→Int
 | .ok _ j=>if j<l.length then j else -1
 | .bad q=>q
 | .out=>0
def Gg{α:Type}(b k:Nat)(w1:World)(U:World→Prop)(V:Nat→World→α→Prop)(M:Res α)(e:Ending)(w2:World):Prop:=
 Grown2 w1 w2 b k∧U w2∧match M with
  | .ok a j=>e= .returned (.tuple #[])∧V w1.heap.size w2 a∧w2.cell? ⟨b,1,none⟩=some (.int .i64 j)
  | .bad q=>e= .panicked (ER q)
  | .out=>False
def Qs{α:Type}(l:List Tok)(k:Nat)(w:World)(U:World→Prop)(V:Nat→World→α→Prop)(M:Res α)(e:Ending)(w':World):Prop:=
 e= .returned (.int .i64 (BU l M))∧w.grownBy w' (some k)∧U w'∧∀a j,M= .ok a j→∃B,w.heap.size≤B∧V B w' a
theorem J5{w:World}(hg:Glob w){tv:Value}{l:List Tok}(ht:TRow w tv l (fun _=>True))(hlen:l.length≤4001)(gf:Nat)(cap:Array Value)
 (hcf:∀v w,(callFunc gf (#[v]++cap)).run Tryz.prog w= .ok (.enter gf (#[v]++cap)) w) {α:Type} (M:Res α) (k:Nat) (hk:k<w.heap.size) (U:World→Prop) (hU:∀w2 w3 r,U w2→w2.grownBy w3 (some r)→w.heap.size≤r→U w3) (V:Nat→World→α→Prop)
 (hV:∀B w2 w3 a r,V B w2 a→w2.grownBy w3 (some r)→w.heap.size≤r→r<B→V B w3 a)
 (hrule:∀w1 b wv,w.grownBy w1 none→w.heap.size≤b→Par w1 b tv wv l wordsL 0→SRow w1 wv wordsL (fun g=>w.heap.size≤g∧g<b)→Calls Tryz.prog gf (#[.pointer (some ⟨b,0,none⟩)]++cap) w1 (Gg b k w1 U V M)):
 Calls Tryz.prog 65 #[tv,.func (.func gf) #[] cap] w (Qs l k w U V M):=by
 have hmf:∀(fn:Fn)(first cap:Array Value)(w:World),(Instr.makeFunc fn first cap).run Tryz.prog w= .ok (.func fn first cap) w:=fun _ _ _ _=>rfl;obtain⟨ta,tc,rfl,_⟩:=id ht;have g0:w.grownBy (w.alloc (.cells #[.int .i64 0] 3 (0,0))) none:=World.grownBy_alloc w _ none;have hR:=Blk.new w [.int .i64 0] 3;go_enter_defers func65,ntmps65;go_wp2_with fail;refine(OE (hg.gb g0 (by simp))).mono ?_;rintro e wA ⟨wv,rfl,hS,gA⟩;obtain⟨wa,wc,rfl,_⟩:=id hS;have gA0:=Aa g0 gA;have hA:=World.grownBy_alloc wA (.cells #[.slice ta l.length tc,.int .i64 0,.slice wa wordsL.length wc,.slice none 0 0] 152 (0,0)) none;have hPar:Par (wA.alloc (.cells [.slice ta l.length tc,.int .i64 0,.slice wa wordsL.length wc,.slice none 0 0].toArray 152 (0,0))) wA.heap.size (.slice ta l.length tc) (.slice wa wordsL.length wc) l wordsL 0:=by
  refine⟨Blk.new wA _ _,?_,?_,Nat.zero_le _,hlen⟩
  ·obtain⟨a,c,e,h1,h2,h3⟩:=ht;refine⟨a,c,e,h1,h2,fun j hj=>?_⟩;obtain⟨lb,lo,ea,_,c0,c1,c2⟩:=h3 j hj;have hlt:=World.block_lt_of_cell? w _ c0;have:=gA0.size;exact⟨lb,lo,ea,by simp at hlt;omega,Af hA (Af gA0 c0),Af hA (Af gA0 c1),Af hA (Af gA0 c2)⟩
  ·obtain⟨a,c,e,h1,h2,h3⟩:=hS;refine⟨a,c,e,h1,h2,fun j hj=>?_⟩;obtain⟨lb,lo,ea,_,c0⟩:=h3 j hj;have hlt:=World.block_lt_of_cell? wA _ c0;exact⟨lb,lo,ea,hlt,Af hA c0⟩
 have hWd:SRow (wA.alloc (.cells [.slice ta l.length tc,.int .i64 0,.slice wa wordsL.length wc,.slice none 0 0].toArray 152 (0,0))) (.slice wa wordsL.length wc) wordsL (fun g=>w.heap.size≤g∧g<wA.heap.size):=by
  obtain⟨a,c,e,h1,h2,h3⟩:=hS;refine⟨a,c,e,h1,h2,fun j hj=>?_⟩;obtain⟨lb,lo,ea,hge,c0⟩:=h3 j hj;have hlt:=World.block_lt_of_cell? wA _ c0;exact⟨lb,lo,ea,⟨by simp at hge;omega,hlt⟩,Af hA c0⟩
 have gB:=Aa gA0 hA;have hsA:=gA.size;simp at hsA;have hR2:=(hR.gb gA (by simp)).gb hA (by simp);go_wp2_with fail;refine(hrule _ _ _ gB (by omega) hPar hWd).mono ?_;rintro e w2 ⟨g2,hu,h2⟩;have hR3:=g2.blk hR2 (by omega) (by omega);have gC:=Grown2.gb gB g2 (by omega);cases hM:M with
 |out=>rw[hM]at h2;exact h2.elim
 | bad q=>
   rw[hM]at h2;subst h2;refine leaves_cons (f:=105) (args:=#[.pointer (some ⟨w.heap.size,0,none⟩)]) (by simp) (by simp[go_sem]) ?_;refine(Hx (hR3.cell 0) (hR3.frozen 0)).mono ?_;rintro e u' w3 ⟨rfl,rfl,rfl⟩;have hc:=((hR3.set 0 (.int .i64 q)).alloc (.cells #[.int .i64 q] 148 (0,0))).cell 0;refine⟨.int .i64 q,by simp[results,results65,go_sem,hc],rfl,Ad (Ay gC _ _ (.inr (Nat.le_refl _))) _,hU _ _ _ hu (Ad (Ay (Ac _ (some w.heap.size)) _ _ (.inl rfl)) _) (Nat.le_refl _),by simp⟩
 | ok a j=>
   rw[hM]at h2;obtain⟨rfl,hVa,c1⟩:=h2;by_cases hj:j<l.length
   ·go_wp2_with fail;refine(D8 c1).mono ?_;rintro e w3 ⟨rfl,rfl⟩;refine leaves_cons (f:=105) (args:=#[.pointer (some ⟨w.heap.size,0,none⟩)]) (by simp) (by simp[go_sem]) ?_;refine(Hx (hR3.cell 0) (hR3.frozen 0)).mono ?_;rintro e u' w3 ⟨rfl,rfl,rfl⟩;have hc:=((hR3.set 0 (.int .i64 j)).alloc (.cells #[.int .i64 j] 148 (0,0))).cell 0;refine⟨.int .i64 j,by simp[results,results65,go_sem,hc],by simp[BU,hj],Ad (Ay gC _ _ (.inr (Nat.le_refl _))) _,hU _ _ _ hu (Ad (Ay (Ac _ (some w.heap.size)) _ _ (.inl rfl)) _) (Nat.le_refl _),?_⟩;rintro a' j' ⟨⟩;exact⟨_,gB.size,hV _ _ _ _ _ hVa (Ad (Ay (Ac _ (some w.heap.size)) _ _ (.inl rfl)) _) (Nat.le_refl _) (by simp;omega)⟩
   ·have hc0:=hR3.cell 0;have hf0:=hR3.frozen 0;simp only[List.getElem?_cons_zero]at hc0;go_wp2;refine leaves_cons (f:=105) (args:=#[.pointer (some ⟨w.heap.size,0,none⟩)]) (by simp) (by simp[go_sem]) ?_;refine(Ma ⟨w.heap.size,0,none⟩ _).mono ?_;rintro e u' w3 ⟨rfl,rfl,rfl⟩;have hc:=(hR3.set 0 (.int .i64 (-1))).cell 0;refine⟨.int .i64 (-1),by simp[results,results65,go_sem,hc],by simp[BU,hM,hj],Ay gC _ _ (.inr (Nat.le_refl _)),hU _ _ _ hu (Ay (Ac _ (some w.heap.size)) _ _ (.inl rfl)) (Nat.le_refl _),?_⟩;rintro a' j' e';rw[hM]at e';cases e';exact⟨_,gB.size,hV _ _ _ _ _ hVa (Ay (Ac _ (some w.heap.size)) _ _ (.inl rfl)) (Nat.le_refl _) (by simp;omega)⟩
def B9(l:List Tok)(day:Bs→Int)(n:Nat):Res Ex:=(A8 l day n 0).bind fun x i=>(C2 l i).bind fun _ j=> .ok x j
def HoldsE(k B:Nat)(w:World)(x:Ex):Prop:=∃pa pc la lc,Blk w k (hdC x.h (.slice pa x.h.p.length pc) (.slice la x.kids.len lc)) 27∧
 Cells w (.slice pa x.h.p.length pc) 1 x.h.p.length (x.h.p.map str) (AA B)∧RepL (AA B) w (.slice la x.kids.len lc) x.kids
def SomeE(k:Nat)(w:World):Prop:=∃h pa pn pc la ln lc,Blk w k (hdC h (.slice pa pn pc) (.slice la ln lc)) 27
theorem SomeE.gb{k:Nat}{w w1:World}{r:Option Nat}(h:SomeE k w)(g:w.grownBy w1 r)(h1:r≠some k):SomeE k w1:=by
 obtain⟨h,pa,pn,pc,la,ln,lc,hb⟩:=h;exact⟨h,pa,pn,pc,la,ln,lc,hb.gb g (fun e=>h1 e.symm)⟩
theorem HoldsE.gb{k B:Nat}{w w1:World}{x:Ex}{r:Option Nat}(h:HoldsE k B w x)(g:w.grownBy w1 r)(h1:r≠some k)(h2:∀q,r=some q→q<B):HoldsE k B w1 x:=by
 obtain⟨pa,pc,la,lc,hb,hp,hl⟩:=h;have hk:∀q,AA B q→q<w.heap.size→some q≠r:=fun q hq _ e=>by have:=h2 q e.symm;simp at hq;omega
 exact⟨pa,pc,la,lc,hb.gb g (fun e=>h1 e.symm),hp.gb g hk,hl.gb g hk⟩
theorem TRow.mono{w:World}{v:Value}{l:List Tok}{ok ok':Nat→Prop}(h:TRow w v l ok)(hk:∀k,ok k→k<w.heap.size→ok' k):TRow w v l ok':=by
 obtain⟨a,cap,e,h1,h2,h3⟩:=h;refine⟨a,cap,e,h1,h2,fun j hj=>?_⟩;obtain⟨lb,lo,ea,ho,c0,c1,c2⟩:=h3 j hj;exact⟨lb,lo,ea,hk _ ho (World.block_lt_of_cell? w _ c0),c0,c1,c2⟩
theorem SRow.mono{w:World}{v:Value}{l:List Bs}{ok ok':Nat→Prop}(h:SRow w v l ok)(hk:∀k,ok k→k<w.heap.size→ok' k):SRow w v l ok':=by
 obtain⟨a,cap,e,h1,h2,h3⟩:=h;refine⟨a,cap,e,h1,h2,fun j hj=>?_⟩;obtain⟨lb,lo,ea,ho,c0⟩:=h3 j hj;exact⟨lb,lo,ea,hk _ ho (World.block_lt_of_cell? w _ c0),c0⟩
theorem N8{w:World}{b k:Nat}{tv wv:Value}{l:List Tok}{wl:List Bs}{day:Bs→Int}(hl:Dg day l)(n:Nat)(hp:Par w b tv wv l wl 0)(hk:Blk w k zeroE 27)(hkb:k<b)
 (ht:TRow w tv l (· < k)) (hs:SRow w wv wl (fun g=>k<g∧g<b)) (ho:B9 l day n ≠ .out):
 Calls Tryz.prog 66 #[.pointer (some ⟨b,0,none⟩),.pointer (some ⟨k,0,none⟩)] w (Gg b k w (SomeE k) (HoldsE k) (B9 l day n)):=by
 have hE:=Ix (b:=b) (tv:=tv) (wv:=wv) (wl:=wl) hl n;generalize hR:B9 l day n=R at*;have HQ:=O hR;rw[B9]at HQ;have H:=O (Z hE ho);clear hE ho hR hl;have hb:=hp.lt;go_enter func66,ntmps66;go_wp2_with fail;refine(H.out.1 _ _ hp (fun e=>H.out.2 (by rw[←HQ.out,e];rfl))).mono ?_;intro e w1 hq;obtain⟨g,⟨q,hr,rfl⟩| ⟨x,j,v,hr,rfl,⟨pa,pc,la,lc,rfl,rp,rl⟩,hp⟩⟩:=hq.split
 ·have e1:R= .bad q:=by rw[←HQ.out,hr];rfl
  subst e1;exact⟨rfl,Grown2.of g (.inr (.inl rfl)),⟨hd0 0 [],none,0,0,none,0,0,hk.gb g (by simp;omega)⟩,rfl⟩
 replace HQ:=HQr HQ (by rw[hr,Res.bind_ok]);clear hr;replace hk:=hk.gb g (by simp;omega);replace ht:=ht.gb g (by intro q hq e;cases e;have:b<k:=hq;omega);replace hs:=hs.gb g (by intro q hq e;cases e;have:=hq.2;omega);have hb1:=g.size;have g7:=Ag w1 k (.int .i64 x.h.op) (str x.h.s) (.int .i64 x.h.vk) (.int .i64 x.h.vn) (str x.h.vs) (.slice pa x.h.p.length pc) (.slice la x.kids.len lc);have hk7:=hk.set7 (.int .i64 x.h.op) (str x.h.s) (.int .i64 x.h.vk) (.int .i64 x.h.vn) (str x.h.vs) (.slice pa x.h.p.length pc) (.slice la x.kids.len lc);have hok:∀q,AA w.heap.size q→q<w1.heap.size→some q≠some k:=fun q hq _ e=>by simp at hq;cases e;omega
 have hX:=O (Z (rp.gb g7 hok) (rl.gb g7 hok));have hp7:Par (set7 w1 k (.int .i64 x.h.op) (str x.h.s) (.int .i64 x.h.vk) (.int .i64 x.h.vn) (str x.h.vs) (.slice pa x.h.p.length pc) (.slice la x.kids.len lc)) b tv wv l wl j:=
  ⟨hp.blk.gb g7 (by simp;omega),(ht.gb g7 (by intro q hq e;cases e;have:k<k:=hq;omega)).mono (fun q hq _=>by have:q<k:=hq;omega),(hs.gb g7 (by intro q hq e;cases e;have:=hq.1;omega)).mono (fun q hq _=>hq.2),hp.le,hp.few⟩
 have gX:Grown2 w (set7 w1 k (.int .i64 x.h.op) (str x.h.s) (.int .i64 x.h.vk) (.int .i64 x.h.vn) (str x.h.vs) (.slice pa x.h.p.length pc) (.slice la x.kids.len lc)) b k:=(Grown2.of g (.inr (.inl rfl))).trans (Grown2.of g7 (.inr (.inr rfl)));clear rp rl hp ht hs;obtain⟨cl_0,cl_1,cl_2,cl_3,cl_4,cl_5,cl_6,cl_f⟩:=(hk).c7;go_wp2_with fail;refine(J1 hp7).mono ?_;intro e w2 hq;obtain⟨g2,⟨q,hr,rfl⟩| ⟨_,j2,v,hr,rfl,rfl,hp⟩⟩:=hq.split
 ·have e1:R= .bad q:=by rw[←HQ.out,hr];rfl
  subst e1;exact⟨rfl,gX.trans (Grown2.of g2 (.inr (.inl rfl))),⟨x.h,_,_,_,_,_,_,hk7.gb g2 (by simp;omega)⟩,rfl⟩
 have e1:R= .ok x j2:=by rw[←HQ.out,hr];rfl
 subst e1;have hk8:=hk7.gb g2 (by simp;omega);have hok2:∀q,AA w.heap.size q→q<(set7 w1 k (.int .i64 x.h.op) (str x.h.s) (.int .i64 x.h.vk) (.int .i64 x.h.vn) (str x.h.vs) (.slice pa x.h.p.length pc) (.slice la x.kids.len lc)).heap.size→some q≠some b:=fun q hq _ e=>by simp at hq;cases e;omega
 go_wp2;have hX2:=Z (hX.out.1.gb g2 hok2) (hX.out.2.gb g2 hok2);exact⟨rfl,.tuple #[],by simp[results,results66,go_sem],gX.trans (Grown2.of g2 (.inr (.inl rfl))),⟨x.h,_,_,_,_,_,_,hk8⟩,rfl,⟨pa,pc,la,lc,hk8,hX2.1,hX2.2⟩,hp.c1⟩
end Go.Proofs.YtgjdhajcnechdaaGreatDoor
