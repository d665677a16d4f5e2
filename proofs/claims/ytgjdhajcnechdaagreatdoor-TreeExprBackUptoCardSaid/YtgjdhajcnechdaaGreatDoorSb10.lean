/-
  Plain laws: each expression that is right is written, and read from what is written. Plain laws: operators, indexes, lists, blocks and macros are read from what is written; every expression that is ri
-/
import Derived.Test.YtgjdhajcnechdaaGreatDoorSb09
import Derived.Test.YtgjdhajcnechdaaGreatDoorSb04
import Derived.Deep.LoopGhost
import Derived.Test.YtgjdhajcnechdaaGreatDoorSb01
set_option linter.all false
set_option maxRecDepth 100000
set_option maxHeartbeats 8000000
namespace Go.Proofs.YtgjdhajcnechdaaGreatDoor
open Go.Proofs.Tryz
structure C3(d:Wd)(day:Bs→Int):Prop where
 nums:∀n:Int,0≤n→n≤999999999999999→(d.num n).length≤15∧Ay (d.num n)=n
 days:∀n:Int,0<n→n≤3652059→day (d.day n)=n
 zero:day []=0
theorem Cu{h:Hd}{o:Int}(ho:h.op=o)(h1:h.vk=0∧h.vn=0∧h.vs=[])(h2:h.p=[]):h=hd0 o h.s:=by
 obtain⟨op,s,vk,vn,vs,p⟩:=h;obtain⟨h3,h4,h5⟩:=h1;simp only at ho h2 h3 h4 h5;subst ho h2 h3 h4 h5;rfl
theorem C5{k:Fo}(h:k.len=0):k= .nil:=by
 cases k with
 |nil=>rfl
 |cons a b c=>simp[Fo.len]at h
theorem B9{k:Fo}(h:k.len=1):∃a b,k= .cons a b .nil:=by
 cases k with
 |nil=>simp[Fo.len]at h
 |cons a b c=>exact⟨a,b,by rw[C5 (k:=c) (by simpa[Fo.len]using h)]⟩
theorem C6{k:Fo}(h:k.len=2):∃a b a' b',k= .cons a b (.cons a' b' .nil):=by
 cases k with
 |nil=>simp[Fo.len]at h
 | cons a b c=>
   obtain⟨a',b',rfl⟩:=B9 (k:=c) (by simpa[Fo.len]using h);exact⟨a,b,a',b',rfl⟩
section
variable {day:Bs→Int}{d:Wd}{l:List Tok}{i n N:Nat}{E:Nat→Res Ex}
theorem Cb{s:Bs}(h:Z l i=sg s):A8 l s i= .ok () (i+1):=by
 unfold A8;rw[h,AU,if_pos (by simp)]
theorem Ds{s:Bs}(h:Z l i=wd s):AG l day E n i=B6 l E n i:=by
 unfold AG;rw[h];rfl
theorem EO(s t:Bs):Ad (wd s) t=false:=rfl
theorem Jz(hd:C3 d day){h:Hd}(h0:h.op=0)(hs:h.s=[])(hp:h.p=[])(hc:Ao h=true):Good day h .nil (Cg d h):=by
 obtain⟨op,s,vk,vn,vs,p⟩:=h;simp only at h0 hs hp;subst h0 hs hp;unfold Ao at hc;simp only at hc;have sig:∀(t:Bs)(x:Ex),(t=[46,84,46]∧x=A4 1 1 []∨t=[46,70,46]∧x=A4 1 0 []∨t=[46,78,85,76,76,46]∧x=A4 0 0 [])→∀s',Good day x.h x.kids (some ([sg t],s')):=by
  intro t x hx s';refine Good.prim (t:=[sg t]) ⟨_,_,rfl,?_⟩ ?_
  ·rcases hx with⟨rfl,_⟩| ⟨rfl,_⟩| ⟨rfl,_⟩<;>simp[sg]
  ·intro l N i _ ha _;rw[C7 ha.head];unfold By;rw[ha.head];simp only[AU];rcases hx with⟨rfl,rfl⟩| ⟨rfl,rfl⟩| ⟨rfl,rfl⟩<;>rfl
 by_cases k0:vk=0
 ·subst k0;simp at hc;obtain⟨rfl,rfl⟩:=hc;exact sig _ (A4 0 0 []) (.inr (.inr ⟨rfl,rfl⟩)) _
 rw[if_neg k0]at hc;by_cases k1:vk=1
 ·subst k1;simp at hc;obtain⟨rfl|rfl,rfl⟩:=hc
  ·exact sig _ (A4 1 0 []) (.inr (.inl ⟨rfl,rfl⟩)) _
  ·exact sig _ (A4 1 1 []) (.inl ⟨rfl,rfl⟩) _
 rw[if_neg k1]at hc;by_cases k2:vk=2
 ·subst k2;simp at hc;obtain⟨⟨h1,h2⟩,rfl⟩:=hc;obtain⟨e1,e2⟩:=hd.nums vn h1 h2;have e:Cg d ⟨0,[],2,vn,[],[]⟩=some ([⟨1,0,d.num vn⟩],d.num vn):=by
   unfold Cg;rw[if_neg (by simp[BP];omega),if_neg (by simp),if_neg (by simp),if_pos rfl];simp only;rw[if_neg (by omega)]
  rw[e];refine Good.prim ⟨_,_,rfl,by simp⟩ ?_;intro l N i _ ha _;unfold AG;rw[ha.head];simp only[e2];rfl
 rw[if_neg k2]at hc;by_cases k3:vk=3
 ·subst k3;simp at hc;obtain⟨⟨h1,h2⟩,rfl⟩:=hc;by_cases hz:vn=0
  ·subst hz;refine Good.prim (t:=[⟨3,0,[]⟩]) (s:=[123,125]) ⟨_,_,rfl,by simp⟩ ?_;intro l N i _ ha _;unfold AG;rw[ha.head];simp only[hd.zero];rfl
  ·have e : Cg d ⟨0, [], 3, vn, [], []⟩ = some ([⟨3, 0, d.day vn⟩], Cz (d.day vn)) := by
    unfold Cg;rw[if_neg (by simp[BP];omega),if_neg (by simp),if_neg (by simp),if_neg (by simp),if_pos rfl,if_neg hz]
   rw[e];refine Good.prim ⟨_,_,rfl,by simp⟩ ?_;intro l N i _ ha _;unfold AG;rw[ha.head];simp only[hd.days vn (by omega) h2];rfl
 rw[if_neg k3]at hc;by_cases k4:vk=4
 ·subst k4;simp only[if_true,Bool.and_eq_true,beq_iff_eq]at hc;obtain⟨rfl,ht⟩:=hc;unfold BV at ht;simp only[Bool.and_eq_true,decide_eq_true_eq,Bool.not_eq_true',Bool.and_eq_false_iff]at ht;obtain⟨⟨h1,h2⟩,h3⟩:=ht;have e:Cg d ⟨0,[],4,0,vs,[]⟩=some ([⟨2,0,vs⟩],BM vs::vs++[BM vs]):=by
   unfold Cg;rw[if_neg (by simp[BP];omega),if_neg (by simp),if_neg (by simp),if_neg (by simp),if_neg (by simp)];unfold txtW;rw[if_pos ?_];rw[List.all_eq_true]at h1 ⊢;intro b hb;rw[Bool.and_eq_true];refine⟨h1 b hb,?_⟩;unfold BM;rcases h3 with h3|h3
   ·rw[h3];simp only[Bool.false_eq_true,if_false,bne_iff_ne,ne_eq];rintro rfl;simp[List.contains_eq_mem]at h3;exact h3 hb
   ·split
    ·simp only[bne_iff_ne,ne_eq];rintro rfl;simp[List.contains_eq_mem]at h3;exact h3 hb
    ·rename_i h34;simp only[bne_iff_ne,ne_eq];rintro rfl;simp[List.contains_eq_mem]at h34;exact h34 hb
  rw[e];refine Good.prim ⟨_,_,rfl,by simp⟩ ?_;intro l N i _ ha _;unfold AG;rw[ha.head];have h2':¬(2048<vs.length):=by omega
  simp[h2',A4]
 rw[if_neg k4]at hc;cases hc
theorem Kn{s:Bs}(hs:Ak s=true):Good day (hd0 1 s) .nil (nmW s):=by
 unfold nmW;rw[if_pos hs];refine Good.prim (t:=[wd s]) ⟨_,_,rfl,by simp[wd]⟩ ?_;intro l N i _ ha hst;have h1:Di (Z l (i+1)):=hst;rw[Ds ha.head];unfold B6;rw[if_neg (by rw[DB h1 (by decide)];simp),Cp ha.head hs,Res.bind_ok,if_neg (by rw[DB h1 (by decide)];simp)];rfl
theorem Mr{s:Bs}(hs:Ak s=true):Good day (hd0 10 s) .nil (Af [sgn [64],nmW s]):=by
 have e:Af [sgn [64],nmW s]=some ([sg [64],wd s],64::s):=by simp[Af,A9,sgn,nmW,hs]
 rw[e];refine Good.prim ⟨_,_,rfl,by simp[sg]⟩ ?_;intro l N i _ ha _;rw[C7 ha.head];unfold By;rw[ha.head];simp only[AU];rw[if_neg (by decide),if_neg (by decide),if_neg (by decide),if_neg (by decide),if_neg (by decide),if_pos (by decide),Cp ha.tail.head hs,Res.bind_ok];rfl
theorem Jx{s:Bs}{h:Hd}{k:Fo}{w:OW}(hs:Ak s=true)(g:Good day h k w)(ho:Ba h k.len=true):
 Good day (hd0 2 s) (.cons h k .nil) (Af [nmW s,sgn [45,62],if h.op=1 then nmW h.s else BU w]):=by
 by_cases h1:h.op=1
 ·obtain⟨p1,p2,p3⟩:=CB ho;have e:=Cu h1 (p1 (by omega)) (p2 (by omega));have hk:Ak h.s=true∧k.len=0:=by
   unfold An at p3;rw[if_neg (by omega),if_pos (.inl h1)]at p3;simpa using p3
  have e2:=C5 hk.2;subst e2;rw[if_pos h1];have e3:Af [nmW s,sgn [45,62],nmW h.s]=some ([wd s,sg [45,62],wd h.s],s++([45,62]++h.s)):=by simp[Af,A9,sgn,nmW,hs,hk.1]
  rw[e3];refine Good.prim ⟨_,_,rfl,by simp[wd]⟩ ?_;intro l N i _ ha _;rw[Ds ha.head];unfold B6;rw[ha.tail.head,AU,if_neg (by decide),Cp ha.head hs,Res.bind_ok,ha.tail.head,AU,if_pos (by decide)];rw[show i+1+1=i+1+1 from rfl,ha.tail.tail.head,EO,if_neg (by simp),Cp ha.tail.tail.head hk.1,Res.bind_ok,e];rfl
 ·rw[if_neg h1];obtain⟨t,s',rfl,hf,hr,_⟩:=g.ex;have e3:Af [nmW s,sgn [45,62],BU (some (t,s'))]=some (wd s::sg [45,62]::sg [40]::(t++[sg [41]]),s++([45,62]++([40]++(s'++[41])))):=by simp[Af,A9,sgn,nmW,hs,BU]
  rw[e3];refine Good.prim ⟨_,_,rfl,by simp[wd]⟩ ?_;intro l N i hN ha _;simp only[List.length_cons,List.length_append,List.length_nil]at hN ⊢;have hc:Z l (i+1+1+1+t.length)=sg [41]:=ha.tail.tail.tail.right.head;rw[Ds ha.head];unfold B6;rw[ha.tail.head,AU,if_neg (by decide),Cp ha.head hs,Res.bind_ok,ha.tail.head,AU,if_pos (by decide)];rw[ha.tail.tail.head,AU,if_pos (by decide)];rw[show i+1+2=i+1+1+1 from rfl,hr l N (i+1+1+1) (by omega) ha.tail.tail.tail.left (by rw[hc];exact Cs (by decide)),Res.bind_ok,Cb hc,Res.bind_ok];show Res.ok _ _=_;congr 1;omega
theorem Kl{s:Bs}{k:Fo}(hs:Ak s=true)(hk:CT day d k):Good day (hd0 3 s) k (Af [nmW s,sgn [40],Bi ((Ai d k).map (·.2)),sgn [41]]):=by
 cases k with
 | nil=>
   have e3:Af [nmW s,sgn [40],Bi ((Ai d .nil).map (·.2)),sgn [41]]=some ([wd s,sg [40],sg [41]],s++([40]++[41])):=by simp[Af,A9,sgn,nmW,hs,Ai,Bi]
   rw[e3];refine Good.prim ⟨_,_,rfl,by simp[wd]⟩ ?_;intro l N i _ ha _;rw[Ds ha.head];unfold B6;rw[ha.tail.head,AU,if_pos (by decide)];unfold BT;rw[Cp ha.head hs,Res.bind_ok,Cb ha.tail.head,Res.bind_ok,ha.tail.tail.head,AU,if_pos (by decide)];rfl
 | cons h' k' n'=>
   obtain⟨t,s',e,hf,hr⟩:=FM d hk;have e3:Af [nmW s,sgn [40],Bi ((Ai d (.cons h' k' n')).map (·.2)),sgn [41]]=some (wd s::sg [40]::(t++[sg [41]]),s++([40]++(s'++[41]))):=by
    rw[e];simp[Af,A9,sgn,nmW,hs]
   rw[e3];refine Good.prim ⟨_,_,rfl,by simp[wd]⟩ ?_;intro l N i hN ha _;simp only[List.length_cons,List.length_append,List.length_nil]at hN ⊢;have hc:Z l (i+1+1+t.length)=sg [41]:=ha.tail.tail.right.head;rw[Ds ha.head];unfold B6;rw[ha.tail.head,AU,if_pos (by decide)];unfold BT;rw[Cp ha.head hs,Res.bind_ok,Cb ha.tail.head,Res.bind_ok,if_neg (by rw[hf.sign ha.tail.tail.left (by decide)];simp)];rw[hr l N N (i+1+1) (by omega) (by omega) ha.tail.tail.left (by rw[hc];exact⟨Cs (by decide),by decide⟩),Res.bind_ok,Cb hc,Res.bind_ok];show Res.ok _ _=_;congr 1;omega
end
section
variable {day:Bs→Int}{d:Wd}
theorem EZ{x:Ex}{t:List Tok}(h:ReadsU day x t)(hf:Fst noO t){l:List Tok}{n i a:Nat}(ha6:a≤6)(hn:t.length+1≤n)(ha:At l i t)(hs:StopP (Z l (i+t.length)))
 (ho:∀k,a≤k→k<6→As l k (i+t.length)=[]):lvR l (AQ l (Ap l day n) (AG l day (Ap l day n) n) n) n a i= .ok x (i+t.length):=
 DY ha6 (Nat.le_refl _) (by omega) (h.ok hn (by omega) ha hs) ho ⟨hf.sign ha (by decide),hf.sign ha (by decide)⟩
theorem J1{h:Hd}{k:Fo}{w:OW}(g:Good day h k w):Good day (hd0 4 [45]) (.cons h k .nil) (Af [sgn [45],some ([],[]),Bo (h,w)]):=by
 obtain⟨t,s,e,hf,hu⟩:=g.opd;have e3:Af [sgn [45],some ([],[]),Bo (h,w)]=some (sg [45]::t,[45]++s):=by rw[e];simp[Af,A9,sgn]
 rw[e3];refine⟨_,_,rfl,⟨_,_,rfl,by simp[sg]⟩,?_,fun q=>absurd rfl q.1⟩;intro l n i hn ha hs;simp only[List.length_cons]at hn hs ⊢;obtain⟨n,rfl⟩:∃q,n=q+2:=⟨n-2,by omega⟩;have hs':StopE (Z l (i+1+t.length)):=by rwa[show i+1+t.length=i+(t.length+1)by omega]
 have h6:lvR l (AQ l (Ap l day (n+1)) (AG l day (Ap l day (n+1)) (n+1)) (n+1)) (n+1) 6 i= .ok ⟨hd0 4 [45],.cons h k .nil⟩ (i+(t.length+1)):=by
  show AQ l _ _ (n+1) i=_;unfold AQ;rw[ha.head,AU,if_pos (by decide),hu.ok (by omega) (by omega) ha.tail hs'.p,Res.bind_ok];show Res.ok _ _=_;congr 1;omega
 rw[DR];exact DY (a:=0) (b:=6) (by omega) (by omega) (by omega) h6 (fun k _ hk=>Cy hk hs) ⟨by rw[ha.head];decide,by rw[ha.head];decide⟩
theorem Mq{h:Hd}{k:Fo}{w:OW}(g:Good day h k w):Good day (hd0 4 [46,78,79,84,46]) (.cons h k .nil) (Af [sgn [46,78,79,84,46],AY,Bo (h,w)]):=by
 obtain⟨t,s,e,hf,hu⟩:=g.opd;have e3:Af [sgn [46,78,79,84,46],AY,Bo (h,w)]=some (sg [46,78,79,84,46]::t,[46,78,79,84,46]++([32]++s)):=by rw[e];simp[Af,A9,sgn,AY]
 rw[e3];refine⟨_,_,rfl,⟨_,_,rfl,by simp[sg]⟩,?_,fun q=>absurd rfl q.1⟩;intro l n i hn ha hs;simp only[List.length_cons]at hn hs ⊢;obtain⟨n,rfl⟩:∃q,n=q+2:=⟨n-2,by omega⟩;have hs':StopE (Z l (i+1+t.length)):=by rwa[show i+1+t.length=i+(t.length+1)by omega]
 have hn0:0<n:=by have:=hf.pos;omega
 have h3:=EZ hu hf (n:=n+1) (a:=3) (by omega) (by omega) ha.tail hs'.p (fun k _ hk=>Cy hk hs');have h2:lvR l (AQ l (Ap l day (n+1)) (AG l day (Ap l day (n+1)) (n+1)) (n+1)) (n+1) 2 i= .ok ⟨hd0 4 [46,78,79,84,46],.cons h k .nil⟩ (i+(t.length+1)):=by
  show AL l (BF l (n+1) (AI l _ (n+1))) (n+1) i=_;unfold AL;rw[ha.head];simp only[AU];rw[if_pos (by decide)];obtain⟨m,rfl⟩:∃q,n=q+1:=⟨n-1,by omega⟩;unfold AL;rw[hf.sign ha.tail (by decide),hf.sign ha.tail (by decide)];simp only[Bool.or_self,Bool.false_eq_true,if_false];have h3':BF l (m+1+1) (AI l (AQ l (Ap l day (m+1+1)) (AG l day (Ap l day (m+1+1)) (m+1+1)) (m+1+1)) (m+1+1)) (i+1)= .ok ⟨h,k⟩ (i+1+t.length):=h3;rw[h3',Res.bind_ok,Cy (by omega) hs'];simp only[List.isEmpty_nil,if_true,Res.bind_ok];show Res.ok _ _=_;congr 1;omega
 rw[DR];exact Fa (by omega) (by omega) (Fa (by omega) (by omega) h2 (Cy (by omega) hs) (fun q=>absurd q (by decide))) (Cy (by omega) hs) (fun q=>absurd q (by decide))
theorem Mp{s:Bs}{h h':Hd}{k k':Fo}{w w':OW}(hs:s∈opsL)(g:Good day h k w)(g':Good day h' k' w'):
 Good day (hd0 5 s) (.cons h k (.cons h' k' .nil)) (Af [Bo (h,w),AY,sgn s,AY,Bo (h',w')]):=by
 obtain⟨t1,s1,e1,hf1,hu1⟩:=g.opd;obtain⟨t2,s2,e2,hf2,hu2⟩:=g'.opd;have e3:Af [Bo (h,w),AY,sgn s,AY,Bo (h',w')]=some (t1++(sg s::t2),s1++([32]++(s++([32]++s2)))):=by rw[e1,e2];simp[Af,A9,sgn,AY]
 rw[e3];refine⟨_,_,rfl,hf1.weak.app _,?_,fun q=>absurd rfl q.2⟩;intro l n i hn ha hst;simp only[List.length_cons,List.length_append]at hn hst ⊢;obtain⟨n,rfl⟩:∃q,n=q+1:=⟨n-1,by omega⟩;have hop:Z l (i+t1.length)=sg s:=ha.right.head;obtain⟨hlv,hval,hne,hoth,hgo⟩:=MJ s hs;have ha2:At l (i+t1.length+1) t2:=ha.right.tail;have hst':StopE (Z l (i+t1.length+1+t2.length)):=by rwa[show i+t1.length+1+t2.length=i+(t1.length+(t2.length+1))by omega]
 have hp1:=hf1.pos;have hp2:=hf2.pos;rw[DR];have r1:=EZ hu1 hf1 (n:=n) (a:=Dl s+1) (by omega) (by omega) ha.left (by rw[hop];exact fun _=>hgo) (fun q h1 h2=>by rw[GJ hop];exact hoth q h2 (by omega));have r2:=EZ hu2 hf2 (n:=n) (a:=Dl s+1) (by omega) (by omega) ha2 hst'.p (fun q _ hk=>Cy hk hst');have hfs:Ad (Z l i) [46,78,79,84,46]=false∧Ad (Z l i) [33]=false:=⟨hf1.sign ha.left (by decide),hf1.sign ha.left (by decide)⟩;have r3:=N9 hlv (by omega) r1 (by rw[GJ hop];exact hval) hne r2 (Cy hlv hst') hfs;have r4:=DY (a:=0) (b:=Dl s) (by omega) (by omega) (by omega) r3 (fun q _ hk=>Cy (by omega) hst') hfs;rw[r4];show Res.ok _ _=_;congr 1;omega
theorem J0{h h':Hd}{k k':Fo}{w w':OW}(g:Good day h k w)(g':Good day h' k' w'):
 Good day (hd0 6 []) (.cons h k (.cons h' k' .nil)) (Af [Bo (h,w),sgn [91],w',sgn [93]]):=by
 obtain⟨t1,s1,e1,hf1,hu1⟩:=g.opd;obtain⟨t2,s2,rfl,hf2,hr2,_⟩:=g'.ex;have e3:Af [Bo (h,w),sgn [91],some (t2,s2),sgn [93]]=some (t1++(sg [91]::(t2++[sg [93]])),s1++([91]++(s2++[93]))):=by rw[e1];simp[Af,A9,sgn]
 rw[e3];have hU:ReadsU day ⟨hd0 6 [],.cons h k (.cons h' k' .nil)⟩ (t1++(sg [91]::(t2++[sg [93]]))):=by
  intro l N n i hN hn ha hst;simp only[List.length_cons,List.length_append,List.length_nil]at hN hn hst ⊢;have hp1:=hf1.pos;have hop:Z l (i+t1.length)=sg [91]:=ha.right.head;have hc:Z l (i+t1.length+1+t2.length)=sg [93]:=ha.right.tail.right.head;obtain⟨m,hm,e⟩:=hu1 l N n i (by omega) (by omega) ha.left (by rw[hop];exact LX (by decide));obtain⟨m,rfl⟩:∃q,m=q+1:=⟨m-1,by omega⟩;refine⟨m,by omega,?_⟩;rw[e];conv=>lhs;unfold Br
  rw[hop,AU,if_pos (by decide),hr2 l N (i+t1.length+1) (by omega) ha.right.tail.left (by rw[hc];exact Cs (by decide)),Res.bind_ok,Cb hc,Res.bind_ok];show Br l _ m ⟨hd0 6 [],.cons h k (.cons h' k' .nil)⟩ _=_;congr 1;omega
 exact⟨_,_,rfl,hf1.weak.app _,hU.e (hf1.app _),fun _=>⟨hf1.app _,hU⟩⟩
theorem Km{k:Fo}(hn:1≤k.len)(hk:CT day d k):Good day (hd0 7 []) k (Af [sgn [123],Bi ((Ai d k).map (·.2)),sgn [125]]):=by
 cases k with
 |nil=>simp[Fo.len]at hn
 | cons h' k' n'=>
   obtain⟨t,s',e,hf,hr⟩:=FM d hk;have e3:Af [sgn [123],Bi ((Ai d (.cons h' k' n')).map (·.2)),sgn [125]]=some (sg [123]::(t++[sg [125]]),[123]++(s'++[125])):=by
    rw[e];simp[Af,A9,sgn]
   rw[e3];refine Good.prim ⟨_,_,rfl,by simp[sg]⟩ ?_;intro l N i hN ha _;simp only[List.length_cons,List.length_append,List.length_nil]at hN ⊢;have hc:Z l (i+1+t.length)=sg [125]:=ha.tail.right.head;rw[C7 ha.head];unfold By;rw[ha.head];simp only[AU];rw[if_neg (by decide),if_neg (by decide),if_neg (by decide),if_neg (by decide),if_neg (by decide),if_neg (by decide),if_pos (by decide)];unfold BJ;rw[if_neg (by rw[hf.sign ha.tail.left (by decide)];simp)];rw[hr l N N (i+1) (by omega) (by omega) ha.tail.left (by rw[hc];exact⟨Cs (by decide),by decide⟩),Res.bind_ok,Cb hc,Res.bind_ok];show Res.ok _ _=_;congr 1;omega
theorem Jy{p:List Bs}{h:Hd}{k:Fo}{w:OW}(hp:p.all Ak=true)(g:Good day h k w):
 Good day ⟨8,[],0,0,[],p⟩ (.cons h k .nil) (Af [sgn [123],sgn [124],Bi (p.map nmW),sgn [124],AY,w,sgn [125]]):=by
 obtain⟨t,s,rfl,hf,hr,_⟩:=g.ex;cases p with
 | nil=>
   have e3:Af [sgn [123],sgn [124],Bi (([]:List Bs).map nmW),sgn [124],AY,some (t,s),sgn [125]]=some (sg [123]::sg [124]::sg [124]::(t++[sg [125]]),[123]++([124]++([124]++([32]++(s++[125]))))):=by simp[Af,A9,sgn,AY,Bi]
   rw[e3];refine Good.prim ⟨_,_,rfl,by simp[sg]⟩ ?_;intro l N i hN ha _;simp only[List.length_cons,List.length_append,List.length_nil]at hN ⊢;have hc:Z l (i+1+1+1+t.length)=sg [125]:=ha.tail.tail.tail.right.head;rw[C7 ha.head];unfold By;rw[ha.head];simp only[AU];rw[if_neg (by decide),if_neg (by decide),if_neg (by decide),if_neg (by decide),if_neg (by decide),if_neg (by decide),if_pos (by decide)];unfold BJ;rw[ha.tail.head,AU,if_pos (by decide),ha.tail.tail.head,AU,if_pos (by decide),Res.bind_ok];rw[show i+1+2=i+1+1+1 from rfl,hr l N (i+1+1+1) (by omega) ha.tail.tail.tail.left (by rw[hc];exact Cs (by decide)),Res.bind_ok,Cb hc,Res.bind_ok];show Res.ok _ _=_;congr 1;omega
 | cons a p=>
   obtain⟨q,s2,e2,hq⟩:=I9 hp;have e3:Af [sgn [123],sgn [124],Bi ((a::p).map nmW),sgn [124],AY,some (t,s),sgn [125]]=some (sg [123]::sg [124]::(wd a::q++(sg [124]::(t++[sg [125]]))),[123]++([124]++(s2++([124]++([32]++(s++[125])))))):=by
    rw[e2];simp[Af,A9,sgn,AY]
   rw[e3];refine Good.prim ⟨_,_,rfl,by simp[sg]⟩ ?_;intro l N i hN ha _;simp only[List.length_cons,List.length_append,List.length_nil]at hN ⊢;have ha3:=ha.tail.tail;have hb:Z l (i+1+1+(wd a::q).length)=sg [124]:=ha3.right.head;have hc:Z l (i+1+1+(wd a::q).length+1+t.length)=sg [125]:=ha3.right.tail.right.head;rw[C7 ha.head];unfold By;rw[ha.head];simp only[AU];rw[if_neg (by decide),if_neg (by decide),if_neg (by decide),if_neg (by decide),if_neg (by decide),if_neg (by decide),if_pos (by decide)];unfold BJ;rw[ha.tail.head,AU,if_pos (by decide),ha3.left.head,EO,if_neg (by simp)];rw[hq l N (i+1+1) (by omega) ha3.left (by rw[hb];decide),Res.bind_ok,Cb hb,Res.bind_ok,Res.bind_ok];rw[hr l N _ (by omega) ha3.right.tail.left (by rw[hc];exact Cs (by decide)),Res.bind_ok,Cb hc,Res.bind_ok];show Res.ok _ _=_;congr 1;simp only[List.length_cons];omega
theorem Ji{s:Bs}(hs:Ak s=true):Good day (hd0 9 s) .nil (Af [sgn [38],nmW s,sgn [46]]):=by
 have e3:Af [sgn [38],nmW s,sgn [46]]=some ([sg [38],wd s,sg [46]],[38]++(s++[46])):=by simp[Af,A9,sgn,nmW,hs]
 rw[e3];refine Good.prim ⟨_,_,rfl,by simp[sg]⟩ ?_;intro l N i _ ha _;rw[C7 ha.head];unfold By;rw[ha.head];simp only[AU];rw[if_pos (by decide)];unfold BO;rw[Cb ha.head,Res.bind_ok,ha.tail.head,EO,if_neg (by simp),Cp ha.tail.head hs,Res.bind_ok,ha.tail.tail.head,AU,if_pos (by decide)];rfl
theorem Jh{h:Hd}{k:Fo}{w:OW}(g:Good day h k w):Good day (hd0 9 []) (.cons h k .nil) (Af [sgn [38],BU w]):=by
 obtain⟨t,s,rfl,hf,hr,_⟩:=g.ex;have e3:Af [sgn [38],BU (some (t,s))]=some (sg [38]::sg [40]::(t++[sg [41]]),[38]++([40]++(s++[41]))):=by simp[Af,A9,sgn,BU]
 rw[e3];refine Good.prim ⟨_,_,rfl,by simp[sg]⟩ ?_;intro l N i hN ha _;simp only[List.length_cons,List.length_append,List.length_nil]at hN ⊢;have hc:Z l (i+1+1+t.length)=sg [41]:=ha.tail.tail.right.head;rw[C7 ha.head];unfold By;rw[ha.head];simp only[AU];rw[if_pos (by decide)];unfold BO;rw[Cb ha.head,Res.bind_ok,ha.tail.head,AU,if_pos (by decide)];rw[hr l N (i+1+1) (by omega) ha.tail.tail.left (by rw[hc];exact Cs (by decide)),Res.bind_ok,Cb hc,Res.bind_ok];show Res.ok _ _=_;congr 1;omega
theorem Ko(hd:C3 d day){h:Hd}{k:Fo}(ho:Ba h k.len=true)(hk:okF k=true)(g:CT day d k):Good day h k (A6 d h (Ai d k)):=by
 obtain⟨p1,p2,p3⟩:=CB ho;unfold An at p3;unfold A6;by_cases e0:h.op=0
 ·rw[if_pos e0]at p3 ⊢;simp only[Bool.and_eq_true,beq_iff_eq,List.isEmpty_iff]at p3;rw[C5 p3.1.2];exact Jz hd e0 p3.1.1 (p2 (by omega)) p3.2
 rw[if_neg e0]at p3 ⊢;by_cases e1:h.op=1
 ·rw[if_pos (.inl e1)]at p3;rw[if_pos e1];simp only[Bool.and_eq_true,beq_iff_eq]at p3;rw[C5 p3.2];have e:=Cu e1 (p1 (by omega)) (p2 (by omega));have:=Kn (day:=day) p3.1;rwa[←e]at this
 rw[if_neg e1];by_cases e10:h.op=10
 ·rw[if_pos (.inr e10)]at p3;rw[if_neg (by omega),if_neg (by omega),if_neg (by omega),if_neg (by omega),if_neg (by omega),if_neg (by omega),if_neg (by omega),if_neg (by omega),if_pos e10];simp only[Bool.and_eq_true,beq_iff_eq]at p3;rw[C5 p3.2];have e:=Cu e10 (p1 (by omega)) (p2 (by omega));have:=Mr (day:=day) p3.1;rwa[←e]at this
 rw[if_neg (by omega)]at p3;by_cases e2:h.op=2
 ·rw[if_pos e2]at p3 ⊢;simp only[Bool.and_eq_true,beq_iff_eq]at p3;obtain⟨a,b,rfl⟩:=B9 p3.2;have e:=Cu e2 (p1 (by omega)) (p2 (by omega));simp only[okF,Bool.and_eq_true]at hk;have:=Jx p3.1 g.1 hk.1.1;rwa[←e]at this
 rw[if_neg e2]at p3 ⊢;by_cases e3:h.op=3
 ·rw[if_pos e3]at p3 ⊢;have e:=Cu e3 (p1 (by omega)) (p2 (by omega));have:=Kl p3 g;rwa[←e]at this
 rw[if_neg e3]at p3 ⊢;by_cases e4:h.op=4
 ·rw[if_pos e4]at p3 ⊢;simp only[Bool.and_eq_true,Bool.or_eq_true,beq_iff_eq]at p3;obtain⟨a,b,rfl⟩:=B9 p3.2;have e:=Cu e4 (p1 (by omega)) (p2 (by omega));show Good day h _ (Af [sgn h.s,if h.s=[46,78,79,84,46]then AY else some ([],[]),Bo (a,A6 d a (Ai d b))]);rcases p3.1 with hs|hs
  ·rw[hs,if_neg (by decide),e,hs];exact J1 g.1
  ·rw[hs,if_pos rfl,e,hs];exact Mq g.1
 rw[if_neg e4]at p3 ⊢;by_cases e5:h.op=5
 ·rw[if_pos e5]at p3 ⊢;simp only[Bool.and_eq_true,beq_iff_eq,List.contains_iff_mem]at p3;obtain⟨a,b,a',b',rfl⟩:=C6 p3.2;have e:=Cu e5 (p1 (by omega)) (p2 (by omega));have:=Mp p3.1 g.1 g.2.1;rwa[←e]at this
 rw[if_neg e5]at p3 ⊢;by_cases e6:h.op=6
 ·rw[if_pos e6]at p3 ⊢;simp only[Bool.and_eq_true,beq_iff_eq,List.isEmpty_iff]at p3;obtain⟨a,b,a',b',rfl⟩:=C6 p3.2;have e:=Cu e6 (p1 (by omega)) (p2 (by omega));rw[p3.1]at e;have:=J0 g.1 g.2.1;rwa[←e]at this
 rw[if_neg e6]at p3 ⊢;by_cases e7:h.op=7
 ·rw[if_pos e7]at p3 ⊢;simp only[Bool.and_eq_true,decide_eq_true_eq,List.isEmpty_iff]at p3;have e:=Cu e7 (p1 (by omega)) (p2 (by omega));rw[p3.1]at e;have:=Km p3.2 g;rwa[←e]at this
 rw[if_neg e7]at p3 ⊢;by_cases e8:h.op=8
 ·rw[if_pos e8]at p3 ⊢;simp only[Bool.and_eq_true,beq_iff_eq,List.isEmpty_iff]at p3;obtain⟨a,b,rfl⟩:=B9 p3.1.2;have e:h=⟨8,[],0,0,[],h.p⟩:=by
   obtain⟨h3,h4,h5⟩:=p1 (by omega);have:=p3.1.1;cases h;simp_all
  have:=Jy p3.2 g.1;rwa[←e]at this
 rw[if_neg e8]at p3 ⊢;by_cases e9:h.op=9
 ·rw[if_pos e9]at p3 ⊢;simp only[Bool.and_eq_true,Bool.or_eq_true,beq_iff_eq,List.isEmpty_iff]at p3;have e:=Cu e9 (p1 (by omega)) (p2 (by omega));rcases p3 with⟨hs,hn⟩| ⟨hs,hn⟩
  ·rw[C5 hn];have:=Ji (day:=day) hs;rwa[←e]at this
  ·obtain⟨a,b,rfl⟩:=B9 hn;rw[hs]at e;have:=Jh g.1;rwa[←e]at this
 rw[if_neg e9]at p3;cases p3
theorem Gz(hd:C3 d day):∀f:Fo,okF f=true→CT day d f:=by
 intro f;induction f with
 |nil=>intro _;exact trivial
 | cons h k n ihk ihn=>
   intro ho;simp only[okF,Bool.and_eq_true]at ho;exact⟨Ko hd ho.1.1 ho.1.2 (ihk ho.1.2),ihn ho.2⟩
theorem M7(hd:C3 d day){x:Ex}(ho:okF (.one x)=true):∃t s,exW d x=some (t,s)∧0<t.length∧∀n,t.length+1<n→Ap t day n 0= .ok x t.length:=by
 obtain⟨t,s,e,hf,hr,_⟩:=(Gz hd _ ho).1.ex;refine⟨t,s,e,hf.pos,fun n hn=>?_⟩;have h5:Z t (0+t.length)=⟨-1,0,[]⟩:=by
  unfold Z;rw[Nat.zero_add,List.getElem?_eq_none (Nat.le_refl _)];rfl
 have:=hr t n 0 hn (At.all t) (by intro h4;rw[h5]at h4;exact absurd h4 (by decide));rwa[Nat.zero_add]at this
end
def okX(x:Ex):Bool:=Ba x.h x.kids.len&&okF x.kids
theorem NB(x:Ex)(n:Fo):okF (x.fo n)=(okX x&&okF n):=rfl
theorem GI(x:Ex):okF (.one x)=okX x:=by simp[Fo.one,NB,okF]
section
variable {l:List Tok}{day:Bs→Int}{E:Nat→Res Ex}
end
open Go.RowKit
theorem Je(f g:Fo)(ok ok':Nat→Prop)(la lb:Option Addr)(lc ld:Nat)(w:World)(hf:RepL ok w (.slice la f.len lc) f)(hg:RepL ok' w (.slice lb g.len ld) g)
 (hE:∀(h1 h2:Hd)(k1 k2:Fo)(pa pb la lb:Option Addr)(pc pd lc ld:Nat)(W:World),k1.wt<f.wt→Cells W (.slice pa h1.p.length pc) 1 h1.p.length (h1.p.map str) (fun _=>True)→Cells W (.slice pb h2.p.length pd) 1 h2.p.length (h2.p.map str) (fun _=>True)→
  RepL (fun _=>True) W (.slice la k1.len lc) k1→RepL (fun _=>True) W (.slice lb k2.len ld) k2→
  Calls Tryz.prog 14 #[exV h1 (.slice pa h1.p.length pc) (.slice la k1.len lc),exV h2 (.slice pb h2.p.length pd) (.slice lb k2.len ld)] W fun e w'=>e= .returned (.bool (AZ h1 h2&&AC k1 k2))∧W.grownBy w' none):
 Calls Tryz.prog 69 #[.slice la f.len lc,.slice lb g.len ld,.func (.func 14) #[] #[]] w fun e w'=>e= .returned (.bool (AC f g))∧w.grownBy w' none:=by
 replace hf:=hf.mono (ok':=fun _=>True) (fun _ _ _=>trivial);replace hg:=hg.mono (ok':=fun _=>True) (fun _ _ _=>trivial);by_cases hlen:f.len=g.len
 ·obtain⟨cs,hc1,hr1⟩:=hf;obtain⟨ds,hc2,hr2⟩:=hg;obtain⟨_,_,e,hle,hmx,_,hc1⟩:=hc1;cases e;obtain⟨_,_,e,_,_,_,hc2⟩:=hc2;cases e;have hmax:f.len≤maxLen:=by omega
  unfold maxLen at hmax;clear hle hmx;have hnI:((f.len:Int) !=(g.len:Int))=false:=by simp;omega
  have hnI2:((f.len:Int)==(g.len:Int))=true:=by simp;omega
  have HC:=I (X hc1 (X hc2 (X hE hlen)));have HR:=I (X hr1 hr2);clear hc1 hc2 hE hlen hr1 hr2;go_enter func69,ntmps69;go_wp2_with fail;go_loopg [17] f.len (fun n v17 wr=>∃rf rg:Fo,∃k:Nat,rf.len=n∧k+n=f.len∧rf.len=rg.len∧v17= .int .i64 k∧rf.wt≤f.wt∧AC f g=AC rf rg∧RepF (fun _=>True) w rf (cs.drop (k*7))∧RepF (fun _=>True) w rg (ds.drop (k*7))∧w.grownBy wr none)
  case atStart=>exact⟨f,g,0,rfl,by omega,HC.out.2.2.2,rfl,Nat.le_refl _,rfl,by simpa using HR.out.1,by simpa using HR.out.2,Ac _ _⟩
  case round=>
   obtain⟨rf,rg,k,hn,hk,hl,rfl,hno,hs,hrf,hrg,hgr⟩:=hrel;clear HR;cases rf with
   | nil=>
     cases rg with
     |cons=>simp[Fo.len]at hl
     | nil=>
       have hkI:decide (k<f.len)=false:=by simp[Fo.len]at hn;simp;omega
       have HS:=I (show AC f g=true by rw[hs];rfl);have HG:=I hgr;clear hs hgr hn hl hrf hrg;go_wp2;go_ret;exact⟨by rw[HS.out];rfl,HG.out⟩
   | cons h1 k1 n1=>
     cases rg with
     |nil=>simp[Fo.len]at hl
     | cons h2 k2 n2=>
       simp only[Fo.len]at hn hl;simp only[Fo.wt]at hno;subst hn;obtain⟨pa1,pc1,lb1,ld1,hp1,hl1,hx1,ha1⟩:=RepF.elem (n:=f.len) (lc:=lc) (f:=f) HC.out.1 hrf;obtain⟨pa2,pc2,lb2,ld2,hp2,hl2,hx2,ha2⟩:=RepF.elem (n:=g.len) (lc:=ld) (f:=g) HC.out.2.1 hrg;have hkI:decide (k<f.len)=true:=by simp;omega
       have hkg:k<g.len:=by have:=HC.out.2.2.2;omega
       have hkf:k+1≤f.len:=by omega
       have HS:=I (X (show AC f g=((AZ h1 h2&&AC k1 k2)&&AC n1 n2)from hs) (show n1.len=n2.len by omega));have HE:=I (fun(W:World)(gW:wr.grownBy W none)=>HC.out.2.2.1 h1 h2 k1 k2 pa1 pa2 lb1 lb2 pc1 pc2 ld1 ld2 W (by omega) (hp1.gb (O hgr gW) (by simp)) (hp2.gb (O hgr gW) (by simp)) (hl1.gb (O hgr gW) (by simp)) (hl2.gb (O hgr gW) (by simp)));have HN:=I (X (show n1.wt≤f.wt by omega) (X hx1 (X hx2 hgr)));clear hs hl hno hrf hrg hp1 hl1 hx1 hp2 hl2 hx2;obtain⟨g1,o1,rfl,hokz,y0⟩:=ha1 0 _ rfl;obtain⟨_,_,e1,_,y1⟩:=ha1 1 _ rfl;cases e1;obtain⟨_,_,e1,_,y2⟩:=ha1 2 _ rfl;cases e1;obtain⟨_,_,e1,_,y3⟩:=ha1 3 _ rfl;cases e1;obtain⟨_,_,e1,_,y4⟩:=ha1 4 _ rfl;cases e1;obtain⟨_,_,e1,_,y5⟩:=ha1 5 _ rfl;cases e1;obtain⟨_,_,e1,_,y6⟩:=ha1 6 _ rfl;cases e1;have hglz:=World.block_lt_of_cell? w _ y0;have z0:=Ab hgr y0;have z1:=Ab hgr y1;have z2:=Ab hgr y2;have z3:=Ab hgr y3;have z4:=Ab hgr y4;have z5:=Ab hgr y5;have z6:=Ab hgr y6;simp only[Nat.add_zero,←Nat.add_assoc]at z0 z1 z2 z3 z4 z5 z6;clear y0 y1 y2 y3 y4 y5 y6;obtain⟨g2,o2,rfl,hokt,y0⟩:=ha2 0 _ rfl;obtain⟨_,_,e1,_,y1⟩:=ha2 1 _ rfl;cases e1;obtain⟨_,_,e1,_,y2⟩:=ha2 2 _ rfl;cases e1;obtain⟨_,_,e1,_,y3⟩:=ha2 3 _ rfl;cases e1;obtain⟨_,_,e1,_,y4⟩:=ha2 4 _ rfl;cases e1;obtain⟨_,_,e1,_,y5⟩:=ha2 5 _ rfl;cases e1;obtain⟨_,_,e1,_,y6⟩:=ha2 6 _ rfl;cases e1;have hglt:=World.block_lt_of_cell? w _ y0;have t0:=Ab hgr y0;have t1:=Ab hgr y1;have t2:=Ab hgr y2;have t3:=Ab hgr y3;have t4:=Ab hgr y4;have t5:=Ab hgr y5;have t6:=Ab hgr y6
       simp only[Nat.add_zero,←Nat.add_assoc]at t0 t1 t2 t3 t4 t5 t6;clear y0 y1 y2 y3 y4 y5 y6;clear ha1 ha2 hgr;have hws:=HN.out.2.2.2.size;have hq1:g1<wr.heap.size:=Nat.lt_of_lt_of_le hglz hws;have hq2:g2<wr.heap.size:=Nat.lt_of_lt_of_le hglt hws;cases hb:(AZ h1 h2&&AC k1 k2)with
       | true=>
         rw[hb]at HE;have HB:=I (show AC f g=AC n1 n2 by rw[HS.out.1,hb];rfl);clear hb;go_wp2_with fail;refine(HE.out _ ?gg).mono ?_
         case gg=>exact (by repeat(first| (with_reducible exact Ac _ _)| (with_reducible assumption)| (with_reducible exact AW (by assumption))| (with_reducible refine Aa ?_ _)| (with_reducible refine Aj ?_)| (with_reducible refine AH ?_ _)| ((with_reducible refine Ax ?_ _ _ ?h2);case h2=>first|exact .inl rfl|exact .inr (Nat.le_refl _)|exact .inr (by simp<;>omega))| (with_reducible refine Ae ?_ (by assumption))| (with_reducible refine O ?_ (by assumption))))
         rintro e w5 ⟨rfl,g5⟩;have gg:=O HN.out.2.2.2 (O (by repeat(first| (with_reducible exact Ac _ _)| (with_reducible assumption)| (with_reducible exact AW (by assumption))| (with_reducible refine Aa ?_ _)| (with_reducible refine Aj ?_)| (with_reducible refine AH ?_ _)| ((with_reducible refine Ax ?_ _ _ ?h2);case h2=>first|exact .inl rfl|exact .inr (Nat.le_refl _)|exact .inr (by simp<;>omega))| (with_reducible refine Ae ?_ (by assumption))| (with_reducible refine O ?_ (by assumption)))) g5);have HG:=I gg;clear gg g5;go_wp2;go_roundg n1.len
         case measure=>omega
         case rel=>exact⟨n1,n2,k+1,rfl,by omega,HS.out.2,by go_num,HN.out.1,HB.out,HN.out.2.1,HN.out.2.2.1,HG.out⟩
       | false=>
         rw[hb]at HE;have HB:=I (show AC f g=false by rw[HS.out.1,hb];rfl);clear hb;go_wp2_with fail;refine(HE.out _ ?gg2).mono ?_
         case gg2=>exact (by repeat(first| (with_reducible exact Ac _ _)| (with_reducible assumption)| (with_reducible exact AW (by assumption))| (with_reducible refine Aa ?_ _)| (with_reducible refine Aj ?_)| (with_reducible refine AH ?_ _)| ((with_reducible refine Ax ?_ _ _ ?h2);case h2=>first|exact .inl rfl|exact .inr (Nat.le_refl _)|exact .inr (by simp<;>omega))| (with_reducible refine Ae ?_ (by assumption))| (with_reducible refine O ?_ (by assumption))))
         rintro e w5 ⟨rfl,g5⟩;have gg:=O HN.out.2.2.2 (O (by repeat(first| (with_reducible exact Ac _ _)| (with_reducible assumption)| (with_reducible exact AW (by assumption))| (with_reducible refine Aa ?_ _)| (with_reducible refine Aj ?_)| (with_reducible refine AH ?_ _)| ((with_reducible refine Ax ?_ _ _ ?h2);case h2=>first|exact .inl rfl|exact .inr (Nat.le_refl _)|exact .inr (by simp<;>omega))| (with_reducible refine Ae ?_ (by assumption))| (with_reducible refine O ?_ (by assumption)))) g5);have HG:=I gg;clear gg g5;go_wp2;go_ret;exact⟨by rw[HB.out];rfl,HG.out⟩
 ·have hnI:((f.len:Int) !=(g.len:Int))=true:=by simp;omega
  have hnI2:((f.len:Int)==(g.len:Int))=false:=by simp;omega
  have HN:=I (show AC f g=false by cases h:AC f g with|false=>rfl|true=>exact absurd (Ga h) hlen);clear hlen hf hg hE;go_enter func69,ntmps69;go_wp2;go_ret;exact⟨by rw[HN.out];rfl,(by repeat(first| (with_reducible exact Ac _ _)| (with_reducible assumption)| (with_reducible exact AW (by assumption))| (with_reducible refine Aa ?_ _)| (with_reducible refine Aj ?_)| (with_reducible refine AH ?_ _)| ((with_reducible refine Ax ?_ _ _ ?h2);case h2=>first|exact .inl rfl|exact .inr (Nat.le_refl _)|exact .inr (by simp<;>omega))| (with_reducible refine Ae ?_ (by assumption))| (with_reducible refine O ?_ (by assumption))))⟩
theorem IH:∀(N:Nat)(f g:Fo),f.wt<N→∀(ok ok':Nat→Prop)(la lb:Option Addr)(lc ld:Nat)(w:World),RepL ok w (.slice la f.len lc) f→RepL ok' w (.slice lb g.len ld) g→
 Calls Tryz.prog 39 #[.slice la f.len lc,.slice lb g.len ld] w fun e w'=>e= .returned (.bool (AC f g))∧w.grownBy w' none:=by
 intro N;induction N with
 |zero=>intro f g hN;omega
 | succ N ih=>
   intro f g hN ok ok' la lb lc ld w hf hg;have HE:=I (Je f g ok ok' la lb lc ld w hf hg (fun h1 h2 k1 k2 pa pb la lb pc pd lc ld W hk hp1 hp2 hl1 hl2=>
    Fj hp1 hp2 (fun W2 g2=>ih k1 k2 (by omega) _ _ la lb lc ld W2 (hl1.gb g2 (by simp)) (hl2.gb g2 (by simp)))))
   clear ih hf hg;go_enter func39,ntmps39;go_wp2_with fail;refine HE.out.mono ?_;rintro e w1 ⟨rfl,g1⟩;go_wp2;go_ret;exact⟨rfl,g1⟩
def Ee(x y:Ex):Bool:=AZ x.h y.h&&AC x.kids y.kids
theorem F7(x:Ex):Ee x x=true:=by simp[Ee,AZ,Kt]
theorem GY{w:World}{ok ok':Nat→Prop}{u v:Value}{x y:Ex}(hx:VE ok w u x)(hy:VE ok' w v y):
 Calls Tryz.prog 11 #[u,v] w fun e w'=>e= .returned (.bool (Ee x y))∧w.grownBy w' none:=by
 obtain⟨pa,pc,la,lc,rfl,hp,hl⟩:=hx;obtain⟨pb,pd,lb,ld,rfl,hp2,hl2⟩:=hy;exact Fq hp hp2 (fun W g=>Hx _ x.kids y.kids (Nat.lt_succ_self _) _ _ la lb lc ld W (hl.gb g (by simp)) (hl2.gb g (by simp)))
theorem Ic{w:World}{ok ok':Nat→Prop}{u v:Value}{x y:Ex}(hx:VE ok w u x)(hy:VE ok' w v y):
 Calls Tryz.prog 14 #[u,v] w fun e w'=>e= .returned (.bool (Ee x y))∧w.grownBy w' none:=by
 obtain⟨pa,pc,la,lc,rfl,hp,hl⟩:=hx;obtain⟨pb,pd,lb,ld,rfl,hp2,hl2⟩:=hy;exact Fj hp hp2 (fun W g=>IH _ x.kids y.kids (Nat.lt_succ_self _) _ _ la lb lc ld W (hl.gb g (by simp)) (hl2.gb g (by simp)))
theorem Mh(y m d:Int)(hy0:0≤y)(hy1:y≤9999)(hm0:0≤m)(hm1:m≤99)(hd0:0≤d)(hd1:d≤99)(w:World):
 Calls Tryz.prog 274 #[.int .i64 y,.int .i64 m,.int .i64 d] w fun e w'=>e= .returned (.tuple #[.int .i64 (Bk y m d).1,.int .i64 (Bk y m d).2])∧w.grownBy w' none:=by
 by_cases h1:y<1
 ·have hB:Bk y m d=(0,1):=by simp[Bk,CD,h1]
  rw[hB];go_enter func274,ntmps274;go_wp2;exact bodyPost_ret (v:= .tuple #[_,_]) (by simp[results,results274,go_sem];try(congr 1;omega)) rfl ⟨rfl,Ac _ _⟩
 by_cases h2:m<1
 ·have hB:Bk y m d=(0,1):=by simp[Bk,CD,h2]
  rw[hB];go_enter func274,ntmps274;go_wp2;exact bodyPost_ret (v:= .tuple #[_,_]) (by simp[results,results274,go_sem];try(congr 1;omega)) rfl ⟨rfl,Ac _ _⟩
 by_cases h3:12<m
 ·have hB:Bk y m d=(0,1):=by simp[Bk,CD,h3]
  rw[hB];go_enter func274,ntmps274;go_wp2;exact bodyPost_ret (v:= .tuple #[_,_]) (by simp[results,results274,go_sem];try(congr 1;omega)) rfl ⟨rfl,Ac _ _⟩
 by_cases h4:d<1
 ·have hB:Bk y m d=(0,1):=by simp[Bk,CD,h4]
  rw[hB];go_enter func274,ntmps274;go_wp2;exact bodyPost_ret (v:= .tuple #[_,_]) (by simp[results,results274,go_sem];try(congr 1;omega)) rfl ⟨rfl,Ac _ _⟩
 have hml:=E6 y m (by omega) (by omega);have hyl:0≤Am y∧Am y≤4000000:=by
  unfold Am;rw[Int.tdiv_eq_ediv_of_nonneg (by omega),Int.tdiv_eq_ediv_of_nonneg (by omega),Int.tdiv_eq_ediv_of_nonneg (by omega)];omega
 by_cases h5:AE y m<d
 ·have hB:Bk y m d=(0,1):=by simp[Bk,CD,h5]
  rw[hB];go_enter func274,ntmps274;go_wp2_with fail;refine(DM y m (by omega) (by omega) (by omega) (by omega) _).mono ?_;rintro e w1 ⟨rfl,g1⟩;go_wp2;exact bodyPost_ret (v:= .tuple #[_,_]) (by simp[results,results274,go_sem];try(congr 1;omega)) rfl ⟨rfl,g1⟩
 have hB:Bk y m d=(Am y+d+Al y (m-1).toNat,0):=by simp[Bk,CD,h1,h2,h3,h4,h5];omega
 rw[hB];clear hB;go_enter func274,ntmps274;go_wp2_with fail;refine(DM y m (by omega) (by omega) (by omega) (by omega) _).mono ?_;rintro e w1 ⟨rfl,g1⟩;go_wp2_with fail;refine(Ev y (by omega) (by omega) _).mono ?_;rintro e w2 ⟨rfl,rfl⟩;go_wp2_with fail;generalize hM:(m-1).toNat=M at*;go_loopg [8,9,41] M (fun g v8 v9 v41 wr=>∃k:Nat,k+g=M∧v8= .int .i64 (Am y+d+Al y k)∧v41= .int .i64 k∧w.grownBy wr none)
 case atStart=>exact⟨0,by omega,by simp[Al],rfl,g1⟩
 case round=>
  obtain⟨k,hk,rfl,rfl,gr⟩:=hrel;have hbl:=FC y k (by omega);cases gk with
  | zero=>
    have hkM:k=M:=by omega
    subst hkM;go_wp2;exact bodyPost_ret (v:= .tuple #[_,_]) (by simp[results,results274,go_sem];try(congr 1;omega)) rfl ⟨rfl,gr⟩
  | succ gk=>
    go_wp2_with fail;refine(DM y (k+1) (by omega) (by omega) (by omega) (by omega) _).mono ?_;rintro e w3 ⟨rfl,g3⟩;have hm2:=E6 y (k+1) (by omega) (by omega);go_wp2_with fail;go_roundg gk
    case measure=>omega
    case rel=>exact⟨k+1,by omega,by simp[Al];omega,by simp,O gr g3⟩
def AF(b:UInt8):Bool:=decide (48≤b.toNat)&&decide (b.toNat≤57)
theorem N1(s:Bs)(k:Nat)(h:k<(⟨s.toArray⟩:ByteArray).size)(h2:k<s.length):(⟨s.toArray⟩:ByteArray)[k]'h=s[k]:=rfl
theorem FX(s:Bs)(k:Nat)(h:k<s.length):Ay (s.take (k+1))=10*Ay (s.take k)+((s[k].toNat:Int)-48):=by
 unfold Ay;rw[List.take_succ_eq_append_getElem h,List.foldl_append];rfl
theorem DZ(s:Bs)(hd:s.all AF=true):∀k,k≤s.length→0≤Ay (s.take k)∧Ay (s.take k)<10 ^ k:=by
 intro k;induction k with
 |zero=>intro _;simp[Ay]
 | succ k ih=>
   intro hk;have h1:=ih (by omega);have h2:=List.all_eq_true.1 hd s[k] (List.getElem_mem _);simp[AF]at h2;rw[FX s k (by omega),Int.pow_succ];omega
theorem Ii(s:Bs)(hd:s.all AF=true):Lib.trimLeftS s [32]=s:=by
 cases s with
 |nil=>rfl
 | cons c t=>
   simp[AF]at hd;have:c≠32:=by rintro rfl;simp at hd
   simp[Lib.trimLeftS,this]
theorem EQ(s:Bs)(hd:s.all AF=true)(h0:1≤s.length)(h8:s.length≤8)(w:World):
 Calls Tryz.prog 275 #[str s] w fun e w'=>e= .returned (.int .i64 (Ay s))∧w.grownBy w' none:=by
 cases s with
 |nil=>simp at h0
 |cons c t=>
 have hc:=List.all_eq_true.1 hd c (by simp);have hg:=GA c t;simp[AF]at hc;obtain⟨hc1,hc2⟩:=hc;have h45:((c.toNat:Int)==45)=false:=by simp;omega
 have h43:((c.toNat:Int)==43)=false:=by simp;omega
 have H:=I hd;have h8':t.length≤7:=by simpa using h8
 go_enter func275,ntmps275;go_wp2_with fail;refine(strings_TrimLeft ⟨(c::t).toArray⟩ ⟨#[32]⟩ _ (by decide) (ascii_of_all (by decide))).mono ?_;rintro e w1 ⟨rfl,hb⟩;have gr:=gbB hb none;rw[show Lib.trimLeftS (ByteArray.mk (c::t).toArray).data.toList (ByteArray.mk #[32]).data.toList=c::t from Ii _ H.out];clear hb;go_wp2_with fail;go_loopg [4,5,27] (c::t).length (fun g v4 v5 v27 wr=>∃k:Nat,k+g=(c::t).length∧v4= .int .i64 (Ay ((c::t).take k))∧v27= .int .i64 k∧w.grownBy wr none)
 case atStart=>exact⟨0,by omega,by simp[Ay],rfl,gr⟩
 case round=>
  obtain⟨k,hk,rfl,rfl,g⟩:=hrel;have hnl:0≤Ay ((c::t).take k)∧Ay ((c::t).take k)<100000000:=by
   have h1:=DZ (c::t) H.out k (by omega);have h2:(10:Int) ^ k≤10 ^ 8:=by exact_mod_cast Nat.pow_le_pow_right (n:=10) (by decide) (by simp only[List.length_cons]at hk;omega:k≤8)
   have h3:(10:Int) ^ 8=100000000:=by decide
   omega
  cases gk with
  | zero=>
    have hkM:k=t.length+1:=by simpa using hk
    rw[List.take_of_length_le (by simp;omega)]at*;generalize hzz:Ay (c::t)=z at*;have HZ:=I hzz;clear hzz;have hnlt:((k:Int)<(t.length:Int)+1)=False:=by simp;omega
    clear hk hkM;go_wp2;go_ret;exact⟨by rw[HZ.out];rfl,g⟩
  | succ gk=>
    have hlt:k<(c::t).length:=by omega
    have hx:=List.all_eq_true.1 H.out (c::t)[k] (List.getElem_mem _);simp only[AF,Bool.and_eq_true,decide_eq_true_eq]at hx;obtain⟨hx1,hx2⟩:=hx;have hgk:=fun h=>N1 (c::t) k h hlt;have hn1:=FX (c::t) k hlt;have hkl:(k:Int)<t.length+1:=by simp only[List.length_cons]at hlt;omega
    generalize hz:Ay ((c::t).take k)=z at*;generalize hq:(c::t)[k]=q at*;go_wp2_with fail;go_roundg gk
    case measure=>omega
    case rel=>exact⟨k+1,by omega,by rw[hn1];congr 1;omega,by simp,g⟩
end Go.Proofs.YtgjdhajcnechdaaGreatDoor
