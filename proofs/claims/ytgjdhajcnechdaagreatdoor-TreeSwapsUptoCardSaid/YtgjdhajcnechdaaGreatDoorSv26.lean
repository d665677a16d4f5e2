/-
  Lex. Plain laws: the tokens of a source are tame. Sizes of expressions: in, beside, isLarge, ofExpr.
-/
import Derived.Test.YtgjdhajcnechdaaGreatDoorSv25
import Derived.Test.YtgjdhajcnechdaaGreatDoorSv15
import Derived.Test.YtgjdhajcnechdaaGreatDoorSv22
set_option linter.all false
set_option maxRecDepth 100000
set_option maxHeartbeats 8000000
namespace Go.Proofs.YtgjdhajcnechdaaGreatDoor
open Go.Proofs.Tryz
open Go.RowKit
theorem N7(s:Bs):∀n i line,i≤s.length→2*(s.length-i)+line.toNat<n→BR s n i line ≠ .out:=by
 intro n;induction n using Nat.strongRecOn with
 | ind n ih=>
   intro i line hi hn;rw[FO];have hf:=M6 s n i line hi hn;cases hq:AI s n i line with
   | tok t j l m=>
     rw[hq]at hf;have:=ih m (Jf s n i line t j l m hq) j l hf.1 hf.2;show(BR s m j l).cons t ≠ .out;cases hr:BR s m j l with
     |ok l=>simp[LexR.cons]
     |bad k=>simp[LexR.cons]
     |out=>exact absurd hr this
   |stop=>simp
   |bad k=>simp
   |out=>rw[hq]at hf;exact hf.elim
def El(s:Bs):LexR:=BR s (2*s.length+1) 0 false
theorem FK(s:Bs):El s ≠ .out:=N7 s _ 0 false (Nat.zero_le _) (by simp)
theorem L6:∀(l:List Tok)(j:Nat),j<l.length→(B8 l)[j*3]? =some (.int .i64 (Ab l j).kind)∧(B8 l)[j*3+1]? =some (.int .i64 (Ab l j).pos)∧(B8 l)[j*3+2]? =some (str (Ab l j).text):=by
 intro l;induction l with
 |nil=>intro j h;simp at h
 | cons t l ih=>
   intro j h;have e:B8 (t::l)=C5 t++B8 l:=by simp[B8]
   rw[e];cases j with
   |zero=>exact⟨rfl,rfl,rfl⟩
   | succ j=>
     have h':=ih j (by simpa using h);have ht:Ab (t::l) (j+1)=Ab l j:=by simp[Ab]
     rw[ht];have hl:(C5 t).length=3:=rfl;refine⟨?_,?_,?_⟩
     ·rw[List.getElem?_append_right (by rw[hl];omega),hl,show(j+1)*3-3=j*3 by omega];exact h'.1
     ·rw[List.getElem?_append_right (by rw[hl];omega),hl,show(j+1)*3+1-3=j*3+1 by omega];exact h'.2.1
     ·rw[List.getElem?_append_right (by rw[hl];omega),hl,show(j+1)*3+2-3=j*3+2 by omega];exact h'.2.2
theorem Hu{w:World}{B:Nat}{v:Value}{l:List Tok}(h:w.ownsRow B 105 3 v l.length (B8 l)):TRow w v l (AA B):=by
 obtain⟨a,cap,e,h1,h2,h3,h4⟩:=B1 h;refine⟨a,cap,e,h1,h2,fun j hj=>?_⟩;obtain⟨c0,c1,c2⟩:=L6 l j hj;obtain⟨g,o,ea,hg,d0⟩:=h4 _ _ c0;obtain⟨g1,o1,ea1,_,d1⟩:=h4 _ _ c1;obtain⟨g2,o2,ea2,_,d2⟩:=h4 _ _ c2;rw[ea]at ea1 ea2;cases ea1;cases ea2;exact⟨g,o,ea,hg,d0,by rw[Nat.add_assoc];exact d1,by rw[Nat.add_assoc];exact d2⟩
theorem Qu(b:Nat)(w:World):Calls Tryz.prog 64 #[.pointer (some ⟨b,0,none⟩)] w fun e w'=>e= .returned (.func (.func 103) #[] #[.pointer (some ⟨w.heap.size,0,none⟩)])∧w'=w.alloc (.cells #[.pointer (some ⟨b,0,none⟩)] 98 (0,0)):=by
 have hmf:∀(fn:Fn)(first cap:Array Value)(w:World),(Instr.makeFunc fn first cap).run Tryz.prog w= .ok (.func fn first cap) w:=fun _ _ _ _=>rfl;go_enter func64,ntmps64;go_wp2;go_ret;exact⟨rfl,rfl⟩
theorem KR{w:World}{b cb i n:Nat}{s:Bs}{line:Bool}{R:LexR}(hbc:b≠cb)(hcb:w.cell? ⟨cb,0,none⟩=some (.pointer (some ⟨b,0,none⟩)))(hs:Sc w b s i line line (-1))(ht:Tabs b w)
 (hR:R ≠ .out) (hl:BR s n i line=R) (hn:n<100000):
 Calls Tryz.prog 63 #[.func (.func 103) #[] #[.pointer (some ⟨cb,0,none⟩)]] w
  fun e w'=>w.grownBy w' (some b)∧(∃v,e= .returned v∧GK b s (fun l W=>W.ownsRow (w.heap.size+3) 105 3 v l.length (B8 l)) R w'):=by
 have hA:=JY hbc hcb hs ht hR hl hn;have HA:=O hA;clear hA hl hcb hs ht hR hn;go_enter func63,ntmps63;go_wp2_with fail;refine HA.out.mono ?_;rintro e w1 ⟨g,v,rfl,hE⟩;have HE:=O hE;clear hE;go_wp2;go_ret;exact⟨g,_,rfl,HE.out⟩
theorem Qa:∀(cr:List Value)(k:Nat)(pre old post:List Value),old.length=cr.length→pre.length=2+k→
 (cr.zipIdx k).foldl (fun cs x=>cs.setIfInBounds (2+x.2) x.1) (pre++old++post).toArray=(pre++cr++post).toArray:=by
 intro cr;induction cr with
 | nil=>
   intro k pre old post h _;have:old=[]:=List.eq_nil_of_length_eq_zero (by simpa using h);subst this;rfl
 | cons c cr ih=>
   intro k pre old post h hp;cases old with
   |nil=>simp at h
   | cons o old=>
     rw[List.zipIdx_cons,List.foldl_cons];have e:(pre++o::old++post).toArray.setIfInBounds (2+k) c=((pre++[c])++old++post).toArray:=by
      rw[←hp];simp
     simp only[];rw[e,ih (k+1) (pre++[c]) old post (by simpa using h) (by simp;omega)];simp
theorem KK:Tryz.zeroCells102=([str [],Value.int .i64 0]++List.replicate 256 (Value.int .u8 0)++[Value.bool false,Value.bool false,Value.int .i64 0]).toArray:=by kernel_rfl
theorem set0(a v:Value)(l:List Value):(a::l).toArray.setIfInBounds 0 v=(v::l).toArray:=by simp
theorem Lj(s:Bs)(cr:List Value)(hc:cr.length=256):
 List.foldl (fun cs x=>cs.setIfInBounds (2+x.2) x.1) (Tryz.zeroCells102.setIfInBounds 0 (str s)) cr.zipIdx=([str s,Value.int .i64 0]++cr++[Value.bool false,Value.bool false,Value.int .i64 0]).toArray:=by
 rw[KK];have e:=set0 (str []) (str s) ([Value.int .i64 0]++List.replicate 256 (Value.int .u8 0)++[Value.bool false,Value.bool false,Value.int .i64 0]);have e2:([str [],Value.int .i64 0]++List.replicate 256 (Value.int .u8 0)++[Value.bool false,Value.bool false,Value.int .i64 0]).toArray.setIfInBounds 0 (str s)=([str s,Value.int .i64 0]++List.replicate 256 (Value.int .u8 0)++[Value.bool false,Value.bool false,Value.int .i64 0]).toArray:=e;rw[e2];exact Qa cr 0 [str s,Value.int .i64 0] (List.replicate 256 (Value.int .u8 0)) _ (by rw[List.length_replicate,hc]) rfl
theorem KD(s:Bs)(cr:List Value)(hc:cr.length=256):
 (([str s,Value.int .i64 0]++cr++[Value.bool false,Value.bool false,Value.int .i64 0]).toArray).setIfInBounds 260 (.int .i64 (-1))=(str s :: .int .i64 0::(cr++[.bool false,.bool false,.int .i64 (-1)])).toArray:=by
 rw[List.setIfInBounds_toArray];congr 1;rw[show(260:Nat)=258+1+1 from rfl];show str s::Value.int .i64 0::((cr++[Value.bool false,Value.bool false,Value.int .i64 0]).set 258 (.int .i64 (-1)))=_;rw[List.set_append_right _ _ (by omega),hc];rfl
theorem Tabs.mono{B B':Nat}{w:World}(h:Tabs B w)(hB:B≤B'):Tabs B' w:=by
 obtain⟨R,oR,cap,hR,hc⟩:=h.case;have:=h.low;exact⟨h.utf8,by omega,⟨R,oR,cap,by omega,hc⟩,h.glob⟩
def Qq(w:World)(s:Bs)(e:Ending)(w':World):Prop:=w.grownBy w' none∧
 if 4000<s.length then e= .returned (.tuple #[.slice none 0 0,.int .i64 0,.int .i64 3])
 else match El s with
  | .ok l=>if 1200<l.length then e= .returned (.tuple #[.slice none 0 0,.int .i64 0,.int .i64 3])else ∃v,e= .returned (.tuple #[v,.int .i64 l.length,.int .i64 0])∧TRow w' v l (AA w.heap.size)
  | .bad k=>e= .returned (.tuple #[.slice none 0 0,.int .i64 k,.int .i64 2])
  | .out=>False
theorem Rw{w:World}(ht:Tabs w.heap.size w)(s:Bs)(hs:s.length≤1000000):Calls Tryz.prog 36 #[str s] w (Qq w s):=by
 by_cases hl:4000<s.length
 ·have HP:=O hl;have hl1:decide ((4000:Int)<s.length)=true:=by simp;omega
  go_enter func36,ntmps36;go_wp2;exact bodyPost_ret (v:= .tuple #[.slice none 0 0,.int .i64 0,.int .i64 3]) (by simp[results,results36,go_sem]) rfl ⟨Ac _ _,by rw[if_pos HP.out]⟩
 ·have HP:=O hl;have hl1:decide ((4000:Int)<s.length)=false:=by simp;omega
  go_enter func36,ntmps36;go_wp2_with fail;refine(KP _).mono ?_;rintro e w1 ⟨rfl,g1⟩;have hcl:=Ee 256;have HF:=O (Lj s (AD 256) hcl);have HC:=O (KD s (AD 256) hcl);generalize hcr:AD 256=cr at*;have HR:=O hcr;clear hcr;go_wp2_with fail
  ·exfalso;rw[HF.out]at h;simp[hcl]at h
  rw[HF.out,HC.out];refine(Qu _ _).mono ?_;rintro e w2 ⟨rfl,rfl⟩;have g2:w1.grownBy ((w1.alloc (.cells (str s :: .int .i64 0::(cr++[.bool false,.bool false,.int .i64 (-1)])).toArray 102 (0,0))).alloc (.cells #[.pointer (some ⟨w1.heap.size,0,none⟩)] 98 (0,0))) none:=Ad (World.grownBy_alloc w1 _ none) _;have hS:Sc ((w1.alloc (.cells (str s :: .int .i64 0::(cr++[.bool false,.bool false,.int .i64 (-1)])).toArray 102 (0,0))).alloc (.cells #[.pointer (some ⟨w1.heap.size,0,none⟩)] 98 (0,0))) w1.heap.size s 0 false false (-1):=by
   refine⟨((Blk.new w1 _ _).alloc _).of_eq rfl ?_,Nat.zero_le _,by omega⟩;rw[←HR.out];rfl
  have hcb:((w1.alloc (.cells (str s :: .int .i64 0::(cr++[.bool false,.bool false,.int .i64 (-1)])).toArray 102 (0,0))).alloc (.cells #[.pointer (some ⟨w1.heap.size,0,none⟩)] 98 (0,0))).cell? ⟨w1.heap.size+1,0,none⟩=some (.pointer (some ⟨w1.heap.size,0,none⟩)):=by
   simp
  have hsz:(w1.alloc (.cells (str s :: .int .i64 0::(cr++[.bool false,.bool false,.int .i64 (-1)])).toArray 102 (0,0))).heap.size=w1.heap.size+1:=by simp
  rw[hsz];have ht2:=(ht.gbN g1).gbN g2;have gA:=Aa g1 g2;generalize((w1.alloc (.cells (str s :: .int .i64 0::(cr++[.bool false,.bool false,.int .i64 (-1)])).toArray 102 (0,0))).alloc (.cells #[.pointer (some ⟨w1.heap.size,0,none⟩)] 98 (0,0)))=W at*;generalize(str s :: .int .i64 0::(cr++[.bool false,.bool false,.int .i64 (-1)])).toArray=big at*;have hw1:=g1.size;have hC:=KR (n:=2*s.length+1) (by omega) hcb hS (ht2.mono hw1) (FK s) rfl (by omega);have HW:=O hC;clear hC hcb hS ht2 HF HC HR hcl hsz;go_wp2_with fail;refine HW.out.mono ?_;rintro e w3 ⟨g3,v,rfl,hE⟩;have gB:=Ar gA g3 (.inr hw1);cases hq:El s with
  |out=>exact absurd hq (FK s)
  | bad k=>
    rw[hq]at hE;obtain⟨_,j,l',hs3⟩:=hE;have HQ:=O hq;clear hq;have d260:=hs3.c260;have hlt:=hs3.lt;go_wp2;go_quiet(fail);go_wp2;exact bodyPost_ret (v:= .tuple #[.slice none 0 0,.int .i64 k,.int .i64 2]) (by simp[results,results36,go_sem]) rfl ⟨A3 gB _,by rw[if_neg HP.out,HQ.out]⟩
  | ok l=>
    rw[hq]at hE;obtain⟨hO,j,l',hs3⟩:=hE;have HQ:=O hq;clear hq;have hT:=Hu hO;obtain⟨a,cap,rfl,_⟩:=id hT;have HT:=O hT;clear hT hO;have d260:=hs3.c260;have hlt:=hs3.lt;have hwA:=gA.size;by_cases hm:1200<l.length
    ·have HM:=O hm;have hm1:decide ((1200:Int)<l.length)=true:=by simp;omega
     clear hm;go_wp2;exact bodyPost_ret (v:= .tuple #[.slice none 0 0,.int .i64 0,.int .i64 3]) (by simp[results,results36,go_sem]) rfl ⟨gB,by rw[if_neg HP.out,HQ.out];show ite _ _ _;rw[if_pos HM.out]⟩
    ·have HM:=O hm;have hm1:decide ((1200:Int)<l.length)=false:=by simp;omega
     clear hm;go_wp2;refine bodyPost_ret (v:= .tuple #[.slice a l.length cap,.int .i64 l.length,.int .i64 0]) (by simp[results,results36,go_sem]) rfl ⟨gB,?_⟩;rw[if_neg HP.out,HQ.out];show ite _ _ _;rw[if_neg HM.out];exact⟨_,rfl,TRow.mono HT.out fun k hk _=>by simp at hk ⊢;omega⟩
structure DP(t:Tok):Prop where
 short:t.text.length≤4000
 num:t.kind=1→1≤t.text.length∧t.text.length≤15∧t.text.all AF=true
 word:t.kind=0→(∃c r,t.text=c::r∧AF c=false)∧t.text.all Cq=true
theorem Fz(b:UInt8):cls 2 b=AF b:=by
 rw[Bool.eq_iff_iff];simp only[cls,AF,beq_iff_eq,Bool.and_eq_true,decide_eq_true_eq];rcases E7 b.toNat with⟨h2,h3⟩| ⟨h2,h3⟩| ⟨h2,h3⟩| ⟨h2,h3⟩| ⟨h2,h3⟩<;>rw[h2]<;>constructor<;>intro h<;>first|omega| (exfalso;omega)
theorem Il(b:UInt8)(h:Bb b=true):Cq (Lib.upperB b)=true∧(cls 1 b=true→AF (Lib.upperB b)=false):=by
 have hall:∀n:Fin 256,Bb (UInt8.ofNat n.val)=true→Cq (Lib.upperB (UInt8.ofNat n.val))=true∧(cls 1 (UInt8.ofNat n.val)=true→AF (Lib.upperB (UInt8.ofNat n.val))=false):=by decide+kernel
 have e:UInt8.ofNat b.toNat=b:=by simp
 have:=hall ⟨b.toNat,b.toNat_lt⟩;simp only[e]at this;exact this h
theorem Gj{s:Bs}{i j:Nat}:(A9 s i j).length≤s.length:=by simp[A9];omega
theorem O5{s:Bs}{i:Nat}(hi:i<s.length)(hs:s.length≤4000){t:Tok}{j:Nat}{l:Bool}(h:B3 s i= .tok t j l):DP t:=by
 unfold B3 at h;split at h
 ·rename_i h1;split at h
  ·cases h
  ·cases h;have hge:i+1≤Ao s Bb i:=by rw[BO hi (by simp[Bb,h1])];exact Bz _ _ _
   have hsl:A9 s i (Ao s Bb i)=bAt s i::A9 s (i+1) (Ao s Bb i):=Io (by omega) (BV (by omega));refine⟨by simp only[Lib.toUpperA,List.length_map];exact Nat.le_trans Gj hs,by simp,fun _=>⟨⟨Lib.upperB (bAt s i),Lib.toUpperA (A9 s (i+1) (Ao s Bb i)),by simp[hsl,Lib.toUpperA],(Il _ (by simp[Bb,h1])).2 h1⟩,?_⟩⟩;rw[List.all_eq_true];intro x hx;obtain⟨y,hy,rfl⟩:=List.mem_map.1 hx;exact(Il y (Gk (by omega) y hy)).1
 ·split at h
  ·rename_i h1;split at h
   ·cases h
   ·cases h;have hge:i+1≤Ao s (cls 2) i:=by rw[BO hi h1];exact Bz _ _ _
    have hle:Ao s (cls 2) i≤s.length:=BV (by omega);refine⟨Nat.le_trans Gj hs,fun _=>⟨?_,?_,?_⟩,by simp⟩
    ·simp only[Dv (by omega:i≤Ao s (cls 2) i) hle];omega
    ·simp only[Dv (by omega:i≤Ao s (cls 2) i) hle];omega
    ·rw[List.all_eq_true];intro x hx;rw[←Fz];exact Gk (by omega) x hx
  ·split at h
   ·unfold Db at h;simp only[]at h;split at h
    ·split at h
     ·cases h
     ·cases h;exact⟨Nat.le_trans Gj hs,by simp,by simp⟩
    ·cases h
   ·cases hd:BD (s.drop i)with
    | some p=>
      obtain⟨d,n⟩:=p;rw[hd]at h;cases h;refine⟨?_,by simp,by simp⟩;unfold BD at hd;split at hd
      ·cases hd;simp
      ·split at hd
       ·split at hd
        ·cases hd;simp[CJ,A9];omega
        ·cases hd
       ·cases hd
    | none=>
      rw[hd]at h;cases hs2:De s i with
      |none=>rw[hs2]at h;cases h
      | some w=>
        rw[hs2]at h;cases h;have:=Ge (II hs2).1;exact⟨by simp;omega,by simp,by simp⟩
theorem Iw(i:Nat):DP ⟨5,i,[]⟩:=⟨by simp,by simp,by simp⟩
theorem Ms{s:Bs}{i:Nat}{line:Bool}(hs:s.length≤4000){t:Tok}{j:Nat}{l:Bool}(h:BM s i line= .tok t j l):DP t:=by
 unfold BM at h;split at h
 ·split at h
  ·cases h;exact Iw i
  ·cases h
 ·split at h
  ·split at h
   ·cases h;exact Iw i
   ·cases h
  ·split at h
   ·cases h
   ·split at h
    ·split at h<;>cases h
    ·split at h
     ·split at h
      ·split at h<;>cases h
      ·cases h
     ·exact O5 (by omega) hs h
theorem Rv{s:Bs}(hs:s.length≤4000):∀n i line ts,BR s n i line= .ok ts→∀t∈ts,DP t:=by
 intro n;induction n with
 |zero=>intro i line ts h;cases h
 | succ n ih=>
   intro i line ts h;rw[BR]at h;cases hq:BM s i line with
   | tok t j l=>
     rw[hq]at h;simp only at h;cases hr:BR s n j l with
     | ok ts'=>
       rw[hr]at h;cases h;intro t' ht';rcases List.mem_cons.1 ht' with rfl|ht'
       ·exact Ms hs hq
       ·exact ih j l ts' hr t' ht'
     |bad k=>rw[hr]at h;cases h
     |out=>rw[hr]at h;cases h
   |again j l=>rw[hq]at h;exact ih j l ts h
   |stop=>rw[hq]at h;cases h;simp
   |bad k=>rw[hq]at h;cases h
theorem Gy{ts:List Tok}(h:∀t∈ts,DP t)(i:Nat):DP (Ab ts i):=by
 unfold Ab;cases hi:ts[i]? with
 |none=>exact⟨by simp,by simp,by simp⟩
 |some t=>exact h t (List.mem_of_getElem? hi)
theorem PV:∀(s:Bs)(a:Nat),s.all AF=true→∃n:Nat,Lib.decFrom a s=some n∧(n:Int)=s.foldl (fun n b=>10*n+((b.toNat:Int)-48)) (a:Int):=by
 intro s;induction s with
 |nil=>intro a _;exact⟨a,rfl,rfl⟩
 | cons b r ih=>
   intro a h;simp only[List.all_cons,Bool.and_eq_true,AF,decide_eq_true_eq]at h;obtain⟨n,h1,h2⟩:=ih (a*10+(b.toNat-48)) h.2;refine⟨n,?_,?_⟩
   ·rw[Lib.decFrom,Lib.digitVal,if_pos h.1];exact h1
   ·rw[List.foldl_cons,h2];congr 1;omega
theorem PL(s:Bs)(h1:1≤s.length)(hd:s.all AF=true):Lib.atoi s=some (Aq s):=by
 cases s with
 |nil=>simp at h1
 | cons b r=>
   obtain⟨n,h2,h3⟩:=PV (b::r) 0 hd;simp only[List.all_cons,Bool.and_eq_true,AF,decide_eq_true_eq]at hd;have e45:(b==45)=false:=by simp;rintro rfl;simp at hd
   have e43:(b==43)=false:=by simp;rintro rfl;simp at hd
   have e:Lib.decNat (b::r)=some n:=h2;simp only[Lib.atoi,e45,e43,e,Bool.false_eq_true,if_false,Option.map_some];rw[h3];rfl
def AJ(s:Bs):Int:=(Bj s).1
theorem ML{ts:List Tok}(h:∀t∈ts,DP t):Dg AJ ts:=by
 refine⟨fun i=>(Gy h i).short,fun i hi=>?_,fun i _ w=>?_⟩
 ·have:=(Gy h i).num hi;exact⟨by omega,PL _ this.1 this.2.2⟩
 ·refine(Iq (Ab ts i).text (by have:=(Gy h i).short;omega) w).mono ?_;rintro e w' ⟨rfl,g⟩;exact⟨⟨_,rfl⟩,g⟩
theorem LK{s:Bs}(hs:s.length≤4000){ts:List Tok}(h:El s= .ok ts):Dg AJ ts:=ML (Rv hs _ _ _ _ h)
def Fo.nodes:Fo→Nat
 | .nil=>0
 | .cons _ kids next=>1+kids.nodes+next.nodes
def Fo.levels:Fo→Nat
 | .nil=>0
 | .cons _ kids next=>max (1+kids.levels) next.levels
def Ex.nodes(x:Ex):Nat:=1+x.kids.nodes
def Ex.levels(x:Ex):Nat:=1+x.kids.levels
theorem Fo.len_nodes:∀f:Fo,f.len≤f.nodes∧f.levels≤f.nodes:=by
 intro f;induction f with
 |nil=>simp[Fo.len,Fo.nodes,Fo.levels]
 |cons h kids next ih1 ih2=>simp only[Fo.len,Fo.nodes,Fo.levels];omega
abbrev szV(n m:Int):Value:= .agg #[.int .i64 n,.int .i64 m]
theorem Ik(a b c d:Nat)(ha:a+c≤1000000000)(hb:b≤1000000000)(hd:d≤1000000000)(w:World):
 Calls Tryz.prog 55 #[szV a b,szV c d] w fun e w'=>e= .returned (szV ((a+c:Nat):Int) ((max b (d+1):Nat):Int))∧w.grownBy w' none:=by
 have e1:((a+c:Nat):Int)=(a:Int)+c:=by push_cast;rfl
 have e2:((max b (d+1):Nat):Int)=max (b:Int) ((d:Int)+1):=by omega
 rw[e1,e2];clear e1 e2;go_enter func55,ntmps55;go_wp2;exact bodyPost_ret (v:=szV ((a:Int)+c) (max (b:Int) ((d:Int)+1))) (by simp[results,results55,go_sem]) rfl ⟨rfl,(by repeat(first| (with_reducible exact Ac _ _)| (with_reducible assumption)| (with_reducible exact AU (by assumption))| (with_reducible refine Ad ?_ _)| (with_reducible refine Am ?_)| (with_reducible refine A3 ?_ _)| ((with_reducible refine Ay ?_ _ _ ?h2);case h2=>first|exact .inl rfl|exact .inr (Nat.le_refl _)|exact .inr (by simp<;>omega))| (with_reducible refine Ah ?_ (by assumption))| (with_reducible refine Aa ?_ (by assumption))))⟩
theorem Hj(a b c d:Nat)(ha:a+c≤1000000000)(hb:b≤1000000000)(hd:d≤1000000000)(w:World):
 Calls Tryz.prog 92 #[szV a b,szV c d] w fun e w'=>e= .returned (szV ((a+c:Nat):Int) ((max b d:Nat):Int))∧w.grownBy w' none:=by
 have e1:((a+c:Nat):Int)=(a:Int)+c:=by push_cast;rfl
 have e2:((max b d:Nat):Int)=max (b:Int) d:=by omega
 rw[e1,e2];clear e1 e2;go_enter func92,ntmps92;go_wp2;exact bodyPost_ret (v:=szV ((a:Int)+c) (max (b:Int) d)) (by simp[results,results92,go_sem]) rfl ⟨rfl,(by repeat(first| (with_reducible exact Ac _ _)| (with_reducible assumption)| (with_reducible exact AU (by assumption))| (with_reducible refine Ad ?_ _)| (with_reducible refine Am ?_)| (with_reducible refine A3 ?_ _)| ((with_reducible refine Ay ?_ _ _ ?h2);case h2=>first|exact .inl rfl|exact .inr (Nat.le_refl _)|exact .inr (by simp<;>omega))| (with_reducible refine Ah ?_ (by assumption))| (with_reducible refine Aa ?_ (by assumption))))⟩
def AL(n m:Nat):Bool:=decide (400<n)||decide (14<m)
theorem EU(n m:Nat)(w:World):
 Calls Tryz.prog 27 #[szV n m] w fun e w'=>e= .returned (.bool (AL n m))∧w.grownBy w' none:=by
 cases h1:decide (400<n)with
 | true=>
   have HM:=O (show AL n m=true by unfold AL;rw[h1];rfl);have h2:decide ((400:Int)<n)=true:=by simp at h1 ⊢;omega
   clear h1;go_enter func27,ntmps27;go_wp2;go_ret;exact⟨by rw[HM.out];rfl,(by repeat(first| (with_reducible exact Ac _ _)| (with_reducible assumption)| (with_reducible exact AU (by assumption))| (with_reducible refine Ad ?_ _)| (with_reducible refine Am ?_)| (with_reducible refine A3 ?_ _)| ((with_reducible refine Ay ?_ _ _ ?h2);case h2=>first|exact .inl rfl|exact .inr (Nat.le_refl _)|exact .inr (by simp<;>omega))| (with_reducible refine Ah ?_ (by assumption))| (with_reducible refine Aa ?_ (by assumption))))⟩
 | false=>
   have HM:=O (show AL n m=decide ((14:Int)<m)by unfold AL;rw[h1,Bool.false_or,decide_eq_decide];omega);have h2:decide ((400:Int)<n)=false:=by simp at h1 ⊢;omega
   clear h1;go_enter func27,ntmps27;go_wp2;go_ret;exact⟨by rw[HM.out];rfl,(by repeat(first| (with_reducible exact Ac _ _)| (with_reducible assumption)| (with_reducible exact AU (by assumption))| (with_reducible refine Ad ?_ _)| (with_reducible refine Am ?_)| (with_reducible refine A3 ?_ _)| ((with_reducible refine Ay ?_ _ _ ?h2);case h2=>first|exact .inl rfl|exact .inr (Nat.le_refl _)|exact .inr (by simp<;>omega))| (with_reducible refine Ah ?_ (by assumption))| (with_reducible refine Aa ?_ (by assumption))))⟩
theorem Fj{fn:Func}{p:Tmp}(h:fn.results=#[.cell p 61])(tmps:Array Value){w:World}{k:Nat}{a b:Value}(hb:Blk w k [a,b] 61)
 (hp:tmps.getD p undef= .pointer (some ⟨k,0,none⟩)):(results fn tmps).run Tryz.prog w= .ok (.agg #[a,b]) w:=by
 have c0:=hb.cell 0;have c1:=hb.cell 1;have hp':tmps[p]?.getD undef= .pointer (some ⟨k,0,none⟩):=by simpa using hp
 simp only[List.getElem?_cons_zero,List.getElem?_cons_succ]at c0 c1;simp[results,h,hp',go_sem,c0,c1]
theorem Blk.set2{w:World}{k:Nat}{a0 a1:Value}{t:TypeId}(h:Blk w k [a0,a1] t)(v0 v1:Value):Blk ((w.setCell ⟨k,0,none⟩ v0).setCell ⟨k,1,none⟩ v1) k [v0,v1] t:=
 ((h.set 0 v0).set 1 v1).of_eq rfl rfl
structure SzRel(ok:Nat→Prop)(w:World)(f rest:Fo)(cs:List Value)(k n m:Nat)(wr:World):Prop where
 len:f.len=k+rest.len
 row:RepF ok w rest (cs.drop (k*7))
 nodes:n+rest.nodes=1+f.nodes
 levels:max m (1+rest.levels)=1+f.levels
 pos:1≤m∧1≤n
 acc:Blk wr (w.heap.size+2) [.int .i64 n,.int .i64 m] 61
 res:Blk wr (w.heap.size+1) [.int .i64 0,.int .i64 0] 61
 g:w.grownBy wr none
theorem SzRel.next{ok:Nat→Prop}{w:World}{f kids next:Fo}{h':Hd}{cs:List Value}{k n m:Nat}{wr w1:World}(h:SzRel ok w f (.cons h' kids next) cs k n m wr)
 (hacc:Blk w1 (w.heap.size+2) [.int .i64 ((n+(1+kids.nodes):Nat):Int),.int .i64 ((max m (1+kids.levels+1):Nat):Int)] 61) (hres:Blk w1 (w.heap.size+1) [.int .i64 0,.int .i64 0] 61) (g:w.grownBy w1 none):
 SzRel ok w f next cs (k+1) (n+(1+kids.nodes)) (max m (1+kids.levels+1)) w1:=by
 have h1:=h.len;have h3:=h.nodes;have h4:=h.levels;have h5:=h.pos;simp only[Fo.len,Fo.nodes,Fo.levels]at h1 h3 h4;refine⟨by omega,?_,by omega,by omega,⟨by omega,by omega⟩,hacc,hres,g⟩;obtain⟨pv,lv,kcs,rcs,hcs,_,_,_,hn⟩:=h.row;have e:cs.drop ((k+1)*7)=rcs:=by
  rw[show(k+1)*7=k*7+7 by omega,←List.drop_drop,hcs];exact List.drop_left' rfl
 rw[e];exact hn
theorem Jh:∀(N:Nat)(f:Fo),f.nodes<N→f.nodes≤1000000→∀(ok:Nat→Prop)(h:Hd)(pa:Option Addr)(pn pc:Nat)(la:Option Addr)(lc:Nat)(w:World),RepL ok w (.slice la f.len lc) f→
 Calls Tryz.prog 28 #[exV h (.slice pa pn pc) (.slice la f.len lc)] w fun e w'=>e= .returned (szV ((1+f.nodes:Nat):Int) ((1+f.levels:Nat):Int))∧w.grownBy w' none:=by
 intro N;induction N with
 |zero=>intro f hN;omega
 | succ N ih=>
   intro f hN hn ok h pa pn pc la lc w hrep;obtain⟨cs,hcells,hrow⟩:=hrep;obtain⟨la',lc',e,h1,h2,h3,h4⟩:=hcells;cases e;have hfl:=f.len_nodes;have hA:SzRel ok w f f cs 0 1 1 (((w.alloc (.cells #[.int .i64 h.op,str h.s,.int .i64 h.vk,.int .i64 h.vn,str h.vs,.slice pa pn pc,.slice la f.len lc] 27 (0,0))).alloc (.cells #[.int .i64 0,.int .i64 0] 61 (0,0))).alloc (.cells #[.int .i64 1,.int .i64 1] 61 (0,0))):=
    ⟨by simp,by simpa using hrow,rfl,by omega,⟨Nat.le_refl _,Nat.le_refl _⟩,(Blk.new _ [.int .i64 1,.int .i64 1] _).of_eq (by simp) rfl,((Blk.new _ [.int .i64 0,.int .i64 0] _).of_eq (by simp) rfl).alloc _,Ad (Ad (World.grownBy_alloc w _ none) _) _⟩
   have H4:=O (Z h4 ih);clear h4 ih hrow;go_enter func28,ntmps28;go_wp2_with fail;go_loopg [10] f.len (fun g v10 wr=>∃rest:Fo,∃k n m:Nat,rest.len=g∧v10= .int .i64 k∧SzRel ok w f rest cs k n m wr)
   case atStart=>exact⟨f,0,1,1,rfl,rfl,hA⟩
   case round=>
    obtain⟨rest,k,n,m,hg,rfl,hr⟩:=hrel;clear hA;have a0:=hr.acc.cell 0;have a1:=hr.acc.cell 1;have r0:=hr.res.cell 0;have r1:=hr.res.cell 1;have rf:=fun k=>hr.res.frozen k;have af:=fun k=>hr.acc.frozen k;have al:=hr.acc.lt;simp only[List.getElem?_cons_zero,List.getElem?_cons_succ]at a0 a1 r0 r1;cases rest with
    | nil=>
      have hlen:=hr.len;have hkI:decide (k<f.len)=false:=by simp[Fo.len]at hlen;simp;omega
      have hnm:n=1+f.nodes∧m=1+f.levels:=by
       have h1:=hr.nodes;have h2:=hr.levels;have h3:=hr.pos;simp[Fo.nodes,Fo.levels]at h1 h2;omega
      have HN:=O hnm;clear hnm hlen hg;go_wp2;refine bodyPost_ret (Fj rfl _ (hr.res.set2 _ _) rfl) rfl ⟨by rw[HN.out.1,HN.out.2],?_⟩;have g:=hr.g;exact (by repeat(first| (with_reducible exact Ac _ _)| (with_reducible assumption)| (with_reducible exact AU (by assumption))| (with_reducible refine Ad ?_ _)| (with_reducible refine Am ?_)| (with_reducible refine A3 ?_ _)| ((with_reducible refine Ay ?_ _ _ ?h2);case h2=>first|exact .inl rfl|exact .inr (Nat.le_refl _)|exact .inr (by simp<;>omega))| (with_reducible refine Ah ?_ (by assumption))| (with_reducible refine Aa ?_ (by assumption))))
    | cons h' kids next=>
      simp only[Fo.len]at hg;subst hg;have hlen:=hr.len;simp only[Fo.len]at hlen;have hkI:decide (k<f.len)=true:=by simp;omega
      obtain⟨pv',lv',kcs,rcs,hcs,hp,hl,hkids,hnext⟩:=hr.row;obtain⟨pa',pc',rfl,_⟩:=hp;have hL:RepL ok w lv' kids:=⟨kcs,hl,hkids⟩;obtain⟨la2,lc2,rfl,_⟩:=hl;have hat:∀i u,(hdC h' (.slice pa' h'.p.length pc') (.slice la2 kids.len lc2))[i]? =some u→∃g o,la=some ⟨g,o,none⟩∧ok g∧w.cell? ⟨g,o+(k*7+i),none⟩=some u:=by
       intro i u hu;refine H4.out.1 (k*7+i) u ?_;have:cs[k*7+i]? =(cs.drop (k*7))[i]?:=by simp
       rw[this,hcs,List.getElem?_append_left (by have:=(List.getElem?_eq_some_iff.1 hu).1;exact this)];exact hu
      obtain⟨g,o,rfl,hok,y0⟩:=hat 0 _ rfl;obtain⟨_,_,e1,_,y1⟩:=hat 1 _ rfl;cases e1;obtain⟨_,_,e1,_,y2⟩:=hat 2 _ rfl;cases e1;obtain⟨_,_,e1,_,y3⟩:=hat 3 _ rfl;cases e1;obtain⟨_,_,e1,_,y4⟩:=hat 4 _ rfl;cases e1;obtain⟨_,_,e1,_,y5⟩:=hat 5 _ rfl;cases e1;obtain⟨_,_,e1,_,y6⟩:=hat 6 _ rfl;cases e1;have hgl:=World.block_lt_of_cell? w _ y0;have z0:=Af hr.g y0;have z1:=Af hr.g y1;have z2:=Af hr.g y2;have z3:=Af hr.g y3;have z4:=Af hr.g y4;have z5:=Af hr.g y5;have z6:=Af hr.g y6;simp only[Nat.add_zero,←Nat.add_assoc]at z0 z1 z2 z3 z4 z5 z6;clear y0 y1 y2 y3 y4 y5 y6;clear hat;have hno:=hr.nodes;simp only[Fo.nodes]at hno;have hmo:=hr.levels;simp only[Fo.levels]at hmo;have hkl:=kids.len_nodes;have hpo:=hr.pos;have hk0:kids.nodes<N:=by omega
      have HL:=O (fun(W:World)(gW:wr.grownBy W none)=>H4.out.2 kids hk0 (by omega) ok h' pa' h'.p.length pc' la2 lc2 W (hL.gb (Aa hr.g gW) (by simp)));have HI:=O (fun(W:World)=>Ik n m (1+kids.nodes) (1+kids.levels) (by omega) (by omega) (by omega) W);have HR:=O hr;have hkl2:k+1≤f.len:=by omega
      clear hL hnext hkids hcs hr hno hmo hlen hpo;have hy:=Blk.new wr (hdC h' (.slice pa' h'.p.length pc') (.slice la2 kids.len lc2)) 27;have hac:=HR.out.acc.alloc (.cells (hdC h' (.slice pa' h'.p.length pc') (.slice la2 kids.len lc2)).toArray 27 (0,0));have HY:=O (Z hy hac);clear hy hac;have hws:=HR.out.g.size;go_wp2_with fail;go_region_with(first
       | (go_at_call 28;refine(HL.out _ ?gg).mono ?_;(case gg=>exact (by repeat(first| (with_reducible exact Ac _ _)| (with_reducible assumption)| (with_reducible exact AU (by assumption))| (with_reducible refine Ad ?_ _)| (with_reducible refine Am ?_)| (with_reducible refine A3 ?_ _)| ((with_reducible refine Ay ?_ _ _ ?h2);case h2=>first|exact .inl rfl|exact .inr (Nat.le_refl _)|exact .inr (by simp<;>omega))| (with_reducible refine Ah ?_ (by assumption))| (with_reducible refine Aa ?_ (by assumption)))));rintro e w5 ⟨rfl,g5⟩;(have y5:=(HY.out.1.drewN 1).gb g5 (by simp));(have ac5:=(HY.out.2.drewN 1).gb g5 (by simp));(have b0:=y5.cell 0);(have b1:=y5.cell 1);(have b2:=y5.cell 2);(have b3:=y5.cell 3);(have b4:=y5.cell 4);(have b5:=y5.cell 5);(have b6:=y5.cell 6);(have d0:=ac5.cell 0);(have d1:=ac5.cell 1);(have df:=fun k=>ac5.frozen k);(have dl:=ac5.lt);(simp only[hdC,List.getElem?_cons_zero,List.getElem?_cons_succ]at b0 b1 b2 b3 b4 b5 b6 d0 d1))
       | (go_at_call 55;refine(HI.out _).mono ?_;rintro e w6 ⟨rfl,g6⟩;(have ac6:=ac5.gb g6 (by simp));(have m0:=ac6.cell 0);(have m1:=ac6.cell 1);(have mf:=fun k=>ac6.frozen k);(have ml:=ac6.lt);(simp only[List.getElem?_cons_zero,List.getElem?_cons_succ]at m0 m1)))
      all_goals
       have hre:=((((HR.out.res.alloc (.cells (hdC h' (.slice pa' h'.p.length pc') (.slice la2 kids.len lc2)).toArray 27 (0,0))).drewN 1).gb g5 (by simp)).gb g6 (by simp));have gg:=Ah (Ah (Am (Ad HR.out.g (.cells (hdC h' (.slice pa' h'.p.length pc') (.slice la2 kids.len lc2)).toArray 27 (0,0)))) g5) g6;have HX:=O (Z ac6 (Z hre gg));clear hre gg;go_wp2;go_roundg next.len
       case measure=>omega
       case rel=>
        refine⟨next,k+1,n+(1+kids.nodes),max m (1+kids.levels+1),rfl,by simp,HR.out.next ((HX.out.1.set2 _ _).of_eq (by omega) (by push_cast;rfl)) ((HX.out.2.1.set_other _ _ (by simp)).set_other _ _ (by simp)) (Ay (Ay HX.out.2.2 _ _ (.inr (by simp;omega))) _ _ (.inr (by simp;omega)))⟩
theorem Ga{ok:Nat→Prop}{w:World}{v:Value}{x:Ex}(h:VE ok w v x)(hn:x.kids.nodes≤1000000):
 Calls Tryz.prog 28 #[v] w fun e w'=>e= .returned (szV (x.nodes:Int) (x.levels:Int))∧w.grownBy w' none:=by
 obtain⟨pa,pc,la,lc,rfl,_,hl⟩:=h;exact Jh (x.kids.nodes+1) x.kids (by omega) hn ok x.h pa x.h.p.length pc la lc w hl
end Go.Proofs.YtgjdhajcnechdaaGreatDoor
