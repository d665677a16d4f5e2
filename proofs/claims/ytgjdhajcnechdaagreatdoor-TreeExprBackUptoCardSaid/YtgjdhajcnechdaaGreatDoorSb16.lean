/-
  Lex. Plain laws: the tokens of a source are tame. Sizes of expressions: in, beside, isLarge, ofExpr. Plain laws: what the reference says of an expression, by writing and reading it again, is whether i
-/
import Derived.Test.YtgjdhajcnechdaaGreatDoorSb15
import Derived.Test.YtgjdhajcnechdaaGreatDoorSb13
import Derived.Test.YtgjdhajcnechdaaGreatDoorSb10
import Derived.Test.YtgjdhajcnechdaaGreatDoorSb08
import Derived.Lib.ItoaMem
set_option linter.all false
set_option maxRecDepth 100000
set_option maxHeartbeats 8000000
namespace Go.Proofs.YtgjdhajcnechdaaGreatDoor
open Go.Proofs.Tryz
open Go.RowKit
theorem Lh(s:Bs):∀n i line,i≤s.length→2*(s.length-i)+line.toNat<n→AO s n i line ≠ .out:=by
 intro n;induction n using Nat.strongRecOn with
 | ind n ih=>
   intro i line hi hn;rw[E4];have hf:=JI s n i line hi hn;cases hq:A2 s n i line with
   | tok t j l m=>
     rw[hq]at hf;have:=ih m (G2 s n i line t j l m hq) j l hf.1 hf.2;show(AO s m j l).cons t ≠ .out;cases hr:AO s m j l with
     |ok l=>simp[LexR.cons]
     |bad k=>simp[LexR.cons]
     |out=>exact absurd hr this
   |stop=>simp
   |bad k=>simp
   |out=>rw[hq]at hf;exact hf.elim
def Cw(s:Bs):LexR:=AO s (2*s.length+1) 0 false
theorem Ep(s:Bs):Cw s ≠ .out:=Lh s _ 0 false (Nat.zero_le _) (by simp)
theorem IL:∀(l:List Tok)(j:Nat),j<l.length→(BL l)[j*3]? =some (.int .i64 (Z l j).kind)∧(BL l)[j*3+1]? =some (.int .i64 (Z l j).pos)∧(BL l)[j*3+2]? =some (str (Z l j).text):=by
 intro l;induction l with
 |nil=>intro j h;simp at h
 | cons t l ih=>
   intro j h;have e:BL (t::l)=CF t++BL l:=by simp[BL]
   rw[e];cases j with
   |zero=>exact⟨rfl,rfl,rfl⟩
   | succ j=>
     have h':=ih j (by simpa using h);have ht:Z (t::l) (j+1)=Z l j:=by simp[Z]
     rw[ht];have hl:(CF t).length=3:=rfl;refine⟨?_,?_,?_⟩
     ·rw[List.getElem?_append_right (by rw[hl];omega),hl,show(j+1)*3-3=j*3 by omega];exact h'.1
     ·rw[List.getElem?_append_right (by rw[hl];omega),hl,show(j+1)*3+1-3=j*3+1 by omega];exact h'.2.1
     ·rw[List.getElem?_append_right (by rw[hl];omega),hl,show(j+1)*3+2-3=j*3+2 by omega];exact h'.2.2
theorem Ij{w:World}{B:Nat}{v:Value}{l:List Tok}(h:w.ownsRow B 105 3 v l.length (BL l)):TRow w v l (AD B):=by
 obtain⟨a,cap,e,h1,h2,h3,h4⟩:=Dw h;refine⟨a,cap,e,h1,h2,fun j hj=>?_⟩;obtain⟨c0,c1,c2⟩:=IL l j hj;obtain⟨g,o,ea,hg,d0⟩:=h4 _ _ c0;obtain⟨g1,o1,ea1,_,d1⟩:=h4 _ _ c1;obtain⟨g2,o2,ea2,_,d2⟩:=h4 _ _ c2;rw[ea]at ea1 ea2;cases ea1;cases ea2;exact⟨g,o,ea,hg,d0,by rw[Nat.add_assoc];exact d1,by rw[Nat.add_assoc];exact d2⟩
theorem No(b:Nat)(w:World):Calls Tryz.prog 64 #[.pointer (some ⟨b,0,none⟩)] w fun e w'=>e= .returned (.func (.func 103) #[] #[.pointer (some ⟨w.heap.size,0,none⟩)])∧w'=w.alloc (.cells #[.pointer (some ⟨b,0,none⟩)] 98 (0,0)):=by
 have hmf:∀(fn:Fn)(first cap:Array Value)(w:World),(Instr.makeFunc fn first cap).run Tryz.prog w= .ok (.func fn first cap) w:=fun _ _ _ _=>rfl;go_enter func64,ntmps64;go_wp2;go_ret;exact⟨rfl,rfl⟩
theorem IY{w:World}{b cb i n:Nat}{s:Bs}{line:Bool}{R:LexR}(hbc:b≠cb)(hcb:w.cell? ⟨cb,0,none⟩=some (.pointer (some ⟨b,0,none⟩)))(hs:Sc w b s i line line (-1))(ht:Tabs b w)
 (hR:R ≠ .out) (hl:AO s n i line=R) (hn:n<100000):
 Calls Tryz.prog 63 #[.func (.func 103) #[] #[.pointer (some ⟨cb,0,none⟩)]] w
  fun e w'=>w.grownBy w' (some b)∧(∃v,e= .returned v∧EV b s (fun l W=>W.ownsRow (w.heap.size+3) 105 3 v l.length (BL l)) R w'):=by
 have hA:=Hf hbc hcb hs ht hR hl hn;have HA:=I hA;clear hA hl hcb hs ht hR hn;go_enter func63,ntmps63;go_wp2_with fail;refine HA.out.mono ?_;rintro e w1 ⟨g,v,rfl,hE⟩;have HE:=I hE;clear hE;go_wp2;go_ret;exact⟨g,_,rfl,HE.out⟩
theorem Mo:∀(cr:List Value)(k:Nat)(pre old post:List Value),old.length=cr.length→pre.length=2+k→
 (cr.zipIdx k).foldl (fun cs x=>cs.setIfInBounds (2+x.2) x.1) (pre++old++post).toArray=(pre++cr++post).toArray:=by
 intro cr;induction cr with
 | nil=>
   intro k pre old post h _;have:old=[]:=List.eq_nil_of_length_eq_zero (by simpa using h);subst this;rfl
 | cons c cr ih=>
   intro k pre old post h hp;cases old with
   |nil=>simp at h
   | cons o old=>
     rw[List.zipIdx_cons,List.foldl_cons];have e:(pre++o::old++post).toArray.setIfInBounds (2+k) c=((pre++[c])++old++post).toArray:=by
      rw[←hp];simp
     simp only[];rw[e,ih (k+1) (pre++[c]) old post (by simpa using h) (by simp;omega)];simp
theorem In:Tryz.zeroCells102=([str [],Value.int .i64 0]++List.replicate 256 (Value.int .u8 0)++[Value.bool false,Value.bool false,Value.int .i64 0]).toArray:=by kernel_rfl
theorem set0(a v:Value)(l:List Value):(a::l).toArray.setIfInBounds 0 v=(v::l).toArray:=by simp
theorem Ie(s:Bs)(cr:List Value)(hc:cr.length=256):
 List.foldl (fun cs x=>cs.setIfInBounds (2+x.2) x.1) (Tryz.zeroCells102.setIfInBounds 0 (str s)) cr.zipIdx=([str s,Value.int .i64 0]++cr++[Value.bool false,Value.bool false,Value.int .i64 0]).toArray:=by
 rw[In];have e:=set0 (str []) (str s) ([Value.int .i64 0]++List.replicate 256 (Value.int .u8 0)++[Value.bool false,Value.bool false,Value.int .i64 0]);have e2:([str [],Value.int .i64 0]++List.replicate 256 (Value.int .u8 0)++[Value.bool false,Value.bool false,Value.int .i64 0]).toArray.setIfInBounds 0 (str s)=([str s,Value.int .i64 0]++List.replicate 256 (Value.int .u8 0)++[Value.bool false,Value.bool false,Value.int .i64 0]).toArray:=e;rw[e2];exact Mo cr 0 [str s,Value.int .i64 0] (List.replicate 256 (Value.int .u8 0)) _ (by rw[List.length_replicate,hc]) rfl
theorem Hq(s:Bs)(cr:List Value)(hc:cr.length=256):
 (([str s,Value.int .i64 0]++cr++[Value.bool false,Value.bool false,Value.int .i64 0]).toArray).setIfInBounds 260 (.int .i64 (-1))=(str s :: .int .i64 0::(cr++[.bool false,.bool false,.int .i64 (-1)])).toArray:=by
 rw[List.setIfInBounds_toArray];congr 1;rw[show(260:Nat)=258+1+1 from rfl];show str s::Value.int .i64 0::((cr++[Value.bool false,Value.bool false,Value.int .i64 0]).set 258 (.int .i64 (-1)))=_;rw[List.set_append_right _ _ (by omega),hc];rfl
theorem Tabs.mono{B B':Nat}{w:World}(h:Tabs B w)(hB:B≤B'):Tabs B' w:=by
 obtain⟨R,oR,cap,hR,hc⟩:=h.case;have:=h.low;exact⟨h.utf8,by omega,⟨R,oR,cap,by omega,hc⟩,h.glob⟩
def Nl(w:World)(s:Bs)(e:Ending)(w':World):Prop:=w.grownBy w' none∧
 if 4000<s.length then e= .returned (.tuple #[.slice none 0 0,.int .i64 0,.int .i64 3])
 else match Cw s with
  | .ok l=>if 1200<l.length then e= .returned (.tuple #[.slice none 0 0,.int .i64 0,.int .i64 3])else ∃v,e= .returned (.tuple #[v,.int .i64 l.length,.int .i64 0])∧TRow w' v l (AD w.heap.size)
  | .bad k=>e= .returned (.tuple #[.slice none 0 0,.int .i64 k,.int .i64 2])
  | .out=>False
theorem MC{w:World}(ht:Tabs w.heap.size w)(s:Bs)(hs:s.length≤1000000):Calls Tryz.prog 36 #[str s] w (Nl w s):=by
 by_cases hl:4000<s.length
 ·have HP:=I hl;have hl1:decide ((4000:Int)<s.length)=true:=by simp;omega
  go_enter func36,ntmps36;go_wp2;exact bodyPost_ret (v:= .tuple #[.slice none 0 0,.int .i64 0,.int .i64 3]) (by simp[results,results36,go_sem]) rfl ⟨Ac _ _,by rw[if_pos HP.out]⟩
 ·have HP:=I hl;have hl1:decide ((4000:Int)<s.length)=false:=by simp;omega
  go_enter func36,ntmps36;go_wp2_with fail;refine(IW _).mono ?_;rintro e w1 ⟨rfl,g1⟩;have hcl:=Dd 256;have HF:=I (Ie s (Az 256) hcl);have HC:=I (Hq s (Az 256) hcl);generalize hcr:Az 256=cr at*;have HR:=I hcr;clear hcr;go_wp2_with fail
  ·exfalso;rw[HF.out]at h;simp[hcl]at h
  rw[HF.out,HC.out];refine(No _ _).mono ?_;rintro e w2 ⟨rfl,rfl⟩;have g2:w1.grownBy ((w1.alloc (.cells (str s :: .int .i64 0::(cr++[.bool false,.bool false,.int .i64 (-1)])).toArray 102 (0,0))).alloc (.cells #[.pointer (some ⟨w1.heap.size,0,none⟩)] 98 (0,0))) none:=Aa (World.grownBy_alloc w1 _ none) _;have hS:Sc ((w1.alloc (.cells (str s :: .int .i64 0::(cr++[.bool false,.bool false,.int .i64 (-1)])).toArray 102 (0,0))).alloc (.cells #[.pointer (some ⟨w1.heap.size,0,none⟩)] 98 (0,0))) w1.heap.size s 0 false false (-1):=by
   refine⟨((Blk.new w1 _ _).alloc _).of_eq rfl ?_,Nat.zero_le _,by omega⟩;rw[←HR.out];rfl
  have hcb:((w1.alloc (.cells (str s :: .int .i64 0::(cr++[.bool false,.bool false,.int .i64 (-1)])).toArray 102 (0,0))).alloc (.cells #[.pointer (some ⟨w1.heap.size,0,none⟩)] 98 (0,0))).cell? ⟨w1.heap.size+1,0,none⟩=some (.pointer (some ⟨w1.heap.size,0,none⟩)):=by
   simp
  have hsz:(w1.alloc (.cells (str s :: .int .i64 0::(cr++[.bool false,.bool false,.int .i64 (-1)])).toArray 102 (0,0))).heap.size=w1.heap.size+1:=by simp
  rw[hsz];have ht2:=(ht.gbN g1).gbN g2;have gA:=O g1 g2;generalize((w1.alloc (.cells (str s :: .int .i64 0::(cr++[.bool false,.bool false,.int .i64 (-1)])).toArray 102 (0,0))).alloc (.cells #[.pointer (some ⟨w1.heap.size,0,none⟩)] 98 (0,0)))=W at*;generalize(str s :: .int .i64 0::(cr++[.bool false,.bool false,.int .i64 (-1)])).toArray=big at*;have hw1:=g1.size;have hC:=IY (n:=2*s.length+1) (by omega) hcb hS (ht2.mono hw1) (Ep s) rfl (by omega);have HW:=I hC;clear hC hcb hS ht2 HF HC HR hcl hsz;go_wp2_with fail;refine HW.out.mono ?_;rintro e w3 ⟨g3,v,rfl,hE⟩;have gB:=AN gA g3 (.inr hw1);cases hq:Cw s with
  |out=>exact absurd hq (Ep s)
  | bad k=>
    rw[hq]at hE;obtain⟨_,j,l',hs3⟩:=hE;have HQ:=I hq;clear hq;have d260:=hs3.c260;have hlt:=hs3.lt;go_wp2;go_quiet(fail);go_wp2;exact bodyPost_ret (v:= .tuple #[.slice none 0 0,.int .i64 k,.int .i64 2]) (by simp[results,results36,go_sem]) rfl ⟨AH gB _,by rw[if_neg HP.out,HQ.out]⟩
  | ok l=>
    rw[hq]at hE;obtain⟨hO,j,l',hs3⟩:=hE;have HQ:=I hq;clear hq;have hT:=Ij hO;obtain⟨a,cap,rfl,_⟩:=id hT;have HT:=I hT;clear hT hO;have d260:=hs3.c260;have hlt:=hs3.lt;have hwA:=gA.size;by_cases hm:1200<l.length
    ·have HM:=I hm;have hm1:decide ((1200:Int)<l.length)=true:=by simp;omega
     clear hm;go_wp2;exact bodyPost_ret (v:= .tuple #[.slice none 0 0,.int .i64 0,.int .i64 3]) (by simp[results,results36,go_sem]) rfl ⟨gB,by rw[if_neg HP.out,HQ.out];show ite _ _ _;rw[if_pos HM.out]⟩
    ·have HM:=I hm;have hm1:decide ((1200:Int)<l.length)=false:=by simp;omega
     clear hm;go_wp2;refine bodyPost_ret (v:= .tuple #[.slice a l.length cap,.int .i64 l.length,.int .i64 0]) (by simp[results,results36,go_sem]) rfl ⟨gB,?_⟩;rw[if_neg HP.out,HQ.out];show ite _ _ _;rw[if_neg HM.out];exact⟨_,rfl,TRow.mono HT.out fun k hk _=>by simp at hk ⊢;omega⟩
structure CU(t:Tok):Prop where
 short:t.text.length≤4000
 num:t.kind=1→1≤t.text.length∧t.text.length≤15∧t.text.all AF=true
 word:t.kind=0→(∃c r,t.text=c::r∧AF c=false)∧t.text.all BX=true
theorem M4(b:UInt8):cls 2 b=AF b:=by
 rw[Bool.eq_iff_iff];simp only[cls,AF,beq_iff_eq,Bool.and_eq_true,decide_eq_true_eq];rcases En b.toNat with⟨h2,h3⟩| ⟨h2,h3⟩| ⟨h2,h3⟩| ⟨h2,h3⟩| ⟨h2,h3⟩<;>rw[h2]<;>constructor<;>intro h<;>first|omega| (exfalso;omega)
theorem FB(b:UInt8)(h:Au b=true):BX (Lib.upperB b)=true∧(cls 1 b=true→AF (Lib.upperB b)=false):=by
 have hall:∀n:Fin 256,Au (UInt8.ofNat n.val)=true→BX (Lib.upperB (UInt8.ofNat n.val))=true∧(cls 1 (UInt8.ofNat n.val)=true→AF (Lib.upperB (UInt8.ofNat n.val))=false):=by decide+kernel
 have e:UInt8.ofNat b.toNat=b:=by simp
 have:=hall ⟨b.toNat,b.toNat_lt⟩;simp only[e]at this;exact this h
theorem E7{s:Bs}{i j:Nat}:(Aq s i j).length≤s.length:=by simp[Aq];omega
theorem KQ{s:Bs}{i:Nat}(hi:i<s.length)(hs:s.length≤4000){t:Tok}{j:Nat}{l:Bool}(h:AP s i= .tok t j l):CU t:=by
 unfold AP at h;split at h
 ·rename_i h1;split at h
  ·cases h
  ·cases h;have hge:i+1≤Ag s Au i:=by rw[B4 hi (by simp[Au,h1])];exact Bm _ _ _
   have hsl:Aq s i (Ag s Au i)=bAt s i::Aq s (i+1) (Ag s Au i):=Fx (by omega) (BE (by omega));refine⟨by simp only[Lib.toUpperA,List.length_map];exact Nat.le_trans E7 hs,by simp,fun _=>⟨⟨Lib.upperB (bAt s i),Lib.toUpperA (Aq s (i+1) (Ag s Au i)),by simp[hsl,Lib.toUpperA],(FB _ (by simp[Au,h1])).2 h1⟩,?_⟩⟩;rw[List.all_eq_true];intro x hx;obtain⟨y,hy,rfl⟩:=List.mem_map.1 hx;exact(FB y (E8 (by omega) y hy)).1
 ·split at h
  ·rename_i h1;split at h
   ·cases h
   ·cases h;have hge:i+1≤Ag s (cls 2) i:=by rw[B4 hi h1];exact Bm _ _ _
    have hle:Ag s (cls 2) i≤s.length:=BE (by omega);refine⟨Nat.le_trans E7 hs,fun _=>⟨?_,?_,?_⟩,by simp⟩
    ·simp only[CC (by omega:i≤Ag s (cls 2) i) hle];omega
    ·simp only[CC (by omega:i≤Ag s (cls 2) i) hle];omega
    ·rw[List.all_eq_true];intro x hx;rw[←M4];exact E8 (by omega) x hx
  ·split at h
   ·unfold Cn at h;simp only[]at h;split at h
    ·split at h
     ·cases h
     ·cases h;exact⟨Nat.le_trans E7 hs,by simp,by simp⟩
    ·cases h
   ·cases hd:AV (s.drop i)with
    | some p=>
      obtain⟨d,n⟩:=p;rw[hd]at h;cases h;refine⟨?_,by simp,by simp⟩;unfold AV at hd;split at hd
      ·cases hd;simp
      ·split at hd
       ·split at hd
        ·cases hd;simp[Ci,Aq];omega
        ·cases hd
       ·cases hd
    | none=>
      rw[hd]at h;cases hs2:Ck s i with
      |none=>rw[hs2]at h;cases h
      | some w=>
        rw[hs2]at h;cases h;have:=DI (Gc hs2).1;exact⟨by simp;omega,by simp,by simp⟩
theorem Gm(i:Nat):CU ⟨5,i,[]⟩:=⟨by simp,by simp,by simp⟩
theorem J5{s:Bs}{i:Nat}{line:Bool}(hs:s.length≤4000){t:Tok}{j:Nat}{l:Bool}(h:A5 s i line= .tok t j l):CU t:=by
 unfold A5 at h;split at h
 ·split at h
  ·cases h;exact Gm i
  ·cases h
 ·split at h
  ·split at h
   ·cases h;exact Gm i
   ·cases h
  ·split at h
   ·cases h
   ·split at h
    ·split at h<;>cases h
    ·split at h
     ·split at h
      ·split at h<;>cases h
      ·cases h
     ·exact KQ (by omega) hs h
theorem MB{s:Bs}(hs:s.length≤4000):∀n i line ts,AO s n i line= .ok ts→∀t∈ts,CU t:=by
 intro n;induction n with
 |zero=>intro i line ts h;cases h
 | succ n ih=>
   intro i line ts h;rw[AO]at h;cases hq:A5 s i line with
   | tok t j l=>
     rw[hq]at h;simp only at h;cases hr:AO s n j l with
     | ok ts'=>
       rw[hr]at h;cases h;intro t' ht';rcases List.mem_cons.1 ht' with rfl|ht'
       ·exact J5 hs hq
       ·exact ih j l ts' hr t' ht'
     |bad k=>rw[hr]at h;cases h
     |out=>rw[hr]at h;cases h
   |again j l=>rw[hq]at h;exact ih j l ts h
   |stop=>rw[hq]at h;cases h;simp
   |bad k=>rw[hq]at h;cases h
theorem EK{ts:List Tok}(h:∀t∈ts,CU t)(i:Nat):CU (Z ts i):=by
 unfold Z;cases hi:ts[i]? with
 |none=>exact⟨by simp,by simp,by simp⟩
 |some t=>exact h t (List.mem_of_getElem? hi)
theorem Mi:∀(s:Bs)(a:Nat),s.all AF=true→∃n:Nat,Lib.decFrom a s=some n∧(n:Int)=s.foldl (fun n b=>10*n+((b.toNat:Int)-48)) (a:Int):=by
 intro s;induction s with
 |nil=>intro a _;exact⟨a,rfl,rfl⟩
 | cons b r ih=>
   intro a h;simp only[List.all_cons,Bool.and_eq_true,AF,decide_eq_true_eq]at h;obtain⟨n,h1,h2⟩:=ih (a*10+(b.toNat-48)) h.2;refine⟨n,?_,?_⟩
   ·rw[Lib.decFrom,Lib.digitVal,if_pos h.1];exact h1
   ·rw[List.foldl_cons,h2];congr 1;omega
theorem Lc(s:Bs)(h1:1≤s.length)(hd:s.all AF=true):Lib.atoi s=some (Ay s):=by
 cases s with
 |nil=>simp at h1
 | cons b r=>
   obtain⟨n,h2,h3⟩:=Mi (b::r) 0 hd;simp only[List.all_cons,Bool.and_eq_true,AF,decide_eq_true_eq]at hd;have e45:(b==45)=false:=by simp;rintro rfl;simp at hd
   have e43:(b==43)=false:=by simp;rintro rfl;simp at hd
   have e:Lib.decNat (b::r)=some n:=h2;simp only[Lib.atoi,e45,e43,e,Bool.false_eq_true,if_false,Option.map_some];rw[h3];rfl
def Bn(s:Bs):Int:=(Bq s).1
theorem K1{ts:List Tok}(h:∀t∈ts,CU t):C2 Bn ts:=by
 refine⟨fun i=>(EK h i).short,fun i hi=>?_,fun i _ w=>?_⟩
 ·have:=(EK h i).num hi;exact⟨by omega,Lc _ this.1 this.2.2⟩
 ·refine(F1 (Z ts i).text (by have:=(EK h i).short;omega) w).mono ?_;rintro e w' ⟨rfl,g⟩;exact⟨⟨_,rfl⟩,g⟩
theorem I3{s:Bs}(hs:s.length≤4000){ts:List Tok}(h:Cw s= .ok ts):C2 Bn ts:=K1 (MB hs _ _ _ _ h)
def Fo.nodes:Fo→Nat
 | .nil=>0
 | .cons _ kids next=>1+kids.nodes+next.nodes
def Fo.levels:Fo→Nat
 | .nil=>0
 | .cons _ kids next=>max (1+kids.levels) next.levels
def Ex.nodes(x:Ex):Nat:=1+x.kids.nodes
def Ex.levels(x:Ex):Nat:=1+x.kids.levels
theorem Fo.len_nodes:∀f:Fo,f.len≤f.nodes∧f.levels≤f.nodes:=by
 intro f;induction f with
 |nil=>simp[Fo.len,Fo.nodes,Fo.levels]
 |cons h kids next ih1 ih2=>simp only[Fo.len,Fo.nodes,Fo.levels];omega
abbrev szV(n m:Int):Value:= .agg #[.int .i64 n,.int .i64 m]
theorem F8(a b c d:Nat)(ha:a+c≤1000000000)(hb:b≤1000000000)(hd:d≤1000000000)(w:World):
 Calls Tryz.prog 55 #[szV a b,szV c d] w fun e w'=>e= .returned (szV ((a+c:Nat):Int) ((max b (d+1):Nat):Int))∧w.grownBy w' none:=by
 have e1:((a+c:Nat):Int)=(a:Int)+c:=by push_cast;rfl
 have e2:((max b (d+1):Nat):Int)=max (b:Int) ((d:Int)+1):=by omega
 rw[e1,e2];clear e1 e2;go_enter func55,ntmps55;go_wp2;exact bodyPost_ret (v:=szV ((a:Int)+c) (max (b:Int) ((d:Int)+1))) (by simp[results,results55,go_sem]) rfl ⟨rfl,(by repeat(first| (with_reducible exact Ac _ _)| (with_reducible assumption)| (with_reducible exact AW (by assumption))| (with_reducible refine Aa ?_ _)| (with_reducible refine Aj ?_)| (with_reducible refine AH ?_ _)| ((with_reducible refine Ax ?_ _ _ ?h2);case h2=>first|exact .inl rfl|exact .inr (Nat.le_refl _)|exact .inr (by simp<;>omega))| (with_reducible refine Ae ?_ (by assumption))| (with_reducible refine O ?_ (by assumption))))⟩
theorem Fl(a b c d:Nat)(ha:a+c≤1000000000)(hb:b≤1000000000)(hd:d≤1000000000)(w:World):
 Calls Tryz.prog 92 #[szV a b,szV c d] w fun e w'=>e= .returned (szV ((a+c:Nat):Int) ((max b d:Nat):Int))∧w.grownBy w' none:=by
 have e1:((a+c:Nat):Int)=(a:Int)+c:=by push_cast;rfl
 have e2:((max b d:Nat):Int)=max (b:Int) d:=by omega
 rw[e1,e2];clear e1 e2;go_enter func92,ntmps92;go_wp2;exact bodyPost_ret (v:=szV ((a:Int)+c) (max (b:Int) d)) (by simp[results,results92,go_sem]) rfl ⟨rfl,(by repeat(first| (with_reducible exact Ac _ _)| (with_reducible assumption)| (with_reducible exact AW (by assumption))| (with_reducible refine Aa ?_ _)| (with_reducible refine Aj ?_)| (with_reducible refine AH ?_ _)| ((with_reducible refine Ax ?_ _ _ ?h2);case h2=>first|exact .inl rfl|exact .inr (Nat.le_refl _)|exact .inr (by simp<;>omega))| (with_reducible refine Ae ?_ (by assumption))| (with_reducible refine O ?_ (by assumption))))⟩
def BK(n m:Nat):Bool:=decide (400<n)||decide (14<m)
theorem Eo(n m:Nat)(w:World):
 Calls Tryz.prog 27 #[szV n m] w fun e w'=>e= .returned (.bool (BK n m))∧w.grownBy w' none:=by
 cases h1:decide (400<n)with
 | true=>
   have HM:=I (show BK n m=true by unfold BK;rw[h1];rfl);have h2:decide ((400:Int)<n)=true:=by simp at h1 ⊢;omega
   clear h1;go_enter func27,ntmps27;go_wp2;go_ret;exact⟨by rw[HM.out];rfl,(by repeat(first| (with_reducible exact Ac _ _)| (with_reducible assumption)| (with_reducible exact AW (by assumption))| (with_reducible refine Aa ?_ _)| (with_reducible refine Aj ?_)| (with_reducible refine AH ?_ _)| ((with_reducible refine Ax ?_ _ _ ?h2);case h2=>first|exact .inl rfl|exact .inr (Nat.le_refl _)|exact .inr (by simp<;>omega))| (with_reducible refine Ae ?_ (by assumption))| (with_reducible refine O ?_ (by assumption))))⟩
 | false=>
   have HM:=I (show BK n m=decide ((14:Int)<m)by unfold BK;rw[h1,Bool.false_or,decide_eq_decide];omega);have h2:decide ((400:Int)<n)=false:=by simp at h1 ⊢;omega
   clear h1;go_enter func27,ntmps27;go_wp2;go_ret;exact⟨by rw[HM.out];rfl,(by repeat(first| (with_reducible exact Ac _ _)| (with_reducible assumption)| (with_reducible exact AW (by assumption))| (with_reducible refine Aa ?_ _)| (with_reducible refine Aj ?_)| (with_reducible refine AH ?_ _)| ((with_reducible refine Ax ?_ _ _ ?h2);case h2=>first|exact .inl rfl|exact .inr (Nat.le_refl _)|exact .inr (by simp<;>omega))| (with_reducible refine Ae ?_ (by assumption))| (with_reducible refine O ?_ (by assumption))))⟩
theorem DH{fn:Func}{p:Tmp}(h:fn.results=#[.cell p 61])(tmps:Array Value){w:World}{k:Nat}{a b:Value}(hb:Blk w k [a,b] 61)
 (hp:tmps.getD p undef= .pointer (some ⟨k,0,none⟩)):(results fn tmps).run Tryz.prog w= .ok (.agg #[a,b]) w:=by
 have c0:=hb.cell 0;have c1:=hb.cell 1;have hp':tmps[p]?.getD undef= .pointer (some ⟨k,0,none⟩):=by simpa using hp
 simp only[List.getElem?_cons_zero,List.getElem?_cons_succ]at c0 c1;simp[results,h,hp',go_sem,c0,c1]
theorem Blk.set2{w:World}{k:Nat}{a0 a1:Value}{t:TypeId}(h:Blk w k [a0,a1] t)(v0 v1:Value):Blk ((w.setCell ⟨k,0,none⟩ v0).setCell ⟨k,1,none⟩ v1) k [v0,v1] t:=
 ((h.set 0 v0).set 1 v1).of_eq rfl rfl
structure SzRel(ok:Nat→Prop)(w:World)(f rest:Fo)(cs:List Value)(k n m:Nat)(wr:World):Prop where
 len:f.len=k+rest.len
 row:RepF ok w rest (cs.drop (k*7))
 nodes:n+rest.nodes=1+f.nodes
 levels:max m (1+rest.levels)=1+f.levels
 pos:1≤m∧1≤n
 acc:Blk wr (w.heap.size+2) [.int .i64 n,.int .i64 m] 61
 res:Blk wr (w.heap.size+1) [.int .i64 0,.int .i64 0] 61
 g:w.grownBy wr none
theorem SzRel.next{ok:Nat→Prop}{w:World}{f kids next:Fo}{h':Hd}{cs:List Value}{k n m:Nat}{wr w1:World}(h:SzRel ok w f (.cons h' kids next) cs k n m wr)
 (hacc:Blk w1 (w.heap.size+2) [.int .i64 ((n+(1+kids.nodes):Nat):Int),.int .i64 ((max m (1+kids.levels+1):Nat):Int)] 61) (hres:Blk w1 (w.heap.size+1) [.int .i64 0,.int .i64 0] 61) (g:w.grownBy w1 none):
 SzRel ok w f next cs (k+1) (n+(1+kids.nodes)) (max m (1+kids.levels+1)) w1:=by
 have h1:=h.len;have h3:=h.nodes;have h4:=h.levels;have h5:=h.pos;simp only[Fo.len,Fo.nodes,Fo.levels]at h1 h3 h4;refine⟨by omega,?_,by omega,by omega,⟨by omega,by omega⟩,hacc,hres,g⟩;obtain⟨pv,lv,kcs,rcs,hcs,_,_,_,hn⟩:=h.row;have e:cs.drop ((k+1)*7)=rcs:=by
  rw[show(k+1)*7=k*7+7 by omega,←List.drop_drop,hcs];exact List.drop_left' rfl
 rw[e];exact hn
theorem G4:∀(N:Nat)(f:Fo),f.nodes<N→f.nodes≤1000000→∀(ok:Nat→Prop)(h:Hd)(pa:Option Addr)(pn pc:Nat)(la:Option Addr)(lc:Nat)(w:World),RepL ok w (.slice la f.len lc) f→
 Calls Tryz.prog 28 #[exV h (.slice pa pn pc) (.slice la f.len lc)] w fun e w'=>e= .returned (szV ((1+f.nodes:Nat):Int) ((1+f.levels:Nat):Int))∧w.grownBy w' none:=by
 intro N;induction N with
 |zero=>intro f hN;omega
 | succ N ih=>
   intro f hN hn ok h pa pn pc la lc w hrep;obtain⟨cs,hcells,hrow⟩:=hrep;obtain⟨la',lc',e,h1,h2,h3,h4⟩:=hcells;cases e;have hfl:=f.len_nodes;have hA:SzRel ok w f f cs 0 1 1 (((w.alloc (.cells #[.int .i64 h.op,str h.s,.int .i64 h.vk,.int .i64 h.vn,str h.vs,.slice pa pn pc,.slice la f.len lc] 27 (0,0))).alloc (.cells #[.int .i64 0,.int .i64 0] 61 (0,0))).alloc (.cells #[.int .i64 1,.int .i64 1] 61 (0,0))):=
    ⟨by simp,by simpa using hrow,rfl,by omega,⟨Nat.le_refl _,Nat.le_refl _⟩,(Blk.new _ [.int .i64 1,.int .i64 1] _).of_eq (by simp) rfl,((Blk.new _ [.int .i64 0,.int .i64 0] _).of_eq (by simp) rfl).alloc _,Aa (Aa (World.grownBy_alloc w _ none) _) _⟩
   have H4:=I (X h4 ih);clear h4 ih hrow;go_enter func28,ntmps28;go_wp2_with fail;go_loopg [10] f.len (fun g v10 wr=>∃rest:Fo,∃k n m:Nat,rest.len=g∧v10= .int .i64 k∧SzRel ok w f rest cs k n m wr)
   case atStart=>exact⟨f,0,1,1,rfl,rfl,hA⟩
   case round=>
    obtain⟨rest,k,n,m,hg,rfl,hr⟩:=hrel;clear hA;have a0:=hr.acc.cell 0;have a1:=hr.acc.cell 1;have r0:=hr.res.cell 0;have r1:=hr.res.cell 1;have rf:=fun k=>hr.res.frozen k;have af:=fun k=>hr.acc.frozen k;have al:=hr.acc.lt;simp only[List.getElem?_cons_zero,List.getElem?_cons_succ]at a0 a1 r0 r1;cases rest with
    | nil=>
      have hlen:=hr.len;have hkI:decide (k<f.len)=false:=by simp[Fo.len]at hlen;simp;omega
      have hnm:n=1+f.nodes∧m=1+f.levels:=by
       have h1:=hr.nodes;have h2:=hr.levels;have h3:=hr.pos;simp[Fo.nodes,Fo.levels]at h1 h2;omega
      have HN:=I hnm;clear hnm hlen hg;go_wp2;refine bodyPost_ret (DH rfl _ (hr.res.set2 _ _) rfl) rfl ⟨by rw[HN.out.1,HN.out.2],?_⟩;have g:=hr.g;exact (by repeat(first| (with_reducible exact Ac _ _)| (with_reducible assumption)| (with_reducible exact AW (by assumption))| (with_reducible refine Aa ?_ _)| (with_reducible refine Aj ?_)| (with_reducible refine AH ?_ _)| ((with_reducible refine Ax ?_ _ _ ?h2);case h2=>first|exact .inl rfl|exact .inr (Nat.le_refl _)|exact .inr (by simp<;>omega))| (with_reducible refine Ae ?_ (by assumption))| (with_reducible refine O ?_ (by assumption))))
    | cons h' kids next=>
      simp only[Fo.len]at hg;subst hg;have hlen:=hr.len;simp only[Fo.len]at hlen;have hkI:decide (k<f.len)=true:=by simp;omega
      obtain⟨pv',lv',kcs,rcs,hcs,hp,hl,hkids,hnext⟩:=hr.row;obtain⟨pa',pc',rfl,_⟩:=hp;have hL:RepL ok w lv' kids:=⟨kcs,hl,hkids⟩;obtain⟨la2,lc2,rfl,_⟩:=hl;have hat:∀i u,(hdC h' (.slice pa' h'.p.length pc') (.slice la2 kids.len lc2))[i]? =some u→∃g o,la=some ⟨g,o,none⟩∧ok g∧w.cell? ⟨g,o+(k*7+i),none⟩=some u:=by
       intro i u hu;refine H4.out.1 (k*7+i) u ?_;have:cs[k*7+i]? =(cs.drop (k*7))[i]?:=by simp
       rw[this,hcs,List.getElem?_append_left (by have:=(List.getElem?_eq_some_iff.1 hu).1;exact this)];exact hu
      obtain⟨g,o,rfl,hok,y0⟩:=hat 0 _ rfl;obtain⟨_,_,e1,_,y1⟩:=hat 1 _ rfl;cases e1;obtain⟨_,_,e1,_,y2⟩:=hat 2 _ rfl;cases e1;obtain⟨_,_,e1,_,y3⟩:=hat 3 _ rfl;cases e1;obtain⟨_,_,e1,_,y4⟩:=hat 4 _ rfl;cases e1;obtain⟨_,_,e1,_,y5⟩:=hat 5 _ rfl;cases e1;obtain⟨_,_,e1,_,y6⟩:=hat 6 _ rfl;cases e1;have hgl:=World.block_lt_of_cell? w _ y0;have z0:=Ab hr.g y0;have z1:=Ab hr.g y1;have z2:=Ab hr.g y2;have z3:=Ab hr.g y3;have z4:=Ab hr.g y4;have z5:=Ab hr.g y5;have z6:=Ab hr.g y6;simp only[Nat.add_zero,←Nat.add_assoc]at z0 z1 z2 z3 z4 z5 z6;clear y0 y1 y2 y3 y4 y5 y6;clear hat;have hno:=hr.nodes;simp only[Fo.nodes]at hno;have hmo:=hr.levels;simp only[Fo.levels]at hmo;have hkl:=kids.len_nodes;have hpo:=hr.pos;have hk0:kids.nodes<N:=by omega
      have HL:=I (fun(W:World)(gW:wr.grownBy W none)=>H4.out.2 kids hk0 (by omega) ok h' pa' h'.p.length pc' la2 lc2 W (hL.gb (O hr.g gW) (by simp)));have HI:=I (fun(W:World)=>F8 n m (1+kids.nodes) (1+kids.levels) (by omega) (by omega) (by omega) W);have HR:=I hr;have hkl2:k+1≤f.len:=by omega
      clear hL hnext hkids hcs hr hno hmo hlen hpo;have hy:=Blk.new wr (hdC h' (.slice pa' h'.p.length pc') (.slice la2 kids.len lc2)) 27;have hac:=HR.out.acc.alloc (.cells (hdC h' (.slice pa' h'.p.length pc') (.slice la2 kids.len lc2)).toArray 27 (0,0));have HY:=I (X hy hac);clear hy hac;have hws:=HR.out.g.size;go_wp2_with fail;go_region_with(first
       | (go_at_call 28;refine(HL.out _ ?gg).mono ?_;(case gg=>exact (by repeat(first| (with_reducible exact Ac _ _)| (with_reducible assumption)| (with_reducible exact AW (by assumption))| (with_reducible refine Aa ?_ _)| (with_reducible refine Aj ?_)| (with_reducible refine AH ?_ _)| ((with_reducible refine Ax ?_ _ _ ?h2);case h2=>first|exact .inl rfl|exact .inr (Nat.le_refl _)|exact .inr (by simp<;>omega))| (with_reducible refine Ae ?_ (by assumption))| (with_reducible refine O ?_ (by assumption)))));rintro e w5 ⟨rfl,g5⟩;(have y5:=(HY.out.1.drewN 1).gb g5 (by simp));(have ac5:=(HY.out.2.drewN 1).gb g5 (by simp));(have b0:=y5.cell 0);(have b1:=y5.cell 1);(have b2:=y5.cell 2);(have b3:=y5.cell 3);(have b4:=y5.cell 4);(have b5:=y5.cell 5);(have b6:=y5.cell 6);(have d0:=ac5.cell 0);(have d1:=ac5.cell 1);(have df:=fun k=>ac5.frozen k);(have dl:=ac5.lt);(simp only[hdC,List.getElem?_cons_zero,List.getElem?_cons_succ]at b0 b1 b2 b3 b4 b5 b6 d0 d1))
       | (go_at_call 55;refine(HI.out _).mono ?_;rintro e w6 ⟨rfl,g6⟩;(have ac6:=ac5.gb g6 (by simp));(have m0:=ac6.cell 0);(have m1:=ac6.cell 1);(have mf:=fun k=>ac6.frozen k);(have ml:=ac6.lt);(simp only[List.getElem?_cons_zero,List.getElem?_cons_succ]at m0 m1)))
      all_goals
       have hre:=((((HR.out.res.alloc (.cells (hdC h' (.slice pa' h'.p.length pc') (.slice la2 kids.len lc2)).toArray 27 (0,0))).drewN 1).gb g5 (by simp)).gb g6 (by simp));have gg:=Ae (Ae (Aj (Aa HR.out.g (.cells (hdC h' (.slice pa' h'.p.length pc') (.slice la2 kids.len lc2)).toArray 27 (0,0)))) g5) g6;have HX:=I (X ac6 (X hre gg));clear hre gg;go_wp2;go_roundg next.len
       case measure=>omega
       case rel=>
        refine⟨next,k+1,n+(1+kids.nodes),max m (1+kids.levels+1),rfl,by simp,HR.out.next ((HX.out.1.set2 _ _).of_eq (by omega) (by push_cast;rfl)) ((HX.out.2.1.set_other _ _ (by simp)).set_other _ _ (by simp)) (Ax (Ax HX.out.2.2 _ _ (.inr (by simp;omega))) _ _ (.inr (by simp;omega)))⟩
theorem FQ{ok:Nat→Prop}{w:World}{v:Value}{x:Ex}(h:VE ok w v x)(hn:x.kids.nodes≤1000000):
 Calls Tryz.prog 28 #[v] w fun e w'=>e= .returned (szV (x.nodes:Int) (x.levels:Int))∧w.grownBy w' none:=by
 obtain⟨pa,pc,la,lc,rfl,_,hl⟩:=h;exact G4 (x.kids.nodes+1) x.kids (by omega) hn ok x.h pa x.h.p.length pc la lc w hl
section
variable {d:Wd}
structure Nz(d:Wd)(day:Bs→Int):Prop extends C3 d day where
 fit:∀n:Int,0≤n→(d.num n).length≤15→n≤999999999999999
end
open Go.Lib
theorem FW(s:Bs)(b:UInt8):Ay (s++[b])=10*Ay s+((b.toNat:Int)-48):=by
 unfold Ay;rw[List.foldl_append];rfl
theorem DP{k:Nat}(h:k<10):(UInt8.ofNat (48+k)).toNat=48+k:=by
 rw[UInt8.toNat_ofNat'];omega
theorem G3(u:Nat):Ay (decDigits u)=u:=by
 induction u using Nat.strongRecOn with
 | ind u ih=>
   rw[decDigits];split
   ·rename_i h;show Ay ([]++[UInt8.ofNat (48+u)])=u;rw[FW,DP h];show 10*(0:Int)+_=_;omega
   ·rename_i h;rw[FW,ih (u/10) (by omega),DP (by omega)];omega
theorem Gw(u:Nat):(decDigits u).all AF=true:=by
 induction u using Nat.strongRecOn with
 | ind u ih=>
   rw[decDigits];split
   ·rename_i h;simp only[List.all_cons,List.all_nil,Bool.and_true,AF,DP h,Bool.and_eq_true,decide_eq_true_eq];omega
   ·rename_i h;rw[List.all_append,ih (u/10) (by omega)];simp only[List.all_cons,List.all_nil,Bool.and_true,Bool.true_and,AF,DP (show u%10<10 by omega),Bool.and_eq_true,decide_eq_true_eq];omega
theorem Ek{u:Nat}:∀k,1≤k→u<10 ^ k→nDigits u≤k:=by
 induction u using Nat.strongRecOn with
 | ind u ih=>
   intro k h1 h2;by_cases h:u<10
   ·rw[nDigits_small h];omega
   ·rw[nDigits_big h];obtain⟨k,rfl⟩:∃q,k=q+1:=⟨k-1,by omega⟩;have hk:1≤k:=by
     rcases Nat.eq_zero_or_pos k with rfl|hp
     ·simp at h2;omega
     ·exact hp
    have:=ih (u/10) (by omega) k hk (by rw[Nat.pow_succ]at h2;omega);omega
theorem J9(u:Nat):u<10 ^ nDigits u:=by
 induction u using Nat.strongRecOn with
 | ind u ih=>
   by_cases h:u<10
   ·rw[nDigits_small h];omega
   ·rw[nDigits_big h,Nat.pow_succ];have:=ih (u/10) (by omega);omega
theorem EE(n:Int)(h:0≤n):itoa n=decDigits n.toNat:=by
 unfold itoa;rw[if_neg (by omega)]
def Bp(n:Int):Nat→Nat
 | 0=>1
 |k+1=>if Am ((k:Int)+2)<n then k+2 else Bp n k
def BS(y n:Int):Nat→Nat
 | 0=>1
 |k+1=>if Am y+Al y (k+1)<n then k+2 else BS y n k
theorem Ng(n:Int)(h1:1≤n):∀k:Nat,k≤9998→n≤Am ((k:Int)+2)→1≤Bp n k∧Bp n k≤k+1∧Am (Bp n k)<n∧n≤Am ((Bp n k:Int)+1):=by
 intro k;induction k with
 | zero=>
   intro _ h2;refine⟨Nat.le_refl _,Nat.le_refl _,?_,?_⟩
   ·show Am 1<n;have:Am 1=0:=by decide
    omega
   ·exact h2
 | succ k ih=>
   intro hk h2;unfold Bp;split
   ·rename_i h;refine⟨by omega,by omega,?_,?_⟩
    ·have e:((k+2:Nat):Int)=(k:Int)+2:=by omega
     rw[e];exact h
    ·have e:((k+2:Nat):Int)+1=((k+1:Nat):Int)+2:=by omega
     rw[e];exact h2
   ·rename_i h;obtain⟨a,b,c,d⟩:=ih (by omega) (by omega);exact⟨a,by omega,c,d⟩
theorem MF(y n:Int)(h1:Am y<n):∀k:Nat,k≤11→n≤Am y+Al y (k+1)→1≤BS y n k∧BS y n k≤k+1∧Am y+Al y (BS y n k-1)<n∧n≤Am y+Al y (BS y n k):=by
 intro k;induction k with
 | zero=>
   intro _ h2;exact⟨Nat.le_refl _,Nat.le_refl _,by show Am y+0<n;omega,h2⟩
 | succ k ih=>
   intro hk h2;unfold BS;split
   ·rename_i h;exact⟨by omega,by omega,h,h2⟩
   ·rename_i h;obtain⟨a,b,c,d⟩:=ih (by omega) (by omega);exact⟨a,by omega,c,d⟩
theorem Nh(y:Int)(h0:1≤y):Al y 12=if Cv y then 366 else 365:=by
 simp only[Al,AE];cases Cv y<;>rfl
theorem EB(y:Int)(h0:1≤y):Am (y+1)=Am y+Al y 12:=by
 rw[Nh y h0];unfold Am Cv;rw[show y+1-1=y by omega];have e1:∀b:Int,0<b→y.tdiv b=y/b:=fun b hb=>Int.tdiv_eq_ediv_of_nonneg (by omega);have e2:∀b:Int,0<b→(y-1).tdiv b=(y-1)/b:=fun b hb=>Int.tdiv_eq_ediv_of_nonneg (by omega);have e3:∀b:Int,0<b→y.tmod b=y%b:=fun b hb=>Int.tmod_eq_emod_of_nonneg (by omega);rw[e1 4 (by omega),e1 100 (by omega),e1 400 (by omega),e2 4 (by omega),e2 100 (by omega),e2 400 (by omega),e3 4 (by omega),e3 100 (by omega),e3 400 (by omega)];simp only[Bool.and_eq_true,Bool.or_eq_true,beq_iff_eq,bne_iff_ne,ne_eq];split<;>omega
def AA(k:Nat)(u:Nat):Bs:=List.replicate (k-(decDigits u).length) 48++decDigits u
theorem EI(k u:Nat):Ay (AA k u)=u:=by
 unfold AA;have h:∀(m:Nat)(s:Bs),Ay (List.replicate m 48++s)=Ay s:=by
  intro m s;induction m with
  |zero=>rfl
  | succ m ih=>
    rw[List.replicate_succ];exact ih
 rw[h,G3]
theorem Ca{k u:Nat}(hk:1≤k)(h:u<10 ^ k):(AA k u).length=k:=by
 unfold AA;rw[List.length_append,List.length_replicate,decDigits_length];have:=Ek k hk h;omega
theorem CZ(k u:Nat):(AA k u).all AF=true:=by
 unfold AA;rw[List.all_append,Gw,Bool.and_true,List.all_eq_true];intro b hb;rw[List.eq_of_mem_replicate hb];decide
def AJ(n:Int):Nat×Nat×Nat:=
 let y:=Bp n 9998
 let m:=BS y n 11
 (y,m,(n-Am y-Al y (m-1)).toNat)
theorem DC{n:Int}(h0:0<n)(h1:n≤3652059):1≤(AJ n).1∧(AJ n).1≤9999∧1≤(AJ n).2.1∧(AJ n).2.1≤12∧1≤(AJ n).2.2∧((AJ n).2.2:Int)≤AE (AJ n).1 (AJ n).2.1∧
 Am (AJ n).1+Al (AJ n).1 ((AJ n).2.1-1)+(AJ n).2.2=n:=by
 have hY:n≤Am (((9998:Nat):Int)+2):=by
  have:Am (((9998:Nat):Int)+2)=3652059:=by decide
  omega
 obtain⟨a,b,c,d⟩:=Ng n (by omega) 9998 (Nat.le_refl _) hY;rw[EB _ (by omega)]at d;obtain⟨a2,b2,c2,d2⟩:=MF (Bp n 9998) n c 11 (Nat.le_refl _) d;have e:Al (Bp n 9998) (BS (Bp n 9998) n 11)=Al (Bp n 9998) (BS (Bp n 9998) n 11-1)+AE (Bp n 9998) (BS (Bp n 9998) n 11):=by
  obtain⟨m,hm⟩:∃q,BS (Bp n 9998) n 11=q+1:=⟨BS (Bp n 9998) n 11-1,by omega⟩;rw[hm];show Al _ m+AE _ ((m:Int)+1)=_;rw[show m+1-1=m by omega];congr 2
 have hs:AJ n=(Bp n 9998,BS (Bp n 9998) n 11,(n-Am (Bp n 9998)-Al (Bp n 9998) (BS (Bp n 9998) n 11-1)).toNat):=rfl;rw[hs];simp only;refine⟨a,b,a2,b2,by omega,?_,by omega⟩;omega
def AX(n:Int):Bs:=AA 4 (AJ n).1++AA 2 (AJ n).2.1++AA 2 (AJ n).2.2
theorem EG(y m:Int):AE y m≤31:=by
 unfold AE;split
 ·omega
 ·have h : ∀ k : Nat, ([31, 28, 31, 30, 31, 30, 31, 31, 30, 31, 30, 31] : List Int).getD k 0 ≤ 31 := by
   intro k;match k with
   | 0| 1| 2| 3| 4| 5| 6| 7| 8| 9| 10| 11=>decide
   |k+12=>simp
  exact h _
theorem Gk{n:Int}(h0:0<n)(h1:n≤3652059):Bn (AX n)=n:=by
 obtain⟨a,b,c,d,e,f,g⟩:=DC h0 h1;have hm:=EG (AJ n).1 (AJ n).2.1;unfold AX;generalize(AJ n).1=y at*;generalize(AJ n).2.1=m at*;generalize(AJ n).2.2=q at*;have l1:=Ca (k:=4) (u:=y) (by omega) (by omega);have l2:=Ca (k:=2) (u:=m) (by omega) (by omega);have l3:=Ca (k:=2) (u:=q) (by omega) (by omega);have e1:(AA 4 y++AA 2 m++AA 2 q).take 4=AA 4 y:=by
  rw[List.append_assoc,List.take_append_of_le_length (by omega),List.take_of_length_le (by omega)]
 have e2:((AA 4 y++AA 2 m++AA 2 q).drop 4).take 2=AA 2 m:=by
  rw[List.append_assoc,List.drop_left' l1,List.take_append_of_le_length (by omega),List.take_of_length_le (by omega)]
 have e3:(AA 4 y++AA 2 m++AA 2 q).drop 6=AA 2 q:=List.drop_left' (by rw[List.length_append];omega);have hd:(AA 4 y++AA 2 m++AA 2 q).all AF=true:=by rw[List.all_append,List.all_append,CZ,CZ,CZ];rfl
 have hl:(AA 4 y++AA 2 m++AA 2 q).length=8:=by rw[List.length_append,List.length_append];omega
 unfold Bn Bq;rw[if_neg (by intro h;rw[h]at hd;exact absurd hd (by decide)),if_neg (by rw[hl,hd];simp),e1,e2,e3,EI,EI,EI];unfold Bk;rw[if_neg (by simp[CD];omega)];show Am (y:Int)+(q:Int)+Al (y:Int) ((m:Int)-1).toNat=n;rw[show((m:Int)-1).toNat=m-1 by omega];omega
def wdM:Wd:=⟨itoa,AX⟩
theorem wdM_ok:Nz wdM Bn where
 nums n h0 h1:=by
  obtain⟨u,rfl⟩:∃u:Nat,n=u:=⟨n.toNat,by omega⟩;show(itoa (u:Int)).length≤15∧Ay (itoa (u:Int))=u;rw[EE _ h0,show(u:Int).toNat=u from rfl,decDigits_length,G3];exact⟨Ek 15 (by omega) (by omega),rfl⟩
 days n h0 h1:=Gk h0 h1;zero:=by decide
 fit n h0 hl:=by
  obtain⟨u,rfl⟩:∃u:Nat,n=u:=⟨n.toNat,by omega⟩;have hl':(itoa (u:Int)).length≤15:=hl;rw[EE _ h0,show(u:Int).toNat=u from rfl,decDigits_length]at hl';have h1:=J9 u;have h2:(10:Nat) ^ nDigits u≤10 ^ 15:=Nat.pow_le_pow_right (by omega) hl';omega
theorem Ln(y m:Int)(h1:1≤m)(h2:m≤12):28≤AE y m:=by
 unfold AE;split
 ·omega
 ·have hm:m=1∨m=2∨m=3∨m=4∨m=5∨m=6∨m=7∨m=8∨m=9∨m=10∨m=11∨m=12:=by omega
  rcases hm with rfl|rfl|rfl|rfl|rfl|rfl|rfl|rfl|rfl|rfl|rfl|rfl<;>decide
theorem Dv(y:Int){a b:Nat}(h:a≤b)(hb:b≤12):Al y a≤Al y b:=by
 obtain⟨k,rfl⟩:∃k,b=a+k:=⟨b-a,by omega⟩;clear h;induction k with
 |zero=>exact Int.le_refl _
 | succ k ih=>
   have:=ih (by omega);have h2:=Ln y ((a+k:Nat)+1) (by omega) (by omega);show Al y a≤Al y (a+k)+AE y ((a+k:Nat)+1);omega
theorem DJ{a:Int}(h1:1≤a):∀k:Nat,Am a≤Am (a+k):=by
 intro k;induction k with
 |zero=>simp
 | succ k ih=>
   have h2:=EB (a+k) (by omega);have h3:=Dv (a+k) (a:=0) (b:=12) (by omega) (by omega);have h4:Al (a+k) 0=0:=rfl;rw[show a+((k+1:Nat):Int)=a+k+1 by omega];omega
theorem Ni{a b n:Int}(ha:1≤a)(hb:1≤b)(h1:Am a<n)(h2:n≤Am (a+1))(h3:Am b<n)(h4:n≤Am (b+1)):a=b:=by
 by_cases h:a<b
 ·have:=DJ (a:=a+1) (by omega) (b-(a+1)).toNat;rw[show a+1+((b-(a+1)).toNat:Int)=b by omega]at this;omega
 by_cases h':b<a
 ·have:=DJ (a:=b+1) (by omega) (a-(b+1)).toNat;rw[show b+1+((a-(b+1)).toNat:Int)=a by omega]at this;omega
 omega
theorem Lm{y n:Int}{a b:Nat}(ha:1≤a)(ha2:a≤12)(hb:1≤b)(hb2:b≤12)(h1:Al y (a-1)<n)(h2:n≤Al y a)(h3:Al y (b-1)<n)(h4:n≤Al y b):a=b:=by
 by_cases h:a<b
 ·have:=Dv y (a:=a) (b:=b-1) (by omega) (by omega);omega
 by_cases h':b<a
 ·have:=Dv y (a:=b) (b:=a-1) (by omega) (by omega);omega
 omega
theorem Em(y:Int){m:Nat}(h:1≤m):Al y m=Al y (m-1)+AE y m:=by
 obtain⟨k,rfl⟩:∃q,m=q+1:=⟨m-1,by omega⟩;show Al y k+AE y ((k:Int)+1)=_;rw[show k+1-1=k by omega];congr 2
theorem KH{n:Int}{y m q:Nat}(hy:1≤y)(hy2:y≤9999)(hm:1≤m)(hm2:m≤12)(hq:1≤q)(hq2:(q:Int)≤AE y m)(h:Am y+Al y (m-1)+q=n):AJ n=(y,m,q):=by
 have hb:∀{y m:Nat}{q:Int},1≤y→1≤m→m≤12→1≤q→q≤AE y m→Am y<Am y+Al y (m-1)+q∧Am y+Al y (m-1)+q≤Am ((y:Int)+1):=by
  intro y m q h1 h2 h3 h4 h5;have a1:=Dv y (a:=0) (b:=m-1) (by omega) (by omega);have a2:=Dv y (a:=m) (b:=12) (by omega) (by omega);have a3:=Em y h2;have a4:=EB (y:Int) (by omega);have a5:Al (y:Int) 0=0:=rfl;omega
 have h0:=hb hy hm hm2 (show(1:Int)≤(q:Int)by omega) hq2;rw[h]at h0;have hn1:0<n:=by
  have:=DJ (a:=1) (by omega) (y-1);rw[show(1:Int)+((y-1:Nat):Int)=y by omega]at this;have e:Am 1=0:=by decide
  omega
 have hn2:n≤3652059:=by
  have:=DJ (a:=(y:Int)+1) (by omega) (9999-y);rw[show(y:Int)+1+((9999-y:Nat):Int)=10000 by omega]at this;have e:Am 10000=3652059:=by decide
  omega
 obtain⟨a,b,c,d,e,f,g⟩:=DC hn1 hn2;have h1:=hb a c d (show(1:Int)≤((AJ n).2.2:Int)by omega) f;rw[g]at h1;have e1:((AJ n).1:Int)=y:=Ni (by omega) (by omega) h1.1 h1.2 h0.1 h0.2;have s1:(AJ n).1=y:=by omega
 rw[s1]at g f;have a3:=Em y hm;have a4:=Em y c;have e2:(AJ n).2.1=m:=Lm (y:=y) (n:=n-Am y) c d hm hm2 (by omega) (by omega) (by omega) (by omega);rw[e2]at g;have e3:(AJ n).2.2=q:=by omega
 rw[←s1,←e2,←e3]
def wl:OW→Nat
 |none=>0
 |some p=>p.1.length
end Go.Proofs.YtgjdhajcnechdaaGreatDoor
