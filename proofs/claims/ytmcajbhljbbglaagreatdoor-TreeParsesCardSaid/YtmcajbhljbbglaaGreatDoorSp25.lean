/-
  Lex. Plain laws: the tokens of a source are tame. Sizes of expressions: in, beside, isLarge, ofExpr. The reference's reader: braces.
-/
import Derived.Test.YtmcajbhljbbglaaGreatDoorSpF
import Derived.Test.YtmcajbhljbbglaaGreatDoorSp21
import Derived.Test.YtmcajbhljbbglaaGreatDoorSp10
import Derived.Test.YtmcajbhljbbglaaGreatDoorSp13
import Derived.Test.YtmcajbhljbbglaaGreatDoorSp24
set_option linter.all false
set_option maxRecDepth 100000
set_option maxHeartbeats 8000000
namespace Go.Proofs.YtmcajbhljbbglaaGreatDoor
open Tryz
open Go.RowKit
theorem vJ(s:Bs):∀n i line,i≤s.length→2*(s.length-i)+line.toNat<n→BU s n i line ≠ .out:=by
 intro n;induction n using Nat.strongRecOn with
 | ind n ih=>
   intro i line hi hn;rw[Pg];have hf:=sB s n i line hi hn;cases hq:Bo s n i line with
   | tok t j l m=>
     rw[hq]at hf;have:=ih m (WJ s n i line t j l m hq) j l hf.1 hf.2;show(BU s m j l).cons t ≠ .out;cases hr:BU s m j l with
     |ok l=>simp[LexR.cons]
     |bad k=>simp[LexR.cons]
     |out=>exact absurd hr this
   |stop=>simp
   |bad k=>simp
   |out=>rw[hq]at hf;exact hf.elim
def EU(s:Bs):LexR:=BU s (2*s.length+1) 0 false
theorem LZ(s:Bs):EU s ≠ .out:=vJ s _ 0 false (Nat.zero_le _) Ae
theorem oU:∀(l:List Tok)(j:Nat),j<l.length→(Cr l)[j*3]? =some (.int .i64 (Af l j).kind)∧(Cr l)[j*3+1]? =some (.int .i64 (Af l j).pos)∧(Cr l)[j*3+2]? =some (str (Af l j).text):=by
 intro l;induction l with
 |nil=>intro j h;simp at h
 | cons t l ih=>
   intro j h;have e:Cr (t::l)=FP t++Cr l:=by simp[Cr]
   rw[e];cases j with
   |zero=>exact⟨rfl,rfl,rfl⟩
   | succ j=>
     have h':=ih j Lp;have ht:Af (t::l) (j+1)=Af l j:=by simp[Af]
     rw[ht];have hl:(FP t).length=3:=rfl;refine⟨?_,?_,?_⟩
     ·rw[List.getElem?_append_right (by rw[hl];omega),hl,show(j+1)*3-3=j*3 by omega];exact h'.1
     ·rw[List.getElem?_append_right (by rw[hl];omega),hl,show(j+1)*3+1-3=j*3+1 by omega];exact h'.2.1
     ·rw[List.getElem?_append_right (by rw[hl];omega),hl,show(j+1)*3+2-3=j*3+2 by omega];exact h'.2.2
theorem U2{w:World}{B:Nat}{v:Value}{l:List Tok}(h:w.ownsRow B 89 3 v l.length (Cr l)):TRow w v l (Ap B):=by
 obtain⟨a,cap,e,h1,h2,h3,h4⟩:=GE h;refine⟨a,cap,e,h1,h2,fun j hj=>?_⟩;obtain⟨c0,c1,c2⟩:=oU l j hj;obtain⟨g,o,ea,hg,d0⟩:=h4 _ _ c0;obtain⟨g1,o1,ea1,_,d1⟩:=h4 _ _ c1;obtain⟨g2,o2,ea2,_,d2⟩:=h4 _ _ c2;rw[ea]at ea1 ea2;cases ea1;cases ea2;exact⟨g,o,ea,hg,d0,by rw[Nat.add_assoc];exact d1,by rw[Nat.add_assoc];exact d2⟩
theorem zZ(b:Nat)(w:World):Calls Tryz.prog 53 #[.pointer (some ⟨b,0,none⟩)] w fun e w'=>e= .returned (.func (.func 83) #[] #[.pointer (some ⟨w.heap.size,0,none⟩)])∧w'=w.alloc (.cells #[.pointer (some ⟨b,0,none⟩)] 82 (0,0)):=by
 have LC{P}(h:P:=by go_enter func53,ntmps53;exact I5):=Aa h;exact Lt
theorem m7{w:World}{b cb i n:Nat}{s:Bs}{line:Bool}{R:LexR}(hbc:b≠cb)(hcb:w.cell? ⟨cb,0,none⟩=some (.pointer (some ⟨b,0,none⟩)))(hs:Sc w b s i line line (-1))(ht:Tabs b w)
 (hR:R ≠ .out) (hl:BU s n i line=R) (hn:n<100000):
 Calls Tryz.prog 52 #[.func (.func 83) #[] #[.pointer (some ⟨cb,0,none⟩)]] w
  fun e w'=>w.grownBy w' (some b)∧(∃v,e= .returned v∧PR b s (fun l W=>W.ownsRow (w.heap.size+3) 89 3 v l.length (Cr l)) R w'):=by
 have hA:=lJ hbc hcb hs ht hR hl hn;have HA:=Z hA;clear hA hl hcb hs ht hR hn;go_enter func52,ntmps52;go_wp2_with fail;refine HA.out.mono ?_;rintro e w1 ⟨g,v,rfl,hE⟩;have HE:=Z hE;clear hE;go_wp2;go_ret;exact⟨g,_,rfl,HE.out⟩
theorem zG:∀(cr:List Value)(k:Nat)(pre old post:List Value),old.length=cr.length→pre.length=2+k→
 (cr.zipIdx k).foldl (fun cs x=>cs.setIfInBounds (2+x.2) x.1) (pre++old++post).toArray=(pre++cr++post).toArray:=by
 intro cr;induction cr with
 | nil=>
   intro k pre old post h _;have:old=[]:=List.eq_nil_of_length_eq_zero Lp;subst this;rfl
 | cons c cr ih=>
   intro k pre old post h hp;cases old with
   |nil=>simp at h
   | cons o old=>
     rw[List.zipIdx_cons,List.foldl_cons];have e:(pre++o::old++post).toArray.setIfInBounds (2+k) c=((pre++[c])++old++post).toArray:=by
      rw[←hp];simp
     simp only[];rw[e,ih (k+1) (pre++[c]) old post Lp Ag];simp
theorem mX:Tryz.zeroCells86=([str [],Value.int .i64 0]++List.replicate 256 (Value.int .u8 0)++[Value.bool false,Value.bool false,Value.int .i64 0]).toArray:=Bk
theorem set0(a v:Value)(l:List Value):(a::l).toArray.setIfInBounds 0 v=(v::l).toArray:=Ae
theorem nQ(s:Bs)(cr:List Value)(hc:cr.length=256):
 List.foldl (fun cs x=>cs.setIfInBounds (2+x.2) x.1) (Tryz.zeroCells86.setIfInBounds 0 (str s)) cr.zipIdx=([str s,Value.int .i64 0]++cr++[Value.bool false,Value.bool false,Value.int .i64 0]).toArray:=by
 rw[mX];have e:=set0 (str []) (str s) ([Value.int .i64 0]++List.replicate 256 (Value.int .u8 0)++[Value.bool false,Value.bool false,Value.int .i64 0]);have e2:([str [],Value.int .i64 0]++List.replicate 256 (Value.int .u8 0)++[Value.bool false,Value.bool false,Value.int .i64 0]).toArray.setIfInBounds 0 (str s)=([str s,Value.int .i64 0]++List.replicate 256 (Value.int .u8 0)++[Value.bool false,Value.bool false,Value.int .i64 0]).toArray:=e;rw[e2];exact zG cr 0 [str s,Value.int .i64 0] (List.replicate 256 (Value.int .u8 0)) _ (by rw[List.length_replicate,hc]) rfl
theorem lA(s:Bs)(cr:List Value)(hc:cr.length=256):
 (([str s,Value.int .i64 0]++cr++[Value.bool false,Value.bool false,Value.int .i64 0]).toArray).setIfInBounds 260 (.int .i64 (-1))=(str s :: .int .i64 0::(cr++[.bool false,.bool false,.int .i64 (-1)])).toArray:=by
 rw[List.setIfInBounds_toArray];congr 1;rw[show(260:Nat)=258+1+1 from rfl];show str s::Value.int .i64 0::((cr++[Value.bool false,Value.bool false,Value.int .i64 0]).set 258 (.int .i64 (-1)))=_;rw[List.set_append_right _ _ Ab,hc];rfl
theorem Tabs.mono{B B':Nat}{w:World}(h:Tabs B w)(hB:B≤B'):Tabs B' w:=by
 obtain⟨R,oR,cap,hR,hc⟩:=h.case;have:=h.low;exact⟨h.utf8,by omega,⟨R,oR,cap,by omega,hc⟩,h.glob⟩
def WQ(w:World)(s:Bs)(e:Ending)(w':World):Prop:=w.grownBy w' none∧
 if 4000<s.length then e= .returned (.tuple #[.slice none 0 0,.int .i64 0,.int .i64 3])
 else match EU s with
  | .ok l=>if 1200<l.length then e= .returned (.tuple #[.slice none 0 0,.int .i64 0,.int .i64 3])else ∃v,e= .returned (.tuple #[v,.int .i64 l.length,.int .i64 0])∧TRow w' v l (Ap w.heap.size)
  | .bad k=>e= .returned (.tuple #[.slice none 0 0,.int .i64 k,.int .i64 2])
  | .out=>False
theorem Aax{w:World}(ht:Tabs w.heap.size w)(s:Bs)(hs:s.length≤1000000):Calls Tryz.prog 23 #[str s] w (WQ w s):=by
 by_cases hl:4000<s.length
 ·have HP:=Z hl;have hl1:decide ((4000:Int)<s.length)=true:=Ag;go_enter func23,ntmps23;go_wp2;exact bodyPost_ret (v:= .tuple #[.slice none 0 0,.int .i64 0,.int .i64 3]) MT rfl ⟨Aj _ _,by rw[if_pos HP.out]⟩
 ·have HP:=Z hl;have hl1:decide ((4000:Int)<s.length)=false:=Ag;go_enter func23,ntmps23;go_wp2_with fail;refine(m5 _).mono ?_;rintro e w1 ⟨rfl,g1⟩;have hcl:=Jh 256;have HF:=Z (nQ s (AU 256) hcl);have HC:=Z (lA s (AU 256) hcl);generalize hcr:AU 256=cr at*;have HR:=Z hcr;clear hcr;go_wp2_with fail
  ·exfalso;rw[HF.out]at h;simp[hcl]at h
  rw[HF.out,HC.out];refine(zZ _ _).mono ?_;rintro e w2 ⟨rfl,rfl⟩;have g2:w1.grownBy ((w1.alloc (.cells (str s :: .int .i64 0::(cr++[.bool false,.bool false,.int .i64 (-1)])).toArray 86 (0,0))).alloc (.cells #[.pointer (some ⟨w1.heap.size,0,none⟩)] 82 (0,0))) none:=Ar (World.grownBy_alloc w1 _ none) _;have hS:Sc ((w1.alloc (.cells (str s :: .int .i64 0::(cr++[.bool false,.bool false,.int .i64 (-1)])).toArray 86 (0,0))).alloc (.cells #[.pointer (some ⟨w1.heap.size,0,none⟩)] 82 (0,0))) w1.heap.size s 0 false false (-1):=by
   refine⟨((Blk.new w1 _ _).alloc _).of_eq rfl ?_,Nat.zero_le _,by omega⟩;rw[←HR.out];rfl
  have hcb:((w1.alloc (.cells (str s :: .int .i64 0::(cr++[.bool false,.bool false,.int .i64 (-1)])).toArray 86 (0,0))).alloc (.cells #[.pointer (some ⟨w1.heap.size,0,none⟩)] 82 (0,0))).cell? ⟨w1.heap.size+1,0,none⟩=some (.pointer (some ⟨w1.heap.size,0,none⟩)):=by
   simp
  have hsz:(w1.alloc (.cells (str s :: .int .i64 0::(cr++[.bool false,.bool false,.int .i64 (-1)])).toArray 86 (0,0))).heap.size=w1.heap.size+1:=Ae;rw[hsz];have ht2:=(ht.gbN g1).gbN g2;have gA:=Ah g1 g2;generalize((w1.alloc (.cells (str s :: .int .i64 0::(cr++[.bool false,.bool false,.int .i64 (-1)])).toArray 86 (0,0))).alloc (.cells #[.pointer (some ⟨w1.heap.size,0,none⟩)] 82 (0,0)))=W at*;generalize(str s :: .int .i64 0::(cr++[.bool false,.bool false,.int .i64 (-1)])).toArray=big at*;have hw1:=g1.size;have hC:=m7 (n:=2*s.length+1) Ab hcb hS (ht2.mono hw1) (LZ s) rfl Ab;have HW:=Z hC;clear hC hcb hS ht2 HF HC HR hcl hsz;go_wp2_with fail;refine HW.out.mono ?_;rintro e w3 ⟨g3,v,rfl,hE⟩;have gB:=A5 gA g3 (.inr hw1);cases hq:EU s with
  |out=>exact absurd hq (LZ s)
  | bad k=>
    rw[hq]at hE;obtain⟨_,j,l',hs3⟩:=hE;have HQ:=Z hq;clear hq;have d260:=hs3.c260;have hlt:=hs3.lt;go_wp2;go_quiet(fail);go_wp2;exact bodyPost_ret (v:= .tuple #[.slice none 0 0,.int .i64 k,.int .i64 2]) MT rfl ⟨AA gB _,by rw[if_neg HP.out,HQ.out]⟩
  | ok l=>
    rw[hq]at hE;obtain⟨hO,j,l',hs3⟩:=hE;have HQ:=Z hq;clear hq;have hT:=U2 hO;obtain⟨a,cap,rfl,_⟩:=id hT;have HT:=Z hT;clear hT hO;have d260:=hs3.c260;have hlt:=hs3.lt;have hwA:=gA.size;by_cases hm:1200<l.length
    ·have HM:=Z hm;have hm1:decide ((1200:Int)<l.length)=true:=Ag;clear hm;go_wp2;exact bodyPost_ret (v:= .tuple #[.slice none 0 0,.int .i64 0,.int .i64 3]) MT rfl ⟨gB,by rw[if_neg HP.out,HQ.out];show ite _ _ _;rw[if_pos HM.out]⟩
    ·have HM:=Z hm;have hm1:decide ((1200:Int)<l.length)=false:=Ag;clear hm;go_wp2;refine bodyPost_ret (v:= .tuple #[.slice a l.length cap,.int .i64 l.length,.int .i64 0]) MT rfl ⟨gB,?_⟩;rw[if_neg HP.out,HQ.out];show ite _ _ _;rw[if_neg HM.out];exact⟨_,rfl,TRow.mono HT.out fun k hk _=>by simp at hk ⊢;omega⟩
structure At(t:Tok):Prop where
 short:t.text.length≤4000
 num:t.kind=1→1≤t.text.length∧t.text.length≤15∧t.text.all Bc=true
 word:t.kind=0→(∃c r,t.text=c::r∧Bc c=false)∧t.text.all F1=true
theorem M4(b:UInt8):cls 2 b=Bc b:=by
 rw[Bool.eq_iff_iff];simp only[cls,Bc,beq_iff_eq,Bool.and_eq_true,decide_eq_true_eq];rcases I2 b.toNat with⟨h2,h3⟩| ⟨h2,h3⟩| ⟨h2,h3⟩| ⟨h2,h3⟩| ⟨h2,h3⟩<;>rw[h2]<;>constructor<;>intro h<;>first|omega| (exfalso;omega)
theorem V9(b:UInt8)(h:Bm b=true):F1 (Lib.upperB b)=true∧(cls 1 b=true→Bc (Lib.upperB b)=false):=by
 have hall:∀n:Fin 256,Bm (UInt8.ofNat n.val)=true→F1 (Lib.upperB (UInt8.ofNat n.val))=true∧(cls 1 (UInt8.ofNat n.val)=true→Bc (Lib.upperB (UInt8.ofNat n.val))=false):=En;have e:UInt8.ofNat b.toNat=b:=Ae;have:=hall ⟨b.toNat,b.toNat_lt⟩;simp only[e]at this;exact this h
theorem Pv{s:Bs}{i j:Nat}:(A3 s i j).length≤s.length:=by simp[A3];omega
theorem vU{s:Bs}{i:Nat}(hi:i<s.length)(hs:s.length≤4000){t:Tok}{j:Nat}{l:Bool}(h:AK s i= .tok t j l):At t:=by
 unfold AK at h;split at h
 ·rename_i h1;split at h
  ·cases h
  ·cases h;have hge:i+1≤Au s Bm i:=by rw[BK hi (by simp[Bm,h1])];exact By _ _ _
   have hsl:A3 s i (Au s Bm i)=bAt s i::A3 s (i+1) (Au s Bm i):=Vz Ab (Cp Ab);refine⟨by simp only[Lib.toUpperA,List.length_map];exact Nat.le_trans Pv hs,by simp,fun _=>⟨⟨Lib.upperB (bAt s i),Lib.toUpperA (A3 s (i+1) (Au s Bm i)),by simp[hsl,Lib.toUpperA],(V9 _ (by simp[Bm,h1])).2 h1⟩,?_⟩⟩;rw[List.all_eq_true];intro x hx;obtain⟨y,hy,rfl⟩:=List.mem_map.1 hx;exact(V9 y (Pw Ab y hy)).1
 ·split at h
  ·rename_i h1;split at h
   ·cases h
   ·cases h;have hge:i+1≤Au s (cls 2) i:=by rw[BK hi h1];exact By _ _ _
    have hle:Au s (cls 2) i≤s.length:=Cp Ab;refine⟨Nat.le_trans Pv hs,fun _=>⟨?_,?_,?_⟩,by simp⟩
    ·simp only[Hj (by omega:i≤Au s (cls 2) i) hle];omega
    ·simp only[Hj (by omega:i≤Au s (cls 2) i) hle];omega
    ·rw[List.all_eq_true];intro x hx;rw[←M4];exact Pw Ab x hx
  ·split at h
   ·unfold Dz at h;simp only[]at h;split at h
    ·split at h
     ·cases h
     ·cases h;exact⟨Nat.le_trans Pv hs,by simp,by simp⟩
    ·cases h
   ·cases hd:BB (s.drop i)with
    | some p=>
      obtain⟨d,n⟩:=p;rw[hd]at h;cases h;refine⟨?_,by simp,by simp⟩;unfold BB at hd;split at hd
      ·cases hd;simp
      ·split at hd
       ·split at hd
        ·cases hd;simp[F4,A3];omega
        ·cases hd
       ·cases hd
    | none=>
      rw[hd]at h;cases hs2:Dc s i with
      |none=>rw[hs2]at h;cases h
      | some w=>
        rw[hs2]at h;cases h;have:=Kv (Pu hs2).1;exact⟨by simp;omega,by simp,by simp⟩
theorem VR(i:Nat):At ⟨5,i,[]⟩:=⟨by simp,by simp,by simp⟩
theorem rX{s:Bs}{i:Nat}{line:Bool}(hs:s.length≤4000){t:Tok}{j:Nat}{l:Bool}(h:Bt s i line= .tok t j l):At t:=by
 unfold Bt at h;split at h
 ·split at h
  ·cases h;exact VR i
  ·cases h
 ·split at h
  ·split at h
   ·cases h;exact VR i
   ·cases h
  ·split at h
   ·cases h
   ·split at h
    ·split at h<;>cases h
    ·split at h
     ·split at h
      ·split at h<;>cases h
      ·cases h
     ·exact vU Ab hs h
theorem PL{s:Bs}(hs:s.length≤4000):∀n i line ts,BU s n i line= .ok ts→∀t∈ts,At t:=by
 intro n;induction n with
 |zero=>intro i line ts h;cases h
 | succ n ih=>
   intro i line ts h;rw[BU]at h;cases hq:Bt s i line with
   | tok t j l=>
     rw[hq]at h;simp only at h;cases hr:BU s n j l with
     | ok ts'=>
       rw[hr]at h;cases h;intro t' ht';rcases List.mem_cons.1 ht' with rfl|ht'
       ·exact rX hs hq
       ·exact ih j l ts' hr t' ht'
     |bad k=>rw[hr]at h;cases h
     |out=>rw[hr]at h;cases h
   |again j l=>rw[hq]at h;exact ih j l ts h
   |stop=>rw[hq]at h;cases h;simp
   |bad k=>rw[hq]at h;cases h
theorem KG{ts:List Tok}(h:∀t∈ts,At t)(i:Nat):At (Af ts i):=by
 unfold Af;cases hi:ts[i]? with
 |none=>exact⟨by simp,by simp,by simp⟩
 |some t=>exact h t (List.mem_of_getElem? hi)
theorem zD:∀(s:Bs)(a:Nat),s.all Bc=true→∃n:Nat,Lib.decFrom a s=some n∧(n:Int)=s.foldl (fun n b=>10*n+((b.toNat:Int)-48)) (a:Int):=by
 intro s;induction s with
 |nil=>intro a _;exact⟨a,rfl,rfl⟩
 | cons b r ih=>
   intro a h;simp only[List.all_cons,Bool.and_eq_true,Bc,decide_eq_true_eq]at h;obtain⟨n,h1,h2⟩:=ih (a*10+(b.toNat-48)) h.2;refine⟨n,?_,?_⟩
   ·rw[Lib.decFrom,Lib.digitVal,if_pos h.1];exact h1
   ·rw[List.foldl_cons,h2];congr 1;omega
theorem wM(s:Bs)(h1:1≤s.length)(hd:s.all Bc=true):Lib.atoi s=some (AS s):=by
 cases s with
 |nil=>simp at h1
 | cons b r=>
   obtain⟨n,h2,h3⟩:=zD (b::r) 0 hd;simp only[List.all_cons,Bool.and_eq_true,Bc,decide_eq_true_eq]at hd;have e45:(b==45)=false:=by simp;rintro rfl;simp at hd
   have e43:(b==43)=false:=by simp;rintro rfl;simp at hd
   have e:Lib.decNat (b::r)=some n:=h2;simp only[Lib.atoi,e45,e43,e,Bool.false_eq_true,if_false,Option.map_some];rw[h3];rfl
def A8(s:Bs):Int:=(BD s).1
theorem tI{ts:List Tok}(h:∀t∈ts,At t):FO A8 ts:=by
 refine⟨fun i=>(KG h i).short,fun i hi=>?_,fun i _ w=>?_⟩
 ·have:=(KG h i).num hi;exact⟨by omega,wM _ this.1 this.2.2⟩
 ·refine(V1 (Af ts i).text (by have:=(KG h i).short;omega) w).mono ?_;rintro e w' ⟨rfl,g⟩;exact⟨⟨_,rfl⟩,g⟩
theorem nK{s:Bs}(hs:s.length≤4000){ts:List Tok}(h:EU s= .ok ts):FO A8 ts:=tI (PL hs _ _ _ _ h)
def Fo.nodes:Fo→Nat
 | .nil=>0
 | .cons _ kids next=>1+kids.nodes+next.nodes
def Fo.levels:Fo→Nat
 | .nil=>0
 | .cons _ kids next=>max (1+kids.levels) next.levels
def Ex.nodes(x:Ex):Nat:=1+x.kids.nodes
def Ex.levels(x:Ex):Nat:=1+x.kids.levels
theorem Fo.len_nodes:∀f:Fo,f.len≤f.nodes∧f.levels≤f.nodes:=by
 intro f;induction f with
 |nil=>simp[Fo.len,Fo.nodes,Fo.levels]
 |cons h kids next ih1 ih2=>simp only[Fo.len,Fo.nodes,Fo.levels];omega
abbrev szV(n m:Int):Value:= .agg #[.int .i64 n,.int .i64 m]
theorem Pa(a b c d:Nat)(ha:a+c≤1000000000)(hb:b≤1000000000)(hd:d≤1000000000)(w:World):
 Calls Tryz.prog 58 #[szV a b,szV c d] w fun e w'=>e= .returned (szV ((a+c:Nat):Int) ((max b (d+1):Nat):Int))∧w.grownBy w' none:=by
 have e1:((a+c:Nat):Int)=(a:Int)+c:=by push_cast;rfl
 have e2:((max b (d+1):Nat):Int)=max (b:Int) ((d:Int)+1):=Ab;rw[e1,e2];clear e1 e2;go_enter func58,ntmps58;go_wp2;exact bodyPost_ret (v:=szV ((a:Int)+c) (max (b:Int) ((d:Int)+1))) (by simp[results,results58,go_sem]) rfl ⟨rfl,gw⟩
theorem Un(a b c d:Nat)(ha:a+c≤1000000000)(hb:b≤1000000000)(hd:d≤1000000000)(w:World):
 Calls Tryz.prog 68 #[szV a b,szV c d] w fun e w'=>e= .returned (szV ((a+c:Nat):Int) ((max b d:Nat):Int))∧w.grownBy w' none:=by
 have e1:((a+c:Nat):Int)=(a:Int)+c:=by push_cast;rfl
 have e2:((max b d:Nat):Int)=max (b:Int) d:=Ab;rw[e1,e2];clear e1 e2;go_enter func68,ntmps68;go_wp2;exact bodyPost_ret (v:=szV ((a:Int)+c) (max (b:Int) d)) (by simp[results,results68,go_sem]) rfl ⟨rfl,gw⟩
def Bf(n m:Nat):Bool:=decide (400<n)||decide (14<m)
theorem UE(n m:Nat)(w:World):
 Calls Tryz.prog 25 #[szV n m] w fun e w'=>e= .returned (.bool (Bf n m))∧w.grownBy w' none:=by
 cases h1:decide (400<n)with
 | true=>
   have HM:=Z (show Bf n m=true by unfold Bf;rw[h1];rfl);have h2:decide ((400:Int)<n)=true:=MO;clear h1;go_enter func25,ntmps25;exact LP
 | false=>
   have HM:=Z (show Bf n m=decide ((14:Int)<m)by unfold Bf;rw[h1,Bool.false_or,decide_eq_decide];omega);have h2:decide ((400:Int)<n)=false:=MO;clear h1;go_enter func25,ntmps25;exact LP
theorem OP{fn:Func}{p:Tmp}(h:fn.results=#[.cell p 58])(tmps:Array Value){w:World}{k:Nat}{a b:Value}(hb:Blk w k [a,b] 58)
 (hp:tmps.getD p undef= .pointer (some ⟨k,0,none⟩)):(results fn tmps).run Tryz.prog w= .ok (.agg #[a,b]) w:=by
 have c0:=hb.cell 0;have c1:=hb.cell 1;have hp':tmps[p]?.getD undef= .pointer (some ⟨k,0,none⟩):=by simpa using hp
 simp only[List.getElem?_cons_zero,List.getElem?_cons_succ]at c0 c1;simp[results,h,hp',go_sem,c0,c1]
theorem Blk.set2{w:World}{k:Nat}{a0 a1:Value}{t:TypeId}(h:Blk w k [a0,a1] t)(v0 v1:Value):Blk ((w.setCell ⟨k,0,none⟩ v0).setCell ⟨k,1,none⟩ v1) k [v0,v1] t:=
 ((h.set 0 v0).set 1 v1).of_eq rfl rfl
structure SzRel(ok:Nat→Prop)(w:World)(f rest:Fo)(cs:List Value)(k n m:Nat)(wr:World):Prop where
 len:f.len=k+rest.len
 row:RepF ok w rest (cs.drop (k*7))
 nodes:n+rest.nodes=1+f.nodes
 levels:max m (1+rest.levels)=1+f.levels
 pos:1≤m∧1≤n
 acc:Blk wr (w.heap.size+2) [.int .i64 n,.int .i64 m] 58
 res:Blk wr (w.heap.size+1) [.int .i64 0,.int .i64 0] 58
 g:w.grownBy wr none
theorem SzRel.next{ok:Nat→Prop}{w:World}{f kids next:Fo}{h':Hd}{cs:List Value}{k n m:Nat}{wr w1:World}(h:SzRel ok w f (.cons h' kids next) cs k n m wr)
 (hacc:Blk w1 (w.heap.size+2) [.int .i64 ((n+(1+kids.nodes):Nat):Int),.int .i64 ((max m (1+kids.levels+1):Nat):Int)] 58) (hres:Blk w1 (w.heap.size+1) [.int .i64 0,.int .i64 0] 58) (g:w.grownBy w1 none):
 SzRel ok w f next cs (k+1) (n+(1+kids.nodes)) (max m (1+kids.levels+1)) w1:=by
 have h1:=h.len;have h3:=h.nodes;have h4:=h.levels;have h5:=h.pos;simp only[Fo.len,Fo.nodes,Fo.levels]at h1 h3 h4;refine⟨by omega,?_,by omega,by omega,⟨by omega,by omega⟩,hacc,hres,g⟩;exact SH
theorem WK:∀(N:Nat)(f:Fo),f.nodes<N→f.nodes≤1000000→∀(ok:Nat→Prop)(h:Hd)(pa:Option Addr)(pn pc:Nat)(la:Option Addr)(lc:Nat)(w:World),RepL ok w (.slice la f.len lc) f→
 Calls Tryz.prog 26 #[exV h (.slice pa pn pc) (.slice la f.len lc)] w fun e w'=>e= .returned (szV ((1+f.nodes:Nat):Int) ((1+f.levels:Nat):Int))∧w.grownBy w' none:=by
 intro N;induction N with
 |zero=>intro f hN;omega
 | succ N ih=>
   intro f hN hn ok h pa pn pc la lc w hrep;obtain⟨cs,hcells,hrow⟩:=hrep;obtain⟨la',lc',e,h1,h2,h3,h4⟩:=hcells;cases e;have hfl:=f.len_nodes;have hA:SzRel ok w f f cs 0 1 1 (((w.alloc (.cells #[.int .i64 h.op,str h.s,.int .i64 h.vk,.int .i64 h.vn,str h.vs,.slice pa pn pc,.slice la f.len lc] 29 (0,0))).alloc (.cells #[.int .i64 0,.int .i64 0] 58 (0,0))).alloc (.cells #[.int .i64 1,.int .i64 1] 58 (0,0))):=
    ⟨by simp,by simpa using hrow,rfl,by omega,⟨Nat.le_refl _,Nat.le_refl _⟩,(Blk.new _ [.int .i64 1,.int .i64 1] _).of_eq Ae rfl,((Blk.new _ [.int .i64 0,.int .i64 0] _).of_eq Ae rfl).alloc _,Ar (Ar (World.grownBy_alloc w _ none) _) _⟩
   have H4:=Z (Ac h4 ih);clear h4 ih hrow;go_enter func26,ntmps26;go_wp2_with fail;go_loopg [10] f.len (fun g v10 wr=>∃rest:Fo,∃k n m:Nat,rest.len=g∧v10= .int .i64 k∧SzRel ok w f rest cs k n m wr)
   case atStart=>exact⟨f,0,1,1,rfl,rfl,hA⟩
   case round=>
    obtain⟨rest,k,n,m,hg,rfl,hr⟩:=hrel;clear hA;have RP{P}(h:P:=by
    have af:=fun k=>hr.acc.frozen k;have al:=hr.acc.lt;simp only[List.getElem?_cons_zero,List.getElem?_cons_succ]at a0 a1 r0 r1;cases rest with
    | nil=>
      have hlen:=hr.len;have hkI:decide (k<f.len)=false:=by simp[Fo.len]at hlen;simp;omega
      have hnm:n=1+f.nodes∧m=1+f.levels:=by
       have h1:=hr.nodes;have h2:=hr.levels;have h3:=hr.pos;simp[Fo.nodes,Fo.levels]at h1 h2;omega
      have HN:=Z hnm;clear hnm hlen hg;go_wp2;refine bodyPost_ret (OP rfl _ (hr.res.set2 _ _) rfl) rfl ⟨by rw[HN.out.1,HN.out.2],?_⟩;have g:=hr.g;exact gw
    | cons h' kids next=>
      simp only[Fo.len]at hg;subst hg;have hlen:=hr.len;simp only[Fo.len]at hlen;have hkI:decide (k<f.len)=true:=Ag;obtain⟨pv',lv',kcs,rcs,hcs,hp,hl,hkids,hnext⟩:=hr.row;obtain⟨pa',pc',rfl,_⟩:=hp;have hL:RepL ok w lv' kids:=⟨kcs,hl,hkids⟩;obtain⟨la2,lc2,rfl,_⟩:=hl;have hat:∀i u,(hdC h' (.slice pa' h'.p.length pc') (.slice la2 kids.len lc2))[i]? =some u→∃g o,la=some ⟨g,o,none⟩∧ok g∧w.cell? ⟨g,o+(k*7+i),none⟩=some u:=by
       intro i u hu;refine H4.out.1 (k*7+i) u ?_;exact TK
      obtain⟨g,o,rfl,hok,y0⟩:=hat 0 _ rfl;obtain⟨_,_,e1,_,y1⟩:=hat 1 _ rfl;cases e1;obtain⟨_,_,e1,_,y2⟩:=hat 2 _ rfl;cases e1;obtain⟨_,_,e1,_,y3⟩:=hat 3 _ rfl;cases e1;obtain⟨_,_,e1,_,y4⟩:=hat 4 _ rfl;cases e1;obtain⟨_,_,e1,_,y5⟩:=hat 5 _ rfl;cases e1;obtain⟨_,_,e1,_,y6⟩:=hat 6 _ rfl;cases e1;have hgl:=World.block_lt_of_cell? w _ y0;have z0:=Am hr.g y0;have z1:=Am hr.g y1;have z2:=Am hr.g y2;have z3:=Am hr.g y3;have z4:=Am hr.g y4;have z5:=Am hr.g y5;have z6:=Am hr.g y6;simp only[Nat.add_zero,←Nat.add_assoc]at z0 z1 z2 z3 z4 z5 z6;clear y0 y1 y2 y3 y4 y5 y6;have dF{P}(h:P:=by
      have hk0:kids.nodes<N:=Ab;have HL:=Z (fun(W:World)(gW:wr.grownBy W none)=>H4.out.2 kids hk0 Ab ok h' pa' h'.p.length pc' la2 lc2 W (hL.gb (Ah hr.g gW) Ae));have HI:=Z (fun(W:World)=>Pa n m (1+kids.nodes) (1+kids.levels) Ab Ab Ab W);have HR:=Z hr;have hkl2:k+1≤f.len:=Ab;clear hL hnext hkids hcs hr hno hmo hlen hpo;have hy:=Blk.new wr (hdC h' (.slice pa' h'.p.length pc') (.slice la2 kids.len lc2)) 29;have hac:=HR.out.acc.alloc (.cells (hdC h' (.slice pa' h'.p.length pc') (.slice la2 kids.len lc2)).toArray 29 (0,0));have HY:=Z (Ac hy hac);clear hy hac;have hws:=HR.out.g.size;go_wp2_with fail;go_region_with(first
       | (go_at_call 26;refine(HL.out _ ?gg).mono ?_;(case gg=>exact gw);rintro e w5 ⟨rfl,g5⟩;(have y5:=(HY.out.1.drewN 1).gb g5 Ae);(have ac5:=(HY.out.2.drewN 1).gb g5 Ae);(have b0:=y5.cell 0);(have b1:=y5.cell 1);(have b2:=y5.cell 2);(have b3:=y5.cell 3);(have b4:=y5.cell 4);(have b5:=y5.cell 5);(have b6:=y5.cell 6);(have d0:=ac5.cell 0);(have d1:=ac5.cell 1);(have df:=fun k=>ac5.frozen k);(have dl:=ac5.lt);(simp only[hdC,List.getElem?_cons_zero,List.getElem?_cons_succ]at b0 b1 b2 b3 b4 b5 b6 d0 d1))
       | (go_at_call 58;refine(HI.out _).mono ?_;rintro e w6 ⟨rfl,g6⟩;(have ac6:=ac5.gb g6 Ae);(have m0:=ac6.cell 0);(have m1:=ac6.cell 1);(have mf:=fun k=>ac6.frozen k);(have ml:=ac6.lt);(simp only[List.getElem?_cons_zero,List.getElem?_cons_succ]at m0 m1)))
      all_goals
       have hre:=((((HR.out.res.alloc (.cells (hdC h' (.slice pa' h'.p.length pc') (.slice la2 kids.len lc2)).toArray 29 (0,0))).drewN 1).gb g5 Ae).gb g6 Ae);have gg:=A0 (A0 (An (Ar HR.out.g (.cells (hdC h' (.slice pa' h'.p.length pc') (.slice la2 kids.len lc2)).toArray 29 (0,0)))) g5) g6;have HX:=Z (Ac ac6 (Ac hre gg));clear hre gg;go_wp2;go_roundg next.len
       case measure=>omega
       case rel=>
        refine⟨next,k+1,n+(1+kids.nodes),max m (1+kids.levels+1),rfl,by simp,HR.out.next ((HX.out.1.set2 _ _).of_eq Ab (by push_cast;rfl)) ((HX.out.2.1.set_other _ _ Ae).set_other _ _ Ae) (A7 (A7 HX.out.2.2 _ _ (.inr Ag)) _ _ (.inr Ag))⟩):=Aa h
      exact Tz):=Aa h
    exact QT
theorem sC{ok:Nat→Prop}{w:World}{v:Value}{x:Ex}(h:VE ok w v x)(hn:x.kids.nodes≤1000000):
 Calls Tryz.prog 26 #[v] w fun e w'=>e= .returned (szV (x.nodes:Int) (x.levels:Int))∧w.grownBy w' none:=by
 obtain⟨pa,pc,la,lc,rfl,_,hl⟩:=h;exact WK (x.kids.nodes+1) x.kids Ab hn ok x.h pa x.h.p.length pc la lc w hl
section
variable {b:Nat}{tv:Value}{l:List Tok}{w wr:World}{L:Nat}{x z:Ex}{pa la ya ma:Option Addr}{pc lc yc mc:Nat}{st:RS}
theorem KpR.setP(h:KpR b tv l w L wr x pa pc la lc st){p:List Bs}(hp:Cells wr (.slice ya p.length yc) 1 p.length (p.map str) (but w L)):
 KpR b tv l w L (wr.setCell ⟨L,5,none⟩ (.slice ya p.length yc)) ⟨⟨x.h.op,x.h.s,x.h.vk,x.h.vn,x.h.vs,p⟩,x.kids⟩ ya yc la lc st:=by
 have g7:=As (Aj wr (some L)) 5 (.slice ya p.length yc);have hbL:=h.bL;have hwL:=h.wL;have Rx{P}(h:P:=by exact⟨h.rr.gb g7 GT,(h.blk.set 5 _).of_eq rfl rfl,hp.gb g7 hk,h.rl.gb g7 hk,A5 h.gr g7 (.inr Ab),hbL,hwL,h.zero.gb g7 Ag⟩):=Aa h;exact O2
theorem KpR.setL(h:KpR b tv l w L wr x pa pc la lc st)(hb:b<w.heap.size)(zp:Cells wr (.slice ya z.h.p.length yc) 1 z.h.p.length (z.h.p.map str) (but w L))(zl:RepL (but w L) wr (.slice ma z.kids.len mc) z.kids):
 KpR b tv l w L ((wr.setCell ⟨L,6,none⟩ (.slice (some ⟨wr.heap.size,0,none⟩) 1 1)).alloc (.cells (hdC z.h (.slice ya z.h.p.length yc) (.slice ma z.kids.len mc)).toArray 29 (0,0))) ⟨x.h,.one z⟩ pa pc (some ⟨wr.heap.size,0,none⟩) 1 st:=by
 have g7:=As (Aj wr (some L)) 6 (.slice (some ⟨wr.heap.size,0,none⟩) 1 1);have Je{P}(h:P:=by have gA:=World.grownBy_alloc (wr.setCell ⟨L,6,none⟩ (.slice (some ⟨wr.heap.size,0,none⟩) 1 1)) (.cells (hdC z.h (.slice ya z.h.p.length yc) (.slice ma z.kids.len mc)).toArray 29 (0,0)) none;refine⟨(h.rr.gb g7 GT).alloc _,((h.blk.set 6 _).of_eq rfl rfl).alloc _,(h.rp.gb g7 hk).gb gA Ae,?_,Ar (A5 h.gr g7 (.inr Ab)) _,hbL,hwL,(h.zero.gb g7 Ag).alloc _⟩;exact RepL.one (n:=wr.heap.size) Ae ⟨by omega,by omega⟩ (zp.gb g7 hk) (zl.gb g7 hk)):=Aa h;exact Ja
theorem pT{E:FR Ex}(hE:CR 28 b tv l E)(n:Nat)(hn:n≤100000):CR 295 b tv l (Jx l E n):=by
 intro w st r h ho;have hb:=h.lt;have DA{P}(h:P:=by
 unfold Jx at ho;have HT:=Z (B9 h0 [124]);have H:=Z (Ac hE (Ac hz gz));clear hE hz gz h0;cases hs:A2 l [124] st with
 | false=>
   rw[hs]at HT ho;have hq:(FG l E n (Aq l [124] st)).bind (fun r=>some (⟨hd0 7 [],r.1⟩,AZ l [125] r.2))=some r:=ho;obtain⟨⟨f,st1⟩,hf,hq⟩:=Option.bind_eq_some_iff.1 hq;simp only at hq;cases hq;have HF:=Z hf;clear ho hs hf;go_enter func295,ntmps295;have Hc{P}(h:P:=by have hZ1:=H.out.2.1.gb g1 Ag;have G1:=Z (Ah H.out.2.2 g1);have hlt1:=hZ1.lt;have HL:=Z (Mr H.out.1 h1 n hn HF.out);clear g1 h1 HT;go_wp2_with fail;refine HL.out.mono ?_;rintro e w2 ⟨g2,v,rfl,⟨la,lc,rfl,rl⟩,h2⟩;simp only at rl h2 ⊢;have hZ2:=hZ1.gb g2 Ag;have G2:=Z (Ah G1.out g2);have HRL:=Z rl;clear g2 rl hZ1 HL;go_wp2_with fail;refine(E8 h2 [125]).mono ?_;rintro e w4 ⟨g4,v,rfl,rfl,h4⟩;have hZ4:=hZ2.gb g4 Ag;have HE:=Z (Ac (Ah G2.out g4) (Ac (HRL.out.gb g4 XJ) h4));clear g4 h4 hZ2 h2;obtain⟨cz_0,cz_1,cz_2,cz_3,cz_4,cz_5,cz_6,cz_f⟩:=(hZ4).c7;go_wp2;have g7:=AD w4 w.heap.size (.int .i64 7) (str []) (.int .i64 0) (.int .i64 0) (str []) (.slice none 0 0) (.slice la f.len lc);exact bodyPost_ret (AX (hd:=hd0 7 []) (pv:= .slice none 0 0) (lv:= .slice la f.len lc) rfl _ (hZ4.set7 _ _ _ _ _ _ _) rfl) rfl (CK (x:=⟨hd0 7 [],f⟩) hb HE.out.1 (VE.node HE.out.2.1) (by intro k hk;have:w1.heap.size≤k:=hk;omega) HE.out.2.2 g7)):=Aa h;exact GY
 | true=>
   rw[hs]at HT ho;simp only[if_true]at ho;obtain⟨⟨p,st2⟩,hp,ho⟩:=Option.bind_eq_some_iff.1 ho;simp only at ho;obtain⟨⟨z,st3⟩,hy,ho⟩:=Option.bind_eq_some_iff.1 ho;simp only at ho;cases ho;have HY:=Z hy;have HP:=Z hp;clear hs hy hp;go_enter func295,ntmps295;have Hc{P}(h:P:=by
   have hZ1:=H.out.2.1.gb g1 Ag;have G1:=Z (Ah H.out.2.2 g1);have hlt1:=hZ1.lt;have hb1:=h1.lt;simp only at h1;have HK:=Z (KpR.new (x:=⟨hd0 8 [],.nil⟩) (pa:=none) (pc:=0) (la:=none) (lc:=0) hb hZ1 G1.out hlt1 (Aj w1 (some b)) (Cells.nil _ _ _) (RepL.nil _ _) h1);have hp:=HP.out;have HT2:=Z (B9 HK.out.rr [124]);clear g1 h1 HT hZ1 HP;cases hs2:A2 l [124] (Aq l [124] st)with
   | true=>
     rw[hs2]at HT2 hp;have hq:some (([]:List Bs),Aq l [124] (Aq l [124] st))=some (p,st2):=hp;cases hq;clear hp hs2;go_wp2_with fail;refine HT2.out.mono ?_;rintro e w2 ⟨g2,v,rfl,rfl,h2⟩;have HK2:=Z (HK.out.gb hb g2 h2);clear g2 h2 HK HT2;have fI{P}(h:P:=by
     have hin:∀q,Ap (w2).heap.size q→but w w1.heap.size q:=fun q hq=>by have hq:(w2).heap.size≤q:=hq;exact⟨by omega,by omega⟩
     have eG{P}(h:P:=by have g7:=AD w6 w.heap.size (.int .i64 8) (str []) (.int .i64 0) (.int .i64 0) (str []) (.slice none ([]:List Bs).length 0) (.slice (some ⟨w5.heap.size,0,none⟩) 1 1);exact bodyPost_ret (AX (hd:=⟨8,[],0,0,[],[]⟩) (pv:= .slice none ([]:List Bs).length 0) (lv:= .slice (some ⟨w5.heap.size,0,none⟩) 1 1) rfl _ (hZ6.set7 _ _ _ _ _ _ _) rfl) rfl (CK hb hk.gr hk.ve FT hk.rr g7)):=Aa h;exact Ye):=Aa h;exact YO
   | false=>
     rw[hs2]at HT2 hp;have hq:(IP l n (Aq l [124] (Aq l [124] st))).bind (fun p=>some (p.1,AZ l [124] p.2))=some (p,st2):=hp;obtain⟨⟨p2,st4⟩,hn2,hq⟩:=Option.bind_eq_some_iff.1 hq;simp only at hq;cases hq;have HN2:=Z hn2;clear hp hs2 hn2;go_wp2_with fail;refine HT2.out.mono ?_;rintro e w2 ⟨g2,v,rfl,rfl,h2⟩;have HK2:=Z (HK.out.gb hb g2 h2);have HM:=Z (Ur h2 n hn HN2.out);have hlt2:=HK2.out.blk.lt;have hwL2:=HK2.out.wL;clear g2 h2 HK HT2;go_wp2_with fail;refine HM.out.mono ?_;rintro e w3 ⟨g3,v,rfl,⟨qa,qc,rfl,hcp⟩,h3⟩;simp only at hcp h3 ⊢;have hk3:=HK2.out.gb hb g3 h3;have hL3:=hk3.blk;have HK3:=Z (hk3.setP (hcp.mono fun q hq _=>by have hq:w2.heap.size≤q:=hq;exact⟨by omega,by omega⟩));have hlt3:=hL3.lt;clear hk3 hcp h3 g3 HK2 HM;obtain⟨cl_0,cl_1,cl_2,cl_3,cl_4,cl_5,cl_6,cl_f⟩:=(hL3).c7;go_wp2_with fail;refine(E8 HK3.out.rr [124]).mono ?_;rintro e w4 ⟨g4,v,rfl,rfl,h4⟩;have HK2:=Z (HK3.out.gb hb g4 h4);clear g4 h4 HK3 cl_0 cl_1 cl_2 cl_3 cl_4 cl_5 cl_6 cl_f hL3;have fI{P}(h:P:=by
     have hin:∀q,Ap (w4).heap.size q→but w w1.heap.size q:=fun q hq=>by have hq:(w4).heap.size≤q:=hq;exact⟨by omega,by omega⟩
     have eG{P}(h:P:=by have g7:=AD w6 w.heap.size (.int .i64 8) (str []) (.int .i64 0) (.int .i64 0) (str []) (.slice qa (p:List Bs).length qc) (.slice (some ⟨w5.heap.size,0,none⟩) 1 1);exact bodyPost_ret (AX (hd:=⟨8,[],0,0,[],p⟩) (pv:= .slice qa (p:List Bs).length qc) (lv:= .slice (some ⟨w5.heap.size,0,none⟩) 1 1) rfl _ (hZ6.set7 _ _ _ _ _ _ _) rfl) rfl (CK hb hk.gr hk.ve FT hk.rr g7)):=Aa h;exact Ye):=Aa h;exact YO):=Aa h
   exact GY):=Aa h
 exact D5
end
end Go.Proofs.YtmcajbhljbbglaaGreatDoor
