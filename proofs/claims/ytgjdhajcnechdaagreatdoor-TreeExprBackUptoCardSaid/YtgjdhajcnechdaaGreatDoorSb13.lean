/-
  The lexer: texts between quotes. The lexer: classes of bytes. The lexer: dates. The lexer: a token.
-/
import Derived.Test.YtgjdhajcnechdaaGreatDoorSb12
import Derived.Test.YtgjdhajcnechdaaGreatDoorSb11
import Derived.Laws.Rows
set_option linter.all false
set_option maxRecDepth 100000
set_option maxHeartbeats 8000000
namespace Go.Proofs.YtgjdhajcnechdaaGreatDoor
open Go.Proofs.Tryz
open Go.RowKit
theorem Fx{s:Bs}{j e:Nat}(h:j<e)(he:e≤s.length):Aq s j e=bAt s j::Aq s (j+1) e:=by
 unfold Aq;rw[D9 (by omega),show e-j=(e-(j+1))+1 by omega,List.take_succ_cons]
theorem Fy(s:Bs)(j:Nat):Aq s j j=[]:=by simp[Aq]
theorem Kp(s:Bs)(c:UInt8)(j:Nat)(hj:j≤s.length):Lib.indexByte (Aq s j (Ah s j)) c=
 if Ag s (fun b=>b !=10&&b !=c) j<s.length∧bAt s (Ag s (fun b=>b !=10&&b !=c) j)≠10 then((Ag s (fun b=>b !=10&&b !=c) j-j:Nat):Int)else -1:=by
 induction hn:s.length-j generalizing j with
 | zero=>
   have e:j=s.length:=by omega
   have h1:Ah s j=j:=Cr (by omega);rw[h1,Fy,Cr (by omega),if_neg (by omega)];rfl
 | succ n ih=>
   have hk:j<s.length:=by omega
   have hle:Ah s (j+1)≤s.length:=BE (by omega);have hge:j+1≤Ah s (j+1):=Bm _ _ _;by_cases h10:bAt s j=10
   ·have h1:Ah s j=j:=Cd hk (by simp[h10]);rw[h1,Fy,Cd hk (by simp[h10]),if_neg (by simp[h10])];rfl
   ·have h1:Ah s j=Ah s (j+1):=B4 hk (by simpa using h10);rw[h1,Fx (by omega) hle,Lib.indexByte];cases hb:(bAt s j==c)with
    | true=>
      rw[Cd hk (by simp;intro _;simpa using hb)];simp[hk,h10]
    | false=>
      rw[B4 hk (by simp at hb;simp[h10,hb]),ih (j+1) (by omega) (by omega)];have h2:=Bm s (fun b=>b !=10&&b !=c) (j+1);simp only[Bool.false_eq_true,if_false];by_cases h3:Ag s (fun b=>b !=10&&b !=c) (j+1)<s.length∧bAt s (Ag s (fun b=>b !=10&&b !=c) (j+1))≠10
      ·simp only[if_pos h3];rw[if_neg (by simp;try omega)];omega
      ·simp[h3]
def Bd(s:Bs)(i:Nat):Nat:=Ag s (fun b=>b !=10&&b !=bAt s i) (i+1)
def D3(t:Bs):Nat:=Ag t (fun b=>!cls 4 b) 0
theorem L0{s:Bs}{i:Nat}(h:¬(Bd s i<s.length∧bAt s (Bd s i)≠10)):Cn s i= .bad i:=if_neg h
theorem JN{s:Bs}{i:Nat}(h:Bd s i<s.length∧bAt s (Bd s i)≠10)(hb:D3 (Aq s (i+1) (Bd s i))<Bd s i-(i+1)):Cn s i= .bad (i+1+D3 (Aq s (i+1) (Bd s i))):=
 (if_pos h).trans (if_pos hb)
theorem L1{s:Bs}{i:Nat}(h:Bd s i<s.length∧bAt s (Bd s i)≠10)(hb:¬D3 (Aq s (i+1) (Bd s i))<Bd s i-(i+1)):Cn s i= .tok ⟨2,i,Aq s (i+1) (Bd s i)⟩ (Bd s i+1) true:=
 (if_pos h).trans (if_neg hb)
theorem LJ(s:Bs)(i:Nat):Bd s i≤Ah s (i+1):=FZ (by intro b hb;simp at hb ⊢;exact hb.1) _
theorem Nc(c:UInt8):((c.toNat:Int)).toNat.toUInt8=c:=by simp
theorem FG(s:Bs)(i j:Nat)(c:UInt8){z:Int}(hz:Lib.indexByte (Aq s i j) c=z)(w:World):
 Calls Tryz.prog 237 #[.string ((⟨s.toArray⟩:ByteArray).extract i j),.int .u8 c.toNat] w fun e w'=>e= .returned (.int .i64 z)∧w'=w:=by
 subst hz;refine(strings_IndexByte _ _ _).mono ?_;rintro e w' ⟨rfl,rfl⟩;rw[C0,Nc];exact⟨rfl,rfl⟩
structure TextRel(w:World)(b:Nat)(s:Bs)(i:Nat)(t:Bs)(k:Nat)(wr:World):Prop where
 sc:Sc wr b s i true true (-1)
 tok:Blk wr w.heap.size [.int .i64 2,.int .i64 i,str t] 105
 res:Blk wr (w.heap.size+1) [.int .i64 0,.int .i64 0,str []] 105
 no:D3 t=Ag t (fun b=>!cls 4 b) k
 g:w.grownBy wr none
theorem TextRel.go{w:World}{b:Nat}{s:Bs}{i:Nat}{t:Bs}{k:Nat}{wr w1:World}(h:TextRel w b s i t k wr)(hk:k<t.length)(hx:cls 4 (bAt t k)=false)(g:wr.grownBy w1 none):TextRel w b s i t (k+1) w1:=
 ⟨h.sc.gbN g,h.tok.gb g (by simp),h.res.gb g (by simp),by rw[h.no];exact B4 hk (by simp[hx]),Ae h.g g⟩
theorem Mc{w:World}{b:Nat}{s:Bs}{i:Nat}(h:Sc w b s i true true (-1))(hi:i<s.length)(hq:bAt s i≠10):
 Calls Tryz.prog 199 #[.pointer (some ⟨b,0,none⟩),Bg ⟨0,i,[]⟩] w (TokPost w b s (Cn s i)):=by
 have hb:=h.lt;have hf:=h.few;have c0:=h.c0;have c1:=h.c1;have hz:=Kp s (bAt s i) (i+1) (by omega);have hline:Ah s i=Ah s (i+1):=B4 hi (by simpa using hq);have hle:Ah s i≤s.length:=BE (by omega);have hge:i+1≤Ah s i:=by rw[hline];exact Bm _ _ _
 have hgQ:i+1≤Bd s i:=Bm _ _ _;rw[←hline]at hz;have hg:=fun h=>Dj s i h hi;change _=if Bd s i<s.length∧bAt s (Bd s i)≠10 then((Bd s i-(i+1):Nat):Int)else -1 at hz;have HE:=I hline;clear hline;by_cases hq2:Bd s i<s.length∧bAt s (Bd s i)≠10
 ·rw[if_pos hq2]at hz;have hQl:=LJ s i;rw[←HE.out]at hQl;have hQs:=hq2.1;have hO:=I (L1 hq2);have hB:=I (JN hq2);have hTl:(Aq s (i+1) (Bd s i)).length=Bd s i-(i+1):=CC hgQ (by omega);have hl:=Er (h.alloc (.cells #[.int .i64 0,.int .i64 i,str []] 105 (0,0))|>.alloc (.cells #[.int .i64 0,.int .i64 0,str []] 105 (0,0))) i (by omega);obtain⟨d,hd⟩:∃d,Bd s i=i+1+d:=⟨Bd s i-(i+1),by omega⟩;rw[hd]at hO hB hTl hQl hz hQs;rw[show i+1+d-(i+1)=d by omega]at hO hB hTl hz;clear hd hq2 hgQ;generalize Ah s i=e at*;have HI:=I (FG s (i+1) e (bAt s i) hz);have HL:=I hl;clear hz hl;generalize bAt s i=q at*;have hx:({data:=s.toArray}:ByteArray).extract (i+1) (i+1+d)=⟨(Aq s (i+1) (i+1+d)).toArray⟩:=C0 _ _ _;have HX:=I hx;clear hx;have HT:=I hTl;have he2:decide ((i:Int)+1+d≤s.length)=true:=by simp;omega
  go_enter func199,ntmps199;go_wp2_with fail;refine HL.out.mono ?_;rintro e w1 ⟨rfl,rfl⟩;go_wp2_with fail;go_quiet((go_at_call 237;exact Calls.quiet_of_same (HI.out _)));go_wp2_with fail;go_region;rw[HX.out];generalize hts:Aq s (i+1) (i+1+d)=t at*;have HS:=I hts;clear hts hTl;have g0:w.grownBy ((w.alloc (.cells #[.int .i64 0,.int .i64 i,str []] 105 (0,0))).alloc (.cells #[.int .i64 0,.int .i64 0,str []] 105 (0,0))) none:=Aa (World.grownBy_alloc w _ none) _;have hA:TextRel w b s i t 0 (((((w.alloc (.cells #[.int .i64 0,.int .i64 i,str []] 105 (0,0))).alloc (.cells #[.int .i64 0,.int .i64 0,str []] 105 (0,0))).drewN (nq+1)).setCell ⟨w.heap.size,0,none⟩ (.int .i64 2)).setCell ⟨w.heap.size,2,none⟩ (str t)):=
   ⟨(by repeat(first| (with_reducible assumption)| (with_reducible apply Sc.alloc)| (with_reducible apply Sc.drew)| (with_reducible apply Sc.drewN)| (with_reducible apply Sc.setLine)| (with_reducible apply Sc.setBegun)| (with_reducible apply Sc.setBad)| (with_reducible apply Sc.go)| (with_reducible apply Sc.set_other)|omega| (simp<;>omega))),(((((Blk.new w [.int .i64 0,.int .i64 i,str []] 105).alloc _).drewN _).set 0 _).set 2 _).of_eq rfl rfl,(((((Blk.new (w.alloc _) [.int .i64 0,.int .i64 0,str []] 105).of_eq (by simp) rfl).drewN _).set_other _ _ (by simp)).set_other _ _ (by simp)),rfl,
    Ax (Ax (AH g0 _) _ _ (.inr (Nat.le_refl _))) _ _ (.inr (Nat.le_refl _))⟩
  have t0:=hA.tok.cell 2;simp only[List.getElem?_cons_zero,List.getElem?_cons_succ]at t0;generalize(((((w.alloc (.cells #[.int .i64 0,.int .i64 i,str []] 105 (0,0))).alloc (.cells #[.int .i64 0,.int .i64 0,str []] 105 (0,0))).drewN (nq+1)).setCell ⟨w.heap.size,0,none⟩ (.int .i64 2)).setCell ⟨w.heap.size,2,none⟩ (str t))=W at*;have HA:=I hA;clear hA g0 h c0 c1 hg;have hTl2:t.length≤4000:=by rw[HT.out];omega
  go_wp2_with fail;go_loopg [8,68] t.length (fun g v8 v68 wr=>∃k:Nat,k+g=t.length∧v68= .int .i64 k∧TextRel w b s i t k wr)
  case atStart=>exact⟨0,by omega,rfl,HA.out⟩
  case round=>
   obtain⟨k,hk,rfl,hr⟩:=hrel;have hsc:=hr.sc;have d0:=hsc.c0;have d1:=hsc.c1;have hb1:=hsc.lt;have gwx:=hr.g.size;have hrl:=hr.res.lt;have u0:=hr.tok.cell 0;have u1:=hr.tok.cell 1;have u2:=hr.tok.cell 2;have r0:=hr.res.cell 0;have r1:=hr.res.cell 1;have r2:=hr.res.cell 2;have rf:=fun k=>hr.res.frozen k;simp only[List.getElem?_cons_zero,List.getElem?_cons_succ]at u0 u1 u2 r0 r1 r2;cases gk with
   | zero=>
     have hkt:k=t.length:=by omega
     have HQ:=I (hO.out (by rw[hr.no,Cr (by omega),HT.out]at*;omega));have f1:=hsc.fr 1;have hlt:decide (k<t.length)=false:=by simp;omega
     clear hk hkt;go_wp2;refine bodyPost_ret (Bb (t:=⟨2,i,t⟩) (r:=true) rfl _ ((hr.res.set_other _ _ (by simp;omega)).set3 _ _ _) rfl rfl) rfl ⟨?_,?_⟩
     ·have g:=AW (r:=some b) hr.g;exact (by repeat(first| (with_reducible exact Ac _ _)| (with_reducible assumption)| (with_reducible exact AW (by assumption))| (with_reducible refine Aa ?_ _)| (with_reducible refine Aj ?_)| (with_reducible refine AH ?_ _)| ((with_reducible refine Ax ?_ _ _ ?h2);case h2=>first|exact .inl rfl|exact .inr (Nat.le_refl _)|exact .inr (by simp<;>omega))| (with_reducible refine Ae ?_ (by assumption))| (with_reducible refine O ?_ (by assumption))))
     ·rw[HQ.out];exact⟨rfl,(by repeat(first| (with_reducible assumption)| (with_reducible apply Sc.alloc)| (with_reducible apply Sc.drew)| (with_reducible apply Sc.drewN)| (with_reducible apply Sc.setLine)| (with_reducible apply Sc.setBegun)| (with_reducible apply Sc.setBad)| (with_reducible apply Sc.go)| (with_reducible apply Sc.set_other)|omega| (simp<;>omega)))⟩
   | succ gk=>
     have hkl:k<t.length:=by omega
     have hlt:decide (k<t.length)=true:=by simp;omega
     have hcl:=hsc.cls (bAt t k);have hgt:=fun h=>Dj t k h hkl;have hx:=GM (bAt t k);cases hc:cls 4 (bAt t k)with
     | true=>
       have HC:=I hc;have hbi:D3 t=k:=by rw[hr.no];exact Cd hkl (by rw[hc];rfl)
       have HQ:=I (hB.out (by rw[hbi];have:=HT.out;omega));have HK:=I hbi;have f260:=hsc.fr 260;have c260:=hsc.c260;clear hbi hk;change(B0 (bAt t k).toNat==4)=true at hc;generalize bAt t k=x at*;go_wp2_with fail;go_quiet(fail);go_wp2;refine bodyPost_ret (Bb (t:=⟨2,i,t⟩) (r:=false) rfl _ (((hr.res.drewN _).set_other _ _ (by simp;omega)).set3 _ _ _) rfl rfl) rfl ⟨?_,?_⟩
       ·have g:=AW (r:=some b) hr.g;exact (by repeat(first| (with_reducible exact Ac _ _)| (with_reducible assumption)| (with_reducible exact AW (by assumption))| (with_reducible refine Aa ?_ _)| (with_reducible refine Aj ?_)| (with_reducible refine AH ?_ _)| ((with_reducible refine Ax ?_ _ _ ?h2);case h2=>first|exact .inl rfl|exact .inr (Nat.le_refl _)|exact .inr (by simp<;>omega))| (with_reducible refine Ae ?_ (by assumption))| (with_reducible refine O ?_ (by assumption))))
       ·rw[HQ.out,HK.out];exact⟨⟨_,rfl⟩,i,true,by push_cast;exact(by repeat(first| (with_reducible assumption)| (with_reducible apply Sc.alloc)| (with_reducible apply Sc.drew)| (with_reducible apply Sc.drewN)| (with_reducible apply Sc.setLine)| (with_reducible apply Sc.setBegun)| (with_reducible apply Sc.setBad)| (with_reducible apply Sc.go)| (with_reducible apply Sc.set_other)|omega| (simp<;>omega)))⟩
     | false=>
       have HR:=I (fun w1 g=>hr.go hkl (w1:=w1) hc g);change(B0 (bAt t k).toNat==4)=false at hc;generalize bAt t k=x at*;go_wp2_with fail;go_quiet(fail);go_wp2;go_roundg gk
       case measure=>omega
       case rel=>exact⟨k+1,by omega,by simp,HR.out _ (AH (Ac wr none) _)⟩
 ·rw[if_neg hq2]at hz;have HQ:=I (L0 hq2);have hl:=Er (h.alloc (.cells #[.int .i64 0,.int .i64 i,str []] 105 (0,0))|>.alloc (.cells #[.int .i64 0,.int .i64 0,str []] 105 (0,0))) i (by omega);generalize Ah s i=e at*;have HI:=I (FG s (i+1) e (bAt s i) hz);have HL:=I hl;clear hz hl;generalize bAt s i=q at*;have f260:=h.fr 260;have c260:=h.c260;go_enter func199,ntmps199;go_wp2_with fail;refine HL.out.mono ?_;rintro e w1 ⟨rfl,rfl⟩;go_wp2_with fail;go_quiet((go_at_call 237;exact Calls.quiet_of_same (HI.out _)));go_wp2;refine bodyPost_ret (Bb (t:=⟨0,i,[]⟩) (r:=false) rfl _ (((((Blk.new (w.alloc _) [.int .i64 0,.int .i64 0,str []] 105).of_eq (by simp) rfl).drewN nq).set_other _ _ (by simp;omega)).set3 _ _ _) rfl rfl) rfl ⟨(by repeat(first| (with_reducible exact Ac _ _)| (with_reducible assumption)| (with_reducible exact AW (by assumption))| (with_reducible refine Aa ?_ _)| (with_reducible refine Aj ?_)| (with_reducible refine AH ?_ _)| ((with_reducible refine Ax ?_ _ _ ?h2);case h2=>first|exact .inl rfl|exact .inr (Nat.le_refl _)|exact .inr (by simp<;>omega))| (with_reducible refine Ae ?_ (by assumption))| (with_reducible refine O ?_ (by assumption)))),?_⟩;rw[HQ.out];exact⟨⟨_,rfl⟩,i,true,(by repeat(first| (with_reducible assumption)| (with_reducible apply Sc.alloc)| (with_reducible apply Sc.drew)| (with_reducible apply Sc.drewN)| (with_reducible apply Sc.setLine)| (with_reducible apply Sc.setBegun)| (with_reducible apply Sc.setBad)| (with_reducible apply Sc.go)| (with_reducible apply Sc.set_other)|omega| (simp<;>omega)))⟩
theorem F2(k:Nat)(hk:k<256):(Az k).set k (.int .u8 (B0 k))=Az (k+1):=by
 apply List.ext_getElem?;intro j;by_cases hj:j<256
 ·rw[List.getElem?_set];rw[DK _ _ hj];by_cases e:k=j
  ·subst e;simp[Az,hk]
  ·rw[if_neg e,DK _ _ hj];have:(j<k+1)=(j<k):=by apply propext;omega
   simp[this]
 ·rw[List.getElem?_eq_none (by simp[Az];omega),List.getElem?_eq_none (by simp[Az];omega)]
theorem Hi(k:Nat)(hk:k<256)(h0:B0 k=0):Az k=Az (k+1):=by
 rw[←F2 k hk,h0];apply List.ext_getElem?;intro j;rw[List.getElem?_set];by_cases e:k=j
 ·subst e;simp[Az,hk]
 ·simp[e]
theorem Iw:(Tryz.prog.info? 99).map (fun i=>(i.size,i.bytes))=some (256,256):=by kernel_rfl
theorem Kj{w w1:World}{r:Option Nat}(h:w.grownBy w1 r)(k:Nat)(cs:Array Value)(hk:w.heap.size≤k):w.grownBy (w1.setRow k cs) r:=by
 refine⟨h.os,h.tape,h.output,by simpa using h.size,fun i hi hr=>?_⟩;rw[←h.block i hi hr];have hne:k≠i:=by omega
 simp[World.setRow,Array.getElem?_modify,hne]
theorem JY:∃n e,Tryz.prog.underlying 99=some (.array n e):=by
 have h:(match(Tryz.prog.underlying 99)with|some (.array _ _)=>true|_=>false)=true:=by kernel_rfl
 cases hu:Tryz.prog.underlying 99 with
 |none=>rw[hu]at h;cases h
 | some d=>
   rw[hu]at h;cases d with
   |array n e=>exact⟨n,e,rfl⟩
   |_=>cases h
theorem Gt:(Tryz.prog.info? 99).map (·.size)=some (Az 256).toArray.size:=by
 have h1:=Iw;cases hq:Tryz.prog.info? 99 with
 |none=>rw[hq]at h1;simp at h1
 |some i=>rw[hq]at h1;simp at h1;simp[Az,h1.1]
theorem En(k:Nat):(B0 k=3∧(k=9∨k=32))∨(B0 k=1∧(k=95∨(97≤k∧k≤122)∨(65≤k∧k≤90)))∨(B0 k=2∧48≤k∧k≤57)∨(B0 k=4∧(k<9∨(10<k∧k<32)∨126<k))∨
 (B0 k=0∧(k=10∨(32<k∧k<48)∨(57<k∧k<65)∨(90<k∧k<95)∨k=96∨(122<k∧k≤126))):=by
 unfold B0
 (repeat' split)<;>simp<;>omega
def EW(w:World)(g:Nat)(v4:Value)(wr:World):Prop:=∃k:Nat,k+g=256∧v4= .int .i64 k∧Blk wr (w.heap.size+1) (Az k) 99∧Blk wr w.heap.size (Az 0) 99∧w.grownBy wr none
theorem DL{w wr:World}{k g:Nat}{c:Int}(hk:k+(g+1)=256)(hc:B0 k=c)(hL:Blk wr (w.heap.size+1) (Az k) 99)(hZ:Blk wr w.heap.size (Az 0) 99)(gr:w.grownBy wr none):
 EW w g (.int .i64 ((k:Int)+1)) (wr.setCell ⟨w.heap.size+1,k,none⟩ (.int .u8 c)):=
 ⟨k+1,by omega,by simp,(hL.set k _).of_eq rfl (by rw[←hc];exact F2 k (by omega)),hZ.set_other _ _ (by simp),Ax gr _ _ (.inr (by simp))⟩
theorem IX{w wr:World}{k g:Nat}(hk:k+(g+1)=256)(hc:B0 k=0)(hL:Blk wr (w.heap.size+1) (Az k) 99)(hZ:Blk wr w.heap.size (Az 0) 99)(gr:w.grownBy wr none):
 EW w g (.int .i64 ((k:Int)+1)) wr:=
 ⟨k+1,by omega,by simp,hL.of_eq rfl (Hi k (by omega) hc),hZ,gr⟩
theorem IW(w:World):Calls Tryz.prog 62 #[] w fun e w'=>e= .returned (.agg (Az 256).toArray)∧w.grownBy w' none:=by
 go_enter func62,ntmps62;go_wp2_with fail;have hz:zeroCells99=(Az 0).toArray:=by kernel_rfl
 have hA:Blk ((w.alloc (.cells (Az 0).toArray 99 (0,0))).alloc (.cells (Az 0).toArray 99 (0,0))) (w.heap.size+1) (Az 0) 99:=(Blk.new _ _ _).of_eq (by simp) rfl;have hB:Blk ((w.alloc (.cells (Az 0).toArray 99 (0,0))).alloc (.cells (Az 0).toArray 99 (0,0))) w.heap.size (Az 0) 99:=(Blk.new _ _ _).alloc _;have g0:w.grownBy ((w.alloc (.cells (Az 0).toArray 99 (0,0))).alloc (.cells (Az 0).toArray 99 (0,0))) none:=Aa (World.grownBy_alloc _ _ _) _;rw[hz];go_loopg [2,3,4] 256 (fun g v2 v3 v4 wr=>EW w g v4 wr)
 case atStart=>exact⟨0,rfl,rfl,hA,hB,g0⟩
 case round=>
  obtain⟨k,hk,rfl,hL,hZ,gr⟩:=hrel;clear hA hB g0;cases gk with
  | zero=>
    have e:k=256:=by omega
    subst e;obtain⟨an,ae,H⟩:=JY;have H:=I H;go_wp2_with fail;refine wp_load_row 99 (.tmp 1) rfl (w.heap.size+1) rfl 99 (Az 256).toArray (0,0) (.array an ae) hL H.out rfl Gt ?_;have HS:=I Gt;have HL:=I (X hL hZ);have h1:((Az 256).toArray.all (·.oneCell'))=true:=by simp[Az,Value.oneCell']
    have HO:=I h1;have hzs:(Az 0).toArray.size=(Az 256).toArray.size:=by simp[Az]
    have HZ:=I hzs;have HR:=I (setRow_heap wr w.heap.size (Az 0).toArray (Az 256).toArray 99 (0,0) hZ);clear hL hZ h1 hzs;generalize hcc:(Az 256).toArray=cc at*;have HC:=I hcc;clear hcc;go_wp2_with (refine wpList_store_row rfl 99 (.tmp 0) (.tmp 62) rfl w.heap.size cc rfl rfl 99 (Az 0).toArray HL.out.2 HS.out HZ.out HO.out ?_);refine bodyPost_ret (v:= .agg (Az 256).toArray) ?_ rfl ⟨rfl,Kj gr _ _ (Nat.le_refl _)⟩;rw[HC.out];exact results_cell_row rfl _ _ w.heap.size 99 cc (0,0) (.array an ae) rfl HR.out H.out rfl HS.out
  | succ gk=>
    have ck:=(hL.cell k).trans (DK k k (by omega));have fk:=hL.frozen k;have HL:=I (X hL (X hZ gr));have HK:=I hk;have hk2:k<256:=by omega
    have hwr:w.heap.size+1<wr.heap.size:=hL.lt;clear hL hZ gr hk;rcases En k with⟨hc,h⟩| ⟨hc,h⟩| ⟨hc,h⟩| ⟨hc,h⟩| ⟨hc,h⟩
    ·have HR:=I (DL HK.out hc HL.out.1 HL.out.2.1 HL.out.2.2);clear hc HK HL;rcases h with rfl|rfl
     all_goals
      go_wp2_with fail;go_roundg gk
      case measure=>omega
      case rel=>exact HR.out
    ·have HR:=I (DL HK.out hc HL.out.1 HL.out.2.1 HL.out.2.2);clear hc HK HL;rcases h with rfl| ⟨h,h'⟩| ⟨h,h'⟩
     rotate_left 1;all_goals try
      have e9:((k:Int)==9)=false:=by simp;omega
      have e32:((k:Int)==32)=false:=by simp;omega
      have e95:((k:Int)==95)=false:=by simp;omega
      have i1:=Int.ofNat_le.2 h;have i2:=Int.ofNat_le.2 h';simp only[Int.cast_ofNat_Int]at i1 i2;clear h h'
     all_goals
      go_wp2_with fail;go_roundg gk
      case measure=>omega
      case rel=>exact HR.out
    ·have HR:=I (DL HK.out hc HL.out.1 HL.out.2.1 HL.out.2.2);clear hc HK HL;obtain⟨h,h'⟩:=h;have e9:((k:Int)==9)=false:=by simp;omega
     have e32:((k:Int)==32)=false:=by simp;omega
     have e95:((k:Int)==95)=false:=by simp;omega
     have i1:=Int.ofNat_le.2 h;have i2:=Int.ofNat_le.2 h';simp only[Int.cast_ofNat_Int]at i1 i2;clear h h';go_wp2_with fail;go_roundg gk
     case measure=>omega
     case rel=>exact HR.out
    ·have HR:=I (DL HK.out hc HL.out.1 HL.out.2.1 HL.out.2.2);clear hc HK HL;have e9:((k:Int)==9)=false:=by simp;omega
     have e32:((k:Int)==32)=false:=by simp;omega
     have e95:((k:Int)==95)=false:=by simp;omega
     have e10:((k:Int) !=10)=true:=by simp;omega
     rcases h with h| ⟨h,h'⟩|h
     all_goals
      have i1:=Int.ofNat_lt.2 h;try have i2:=Int.ofNat_lt.2 h'
      simp only[Int.cast_ofNat_Int]at i1;try simp only[Int.cast_ofNat_Int]at i2
      clear h;go_wp2_with fail;go_roundg gk
      case measure=>omega
      case rel=>exact HR.out
    ·have HR:=I (IX HK.out hc HL.out.1 HL.out.2.1 HL.out.2.2);clear hc HK HL;rcases h with rfl| ⟨h,h'⟩| ⟨h,h'⟩| ⟨h,h'⟩|rfl| ⟨h,h'⟩
     all_goals try
      have e9:((k:Int)==9)=false:=by simp;omega
      have e32:((k:Int)==32)=false:=by simp;omega
      have e95:((k:Int)==95)=false:=by simp;omega
      have e10:((k:Int) !=10)=true:=by simp;omega
      have i1:=Int.ofNat_lt.2 h;have i2:(k:Int)<127∧(k:Int)≤126:=by omega
      obtain⟨i2,i3⟩:=i2;simp only[Int.cast_ofNat_Int]at i1
     all_goals
      go_wp2_with fail;go_roundg gk
      case measure=>omega
      case rel=>exact HR.out
def Dm(w:World)(t:Bs)(e:Ending)(w':World):Prop:=w.grownBy w' none∧match AV t with
 |some (d,n)=>e= .returned (.tuple #[str d,.int .i64 n,.bool true])
 |none=>∃d n,e= .returned (.tuple #[str d,.int .i64 n,.bool false])
section
variable {w w':World}{t d:Bs}{n:Nat}{m:Int}
theorem Ff(h:AV t=some (d,n))(g:w.grownBy w' none)(hm:m=n):Dm w t (.returned (.tuple #[str d,.int .i64 m,.bool true])) w':=by
 subst hm;unfold Dm;rw[h];exact⟨g,rfl⟩
theorem CN(h:AV t=none)(g:w.grownBy w' none):Dm w t (.returned (.tuple #[str d,.int .i64 m,.bool false])) w':=by
 unfold Dm;rw[h];exact⟨g,d,m,rfl⟩
end
theorem Iu{t:Bs}(h:[123,125].isPrefixOf t=true):AV t=some ([],2):=if_pos h
theorem Dp{t:Bs}(h:[123,125].isPrefixOf t=false)(hf:BW t=false):AV t=none:=by
 unfold AV;rw[if_neg (by rw[h];simp),if_neg (by rw[hf];simp)]
theorem Kb{t:Bs}(h:[123,125].isPrefixOf t=false)(hf:BW t=true)(h1:(Bq (Ci t)).2=true)(h2:Ci t≠Co):AV t=some (Ci t,13):=by
 unfold AV;rw[if_neg (by rw[h];simp),if_pos hf,if_pos (by simp[h1,h2])]
theorem Gv{t:Bs}(h:[123,125].isPrefixOf t=false)(hf:BW t=true)(h1:(Bq (Ci t)).2=false∨Ci t=Co):AV t=none:=by
 unfold AV;rw[if_neg (by rw[h];simp),if_pos hf,if_neg (by rcases h1 with h1|h1<;>simp[h1])]
theorem CM(t p:Bs){r:Bool}(hr:p.isPrefixOf t=r)(w:World):
 Calls Tryz.prog 154 #[.string ⟨t.toArray⟩,.string ⟨p.toArray⟩] w fun e w'=>e= .returned (.bool r)∧w=w':=by
 subst hr;refine(strings_HasPrefix _ _ _).mono ?_;rintro e w' ⟨rfl,rfl⟩;exact⟨rfl,rfl⟩
theorem Md{t:Bs}(h:13≤t.length):∃a0 a1 a2 a3 a4 a5 a6 a7 a8 a9 a10 a11 a12 r,t=a0::a1::a2::a3::a4::a5::a6::a7::a8::a9::a10::a11::a12::r:=by
 match t,h with
 |a0::a1::a2::a3::a4::a5::a6::a7::a8::a9::a10::a11::a12::r,_=>exact⟨_,_,_,_,_,_,_,_,_,_,_,_,_,_,rfl⟩
theorem Eg{a:UInt8}{r:Bool}(h:((a.toNat:Int) !=45)=r):(a==45)= !r:=by
 subst h;by_cases e:a=45
 ·subst e;rfl
 ·have h1:a.toNat≠45:=fun h=>e (UInt8.toNat_inj.1 h);have h2:((a.toNat:Int)==45)=false:=by simp;omega
  have h3:(a==45)=false:=by simpa using e
  simp[bne,h2,h3]
theorem GQ{a:UInt8}{r:Bool}(h:((a.toNat:Int) !=125)=r):(a==125)= !r:=by
 subst h;by_cases e:a=125
 ·subst e;rfl
 ·have h1:a.toNat≠125:=fun h=>e (UInt8.toNat_inj.1 h);have h2:((a.toNat:Int)==125)=false:=by simp;omega
  have h3:(a==125)=false:=by simpa using e
  simp[bne,h2,h3]
theorem Mf{w:World}{b:Nat}{s:Bs}{i:Nat}{line begun:Bool}{bad:Int}(h:Sc w b s i line begun bad):
 Calls Tryz.prog 200 #[.pointer (some ⟨b,0,none⟩)] w (Dm w (s.drop i)):=by
 have hb:=h.lt;have hf:=h.few;have hi:=h.le;have c0:=h.c0;have c1:=h.c1;have hx:=DX s i;have HX:=I hx;have hle:decide ((i:Int)≤s.length)=true:=by simp;omega
 have htl:(s.drop i).length≤4000:=by simp;omega
 clear hx h;generalize hts:s.drop i=t at*;clear hts;cases hp:[123,125].isPrefixOf t with
 | true=>
   have HM:=I (Iu hp);go_enter func200,ntmps200;go_wp2_with fail;go_quiet(fail);rw[HX.out];go_wp2_with fail;refine(CM t [123,125] hp _).mono ?_;rintro e w1 ⟨rfl,rfl⟩;go_wp2;exact bodyPost_ret (v:= .tuple #[str [],.int .i64 2,.bool true]) (by simp[results,results200,go_sem]) rfl (Ff HM.out (by repeat(first| (with_reducible exact Ac _ _)| (with_reducible assumption)| (with_reducible exact AW (by assumption))| (with_reducible refine Aa ?_ _)| (with_reducible refine Aj ?_)| (with_reducible refine AH ?_ _)| ((with_reducible refine Ax ?_ _ _ ?h2);case h2=>first|exact .inl rfl|exact .inr (Nat.le_refl _)|exact .inr (by simp<;>omega))| (with_reducible refine Ae ?_ (by assumption))| (with_reducible refine O ?_ (by assumption)))) rfl)
 | false=>
   by_cases h13:13≤t.length
   ·obtain⟨a0,a1,a2,a3,a4,a5,a6,a7,a8,a9,a10,a11,a12,r,ht⟩:=Md h13;have hx1:(⟨t.toArray⟩:ByteArray).extract 0 2=⟨[a0,a1].toArray⟩:=by rw[C0,ht];rfl
    have hx2:(⟨t.toArray⟩:ByteArray).extract 2 6=⟨[a2,a3,a4,a5].toArray⟩:=by rw[C0,ht];rfl
    have hx3:(⟨t.toArray⟩:ByteArray).extract 7 9=⟨[a7,a8].toArray⟩:=by rw[C0,ht];rfl
    have hx4:(⟨t.toArray⟩:ByteArray).extract 10 12=⟨[a10,a11].toArray⟩:=by rw[C0,ht];rfl
    have hg6:∀h,(⟨t.toArray⟩:ByteArray)[6]'h=a6:=by subst ht;intro h;rfl
    have hg9:∀h,(⟨t.toArray⟩:ByteArray)[9]'h=a9:=by subst ht;intro h;rfl
    have hg12:∀h,(⟨t.toArray⟩:ByteArray)[12]'h=a12:=by subst ht;intro h;rfl
    have hform:BW t=(([a0,a1]==[123,94])&&a6==45&&a9==45&&a12==125):=by rw[ht];simp[BW,bAt]
    have hdig:Ci t=[a2,a3,a4,a5,a7,a8,a10,a11]:=by rw[ht];rfl
    have hl:decide ((t.length:Int)<13)=false:=by simp;omega
    generalize [a0,a1]=p at*;have HF:=I (X hform hdig);clear hform hdig ht;cases e1:(p==[123,94])with
    | false=>
      have HM:=I (Dp hp (by rw[HF.out.1,e1];rfl));go_enter func200,ntmps200;go_wp2_with fail;go_quiet(fail);rw[HX.out];go_wp2_with fail;refine(CM t [123,125] hp _).mono ?_;rintro e w1 ⟨rfl,rfl⟩;go_wp2;exact bodyPost_ret (v:= .tuple #[str [],.int .i64 0,.bool false]) (by simp[results,results200,go_sem]) rfl (CN HM.out (by repeat(first| (with_reducible exact Ac _ _)| (with_reducible assumption)| (with_reducible exact AW (by assumption))| (with_reducible refine Aa ?_ _)| (with_reducible refine Aj ?_)| (with_reducible refine AH ?_ _)| ((with_reducible refine Ax ?_ _ _ ?h2);case h2=>first|exact .inl rfl|exact .inr (Nat.le_refl _)|exact .inr (by simp<;>omega))| (with_reducible refine Ae ?_ (by assumption))| (with_reducible refine O ?_ (by assumption)))))
    | true=>
      cases e6:((a6.toNat:Int) !=45)with
      | true=>
        have HM:=I (Dp hp (by rw[HF.out.1,Eg e6];simp));go_enter func200,ntmps200;go_wp2_with fail;go_quiet(fail);rw[HX.out];go_wp2_with fail;refine(CM t [123,125] hp _).mono ?_;rintro e w1 ⟨rfl,rfl⟩;go_wp2;exact bodyPost_ret (v:= .tuple #[str [],.int .i64 0,.bool false]) (by simp[results,results200,go_sem]) rfl (CN HM.out (by repeat(first| (with_reducible exact Ac _ _)| (with_reducible assumption)| (with_reducible exact AW (by assumption))| (with_reducible refine Aa ?_ _)| (with_reducible refine Aj ?_)| (with_reducible refine AH ?_ _)| ((with_reducible refine Ax ?_ _ _ ?h2);case h2=>first|exact .inl rfl|exact .inr (Nat.le_refl _)|exact .inr (by simp<;>omega))| (with_reducible refine Ae ?_ (by assumption))| (with_reducible refine O ?_ (by assumption)))))
      | false=>
        cases e9:((a9.toNat:Int) !=45)with
        | true=>
          have HM:=I (Dp hp (by rw[HF.out.1,Eg e9];simp));go_enter func200,ntmps200;go_wp2_with fail;go_quiet(fail);rw[HX.out];go_wp2_with fail;refine(CM t [123,125] hp _).mono ?_;rintro e w1 ⟨rfl,rfl⟩;go_wp2;exact bodyPost_ret (v:= .tuple #[str [],.int .i64 0,.bool false]) (by simp[results,results200,go_sem]) rfl (CN HM.out (by repeat(first| (with_reducible exact Ac _ _)| (with_reducible assumption)| (with_reducible exact AW (by assumption))| (with_reducible refine Aa ?_ _)| (with_reducible refine Aj ?_)| (with_reducible refine AH ?_ _)| ((with_reducible refine Ax ?_ _ _ ?h2);case h2=>first|exact .inl rfl|exact .inr (Nat.le_refl _)|exact .inr (by simp<;>omega))| (with_reducible refine Ae ?_ (by assumption))| (with_reducible refine O ?_ (by assumption)))))
        | false=>
          cases e12:((a12.toNat:Int) !=125)with
          | true=>
            have HM:=I (Dp hp (by rw[HF.out.1,GQ e12];simp));go_enter func200,ntmps200;go_wp2_with fail;go_quiet(fail);rw[HX.out];go_wp2_with fail;refine(CM t [123,125] hp _).mono ?_;rintro e w1 ⟨rfl,rfl⟩;go_wp2;exact bodyPost_ret (v:= .tuple #[str [],.int .i64 0,.bool false]) (by simp[results,results200,go_sem]) rfl (CN HM.out (by repeat(first| (with_reducible exact Ac _ _)| (with_reducible assumption)| (with_reducible exact AW (by assumption))| (with_reducible refine Aa ?_ _)| (with_reducible refine Aj ?_)| (with_reducible refine AH ?_ _)| ((with_reducible refine Ax ?_ _ _ ?h2);case h2=>first|exact .inl rfl|exact .inr (Nat.le_refl _)|exact .inr (by simp<;>omega))| (with_reducible refine Ae ?_ (by assumption))| (with_reducible refine O ?_ (by assumption)))))
          | false=>
            have hfo:BW t=true:=by rw[HF.out.1,e1,Eg e6,Eg e9,GQ e12];rfl
            have hdi:=HF.out.2;have HH:=I (X hfo hdi);clear hfo hdi HF;go_enter func200,ntmps200;go_wp2_with fail;go_quiet(fail);rw[HX.out];go_wp2_with fail;refine(CM t [123,125] hp _).mono ?_;rintro e w1 ⟨rfl,rfl⟩;go_wp2_with fail;go_quiet(fail);have hcat:(({data:=#[a2,a3,a4,a5]}:ByteArray)++{data:=#[a7,a8]}++{data:=#[a10,a11]})=⟨[a2,a3,a4,a5,a7,a8,a10,a11].toArray⟩:=rfl;rw[hcat];have hul:=F1 [a2,a3,a4,a5,a7,a8,a10,a11] (by simp);clear hcat hx2 hx3 hx4;generalize [a2,a3,a4,a5,a7,a8,a10,a11]=D at*;have HU:=I hul;clear hul;go_wp2_with fail;refine(HU.out _).mono ?_;rintro e w1 ⟨rfl,g1⟩;cases hok:(Bq D).2 with
            | false=>
              have HM:=I (Gv hp HH.out.1 (.inl (by rw[HH.out.2,hok])));generalize(Bq D).1=v at*;go_wp2;exact bodyPost_ret (v:= .tuple #[str D,.int .i64 13,.bool false]) (by simp[results,results200,go_sem]) rfl (CN HM.out (Ae (AH (Ac _ _) _) g1))
            | true=>
              cases hbl:(D==Co)with
              | true=>
                have HM:=I (Gv hp HH.out.1 (.inr (by rw[HH.out.2];simpa using hbl)));change(D==[32,32,32,32,32,32,32,32])=true at hbl;generalize(Bq D).1=v at*;go_wp2;exact bodyPost_ret (v:= .tuple #[str D,.int .i64 13,.bool false]) (by simp[results,results200,go_sem]) rfl (CN HM.out (Ae (AH (Ac _ _) _) g1))
              | false=>
                have HM:=I (Kb hp HH.out.1 (by rw[HH.out.2,hok]) (by rw[HH.out.2];simpa using hbl));have HD:=I HH.out.2;change(D==[32,32,32,32,32,32,32,32])=false at hbl;generalize(Bq D).1=v at*;go_wp2;exact bodyPost_ret (v:= .tuple #[str D,.int .i64 13,.bool true]) (by simp[results,results200,go_sem]) rfl (Ff (HD.out ▸ HM.out) (Ae (AH (Ac _ _) _) g1) rfl)
   ·have HM:=I (Dp hp (by simp[BW,h13]));have hl:decide ((t.length:Int)<13)=true:=by simp;omega
    go_enter func200,ntmps200;go_wp2_with fail;go_quiet(fail);rw[HX.out];go_wp2_with fail;refine(CM t [123,125] hp _).mono ?_;rintro e w1 ⟨rfl,rfl⟩;go_wp2;exact bodyPost_ret (v:= .tuple #[str [],.int .i64 0,.bool false]) (by simp[results,results200,go_sem]) rfl (CN HM.out (by repeat(first| (with_reducible exact Ac _ _)| (with_reducible assumption)| (with_reducible exact AW (by assumption))| (with_reducible refine Aa ?_ _)| (with_reducible refine Aj ?_)| (with_reducible refine AH ?_ _)| ((with_reducible refine Ax ?_ _ _ ?h2);case h2=>first|exact .inl rfl|exact .inr (Nat.le_refl _)|exact .inr (by simp<;>omega))| (with_reducible refine Ae ?_ (by assumption))| (with_reducible refine O ?_ (by assumption)))))
structure TkRel(w:World)(b:Nat)(s:Bs)(i k:Nat)(wr:World):Prop where
 sc:Sc wr b s k true true (-1)
 tok:Blk wr (w.heap.size+1) [.int .i64 0,.int .i64 i,str []] 105
 res:Blk wr w.heap.size [.int .i64 0,.int .i64 0,str []] 105
 g:w.grownBy wr (some b)
 tabs:Tabs b wr
theorem TkRel.gbN{w:World}{b:Nat}{s:Bs}{i k:Nat}{wr w1:World}(h:TkRel w b s i k wr)(g:wr.grownBy w1 none):TkRel w b s i k w1:=
 ⟨h.sc.gbN g,h.tok.gb g (by simp),h.res.gb g (by simp),Ae h.g g,h.tabs.gbN g⟩
theorem TkRel.go{w:World}{b:Nat}{s:Bs}{i k:Nat}{wr:World}(h:TkRel w b s i k wr)(hb:b<w.heap.size)(hk:k<s.length):TkRel w b s i (k+1) (wr.setCell ⟨b,1,none⟩ (.int .i64 ((k:Int)+1))):=
 ⟨h.sc.go _ _ (by simp) (by omega),h.tok.set_other _ _ (by simp;omega),h.res.set_other _ _ (by simp;omega),Ax h.g _ _ (.inl rfl),h.tabs.gb (Ax (Ac _ (some b)) _ _ (.inl rfl)) (by simp)⟩
theorem Gi{c:Int}(hc:c=1∨c=2){b:UInt8}(h:cls c b=true):b.toNat<128:=by
 have h1:B0 b.toNat=c:=by simpa[cls]using h
 rcases En b.toNat with⟨h2,h3⟩| ⟨h2,h3⟩| ⟨h2,h3⟩| ⟨h2,h3⟩| ⟨h2,h3⟩<;>omega
theorem KA{b:UInt8}(h:Au b=true):b.toNat<128:=by
 simp[Au]at h;rcases h with h|h
 ·exact Gi (.inl rfl) h
 ·exact Gi (.inr rfl) h
theorem E8{s:Bs}{p:UInt8→Bool}{i:Nat}(hi:i≤s.length):∀b∈Aq s i (Ag s p i),p b=true:=by
 intro b hb;obtain⟨k,hk,rfl⟩:=List.mem_iff_getElem.1 hb;rw[CC (Bm _ _ _) (BE hi)]at hk;have h1:=DV (p:=p) (s:=s) (i:=i) (j:=i+k) (by omega) (by omega);have h2:(Aq s i (Ag s p i))[k]? =s[i+k]?:=KE (by omega);rw[List.getElem?_eq_getElem (by rw[CC (Bm _ _ _) (BE hi)];omega),List.getElem?_eq_getElem h1.1]at h2;rw[Option.some.inj h2,←D0 h1.1];exact h1.2
theorem KX{s:Bs}{i:Nat}(hi:i≤s.length):Lib.toUpperD (Aq s i (Ag s Au i))=Lib.toUpperA (Aq s i (Ag s Au i)):=
 Lib.toUpperD_ascii _ fun b hb=>KA (E8 hi b hb)
structure TkEnd(w:World)(b:Nat)(s:Bs)(i k:Nat)(kind:Int)(t:Bs)(wr:World):Prop where
 sc:Sc wr b s k true true (-1)
 tok:Blk wr (w.heap.size+1) [.int .i64 kind,.int .i64 i,str t] 105
 res:Blk wr w.heap.size [.int .i64 0,.int .i64 0,str []] 105
 g:w.grownBy wr (some b)
theorem TkEnd.gbN{w:World}{b:Nat}{s:Bs}{i k:Nat}{kind:Int}{t:Bs}{wr w1:World}(h:TkEnd w b s i k kind t wr)(g:wr.grownBy w1 none):TkEnd w b s i k kind t w1:=
 ⟨h.sc.gbN g,h.tok.gb g (by simp),h.res.gb g (by simp),Ae h.g g⟩
theorem Dq{K:Act→World→Prop}{Q:Exit→Act→World→Prop}{e:Exit}{a:Act}{w:World}(F:World→Prop)(hF:F w)(h:∀w',F w'→Exit.then K Q e a w'):Exit.then K Q e a w:=h w hF
theorem K6{w:World}{b:Nat}{s:Bs}{i:Nat}(h:Sc w b s i true true (-1))(ht:Tabs b w)(hi:i<s.length)(hc:cls 1 (bAt s i)=true):
 Calls Tryz.prog 157 #[.pointer (some ⟨b,0,none⟩)] w (TokPost w b s (AP s i)):=by
 have hb:=h.lt;have hf:=h.few;have c1:=h.c1;have g0:w.grownBy ((w.alloc (.cells #[.int .i64 0,.int .i64 0,str []] 105 (0,0))).alloc (.cells #[.int .i64 0,.int .i64 i,str []] 105 (0,0))) none:=Aa (World.grownBy_alloc w _ none) _;have hA:TkRel w b s i i ((w.alloc (.cells #[.int .i64 0,.int .i64 0,str []] 105 (0,0))).alloc (.cells #[.int .i64 0,.int .i64 i,str []] 105 (0,0))):=
  ⟨h.gbN g0,(Blk.new _ [.int .i64 0,.int .i64 i,str []] _).of_eq (by simp) rfl,(Blk.new _ [.int .i64 0,.int .i64 0,str []] _).alloc _,AW g0,ht.gbN g0⟩
 clear h ht g0;have hr1:Ag s Au i≤s.length:=BE (by omega);have hr2:i≤Ag s Au i:=Bm _ _ _;have HT:=I (show AP s i=if 24<Ag s Au i-i then .bad i else .tok ⟨0,i,Lib.toUpperA (Aq s i (Ag s Au i))⟩ (Ag s Au i) true from if_pos hc);have HC:=I hc;clear hc;go_enter func157,ntmps157;go_wp2_with fail;refine(B3 hA.sc i 1 (r:=true) (by simp[hi,HC.out])).mono ?_;rintro e w1 ⟨rfl,g1⟩;have hA1:=hA.gbN g1;clear hA g1;go_wp2_with fail;go_loopg [] (Ag s Au i-i) (fun g wr=>∃k:Nat,k+g=Ag s Au i∧i≤k∧TkRel w b s i k wr)
 case atStart=>exact⟨i,by omega,Nat.le_refl _,hA1⟩
 case round=>
  obtain⟨k,hk,hik,hr⟩:=hrel;clear hA1 c1;have c1:=hr.sc.c1;have hb1:=hr.sc.lt;cases gk with
  | zero=>
    have hke:k=Ag s Au i:=by omega
    have hstop:(decide (k<s.length)&&cls 1 (bAt s k))=false∧(decide (k<s.length)&&cls 2 (bAt s k))=false:=by
     by_cases hkl:k<s.length
     ·have:=EN (s:=s) (p:=Au) (i:=i) (by omega);rw[←hke]at this;simp[Au]at this;simp[this.1,this.2]
     ·simp[hkl]
    have HS:=I hstop;have hup:=KX (s:=s) (i:=i) (by omega);rw[←hke]at hup HT;rw[←hke]at hr1 hr2;have HUP:=I hup;have HL:=I (show(Lib.toUpperA (Aq s i k)).length=k-i by unfold Lib.toUpperA;rw[List.length_map,CC hik (by omega)]);generalize Lib.toUpperA (Aq s i k)=T at*;clear hup hstop hke hk;go_wp2_with fail;refine(B3 hr.sc k 1 (r:=false) HS.out.1).mono ?_;rintro e w2 ⟨rfl,g2⟩;have hq2:=hr.gbN g2;have d1:=hq2.sc.c1;go_wp2_with fail;refine(B3 hq2.sc k 2 (r:=false) HS.out.2).mono ?_;rintro e w3 ⟨rfl,g3⟩;have hq3:=hq2.gbN g3;have g13:=O g2 g3;have e0:=hq3.sc.c0;have e1:=hq3.sc.c1;have t0:=hq3.tok.cell 0;have t1:=hq3.tok.cell 1;have t2:=hq3.tok.cell 2;have tf:=fun k=>hq3.tok.frozen k;have tl:=hq3.tok.lt;simp only[List.getElem?_cons_zero,List.getElem?_cons_succ]at t0 t1 t2;have hkI:decide ((k:Int)≤s.length)=true:=by simp;omega
    have hkI2:decide (i≤k)=true:=by simp;omega
    go_wp2_with fail;have hs3:=hq3.sc;have hq:=I hq3;clear hq3 hs3 hq2 hr g2 g3 d1;have HU3:=I (fun(W:World)(g:w3.grownBy W (some (w.heap.size+1)))=>Eu (hq.out.tabs.gb g (by intro k e;cases e;omega)) s i k hf);rw[HUP.out]at HU3;go_region_with(first| (go_at_call 197;refine(HU3.out _ ?gg).mono ?_;(case gg=>exact (by repeat(first| (with_reducible exact Ac _ _)| (with_reducible assumption)| (with_reducible exact AW (by assumption))| (with_reducible refine Aa ?_ _)| (with_reducible refine Aj ?_)| (with_reducible refine AH ?_ _)| ((with_reducible refine Ax ?_ _ _ ?h2);case h2=>first|exact .inl rfl|exact .inr (Nat.le_refl _)|exact .inr (by simp<;>omega))| (with_reducible refine Ae ?_ (by assumption))| (with_reducible refine O ?_ (by assumption)))));rintro e w5 ⟨rfl,g5⟩;(have hb5:Blk w5 (w.heap.size+1) [.int .i64 0,.int .i64 i,str []] 105:=(by first|exact(hq.out.tok.drew).gb g5 (by simp)|exact(((hq.out.tok.drew).set 0 (.int .i64 0)).of_eq rfl rfl).gb g5 (by simp)));(have s0:=hb5.cell 0);(have s2:=hb5.cell 2);(have s1:=hb5.cell 1);(have sf:=fun k=>hb5.frozen k);(have sl:=hb5.lt);(simp only[List.getElem?_cons_zero,List.getElem?_cons_succ]at s0 s1 s2)));all_goals
     refine Dq (fun W=>TkEnd w b s i k 0 T W) ?_ ?_
     ·first
      |exact⟨((hq.out.sc.drewN 1).gbN g5).set_other _ _ (by simp;omega)|>.set_other _ _ (by simp;omega),((hb5.set 0 (.int .i64 0)).set 2 (str T)).of_eq rfl rfl,(((hq.out.res.drewN 1).gb g5 (by simp)).set_other _ _ (by simp)).set_other _ _ (by simp),Ax (Ax (Ae (Aj hq.out.g) g5) _ _ (.inr (by simp))) _ _ (.inr (by simp))⟩
      |exact⟨(((hq.out.sc.drewN 1).set_other _ _ (by simp;omega)).gbN g5).set_other _ _ (by simp;omega),(hb5.set 2 (str T)).of_eq rfl rfl,(((hq.out.res.drewN 1).set_other _ _ (by simp)).gb g5 (by simp)).set_other _ _ (by simp),Ax (Ae (Ax (Aj hq.out.g) _ _ (.inr (by simp))) g5) _ _ (.inr (by simp))⟩
     clear hb5 g5 s0 s1 s2 sf sl;intro W hW;have a0:=hW.tok.cell 0;have a1:=hW.tok.cell 1;have a2:=hW.tok.cell 2;simp only[List.getElem?_cons_zero,List.getElem?_cons_succ]at a0 a1 a2;have HW:=I hW;have HS:=I (fun(W':World)(g:W.grownBy W' none)=>Gb (hW.gbN g).sc ⟨0,i,T⟩ 24);have hWs:=hW.g.size;have hWl:=hW.tok.lt;clear hW;by_cases hm:24<T.length
     ·have HM:=I (show AP s i= .bad i by rw[HT.out,←HL.out,if_pos hm]);have HP:=I hm;clear hm;go_wp2_with fail;go_region_with(first| (go_at_call 198;refine(HS.out _ ?gg).mono ?_;(case gg=>exact (by repeat(first| (with_reducible exact Ac _ _)| (with_reducible assumption)| (with_reducible exact AW (by assumption))| (with_reducible refine Aa ?_ _)| (with_reducible refine Aj ?_)| (with_reducible refine AH ?_ _)| ((with_reducible refine Ax ?_ _ _ ?h2);case h2=>first|exact .inl rfl|exact .inr (Nat.le_refl _)|exact .inr (by simp<;>omega))| (with_reducible refine Ae ?_ (by assumption))| (with_reducible refine O ?_ (by assumption)))));intro e w8 hp8;obtain⟨g8,hp9⟩:=hp8;rw[if_pos HP.out]at hp9;obtain⟨rfl,h8⟩:=hp9;(have hr8:=(HW.out.res.drewN 1).gb g8 (by simp;omega));(have ht8:=(HW.out.tok.drewN 1).gb g8 (by simp;omega));(have r0:=hr8.cell 0);(have r1:=hr8.cell 1);(have r2:=hr8.cell 2);(have rf:=fun k=>hr8.frozen k);(have rl:=hr8.lt);(have b0:=ht8.cell 0);(have b1:=ht8.cell 1);(have b2:=ht8.cell 2);(simp only[List.getElem?_cons_zero,List.getElem?_cons_succ]at r0 r1 r2 b0 b1 b2)));all_goals
       go_wp2;refine bodyPost_ret (Bb (t:=⟨0,i,T⟩) (r:=false) rfl _ (hr8.set3 _ _ _) rfl rfl) rfl ⟨?_,?_⟩
       ·have g:=O (Aj HW.out.g) g8;exact (by repeat(first| (with_reducible exact Ac _ _)| (with_reducible assumption)| (with_reducible exact AW (by assumption))| (with_reducible refine Aa ?_ _)| (with_reducible refine Aj ?_)| (with_reducible refine AH ?_ _)| ((with_reducible refine Ax ?_ _ _ ?h2);case h2=>first|exact .inl rfl|exact .inr (Nat.le_refl _)|exact .inr (by simp<;>omega))| (with_reducible refine Ae ?_ (by assumption))| (with_reducible refine O ?_ (by assumption))))
       ·rw[HM.out];exact⟨⟨_,rfl⟩,k,true,(by repeat(first| (with_reducible assumption)| (with_reducible apply Sc.alloc)| (with_reducible apply Sc.drew)| (with_reducible apply Sc.drewN)| (with_reducible apply Sc.setLine)| (with_reducible apply Sc.setBegun)| (with_reducible apply Sc.setBad)| (with_reducible apply Sc.go)| (with_reducible apply Sc.set_other)|omega| (simp<;>omega)))⟩
     ·have HM:=I (show AP s i= .tok ⟨0,i,T⟩ k true by rw[HT.out,←HL.out,if_neg hm]);have HP:=I hm;clear hm;go_wp2_with fail;go_region_with(first| (go_at_call 198;refine(HS.out _ ?gg).mono ?_;(case gg=>exact (by repeat(first| (with_reducible exact Ac _ _)| (with_reducible assumption)| (with_reducible exact AW (by assumption))| (with_reducible refine Aa ?_ _)| (with_reducible refine Aj ?_)| (with_reducible refine AH ?_ _)| ((with_reducible refine Ax ?_ _ _ ?h2);case h2=>first|exact .inl rfl|exact .inr (Nat.le_refl _)|exact .inr (by simp<;>omega))| (with_reducible refine Ae ?_ (by assumption))| (with_reducible refine O ?_ (by assumption)))));intro e w8 hp8;obtain⟨g8,hp9⟩:=hp8;rw[if_neg HP.out]at hp9;obtain⟨rfl,h8⟩:=hp9;(have hr8:=(HW.out.res.drewN 1).gb g8 (by simp;omega));(have ht8:=(HW.out.tok.drewN 1).gb g8 (by simp;omega));(have r0:=hr8.cell 0);(have r1:=hr8.cell 1);(have r2:=hr8.cell 2);(have rf:=fun k=>hr8.frozen k);(have rl:=hr8.lt);(have b0:=ht8.cell 0);(have b1:=ht8.cell 1);(have b2:=ht8.cell 2);(simp only[List.getElem?_cons_zero,List.getElem?_cons_succ]at r0 r1 r2 b0 b1 b2)));all_goals
       go_wp2;refine bodyPost_ret (Bb (t:=⟨0,i,T⟩) (r:=true) rfl _ (hr8.set3 _ _ _) rfl rfl) rfl ⟨?_,?_⟩
       ·have g:=O (Aj HW.out.g) g8;exact (by repeat(first| (with_reducible exact Ac _ _)| (with_reducible assumption)| (with_reducible exact AW (by assumption))| (with_reducible refine Aa ?_ _)| (with_reducible refine Aj ?_)| (with_reducible refine AH ?_ _)| ((with_reducible refine Ax ?_ _ _ ?h2);case h2=>first|exact .inl rfl|exact .inr (Nat.le_refl _)|exact .inr (by simp<;>omega))| (with_reducible refine Ae ?_ (by assumption))| (with_reducible refine O ?_ (by assumption))))
       ·rw[HM.out];exact⟨rfl,(by repeat(first| (with_reducible assumption)| (with_reducible apply Sc.alloc)| (with_reducible apply Sc.drew)| (with_reducible apply Sc.drewN)| (with_reducible apply Sc.setLine)| (with_reducible apply Sc.setBegun)| (with_reducible apply Sc.setBad)| (with_reducible apply Sc.go)| (with_reducible apply Sc.set_other)|omega| (simp<;>omega)))⟩
  | succ gk=>
    have h10:=DV hik (by omega:k<Ag s Au i);have hkl:=h10.1;have HW:=I h10.2;clear h10;cases hc1:cls 1 (bAt s k)with
    | true=>
      have HC1:=I hc1;clear hc1;go_wp2_with fail;refine(B3 hr.sc k 1 (r:=true) (by simp[hkl,HC1.out])).mono ?_;rintro e w2 ⟨rfl,g2⟩;have hr2':=hr.gbN g2;have d1:=hr2'.sc.c1;have f1:=hr2'.sc.fr 1;go_wp2;go_roundg gk
      case measure=>omega
      case rel=>exact⟨k+1,by omega,by omega,hr2'.go hb hkl⟩
    | false=>
      have HC1:=I hc1;have HC2:=I (show cls 2 (bAt s k)=true by have:=HW.out;simpa[Au,hc1]using this);clear hc1;go_wp2_with fail;refine(B3 hr.sc k 1 (r:=false) (by simp[hkl,HC1.out])).mono ?_;rintro e w2 ⟨rfl,g2⟩;have hr2':=hr.gbN g2;have d1:=hr2'.sc.c1;have f1:=hr2'.sc.fr 1;go_wp2_with fail;refine(B3 hr2'.sc k 2 (r:=true) (by simp[hkl,HC2.out])).mono ?_;rintro e w3 ⟨rfl,g3⟩;have hr3':=hr2'.gbN g3;have e1:=hr3'.sc.c1;have f1:=hr3'.sc.fr 1;go_wp2;go_roundg gk
      case measure=>omega
      case rel=>exact⟨k+1,by omega,by omega,hr3'.go hb hkl⟩
end Go.Proofs.YtgjdhajcnechdaaGreatDoor
