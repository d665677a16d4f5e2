/-
  The lexer: texts between quotes. The lexer: dates.
-/
import Derived.Test.YtmcajbhljbbglaaGreatDoorSpF
import Derived.Test.YtmcajbhljbbglaaGreatDoorSp12
import Derived.Test.YtmcajbhljbbglaaGreatDoorSp10
set_option linter.all false
set_option maxRecDepth 100000
set_option maxHeartbeats 8000000
namespace Go.Proofs.YtmcajbhljbbglaaGreatDoor
open Tryz
open Go.RowKit
theorem Vz{s:Bs}{j e:Nat}(h:j<e)(he:e≤s.length):A3 s j e=bAt s j::A3 s (j+1) e:=by
 unfold A3;rw[GB Ab,show e-j=(e-(j+1))+1 by omega,List.take_succ_cons]
theorem V0(s:Bs)(j:Nat):A3 s j j=[]:=by simp[A3]
theorem vH(s:Bs)(c:UInt8)(j:Nat)(hj:j≤s.length):Lib.indexByte (A3 s j (Az s j)) c=
 if Au s (fun b=>b !=10&&b !=c) j<s.length∧bAt s (Au s (fun b=>b !=10&&b !=c) j)≠10 then((Au s (fun b=>b !=10&&b !=c) j-j:Nat):Int)else -1:=by
 induction hn:s.length-j generalizing j with
 | zero=>
   have e:j=s.length:=Ab;have h1:Az s j=j:=DZ Ab;rw[h1,V0,DZ Ab,if_neg Ab];rfl
 | succ n ih=>
   have hk:j<s.length:=Ab;have hle:Az s (j+1)≤s.length:=Cp Ab;have hge:j+1≤Az s (j+1):=By _ _ _;by_cases h10:bAt s j=10
   ·have h1:Az s j=j:=Dq hk (by simp[h10]);rw[h1,V0,Dq hk (by simp[h10]),if_neg (by simp[h10])];rfl
   ·have h1:Az s j=Az s (j+1):=BK hk (by simpa using h10);rw[h1,Vz Ab hle,Lib.indexByte];cases hb:(bAt s j==c)with
    | true=>
      rw[Dq hk (by simp;intro _;simpa using hb)];simp[hk,h10]
    | false=>
      rw[BK hk (by simp at hb;simp[h10,hb]),ih (j+1) Ab Ab];have h2:=By s (fun b=>b !=10&&b !=c) (j+1);simp only[Bool.false_eq_true,if_false];by_cases h3:Au s (fun b=>b !=10&&b !=c) (j+1)<s.length∧bAt s (Au s (fun b=>b !=10&&b !=c) (j+1))≠10
      ·simp only[if_pos h3];rw[if_neg (by simp;try omega)];omega
      ·simp[h3]
def Bn(s:Bs)(i:Nat):Nat:=Au s (fun b=>b !=10&&b !=bAt s i) (i+1)
def GP(t:Bs):Nat:=Au t (fun b=>!cls 4 b) 0
theorem VI{s:Bs}{i:Nat}(h:¬(Bn s i<s.length∧bAt s (Bn s i)≠10)):Dz s i= .bad i:=if_neg h
theorem Vq{s:Bs}{i:Nat}(h:Bn s i<s.length∧bAt s (Bn s i)≠10)(hb:GP (A3 s (i+1) (Bn s i))<Bn s i-(i+1)):Dz s i= .bad (i+1+GP (A3 s (i+1) (Bn s i))):=
 (if_pos h).trans (if_pos hb)
theorem VJ{s:Bs}{i:Nat}(h:Bn s i<s.length∧bAt s (Bn s i)≠10)(hb:¬GP (A3 s (i+1) (Bn s i))<Bn s i-(i+1)):Dz s i= .tok ⟨2,i,A3 s (i+1) (Bn s i)⟩ (Bn s i+1) true:=
 (if_pos h).trans (if_neg hb)
theorem x9(s:Bs)(i:Nat):Bn s i≤Az s (i+1):=Pt (by intro b hb;simp at hb ⊢;exact hb.1) _
theorem AaT(c:UInt8):((c.toNat:Int)).toNat.toUInt8=c:=Ae
theorem Ve(s:Bs)(i j:Nat)(c:UInt8){z:Int}(hz:Lib.indexByte (A3 s i j) c=z)(w:World):
 Calls Tryz.prog 202 #[.string ((⟨s.toArray⟩:ByteArray).extract i j),.int .u8 c.toNat] w fun e w'=>e= .returned (.int .i64 z)∧w'=w:=by
 subst hz;refine(strings_IndexByte _ _ _).mono ?_;rintro e w' ⟨rfl,rfl⟩;rw[Ed,AaT];exact⟨rfl,rfl⟩
structure TextRel(w:World)(b:Nat)(s:Bs)(i:Nat)(t:Bs)(k:Nat)(wr:World):Prop where
 sc:Sc wr b s i true true (-1)
 tok:Blk wr w.heap.size [.int .i64 2,.int .i64 i,str t] 89
 res:Blk wr (w.heap.size+1) [.int .i64 0,.int .i64 0,str []] 89
 no:GP t=Au t (fun b=>!cls 4 b) k
 g:w.grownBy wr none
theorem TextRel.go{w:World}{b:Nat}{s:Bs}{i:Nat}{t:Bs}{k:Nat}{wr w1:World}(h:TextRel w b s i t k wr)(hk:k<t.length)(hx:cls 4 (bAt t k)=false)(g:wr.grownBy w1 none):TextRel w b s i t (k+1) w1:=
 ⟨h.sc.gbN g,h.tok.gb g Ae,h.res.gb g Ae,by rw[h.no];exact BK hk (by simp[hx]),A0 h.g g⟩
theorem AaS{w:World}{b:Nat}{s:Bs}{i:Nat}(h:Sc w b s i true true (-1))(hi:i<s.length)(hq:bAt s i≠10):
 Calls Tryz.prog 161 #[.pointer (some ⟨b,0,none⟩),AG ⟨0,i,[]⟩] w (TokPost w b s (Dz s i)):=by
 have hb:=h.lt;have hf:=h.few;have c0:=h.c0;have c1:=h.c1;have hz:=vH s (bAt s i) (i+1) Ab;have hline:Az s i=Az s (i+1):=BK hi D4;have hle:Az s i≤s.length:=Cp Ab;have hge:i+1≤Az s i:=by rw[hline];exact By _ _ _
 have hgQ:i+1≤Bn s i:=By _ _ _;rw[←hline]at hz;have hg:=fun h=>BI s i h hi;change _=if Bn s i<s.length∧bAt s (Bn s i)≠10 then((Bn s i-(i+1):Nat):Int)else -1 at hz;have HE:=Z hline;clear hline;by_cases hq2:Bn s i<s.length∧bAt s (Bn s i)≠10
 ·rw[if_pos hq2]at hz;have hQl:=x9 s i;rw[←HE.out]at hQl;have hQs:=hq2.1;have hO:=Z (VJ hq2);have hB:=Z (Vq hq2);have hTl:(A3 s (i+1) (Bn s i)).length=Bn s i-(i+1):=Hj hgQ Ab;have hl:=OU (h.alloc (.cells #[.int .i64 0,.int .i64 i,str []] 89 (0,0))|>.alloc (.cells #[.int .i64 0,.int .i64 0,str []] 89 (0,0))) i Ab;obtain⟨d,hd⟩:∃d,Bn s i=i+1+d:=⟨Bn s i-(i+1),by omega⟩;rw[hd]at hO hB hTl hQl hz hQs;rw[show i+1+d-(i+1)=d by omega]at hO hB hTl hz;clear hd hq2 hgQ;generalize Az s i=e at*;have HI:=Z (Ve s (i+1) e (bAt s i) hz);have HL:=Z hl;clear hz hl;generalize bAt s i=q at*;have hx:({data:=s.toArray}:ByteArray).extract (i+1) (i+1+d)=⟨(A3 s (i+1) (i+1+d)).toArray⟩:=Ed _ _ _;have HX:=Z hx;clear hx;have HT:=Z hTl;have he2:decide ((i:Int)+1+d≤s.length)=true:=Ag;have cR{P}(h:P:=by
  go_wp2_with fail;go_region;rw[HX.out];generalize hts:A3 s (i+1) (i+1+d)=t at*;have HS:=Z hts;clear hts hTl;have g0:w.grownBy ((w.alloc (.cells #[.int .i64 0,.int .i64 i,str []] 89 (0,0))).alloc (.cells #[.int .i64 0,.int .i64 0,str []] 89 (0,0))) none:=Ar (World.grownBy_alloc w _ none) _;have hA:TextRel w b s i t 0 (((((w.alloc (.cells #[.int .i64 0,.int .i64 i,str []] 89 (0,0))).alloc (.cells #[.int .i64 0,.int .i64 0,str []] 89 (0,0))).drewN (nq+1)).setCell ⟨w.heap.size,0,none⟩ (.int .i64 2)).setCell ⟨w.heap.size,2,none⟩ (str t)):=
   ⟨De,(((((Blk.new w [.int .i64 0,.int .i64 i,str []] 89).alloc _).drewN _).set 0 _).set 2 _).of_eq rfl rfl,(((((Blk.new (w.alloc _) [.int .i64 0,.int .i64 0,str []] 89).of_eq Ae rfl).drewN _).set_other _ _ Ae).set_other _ _ Ae),rfl,
    A7 (A7 (AA g0 _) _ _ (.inr (Nat.le_refl _))) _ _ (.inr (Nat.le_refl _))⟩
  have t0:=hA.tok.cell 2;simp only[List.getElem?_cons_zero,List.getElem?_cons_succ]at t0;generalize(((((w.alloc (.cells #[.int .i64 0,.int .i64 i,str []] 89 (0,0))).alloc (.cells #[.int .i64 0,.int .i64 0,str []] 89 (0,0))).drewN (nq+1)).setCell ⟨w.heap.size,0,none⟩ (.int .i64 2)).setCell ⟨w.heap.size,2,none⟩ (str t))=W at*;have HA:=Z hA;clear hA g0 h c0 c1 hg;have hTl2:t.length≤4000:=by rw[HT.out];omega
  go_wp2_with fail;go_loopg [8,68] t.length (fun g v8 v68 wr=>∃k:Nat,k+g=t.length∧v68= .int .i64 k∧TextRel w b s i t k wr)
  case atStart=>exact⟨0,by omega,rfl,HA.out⟩
  case round=>
   obtain⟨k,hk,rfl,hr⟩:=hrel;have hsc:=hr.sc;have d0:=hsc.c0;have d1:=hsc.c1;have hb1:=hsc.lt;have gwx:=hr.g.size;have hrl:=hr.res.lt;have u0:=hr.tok.cell 0;have u1:=hr.tok.cell 1;have u2:=hr.tok.cell 2;have r0:=hr.res.cell 0;have r1:=hr.res.cell 1;have r2:=hr.res.cell 2;have rf:=fun k=>hr.res.frozen k;simp only[List.getElem?_cons_zero,List.getElem?_cons_succ]at u0 u1 u2 r0 r1 r2;cases gk with
   | zero=>
     have hkt:k=t.length:=Ab;have HQ:=Z (hO.out (by rw[hr.no,DZ Ab,HT.out]at*;omega));have f1:=hsc.fr 1;have hlt:decide (k<t.length)=false:=Ag;clear hk hkt;go_wp2;refine bodyPost_ret (Du (t:=⟨2,i,t⟩) (r:=true) rfl _ ((hr.res.set_other _ _ Ag).set3 _ _ _) rfl rfl) rfl ⟨?_,?_⟩
     ·have g:=AY (r:=some b) hr.g;exact gw
     ·rw[HQ.out];exact⟨rfl,De⟩
   | succ gk=>
     have hkl:k<t.length:=Ab;have hlt:decide (k<t.length)=true:=Ag;have hcl:=hsc.cls (bAt t k);have hgt:=fun h=>BI t k h hkl;have hx:=Xj (bAt t k);cases hc:cls 4 (bAt t k)with
     | true=>
       have HC:=Z hc;have hbi:GP t=k:=by rw[hr.no];exact Dq hkl (by rw[hc];rfl)
       have HQ:=Z (hB.out (by rw[hbi];have:=HT.out;omega));have HK:=Z hbi;have f260:=hsc.fr 260;have c260:=hsc.c260;clear hbi hk;change(Cl (bAt t k).toNat==4)=true at hc;generalize bAt t k=x at*;go_wp2_with fail;go_quiet(fail);go_wp2;refine bodyPost_ret (Du (t:=⟨2,i,t⟩) (r:=false) rfl _ (((hr.res.drewN _).set_other _ _ Ag).set3 _ _ _) rfl rfl) rfl ⟨?_,?_⟩
       ·have g:=AY (r:=some b) hr.g;exact gw
       ·rw[HQ.out,HK.out];exact⟨⟨_,rfl⟩,i,true,by push_cast;exact De⟩
     | false=>
       have HR:=Z (fun w1 g=>hr.go hkl (w1:=w1) hc g);change(Cl (bAt t k).toNat==4)=false at hc;generalize bAt t k=x at*;exact Y9):=Aa h
  exact Tc
 ·rw[if_neg hq2]at hz;have HQ:=Z (VI hq2);have hl:=OU (h.alloc (.cells #[.int .i64 0,.int .i64 i,str []] 89 (0,0))|>.alloc (.cells #[.int .i64 0,.int .i64 0,str []] 89 (0,0))) i Ab;generalize Az s i=e at*;have HI:=Z (Ve s (i+1) e (bAt s i) hz);have HL:=Z hl;clear hz hl;generalize bAt s i=q at*;have f260:=h.fr 260;have c260:=h.c260;have cR{P}(h:P:=by go_wp2;refine bodyPost_ret (Du (t:=⟨0,i,[]⟩) (r:=false) rfl _ (((((Blk.new (w.alloc _) [.int .i64 0,.int .i64 0,str []] 89).of_eq Ae rfl).drewN nq).set_other _ _ Ag).set3 _ _ _) rfl rfl) rfl ⟨gw,?_⟩;rw[HQ.out];exact⟨⟨_,rfl⟩,i,true,De⟩):=Aa h;exact Tc
def K8(w:World)(t:Bs)(e:Ending)(w':World):Prop:=w.grownBy w' none∧match BB t with
 |some (d,n)=>e= .returned (.tuple #[str d,.int .i64 n,.bool true])
 |none=>∃d n,e= .returned (.tuple #[str d,.int .i64 n,.bool false])
section
variable {w w':World}{t d:Bs}{n:Nat}{m:Int}
theorem Ud(h:BB t=some (d,n))(g:w.grownBy w' none)(hm:m=n):K8 w t (.returned (.tuple #[str d,.int .i64 m,.bool true])) w':=by
 subst hm;unfold K8;rw[h];exact⟨g,rfl⟩
theorem Sg(h:BB t=none)(g:w.grownBy w' none):K8 w t (.returned (.tuple #[str d,.int .i64 m,.bool false])) w':=by
 unfold K8;rw[h];exact⟨g,d,m,rfl⟩
end
theorem Uu{t:Bs}(h:[123,125].isPrefixOf t=true):BB t=some ([],2):=if_pos h
theorem FY{t:Bs}(h:[123,125].isPrefixOf t=false)(hf:DH t=false):BB t=none:=by
 unfold BB;rw[if_neg (by rw[h];simp),if_neg (by rw[hf];simp)]
theorem VQ{t:Bs}(h:[123,125].isPrefixOf t=false)(hf:DH t=true)(h1:(BD (F4 t)).2=true)(h2:F4 t≠Ew):BB t=some (F4 t,13):=by
 unfold BB;rw[if_neg (by rw[h];simp),if_pos hf,if_pos (by simp[h1,h2])]
theorem Mu{t:Bs}(h:[123,125].isPrefixOf t=false)(hf:DH t=true)(h1:(BD (F4 t)).2=false∨F4 t=Ew):BB t=none:=by
 unfold BB;rw[if_neg (by rw[h];simp),if_pos hf,if_neg (by rcases h1 with h1|h1<;>simp[h1])]
theorem jQ(t p:Bs){r:Bool}(hr:p.isPrefixOf t=r)(w:World):
 Calls Tryz.prog 111 #[.string ⟨t.toArray⟩,.string ⟨p.toArray⟩] w fun e w'=>e= .returned (.bool r)∧w=w':=by
 subst hr;refine(strings_HasPrefix _ _ _).mono ?_;rintro e w' ⟨rfl,rfl⟩;exact⟨rfl,rfl⟩
theorem Wq{t:Bs}(h:13≤t.length):∃a0 a1 a2 a3 a4 a5 a6 a7 a8 a9 a10 a11 a12 r,t=a0::a1::a2::a3::a4::a5::a6::a7::a8::a9::a10::a11::a12::r:=by
 match t,h with
 |a0::a1::a2::a3::a4::a5::a6::a7::a8::a9::a10::a11::a12::r,_=>exact⟨_,_,_,_,_,_,_,_,_,_,_,_,_,_,rfl⟩
theorem H7{a:UInt8}{r:Bool}(h:((a.toNat:Int) !=45)=r):(a==45)= !r:=by
 subst h;by_cases e:a=45
 ·subst e;rfl
 ·have h1:a.toNat≠45:=fun h=>e (UInt8.toNat_inj.1 h);have h2:((a.toNat:Int)==45)=false:=Ag;have h3:(a==45)=false:=by simpa using e
  simp[bne,h2,h3]
theorem M7{a:UInt8}{r:Bool}(h:((a.toNat:Int) !=125)=r):(a==125)= !r:=by
 subst h;by_cases e:a=125
 ·subst e;rfl
 ·have h1:a.toNat≠125:=fun h=>e (UInt8.toNat_inj.1 h);have h2:((a.toNat:Int)==125)=false:=Ag;have h3:(a==125)=false:=by simpa using e
  simp[bne,h2,h3]
theorem zB{w:World}{b:Nat}{s:Bs}{i:Nat}{line begun:Bool}{bad:Int}(h:Sc w b s i line begun bad):
 Calls Tryz.prog 162 #[.pointer (some ⟨b,0,none⟩)] w (K8 w (s.drop i)):=by
 have hb:=h.lt;have hf:=h.few;have hi:=h.le;have c0:=h.c0;have c1:=h.c1;have hx:=P8 s i;have HX:=Z hx;have hle:decide ((i:Int)≤s.length)=true:=Ag;have htl:(s.drop i).length≤4000:=Ag;clear hx h;generalize hts:s.drop i=t at*;clear hts;cases hp:[123,125].isPrefixOf t with
 | true=>
   have HM:=Z (Uu hp);have RZ{P}(h:P:=by go_wp2;exact bodyPost_ret (v:= .tuple #[str [],.int .i64 2,.bool true]) MI rfl (Ud HM.out gw rfl)):=Aa h;exact Ri
 | false=>
   by_cases h13:13≤t.length
   ·obtain⟨a0,a1,a2,a3,a4,a5,a6,a7,a8,a9,a10,a11,a12,r,ht⟩:=Wq h13;have hx1:(⟨t.toArray⟩:ByteArray).extract 0 2=⟨[a0,a1].toArray⟩:=by rw[Ed,ht];rfl
    have hx2:(⟨t.toArray⟩:ByteArray).extract 2 6=⟨[a2,a3,a4,a5].toArray⟩:=by rw[Ed,ht];rfl
    have hx3:(⟨t.toArray⟩:ByteArray).extract 7 9=⟨[a7,a8].toArray⟩:=by rw[Ed,ht];rfl
    have hx4:(⟨t.toArray⟩:ByteArray).extract 10 12=⟨[a10,a11].toArray⟩:=by rw[Ed,ht];rfl
    have hg6:∀h,(⟨t.toArray⟩:ByteArray)[6]'h=a6:=by subst ht;intro h;rfl
    have hg9:∀h,(⟨t.toArray⟩:ByteArray)[9]'h=a9:=by subst ht;intro h;rfl
    have hg12:∀h,(⟨t.toArray⟩:ByteArray)[12]'h=a12:=by subst ht;intro h;rfl
    have hform:DH t=(([a0,a1]==[123,94])&&a6==45&&a9==45&&a12==125):=by rw[ht];simp[DH,bAt]
    have hdig:F4 t=[a2,a3,a4,a5,a7,a8,a10,a11]:=by rw[ht];rfl
    have hl:decide ((t.length:Int)<13)=false:=Ag;generalize [a0,a1]=p at*;have HF:=Z (Ac hform hdig);clear hform hdig ht;cases e1:(p==[123,94])with
    | false=>
      have HM:=Z (FY hp (by rw[HF.out.1,e1];rfl));exact Ll
    | true=>
      cases e6:((a6.toNat:Int) !=45)with
      | true=>
        have HM:=Z (FY hp (by rw[HF.out.1,H7 e6];simp));exact Ll
      | false=>
        cases e9:((a9.toNat:Int) !=45)with
        | true=>
          have HM:=Z (FY hp (by rw[HF.out.1,H7 e9];simp));exact Ll
        | false=>
          cases e12:((a12.toNat:Int) !=125)with
          | true=>
            have HM:=Z (FY hp (by rw[HF.out.1,M7 e12];simp));exact Ll
          | false=>
            have hfo:DH t=true:=by rw[HF.out.1,e1,H7 e6,H7 e9,M7 e12];rfl
            have hdi:=HF.out.2;have HH:=Z (Ac hfo hdi);clear hfo hdi HF;have RZ{P}(h:P:=by
            have bN{P}(h:P:=by
            have hul:=V1 [a2,a3,a4,a5,a7,a8,a10,a11] Ae;clear hcat hx2 hx3 hx4;generalize [a2,a3,a4,a5,a7,a8,a10,a11]=D at*;have HU:=Z hul;clear hul;go_wp2_with fail;refine(HU.out _).mono ?_;rintro e w1 ⟨rfl,g1⟩;cases hok:(BD D).2 with
            | false=>
              have HM:=Z (Mu hp HH.out.1 (.inl MW));exact Zy
            | true=>
              cases hbl:(D==Ew)with
              | true=>
                have HM:=Z (Mu hp HH.out.1 (.inr (by rw[HH.out.2];simpa using hbl)));change(D==[32,32,32,32,32,32,32,32])=true at hbl;exact Zy
              | false=>
                have HM:=Z (VQ hp HH.out.1 MW (by rw[HH.out.2];simpa using hbl));have HD:=Z HH.out.2;change(D==[32,32,32,32,32,32,32,32])=false at hbl;generalize(BD D).1=v at*;go_wp2;exact bodyPost_ret (v:= .tuple #[str D,.int .i64 13,.bool true]) MI rfl (Ud (HD.out ▸ HM.out) (A0 (AA (Aj _ _) _) g1) rfl)):=Aa h
            exact Sl):=Aa h;exact Ri
   ·have HM:=Z (FY hp (by simp[DH,h13]));have hl:decide ((t.length:Int)<13)=true:=Ag;exact Ll
end Go.Proofs.YtmcajbhljbbglaaGreatDoor
