/-
  Code: the program's reader of texts: Read. Code: the reference's reader of texts: Read.
-/
import Derived.Test.YtbjfaimkiclhgaaGreatDoorCr21
import Derived.Test.YtbjfaimkiclhgaaGreatDoorCr10
import Derived.Test.YtbjfaimkiclhgaaGreatDoorCr04
import Derived.Lib.QuietBelow
import Derived.Test.YtbjfaimkiclhgaaGreatDoorCr17
import Derived.Test.YtbjfaimkiclhgaaGreatDoorCr08
set_option linter.all false
set_option maxRecDepth 100000
set_option maxHeartbeats 8000000
namespace Go.Proofs.YtbjfaimkiclhgaaGreatDoor
open Go.Proofs.Tryz
open Go.RowKit Go.Lib
variable{s ll:Bs}{i B k n b:Nat}{w w' W w1:World}{v:Value}{t t2:TypeId}{xs:List Value}{us:List Un}
def Vj{vs:List Un}{n:Int}(h:s=Bx vs n)(hi:Lib.lastIndex s sumW=(i:Int)):s.take i=AG vs/\Lib.hasSuffix s [10]=true/\(s.drop (i+4)).take (s.length-1-(i+4))=itoa n/\(0<i->bAt s (i-1)=10/\s.take (i-1)++[10]=AG vs/\vs≠[])/\(i=0->vs=[]):=by
 have he:s=AG vs++B6 n:=h;have hl:i=(AG vs).length:=by rw[he,Oc]at hi;omega
 have ht:s.take i=AG vs:=by rw[he,hl];simp
 have hsl:(B6 n).length=4+(itoa n).length+1:=by simp[B6];omega
 refine⟨ht,?_,?_,λh0=>?_,λh0=>?_⟩
 ·show([10]:Bs).isSuffixOf s=true;rw[List.isSuffixOf_iff_suffix,he,B6];exact⟨AG vs++([115,117,109,32]++itoa n),by simp⟩
 ·have h1 : s.drop (i + 4) = itoa n ++ [10] := by
   rw[<-List.drop_drop,he,hl,List.drop_left];simp[B6]
  have h2:s.length-1-(i+4)=(itoa n).length:=by rw[he,lA,hsl];omega
  rw[h1,h2];simp
 ·have hne:vs≠[]:=by rintro rfl;rw[F_S]at hl;simp at hl;omega
  obtain⟨q,hq⟩:=M1 hne;have hql:i=q.length+1:=by rw[hl,hq];simp
  have h3:s=q++(10::B6 n):=by rw[he,hq];simp
  refine⟨?_,?_,hne⟩
  ·rw[h3,hql];simp[bAt]
  ·rw[hq,h3,hql];simp
 ·refine X7 ?_;rw[<-ht,h0];rfl
def PRd(vm:List Un->Int)(w:World)(s:Bs)(e:Ending)(w':World):Prop:=∃us v er,e= .returned (.tuple #[v,.int .i64 er])/\w.grownBy w' none/\(er≠0->v= .slice none 0 0)/\((200000<s.length/\er=3)\/(s.length<=200000/\((∃n,s=Bx us n/\WideUs us/\Bq us<=600003/\A5 n/\0<=n/\n<1000033/\((n≠csM (AG us)/\er=8)\/(n=csM (AG us)/\er=vm us/\(er=0->VU (An w.heap.size) w' v us))))\/(er=2/\∀vs n,WideUs vs->A5 n->0<=n->n<1000033->s≠Bx vs n))))
def PRd.no{vm:List Un->Int}(g:w.grownBy w' none)(hs:s.length<=200000)(h:∀vs n,WideUs vs->A5 n->0<=n->n<1000033->s≠Bx vs n):PRd vm w s (.returned (.tuple #[.slice none 0 0,.int .i64 2])) w':=
 ⟨[],_,2,rfl,g,λ_=>rfl,.inr ⟨hs,.inr ⟨rfl,h⟩⟩⟩
def Ua(s:Bs)(hs:s.length<=1048576)(w:World):Calls Tryz.prog 15 #[str s,.string ⟨#[115,117,109,32]⟩] w λe w'=>e= .returned (.int .i64 (Lib.lastIndex s sumW))/\w=w':=by
 refine(strings_LastIndex ⟨s.toArray⟩ ⟨#[115,117,109,32]⟩ (by simp[ByteArray.size];omega) w).mono ?_;rintro e w' ⟨rfl,rfl⟩;exact⟨by simp[sumW],rfl⟩
def YI(s:Bs)(hs:s.length<=1048576)(w:World):Calls Tryz.prog 16 #[str s,.string ⟨#[10]⟩] w λe w'=>e= .returned (.bool (Lib.hasSuffix s [10]))/\w=w':=by
 refine(strings_HasSuffix ⟨s.toArray⟩ ⟨#[10]⟩ w (by simp[ByteArray.size];omega)).mono ?_;rintro e w' ⟨rfl,rfl⟩;exact⟨by simp,rfl⟩
def ZE(ok:Nat->Prop)(w:World):VU ok w (.slice none 0 0) []:=⟨[],⟨none,0,rfl,nR _,nZ _,rfl,λj u h=>by simp at h⟩,rfl⟩
def NC(g:w.grownBy w' none):Below w.heap.size w w':=⟨g.os,g.tape,g.output,g.size,λk hk=>g.block k hk (by simp)⟩
def OO{tk:Bs}{b:Bool}(hq:(ll==tk)=b)(h:tk=[]):List.isEmpty ll=b:=by
 subst h;rw[<-hq];cases ll<;>rfl
def aE{W':World}(hL:∀W',W.grownBy W' none->Calls Tryz.prog 19 #[v] W' λe w''=>e= .returned (str ll)/\W'.grownBy w'' none)(h:True/\W.grownBy W' none):Calls Tryz.prog 19 #[v] W' λe w''=>e= .returned (str ll)/\W'.grownBy w'' none:=hL _ h.2
def TstP(s:Bs)(v:Value):Prop:=(v= .bool true/\∀vs n,WideUs vs->A5 n->0<=n->n<1000033->s≠Bx vs n)\/(v= .bool false/\Lib.hasSuffix s [10]=true)
def UnsP(w:World)(s:Bs)(i:Nat)(n:Int)(v6 v7:Value)(W:World):Prop:=w.grownBy W none/\((v6= .bool false/\∀vs n,WideUs vs->A5 n->0<=n->n<1000033->s≠Bx vs n)\/
 (v6= .bool true/\∃us,VU (An w.heap.size) W v7 us/\WideUs us/\Bq us<=600003/\A5 n/\(∀vs n',WideUs vs->A5 n'->s=Bx vs n'->us=vs/\n=n')/\(AG us=s.take i->s=Bx us n)))
def Vu(vm:List Un->Int)(s:Bs)(hs:s.length<=1048576)(hp:Pow w)(he:Errs w)(hm:Mx w)
 (hv:∀(W:World)(v:Value)(us:List Un)(ok:Nat->Prop),w.grownBy W none->VU ok W v us->WideUs us->Bq us<=100000000->Calls Tryz.prog 9 #[v] W (ρ W (.int .i64 (vm us)))):
 Calls Tryz.prog 6 #[str s] w λe w'=>PRd vm w s e w':=by
 have HF:=S (X hp (X he hm));have HV:=S hv;clear hp he hm hv;by_cases hbig:200000<s.length
 ·have hj:decide (200000<s.length)=true:=by simpa using hbig
  go_enter func6,ntmps6;go_wp2;go_ret2;exact⟨[],_,3,rfl,Aa _ _,λ_=>rfl,.inl ⟨hbig,rfl⟩⟩
 ·have hj:decide (200000<s.length)=false:=by simpa using hbig
  have hsm:s.length<=200000:=by omega
  have HLi:=S (λW=>Ua s hs W);have hlc:=Tl s;go_enter func6,ntmps6;go_wp2_with fail;refine(HLi.1 _).mono ?_;rintro e w1 ⟨rfl,rfl⟩;rcases hlc with hi| ⟨i,hi⟩
  ·rw[hi];have HN:=S (show ∀vs n,WideUs vs->A5 n->0<=n->n<1000033->s≠Bx vs n from λvs n _ _ _ _ e=>by
    rw[e,Gb,Oc]at hi;omega)
   clear hi;go_wp2;go_ret2;exact PRd.no (Aa _ _) hsm HN.1
  ·rw[hi];obtain⟨hi4,hiw⟩:=Zf hi;have HRd:=S (λvs n (h:s=Bx vs n)=>Vj h hi);clear hi;have HSf:=S (λW=>YI s hs W);obtain⟨nt,hnt⟩:∃t,t=(s.drop (i+4)).take (s.length-1-(i+4)):=⟨_,rfl⟩;have hxn:(⟨s.toArray⟩:ByteArray).extract (i+4) (s.length-1)=⟨nt.toArray⟩:=by rw[hnt,Cf]
   have hntl:nt.length<=s.length:=by rw[hnt];simp<;>omega
   have HTp:=S (fun(h:Lib.hasSuffix s [10]=true)=>(by have h9:=TQ hi4 hiw h;rw[<-hnt]at h9;exact h9:i+5<=s.length/\s=s.take i++(sumW++(nt++[10]))));have HNt:=S hnt;clear hnt hiw;have HNu:=S (Hi nt (by omega) HF.1.1 HF.1.2.1);have n2:((s.length:Int)-1).toNat=s.length-1:=by omega
   go_upto_region 4 with fail;go_cut [31] (λv31 wx=>TstP s v31/\w=wx)
   case first=>
    cases hsf:Lib.hasSuffix s [10]with
    | false=>
      have HN:=S (show ∀vs n,WideUs vs->A5 n->0<=n->n<1000033->s≠Bx vs n from λvs n _ _ _ _ e=>by
       have:=(HRd.1 vs n e).2.1;rw[hsf]at this;cases this)
      cases i with
      | zero=>
        go_wp2_with fail;refine(HSf.1 _).mono ?_;rintro e w1 ⟨rfl,rfl⟩;rw[hsf];go_wp2;go_meet;exact⟨.inl ⟨rfl,HN.1⟩,rfl⟩
      | succ j=>
        have hjl:j<s.length:=by omega
        have hjf:j<=200001:=by omega
        obtain⟨p,hp⟩:∃p,p=s[j].toNat:=⟨_,rfl⟩;have hgj:=λh=>(congrArg UInt8.toNat (CT s j h hjl)).trans hp.symm;have wj:wrap64 (j:Int)=(j:Int):=Lc hjf;clear hp;by_cases h10:p=10
        ·have hi10:((p:Int)==10)=true:=by rw[h10];rfl
         have hi11:((p:Int) !=10)=false:=by rw[h10];rfl
         clear h10;go_wp2_with fail;refine(HSf.1 _).mono ?_;rintro e w1 ⟨rfl,rfl⟩;rw[hsf];go_wp2;go_meet;exact⟨.inl ⟨rfl,HN.1⟩,rfl⟩
        ·have hi10:((p:Int)==10)=false:=by simp;omega
         have hi11:((p:Int) !=10)=true:=by simp;omega
         clear h10;go_wp2;go_meet;exact⟨.inl ⟨rfl,HN.1⟩,rfl⟩
    | true=>
      have HS:=S hsf;cases i with
      | zero=>
        go_wp2_with fail;refine(HSf.1 _).mono ?_;rintro e w1 ⟨rfl,rfl⟩;rw[hsf];go_wp2;go_meet;exact⟨.inr ⟨rfl,HS.1⟩,rfl⟩
      | succ j=>
        have hjl:j<s.length:=by omega
        have hjf:j<=200001:=by omega
        obtain⟨p,hp⟩:∃p,p=s[j].toNat:=⟨_,rfl⟩;have hgj:=λh=>(congrArg UInt8.toNat (CT s j h hjl)).trans hp.symm;have wj:wrap64 (j:Int)=(j:Int):=Lc hjf;have HP:=S hp;clear hp;by_cases h10:p=10
        ·have hi10:((p:Int)==10)=true:=by rw[h10];rfl
         have hi11:((p:Int) !=10)=false:=by rw[h10];rfl
         clear h10;go_wp2_with fail;refine(HSf.1 _).mono ?_;rintro e w1 ⟨rfl,rfl⟩;rw[hsf];go_wp2;go_meet;exact⟨.inr ⟨rfl,HS.1⟩,rfl⟩
        ·have hi10:((p:Int)==10)=false:=by simp;omega
         have hi11:((p:Int) !=10)=true:=by simp;omega
         have HN:=S (show ∀vs n,WideUs vs->A5 n->0<=n->n<1000033->s≠Bx vs n from λvs n _ _ _ _ e=>by
          have h:=((HRd.1 vs n e).2.2.2.1 (Nat.succ_pos j)).1;have h2:bAt s j=10:=h;rw[B0 hjl]at h2;exact h10 (by rw[HP.1,h2];rfl))
         clear h10;go_wp2;go_meet;exact⟨.inl ⟨rfl,HN.1⟩,rfl⟩
   case rest=>
    obtain⟨ht,rfl⟩:=hcut;rcases ht with⟨rfl,hN⟩| ⟨rfl,hsf⟩
    ·have HN:=S hN;clear hN;go_wp2;go_ret2;exact PRd.no (Aa _ _) hsm HN.1
    obtain⟨h5,hse⟩:=HTp.1 hsf;have HSe:=S hse;clear hse hsf;have m0:(0:Int)<=(i:Int)+4:=by omega
    have m1:(i:Int)+4<=(s.length:Int)-1:=by omega
    have m2:(s.length:Int)-1<=(s.length:Int):=by omega
    have m3:((i:Int)+4).toNat=i+4:=by omega
    go_wp2_with fail;refine HNu.1.mono ?_;rintro e w1 ⟨n,c,rfl,hc1,hc2,g1⟩;have HG1:=S g1;have HC1:=S hc1;have HC2:=S hc2;have hgs1:=g1.size;clear g1 hc1 hc2 HNu;go_upto_region 8 with fail;go_cut [47] (λv47 wx=>v47= .bool (decide (0<i)&&c)/\w1=wx)
    case first=>
     cases hip:decide (0<i)with
     | false=>
       go_wp2;go_meet;exact⟨by rw[hip];rfl,rfl⟩
     | true=>
       go_wp2;go_meet;exact⟨by rw[hip];rfl,rfl⟩
    case rest=>
    obtain⟨rfl,rfl⟩:=hcut;go_upto_if 47 with fail
    go_cut [6,7] (λv6 v7 wx=>UnsP w s i n v6 v7 wx)
    case first=>
     cases c with
     | false=>
       have HN:=S (show ∀vs n,WideUs vs->A5 n->0<=n->n<1000033->s≠Bx vs n from λvs n _ h64 _ _ e=>by
        have h:=(HC2.1 n h64 (HNt.1.trans (HRd.1 vs n e).2.2.1)).1;cases h)
       rw[Bool.and_false];go_wp2;go_meet;exact⟨HG1.1,.inl ⟨rfl,HN.1⟩⟩
     | true=>
       obtain⟨hc3,hc4⟩:=HC1.1 rfl;have HC3:=S (X hc3 hc4);clear hc3 hc4 HC1;cases i with
       | zero=>
         rw[show(decide (0<0)&&true)=false from rfl];go_wp2;go_meet;exact⟨HG1.1,.inr ⟨rfl,[],ZE _ _,(λu h=>by cases h),by decide,HC3.1.2,λvs n' _ h64 e=>⟨((HRd.1 vs n' e).2.2.2.2 (by first|rfl|trivial)).symm,(HC2.1 n' h64 (HNt.1.trans (HRd.1 vs n' e).2.2.1)).2⟩,λ_=>by
          rw[Gb,F_S,B6];have h:=HSe.1;rw[HC3.1.1]at h;rw[h];simp[sumW]⟩⟩
       | succ j=>
         have m4:(0:Int)<=(j:Int):=by omega
         have m5:(j:Int)<=(s.length:Int):=by omega
         have hxr:(⟨s.toArray⟩:ByteArray).extract 0 j=⟨(s.take j).toArray⟩:=by rw[Cf];simp
         have htj:(s.take j).length<=200000:=nT (List.length_take_le' _ _) hsm;have HRr:=S (V0 (w:=w1) (s.take j) htj (HF.1.1.gb HG1.1) (HF.1.2.1.gbN HG1.1) (HF.1.2.2.gb HG1.1));have HFj:=S (show ∀vs n',s=Bx vs n'->s.take j++[10]=AG vs/\vs≠[]from λvs n' e=>((HRd.1 vs n' e).2.2.2.1 (Nat.succ_pos j)).2);have HTj:=S htj;generalize s.take j=sj at*;clear htj;rw[show(decide (0<j+1)&&true)=true by simp];go_wp2_with fail;refine HRr.1.mono ?_;rintro e w2 ⟨us,v,b,rfl,g2,hvn,hvu,hfu⟩;cases b with
         | false=>
           have HN:=S (show ∀vs n,WideUs vs->A5 n->0<=n->n<1000033->s≠Bx vs n from λvs n hw _ _ _ e=>by
            obtain⟨e1,e2⟩:=HFj.1 vs n e;have h:=(hfu vs e2 hw e1).1;cases h)
           have HG2:=S (Z HG1.1 g2);clear hvn hvu hfu g2 HRr;go_wp2;go_meet;exact⟨HG2.1,.inl ⟨rfl,HN.1⟩⟩
         | true=>
           have HU:=S (show UnsP w s (j+1) n (.bool true) v w2 from by
            obtain⟨hv1,hv2,hv3⟩:=hvu rfl;refine⟨Z HG1.1 g2,.inr ⟨rfl,us,hv1.mono (λk hk _=>nT hgs1 hk),hv2,nT hv3 (by have:=HTj.1;omega),HC3.1.2,λvs n' hw h64 e=>?_,λe=>?_⟩⟩
            ·obtain⟨e1,e2⟩:=HFj.1 vs n' e;exact⟨(hfu vs e2 hw e1).2,(HC2.1 n' h64 (HNt.1.trans (HRd.1 vs n' e).2.2.1)).2⟩
            ·have h:=HSe.1;rw[HC3.1.1,<-e]at h;rw[h,Gb,B6];simp[sumW])
           clear hvn hvu hfu g2 HRr;go_wp2;go_meet;exact HU.1
    case rest=>
    obtain⟨hgx,hu⟩:=hcut;rcases hu with⟨rfl,hN⟩| ⟨rfl,us,hv1,hv2,hv3,h64,hfu,htx⟩
    ·have HN:=S hN;have HGx:=S hgx;clear hN hgx;go_wp2_with fail;go_quiet(fail);have HG2:=S (Aj HGx.1 nq);go_wp2;go_ret2;exact PRd.no HG2.1 hsm HN.1
    ·have HVu:=S (X hv1 (X hv2 (X hv3 hgx)));have HFu:=S hfu;have HTx:=S htx;have Hn64:=S h64;clear hv1 hv2 hv3 hgx hfu htx h64;obtain⟨tk,htk⟩:∃t,t=s.take i:=⟨_,rfl⟩;obtain⟨ll,hll⟩:∃l,l=AG us:=⟨_,rfl⟩;have hx:(⟨s.toArray⟩:ByteArray).extract 0 (i)=⟨(tk:Bs).toArray⟩:=by rw[htk,Cf];simp
     have y1:(0:Int)<=(((i:Nat)):Int):=Int.natCast_nonneg _;have y2:(((i:Nat)):Int)<=(s.length:Int):=by omega
     have htl:(tk:Bs).length<=200000:=by rw[htk];exact nT (List.length_take_le' _ _) hsm
     have HLn:=S (λW' (g:World.grownBy wc W' none)=>by have h:=Uf (HVu.1.1.gb g (by simp)) (nT HVu.1.2.2.1 (by decide)) HVu.1.2.1 (HF.1.1.gb (Z HVu.1.2.2.2 g));rw[<-hll]at h;exact h.mono (λe w' k=>(show e= .returned (str ll)/\World.grownBy wc w' none from⟨k.1,Z g k.2⟩)));have HXS:=S (show(λW'=>True/\World.grownBy wc W' none) (World.drew wc)from⟨trivial,Ad (Aa _ _)⟩);have HN:=S (show(ll=(tk)->¬(0<=n/\n<1000033))->∀vs n,WideUs vs->A5 n->0<=n->n<1000033->s≠Bx vs n from λh vs n' hw hn h0 h1 e=>by
      obtain⟨e1,e2⟩:=HFu.1 vs n' hw hn e;have e3:=(HRd.1 vs n' e).1;subst e1 e2;exact h (by rw[hll,htk];exact e3.symm) ⟨h0,h1⟩)
     have HTk:=S (show ll=(tk)->s=Bx us n/\AG us=(tk)from λe=>⟨HTx.1 (by rw[<-hll,<-htk];exact e),by rw[<-hll];exact e⟩);clear hll htk;have hq3:(ll==(tk))=false\/((ll==(tk))=true/\n<0)\/((ll==(tk))=true/\decide (n<0)=false/\1000033<=n)\/((ll==(tk))=true/\decide (n<0)=false/\decide (1000033<=n)=false):=by
      cases h:(ll==(tk))with
      |false=>exact .inl rfl
      | true=>
        right;rcases Int.lt_or_le n 0 with h0|h0
        ·exact .inl ⟨rfl,h0⟩
        ·right;have h2:decide (n<0)=false:=by rw[decide_eq_false_iff_not];exact Int.not_lt.2 h0
         rcases Int.lt_or_le n 1000033 with h1|h1
         ·exact .inr ⟨rfl,h2,by rw[decide_eq_false_iff_not];exact Int.not_le.2 h1⟩
         ·exact .inl ⟨rfl,h2,h1⟩
     have HQ3:=S hq3;rcases hq3 with hq| ⟨hq,hn0⟩| ⟨hq,hn0,hn1⟩| ⟨hq,hn0,hn1⟩
     rotate_left 3
     ·have HEq:=S (show ll=(tk)by simpa using hq);try have hqe:=OO hq rfl
      have HNb:=S (show 0<=n/\n<1000033 from⟨Int.not_lt.1 (by simpa using hn0),Int.not_le.1 (by simpa using hn1)⟩);go_wp2_with fail;refine wp_region_quiet_below (by kernel_rfl) (by kernel_rfl) ?_;repeat(go_big_quiet_step ((go_at_call 19;exact(HLn.1 _ (gbB (below_regrown wc _ _) none)).mono λe w' h=>⟨h.1,regrown_of_below (NC h.2)⟩)))
      refine wpQuiet_nil ?_;intro _ hw';obtain⟨pg,hw''⟩:=hw';subst hw'';have g5:=gbB (below_regrown wc pg.d pg.os) none;generalize Go.Sort.grow (redrawn wc pg.d) pg.os=w5 at*;all_goals
       have G5:=Z HVu.1.2.2.2 g5;have HG5:=S (X g5 G5);have HSm:=S (Vg (tk) (nT htl (by decide)) w5);clear g5 G5;go_wp2_with fail;refine mR HSm.1 λw6 g6=>?_;have HG6:=S (X (Z HG5.1.1 g6) (Z HG5.1.2 g6));clear g6 HSm;cases hc:(n==csM (tk))with
       | false=>
         have HC:=S (show n≠csM (tk)by simpa using hc);go_wp2;go_ret2;exact⟨us,_,8,rfl,HG6.1.2,λ_=>rfl,.inr ⟨hsm,.inl ⟨n,(HTk.1 HEq.1).1,HVu.1.2.1,HVu.1.2.2.1,Hn64.1,HNb.1.1,HNb.1.2,.inl ⟨by rw[(HTk.1 HEq.1).2];exact HC.1,rfl⟩⟩⟩⟩
       | true=>
         have HC:=S (show n=csM (tk)by simpa using hc);have HVd:=S (HV.1 w6 u7 us _ HG6.1.2 (HVu.1.1.gb HG6.1.1 (by simp)) HVu.1.2.1 (nT HVu.1.2.2.1 (by decide)));go_wp2_with fail;refine mR HVd.1 λw7 g7=>?_;have HG7:=S (X (Z HG6.1.1 g7) (Z HG6.1.2 g7));obtain⟨ev,hev⟩:∃x,x=vm us:=⟨_,rfl⟩;rw[<-hev];have HEv:=S hev;clear g7 hev HVd;by_cases h0:ev=0
         ·subst h0;go_wp2;go_ret2;exact⟨us,_,0,rfl,HG7.1.2,λh=>absurd rfl h,.inr ⟨hsm,.inl ⟨n,(HTk.1 HEq.1).1,HVu.1.2.1,HVu.1.2.2.1,Hn64.1,HNb.1.1,HNb.1.2,.inr ⟨by rw[(HTk.1 HEq.1).2];exact HC.1,HEv.1,λ_=>(HVu.1.1.gb HG7.1.1 (by simp)).mono (λ_ h _=>h)⟩⟩⟩⟩
         ·have hz:(ev==0)=false:=by simpa using h0
          go_wp2;go_ret2;exact⟨us,_,ev,rfl,HG7.1.2,λ_=>rfl,.inr ⟨hsm,.inl ⟨n,(HTk.1 HEq.1).1,HVu.1.2.1,HVu.1.2.2.1,Hn64.1,HNb.1.1,HNb.1.2,.inr ⟨by rw[(HTk.1 HEq.1).2];exact HC.1,HEv.1,λh=>absurd h h0⟩⟩⟩⟩
     all_goals
      have HB:=S (HN.1 (λe h=>by
       first
        | (rw[e]at hq;simp at hq;done)
        | (omega)))
      try have hqe:=OO hq rfl
      try have hn9:decide (n<0)=true:=by rw[decide_eq_true_eq];exact hn0
      try have hn8:decide (1000033<=n)=true:=by rw[decide_eq_true_eq];exact hn1
      go_wp2_with fail;refine wp_region_quiet_below (by kernel_rfl) (by kernel_rfl) ?_;repeat(go_big_quiet_step ((go_at_call 19;exact(HLn.1 _ (gbB (below_regrown wc _ _) none)).mono λe w' h=>⟨h.1,regrown_of_below (NC h.2)⟩)))
      refine wpQuiet_nil ?_;intro _ hw';obtain⟨pg,hw''⟩:=hw';subst hw'';have g5:=gbB (below_regrown wc pg.d pg.os) none;generalize Go.Sort.grow (redrawn wc pg.d) pg.os=w5 at*;all_goals
       have HG5:=S (Z HVu.1.2.2.2 g5);clear g5;go_wp2;go_ret2;exact PRd.no HG5.1 hsm HB.1
def Zx{g:Nat}{o:Array Value}(h:w.ownsRow B t k v n xs)(hg:w.heap[g]? =some (.cells o t2 (0,0)))(ht:t≠t2):v.ownBlock≠some g:=by
 intro e;rcases h.2 with⟨rfl,_⟩| ⟨q,cap,cur,rfl,_,hq,_⟩
 ·simp[Value.ownBlock]at e
 ·simp only[Value.ownBlock,Option.some.injEq]at e;subst e;rw[hq]at hg;simp only[Option.some.injEq,Obj.cells.injEq]at hg;exact ht hg.2.1
def own_base{B':Nat}(h:w.ownsRow B t k v n xs)(hb:B'<=B):w.ownsRow B' t k v n xs:=by
 refine⟨h.1,?_⟩;rcases h.2 with h2| ⟨q,cap,cur,e,hq,hrest⟩
 ·exact .inl h2
 ·exact .inr ⟨q,cap,cur,e,nT hb hq,hrest⟩
def DB{r:Option Nat}(h:w.ownsRow B t k v n xs)(g:w.grownBy w1 r)(hr:∀q,r=some q->v.ownBlock≠some q):w1.ownsRow B t k v n xs:=by
 refine h.kept g ?_;cases hv:v.ownBlock with
 |none=>exact .inl rfl
 |some q=>exact .inr (λe=>hr q e.symm hv)
def Yv{B1 B2 k1 k2 n1 n2:Nat}{t1:TypeId}{v1 v2:Value}{xs1 xs2:List Value}(h1:w.ownsRow B1 t1 k1 v1 n1 xs1)(h2:w.ownsRow B2 t2 k2 v2 n2 xs2)(ht:t1≠t2):∀q,v2.ownBlock=some q->v1.ownBlock≠some q:=by
 intro q e;rcases h2.2 with⟨rfl,_⟩| ⟨g,cap,cur,rfl,_,hq,_⟩
 ·simp[Value.ownBlock]at e
 ·simp only[Value.ownBlock,Option.some.injEq]at e;subst e;exact Zx h1 hq ht
def Gg(h:w.ownsRow B t k v n xs)(g:w.grownBy w1 (some b))(hb:b<B):w1.ownsRow B t k v n xs:=
 DB h g (λq e=>by cases e;intro e;have:=(h.lt _ e).1;omega)
def I5(h:w.ownsRow B t k v n xs):∀q,v.ownBlock=some q->B<=q:=λq e=>(h.lt q e).1
def OwnU.low(h:OwnU w B v us)(g:w.grownBy w1 (some b))(hb:b<B):OwnU w1 B v us:=by
 obtain⟨cs,h1,h2⟩:=h;exact⟨cs,Gg h1 g hb,h2.gb g (λk hk _ e=>by have:=hk.1;cases e;omega)⟩
def OwnU.vu(h:OwnU w B v us):VU (An B) w v us:=by
 obtain⟨cs,h1,h2⟩:=h;exact⟨cs,C0 h1,h2.mono (λk hk _=>hk.1)⟩
def WideUs.snoc{u:Un}(h:WideUs us)(hu:Dn u):WideUs (us++[u]):=by
 intro x hx;rcases List.mem_append.1 hx with h1|h1
 ·exact h x h1
 ·simp at h1;subst h1;exact hu
def Yu{m:Nat}(h:w.ownsRow B t k v n xs)(e:n=m):w.ownsRow B t k v m xs:=e ▸ h
def LS{fn:Func}{t u v x:Tmp}(h:fn.results=#[.tmp t,.tmp u,.tmp v,.tmp x])(tmps:Array Value)(P:Program)(w:World):
 (results fn tmps).run P w= .ok (.tuple #[tmps.getD t undef,tmps.getD u undef,tmps.getD v undef,tmps.getD x undef]) w:=by
 simp[results,h]
def uL:Bs:=[117,110,105,116,32]
def sL:Bs:=[115,117,109,32]
structure Cst(w0 W:World)(b N:Nat)(s:Bs)(i:Nat)(ok:Bool)(cs:List Value):Prop where
 rdr:Rdr W b s i ok
 blk:Blk W N cs 61
 gr:w0.grownBy W (some b)
section
variable {w0 W1:World}{N i1:Nat}{ok ok1:Bool}{cs:List Value}
def Cst.call(h:Cst w0 W b N s i ok cs)(g:W.grownBy W1 (some b))(hr:Rdr W1 b s i1 ok1)(hb:b≠N):Cst w0 W1 b N s i1 ok1 cs:=⟨hr,h.blk.gb g (λe=>hb (Option.some.inj e).symm),Z h.gr g⟩
def Cst.set(h:Cst w0 W b N s i ok cs)(j:Nat)(v:Value)(hb:b≠N)(hN:w0.heap.size<=N):Cst w0 (W.setCell ⟨N,j,none⟩ v) b N s i ok (cs.set j v):=
 ⟨h.rdr.gb (Ai (Aa _ _) j v) (λe=>hb (Option.some.inj e)),h.blk.set j v,Af h.gr _ _ (.inr hN)⟩
end
def UP(s:Bs)(hs:s.length<=1048576)(hp:Pow w):
 Calls Tryz.prog 7 #[str s] w λe w'=>∃us n sm ok v,e= .returned (.tuple #[v,.int .i64 n,.int .i64 sm,.bool ok])/\w.grownBy w' none/\Jz s us n ok/\(ok=true->VU (An (w.heap.size+1)) w' v us/\WideUs us/\A5 n/\sm=csM (AG us))/\(ok=false->v= .slice none 0 0):=by
 have HP:=S hp;obtain⟨i0,hi0,hz0,hz1,hz2⟩:=info_parts NY;have HI:=S (X hi0 (X hz0 (X hz1 hz2)));obtain⟨i1,hi0',hz0',hz1',hz2'⟩:=info_parts Lj;have HJ:=S (X hi0' (X hz0' (X hz1' hz2')));obtain⟨i2,hi0'',hz0'',hz1'',hz2''⟩:=info_parts Lk;have HK:=S (X hi0'' (X hz0'' (X hz1'' hz2'')));clear hi0 hz0 hz1 hz2 hi0' hz0' hz1' hz2' hi0'' hz0'' hz1'' hz2'' hp;have H0:=S (X (show Rdr (w.alloc (.cells [str s,.int .i64 0,.bool true].toArray 52 (0,0))) w.heap.size s 0 true from⟨Blk.new _ _ _,nZ _,hs⟩) (gZ w (.cells [str s,.int .i64 0,.bool true].toArray 52 (0,0)) none));go_enter func7,ntmps7;go_wp2_with fail;go_loopg [7,8,9] (s.length+1) (λg v7 v8 v9 wr=>∃us i okk,(if okk=true then s.length+1-i else 0)<=g/\Rdr wr w.heap.size s i okk/\OwnU wr (w.heap.size+1) v7 us/\RO s us i okk/\WideUs us/\us.length<=i/\w.grownBy wr none)
 case atStart=>exact⟨[],0,true,by simp,H0.1.1,⟨[],D7 _ _ _ _,rfl⟩,RO.init s,(λu h=>by cases h),nZ _,H0.1.2⟩
 case round=>
  obtain⟨us,i,okk,hk,hR,hO,hX,hW,hl,hG⟩:=hrel;have hgs:=hG.size;have hbl:=hR.blk.lt;have hle:=hR.le;have HIs:=S (Ht hR uL (by decide));have HB:=S (X hR (X hO (X hX (X hW hG))));clear hR hO hX hW hG;go_wp2_with fail;refine mR HIs.1 λw2 g2=>?_;have hR:=HB.1.1.gbN g2;have HT:=S (Ea hR uL (by decide));have HC:=S (X hR (X (HB.1.2.1.low (Ao g2) (Nat.lt_succ_self _)) (X HB.1.2.2.1 (X HB.1.2.2.2.1 (Z HB.1.2.2.2.2 g2)))));have hgs2:=g2.size;clear hR g2 HB HIs;cases hu:Aw s i okk uL with
  | false=>
    have c1:=HC.1.1.c1;have HTs:=S (Ea HC.1.1 sL (by decide));clear HT;go_wp2_with fail;refine HTs.1.mono ?_;rintro e w3 ⟨rfl,g3,h3⟩;have hk3:=Gi s i okk sL;generalize Cu s i okk sL=i3 at*;generalize Aw s i okk sL=ok3 at*;have hG3:=BB HC.1.2.2.2.2 g3 (λk e=>by cases e;exact nR _);have HN:=S (Hc h3 (HP.1.gb hG3));have HD:=S (X hk3 (X g3 hG3));clear h3 g3 hk3 hG3 HTs;go_wp2_with fail;refine HN.1.mono ?_;rintro e w4 ⟨n,i4,ok4,rfl,h4,g4,hn⟩;have HTn:=S (Ea h4 [10] (by decide));have HE:=S (X hn (Z HD.1.2.1 g4));clear h4 g4 hn HN;go_wp2_with fail;refine HTn.1.mono ?_;rintro e w5 ⟨rfl,g5,h5⟩;have hk5:=Gi s i4 ok4 [10];generalize Cu s i4 ok4 [10]=i5 at*;generalize Aw s i4 ok4 [10]=ok5 at*;have d1:=h5.c1;have d2:=h5.c2;have hle5:=h5.le;have g25:=Z HE.1.2 g5;have hEnd:=HC.1.2.2.1.end hu HD.1.1 HE.1.1 hk5 hle5;have HF:=S (X hEnd (X (BB HC.1.2.2.2.2 g25 (λk e=>by cases e;exact nR _)) (HC.1.2.1.low g25 (Nat.lt_succ_self _))));clear hEnd g25 h5 g5 hk5 HTn;by_cases hf:ok5=true/\i5=s.length
    ·obtain⟨rfl,hi5⟩:=hf;have hj1:((i5:Int)==(s.length:Int))=true:=by simp[hi5]
     have hx:(⟨s.toArray⟩:ByteArray).extract 0 i=⟨(s.take i).toArray⟩:=by rw[Cf];simp
     have y1:(0:Int)<=(i:Int):=by omega
     have y2:(i:Int)<=(s.length:Int):=by omega
     have HS:=S (Xl (s.take i) (by simp;omega) w5);have HQ:=S (HF.1.1.2 rfl);go_wp2_with fail;refine HS.1.mono ?_;rintro e w6 ⟨rfl,rfl⟩;go_wp2
     ((try simp only[Exit.inBlock,Exit.then]);refine bZ (LS rfl _ _ _) rfl ?_);have h9:=HF.1.1.1;rw[hi5]at h9;exact⟨us,n,csM (s.take i),true,u7,rfl,HF.1.2.1,by simpa using h9,λ_=>⟨HF.1.2.2.vu,HC.1.2.2.2.1,HE.1.1.1,by rw[HQ.1]⟩,λe=>(by cases e)⟩
    ·have hf2 : ok5 = false \/ ok5 = true /\ ((i5 : Int) == (s.length : Int)) = false := by
      cases ok5 with
      |false=>exact .inl rfl
      |true=>exact .inr ⟨rfl,by rw[beq_eq_false_iff_ne];intro e;exact hf ⟨rfl,by omega⟩⟩
     have HQ:=S (show(ok5&&decide (i5=s.length))=false by
      cases ok5 with
      |false=>rfl
      |true=>simp;exactλe=>hf ⟨rfl,e⟩)
     clear hf;rcases hf2 with rfl| ⟨rfl,hj1⟩
     all_goals
      go_wp2
      ((try simp only[Exit.inBlock,Exit.then]);refine bZ (LS rfl _ _ _) rfl ?_);have h9:=HF.1.1.1;rw[HQ.1]at h9;exact⟨us,0,0,false,_,rfl,HF.1.2.1,⟨λe=>(by cases e),h9.2⟩,(λe=>by cases e),λ_=>rfl⟩
  | true=>
    have hok:okk=true:=(EJ.1 hu).1;subst hok;have hk:s.length+1-i<=gk:=by simpa using hk
    go_wp2_with fail;refine HT.1.mono ?_;rintro e w3 ⟨rfl,g3,h3⟩;rw[Cu,if_pos hu,hu]at h3;have h3:Rdr w3 w.heap.size s (i+5) true:=h3;have HTx:=S (Nk h3);have HD:=S g3;clear HT h3 g3;go_wp2_with fail;refine HTx.1.mono ?_;rintro e w4 ⟨t,i4,ok4,rfl,h4,g4,ht,htl⟩;have hG4:=BB HC.1.2.2.2.2 (Z HD.1 g4) (λk e=>by cases e;exact nR _);have hO4:=HC.1.2.1.low (Z HD.1 g4) (Nat.lt_succ_self _);have hRR:=HC.1.2.2.1.unit hu ht;have hi4:i+5<=i4:=ht.1;have HE:=S (X h4 (X hO4 (X hRR (X HC.1.2.2.2.1 hG4))));have hb4:=h4.blk.lt;have hle4:=h4.le;clear HTx HD HC h4 g4 ht hG4 hO4 hRR;have hx0:=Blk.new w4 [str t,.slice none 0 0,.slice none 0 0] 58;have hA4:=gZ w4 (.cells [str t,.slice none 0 0,.slice none 0 0].toArray 58 (0,0)) none;have HF:=S (X (HE.1.1.gbN hA4) (X hx0 (Ao (r:=some w.heap.size) hA4)));clear hx0 hA4;have hM:w.heap.size≠w4.heap.size:=by omega
    go_wp2_with fail;go_loopg [22] (s.length+1) (λg v22 wr=>∃l i okk rv,(if okk=true then s.length+1-i else 0)<=g/\Rdr wr w.heap.size s i okk/\Blk wr w4.heap.size [str t,rv,.slice none 0 0] 58/\wr.ownsRow (w4.heap.size+1) 3 1 rv l.length (Be l)/\RR s us t l i okk/\(∀x∈l,A5 x)/\l.length<=i/\i4<=i/\w4.grownBy wr (some w.heap.size))
    case atStart=>exact⟨[],i4,ok4,.slice none 0 0,by split<;>omega,HF.1.1,HF.1.2.1,D7 _ _ _ _,HE.1.2.2.1,(λx h=>by cases h),nZ _,nR _,HF.1.2.2⟩
    case round=>
     obtain⟨l,i5,ok5,rv,hk5,hR5,hX5,hO5,hRR5,hl64,hl5,hi5,hG5⟩:=hrel;clear HF;have hgs5:=hG5.size;have hle5:=hR5.le;have HIs:=S (Ht hR5 [32] (by decide));have HB:=S (X hR5 (X hX5 (X hO5 (X hRR5 (X hl64 hG5)))));clear hR5 hX5 hO5 hRR5 hl64 hG5;go_wp2_with fail;refine mR HIs.1 λw5 g5=>?_;have HC:=S (X (HB.1.1.gbN g5) (X (HB.1.2.1.gb g5 (by simp)) (X (DB HB.1.2.2.1 g5 (by simp)) (X HB.1.2.2.2.1 (X HB.1.2.2.2.2.1 (Z HB.1.2.2.2.2.2 (Ao g5)))))));clear g5 HB HIs;cases hb:Aw s i5 ok5 [32]with
     | false=>
       obtain⟨ra,rc,rfl⟩:=GY HC.1.2.2.1;have HT:=S (Ea HC.1.1 [10] (by decide));go_wp2_with fail;refine HT.1.mono ?_;rintro e w6 ⟨rfl,g6,h6⟩;have hk6:=Gi s i5 ok5 [10];generalize Cu s i5 ok5 [10]=i6 at*;generalize Aw s i5 ok5 [10]=ok6 at*;have hX6:=HC.1.2.1.gb g6 (by simp;omega);have hO6:=Gg HC.1.2.2.1 g6 (by omega);have hG6:=Z HC.1.2.2.2.2.2 g6;have hRC:=HC.1.2.2.2.1.line hb hk6;have hi6:i5<=i6:=hk6.1;have HD:=S (X h6 (X hX6 (X hO6 (X hRC (X HC.1.2.2.2.2.1 hG6)))));clear h6 hX6 hO6 hRC hG6 g6 HT hk6 HC;go_wp2_with fail;go_loopg [9] (s.length+1) (λg v9 wr=>∃cs i okk cv,(if okk=true then s.length+1-i else 0)<=g/\Rdr wr w.heap.size s i okk/\Blk wr w4.heap.size [str t,.slice ra l.length rc,cv] 58/\wr.ownsRow (w4.heap.size+1) 3 1 (.slice ra l.length rc) l.length (Be l)/\wr.ownsRow (w4.heap.size+1) 61 4 cv cs.length (AC cs)/\RC s us t l cs i okk/\(∀c∈cs,CQ c)/\cs.length<=i+(if okk=true then 0 else 1)/\i4<=i/\w4.grownBy wr (some w.heap.size))
       case atStart=>exact⟨[],i6,ok6,.slice none 0 0,by split<;>omega,HD.1.1,HD.1.2.1,HD.1.2.2.1,D7 _ _ _ _,HD.1.2.2.2.1,(λx h=>by cases h),nZ _,by omega,HD.1.2.2.2.2.2⟩
       case round=>
        obtain⟨cs,i7,ok7,cv,hk7,hR7,hX7,hO7,hP7,hRC7,hcw7,hcl7,hi7,hG7⟩:=hrel;have hcu:=HD.1.2.2.2.2.1;have hgs7:=hG7.size;have hle7:=hR7.le;have c2:=hR7.c2;have HB:=S (X hR7 (X hX7 (X hO7 (X hP7 (X hRC7 (X hcw7 hG7))))));have HU:=S hcu;clear hR7 hX7 hO7 hP7 hRC7 hcw7 hG7 HD hcu;obtain⟨ca,cc,rfl⟩:=GY HB.1.2.2.2.1;go_upto_region 10 with fail;go_cut [48] (λv48 wx=>∃q,v48= .bool q/\(q=true->ok7=true/\Aw s i7 ok7 uL=false/\Aw s i7 ok7 sL=false)/\(q=false->ok7=false\/Aw s i7 ok7 uL=true\/Aw s i7 ok7 sL=true)/\wr.grownBy wx none)
        case first=>
         cases ok7 with
         | false=>
           go_wp2;go_meet;exact⟨false,rfl,(λe=>by cases e),λ_=> .inl (by first|rfl|trivial),Aa _ _⟩
         | true=>
           have HIu:=S (Ht HB.1.1 uL (by decide));go_wp2_with fail;refine mR HIu.1 λw5 g5=>?_;cases hu7:Aw s i7 true uL with
           | true=>
             go_wp2;go_meet;exact⟨false,rfl,(λe=>by cases e),λ_=> .inr (.inl hu7),g5⟩
           | false=>
             have HIs:=S (Ht (HB.1.1.gbN g5) sL (by decide));go_wp2_with fail;refine mR HIs.1 λw6 g6=>?_;have hg:=Z g5 g6;cases hs7:Aw s i7 true sL with
             | true=>
               go_wp2;go_meet;exact⟨false,rfl,(λe=>by cases e),λ_=> .inr (.inr hs7),hg⟩
             | false=>
               go_wp2;go_meet;exact⟨true,rfl,λ_=>⟨by first|rfl|trivial,hu7,hs7⟩,(λe=>by cases e),hg⟩
        case rest=>
        obtain⟨q,rfl,hqt,hqf,hgx⟩:=hcut;have HZ:=S (X (HB.1.1.gbN hgx) (X (HB.1.2.1.gb hgx (by simp)) (X (DB HB.1.2.2.1 hgx (by simp)) (X (DB HB.1.2.2.2.1 hgx (by simp)) (Z HB.1.2.2.2.2.2.2 (Ao hgx))))));clear hgx c2;cases q with
        | false=>
          have HDn:=S (hqf rfl);clear hqt hqf;have z0:=HZ.1.2.1.cell' 0 rfl;have z1:=HZ.1.2.1.cell' 1 rfl;have z2:=HZ.1.2.1.cell' 2 rfl;obtain⟨cu,hou,hru⟩:=HE.1.2.1;have hoW:=Gg hou HZ.1.2.2.2.2 (Nat.lt_succ_self _);have HOW:=S (X hou (X hru hoW));have hzs:=HZ.1.2.2.2.2.size;have hzl:=HZ.1.2.1.lt;clear hou hru hoW;go_wp2_with (at_builtin;go_loud(refine wpList_append_lies _ rfl _ _ 23 rfl (w.heap.size+1) 58 i2 (.agg #[str [],.slice none 0 0,.slice none 0 0]) 3 64 underlying23 HK.1.1 HK.1.2.1 HK.1.2.2.1 HK.1.2.2.2 rfl (by decide) u7 us.length cu rfl (DB HOW.1.2.2 (gZ _ _ none) (by simp)) ⟨(wc).heap.size,0,none⟩ 1 1 [str t,.slice ra l.length rc,.slice ca cs.length cc] rfl rfl (AP _ _ _) (by simp[Value.oneCell']) (by decide) (by unfold maxLen;omega) (by omega) (by simp;omega) _ rfl ?_;intro g8 cap8 w8 hown8 hgrow8 hat8 hlt8;(have H8:=S (X hown8 (X hgrow8 hat8)));clear hown8 hgrow8 hat8));have hvo:=λq e=>(HOW.1.1.lt q e).2;have hvb:=λq e=>(HOW.1.1.lt q e).1;have gA:=gZ (wc) (.cells [str t,.slice ra l.length rc,.slice ca cs.length cc].toArray 58 (0,0)) none;have hRf:=(HOW.1.2.1.gb HZ.1.2.2.2.2 (λk hk _ e=>by have:=hk.1;cases e;omega)).gb gA (by simp)
          have hOU:=OwnU.snoc (u:=⟨t,l,cs⟩) (okx:=An (w4.heap.size+1)) hRf ((C0 HZ.1.2.2.1).gb gA (by simp)) ((C0 HZ.1.2.2.2.1).gb gA (by simp)) (λk hk _=>⟨by have:w4.heap.size+1<=k:=hk;omega,λe=>by have:w4.heap.size+1<=k:=hk;have:=hvo k e;omega⟩) H8.1.1 H8.1.2.1 (λk e=>by
           simp only[Value.ownBlock,Option.some.injEq]at e;rw[<-e];rcases H8.1.2.2 with h9|h9
           ·exact .inl h9
           ·exact .inr (by rw[h9];exact nR _))
          have hR8:=(HZ.1.1.gbN gA).gb H8.1.2.1 (λe=>by have:=hvb _ e.symm;omega);have hG8:=BB (Z (BB HE.1.2.2.2.2 HZ.1.2.2.2.2 (λk e=>by cases e;exact nR _)) gA) H8.1.2.1 (λq e=>by have:=hvb q e;omega);have HY:=S (X hR8 (X hOU hG8));clear hvo hvb gA hRf hOU hR8 hG8;go_wp2;go_roundg (if ok7=true then s.length+1-i7 else 0)
          case measure=>first| (simp;omega)| (split<;>omega)
          case rel=>exact⟨us++[⟨t,l,cs⟩],i7,ok7,nR _,HY.1.1,HY.1.2.1,HB.1.2.2.2.2.1.done (HDn.1),HE.1.2.2.2.1.snoc ⟨HU.1,HB.1.2.2.2.2.2.1⟩,by simp;omega,HY.1.2.2⟩
        | true=>
          obtain⟨rfl,hu7,hs7⟩:=hqt rfl;clear hqt hqf;have hk7:s.length+1-i7<=gk:=by simpa using hk7
          have hZs:=HZ.1.1.le;have hNs:=HZ.1.2.2.2.2.size;have hbN:w.heap.size≠wc.heap.size:=by omega
          have hMN:w4.heap.size≠wc.heap.size:=by have:=HZ.1.2.1.lt;omega
          have HPW:=S (λW (g:wc.grownBy W (some w.heap.size))=>HP.1.gb (BB HE.1.2.2.2.2 (Z HZ.1.2.2.2.2 g) (λk e=>by cases e;exact nR _)));have HS0:=S (show Cst wc (wc.alloc (.cells [.int .i64 0,.int .i64 0,.int .i64 0,str []].toArray 61 (0,0))) w.heap.size wc.heap.size s i7 true [.int .i64 0,.int .i64 0,.int .i64 0,str []]from⟨HZ.1.1.gbN (gZ _ _ _),Blk.new _ _ _,gZ _ _ _⟩);go_wp2_with fail;refine(Hc HS0.1.rdr (HPW.1 _ HS0.1.gr)).mono ?_;rintro e wC ⟨n1,i8,ok8,rfl,hC,gC,hn1⟩;have hS:=HS0.1.call gC hC hbN;have hf:=hS.blk.frozen 0;have hx:=hS.blk.cell' 0 rfl;have hy:=hS.blk.lt;have hz:=hS.set 0 (.int .i64 n1) hbN (nR _);simp only[List.set_cons_zero,List.set_cons_succ]at hz;have HS1:=S hz;clear hS hC gC hz;go_wp2_with fail;refine(Ea HS1.1.rdr [32] (by decide)).mono ?_;rintro e wC ⟨rfl,gC,hC⟩;have hk2:=Gi s i8 ok8 [32];have HS2:=S (HS1.1.call gC hC hbN);clear gC hC;generalize Cu s i8 ok8 [32]=i9 at*;generalize Aw s i8 ok8 [32]=ok9 at*;go_wp2_with fail;refine(Hc HS2.1.rdr (HPW.1 _ HS2.1.gr)).mono ?_;rintro e wC ⟨n2,i10,ok10,rfl,hC,gC,hn2⟩;have hS:=HS2.1.call gC hC hbN;have hf:=hS.blk.frozen 1;have hx:=hS.blk.cell' 1 rfl;have hy:=hS.blk.lt;have hz:=hS.set 1 (.int .i64 n2) hbN (nR _);simp only[List.set_cons_zero,List.set_cons_succ]at hz;have HS3:=S hz;clear hS hC gC hz
          go_wp2_with fail;refine(Ea HS3.1.rdr [32] (by decide)).mono ?_;rintro e wC ⟨rfl,gC,hC⟩;have hk4:=Gi s i10 ok10 [32];have HS4:=S (HS3.1.call gC hC hbN);clear gC hC;generalize Cu s i10 ok10 [32]=i11 at*;generalize Aw s i10 ok10 [32]=ok11 at*;go_wp2_with fail;refine(Hc HS4.1.rdr (HPW.1 _ HS4.1.gr)).mono ?_;rintro e wC ⟨n3,i12,ok12,rfl,hC,gC,hn3⟩;have hS:=HS4.1.call gC hC hbN;have hf:=hS.blk.frozen 2;have hx:=hS.blk.cell' 2 rfl;have hy:=hS.blk.lt;have hz:=hS.set 2 (.int .i64 n3) hbN (nR _);simp only[List.set_cons_zero,List.set_cons_succ]at hz;have HS5:=S hz;clear hS hC gC hz;go_wp2_with fail;refine(Ea HS5.1.rdr [32] (by decide)).mono ?_;rintro e wC ⟨rfl,gC,hC⟩;have hk6:=Gi s i12 ok12 [32];have HS6:=S (HS5.1.call gC hC hbN);clear gC hC;generalize Cu s i12 ok12 [32]=i13 at*;generalize Aw s i12 ok12 [32]=ok13 at*;go_wp2_with fail;refine(Nk HS6.1.rdr).mono ?_;rintro e wC ⟨t4,i14,ok14,rfl,hC,gC,ht4,htl4⟩;have hS:=HS6.1.call gC hC hbN;have hf:=hS.blk.frozen 3;have hx:=hS.blk.cell' 3 rfl;have hy:=hS.blk.lt;have hz:=hS.set 3 (str t4) hbN (nR _);simp only[List.set_cons_zero,List.set_cons_succ]at hz;have HS7:=S hz;clear hS hC gC hz;go_wp2_with fail;refine(Ea HS7.1.rdr [10] (by decide)).mono ?_;rintro e wC ⟨rfl,gC,hC⟩;have hk8:=Gi s i14 ok14 [10];have HS8:=S (HS7.1.call gC hC hbN);clear gC hC;generalize Cu s i14 ok14 [10]=i15 at*
          generalize Aw s i14 ok14 [10]=ok15 at*;have HCo:=S (YP hn1 hk2 hn2 hk4 hn3 hk6 ht4 hk8);have HWc:=S (show CQ ⟨n1,n2,n3,t4⟩from⟨hn1.1,hn2.1,hn3.1⟩);clear hn1 hk2 hn2 hk4 hn3 hk6 ht4 hk8 HS0 HS1 HS2 HS3 HS4 HS5 HS6 HS7;have hX8:=HZ.1.2.1.gb HS8.1.gr (λe=>hM (Option.some.inj e).symm);have hO8:=Gg HZ.1.2.2.1 HS8.1.gr (by omega);have hP8:=Gg HZ.1.2.2.2.1 HS8.1.gr (by omega);have x2:=hX8.cell' 2 rfl;have y0:=HS8.1.blk.cell' 0 rfl;have y1:=HS8.1.blk.cell' 1 rfl;have y2:=HS8.1.blk.cell' 2 rfl;have y3:=HS8.1.blk.cell' 3 rfl;have hs8:=HS8.1.gr.size;have hl8:=hX8.lt;have hy8:=HS8.1.blk.lt;have hle15:=HS8.1.rdr.le;have HV:=S (X hX8 (X hO8 hP8));have hcs7:cs.length<=i7:=by simpa using hcl7
          clear hX8 hO8 hP8;go_wp2_with (at_builtin;go_loud(refine wpList_append_lies _ rfl _ _ 56 rfl (w4.heap.size+1) 61 i1 (.agg #[.int .i64 0,.int .i64 0,.int .i64 0,str []]) 4 40 underlying56 HJ.1.1 HJ.1.2.1 HJ.1.2.2.1 HJ.1.2.2.2 rfl (by decide) (.slice ca cs.length cc) cs.length (AC cs) rfl (DB HV.1.2.2 (gZ _ _ none) (by simp)) ⟨wC.heap.size,0,none⟩ 1 1 [.int .i64 n1,.int .i64 n2,.int .i64 n3,str t4] rfl rfl (AP _ _ _) (by simp[Value.oneCell']) (by decide) (by unfold maxLen;omega) (by omega) (by simp;omega) _ rfl ?_;intro g9 cap9 w9 hown9 hgrow9 hat9 hlt9;(have hob9:=I5 HV.1.2.2);(have hX9:=(HV.1.1.gb (gZ wC (.cells [.int .i64 n1,.int .i64 n2,.int .i64 n3,str t4].toArray 61 (0,0)) none) (by simp)).gb hgrow9 (λe=>by have:=hob9 _ e.symm;omega));(have a1:=hX9.frozen 2);(have a2:=hX9.lt);(have a3:=hX9.cell' 2 rfl);(have H9:=S (X hX9 (X hown9 (X hgrow9 hob9))));clear hX9 hown9 hgrow9 hat9 hob9));have hne9:=Yv HV.1.2.1 HV.1.2.2 (by decide);have gB:=gZ wC (.cells [.int .i64 n1,.int .i64 n2,.int .i64 n3,str t4].toArray 61 (0,0)) none;have gS:=Ai (Aa w9 (some w4.heap.size)) 2 (.slice (some ⟨g9,0,none⟩) (cs.length+1) cap9);have hR9:=((HS8.1.rdr.gbN gB).gb H9.1.2.2.1 (λe=>by have:=H9.1.2.2.2 _ e.symm;omega)).gb gS (λe=>hM (Option.some.inj e))
          have hO9:=DB (DB (DB HV.1.2.1 gB (by simp)) H9.1.2.2.1 hne9) gS (λq e e'=>by cases e;have:=I5 HV.1.2.1 _ e';omega);have hP9:=DB H9.1.2.1 gS (λq e e'=>by cases e;have:=I5 H9.1.2.1 _ e';omega);have hG9:=BB (Z (Z HZ.1.2.2.2.2 HS8.1.gr) (Ao gB)) H9.1.2.2.1 (λq e=>by have:=H9.1.2.2.2 _ e;omega);rw[show AC cs++[.int .i64 n1,.int .i64 n2,.int .i64 n3,str t4]=AC (cs++[⟨n1,n2,n3,t4⟩])by rw[Mh];rfl]at hP9;have hP9:=Yu hP9 (show cs.length+1=(cs++[(⟨n1,n2,n3,t4⟩:Cd)]).length by simp);have HY:=S (X hR9 (X hO9 (X hP9 (X hG9 ((H9.1.1.set 2 (.slice (some ⟨g9,0,none⟩) (cs.length+1) cap9)).of_eq (cs':=[str t,.slice ra l.length rc,.slice (some ⟨g9,0,none⟩) (cs.length+1) cap9]) rfl rfl)))));have hi15:i7<=i15:=HCo.1.1;have hps:ok15=true->i7<i15:=λe=>by have h:=HCo.1;rw[e]at h;exact VZ h hle15
          clear hne9 gB gS hR9 hO9 hP9 hG9;go_wp2;go_roundg (if ok15=true then s.length+1-i15 else 0)
          case measure=>split<;>(first| (have:=hps (by assumption);omega)|omega)
          case rel=>
           have z0:=HB.1.2.2.2.2.1;have z1:=z0.code hu7 hs7 HCo.1;have z2:∀c∈cs++[(⟨n1,n2,n3,t4⟩:Cd)],CQ c:=λc hc=>by
            rcases List.mem_append.1 hc with h|h
            ·exact HB.1.2.2.2.2.2.1 c h
            ·simp at h;subst h;exact HWc.1
           have z3:(cs++[(⟨n1,n2,n3,t4⟩:Cd)]).length<=i15+(if ok15=true then 0 else 1):=by
            rw[lA];cases ok15 with
            |true=>have:=hps rfl;simp;omega
            |false=>simp;omega
           have z4:i4<=i15:=by omega
           refine⟨cs++[⟨n1,n2,n3,t4⟩],i15,ok15,.slice (some ⟨g9,0,none⟩) (cs.length+1) cap9,nR _,HY.1.1,HY.1.2.2.2.2,HY.1.2.1,HY.1.2.2.1,z1,z2,z3,z4,?_⟩;exact Af HY.1.2.2.2.1 _ _ (.inr (nR _))
     | true=>
       have hok:ok5=true:=(EJ.1 hb).1;subst hok;have hk5:s.length+1-i5<=gk:=by simpa using hk5
       have HT:=S (Ea HC.1.1 [32] (by decide));go_wp2_with fail;refine HT.1.mono ?_;rintro e w6 ⟨rfl,g6,h6⟩;rw[Cu,if_pos hb,hb]at h6;have h6:Rdr w6 w.heap.size s (i5+1) true:=h6;have hX6:=HC.1.2.1.gb g6 (by simp;omega);have hO6:=Gg HC.1.2.2.1 g6 (by omega);have hG6:=Z HC.1.2.2.2.2.2 g6;have c1:=hX6.cell' 1 rfl;have hgs6:=hG6.size;have hle6:=h6.le;have HNm:=S (λW (g:w6.grownBy W none)=>(Hc (h6.gbN g) (HP.1.gb (Z (BB HE.1.2.2.2.2 hG6 (λk e=>by cases e;exact nR _)) g))).mono (λe w' h=>(show ∃n i' ok',e= .returned (.int .i64 n)/\Rdr w' w.heap.size s i' ok'/\w6.grownBy w' (some w.heap.size)/\E9 s (i5+1) true n i' ok' from by obtain⟨n,i',ok',h1,h2,h3,h4⟩:=h;exact⟨n,i',ok',h1,h2,Z (Ao g) h3,h4⟩)));have HD:=S (X hX6 (X hO6 hG6));have hln:l.length<=s.length:=by omega
       clear h6 hX6 hO6 hG6 g6 HT;go_wp2_with fail;go_region_law(first
        | (go_simp;go_at_call 24;refine(HNm.1 _ (by first|exact Ad (Aa _ _)|exact Aj (Aa _ _) 1)).mono ?_;rintro e w7 ⟨n,i7,ok7,rfl,h7,g7,hn7⟩;(have hX7:=HD.1.1.gb g7 (by simp;omega));(have d1:=hX7.cell' 1 rfl);(have hs7:=g7.size);(have hlt7:=hX7.lt);(have H7:=S (X h7 (X hX7 (X (Gg HD.1.2.1 g7 (by omega)) (X (Z HD.1.2.2 g7) hn7)))));clear h7 hX7 g7 hn7)
        | (refine step_append_lies _ (by rfl) _ _ 55 (by rfl) (w4.heap.size+1) 3 i0 (.int .i64 0) 1 8 underlying55 HI.1.1 HI.1.2.1 HI.1.2.2.1 HI.1.2.2.2 rfl (by decide) rv l.length (Be l) (by rfl) (DB H7.1.2.2.1 (gZ _ _ none) (by simp)) ⟨w7.heap.size,0,none⟩ 1 1 [.int .i64 n] (by rfl) rfl (AP _ _ _) (by simp[Value.oneCell']) (by decide) (by unfold maxLen;omega) (by omega) (by simp<;>omega) _ rfl ?_;intro g8 cap8 w8 hown8 hgrow8 hat8 hlt8;(have hne8:some w4.heap.size≠rv.ownBlock:=λe=>by have:=(H7.1.2.2.1.lt _ e.symm).1;omega);(have hX8:=(H7.1.2.1.gb (gZ w7 (.cells [.int .i64 n].toArray 3 (0,0)) none) (by simp)).gb hgrow8 hne8);(have e1:=hX8.frozen 1);(have e2:=hX8.lt);(have e3:=hX8.cell' 1 rfl);(have H8:=S (X hX8 (X hown8 hgrow8)));clear hX8 hown8 hgrow8 hat8))
       all_goals
        have hob:=I5 H7.1.2.2.1;have hR8:=((H7.1.1.gbN (gZ w7 (.cells [.int .i64 n].toArray 3 (0,0)) none)).gb H8.1.2.2 (λe=>by have:=hob _ e.symm;omega)).gb (Ai (Aa w8 (some w4.heap.size)) 1 (.slice (some ⟨g8,0,none⟩) (l.length+1) cap8)) (by simp;omega);have hG8:=BB (Z H7.1.2.2.2.1 (Ao (gZ w7 (.cells [.int .i64 n].toArray 3 (0,0)) none))) H8.1.2.2 (λq e=>by have:=hob q e;omega);have hO8:=DB H8.1.2.1 (Ai (Aa w8 (some w4.heap.size)) 1 (.slice (some ⟨g8,0,none⟩) (l.length+1) cap8)) (λq e e'=>by cases e;have:=(H8.1.2.1.lt _ e').1;omega);have HZ:=S (X hR8 (X hG8 hO8));have hle7:=H7.1.1.le;have hi7:=H7.1.2.2.2.2.2.1;clear hR8 hG8 hO8;go_wp2;go_roundg (if ok7=true then s.length+1-i7 else 0)
        case measure=>split<;>omega
        case rel=>exact⟨l++[n],i7,ok7,_,nR _,HZ.1.1,(H8.1.1.set 1 _).of_eq rfl rfl,by rw[lA,show Be (l++[n])=Be l++[.int .i64 n]by simp[Be]];exact HZ.1.2.2,HC.1.2.2.2.1.num hb H7.1.2.2.2.2,(λx hx=>by rcases List.mem_append.1 hx with h|h;exact HC.1.2.2.2.2.1 x h;simp at h;subst h;exact H7.1.2.2.2.2.1),by simp;omega,by omega,Af HZ.1.2.1 _ _ (.inr (nR _))⟩
end Go.Proofs.YtbjfaimkiclhgaaGreatDoor
