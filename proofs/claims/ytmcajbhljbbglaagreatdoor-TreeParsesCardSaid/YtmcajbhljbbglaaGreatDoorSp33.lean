/-
  The program's reader of statements: upper, Full. The program's reader of statements: full, word, wantWord, keyword, isEnding, one, maybe, params.
-/
import Derived.Test.YtmcajbhljbbglaaGreatDoorSpF
import Derived.Test.YtmcajbhljbbglaaGreatDoorSp29
import Derived.Test.YtmcajbhljbbglaaGreatDoorPlain
import Derived.Test.YtmcajbhljbbglaaGreatDoorSp31
import Derived.Test.YtmcajbhljbbglaaGreatDoorSp27
set_option linter.all false
set_option maxRecDepth 100000
set_option maxHeartbeats 8000000
namespace Go.Proofs.YtmcajbhljbbglaaGreatDoor
open Tryz
open Go.RowKit
theorem CapR.same{w wr:World}{s:Bs}{H k:Nat}(h:CapR w s H k wr)(e:Lib.upperB (bAt s k)=bAt s k):CapR w s H (k+1) wr:=by
 refine⟨fun j hj=>?_,h.fr,h.lt,h.g⟩;rw[h.cell j hj];have:ER s (k+1) j=ER s k j:=by
  unfold ER;by_cases e1:j=k
  ·subst e1;rw[if_pos Ab,if_neg Ab,e]
  ·by_cases e2:j<k
   ·rw[if_pos Ab,if_pos e2]
   ·rw[if_neg Ab,if_neg e2]
 rw[this]
theorem mR(s:Bs)(hs:s.length≤1000000)(w:World):Calls Tryz.prog 224 #[str s] w fun e w'=>e= .returned (str (Lib.toUpperA s))∧w.grownBy w' none:=by
 have eQ{P}(h:P:=by
 go_enter func224,ntmps224;go_wp2_with fail;go_loopg [10] s.length (fun g v10 wr=>∃k:Nat,k+g=s.length∧v10= .int .i64 k∧CapR w s w.heap.size k wr)
 case atStart=>exact⟨0,by omega,rfl,H0.out⟩
 case round=>
  obtain⟨k,hk,rfl,hr⟩:=hrel;clear H0 hconv;cases gk with
  | zero=>
    exact YK
  | succ gk=>
    have hkl:k<s.length:=Ab;have hj1:decide (k<s.length)=true:=Ag;have ck:=hr.cell k hkl;have fk:=hr.fr k hkl;have hlt:=hr.lt;have i0:(0:Int)≤(k:Int):=Ab;have i1:(k:Int)<(s.length:Int):=Ab;have ek:ER s k k=bAt s k:=by simp[ER]
    rw[ek]at ck;by_cases h:97≤(bAt s k).toNat∧(bAt s k).toNat≤122
    ·have e : ((Lib.upperB (bAt s k)).toNat : Int) = ((bAt s k).toNat : Int) - 32 := by
      have h0:Lib.isLowerB (bAt s k)=true:=by simp[Lib.isLowerB,UInt8.le_iff_toNat_le];omega
      exact TA
     have hR0:=hr.step (Nat.le_refl _) hkl;rw[e]at hR0;have HR:=Z hR0;clear hr ek hR0 e;obtain⟨h1,h2⟩:=h;exact QX
    ·have e : Lib.upperB (bAt s k) = bAt s k := by
      have h0:Lib.isLowerB (bAt s k)=false:=by
       simp[Lib.isLowerB,UInt8.le_iff_toNat_le];omega
      unfold Lib.upperB;rw[if_neg (by rw[h0];simp)]
     have HR:=Z (hr.same e);have hc:(bAt s k).toNat<97∨122<(bAt s k).toNat:=Ab;clear h e hr ek;rcases hc with h|h
     all_goals
      exact QX):=Aa h
 exact Yt
theorem vD(c s:Bs){w:World}{k:Nat}(hk:w.cell? ⟨k,0,none⟩=some (str s)):
 Calls Tryz.prog 226 #[str c,.pointer (some ⟨k,0,none⟩)] w fun e w'=>e= .returned (.bool (decide (4≤s.length)&&s.isPrefixOf c))∧w'=w:=by
 have HP:=Z (strings_HasPrefix ⟨c.toArray⟩ ⟨s.toArray⟩ w);by_cases h4:4≤s.length
 ·have h41:decide ((4:Int)≤(s.length:Int))=true:=by simp;omega
  have h42:decide (4≤s.length)=true:=by simpa using h4
  rw[h42];go_enter func226,ntmps226;go_wp2_with fail;refine HP.out.mono ?_;rintro e w1 ⟨rfl,rfl⟩;go_wp2;go_ret;exact⟨by simp[Lib.hasPrefix],rfl⟩
 ·have h41:decide ((4:Int)≤(s.length:Int))=false:=by simp;omega
  have h42:decide (4≤s.length)=false:=by simpa using h4
  rw[h42];go_enter func226,ntmps226;exact I5
def Ia(p:Bs→Bool)(L:List Bs):Int:=match L.findIdx? p with|some i=>i|none=>-1
theorem nF{w:World}{wv:Value}{L:List Bs}{ok:Nat→Prop}(h:SRow w wv L ok)(s:Bs){k:Nat}(hk:w.cell? ⟨k,0,none⟩=some (str s)):
 Calls Tryz.prog 225 #[wv,.func (.func 226) #[] #[.pointer (some ⟨k,0,none⟩)]] w fun e w'=>e= .returned (.int .i64 (Ia (fun c=>decide (4≤s.length)&&s.isPrefixOf c) L))∧w'=w:=by
 have NV{P}(h:P:=by
 have HF:=Z (fun c=>vD c s hk);have eg:∀args w,(callFunc 226 args).run Tryz.prog w= .ok (.enter 226 args) w:=fun _ _=>by kernel_rfl
 clear hat hle hmx hk;generalize hT:Ia (fun c=>decide (4≤s.length)&&s.isPrefixOf c) L=T;go_enter func225,ntmps225;go_wp2_with fail;go_loopg [8] L.length (fun g v8 wr=>∃i:Nat,i+g=L.length∧v8= .int .i64 i∧wr=w∧Hid (∀j,j<i→(decide (4≤s.length)&&s.isPrefixOf (L.getD j []))=false))
 case atStart=>exact⟨0,by omega,rfl,rfl,Z (fun j hj=>absurd hj (Nat.not_lt_zero j))⟩
 case round=>
  obtain⟨i,hg,rfl,rfl,hno⟩:=hrel;by_cases hi:i<L.length
  ·have hi1:decide (i<L.length)=true:=by simpa using hi
   obtain⟨lb,lo,rfl,_,c0⟩:=HA.out i hi;have i0:(0:Int)≤(i:Int):=Ab;have i2:(i:Int)<(L.length:Int):=Ab;cases hp:(decide (4≤s.length)&&s.isPrefixOf (L.getD i []))with
   | true=>
     have HN:=Z (show T=i by
      rw[←hT];unfold Ia;have e:L.findIdx? (fun c=>decide (4≤s.length)&&s.isPrefixOf c)=some i:=by
       rw[List.findIdx?_eq_some_iff_getElem];refine⟨hi,?_,fun j hj=>?_⟩
       ·have:L.getD i []=L[i]:=by simp[List.getD_eq_getElem?_getD,List.getElem?_eq_getElem hi]
        rw[←this];exact hp
       ·have hj':j<L.length:=by omega
        have:L.getD j []=L[j]:=by simp[List.getD_eq_getElem?_getD,List.getElem?_eq_getElem hj']
        have h0:=hno.out j hj;rw[this]at h0;simp only[h0];decide
      rw[e])
     have dT{P}(h:P:=by clear hp hno hC HF;generalize L.getD i []=c at*;go_wp2_with (go_at_fn 226;refine HC.out.mono ?_;rintro e w' ⟨rfl,rfl⟩);go_ret;exact⟨by rw[HN.out];rfl,rfl⟩):=Aa h;exact TO
   | false=>
     have dT{P}(h:P:=by
     have HN:=Z (show ∀j,j<i+1→(decide (4≤s.length)&&s.isPrefixOf (L.getD j []))=false from fun j hj=>by
      by_cases e:j=i
      ·subst e;exact hp
      ·exact hno.out j Ab)
     clear hp hno hC HF;generalize L.getD i []=c at*;go_wp2_with (go_at_fn 226;refine HC.out.mono ?_;rintro e w' ⟨rfl,rfl⟩);go_roundg (L.length-(i+1))
     case measure=>omega
     case rel=>exact⟨i+1,by omega,by go_num,rfl,HN⟩):=Aa h;exact TO
  ·have hi1:decide (i<L.length)=false:=by simpa using hi
   have HN:=Z (show T= -1 by
    rw[←hT];unfold Ia;have e:L.findIdx? (fun c=>decide (4≤s.length)&&s.isPrefixOf c)=none:=by
     rw[List.findIdx?_eq_none_iff];intro x hx;obtain⟨j,hj,rfl⟩:=List.getElem_of_mem hx;have:L.getD j []=L[j]:=by simp[List.getD_eq_getElem?_getD,List.getElem?_eq_getElem hj]
     rw[←this];exact hno.out j Ab
    rw[e])
   clear hno;go_wp2;go_ret;exact⟨by rw[HN.out];rfl,rfl⟩):=Aa h
 exact Nt
theorem UT(L:List Bs)(s:Bs):Lib.containsS (L.map fun x=>⟨x.toArray⟩) ⟨s.toArray⟩=L.contains s:=by
 rw[Bool.eq_iff_iff,Lib.containsS_iff,List.contains_iff_mem,List.mem_map];constructor
 ·rintro⟨x,hx,e⟩;have e2:x=s:=by simpa using congrArg (fun b:ByteArray=>b.data.toList) e
  subst e2;exact hx
 ·exact fun h=>⟨s,h,rfl⟩
theorem nM{w:World}{wv:Value}{L:List Bs}{ok:Nat→Prop}(h:SRow w wv L ok)(s:Bs)(hs:s.length≤4000)(hu:Lib.toUpperA s=s)(hp0:0<L.length):
 Calls Tryz.prog 183 #[str s,wv] w (Wv w L s):=by
 have HS:=Z (fun(W:World)(g:w.grownBy W none)=>h.gb g Ae);obtain⟨a,cap,rfl,hle,hmx,hat⟩:=h;obtain⟨lb,lo,rfl,_,_⟩:=hat 0 hp0;have HA:=Z (show ∀j,j<L.length→w.cell? ⟨lb,lo+j,none⟩=some (str (L.getD j []))from fun j hj=>by
  obtain⟨lb',lo',e,_,c⟩:=hat j hj;cases e;exact c)
 have hmax:L.length≤maxLen:=Ab;unfold maxLen at hmax;have HC:=Z (fun(W:World)=>mR s Ab W);rw[hu]at HC;have HB:=Z (fun(W:World)(g:w.grownBy W none)=>slices_Contains_string lb lo L.length cap (L.map fun x=>⟨x.toArray⟩) ⟨s.toArray⟩ W Ae Ab (by
  intro j hj;simp at hj;have:=Am g (HA.out j hj);rw[this];simp[List.getD,hj]))
 have LC{P}(h:P:=by
 clear hat hle hmx hu;have g0:=World.grownBy_alloc w (.cells #[str s] 9 (0,0)) none;have hb0:=Blk.new w [str s] 9;go_enter func183,ntmps183;go_wp2_with fail;refine(HC.out _).mono ?_;rintro e w1 ⟨rfl,g1⟩;have hb1:=hb0.gb g1 Ae;have k1:=hb1.cell' 0 rfl;have f1:=hb1.frozen 0;have gs:=As (Aj w1 (some w.heap.size)) 0 (str s);have hb2:=hb1.set 0 (str s);have k2:=hb2.cell' 0 rfl;have G2:=Z (A5 (Ah g0 g1) gs (.inr (Nat.le_refl _)));clear hb0 g0 g1 hb1 gs hb2;go_wp2_with fail;refine(HB.out _ G2.out).mono ?_;rintro e w2 ⟨rfl,rfl⟩;rw[List.take_of_length_le Ae,UT];cases hcc:L.contains s with
 | true=>
   have HF:=Z (show Da L s=s by unfold Da;rw[hcc,if_pos rfl]);clear hcc;go_wp2;exact bodyPost_ret (v:= .tuple #[str s,.bool true]) Ql rfl ⟨⟨true,by rw[HF.out],fun h=>by cases h⟩,G2.out⟩
 | false=>
   have HF:=Z (show Da L s=if 4≤s.length then(L.find? fun w=>s.isPrefixOf w).getD []else []by unfold Da;rw[hcc,if_neg Ae]);have HI:=Z (nF (HS.out _ G2.out) s k2);clear hcc;go_wp2_with fail;refine HI.out.mono ?_;rintro e w3 ⟨rfl,rfl⟩;cases hf:L.findIdx? (fun c=>decide (4≤s.length)&&s.isPrefixOf c)with
   | none=>
     have e1:Ia (fun c=>decide (4≤s.length)&&s.isPrefixOf c) L= -1:=by unfold Ia;rw[hf]
     have HN:=Z (show Da L s=[]by
      rw[HF.out];by_cases h4:4≤s.length
      ·rw[if_pos h4];rw[List.findIdx?_eq_none_iff]at hf;have:L.find? (fun w=>s.isPrefixOf w)=none:=by
        rw[List.find?_eq_none];intro x hx;have:=hf x hx;simp[h4]at this;simp[this]
       rw[this];rfl
      ·rw[if_neg h4])
     rw[e1];clear hf e1;go_wp2;exact bodyPost_ret (v:= .tuple #[str [],.bool false]) Ql rfl ⟨⟨false,by rw[HN.out],fun _=>HN.out⟩,G2.out⟩
   | some i=>
     have e1:Ia (fun c=>decide (4≤s.length)&&s.isPrefixOf c) L=i:=by unfold Ia;rw[hf]
     rw[List.findIdx?_eq_some_iff_getElem]at hf;obtain⟨hi,hp,hbef⟩:=hf;simp only[Bool.and_eq_true,decide_eq_true_eq]at hp;have HN:=Z (show Da L s=L.getD i []by
      rw[HF.out,if_pos hp.1];have:L.find? (fun w=>s.isPrefixOf w)=some L[i]:=by
       rw[List.find?_eq_some_iff_getElem];refine⟨hp.2,i,hi,rfl,fun j hj=>?_⟩;have:=hbef j hj;simp only[hp.1,decide_true,Bool.true_and]at this;simp only[Bool.not_eq_true]at this;rw[this];rfl
      rw[this,List.getD_eq_getElem?_getD,List.getElem?_eq_getElem hi])
     have ci:=Am G2.out (HA.out i hi);have i0:(0:Int)≤(i:Int):=Ab;have i2:(i:Int)<(L.length:Int):=Ab;have i3:decide ((i:Int)<0)=false:=Ae;rw[e1];clear hbef e1;generalize L.getD i []=c at*;go_wp2;exact bodyPost_ret (v:= .tuple #[str c,.bool true]) Ql rfl ⟨⟨true,by rw[HN.out],fun h=>by cases h⟩,G2.out⟩):=Aa h
 exact Lt
namespace Rd
variable {l : List Tok} {α β : Type} {q : α → Rd l β} {i : Nat}
theorem bind_f {p : Rd l α} : (p.bind q).f i = (p.f i).bind fun x j => (q x).f j := rfl
theorem pure_f (a : α) (i : Nat) : (pure a : Rd l α).f i = .ok a i := rfl
theorem bad_f (a : α) (i : Nat) : (bad a : Rd l α).f i = .bad i := rfl
theorem skip_f {q : Unit → Rd l β} : (skip.bind q).f i = (q ()).f (i + 1) := rfl
theorem fin_f {q : Unit → Rd l β} : (fin.bind q).f i = (BP l i).bind fun _ j => (q ()).f j := rfl
theorem want_f {q : Unit → Rd l β} (s : Bs) : ((want s).bind q).f i = (Br l s i).bind fun _ j => (q ()).f j := rfl
theorem name_f (hn : Al l) {q : Bs → Rd l β} : ((name hn).bind q).f i = (AW l i).bind fun s j => (q s).f j := rfl
theorem name_f0 (hn : Al l) : (name hn).f i = AW l i := rfl
theorem ifs_f (s : Bs) (p q : Rd l α) : (ifs s p q).f i = if Ak (Af l i) s then p.f (i + 1) else q.f i := rfl
theorem ifw_f (W : List Bs) (s : Bs) (p q : Rd l α) : (ifw W s p q).f i = if Av l W i == s then p.f (i + 1) else q.f i := rfl
theorem here_f (W : List Bs) {q : Bs → Rd l β} : ((here W).bind q).f i = (q (Av l W i)).f i := rfl
theorem cond_f (c : Nat → Bool) (p q : Rd l α) : (cond c p q).f i = if c i then p.f i else q.f i := rfl
theorem condW_f (c : Nat → Bool) (p q : Rd l α) : (condW c p q).f i = if c i then p.f i else q.f i := rfl
theorem condN_f (c : Nat → Bool) (p q : Rd l α) : (KU c p q).f i = if c i then p.f i else q.f i := rfl
theorem moreW_f {W : List Bs} {s : Bs} {step : β → Rd l β} {m : Nat} {a : β} : (moreW W s step (m + 1) a).f i = if Av l W i == s then ((step a).bind (moreW W s step m)).f (i + 1) else .ok a i := rfl
theorem moreS_f {s : Bs} {step : β → Rd l β} {m : Nat} {a : β} : (moreS s step (m + 1) a).f i = if Ak (Af l i) s then ((step a).bind (moreS s step m)).f (i + 1) else .ok a i := rfl
end Rd
def J6(l:List Tok)(W:List Bs)(s:Bs)(i:Nat):Res Unit:=if Av l W i==s then .ok () (i+1)else .bad i
theorem Rd.must_f{l:List Tok}{β:Type}{q:Unit→Rd l β}{i:Nat}(W:List Bs)(s:Bs):((must W s).bind q).f i=(J6 l W s i).bind fun _ j=>(q ()).f j:=rfl
theorem Uj(s:Bs):Mj s=endWords.contains s:=by
 unfold Mj;rw[UT];rfl
section
variable {w:World}{b:Nat}{tv wv:Value}{l:List Tok}{i:Nat}
theorem I8(h:Par w b tv wv l wordsL i)(hok:∀i,At (Af l i))(j:Nat):
 Calls Tryz.prog 131 #[.pointer (some ⟨b,0,none⟩),AG (Af l j)] w fun e w'=>e= .returned (str (Av l wordsL j))∧w.grownBy w' none:=by
 have hO:=hok j;unfold Av;generalize Af l j=t at*;by_cases hk:t.kind=0
 ·have hk':(t.kind==0)=true:=by simpa using hk
  have HU:=Z (fun(W:World)(wv:Value)(ok:Nat→Prop)(hS:SRow W wv wordsL ok)=>nM hS t.text hO.short (Wt (hO.word hk).2) Ad);rw[hk',if_pos rfl,AG,hk];have hp:=h.alloc (.cells #[.int .i64 0,.int .i64 t.pos,str t.text] 89 (0,0));have hT:=Blk.new w [.int .i64 0,.int .i64 t.pos,str t.text] 89;have t0:=hT.cell' 0 rfl;have t2:=hT.cell' 2 rfl;have tl:=hT.lt;have hb:=hp.lt;have c2:=hp.c2;have HS:=Z hp.words;have gA:=Z (World.grownBy_alloc w (.cells #[.int .i64 0,.int .i64 t.pos,str t.text] 89 (0,0)) none);clear hO hk' hp hT h hok;generalize hwl:wordsL=L at*;clear hwl;go_enter func131,ntmps131;go_wp2_with fail;go_region_with(go_at_call 183;refine(HU.out _ _ _ (HS.out.gb (An (Aj _ none)) Ae)).mono ?_;rintro e w6 ⟨⟨f,rfl,hf⟩,g6⟩;(have HF:=Z hf);clear hf);all_goals
   have HE:=Z (Ah (An gA.out) g6);clear g6;go_wp2;go_ret;exact⟨rfl,HE.out⟩
 ·have hk':(t.kind==0)=false:=by simpa using hk
  have hk1:(t.kind !=0)=true:=by simp[hk]
  have hT:=Blk.new w [.int .i64 t.kind,.int .i64 t.pos,str t.text] 89;have t0:=hT.cell' 0 rfl;have tl:=hT.lt;have gA:=Z (World.grownBy_alloc w (.cells #[.int .i64 t.kind,.int .i64 t.pos,str t.text] 89 (0,0)) none);rw[hk',if_neg Ae,AG];clear hO hT h hok hk';go_enter func131,ntmps131;go_wp2;go_ret;exact⟨rfl,gA.out⟩
theorem vE{W:List Bs}{s:Bs}(h:Av l W i=s)(hs:s≠[]):i<l.length:=by
 apply GK;intro e;apply hs;rw[←h];unfold Av;rw[e];rfl
theorem Ey(h:Par w b tv wv l wordsL i)(hok:∀i,At (Af l i))(s:Bs)(hs:s≠[])(hw:(Av l wordsL i==s)=true):
 Calls Tryz.prog 96 #[.pointer (some ⟨b,0,none⟩),str s] w fun e w'=>e= .returned (.bool true)∧Par w' b tv wv l wordsL (i+1)∧w.grownBy w' (some b):=by
 have hw':Av l wordsL i=s:=GV;have hi:=vE hw' hs;have HK:=Z hw';have hf:=h.few;have hb:(s !=s)=false:=Ae;have HF:=Z (fun(W:World)(g:w.grownBy W none)=>I8 (h.gbN g) hok i);clear hw hw';go_enter func96,ntmps96;have He{P}(h:P:=by go_wp2_with fail;refine(HF.out _ g1).mono ?_;rintro e w2 ⟨rfl,g2⟩;rw[HK.out];exact Tj):=Aa h;exact GZ
theorem Ev(h:Par w b tv wv l wordsL i)(hok:∀i,At (Af l i))(s:Bs)(hw:(Av l wordsL i==s)=false):
 Calls Tryz.prog 96 #[.pointer (some ⟨b,0,none⟩),str s] w fun e w'=>e= .returned (.bool false)∧w.grownBy w' none:=by
 have hb:(Av l wordsL i !=s)=true:=by simp[bne,hw]
 have HF:=Z (fun(W:World)(g:w.grownBy W none)=>I8 (h.gbN g) hok i);go_enter func96,ntmps96;have He{P}(h:P:=by go_wp2_with fail;refine(HF.out _ g1).mono ?_;rintro e w2 ⟨rfl,g2⟩;go_wp2;go_ret;exact⟨rfl,Ah g1 g2⟩):=Aa h;exact GZ
theorem CJ(h:Par w b tv wv l wordsL i)(hok:∀i,At (Af l i))(s:Bs)(hs:s≠[]):
 Calls Tryz.prog 97 #[.pointer (some ⟨b,0,none⟩),str s] w (Post b tv wv l wordsL w (fun _ v _=>v= .tuple #[]) (J6 l wordsL s i)):=by
 unfold J6;cases hw:Av l wordsL i==s with
 | true=>
   rw[if_pos rfl];have HW:=Z (Ey h hok s hs hw);clear hw;go_enter func97,ntmps97;go_wp2_with fail;refine HW.out.mono ?_;rintro e w1 ⟨rfl,h1,g1⟩;exact LM
 | false=>
   rw[if_neg Ae];have HW:=Z (Ev h hok s hw);clear hw;go_enter func97,ntmps97;go_wp2_with fail;refine HW.out.mono ?_;exact QM
abbrev setSigns:List Bs:=[[61],[58,61],[91],[45,62]]
theorem nI(l:List Tok)(W:List Bs)(i:Nat):AR l W i=if setSigns.any (fun s=>Ak (Af l (i+1)) s)then []else Av l W i:=by
 unfold AR setSigns;simp only[List.any_cons,List.any_nil,Bool.or_false,Bool.or_assoc]
theorem Oc(h:Par w b tv wv l wordsL i)(hok:∀i,At (Af l i)):
 Calls Tryz.prog 129 #[.pointer (some ⟨b,0,none⟩)] w fun e w'=>e= .returned (str (AR l wordsL i))∧w.grownBy w' none:=by
 have HF:=Z (fun(W:World)(g:w.grownBy W none)=>I8 (h.gbN g) hok i);have HA:=Z (fun(W:World)(g:w.grownBy W none)=>CI (h.gbN g));rw[nI];generalize hK:(if setSigns.any (fun s=>Ak (Af l (i+1)) s)then []else Av l wordsL i)=K;have HK:=Z hK;clear hK;go_enter func129,ntmps129;go_wp2_with fail;refine(KO h).mono ?_;rintro e w1 ⟨rfl,g⟩;generalize htk:Af l (i+1)=t at*;have hTk:=(Blk.new w1 [.int .i64 t.kind,.int .i64 t.pos,str t.text] 89).alloc (.cells (setSigns.map str).toArray 9 (0,0));have hSg:Blk ((w1.alloc (.cells #[.int .i64 t.kind,.int .i64 t.pos,str t.text] 89 (0,0))).alloc (.cells (setSigns.map str).toArray 9 (0,0))) (w1.heap.size+1) (setSigns.map str) 9:=(Blk.new (w1.alloc (.cells #[.int .i64 t.kind,.int .i64 t.pos,str t.text] 89 (0,0))) (setSigns.map str) 9).of_eq Ae rfl;have gA:=Ar (Ar g (.cells #[.int .i64 t.kind,.int .i64 t.pos,str t.text] 89 (0,0))) (.cells (setSigns.map str).toArray 9 (0,0));have HT:=Z (Ac hTk (Ac hSg gA));clear hTk hSg gA g htk;go_wp2_with fail;go_loopg [10] 4 (fun g v10 wr=>∃k:Nat,k+g=4∧v10= .int .i64 k∧w.grownBy wr none∧Blk wr w1.heap.size [.int .i64 t.kind,.int .i64 t.pos,str t.text] 89∧Blk wr (w1.heap.size+1) (setSigns.map str) 9∧Hid (∀j,j<k→Ak t (setSigns.getD j [])=false))
 case atStart=>exact⟨0,by omega,rfl,HT.out.2.2,HT.out.1,HT.out.2.1,Z (fun j hj=>absurd hj (Nat.not_lt_zero j))⟩
 case round=>
  obtain⟨k,hk,rfl,hgr,hTk,hSg,hno⟩:=hrel;clear HT;cases gk with
  | zero=>
    have hk4:k=4:=Ab;subst hk4;have HN:=Z (show K=Av l wordsL i by
     rw[←HK.out,if_neg];simp only[setSigns,List.any_cons,List.any_nil,Bool.or_false];rw[show Ak t [61]=false from hno.out 0 Ab,show Ak t [58,61]=false from hno.out 1 Ab,show Ak t [91]=false from hno.out 2 Ab,show Ak t [45,62]=false from hno.out 3 Ab];simp)
    clear hno hTk hSg;go_wp2_with fail;refine(HA.out _ hgr).mono ?_;rintro e w2 ⟨rfl,g2⟩;have gr2:=Ah hgr g2;clear hgr g2;go_wp2_with fail;refine(HF.out _ gr2).mono ?_;rintro e w3 ⟨rfl,g3⟩;have gr3:=Ah gr2 g3;clear gr2 g3;go_wp2;go_ret;exact⟨by rw[HN.out];rfl,gr3⟩
  | succ gk=>
    have hk4:k<4:=Ab;have hj1:decide (k<4)=true:=by simpa using hk4
    have i0:(0:Int)≤(k:Int):=Ab;have i2:(k:Int)<4:=Ab;have ck:wr.cell? ⟨w1.heap.size+1,k,none⟩=some (str (setSigns.getD k [])):=hSg.cell' k (by
     have:k=0∨k=1∨k=2∨k=3:=Ab;rcases this with rfl|rfl|rfl|rfl<;>rfl)
    have t0:=hTk.cell' 0 rfl;have t1:=hTk.cell' 1 rfl;have t2:=hTk.cell' 2 rfl;have tl:=hTk.lt;have sl:=hSg.lt;have HB:=Z (Ac hgr (Ac hTk hSg));generalize hsk:setSigns.getD k []=s at*;clear hgr hTk hSg;go_wp2_with fail;refine(Hg _ _ _ s _).mono ?_;rintro e w2 ⟨rfl,g2⟩;have gr2:=Ah HB.out.1 g2;cases hq:t.kind==4&&t.text==s with
    | true=>
      have HN:=Z (show K=[]by
       rw[←HK.out,if_pos];have hs:Ak t s=true:=hq;rw[List.any_eq_true];refine⟨s,?_,hs⟩;rw[←hsk];have:k=0∨k=1∨k=2∨k=3:=Ab;rcases this with rfl|rfl|rfl|rfl<;>simp[setSigns])
      clear hq hno hsk;go_wp2;go_ret;exact⟨by rw[HN.out];rfl,gr2⟩
    | false=>
      have HN:=Z (show ∀j,j<k+1→Ak t (setSigns.getD j [])=false from fun j hj=>by
       by_cases e:j=k
       ·subst e;rw[hsk];exact hq
       ·exact hno.out j Ab)
      have HB2:=Z (Ac gr2 (Ac (HB.out.2.1.gb g2 Ae) (HB.out.2.2.gb g2 Ae)));clear hq hno hsk gr2 g2 HB;go_wp2;go_roundg gk
      case measure=>omega
      case rel=>exact⟨k+1,by omega,by go_num,HB2.out.1,HB2.out.2.1,HB2.out.2.2,HN⟩
theorem Ab2(w:World):Calls Tryz.prog 249 #[] w fun e w'=>e= .returned (exV (A1 2 1 []).h (.slice none 0 0) (.slice none 0 0))∧w.grownBy w' none:=by
 have hz:=Blk.new w zeroE 29;have gz:=World.grownBy_alloc w (.cells zeroE.toArray 29 (0,0)) none;go_enter func249,ntmps249;go_wp2_with fail;refine(Vo _ _).mono ?_;rintro e w1 ⟨rfl,g1⟩;have hz1:=hz.gb g1 Ae;have hlt:=hz1.lt;obtain⟨cz_0,cz_1,cz_2,cz_3,cz_4,cz_5,cz_6,cz_f⟩:=(hz1).c7;have HZ:=Z (Ac hz1 (Ah gz g1));clear hz gz g1 hz1;go_wp2;exact bodyPost_ret (AX (hd:=(A1 2 1 []).h) (pv:= .slice none 0 0) (lv:= .slice none 0 0) rfl _ (HZ.out.1.set7 _ _ _ _ _ _ _) rfl) rfl ⟨rfl,A5 HZ.out.2 (AD w1 w.heap.size _ _ _ _ _ _ _) (.inr (Nat.le_refl _))⟩
def EZ(l:List Tok)(E:Nat→Res Ex)(i:Nat):Res Fo:=if Rd.atEnd l i then .ok .nil i else(E i).bind fun x j=> .ok (.one x) j
theorem OB{E:Nat→Res Ex}(hE:CE 56 b tv wv l wordsL E)(h:Par w b tv wv l wordsL i)(ho:EZ l E i ≠ .out):
 Calls Tryz.prog 220 #[.pointer (some ⟨b,0,none⟩)] w (Post b tv wv l wordsL w (VL w.heap.size) (EZ l E i)):=by
 have hb:=h.lt;have HT:=Z (CI h);have H:=Z (Ac hE ho);generalize hR:EZ l E i=R at*;unfold EZ at hR;have HQ:=Z hR;clear hE ho hR;cases hk:(Af l i).kind==5 with
 | true=>
   replace HQ:=HQr HQ (by rw[if_pos (show Rd.atEnd l i=true from hk)]);have hk5:(Af l i).kind=5:=BE;clear hk;go_enter func220,ntmps220;have GA{P}(h:P:=by rw[AG,hk5];have HE:=Z (Ac g1 (h.gbN g1));clear g1;go_wp2;go_ret;exact Post.ok (AY HE.out.1) HQ.out.symm ⟨none,0,rfl,RepL.nil _ _⟩ HE.out.2):=Aa h;exact Gy
 | false=>
   replace HQ:=HQr HQ XB;have gr:=Aj w (some b);go_enter func220,ntmps220;have GA{P}(h:P:=by
   rw[AG];have hp1:=h.gbN g1;have hs1:=g1.size;replace gr:=A0 gr g1;clear g1 HT;go_wp2_with fail;refine(H.out.1 _ _ hp1 (fun e=>H.out.2 B8)).mono ?_;intro e w2 hq;obtain⟨g,⟨q,hr,rfl⟩| ⟨x,j,v,hr,rfl,⟨pa,pc,la,lc,rfl,rp,rl⟩,hp⟩⟩:=hq.split
   ·exact CV
   have BW{P}(h:P:=by have hs2:=g.size;have HE:=Z (Ac rp (Ac rl hp));clear g rp rl hp;go_wp2;go_ret;refine Post.ok (Ar gr _) HQ.out.symm ⟨_,_,rfl,?_⟩ (HE.out.2.2.alloc _);exact RepL.one (x:=x) rfl (by show w.heap.size≤w2.heap.size;omega) (HE.out.1.mono (fun q hq _=>by have:w1.heap.size≤q:=hq;show w.heap.size≤q;omega)) (HE.out.2.1.mono (fun q hq _=>by have:w1.heap.size≤q:=hq;show w.heap.size≤q;omega))):=Aa h;exact BV):=Aa h;exact Gy
def IH(l:List Tok)(n:Nat)(i:Nat):Res (List Bs):=if Ak (Af l i) [40]then(if Ak (Af l (i+1)) [41]then .ok [] (i+2)else(Eh l n (i+1)).bind fun p j=>(Br l [41] j).bind fun _ k=> .ok p k)else .ok [] i
theorem kG(h:Par w b tv wv l wordsL i)(hl:AF l)(n:Nat)(ho:IH l n i ≠ .out):
 Calls Tryz.prog 99 #[.pointer (some ⟨b,0,none⟩)] w (Post b tv wv l wordsL w (VS w.heap.size) (IH l n i)):=by
 have hb:=h.lt;have H:=Z (Ac hl ho);generalize hR:IH l n i=R at*;unfold IH at hR;have HQ:=Z hR;clear hl ho hR;have gr:=Aj w (some b);cases hs:Ak (Af l i) [40]with
 | false=>
   replace HQ:=HQr HQ Cx;go_enter func99,ntmps99;go_wp2_with fail;refine(B5 h _ hs).mono ?_;rintro e w1 ⟨rfl,g1⟩;have HE:=Z (Ac (A0 gr g1) (h.gbN g1));clear g1;exact TV
 | true=>
   replace HQ:=HQr HQ EI;cases hs2:Ak (Af l (i+1)) [41]with
   | true=>
     replace HQ:=HQr HQ (by rw[if_pos hs2]);go_enter func99,ntmps99;go_wp2_with fail;refine(BC h _ hs).mono ?_;rintro e w1 ⟨rfl,h1,g1⟩;go_wp2_with fail;refine(BC h1 _ hs2).mono ?_;rintro e w2 ⟨rfl,h2,g2⟩;have HE:=Z (Ac (Ah g1 g2) h2);clear g1 g2;exact TV
   | false=>
     replace HQ:=HQr HQ (by rw[if_neg (ne_true_of_eq_false hs2)]);go_enter func99,ntmps99;go_wp2_with fail;refine(BC h _ hs).mono ?_;rintro e w1 ⟨rfl,h1,g1⟩;have hs1:=g1.size;replace gr:=Ah gr g1;clear g1;go_wp2_with fail;refine(B5 h1 _ hs2).mono ?_;rintro e w2 ⟨rfl,g2⟩;have hp2:=h1.gbN g2;have hs2:=g2.size;replace gr:=A0 gr g2;clear g2;go_wp2_with fail;refine(VC hp2 H.out.1 n (fun e=>H.out.2 B8)).mono ?_;intro e w3 hq;obtain⟨g,⟨q,hr,rfl⟩| ⟨x,j,v,hr,rfl,⟨a,c,rfl,hC⟩,hp⟩⟩:=hq.split
     ·exact CV
     have BW{P}(h:P:=by
     have hs3:=g.size;have hp3:=hp;clear g hp;go_wp2_with fail;refine(Ec hp3 [41]).mono ?_;intro e w4 hq;obtain⟨g,⟨q,hr,rfl⟩| ⟨u,j2,v,hr,rfl,rfl,hp⟩⟩:=hq.split
     ·exact CV
     have BW{P}(h:P:=by have HE:=Z (Ac (hC.gb g (by intro q hq _ e;cases e;have:w2.heap.size≤b:=hq;omega)) hp);clear g hp hC;go_wp2;go_ret;exact Post.ok gr HQ.out.symm ⟨_,_,rfl,HE.out.1.mono (fun q hq _=>by have:w2.heap.size≤q:=hq;show w.heap.size≤q;omega)⟩ HE.out.2):=Aa h;exact BV):=Aa h;exact BV
end
end Go.Proofs.YtmcajbhljbbglaaGreatDoor
