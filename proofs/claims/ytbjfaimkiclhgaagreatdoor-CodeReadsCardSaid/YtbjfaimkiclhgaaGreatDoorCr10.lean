/-
  QsA QsB KsD KgA KsC PgN StE PgQ ProA StF StG Grow RlH RsF RsH Code: its lines, the program's: the walk.
-/
import Derived.Test.YtbjfaimkiclhgaaGreatDoorCr09
import Derived.Test.YtbjfaimkiclhgaaGreatDoorPlain
import Derived.Test.YtbjfaimkiclhgaaGreatDoorCr04
import Derived.Test.YtbjfaimkiclhgaaGreatDoorCr03
import Derived.Test.YtbjfaimkiclhgaaGreatDoorCr02
import Derived.Test.YtbjfaimkiclhgaaGreatDoorCr05
import Derived.Test.YtbjfaimkiclhgaaGreatDoorCr08
import Derived.Shelf.Spec.SlicesGrow
import Derived.Test.YtbjfaimkiclhgaaGreatDoorCr06
import Derived.Test.YtbjfaimkiclhgaaGreatDoorCr07
set_option linter.all false
set_option maxRecDepth 100000
set_option maxHeartbeats 8000000
namespace Go.Proofs.YtbjfaimkiclhgaaGreatDoor
open Go.Proofs.Tryz
open Go.RowKit
variable{w wr w1 w0 W1:World}{s:Bs}{H k i m b j cap n B pc lc c d:Nat}{wv tv c4 pv xv bv v:Value}{L W p wl:List Bs}{ok okx:Nat->Prop}{l:List Tok}{α β:Type}{o:Int}{t:Nat->Bool}{f:Fo}{g:Bl}{cs z:List Value}{x:Ex}{pa la:Option Addr}{st:RS}{r:Option Nat}
def CapR.same(h:CapR w s H k wr)(e:Lib.upperB (bAt s k)=bAt s k):CapR w s H (k+1) wr:=by
 refine⟨λj hj=>?_,h.fr,h.lt,h.g⟩;rw[h.cell j hj];have:E0 s (k+1) j=E0 s k j:=by
  unfold E0;by_cases e1:j=k
  ·subst e1;rw[if_pos (by omega),if_neg (by omega),e]
  ·by_cases e2:j<k
   ·rw[if_pos (by omega),if_pos e2]
   ·rw[if_neg (by omega),if_neg e2]
 rw[this]
def Qx(s:Bs)(hs:s.length<=1000000)(w:World):Calls Tryz.prog 221 #[str s] w (ρ w (str (Lib.toUpperA s))):=by
 have hconv:=run_bytes_of_string (P:=Tryz.prog) w 9 84 5 ⟨s.toArray⟩ underlying9 underlying84 underlying5;have hsz:(⟨s.toArray⟩:ByteArray).size=s.length:=by simp[ByteArray.size]
 rw[hsz]at hconv;generalize hcap:grownCap w s.length 0 5=cap at*;have h0:CapR w s w.heap.size 0 (w.drew.alloc (.cells (bytesRow ⟨s.toArray⟩ cap) 5 ((bytesRow ⟨s.toArray⟩ cap).size,(bytesRow ⟨s.toArray⟩ cap).size+1))):=by
  refine⟨λj hj=>?_,λj hj=>?_,by simp,Ac (Ad (Aa _ _)) _⟩
  ·show(w.drew.alloc _).cell? ⟨w.drew.heap.size,j,none⟩=_;rw[World.cell?_alloc_mark,bytesRow_at _ _ _ (by simpa using hj)];simp[E0,B0 hj]
  ·show(w.drew.alloc _).frozen? ⟨w.drew.heap.size,j,none⟩=_;rw[World.frozen?_alloc_mark];have:s.length<=(bytesRow ⟨s.toArray⟩ cap).size:=by simp[bytesRow]
   simp;omega
 have H0:=S h0;clear h0 hsz hcap;generalize(w.drew.alloc (.cells (bytesRow ⟨s.toArray⟩ cap) 5 ((bytesRow ⟨s.toArray⟩ cap).size,(bytesRow ⟨s.toArray⟩ cap).size+1)))=W at*;go_enter func221,ntmps221;go_wp2_with fail;go_loopg [10] s.length (λg v10 wr=>∃k:Nat,k+g=s.length/\v10= .int .i64 k/\CapR w s w.heap.size k wr)
 case atStart=>exact⟨0,by omega,rfl,H0.1⟩
 case round=>
  obtain⟨k,hk,rfl,hr⟩:=hrel;clear H0 hconv;cases gk with
  | zero=>
    have hkl:k=s.length:=by omega
    have hj1:decide (k<s.length)=false:=by simp;omega
    have hback:=run_convert_bytes_back (P:=Tryz.prog) wr 84 9 5 ⟨w.heap.size,0,none⟩ cap (Lib.toUpperA s) underlying84 underlying5 underlying9 (by
     intro j hj;have hj':j<s.length:=by rwa[KT]at hj
     have e:(⟨w.heap.size,0,none⟩:Addr).add j=⟨w.heap.size,j,none⟩:=by unfold Addr.add;split<;>simp_all
     rw[e,hr.cell j hj',VO];simp[E0,hkl,hj'])
    rw[KT]at hback;have HG:=S hr.g;clear hr;go_wp2;go_ret;exact⟨rfl,HG.1⟩
  | succ gk=>
    have hkl:k<s.length:=by omega
    have hj1:decide (k<s.length)=true:=by simp;omega
    have ck:=hr.cell k hkl;have fk:=hr.fr k hkl;have hlt:=hr.lt;have i0:(0:Int)<=(k:Int):=by omega
    have i1:(k:Int)<(s.length:Int):=by omega
    have ek:E0 s k k=bAt s k:=by simp[E0]
    rw[ek]at ck;by_cases h:97<=(bAt s k).toNat/\(bAt s k).toNat<=122
    ·have e : ((Lib.upperB (bAt s k)).toNat : Int) = ((bAt s k).toNat : Int) - 32 := by
      have h0:Lib.isLowerB (bAt s k)=true:=by simp[Lib.isLowerB,UInt8.le_iff_toNat_le];omega
      unfold Lib.upperB;rw[if_pos h0,UInt8.toNat_sub_of_le _ _ (by simp[UInt8.le_iff_toNat_le];omega)];simp;omega
     have hR0:=hr.step (nR _) hkl;rw[e]at hR0;have HR:=S hR0;clear hr ek hR0 e;obtain⟨h1,h2⟩:=h;go_wp2;go_roundg gk
     case measure=>omega
     case rel=>exact⟨k+1,by omega,by go_num,HR.1⟩
    ·have e : Lib.upperB (bAt s k) = bAt s k := by
      have h0:Lib.isLowerB (bAt s k)=false:=by
       simp[Lib.isLowerB,UInt8.le_iff_toNat_le];omega
      unfold Lib.upperB;rw[if_neg (by rw[h0];simp)]
     have HR:=S (hr.same e);have hc:(bAt s k).toNat<97\/122<(bAt s k).toNat:=by omega
     clear h e hr ek;rcases hc with h|h
     all_goals
      go_wp2;go_roundg gk
      case measure=>omega
      case rel=>exact⟨k+1,by omega,by go_num,HR.1⟩
def UD(c s:Bs)(hk:w.cell? ⟨k,0,none⟩=some (str s)):
 Calls Tryz.prog 222 #[str c,.pointer (some ⟨k,0,none⟩)] w λe w'=>e= .returned (.bool (decide (4<=s.length)&&s.isPrefixOf c))/\w'=w:=by
 have HP:=S (strings_HasPrefix ⟨c.toArray⟩ ⟨s.toArray⟩ w);by_cases h4:4<=s.length
 ·have h41:decide ((4:Int)<=(s.length:Int))=true:=by simp;omega
  have h42:decide (4<=s.length)=true:=by simpa using h4
  rw[h42];go_enter func222,ntmps222;go_wp2_with fail;refine HP.1.mono ?_;rintro e w1 ⟨rfl,rfl⟩;go_wp2;go_ret;exact⟨by simp[Lib.hasPrefix],rfl⟩
 ·have h41:decide ((4:Int)<=(s.length:Int))=false:=by simp;omega
  have h42:decide (4<=s.length)=false:=by simpa using h4
  rw[h42];go_enter func222,ntmps222;go_wp2;go_ret;exact⟨rfl,rfl⟩
def FP(p:Bs->Bool)(L:List Bs):Int:=match L.findIdx? p with|some i=>i|none=>-1
def QR(h:SRow w wv L ok)(s:Bs)(hk:w.cell? ⟨k,0,none⟩=some (str s)):
 Calls Tryz.prog 112 #[wv,.func (.func 222) #[] #[.pointer (some ⟨k,0,none⟩)]] w λe w'=>e= .returned (.int .i64 (FP (λc=>decide (4<=s.length)&&s.isPrefixOf c) L))/\w'=w:=by
 obtain⟨a,cap,rfl,hle,hmx,hat⟩:=h;have HA:=S hat;have hmax:L.length<=maxLen:=by omega
 unfold maxLen at hmax;have HF:=S (λc=>UD c s hk);have eg:∀args w,(callFunc 222 args).run Tryz.prog w= .ok (.enter 222 args) w:=λ_ _=>by kernel_rfl
 clear hat hle hmx hk;generalize hT:FP (λc=>decide (4<=s.length)&&s.isPrefixOf c) L=T;go_enter func112,ntmps112;go_wp2_with fail;go_loopg [8] L.length (λg v8 wr=>∃i:Nat,i+g=L.length/\v8= .int .i64 i/\wr=w/\Hid (∀j,j<i->(decide (4<=s.length)&&s.isPrefixOf (L.getD j []))=false))
 case atStart=>exact⟨0,by omega,rfl,rfl,S (λj hj=>absurd hj (Nat.not_lt_zero j))⟩
 case round=>
  obtain⟨i,hg,rfl,rfl,hno⟩:=hrel;by_cases hi:i<L.length
  ·have hi1:decide (i<L.length)=true:=by simpa using hi
   obtain⟨lb,lo,rfl,_,c0⟩:=HA.1 i hi;have i0:(0:Int)<=(i:Int):=by omega
   have i2:(i:Int)<(L.length:Int):=by omega
   cases hp:(decide (4<=s.length)&&s.isPrefixOf (L.getD i []))with
   | true=>
     have HN:=S (show T=i by
      rw[<-hT];unfold FP;have e:L.findIdx? (λc=>decide (4<=s.length)&&s.isPrefixOf c)=some i:=by
       rw[List.findIdx?_eq_some_iff_getElem];refine⟨hi,?_,λj hj=>?_⟩
       ·have:L.getD i []=L[i]:=by simp[List.getD_eq_getElem?_getD,List.getElem?_eq_getElem hi]
        rw[<-this];exact hp
       ·have hj':j<L.length:=by omega
        have:L.getD j []=L[j]:=by simp[List.getD_eq_getElem?_getD,List.getElem?_eq_getElem hj']
        have h0:=hno.out j hj;rw[this]at h0;simp only[h0];decide
      rw[e])
     have hC:=HF.1 (L.getD i []);rw[hp]at hC;have HC:=S (show Calls Tryz.prog 222 (#[str (L.getD i [])]++#[.pointer (some ⟨k,0,none⟩)]) wr _ from hC);clear hp hno hC HF;generalize L.getD i []=c at*;go_wp2_with (go_at_fn 222;refine HC.1.mono ?_;rintro e w' ⟨rfl,rfl⟩);go_ret;exact⟨by rw[HN.1];rfl,rfl⟩
   | false=>
     have hC:=HF.1 (L.getD i []);rw[hp]at hC;have HC:=S (show Calls Tryz.prog 222 (#[str (L.getD i [])]++#[.pointer (some ⟨k,0,none⟩)]) wr _ from hC);have HN:=S (show ∀j,j<i+1->(decide (4<=s.length)&&s.isPrefixOf (L.getD j []))=false from λj hj=>by
      by_cases e:j=i
      ·subst e;exact hp
      ·exact hno.out j (by omega))
     clear hp hno hC HF;generalize L.getD i []=c at*;go_wp2_with (go_at_fn 222;refine HC.1.mono ?_;rintro e w' ⟨rfl,rfl⟩);go_roundg (L.length-(i+1))
     case measure=>omega
     case rel=>exact⟨i+1,by omega,by go_num,rfl,HN⟩
  ·have hi1:decide (i<L.length)=false:=by simpa using hi
   have HN:=S (show T= -1 by
    rw[<-hT];unfold FP;have e:L.findIdx? (λc=>decide (4<=s.length)&&s.isPrefixOf c)=none:=by
     rw[List.findIdx?_eq_none_iff];intro x hx;obtain⟨j,hj,rfl⟩:=List.getElem_of_mem hx;have:L.getD j []=L[j]:=by simp[List.getD_eq_getElem?_getD,List.getElem?_eq_getElem hj]
     rw[<-this];exact hno.out j (by omega)
    rw[e])
   clear hno;go_wp2;go_ret;exact⟨by rw[HN.1];rfl,rfl⟩
def Mi(L:List Bs)(s:Bs):Lib.containsS (L.map λx=>⟨x.toArray⟩) ⟨s.toArray⟩=L.contains s:=by
 rw[Bool.eq_iff_iff,Lib.containsS_iff,List.contains_iff_mem,List.mem_map];constructor
 ·rintro⟨x,hx,e⟩;have e2:x=s:=by simpa using congrArg (λb:ByteArray=>b.data.toList) e
  subst e2;exact hx
 ·exactλh=>⟨s,h,rfl⟩
def RB(h:SRow w wv L ok)(s:Bs)(hs:s.length<=4000)(hu:Lib.toUpperA s=s)(hp0:0<L.length):
 Calls Tryz.prog 177 #[str s,wv] w (WF w L s):=by
 have HS:=S (fun(W:World)(g:w.grownBy W none)=>h.gb g (by simp));obtain⟨a,cap,rfl,hle,hmx,hat⟩:=h;obtain⟨lb,lo,rfl,_,_⟩:=hat 0 hp0;have HA:=S (show ∀j,j<L.length->w.cell? ⟨lb,lo+j,none⟩=some (str (L.getD j []))from λj hj=>by
  obtain⟨lb',lo',e,_,c⟩:=hat j hj;cases e;exact c)
 have hmax:L.length<=maxLen:=by omega
 unfold maxLen at hmax;have HC:=S (fun(W:World)=>Qx s (by omega) W);rw[hu]at HC;have HB:=S (fun(W:World)(g:w.grownBy W none)=>slices_Contains_string lb lo L.length cap (L.map λx=>⟨x.toArray⟩) ⟨s.toArray⟩ W (by simp) (by omega) (by
  intro j hj;simp at hj;have:=Ae g (HA.1 j hj);rw[this];simp[List.getD,hj]))
 have hmf:∀(fn:Fn)(first cap:Array Value)(w:World),(Instr.makeFunc fn first cap).run Tryz.prog w= .ok (.func fn first cap) w:=λ_ _ _ _=>rfl;clear hat hle hmx hu;have g0:=gZ w (.cells #[str s] 9 (0,0)) none;have hb0:=Blk.new w [str s] 9;go_enter func177,ntmps177;go_wp2_with fail;refine mR (HC.1 _) λw1 g1=>?_;have hb1:=hb0.gb g1 (by simp);have k1:=hb1.cell' 0 rfl;have f1:=hb1.frozen 0;have gs:=Ai (Aa w1 (some w.heap.size)) 0 (str s);have hb2:=hb1.set 0 (str s);have k2:=hb2.cell' 0 rfl;have G2:=S (Aq (Z g0 g1) gs (.inr (nR _)));clear hb0 g0 g1 hb1 gs hb2;go_wp2_with fail;refine(HB.1 _ G2.1).mono ?_;rintro e w2 ⟨rfl,rfl⟩;rw[List.take_of_length_le (by simp),Mi];cases hcc:L.contains s with
 | true=>
   have HF:=S (show ET L s=s by unfold ET;rw[hcc,if_pos rfl]);clear hcc;go_wp2;exact bZ (v:= .tuple #[str s,.bool true]) (by simp[results,results177,go_sem]) rfl ⟨⟨true,by rw[HF.1],λh=>by cases h⟩,G2.1⟩
 | false=>
   have HF:=S (show ET L s=if 4<=s.length then(L.find? λw=>s.isPrefixOf w).getD []else []by unfold ET;rw[hcc,if_neg (by simp)]);have HI:=S (QR (HS.1 _ G2.1) s k2);clear hcc;go_wp2_with fail;refine HI.1.mono ?_;rintro e w3 ⟨rfl,rfl⟩;cases hf:L.findIdx? (λc=>decide (4<=s.length)&&s.isPrefixOf c)with
   | none=>
     have e1:FP (λc=>decide (4<=s.length)&&s.isPrefixOf c) L= -1:=by unfold FP;rw[hf]
     have HN:=S (show ET L s=[]by
      rw[HF.1];by_cases h4:4<=s.length
      ·rw[if_pos h4];rw[List.findIdx?_eq_none_iff]at hf;have:L.find? (λw=>s.isPrefixOf w)=none:=by
        rw[List.find?_eq_none];intro x hx;have:=hf x hx;simp[h4]at this;simp[this]
       rw[this];rfl
      ·rw[if_neg h4])
     rw[e1];clear hf e1;go_wp2;exact bZ (v:= .tuple #[str [],.bool false]) (by simp[results,results177,go_sem]) rfl ⟨⟨false,by rw[HN.1],λ_=>HN.1⟩,G2.1⟩
   | some i=>
     have e1:FP (λc=>decide (4<=s.length)&&s.isPrefixOf c) L=i:=by unfold FP;rw[hf]
     rw[List.findIdx?_eq_some_iff_getElem]at hf;obtain⟨hi,hp,hbef⟩:=hf;simp only[Bool.and_eq_true,decide_eq_true_eq]at hp;have HN:=S (show ET L s=L.getD i []by
      rw[HF.1,if_pos hp.1];have:L.find? (λw=>s.isPrefixOf w)=some L[i]:=by
       rw[List.find?_eq_some_iff_getElem];refine⟨hp.2,i,hi,rfl,λj hj=>?_⟩;have:=hbef j hj;simp only[hp.1,decide_true,Bool.true_and]at this;simp only[Bool.not_eq_true]at this;rw[this];rfl
      rw[this,List.getD_eq_getElem?_getD,List.getElem?_eq_getElem hi])
     have ci:=Ae G2.1 (HA.1 i hi);have i0:(0:Int)<=(i:Int):=by omega
     have i2:(i:Int)<(L.length:Int):=by omega
     have i3:decide ((i:Int)<0)=false:=by simp
     rw[e1];clear hbef e1;generalize L.getD i []=c at*;go_wp2;exact bZ (v:= .tuple #[str c,.bool true]) (by simp[results,results177,go_sem]) rfl ⟨⟨true,by rw[HN.1],λh=>by cases h⟩,G2.1⟩
namespace Rd
variable {q:α->Rd l β}
def bind_f{p:Rd l α}:(p.bind q).f i=(p.f i).bind λx j=>(q x).f j:=rfl
def pure_f(a:α)(i:Nat):(pure a:Rd l α).f i= .ok a i:=rfl
def bad_f(a:α)(i:Nat):(bad a:Rd l α).f i= .bad i:=rfl
def skip_f{q:Unit->Rd l β}:(skip.bind q).f i=(q ()).f (i+1):=rfl
def fin_f{q:Unit->Rd l β}:(fin.bind q).f i=(B3 l i).bind λ_ j=>(q ()).f j:=rfl
def want_f{q:Unit->Rd l β}(s:Bs):((want s).bind q).f i=(AW l s i).bind λ_ j=>(q ()).f j:=rfl
def name_f(hn:Al l){q:Bs->Rd l β}:((name hn).bind q).f i=(AD l i).bind λs j=>(q s).f j:=rfl
def name_f0(hn:Al l):(name hn).f i=AD l i:=rfl
def ifs_f(s:Bs)(p q:Rd l α):(ifs s p q).f i=if Ah (Ab l i) s then p.f (i+1)else q.f i:=rfl
def ifw_f(W:List Bs)(s:Bs)(p q:Rd l α):(ifw W s p q).f i=if As l W i==s then p.f (i+1)else q.f i:=rfl
def here_f(W:List Bs){q:Bs->Rd l β}:((here W).bind q).f i=(q (As l W i)).f i:=rfl
def cond_f(c:Nat->Bool)(p q:Rd l α):(cond c p q).f i=if c i then p.f i else q.f i:=rfl
def condW_f(c:Nat->Bool)(p q:Rd l α):(condW c p q).f i=if c i then p.f i else q.f i:=rfl
def condN_f(c:Nat->Bool)(p q:Rd l α):(In c p q).f i=if c i then p.f i else q.f i:=rfl
def moreW_f{step:β->Rd l β}{a:β}:(moreW W s step (m+1) a).f i=if As l W i==s then((step a).bind (moreW W s step m)).f (i+1)else .ok a i:=rfl
def moreS_f{step:β->Rd l β}{a:β}:(moreS s step (m+1) a).f i=if Ah (Ab l i) s then((step a).bind (moreS s step m)).f (i+1)else .ok a i:=rfl
end Rd
def GN(l:List Tok)(W:List Bs)(s:Bs)(i:Nat):Res Unit:=if As l W i==s then .ok () (i+1)else .bad i
def Rd.must_f{q:Unit->Rd l β}(W:List Bs)(s:Bs):((must W s).bind q).f i=(GN l W s i).bind λ_ j=>(q ()).f j:=rfl
def LC(s:Bs):IR s=endWords.contains s:=by
 unfold IR;rw[Mi];rfl
def Fl(h:Par w b tv wv l wordsL i)(hok:∀i,At (Ab l i))(j:Nat):
 Calls Tryz.prog 276 #[.pointer (some ⟨b,0,none⟩),AR (Ab l j)] w (ρ w (str (As l wordsL j))):=by
 have hO:=hok j;unfold As;generalize Ab l j=t at*;by_cases hk:t.kind=0
 ·have hk':(t.kind==0)=true:=by simpa using hk
  have HU:=S (fun(W:World)(wv:Value)(ok:Nat->Prop)(hS:SRow W wv wordsL ok)=>RB hS t.text hO.short (Yn (hO.word hk).2) (by decide));rw[hk',if_pos rfl,AR,hk];have hp:=h.alloc (.cells #[.int .i64 0,.int .i64 t.pos,str t.text] 250 (0,0));have hT:=Blk.new w [.int .i64 0,.int .i64 t.pos,str t.text] 250;have t0:=hT.cell' 0 rfl;have t2:=hT.cell' 2 rfl;have tl:=hT.lt;have hb:=hp.lt;have c2:=hp.c2;have HS:=S hp.words;have gA:=S (gZ w (.cells #[.int .i64 0,.int .i64 t.pos,str t.text] 250 (0,0)) none);clear hO hk' hp hT h hok;generalize hwl:wordsL=L at*;clear hwl;go_enter func276,ntmps276;go_wp2_with fail;go_region_with(go_at_call 177;refine(HU.1 _ _ _ (HS.1.gb (Ad (Aa _ none)) (by simp))).mono ?_;rintro e w6 ⟨⟨f,rfl,hf⟩,g6⟩;(have HF:=S hf);clear hf);all_goals
   have HE:=S (Z (Ad gA.1) g6);clear g6;go_wp2;go_ret;exact⟨rfl,HE.1⟩
 ·have hk':(t.kind==0)=false:=by simpa using hk
  have hk1:(t.kind !=0)=true:=by simp[hk]
  have hT:=Blk.new w [.int .i64 t.kind,.int .i64 t.pos,str t.text] 250;have t0:=hT.cell' 0 rfl;have tl:=hT.lt;have gA:=S (gZ w (.cells #[.int .i64 t.kind,.int .i64 t.pos,str t.text] 250 (0,0)) none);rw[hk',if_neg (by simp),AR];clear hO hT h hok hk';go_enter func276,ntmps276;go_wp2;go_ret;exact⟨rfl,gA.1⟩
def UE(h:As l W i=s)(hs:s≠[]):i<l.length:=by
 apply Fu;intro e;apply hs;rw[<-h];unfold As;rw[e];rfl
def Dj(h:Par w b tv wv l wordsL i)(hok:∀i,At (Ab l i))(s:Bs)(hs:s≠[])(hw:(As l wordsL i==s)=true):
 Calls Tryz.prog 245 #[.pointer (some ⟨b,0,none⟩),str s] w λe w'=>e= .returned (.bool true)/\Par w' b tv wv l wordsL (i+1)/\w.grownBy w' (some b):=by
 have hw':As l wordsL i=s:=by simpa using hw
 have hi:=UE hw' hs;have HK:=S hw';have hf:=h.few;have hb:(s !=s)=false:=by simp
 have HF:=S (fun(W:World)(g:w.grownBy W none)=>Fl (h.gbN g) hok i);clear hw hw';go_enter func245,ntmps245;go_wp2_with fail;refine mR (Bj h) λw1 g1=>?_;go_wp2_with fail;refine mR (HF.1 _ g1) λw2 g2=>?_;rw[HK.1];have h2:=(h.gbN g1).gbN g2;have c1:=h2.c1;have f1:=h2.f1;go_wp2;go_ret;exact⟨rfl,h2.goI _ _ (by omega) (by omega),(by repeat(first| (with_reducible exact Ao (by assumption))| ((with_reducible refine Af ?_ _ _ ?h2);case h2=>exact .inl rfl)| (with_reducible refine Ag ?_ (by assumption))))⟩
def Dh(h:Par w b tv wv l wordsL i)(hok:∀i,At (Ab l i))(s:Bs)(hw:(As l wordsL i==s)=false):
 Calls Tryz.prog 245 #[.pointer (some ⟨b,0,none⟩),str s] w (ρ w (.bool false)):=by
 have hb:(As l wordsL i !=s)=true:=by simp[bne,hw]
 have HF:=S (fun(W:World)(g:w.grownBy W none)=>Fl (h.gbN g) hok i);go_enter func245,ntmps245;go_wp2_with fail;refine mR (Bj h) λw1 g1=>?_;go_wp2_with fail;refine mR (HF.1 _ g1) λw2 g2=>?_;go_wp2;go_ret;exact⟨rfl,Z g1 g2⟩
def BK(h:Par w b tv wv l wordsL i)(hok:∀i,At (Ab l i))(s:Bs)(hs:s≠[]):
 Calls Tryz.prog 246 #[.pointer (some ⟨b,0,none⟩),str s] w (Post b tv wv l wordsL w (λ_ v _=>v= .tuple #[]) (GN l wordsL s i)):=by
 unfold GN;cases hw:As l wordsL i==s with
 | true=>
   rw[if_pos rfl];have HW:=S (Dj h hok s hs hw);clear hw;go_enter func246,ntmps246;go_wp2_with fail;refine HW.1.mono ?_;rintro e w1 ⟨rfl,h1,g1⟩;go_wp2;go_end0;exact⟨g1,_,rfl,rfl,h1⟩
 | false=>
   rw[if_neg (by simp)];have HW:=S (Dh h hok s hw);clear hw;go_enter func246,ntmps246;go_wp2_with fail;refine mR HW.1 λw1 g1=>?_;have c1:=(h.gbN g1).c1;go_wp2_with fail;refine(DV c1).mono ?_;rintro e w2 ⟨rfl,rfl⟩;exact⟨rfl,Ao g1,rfl⟩
abbrev setSigns:List Bs:=[[61],[58,61],[91],[45,62]]
def R8(l:List Tok)(W:List Bs)(i:Nat):Bp l W i=if setSigns.any (λs=>Ah (Ab l (i+1)) s)then []else As l W i:=by
 unfold Bp setSigns;simp only[List.any_cons,List.any_nil,Bool.or_false,Bool.or_assoc]
def FV(h:Par w b tv wv l wordsL i)(hok:∀i,At (Ab l i)):
 Calls Tryz.prog 274 #[.pointer (some ⟨b,0,none⟩)] w (ρ w (str (Bp l wordsL i))):=by
 have HF:=S (fun(W:World)(g:w.grownBy W none)=>Fl (h.gbN g) hok i);have HA:=S (fun(W:World)(g:w.grownBy W none)=>Bj (h.gbN g));rw[R8];generalize hK:(if setSigns.any (λs=>Ah (Ab l (i+1)) s)then []else As l wordsL i)=K;have HK:=S hK;clear hK;go_enter func274,ntmps274;go_wp2_with fail;refine mR (Ig h) λw1 g=>?_;generalize htk:Ab l (i+1)=t at*;have hTk:=(Blk.new w1 [.int .i64 t.kind,.int .i64 t.pos,str t.text] 250).alloc (.cells (setSigns.map str).toArray 9 (0,0));have hSg:Blk ((w1.alloc (.cells #[.int .i64 t.kind,.int .i64 t.pos,str t.text] 250 (0,0))).alloc (.cells (setSigns.map str).toArray 9 (0,0))) (w1.heap.size+1) (setSigns.map str) 9:=(Blk.new (w1.alloc (.cells #[.int .i64 t.kind,.int .i64 t.pos,str t.text] 250 (0,0))) (setSigns.map str) 9).of_eq (by simp) rfl;have gA:=Ac (Ac g (.cells #[.int .i64 t.kind,.int .i64 t.pos,str t.text] 250 (0,0))) (.cells (setSigns.map str).toArray 9 (0,0));have HT:=S (X hTk (X hSg gA));clear hTk hSg gA g htk;go_wp2_with fail;go_loopg [10] 4 (λg v10 wr=>∃k:Nat,k+g=4/\v10= .int .i64 k/\w.grownBy wr none/\Blk wr w1.heap.size [.int .i64 t.kind,.int .i64 t.pos,str t.text] 250/\Blk wr (w1.heap.size+1) (setSigns.map str) 9/\Hid (∀j,j<k->Ah t (setSigns.getD j [])=false))
 case atStart=>exact⟨0,by omega,rfl,HT.1.2.2,HT.1.1,HT.1.2.1,S (λj hj=>absurd hj (Nat.not_lt_zero j))⟩
 case round=>
  obtain⟨k,hk,rfl,hgr,hTk,hSg,hno⟩:=hrel;clear HT;cases gk with
  | zero=>
    have hk4:k=4:=by omega
    subst hk4;have HN:=S (show K=As l wordsL i by
     rw[<-HK.1,if_neg];simp only[setSigns,List.any_cons,List.any_nil,Bool.or_false];rw[show Ah t [61]=false from hno.out 0 (by omega),show Ah t [58,61]=false from hno.out 1 (by omega),show Ah t [91]=false from hno.out 2 (by omega),show Ah t [45,62]=false from hno.out 3 (by omega)];simp)
    clear hno hTk hSg;go_wp2_with fail;refine mR (HA.1 _ hgr) λw2 g2=>?_;have gr2:=Z hgr g2;clear hgr g2;go_wp2_with fail;refine mR (HF.1 _ gr2) λw3 g3=>?_;have gr3:=Z gr2 g3;clear gr2 g3;go_wp2;go_ret;exact⟨by rw[HN.1];rfl,gr3⟩
  | succ gk=>
    have hk4:k<4:=by omega
    have hj1:decide (k<4)=true:=by simpa using hk4
    have i0:(0:Int)<=(k:Int):=by omega
    have i2:(k:Int)<4:=by omega
    have ck:wr.cell? ⟨w1.heap.size+1,k,none⟩=some (str (setSigns.getD k [])):=hSg.cell' k (by
     have:k=0\/k=1\/k=2\/k=3:=by omega
     rcases this with rfl|rfl|rfl|rfl<;>rfl)
    have t0:=hTk.cell' 0 rfl;have t1:=hTk.cell' 1 rfl;have t2:=hTk.cell' 2 rfl;have tl:=hTk.lt;have sl:=hSg.lt;have HB:=S (X hgr (X hTk hSg));generalize hsk:setSigns.getD k []=s at*;clear hgr hTk hSg;go_wp2_with fail;refine mR (Fg _ _ _ s _) λw2 g2=>?_;have gr2:=Z HB.1.1 g2;cases hq:t.kind==4&&t.text==s with
    | true=>
      have HN:=S (show K=[]by
       rw[<-HK.1,if_pos];have hs:Ah t s=true:=hq;rw[List.any_eq_true];refine⟨s,?_,hs⟩;rw[<-hsk];have:k=0\/k=1\/k=2\/k=3:=by omega
       rcases this with rfl|rfl|rfl|rfl<;>simp[setSigns])
      clear hq hno hsk;go_wp2;go_ret;exact⟨by rw[HN.1];rfl,gr2⟩
    | false=>
      have HN:=S (show ∀j,j<k+1->Ah t (setSigns.getD j [])=false from λj hj=>by
       by_cases e:j=k
       ·subst e;rw[hsk];exact hq
       ·exact hno.out j (by omega))
      have HB2:=S (X gr2 (X (HB.1.2.1.gb g2 (by simp)) (HB.1.2.2.gb g2 (by simp))));clear hq hno hsk gr2 g2 HB;go_wp2;go_roundg gk
      case measure=>omega
      case rel=>exact⟨k+1,by omega,by go_num,HB2.1.1,HB2.1.2.1,HB2.1.2.2,HN⟩
def Ys(w:World):Calls Tryz.prog 348 #[] w (ρ w (exV (A7 2 1 []).h (.slice none 0 0) (.slice none 0 0))):=by
 have hz:=Blk.new w zeroE 163;have gz:=gZ w (.cells zeroE.toArray 163 (0,0)) none;go_enter func348,ntmps348;go_wp2_with fail;refine mR (M8 _ _) λw1 g1=>?_;have hz1:=hz.gb g1 (by simp);have hlt:=hz1.lt;have cz_:=hz1.c7;have HZ:=S (X hz1 (Z gz g1));clear hz gz g1 hz1;go_wp2;exact bZ (AK (hd:=(A7 2 1 []).h) (pv:= .slice none 0 0) (lv:= .slice none 0 0) rfl _ (HZ.1.1.set7 _ _ _ _ _ _ _) rfl) rfl ⟨rfl,Aq HZ.1.2 (A2 w1 w.heap.size _ _ _ _ _ _ _) (.inr (nR _))⟩
def D2(l:List Tok)(E:Nat->Res Ex)(i:Nat):Res Fo:=if Rd.atEnd l i then .ok .nil i else(E i).bind λx j=> .ok (.one x) j
def FQ{E:Nat->Res Ex}(hE:CE 208 b tv wv l wordsL E)(h:Par w b tv wv l wordsL i)(ho:D2 l E i ≠ .out):
 Calls Tryz.prog 327 #[.pointer (some ⟨b,0,none⟩)] w (Post b tv wv l wordsL w (VL w.heap.size) (D2 l E i)):=by
 have hb:=h.lt;have HT:=S (Bj h);have H:=S (X hE ho);generalize hR:D2 l E i=R at*;unfold D2 at hR;have HQ:=S hR;clear hE ho hR;cases hk:(Ab l i).kind==5 with
 | true=>
   rw[if_pos (show Rd.atEnd l i=true from hk)]at HQ;have hk5:(Ab l i).kind=5:=by simpa using hk
   clear hk;go_enter func327,ntmps327;go_wp2_with fail;refine mR HT.1 λw1 g1=>?_;rw[AR,hk5];have HE:=S (X g1 (h.gbN g1));clear g1;go_wp2;go_ret;exact Post.ok (Ao HE.1.1) HQ.1.symm ⟨none,0,rfl,RepL.nil _ _⟩ HE.1.2
 | false=>
   rw[if_neg (nF (show Rd.atEnd l i=false from hk))]at HQ;have gr:=Aa w (some b);go_enter func327,ntmps327;go_wp2_with fail;refine mR HT.1 λw1 g1=>?_;rw[AR];have hp1:=h.gbN g1;have hs1:=g1.size;replace gr:=Ag gr g1;clear g1 HT;go_wp2_with fail;refine(H.1.1 _ _ hp1 (λe=>H.1.2 (by rw[<-HQ.1,e];rfl))).mono ?_;intro e w2 hq;obtain⟨g,⟨q,hr,rfl⟩| ⟨x,j,v,hr,rfl,⟨pa,pc,la,lc,rfl,rp,rl⟩,hp⟩⟩:=hq.split
   ·exact PBd gr g HQ hr
   replace gr:=Z gr g;replace HQ:=HQo HQ hr;clear hr;have hs2:=g.size;have HE:=S (X rp (X rl hp));clear g rp rl hp;go_wp2;go_ret;refine Post.ok (Ac gr _) HQ.1.symm ⟨_,_,rfl,?_⟩ (HE.1.2.2.alloc _);exact RepL.one (x:=x) rfl (by show w.heap.size<=w2.heap.size;omega) (HE.1.1.mono (λq hq _=>by have:w1.heap.size<=q:=hq;show w.heap.size<=q;omega)) (HE.1.2.1.mono (λq hq _=>by have:w1.heap.size<=q:=hq;show w.heap.size<=q;omega))
def Gh(l:List Tok)(n:Nat)(i:Nat):Res (List Bs):=if Ah (Ab l i) [40]then(if Ah (Ab l (i+1)) [41]then .ok [] (i+2)else(CG l n (i+1)).bind λp j=>(AW l [41] j).bind λ_ k=> .ok p k)else .ok [] i
def ME(h:Par w b tv wv l wordsL i)(hl:A0 l)(n:Nat)(ho:Gh l n i ≠ .out):
 Calls Tryz.prog 248 #[.pointer (some ⟨b,0,none⟩)] w (Post b tv wv l wordsL w (VS w.heap.size) (Gh l n i)):=by
 have hb:=h.lt;have H:=S (X hl ho);generalize hR:Gh l n i=R at*;unfold Gh at hR;have HQ:=S hR;clear hl ho hR;have gr:=Aa w (some b);cases hs:Ah (Ab l i) [40]with
 | false=>
   rw[if_neg (nF hs)]at HQ;go_enter func248,ntmps248;go_wp2_with fail;refine mR (Bb h _ hs) λw1 g1=>?_;have HE:=S (X (Ag gr g1) (h.gbN g1));clear g1;go_wp2;go_ret;exact Post.ok HE.1.1 HQ.1.symm ⟨none,0,rfl,Cells.nil _ _ _⟩ HE.1.2
 | true=>
   rw[if_pos hs]at HQ;cases hs2:Ah (Ab l (i+1)) [41]with
   | true=>
     rw[if_pos hs2]at HQ;go_enter func248,ntmps248;go_wp2_with fail;refine(Bm h _ hs).mono ?_;rintro e w1 ⟨rfl,h1,g1⟩;go_wp2_with fail;refine(Bm h1 _ hs2).mono ?_;rintro e w2 ⟨rfl,h2,g2⟩;have HE:=S (X (Z g1 g2) h2);clear g1 g2;go_wp2;go_ret;exact Post.ok HE.1.1 HQ.1.symm ⟨none,0,rfl,Cells.nil _ _ _⟩ HE.1.2
   | false=>
     rw[if_neg (nF hs2)]at HQ;go_enter func248,ntmps248;go_wp2_with fail;refine(Bm h _ hs).mono ?_;rintro e w1 ⟨rfl,h1,g1⟩;have hs1:=g1.size;replace gr:=Z gr g1;clear g1;go_wp2_with fail;refine mR (Bb h1 _ hs2) λw2 g2=>?_;have hp2:=h1.gbN g2;have hs2:=g2.size;replace gr:=Ag gr g2;clear g2;go_wp2_with fail;refine(Nz hp2 H.1.1 n (λe=>H.1.2 (by rw[<-HQ.1,e];rfl))).mono ?_;intro e w3 hq;obtain⟨g,⟨q,hr,rfl⟩| ⟨x,j,v,hr,rfl,⟨a,c,rfl,hC⟩,hp⟩⟩:=hq.split
     ·exact PBd gr g HQ hr
     replace gr:=Z gr g;replace HQ:=HQo HQ hr;clear hr;have hs3:=g.size;have hp3:=hp;clear g hp;go_wp2_with fail;refine(CM hp3 [41]).mono ?_;intro e w4 hq;obtain⟨g,⟨q,hr,rfl⟩| ⟨u,j2,v,hr,rfl,rfl,hp⟩⟩:=hq.split
     ·exact PBd gr g HQ hr
     replace gr:=Z gr g;replace HQ:=HQo HQ hr;clear hr;have HE:=S (X (hC.gb g (by intro q hq _ e;cases e;have:w2.heap.size<=b:=hq;omega)) hp);clear g hp hC;go_wp2;go_ret;exact Post.ok gr HQ.1.symm ⟨_,_,rfl,HE.1.1.mono (λq hq _=>by have:w2.heap.size<=q:=hq;show w.heap.size<=q;omega)⟩ HE.1.2
def KV{g:Nat}{u:Value}(h:w.cell? ⟨g,i,none⟩=some u):w.cell? ((⟨g,0,none⟩:Addr).add i)=some u:=by
 have e:(⟨g,0,none⟩:Addr).add i=⟨g,i,none⟩:=by unfold Addr.add;split<;>simp_all
 rw[e];exact h
structure KX(b:Nat)(w:World)(L:Nat)(wr:World)(o:Int)(s t:Bs)(p:List Bs)(f:Fo)(g:Bl)(c4 pv xv bv:Value):Prop where
 blk:Blk wr L [.int .i64 o,str s,str t,pv,c4,bv,.int .i64 0,.slice none 0 0,.slice none 0 0,.slice none 0 0] 134
 p:wr.ownsRow (w.heap.size+1) 9 1 pv p.length (p.map str)
 x:∃cs,wr.ownsRow (w.heap.size+1) 163 7 xv f.len cs/\RepF (fre w L pv xv bv) wr f cs
 bb:∃cs,wr.ownsRow (w.heap.size+1) 38 1 bv g.len cs/\RepT (fre w L pv xv bv) wr g true cs
 gr:w.grownBy wr (some b)
 bw:b<w.heap.size
 wL:w.heap.size<L
 zero:Blk wr w.heap.size (stC 0 (.slice none 0 0)) 134
structure KP(b:Nat)(w:World)(L:Nat)(wr:World)(o:Int)(s t:Bs)(p:List Bs)(f:Fo)(g:Bl)(c4 pv:Value)(j cap:Nat)(bv:Value):Prop where
 blk:Blk wr L [.int .i64 o,str s,str t,pv,c4,bv,.int .i64 0,.slice none 0 0,.slice none 0 0,.slice none 0 0] 134
 p:wr.ownsRow (w.heap.size+1) 9 1 pv p.length (p.map str)
 x:∃cs z,z.length=7/\cs.length=f.len*7/\wr.ownsRow (w.heap.size+1) 163 7 (.slice (some ⟨j,0,none⟩) (f.len+1) cap) (f.len+1) (cs++z)/\RepF (fre w L pv (.slice (some ⟨j,0,none⟩) (f.len+1) cap) bv) wr f cs
 bb:∃cs,wr.ownsRow (w.heap.size+1) 38 1 bv g.len cs/\RepT (fre w L pv (.slice (some ⟨j,0,none⟩) (f.len+1) cap) bv) wr g true cs
 gr:w.grownBy wr (some b)
 bw:b<w.heap.size
 wL:w.heap.size<L
 zero:Blk wr w.heap.size (stC 0 (.slice none 0 0)) 134
section
variable {L:Nat}{t:Bs}
def KP.lt(k:KP b w L wr o s t p f g c4 pv j cap bv):L<wr.heap.size:=k.blk.lt
def KP.bj(k:KP b w L wr o s t p f g c4 pv j cap bv):b<j/\w.heap.size<j/\j<wr.heap.size:=by
 obtain⟨cs,z,_,_,hx,_⟩:=k.x;have h:=hx.lt j (by simp[Value.ownBlock]);have:=k.bw;exact⟨by omega,by omega,h.2⟩
def KP.bL(k:KP b w L wr o s t p f g c4 pv j cap bv):b<L:=by have:=k.bw;have:=k.wL;omega
def KA.shapeX(k:KA b w L wr o s t p f g pv xv bv):∃xa xc,xv= .slice xa f.len xc:=by
 obtain⟨cs,h,_⟩:=k.x;obtain⟨a,c,e,_⟩:=C0 h;exact⟨a,c,e⟩
def KA.pend(k:KA b w L wr o s t p f g pv xv bv)(hz:z.length=7)(hx:wr.ownsRow (w.heap.size+1) 163 7 xv f.len cs)(hr:RepF (fre w L pv xv bv) wr f cs)
 (ho:w1.ownsRow (w.heap.size+1) 163 7 (.slice (some ⟨j,0,none⟩) (f.len+1) cap) (f.len+1) (cs++z)) (hg:wr.grownBy w1 xv.ownBlock) (hat:xv.ownBlock=some j\/j=wr.heap.size):
 KP b w L w1 o s t p f g xv pv j cap bv:=by
 have hwL:=k.wL;have hLt:=k.lt;have hbw:=k.bw;have hnew:∀q,(Value.slice (some ⟨j,0,none⟩) (f.len+1) cap).ownBlock=some q->xv.ownBlock=some q\/wr.heap.size<=q:=λq hq=>FR hat hq;obtain⟨ds,h3,h4⟩:=k.bb;have nL:=BI hx k.blk (by decide);have nP:=EO k.p hx (by decide);have nB:=EO h3 hx (by decide);have nZ:xv.ownBlock≠some w.heap.size:=λe=>by have:=(k.belowX _ e).2;omega
 have hfre:∀q,fre w L pv xv bv q->q<wr.heap.size->fre w L pv (.slice (some ⟨j,0,none⟩) (f.len+1) cap) bv q/\xv.ownBlock≠some q:=λq hq hlt=>⟨⟨hq.1,hq.2.1,hq.2.2.1,λe=>by(rcases hnew _ e with h|h;exact hq.2.2.2.1 h;omega),hq.2.2.2.2⟩,hq.2.2.2.1⟩;have hne:∀q,(fre w L pv (.slice (some ⟨j,0,none⟩) (f.len+1) cap) bv q/\xv.ownBlock≠some q)->q<wr.heap.size->some q≠xv.ownBlock:=λq hq _ e=>hq.2 e.symm;have keep:∀{e size n:Nat}{v:Value}{xs:List Value},wr.ownsRow (w.heap.size+1) e size v n xs->(∀q,v.ownBlock=some q->xv.ownBlock≠some q)->w1.ownsRow (w.heap.size+1) e size v n xs:=by
  intro e size n v xs h a1;refine h.kept hg ?_;cases hv:v.ownBlock with
  |none=>exact .inl rfl
  |some q=>exact .inr λe=>a1 q hv e.symm
 exact⟨k.blk.gb hg (λe=>nL e.symm),keep k.p nP,⟨cs,z,hz,hr.len,ho,((hr.mono' hfre).gb hg hne).mono' λq hq _=>hq.1⟩,⟨ds,keep h3 nB,((RepT.mono hfre h4).gb hg hne).mono' λq hq _=>hq.1⟩,EM k.gr hg λq hq=>by(have:=(k.belowX q hq).2;omega),hbw,hwL,k.zero.gb hg (λe=>nZ e.symm)⟩
def KP.put4(k:KP b w L wr o s t p f g c4 pv j cap bv)(v:Value):KP b w L (wr.setCell ⟨L,4,none⟩ v) o s t p f g v pv j cap bv:=by
 have hwL:=k.wL;have g1:=Ai (Aa wr (some L)) 4 v;obtain⟨cs,z,hz,hc,h1,h2⟩:=k.x;obtain⟨ds,h3,h4⟩:=k.bb;have keep:∀{e size n:Nat}{u:Value}{xs:List Value},wr.ownsRow (w.heap.size+1) e size u n xs->e≠134->(wr.setCell ⟨L,4,none⟩ v).ownsRow (w.heap.size+1) e size u n xs:=by
  intro e size n u xs h hne;have h1:=BI h k.blk hne;refine h.kept g1 ?_;cases hv:u.ownBlock with
  |none=>exact .inl rfl
  |some q=>exact .inr λe=>by cases e;exact h1 hv
 have hne2:∀q,fre w L pv (.slice (some ⟨j,0,none⟩) (f.len+1) cap) bv q->q<wr.heap.size->some q≠some L:=λq hq _ e=>by cases e;exact hq.2.1 rfl
 exact⟨(k.blk.set 4 _).of_eq rfl rfl,keep k.p (by decide),⟨cs,z,hz,hc,keep h1 (by decide),h2.gb g1 hne2⟩,⟨ds,keep h3 (by decide),h4.gb g1 hne2⟩,Aq k.gr g1 (.inr (by omega)),k.bw,hwL,k.zero.gb g1 (by simp;omega)⟩
def D6(w:World)(j n:Nat)(v0 v1 v2 v3 v4 v5 v6:Value):World:=
 ((((((w.setCell ⟨j,n,none⟩ v0).setCell ⟨j,n+1,none⟩ v1).setCell ⟨j,n+2,none⟩ v2).setCell ⟨j,n+3,none⟩ v3).setCell ⟨j,n+4,none⟩ v4).setCell ⟨j,n+5,none⟩ v5).setCell ⟨j,n+6,none⟩ v6
def Lg(w:World)(j n:Nat)(v0 v1 v2 v3 v4 v5 v6:Value):w.grownBy (D6 w j n v0 v1 v2 v3 v4 v5 v6) (some j):=
 Ai (Ai (Ai (Ai (Ai (Ai (Ai (Aa w (some j)) n v0) (n+1) v1) (n+2) v2) (n+3) v3) (n+4) v4) (n+5) v5) (n+6) v6
def Xm(hn:cs.length=n)(hz:z.length=7)(v0 v1 v2 v3 v4 v5 v6:Value):
 (((((((cs++z).set n v0).set (n+1) v1).set (n+2) v2).set (n+3) v3).set (n+4) v4).set (n+5) v5).set (n+6) v6=cs++[v0,v1,v2,v3,v4,v5,v6]:=by
 subst hn;match z,hz with
 | [a0,a1,a2,a3,a4,a5,a6],_=>simp[List.set_append]
def Vt{e:Nat}(h:wr.ownsRow B e 7 (.slice (some ⟨j,0,none⟩) m cap) m (cs++z))(hn:cs.length=n)(hz:z.length=7)(v0 v1 v2 v3 v4 v5 v6:Value):
 (D6 wr j n v0 v1 v2 v3 v4 v5 v6).ownsRow B e 7 (.slice (some ⟨j,0,none⟩) m cap) m (cs++[v0,v1,v2,v3,v4,v5,v6]):=by
 rw[<-Xm hn hz];exact(((((((h.stored n v0).1.stored (n+1) v1).1.stored (n+2) v2).1.stored (n+3) v3).1.stored (n+4) v4).1.stored (n+5) v5).1.stored (n+6) v6).1
def KP.last(k:KP b w L wr o s t p f g c4 pv j cap bv)
 (rp:Cells wr (.slice pa x.h.p.length pc) 1 x.h.p.length (x.h.p.map str) (fre w L pv (.slice (some ⟨j,0,none⟩) (f.len+1) cap) bv)) (rl:RepL (fre w L pv (.slice (some ⟨j,0,none⟩) (f.len+1) cap) bv) wr (.slice la x.kids.len lc) x.kids):
 KX b w L (D6 wr j (f.len*7) (.int .i64 x.h.op) (str x.h.s) (.int .i64 x.h.vk) (.int .i64 x.h.vn) (str x.h.vs) (.slice pa x.h.p.length pc) (.slice la x.kids.len lc)) o s t p (f.snoc x) g c4 pv (.slice (some ⟨j,0,none⟩) (f.len+1) cap) bv:=by
 have hwL:=k.wL;have hbj:=k.bj;obtain⟨cs,z,hz,hc,h1,h2⟩:=k.x;obtain⟨ds,h3,h4⟩:=k.bb;have g1:=Lg wr j (f.len*7) (.int .i64 x.h.op) (str x.h.s) (.int .i64 x.h.vk) (.int .i64 x.h.vn) (str x.h.vs) (.slice pa x.h.p.length pc) (.slice la x.kids.len lc);have hown:(Value.slice (some ⟨j,0,none⟩) (f.len+1) cap).ownBlock=some j:=by simp[Value.ownBlock]
 have nL:=BI h1 k.blk (by decide);have keep:∀{e size n:Nat}{u:Value}{xs:List Value},wr.ownsRow (w.heap.size+1) e size u n xs->e≠163->(D6 wr j (f.len*7) (.int .i64 x.h.op) (str x.h.s) (.int .i64 x.h.vk) (.int .i64 x.h.vn) (str x.h.vs) (.slice pa x.h.p.length pc) (.slice la x.kids.len lc)).ownsRow (w.heap.size+1) e size u n xs:=by
  intro e size n u xs h hne;have h5:=EO h h1 hne;refine h.kept g1 ?_;cases hv:u.ownBlock with
  |none=>exact .inl rfl
  |some q=>exact .inr λe=>by cases e;exact h5 _ hv hown
 have hne2:∀q,fre w L pv (.slice (some ⟨j,0,none⟩) (f.len+1) cap) bv q->q<wr.heap.size->some q≠some j:=λq hq _ e=>by cases e;exact hq.2.2.2.1 hown
 refine⟨k.blk.gb g1 (λe=>nL (by cases e;exact hown)),keep k.p (by decide),⟨cs++hdC x.h (.slice pa x.h.p.length pc) (.slice la x.kids.len lc),?_,?_⟩,⟨ds,keep h3 (by decide),h4.gb g1 hne2⟩,Aq k.gr g1 (.inr (by omega)),k.bw,hwL,k.zero.gb g1 (by simp;omega)⟩
 ·rw[Fo.len_snoc];exact Vt h1 hc hz _ _ _ _ _ _ _
 ·exact(h2.app (VE.rep rp rl)).gb g1 hne2
def KX.put4(k:KX b w L wr o s t p f g c4 pv xv bv):KA b w L (wr.setCell ⟨L,4,none⟩ xv) o s t p f g pv xv bv:=by
 have hwL:=k.wL;have g1:=Ai (Aa wr (some L)) 4 xv;obtain⟨cs,h1,h2⟩:=k.x;obtain⟨ds,h3,h4⟩:=k.bb;have keep:∀{e size n:Nat}{u:Value}{xs:List Value},wr.ownsRow (w.heap.size+1) e size u n xs->e≠134->(wr.setCell ⟨L,4,none⟩ xv).ownsRow (w.heap.size+1) e size u n xs:=by
  intro e size n u xs h hne;have h1:=BI h k.blk hne;refine h.kept g1 ?_;cases hv:u.ownBlock with
  |none=>exact .inl rfl
  |some q=>exact .inr λe=>by cases e;exact h1 hv
 have hne2:∀q,fre w L pv xv bv q->q<wr.heap.size->some q≠some L:=λq hq _ e=>by cases e;exact hq.2.1 rfl
 exact⟨(k.blk.set 4 _).of_eq rfl rfl,keep k.p (by decide),⟨cs,keep h1 (by decide),h2.gb g1 hne2⟩,⟨ds,keep h3 (by decide),h4.gb g1 hne2⟩,Aq k.gr g1 (.inr (by omega)),k.bw,hwL,k.zero.gb g1 (by simp;omega)⟩
def KX.toKA(k:KX b w L wr o s t p f g xv pv xv bv):KA b w L wr o s t p f g pv xv bv:=⟨k.blk,k.p,k.x,k.bb,k.gr,k.bw,k.wL,k.zero⟩
def KA.freP(hB:∀q,B<=q->fre w L pv xv bv q)(hat:xv.ownBlock=some j\/j=wr.heap.size)(q:Nat)(hq:B<=q)(hl:q<wr.heap.size):fre w L pv (.slice (some ⟨j,0,none⟩) (f.len+1) cap) bv q:=by
 have h:=hB q hq;refine⟨h.1,h.2.1,h.2.2.1,λe=>?_,h.2.2.2.2⟩;rcases FR hat e with h1|h1
 ·exact h.2.2.2.1 h1
 ·omega
def KA.layX(k:KA b w L wr o s t p f g pv xv bv)(rp:Cells wr (.slice pa x.h.p.length pc) 1 x.h.p.length (x.h.p.map str) okx)(rl:RepL okx wr (.slice la x.kids.len lc) x.kids)(hok:∀q,okx q->fre w L pv xv bv q):
 KA b w L ((wr.setCell ⟨L,4,none⟩ (.slice (some ⟨wr.heap.size,0,none⟩) 1 1)).alloc (.cells (hdC x.h (.slice pa x.h.p.length pc) (.slice la x.kids.len lc)).toArray 163 (0,0))) o s t p (.one x) g pv (.slice (some ⟨wr.heap.size,0,none⟩) 1 1) bv:=by
 have hwL:=k.wL;have hLt:=k.lt;obtain⟨cs0,hx,hr⟩:=k.x;obtain⟨ds,h3,h4⟩:=k.bb;have g1:=Ai (Aa wr (some L)) 4 (.slice (some ⟨wr.heap.size,0,none⟩) 1 1);have g2:=gZ (wr.setCell ⟨L,4,none⟩ (.slice (some ⟨wr.heap.size,0,none⟩) 1 1)) (.cells (hdC x.h (.slice pa x.h.p.length pc) (.slice la x.kids.len lc)).toArray 163 (0,0)) none;have keep:∀{e size n:Nat}{u:Value}{xs:List Value},wr.ownsRow (w.heap.size+1) e size u n xs->e≠134->((wr.setCell ⟨L,4,none⟩ (.slice (some ⟨wr.heap.size,0,none⟩) 1 1)).alloc (.cells (hdC x.h (.slice pa x.h.p.length pc) (.slice la x.kids.len lc)).toArray 163 (0,0))).ownsRow (w.heap.size+1) e size u n xs:=by
  intro e size n u xs h hne;have h1:=BI h k.blk hne;refine(h.kept g1 ?_).kept g2 ?_
  ·cases hv:u.ownBlock with
   |none=>exact .inl rfl
   |some q=>exact .inr λe=>by cases e;exact h1 hv
  ·cases hv:u.ownBlock with
   |none=>exact .inl rfl
   |some q=>exact .inr (by simp)
 have hfr:∀q,fre w L pv xv bv q->q<wr.heap.size->fre w L pv (.slice (some ⟨wr.heap.size,0,none⟩) 1 1) bv q/\some q≠some L:=λq hq hlt=>⟨⟨hq.1,hq.2.1,hq.2.2.1,by simp[Value.ownBlock];omega,hq.2.2.2.2⟩,λe=>by cases e;exact hq.2.1 rfl⟩;refine⟨((k.blk.set 4 _).of_eq rfl rfl).alloc _,keep k.p (by decide),⟨hdC x.h (.slice pa x.h.p.length pc) (.slice la x.kids.len lc),G1 (by simp) (by simp;omega) rfl (by decide),?_⟩,⟨ds,keep h3 (by decide),?_⟩,Ac (Aq k.gr g1 (.inr (by omega))) _,k.bw,hwL,(k.zero.gb g1 (by simp;omega)).alloc _⟩
 ·have h1:RepF okx wr (.one x) (hdC x.h (.slice pa x.h.p.length pc) (.slice la x.kids.len lc)):=VE.rep rp rl;exact(((h1.mono' (λq hq hl=>hfr q (hok q hq) hl)).gb g1 (λq hq _=>hq.2)).gb g2 (by simp)).mono' λq hq _=>hq.1
 ·exact((((RepT.mono hfr h4)).gb g1 (λq hq _=>hq.2)).gb g2 (by simp)).mono' λq hq _=>hq.1
def KA.layP(k:KA b w L wr o s t p f g pv xv bv)(y:Bs):
 KA b w L ((wr.setCell ⟨L,3,none⟩ (.slice (some ⟨wr.heap.size,0,none⟩) 1 1)).alloc (.cells #[str y] 9 (0,0))) o s t [y] f g (.slice (some ⟨wr.heap.size,0,none⟩) 1 1) xv bv:=by
 have hwL:=k.wL;have hLt:=k.lt;obtain⟨cs0,hx,hr⟩:=k.x;obtain⟨ds,h3,h4⟩:=k.bb;have g1:=Ai (Aa wr (some L)) 3 (.slice (some ⟨wr.heap.size,0,none⟩) 1 1);have g2:=gZ (wr.setCell ⟨L,3,none⟩ (.slice (some ⟨wr.heap.size,0,none⟩) 1 1)) (.cells #[str y] 9 (0,0)) none;have keep:∀{e size n:Nat}{u:Value}{xs:List Value},wr.ownsRow (w.heap.size+1) e size u n xs->e≠134->((wr.setCell ⟨L,3,none⟩ (.slice (some ⟨wr.heap.size,0,none⟩) 1 1)).alloc (.cells #[str y] 9 (0,0))).ownsRow (w.heap.size+1) e size u n xs:=by
  intro e size n u xs h hne;have h1:=BI h k.blk hne;refine(h.kept g1 ?_).kept g2 ?_
  ·cases hv:u.ownBlock with
   |none=>exact .inl rfl
   |some q=>exact .inr λe=>by cases e;exact h1 hv
  ·cases hv:u.ownBlock with
   |none=>exact .inl rfl
   |some q=>exact .inr (by simp)
 have hfr:∀q,fre w L pv xv bv q->q<wr.heap.size->fre w L (.slice (some ⟨wr.heap.size,0,none⟩) 1 1) xv bv q/\some q≠some L:=λq hq hlt=>⟨⟨hq.1,hq.2.1,by simp[Value.ownBlock];omega,hq.2.2.2⟩,λe=>by cases e;exact hq.2.1 rfl⟩;have hO:((wr.setCell ⟨L,3,none⟩ (.slice (some ⟨wr.heap.size,0,none⟩) 1 1)).alloc (.cells [str y].toArray 9 (0,0))).ownsRow (w.heap.size+1) 9 1 (.slice (some ⟨wr.heap.size,0,none⟩) 1 1) 1 [str y]:=G1 (by simp) (by simp;omega) rfl (by decide);exact⟨((k.blk.set 3 _).of_eq rfl rfl).alloc _,hO,⟨cs0,keep hx (by decide),(((hr.mono' hfr).gb g1 (λq hq _=>hq.2)).gb g2 (by simp)).mono' λq hq _=>hq.1⟩,⟨ds,keep h3 (by decide),((((RepT.mono hfr h4)).gb g1 (λq hq _=>hq.2)).gb g2 (by simp)).mono' λq hq _=>hq.1⟩,Ac (Aq k.gr g1 (.inr (by omega))) _,k.bw,hwL,(k.zero.gb g1 (by simp;omega)).alloc _⟩
def KA.putT(k:KA b w L wr o s t p f g pv xv bv)(t':Bs):KA b w L (wr.setCell ⟨L,2,none⟩ (str t')) o s t' p f g pv xv bv:=by
 have hwL:=k.wL;have g1:=Ai (Aa wr (some L)) 2 (str t');obtain⟨cs,h1,h2⟩:=k.x;obtain⟨ds,h3,h4⟩:=k.bb;have keep:∀{e size n:Nat}{v:Value}{xs:List Value},wr.ownsRow (w.heap.size+1) e size v n xs->e≠134->(wr.setCell ⟨L,2,none⟩ (str t')).ownsRow (w.heap.size+1) e size v n xs:=by
  intro e size n v xs h hne;have h1:=BI h k.blk hne;refine h.kept g1 ?_;cases hv:v.ownBlock with
  |none=>exact .inl rfl
  |some q=>exact .inr λe=>by cases e;exact h1 hv
 have hne2:∀q,fre w L pv xv bv q->q<wr.heap.size->some q≠some L:=λq hq _ e=>by cases e;exact hq.2.1 rfl
 exact⟨(k.blk.set 2 _).of_eq rfl rfl,keep k.p (by decide),⟨cs,keep h1 (by decide),h2.gb g1 hne2⟩,⟨ds,keep h3 (by decide),h4.gb g1 hne2⟩,Aq k.gr g1 (.inr (by omega)),k.bw,hwL,k.zero.gb g1 (by simp;omega)⟩
def KP.cellE(k:KP b w L wr o s t p f g c4 pv j cap bv)(i:Nat)(hi:i<7):∃u,wr.cell? ⟨j,f.len*7+i,none⟩=some u:=by
 obtain⟨cs,z,hz,hc,h1,_⟩:=k.x;have h:=h1.cellAt (f.len*7+i) (by omega);rw[h];have hl:f.len*7+i<(cs++z).length:=by rw[lA];omega
 exact⟨(cs++z)[f.len*7+i],by simp[hl]⟩
def KP.frozenE(k:KP b w L wr o s t p f g c4 pv j cap bv)(i:Nat):wr.frozen? ⟨j,i,none⟩=false:=by
 obtain⟨cs,z,hz,hc,h1,_⟩:=k.x;exact h1.frozenAt i
def KP.neL(k:KP b w L wr o s t p f g c4 pv j cap bv):j≠L:=by
 obtain⟨cs,z,hz,hc,h1,_⟩:=k.x;intro e;exact BI h1 k.blk (by decide) (by rw[e];simp[Value.ownBlock])
def KP.end1(k:KP b w L wr o s t p f g c4 pv j cap bv)
 (rp:Cells wr (.slice pa x.h.p.length pc) 1 x.h.p.length (x.h.p.map str) (fre w L pv (.slice (some ⟨j,0,none⟩) (f.len+1) cap) bv)) (rl:RepL (fre w L pv (.slice (some ⟨j,0,none⟩) (f.len+1) cap) bv) wr (.slice la x.kids.len lc) x.kids):
 KA b w L ((D6 wr j (f.len*7) (.int .i64 x.h.op) (str x.h.s) (.int .i64 x.h.vk) (.int .i64 x.h.vn) (str x.h.vs) (.slice pa x.h.p.length pc) (.slice la x.kids.len lc)).setCell ⟨L,4,none⟩ (.slice (some ⟨j,0,none⟩) (f.len+1) cap)) o s t p (f.snoc x) g pv (.slice (some ⟨j,0,none⟩) (f.len+1) cap) bv:=(k.last rp rl).put4
def KP.end2(k:KP b w L wr o s t p f g c4 pv j cap bv)
 (rp:Cells wr (.slice pa x.h.p.length pc) 1 x.h.p.length (x.h.p.map str) (fre w L pv (.slice (some ⟨j,0,none⟩) (f.len+1) cap) bv)) (rl:RepL (fre w L pv (.slice (some ⟨j,0,none⟩) (f.len+1) cap) bv) wr (.slice la x.kids.len lc) x.kids):
 KA b w L (D6 (wr.setCell ⟨L,4,none⟩ (.slice (some ⟨j,0,none⟩) (f.len+1) cap)) j (f.len*7) (.int .i64 x.h.op) (str x.h.s) (.int .i64 x.h.vk) (.int .i64 x.h.vn) (str x.h.vs) (.slice pa x.h.p.length pc) (.slice la x.kids.len lc)) o s t p (f.snoc x) g pv (.slice (some ⟨j,0,none⟩) (f.len+1) cap) bv:=by
 have g1:=Ai (Aa wr (some L)) 4 (.slice (some ⟨j,0,none⟩) (f.len+1) cap);have hne:∀q,fre w L pv (.slice (some ⟨j,0,none⟩) (f.len+1) cap) bv q->q<wr.heap.size->some q≠some L:=λq hq _ e=>by cases e;exact hq.2.1 rfl
 exact((k.put4 _).last (rp.gb g1 hne) (rl.gb g1 hne)).toKA
def JT(rp:Cells wr (.slice pa x.h.p.length pc) 1 x.h.p.length (x.h.p.map str) okx)(rl:RepL okx wr (.slice la x.kids.len lc) x.kids)(hB:∀q,okx q->q<wr.heap.size->B<=q)
 (hF:∀q,B<=q->fre w L pv xv bv q) (hg:wr.grownBy w1 xv.ownBlock) (hat:xv.ownBlock=some j\/j=wr.heap.size):
 Cells w1 (.slice pa x.h.p.length pc) 1 x.h.p.length (x.h.p.map str) (fre w L pv (.slice (some ⟨j,0,none⟩) (f.len+1) cap) bv)/\RepL (fre w L pv (.slice (some ⟨j,0,none⟩) (f.len+1) cap) bv) w1 (.slice la x.kids.len lc) x.kids:=by
 have hfr:∀q,okx q->q<wr.heap.size->fre w L pv (.slice (some ⟨j,0,none⟩) (f.len+1) cap) bv q/\some q≠xv.ownBlock:=λq hq hl=>⟨KA.freP hF hat q (hB q hq hl) hl,λe=>(hF q (hB q hq hl)).2.2.2.1 e.symm⟩;exact⟨((rp.mono hfr).gb hg (λq hq _=>hq.2)).mono λq hq _=>hq.1,((rl.mono hfr).gb hg (λq hq _=>hq.2)).mono λq hq _=>hq.1⟩
end
section
variable {L:Nat}{t:Bs}
end
def Jl:(Tryz.prog.info? 38).map (λi=>(i.zero,i.size,i.bytes))=some (some (.slice none 0 0),1,24):=by kernel_rfl
def KA.startB(hz:Blk wr w.heap.size (stC 0 (.slice none 0 0)) 134)(gr:w.grownBy wr (some b))(hb:b<w.heap.size)(hw:w.heap.size<wr.heap.size)(o:Int)(s:Bs)
 {c:Bl} {ca:Option Addr} {cc:Nat}  (rc:RepV okx wr false (.slice ca c.len cc) c) (hok:∀q,okx q->q<wr.heap.size->w.heap.size<q):
 KA b w (wr.heap.size+1) ((wr.alloc (.cells #[.slice ca c.len cc] 38 (0,0))).alloc (.cells #[.int .i64 o,str s,str [],.slice none 0 0,.slice none 0 0,.slice (some ⟨wr.heap.size,0,none⟩) 1 1,.int .i64 0,.slice none 0 0,.slice none 0 0,.slice none 0 0] 134 (0,0))) o s [] [] .nil (.bl c .nil) (.slice none 0 0) (.slice none 0 0) (.slice (some ⟨wr.heap.size,0,none⟩) 1 1):=by
 have g1:=gZ wr (.cells #[.slice ca c.len cc] 38 (0,0)) none;have hO:(wr.alloc (.cells [Value.slice ca c.len cc].toArray 38 (0,0))).ownsRow (w.heap.size+1) 38 1 (.slice (some ⟨wr.heap.size,0,none⟩) 1 1) 1 [.slice ca c.len cc]:=G1 rfl (by omega) rfl (by decide);refine⟨(Blk.new _ _ _).of_eq (by simp) rfl,World.ownsRow_nil _ _ _ _,⟨[],World.ownsRow_nil _ _ _ _,rfl⟩,⟨_,hO.alloc _,?_⟩,Ac (Ac gr _) _,hb,by omega,(hz.alloc _).alloc _⟩;obtain⟨kcs,c1,c2⟩:=rc;have hfr:∀q,okx q->q<wr.heap.size->fre w (wr.heap.size+1) (.slice none 0 0) (.slice none 0 0) (.slice (some ⟨wr.heap.size,0,none⟩) 1 1) q:=λq hq hlt=>⟨hok q hq hlt,by omega,by simp[Value.ownBlock],by simp[Value.ownBlock],by simp[Value.ownBlock];omega⟩;have g2:=Ac g1 (.cells #[.int .i64 o,str s,str [],.slice none 0 0,.slice none 0 0,.slice (some ⟨wr.heap.size,0,none⟩) 1 1,.int .i64 0,.slice none 0 0,.slice none 0 0,.slice none 0 0] 134 (0,0));exact⟨ca,cc,kcs,[],rfl,(c1.mono hfr).gb g2 (by simp),(RepT.mono hfr c2).gb g2 (by simp),rfl⟩
def GH:List (Bs×Value):=[(DT,.int .i64 1),(BN,.int .i64 2),(DR,.int .i64 3),(Cy,.int .i64 4)]
def M3(s:Bs):(match Ci s GH 0 with|some (_,v)=>v|none=> .int .i64 0)=Value.int .i64 (AZ s)/\(Ci s GH 0).isSome= !(AZ s==0):=by
 unfold AZ GH;simp only[Ci];by_cases h1:s=DT
 ·subst h1;exact⟨rfl,rfl⟩
 ·have e1:(s==DT)=false:=by simpa using h1
  rw[if_neg h1,e1];by_cases h2:s=BN
  ·subst h2;exact⟨rfl,rfl⟩
  ·have e2:(s==BN)=false:=by simpa using h2
   rw[if_neg h2,e2];by_cases h3:s=DR
   ·subst h3;exact⟨rfl,rfl⟩
   ·have e3:(s==DR)=false:=by simpa using h3
    rw[if_neg h3,e3];by_cases h4:s=Cy
    ·subst h4;exact⟨rfl,rfl⟩
    ·have e4:(s==Cy)=false:=by simpa using h4
     rw[if_neg h4,e4];exact⟨rfl,rfl⟩
def Q2(h:w.heap[m]? =some (AM GH))(s:Bs):
 (Instr.lookup 68 (.map (some m)) (str s) true).run Tryz.prog w= .ok (.tuple #[.int .i64 (AZ s),.bool (!(AZ s==0))]) w:=by
 rw[Sz h s,(M3 s).2];exact congrArg (λv=>Result.ok (Value.tuple #[v,.bool (!(AZ s==0))]) w) (M3 s).1
abbrev scC(c:ScM)(nv fv wv:Value):List Value:=[.int .i64 c.kind,nv,fv,wv]
def ScV(ok:Nat->Prop)(w:World)(v:Value)(c:ScM):Prop:=∃na fa wa,∃nc fc wc,
 v= .agg #[.int .i64 c.kind,.slice na c.n.len nc,.slice fa c.f.len fc,.slice wa c.w.len wc]/\RepL ok w (.slice na c.n.len nc) c.n/\RepL ok w (.slice fa c.f.len fc) c.f/\RepL ok w (.slice wa c.w.len wc) c.w
abbrev VSc(w:World):World->Value->ScM->Prop:=λw' v c=>ScV (An w.heap.size) w' v c
structure KC(b:Nat)(w:World)(L mp:Nat)(wr:World)(c:ScM)(na fa wa:Option Addr)(nc fc wc:Nat):Prop where
 blk:Blk wr L (scC c (.slice na c.n.len nc) (.slice fa c.f.len fc) (.slice wa c.w.len wc)) 132
 n:RepL (but w L) wr (.slice na c.n.len nc) c.n
 f:RepL (but w L) wr (.slice fa c.f.len fc) c.f
 wl:RepL (but w L) wr (.slice wa c.w.len wc) c.w
 gr:w.grownBy wr (some b)
 bw:b<w.heap.size
 wL:w.heap.size<L
 wm:w.heap.size<mp
 mL:mp≠L
 map:wr.heap[mp]? =some (AM GH)
 zero:Blk wr w.heap.size [.int .i64 0,.slice none 0 0,.slice none 0 0,.slice none 0 0] 132
section
variable {L mp:Nat}{c:ScM}{na fa wa:Option Addr}{nc fc wc:Nat}
def KC.lt(k:KC b w L mp wr c na fa wa nc fc wc):L<wr.heap.size:=k.blk.lt
def KC.gb(k:KC b w L mp wr c na fa wa nc fc wc)(gr:wr.grownBy w1 (some b)):KC b w L mp w1 c na fa wa nc fc wc:=by
 have hbw:=k.bw;have hwL:=k.wL;have hwm:=k.wm;have hne:∀q,but w L q->q<wr.heap.size->some q≠some b:=λq hq _ e=>by cases e;have:=hq.1;omega
 exact⟨k.blk.gb gr (by simp;omega),k.n.gb gr hne,k.f.gb gr hne,k.wl.gb gr hne,Z k.gr gr,hbw,hwL,hwm,k.mL,CL gr k.map (by simp;omega),k.zero.gb gr (by simp;omega)⟩
def KC.gbN(k:KC b w L mp wr c na fa wa nc fc wc)(gr:wr.grownBy w1 none):KC b w L mp w1 c na fa wa nc fc wc:=k.gb (Ao gr)
def KC.putK(k:KC b w L mp wr c na fa wa nc fc wc)(i:Int):KC b w L mp (wr.setCell ⟨L,0,none⟩ (.int .i64 i)) {c with kind:=i} na fa wa nc fc wc:=by
 have hwL:=k.wL;have g1:=Ai (Aa wr (some L)) 0 (.int .i64 i);have hne:∀q,but w L q->q<wr.heap.size->some q≠some L:=λq hq _ e=>by cases e;exact hq.2 rfl
 exact⟨(k.blk.set 0 _).of_eq rfl rfl,k.n.gb g1 hne,k.f.gb g1 hne,k.wl.gb g1 hne,Aq k.gr g1 (.inr (by omega)),k.bw,hwL,k.wm,k.mL,CL g1 k.map (by intro e;exact k.mL (by cases e;rfl)),k.zero.gb g1 (by simp;omega)⟩
def KC.lay(k:KC b w L mp wr c na fa wa nc fc wc)(i:Nat)(rp:Cells wr (.slice pa x.h.p.length pc) 1 x.h.p.length (x.h.p.map str) (but w L))(rl:RepL (but w L) wr (.slice la x.kids.len lc) x.kids):
 ∃W,W=(wr.setCell ⟨L,i,none⟩ (.slice (some ⟨wr.heap.size,0,none⟩) 1 1)).alloc (.cells (hdC x.h (.slice pa x.h.p.length pc) (.slice la x.kids.len lc)).toArray 163 (0,0))/\
  wr.grownBy W (some L)/\RepL (but w L) W (.slice (some ⟨wr.heap.size,0,none⟩) 1 1) (.one x)/\RepL (but w L) W (.slice na c.n.len nc) c.n/\RepL (but w L) W (.slice fa c.f.len fc) c.f/\RepL (but w L) W (.slice wa c.w.len wc) c.w:=by
 have hwL:=k.wL;have hlt:=k.lt;have g1:=Ai (Aa wr (some L)) i (.slice (some ⟨wr.heap.size,0,none⟩) 1 1);have hne:∀q,but w L q->q<wr.heap.size->some q≠some L:=λq hq _ e=>by cases e;exact hq.2 rfl
 have g2:=gZ (wr.setCell ⟨L,i,none⟩ (.slice (some ⟨wr.heap.size,0,none⟩) 1 1)) (.cells (hdC x.h (.slice pa x.h.p.length pc) (.slice la x.kids.len lc)).toArray 163 (0,0)) none;exact⟨_,rfl,Ag g1 g2,RepL.one (by simp) ⟨by omega,by omega⟩ (rp.gb g1 hne) (rl.gb g1 hne),(k.n.gb g1 hne).gb g2 (by simp),(k.f.gb g1 hne).gb g2 (by simp),(k.wl.gb g1 hne).gb g2 (by simp)⟩
def KC.layN(k:KC b w L mp wr c na fa wa nc fc wc)(rp:Cells wr (.slice pa x.h.p.length pc) 1 x.h.p.length (x.h.p.map str) (but w L))(rl:RepL (but w L) wr (.slice la x.kids.len lc) x.kids):
 KC b w L mp ((wr.setCell ⟨L,1,none⟩ (.slice (some ⟨wr.heap.size,0,none⟩) 1 1)).alloc (.cells (hdC x.h (.slice pa x.h.p.length pc) (.slice la x.kids.len lc)).toArray 163 (0,0))) {c with n:= .one x} (some ⟨wr.heap.size,0,none⟩) fa wa 1 fc wc:=by
 obtain⟨W,e,g,h0,h1,h2,h3⟩:=k.lay 1 rp rl;have hwL:=k.wL;have hb:Blk W L (scC {c with n:= .one x} (.slice (some ⟨wr.heap.size,0,none⟩) 1 1) (.slice fa c.f.len fc) (.slice wa c.w.len wc)) 132:=by subst e;exact((k.blk.set 1 _).of_eq rfl rfl).alloc _
 rw[<-e];exact⟨hb,h0,h2,h3,Aq k.gr g (.inr (by omega)),k.bw,hwL,k.wm,k.mL,CL g k.map (by intro e;exact k.mL (by cases e;rfl)),k.zero.gb g (by simp;omega)⟩
def KC.layF(k:KC b w L mp wr c na fa wa nc fc wc)(rp:Cells wr (.slice pa x.h.p.length pc) 1 x.h.p.length (x.h.p.map str) (but w L))(rl:RepL (but w L) wr (.slice la x.kids.len lc) x.kids):
 KC b w L mp ((wr.setCell ⟨L,2,none⟩ (.slice (some ⟨wr.heap.size,0,none⟩) 1 1)).alloc (.cells (hdC x.h (.slice pa x.h.p.length pc) (.slice la x.kids.len lc)).toArray 163 (0,0))) {c with f:= .one x} na (some ⟨wr.heap.size,0,none⟩) wa nc 1 wc:=by
 obtain⟨W,e,g,h0,h1,h2,h3⟩:=k.lay 2 rp rl;have hwL:=k.wL;have hb:Blk W L (scC {c with f:= .one x} (.slice na c.n.len nc) (.slice (some ⟨wr.heap.size,0,none⟩) 1 1) (.slice wa c.w.len wc)) 132:=by subst e;exact((k.blk.set 2 _).of_eq rfl rfl).alloc _
 rw[<-e];exact⟨hb,h1,h0,h3,Aq k.gr g (.inr (by omega)),k.bw,hwL,k.wm,k.mL,CL g k.map (by intro e;exact k.mL (by cases e;rfl)),k.zero.gb g (by simp;omega)⟩
def KC.layW(k:KC b w L mp wr c na fa wa nc fc wc)(rp:Cells wr (.slice pa x.h.p.length pc) 1 x.h.p.length (x.h.p.map str) (but w L))(rl:RepL (but w L) wr (.slice la x.kids.len lc) x.kids):
 KC b w L mp ((wr.setCell ⟨L,3,none⟩ (.slice (some ⟨wr.heap.size,0,none⟩) 1 1)).alloc (.cells (hdC x.h (.slice pa x.h.p.length pc) (.slice la x.kids.len lc)).toArray 163 (0,0))) {c with w:= .one x} na fa (some ⟨wr.heap.size,0,none⟩) nc fc 1:=by
 obtain⟨W,e,g,h0,h1,h2,h3⟩:=k.lay 3 rp rl;have hwL:=k.wL;have hb:Blk W L (scC {c with w:= .one x} (.slice na c.n.len nc) (.slice fa c.f.len fc) (.slice (some ⟨wr.heap.size,0,none⟩) 1 1)) 132:=by subst e;exact((k.blk.set 3 _).of_eq rfl rfl).alloc _
 rw[<-e];exact⟨hb,h1,h2,h0,Aq k.gr g (.inr (by omega)),k.bw,hwL,k.wm,k.mL,CL g k.map (by intro e;exact k.mL (by cases e;rfl)),k.zero.gb g (by simp;omega)⟩
abbrev GR(w:World)(k:Nat)(v0 v1 v2 v3:Value):World:=(((w.setCell ⟨k,0,none⟩ v0).setCell ⟨k,1,none⟩ v1).setCell ⟨k,2,none⟩ v2).setCell ⟨k,3,none⟩ v3
def YY(w:World)(k:Nat)(v0 v1 v2 v3:Value):w.grownBy (GR w k v0 v1 v2 v3) (some k):=Ai (Ai (Ai (Ai (Aa w (some k)) 0 v0) 1 v1) 2 v2) 3 v3
def KC.out(k:KC b w L mp wr c na fa wa nc fc wc):
 w.grownBy (GR wr w.heap.size (.int .i64 c.kind) (.slice na c.n.len nc) (.slice fa c.f.len fc) (.slice wa c.w.len wc)) (some b)/\
 wr.grownBy (GR wr w.heap.size (.int .i64 c.kind) (.slice na c.n.len nc) (.slice fa c.f.len fc) (.slice wa c.w.len wc)) (some w.heap.size)/\
 Blk (GR wr w.heap.size (.int .i64 c.kind) (.slice na c.n.len nc) (.slice fa c.f.len fc) (.slice wa c.w.len wc)) w.heap.size (scC c (.slice na c.n.len nc) (.slice fa c.f.len fc) (.slice wa c.w.len wc)) 132/\
 ScV (An w.heap.size) (GR wr w.heap.size (.int .i64 c.kind) (.slice na c.n.len nc) (.slice fa c.f.len fc) (.slice wa c.w.len wc)) (.agg (scC c (.slice na c.n.len nc) (.slice fa c.f.len fc) (.slice wa c.w.len wc)).toArray) c:=by
 have g1:=YY wr w.heap.size (.int .i64 c.kind) (.slice na c.n.len nc) (.slice fa c.f.len fc) (.slice wa c.w.len wc);have hne:∀q,but w L q->q<wr.heap.size->some q≠some w.heap.size:=λq hq _ e=>by cases e;have:=hq.1;omega
 have hs:∀q,but w L q->q<(GR wr w.heap.size (.int .i64 c.kind) (.slice na c.n.len nc) (.slice fa c.f.len fc) (.slice wa c.w.len wc)).heap.size->An w.heap.size q:=λq hq _=>by have:=hq.1;show w.heap.size<=q;omega
 exact⟨Aq k.gr g1 (.inr (nR _)),g1,((((k.zero.set 0 _).set 1 _).set 2 _).set 3 _).of_eq rfl rfl,na,fa,wa,nc,fc,wc,rfl,(k.n.gb g1 hne).mono hs,(k.f.gb g1 hne).mono hs,(k.wl.gb g1 hne).mono hs⟩
end
def US:(match(Tryz.prog.underlying 132)with|some (.struct _)=>true|_=>false)=true:=by kernel_rfl
def IE{fn:Func}{p:Tmp}(h:fn.results=#[.cell p 132])(tmps:Array Value)(hb:Blk w k cs 132)(hn:cs.length=4)(hp:tmps.getD p undef= .pointer (some ⟨k,0,none⟩)):
 (results fn tmps).run Tryz.prog w= .ok (.agg cs.toArray) w:=by
 have hs:=US;cases hu:Tryz.prog.underlying 132 with
 |none=>rw[hu]at hs;cases hs
 | some d=>
   rw[hu]at hs;exact results_cell_row h tmps w k 132 cs.toArray (0,0) d hp hb hu (by cases d<;>simp_all) (by rw[List.size_toArray,hn];show(Tryz.prog.info? 132).map (·.size)=some 4;kernel_rfl)
def Gn(l:List Tok)(E:Nat->Res Ex)(n i:Nat):Res StB:=
 if Ah (Ab l i) [63]then(if(Ab l (i+1)).kind==5 then .ok .nil (i+1)else Dd l E n (i+1)).bind λx j=>(B3 l j).bind λ_ j=> .ok ({sd0 1 []with x:=x},.nil) j
 else if(Ab l i).kind==0&&Ah (Ab l (i+1)) [40]then(DN l E n i).bind λx j=>(B3 l j).bind λ_ j=> .ok ({sd0 10 []with x:= .one x},.nil) j
 else(Gj l E i).bind λt j=>(if Ah (Ab l j) [61]then .ok () (j+1)else AW l [58,61] j).bind λ_ j=>(E j).bind λx j=>(B3 l j).bind λ_ j=> .ok ({sd0 0 []with x:= .two t x},.nil) j
def Y2(hn:Al l)(day:Bs->Int)(n i:Nat):(EP hn day n).f i=Gn l (Ak l day n) n i:=by
 unfold Gn;show(if Ah (Ab l i) [63]then _ else if Ah (Ab l i) [38]then _ else _)=_;cases h63:Ah (Ab l i) [63]with
 |true=>rfl
 | false=>
   simp only[Bool.false_eq_true,if_false];cases h38:Ah (Ab l i) [38]with
   | true=>
     have hk:((Ab l i).kind==0)=false:=by
      simp[Ah]at h38;simp[h38.1]
     rw[hk,if_pos rfl];simp only[Bool.false_and,Bool.false_eq_true,if_false];unfold Gj;rw[if_pos h38];rfl
   | false=>
     simp only[Bool.false_eq_true,if_false];have hT:Gj l (Ak l day n) i=(AD l i).bind λs j=>
      if Ah (Ab l j) [91]then(Ak l day n (j+1)).bind λx k=>(AW l [93] k).bind λ_ k=> .ok (Eg (AH s) x) k
      else if Ah (Ab l j) [45,62]then(AD l (j+1)).bind λt k=> .ok ⟨hd0 2 s,.one (AH t)⟩ k
      else .ok (AH s) j:=by unfold Gj;rw[if_neg (by rw[h38];simp)]
     rw[hT];show(AD l i).bind (λs j=>(Ir hn day n s).f j)=_;unfold DN;unfold AD;cases hk:(Ab l i).kind==0&&Ay (Ab l i).text with
     | false=>
       simp only[Bool.false_eq_true,if_false,Res.bind_bad];split<;>rfl
     | true=>
       simp only[if_true,Res.bind_ok];have hk0:((Ab l i).kind==0)=true:=by simp only[Bool.and_eq_true]at hk;exact hk.1
       rw[hk0,Bool.true_and];show(if Ah (Ab l (i+1)) [40]then _ else if Ah (Ab l (i+1)) [91]then _ else if Ah (Ab l (i+1)) [45,62]then _ else _)=_;cases h40:Ah (Ab l (i+1)) [40]with
       | true=>
         simp only[if_true];rw[AW,h40,if_pos rfl,Res.bind_ok];show((if Ah (Ab l (i+1+1)) [41]then _ else _:Res Fo).bind _)=_;cases h41:Ah (Ab l (i+1+1)) [41]with
         |true=>rfl
         | false=>
           simp only[Bool.false_eq_true,if_false];show((((Dd l (Ak l day n) n (i+1+1)).bind _):Res Fo).bind _)=_;rw[Res.bind_assoc,Res.bind_assoc];congr 1;funext f k;show(((AW l [41] k).bind _:Res Fo).bind _)=_;rw[Res.bind_assoc,Res.bind_assoc];rfl
       | false=>
         simp only[Bool.false_eq_true,if_false];cases h91:Ah (Ab l (i+1)) [91]with
         | true=>
           simp only[if_true];rw[Res.bind_assoc];show(Ak l day n (i+1+1)).bind _=_;congr 1;funext x k;rw[Res.bind_assoc];rfl
         | false=>
           simp only[Bool.false_eq_true,if_false];cases h45:Ah (Ab l (i+1)) [45,62]with
           | true=>
             simp only[if_true];rw[Res.bind_assoc];rfl
           |false=>rfl
def Ze:(Tryz.prog.info? 134).map (λi=>(i.zero,i.size,i.bytes))=some (some (.agg (stC 0 (.slice none 0 0)).toArray),10,192):=by kernel_rfl
def Sd.nodes(s:Sd):Nat:=s.x.nodes+s.n.nodes+s.f.nodes+s.w.nodes
def Sd.levels(s:Sd):Nat:=max (max s.x.levels s.n.levels) (max s.f.levels s.w.levels)
def Bl.nodes:Bl->Nat
 | .nil=>0
 | .st h b n=>1+h.nodes+b.nodes+n.nodes
 | .bl b n=>b.nodes+n.nodes
def Bl.levels:Bl->Nat
 | .nil=>0
 | .st h b n=>max (1+max h.levels b.levels) n.levels
 | .bl b n=>max b.levels n.levels
def Bl.nodes_app:∀a b:Bl,(a.app b).nodes=a.nodes+b.nodes:=by
 intro a;induction a with
 |nil=>intro b;simp[Bl.app,Bl.nodes]
 |st h k n _ ih=>intro b;simp[Bl.app,Bl.nodes,ih];omega
 |bl k n _ ih=>intro b;simp[Bl.app,Bl.nodes,ih];omega
abbrev sb(r:StB):Nat:=1+r.1.nodes+r.2.nodes
def Bg{l:List Tok}{α:Type}(P:Rd l α)(m:α->Nat)(c:Nat):Prop:=∀i a j,P.f i= .ok a j->m a+i<=j+c
open Rd
def Bg.le{P:Rd l α}{m:α->Nat}(h:Bg P m c)(hc:c<=d):Bg P m d:=λi a j e=>by have:=h i a j e;omega
def Bg.pure{a:α}{m:α->Nat}(h:m a<=c):Bg (pure a:Rd l α) m c:=λi b j e=>by
 have e':Res.ok a i=Res.ok b j:=e
 cases e';omega
def Bg.bad{a:α}{m:α->Nat}:Bg (bad a:Rd l α) m c:=λi b j e=>by
 have e':Res.bad i=Res.ok b j:=e
 cases e'
def Bg.out{a:α}{m:α->Nat}:Bg (out a:Rd l α) m c:=λi b j e=>by
 have e':Res.out=Res.ok b j:=e
 cases e'
def Bg.bind{P:Rd l α}{Q:α->Rd l β}{m:β->Nat}(m1:α->Nat)(c1 d:Nat)(h1:Bg P m1 c1)(h2:∀x,Bg (Q x) m (m1 x+d))(hc:c1+d<=c):Bg (P.bind Q) m c:=by
 intro i b k e;have e':(P.f i).bind (λx j=>(Q x).f j)= .ok b k:=e;cases hr:P.f i with
 | ok a j=>
   rw[hr,Res.bind_ok]at e';have:=h1 i a j hr;have:=h2 a j b k e';omega
 |bad q=>rw[hr]at e';cases e'
 |out=>rw[hr]at e';cases e'
def Bg.of{P:Rd l α}{m:α->Nat}(h:∀i,Big m i (P.f i)):Bg P m 0:=λi a j e=>by
 have:=h i
 rw[e]at this
 simp only[Big]at this
 omega
def EI:Bg (want s:Rd l Unit) AJ 0:=Bg.of λi=>DZ s i
def AI:Bg (fin:Rd l Unit) AJ 0:=Bg.of λi=>YR i
def Om(hn:Al l):Bg (name hn:Rd l Bs) AJ 0:=Bg.of λi=>Fq i
def NQ(hn:Al l):Bg (name hn:Rd l Bs) (λ_=>0) c:=λi a j e=>by
 have:=Om hn i a j e
 simp only[AJ]at this
 show 0+i<=j+c
 omega
def XT:Bg (skip:Rd l Unit) AJ 0:=λi a j e=>by
 have e':Res.ok () (i+1)=Res.ok a j:=e
 cases e';simp only[AJ];omega
def C5{p q:Rd l α}{m:α->Nat}(hp:Bg p m (c+1))(hq:Bg q m c):Bg (ifs s p q) m c:=λi a j e=>by
 have e':(if Ah (Ab l i) s then p.f (i+1)else q.f i)= .ok a j:=e
 split at e'
 ·have:=hp _ _ _ e';omega
 ·exact hq _ _ _ e'
def EH{p q:Rd l α}{m:α->Nat}(hp:Bg p m c)(hq:Bg q m c):Bg (cond t p q) m c:=λi a j e=>by
 have e':(if t i then p.f i else q.f i)= .ok a j:=e
 split at e'
 ·exact hp _ _ _ e'
 ·exact hq _ _ _ e'
def NE{p q:Rd l α}{m:α->Nat}(hp:Bg p m c)(hq:Bg q m c):Bg (condW t p q) m c:=EH (t:=t) hp hq
def Ho{p q:Rd l α}{m:α->Nat}(hp:Bg p m c)(hq:Bg q m c):Bg (In t p q) m c:=EH (t:=t) hp hq
def Bk{p:Rd l α}{m:α->Nat}(hp:Bg p m (c+1)):Bg (skip.bind λ_=>p) m c:=Bg.bind AJ 0 c XT (λ_=>hp.le (by simp only[AJ];omega)) (by omega)
def Cn{w:Bs}{p q:Rd l α}{m:α->Nat}(hp:Bg p m (c+1))(hq:Bg q m c):Bg (ifw W w p q) m c:=Ho (Bk hp) hq
def BH{w:Bs}:Bg (must W w:Rd l Unit) AJ 0:=Cn (Bg.pure (by simp only[AJ];omega)) Bg.bad
def XO:Bg (here W:Rd l Bs) (λ_=>0) 0:=λi a j e=>by
 have e':Res.ok (As l W i) i=Res.ok a j:=e
 cases e';exact Nat.le_of_eq (by simp)
def CU{c:Prop} [Decidable c] {p q:Rd l α} {m:α->Nat}  (hp:Bg p m d) (hq:Bg q m d):Bg (if c then p else q) m d:=by
 by_cases h:c
 ·rw[if_pos h];exact hp
 ·rw[if_neg h];exact hq
def Ap{P:Rd l Unit}{q:Rd l α}{m:α->Nat}(h:Bg P AJ 0)(hq:Bg q m (c+1)):Bg (P.bind λ_=>q) m c:=Bg.bind AJ 0 c h (λ_=>hq.le (by simp only[AJ];omega)) (by omega)
def Ch{hn:Al l}{q:Bs->Rd l α}{m:α->Nat}(hq:∀s,Bg (q s) m (c+1)):Bg ((name hn).bind q) m c:=Bg.bind AJ 0 c (Om hn) (λs=>(hq s).le (by simp only[AJ];omega)) (by omega)
def Gd{q:Bs->Rd l α}{m:α->Nat}(hq:∀s,Bg (q s) m c):Bg ((here W).bind q) m c:=Bg.bind (λ_=>0) 0 c XO (λs=>(hq s).le (by omega)) (by omega)
def KR{step:α->Rd l α}{m:α->Nat}(h:∀a,Bg (step a) m (m a)):∀k a,Bg (moreS s step k a) m (m a):=by
 intro k;induction k with
 |zero=>exactλa=>Bg.out
 |succ k ih=>exactλa=>C5 (Bg.bind m (m a) 0 (h a) (λx=>ih x) (by omega)) (Bg.pure (nR _))
def NP{w:Bs}{step:α->Rd l α}{m:α->Nat}(h:∀a,Bg (step a) m (m a)):∀k a,Bg (moreW W w step k a) m (m a):=by
 intro k;induction k with
 |zero=>exactλa=>Bg.out
 |succ k ih=>exactλa=>Cn (Bg.bind m (m a) 0 (h a) (λx=>ih x) (by omega)) (Bg.pure (nR _))
section
open Rd
variable (hn:Al l)(W:List Bs)(day:Bs->Int){block:Rd l Bl}
def Ju:Bg (B5 hn day n) Ex.nodes 0:=Bg.of λi=>IQ (l:=l) day n i
def Hv:Bg (GO hn day n) Fo.nodes 0:=Bg.of λi=>Kt (λq=>IQ (l:=l) day n q) i
def NF:Bg (L1 hn day n) Ex.nodes 0:=Bg.of λi=>M6 (λq=>IQ (l:=l) day n q) i
def BO{q:Ex->Rd l α}{m:α->Nat}(hq:∀x,Bg (q x) m (x.nodes+c)):Bg ((B5 hn day n).bind q) m c:=Bg.bind Ex.nodes 0 c (Ju hn day) hq (by omega)
def Hw:Bg (Ip hn day n) Fo.nodes 0:=NE (Bg.pure (nR _)) (BO hn day λx=>Bg.pure (by rw[Fo.nodes_one];omega))
def I0(a:List Bs×Fo):Bg (FY hn day n a) (λp=>p.2.nodes) a.2.nodes:=
 Ch λs=>Bg.bind Ex.nodes 1 a.2.nodes (C5 ((Ju hn day).le (by omega)) (Bg.pure (by simp[C6,Ex.nodes,Fo.nodes]))) (λx=>Bg.pure (by simp only[Fo.nodes_snoc];omega)) (by omega)
def Se(w:Bs):Bg (D9 hn day n w) sb 1:=
 Bg.bind (λp=>p.2.nodes) 0 1 ((I0 hn day ([],.nil)).le (by simp[Fo.nodes])) (λa=>Bg.bind (λp=>p.2.nodes) a.2.nodes 1 (KR (m:=λp:List Bs×Fo=>p.2.nodes) (I0 hn day) n a) (λa=>Ap AI (Bg.pure (by simp[sb,Sd.nodes,sd0,Fo.nodes,Bl.nodes];omega))) (by omega)) (by omega)
abbrev pb(a:Fo×Bl):Nat:=a.1.nodes+a.2.nodes
def Ll(hb:Bg block Bl.nodes 0)(a:Fo×Bl):Bg (D0 hn day n block a) pb (pb a):=
 BO hn day λx=>Ap AI (Bg.bind Bl.nodes 0 (x.nodes+pb a) hb (λb=>Bg.pure (by simp only[pb,Fo.nodes_snoc,Bl.nodes_app,Bl.nodes];omega)) (by omega))
def Nd(hb:Bg block Bl.nodes 0)(more other last:Bs):Bg (Ew hn W day n block more other last) sb 1:=
 Bg.bind pb 0 1 ((Ll hn day hb (.nil,.nil)).le (by simp[pb,Fo.nodes,Bl.nodes])) (λa=>Bg.bind pb (pb a) 1 (NP (m:=pb) (Ll hn day hb) n a) (λa=>
  Bg.bind Bl.nodes a.2.nodes (a.1.nodes+1) (Cn (Ap AI (Bg.bind Bl.nodes 0 a.2.nodes hb (λb=>Bg.pure (by simp only[Bl.nodes_app,Bl.nodes];omega)) (by omega))) (Bg.pure (nR _)))
   (λb=>Ap BH (Ap AI (Bg.pure (by simp[sb,Sd.nodes,sd0,Fo.nodes];omega)))) (by simp only[pb];omega)) (by omega)) (by omega)
def bg_do(hb:Bg block Bl.nodes 0):Bg (doP hn W day n block) sb 1:=
 Cn (Ap AI (Ap BH ((Nd hn W day hb _ _ _).le (by omega))))
  (Cn (Bg.bind pb 0 1 ((Ll hn day hb (.nil,.nil)).le (by simp[pb,Fo.nodes,Bl.nodes])) (λa=>Ap BH (Ap AI (Bg.pure (by simp[sb,pb,Sd.nodes,sd0,Fo.nodes];omega)))) (by omega))
   (Ch λs=>Bg.bind Fo.nodes 0 1 (Cn ((Hv hn day).le (by omega)) (Bg.pure (by simp[Fo.nodes]))) (λf=>Ap AI (Bg.pure (by simp[sb,Sd.nodes,sd0,Fo.nodes,Bl.nodes];omega))) (by omega)))
def XP(hb:Bg block Bl.nodes 0):Bg (EU hn W day n block) sb 1:=
 Ch λs=>Ap EI (BO hn day λx=>Ap BH (BO hn day λy=>Bg.bind Ex.nodes 1 (y.nodes+x.nodes+1) (Cn ((Ju hn day).le (by omega)) (Bg.pure (by simp[A7,Ex.nodes,Fo.nodes])))
  (λz=>Ap AI (Bg.bind Bl.nodes 0 (z.nodes+y.nodes+x.nodes+1) hb (λb=>Ap BH (Ap AI (Bg.pure (by simp[sb,Sd.nodes,sd0,Fo.nodes,Bl.nodes,Fo.nodes_snoc,Fo.nodes_one];omega)))) (by omega))) (by omega)))
def VG(hb:Bg block Bl.nodes 0):Bg (EN hn W block) sb 1:=
 Ap BH (Ap AI (Bg.bind Bl.nodes 0 1 hb (λb=>Bg.bind (λr=>r.2.nodes) b.nodes 1
  (Cn (Bg.bind (λ_=>0) 0 b.nodes (Cn (NQ hn) (Bg.pure (nR _))) (λs=>Ap AI (Bg.bind Bl.nodes 0 b.nodes hb (λc=>Bg.pure (by simp[Bl.nodes];omega)) (by omega))) (by omega))
   (Bg.pure (by simp[Bl.nodes]))) (λr=>Ap BH (Ap AI (Bg.pure (by simp[sb,Sd.nodes,sd0,Fo.nodes];omega)))) (by omega)) (by omega)))
def ScM.nodes(c:ScM):Nat:=c.n.nodes+c.f.nodes+c.w.nodes
def Re(s:Sd)(c:ScM):(Db s c).nodes<=s.nodes+c.nodes:=by simp only[Db,Sd.nodes,ScM.nodes];omega
def VJ:∀k c,Bg (By hn W day n k c) ScM.nodes c.nodes:=by
 intro k;induction k with
 |zero=>exactλc=>Bg.out
 | succ k ih=>
   intro c;unfold By;refine NE (Bg.pure (nR _)) (Gd λw=>CU (Bk (CU (BO hn day λx=>(ih _).le ?_) ((ih _).le ?_))) (CU (Bk (BO hn day λx=>(ih _).le ?_)) (CU (Bk (BO hn day λx=>(ih _).le ?_)) (Bg.pure (nR _)))));all_goals(simp only[ScM.nodes,Fo.nodes_one];omega)
def Tx:Bg (By hn W day n n Cm) ScM.nodes 0:=(VJ hn W day n Cm).le (by simp[Cm,ScM.nodes,Fo.nodes])
def J9{s:Sd}(h:s.nodes<=c):Bg ((By hn W day n n Cm).bind λk=>pure (Db s k)) Sd.nodes c:=
 Bg.bind ScM.nodes 0 c (Tx hn W day) (λk=>Bg.pure (by have:=Re s k;omega)) (by omega)
def Mg(a:List Bs×Fo):Bg (EG hn W day n a) (λp=>p.2.nodes) a.2.nodes:=
 Ch λs=>Ap BH (BO hn day λx=>Bg.pure (by simp only[Fo.nodes_snoc];omega))
def VH(s:Sd)(hs:s.nodes=0):Bg (F5 hn W day n s) Sd.nodes 0:=by
 have h0:s.n.nodes=0/\s.f.nodes=0/\s.w.nodes=0:=by simp only[Sd.nodes]at hs;omega
 refine Ap BH (BO hn day λx=>Ap BH (Ch λp=>Bg.bind Fo.nodes x.nodes 0 (Cn (BO hn day λy=>Bg.pure (by rw[Fo.nodes_two];omega)) (Bg.pure (by rw[Fo.nodes_one];omega))) (λf=>Gd λw=>?_) (by omega)));refine Bg.bind (λ_=>0) 0 f.nodes (CU (Bk (Bg.pure (nZ _))) (Bg.pure (nZ _))) (λt=>?_) (by omega);refine Bg.bind (λ_=>0) 0 f.nodes (Cn (Bg.pure (nZ _)) (Bg.pure (nZ _))) (λps=>Bg.pure ?_) (by omega);simp only[Sd.nodes];omega
def Sf(s:Sd)(hs:s.nodes=0):Bg (Fr hn W day n s) Sd.nodes 0:=by
 have h0:s.x.nodes=0/\s.n.nodes=0/\s.f.nodes=0/\s.w.nodes=0:=by simp only[Sd.nodes]at hs;omega
 refine Gd λw=>CU (Bk (Gd λt=>CU (Bk (Bg.pure ?_)) Bg.bad)) (CU (Bk (Ap BH (EH (Bg.pure ?_) (CU (Ch λp=>Bg.pure ?_) (CU (BO hn day λx=>Bg.pure ?_) (BO hn day λx=>Ap BH (Ch λp=>Bg.pure ?_))))))) Bg.bad);all_goals(simp only[Sd.nodes,Fo.nodes_one];omega)
def bg_go(s:Sd)(hs:s.nodes=0):Bg (goP hn W day n s) Sd.nodes 0:=by
 have h0:s.x.nodes=0/\s.n.nodes=0/\s.f.nodes=0/\s.w.nodes=0:=by simp only[Sd.nodes]at hs;omega
 refine Gd λw=>EH (Bk (Bg.pure ?_)) (BO hn day λx=>Bg.pure ?_);all_goals(simp only[Sd.nodes,Fo.nodes_one];omega)
def UT(k:Int)(w:Bs):(sd0 k w).nodes=0:=rfl
def Mn(w:Bs):Bg (BA hn W day n w) Sd.nodes 0:=by
 unfold BA;have hz:=UT 13 w;repeat' refine CU ?_ ?_
 ·exact Ch λp=>Bg.pure (by simp[Sd.nodes,sd0,Fo.nodes])
 ·exact EH (Bg.pure (by omega)) (Ch λp=>Bg.bind (λ_=>0) 1 0 (Cn (Ch λq=>Bg.pure (nZ _)) (Bg.pure (nZ _))) (λps=>Bg.pure (by simp[Sd.nodes,sd0,Fo.nodes])) (by omega))
 ·exact bg_go hn W day _ hz
 ·exact Bg.bind Fo.nodes 0 0 (Hw hn day) (λx=>Bg.pure (by simp[Sd.nodes,sd0,Fo.nodes])) (by omega)
 ·exact BO hn day λx=>Bg.pure (by simp[Sd.nodes,sd0,Fo.nodes,Fo.nodes_one])
 ·exact Bg.pure (by omega)
 ·exact Ap BH (Bg.pure (by omega))
 ·exact J9 hn W day (by omega)
 ·exact Bg.bind (λp=>p.2.nodes) 0 0 (Mg hn W day ([],.nil)) (λa=>Bg.bind (λp=>p.2.nodes) a.2.nodes 0 (KR (m:=λp:List Bs×Fo=>p.2.nodes) (Mg hn W day) n a) (λa=>J9 hn W day (by simp[Sd.nodes,sd0,Fo.nodes])) (by omega)) (by omega)
 ·exact Ap BH (Ch λp=>J9 hn W day (by simp[Sd.nodes,sd0,Fo.nodes]))
 ·exact BO hn day λx=>Ap BH (Ch λp=>J9 hn W day (by simp[Sd.nodes,sd0,Fo.nodes,Fo.nodes_one];omega))
 ·exact VH hn W day _ hz
 ·exact Sf hn W day _ hz
def XS(hb:Bg block Bl.nodes 0)(w:Bs):Bg (Bw hn W day n block w) sb 0:=by
 unfold Bw;repeat' refine CU ?_ ?_
 ·exact Bk (Se hn day w)
 ·exact Bk (Nd hn W day hb _ _ _)
 ·exact Bk (bg_do hn W day hb)
 ·exact Bk (XP hn W day hb)
 ·exact Bk (Ap AI (Bg.pure (by simp[sb,Sd.nodes,sd0,Fo.nodes,Bl.nodes])))
 ·exact Bk (Ap AI (Bg.pure (by simp[sb,Sd.nodes,sd0,Fo.nodes,Bl.nodes])))
 ·exact Bk (Bg.bind Fo.nodes 0 1 (Hw hn day) (λx=>Ap AI (Bg.pure (by simp[sb,Sd.nodes,sd0,Fo.nodes,Bl.nodes];omega))) (by omega))
 ·exact Bk (Bg.bind Fo.nodes 0 1 (Hw hn day) (λx=>Ap AI (Bg.pure (by simp[sb,Sd.nodes,sd0,Fo.nodes,Bl.nodes];omega))) (by omega))
 ·exact Bk (VG hn W hb)
 ·exact Bk (Bg.bind Sd.nodes 0 1 (Mn hn W day w) (λs=>Ap AI (Bg.pure (by simp only[sb,Bl.nodes];omega))) (by omega))
 ·exact Bg.bad
def J5(t:Ex):Bg (Gw hn day n t) sb t.nodes:=
 Bg.bind AJ 0 t.nodes (C5 (Bg.pure (by simp only[AJ];omega)) EI) (λ_=>BO hn day λx=>Ap AI (Bg.pure (by simp[sb,Sd.nodes,sd0,Fo.nodes,Bl.nodes,Fo.nodes_two];omega))) (by omega)
def Nf:Bg (On hn day n) Fo.nodes 0:=
 C5 (Bg.pure (by simp[Fo.nodes])) (Bg.bind Fo.nodes 0 0 (Hv hn day) (λf=>Ap EI (Bg.pure (by omega))) (by omega))
def XV(s:Bs):Bg (Ir hn day n s) sb 1:=
 C5 (Bg.bind Fo.nodes 0 2 (Nf hn day) (λf=>Ap AI (Bg.pure (by simp[sb,Sd.nodes,sd0,Fo.nodes,Bl.nodes,Fo.nodes_one,Ex.nodes];omega))) (by omega))
  (C5 (BO hn day λx=>Ap EI ((J5 hn day _).le (by simp only[Eg,AH,Ex.nodes,Fo.nodes_two,Fo.nodes];omega)))
   (C5 (Ch λt=>(J5 hn day _).le (by simp only[AH,Ex.nodes,Fo.nodes_one,Fo.nodes];omega)) ((J5 hn day _).le (by simp only[AH,Ex.nodes,Fo.nodes];omega))))
def VI:Bg (EP hn day n) sb 0:=
 C5 (Bg.bind Fo.nodes 0 1 (EH (Bg.pure (by simp[Fo.nodes])) (Hv hn day)) (λx=>Ap AI (Bg.pure (by simp[sb,Sd.nodes,sd0,Fo.nodes,Bl.nodes];omega))) (by omega))
  (EH (Bg.bind Ex.nodes 0 0 (NF hn day) (λt=>(J5 hn day t).le (by omega)) (by omega)) (Ch λs=>XV hn day s))
def XU(hb:Bg block Bl.nodes 0):Bg (BL hn W day n block) sb 0:=λi a j e=>by
 have e':(if Bp l W i=[]then EP hn day n else Bw hn W day n block (Bp l W i)).f i= .ok a j:=e
 split at e'
 ·exact VI hn day i a j e'
 ·exact XS hn W day hb _ i a j e'
end
section
open Rd
variable (hn:Al l)(W:List Bs)(day:Bs->Int)
def PZ{st:Rd l StB}(h:Bg st sb 0):∀k a,Bg (DF W st k a) Bl.nodes a.nodes:=by
 intro k;induction k with
 |zero=>exactλa=>Bg.out
 |succ k ih=>exactλa=>Ho (Bg.bind sb 0 a.nodes h (λr=>(ih _).le (by simp only[sb,Bl.nodes_app,Bl.nodes];omega)) (by omega)) (Bg.pure (nR _))
def ND:∀n,Bg (Dx hn W day n) Bl.nodes 0:=by
 intro n;induction n with
 |zero=>exact Bg.out
 |succ n ih=>exact PZ W (XU hn W day ih) n .nil
def Cg(a:List Pq):Nat:=(a.map λp=>p.2.2.2.nodes).sum
def Pe(a:List Pq)(p:Pq):Cg (a++[p])=Cg a+p.2.2.2.nodes:=by simp[Cg]
def XQ(n:Nat)(a:List Pq)(fn:Bool):Bg (El hn W day n a fn) Cg (Cg a):=by
 refine Ch λs=>Bg.bind (λ_=>0) 0 (Cg a) ?_ (λp=>Ap AI (Bg.bind Bl.nodes 0 (Cg a) (ND hn W day n) (λb=>Bg.pure (by rw[Pe];show Cg a+b.nodes<=b.nodes+Cg a;omega)) (by omega))) (by omega);refine C5 (C5 (Bg.pure (nZ _)) (Bg.bind (λ_=>0) 0 0 ?_ (λp=>Ap EI (Bg.pure (nZ _))) (by omega))) (Bg.pure (nZ _));intro i p j e;have h:=Ke (l:=l) (n:=n) i;rw[show CG l n i= .ok p j from e]at h;simp only[Big,AJ]at h;show 0+i<=j+0;omega
def Rl(n:Nat):∀k a,Bg (DD hn W day n k a) Cg (Cg a):=by
 intro k;induction k with
 |zero=>exactλa=>Bg.out
 |succ k ih=>exactλa=>Ho (Gd λw=>CU (Bk (Bg.bind Cg (Cg a) 0 (XQ hn W day n a _) (λa=>ih a) (by omega))|> λh=>h.le (nR _)) Bg.bad) (Bg.pure (nR _))
def XR(n:Nat):Bg (BY hn W day n) Cg 0:=
 Bg.bind Bl.nodes 0 0 (ND hn W day n) (λb=>(Rl hn W day n n _).le (by simp[Cg])) (by omega)
end
structure Pd where
 name:Bs
 fn:Bool
 p:List Bs
 body:Bl
def pdC(h:Pd)(pv bv:Value):List Value:=[str h.name,.bool h.fn,pv,bv]
def RepP(ok:Nat->Prop)(w:World):List Pd->List Value->Prop
 | [],cs=>cs=[]
 |h::r,cs=>∃pa ba,∃pc bc,∃rest,cs=pdC h (.slice pa h.p.length pc) (.slice ba h.body.len bc)++rest/\Cells w (.slice pa h.p.length pc) 1 h.p.length (h.p.map str) ok/\RepV ok w false (.slice ba h.body.len bc) h.body/\RepP ok w r rest
def RepQ(ok:Nat->Prop)(w:World)(v:Value)(l:List Pd):Prop:=∃cs,Cells w v 4 l.length cs ok/\RepP ok w l cs
def RepP.gb(g:w.grownBy w1 r)(hk:∀k,ok k->k<w.heap.size->some k≠r):∀{l:List Pd}{cs:List Value},RepP ok w l cs->RepP ok w1 l cs:=by
 intro l;induction l with
 |nil=>intro cs h;exact h
 | cons a s ih=>
   rintro cs ⟨pa,ba,pc,bc,rest,e,h1,h2,h3⟩;exact⟨pa,ba,pc,bc,rest,e,h1.gb g hk,h2.gb g hk,ih h3⟩
def RepQ.gb{l:List Pd}(h:RepQ ok w v l)(g:w.grownBy w1 r)(hk:∀k,ok k->k<w.heap.size->some k≠r):RepQ ok w1 v l:=by
 obtain⟨cs,h1,h2⟩:=h;exact⟨cs,h1.gb g hk,h2.gb g hk⟩
def RepP.elem{h:Pd}{r:List Pd}(hc:∀j u,cs[j]? =some u->∃g o,la=some ⟨g,o,none⟩/\ok g/\w.cell? ⟨g,o+j,none⟩=some u)
 (hr:RepP ok w (h::r) (cs.drop (k*4))):∃pa ba,∃pc bc,Cells w (.slice pa h.p.length pc) 1 h.p.length (h.p.map str) ok/\RepV ok w false (.slice ba h.body.len bc) h.body/\RepP ok w r (cs.drop ((k+1)*4))/\
  ∀i u,(pdC h (.slice pa h.p.length pc) (.slice ba h.body.len bc))[i]? =some u->∃g o,la=some ⟨g,o,none⟩/\ok g/\w.cell? ⟨g,o+(k*4+i),none⟩=some u:=by
 obtain⟨pa,ba,pc,bc,rest,e,h1,h2,h3⟩:=hr;exact⟨pa,ba,pc,bc,h1,h2,(K2 (n:=4) rfl e) ▸ h3,λi u hu=>hc _ u (KG e hu)⟩
def OR(k:Nat)(w:World):Prop:=∃a n c,Blk w k [.slice a n c] 41
def VT(k:Nat)(v:Value)(w:World):(callFunc 212 (#[v]++#[.pointer (some ⟨k,0,none⟩)])).run Tryz.prog w= .ok (.enter 212 (#[v]++#[.pointer (some ⟨k,0,none⟩)])) w:=by kernel_rfl
def Wm(n:Nat)(h0:0<n)(hn:n<=1000000)(w:World):Calls Tryz.prog 216 #[.slice none 0 0,.int .i64 n] w λe w'=>∃v,e= .returned v/\w'.ownsRow w.heap.size 163 7 v 0 []/\w.grownBy w' none:=by
 obtain⟨i0,hi,hz0,hz1,hz2⟩:=info_parts CJ;refine(Any8.slices_Grow_grow growExpr i0 _ hi hz0 (by rw[hz1];decide) none 0 0 n [] w (nR _) (by omega) (by rw[hz2];omega) (by omega) (by simp) (λ_=>rfl) (by simp)).mono ?_;rintro e w' ⟨rfl,rfl⟩;refine⟨_,rfl,?_,?_⟩
 ·refine⟨rfl,.inr ⟨w.heap.size,_,_,rfl,nR _,heap_alloc_new _ _,nZ _,?_,?_,?_⟩⟩
  ·exact grownCap_le_maxLen _ _ _ _ (by unfold maxLen;omega)
  ·have hge:=grownCap_ge w (0+n) 0 (Tryz.growExpr_ren.t 25);generalize grownCap w (0+n) 0 (Tryz.growExpr_ren.t 25)=c at*;rw[Array.size_append,Array.size_append,size_zeroCells,size_zeroCells];have e7:(Value.agg #[Value.int .i64 0,str [],Value.int .i64 0,Value.int .i64 0,str [],Value.slice none 0 0,Value.slice none 0 0]).cells.size=7:=rfl;rw[e7];simp;omega
  ·simp
 ·exact Ac (Ad (Aa _ _)) _
section
variable {w':World}{pre pre':List Tok}{r:St}{t:Tok}{l:Bool}{ov:Value}
end
def DA(a:List Bl):Nat:=a.foldr (λb n=>max b.levels n) 0
def Jo(a:List Bl):Nat:=a.foldr (λb n=>b.nodes+n) 0
def Da(l:List Pd):Nat:=Jo (l.map Pd.body)
def Pi(a:Pd)(r:List Pd):Da (a::r)=a.body.nodes+Da r:=rfl
def Lr:58≠5:=by decide
def YW{W:World}{c:Cd}(h:(W.cell? ⟨H,0,none⟩=some (.int .i64 c.op)/\W.cell? ⟨H,1,none⟩=some (.int .i64 c.a)/\W.cell? ⟨H,2,none⟩=some (.int .i64 c.b)/\W.cell? ⟨H,3,none⟩=some (str c.s))/\w0.grownBy W none)(g:W.grownBy W1 none):
 (W1.cell? ⟨H,0,none⟩=some (.int .i64 c.op)/\W1.cell? ⟨H,1,none⟩=some (.int .i64 c.a)/\W1.cell? ⟨H,2,none⟩=some (.int .i64 c.b)/\W1.cell? ⟨H,3,none⟩=some (str c.s))/\w0.grownBy W1 none:=
 ⟨⟨Ae g h.1.1,Ae g h.1.2.1,Ae g h.1.2.2.1,Ae g h.1.2.2.2⟩,Z h.2 g⟩
def Jk{W:World}{x:Value}(f:FRb W W1 b v)(c:W.cell? ⟨H,i,none⟩=some x)(hb:H≠b)(hv:v.ownBlock≠some H):W1.cell? ⟨H,i,none⟩=some x:=
 (World.cell?_of_block (f.block H (bY W _ c) hb hv)).trans c
def YV{W:World}{c:Cd}(h:(W.cell? ⟨H,0,none⟩=some (.int .i64 c.op)/\W.cell? ⟨H,1,none⟩=some (.int .i64 c.a)/\W.cell? ⟨H,2,none⟩=some (.int .i64 c.b)/\W.cell? ⟨H,3,none⟩=some (str c.s))/\w0.grownBy W none)(f:FRb W W1 b v)(hb:H≠b)(hv:v.ownBlock≠some H)(ho:∀k,v.ownBlock=some k->b<k)(h0:w0.heap.size<=b):
 (W1.cell? ⟨H,0,none⟩=some (.int .i64 c.op)/\W1.cell? ⟨H,1,none⟩=some (.int .i64 c.a)/\W1.cell? ⟨H,2,none⟩=some (.int .i64 c.b)/\W1.cell? ⟨H,3,none⟩=some (str c.s))/\w0.grownBy W1 none:=
 ⟨⟨Jk f h.1.1 hb hv,Jk f h.1.2.1 hb hv,Jk f h.1.2.2.1 hb hv,Jk f h.1.2.2.2 hb hv⟩,f.below ho h0 rfl h.2⟩
def Ko{W:World}{A:Prop}{n:Int}(h:A/\w0.grownBy W none)(hp:Pow w0)(hn:A5 n):Calls Tryz.prog 32 #[.int .i64 n] W (ρ W (str (Lib.itoa n))):=Jb (hp.gb h.2) n hn.1 hn.2
def Uf{us:List Un}(h:VU ok w v us)(hb:Bq us<=100000000)(hw:WideUs us)(hp:Pow w):
 Calls Tryz.prog 19 #[v] w (ρ w (str (AG us))):=by
 obtain⟨a,cap,rfl,hle,hmx,hat⟩:=h.open;have hlen:us.length<=100000000:=by unfold Bq at hb;omega
 have HA:=S hat;have HP:=S (X hp (X hw hb));have H0:=S (X (Bld.new w) (gZ w (.cells [.pointer none,.slice none 0 0].toArray 86 (0,0)) none));clear hat hle hmx h hw hb hp;go_enter func19,ntmps19;go_wp2_with fail;go_loopg [5,7,9,12] us.length (λg v5 v7 v9 v12 wr=>∃k:Nat,∃p v:Value,k+g=us.length/\v12= .int .i64 k/\Bld wr w.heap.size p v (Bv BM us k)/\w.grownBy wr none)
 case atStart=>exact⟨0,_,_,by omega,rfl,H0.1.1,H0.1.2⟩
 case round=>
  obtain⟨k,p,v,hk,rfl,hB,hG⟩:=hrel;clear H0;cases gk with
  | zero=>
    have hkl:k=us.length:=by omega
    have hj1:decide (k<us.length)=false:=by simp;omega
    subst hkl;have HB:=S (X hB hG);clear hB hG;go_wp2_with fail;refine mR (TN HB.1.1) λw3 g3=>?_;have HD:=S (g3 _ HB.1.2 (nR _));clear g3;go_wp2;go_ret;exact⟨rfl,HD.1⟩
  | succ gk=>
    have hkl:k<us.length:=by omega
    have hj1:decide (k<us.length)=true:=by simp;omega
    obtain⟨u,hu⟩:∃u,us[k]? =some u:=⟨_,B4 hkl⟩;obtain⟨g,o,ra,rc,ca,cc,rfl,_,hgl,c0,c1,c2,hrow,hcode⟩:=HA.1 k u hu;have d0:=Ae hG c0;have d1:=Ae hG c1;have d2:=Ae hG c2;have hL:=RD HP.1.2.1 k (by omega);have hbb:=HP.1.2.2;have hwu:=HP.1.2.1 u (IC hu);have huw:=ZG hu;have hwd:wtU u=u.name.length+u.row.length+pfx wtC u.code u.code.length:=rfl;have hnl:u.name.length<=100000000:=by omega
    have hrl:u.row.length<=100000000:=by omega
    have hql:=Js u.name;have hql2:(qtM u.name).length<=300000002:=by omega
    have hcl1:¬(9223372036854775807<5+(qtM u.name).length):=by omega
    have hcdl:u.code.length<=100000000:=by
     have h4:=E5 wtC u.code (nR u.code.length);have h5:∀j,j<=u.code.length->j<=pfx wtC u.code j:=by
      intro j;induction j with
      |zero=>intro _;exact nZ _
      |succ j ih=>intro hj;rw[DC (B4 hj)];have:=ih (by omega);have h6:wtC u.code[j]=3+u.code[j].s.length:=rfl;omega
     have:=h5 _ (nR _);omega
    have HL:=S (X hL (X hbb (X hwu (X huw hwd))));clear hL hbb hwu huw hwd hql c0 c1 c2;have gA:w.grownBy (wr.alloc (.cells [str u.name,.slice ra u.row.length rc,.slice ca u.code.length cc].toArray 58 (0,0))) none:=Ac hG _;have HX:=S (X (Blk.new wr [str u.name,.slice ra u.row.length rc,.slice ca u.code.length cc] 58) (X gA (X (hB.gbN (gZ wr (.cells [str u.name,.slice ra u.row.length rc,.slice ca u.code.length cc].toArray 58 (0,0)) none)) (X hrow hcode))));have hgs:=hB.lt;have HU:=S hu;clear hB hG gA hrow hcode;go_wp2_with fail;refine mR (Kj u.name (by omega) _) λw2 g2=>?_;have HY:=S (X (HX.1.1.gb g2 (by simp)) (X (Z HX.1.2.1 g2) (HX.1.2.2.1.gbN g2)));clear g2;go_wp2_with fail;refine(Iz HY.1.2.2 (CR u) ?_).mono ?_
    ·have:=HL.1.1;have:=HL.1.2.1;simp only[CR,lA,List.length_cons,List.length_nil];omega
    rintro e w3 ⟨rfl,p3,v3,hB3,hF3⟩;obtain⟨hX3,hG3⟩:=HY.1.2.2.stepB hF3 HY.1.1 Lr (by omega) HY.1.2.1 (nR _);have e1:=hX3.cell' 1 rfl;have HZ:=S (X hB3 (X hX3 hG3));clear hB3 hF3 hX3 hG3;have HR:=S (X HX.1.2.2.2.1 HX.1.2.2.2.2);go_wp2_with fail;go_loopg [7,24] u.row.length (λg v7 v24 w2=>∃j:Nat,∃p v:Value,j+g=u.row.length/\v24= .int .i64 j/\Bld w2 w.heap.size p v (Bv BM us k++CR u++Bv A3 u.row j)/\Blk w2 wr.heap.size [str u.name,.slice ra u.row.length rc,.slice ca u.code.length cc] 58/\w.grownBy w2 none)
    case atStart=>exact⟨0,_,_,by omega,rfl,by simpa[Bv]using HZ.1.1,HZ.1.2.1,HZ.1.2.2⟩
    case round=>
     obtain⟨j,p4,v4,hj,rfl,hB4,hX4,hG4⟩:=hrel;clear HY HZ HX;by_cases hjl:j<u.row.length
     ·have hjI:decide (j<u.row.length)=true:=by simpa using hjl
      obtain⟨x,hx⟩:∃x,u.row[j]? =some x:=⟨_,B4 hjl⟩;obtain⟨gr,orr,rfl,_,_,t0⟩:=HR.1.1.int hx;have f0:=Ae hG4 t0;have hx64:=HL.1.2.2.1.1 x (IC hx);have hi21:=F6 hx64;have hcl2:¬(9223372036854775807<1+(Lib.itoa x).length):=by omega
      have HJ:=S (X hB4 (X hX4 (X hG4 (X hx64 (JL (f:=A3) hx)))));clear t0 hB4 hX4 hG4 hx64;go_wp2_with fail;refine mR (Jb (HP.1.1.gb HJ.1.2.2.1) x HJ.1.2.2.2.1.1 HJ.1.2.2.2.1.2) λw5 g5=>?_;have HK:=S (X (HJ.1.1.gbN g5) (X (HJ.1.2.1.gb g5 (by simp)) (Z HJ.1.2.2.1 g5)));clear g5;go_wp2_with fail;refine(Iz HK.1.1 (A3 x) ?_).mono ?_
      ·have h1:=HL.1.1;have h2:=HL.1.2.1;have h3:=Jg HL.1.2.2.1 j (by omega);have h4:=Ja u;simp only[A3,lA,List.length_cons];omega
      rintro e w6 ⟨rfl,p6,v6,hB6,hF6⟩;obtain⟨hX6,hG6⟩:=HK.1.1.stepB hF6 HK.1.2.1 Lr (by omega) HK.1.2.2 (nR _);have HM:=S (X hB6 (X hX6 hG6));clear hB6 hF6 hX6 hG6;go_wp2;go_roundg (u.row.length-(j+1))
      case measure=>omega
      case rel=>exact⟨j+1,p6,v6,by omega,by go_num,by rw[HJ.1.2.2.2.2,<-List.append_assoc];exact HM.1.1,HM.1.2.1,HM.1.2.2⟩
     ·have hjI:decide (j<u.row.length)=false:=by simpa using hjl
      have hje:j=u.row.length:=by omega
      subst hje;have HJ:=S (X hB4 (X hX4 hG4));clear hB4 hX4 hG4;go_wp2_with fail;refine(Ix HJ.1.1 ?_ 10).mono ?_
      ·have h1:=HL.1.1;have h2:=HL.1.2.1;have h3:=Jg HL.1.2.2.1 u.row.length (nR _);have h4:=Ja u;simp only[lA];omega
      rintro e w5 ⟨rfl,p5,v5,hB5,hF5⟩;obtain⟨hX5,hG5⟩:=HJ.1.1.stepB hF5 HJ.1.2.1 Lr (by omega) HJ.1.2.2 (nR _);have e2:=hX5.cell' 2 rfl;have HK:=S (X hB5 hG5);clear hB5 hF5 hX5 hG5;go_wp2_with fail;go_loopg [9,37] u.code.length (λg v9 v37 w3=>∃i:Nat,∃p v:Value,i+g=u.code.length/\v37= .int .i64 i/\Bld w3 w.heap.size p v (Bv BM us k++CR u++Bv A3 u.row u.row.length++[10]++Bv AO u.code i)/\w.grownBy w3 none)
      case atStart=>exact⟨0,_,_,by omega,rfl,by simpa[Bv]using HK.1.1,HK.1.2⟩
      case round=>
       obtain⟨i,p6,v6,hi,rfl,hB6,hG6⟩:=hrel;clear HK HJ;by_cases hil:i<u.code.length
       ·have hiI:decide (i<u.code.length)=true:=by simpa using hil
        obtain⟨c,hc⟩:∃c,u.code[i]? =some c:=⟨_,B4 hil⟩;obtain⟨gc,oc,rfl,_,_,t0,t1,t2,t3⟩:=HR.1.2.cd hc;have f0:=Ae hG6 t0;have f1:=Ae hG6 t1;have f2:=Ae hG6 t2;have f3:=Ae hG6 t3;have hwc:=HL.1.2.2.1.2 c (IC hc);have ho1:=F6 hwc.1;have ho2:=F6 hwc.2.1;have ho3:=F6 hwc.2.2;have hcw:=ZF hc;have hcw2:wtC c=3+c.s.length:=rfl;have hsl:c.s.length<=100000000:=by have h1:=HL.1.2.1;have h2:=HL.1.2.2.2.1;omega
        have hq1:=Js c.s;have hcl2:¬(9223372036854775807<(Lib.itoa c.op).length+1):=by omega
        have hcl3:¬(9223372036854775807<(Lib.itoa c.op).length+1+(Lib.itoa c.a).length):=by omega
        have hcl4:¬(9223372036854775807<(Lib.itoa c.op).length+1+(Lib.itoa c.a).length+1):=by omega
        have hcl5:¬(9223372036854775807<(Lib.itoa c.op).length+1+(Lib.itoa c.a).length+1+(Lib.itoa c.b).length):=by omega
        have hcl6:¬(9223372036854775807<(Lib.itoa c.op).length+1+(Lib.itoa c.a).length+1+(Lib.itoa c.b).length+1):=by omega
        have hcl7:¬(9223372036854775807<(Lib.itoa c.op).length+1+(Lib.itoa c.a).length+1+(Lib.itoa c.b).length+1+(qtM c.s).length):=by omega
        have hcl8:¬(9223372036854775807<(Lib.itoa c.op).length+1+(Lib.itoa c.a).length+1+(Lib.itoa c.b).length+1+(qtM c.s).length+1):=by omega
        have HT:=S (show(Bv BM us k++CR u++Bv A3 u.row u.row.length++[10]++Bv AO u.code i).length+(AO c).length<=100000000000 from by
         have h1:=HL.1.1;have h2:=HL.1.2.1;have h3:=Jg HL.1.2.2.1 u.row.length (nR _);have h4:=Ja u;have h5:=MQ HL.1.2.2.1 i (by omega);have h6:=MO hwc;have h7:=HL.1.2.2.2.1;have h8:=HL.1.2.2.2.2;simp only[lA,List.length_cons,List.length_nil];omega)
        have hlt:=hB6.lt;have b4:=Blk.new wr (cdC c) 61;have gA:wr.grownBy (wr.alloc (.cells (cdC c).toArray 61 (0,0))).drew none:=Ad (gZ _ _ none);have HX:=S (show(λW=>(W.cell? ⟨wr.heap.size,0,none⟩=some (.int .i64 c.op)/\W.cell? ⟨wr.heap.size,1,none⟩=some (.int .i64 c.a)/\W.cell? ⟨wr.heap.size,2,none⟩=some (.int .i64 c.b)/\W.cell? ⟨wr.heap.size,3,none⟩=some (str c.s))/\w.grownBy W none) (wr.alloc (.cells (cdC c).toArray 61 (0,0))).drew from⟨⟨b4.cell 0,b4.cell 1,b4.cell 2,b4.cell 3⟩,Z hG6 gA⟩);have HB:=S (X hB6 (X gA (X (JL (f:=AO) hc) (show v6.ownBlock≠some wr.heap.size from λe=>by have:=(hB6.own _ e).2;omega))));have HW:=S hwc;clear hB6 hG6 b4 gA hwc ho1 ho2 ho3 hcw hcw2 hq1 hql2 hcl1;go_wp2_with fail;go_region_held3 (λW=>(W.cell? ⟨wr.heap.size,0,none⟩=some (.int .i64 c.op)/\W.cell? ⟨wr.heap.size,1,none⟩=some (.int .i64 c.a)/\W.cell? ⟨wr.heap.size,2,none⟩=some (.int .i64 c.b)/\W.cell? ⟨wr.heap.size,3,none⟩=some (str c.s))/\w.grownBy W none)
         (first|exact HX.1|exact YW (by assumption) g5|exact YV (by assumption) hF5 (by omega) HB.1.2.2.2 (λq e=>(HB.1.1.own q e).1) (nR _))
         (first| (go_at_call 32;refine(Ko (by assumption) HP.1.1 HW.1.1).mono ?_;rintro e w5 ⟨rfl,g5⟩)| (go_at_call 32;refine(Ko (by assumption) HP.1.1 HW.1.2.1).mono ?_;rintro e w5 ⟨rfl,g5⟩)| (go_at_call 32;refine(Ko (by assumption) HP.1.1 HW.1.2.2).mono ?_;rintro e w5 ⟨rfl,g5⟩)| (go_at_call 46;refine(Kj c.s (by omega) _).mono ?_;rintro e w5 ⟨rfl,g5⟩)| (go_at_call 45;refine(Iz (HB.1.1.gbN (by repeat(first|exact HB.1.2.1| (refine Z ?_ (by assumption))))) (AO c) HT.1).mono ?_;rintro e w5 ⟨rfl,p5,v5,hB5,hF5⟩))
        rename_i hH;have HM:=S (X hB5 hH.2);clear hB5 hF5 hH;go_wp2;go_roundg (u.code.length-(i+1))
        case measure=>omega
        case rel=>exact⟨i+1,p5,v5,by omega,by go_num,by rw[HB.1.2.2.1,<-List.append_assoc];exact HM.1.1,HM.1.2⟩
       ·have hiI:decide (i<u.code.length)=false:=by simpa using hil
        have hie:i=u.code.length:=by omega
        subst hie;have HJ:=S (X hB6 hG6);clear hB6 hG6;go_wp2;go_roundg (us.length-(k+1))
        case measure=>omega
        case rel=>exact⟨k+1,_,_,by omega,by go_num,by rw[JL HU.1];simpa[BM,List.append_assoc]using HJ.1.1,HJ.1.2⟩
end Go.Proofs.YtbjfaimkiclhgaaGreatDoor
