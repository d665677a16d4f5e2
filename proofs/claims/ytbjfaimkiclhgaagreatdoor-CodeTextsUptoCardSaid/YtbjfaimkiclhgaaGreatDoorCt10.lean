/-
  RlE RsB QsA RsC Nodes Pex StA StB StC TxA Plain laws: the text of code is read in one way only. Code: numbers as they are written: Atoi reads what Itoa writes; the program's number. Code: the referenc
-/
import Derived.Test.YtbjfaimkiclhgaaGreatDoorCt05
import Derived.Test.YtbjfaimkiclhgaaGreatDoorCt04
import Derived.Test.YtbjfaimkiclhgaaGreatDoorCt07
import Derived.Test.YtbjfaimkiclhgaaGreatDoorCt08
import Derived.Laws.IdiomStrings
import Derived.Deep.AppendLies
import Derived.Deep.RegionLaw
import Derived.Test.YtbjfaimkiclhgaaGreatDoorCt09
import Derived.Test.YtbjfaimkiclhgaaGreatDoorCt03
import Derived.Test.YtbjfaimkiclhgaaGreatDoorCt02
import Derived.Laws.AppendOwn
import Derived.Laws.OwnMore
import Derived.Test.YtbjfaimkiclhgaaGreatDoorPlain
import Derived.Test.YtbjfaimkiclhgaaGreatDoorCt06
import Derived.Lib.ItoaMem
import Derived.Lib.AtoiAll
set_option linter.all false
set_option maxRecDepth 100000
set_option maxHeartbeats 8000000
namespace Go.Proofs.YtbjfaimkiclhgaaGreatDoor
open Go.Proofs.Tryz
open Go.RowKit
variable{w wr w1:World}{s r r' s':Bs}{H k b i n j pc lc:Nat}{wv tv a0 a1 a2 a3 a4 a5 a6:Value}{L wl:List Bs}{ok:Nat->Prop}{l:List Tok}{α:Type}{opnd E:Nat->Res Ex}{x:Ex}{fn:Func}{p:Tmp}{pa la:Option Addr}{y m:Int}
def Er(s:Bs)(k j:Nat):UInt8:=if j<k then Lib.upperB (bAt s j)else bAt s j
def KD(s:Bs):(Lib.toUpperA s).length=s.length:=by simp[Lib.toUpperA]
def Wu(s:Bs)(j:Nat)(hj:j<(Lib.toUpperA s).length):(Lib.toUpperA s)[j]=Lib.upperB (bAt s j):=by
 have hj':j<s.length:=by rwa[KD]at hj
 simp[Lib.toUpperA,CC hj']
structure CapR(w:World)(s:Bs)(H k:Nat)(wr:World):Prop where
 cell:∀j,j<s.length->wr.cell? ⟨H,j,none⟩=some (.int .u8 (Er s k j).toNat)
 fr:∀j,j<s.length->wr.frozen? ⟨H,j,none⟩=false
 lt:H<wr.heap.size
 g:w.grownBy wr none
def CapR.step(h:CapR w s H k wr)(hH:w.heap.size<=H)(hk:k<s.length):CapR w s H (k+1) (wr.setCell ⟨H,k,none⟩ (.int .u8 (Lib.upperB (bAt s k)).toNat)):=by
 refine⟨λj hj=>?_,λj hj=>by rw[World.frozen?_setCell];exact h.fr j hj,by simpa using h.lt,Af h.g _ _ (.inr hH)⟩;by_cases e:j=k
 ·subst e;rw[World.cell?_setCell_same _ _ _ (h.cell j hj)];simp[Er]
 ·rw[World.cell?_setCell_other _ _ _ _ (by simp[e]),h.cell j hj];have:(j<k+1)=(j<k):=by apply propext;omega
  simp[Er,this]
def NoneF(f:Bool)(x:Bs):Prop:=f=false->x=[]
def Wi(w:World)(L:List Bs)(s:Bs)(e:Ending)(w':World):Prop:=(∃f:Bool,e= .returned (.tuple #[str (ER L s),.bool f])/\NoneF f (ER L s))/\w.grownBy w' none
def CapR.same(h:CapR w s H k wr)(e:Lib.upperB (bAt s k)=bAt s k):CapR w s H (k+1) wr:=by
 refine⟨λj hj=>?_,h.fr,h.lt,h.g⟩;rw[h.cell j hj];have:Er s (k+1) j=Er s k j:=by
  unfold Er;by_cases e1:j=k
  ·subst e1;rw[if_pos (by omega),if_neg (by omega),e]
  ·by_cases e2:j<k
   ·rw[if_pos (by omega),if_pos e2]
   ·rw[if_neg (by omega),if_neg e2]
 rw[this]
def PA(s:Bs)(hs:s.length<=1000000)(w:World):Calls Tryz.prog 221 #[str s] w (ρ w (str (Lib.toUpperA s))):=by
 have hconv:=run_bytes_of_string (P:=Tryz.prog) w 9 84 5 ⟨s.toArray⟩ underlying9 underlying84 underlying5;have hsz:(⟨s.toArray⟩:ByteArray).size=s.length:=by simp[ByteArray.size]
 rw[hsz]at hconv;generalize hcap:grownCap w s.length 0 5=cap at*;have h0:CapR w s w.heap.size 0 (w.drew.alloc (.cells (bytesRow ⟨s.toArray⟩ cap) 5 ((bytesRow ⟨s.toArray⟩ cap).size,(bytesRow ⟨s.toArray⟩ cap).size+1))):=by
  refine⟨λj hj=>?_,λj hj=>?_,by simp,Ac (Ae (Aa _ _)) _⟩
  ·show(w.drew.alloc _).cell? ⟨w.drew.heap.size,j,none⟩=_;rw[World.cell?_alloc_mark,bytesRow_at _ _ _ (by simpa using hj)];simp[Er,CC hj]
  ·show(w.drew.alloc _).frozen? ⟨w.drew.heap.size,j,none⟩=_;rw[World.frozen?_alloc_mark];have:s.length<=(bytesRow ⟨s.toArray⟩ cap).size:=by simp[bytesRow]
   simp;omega
 have H0:=S h0;clear h0 hsz hcap;generalize(w.drew.alloc (.cells (bytesRow ⟨s.toArray⟩ cap) 5 ((bytesRow ⟨s.toArray⟩ cap).size,(bytesRow ⟨s.toArray⟩ cap).size+1)))=W at*;go_enter func221,ntmps221;go_wp2_with fail;go_loopg [10] s.length (λg v10 wr=>∃k:Nat,k+g=s.length/\v10= .int .i64 k/\CapR w s w.heap.size k wr)
 case atStart=>exact⟨0,by omega,rfl,H0.1⟩
 case round=>
  obtain⟨k,hk,rfl,hr⟩:=hrel;clear H0 hconv;cases gk with
  | zero=>
    have hkl:k=s.length:=by omega
    have hj1:decide (k<s.length)=false:=by simp;omega
    have hback:=run_convert_bytes_back (P:=Tryz.prog) wr 84 9 5 ⟨w.heap.size,0,none⟩ cap (Lib.toUpperA s) underlying84 underlying5 underlying9 (by
     intro j hj;have hj':j<s.length:=by rwa[KD]at hj
     have e:(⟨w.heap.size,0,none⟩:Addr).add j=⟨w.heap.size,j,none⟩:=by unfold Addr.add;split<;>simp_all
     rw[e,hr.cell j hj',Wu];simp[Er,hkl,hj'])
    rw[KD]at hback;have HG:=S hr.g;clear hr;go_wp2;go_ret;exact⟨rfl,HG.1⟩
  | succ gk=>
    have hkl:k<s.length:=by omega
    have hj1:decide (k<s.length)=true:=by simp;omega
    have ck:=hr.cell k hkl;have fk:=hr.fr k hkl;have hlt:=hr.lt;have i0:(0:Int)<=(k:Int):=by omega
    have i1:(k:Int)<(s.length:Int):=by omega
    have ek:Er s k k=bAt s k:=by simp[Er]
    rw[ek]at ck;by_cases h:97<=(bAt s k).toNat/\(bAt s k).toNat<=122
    ·have e : ((Lib.upperB (bAt s k)).toNat : Int) = ((bAt s k).toNat : Int) - 32 := by
      have h0:Lib.isLowerB (bAt s k)=true:=by simp[Lib.isLowerB,UInt8.le_iff_toNat_le];omega
      unfold Lib.upperB;rw[if_pos h0,UInt8.toNat_sub_of_le _ _ (by simp[UInt8.le_iff_toNat_le];omega)];simp;omega
     have hR0:=hr.step (nR _) hkl;rw[e]at hR0;have HR:=S hR0;clear hr ek hR0 e;obtain⟨h1,h2⟩:=h;go_wp2;go_roundg gk
     case measure=>omega
     case rel=>exact⟨k+1,by omega,by go_num,HR.1⟩
    ·have e : Lib.upperB (bAt s k) = bAt s k := by
      have h0:Lib.isLowerB (bAt s k)=false:=by
       simp[Lib.isLowerB,UInt8.le_iff_toNat_le];omega
      unfold Lib.upperB;rw[if_neg (by rw[h0];simp)]
     have HR:=S (hr.same e);have hc:(bAt s k).toNat<97\/122<(bAt s k).toNat:=by omega
     clear h e hr ek;rcases hc with h|h
     all_goals
      go_wp2;go_roundg gk
      case measure=>omega
      case rel=>exact⟨k+1,by omega,by go_num,HR.1⟩
def T9(c s:Bs)(hk:w.cell? ⟨k,0,none⟩=some (str s)):
 Calls Tryz.prog 222 #[str c,.pointer (some ⟨k,0,none⟩)] w λe w'=>e= .returned (.bool (decide (4<=s.length)&&s.isPrefixOf c))/\w'=w:=by
 have HP:=S (strings_HasPrefix ⟨c.toArray⟩ ⟨s.toArray⟩ w);by_cases h4:4<=s.length
 ·have h41:decide ((4:Int)<=(s.length:Int))=true:=by simp;omega
  have h42:decide (4<=s.length)=true:=by simpa using h4
  rw[h42];go_enter func222,ntmps222;go_wp2_with fail;refine HP.1.mono ?_;rintro e w1 ⟨rfl,rfl⟩;go_wp2;go_ret;exact⟨by simp[Lib.hasPrefix],rfl⟩
 ·have h41:decide ((4:Int)<=(s.length:Int))=false:=by simp;omega
  have h42:decide (4<=s.length)=false:=by simpa using h4
  rw[h42];go_enter func222,ntmps222;go_wp2;go_ret;exact⟨rfl,rfl⟩
def FA(p:Bs->Bool)(L:List Bs):Int:=match L.findIdx? p with|some i=>i|none=>-1
def Q0(h:SRow w wv L ok)(s:Bs)(hk:w.cell? ⟨k,0,none⟩=some (str s)):
 Calls Tryz.prog 112 #[wv,.func (.func 222) #[] #[.pointer (some ⟨k,0,none⟩)]] w λe w'=>e= .returned (.int .i64 (FA (λc=>decide (4<=s.length)&&s.isPrefixOf c) L))/\w'=w:=by
 obtain⟨a,cap,rfl,hle,hmx,hat⟩:=h;have HA:=S hat;have hmax:L.length<=maxLen:=by omega
 unfold maxLen at hmax;have HF:=S (λc=>T9 c s hk);have eg:∀args w,(callFunc 222 args).run Tryz.prog w= .ok (.enter 222 args) w:=λ_ _=>by kernel_rfl
 clear hat hle hmx hk;generalize hT:FA (λc=>decide (4<=s.length)&&s.isPrefixOf c) L=T;go_enter func112,ntmps112;go_wp2_with fail;go_loopg [8] L.length (λg v8 wr=>∃i:Nat,i+g=L.length/\v8= .int .i64 i/\wr=w/\Hid (∀j,j<i->(decide (4<=s.length)&&s.isPrefixOf (L.getD j []))=false))
 case atStart=>exact⟨0,by omega,rfl,rfl,S (λj hj=>absurd hj (Nat.not_lt_zero j))⟩
 case round=>
  obtain⟨i,hg,rfl,rfl,hno⟩:=hrel;by_cases hi:i<L.length
  ·have hi1:decide (i<L.length)=true:=by simpa using hi
   obtain⟨lb,lo,rfl,_,c0⟩:=HA.1 i hi;have i0:(0:Int)<=(i:Int):=by omega
   have i2:(i:Int)<(L.length:Int):=by omega
   cases hp:(decide (4<=s.length)&&s.isPrefixOf (L.getD i []))with
   | true=>
     have HN:=S (show T=i by
      rw[<-hT];unfold FA;have e:L.findIdx? (λc=>decide (4<=s.length)&&s.isPrefixOf c)=some i:=by
       rw[List.findIdx?_eq_some_iff_getElem];refine⟨hi,?_,λj hj=>?_⟩
       ·have:L.getD i []=L[i]:=by simp[List.getD_eq_getElem?_getD,List.getElem?_eq_getElem hi]
        rw[<-this];exact hp
       ·have hj':j<L.length:=by omega
        have:L.getD j []=L[j]:=by simp[List.getD_eq_getElem?_getD,List.getElem?_eq_getElem hj']
        have h0:=hno.out j hj;rw[this]at h0;simp only[h0];decide
      rw[e])
     have hC:=HF.1 (L.getD i []);rw[hp]at hC;have HC:=S (show Calls Tryz.prog 222 (#[str (L.getD i [])]++#[.pointer (some ⟨k,0,none⟩)]) wr _ from hC);clear hp hno hC HF;generalize L.getD i []=c at*;go_wp2_with (go_at_fn 222;refine HC.1.mono ?_;rintro e w' ⟨rfl,rfl⟩);go_ret;exact⟨by rw[HN.1];rfl,rfl⟩
   | false=>
     have hC:=HF.1 (L.getD i []);rw[hp]at hC;have HC:=S (show Calls Tryz.prog 222 (#[str (L.getD i [])]++#[.pointer (some ⟨k,0,none⟩)]) wr _ from hC);have HN:=S (show ∀j,j<i+1->(decide (4<=s.length)&&s.isPrefixOf (L.getD j []))=false from λj hj=>by
      by_cases e:j=i
      ·subst e;exact hp
      ·exact hno.out j (by omega))
     clear hp hno hC HF;generalize L.getD i []=c at*;go_wp2_with (go_at_fn 222;refine HC.1.mono ?_;rintro e w' ⟨rfl,rfl⟩);go_roundg (L.length-(i+1))
     case measure=>omega
     case rel=>exact⟨i+1,by omega,by go_num,rfl,HN⟩
  ·have hi1:decide (i<L.length)=false:=by simpa using hi
   have HN:=S (show T= -1 by
    rw[<-hT];unfold FA;have e:L.findIdx? (λc=>decide (4<=s.length)&&s.isPrefixOf c)=none:=by
     rw[List.findIdx?_eq_none_iff];intro x hx;obtain⟨j,hj,rfl⟩:=List.getElem_of_mem hx;have:L.getD j []=L[j]:=by simp[List.getD_eq_getElem?_getD,List.getElem?_eq_getElem hj]
     rw[<-this];exact hno.out j (by omega)
    rw[e])
   clear hno;go_wp2;go_ret;exact⟨by rw[HN.1];rfl,rfl⟩
def LQ(L:List Bs)(s:Bs):Lib.containsS (L.map λx=>⟨x.toArray⟩) ⟨s.toArray⟩=L.contains s:=by
 rw[Bool.eq_iff_iff,Lib.containsS_iff,List.contains_iff_mem,List.mem_map];constructor
 ·rintro⟨x,hx,e⟩;have e2:x=s:=by simpa using congrArg (λb:ByteArray=>b.data.toList) e
  subst e2;exact hx
 ·exactλh=>⟨s,h,rfl⟩
def QC(h:SRow w wv L ok)(s:Bs)(hs:s.length<=4000)(hu:Lib.toUpperA s=s)(hp0:0<L.length):
 Calls Tryz.prog 177 #[str s,wv] w (Wi w L s):=by
 have HS:=S (fun(W:World)(g:w.grownBy W none)=>h.gb g (by simp));obtain⟨a,cap,rfl,hle,hmx,hat⟩:=h;obtain⟨lb,lo,rfl,_,_⟩:=hat 0 hp0;have HA:=S (show ∀j,j<L.length->w.cell? ⟨lb,lo+j,none⟩=some (str (L.getD j []))from λj hj=>by
  obtain⟨lb',lo',e,_,c⟩:=hat j hj;cases e;exact c)
 have hmax:L.length<=maxLen:=by omega
 unfold maxLen at hmax;have HC:=S (fun(W:World)=>PA s (by omega) W);rw[hu]at HC;have HB:=S (fun(W:World)(g:w.grownBy W none)=>slices_Contains_string lb lo L.length cap (L.map λx=>⟨x.toArray⟩) ⟨s.toArray⟩ W (by simp) (by omega) (by
  intro j hj;simp at hj;have:=Ad g (HA.1 j hj);rw[this];simp[List.getD,hj]))
 have hmf:∀(fn:Fn)(first cap:Array Value)(w:World),(Instr.makeFunc fn first cap).run Tryz.prog w= .ok (.func fn first cap) w:=λ_ _ _ _=>rfl;clear hat hle hmx hu;have g0:=gZ w (.cells #[str s] 9 (0,0)) none;have hb0:=Blk.new w [str s] 9;go_enter func177,ntmps177;go_wp2_with fail;refine mR (HC.1 _) λw1 g1=>?_;have hb1:=hb0.gb g1 (by simp);have k1:=hb1.cell' 0 rfl;have f1:=hb1.frozen 0;have gs:=Am (Aa w1 (some w.heap.size)) 0 (str s);have hb2:=hb1.set 0 (str s);have k2:=hb2.cell' 0 rfl;have G2:=S (Ap (Z g0 g1) gs (.inr (nR _)));clear hb0 g0 g1 hb1 gs hb2;go_wp2_with fail;refine(HB.1 _ G2.1).mono ?_;rintro e w2 ⟨rfl,rfl⟩;rw[List.take_of_length_le (by simp),LQ];cases hcc:L.contains s with
 | true=>
   have HF:=S (show ER L s=s by unfold ER;rw[hcc,if_pos rfl]);clear hcc;go_wp2;exact bZ (v:= .tuple #[str s,.bool true]) (by simp[results,results177,go_sem]) rfl ⟨⟨true,by rw[HF.1],λh=>by cases h⟩,G2.1⟩
 | false=>
   have HF:=S (show ER L s=if 4<=s.length then(L.find? λw=>s.isPrefixOf w).getD []else []by unfold ER;rw[hcc,if_neg (by simp)]);have HI:=S (Q0 (HS.1 _ G2.1) s k2);clear hcc;go_wp2_with fail;refine HI.1.mono ?_;rintro e w3 ⟨rfl,rfl⟩;cases hf:L.findIdx? (λc=>decide (4<=s.length)&&s.isPrefixOf c)with
   | none=>
     have e1:FA (λc=>decide (4<=s.length)&&s.isPrefixOf c) L= -1:=by unfold FA;rw[hf]
     have HN:=S (show ER L s=[]by
      rw[HF.1];by_cases h4:4<=s.length
      ·rw[if_pos h4];rw[List.findIdx?_eq_none_iff]at hf;have:L.find? (λw=>s.isPrefixOf w)=none:=by
        rw[List.find?_eq_none];intro x hx;have:=hf x hx;simp[h4]at this;simp[this]
       rw[this];rfl
      ·rw[if_neg h4])
     rw[e1];clear hf e1;go_wp2;exact bZ (v:= .tuple #[str [],.bool false]) (by simp[results,results177,go_sem]) rfl ⟨⟨false,by rw[HN.1],λ_=>HN.1⟩,G2.1⟩
   | some i=>
     have e1:FA (λc=>decide (4<=s.length)&&s.isPrefixOf c) L=i:=by unfold FA;rw[hf]
     rw[List.findIdx?_eq_some_iff_getElem]at hf;obtain⟨hi,hp,hbef⟩:=hf;simp only[Bool.and_eq_true,decide_eq_true_eq]at hp;have HN:=S (show ER L s=L.getD i []by
      rw[HF.1,if_pos hp.1];have:L.find? (λw=>s.isPrefixOf w)=some L[i]:=by
       rw[List.find?_eq_some_iff_getElem];refine⟨hp.2,i,hi,rfl,λj hj=>?_⟩;have:=hbef j hj;simp only[hp.1,decide_true,Bool.true_and]at this;simp only[Bool.not_eq_true]at this;rw[this];rfl
      rw[this,List.getD_eq_getElem?_getD,List.getElem?_eq_getElem hi])
     have ci:=Ad G2.1 (HA.1 i hi);have i0:(0:Int)<=(i:Int):=by omega
     have i2:(i:Int)<(L.length:Int):=by omega
     have i3:decide ((i:Int)<0)=false:=by simp
     rw[e1];clear hbef e1;generalize L.getD i []=c at*;go_wp2;exact bZ (v:= .tuple #[str c,.bool true]) (by simp[results,results177,go_sem]) rfl ⟨⟨true,by rw[HN.1],λh=>by cases h⟩,G2.1⟩
def Xb(h:s.all DT=true):Lib.toUpperA s=s:=by
 have hall:∀n:Fin 256,DT (UInt8.ofNat n.val)=true->Lib.upperB (UInt8.ofNat n.val)=UInt8.ofNat n.val:=by decide+kernel
 have h1:∀b:UInt8,DT b=true->Lib.upperB b=b:=λb hb=>by
  have:=hall ⟨b.toNat,b.toNat_lt⟩;simp only[show UInt8.ofNat b.toNat=b by simp]at this;exact this hb
 unfold Lib.toUpperA;rw[List.all_eq_true]at h;exact(List.map_congr_left λb hb=>h1 b (h b hb)).trans (List.map_id s)
section
variable {st:RS}
end
def Big{α:Type}(m:α->Nat)(i:Nat):Res α->Prop
 | .ok a j=>m a+i<=j
 |_=>True
def Big.bind{β:Type}{m:α->Nat}{m':β->Nat}{i':Nat}{r:Res α}{f:α->Nat->Res β}(h:Big m i' r)(hf:∀a j,m a+i'<=j->Big m' i (f a j)):Big m' i (r.bind f):=by
 cases r with
 |ok a j=>exact hf a j h
 |bad k=>trivial
 |out=>trivial
def Fo.nodes_app(f g:Fo):(f.app g).nodes=f.nodes+g.nodes:=by
 induction f with
 |nil=>simp[Fo.app,Fo.nodes]
 |cons h k n _ ih=>simp[Fo.app,Fo.nodes,ih];omega
def Fo.nodes_snoc(f:Fo)(x:Ex):(f.snoc x).nodes=f.nodes+x.nodes:=by simp[Fo.snoc,Fo.nodes_app,Ex.fo,Fo.nodes,Ex.nodes]
def Fo.nodes_one(x:Ex):(Fo.one x).nodes=x.nodes:=by simp[Fo.one,Ex.fo,Fo.nodes,Ex.nodes]
def Fo.nodes_two(x y:Ex):(Fo.two x y).nodes=x.nodes+y.nodes:=by simp[Fo.two,Ex.fo,Fo.nodes,Ex.nodes]
abbrev AJ{α:Type}:α->Nat:=λ_=>1
def DU(s:Bs)(q:Nat):Big AJ q (AW l s q):=by
 unfold AW;split
 ·show 1+q<=q+1;omega
 ·trivial
def XO(q:Nat):Big AJ q (B4 l q):=by
 unfold B4;split
 ·show 1+q<=q+1;omega
 ·trivial
def Ff(q:Nat):Big AJ q (AD l q):=by
 unfold AD;split
 ·show 1+q<=q+1;omega
 ·trivial
def P7(h:∀q,Big Ex.nodes q (opnd q)):∀n x j,x.nodes+i<=j->Big Ex.nodes i (Dg l k opnd n x j):=by
 intro n;induction n with
 |zero=>intro x j _;trivial
 | succ n ih=>
   intro x j h1;unfold Dg;split
   ·exact h1
   ·refine Big.bind (h _) λy q hq=>ih _ _ ?_;simp only[Bq,Ex.nodes,Fo.nodes_two]at hq h1 ⊢;omega
def I9(h:∀q,Big Ex.nodes q (opnd q))(q:Nat):Big Ex.nodes q (Bj l k n opnd q):=
 Big.bind (h q) λx j hj=>P7 h n x j hj
def Xr{un:Nat->Res Ex}(h:∀q,Big Ex.nodes q (un q)):∀n q,Big Ex.nodes q (D2 l un n q):=by
 intro n;induction n with
 |zero=>intro q;trivial
 | succ n ih=>
   intro q;unfold D2;refine Big.bind (h q) λx j hj=>?_;split
   ·exact hj
   ·refine Big.bind (ih _) λy k hk=>?_;simp only[Big,Bq,Ex.nodes,Fo.nodes_two]at hj hk ⊢;omega
def Xj{sum:Nat->Res Ex}(h:∀q,Big Ex.nodes q (sum q)):∀n q,Big Ex.nodes q (Do l sum n q):=by
 intro n;induction n with
 |zero=>intro q;trivial
 | succ n ih=>
   intro q;unfold Do;split
   ·refine Big.bind (ih _) λy k hk=>?_;simp only[Big,unE,Ex.nodes,Fo.nodes_one]at hk ⊢;omega
   ·refine Big.bind (h q) λx j hj=>?_;split
    ·exact hj
    ·refine Big.bind (h _) λy k hk=>?_;simp only[Big,Bq,Ex.nodes,Fo.nodes_two]at hj hk ⊢;omega
def Q1(h:∀q,Big Ex.nodes q (E q)):∀n x j,x.nodes+i<=j->Big Ex.nodes i (CH l E n x j):=by
 intro n;induction n with
 |zero=>intro x j _;trivial
 | succ n ih=>
   intro x j h1;unfold CH;split
   ·refine Big.bind (h _) λy q hq=>Big.bind (DU _ _) λ_ k hk=>ih _ _ ?_;simp only[AJ,DY,Ex.nodes,Fo.nodes_two]at hq hk h1 ⊢;omega
   ·exact h1
def SO{prim:Nat->Res Ex}(hE:∀q,Big Ex.nodes q (E q))(hP:∀q,Big Ex.nodes q (prim q)):∀n q,Big Ex.nodes q (CG l E prim n q):=by
 intro n;induction n with
 |zero=>intro q;trivial
 | succ n ih=>
   intro q;unfold CG;split
   ·refine Big.bind (ih _) λy k hk=>?_;simp only[Big,unE,Ex.nodes,Fo.nodes_one]at hk ⊢;omega
   ·exact Big.bind (hP q) λx j hj=>Q1 hE n x j hj
def PC(h:∀q,Big Ex.nodes q (E q)):∀n f j,f.nodes+i<=j->Big Fo.nodes i (Dh l E n f j):=by
 intro n;induction n with
 |zero=>intro x j _;trivial
 | succ n ih=>
   intro x j h1;unfold Dh;split
   ·refine Big.bind (h _) λy q hq=>ih _ _ ?_;rw[Fo.nodes_snoc];omega
   ·exact h1
def Ka(h:∀q,Big Ex.nodes q (E q))(q:Nat):Big Fo.nodes q (Dd l E n q):=
 Big.bind (h q) λx j hj=>PC h n _ j (by rw[Fo.nodes_one];exact hj)
def Pf:∀n f j,1+i<=j->Big AJ i (Dj l n f j):=by
 intro n;induction n with
 |zero=>intro x j _;trivial
 | succ n ih=>
   intro x j h1;unfold Dj;split
   ·exact Big.bind (Ff _) λy q hq=>ih _ _ (by simp only[AJ]at hq;omega)
   ·exact h1
def JK(q:Nat):Big AJ q (CF l n q):=
 Big.bind (Ff _) λx j hj=>Pf n _ j hj
def TR(hE:∀q,Big Ex.nodes q (E q))(q:Nat):Big Ex.nodes q (DH l E n q):=by
 unfold DH;refine Big.bind (Ff _) λs j hj=>Big.bind (DU _ _) λ_ k hk=>?_;split
 ·simp only[Big,AJ,Ex.nodes,Fo.nodes]at hj hk ⊢;omega
 ·refine Big.bind (Ka hE _) λf p hp=>Big.bind (DU _ _) λ_ r hr=>?_;simp only[Big,AJ,Ex.nodes,Fo.nodes]at hj hk hp hr ⊢;omega
def Mr(hE:∀q,Big Ex.nodes q (E q))(q:Nat):Big Ex.nodes q (DD l E q):=by
 unfold DD;refine Big.bind (DU _ _) λs j hj=>?_;split
 ·refine Big.bind (hE _) λf p hp=>Big.bind (DU _ _) λ_ k hk=>?_;simp only[Big,AJ,Ex.nodes,Fo.nodes_one]at hj hk hp ⊢;omega
 ·refine Big.bind (Ff _) λs p hp=>?_;simp only[Big,AJ,Ex.nodes,Fo.nodes]at hj hp ⊢;split<;>omega
def QR(hE:∀q,Big Ex.nodes q (E q))(q:Nat):Big Ex.nodes q (DO l E n q):=by
 unfold DO;split
 ·have h1 : Big AJ (q + 1) (if Ah (Ab l (q + 1)) [124] then (.ok [] (q + 2) : Res (List Bs)) else (CF l n (q + 1)).bind λp j => (AW l [124] j).bind λ_ j => .ok p j) := by
   split
   ·show 1+(q+1)<=q+2;omega
   ·refine Big.bind (JK _) λp j hj=>Big.bind (DU _ _) λ_ k hk=>?_;simp only[Big,AJ]at hj hk ⊢;omega
  refine Big.bind h1 λp j hj=>Big.bind (hE _) λf p hp=>Big.bind (DU _ _) λ_ k hk=>?_;simp only[Big,AJ,Ex.nodes,Fo.nodes_one]at hj hk hp ⊢;omega
 ·refine Big.bind (Ka hE _) λf p hp=>Big.bind (DU _ _) λ_ k hk=>?_;simp only[Big,AJ,Ex.nodes]at hk hp ⊢;omega
def R7(hE:∀q,Big Ex.nodes q (E q))(q:Nat):Big Ex.nodes q (Ep l E n q):=by
 unfold Ep;split
 ·exact Mr hE q
 split
 ·simp only[Big,A6,Ex.nodes,Fo.nodes];omega
 split
 ·simp only[Big,A6,Ex.nodes,Fo.nodes];omega
 split
 ·simp only[Big,A6,Ex.nodes,Fo.nodes];omega
 split
 ·refine Big.bind (hE _) λf p hp=>Big.bind (DU _ _) λ_ k hk=>?_;simp only[Big,AJ]at hk hp ⊢;omega
 split
 ·refine Big.bind (Ff _) λs p hp=>?_;simp only[Big,AJ,Ex.nodes,Fo.nodes]at hp ⊢;omega
 split
 ·have h:=QR (n:=n) hE (l:=l) (q+1);revert h;generalize DO l E n (q+1)=r;intro h;cases r with
  |ok a j=>simp only[Big]at h ⊢;omega
  |bad k=>trivial
  |out=>trivial
 ·trivial
def Tf(hE:∀q,Big Ex.nodes q (E q))(q:Nat):Big Ex.nodes q (Et l E n q):=by
 unfold Et;split
 ·exact TR hE q
 refine Big.bind (Ff _) λs j hj=>?_;split
 ·split
  ·refine Big.bind (hE _) λf p hp=>Big.bind (DU _ _) λ_ k hk=>?_;simp only[Big,AJ,Ex.nodes,Fo.nodes_one]at hj hk hp ⊢;omega
  ·refine Big.bind (Ff _) λs p hp=>?_;simp only[Big,AJ,AH,Ex.nodes,Fo.nodes_one,Fo.nodes]at hj hp ⊢;omega
 ·simp only[Big,AJ,AH,Ex.nodes,Fo.nodes]at hj ⊢;omega
def Us{day:Bs->Int}(hE:∀q,Big Ex.nodes q (E q))(q:Nat):Big Ex.nodes q (DK l day E n q):=by
 have hc:∀a b c,Big Ex.nodes q (.ok (A6 a b c) (q+1)):=by
  intro a b c;simp only[Big,A6,Ex.nodes,Fo.nodes];omega
 unfold DK;split
 ·exact hc _ _ _
 split
 ·split
  ·trivial
  ·exact hc _ _ _
 split
 ·exact hc _ _ _
 split
 ·exact Tf hE q
 ·exact R7 hE q
def I6(day:Bs->Int):∀n q,Big Ex.nodes q (Ai l day n q):=by
 intro n;induction n with
 |zero=>intro q;trivial
 | succ n ih=>
   intro q;unfold Ai;exact I9 (I9 λp=>Xj (λp=>I9 (I9 λp=>Xr (λp=>SO ih (λp=>Us ih p) n p) n p) p) n p) q
def U8(day:Bs->Int)(n:Nat)(h:BV l day n= .ok x j):x.nodes+1<=l.length:=by
 have h1:=I6 (l:=l) day n 0;unfold BV at h;cases hr:Ai l day n 0 with
 | ok y i=>
   rw[hr,Res.bind_ok]at h;rw[hr]at h1;have h2:=N4 (l:=l) (o:=True) i;cases he:B4 l i with
   | ok u k=>
     rw[he,Res.bind_ok]at h;rw[he]at h2;cases h;have:=h2.2;have:=h2.1;simp only[Big]at h1;omega
   |bad k=>rw[he]at h;cases h
   |out=>rw[he]at h;cases h
 |bad k=>rw[hr]at h;cases h
 |out=>rw[hr]at h;cases h
def JH(day:Bs->Int)(n:Nat)(hn:l.length+2<=n):BV l day n ≠ .out:=by
 have h:=GS (l:=l) day n 0;unfold BV;cases hr:Ai l day n 0 with
 | ok y i=>
   rw[Res.bind_ok];unfold B4;split<;>simp[Res.bind]
 |bad k=>simp[Res.bind]
 |out=>rw[hr]at h;exact absurd (by omega) h
def CD(s:Bs):Except (Int×Int) (List Tok):=
 if 4000<s.length then .error (0,3)else match Fw s with
  | .ok l=>if 1200<l.length then .error (0,3)else .ok l
  | .bad k=> .error (k,2)
  | .out=> .error (0,2)
def Sk(w:World)(s:Bs)(e:Ending)(w':World):Prop:=w.grownBy w' none/\
 match CD s with
  | .ok l=>∃v,e= .returned (.tuple #[v,.int .i64 l.length,.int .i64 0])/\TRow w' v l (Al w.heap.size)/\Ee AE l/\l.length<=1200
  | .error pc=>e= .returned (.tuple #[.slice none 0 0,.int .i64 pc.1,.int .i64 pc.2])/\(pc.2=2\/pc.2=3)
def Mj(ht:Tabs w.heap.size w)(s:Bs)(hs:s.length<=1000000):Calls Tryz.prog 156 #[str s] w (Sk w s):=by
 refine(Ye ht s hs).mono ?_;rintro e w1 ⟨g,h⟩;refine⟨g,?_⟩;unfold CD;by_cases h4:4000<s.length
 ·rw[if_pos h4]at h ⊢;exact⟨h,.inr rfl⟩
 rw[if_neg h4]at h ⊢;cases hl:Fw s with
 |out=>exact absurd hl (Jy s)
 |bad k=>rw[hl]at h;exact⟨h,.inl rfl⟩
 | ok l=>
   rw[hl]at h;replace h:ite _ _ _:=h;simp only[];by_cases hm:1200<l.length
   ·rw[if_pos hm]at h ⊢;exact⟨h,.inr rfl⟩
   ·rw[if_neg hm]at h ⊢;obtain⟨v,rfl,ht⟩:=h;exact⟨v,rfl,ht,QB (by omega) hl,by omega⟩
inductive PeR (α:Type) where
 |ok (x:α) (n:Nat)
 |no (p c:Int)
def Ho(l:List Tok):Res Ex:=BV l AE (l.length+2)
def F7(l:List Tok):PeR Ex:=
 match Ho l with
 | .ok x j=>if j<l.length then .no j 2 else if Cp x.nodes x.levels then .no 0 3 else .ok x l.length
 | .bad q=> .no q 2
 | .out=> .no 0 2
def peM(s:Bs):PeR Ex:=match CD s with
 | .ok l=>F7 l
 | .error pc=> .no pc.1 pc.2
abbrev exV0:Value:= .agg zeroE.toArray
def Y9(w:World)(s:Bs)(e:Ending)(w':World):Prop:=w.grownBy w' none/\
 match peM s with
  | .ok x n=>∃v,e= .returned (.tuple #[v,.int .i64 n,.int .i64 0])/\VE (Al w.heap.size) w' v x
  | .no p c=>e= .returned (.tuple #[exV0,.int .i64 p,.int .i64 c])
def Iv{i j:Tmp}(h:fn.results=#[.cell p 163,.tmp i,.tmp j])(tmps:Array Value){u v:Value}(hb:Blk w k [a0,a1,a2,a3,a4,a5,a6] 163)
 (hp:tmps.getD p undef= .pointer (some ⟨k,0,none⟩)) (hi:tmps.getD i undef=u) (hj:tmps.getD j undef=v):(results fn tmps).run Tryz.prog w= .ok (.tuple #[.agg #[a0,a1,a2,a3,a4,a5,a6],u,v]) w:=by
 have c0:=hb.cell' 0 rfl;have c1:=hb.cell' 1 rfl;have c2:=hb.cell' 2 rfl;have c3:=hb.cell' 3 rfl;have c4:=hb.cell' 4 rfl;have c5:=hb.cell' 5 rfl;have c6:=hb.cell' 6 rfl;have hp':tmps[p]?.getD undef= .pointer (some ⟨k,0,none⟩):=by simpa using hp
 have hi':tmps[i]?.getD undef=u:=by simpa using hi
 have hj':tmps[j]?.getD undef=v:=by simpa using hj
 simp[results,h,hp',hi',hj',go_sem,c0,c1,c2,c3,c4,c5,c6]
def Xn{q:Nat}(hq:BO l (BV l AE (l.length+2))=q):F7 l= .no q 2:=by
 have hex:=JH (l:=l) AE (l.length+2) (nR _);unfold F7 Ho;cases hr:BV l AE (l.length+2)with
 | ok x j=>
   rw[hr]at hq;simp only[BO]at hq ⊢;by_cases hj:j<l.length
   ·rw[if_pos hj]at hq ⊢;rw[hq]
   ·rw[if_neg hj]at hq;omega
 |bad k=>rw[hr]at hq;simp only[BO]at hq ⊢;rw[hq]
 |out=>exact absurd hr hex
def PB(R:Res α)(l:List Tok):BO l R= -1\/∃q:Nat,BO l R=q:=by
 cases R with
 | ok x j=>
   simp only[BO];split
   ·exact .inr ⟨j,rfl⟩
   ·exact .inl rfl
 |bad k=>exact .inr ⟨k,rfl⟩
 |out=>exact .inr ⟨0,rfl⟩
def Uo(hq:BO l (BV l AE (l.length+2))= -1):∃x j,BV l AE (l.length+2)= .ok x j/\F7 l=if Cp x.nodes x.levels then .no 0 3 else .ok x l.length:=by
 have hex:=JH (l:=l) AE (l.length+2) (nR _);unfold F7 Ho;cases hr:BV l AE (l.length+2)with
 | ok x j=>
   rw[hr]at hq;refine⟨x,j,rfl,?_⟩;simp only[BO]at hq ⊢;by_cases hj:j<l.length
   ·rw[if_pos hj]at hq;omega
   ·rw[if_neg hj]
 |bad k=>rw[hr]at hq;simp only[BO]at hq;omega
 |out=>exact absurd hr hex
def Pi(ht:Tabs w.heap.size w)(s:Bs)(hs:s.length<=1000000):Calls Tryz.prog 113 #[str s] w (Y9 w s):=by
 have g0:=gZ w (.cells zeroE.toArray 163 (0,0)) none;have hB:=Blk.new w zeroE 163;have ht0:=(ht.gbN g0).mono g0.size;go_enter func113,ntmps113;go_wp2_with fail;refine(Mj ht0 s hs).mono ?_;rintro e w1 ⟨g1,h1⟩;have hB1:=hB.gb g1 (by simp);have gA:=S (Z g0 g1);have HT0:=S (ht0.gbN g1).glob;have hPM:∀l,CD s= .ok l->peM s=F7 l:=λl h=>by unfold peM;rw[h]
 have hlt:=hB1.lt;clear ht0 g0 hB ht hs g1;cases hq:CD s with
 | error pc=>
   rw[hq]at h1;obtain⟨rfl,hc⟩:=h1;have HQ:=S (show peM s= .no pc.1 pc.2 by unfold peM;rw[hq]);have hc1:decide (pc.2=0)=false:=by simp;omega
   clear hq hPM;obtain⟨cb_0,cb_1,cb_2,cb_3,cb_4,cb_5,cb_6,cb_f⟩:=(hB1).c7;have HB:=S hB1;clear hB1;go_wp2;exact bZ (Iv rfl _ (HB.1.set7 (.int .i64 0) (str []) (.int .i64 0) (.int .i64 0) (str []) (.slice none 0 0) (.slice none 0 0)) rfl rfl rfl) rfl ⟨Ap gA.1 (A0 w1 w.heap.size (.int .i64 0) (str []) (.int .i64 0) (.int .i64 0) (str []) (.slice none 0 0) (.slice none 0 0)) (.inr (nR _)),by rw[HQ.1];rfl⟩
 | ok l=>
   rw[hq]at h1;obtain⟨v,rfl,hT,hTame,hl⟩:=h1;have hex:=JH (l:=l) AE (l.length+2) (nR _);obtain⟨ta,tc,rfl,_⟩:=id hT;have HL:=VZ HT0.1 hTame (hT.mono λ_ _ _=>trivial) (by omega) (l.length+2) hex;have HQ:=S (hPM l hq);have HB:=S hB1;have HLL:=S HL;clear hPM hq hTame hT HL hex hB1;go_wp2_with fail;refine HLL.1.mono ?_;rintro e w2 ⟨h,pa,pn,pc,la,ln,lc,rfl,g2,hV⟩;have hB2:=HB.1.gb g2 (by simp);have gB:=S (Z gA.1 g2);have hs2:=g2.size;have hlt2:w.heap.size<w2.heap.size:=by omega
   have hno:=λq=>Xn (l:=l) (q:=q);have hgo:=Uo (l:=l);have hyes:=PB (BV l AE (l.length+2)) l;clear HLL HT0;rcases hyes with hy| ⟨q,hy⟩
   ·obtain⟨x,j,hr,hP⟩:=hgo hy;have hX:=hV x j hr;have hxn:=U8 AE _ hr;rw[hy];clear hgo hno hV hr hy;have HX:=S hX;obtain⟨pa',pc',la',lc',e1,rp,rl⟩:=hX;rw[e1]at HX ⊢;have HPP:=S (hP ▸ HQ.1);have HR:=S (X rp rl);clear rp rl e1 hP;have hc1:decide ((0:Int)<=-1)=false:=by decide
    obtain⟨cb_0,cb_1,cb_2,cb_3,cb_4,cb_5,cb_6,cb_f⟩:=(hB2).c7;have HB2:=S hB2;clear hB2;have gK:=gZ w2 (.cells (hdC x.h (.slice pa' x.h.p.length pc') (.slice la' x.kids.len lc')).toArray 163 (0,0)) none;have hE:=Blk.new w2 (hdC x.h (.slice pa' x.h.p.length pc') (.slice la' x.kids.len lc')) 163;have HS:=S (Mu (HX.1.gb gK (by simp)) (by unfold Ex.nodes at hxn;omega));have HE:=S (X gK hE);clear gK hE;go_wp2_with fail;refine mR HS.1 λw3 g3=>?_;go_wp2_with fail;refine mR (Jx _ _ _) λw4 g4=>?_;have gM:=Z (Z HE.1.1 g3) g4;have hE4:=(HE.1.2.gb g3 (by simp)).gb g4 (by simp);have hR4:=HB2.1.gb gM (by simp);have hX4:=HX.1.gb gM (by simp);have gT:=S (X (Z gB.1 gM) hX4);have hlt4:=gM.size;clear cb_0 cb_1 cb_2 cb_3 cb_4 cb_5 cb_6 cb_f gM hX4;have ce_:=hE4.c7;obtain⟨cb_0,cb_1,cb_2,cb_3,cb_4,cb_5,cb_6,cb_f⟩:=(hR4).c7;have HR4:=S hR4;have hltE:=hE4.lt;clear hE4 hR4 g3 g4;cases hLL:Cp x.nodes x.levels with
    | true=>
      have HF:=S (show peM s= .no 0 3 by rw[HPP.1];rw[hLL];rfl);clear hLL;go_wp2;exact bZ (Iv rfl _ (HR4.1.set7 (.int .i64 0) (str []) (.int .i64 0) (.int .i64 0) (str []) (.slice none 0 0) (.slice none 0 0)) rfl rfl rfl) rfl ⟨Ap gT.1.1 (A0 w4 w.heap.size (.int .i64 0) (str []) (.int .i64 0) (.int .i64 0) (str []) (.slice none 0 0) (.slice none 0 0)) (.inr (nR _)),by rw[HF.1];rfl⟩
    | false=>
      have HF:=S (show peM s= .ok x l.length by rw[HPP.1];rw[hLL];rfl);clear hLL;go_wp2;have g7:=A0 w4 w.heap.size (.int .i64 x.h.op) (str x.h.s) (.int .i64 x.h.vk) (.int .i64 x.h.vn) (str x.h.vs) (.slice pa' x.h.p.length pc') (.slice la' x.kids.len lc');refine bZ (Iv rfl _ (HR4.1.set7 (.int .i64 x.h.op) (str x.h.s) (.int .i64 x.h.vk) (.int .i64 x.h.vn) (str x.h.vs) (.slice pa' x.h.p.length pc') (.slice la' x.kids.len lc')) rfl rfl rfl) rfl ⟨Ap gT.1.1 g7 (.inr (nR _)),?_⟩;rw[HF.1];exact⟨_,rfl,(gT.1.2.gb g7 (by intro q hq _ e;cases e;simp at hq;omega)).mono (by intro q hq _;simp at hq ⊢;omega)⟩
   ·rw[hy];have HQ2:=S (show peM s= .no q 2 by rw[HQ.1,hno q hy]);clear hgo hno hV;have hc1:decide ((0:Int)<=(q:Int))=true:=by simp
    obtain⟨cb_0,cb_1,cb_2,cb_3,cb_4,cb_5,cb_6,cb_f⟩:=(hB2).c7;have HB2:=S hB2;clear hB2;go_wp2;have hBA:=(HB2.1.set7 (.int .i64 0) (str []) (.int .i64 0) (.int .i64 0) (str []) (.slice none 0 0) (.slice none 0 0)).alloc (.cells (hdC h (.slice pa pn pc) (.slice la ln lc)).toArray 163 (0,0));have gBA:=Ac (Ap gB.1 (A0 w2 w.heap.size (.int .i64 0) (str []) (.int .i64 0) (.int .i64 0) (str []) (.slice none 0 0) (.slice none 0 0)) (.inr (nR _))) (.cells (hdC h (.slice pa pn pc) (.slice la ln lc)).toArray 163 (0,0));exact bZ (Iv rfl _ hBA rfl rfl rfl) rfl ⟨gBA,by rw[HQ2.1];rfl⟩
def Ga(l:List Tok)(expr:Nat->Res Ex)(i:Nat):Res Ex:=
 if Ah (Ab l i) [38]then DD l expr i
 else(AD l i).bind λs j=>
  if Ah (Ab l j) [91]then(expr (j+1)).bind λx k=>(AW l [93] k).bind λ_ k=> .ok (DY (AH s) x) k
  else if Ah (Ab l j) [45,62]then(AD l (j+1)).bind λt k=> .ok ⟨hd0 2 s,.one (AH t)⟩ k
  else .ok (AH s) j
def YO{w2:World}{op:Int}{t:Bs}{r:Res Ex}(hb:b<w.heap.size)
 (hr:r= .ok ⟨hd0 op s,.two (AH t) x⟩ j) (gr:w.grownBy w1 (some b)) (rp:Cells w1 (.slice pa x.h.p.length pc) 1 x.h.p.length (x.h.p.map str) ok) (rl:RepL ok w1 (.slice la x.kids.len lc) x.kids) (hok:∀k,ok k->w.heap.size<k)
 (hp:Par w1 b tv wv l wl j) (g7:w1.grownBy w2 (some w.heap.size)) (hsz:w2.heap.size=w1.heap.size):
 PE b tv wv l wl w r (.returned (exV (hd0 op s) (.slice none 0 0) (.slice (some ⟨w1.heap.size,0,none⟩) 2 2))) (w2.alloc (.cells (hdC (AH t).h (.slice none 0 0) (.slice none 0 0)++hdC x.h (.slice pa x.h.p.length pc) (.slice la x.kids.len lc)).toArray 163 (0,0))):=by
 have hlt:=gr.size;have rp':=rp.gb g7 (by intro q hq _ e;have:=hok q hq;cases e;omega);have rl':=rl.gb g7 (by intro q hq _ e;have:=hok q hq;cases e;omega);have hV:VE (Al w.heap.size) (w2.alloc (.cells (hdC (AH t).h (.slice none 0 0) (.slice none 0 0)++hdC x.h (.slice pa x.h.p.length pc) (.slice la x.kids.len lc)).toArray 163 (0,0))) (exV (hd0 op s) (.slice none 0 0) (.slice (some ⟨w1.heap.size,0,none⟩) 2 2)) ⟨hd0 op s,.two (AH t) x⟩:=
  VE.node (f:= .two (AH t) x) (RepL.two (ok:=Al w.heap.size) (n:=w1.heap.size) hsz.symm (by show w.heap.size<=_;omega) (Cells.nil _ _ _) (RepL.nil _ _) (rp'.mono (by intro q hq _;have:=hok q hq;show w.heap.size<=q;omega)) (rl'.mono (by intro q hq _;have:=hok q hq;show w.heap.size<=q;omega)))
 exact Post.ok (Ac (Ap gr g7 (.inr (nR _))) _) hr hV ((hp.gb g7 (by intro q e;cases e;omega)).alloc _)
def M1(hE:CE 208 b tv wv l wl E)(hl:Ay l):CE 304 b tv wv l wl (Ga l E):=by
 intro w i hp ho;have hb:=hp.lt;have gr:w.grownBy (w.alloc (.cells zeroE.toArray 163 (0,0))) (some b):=Ac (Aa _ _) _;have hz:=Blk.new w zeroE 163;replace hp:=hp.alloc (.cells zeroE.toArray 163 (0,0));have H:=S (X hE (X hl ho));generalize hR:Ga l E i=R at*;have HQ:=S hR;rw[Ga]at HQ;clear hE hl ho hR;go_enter func304,ntmps304;go_wp2_with fail;refine mR (Bn hp) λw1 g=>?_;replace hz:=hz.gb g (by simp);replace gr:=Ag gr g;replace hp:=hp.gbN g;clear g;have hs0:=hz.lt;go_wp2_with fail;refine mR (EY _ _ _ [38] _) λw2 g=>?_;replace hz:=hz.gb g (by simp);replace gr:=Ag gr g;replace hp:=hp.gbN g;replace hs0:=hz.lt;clear g;cases hs:Ah (Ab l i) [38]with
 | true=>
   have hs':((Ab l i).kind==4&&(Ab l i).text==[38])=true:=hs;rw[hs'];rw[if_pos hs]at HQ;go_wp2_with fail;refine(Nc H.1.1 H.1.2.1 _ _ hp (λe=>H.1.2.2 (by rw[<-HQ.1,e]))).mono ?_;intro e w3 hq;obtain⟨g,⟨q,hr,rfl⟩| ⟨x,j,v,hr,rfl,⟨pa,pc,la,lc,rfl,rp,rl⟩,hp⟩⟩:=hq.split
   ·exact⟨rfl,Post.bad (Z gr g) (by rw[<-HQ.1,hr])⟩
   replace gr:=Z gr g;rw[hr]at HQ;clear hr;replace hz:=hz.gb g (by simp;omega);have cz_:=hz.c7;have HV:=S (X rp rl);clear rp rl g;go_wp2;exact bZ (AK rfl _ (hz.set7 _ _ _ _ _ _ _) rfl) rfl (Bw hb HQ.1.symm gr ⟨_,_,_,_,rfl,HV.1.1,HV.1.2⟩ (by intro k hk;have:_<=k:=hk;omega) hp (A0 _ _ _ _ _ _ _ _ _))
 |false=>
 have hs':((Ab l i).kind==4&&(Ab l i).text==[38])=false:=hs;rw[hs'];clear hs';rw[if_neg (nF hs)]at HQ;go_wp2_with fail;refine(B6 hp H.1.2.1).mono ?_;intro e w3 hq;obtain⟨g,⟨q,hr,rfl⟩| ⟨s,j,v,hr,rfl,rfl,hp⟩⟩:=hq.split
 ·exact PBd gr g HQ hr
 replace gr:=Z gr g;replace HQ:=HQo HQ hr;clear hr;replace hz:=hz.gb g (by simp;omega);clear g;go_wp2_with fail;cases hs:Ah (Ab l j) [91]with
 | true=>
   refine(Bp hp _ hs).mono ?_;rintro e w4 ⟨rfl,hp',g⟩;replace hz:=hz.gb g (by simp;omega);replace gr:=Z gr g;replace hp:=hp';have hs0:=hz.lt;clear g;rw[if_pos hs]at HQ;go_wp2_with fail;refine(H.1.1 _ _ hp (λe=>H.1.2.2 (by rw[<-HQ.1,e];rfl))).mono ?_;intro e w6 hq;obtain⟨g,⟨q,hr,rfl⟩| ⟨x,j2,v,hr,rfl,⟨pa,pc,la,lc,rfl,rp,rl⟩,hp⟩⟩:=hq.split
   ·exact PBd gr g HQ hr
   replace gr:=Z gr g;replace HQ:=HQo HQ hr;clear hr;replace hz:=hz.gb g (by simp;omega);have hk:=Kept.new hb gr hz hp (rp.mono λg hg _=>by have:w4.heap.size<=g:=hg;show w.heap.size<g;omega) (rl.mono λg hg _=>by have:w4.heap.size<=g:=hg;show w.heap.size<g;omega) rfl;clear rp rl g hz;go_wp2_with fail;replace gr:=hk.gr;refine(CL hk.par [93]).mono ?_;intro e w7 hq;obtain⟨g,⟨q,hr,rfl⟩| ⟨_,j3,v,hr,rfl,rfl,hp⟩⟩:=hq.split
   ·exact PBd gr g HQ hr
   replace gr:=Z gr g;replace HQ:=HQo HQ hr;clear hr;replace hk:=hk.gb hb g hp;clear g;have hz:=hk.zero;have hL:=hk.blk;have rp:=hk.rp.mono (ok':=λg=>w.heap.size<g) (λg hg _=>hg.1);have rl:=hk.rl.mono (ok':=λg=>w.heap.size<g) (λg hg _=>hg.1);have hwL:=hk.wL;have hltL:=hL.lt;clear hk;have cl_:=hL.c7;have HV:=S (X rp rl);clear rp rl;have cz_:=hz.c7;have hltz:=hz.lt;go_wp2;have g7:=A0 w7 w.heap.size (.int .i64 6) (str []) (.int .i64 0) (.int .i64 0) (str []) (.slice none 0 0) (.slice (some ⟨w7.heap.size,0,none⟩) 2 2);have hW:=hz.set7 (.int .i64 6) (str []) (.int .i64 0) (.int .i64 0) (str []) (.slice none 0 0) (.slice (some ⟨w7.heap.size,0,none⟩) 2 2);have hsz:(set7 w7 w.heap.size (.int .i64 6) (str []) (.int .i64 0) (.int .i64 0) (str []) (.slice none 0 0) (.slice (some ⟨w7.heap.size,0,none⟩) 2 2)).heap.size=w7.heap.size:=by simp[set7]
   simp only[set7]at hW g7 hsz;generalize(((((((w7.setCell {block:=w.heap.size,off:=0} (.int .i64 6)).setCell {block:=w.heap.size,off:=1} (str [])).setCell {block:=w.heap.size,off:=2} (.int .i64 0)).setCell {block:=w.heap.size,off:=3} (.int .i64 0)).setCell {block:=w.heap.size,off:=4} (str [])).setCell {block:=w.heap.size,off:=5} (.slice none 0 0)).setCell {block:=w.heap.size,off:=6} (.slice (some ⟨w7.heap.size,0,none⟩) 2 2))=W' at*;exact bZ (AK (hd:=hd0 6 []) (pv:= .slice none 0 0) (lv:= .slice (some ⟨w7.heap.size,0,none⟩) 2 2) rfl _ (Blk.alloc hW (.cells (hdC (AH s).h (.slice none 0 0) (.slice none 0 0)++hdC x.h (.slice pa x.h.p.length pc) (.slice la x.kids.len lc)).toArray 163 (0,0))) rfl) rfl (YO (op:=6) (s:=[]) (t:=s) hb HQ.1.symm gr HV.1.1 HV.1.2 (λk hk=>hk) hp g7 hsz)
 | false=>
   refine mR (Bf hp _ hs) λw4 g=>?_;replace hz:=hz.gb g (by simp);replace gr:=Ag gr g;replace hp:=hp.gbN g;clear g;rw[if_neg (nF hs)]at HQ;go_wp2_with fail;cases hs:Ah (Ab l j) [45,62]with
   | false=>
     refine mR (Bf hp _ hs) λw5 g=>?_;replace hz:=hz.gb g (by simp);replace gr:=Ag gr g;replace hp:=hp.gbN g;clear g;rw[if_neg (nF hs)]at HQ;have cz_:=hz.c7;go_wp2;exact bZ (AK (hd:=(AH s:Ex).h) (pv:= .slice none 0 0) (lv:= .slice none 0 0) rfl _ (hz.set7 _ _ _ _ _ _ _) rfl) rfl (Bw (ok:=λk=>w.heap.size<k) (x:=AH s) hb HQ.1.symm gr ⟨none,0,none,0,rfl,Cells.nil _ _ _,RepL.nil _ _⟩ (λk hk=>hk) hp (A0 _ _ _ _ _ _ _ _ _))
   |true=>
   refine(Bp hp _ hs).mono ?_;rintro e w5 ⟨rfl,hp',g⟩;replace hz:=hz.gb g (by simp;omega);replace gr:=Z gr g;replace hp:=hp';have hs0:=hz.lt;clear g;rw[if_pos hs]at HQ;go_wp2_with fail;refine(B6 hp H.1.2.1).mono ?_;intro e w6 hq;obtain⟨g,⟨q,hr,rfl⟩| ⟨t,j2,v,hr,rfl,rfl,hp⟩⟩:=hq.split
   ·exact PBd gr g HQ hr
   replace gr:=Z gr g;replace HQ:=HQo HQ hr;clear hr;replace hz:=hz.gb g (by simp;omega);clear g;have rp:=Cells.nil w6 1 (λg=>w.heap.size<g);have rl:=RepL.nil w6 (λg=>w.heap.size<g);have HV:=S (X rp rl);clear rp rl;have cz_:=hz.c7;have hltz:=hz.lt;go_wp2;have g7:=A0 w6 w.heap.size (.int .i64 2) (str s) (.int .i64 0) (.int .i64 0) (str []) (.slice none 0 0) (.slice (some ⟨w6.heap.size,0,none⟩) 1 1);have hW:=hz.set7 (.int .i64 2) (str s) (.int .i64 0) (.int .i64 0) (str []) (.slice none 0 0) (.slice (some ⟨w6.heap.size,0,none⟩) 1 1);have hsz:(set7 w6 w.heap.size (.int .i64 2) (str s) (.int .i64 0) (.int .i64 0) (str []) (.slice none 0 0) (.slice (some ⟨w6.heap.size,0,none⟩) 1 1)).heap.size=w6.heap.size:=by simp[set7]
   simp only[set7]at hW g7 hsz;generalize(((((((w6.setCell {block:=w.heap.size,off:=0} (.int .i64 2)).setCell {block:=w.heap.size,off:=1} (str s)).setCell {block:=w.heap.size,off:=2} (.int .i64 0)).setCell {block:=w.heap.size,off:=3} (.int .i64 0)).setCell {block:=w.heap.size,off:=4} (str [])).setCell {block:=w.heap.size,off:=5} (.slice none 0 0)).setCell {block:=w.heap.size,off:=6} (.slice (some ⟨w6.heap.size,0,none⟩) 1 1))=W' at*;exact bZ (AK (hd:=hd0 2 s) (pv:= .slice none 0 0) (lv:= .slice (some ⟨w6.heap.size,0,none⟩) 1 1) rfl _ (Blk.alloc hW (Obj.cells #[Value.int IntKind.i64 (AH t).h.op,str (AH t).h.s,Value.int IntKind.i64 (AH t).h.vk,Value.int IntKind.i64 (AH t).h.vn,str (AH t).h.vs,Value.slice none (AH t).h.p.length 0,Value.slice none (AH t).kids.len 0] 163)) rfl) rfl (Hw (op:=2) (s:=s) hb HQ.1.symm gr HV.1.1 HV.1.2 (λk hk=>hk) hp g7 hsz)
def endsText:Bs:=[69,76,83,69,73,70,32,69,76,83,69,32,69,78,68,73,70,32,67,65,83,69,32,79,84,72,69,82,87,73,83,69,32,69,78,68,67,65,83,69,32,69,78,68,68,79,32,78,69,88,84,32,82,69,67,79,86,69,82,32,69,78,68,32,80,82,79,67,69,68,85,82,69,32,70,85,78,67,84,73,79,78]
def RK:endsText.all (λb=>decide (b.toNat<128))=true:=by decide+kernel
def endsL:List Bs:=[[69,76,83,69,73,70],[69,76,83,69],[69,78,68,73,70],[67,65,83,69],[79,84,72,69,82,87,73,83,69],[69,78,68,67,65,83,69],[69,78,68,68,79],[78,69,88,84],[82,69,67,79,86,69,82],[69,78,68],[80,82,79,67,69,68,85,82,69],[70,85,78,67,84,73,79,78]]
def Qt:Lib.fields endsText=endsL:=by decide+kernel
def I7(s:Bs):Bool:=Lib.containsS (endsL.map λx=>⟨x.toArray⟩) ⟨s.toArray⟩
def L8(s:Bs)(hg:Glob w):Calls Tryz.prog 273 #[str s] w (ρ w (.bool (I7 s))):=by
 have HG:=S hg;clear hg;go_enter func273,ntmps273;go_wp2_with fail;refine(strings_Fields ⟨endsText.toArray⟩ w (by decide+kernel) ?_ HG.1).mono ?_
 ·intro j b hb;have hb:endsText[j]? =some b:=hb;have h2:=List.all_eq_true.1 RK b (List.mem_of_getElem? hb);simpa using h2
 rintro e w1 ⟨rfl,rfl⟩;rw[show(Lib.fields (ByteArray.mk endsText.toArray).data.toList)=endsL from Qt];have hn:endsL.length=12:=rfl;have HN:=S hn;clear hn;generalize hE:endsL=E at*;go_wp2_with fail;refine(slices_Contains_string w.heap.size 0 E.length E.length (E.map λx=>⟨x.toArray⟩) ⟨s.toArray⟩ _ (by simp) (by have:=HN.1;omega) ?_).mono ?_
 ·intro j hj;simp at hj;simp[List.getD,hj]
 rintro e w2 ⟨rfl,rfl⟩;go_wp2;go_ret;exact⟨by rw[List.take_of_length_le (by simp),I7,hE];rfl,gZ w _ none⟩
def set10(w:World)(k:Nat)(v0 v1 v2 v3 v4 v5 v6 v7 v8 v9:Value):World:=
 (((set7 w k v0 v1 v2 v3 v4 v5 v6).setCell ⟨k,7,none⟩ v7).setCell ⟨k,8,none⟩ v8).setCell ⟨k,9,none⟩ v9
def Blk.set10{a7 a8 a9:Value}{t:TypeId}(h:Blk w k [a0,a1,a2,a3,a4,a5,a6,a7,a8,a9] t)(v0 v1 v2 v3 v4 v5 v6 v7 v8 v9:Value):Blk (set10 w k v0 v1 v2 v3 v4 v5 v6 v7 v8 v9) k [v0,v1,v2,v3,v4,v5,v6,v7,v8,v9] t:=
 ((((((((((h.set 0 v0).set 1 v1).set 2 v2).set 3 v3).set 4 v4).set 5 v5).set 6 v6).set 7 v7).set 8 v8).set 9 v9).of_eq rfl rfl
def DR(w:World)(k:Nat)(v0 v1 v2 v3 v4 v5 v6 v7 v8 v9:Value):w.grownBy (set10 w k v0 v1 v2 v3 v4 v5 v6 v7 v8 v9) (some k):=
 Am (Am (Am (A0 w k v0 v1 v2 v3 v4 v5 v6) 7 v7) 8 v8) 9 v9
def UI:(match(Tryz.prog.underlying 134)with|some (.struct _)=>true|_=>false)=true:=by kernel_rfl
def A7(h:fn.results=#[.cell p 134])(tmps:Array Value){cs:List Value}(hb:Blk w k cs 134)(hn:cs.length=10)(hp:tmps.getD p undef= .pointer (some ⟨k,0,none⟩)):
 (results fn tmps).run Tryz.prog w= .ok (.agg cs.toArray) w:=by
 have hs:=UI;cases hu:Tryz.prog.underlying 134 with
 |none=>rw[hu]at hs;cases hs
 | some d=>
   rw[hu]at hs;exact results_cell_row h tmps w k 134 cs.toArray (0,0) d hp hb hu (by cases d<;>simp_all) (by rw[List.size_toArray,hn];show(Tryz.prog.info? 134).map (·.size)=some 10;kernel_rfl)
abbrev stC(op:Int)(xv:Value):List Value:=[.int .i64 op,str [],str [],.slice none 0 0,xv,.slice none 0 0,.int .i64 0,.slice none 0 0,.slice none 0 0,.slice none 0 0]
section
structure SetPre(b:Nat)(tv wv:Value)(l:List Tok)(wl:List Bs)(w:World)(t x:Ex)(pa la pa2 la2:Option Addr)(pc lc pc2 lc2 k:Nat)(ok:Nat->Prop)(W:World):Prop where
 par:Par W b tv wv l wl k
 tp:Cells W (.slice pa t.h.p.length pc) 1 t.h.p.length (t.h.p.map str) ok
 tl:RepL ok W (.slice la t.kids.len lc) t.kids
 xp:Cells W (.slice pa2 x.h.p.length pc2) 1 x.h.p.length (x.h.p.map str) ok
 xl:RepL ok W (.slice la2 x.kids.len lc2) x.kids
 gr:w.grownBy W (some b)
 zero:Blk W w.heap.size (stC 0 (.slice none 0 0)) 134
 lt:b<w.heap.size
 hok:∀q,ok q->w.heap.size<q
structure Ie(b:Nat)(tv wv:Value)(l:List Tok)(wl:List Bs)(w:World)(t x:Ex)(k kS kR:Nat)(W:World):Prop where
 par:Par W b tv wv l wl k
 row:RepL (λq=>w.heap.size<q) W (.slice (some ⟨kR,0,none⟩) 2 2) (.two t x)
 st:Blk W kS (stC 0 (.slice (some ⟨kR,0,none⟩) 2 2)) 134
 gr:w.grownBy W (some b)
 zero:Blk W w.heap.size (stC 0 (.slice none 0 0)) 134
 ne:w.heap.size<kS
 lt:b<w.heap.size
section
variable {W:World}{t:Ex}{pa2 la2:Option Addr}{pc2 lc2:Nat}
abbrev rowO(t x:Ex)(pa la pa2 la2:Option Addr)(pc lc pc2 lc2:Nat):Obj:= .cells (hdC t.h (.slice pa t.h.p.length pc) (.slice la t.kids.len lc)++hdC x.h (.slice pa2 x.h.p.length pc2) (.slice la2 x.kids.len lc2)).toArray 163 (0,0)
abbrev stO(kR:Nat):Obj:= .cells (stC 0 (.slice (some ⟨kR,0,none⟩) 2 2)).toArray 134 (0,0)
def SetPre.A(h:SetPre b tv wv l wl w t x pa la pa2 la2 pc lc pc2 lc2 k ok W):Ie b tv wv l wl w t x k (W.heap.size+1) W.heap.size ((W.alloc (rowO t x pa la pa2 la2 pc lc pc2 lc2)).alloc (stO W.heap.size)):=by
 have hs:=h.gr.size;have hz:=h.zero.lt;have ho:∀q,ok q->q<W.heap.size->w.heap.size<q:=λq hq _=>h.hok q hq;have g2:=gZ (W.alloc (rowO t x pa la pa2 la2 pc lc pc2 lc2)) (stO W.heap.size) none;exact⟨(h.par.alloc _).alloc _,(RepL.two (ok:=λq=>w.heap.size<q) rfl hz (h.tp.mono ho) (h.tl.mono ho) (h.xp.mono ho) (h.xl.mono ho)).gb g2 (by simp),(Blk.new _ _ _).of_eq (by simp) rfl,Ac (Ac h.gr _) _,(h.zero.alloc _).alloc _,by omega,h.lt⟩
def SetPre.B(h:SetPre b tv wv l wl w t x pa la pa2 la2 pc lc pc2 lc2 k ok W):Ie b tv wv l wl w t x k W.heap.size (W.heap.size+1) ((W.alloc (stO (W.heap.size+1))).alloc (rowO t x pa la pa2 la2 pc lc pc2 lc2)):=by
 have hs:=h.gr.size;have hz:=h.zero.lt;have ho:∀q,ok q->q<W.heap.size->w.heap.size<q:=λq hq _=>h.hok q hq;have g1:=gZ W (stO (W.heap.size+1)) none;exact⟨(h.par.alloc _).alloc _,RepL.two (ok:=λq=>w.heap.size<q) (by simp) (by show w.heap.size<_;omega) ((h.tp.mono ho).gb g1 (by simp)) ((h.tl.mono ho).gb g1 (by simp)) ((h.xp.mono ho).gb g1 (by simp)) ((h.xl.mono ho).gb g1 (by simp)),(Blk.new _ _ _).alloc _,Ac (Ac h.gr _) _,(h.zero.alloc _).alloc _,hz,h.lt⟩
def SetPre.C(h:SetPre b tv wv l wl w t x pa la pa2 la2 pc lc pc2 lc2 k ok W){kS:Nat}(hS:Blk W kS (stC 0 (.slice none 0 0)) 134)(h8:w.heap.size<kS)(hk:∀q,ok q->q≠kS):
 Ie b tv wv l wl w t x k kS W.heap.size ((set10 W kS (.int .i64 0) (str []) (str []) (.slice none 0 0) (.slice (some ⟨W.heap.size,0,none⟩) 2 2) (.slice none 0 0) (.int .i64 0) (.slice none 0 0) (.slice none 0 0) (.slice none 0 0)).alloc (rowO t x pa la pa2 la2 pc lc pc2 lc2)):=by
 have hs:=h.gr.size;have hz:=h.zero.lt;have hb:=h.lt;have g1:=DR W kS (.int .i64 0) (str []) (str []) (.slice none 0 0) (.slice (some ⟨W.heap.size,0,none⟩) 2 2) (.slice none 0 0) (.int .i64 0) (.slice none 0 0) (.slice none 0 0) (.slice none 0 0);have hsz:(set10 W kS (.int .i64 0) (str []) (str []) (.slice none 0 0) (.slice (some ⟨W.heap.size,0,none⟩) 2 2) (.slice none 0 0) (.int .i64 0) (.slice none 0 0) (.slice none 0 0) (.slice none 0 0)).heap.size=W.heap.size:=by simp[set10,set7]
 have ho:∀q,ok q->q<(set10 W kS (.int .i64 0) (str []) (str []) (.slice none 0 0) (.slice (some ⟨W.heap.size,0,none⟩) 2 2) (.slice none 0 0) (.int .i64 0) (.slice none 0 0) (.slice none 0 0) (.slice none 0 0)).heap.size->w.heap.size<q:=λq hq _=>h.hok q hq;have hn:∀q,ok q->q<W.heap.size->some q≠some kS:=λq hq _ e=>by cases e;exact hk _ hq rfl
 exact⟨(h.par.gb g1 (by intro q e;cases e;omega)).alloc _,RepL.two (ok:=λq=>w.heap.size<q) hsz.symm (by show w.heap.size<_;omega) ((h.tp.gb g1 hn).mono ho) ((h.tl.gb g1 hn).mono ho) ((h.xp.gb g1 hn).mono ho) ((h.xl.gb g1 hn).mono ho),(hS.set10 _ _ _ _ _ _ _ _ _ _).alloc _,Ac (Ap h.gr g1 (.inr (by omega))) _,(h.zero.gb g1 (by simp;omega)).alloc _,h8,h.lt⟩
end
end
open Go.Lib
def TK:Av 10000=3652059:=by decide
def Rl{n:Int}(h0:0<n)(h1:n<=3652059):1<=n.tdiv 366+1/\n.tdiv 366+1<=9999/\Av (n.tdiv 366+1)<n:=by
 rw[Int.tdiv_eq_ediv_of_nonneg (by omega)];refine⟨by omega,by omega,?_⟩;unfold Av;rw[show n/366+1-1=n/366 by omega,Int.tdiv_eq_ediv_of_nonneg (by omega),Int.tdiv_eq_ediv_of_nonneg (by omega),Int.tdiv_eq_ediv_of_nonneg (by omega)];omega
def MC(n:Int)(h0:0<n)(h1:n<=3652059)(w:World):Calls Tryz.prog 299 #[.int .i64 n] w λe w'=>e= .returned (.bool true)/\w'=w:=by
 go_enter func299,ntmps299;go_wp2;go_ret;exact⟨rfl,rfl⟩
def Np(h0:1<=y)(h1:y<=10000):0<=Av y/\Av y<=3652059:=by
 unfold Av;rw[Int.tdiv_eq_ediv_of_nonneg (by omega),Int.tdiv_eq_ediv_of_nonneg (by omega),Int.tdiv_eq_ediv_of_nonneg (by omega)];omega
def Ng(h0:1<=m)(h1:m<=12):28<=AT y m/\AT y m<=31:=by
 unfold AT;split
 ·omega
 ·have h:∀k:Nat,k<12->28<=([31,28,31,30,31,30,31,31,30,31,30,31]:List Int).getD k 0/\([31,28,31,30,31,30,31,31,30,31,30,31]:List Int).getD k 0<=31:=by decide
  exact h _ (by omega)
def QP(y:Int)(m:Nat)(h:1<=m):Au y m=Au y (m-1)+AT y m:=by
 obtain⟨k,rfl⟩:∃k,m=k+1:=⟨m-1,by omega⟩;rfl
def Vi{n:Int}(h0:1<=y)(h:n<=Av (y+1)):n-Av y<=Au y 12:=by
 have e:Av (y+1)=Av y+Au y 12:=by
  have hl:Au y 12=if Ew y then 366 else 365:=by
   simp only[Au,AT];cases Ew y<;>rfl
  rw[hl];unfold Av Ew;rw[show y+1-1=y by omega];have e1:∀b:Int,0<b->y.tdiv b=y/b:=λb hb=>Int.tdiv_eq_ediv_of_nonneg (by omega);have e2:∀b:Int,0<b->(y-1).tdiv b=(y-1)/b:=λb hb=>Int.tdiv_eq_ediv_of_nonneg (by omega);have e3:∀b:Int,0<b->y.tmod b=y%b:=λb hb=>Int.tmod_eq_emod_of_nonneg (by omega);rw[e1 4 (by omega),e1 100 (by omega),e1 400 (by omega),e2 4 (by omega),e2 100 (by omega),e2 400 (by omega),e3 4 (by omega),e3 100 (by omega),e3 400 (by omega)];simp only[Bool.and_eq_true,Bool.or_eq_true,beq_iff_eq,bne_iff_ne,ne_eq];split<;>omega
 omega
def V2(n:Int)(h0:0<n)(h1:n<=3652059)(w:World):Calls Tryz.prog 321 #[.int .i64 n] w λe w'=>
 (∃y m q:Nat,e= .returned (.tuple #[.int .i64 y,.int .i64 m,.int .i64 q,.int .i64 0])/\1<=y/\y<=9999/\1<=m/\m<=12/\1<=q/\(q:Int)<=AT y m/\Av y+Au y (m-1)+q=n)/\w.grownBy w' none:=by
 obtain⟨a1,a2,a3⟩:=Rl h0 h1;have hz:(n==0)=false:=by simp;omega
 rw[Int.tdiv_eq_ediv_of_nonneg (by omega)]at a1 a2 a3;have HA:=S (X a1 (X a2 a3));have HN:=S (X h0 h1);clear a3;go_enter func321,ntmps321;go_wp2_with fail;refine(MC n h0 h1 _).mono ?_;rintro e w1 ⟨rfl,rfl⟩;go_wp2_with fail;go_loopg [6] 10000 (λg v6 wr=>∃y:Int,v6= .int .i64 y/\1<=y/\y<=9999/\10000<=y+g/\Av y<n/\wr=w1)
 case atStart=>exact⟨_,rfl,HA.1.1,HA.1.2.1,by have:=HA.1.1;omega,HA.1.2.2,rfl⟩
 case round=>
  obtain⟨y,rfl,b1,b2,b3,b4,rfl⟩:=hrel;clear a1 a2;have hy1:=Np (y:=y+1) (by omega) (by omega);have hy0:=Np (y:=y) (by omega) (by omega);have HY:=S (Jt (y+1) (by omega) (by omega) wr);have HY0:=S (Jt y (by omega) (by omega) wr);by_cases hc:Av (y+1)<n
  ·have hcI:decide (Av (y+1)<n)=true:=by simpa using hc
   have hy9:y+1<=9999:=by
    rcases Int.lt_or_le 9998 y with h|h
    ·obtain rfl:y=9999:=by omega
     have:=TK;rw[show(9999:Int)+1=10000 from rfl]at hc;omega
    ·omega
   have HC:=S hc;clear hc b4;generalize hz1:Av (y+1)=z at*;have HZ:=S hz1;clear hz1;go_wp2_with fail;refine HY.1.mono ?_;rintro e w2 ⟨rfl,rfl⟩;go_wp2;go_roundg (gk-1)
   case measure=>omega
   case rel=>exact⟨y+1,by go_num,by omega,hy9,by omega,by rw[HZ.1];exact HC.1,rfl⟩
  ·have hcI:decide (Av (y+1)<n)=false:=by simpa using hc
   have hd:=Vi b1 (Int.not_lt.1 hc);have HD:=S (X hd b4);generalize hz1:Av (y+1)=z at*;generalize hz0:Av y=z0 at*;clear hc hd hz1;go_wp2_with fail;refine HY.1.mono ?_;rintro e w2 ⟨rfl,rfl⟩;go_wp2_with fail;refine HY0.1.mono ?_;rintro e w2 ⟨rfl,rfl⟩;go_wp2_with fail;go_loopg [7,8] 13 (λg v7 v8 wr=>∃m:Nat,v7= .int .i64 (n-z0-Au y (m-1))/\v8= .int .i64 m/\1<=m/\m<=12/\13<=m+g/\0<n-z0-Au y (m-1)/\w2.grownBy wr none)
   case atStart=>exact⟨1,by simp[Au],rfl,by omega,by omega,by omega,by simp[Au];omega,Aa _ _⟩
   case round=>
    obtain⟨m,rfl,rfl,c1,c2,c3,c4,gr⟩:=hrel;have hm:=Ng (y:=y) (m:=m) (by omega) (by omega);have hbf:=LY y (m-1) (by omega);have HM:=S (λW=>Ii y m (by omega) (by omega) (by omega) (by omega) W);have hnx:=QP y m c1;have h12:m=12->n-z0-Au y (m-1)<=AT y m:=by
     rintro rfl;have:=HD.1.1;omega
    have hyz:0<=z0/\z0<=3652059:=hy0;by_cases hc:AT y m<n-z0-Au y (m-1)
    ·have hcI:decide (AT y m<n-z0-Au y (m-1))=true:=by simpa using hc
     have hm12:m<=11:=by
      rcases Nat.lt_or_ge 11 m with h|h
      ·have:=h12 (by omega);omega
      ·exact h
     have HX:=S (show n-z0-Au y (m-1)-AT y m=n-z0-Au y (m+1-1)by rw[Nat.add_sub_cancel,hnx];omega);have HC:=S (show 0<n-z0-Au y (m+1-1)by rw[<-HX.1];omega);clear hnx h12 hc;generalize hd:n-z0-Au y (m-1)=d at*;generalize hmm:AT y m=mm at*;have hdb:d<=3652059:=by omega
     clear hd hmm;go_wp2_with fail;refine mR (HM.1 _) λw3 g3=>?_;go_wp2_with fail;refine mR (HM.1 _) λw4 g4=>?_;go_wp2;go_roundg (gk-1)
     case measure=>omega
     case rel=>exact⟨m+1,by rw[<-HX.1],by go_num,by omega,by omega,by omega,HC.1,Z (Z gr g3) g4⟩
    ·have hcI:decide (AT y m<n-z0-Au y (m-1))=false:=by simpa using hc
     have HX:=S (show(∃y' m' q':Nat,((y:Int),(m:Int),n-z0-Au y (m-1))=((y':Int),(m':Int),(q':Int))/\1<=y'/\y'<=9999/\1<=m'/\m'<=12/\1<=q'/\(q':Int)<=AT y' m'/\Av y'+Au y' (m'-1)+q'=n)by
      obtain⟨y',rfl⟩:∃y':Nat,y=y':=⟨y.toNat,by omega⟩;obtain⟨q',hq'⟩:∃q':Nat,n-z0-Au y' (m-1)=q':=⟨(n-z0-Au y' (m-1)).toNat,by omega⟩;exact⟨y',m,q',by rw[hq'],by omega,by omega,c1,c2,by omega,by omega,by rw[hz0];omega⟩)
     clear hnx h12 hc;generalize hd:n-z0-Au y (m-1)=d at*;generalize hmm:AT y m=mm at*;have hdb:d<=3652059:=by omega
     clear hd hmm;go_wp2_with fail;refine mR (HM.1 _) λw3 g3=>?_;go_wp2;obtain⟨y',m',q',e,hh⟩:=HX.1;simp only[Prod.mk.injEq]at e;refine bZ (v:= .tuple #[.int .i64 y,.int .i64 m,.int .i64 d,.int .i64 0]) (by simp[results,results321,go_sem]) rfl ⟨⟨y',m',q',by rw[<-e.1,<-e.2.1,<-e.2.2],hh⟩,Z gr g3⟩
def M5:∀k:Nat,k<10->(⟨#[48,49,50,51,52,53,54,55,56,57]⟩:ByteArray).extract k (k+1)=⟨#[UInt8.ofNat (48+k)]⟩:=by
 intro k hk;match k,hk with
 | 0,_ | 1,_ | 2,_ | 3,_ | 4,_ | 5,_ | 6,_ | 7,_ | 8,_ | 9,_=>rfl
def Hm(x y:Bs):Value.string (⟨x.toArray⟩++⟨y.toArray⟩)=str (x++y):=by rw[ByteArray.mk_append_mk]
def OU{u:Nat}(h:u<=1000000):nDigits u<=7:=by
 by_cases h0:u<10
 ·rw[nDigits_small h0];omega
 rw[nDigits_big h0];by_cases h1:u/10<10
 ·rw[nDigits_small h1];omega
 rw[nDigits_big h1];by_cases h2:u/10/10<10
 ·rw[nDigits_small h2];omega
 rw[nDigits_big h2];by_cases h3:u/10/10/10<10
 ·rw[nDigits_small h3];omega
 rw[nDigits_big h3];by_cases h4:u/10/10/10/10<10
 ·rw[nDigits_small h4];omega
 rw[nDigits_big h4];by_cases h5:u/10/10/10/10/10<10
 ·rw[nDigits_small h5];omega
 rw[nDigits_big h5,nDigits_small (by omega)];omega
def Qs:∀(N u:Nat),u<N->u<=1000000->∀(w:World),Calls Tryz.prog 346 #[.int .i64 u] w (ρ w (str (decDigits u))):=by
 intro N;induction N with
 |zero=>intro u h;omega
 | succ N ih=>
   intro u hN hu w;have hneg:decide ((u:Int)<0)=false:=by simp
   by_cases h:u<10
   ·have hI:decide ((u:Int)<10)=true:=by simp;omega
    have HD:=S (show decDigits u=[UInt8.ofNat (48+u)]by rw[decDigits];exact if_pos h);have HC:=S (M5 u h);clear ih;go_enter func346,ntmps346;go_wp2;go_ret;refine⟨?_,Aa _ _⟩;rw[HD.1];exact congrArg (λb=>Ending.returned (Value.string b)) HC.1
   ·have hI:decide ((u:Int)<10)=false:=by simp;omega
    have HD:=S (show decDigits u=decDigits (u/10)++[UInt8.ofNat (48+u%10)]by rw[decDigits];exact if_neg h);have HC:=S (M5 (u%10) (by omega));have H:=S (λW=>ih (u/10) (by omega) (by omega) W);have e1:(u:Int)/10=((u/10:Nat):Int):=by omega
    have e2:(u:Int)%10=((u%10:Nat):Int):=by omega
    have e3:(u:Int).tdiv 10=((u/10:Nat):Int):=by rw[Int.tdiv_eq_ediv_of_nonneg (by omega)];omega
    have e4:(u:Int).tmod 10=((u%10:Nat):Int):=by rw[Int.tmod_eq_emod_of_nonneg (by omega)];omega
    have h10:u%10<10:=by omega
    have hq0:u/10<=1000000:=by omega
    generalize u/10=q at*;generalize u%10=r at*;have r0:(0:Int)<=(r:Int):=by omega
    have r1:(r:Int)<=(r:Int)+1:=by omega
    have r2:(r:Int)+1<=10:=by omega
    have w1:IntKind.i64.wrap (q:Int)=q:=IntWalk.i64_in _ (by omega);have w2:IntKind.i64.wrap ((r:Int)+1)=(r:Int)+1:=IntWalk.i64_in _ (by omega);clear ih h;go_enter func346,ntmps346;go_wp2_with fail;have hl:(decDigits q).length<=7:=by rw[decDigits_length];exact OU hq0
    generalize decDigits q=ds at*;have HC':=HC.1;have hcl:¬(9223372036854775807<ds.length+1):=by omega
    go_region_held3 (λW=>w.grownBy W none) (first|exact Ae (Aa _ _)|exact Z (Ae (Aa w none)) g5) (first| (go_at_call 346;refine(H.1 _).mono ?_;rintro e w5 ⟨rfl,g5⟩));rename_i hH;have HG:=S hH;clear hH;go_wp2;go_ret;refine⟨?_,HG.1⟩;have e:UInt8.ofNat (48+r)=48+UInt8.ofNat r:=UInt8.ofNat_add 48 r;rw[HD.1,<-Hm,e];rfl
def R2(c:Nat):Lib.repeatL [48] c=List.replicate c (48:UInt8):=by
 induction c with
 |zero=>rfl
 |succ c ih=>rw[List.replicate_succ,<-ih];rfl
def JN(u k:Nat)(hu:u<=9999)(hl:(decDigits u).length<=k)(hk:k<=4)(w:World):Calls Tryz.prog 322 #[.int .i64 u,.int .i64 k] w (ρ w (str (List.replicate (k-(decDigits u).length) 48++decDigits u))):=by
 have H:=S (Qs (u+1) u (Nat.lt_succ_self _) (by omega) w);generalize decDigits u=ds at*;obtain⟨c,hc⟩:∃c,k=ds.length+c:=⟨k-ds.length,by omega⟩;subst hc;rw[Nat.add_sub_cancel_left];have e1:((ds.length+c:Nat):Int)-(ds.length:Int)=(c:Int):=by omega
 have e2:((ds.length:Int)+(c:Int))-(ds.length:Int)=(c:Int):=by omega
 have hz0:(List.replicate c (48:UInt8)).length=c:=List.length_replicate;have hz1:=R2 c;generalize List.replicate c (48:UInt8)=z at*;have HZ:=S hz1;have hcl:¬(9223372036854775807<z.length+ds.length):=by omega
 clear hz1 hz0;go_enter func322,ntmps322;go_wp2_with fail;refine mR H.1 λw1 g1=>?_;go_wp2_with fail;refine(strings_Repeat ⟨[48].toArray⟩ c _ (by omega) (by simp[ByteArray.size];omega)).mono ?_;rintro e w2 ⟨rfl,hb⟩;rw[show(⟨[(48:UInt8)].toArray⟩:ByteArray).data.toList=[48]from rfl,HZ.1];have HG:=S (Z g1 (gbB hb none));clear hb g1;go_wp2;go_ret;exact⟨by rw[<-Hm];rfl,HG.1⟩
def Vo(s:Bs)(k:Nat)(hk:k<=s.length):Bi s k=34::(s.take k).flatMap qtB:=by
 induction k with
 |zero=>simp[Bi]
 | succ k ih=>
   have hk':k<s.length:=hk;rw[Bi,ih (by omega),List.take_add_one,List.getElem?_eq_getElem hk',List.flatMap_append];have:bAt s k=s[k]:=by simp[bAt,hk']
   rw[this];rw[Option.toList_some,List.flatMap_singleton];rfl
def Eh(s:Bs):qtM s=34::(s.flatMap qtB++[34]):=by
 rw[qtM,Vo s _ (nR _),List.take_length];rfl
def G1(h:n<16):(A3 n).toNat=if n<10 then 48+n else 87+n:=by
 rw[A3,UInt8.toNat_ofNat'];split<;>omega
def MO{b:UInt8}{x:UInt8}(h:x∈qtB b):32<=x.toNat/\x.toNat<=126/\x≠34:=by
 unfold qtB at h;have h16:=BQ (b:=b);have e34:(34:UInt8).toNat=34:=rfl;split at h
 ·simp only[List.mem_cons,List.not_mem_nil,or_false]at h;have hx:∀n,n<16->32<=(A3 n).toNat/\(A3 n).toNat<=126/\A3 n≠34:=by
   intro n hn;have h1:=G1 hn;refine⟨by rw[h1];split<;>omega,by rw[h1];split<;>omega,λe=>?_⟩;rw[e,e34]at h1;split at h1<;>omega
  rcases h with rfl|rfl|rfl
  ·decide
  ·exact hx _ h16.1
  ·exact hx _ h16.2
 ·rename_i he;simp only[List.mem_cons,List.not_mem_nil,or_false]at h;subst h;simp[Ch]at he;refine⟨by omega,by omega,λe=>?_⟩;rw[e]at he;simp at he
def Za{b c:UInt8}(h:qtB b++r=qtB c++r'):b=c/\r=r':=by
 have hb:=BQ (b:=b);have hc:=BQ (b:=c);have e37:∀d:UInt8,Ch d=false->d≠37:=by
  intro d hd e;rw[e]at hd;exact absurd hd (by decide)
 unfold qtB at h;cases hb1:Ch b<;>cases hc1:Ch c<;>simp only[hb1,hc1,if_true,if_false,Bool.false_eq_true,List.cons_append,List.nil_append,List.cons.injEq]at h
 ·exact h
 ·exact absurd h.1 (e37 b hb1)
 ·exact absurd h.1.symm (e37 c hc1)
 ·obtain⟨_,h1,h2,h3⟩:=h;refine⟨?_,h3⟩;have f1:=congrArg UInt8.toNat h1;have f2:=congrArg UInt8.toNat h2;rw[G1 hb.1,G1 hc.1]at f1;rw[G1 hb.2,G1 hc.2]at f2;apply UInt8.toNat.inj;split at f1<;>split at f1<;>split at f2<;>split at f2<;>omega
def V8(h:s.flatMap qtB++34::r=s'.flatMap qtB++34::r'):s=s'/\r=r':=by
 have hne:∀(b:UInt8)(t q:Bs),qtB b++t≠34::q:=by
  intro b t q e;have hl:=Lb b;cases hq:qtB b with
  |nil=>rw[hq]at hl;simp at hl
  | cons x y=>
    rw[hq]at e;have:=(MO (b:=b) (x:=x) (by rw[hq];simp)).2.2;simp at e;exact this e.1
 induction s generalizing s' with
 | nil=>
   cases s' with
   |nil=>simp at h;exact⟨rfl,h⟩
   | cons c t=>
     rw[fC,List.append_assoc]at h;exact absurd h.symm (hne _ _ _)
 | cons b s ih=>
   cases s' with
   | nil=>
     rw[fC,List.append_assoc]at h;exact absurd h (hne _ _ _)
   | cons c t=>
     rw[fC,fC,List.append_assoc,List.append_assoc]at h;obtain⟨rfl,h2⟩:=Za h;obtain⟨rfl,h3⟩:=ih h2;exact⟨rfl,h3⟩
def Ok(h:qtM s++r=qtM s'++r'):s=s'/\r=r':=by
 rw[Eh,Eh]at h;simp only[List.cons_append,List.append_assoc,List.nil_append,List.cons.injEq,true_and]at h;exact V8 h
def F1(b:UInt8):Bool:=b==45||AO b
def numI:Bs->Int
 | 45::r=>- AA r
 |l=>AA l
def Ji(u:Nat):∃x y,decDigits u=x::y/\x≠45:=by
 have h:=Hf u;cases hd:decDigits u with
 | nil=>
   have:=decDigits_length u;rw[hd]at this;have h1:=Mq u;simp at this;rw[<-this]at h1;simp at h1;subst h1;rw[decDigits,dif_pos (by omega)]at hd;simp at hd
 | cons x y=>
   rw[hd]at h;refine⟨x,y,rfl,λe=>?_⟩;subst e;simp[AO]at h
def Ni(n:Int):numI (itoa n)=n:=by
 unfold itoa;split
 ·rename_i h;show-AA (decDigits n.natAbs)=n;rw[IK];omega
 ·rename_i h;obtain⟨x,y,e,hx⟩:=Ji n.toNat;have:numI (decDigits n.toNat)=AA (decDigits n.toNat):=by
   rw[e];unfold numI;split
   ·rename_i h';simp at h';exact absurd h'.1 hx
   ·rfl
  rw[this,IK];omega
def VV{n:Int}(h:itoa n=itoa m):n=m:=by rw[<-Ni n,h,Ni]
def E7(n:Int):(itoa n).all F1=true:=by
 have hd:∀u,(decDigits u).all F1=true:=by
  intro u;have:=Hf u;rw[List.all_eq_true]at this ⊢;intro x hx;simp[F1,this x hx]
 unfold itoa;split
 ·simp[F1,hd]
 ·exact hd _
def KR(n:Int):itoa n≠[]:=by
 unfold itoa;split
 ·simp
 ·obtain⟨x,y,e,_⟩:=Ji n.toNat;rw[e];simp
def stop(r:Bs):Prop:=∀x t,r=x::t->F1 x=false
def Yl{a b:Bs}(ha:a.all F1=true)(hb:b.all F1=true)(hr:stop r)(hr':stop r')(h:a++r=b++r'):a=b/\r=r':=by
 induction a generalizing b with
 | nil=>
   cases b with
   |nil=>exact⟨rfl,by simpa using h⟩
   | cons y b=>
     simp at h hb;have:=hr _ _ h;rw[hb.1]at this;cases this
 | cons x a ih=>
   cases b with
   | nil=>
     simp at h ha;have:=hr' _ _ h.symm;rw[ha.1]at this;cases this
   | cons y b=>
     simp at h ha hb;obtain⟨rfl,h2⟩:=h;obtain⟨rfl,h3⟩:=ih (b:=b) (by simpa using ha.2) (by simpa using hb.2) h2;exact⟨rfl,h3⟩
def GX{n:Int}(hr:stop r)(hr':stop r')(h:itoa n++r=itoa m++r'):n=m/\r=r':=by
 obtain⟨h1,h2⟩:=Yl (E7 n) (E7 m) hr hr' h;exact⟨VV h1,h2⟩
def FM(r:Bs):stop (32::r):=by rintro x t e;cases e;rfl
def Kj(r:Bs):stop (10::r):=by rintro x t e;cases e;rfl
def RD(f:α->Bs)(l:List α)(k:Nat)(hk:k<=l.length):A4 f l k=(l.take k).flatMap f:=by
 induction k with
 |zero=>simp[A4]
 | succ k ih=>
   have hk':k<l.length:=hk;rw[A4,ih (by omega),List.take_add_one,List.getElem?_eq_getElem hk',List.flatMap_append,Option.toList_some,List.flatMap_singleton]
def J4(f:α->Bs)(l:List α):A4 f l l.length=l.flatMap f:=by
 rw[RD f l _ (nR _),List.take_length]
def JV(u:Un):AZ u=BK u++u.row.flatMap A1++[10]++u.code.flatMap Bc:=by
 rw[AZ,J4,J4]
def J7(us:List Un):AP us=us.flatMap AZ:=J4 _ _
def BA(us:List Un)(n:Int):Bs:=AP us++([115,117,109,32]++itoa n++[10])
def To{c d:Cd}(h:Bc c++r=Bc d++r'):c=d/\r=r':=by
 unfold Bc at h;simp only[List.append_assoc,List.cons_append,List.nil_append]at h;obtain⟨h1,h⟩:=GX (FM _) (FM _) h;simp only[List.cons.injEq,true_and]at h;obtain⟨h2,h⟩:=GX (FM _) (FM _) h;simp only[List.cons.injEq,true_and]at h;obtain⟨h3,h⟩:=GX (FM _) (FM _) h;simp only[List.cons.injEq,true_and]at h;obtain⟨h4,h9⟩:=Ok h;simp only[List.cons.injEq,true_and]at h9;clear h;obtain⟨⟩:=c;obtain⟨⟩:=d;simp only at h1 h2 h3 h4;subst h1 h2 h3 h4;exact⟨rfl,h9⟩
def far(r:Bs):Prop:=∀x t,r=x::t->F1 x=false
def Tq{l m:List Cd}(hr:far r)(hr':far r')(h:l.flatMap Bc++r=m.flatMap Bc++r'):l=m/\r=r':=by
 have hne:∀(c:Cd)(t q:Bs),far q->Bc c++t≠q:=by
  intro c t q hq e;have h1:=E7 c.op;have h2:=KR c.op;cases hi:itoa c.op with
  |nil=>exact h2 hi
  | cons x y=>
    rw[hi]at h1;have:q=x::(y++([32]++itoa c.a++[32]++itoa c.b++[32]++qtM c.s++[10]++t)):=by
     rw[<-e,Bc,hi];simp
    have h3:=hq _ _ this;simp at h1;rw[h1.1]at h3;cases h3
 induction l generalizing m with
 | nil=>
   cases m with
   |nil=>exact⟨rfl,by simpa using h⟩
   | cons d m=>
     rw[fC,List.append_assoc]at h;exact absurd h.symm (hne _ _ _ hr)
 | cons c l ih=>
   cases m with
   | nil=>
     rw[fC,List.append_assoc]at h;exact absurd h (hne _ _ _ hr')
   | cons d m=>
     rw[fC,fC,List.append_assoc,List.append_assoc]at h;obtain⟨rfl,h2⟩:=To h;obtain⟨rfl,h3⟩:=ih h2;exact⟨rfl,h3⟩
def WK{l m:List Int}(h:l.flatMap A1++10::r=m.flatMap A1++10::r'):l=m/\r=r':=by
 have hst:∀(k:List Int)(t:Bs),stop (k.flatMap A1++10::t):=by
  intro k t;cases k with
  |nil=>exact Kj _
  |cons i k=>rw[fC,A1];exact FM _
 induction l generalizing m with
 | nil=>
   cases m with
   |nil=>simpa using h
   |cons j m=>rw[fC,A1]at h;simp at h
 | cons i l ih=>
   cases m with
   |nil=>rw[fC,A1]at h;simp at h
   | cons j m=>
     rw[fC,fC,A1,A1]at h;simp only[List.cons_append,List.append_assoc,List.cons.injEq,true_and]at h;obtain⟨rfl,h2⟩:=GX (hst _ _) (hst _ _) h;obtain⟨rfl,h3⟩:=ih h2;exact⟨rfl,h3⟩
def NP(r:Bs):far ([115,117,109,32]++r):=by rintro x t e;cases e;rfl
def M9(us:List Un)(hr:far r):far (us.flatMap AZ++r):=by
 cases us with
 |nil=>simpa using hr
 | cons u us=>
   rw[fC,AZ,BK];rintro x t e;simp only[List.cons_append,List.append_assoc]at e;cases e;rfl
def UV{u v:Un}(hr:far r)(hr':far r')(h:AZ u++r=AZ v++r'):u=v/\r=r':=by
 rw[JV,JV,BK,BK]at h;simp only[List.append_assoc,List.cons_append,List.nil_append,List.cons.injEq,true_and]at h;obtain⟨h1,h⟩:=Ok h;obtain⟨h2,h⟩:=WK h;obtain⟨h3,h9⟩:=Tq hr hr' h;clear h;obtain⟨⟩:=u;obtain⟨⟩:=v;simp only at h1 h2 h3;subst h1 h2 h3;exact⟨rfl,h9⟩
def MY{us vs:List Un}{n:Int}(h:BA us n=BA vs m):us=vs/\n=m:=by
 unfold BA at h;rw[J7,J7]at h;simp only[List.append_assoc]at h;have hne:∀(u:Un)(t q:Bs),AZ u++t≠[115,117,109,32]++q:=by
  intro u t q e;rw[AZ,BK]at e;simp at e
 have hend:∀{i j:Int},[115,117,109,32]++(itoa i++[10])=[115,117,109,32]++(itoa j++[10])->i=j:=by
  intro i j e;have e:=List.append_cancel_left e;exact(GX (Kj _) (Kj _) e).1
 induction us generalizing vs with
 | nil=>
   cases vs with
   |nil=>exact⟨rfl,hend (by simpa using h)⟩
   | cons v vs=>
     rw[fC,List.append_assoc]at h;exact absurd h.symm (hne _ _ _)
 | cons u us ih=>
   cases vs with
   | nil=>
     rw[fC,List.append_assoc]at h;exact absurd h (hne _ _ _)
   | cons v vs=>
     rw[fC,fC,List.append_assoc,List.append_assoc]at h;obtain⟨rfl,h2⟩:=UV (M9 _ (NP _)) (M9 _ (NP _)) h;obtain⟨rfl,h3⟩:=ih h2;exact⟨rfl,h3⟩
def E4(acc:Nat)(l:Bs):Nat:=l.foldl (λn b=>10*n+(b.toNat-48)) acc
def Nl(l:Bs)(b:UInt8):E4 0 (l++[b])=10*E4 0 l+(b.toNat-48):=by
 unfold E4;rw[List.foldl_append];rfl
def ND(u:Nat):E4 0 (decDigits u)=u:=by
 induction u using Nat.strongRecOn with
 | ind u ih=>
   rw[decDigits];split
   ·rename_i h;show E4 0 ([]++[UInt8.ofNat (48+u)])=u;rw[Nl,Gz h];show 10*0+_=_;omega
   ·rename_i h;rw[Nl,ih (u/10) (by omega),Gz (by omega)];omega
def YH(l:Bs)(acc:Nat):acc<=E4 acc l:=by
 induction l generalizing acc with
 |nil=>exact nR _
 | cons c r ih=>
   have:=ih (10*acc+(c.toNat-48));show acc<=E4 (10*acc+(c.toNat-48)) r;omega
def pu_ok(l:Bs)(acc:Nat)(hd:l.all AO=true)(hu:E4 acc l<18446744073709551616):parseUint10 acc l= .ok (E4 acc l):=by
 induction l generalizing acc with
 |nil=>rfl
 | cons c r ih=>
   simp only[List.all_cons,Bool.and_eq_true]at hd;have hc:=hd.1;simp only[AO,Bool.and_eq_true,decide_eq_true_eq]at hc;have h1:=YH r (10*acc+(c.toNat-48));have hu':E4 (10*acc+(c.toNat-48)) r<18446744073709551616:=hu;rw[parseUint10,if_pos hc,if_neg (by omega),if_neg (by omega),show acc*10+(c.toNat-48)=10*acc+(c.toNat-48)by omega,ih _ hd.2 hu'];rfl
def NZ(u:Nat)(hu:u<18446744073709551616):parseMag (decDigits u)= .ok u:=by
 obtain⟨x,y,e,_⟩:=Ji u;unfold parseMag;rw[if_neg (by rw[e];simp),pu_ok _ _ (Hf u) (by rw[ND];exact hu),ND]
def JD(h:Bb m):atoiAll (itoa m)= .ok m:=by
 obtain⟨h0,h1⟩:=h;unfold itoa;split
 ·rename_i hm;unfold atoiAll;simp only[show(45:UInt8).toNat=45 from rfl,or_true,if_true];rw[NZ _ (by omega)];simp only[not_true_eq_false,false_and,if_false,true_and,if_true];rw[if_neg (by omega)];congr 1;omega
 ·rename_i hm;have hg:=Hf m.toNat;have hq:=NZ m.toNat (by omega);obtain⟨x,y,e,hx⟩:=Ji m.toNat;rw[e]at hg hq ⊢;have hx1:48<=x.toNat/\x.toNat<=57:=by
   simp only[List.all_cons,Bool.and_eq_true]at hg;simpa[AO]using hg.1
  unfold atoiAll;simp only;rw[if_neg (by omega),hq];simp only;rw[if_neg (by omega),if_neg (by omega),if_neg (by omega)];congr 1;omega
def Errs (w : World) : Prop := (∃ tp p, w.var? Tryz.prog "strconv.ErrSyntax" = some #[.iface tp p]) /\ ∃ tp p, w.var? Tryz.prog "strconv.ErrRange" = some #[.iface tp p]
def Jo: Tryz.prog.globalNamed "strconv.ErrSyntax" = some 1 := by kernel_rfl
def Ln: Tryz.prog.globalNamed "strconv.ErrRange" = some 2 := by kernel_rfl
def Errs.gb{r:Option Nat}(h:Errs w)(g:w.grownBy w1 r)(hr:∀k,r=some k->12<=k):Errs w1:=by
 have hb:∀k,k<12->k<w.heap.size->w1.heap[k]? =w.heap[k]?:=λk hk hl=>g.block k hl (λe=>by have:=hr k e.symm;omega);have hl:∀k (cs:Array Value),(match w.heap[k]? with|some (Obj.cells cs elem frozen)=>some cs|x=>none)=some cs->k<w.heap.size:=by
  intro k cs hc;rcases Nat.lt_or_ge k w.heap.size with h' |h'
  ·exact h'
  ·rw[Array.getElem?_eq_none h']at hc;simp at hc
 obtain⟨⟨t1,p1,h1⟩,⟨t2,p2,h2⟩⟩:=h;unfold World.var? at h1 h2;simp only[Jo,Ln,Option.bind_some]at h1 h2;refine⟨⟨t1,p1,?_⟩,⟨t2,p2,?_⟩⟩
 ·unfold World.var?;simp only[Jo,Option.bind_some];rw[hb _ (by decide) (hl _ _ h1)];exact h1
 ·unfold World.var?;simp only[Ln,Option.bind_some];rw[hb _ (by decide) (hl _ _ h2)];exact h2
def He(s:Bs)(hs:s.length<=1000000000)(hp:Pow w)(he:Errs w):
 Calls Tryz.prog 17 #[str s] w λe w'=>∃n b,e= .returned (.tuple #[.int .i64 n,.bool b])/\(b=true->s=itoa n/\Bb n)/\(∀m,Bb m->s=itoa m->b=true/\n=m)/\w.grownBy w' none:=by
 have hz:(⟨s.toArray⟩:ByteArray).size=s.length:=by simp[ByteArray.size]
 cases hc:atoiAll s with
 | ok v=>
   have hv:Bb v:=by
    unfold atoiAll at hc;split at hc
    ·cases hc
    ·simp only at hc;split at hc
     ·cases hc
     ·cases hc
     ·split at hc
      ·cases hc
      ·split at hc
       ·cases hc
       ·cases hc;rename_i u _ h1 h2;unfold Bb;split<;>omega
   have HC:=S (strconv_Atoi_ok ⟨s.toArray⟩ (by rw[hz];omega) v (by simpa using hc) w);go_enter func17,ntmps17;go_wp2_with fail;refine mR HC.1 λw1 hw1=>?_;have g1:w.grownBy w1 none:=by
    rcases hw1 with rfl| ⟨t,rfl⟩
    ·exact Aa _ _
    ·exact gbB (Go.Joins.below_bytesWorld _ w _ t (nR _)) none
   clear HC hw1;go_wp2_with fail;refine mR (FQ (hp.gb g1) v hv.1 hv.2) λw2 g2=>?_;go_wp2;go_ret2;refine⟨v,decide (itoa v=s),?_,λh=>?_,λm hm e=>?_,Z g1 g2⟩
   ·have:(itoa v==s)=decide (itoa v=s):=by rw[Bool.eq_iff_iff];simp
    simp[str,this]
   ·exact⟨(of_decide_eq_true h).symm,hv⟩
   ·subst e;rw[JD hm]at hc;cases hc;exact⟨by simp,rfl⟩
 | range=>
   obtain⟨_,⟨tp,p,h1⟩⟩:=he;have HC:=S (strconv_Atoi_range_var ⟨s.toArray⟩ (by rw[hz];omega) (by simpa using hc) tp p w h1);clear h1;go_enter func17,ntmps17;go_wp2_with fail;refine HC.1.mono ?_;rintro e w1 ⟨N,rfl,_,_,hb⟩;go_wp2;go_ret2;refine⟨_,false,rfl,λh=>absurd h (by decide),λm hm e=>?_,gbB hb none⟩;subst e;rw[JD hm]at hc;cases hc
 | _=>
   obtain⟨⟨tp,p,h1⟩,_⟩:=he;have HC:=S (strconv_Atoi_syntax_var ⟨s.toArray⟩ (by rw[hz];omega) hc tp p w h1);clear h1;go_enter func17,ntmps17;go_wp2_with fail;refine HC.1.mono ?_;rintro e w1 ⟨N,rfl,_,_,hb⟩;go_wp2;go_ret2;refine⟨_,false,rfl,λh=>absurd h (by decide),λm hm e=>?_,gbB hb none⟩;subst e;rw[JD hm]at hc;cases hc
section
variable {ok:Bool}
def dgM(c:Nat):Int:=if 48<=c/\c<=57 then(c:Int)-48 else if 97<=c/\c<=102 then(c:Int)-87 else -1
end
end Go.Proofs.YtbjfaimkiclhgaaGreatDoor
