/-
  KgW Code: the reference's reader of texts: a text between quotes: the walk. Code: the program's reader of texts: two hexadecimal digits, a text between quotes. Code: the program's reader of texts: a t
-/
import Derived.Test.YtbjfaimkiclhgaaGreatDoorCr14
import Derived.Test.YtbjfaimkiclhgaaGreatDoorCr15
import Derived.Lib.SplitLaws
import Derived.Test.YtbjfaimkiclhgaaGreatDoorCr08
set_option linter.all false
set_option maxRecDepth 100000
set_option maxHeartbeats 8000000
namespace Go.Proofs.YtbjfaimkiclhgaaGreatDoor
open Go.Proofs.Tryz
open Go.RowKit
variable{k i j b m B n:Nat}{t:TypeId}{wd s nm:Bs}{op:Int}{L:List Bs}{v:Value}{a:Act}{l:List Int}{ok:Bool}{w0 W W1 w w1:World}{r:Option Nat}{C:World->Prop}{xs:List Value}
def Cc(k:Nat):Nat->Nat
 | 0=>k
 | 3=>k+1
 | 4=>k+2
 | 5=>k+3
 | 6=>k+4
 | 7=>k+5
 | 8=>k+6
 |_=>5
def DI(b:Nat)(wd:Bs)(op:Int)(m s:Nat)(v:Value):Nat->Value
 | 0=> .map (some m)
 | 3=> .map (some m)
 | 4=>str wd
 | 5=> .int .i64 op
 | 6=> .pointer (some ⟨b,0,none⟩)
 | 7=>v
 | 8=> .agg (Cl op v).toArray
 |_=> .pointer (some ⟨s,0,none⟩)
abbrev Ca:List Nat:=[0,3,4,5,6,7,8,9]
structure LitA(t:Array Value)(k:Nat)(b:Nat)(wd:Bs)(op:Int)(L:Array Bool)(m s:Nat)(v:Value)(a:Act):Prop where
 d:a.defers=[]
 sz:a.tmps.size=t.size
 off:∀j,(∀i∈Ca,j≠Cc k i)->a.tmps[j]? =t[j]?
 at':∀i∈Ca,Am L i=true->a.tmps[Cc k i]? =some (DI b wd op m s v i)
def RE(hk:5<k)(hi:i∈Ca)(hj:j∈Ca)(hne:i≠j):Cc k i≠Cc k j:=by
 simp only[Ca,List.mem_cons,List.not_mem_nil,or_false]at hi hj;rcases hi with rfl|rfl|rfl|rfl|rfl|rfl|rfl|rfl<;>rcases hj with rfl|rfl|rfl|rfl|rfl|rfl|rfl|rfl<;>simp only[Cc]<;>omega
def LitA.put{t:Array Value}{L:Array Bool}{s m' s':Nat}{v':Value}(h:LitA t k b wd op L m s v a)(hL:L.size=11)(hk:5<k)(ht:k+6<t.size)(hi:i∈Ca)
 (hv:∀j∈Ca,j≠i->Am L j=true->DI b wd op m' s' v' j=DI b wd op m s v j):LitA t k b wd op (L.setIfInBounds i true) m' s' v' (a.put (some (Cc k i)) (DI b wd op m' s' v' i)):=by
 have hlt:i<L.size:=by
  simp only[Ca,List.mem_cons,List.not_mem_nil,or_false]at hi;omega
 have hp:Cc k i<a.tmps.size:=by
  rw[h.sz];simp only[Ca,List.mem_cons,List.not_mem_nil,or_false]at hi;rcases hi with rfl|rfl|rfl|rfl|rfl|rfl|rfl|rfl<;>simp only[Cc]<;>omega
 refine⟨h.d,by simp[Act.put,h.sz],λj hj=>?_,λj hj hT=>?_⟩
 ·have hne:=hj i hi;simp only[Act.put];rw[Array.getElem?_setIfInBounds_ne (Ne.symm hne)];exact h.off j hj
 ·simp only[Act.put];by_cases e:j=i
  ·subst e;rw[Array.getElem?_setIfInBounds_self_of_lt hp]
  ·rw[Array.getElem?_setIfInBounds_ne (RE hk hi hj (Ne.symm e)),hv j hj e ?_]
   ·rw[Dw hlt,if_neg e]at hT;exact h.at' j hj hT
   ·rw[Dw hlt,if_neg e]at hT;exact hT
def LitA.whole{t:Array Value}{L:Array Bool}{s:Nat}(h:LitA t k b wd op L m s v a)(hk:5<k)(ht:k+6<t.size)(hT:∀i∈Ca,Am L i=true):
 a={tmps:=(((((((t.setIfInBounds k (.map (some m))).setIfInBounds (k+1) (.map (some m))).setIfInBounds (k+2) (str wd)).setIfInBounds (k+3) (.int .i64 op)).setIfInBounds (k+4) (.pointer (some ⟨b,0,none⟩))).setIfInBounds (k+5) v).setIfInBounds (k+6) (.agg (Cl op v).toArray)).setIfInBounds 5 (.pointer (some ⟨s,0,none⟩)),defers:=[]}:=by
 obtain⟨tm,df⟩:=a;have hd:df=[]:=h.d;subst hd;refine congrArg (λx=>({tmps:=x,defers:=[]}:Act)) ?_;apply Array.ext_getElem?;intro j;have hs:tm.size=t.size:=h.sz;by_cases hj:∀i∈Ca,j≠Cc k i
 ·have:=h.off j hj;simp only at this;rw[this];have hj0:=hj 0 (by decide);have hj3:=hj 3 (by decide);have hj4:=hj 4 (by decide);have hj5:=hj 5 (by decide);have hj6:=hj 6 (by decide);have hj7:=hj 7 (by decide);have hj8:=hj 8 (by decide);have hj9:=hj 9 (by decide);simp only[Cc]at hj0 hj3 hj4 hj5 hj6 hj7 hj8 hj9;repeat rw[Array.getElem?_setIfInBounds_ne (by omega)]
 ·simp only[Classical.not_forall,Classical.not_not]at hj;obtain⟨i,hi,rfl⟩:=hj;have hat:=h.at' i hi (hT i hi);simp only at hat;rw[hat];simp only[Ca,List.mem_cons,List.not_mem_nil,or_false]at hi;rcases hi with rfl|rfl|rfl|rfl|rfl|rfl|rfl|rfl<;>simp only[Cc,DI]<;>(repeat rw[Array.getElem?_setIfInBounds_ne (by omega)])<;>rw[Array.getElem?_setIfInBounds_self_of_lt (by first|omega| (simp;omega))]
open Go.Lib
def XG(w:World):(convert 84 9 (.slice none 0 0)).run Tryz.prog w= .ok (str []) w:=by
 rw[run_convert_bytes_string w 84 9 5 none 0 0 underlying84 underlying5 underlying9];simp[Conv.bytesToString];rfl
def TX.atEnd{l:Bs}(h:TX s i ok j l k true)(hq:Aw s k true [34]=false)(hk:s.length<=k):TX s i ok j l k false:=by
 refine h.bad (λb q r e=>?_) hq (nR k) h.len;rw[List.drop_eq_nil_of_le hk]at e;have h1:=congrArg List.length e;have h2:=Hs b;simp at h1;omega
def TX.noHex{l:Bs}(h:TX s i ok j l k true)(hq:Aw s k true [34]=false)(hk:k<s.length)(h37:bAt s k=37)(hx:¬k+3<=s.length\/dgM (bAt s (k+1)).toNat<0\/dgM (bAt s (k+2)).toNat<0):TX s i ok j l (k+1) false:=by
 refine h.bad (λb q r e=>?_) hq (Nat.le_succ k) (Nat.le_succ_of_le h.len);obtain⟨h1,h2,h3,_⟩:=J1 hk h37 e;omega
def O9{i:Int}{o:Option Nat}(h:(W.cell? ⟨b,0,none⟩=some (str s)/\W.cell? ⟨b,1,none⟩=some (.int .i64 i))/\w0.grownBy W r)(g:W.grownBy W1 o)(hr:some b≠o)(ho:∀k,o=some k->w0.heap.size<=k):(W1.cell? ⟨b,0,none⟩=some (str s)/\W1.cell? ⟨b,1,none⟩=some (.int .i64 i))/\w0.grownBy W1 r:=
 ⟨⟨B9 g h.1.1 hr,B9 g h.1.2 hr⟩,BB h.2 g ho⟩
def Rdr.drew0(h:Rdr w b s i ok):w.drew.cell? ⟨b,0,none⟩=some (str s):=Ae (Ad (Aa _ _)) h.c0
def Rdr.drew1(h:Rdr w b s i ok):w.drew.cell? ⟨b,1,none⟩=some (.int .i64 i):=Ae (Ad (Aa _ _)) h.c1
def OG{x y z:Value}(hC:∀W,w0.grownBy W none->C W)(h:((W.cell? ⟨b,0,none⟩=some x/\W.cell? ⟨b,1,none⟩=some y/\W.cell? ⟨b,2,none⟩=some z)/\C W)/\w0.grownBy W none)(g:W.grownBy W1 none):((W1.cell? ⟨b,0,none⟩=some x/\W1.cell? ⟨b,1,none⟩=some y/\W1.cell? ⟨b,2,none⟩=some z)/\C W1)/\w0.grownBy W1 none:=
 ⟨⟨⟨Ae g h.1.1.1,Ae g h.1.1.2.1,Ae g h.1.1.2.2⟩,hC _ (Z h.2 g)⟩,Z h.2 g⟩
def cat3(m:Bs):((⟨#[34]⟩:ByteArray)++⟨m.toArray⟩++⟨#[34]⟩).toList=34::(m++[34]):=by
 rw[Lib.toList_data];simp[ByteArray.data_append]
def KL{l:Bs}(h:OwnBs w B v l):(convert 84 9 v).run Tryz.prog w= .ok (str l) w:=by
 rcases id h.2 with⟨rfl,h2⟩| ⟨g1,cap1,cur1,rfl,_⟩
 ·have:l=[]:=List.eq_nil_of_length_eq_zero h2;subst this;exact XG w
 ·exact Mo cap1 h
def OZ{ops:Array Oper}{o:Oper}{K:Act->World->Prop}{Q:Exit->Act->World->Prop}{E:Prop}{wr W0:World}{A:Prop}{l:Bs}{c:UInt8}(hgd:o.guard=none)(s x:Operand)
 (ho:o.op= .call {callee:= .builtin .append,args:=#[s,x],argTypes:=#[84,84]})
 (hS:A/\w0.grownBy (W0.alloc (.cells #[.int .u8 c.toNat] 5 (0,0))).drew r) (hO:OwnBs wr w0.heap.size v l) (gc:wr.grownBy W0 none)
 (hs:a.eval s=v) (hx:a.eval x= .slice (some ⟨W0.heap.size,0,none⟩) 1 1) (hk:l.length<=100000000) (h0:w0.heap.size<=wr.heap.size)
 (h:∀g cap w',OwnBs w' w0.heap.size (.slice (some ⟨g,0,none⟩) (l.length+1) cap) (l++[c])->(W0.alloc (.cells #[.int .u8 c.toNat] 5 (0,0))).drew.grownBy w' v.ownBlock->K (a.put o.dst (.slice (some ⟨g,0,none⟩) (l.length+1) cap)) w'):
 if Region.wanted o (yielded ops a.tmps)=true then Oper.wp Tryz.prog o a (W0.alloc (.cells #[.int .u8 c.toNat] 5 (0,0))).drew K Q else E:=by
 obtain⟨n0,hn0,hv0,hv1,hv2⟩:=info_parts GE;refine step_append_lies _ hgd s x 84 ho w0.heap.size 5 n0 (.int .u8 0) 1 1 underlying84 hn0 hv0 hv1 hv2 rfl (by decide) v l.length (AQ l) hs ((hO.gb gc).gb (Ad (Ac (Aa _ _) _))) ⟨W0.heap.size,0,none⟩ 1 1 [.int .u8 c.toNat] hx rfl (AP W0 [.int .u8 c.toNat] 5) (by simp[Value.oneCell']) (by decide) (by unfold maxLen;omega) (by omega) (by have:=gc.size;simp;omega) _ rfl ?_;intro g cap w' h1 h2 h3 _;exact h g cap w' (Jf c h1) h2
def Nk(h:Rdr w b s i ok):
 Calls Tryz.prog 23 #[.pointer (some ⟨b,0,none⟩)] w λe w'=>∃t i' ok',e= .returned (str t)/\Rdr w' b s i' ok'/\w.grownBy w' (some b)/\GG s i ok t i' ok'/\t.length<=s.length:=by
 obtain⟨i0,HI⟩:=iPz GE;have HT:=S (Ea h [34] (by decide));have hlt:=h.blk.lt;have hfew:=h.few;have HX0:=S (TX.init (s:=s) (i:=i) (ok:=ok));clear h;go_enter func23,ntmps23;go_wp2_with fail;refine HT.1.mono ?_;rintro e w1 ⟨rfl,g1,h1⟩;generalize Cu s i ok [34]=j at*;generalize Aw s i ok [34]=o1 at*;have c1:=h1.c1;have HH:=S (X h1 g1);have hsz1:=g1.size;clear h1 g1 HT;go_wp2_with fail;go_loopg [4,5] (s.length+1) (λg v4 v5 wr=>∃k okk l,(if okk=true then s.length+1-k else 0)<=g/\Rdr wr b s k okk/\OwnBs wr w.heap.size v4 l/\TX s i ok j l k okk/\w.grownBy wr (some b))
 case atStart=>exact⟨j,o1,[],by split<;>omega,HH.1.1,Oh _ _,HX0.1,HH.1.2⟩
 case round=>
  obtain⟨k,okk,l,hk,hR,hO,hX,hG⟩:=hrel;have c0:=hR.c0;have c1:=hR.c1;have c2:=hR.c2;have hlt2:=hR.blk.lt;have hle:=hR.le;have hgs:=hG.size;cases okk with
  | false=>
    have f2:=hR.blk.frozen 2;have HB:=S (X hR (X hX hG));clear hR hO hX hG;go_wp2_with fail;go_quiet(fail);have gq:=Aj HB.1.2.2 nq;have hZ:=HB.1.1.gbN (Aj (Aa _ _) nq);have z2:=hZ.c2;have f9:=hZ.blk.frozen 2;have hlt9:=hZ.blk.lt;have HZ:=S (X hZ gq);clear hZ gq;go_wp2;go_ret;exact⟨[],_,false,rfl,HZ.1.1.bad,Ai HZ.1.2 2 _,HB.1.2.1.fail,nZ _⟩
  | true=>
    have hk:s.length+1-k<=gk:=by simpa using hk
    have HIs:=S (Ht hR [34] (by decide));have HB:=S (X hR (X hO (X hX hG)));clear hR hO hX hG;go_wp2_with fail;refine mR HIs.1 λw2 g2=>?_;have hR:=HB.1.1.gbN g2;have hO:=HB.1.2.1.gb g2;have hG:=Z HB.1.2.2.2 (Ao g2);have c0:=hR.c0;have c1:=hR.c1;have c2:=hR.c2;have f1:=hR.blk.frozen 1;have f2:=hR.blk.frozen 2;have hlt3:=hR.blk.lt;have hX:=HB.1.2.2.1;have HC:=S (X hR (X hO (X hX hG)));clear hR hO hX hG g2 HB HIs;cases hq:Aw s k true [34]with
    | true=>
      obtain⟨m,hm⟩:∃m,m=(s.drop j).take (k-j):=⟨_,rfl⟩;have hx:(⟨s.toArray⟩:ByteArray).extract j k=⟨m.toArray⟩:=by rw[hm];exact Cf s j k
      have hjk:=HC.1.2.2.1.le.2;have i1:(0:Int)<=(j:Int):=by omega
      have i2:(j:Int)<=(k:Int):=by omega
      have i3:(k:Int)<=(s.length:Int):=by omega
      have hml:m.length<=s.length:=by rw[hm];simp;omega
      have hll:l.length<=s.length:=by have:=HC.1.2.2.1.len;omega
      have hcl1:¬(9223372036854775807<1+m.length):=by omega
      have hcl2:¬(9223372036854775807<1+m.length+1):=by omega
      have HBk:=S (λW (g:w2.grownBy W none)=>KL (HC.1.2.1.gb g));have HXS:=S (show(λW=>((W.cell? ⟨b,0,none⟩=some (str s)/\W.cell? ⟨b,1,none⟩=some (.int .i64 k)/\W.cell? ⟨b,2,none⟩=some (.bool true))/\(convert 84 9 u4).run Tryz.prog W= .ok (str l) W)/\w2.grownBy W none) w2.drew from⟨⟨⟨Ae (Ad (Aa _ _)) c0,Ae (Ad (Aa _ _)) c1,Ae (Ad (Aa _ _)) c2⟩,HBk.1 _ (Ad (Aa _ _))⟩,Ad (Aa _ _)⟩);have HM:=S hm;obtain⟨ql,hql⟩:∃q,q=qtM l:=⟨_,rfl⟩;have HQ:=S (λW=>by have h:=Rv l (by omega) W;rw[<-hql]at h;exact h);have HQl:=S hql;clear hql hm;have hcat:=cat3 m;cases hc:(ql==((⟨#[34]⟩:ByteArray)++⟨m.toArray⟩++⟨#[34]⟩).toList)with
      | true=>
        have HCq:=S (show qtM l=34::((s.drop j).take (k-j)++[34])by rw[<-HM.1,<-HQl.1];rw[hcat]at hc;simpa using hc);clear hcat;go_wp2_with fail;go_region_held3 (λW=>((W.cell? ⟨b,0,none⟩=some (str s)/\W.cell? ⟨b,1,none⟩=some (.int .i64 k)/\W.cell? ⟨b,2,none⟩=some (.bool true))/\(convert 84 9 u4).run Tryz.prog W= .ok (str l) W)/\w2.grownBy W none)
         (first|exact HXS.1|exact OG HBk.1 (by assumption) g5)
         ((go_at_call 50;refine(HQ.1 _).mono ?_;rintro e w5 ⟨rfl,g5⟩))
        rename_i hH;have hR5:=HC.1.1.gbN hH.2;have HTk:=S (Ea hR5 [34] (by decide));have HR5:=S (X hR5 (X (HC.1.2.1.gb hH.2) (Z HC.1.2.2.2 (Ao hH.2))));clear hR5 hH g5;go_wp2_with fail;refine HTk.1.mono ?_;rintro e w6 ⟨rfl,g6,h6⟩;rw[Cu,if_pos hq,hq]at h6;have hback:=KL (HR5.1.2.1.gbb g6 hlt);have HE:=S (X h6 (Z HR5.1.2.2 g6));clear h6 g6;go_wp2;go_ret;exact⟨_,k+1,true,rfl,HE.1.1,HE.1.2,HC.1.2.2.1.right hq HCq.1,hll⟩
      | false=>
        have HCq:=S (show qtM l≠34::((s.drop j).take (k-j)++[34])by rw[<-HM.1,<-HQl.1];rw[hcat]at hc;simpa using hc);clear hcat;go_wp2_with fail;go_region_held3 (λW=>((W.cell? ⟨b,0,none⟩=some (str s)/\W.cell? ⟨b,1,none⟩=some (.int .i64 k)/\W.cell? ⟨b,2,none⟩=some (.bool true))/\(convert 84 9 u4).run Tryz.prog W= .ok (str l) W)/\w2.grownBy W none)
         (first|exact HXS.1|exact OG HBk.1 (by assumption) g5)
         ((go_at_call 50;refine(HQ.1 _).mono ?_;rintro e w5 ⟨rfl,g5⟩))
        rename_i hH;have hR5:=HC.1.1.gbN hH.2;have z2:=hR5.c2;have f9:=hR5.blk.frozen 2;have z9:=hR5.blk.lt;have HR5:=S (X hR5 (Z HC.1.2.2.2 (Ao hH.2)));clear hR5 hH g5;go_wp2;go_ret;exact⟨[],k,false,rfl,HR5.1.1.bad,Ai HR5.1.2 2 _,HC.1.2.2.1.wrong hq HCq.1,nZ _⟩
    | false=>
      by_cases hkl:k=s.length
      ·have hj1:((k:Int)==(s.length:Int))=true:=by simp[hkl]
       go_wp2_with fail;go_quiet(fail);have hR3:=HC.1.1.gbN (Aj (Aa _ _) nq);have f9:=hR3.blk.frozen 2;have z2:=hR3.c2;have z9:=hR3.blk.lt;have HD:=S (X hR3 (X trivial (Aj HC.1.2.2.2 nq)));clear hR3;have hR5:=HD.1.1.bad;have hG5:=Ai HD.1.2.2 2 (.bool false);have HB:=S (X hR5 (X (HC.1.2.2.1.atEnd hq (by omega)) hG5));have c0:=hR5.c0;have c2:=hR5.c2;clear hR5 hG5;go_wp2_with fail;go_quiet(fail);have gq:=Aj HB.1.2.2 nq;have hZ:=HB.1.1.gbN (Aj (Aa _ _) nq);have z2:=hZ.c2;have f9:=hZ.blk.frozen 2;have hlt9:=hZ.blk.lt;have HZ:=S (X hZ gq);clear hZ gq;go_wp2;go_ret;exact⟨[],_,false,rfl,HZ.1.1.bad,Ai HZ.1.2 2 _,HB.1.2.1.fail,nZ _⟩
      ·have hj1:((k:Int)==(s.length:Int))=false:=by simp;omega
       have hks:k<s.length:=by omega
       have hgk:=λh=>CT s k h hks;have hb256:=s[k].toNat_lt;have i1:(0:Int)<=(k:Int):=by omega
       have i2:(k:Int)<(s.length:Int):=by omega
       go_wp2_with fail;go_quiet(fail);have gq:=Aj (Aa w2 none) nq;generalize w2.drewN nq=w3 at*;have hR3:=HC.1.1.gbN gq;have c0:=hR3.c0;have c1:=hR3.c1;have f1:=hR3.blk.frozen 1;have hlt5:=hR3.blk.lt;have HC:=S (X hR3 (X (HC.1.2.1.gb gq) (X HC.1.2.2.1 (Z HC.1.2.2.2 (Ao gq)))));clear gq hR3 c2 f2 hlt3 hlt2;go_wp2_with fail;go_quiet(fail);have gq:=Aj (Aa w3 none) nq;generalize w3.drewN nq=w2 at*;have hR3:=HC.1.1.gbN gq;have c0:=hR3.c0;have c1:=hR3.c1;have f1:=hR3.blk.frozen 1;have hlt5:=hR3.blk.lt;have HC:=S (X hR3 (X (HC.1.2.1.gb gq) (X HC.1.2.2.1 (Z HC.1.2.2.2 (Ao gq)))));clear gq hR3;go_upto_region 9 with fail;have hR3:Rdr (w2.setCell ⟨b,1,none⟩ (.int .i64 ((k:Int)+1))) b s (k+1) true:=HC.1.1.go (k:=k+1) (by omega);have hG3:=Ai HC.1.2.2.2 1 (.int .i64 ((k:Int)+1));have hO3:=HC.1.2.1.gbb (Ai (Aa _ _) 1 (.int .i64 ((k:Int)+1))) hlt;generalize w2.setCell ⟨b,1,none⟩ (.int .i64 ((k:Int)+1))=W3 at*;have hgs3:=hG3.size;have HD:=S (X hR3 (X hO3 hG3));have d0:=hR3.c0;have d1:=hR3.c1;have d2:=hR3.c2;have e1:=hR3.blk.frozen 1;have e2:=hR3.blk.frozen 2;have hlt4:=hR3.blk.lt;have hno:some b≠u4.ownBlock:=λe=>by have:=(World.ownsRow.lt hO3 b e.symm).1;omega
       have HN:=S hno;have hln:l.length<=s.length:=by have:=HC.1.2.2.1.len;omega
       clear hR3 hG3 hO3 c0 c1 f1 hno;by_cases h37:s[k]=37
       ·have hi37:((s[k].toNat:Int)==37)=true:=by rw[h37];rfl
        have hb37:bAt s k=37:=by rw[B0 hks];exact h37
        have hw1:IntKind.i64.wrap ((k:Int)+1+2)=(k:Int)+1+2:=IntWalk.i64_in _ (by omega);clear h37;by_cases h3:k+3<=s.length
        ·have q1:decide ((s.length:Int)<(k:Int)+1+2)=false:=by rw[decide_eq_false_iff_not];omega
         have k1:k+1<s.length:=by omega
         have k2:k+2<s.length:=by omega
         obtain⟨p1,hp1⟩:∃p,p=s[k+1].toNat:=⟨_,rfl⟩;obtain⟨p2,hp2⟩:∃p,p=s[k+2].toNat:=⟨_,rfl⟩;have hga:=λh=>(congrArg UInt8.toNat (CT s (k+1) h k1)).trans hp1.symm;have hgb:=λh=>(congrArg UInt8.toNat (CT s (k+2) h k2)).trans hp2.symm;have hw2:IntKind.i64.wrap ((k:Int)+1+1)=(k:Int)+1+1:=IntWalk.i64_in _ (by omega);have n1:((k:Int)+1).toNat=k+1:=by omega
         have n2:((k:Int)+1+1).toNat=k+2:=by omega
         have n3:(0:Int)<=(k:Int)+1:=by omega
         have n4:(k:Int)+1<(s.length:Int):=by omega
         have n5:(0:Int)<=(k:Int)+1+1:=by omega
         have n6:(k:Int)+1+1<(s.length:Int):=by omega
         have HX:=S (λW=>MG p1 (by rw[hp1];exact s[k+1].toNat_lt) W);have HY:=S (λW=>MG p2 (by rw[hp2];exact s[k+2].toNat_lt) W);have HV:=S (X (OS p1) (OS p2));have HEx:=S (show dgM (bAt s (k+1)).toNat=dgM p1 by rw[B0 k1,hp1]);have HEy:=S (show dgM (bAt s (k+2)).toNat=dgM p2 by rw[B0 k2,hp2]);generalize dgM p1=x at*;generalize dgM p2=y at*;clear hp1 hp2;by_cases hxy:x<0\/y<0
         ·have hb:=HC.1.2.2.1.noHex hq hks hb37 (by rw[HEx.1,HEy.1];exact .inr hxy);have HBx:=S hb;clear hb;have hc:x<0\/(decide (x<0)=false/\y<0):=by
           rcases Int.lt_or_le x 0 with h|h
           ·exact .inl h
           ·exact .inr ⟨by simp;omega,by omega⟩
          clear hxy;rcases hc with hx0| ⟨hx0,hy0⟩
          all_goals
           go_wp2_with fail;go_quiet(first| ((go_at_call 49;with_reducible refine(HX.1 _).mono ?_;rintro e w9 ⟨rfl,rfl⟩;exact⟨rfl,_,rfl⟩))| ((go_at_call 49;with_reducible refine(HY.1 _).mono ?_;rintro e w9 ⟨rfl,rfl⟩;exact⟨rfl,_,rfl⟩)));have hR3:=HD.1.1.gbN (Aj (Aa _ _) nq);have f9:=hR3.blk.frozen 2;have z2:=hR3.c2;have z9:=hR3.blk.lt;have HD:=S (X hR3 (X trivial (Aj HD.1.2.2 nq)));clear hR3;have hR5:=HD.1.1.bad;have hG5:=Ai HD.1.2.2 2 (.bool false);have HB:=S (X hR5 (X HBx.1 hG5));have c0:=hR5.c0;have c2:=hR5.c2;clear hR5 hG5;go_wp2_with fail;go_quiet(fail);have gq:=Aj HB.1.2.2 nq;have hZ:=HB.1.1.gbN (Aj (Aa _ _) nq);have z2:=hZ.c2;have f9:=hZ.blk.frozen 2;have hlt9:=hZ.blk.lt;have HZ:=S (X hZ gq);clear hZ gq;go_wp2;go_ret;exact⟨[],_,false,rfl,HZ.1.1.bad,Ai HZ.1.2 2 _,HB.1.2.1.fail,nZ _⟩
         ·have hx0:0<=x:=by omega
          have hy0:0<=y:=by omega
          have hdx:decide (x<0)=false:=by rw[decide_eq_false_iff_not];omega
          have hdy:decide (y<0)=false:=by rw[decide_eq_false_iff_not];omega
          clear hxy;go_wp2_with fail;go_quiet(first| ((go_at_call 49;with_reducible refine(HX.1 _).mono ?_;rintro e w9 ⟨rfl,rfl⟩;exact⟨rfl,_,rfl⟩))| ((go_at_call 49;with_reducible refine(HY.1 _).mono ?_;rintro e w9 ⟨rfl,rfl⟩;exact⟨rfl,_,rfl⟩)));have gq:=Aj (Aa W3 none) nq;generalize W3.drewN nq=W4 at*;have hR4:=HD.1.1.gbN gq;have HD:=S (X hR4 (X (HD.1.2.1.gb gq) (Z HD.1.2.2 (Ao gq))));have d0:=hR4.c0;have d1:=hR4.c1;have e1:=hR4.blk.frozen 1;have hlt4:=hR4.blk.lt;have hgs4:=HD.1.2.2.size;have hx15:=HV.1.1;have hy15:=HV.1.2;clear gq hR4 d2 e2;have HW:=S (show UInt8.ofNat (16*x.toNat+y.toNat)=UInt8.ofNat (16*x.toNat+y.toNat)from rfl);obtain⟨c,hc⟩:∃c:UInt8,c=UInt8.ofNat (16*x.toNat+y.toNat):=⟨_,rfl⟩;have hcn:(c.toNat:Int)=16*x+y:=by rw[hc,UInt8.toNat_ofNat'];omega
          have HS:=S (HC.1.2.2.1.step hq (c:=c) (k':=k+3) (by omega) (by rw[hc];exact YC hks hb37 (by rw[HEx.1];omega) (by rw[HEy.1];omega)));have v1:IntKind.i64.wrap (16*x)=16*x:=IntWalk.i64_in _ (by omega);have v2:IntKind.i64.wrap (16*x+y)=16*x+y:=IntWalk.i64_in _ (by omega);have v3:IntKind.u8.wrap (16*x+y)=(c.toNat:Int):=by rw[hcn];exact IntWalk.u8_in _ (by omega)
          clear hc hcn HW;go_wp2_with fail;have HXS:=S (show(λW=>(W.cell? ⟨b,0,none⟩=some (str s)/\W.cell? ⟨b,1,none⟩=some (.int .i64 ((k:Int)+1)))/\w.grownBy W (some b)) W4.drew from⟨⟨HD.1.1.drew0,HD.1.1.drew1⟩,Z HD.1.2.2 (Ao (Ad (Aa _ none)))⟩);have HGC:=S (show W4.grownBy W4 none from Aa _ _);have HLT:=S (λq e=>(World.ownsRow.lt HD.1.2.1 q e));go_region_held3 (λW=>(W.cell? ⟨b,0,none⟩=some (str s)/\W.cell? ⟨b,1,none⟩=some (.int .i64 ((k:Int)+1)))/\w.grownBy W (some b))
           (first|assumption|exact HXS.1|exact O9 (by assumption) hg7 HN.1 (λq e=>(HLT.1 q e).1)|exact O9 HXS.1 (gZ W4.drew _ none) (by simp) (by simp))
           (first| ((go_at_call 49;with_reducible refine(HX.1 _).mono ?_;rintro e w9 ⟨rfl,rfl⟩))| ((go_at_call 49;with_reducible refine(HY.1 _).mono ?_;rintro e w9 ⟨rfl,rfl⟩))| (refine OZ (c:=c) (by rfl) _ _ (by rfl) (by assumption) HD.1.2.1 (by repeat(first|exact HGC.1| (refine Z ?_ (by assumption)))) (by rfl) (by rfl) (by omega) (by omega) ?_;intro g10 cap10 w7 hown7 hg7))
          all_goals
           have hR7:=(HD.1.1.gbN (Ad (Ac (Aa W4 none) (.cells #[.int .u8 c.toNat] 5 (0,0))))).gb hg7 HN.1;have hG7:=BB (Z HD.1.2.2 (Ao (Ad (Ac (Aa W4 none) (.cells #[.int .u8 c.toNat] 5 (0,0)))))) hg7 (λq e=>(HLT.1 q e).1);have y1:=hR7.c1;have y2:=hR7.blk.frozen 1;have y3:=hR7.blk.lt;have HZ:=S (X hR7 (X hown7 hG7));clear hR7 hG7 hown7 hg7;go_wp2;go_roundg (s.length+1-(k+3))
           case measure=>omega
           case rel=>exact⟨k+3,true,_,by simp,HZ.1.1.go (k:=k+3) h3,HZ.1.2.1.gbb (Ai (Aa _ _) 1 _) hlt,HS.1,Ai HZ.1.2.2 1 _⟩
        ·have q1:(s.length:Int)<(k:Int)+1+2:=by omega
         go_wp2_with fail;go_quiet(fail);have hR3:=HD.1.1.gbN (Aj (Aa _ _) nq);have f9:=hR3.blk.frozen 2;have z2:=hR3.c2;have z9:=hR3.blk.lt;have HD:=S (X hR3 (X trivial (Aj HD.1.2.2 nq)));clear hR3;have hR5:=HD.1.1.bad;have hG5:=Ai HD.1.2.2 2 (.bool false);have HB:=S (X hR5 (X (HC.1.2.2.1.noHex hq hks hb37 (.inl h3)) hG5));have c0:=hR5.c0;have c2:=hR5.c2;clear hR5 hG5;go_wp2_with fail;go_quiet(fail);have gq:=Aj HB.1.2.2 nq;have hZ:=HB.1.1.gbN (Aj (Aa _ _) nq);have z2:=hZ.c2;have f9:=hZ.blk.frozen 2;have hlt9:=hZ.blk.lt;have HZ:=S (X hZ gq);clear hZ gq;go_wp2;go_ret;exact⟨[],_,false,rfl,HZ.1.1.bad,Ai HZ.1.2 2 _,HB.1.2.1.fail,nZ _⟩
       ·have hi37 : ((s[k].toNat : Int) == 37) = false := by
         rw[beq_eq_false_iff_ne];intro e;exact h37 (UInt8.toNat_inj.1 (by show _=37;omega))
        have HS:=S (HC.1.2.2.1.step hq (c:=s[k]) (k':=k+1) (by omega) (by rw[<-B0 hks]at h37 ⊢;exact NG hks h37));clear h37;go_wp2_with (at_builtin;go_loud(refine wpList_append_lies _ rfl _ _ 84 rfl w.heap.size 5 i0 (.int .u8 0) 1 1 underlying84 HI.1.1 HI.1.2.1 HI.1.2.2.1 HI.1.2.2.2 rfl (by decide) u4 l.length (AQ l) rfl (HD.1.2.1.gb (gZ _ _ none)) ⟨W3.heap.size,0,none⟩ 1 1 [.int .u8 s[k].toNat] rfl rfl (AP _ _ _) (by simp[Value.oneCell']) (by decide) (by unfold maxLen;omega) (by omega) (by simp;omega) _ rfl ?_;intro g6 cap6 w6 hown hgrow hat6 hlt6;(have HZ:=S (X (Jf s[k] hown) (X ((HD.1.1.gbN (gZ _ _ none)).gb hgrow HN.1) (BB (Ac HD.1.2.2 _) hgrow (λq e=>(World.ownsRow.lt HD.1.2.1 q e).1)))));clear hown hgrow hat6));go_roundg (s.length+1-(k+1))
        case measure=>omega
        case rel=>exact⟨k+1,true,_,by simp,HZ.1.2.1,HZ.1.1,HS.1,HZ.1.2.2⟩
def Errs.gbN(h:Errs w)(g:w.grownBy w1 none):Errs w1:=h.gb g (λk e=>by cases e)
def Z1(s:Bs)(hs:s.length=2)(he:Errs w):
 Calls Tryz.prog 102 #[str s,.int .i64 16,.int .i64 8] w λe w'=>w.grownBy w' none/\
  (((∀j,j<2->Bc (bAt s j).toNat<16)/\e= .returned (.tuple #[.int .u64 (BE s 2),.nilIface]))\/
   ((∃j,j<2/\¬Bc (bAt s j).toNat<16)/\∃tp p,e= .returned (.tuple #[.int .u64 0,.iface tp p]))):=by
 have HP:=S (WX s hs w);have HE:=S he;clear he;go_enter func102,ntmps102;go_wp2_with fail;refine HP.1.mono ?_;rintro e w1 ⟨g1,h1⟩;rcases h1 with⟨hd,rfl⟩| ⟨hd,rfl⟩
 ·have HD:=S (X hd g1);clear hd g1;go_wp2;go_ret2;exact⟨HD.1.2,.inl ⟨HD.1.1,rfl⟩⟩
 ·have HD:=S (X hd g1);have hE1:=HE.1.gbN g1;clear hd g1;obtain⟨⟨tp,p,hv⟩,_⟩:=hE1;have hv2:w1.cell? ⟨1,0,none⟩=some (.iface tp p):=by
   unfold World.var? at hv;simp only[JA,Option.bind_some]at hv;unfold World.cell?;cases ho:w1.heap[1]? with
   |none=>rw[ho]at hv;cases hv
   | some o=>
     rw[ho]at hv;cases o with
     |cells cs t m=>simp at hv;subst hv;rfl
     |_=>simp at hv
  have HT:=S (strconv_toError_syntax ⟨#[80,97,114,115,101,85,105,110,116]⟩ ⟨s.toArray⟩ 16 8 _ w1 (by simp[ByteArray.size];omega) hv2 (.inr ⟨_,_,rfl⟩));clear hv hv2;go_wp2_with fail;refine HT.1.mono ?_;rintro e w2 ⟨N,rfl,_,_,hb⟩;go_wp2;go_ret2;exact⟨Z HD.1.2 (gbB hb none),.inr ⟨HD.1.1,_,_,rfl⟩⟩
def BD(s:Bs):Bs:=(s.drop 1).take (s.length-2)
def XA(s:Bs)(h:2<=s.length):(BD s).length=s.length-2:=by simp[BD];omega
def Zt(m:Bs):BD (qtM m)=m.flatMap qtB:=by
 rw[BD,Du];simp
def J7{c x:Nat}(h:dgM c=x):Bc c=x:=by
 unfold dgM at h;unfold Bc;split at h
 ·rename_i h1;rw[if_pos h1];omega
 ·rename_i h1;split at h
  ·rename_i h2;rw[if_neg h1];have:c=97\/c=98\/c=99\/c=100\/c=101\/c=102:=by omega
   rcases this with rfl|rfl|rfl|rfl|rfl|rfl<;>simp at h ⊢ <;> omega
  ·omega
def UQ(s l:Bs)(k:Nat):Prop:=∀m,s=qtM m->∃q,m=l++q/\(BD s).drop k=q.flatMap qtB
def UQ.init(s:Bs):UQ s [] 0:=λm h=>⟨m,rfl,by rw[List.drop_zero,h,Zt]⟩
section
variable {l:Bs}
def UQ.plain(h:UQ s l k)(hk:k<(BD s).length)(h37:bAt (BD s) k≠37):UQ s (l++[bAt (BD s) k]) (k+1):=by
 intro m hm;obtain⟨q,rfl,h2⟩:=h m hm;cases q with
 | nil=>
   have:=congrArg List.length h2;simp at this;omega
 | cons b q=>
   rw[fC]at h2;obtain⟨rfl,h3⟩:=NG hk h37 _ _ h2;exact⟨q,by simp,h3⟩
def UQ.hex(h:UQ s l k)(hk:k<(BD s).length)(h37:bAt (BD s) k=37):UQ s (l++[UInt8.ofNat (16*Bc (bAt (BD s) (k+1)).toNat+Bc (bAt (BD s) (k+2)).toNat)]) (k+3):=by
 intro m hm;obtain⟨q,rfl,h2⟩:=h m hm;cases q with
 | nil=>
   have:=congrArg List.length h2;simp at this;omega
 | cons b q=>
   rw[fC]at h2;obtain⟨_,e1,e2,e3⟩:=J1 hk h37 h2;refine⟨q,?_,e3⟩;rw[J7 e1,J7 e2];have hb:=b.toNat_lt;have:UInt8.ofNat (16*(b.toNat/16)+b.toNat%16)=b:=by
    apply UInt8.toNat.inj;rw[UInt8.toNat_ofNat'];omega
   rw[this];simp
def UQ.no(h:UQ s l k)(hk:k<(BD s).length)(h37:bAt (BD s) k=37)(hx:¬k+3<=(BD s).length\/¬Bc (bAt (BD s) (k+1)).toNat<16\/¬Bc (bAt (BD s) (k+2)).toNat<16):∀m,s≠qtM m:=by
 intro m hm;obtain⟨q,rfl,h2⟩:=h m hm;cases q with
 | nil=>
   have:=congrArg List.length h2;simp at this;omega
 | cons b q=>
   rw[fC]at h2;obtain⟨e0,e1,e2,_⟩:=J1 hk h37 h2;have hb:=BR (b:=b);rw[J7 e1,J7 e2]at hx;omega
def UQ.end(h:UQ s l k)(hk:(BD s).length<=k):∀m,s=qtM m->m=l:=by
 intro m hm;obtain⟨q,rfl,h2⟩:=h m hm;rw[List.drop_eq_nil_of_le hk]at h2;cases q with
 |nil=>simp
 | cons b q=>
   have h5:=Hs b;have:=congrArg List.length h2;simp at this;omega
end
def Zb(hC:∀W,w0.grownBy W none->C W)(h:C W/\w0.grownBy W none)(g:W.grownBy W1 none):C W1/\w0.grownBy W1 none:=⟨hC _ (Z h.2 g),Z h.2 g⟩
def UnqP(w:World)(s:Bs)(e:Ending)(w':World):Prop:=∃t b,e= .returned (.tuple #[str t,.bool b])/\w.grownBy w' none/\t.length<=s.length/\(∀m,s=qtM m->b=true/\t=m)
def OA(s:Bs)(hs:s.length<=1048576)(he:Errs w):
 Calls Tryz.prog 73 #[str s] w λe w'=>UnqP w s e w':=by
 have HE:=S he;clear he;by_cases h2:s.length<2
 ·have hj1:decide (s.length<2)=true:=by simpa using h2
  have HN:=S (show ∀m,s=qtM m->False from λm e=>by rw[e,Du]at h2;simp at h2;omega);go_enter func73,ntmps73;go_wp2;go_ret2;exact⟨[],false,rfl,Aa _ _,nZ _,λm e=>(HN.1 m e).elim⟩
 ·have hj1:decide (s.length<2)=false:=by simpa using h2
  have k0:0<s.length:=by omega
  have k1:s.length-1<s.length:=by omega
  obtain⟨p0,hp0⟩:∃p,p=s[0].toNat:=⟨_,rfl⟩;obtain⟨p1,hp1⟩:∃p,p=s[s.length-1].toNat:=⟨_,rfl⟩;have hg0:=λh=>(congrArg UInt8.toNat (CT s 0 h k0)).trans hp0.symm;have hg1:=λh=>(congrArg UInt8.toNat (CT s (s.length-1) h k1)).trans hp1.symm;have n1:((s.length:Int)-1).toNat=s.length-1:=by omega
  have n2:(0:Int)<=(s.length:Int)-1:=by omega
  have n3:(s.length:Int)-1<(s.length:Int):=by omega
  by_cases hq:p0=34/\p1=34
  ·obtain⟨rfl,rfl⟩:=hq;obtain⟨u,hu⟩:∃u,u=BD s:=⟨_,rfl⟩;have hul:u.length=s.length-2:=by rw[hu];exact XA s (by omega)
   have hx:(⟨s.toArray⟩:ByteArray).extract 1 (s.length-1)=⟨u.toArray⟩:=by rw[hu,Cf,BD];rfl
   have n4:(1:Int)<=(s.length:Int)-1:=by omega
   have n5:(s.length:Int)-1<=(s.length:Int):=by omega
   obtain⟨i0,HI⟩:=iPz GE;have HU:=S hu;clear hu hp0 hp1;go_enter func73,ntmps73;go_wp2_with fail;go_loopg [4,6,7,8] (u.length+1) (λg v4 v6 v7 v8 wr=>∃k l,u.length-k<g/\v6= .int .i64 (k:Nat)/\k<=u.length/\OwnBs wr w.heap.size v4 l/\l.length<=k/\UQ s l k/\w.grownBy wr none)
   case atStart=>exact⟨0,[],by omega,rfl,nZ _,Oh _ _,nZ _,UQ.init s,Aa _ _⟩
   case round=>
    obtain⟨k,l,hk,rfl,hku,hO,hl,hX,hG⟩:=hrel;have hgs:=hG.size;have HB:=S (X hO (X hX hG));clear hO hX hG hg0 hg1;by_cases hkl:k<u.length
    ·have hj2:decide (k<u.length)=true:=by simpa using hkl
     obtain⟨c,hc⟩:∃c,c=u[k]:=⟨_,rfl⟩;have hgk:=λh=>(CT u k h hkl).trans hc.symm;have hcb:bAt (BD s) k=c:=by rw[<-HU.1,B0 hkl,hc]
     have hkm:k<(BD s).length:=by rw[<-HU.1];exact hkl
     have HCk:=S (X hcb hkm);clear hc hcb hkm;by_cases h37:c=37
     ·have i37:((c.toNat:Int)==37)=true:=by rw[h37];rfl
      by_cases h3:k+3<=u.length
      ·have hj3:decide (u.length<=k+2)=false:=by simp;omega
       obtain⟨t2,ht⟩:∃t,t=(u.drop (k+1)).take 2:=⟨_,rfl⟩;have hx2:(⟨u.toArray⟩:ByteArray).extract (k+1) (k+3)=⟨t2.toArray⟩:=by rw[ht,Cf,show k+3-(k+1)=2 by omega]
       have htl:t2.length=2:=by rw[ht];simp;omega
       have hb0:bAt t2 0=bAt (BD s) (k+1):=by rw[<-HU.1,ht];simp[bAt]
       have hb1:bAt t2 1=bAt (BD s) (k+2):=by rw[<-HU.1,ht];simp[bAt]
       have m1:(0:Int)<=(k:Int)+1:=by omega
       have m2:(k:Int)+1<=(k:Int)+3:=by omega
       have m3:(k:Int)+3<=(u.length:Int):=by omega
       have m4:((k:Int)+1).toNat=k+1:=by omega
       have m5:((k:Int)+3).toNat=k+3:=by omega
       have HPu:=S (Z1 t2 htl (HE.1.gbN HB.1.2.2));have HT:=S (X hb0 (X hb1 h37));clear ht hb0 hb1 h37;go_wp2_with fail;refine HPu.1.mono ?_;rintro e w5 ⟨g5,h5⟩;have HB5:=S (X (HB.1.1.gb g5) (Z HB.1.2.2 g5));have hg5:=g5.size;clear g5 HPu;rcases h5 with⟨hd,rfl⟩| ⟨⟨j,hj,hd⟩,tp,p,rfl⟩
       ·obtain⟨c2,hc2⟩:∃c:UInt8,c=UInt8.ofNat (BE t2 2):=⟨_,rfl⟩;have hd0:=hd 0 (by omega);have hd1:=hd 1 (by omega);have hpn:BE t2 2=16*Bc (bAt t2 0).toNat+Bc (bAt t2 1).toNat:=rfl;have hv:IntKind.u8.wrap ((BE t2 2:Nat):Int)=(c2.toNat:Int):=by rw[hc2,UInt8.toNat_ofNat',IntWalk.u8_in _ (by omega)];omega
        have HS:=S (show UQ s (l++[c2]) (k+3)from by have h:=HB.1.2.1.hex HCk.1.2 (HCk.1.1.trans HT.1.2.2);rw[<-HT.1.1,<-HT.1.2.1,<-hpn,<-hc2]at h;exact h);clear hc2 hd hd0 hd1 hpn;generalize BE t2 2=pn at*;go_wp2_with (at_builtin;go_loud(refine wpList_append_lies _ rfl _ _ 84 rfl w.heap.size 5 i0 (.int .u8 0) 1 1 underlying84 HI.1.1 HI.1.2.1 HI.1.2.2.1 HI.1.2.2.2 rfl (by decide) u4 l.length (AQ l) rfl (HB5.1.1.gb (gZ _ _ none)) ⟨w5.heap.size,0,none⟩ 1 1 [.int .u8 c2.toNat] rfl rfl (AP _ _ _) (by simp[Value.oneCell']) (by decide) (by unfold maxLen;omega) (by omega) (by simp;omega) _ rfl ?_;intro g6 cap6 w6 hown hgrow hat6 hlt6;(have HZ:=S (X (Jf c2 hown) ((HB5.1.1.gb (gZ _ _ none)).fr (Ac HB5.1.2 _) hgrow)));clear hown hgrow hat6));go_wp2;go_roundg (u.length-(k+2))
        case measure=>omega
        case rel=>exact⟨k+3,_,by omega,by go_num,by omega,HZ.1.1,by simp;omega,HS.1,HZ.1.2⟩
       ·have HN := S (HB.1.2.1.no HCk.1.2 (HCk.1.1.trans HT.1.2.2) (by
         rcases(show j=0\/j=1 by omega)with rfl|rfl
         ·rw[HT.1.1]at hd;exact .inr (.inl hd)
         ·rw[HT.1.2.1]at hd;exact .inr (.inr hd)))
        clear hd;go_wp2;go_ret2;exact⟨[],false,rfl,HB5.1.2,nZ _,λm e=>(HN.1 m e).elim⟩
      ·have hj3:decide (u.length<=k+2)=true:=by simp;omega
       have HN:=S (HB.1.2.1.no HCk.1.2 (HCk.1.1.trans h37) (.inl (by rw[<-HU.1];exact h3)));clear h37;go_wp2;go_ret2;exact⟨[],false,rfl,HB.1.2.2,nZ _,λm e=>(HN.1 m e).elim⟩
     ·have i37 : ((c.toNat : Int) == 37) = false := by
       rw[beq_eq_false_iff_ne];intro e;exact h37 (UInt8.toNat_inj.1 (by show _=37;omega))
      have HS:=S (show UQ s (l++[c]) (k+1)from by have h:=HB.1.2.1.plain HCk.1.2 (by rw[HCk.1.1];exact h37);rwa[HCk.1.1]at h);clear h37;go_wp2_with (at_builtin;go_loud(refine wpList_append_lies _ rfl _ _ 84 rfl w.heap.size 5 i0 (.int .u8 0) 1 1 underlying84 HI.1.1 HI.1.2.1 HI.1.2.2.1 HI.1.2.2.2 rfl (by decide) u4 l.length (AQ l) rfl (HB.1.1.gb (gZ _ _ none)) ⟨wr.heap.size,0,none⟩ 1 1 [.int .u8 c.toNat] rfl rfl (AP _ _ _) (by simp[Value.oneCell']) (by decide) (by unfold maxLen;omega) (by omega) (by simp;omega) _ rfl ?_;intro g6 cap6 w6 hown hgrow hat6 hlt6;(have HZ:=S (X (Jf c hown) ((HB.1.1.gb (gZ _ _ none)).fr (Ac HB.1.2.2 _) hgrow)));clear hown hgrow hat6));go_roundg (u.length-k)
      case measure=>omega
      case rel=>exact⟨k+1,_,by omega,by go_num,by omega,HZ.1.1,by simp;omega,HS.1,HZ.1.2⟩
    ·have hj2:decide (k<u.length)=false:=by simpa using hkl
     have HBk:=S (λW (g:wr.grownBy W none)=>KL (HB.1.1.gb g));have HXS:=S (show(λW=>(convert 84 9 u4).run Tryz.prog W= .ok (str l) W/\wr.grownBy W none) wr.drew from⟨HBk.1 _ (Ad (Aa _ _)),Ad (Aa _ _)⟩);obtain⟨ql,hql⟩:∃q,q=qtM l:=⟨_,rfl⟩;have HQ:=S (λW=>by have h:=Kj l (by omega) W;rw[<-hql]at h;exact h);have HL:=S (show ∀m,s=qtM m->(ql==s)=true/\l=m from λm e=>by
      have h:=HB.1.2.1.end (by rw[<-HU.1];omega) m e;subst h;rw[hql,<-e];exact⟨by simp,rfl⟩)
     clear hql;go_wp2_with fail;go_region_held3 (λW=>(convert 84 9 u4).run Tryz.prog W= .ok (str l) W/\wr.grownBy W none)
      (first|exact HXS.1|exact Zb HBk.1 (by assumption) g5)
      ((go_at_call 46;refine(HQ.1 _).mono ?_;rintro e w5 ⟨rfl,g5⟩))
     all_goals
      rename_i hH;have HZ:=S (Z HB.1.2.2 hH.2);clear hH;go_wp2;go_ret2;exact⟨l,ql==s,rfl,HZ.1,by omega,HL.1⟩
  ·have hj3 : (((p0 : Int) == 34) = false /\ ((p0 : Int) != 34) = true) \/ (((p0 : Int) != 34) = false /\ ((p1 : Int) != 34) = true) := by
    by_cases h:p0=34
    ·exact .inr ⟨by simp[h],by simp;omega⟩
    ·exact .inl ⟨by simp;omega,by simp;omega⟩
   have HN:=S (show ∀m,s=qtM m->False from λm e=>hq (by
    have h0:bAt s 0=34:=by rw[e,Du];rfl
    have h1:bAt s (s.length-1)=34:=by
     rw[e,Du];simp[bAt]
    rw[B0 k0]at h0;rw[B0 k1]at h1;rw[hp0,hp1,h0,h1];exact⟨rfl,rfl⟩))
   clear hq hp0 hp1;rcases hj3 with⟨hj3,hj4⟩| ⟨hj3,hj4⟩
   all_goals
    go_enter func73,ntmps73;go_wp2;go_ret2;exact⟨[],false,rfl,Aa _ _,nZ _,λm e=>(HN.1 m e).elim⟩
def K8(c:UInt8)(a r:Bs)(h:c ∉ a):Lib.index (a++c::r) [c]=a.length:=by
 induction a with
 |nil=>simp[Lib.index,List.isPrefixOf]
 | cons x a ih=>
   have hx:c≠x:=λe=>h (by rw[e];simp);have ha:c ∉ a:=λe=>h (by simp[e]);rw[List.cons_append,Lib.index,if_neg (by simp[List.isPrefixOf,hx]),ih ha,if_neg (by simp)];simp
def KH(c:UInt8)(a:Bs)(h:c ∉ a):Lib.index a [c]= -1:=by
 induction a with
 |nil=>simp[Lib.index]
 | cons x a ih=>
   have hx:c≠x:=λe=>h (by rw[e];simp);have ha:c ∉ a:=λe=>h (by simp[e]);rw[Lib.index,if_neg (by simp[List.isPrefixOf,hx]),ih ha];rfl
def MI(c:UInt8)(a:Bs):c ∉ a\/∃b r,a=b++c::r/\c ∉ b:=by
 induction a with
 |nil=>left;simp
 | cons x a ih=>
   by_cases e:c=x
   ·subst e;right;exact⟨[],a,rfl,by simp⟩
   ·rcases ih with h| ⟨b,r,rfl,h⟩
    ·left;simp[e,h]
    ·right;exact⟨x::b,r,rfl,by simp[e,h]⟩
def II(c:UInt8)(k:Nat)(a r:Bs)(h:c ∉ a):Lib.splitK [c] 0 (k+1) (a++c::r)=a::Lib.splitK [c] 0 k r:=by
 rw[Lib.splitK,K8 c a r h,if_neg (by simp)];simp
def Hf(c:UInt8)(a r:Bs)(h:c ∉ a):Lib.split (a++c::r) [c]=a::Lib.split r [c]:=by
 have hc:Lib.count (a++c::r) [c]=1+Lib.count r [c]:=by
  rw[Lib.count_hit (i:=a.length) (by simp) (K8 c a r h)];simp
 rw[Lib.split,hc,Nat.add_comm,II c _ a r h];rfl
def Ga(c:UInt8)(a:Bs)(h:c ∉ a):Lib.split a [c]=[a]:=by
 rw[Lib.split,Lib.count_miss (KH c a h)];rfl
def IJ(c:UInt8):∀(n:Nat)(s:Bs),s.length<=n->(Lib.split s [c]).flatMap (· ++[c])=s++[c]:=by
 intro n;induction n with
 | zero=>
   intro s hs;have:s=[]:=List.eq_nil_of_length_eq_zero (by omega);subst this;rw[Ga c [] (by simp)];simp
 | succ n ih=>
   intro s hs;rcases MI c s with h| ⟨a,r,rfl,h⟩
   ·rw[Ga c s h];simp
   ·rw[Hf c a r h,fC,ih r (by simp at hs;omega)];simp
def Na(c:UInt8)(ls:List Bs)(h:ls≠[]):∃q,ls.flatMap (· ++[c])=q++[c]:=by
 induction ls with
 |nil=>exact absurd rfl h
 | cons a ls ih=>
   cases ls with
   |nil=>exact⟨a,by simp⟩
   | cons b ls=>
     obtain⟨q,hq⟩:=ih (by simp);exact⟨a++c::q,by rw[fC,hq];simp⟩
def Nq(c:UInt8):∀(n:Nat)(s:Bs),s.length<=n->(Lib.split s [c]).length=Lib.count s [c]+1:=by
 intro n;induction n with
 | zero=>
   intro s hs;have:s=[]:=List.eq_nil_of_length_eq_zero (by omega);subst this;rw[Ga c [] (by simp),Lib.count_miss (KH c [] (by simp))];rfl
 | succ n ih=>
   intro s hs;rcases MI c s with h| ⟨a,r,rfl,h⟩
   ·rw[Ga c s h,Lib.count_miss (KH c s h)];rfl
   ·rw[Hf c a r h,List.length_cons,ih r (by simp at hs;omega),Lib.count_hit (i:=a.length) (by simp) (K8 c a r h)];simp;omega
def S4(L:List ByteArray):L.map Value.string=(L.map (·.data.toList)).map str:=by
 rw[List.map_map];refine List.map_congr_left λx _=>?_;simp[str]
def TJ(c:UInt8)(s:Bs):(Lib.splitB ⟨#[c]⟩ 0 (Lib.countB ⟨s.toArray⟩ ⟨#[c]⟩) ⟨s.toArray⟩).map Value.string=(Lib.split s [c]).map str/\Lib.countB ⟨s.toArray⟩ ⟨#[c]⟩+1=(Lib.split s [c]).length:=by
 have hc:Lib.countB ⟨s.toArray⟩ ⟨#[c]⟩=Lib.count s [c]:=by unfold Lib.countB;simp
 refine⟨?_,by rw[hc,Nq c _ s (nR _)]⟩;rw[S4,Lib.splitB_data,hc];simp[Lib.split]
def R0(c:UInt8):∀(ls:List Bs)(s:Bs),ls≠[]->(∀l∈ls,c ∉ l)->s++[c]=ls.flatMap (· ++[c])->Lib.split s [c]=ls:=by
 intro ls;induction ls with
 |nil=>intro s h;exact absurd rfl h
 | cons a ls ih=>
   intro s _ hn he;rw[fC,List.append_assoc]at he;cases ls with
   | nil=>
     have:s=a:=by simpa using he
     subst this;exact Ga c s (hn s (by simp))
   | cons b ls=>
     have hs:∃r,s=a++c::r/\r++[c]=(b::ls).flatMap (· ++[c]):=by
      obtain⟨q,hq⟩:=Na c (b::ls) (by simp);refine⟨q,?_,hq.symm⟩;rw[hq]at he;have:s++[c]=(a++c::q)++[c]:=by rw[he];simp
      exact List.append_cancel_right this
     obtain⟨r,rfl,hr⟩:=hs;rw[Hf c a r (hn a (by simp)),ih r (by simp) (λl hl=>hn l (by simp[hl])) hr]
def X4(s:Bs)(c:UInt8):(Lib.lastIndexByte ⟨s.toArray⟩ c.toNat= -1/\∀j,j<s.length->bAt s j≠c)\/
 (∃i:Nat,i<s.length/\Lib.lastIndexByte ⟨s.toArray⟩ c.toNat=i/\bAt s i=c/\∀j,i<j->j<s.length->bAt s j≠c):=by
 have hz:(⟨s.toArray⟩:ByteArray).size=s.length:=by simp[ByteArray.size]
 have he:∀j,j<s.length->(⟨s.toArray⟩:ByteArray).data[j]! =bAt s j:=by
  intro j hj;rw[B0 hj];simp[hj]
 rcases Lib.lastIndexByte_spec ⟨s.toArray⟩ c.toNat with⟨h1,h2⟩| ⟨i,h1,h2,h3,h4⟩
 ·left;rw[hz]at h2;refine⟨h1,λj hj e=>h2 j hj ?_⟩;rw[he j hj,e]
 ·right;rw[hz]at h1 h4;rw[he i h1]at h3;refine⟨i,h1,h2,UInt8.toNat_inj.1 (by omega),λj hj hl e=>h4 j hj hl ?_⟩;rw[he j hl,e]
def Xi(l:List Int):∀x∈l.flatMap A3,x≠34:=by
 intro x hx;obtain⟨n,_,hn⟩:=List.mem_flatMap.1 hx;rw[A3]at hn;rcases List.mem_cons.1 hn with h|h
 ·rw[h];decide
 ·have:=DX n;rw[List.all_eq_true]at this;have:=this x h;intro e;rw[e]at this;exact absurd this (by decide)
def Xf(m:Bs):∃q,qtM m=q++[34]:=⟨34::m.flatMap qtB,by rw[Du];simp⟩
def XC{r m:Bs}(h:s=qtM m++r)(hr:∀x∈r,x≠34)(hi:i<s.length)(h1:bAt s i=34)(h2:∀j,i<j->j<s.length->bAt s j≠34):s.take (i+1)=qtM m/\s.drop (i+1)=r:=by
 obtain⟨q,hq⟩:=Xf m;have hl:(qtM m).length=q.length+1:=by rw[hq];simp
 have hq34:bAt s q.length=34:=by
  rw[h,hq];simp[bAt]
 have hlen:s.length=q.length+1+r.length:=by rw[h,lA,hl]
 have e:i=q.length:=by
  rcases Nat.lt_trichotomy i q.length with h3|h3|h3
  ·exact absurd hq34 (h2 _ h3 (by omega))
  ·exact h3
  ·exfalso;have h4:bAt s i=bAt r (i-(q.length+1)):=by
    unfold bAt;rw[h,List.getElem?_append_right (by omega),hl]
   have h5:i-(q.length+1)<r.length:=by omega
   rw[h4,B0 h5]at h1;exact hr _ (List.getElem_mem h5) h1
 subst e;rw[h];have:q.length+1=(qtM m).length:=hl.symm;rw[this];simp
def Uu{r m:Bs}(h:s=qtM m++r):¬∀j,j<s.length->bAt s j≠34:=by
 intro hn;refine hn 0 ?_ ?_
 ·rw[h,Du];simp
 ·rw[h,Du];rfl
def TD(l:List Int):Lib.split (l.flatMap A3) [32]=[]::l.map itoa:=by
 have hn:∀n:Int,(32:UInt8) ∉ itoa n:=by
  intro n h;have:=DX n;rw[List.all_eq_true]at this;exact absurd (this _ h) (by decide)
 have hg:∀(l:List Int)(n:Int),Lib.split (itoa n++l.flatMap A3) [32]=itoa n::l.map itoa:=by
  intro l;induction l with
  |nil=>intro n;rw[List.flatMap_nil,List.append_nil,Ga _ _ (hn n)];rfl
  | cons m l ih=>
    intro n;rw[fC,A3,List.cons_append,Hf _ _ _ (hn n),ih m];rfl
 cases l with
 |nil=>rw[List.flatMap_nil,Ga _ _ (by simp)];rfl
 | cons n l=>
   rw[fC,A3,List.cons_append];have:=Hf 32 [] (itoa n++l.flatMap A3) (by simp);rw[List.nil_append]at this;rw[this,hg l n];rfl
def Np(c:UInt8)(s:Bs):(Lib.split s [c]).length<=s.length+1:=by
 have h:=congrArg List.length (IJ c _ s (nR _));have:∀L:List Bs,L.length<=(L.flatMap (· ++[c])).length:=by
  intro L;induction L with
  |nil=>simp
  |cons a L ih=>rw[fC];simp only[lA,List.length_cons,List.length_nil];omega
 have h2:=this (Lib.split s [c]);rw[h]at h2;simpa using h2
def MB(c:UInt8)(s:Bs){l:Bs}(h:l∈Lib.split s [c]):l.length<=s.length:=by
 have h1:=congrArg List.length (IJ c _ s (nR _));have:∀L:List Bs,l∈L->l.length+1<=(L.flatMap (· ++[c])).length:=by
  intro L;induction L with
  |nil=>intro h;cases h
  | cons a L ih=>
    intro h;rw[fC,lA,lA];rcases List.mem_cons.1 h with rfl|h
    ·simp
    ·have:=ih h;omega
 have h2:=this _ h;rw[h1]at h2;simp at h2;omega
def Mx(w:World):Prop:=∃m,w.cell? ⟨0,0,none⟩=some (.int .i64 m)
def Mx.gb(h:Mx w)(g:w.grownBy w1 none):Mx w1:=by
 obtain⟨m,h⟩:=h;exact⟨m,Ae g h⟩
def IH(s:Bs)(hs:s.length<=1048576)(c:UInt8)(hm:Mx w):
 Calls Tryz.prog 41 #[str s,str [c]] w λe w'=>e= .returned (.slice (some ⟨w.heap.size,0,none⟩) (Lib.split s [c]).length (Lib.split s [c]).length)/\w'=w.alloc (.cells ((Lib.split s [c]).map str).toArray 9 (0,0)):=by
 obtain⟨m,hm⟩:=hm;obtain⟨h1,h2⟩:=TJ c s;refine(strings_Split ⟨s.toArray⟩ ⟨#[c]⟩ m w (by simp[ByteArray.size];omega) hm (by simp[ByteArray.size])).mono ?_;rintro e w' ⟨rfl,rfl⟩;rw[h1,h2];exact⟨rfl,rfl⟩
def Jq{g:Nat}{t2:TypeId}{o:Array Value}(h:w.ownsRow B t k v n xs)(hg:w.heap[g]? =some (.cells o t2 (0,0)))(ht:t≠t2):v.ownBlock≠some g:=by
 intro e;rcases h.2 with⟨rfl,_⟩| ⟨q,cap,cur,rfl,_,hq,_⟩
 ·simp[Value.ownBlock]at e
 ·simp only[Value.ownBlock,Option.some.injEq]at e;subst e;rw[hq]at hg;simp only[Option.some.injEq,Obj.cells.injEq]at hg;exact ht hg.2.1
def Vs{B':Nat}(h:w.ownsRow B t k v n xs)(hb:B'<=B):w.ownsRow B' t k v n xs:=by
 refine⟨h.1,?_⟩;rcases h.2 with h2| ⟨q,cap,cur,e,hq,hrest⟩
 ·exact .inl h2
 ·exact .inr ⟨q,cap,cur,e,nT hb hq,hrest⟩
def BG(h:w.ownsRow B t k v n xs)(g:w.grownBy w1 r)(hr:∀q,r=some q->v.ownBlock≠some q):w1.ownsRow B t k v n xs:=by
 refine h.kept g ?_;cases hv:v.ownBlock with
 |none=>exact .inl rfl
 |some q=>exact .inr (λe=>hr q e.symm hv)
def Fv(h:w.ownsRow B t k v n xs):∀q,v.ownBlock=some q->B<=q:=λq e=>(h.lt q e).1
def JI{fn:Func}{p q:Tmp}(h:fn.results=#[.cell p 58,.tmp q])(tmps:Array Value){a0 a1 a2:Value}{r:Bool}(hb:Blk w k [a0,a1,a2] 58)
 (hp:tmps.getD p undef= .pointer (some ⟨k,0,none⟩)) (hq:tmps.getD q undef= .bool r):(results fn tmps).run Tryz.prog w= .ok (.tuple #[.agg #[a0,a1,a2],.bool r]) w:=by
 have c0:=hb.cell' 0 rfl;have c1:=hb.cell' 1 rfl;have c2:=hb.cell' 2 rfl;have hp':tmps[p]?.getD undef= .pointer (some ⟨k,0,none⟩):=by simpa using hp
 have hq':tmps[q]?.getD undef= .bool r:=by simpa using hq
 simp[results,h,hp',hq',go_sem,c0,c1,c2]
def RuP(w:World)(s:Bs)(e:Ending)(w':World):Prop:=∃nm l rv b,e= .returned (.tuple #[.agg #[str nm,rv,.slice none 0 0],.bool b])/\w.grownBy w' none/\w'.ownsRow w.heap.size 3 1 rv l.length (Be l)/\nm.length+l.length<=2*s.length+1/\(b=true->∀x∈l,A5 x)/\(∀u,Dn u->s=qtM u.name++u.row.flatMap A3->b=true/\nm=u.name/\l=u.row)
def RuI(s nm:Bs)(L:List Bs)(l:List Int)(k:Nat)(b:Bool):Prop:=∀u,Dn u->s=qtM u.name++u.row.flatMap A3->b=true/\nm=u.name/\L=[]::u.row.map itoa/\(k=0/\l=[]\/∃j,k=j+1/\l=u.row.take j)
def RuI.skip{b:Bool}(h:RuI s nm L l 0 b):RuI s nm L l 1 b:=by
 intro u hw hs;obtain⟨h1,h2,h3,h4⟩:=h u hw hs;refine⟨h1,h2,h3,.inr ⟨0,rfl,?_⟩⟩;rcases h4 with⟨_,h5⟩| ⟨j,h5,_⟩
 ·rw[h5];rfl
 ·omega
def RuI.num{b c:Bool}{n:Int}(h:RuI s nm L l k b)(hk:k<L.length)(hne:k=0->L[k]≠[])(hc:∀m,A5 m->L[k]=itoa m->c=true/\n=m):RuI s nm L (l++[n]) (k+1) (b&&c&&decide (0<k)):=by
 intro u hw hs;obtain⟨h1,h2,h3,h4⟩:=h u hw hs;subst h3;rcases h4 with⟨h5,_⟩| ⟨j,h5,h6⟩
 ·subst h5;exact absurd rfl (hne rfl)
 ·subst h5;have hj:j<u.row.length:=by simpa using hk
  have hp:([]::u.row.map itoa)[j+1]=itoa u.row[j]:=by simp
  obtain⟨e1,e2⟩:=hc _ (hw.1 _ (List.getElem_mem hj)) hp;refine⟨by rw[h1,e1];simp,h2,rfl,.inr ⟨j+1,rfl,?_⟩⟩;rw[h6,e2,List.take_add_one,List.getElem?_eq_getElem hj];rfl
def RuI.done{r:Bs}{b:Bool}(h:RuI s nm L l L.length b)(hr:∀u:Un,s=qtM u.name++u.row.flatMap A3->r=u.row.flatMap A3)(h0:r≠[]):∀u,Dn u->s=qtM u.name++u.row.flatMap A3->(b&&(r !=[32]))=true/\nm=u.name/\l=u.row:=by
 intro u hw hs;obtain⟨h1,h2,h3,h4⟩:=h u hw hs;have h5:=hr u hs;have hl:L.length=u.row.length+1:=by rw[h3];simp
 have h6:r≠[32]:=by
  intro e;rw[e]at h5;cases hu:u.row with
  |nil=>rw[hu]at h5;simp at h5
  | cons x l=>
    rw[hu,fC,A3]at h5;have:=Jm x;cases hi:itoa x with
    |nil=>exact this hi
    |cons y z=>rw[hi]at h5;simp at h5
 refine⟨by rw[h1];simpa using h6,h2,?_⟩;rcases h4 with⟨h7,_⟩| ⟨j,h7,h8⟩
 ·omega
 ·rw[h8,show j=u.row.length by omega,List.take_length]
def Ql(s:Bs)(hs:s.length<=1048576)(hp:Pow w)(he:Errs w)(hm:Mx w):
 Calls Tryz.prog 43 #[str s] w λe w'=>RuP w s e w':=by
 have hz:(⟨s.toArray⟩:ByteArray).size=s.length:=by simp[ByteArray.size]
 have HF:=S (X hp (X he hm));have hA:=gZ w (.cells [str [],.slice none 0 0,.slice none 0 0].toArray 58 (0,0)) none;have hR0:=Blk.new w [str [],.slice none 0 0,.slice none 0 0] 58;have HA:=S (X hR0 hA);have HL:=S (λW=>strings_LastIndexByte ⟨s.toArray⟩ 34 (by rw[hz];omega) W);have hsp:=X4 s 34;clear hp he hm hA hR0;go_enter func43,ntmps43;go_wp2_with fail;refine(HL.1 _).mono ?_;rintro e w1 ⟨rfl,rfl⟩;rcases hsp with⟨hi,hn⟩| ⟨i,hil,hi,h34,hn⟩
 ·have hi':Lib.lastIndexByte ⟨s.toArray⟩ 34= -1:=hi;rw[hi'];have HN:=S (show ∀u:Un,Dn u->s=qtM u.name++u.row.flatMap A3->False from λu _ h=>Uu h hn);have d0:=HA.1.1.cell 0;clear hn hi hi';have f0:=HA.1.1.frozen 0;have f1:=HA.1.1.frozen 1;have f2:=HA.1.1.frozen 2;go_wp2
  (try simp only[Exit.inBlock,Exit.then]);refine bZ (JI rfl _ HA.1.1 rfl rfl) rfl ?_;exact⟨[],[],.slice none 0 0,false,rfl,HA.1.2,D7 _ _ _ _,by simp,(λe=>by cases e),λu hw h=>(HN.1 u hw h).elim⟩
 ·have hi':Lib.lastIndexByte ⟨s.toArray⟩ 34=(i:Int):=hi;rw[hi'];obtain⟨t1,ht1⟩:∃t,t=s.take (i+1):=⟨_,rfl⟩;obtain⟨r,hr⟩:∃r,r=s.drop (i+1):=⟨_,rfl⟩;have hx1:(⟨s.toArray⟩:ByteArray).extract 0 (i+1)=⟨t1.toArray⟩:=by rw[ht1,Cf];simp
  have hx2:(⟨s.toArray⟩:ByteArray).extract (i+1) s.length=⟨r.toArray⟩:=by rw[hr,Hu]
  have hNm:∀u:Un,s=qtM u.name++u.row.flatMap A3->t1=qtM u.name/\r=u.row.flatMap A3:=λu h=>by
   rw[ht1,hr];exact XC h (Xi u.row) hil h34 hn
  have hrl:r.length<=s.length:=by rw[hr];simp<;>omega
  have htl:t1.length<=s.length:=by rw[ht1];simp<;>omega
  have HNm:=S hNm;have n1:(0:Int)<=(i:Int)+1:=by omega
  have n2:(i:Int)+1<=(s.length:Int):=by omega
  have n3:((i:Int)+1).toNat=i+1:=by omega
  have n4:decide ((i:Int)<0)=false:=by simp
  have HQ:=S (OA t1 (by omega) (HF.1.2.1.gbN HA.1.2));clear hi hi' hn h34 ht1 hr hNm;go_wp2_with fail;refine HQ.1.mono ?_;rintro e w2 ⟨nm,b,rfl,g2,hnl,hq⟩;have g2':w.grownBy w2 none:=Z HA.1.2 g2;have hR2:=HA.1.1.gb g2 (by simp);have hgs2:=g2'.size;have hlt2:=hR2.lt;have hX:=Blk.new w2 [str nm,.slice none 0 0,.slice none 0 0] 58;have gX:=gZ w2 (.cells [str nm,.slice none 0 0,.slice none 0 0].toArray 58 (0,0)) none;have HB:=S (X (hR2.gb gX (by simp)) (X hX (Z g2' gX)));have HV:=S hq;have hfull:∀u,Dn u->s=qtM u.name++u.row.flatMap A3->b=true/\nm=u.name:=λu _ h=>hq _ (HNm.1 u h).1;have HFl:=S hfull;clear hR2 hX gX g2 g2' hq hfull HQ;go_upto_region 6 with fail;have e0:w2.alloc (.cells [str nm,.slice none 0 0,.slice none 0 0].toArray 58 (0,0))=w2.alloc (.cells #[.string ⟨nm.toArray⟩,.slice none 0 0,.slice none 0 0] 58 (0,0)):=rfl;rw[e0]at HB;clear e0;generalize w2.alloc (.cells #[.string ⟨nm.toArray⟩,.slice none 0 0,.slice none 0 0] 58 (0,0))=W2 at*;have b0:=HB.1.1.cell' 0 rfl;have b1:=HB.1.1.cell' 1 rfl;have b2:=HB.1.1.cell' 2 rfl;have f0:=HB.1.1.frozen 0;have f1:=HB.1.1.frozen 1;have f2:=HB.1.1.frozen 2;have hlt3:=HB.1.1.lt;have hMR:w.heap.size≠w2.heap.size:=by omega
  by_cases hr0:r=[]
  ·subst hr0;have HE:=S (show ∀u,Dn u->s=qtM u.name++u.row.flatMap A3->b=true/\nm=u.name/\[]=u.row from λu hw h=>by
    obtain⟨e1,e2⟩:=HFl.1 u hw h;have e3:=(HNm.1 u h).2;refine⟨e1,e2,?_⟩;cases hu:u.row with
    |nil=>rfl
    |cons x l=>rw[hu,fC,A3]at e3;simp at e3)
   have a0:=HB.1.2.1.cell' 0 rfl;have a1:=HB.1.2.1.cell' 1 rfl;have a2:=HB.1.2.1.cell' 2 rfl;go_wp2
   (try simp only[Exit.inBlock,Exit.then]);refine bZ (JI rfl _ (HB.1.1.set3 (str nm) (.slice none 0 0) (.slice none 0 0)) rfl rfl) rfl ?_;exact⟨nm,[],.slice none 0 0,b,rfl,Af (Af (Af HB.1.2.2 _ _ (.inr (nR _))) _ _ (.inr (nR _))) _ _ (.inr (nR _)),D7 _ _ _ _,by simp;omega,(λ_ x h=>by cases h),HE.1⟩
  ·have hre : List.isEmpty r = false := by
    cases r with
    |nil=>exact absurd rfl hr0
    |cons=>rfl
   obtain⟨L,hL⟩:∃L,L=Lib.split r [32]:=⟨_,rfl⟩;have HSp:=S (IH r (by omega) 32 (HF.1.2.2.gb HB.1.2.2));have hLl:L.length<=r.length+1:=by rw[hL];exact Np 32 r
   have hLs:∀l∈L,l.length<=r.length:=λl h=>MB 32 r (by rw[<-hL];exact h);rw[<-hL]at HSp;obtain⟨i0,HI⟩:=iPz NY;have HLs:=S (X hLs hL);clear hLs hL;go_wp2_with fail;refine HSp.1.mono ?_;rintro e w3 ⟨rfl,rfl⟩;have hP:=Blk.new W2 (L.map str) 9;have gP:=gZ W2 (.cells (L.map str).toArray 9 (0,0)) none;have hMl:=HB.1.2.1.lt;have HC:=S (X (HB.1.1.gb gP (by simp)) (X (HB.1.2.1.gb gP (by simp)) (X hP (Z HB.1.2.2 gP))));clear hP gP;generalize W2.alloc (.cells (L.map str).toArray 9 (0,0))=W3 at*;generalize W2.heap.size=P at*;clear b0 b1 b2 f0 f1 f2;go_wp2_with fail;go_loopg [6,9,10,11,12,37] L.length (λg v6 v9 v10 v11 v12 v37 wr=>∃k l rv is,k+g=L.length/\v37= .int .i64 (k:Nat)/\v6= .bool is/\Blk wr w.heap.size [str [],.slice none 0 0,.slice none 0 0] 58/\Blk wr w2.heap.size [str nm,rv,.slice none 0 0] 58/\Blk wr P (L.map str) 9/\wr.ownsRow (w2.heap.size+1) 3 1 rv l.length (Be l)/\RuI s nm L l k is/\(is=true->∀x∈l,A5 x)/\l.length<=k/\w.grownBy wr none)
   case atStart=>exact⟨0,[],.slice none 0 0,b,by omega,rfl,rfl,HC.1.1,HC.1.2.1,HC.1.2.2.1,D7 _ _ _ _,(λu hw h=>⟨(HFl.1 u hw h).1,(HFl.1 u hw h).2,by rw[HLs.1.2,(HNm.1 u h).2,TD],.inl ⟨rfl,rfl⟩⟩),(λ_ x h=>by cases h),nZ _,HC.1.2.2.2⟩
   case round=>
    obtain⟨k,l,rv,is,hk,rfl,rfl,hR,hM,hPk,hO,hX,h64,hlk,hG⟩:=hrel;obtain⟨ra,rc,rfl⟩:=GY hO;clear HC HB;cases gk with
    | zero=>
      have hkl:k=L.length:=by omega
      have hj1:decide (k<L.length)=false:=by simp;omega
      have a0:=hM.cell' 0 rfl;have a1:=hM.cell' 1 rfl;have a2:=hM.cell' 2 rfl;have b0:=hR.cell' 0 rfl;have b1:=hR.cell' 1 rfl;have b2:=hR.cell' 2 rfl;have f0:=hR.frozen 0;have f1:=hR.frozen 1;have f2:=hR.frozen 2;have hlt4:=hR.lt;subst hkl;have HE:=S (hX.done (λu h=>(HNm.1 u h).2) hr0);have HZ:=S (X hR (X hO (X h64 (Af (Af (Af hG ⟨w.heap.size,0,none⟩ (str nm) (.inr (nR _))) ⟨w.heap.size,1,none⟩ (.slice ra l.length rc) (.inr (nR _))) ⟨w.heap.size,2,none⟩ (.slice none 0 0) (.inr (nR _))))));clear hM hPk hX h64 hG hR hO;obtain⟨q,hq⟩:∃q,q=(r==[32]):=⟨_,rfl⟩;have hq1:(r==[32])=q:=hq.symm;have HQq:=S (show(r !=[32])= !q by rw[hq];rfl);clear hq;cases is<;>cases q;all_goals
       go_wp2
       (try simp only[Exit.inBlock,Exit.then]);refine bZ (JI rfl _ (HZ.1.1.set3 (str nm) (.slice ra l.length rc) (.slice none 0 0)) rfl rfl) rfl ?_;have h9:=HE.1;rw[HQq.1]at h9;refine⟨nm,l,.slice ra l.length rc,_,rfl,HZ.1.2.2.2,BG (BG (BG (Vs HZ.1.2.1 (by omega)) (Ai (Aa _ (some w.heap.size)) 0 _) ?_) (Ai (Aa _ (some w.heap.size)) 1 _) ?_) (Ai (Aa _ (some w.heap.size)) 2 _) ?_,by omega,?_,h9⟩
       ·exactλq e e'=>by cases e;have:=Fv HZ.1.2.1 _ e';omega
       ·exactλq e e'=>by cases e;have:=Fv HZ.1.2.1 _ e';omega
       ·exactλq e e'=>by cases e;have:=Fv HZ.1.2.1 _ e';omega
       ·intro e;first|exact HZ.1.2.2.1 trivial|exact HZ.1.2.2.1 e|cases e
    | succ gk=>
      have hkl:k<L.length:=by omega
      have hj1:decide (k<L.length)=true:=by simpa using hkl
      obtain⟨p,hp⟩:∃p,p=L[k]:=⟨_,rfl⟩;have hpl:p.length<=r.length:=by rw[hp];exact HLs.1.1 _ (List.getElem_mem hkl)
      have q0:=hPk.cell' k (v:=str p) (by rw[List.getElem?_map,List.getElem?_eq_getElem hkl,hp];rfl);have hlt4:=hPk.lt;have HNu:=S (Hi p (by omega) (HF.1.1.gb hG) (HF.1.2.1.gbN hG));have HZ:=S (X hR (X hM (X hPk (X hO (X hX (X h64 hG))))));have HPe:=S hp;clear hR hM hPk hO hX h64 hG hp;go_wp2_with fail;refine HNu.1.mono ?_;rintro e w5 ⟨n,c,rfl,hc1,hc2,g5⟩;have HY:=S (X (HZ.1.1.gb g5 (by simp)) (X (HZ.1.2.1.gb g5 (by simp)) (X (HZ.1.2.2.1.gb g5 (by simp)) (X (BG HZ.1.2.2.2.1 g5 (by simp)) (Z HZ.1.2.2.2.2.2.2 g5)))));have HX:=S (X HZ.1.2.2.2.2.1 HZ.1.2.2.2.2.2.1);have HCn:=S (X hc1 hc2);have hgs5:=g5.size;clear g5 hc1 hc2 HNu HZ;by_cases hk0:k=0/\p=[]
      ·obtain⟨rfl,rfl⟩:=hk0;go_wp2;go_roundg gk
       case measure=>omega
       case rel=>exact⟨1,l,.slice ra l.length rc,is,by omega,rfl,rfl,HY.1.1,HY.1.2.1,HY.1.2.2.1,HY.1.2.2.2.1,HX.1.1.skip,HX.1.2,by omega,HY.1.2.2.2.2⟩
      ·have a1:=HY.1.2.1.cell' 1 rfl;have e1:=HY.1.2.1.frozen 1;have hml:=HY.1.2.1.lt;obtain⟨k2,hk2e⟩:∃x,x=k+1:=⟨_,rfl⟩;have HS:=S (show RuI s nm L (l++[n]) k2 (is&&c&&decide (0<k))by rw[hk2e];exact HX.1.1.num hkl (λe h=>hk0 ⟨e,by rw[HPe.1];exact h⟩) (λm hm e=>HCn.1.2 m hm (by rw[HPe.1];exact e)));have hcase:(((k:Int)==0)=false/\decide (0<k)=true)\/(k=0/\List.isEmpty p=false):=by
        rcases Nat.eq_zero_or_pos k with h|h
        ·right;refine⟨h,?_⟩;cases p with
         |nil=>exact absurd ⟨h,rfl⟩ hk0
         |cons=>rfl
        ·left;exact⟨by simp;omega,by simpa using h⟩
       clear hk0;have H64:=S (show(is&&c&&decide (0<k))=true->∀x∈l++[n],A5 x from λe x hx=>by
        simp only[Bool.and_eq_true]at e;rcases List.mem_append.1 hx with h|h
        ·exact HX.1.2 e.1.1 x h
        ·simp at h;subst h;exact(HCn.1.1 e.1.2).2)
       rcases hcase with⟨hk1,hk2⟩| ⟨rfl,hk2⟩<;>cases is<;>cases c
       all_goals
        go_wp2_with (at_builtin;go_loud(refine wpList_append_lies _ rfl _ _ 55 rfl (w2.heap.size+1) 3 i0 (.int .i64 0) 1 8 underlying55 HI.1.1 HI.1.2.1 HI.1.2.2.1 HI.1.2.2.2 rfl (by decide) (.slice ra l.length rc) l.length (Be l) rfl (BG HY.1.2.2.2.1 (gZ _ _ none) (by simp)) ⟨w5.heap.size,0,none⟩ 1 1 [.int .i64 n] rfl rfl (AP _ _ _) (by simp[Value.oneCell']) (by decide) (by unfold maxLen;omega) (by omega) (by simp;omega) _ rfl ?_;intro g9 cap9 w9 hown9 hgrow9 hat9 hlt9;(have hob9:=Fv HY.1.2.2.2.1);(have gB:=gZ w5 (.cells [.int .i64 n].toArray 3 (0,0)) none);(have hX9:=(HY.1.2.1.gb gB (by simp)).gb hgrow9 (λe=>by have:=hob9 _ e.symm;omega));(have a1:=hX9.frozen 1);(have a2:=hX9.lt);(have a3:=hX9.cell' 1 rfl);(have H9:=S (X hX9 (X hown9 (X hgrow9 (X hob9 gB)))));clear hX9 hown9 hgrow9 hat9 hob9 gB));have gS:=Ai (Aa w9 (some w2.heap.size)) 1 (.slice (some ⟨g9,0,none⟩) (l.length+1) cap9);have hR9:=((HY.1.1.gb H9.1.2.2.2.2 (by simp)).gb H9.1.2.2.1 (λe=>by have:=H9.1.2.2.2.1 _ e.symm;omega)).gb gS (λe=>hMR (Option.some.inj e));have hP9:=((HY.1.2.2.1.gb H9.1.2.2.2.2 (by simp)).gb H9.1.2.2.1 (λe=>Jq (BG HY.1.2.2.2.1 H9.1.2.2.2.2 (by simp)) (HY.1.2.2.1.gb H9.1.2.2.2.2 (by simp)) (by decide) e.symm)).gb gS (λe=>by have:=Option.some.inj e;omega);have hO9:=BG H9.1.2.1 gS (λq e e'=>by cases e;have:=Fv H9.1.2.1 _ e';omega)
        have hG9:=Af (BB (Z HY.1.2.2.2.2 H9.1.2.2.2.2) H9.1.2.2.1 (λq e=>by have:=H9.1.2.2.2.1 _ e;omega)) ⟨w2.heap.size,1,none⟩ (.slice (some ⟨g9,0,none⟩) (l.length+1) cap9) (.inr (by show w.heap.size<=w2.heap.size;omega));have HW:=S (X hR9 (X hP9 (X hO9 hG9)));clear gS hR9 hP9 hO9 hG9;go_wp2;go_roundg gk
        case measure=>omega
        case rel=>
         have h1:=HS.1;have h2:=H64.1;try rw[hk2]at h1 h2
         refine⟨k2,l++[n],.slice (some ⟨g9,0,none⟩) (l.length+1) cap9,_,?_,?_,rfl,HW.1.1,(H9.1.1.set 1 (.slice (some ⟨g9,0,none⟩) (l.length+1) cap9)).of_eq rfl rfl,HW.1.2.1,?_,h1,h2,by simp;omega,HW.1.2.2.2⟩
         ·omega
         ·rw[hk2e];go_num
         ·rw[lA,show Be (l++[n])=Be l++[.int .i64 n]by simp[Be]];exact HW.1.2.2.1
end Go.Proofs.YtbjfaimkiclhgaaGreatDoor
