/-
  Plain laws: a name is replaced by an expression: the program's way and the reference's way give the same. isExpr: one node. isOperator: the operators out of the maps of all levels, in whatever order t
-/
import Derived.Test.YtgjdhajcnechdaaGreatDoorSv06
import Derived.Test.YtgjdhajcnechdaaGreatDoorSv13
import Derived.Test.YtgjdhajcnechdaaGreatDoorSv09
import Derived.Test.YtgjdhajcnechdaaGreatDoorSv05
import Derived.Test.YtgjdhajcnechdaaGreatDoorSv17
import Derived.Maps.RangeWalk
import Derived.Test.YtgjdhajcnechdaaGreatDoorSv16
set_option linter.all false
set_option maxRecDepth 100000
set_option maxHeartbeats 8000000
namespace Go.Proofs.YtgjdhajcnechdaaGreatDoor
open Go.Proofs.Tryz
def AO(f:Ex→Ex)(h:Hd)(p:List Bs)(k:Fo)(k':List Bs→Fo):Ex:=
 if h.op=1∧p.contains h.s=false then f ⟨h,k⟩else if h.op=2 then⟨h,k⟩else if h.op=8 then⟨h,k' (p++h.p)⟩else⟨h,k' p⟩
def A0(f:Ex→Ex):Fo→List Bs→Fo
 | .nil,_=> .nil
 | .cons h k n,p=>(AO f h p k (A0 f k)).fo (A0 f n p)
def byM(name:Bs)(y:Ex)(x:Ex):Ex:=if x.h.s=name then y else x
def swX(name:Bs)(y:Ex)(h:Hd)(k k':Fo):Ex:=
 if h.op=1∧h.s=name then y else if h.op=2∨(h.op=8∧h.p.contains name=true)then⟨h,k⟩else⟨h,k'⟩
def swF(name:Bs)(y:Ex):Fo→Fo
 | .nil=> .nil
 | .cons h k n=>(swX name y h k (swF name y k)).fo (swF name y n)
theorem NI{h:Hd}{n:Nat}(ho:AR h n=true)(h1:h.op=1):n=0:=by
 obtain⟨_,_,p3⟩:=Gb ho;unfold As at p3;rw[if_neg (by omega),if_pos (.inl h1)]at p3;simp only[Bool.and_eq_true,beq_iff_eq]at p3;exact p3.2
theorem RM{k:Fo}(h:k.len=0):k= .nil:=by
 cases k with
 |nil=>rfl
 |cons a b c=>simp[Fo.len]at h
theorem ON(name:Bs)(y:Ex):∀(f:Fo)(p:List Bs),okF f=true→p.contains name=true→A0 (byM name y) f p=f:=by
 intro f;induction f with
 |nil=>intro p _ _;rfl
 | cons h k n ihk ihn=>
   intro p ho hp;simp only[okF,Bool.and_eq_true]at ho;show(AO (byM name y) h p k (A0 (byM name y) k)).fo (A0 (byM name y) n p)= .cons h k n;rw[ihn p ho.2 hp];have e:AO (byM name y) h p k (A0 (byM name y) k)=⟨h,k⟩:=by
    unfold AO;by_cases h1:h.op=1∧p.contains h.s=false
    ·rw[if_pos h1];unfold byM;rw[if_neg (by intro e;simp only at e;rw[e,hp]at h1;cases h1.2)]
    ·rw[if_neg h1];by_cases h2:h.op=2
     ·rw[if_pos h2]
     ·rw[if_neg h2];by_cases h8:h.op=8
      ·rw[if_pos h8,ihk _ ho.1.2 (by simp at hp ⊢;exact .inl hp)]
      ·rw[if_neg h8,ihk _ ho.1.2 hp]
   rw[e];rfl
theorem PC(name:Bs)(y:Ex):∀(f:Fo)(p:List Bs),okF f=true→p.contains name=false→A0 (byM name y) f p=swF name y f:=by
 intro f;induction f with
 |nil=>intro p _ _;rfl
 | cons h k n ihk ihn=>
   intro p ho hp;simp only[okF,Bool.and_eq_true]at ho;show(AO (byM name y) h p k (A0 (byM name y) k)).fo (A0 (byM name y) n p)=(swX name y h k (swF name y k)).fo (swF name y n);rw[ihn p ho.2 hp];have key:AO (byM name y) h p k (A0 (byM name y) k)=swX name y h k (swF name y k):=by
    by_cases h1:h.op=1
    ·have hk:=RM (NI ho.1.1 h1);subst hk;by_cases hs:h.s=name
     ·have L : AO (byM name y) h p .nil (A0 (byM name y) .nil) = y := by
       unfold AO;rw[if_pos ⟨h1,by rw[hs];exact hp⟩];unfold byM;rw[if_pos hs]
      have R:swX name y h .nil (swF name y .nil)=y:=by
       unfold swX;rw[if_pos ⟨h1,hs⟩]
      rw[L,R]
     ·have L : AO (byM name y) h p .nil (A0 (byM name y) .nil) = ⟨h, .nil⟩ := by
       unfold AO;split
       ·unfold byM;rw[if_neg hs]
       ·rw[if_neg (by omega),if_neg (by omega)];rfl
      have R:swX name y h .nil (swF name y .nil)=⟨h,.nil⟩:=by
       unfold swX;rw[if_neg (fun e=>hs e.2)];split<;>rfl
      rw[L,R]
    ·have L0 : AO (byM name y) h p k (A0 (byM name y) k) = if h.op = 2 then ⟨h, k⟩ else if h.op = 8 then ⟨h, A0 (byM name y) k (p ++ h.p)⟩ else ⟨h, A0 (byM name y) k p⟩ := by
      unfold AO;rw[if_neg (fun e=>h1 e.1)]
     have R0:swX name y h k (swF name y k)=if h.op=2∨(h.op=8∧h.p.contains name=true)then⟨h,k⟩else⟨h,swF name y k⟩:=by
      unfold swX;rw[if_neg (fun e=>h1 e.1)]
     by_cases h2:h.op=2
     ·rw[if_pos h2]at L0;rw[if_pos (.inl h2)]at R0;rw[L0,R0]
     ·rw[if_neg h2]at L0;by_cases h8:h.op=8
      ·rw[if_pos h8]at L0;cases hc:h.p.contains name with
       | true=>
         rw[if_pos (.inr ⟨h8,hc⟩)]at R0;rw[ON name y k _ ho.1.2 (by simp at hc ⊢;exact .inr hc)]at L0;rw[L0,R0]
       | false=>
         rw[if_neg (by rintro(e|e);exact h2 e;rw[hc]at e;cases e.2)]at R0;rw[ihk _ ho.1.2 (by simp at hp hc ⊢;exact⟨hp,hc⟩)]at L0;rw[L0,R0]
      ·rw[if_neg h8]at L0;rw[if_neg (by rintro(e|e);exact h2 e;exact h8 e.1)]at R0;rw[ihk _ ho.1.2 hp]at L0;rw[L0,R0]
   rw[key]
open Go.RowKit
section
variable {w:World}{h:Hd}{pa la:Option Addr}{pc n lc:Nat}
theorem NF(h0:h.op≠0)(hv:¬(h.vk=0∧h.vn=0∧h.vs=[])):AR h n=false:=by
 unfold AR;rw[if_pos ⟨h0,hv⟩]
theorem NG(hv:¬(h.op≠0∧¬(h.vk=0∧h.vn=0∧h.vs=[])))(h8:h.op≠8)(hp:h.p≠[]):AR h n=false:=by
 unfold AR;rw[if_neg hv,if_pos ⟨h8,hp⟩]
theorem NH(hv:¬(h.op≠0∧¬(h.vk=0∧h.vn=0∧h.vs=[])))(h8:¬(h.op≠8∧h.p≠[])):AR h n=As h n:=by
 unfold AR;rw[if_neg hv,if_neg h8]
theorem LG(h0:h.op≠0)(hv:¬(h.vk=0∧h.vn=0∧h.vs=[])):
 Calls Tryz.prog 46 #[exV h (.slice pa h.p.length pc) (.slice la n lc)] w fun e w'=>e= .returned (.bool false)∧w.grownBy w' none:=by
 obtain⟨op,s,vk,vn,vs,p⟩:=h;simp only at h0 hv ⊢;have c1:(op==0)=false:=by simpa using h0
 have c2:(op !=0)=true:=by simpa using h0
 clear h0;by_cases hk:vk=0
 ·subst hk;by_cases hn:vn=0
  ·subst hn;have hs:vs≠[]:=fun e=>hv ⟨rfl,rfl,e⟩;clear hv;go_enter func46,ntmps46;go_wp2;go_ret;exact⟨rfl,(by repeat(first| (with_reducible exact Ac _ _)| (with_reducible assumption)| (with_reducible exact AU (by assumption))| (with_reducible refine Ad ?_ _)| (with_reducible refine Am ?_)| (with_reducible refine A3 ?_ _)| ((with_reducible refine Ay ?_ _ _ ?h2);case h2=>first|exact .inl rfl|exact .inr (Nat.le_refl _)|exact .inr (by simp<;>omega))| (with_reducible refine Ah ?_ (by assumption))| (with_reducible refine Aa ?_ (by assumption))))⟩
  ·clear hv;go_enter func46,ntmps46;go_wp2;go_ret;exact⟨rfl,(by repeat(first| (with_reducible exact Ac _ _)| (with_reducible assumption)| (with_reducible exact AU (by assumption))| (with_reducible refine Ad ?_ _)| (with_reducible refine Am ?_)| (with_reducible refine A3 ?_ _)| ((with_reducible refine Ay ?_ _ _ ?h2);case h2=>first|exact .inl rfl|exact .inr (Nat.le_refl _)|exact .inr (by simp<;>omega))| (with_reducible refine Ah ?_ (by assumption))| (with_reducible refine Aa ?_ (by assumption))))⟩
 ·clear hv;go_enter func46,ntmps46;go_wp2;go_ret;exact⟨rfl,(by repeat(first| (with_reducible exact Ac _ _)| (with_reducible assumption)| (with_reducible exact AU (by assumption))| (with_reducible refine Ad ?_ _)| (with_reducible refine Am ?_)| (with_reducible refine A3 ?_ _)| ((with_reducible refine Ay ?_ _ _ ?h2);case h2=>first|exact .inl rfl|exact .inr (Nat.le_refl _)|exact .inr (by simp<;>omega))| (with_reducible refine Ah ?_ (by assumption))| (with_reducible refine Aa ?_ (by assumption))))⟩
theorem LH(hv:¬(h.op≠0∧¬(h.vk=0∧h.vn=0∧h.vs=[])))(h8:h.op≠8)(hp:h.p≠[]):
 Calls Tryz.prog 46 #[exV h (.slice pa h.p.length pc) (.slice la n lc)] w fun e w'=>e= .returned (.bool false)∧w.grownBy w' none:=by
 obtain⟨op,s,vk,vn,vs,p⟩:=h;simp only at h8 hp hv ⊢;have c3:(op==8)=false:=by simpa using h8
 have c4:(op !=8)=true:=by simpa using h8
 have hl:0<p.length:=List.length_pos_iff.2 hp;have hlI:decide ((0:Int)<(p.length:Int))=true:=by simp;omega
 by_cases h0:op=0
 ·subst h0;clear hv hp h8;go_enter func46,ntmps46;go_wp2;go_ret;exact⟨rfl,(by repeat(first| (with_reducible exact Ac _ _)| (with_reducible assumption)| (with_reducible exact AU (by assumption))| (with_reducible refine Ad ?_ _)| (with_reducible refine Am ?_)| (with_reducible refine A3 ?_ _)| ((with_reducible refine Ay ?_ _ _ ?h2);case h2=>first|exact .inl rfl|exact .inr (Nat.le_refl _)|exact .inr (by simp<;>omega))| (with_reducible refine Ah ?_ (by assumption))| (with_reducible refine Aa ?_ (by assumption))))⟩
 ·obtain⟨rfl,rfl,rfl⟩:vk=0∧vn=0∧vs=[]:=Classical.not_not.1 fun e=>hv ⟨h0,e⟩;have c1:(op==0)=false:=by simpa using h0
  have c2:(op !=0)=true:=by simpa using h0
  clear hv hp h8 h0;go_enter func46,ntmps46;go_wp2;go_ret;exact⟨rfl,(by repeat(first| (with_reducible exact Ac _ _)| (with_reducible assumption)| (with_reducible exact AU (by assumption))| (with_reducible refine Ad ?_ _)| (with_reducible refine Am ?_)| (with_reducible refine A3 ?_ _)| ((with_reducible refine Ay ?_ _ _ ?h2);case h2=>first|exact .inl rfl|exact .inr (Nat.le_refl _)|exact .inr (by simp<;>omega))| (with_reducible refine Ah ?_ (by assumption))| (with_reducible refine Aa ?_ (by assumption))))⟩
theorem LI(hv:¬(h.op≠0∧¬(h.vk=0∧h.vn=0∧h.vs=[])))(h8:¬(h.op≠8∧h.p≠[]))
 (HL:∀W,w.grownBy W none→Calls Tryz.prog 73 #[.slice la n lc] W fun e w'=>e= .returned (.bool false)∧W.grownBy w' none):
 Calls Tryz.prog 46 #[exV h (.slice pa h.p.length pc) (.slice la n lc)] w fun e w'=>e= .returned (.bool false)∧w.grownBy w' none:=by
 have H:=O HL;clear HL;obtain⟨op,s,vk,vn,vs,p⟩:=h;simp only at h8 hv ⊢;by_cases h0:op=0
 ·subst h0;obtain rfl:p=[]:=Classical.not_not.1 fun e=>h8 ⟨by decide,e⟩;clear hv h8;go_enter func46,ntmps46;go_wp2_with fail;refine(H.out _ ?gg).mono ?_
  case gg=>exact (by repeat(first| (with_reducible exact Ac _ _)| (with_reducible assumption)| (with_reducible exact AU (by assumption))| (with_reducible refine Ad ?_ _)| (with_reducible refine Am ?_)| (with_reducible refine A3 ?_ _)| ((with_reducible refine Ay ?_ _ _ ?h2);case h2=>first|exact .inl rfl|exact .inr (Nat.le_refl _)|exact .inr (by simp<;>omega))| (with_reducible refine Ah ?_ (by assumption))| (with_reducible refine Aa ?_ (by assumption))))
  rintro e w5 ⟨rfl,g5⟩;go_wp2;go_ret;exact⟨rfl,Aa (by repeat(first| (with_reducible exact Ac _ _)| (with_reducible assumption)| (with_reducible exact AU (by assumption))| (with_reducible refine Ad ?_ _)| (with_reducible refine Am ?_)| (with_reducible refine A3 ?_ _)| ((with_reducible refine Ay ?_ _ _ ?h2);case h2=>first|exact .inl rfl|exact .inr (Nat.le_refl _)|exact .inr (by simp<;>omega))| (with_reducible refine Ah ?_ (by assumption))| (with_reducible refine Aa ?_ (by assumption)))) g5⟩
 ·obtain⟨rfl,rfl,rfl⟩:vk=0∧vn=0∧vs=[]:=Classical.not_not.1 fun e=>hv ⟨h0,e⟩;have c1:(op==0)=false:=by simpa using h0
  have c2:(op !=0)=true:=by simpa using h0
  by_cases e8:op=8
  ·subst e8;clear hv h8 h0;go_enter func46,ntmps46;go_wp2_with fail;refine(H.out _ ?gg).mono ?_
   case gg=>exact (by repeat(first| (with_reducible exact Ac _ _)| (with_reducible assumption)| (with_reducible exact AU (by assumption))| (with_reducible refine Ad ?_ _)| (with_reducible refine Am ?_)| (with_reducible refine A3 ?_ _)| ((with_reducible refine Ay ?_ _ _ ?h2);case h2=>first|exact .inl rfl|exact .inr (Nat.le_refl _)|exact .inr (by simp<;>omega))| (with_reducible refine Ah ?_ (by assumption))| (with_reducible refine Aa ?_ (by assumption))))
   rintro e w5 ⟨rfl,g5⟩;go_wp2;go_ret;exact⟨rfl,Aa (by repeat(first| (with_reducible exact Ac _ _)| (with_reducible assumption)| (with_reducible exact AU (by assumption))| (with_reducible refine Ad ?_ _)| (with_reducible refine Am ?_)| (with_reducible refine A3 ?_ _)| ((with_reducible refine Ay ?_ _ _ ?h2);case h2=>first|exact .inl rfl|exact .inr (Nat.le_refl _)|exact .inr (by simp<;>omega))| (with_reducible refine Ah ?_ (by assumption))| (with_reducible refine Aa ?_ (by assumption)))) g5⟩
  ·obtain rfl:p=[]:=Classical.not_not.1 fun e=>h8 ⟨e8,e⟩;have c3:(op==8)=false:=by simpa using e8
   have c4:(op !=8)=true:=by simpa using e8
   clear hv h8 h0 e8;go_enter func46,ntmps46;go_wp2_with fail;refine(H.out _ ?gg).mono ?_
   case gg=>exact (by repeat(first| (with_reducible exact Ac _ _)| (with_reducible assumption)| (with_reducible exact AU (by assumption))| (with_reducible refine Ad ?_ _)| (with_reducible refine Am ?_)| (with_reducible refine A3 ?_ _)| ((with_reducible refine Ay ?_ _ _ ?h2);case h2=>first|exact .inl rfl|exact .inr (Nat.le_refl _)|exact .inr (by simp<;>omega))| (with_reducible refine Ah ?_ (by assumption))| (with_reducible refine Aa ?_ (by assumption))))
   rintro e w5 ⟨rfl,g5⟩;go_wp2;go_ret;exact⟨rfl,Aa (by repeat(first| (with_reducible exact Ac _ _)| (with_reducible assumption)| (with_reducible exact AU (by assumption))| (with_reducible refine Ad ?_ _)| (with_reducible refine Am ?_)| (with_reducible refine A3 ?_ _)| ((with_reducible refine Ay ?_ _ _ ?h2);case h2=>first|exact .inl rfl|exact .inr (Nat.le_refl _)|exact .inr (by simp<;>omega))| (with_reducible refine Ah ?_ (by assumption))| (with_reducible refine Aa ?_ (by assumption)))) g5⟩
end
open Go.Sort
def Iter(w:World)(r b:Nat)(l:List (Bs×Bs))(left:List Nat):Prop:=
 w.heap[b]? =some (B7 l)∧∃seen:Array Nat,w.heap[r]? =some (.mapIter (some b) l.length seen l.length)∧left.Nodup∧∀i,i∈left↔i<l.length∧seen.contains i=false
theorem FP(l:List (Bs×Bs)):∀n i:Nat,(AS l n)[i]? =(l[i]?).map fun p=>({key:=str p.1,val:=str p.2,born:=n+i}:MapEntry):=by
 induction l with
 |nil=>intro n i;simp[AS]
 | cons x l ih=>
   intro n i;obtain⟨a,b⟩:=x;cases i with
   |zero=>simp[AS]
   |succ i=>simp[AS,ih];congr 1;funext p;congr 1;omega
theorem I2{l:List (Bs×Bs)}{e:MapEntry}(h:e∈(AS l 0)):∃i,i<l.length∧e.born=i∧e.key=str (l.getD i ([],[])).1∧e.val=str (l.getD i ([],[])).2:=by
 obtain⟨i,hi,rfl⟩:=List.getElem_of_mem h;have hil:i<l.length:=by simpa[K4]using hi
 refine⟨i,hil,?_⟩;have:=FP l 0 i;rw[List.getElem?_eq_getElem hi,List.getElem?_eq_getElem hil]at this;simp only[Option.map_some,Option.some.injEq,Nat.zero_add]at this;rw[this,List.getD_eq_getElem?_getD,List.getElem?_eq_getElem hil];exact⟨rfl,rfl,rfl⟩
theorem My(l:List (Bs×Bs)):((AS l 0).map (·.born))=List.range l.length:=by
 apply List.ext_getElem?;intro i;rw[List.getElem?_map,FP];by_cases h:i<l.length
 ·simp[List.getElem?_eq_getElem h,h]
 ·simp[List.getElem?_eq_none (Nat.le_of_not_lt h),h]
section
variable {P:Program}
theorem Kn{w:World}{t k e:TypeId}{b:Nat}{l:List (Bs×Bs)}(ht:P.underlying t=some (.map k e))(hb:w.heap[b]? =some (B7 l)):
 (Instr.range t (.map (some b))).run P w= .ok (.pointer (some ⟨w.heap.size,0,none⟩)) (w.alloc (.mapIter (some b) l.length #[] l.length)):=
 run_range_map w t k e b (AS l 0).toArray l.length ht hb
theorem Iter.start{w:World}{b:Nat}{l:List (Bs×Bs)}(hb:w.heap[b]? =some (B7 l)):Iter (w.alloc (.mapIter (some b) l.length #[] l.length)) w.heap.size b l (List.range l.length):=
 ⟨Eg _ _ _ _ hb,#[],D3 _ _ _ rfl,List.nodup_range,fun i=>by simp⟩
theorem Iter.gb{w w1:World}{r b:Nat}{l:List (Bs×Bs)}{left:List Nat}{q:Option Nat}(h:Iter w r b l left)(g:w.grownBy w1 q)(h1:some b≠q)(h2:some r≠q):Iter w1 r b l left:=by
 obtain⟨hb,seen,hr,hn,hi⟩:=h;exact⟨Dl g hb h1,seen,Dl g hr h2,hn,hi⟩
theorem Iter.next{w:World}{r b:Nat}{l:List (Bs×Bs)}{left:List Nat}(h:Iter w r b l left)(ty:TypeId):
 (left=[]∧(Instr.next (.pointer (some ⟨r,0,none⟩)) false ty).run P w= .ok (.tuple #[.bool false]) w)∨
 ∃i∈left,∃w1:World,(Instr.next (.pointer (some ⟨r,0,none⟩)) false ty).run P w= .ok (.tuple #[.bool true,str (l.getD i ([],[])).1,str (l.getD i ([],[])).2]) w1∧Iter w1 r b l (left.erase i)∧w.grownBy w1 (some r)∧
  (Instr.entry (.pointer (some ⟨r,0,none⟩))).run P w1= .ok (.tuple #[str (l.getD i ([],[])).1,str (l.getD i ([],[])).2]) w1:=by
 obtain⟨hb,seen,hr,hnd,hi⟩:=h;have hb':w.heap[b]? =some (.map (AS l 0).toArray l.length):=hb;have hold:∀x∈(AS l 0).toArray.toList,x.born<l.length:=fun x hx=>by
  obtain⟨i,h1,h2,_⟩:=I2 (by simpa using hx);omega
 have hlt:r<w.heap.size:=(Array.getElem?_eq_some_iff.1 hr).1;simp only[Instr.next,getObj,Sem.run_bind,Sem.run,hr,hb',Result.andThen,next_test_false seen _ l.length l.length hold (Nat.le_refl _),Bool.false_eq_true,if_false];have hmem:∀x∈(Array.filter (fun e=>!seen.contains e.born) (AS l 0).toArray).toList,x.born<l.length:=fun x hx=>hold x (by simp at hx ⊢;exact hx.1);have hL:∀x∈(Array.filter (fun e=>!seen.contains e.born) (AS l 0).toArray).toList,x.born∈left∧x.key=str (l.getD x.born ([],[])).1∧x.val=str (l.getD x.born ([],[])).2∧x∈AS l 0:=fun x hx=>by
  have hx':x∈AS l 0∧seen.contains x.born=false:=by simpa using hx
  obtain⟨i,h1,h2,h3,h4⟩:=I2 hx'.1;subst h2;exact⟨(hi _).2 ⟨h1,hx'.2⟩,h3,h4,hx'.1⟩
 have hE:Array.filter (fun e=>!seen.contains e.born) (AS l 0).toArray=#[]→left=[]:=fun he=>by
  rcases List.eq_nil_or_concat left with h| ⟨_,i,h⟩
  ·exact h
  ·exfalso;obtain⟨h1,h2⟩:=(hi i).1 (by rw[h];simp);rw[Array.filter_eq_empty_iff]at he;have hm:(AS l 0)[i]? =some {key:=str l[i].1,val:=str l[i].2,born:=0+i}:=by rw[FP,List.getElem?_eq_getElem h1];rfl
   refine he _ (by simpa using List.mem_of_getElem? hm) ?_;simpa using h2
 generalize Array.filter (fun e=>!seen.contains e.born) (AS l 0).toArray=L at hmem hL hE ⊢;have e1:L.filter (fun x=>decide (x.born<l.length))=L:=Array.filter_eq_self.2 (fun x hx=>by simpa using hmem x (by simpa using hx));have e2:L.filter (fun x=>decide (x.born≥l.length))=#[]:=by
  rw[Array.filter_eq_empty_iff];intro x hx;have:=hmem x (by simpa using hx);simp;omega
 simp only[e1,e2,Array.append_empty];by_cases h0:L.size=0
 ·left;have:L=#[]:=Array.eq_empty_of_size_eq_zero h0;subst this;refine⟨hE rfl,?_⟩;simp[choose,Sem.run,Question.forced]
 ·right;have hne:L.isEmpty=false:=by simp[Array.isEmpty,h0]
  simp only[hne,Bool.false_eq_true,if_false,Array.empty_append,Array.size_map];have hch:∃(j:Nat)(w1:World),j<L.size∧w1.Alike w∧w.grownBy w1 none∧(choose (Question.mapNext L.size)).run P w= .ok j w1:=by
   by_cases hf:L.size≤1
   ·exact⟨0,w,by omega,⟨rfl,rfl,rfl⟩,Ac _ _,by simp[choose,Sem.run,Question.forced,hf]⟩
   ·exact ⟨_, w.drew, Nat.mod_lt _ (by omega), ⟨rfl, rfl, rfl⟩, Am (Ac _ _), by
     simp only[choose,Sem.run,Question.forced,decide_eq_true_eq,hf,if_false,Question.cut];rfl⟩
  obtain⟨j,w1,hj,hal,g1,hrun⟩:=hch;obtain⟨k1,k2,k3,k4⟩:=hL L[j] (by simp);have hr1:w1.heap[r]? =some (.mapIter (some b) l.length seen l.length):=by rw[hal.1];exact hr
  have hb1:w1.heap[b]? =some (.map (AS l 0).toArray l.length):=by rw[hal.1];exact hb'
  have hlt1:r<w1.heap.size:=by rw[hal.1];exact hlt
  have hne:b≠r:=by
   rintro rfl;rw[hr]at hb';cases hb'
  have hw2:∃w2:World,w2={w1 with heap:=w1.heap.setIfInBounds r (.mapIter (some b) l.length (seen.push L[j].born) l.length)}:=⟨_,rfl⟩;obtain⟨w2,hw2⟩:=hw2;have hr2:w2.heap[r]? =some (.mapIter (some b) l.length (seen.push L[j].born) l.length):=by rw[hw2];simp[hlt1]
  have hb2:w2.heap[b]? =some (.map (AS l 0).toArray l.length):=by
   rw[hw2];show(w1.heap.setIfInBounds r _)[b]? =_;rw[Array.getElem?_setIfInBounds_ne (fun e=>hne e.symm)];exact hb1
  have hs2:(setObj r (.mapIter (some b) l.length (seen.push L[j].born) l.length)).run P w1= .ok () w2:=by
   simp only[setObj,Sem.run,hr1];rw[hw2]
  refine⟨L[j].born,k1,w2,?_,⟨hb2,_,hr2,hnd.erase _,fun i=>?_⟩,?_,?_⟩
  ·simp only[hrun,Array.getElem?_map,Array.getElem?_eq_getElem hj,Option.map_some,Sem.run_bind,hs2,Result.andThen,k2,k3];rfl
  ·rw[hnd.mem_erase_iff,hi];have:(seen.push L[j].born).contains i=(seen.contains i||i==L[j].born):=by
    rw[Bool.eq_iff_iff];simp
   rw[this];constructor
   ·rintro⟨a1,a2,a3⟩;exact⟨a2,by rw[a3];simpa using a1⟩
   ·rintro⟨a1,a2⟩;simp only[Bool.or_eq_false_iff,beq_eq_false_iff_ne]at a2;exact⟨a2.2,a1,a2.1⟩
  ·refine Aa (AU g1) ?_;rw[hw2];refine⟨rfl,rfl,rfl,by simp,fun i _ hir=>?_⟩;show(w1.heap.setIfInBounds r _)[i]? =_;exact Array.getElem?_setIfInBounds_ne (fun e=>hir (by rw[e]))
  ·have hf : (AS l 0).toArray.find? (·.born == L[j].born) = some L[j] := by
    rw[←Array.find?_toList];refine find_born L[j] _ ?_ k4;show((AS l 0).map (·.born)).Nodup;rw[My];exact List.nodup_range
   simp only[Instr.entry,getObj,Sem.run_bind,Sem.run,hr2,hb2,Result.andThen,Array.back?_push,bne_self_eq_false,Bool.false_eq_true,if_false,hf,k2,k3];rfl
variable {w:World}{ops:Array Oper}{rest:List Oper}{o:Oper}{a:Act}{Q:Exit→Act→World→Prop}
theorem JV(hg:o.guard=none)(it:Operand)(hop:o.op=Op.next it false){r b:Nat}{l:List (Bs×Bs)}{left:List Nat}(hit:a.eval it= .pointer (some ⟨r,0,none⟩))(h:Iter w r b l left)
 (hDone:left=[]→wpList P ops Q rest (a.put o.dst (.tuple #[.bool false])) w)
 (hMore:∀(i:Nat)(w':World),i∈left→Iter w' r b l (left.erase i)→w.grownBy w' (some r)→(Instr.entry (.pointer (some ⟨r,0,none⟩))).run P w'= .ok (.tuple #[str (l.getD i ([],[])).1,str (l.getD i ([],[])).2]) w'→
  wpList P ops Q rest (a.put o.dst (.tuple #[.bool true,str (l.getD i ([],[])).1,str (l.getD i ([],[])).2])) w'):
 wpList P ops Q (o::rest) a w:=by
 refine wpList_plain hg fun K' hK'=>?_;unfold Oper.wp;rcases h.next (P:=P) o.type with⟨hl,hrun⟩| ⟨i,hi,w1,hrun,h1,hgr,hen⟩
 ·simp[execOp,hop,hit,hrun,Result.andThen];exact hK' _ _ (hDone hl)
 ·simp[execOp,hop,hit,hrun,Result.andThen];exact hK' _ _ (hMore i w1 hi h1 hgr hen)
end
theorem Pv{k:Nat}{i:Nat}(h:i<(lvl k).length):((lvl k).getD i ([],[])).2∈(lvl k).map (·.2):=by
 rw[List.getD_eq_getElem?_getD,List.getElem?_eq_getElem h];exact List.mem_map.2 ⟨_,List.getElem_mem h,rfl⟩
theorem R6(s:Bs):(∃k,k<6∧s∈(lvl k).map (·.2))↔s∈opsL:=by
 have h1:∀k,k<6→∀s∈(lvl k).map (·.2),s∈opsL:=by decide
 have h2:∀s∈opsL,∃k,k<6∧s∈(lvl k).map (·.2):=by decide
 exact⟨fun⟨k,hk,h⟩=>h1 k hk s h,h2 s⟩
def Coll(xs:List Bs)(k:Nat)(left:List Nat):Prop:=(∀s,s∈xs↔(∃j,j<k∧s∈(lvl j).map (·.2))∨∃i,i<(lvl k).length∧i ∉ left∧((lvl k).getD i ([],[])).2=s)
theorem Coll.start:Coll [] 0 (List.range (lvl 0).length):=fun s=>by
 constructor
 ·intro h;cases h
 ·rintro(⟨j,h,_⟩| ⟨i,h1,h2,_⟩)
  ·omega
  ·exact absurd (List.mem_range.2 h1) h2
theorem Coll.step{xs:List Bs}{k i:Nat}{left:List Nat}(h:Coll xs k left)(hn:left.Nodup)(hi:i∈left)(hl:i<(lvl k).length):Coll (xs++[((lvl k).getD i ([],[])).2]) k (left.erase i):=fun s=>by
 rw[List.mem_append,h s,List.mem_singleton]
 constructor
 ·rintro((h| ⟨j,h1,h2,h3⟩)|rfl)
  ·exact .inl h
  ·exact .inr ⟨j,h1,fun e=>h2 (List.mem_of_mem_erase e),h3⟩
  ·exact .inr ⟨i,hl,fun e=>by rw[hn.mem_erase_iff]at e;exact e.1 rfl,rfl⟩
 ·rintro(h| ⟨j,h1,h2,h3⟩)
  ·exact .inl (.inl h)
  ·by_cases hj:j=i
   ·subst hj;exact .inr h3.symm
   ·exact .inl (.inr ⟨j,h1,fun e=>h2 ((hn.mem_erase_iff).2 ⟨hj,e⟩),h3⟩)
theorem Coll.next{xs:List Bs}{k:Nat}(h:Coll xs k []):Coll xs (k+1) (List.range (lvl (k+1)).length):=fun s=>by
 rw[h s]
 constructor
 ·rintro(⟨j,h1,h2⟩| ⟨i,h1,_,h3⟩)
  ·exact .inl ⟨j,by omega,h2⟩
  ·exact .inl ⟨k,by omega,by rw[←h3];exact Pv h1⟩
 ·rintro(⟨j,h1,h2⟩| ⟨i,h1,h2,_⟩)
  ·by_cases hj:j=k
   ·subst hj
    obtain⟨p,hp,rfl⟩:=List.mem_map.1 h2
    obtain⟨i,hi,rfl⟩:=List.getElem_of_mem hp
    exact .inr ⟨i,hi,by simp,by rw[List.getD_eq_getElem?_getD,List.getElem?_eq_getElem hi];rfl⟩
   ·exact .inl ⟨j,by omega,h2⟩
  ·exact absurd (List.mem_range.2 h1) h2
theorem Coll.done{xs:List Bs}(h:Coll xs 6 (List.range (lvl 6).length))(s:Bs):s∈xs↔s∈opsL:=by
 rw[h s,←R6];constructor
 ·rintro(h| ⟨i,h1,h2,_⟩)
  ·exact h
  ·exact absurd (List.mem_range.2 h1) h2
 ·exact fun h=> .inl h
section
variable {b:Nat}{tv:Value}{l:List Tok}
theorem No{opnd:FR Ex}(hop:CR 87 b tv l opnd)(n:Nat):CR 48 b tv l (BF l orL n opnd):=by
 show CR 48 b tv l (BF l [[46,79,82,46]] n opnd);intro w st r h ho;have hb:=h.lt;unfold BF at ho;obtain⟨⟨x,st1⟩,hx,ho⟩:=Option.bind_eq_some_iff.1 ho;simp only at ho;have gz:w.grownBy (w.alloc (.cells zeroE.toArray 27 (0,0))) (some b):=Ad (Ac _ _) _;have hz:=Blk.new w zeroE 27;have h0:=h.alloc (.cells zeroE.toArray 27 (0,0));have hw0:w.heap.size<(w.alloc (.cells zeroE.toArray 27 (0,0))).heap.size:=by simp
 have HX:=O (hop _ _ _ h0 hx);have H:=O (Z hop (Z ho (Z hz (Z gz hw0))));clear hop ho hx hz gz h0 hw0;go_enter func48,ntmps48;go_wp2_with fail;refine HX.out.mono ?_;rintro e w1 ⟨g1,v,rfl,⟨pa,pc,la,lc,rfl,rp,rl⟩,h1⟩;simp only at rp rl h1 ⊢;have HK:=O (KpR.new hb H.out.2.2.1 H.out.2.2.2.1 H.out.2.2.2.2 g1 rp rl h1);have hb1:=h1.lt;clear rp rl h1 HX g1;go_wp2_with fail;go_loopg [] n (fun m wr=>∃x pa pc la lc st,KpR b tv l w w1.heap.size wr x pa pc la lc st∧BE l [[46,79,82,46]] opnd m x st=some r)
 case atStart=>exact⟨x,pa,pc,la,lc,_,HK.out,H.out.2.1⟩
 case round=>
  obtain⟨x,pa,pc,la,lc,st2,hk,hloop⟩:=hrel;clear HK;cases gk with
  |zero=>cases hloop
  |succ m=>
  rw[Ig (by decide)]at hloop;have HT:=O (BX hk.rr [46,79,82,46]);have HK:=O hk;cases hs:A2 l [46,79,82,46] st2 with
  | false=>
    rw[hs]at HT hloop;have HQ:=O (show some (x,Aj l [46,79,82,46] st2)=some r from hloop);clear hloop hs hk;go_wp2_with fail;refine HT.out.mono ?_;rintro e w2 ⟨g2,v,rfl,rfl,h2⟩;have hk2:=HK.out.gb hb g2 h2;have hL:=hk2.blk;have hZ:=hk2.zero;have hwL:=hk2.wL;have HK2:=O hk2;clear hk2 g2 h2;obtain⟨cl_0,cl_1,cl_2,cl_3,cl_4,cl_5,cl_6,cl_f⟩:=(hL).c7;obtain⟨cz_0,cz_1,cz_2,cz_3,cz_4,cz_5,cz_6,cz_f⟩:=(hZ).c7;go_wp2;have hk:=HK2.out;have g7:=Ag w2 w.heap.size (.int .i64 x.h.op) (str x.h.s) (.int .i64 x.h.vk) (.int .i64 x.h.vn) (str x.h.vs) (.slice pa x.h.p.length pc) (.slice la x.kids.len lc);have e1:=HQ.out;cases e1;exact bodyPost_ret (Ai rfl _ (hZ.set7 _ _ _ _ _ _ _) rfl) rfl (Bf hb hk.gr hk.ve (by intro k hk;exact hk.1) hk.rr g7)
  | true=>
    rw[hs]at HT hloop;have hq:(opnd (Aj l [46,79,82,46] st2)).bind (fun r=>BE l [[46,79,82,46]] opnd m (Aw [46,79,82,46] x r.1) r.2)=some r:=hloop;obtain⟨⟨z,st3⟩,hy,hq⟩:=Option.bind_eq_some_iff.1 hq;simp only at hq;have HQ:=O hq;have HY:=O hy;clear hloop hs hk hq hy;go_wp2_with fail;refine HT.out.mono ?_;rintro e w2 ⟨g2,v,rfl,rfl,h2⟩;have hk2:=HK.out.gb hb g2 h2;have hL:=hk2.blk;have hwL:=hk2.wL;have hbL:=hk2.bL;have HK2:=O hk2;clear hk2 g2 h2;obtain⟨cl_0,cl_1,cl_2,cl_3,cl_4,cl_5,cl_6,cl_f⟩:=(hL).c7;have hLb:=hL.lt;go_wp2_with fail;go_region_with(first| (go_at_call 87;refine(H.out.1 _ _ _ (HK2.out.rr.drewN 1) HY.out).mono ?_;rintro e w4 ⟨g4,v,rfl,hv,h4⟩;have hk4:=HK2.out.gb hb (Aa (Am (Ac w2 (some b))) g4) h4;have hL4:=hk4.blk;obtain⟨dl_0,dl_1,dl_2,dl_3,dl_4,dl_5,dl_6,dl_f⟩:=(hL4).c7;have hok:∀q,w4.heap.size≤q→but w w1.heap.size q:=(fun q hq=>by have:=hL4.lt;exact⟨by omega,by omega⟩);have hz:VE (but w w1.heap.size) w4 v z:=hv.mono (fun q hq _=>by have hq:w2.heap.size≤q:=hq;exact⟨by omega,by omega⟩);have HZ4:=O (Z hk4 (Z hok hz));clear hk4 hok hz hv h4)| (go_at_call 89;refine(Dn [46,79,82,46] x z _ _ HZ4.out.2.1 HZ4.out.1.ve HZ4.out.2.2).mono ?_;rintro e w5 ⟨u,rfl,hu,g5⟩;obtain⟨ua,uc,va,vc,rfl,ru,rv⟩:=hu;have hL5:=hL4.gb g5 (by simp);obtain⟨el_0,el_1,el_2,el_3,el_4,el_5,el_6,el_f⟩:=(hL5).c7;have HU:=O (Z g5 (Z ru rv));clear g5 ru rv));all_goals
     have hK7:=(HZ4.out.1.gbN hb HU.out.1).store (z:=Aw [46,79,82,46] x z) hb HU.out.2.1 HU.out.2.2;have HK7:=O hK7;clear hK7;go_wp2_with fail;go_roundg m
     case measure=>omega
     case rel=>exact⟨Aw [46,79,82,46] x z,ua,uc,va,vc,_,HK7.out,HQ.out⟩
theorem PB{opnd:FR Ex}(hop:CR 138 b tv l opnd)(n:Nat):CR 87 b tv l (BF l andL n opnd):=by
 show CR 87 b tv l (BF l [[46,65,78,68,46]] n opnd);intro w st r h ho;have hb:=h.lt;unfold BF at ho;obtain⟨⟨x,st1⟩,hx,ho⟩:=Option.bind_eq_some_iff.1 ho;simp only at ho;have gz:w.grownBy (w.alloc (.cells zeroE.toArray 27 (0,0))) (some b):=Ad (Ac _ _) _;have hz:=Blk.new w zeroE 27;have h0:=h.alloc (.cells zeroE.toArray 27 (0,0));have hw0:w.heap.size<(w.alloc (.cells zeroE.toArray 27 (0,0))).heap.size:=by simp
 have HX:=O (hop _ _ _ h0 hx);have H:=O (Z hop (Z ho (Z hz (Z gz hw0))));clear hop ho hx hz gz h0 hw0;go_enter func87,ntmps87;go_wp2_with fail;refine HX.out.mono ?_;rintro e w1 ⟨g1,v,rfl,⟨pa,pc,la,lc,rfl,rp,rl⟩,h1⟩;simp only at rp rl h1 ⊢;have HK:=O (KpR.new hb H.out.2.2.1 H.out.2.2.2.1 H.out.2.2.2.2 g1 rp rl h1);have hb1:=h1.lt;clear rp rl h1 HX g1;go_wp2_with fail;go_loopg [] n (fun m wr=>∃x pa pc la lc st,KpR b tv l w w1.heap.size wr x pa pc la lc st∧BE l [[46,65,78,68,46]] opnd m x st=some r)
 case atStart=>exact⟨x,pa,pc,la,lc,_,HK.out,H.out.2.1⟩
 case round=>
  obtain⟨x,pa,pc,la,lc,st2,hk,hloop⟩:=hrel;clear HK;cases gk with
  |zero=>cases hloop
  |succ m=>
  rw[Ig (by decide)]at hloop;have HT:=O (BX hk.rr [46,65,78,68,46]);have HK:=O hk;cases hs:A2 l [46,65,78,68,46] st2 with
  | false=>
    rw[hs]at HT hloop;have HQ:=O (show some (x,Aj l [46,65,78,68,46] st2)=some r from hloop);clear hloop hs hk;go_wp2_with fail;refine HT.out.mono ?_;rintro e w2 ⟨g2,v,rfl,rfl,h2⟩;have hk2:=HK.out.gb hb g2 h2;have hL:=hk2.blk;have hZ:=hk2.zero;have hwL:=hk2.wL;have HK2:=O hk2;clear hk2 g2 h2;obtain⟨cl_0,cl_1,cl_2,cl_3,cl_4,cl_5,cl_6,cl_f⟩:=(hL).c7;obtain⟨cz_0,cz_1,cz_2,cz_3,cz_4,cz_5,cz_6,cz_f⟩:=(hZ).c7;go_wp2;have hk:=HK2.out;have g7:=Ag w2 w.heap.size (.int .i64 x.h.op) (str x.h.s) (.int .i64 x.h.vk) (.int .i64 x.h.vn) (str x.h.vs) (.slice pa x.h.p.length pc) (.slice la x.kids.len lc);have e1:=HQ.out;cases e1;exact bodyPost_ret (Ai rfl _ (hZ.set7 _ _ _ _ _ _ _) rfl) rfl (Bf hb hk.gr hk.ve (by intro k hk;exact hk.1) hk.rr g7)
  | true=>
    rw[hs]at HT hloop;have hq:(opnd (Aj l [46,65,78,68,46] st2)).bind (fun r=>BE l [[46,65,78,68,46]] opnd m (Aw [46,65,78,68,46] x r.1) r.2)=some r:=hloop;obtain⟨⟨z,st3⟩,hy,hq⟩:=Option.bind_eq_some_iff.1 hq;simp only at hq;have HQ:=O hq;have HY:=O hy;clear hloop hs hk hq hy;go_wp2_with fail;refine HT.out.mono ?_;rintro e w2 ⟨g2,v,rfl,rfl,h2⟩;have hk2:=HK.out.gb hb g2 h2;have hL:=hk2.blk;have hwL:=hk2.wL;have hbL:=hk2.bL;have HK2:=O hk2;clear hk2 g2 h2;obtain⟨cl_0,cl_1,cl_2,cl_3,cl_4,cl_5,cl_6,cl_f⟩:=(hL).c7;have hLb:=hL.lt;go_wp2_with fail;go_region_with(first| (go_at_call 138;refine(H.out.1 _ _ _ (HK2.out.rr.drewN 1) HY.out).mono ?_;rintro e w4 ⟨g4,v,rfl,hv,h4⟩;have hk4:=HK2.out.gb hb (Aa (Am (Ac w2 (some b))) g4) h4;have hL4:=hk4.blk;obtain⟨dl_0,dl_1,dl_2,dl_3,dl_4,dl_5,dl_6,dl_f⟩:=(hL4).c7;have hok:∀q,w4.heap.size≤q→but w w1.heap.size q:=(fun q hq=>by have:=hL4.lt;exact⟨by omega,by omega⟩);have hz:VE (but w w1.heap.size) w4 v z:=hv.mono (fun q hq _=>by have hq:w2.heap.size≤q:=hq;exact⟨by omega,by omega⟩);have HZ4:=O (Z hk4 (Z hok hz));clear hk4 hok hz hv h4)| (go_at_call 89;refine(Dn [46,65,78,68,46] x z _ _ HZ4.out.2.1 HZ4.out.1.ve HZ4.out.2.2).mono ?_;rintro e w5 ⟨u,rfl,hu,g5⟩;obtain⟨ua,uc,va,vc,rfl,ru,rv⟩:=hu;have hL5:=hL4.gb g5 (by simp);obtain⟨el_0,el_1,el_2,el_3,el_4,el_5,el_6,el_f⟩:=(hL5).c7;have HU:=O (Z g5 (Z ru rv));clear g5 ru rv));all_goals
     have hK7:=(HZ4.out.1.gbN hb HU.out.1).store (z:=Aw [46,65,78,68,46] x z) hb HU.out.2.1 HU.out.2.2;have HK7:=O hK7;clear hK7;go_wp2_with fail;go_roundg m
     case measure=>omega
     case rel=>exact⟨Aw [46,65,78,68,46] x z,ua,uc,va,vc,_,HK7.out,HQ.out⟩
end
section
variable {b:Nat}{tv:Value}{l:List Tok}
theorem Dr{W:World}{st:RS}(h:Rr W b tv l st)(L:List Bs)(hne:∀s∈L,s≠[])(hl:L.length≤100)(n:Nat)(hn:n=W.heap.size)(m:Nat)(hm:L.length=m):
 Calls Tryz.prog 177 #[.pointer (some ⟨b,0,none⟩),.slice (some ⟨n,0,none⟩) m m] (W.alloc (.cells (L.map str).toArray 9 (0,0))) (B5 b tv l (W.alloc (.cells (L.map str).toArray 9 (0,0))) VStr (A7 l L st)):=by
 subst hm;exact OS (h.alloc _) (ok:=fun k=>k=n) (Cells.new' hn (by simp) (by unfold maxLen;omega) rfl) (by intro k hk;have:=h.lt;omega) hne hl
theorem PH{opnd:FR Ex}(hop:CR 218 b tv l opnd)(n:Nat):CR 178 b tv l (BF l sumL n opnd):=by
 show CR 178 b tv l (BF l [[43],[45]] n opnd);intro w st r h ho;have hb:=h.lt;unfold BF at ho;obtain⟨⟨x,st1⟩,hx,ho⟩:=Option.bind_eq_some_iff.1 ho;simp only at ho;have gz:w.grownBy (w.alloc (.cells zeroE.toArray 27 (0,0))) (some b):=Ad (Ac _ _) _;have hz:=Blk.new w zeroE 27;have h0:=h.alloc (.cells zeroE.toArray 27 (0,0));have hw0:w.heap.size<(w.alloc (.cells zeroE.toArray 27 (0,0))).heap.size:=by simp
 have HX:=O (hop _ _ _ h0 hx);have H:=O (Z hop (Z ho (Z hz (Z gz hw0))));clear hop ho hx hz gz h0 hw0;go_enter func178,ntmps178;go_wp2_with fail;refine HX.out.mono ?_;rintro e w1 ⟨g1,v,rfl,⟨pa,pc,la,lc,rfl,rp,rl⟩,h1⟩;simp only at rp rl h1 ⊢;have hK:=KpR.new hb H.out.2.2.1 H.out.2.2.2.1 H.out.2.2.2.2 g1 rp rl h1;have hb1:=h1.lt;have HS:=O (Dr hK.rr [[43],[45]] (by decide) (by decide) (w1.heap.size+1) (by simp) 2 rfl);have HK:=O hK;clear rp rl h1 HX g1 hK;go_wp2_with fail;refine HS.out.mono ?_;rintro e w2 ⟨g2,v,rfl,rfl,h2⟩;have HK2:=O ((HK.out.gbN hb (World.grownBy_alloc _ _ none)).gb hb g2 h2);clear HS HK g2 h2;go_wp2_with fail;go_loopg [4] n (fun m v4 wr=>∃x pa pc la lc st,v4=str (Au l [[43],[45]] st)∧KpR b tv l w w1.heap.size wr x pa pc la lc (A7 l [[43],[45]] st).2∧BE l [[43],[45]] opnd m x st=some r)
 case atStart=>exact⟨x,pa,pc,la,lc,st1,rfl,HK2.out,H.out.2.1⟩
 case round=>
  obtain⟨x,pa,pc,la,lc,st2,rfl,hk,hloop⟩:=hrel;clear HK2;cases gk with
  |zero=>cases hloop
  |succ m=>
  rw[BE]at hloop;generalize hso:Au l [[43],[45]] st2=o at*;by_cases he:o=[]
  ·subst he;have HQ:=O (show some (x,(A7 l [[43],[45]] st2).2)=some r from hloop);have hL:=hk.blk;have hZ:=hk.zero;have hwL:=hk.wL;have HK2:=O hk;clear hk hloop;obtain⟨cl_0,cl_1,cl_2,cl_3,cl_4,cl_5,cl_6,cl_f⟩:=(hL).c7;obtain⟨cz_0,cz_1,cz_2,cz_3,cz_4,cz_5,cz_6,cz_f⟩:=(hZ).c7;go_wp2;have hk:=HK2.out;have g7:=Ag wr w.heap.size (.int .i64 x.h.op) (str x.h.s) (.int .i64 x.h.vk) (.int .i64 x.h.vn) (str x.h.vs) (.slice pa x.h.p.length pc) (.slice la x.kids.len lc);have e1:=HQ.out;cases e1;exact bodyPost_ret (Ai rfl _ (hZ.set7 _ _ _ _ _ _ _) rfl) rfl (Bf hb hk.gr hk.ve (by intro k hk;exact hk.1) hk.rr g7)
  ·have hs0:(o==[])=false:=by simpa using he
   have hs2:o.isEmpty=false:=by simpa using he
   rw[hs2]at hloop;have hq:(opnd (A7 l [[43],[45]] st2).2).bind (fun r=>BE l [[43],[45]] opnd m (Aw o x r.1) r.2)=some r:=hloop;obtain⟨⟨z,st3⟩,hy,hq⟩:=Option.bind_eq_some_iff.1 hq;simp only at hq;have HQ:=O hq;have HY:=O hy;have hL:=hk.blk;have hwL:=hk.wL;have hbL:=hk.bL;have HK2:=O hk;clear hloop hk hq hy hs2 he hso;obtain⟨cl_0,cl_1,cl_2,cl_3,cl_4,cl_5,cl_6,cl_f⟩:=(hL).c7;have hLb:=hL.lt;go_wp2_with fail;go_region_with(first| (go_at_call 218;refine(H.out.1 _ _ _ (HK2.out.rr.drewN 1) HY.out).mono ?_;rintro e w4 ⟨g4,v,rfl,hv,h4⟩;have hk4:=HK2.out.gb hb (Aa (Am (Ac wr (some b))) g4) h4;have hL4:=hk4.blk;obtain⟨dl_0,dl_1,dl_2,dl_3,dl_4,dl_5,dl_6,dl_f⟩:=(hL4).c7;have hok:∀q,w4.heap.size≤q→but w w1.heap.size q:=(fun q hq=>by have:=hL4.lt;exact⟨by omega,by omega⟩);have hz:VE (but w w1.heap.size) w4 v z:=hv.mono (fun q hq _=>by have hq:wr.heap.size≤q:=hq;exact⟨by omega,by omega⟩);have HZ4:=O (Z hk4 (Z hok hz));clear hk4 hok hz hv h4)| (go_at_call 89;refine(Dn o x z _ _ HZ4.out.2.1 HZ4.out.1.ve HZ4.out.2.2).mono ?_;rintro e w5 ⟨u,rfl,hu,g5⟩;obtain⟨ua,uc,va,vc,rfl,ru,rv⟩:=hu;have hL5:=hL4.gb g5 (by simp);obtain⟨el_0,el_1,el_2,el_3,el_4,el_5,el_6,el_f⟩:=(hL5).c7;have HU:=O (Z g5 (Z ru rv));clear g5 ru rv));all_goals
    have hK7:=(HZ4.out.1.gbN hb HU.out.1).store (z:=Aw o x z) hb HU.out.2.1 HU.out.2.2;simp only[set7]at hK7;clear cl_0 cl_1 cl_2 cl_3 cl_4 cl_5 cl_6 cl_f dl_0 dl_1 dl_2 dl_3 dl_4 dl_5 dl_6 dl_f el_0 el_1 el_2 el_3 el_4 el_5 el_6 el_f hL4 hL5 hL;generalize hbe:Aw o x z=bz at*;generalize(((((((w5.setCell {block:=w1.heap.size,off:=0} (.int .i64 bz.h.op)).setCell {block:=w1.heap.size,off:=1} (.string {data:=List.toArray bz.h.s})).setCell {block:=w1.heap.size,off:=2} (.int .i64 bz.h.vk)).setCell {block:=w1.heap.size,off:=3} (.int .i64 bz.h.vn)).setCell {block:=w1.heap.size,off:=4} (.string {data:=List.toArray bz.h.vs})).setCell {block:=w1.heap.size,off:=5} (.slice ua bz.h.p.length uc)).setCell {block:=w1.heap.size,off:=6} (.slice va bz.kids.len vc))=W at*;have HS:=O (Dr hK7.rr [[43],[45]] (by decide) (by decide) W.heap.size rfl 2 rfl);have HK7:=O hK7;have hbW:=hK7.rr.lt;clear hK7;go_wp2_with fail;refine HS.out.mono ?_;rintro e w8 ⟨g8,v,rfl,rfl,h8⟩;have HK8:=O ((HK7.out.gbN hb (World.grownBy_alloc _ _ none)).gb hb g8 h8);clear HS HK7 g8 h8;go_wp2_with fail;go_roundg m
    case measure=>omega
    case rel=>exact⟨bz,ua,uc,va,vc,st3,rfl,HK8.out,HQ.out⟩
theorem OQ{opnd:FR Ex}(hop:CR 250 b tv l opnd)(n:Nat):CR 218 b tv l (BF l JQ n opnd):=by
 show CR 218 b tv l (BF l [[42],[47],[37]] n opnd);intro w st r h ho;have hb:=h.lt;unfold BF at ho;obtain⟨⟨x,st1⟩,hx,ho⟩:=Option.bind_eq_some_iff.1 ho;simp only at ho;have gz:w.grownBy (w.alloc (.cells zeroE.toArray 27 (0,0))) (some b):=Ad (Ac _ _) _;have hz:=Blk.new w zeroE 27;have h0:=h.alloc (.cells zeroE.toArray 27 (0,0));have hw0:w.heap.size<(w.alloc (.cells zeroE.toArray 27 (0,0))).heap.size:=by simp
 have HX:=O (hop _ _ _ h0 hx);have H:=O (Z hop (Z ho (Z hz (Z gz hw0))));clear hop ho hx hz gz h0 hw0;go_enter func218,ntmps218;go_wp2_with fail;refine HX.out.mono ?_;rintro e w1 ⟨g1,v,rfl,⟨pa,pc,la,lc,rfl,rp,rl⟩,h1⟩;simp only at rp rl h1 ⊢;have hK:=KpR.new hb H.out.2.2.1 H.out.2.2.2.1 H.out.2.2.2.2 g1 rp rl h1;have hb1:=h1.lt;have HS:=O (Dr hK.rr [[42],[47],[37]] (by decide) (by decide) (w1.heap.size+1) (by simp) 3 rfl);have HK:=O hK;clear rp rl h1 HX g1 hK;go_wp2_with fail;refine HS.out.mono ?_;rintro e w2 ⟨g2,v,rfl,rfl,h2⟩;have HK2:=O ((HK.out.gbN hb (World.grownBy_alloc _ _ none)).gb hb g2 h2);clear HS HK g2 h2;go_wp2_with fail;go_loopg [4] n (fun m v4 wr=>∃x pa pc la lc st,v4=str (Au l [[42],[47],[37]] st)∧KpR b tv l w w1.heap.size wr x pa pc la lc (A7 l [[42],[47],[37]] st).2∧BE l [[42],[47],[37]] opnd m x st=some r)
 case atStart=>exact⟨x,pa,pc,la,lc,st1,rfl,HK2.out,H.out.2.1⟩
 case round=>
  obtain⟨x,pa,pc,la,lc,st2,rfl,hk,hloop⟩:=hrel;clear HK2;cases gk with
  |zero=>cases hloop
  |succ m=>
  rw[BE]at hloop;generalize hso:Au l [[42],[47],[37]] st2=o at*;by_cases he:o=[]
  ·subst he;have HQ:=O (show some (x,(A7 l [[42],[47],[37]] st2).2)=some r from hloop);have hL:=hk.blk;have hZ:=hk.zero;have hwL:=hk.wL;have HK2:=O hk;clear hk hloop;obtain⟨cl_0,cl_1,cl_2,cl_3,cl_4,cl_5,cl_6,cl_f⟩:=(hL).c7;obtain⟨cz_0,cz_1,cz_2,cz_3,cz_4,cz_5,cz_6,cz_f⟩:=(hZ).c7;go_wp2;have hk:=HK2.out;have g7:=Ag wr w.heap.size (.int .i64 x.h.op) (str x.h.s) (.int .i64 x.h.vk) (.int .i64 x.h.vn) (str x.h.vs) (.slice pa x.h.p.length pc) (.slice la x.kids.len lc);have e1:=HQ.out;cases e1;exact bodyPost_ret (Ai rfl _ (hZ.set7 _ _ _ _ _ _ _) rfl) rfl (Bf hb hk.gr hk.ve (by intro k hk;exact hk.1) hk.rr g7)
  ·have hs0:(o==[])=false:=by simpa using he
   have hs2:o.isEmpty=false:=by simpa using he
   rw[hs2]at hloop;have hq:(opnd (A7 l [[42],[47],[37]] st2).2).bind (fun r=>BE l [[42],[47],[37]] opnd m (Aw o x r.1) r.2)=some r:=hloop;obtain⟨⟨z,st3⟩,hy,hq⟩:=Option.bind_eq_some_iff.1 hq;simp only at hq;have HQ:=O hq;have HY:=O hy;have hL:=hk.blk;have hwL:=hk.wL;have hbL:=hk.bL;have HK2:=O hk;clear hloop hk hq hy hs2 he hso;obtain⟨cl_0,cl_1,cl_2,cl_3,cl_4,cl_5,cl_6,cl_f⟩:=(hL).c7;have hLb:=hL.lt;go_wp2_with fail;go_region_with(first| (go_at_call 250;refine(H.out.1 _ _ _ (HK2.out.rr.drewN 1) HY.out).mono ?_;rintro e w4 ⟨g4,v,rfl,hv,h4⟩;have hk4:=HK2.out.gb hb (Aa (Am (Ac wr (some b))) g4) h4;have hL4:=hk4.blk;obtain⟨dl_0,dl_1,dl_2,dl_3,dl_4,dl_5,dl_6,dl_f⟩:=(hL4).c7;have hok:∀q,w4.heap.size≤q→but w w1.heap.size q:=(fun q hq=>by have:=hL4.lt;exact⟨by omega,by omega⟩);have hz:VE (but w w1.heap.size) w4 v z:=hv.mono (fun q hq _=>by have hq:wr.heap.size≤q:=hq;exact⟨by omega,by omega⟩);have HZ4:=O (Z hk4 (Z hok hz));clear hk4 hok hz hv h4)| (go_at_call 89;refine(Dn o x z _ _ HZ4.out.2.1 HZ4.out.1.ve HZ4.out.2.2).mono ?_;rintro e w5 ⟨u,rfl,hu,g5⟩;obtain⟨ua,uc,va,vc,rfl,ru,rv⟩:=hu;have hL5:=hL4.gb g5 (by simp);obtain⟨el_0,el_1,el_2,el_3,el_4,el_5,el_6,el_f⟩:=(hL5).c7;have HU:=O (Z g5 (Z ru rv));clear g5 ru rv));all_goals
    have hK7:=(HZ4.out.1.gbN hb HU.out.1).store (z:=Aw o x z) hb HU.out.2.1 HU.out.2.2;simp only[set7]at hK7;clear cl_0 cl_1 cl_2 cl_3 cl_4 cl_5 cl_6 cl_f dl_0 dl_1 dl_2 dl_3 dl_4 dl_5 dl_6 dl_f el_0 el_1 el_2 el_3 el_4 el_5 el_6 el_f hL4 hL5 hL;generalize hbe:Aw o x z=bz at*;generalize(((((((w5.setCell {block:=w1.heap.size,off:=0} (.int .i64 bz.h.op)).setCell {block:=w1.heap.size,off:=1} (.string {data:=List.toArray bz.h.s})).setCell {block:=w1.heap.size,off:=2} (.int .i64 bz.h.vk)).setCell {block:=w1.heap.size,off:=3} (.int .i64 bz.h.vn)).setCell {block:=w1.heap.size,off:=4} (.string {data:=List.toArray bz.h.vs})).setCell {block:=w1.heap.size,off:=5} (.slice ua bz.h.p.length uc)).setCell {block:=w1.heap.size,off:=6} (.slice va bz.kids.len vc))=W at*;have HS:=O (Dr hK7.rr [[42],[47],[37]] (by decide) (by decide) W.heap.size rfl 3 rfl);have HK7:=O hK7;have hbW:=hK7.rr.lt;clear hK7;go_wp2_with fail;refine HS.out.mono ?_;rintro e w8 ⟨g8,v,rfl,rfl,h8⟩;have HK8:=O ((HK7.out.gbN hb (World.grownBy_alloc _ _ none)).gb hb g8 h8);clear HS HK7 g8 h8;go_wp2_with fail;go_roundg m
    case measure=>omega
    case rel=>exact⟨bz,ua,uc,va,vc,st3,rfl,HK8.out,HQ.out⟩
end
end Go.Proofs.YtgjdhajcnechdaaGreatDoor
