/-
  Contracts of the parser's smallest functions: ahead, isSign, sign, want, end, fail. Contracts: lex.IsName, syntax.isName, the parser's name.
-/
import Derived.Test.YtahbajmkhjngiaaGreatDoorSx04
import Derived.Test.YtahbajmkhjngiaaGreatDoorProg
import Derived.Test.YtahbajmkhjngiaaGreatDoorPlain
set_option linter.all false
set_option maxRecDepth 100000
set_option maxHeartbeats 8000000
namespace Go.Proofs.YtahbajmkhjngiaaGreatDoor
open Go.Proofs.Tryz
open Go.RowKit
@[go_sem] theorem field_tok0 (x y z:Value) (w:World):(Instr.field 233 (.agg #[x,y,z]) 0).run Tryz.prog w= .ok x w:=by kernel_rfl
@[go_sem] theorem field_tok2 (x y z:Value) (w:World):(Instr.field 233 (.agg #[x,y,z]) 2).run Tryz.prog w= .ok z w:=by kernel_rfl
theorem gbB{w w':World}(h:Below w.heap.size w w')(r:Option Nat):w.grownBy w' r:=⟨h.os,h.tape,h.output,h.size,fun k hk _=>h.block k hk⟩
theorem C0(l cs:List UInt8):(Lib.trimS l cs==[])=l.all (cs.contains ·):=by
 have h1:∀l:List UInt8,(l.dropWhile (cs.contains ·)==[])=l.all (cs.contains ·):=by
  intro l;induction l with
  |nil=>rfl
  | cons a t ih=>
    simp only[List.dropWhile_cons,List.all_cons];cases cs.contains a
    ·simp
    ·simpa using ih
 have h2:∀l:List UInt8,((l.reverse.dropWhile (cs.contains ·)).reverse).all (cs.contains ·)=l.all (cs.contains ·):=by
  intro l;have:∀m:List UInt8,(m.dropWhile (cs.contains ·)).all (cs.contains ·)=m.all (cs.contains ·):=by
   intro m;induction m with
   |nil=>rfl
   | cons a t ih=>
     simp only[List.dropWhile_cons,List.all_cons];cases h:cs.contains a
     ·show(a::t).all _=_;rw[List.all_cons,h]
     ·simpa using ih
  rw[List.all_reverse,this,List.all_reverse]
 unfold Lib.trimS Lib.trimLeftS;rw[h1];exact h2 l
def nameSet:List UInt8:=[65,66,67,68,69,70,71,72,73,74,75,76,77,78,79,80,81,82,83,84,85,86,87,88,89,90,48,49,50,51,52,53,54,55,56,57,95]
theorem C9(b:UInt8):nameSet.contains b=AM b:=by
 have h:∀n:Fin 256,nameSet.contains (UInt8.ofNat n.val)=AM (UInt8.ofNat n.val):=by decide+kernel
 have:=h ⟨b.toNat,b.toNat_lt⟩;simpa using this
theorem C1(l:List UInt8):(Lib.trimS l nameSet==[])=l.all AM:=by
 rw[C0];congr 1;funext b;exact C9 b
theorem Ce(c:UInt8)(t:List UInt8)(h:0<(⟨(c::t).toArray⟩:ByteArray).size):(⟨(c::t).toArray⟩:ByteArray)[0]'h=c:=rfl
theorem BP(s:Bs)(w:World)(hs:s.length≤4000000):Calls Tryz.prog 53 #[str s] w fun e w'=>e= .returned (.bool (Ay s))∧w.grownBy w' none:=by
 cases s with
 | nil=>
   go_enter func53,ntmps53;go_wp2;go_ret;exact⟨rfl,N _ _⟩
 | cons c t=>
   simp only[List.length_cons]at hs;have hg:=Ce c t;by_cases h10:t.length≤9
   ·by_cases hd:48≤c.toNat∧c.toNat≤57
    ·have hm:Ay (c::t)=false:=by simp[Ay,UInt8.le_iff_toNat_le,hd]
     rw[hm];clear hm;obtain⟨hd1,hd2⟩:=hd;go_enter func53,ntmps53;go_wp2;go_ret;exact⟨rfl,N _ _⟩
    ·have hm : Ay (c :: t) = (c :: t).all AM := by
      have e1:decide ((c::t).length≤10)=true:=by simp;omega
      have e2:(decide (48≤c)&&decide (c≤57))=false:=by
       rw[Bool.and_eq_false_iff,decide_eq_false_iff_not,decide_eq_false_iff_not,UInt8.le_iff_toNat_le,UInt8.le_iff_toNat_le];have:(48:UInt8).toNat=48:=rfl;have:(57:UInt8).toNat=57:=rfl;omega
      simp only[Ay,e1,e2];rfl
     rw[hm,←C1];clear hm;have hc:c.toNat<48∨57<c.toNat:=by omega
     rcases hc with hc|hc
     all_goals
      clear hd;go_enter func53,ntmps53;go_wp2_with fail;refine(strings_Trim ⟨(c::t).toArray⟩ ⟨nameSet.toArray⟩ _ (by simp[ByteArray.size];omega) (by decide) (ascii_of_all (by decide))).mono ?_;rintro e w1 ⟨rfl,hb⟩;have hgb:=gbB hb none;generalize hz:Lib.trimS (c::t) nameSet=z at*;have HZ:=D hz;clear hz hb;go_wp2;go_ret;refine⟨?_,hgb⟩;rw[HZ.out];cases z<;>rfl
   ·have hm:Ay (c::t)=false:=by simp[Ay];omega
    rw[hm];clear hm;go_enter func53,ntmps53;go_wp2;go_ret;exact⟨rfl,N _ _⟩
end Go.Proofs.YtahbajmkhjngiaaGreatDoor
