/-
  Code: its lines, as a text. Code: the sum of a text, on both sides.
-/
import Derived.Test.YtahbajmkhjngiaaGreatDoorSx10
import Derived.Test.YtahbajmkhjngiaaGreatDoorSx14
import Derived.Test.YtahbajmkhjngiaaGreatDoorSx18
import Derived.Test.YtahbajmkhjngiaaGreatDoorSx05
set_option linter.all false
set_option maxRecDepth 100000
set_option maxHeartbeats 8000000
namespace Go.Proofs.YtahbajmkhjngiaaGreatDoor
open Go.Proofs.Tryz
open Go.RowKit
def S{α:Type}(f:α→Bs)(l:List α):Nat→Bs
 | 0=>[]
 |k+1=>S f l k++(match l[k]? with|some x=>f x|none=>[])
theorem AH{α:Type}{f:α→Bs}{l:List α}{k:Nat}{x:α}(h:l[k]? =some x):S f l (k+1)=S f l k++f x:=by simp[S,h]
theorem AK{α:Type}(f g:α→Nat)(c:Nat)(h:∀x,f x≤c*g x)(l:List α)(k:Nat):pfx f l k≤c*pfx g l k:=by
 induction k with
 |zero=>simp[pfx]
 | succ k ih=>
   rw[pfx,pfx,Nat.mul_add];cases l[k]? with
   |none=>simpa using ih
   |some x=>have:=h x;simp only;omega
def Ab(n:Int):Bs:=32::Lib.itoa n
def Ao(c:Cd):Bs:=Lib.itoa c.op++[32]++Lib.itoa c.a++[32]++Lib.itoa c.b++[32]++qtM c.s++[10]
def Ai(u:Un):Bs:=[117,110,105,116,32]++qtM u.name
def Ac(u:Un):Bs:=Ai u++S Ab u.row u.row.length++[10]++S Ao u.code u.code.length
def Au(us:List Un):Bs:=S Ac us us.length
theorem AE(s:Bs):(qtM s).length≤3*s.length+2:=by
 have:=Bj s s.length;rw[qtM,List.length_append];simp;omega
def Ar(s:Bs):Nat→Int
 | 0=>0
 |k+1=>(Ar s k*263+(bAt s k).toNat+1)%1000033
def csM(s:Bs):Int:=Ar s s.length
theorem B0(s:Bs)(k:Nat):0≤Ar s k∧Ar s k<1000033:=by
 induction k with
 |zero=>simp[Ar]
 | succ k ih=>
   rw[Ar];exact⟨Int.emod_nonneg _ (by decide),Int.emod_lt_of_pos _ (by decide)⟩
theorem Cz(s:Bs)(hs:s.length≤100000000000)(w:World):
 Calls Tryz.prog 25 #[str s] w fun e w'=>e= .returned (.int .i64 (csM s))∧w.grownBy w' none:=by
 have hconv:=run_bytes_of_string (P:=Tryz.prog) w 9 58 5 ⟨s.toArray⟩ underlying9 underlying58 underlying5;have hsz:(⟨s.toArray⟩:ByteArray).size=s.length:=by simp[ByteArray.size]
 rw[hsz]at hconv;generalize hcap:grownCap w s.length 0 5=cap at*;have H0:=D (I (BytR.new w s cap) (Y (Ae (N w none)) (.cells (bytesRow ⟨s.toArray⟩ cap) 5 ((bytesRow ⟨s.toArray⟩ cap).size,(bytesRow ⟨s.toArray⟩ cap).size+1))));clear hsz hcap;generalize(w.drew.alloc (.cells (bytesRow ⟨s.toArray⟩ cap) 5 ((bytesRow ⟨s.toArray⟩ cap).size,(bytesRow ⟨s.toArray⟩ cap).size+1)))=W at*;go_enter func25,ntmps25;go_wp2_with fail;go_loopg [3,5,9] s.length (fun g v3 v5 v9 wr=>∃k:Nat,∃n:Int,k+g=s.length∧v9= .int .i64 k∧v3= .int .i64 n∧n=Ar s k∧W=wr)
 case atStart=>exact⟨0,_,by omega,rfl,rfl,rfl,rfl⟩
 case round=>
  obtain⟨k,n,hk,rfl,rfl,hn,rfl⟩:=hrel;clear hconv;cases gk with
  | zero=>
    have hkl:k=s.length:=by omega
    have hj1:decide (k<s.length)=false:=by simp;omega
    subst hkl;have HN:=D hn;clear hn;go_wp2;go_ret;exact⟨by rw[HN.out];rfl,H0.out.2⟩
  | succ gk=>
    have hkl:k<s.length:=by omega
    have hj1:decide (k<s.length)=true:=by simp;omega
    have ck:=H0.out.1.cell k hkl;have hlt:=H0.out.1.lt;have hb:=(bAt s k).toNat_lt;have hr:=B0 s k;rw[←hn]at hr;obtain⟨r0,r1⟩:=hr;have HN:=D (show Ar s (k+1)=(n*263+(bAt s k).toNat+1)%1000033 by rw[hn,Ar]);clear hn;go_wp2;go_roundg gk
    case measure=>omega
    case rel=>exact⟨k+1,_,by omega,by go_num,rfl,HN.out.symm,rfl⟩
theorem Cb(s:Bs)(hs:s.length≤100000000000)(w:World):
 Calls Tryz.prog 27 #[str s] w fun e w'=>e= .returned (.int .i64 (csM s))∧w=w':=by
 have hsz:(⟨s.toArray⟩:ByteArray).size=s.length:=by simp[ByteArray.size]
 go_enter func27,ntmps27;go_wp2_with fail;go_loopg [3,4] s.length (fun g v3 v4 wr=>∃k:Nat,∃n:Int,k+g=s.length∧v4= .int .i64 k∧v3= .int .i64 n∧n=Ar s k∧w=wr)
 case atStart=>exact⟨0,_,by omega,rfl,rfl,rfl,rfl⟩
 case round=>
  obtain⟨k,n,hk,rfl,rfl,hn,rfl⟩:=hrel;cases gk with
  | zero=>
    have hkl:k=s.length:=by omega
    have hj1:decide (k<s.length)=false:=by simp;omega
    subst hkl;have HN:=D hn;clear hn;go_wp2;go_ret;exact⟨by rw[HN.out];rfl,rfl⟩
  | succ gk=>
    have hkl:k<s.length:=by omega
    have hj1:decide (k<s.length)=true:=by simp;omega
    have hgk:=fun h=>Bu s k h hkl;have hb:=s[k].toNat_lt;have hr:=B0 s k;rw[←hn]at hr;obtain⟨r0,r1⟩:=hr;have HN:=D (show Ar s (k+1)=(n*263+s[k].toNat+1)%1000033 by rw[hn,Ar,Bc hkl]);clear hn;go_wp2;go_roundg gk
    case measure=>omega
    case rel=>exact⟨k+1,_,by omega,by go_num,rfl,HN.out.symm,rfl⟩
end Go.Proofs.YtahbajmkhjngiaaGreatDoor
