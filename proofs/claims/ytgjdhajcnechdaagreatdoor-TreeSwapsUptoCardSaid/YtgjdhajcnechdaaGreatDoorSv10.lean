/-
  The reference's reader: end, name, sign, names. The reference's in; an append of a row of texts. Dates: Unstamp. Plain laws: each expression that is right is written, and read from what is written.
-/
import Derived.Test.YtgjdhajcnechdaaGreatDoorSv06
import Derived.Test.YtgjdhajcnechdaaGreatDoorSv09
import Derived.Test.YtgjdhajcnechdaaGreatDoorSv02
import Derived.Laws.AppendOwn
import Derived.Laws.OwnMore
import Derived.Test.YtgjdhajcnechdaaGreatDoorSv05
set_option linter.all false
set_option maxRecDepth 100000
set_option maxHeartbeats 8000000
namespace Go.Proofs.YtgjdhajcnechdaaGreatDoor
open Go.Proofs.Tryz
open Go.RowKit
section
variable {w:World}{b:Nat}{tv:Value}{l:List Tok}{st:RS}
theorem DW(h:Rr w b tv l st):
 Calls Tryz.prog 323 #[.pointer (some ⟨b,0,none⟩)] w (B5 b tv l w VStr (A1 l st)):=by
 have HT:=O (DG h);have hf:=h.few;have hb:=h.lt;cases hn:Dj l st with
 | true=>
   obtain⟨i,f⟩:=st;simp only[Dj,Bool.and_eq_true,Bool.not_eq_true',beq_iff_eq,decide_eq_true_eq]at hn;obtain⟨rfl,hk,hl⟩:=hn;have hi:=KH hk (by decide);have HQ:=O (show A1 l (i,false)=((Ab l i).text,(i+1,false))by simp[A1,Dj,hk,hl]);have hl1:decide ((10:Int)<(Ab l i).text.length)=false:=by simp;omega
   have HK:=O hk;clear hk;simp only at HT;generalize Ab l i=t at*;go_enter func323,ntmps323;go_wp2_with fail;refine HT.out.mono ?_;rintro e w1 ⟨rfl,g1⟩;rw[AY,HK.out];have h1:=h.gbN g1;have c1:=h1.c1;have c2:=h1.c2;have f1:=h1.fr 1;simp only at c1 c2;have hb1:=h1.lt;go_wp2;go_ret;refine⟨(by repeat(first| (with_reducible exact Ac _ _)| (with_reducible assumption)| (with_reducible exact AU (by assumption))| (with_reducible refine Ad ?_ _)| (with_reducible refine Am ?_)| (with_reducible refine A3 ?_ _)| ((with_reducible refine Ay ?_ _ _ ?h2);case h2=>first|exact .inl rfl|exact .inr (Nat.le_refl _)|exact .inr (by simp<;>omega))| (with_reducible refine Ah ?_ (by assumption))| (with_reducible refine Aa ?_ (by assumption)))),_,rfl,by rw[HQ.out];rfl,?_⟩;rw[HQ.out];exact(h1.go _ (i+1) rfl (by omega)).alloc _
 | false=>
   have HQ:=O (show A1 l st=([],(st.1,true))by unfold A1;rw[hn];rfl);obtain⟨i,f⟩:=st;have hc:f=true∨(f=false∧(Ab l i).kind≠0)∨(f=false∧(Ab l i).kind=0∧10<(Ab l i).text.length):=by
    cases f with
    |true=>exact .inl rfl
    | false=>
      by_cases hk:(Ab l i).kind=0
      ·right;right;refine⟨rfl,hk,?_⟩;simp[Dj,hk]at hn;omega
      ·exact .inr (.inl ⟨rfl,hk⟩)
   clear hn;simp only at HT HQ;generalize Ab l i=t at*;rcases hc with rfl| ⟨rfl,hk⟩| ⟨rfl,hk,hl⟩
   ·go_enter func323,ntmps323;go_wp2_with fail;refine HT.out.mono ?_;rintro e w1 ⟨rfl,g1⟩;have h1:=h.gbN g1;have c2:=h1.c2;simp only at c2;have HA:=O (h1.alloc (.cells #[.int .i64 t.kind,.int .i64 t.pos,str t.text] 105 (0,0)));have HG:=O (Ad (AU g1) (.cells #[.int .i64 t.kind,.int .i64 t.pos,str t.text] 105 (0,0)):World.grownBy w _ (some b));have hb1:=h1.lt;go_wp2_with fail;refine(DY HA.out).mono ?_;rintro e w2 ⟨g2,v,rfl,rfl,h2⟩;go_wp2;go_ret;exact⟨Aa HG.out g2,_,rfl,by rw[HQ.out];rfl,by rw[HQ.out];exact h2⟩
   ·have hk':(t.kind==0)=false:=by simpa using hk
    have hk2:(t.kind !=0)=true:=by simpa using hk
    clear hk;go_enter func323,ntmps323;go_wp2_with fail;refine HT.out.mono ?_;rintro e w1 ⟨rfl,g1⟩;have h1:=h.gbN g1;have c2:=h1.c2;simp only at c2;have HA:=O (h1.alloc (.cells #[.int .i64 t.kind,.int .i64 t.pos,str t.text] 105 (0,0)));have HG:=O (Ad (AU g1) (.cells #[.int .i64 t.kind,.int .i64 t.pos,str t.text] 105 (0,0)):World.grownBy w _ (some b));have hb1:=h1.lt;go_wp2_with fail;refine(DY HA.out).mono ?_;rintro e w2 ⟨g2,v,rfl,rfl,h2⟩;go_wp2;go_ret;exact⟨Aa HG.out g2,_,rfl,by rw[HQ.out];rfl,by rw[HQ.out];exact h2⟩
   ·have hl1:decide ((10:Int)<t.text.length)=true:=by simp;omega
    have HK:=O hk;clear hk;go_enter func323,ntmps323;go_wp2_with fail;refine HT.out.mono ?_;rintro e w1 ⟨rfl,g1⟩;rw[AY,HK.out];have h1:=h.gbN g1;have c2:=h1.c2;simp only at c2;have HA:=O (h1.alloc (.cells #[.int .i64 0,.int .i64 t.pos,str t.text] 105 (0,0)));have HG:=O (Ad (AU g1) (.cells #[.int .i64 0,.int .i64 t.pos,str t.text] 105 (0,0)):World.grownBy w _ (some b));have hb1:=h1.lt;go_wp2_with fail;refine(DY HA.out).mono ?_;rintro e w2 ⟨g2,v,rfl,rfl,h2⟩;go_wp2;go_ret;exact⟨Aa HG.out g2,_,rfl,by rw[HQ.out];rfl,by rw[HQ.out];exact h2⟩
theorem Ly{L:List Bs}(h:∀k,(hk:k<L.length)→A2 l L[k] st=false):Au l L st=[]:=by
 unfold Au;split
 ·rfl
 ·rename_i hs;have:L.find? (Ae (Ab l st.1))=none:=by
   rw[List.find?_eq_none];intro x hx;obtain⟨k,hk,rfl⟩:=List.mem_iff_getElem.1 hx;have:=h k hk;simpa[A2,hs]using this
  rw[this];rfl
theorem Lz{L:List Bs}{k:Nat}(hk:k<L.length)(h:∀j,(hj:j<k)→A2 l (L[j]'(by omega)) st=false)(hx:A2 l L[k] st=true):Au l L st=L[k]:=by
 simp only[A2,Bool.and_eq_true,Bool.not_eq_true']at hx;unfold Au;rw[if_neg (by rw[hx.1];simp)];have:L.find? (Ae (Ab l st.1))=some L[k]:=by
  rw[List.find?_eq_some_iff_getElem];exact⟨hx.2,k,hk,rfl,fun j hj=>by have:=h j hj;simpa[A2,hx.1]using this⟩
 rw[this];rfl
theorem OS(h:Rr w b tv l st){L:List Bs}{la:Option Addr}{lc:Nat}{ok:Nat→Prop}(hL:Cells w (.slice la L.length lc) 1 L.length (L.map str) ok)(hok:∀k,ok k→k≠b)(hne:∀s∈L,s≠[])(hl:L.length≤100):
 Calls Tryz.prog 177 #[.pointer (some ⟨b,0,none⟩),.slice la L.length lc] w (B5 b tv l w VStr (A7 l L st)):=by
 obtain⟨_,_,e,_,_,_,hc⟩:=hL;cases e;have HC:=O hc;clear hc;go_enter func177,ntmps177;go_wp2_with fail;go_loopg [5] L.length (fun g v5 wr=>∃k:Nat,k+g=L.length∧v5= .int .i64 k∧Rr wr b tv l st∧w.grownBy wr (some b)∧∀j,(hj:j<k)→(hjl:j<L.length)→A2 l L[j] st=false)
 case atStart=>exact⟨0,by omega,rfl,h,Ac _ _,fun j hj=>by omega⟩
 case round=>
  obtain⟨k,hk,rfl,hr,gr,hno⟩:=hrel;cases gk with
  | zero=>
    have hkl:k=L.length:=by omega
    have hj1:decide (k<L.length)=false:=by simp;omega
    have HQ:=O (Ly (l:=l) (st:=st) (fun j hj=>hno j (by omega) hj));clear hno;go_wp2;go_ret;refine⟨gr,_,rfl,by simp only[A7,HQ.out];rfl,?_⟩;simp only[A7,HQ.out,CH];exact hr
  | succ gk=>
    have hkl:k<L.length:=by omega
    have hj1:decide (k<L.length)=true:=by simpa using hkl
    obtain⟨g,o,rfl,ho,hc⟩:=HC.out k (str L[k]) (by simp[hkl]);have hcr:=Bu gr hc (by have:=hok g ho;simp;omega);have HT:=O (BX hr L[k]);have HN:=O hno;have HM:=O (hne L[k] (List.getElem_mem hkl));clear hno;have hlt:=gr.size;have hg:=hok g ho;have hgl:=World.block_lt_of_cell? w _ hc;simp only at hgl;cases hh:A2 l L[k] st with
    | true=>
      have HQ:=O (Lz hkl (fun j hj=>HN.out j hj (by omega)) hh);rw[hh]at HT;have HT2:=O (show Aj l L[k] st=(st.1+1,st.2)by unfold Aj;rw[if_pos hh]);clear hh;generalize L[k]=x at*;go_wp2_with fail;refine HT.out.mono ?_;rintro e w1 ⟨g1,v,rfl,rfl,h1⟩;have hc1:=Bu g1 hcr (by simp;omega);have HR:=O (Z g1 h1);clear g1 h1;go_wp2;go_ret;refine⟨Aa gr HR.out.1,_,rfl,by simp only[A7,HQ.out];rfl,?_⟩;simp only[A7,HQ.out,CV HM.out];rw[←HT2.out];exact HR.out.2
    | false=>
      have HN2:=O (show ∀j,(hj:j<k+1)→(hjl:j<L.length)→A2 l L[j] st=false from fun j hj hjl=>by
       by_cases e:j=k
       ·subst e;exact hh
       ·exact HN.out j (by omega) hjl)
      rw[hh]at HT;have HT2:=O (show Aj l L[k] st=st by unfold Aj;rw[if_neg (by rw[hh];simp)]);clear hh;generalize L[k]=x at*;go_wp2_with fail;refine HT.out.mono ?_;rintro e w1 ⟨g1,v,rfl,rfl,h1⟩;have HR:=O (Z g1 h1);clear g1 h1;go_wp2;go_roundg gk
      case measure=>omega
      case rel=>exact⟨k+1,by omega,by go_num,HT2.out ▸ HR.out.2,Aa gr HR.out.1,HN2.out⟩
end
theorem Me{α:Type}{L r:List α}{i:Nat}{c:α}(h:L.drop i=c::r):L[i]? =some c∧L.drop (i+1)=r∧i<L.length:=by
 have h1:(L.drop i)[0]? =some c:=by rw[h];rfl
 have h2:(L.drop i).drop 1=r:=by rw[h];rfl
 have h3:L[i]? =some c:=by simpa using h1
 exact⟨h3,by simpa[List.drop_drop]using h2,(List.getElem?_eq_some_iff.1 h3).1⟩
theorem Jb{w:World}{wv:Value}{L:List Bs}{ok:Nat→Prop}(h:SRow w wv L ok)(s:Bs):
 Calls Tryz.prog 56 #[wv,str s] w fun e w'=>e= .returned (.bool (L.contains s))∧w.grownBy w' none:=by
 obtain⟨a,cap,rfl,hle,hmx,hat⟩:=h;have HA:=O hat;have hmax:L.length≤maxLen:=by omega
 unfold maxLen at hmax;clear hat hle hmx;generalize hT:L.contains s=T;go_enter func56,ntmps56;go_wp2_with fail;go_loopg [5] L.length (fun g v5 wr=>∃i:Nat,∃r:List Bs,i+g=L.length∧v5= .int .i64 i∧L.drop i=r∧r.contains s=T∧w.grownBy wr none)
 case atStart=>exact⟨0,L,by omega,rfl,rfl,hT,Ac _ _⟩
 case round=>
  obtain⟨i,r,hg,rfl,hd,hc,hgr⟩:=hrel;clear hT;cases r with
  | nil=>
    have hi:L.length≤i:=by simpa using List.drop_eq_nil_iff.1 hd
    have hi1:decide (i<L.length)=false:=by simp;omega
    have HF:=O (show T=false by rw[←hc];rfl);clear hd hc;go_wp2;go_ret;exact⟨by rw[HF.out];rfl,hgr⟩
  | cons c r=>
    obtain⟨h1,h2,hi⟩:=Me hd;have hi1:decide (i<L.length)=true:=by simpa using hi
    obtain⟨lb,lo,rfl,_,c0⟩:=HA.out i hi;have c1:=Af hgr c0;have e:L.getD i []=c:=by simp[List.getD_eq_getElem?_getD,h1]
    rw[e]at c1;have i0:(0:Int)≤(i:Int):=by omega
    have i2:(i:Int)<(L.length:Int):=by omega
    clear c0 h1 hd e;by_cases hs:c=s
    ·have HF:=O (show T=true by rw[←hc,hs];simp);have hb:(c==s)=true:=by simpa using hs
     clear hc;go_wp2;go_ret;exact⟨by rw[HF.out];rfl,hgr⟩
    ·have HF:=O (show r.contains s=T by rw[←hc,List.contains_cons];simp[show(s==c)=false by simpa using fun e=>hs e.symm]);have hb:(c==s)=false:=by simpa using hs
     have HG:=O hgr;clear hc hgr;go_wp2;go_roundg (L.length-(i+1))
     case measure=>omega
     case rel=>exact⟨i+1,r,by omega,by go_num,h2,HF.out,HG.out⟩
theorem SRow.of_cells{w:World}{v:Value}{l:List Bs}{ok:Nat→Prop}(h:Cells w v 1 l.length (l.map str) ok):SRow w v l ok:=by
 obtain⟨a,cap,e,h1,h2,_,h4⟩:=h;refine⟨a,cap,e,h1,h2,fun j hj=>?_⟩;obtain⟨g,o,ea,ho,hc⟩:=h4 j (str l[j]) (by simp[List.getElem?_map,List.getElem?_eq_getElem hj]);refine⟨g,o,ea,ho,?_⟩;rw[hc];simp[List.getD_eq_getElem?_getD,List.getElem?_eq_getElem hj,str]
section
variable {P:Program}{w:World}
theorem JS(base:Nat)(t ty e:TypeId)(i:TypeInfo)(size:Nat)(ht:P.underlying t=some (.slice e))(hi:P.info? e=some i)
 (v:Value) (n c:Nat) (xs:List Value) (hown:w.ownsRow base e size v n xs):
 (Builtin.append_ #[t,t] ty #[v,.slice none 0 c]).run P w= .ok v w:=by
 rcases hown.2 with⟨rfl,rfl⟩| ⟨g,cap,cur,rfl,_,_,hnc,_⟩
 ·simp[Builtin.append_,run_underlying ht,sizeOf,typeInfo,hi,Builtin.lenOf,Builtin.firstCells]
 ·simp[Builtin.append_,run_underlying ht,sizeOf,typeInfo,hi,Builtin.lenOf,Builtin.firstCells,hnc,storeCells]
theorem Ke{o:Oper}{a:Act}{K:Act→World→Prop}{Q:Exit→Act→World→Prop}(s x:Operand)(t:TypeId)
 (ho:o.op= .call {callee:= .builtin .append,args:=#[s,x],argTypes:=#[t,t]})
 (base:Nat) (e:TypeId) (i:TypeInfo) (z:Value) (size bytes:Nat) (ht:P.underlying t=some (.slice e)) (hi:P.info? e=some i) (hz:i.zero=some z)
 (hsize:i.size=size) (hby:i.bytes=bytes) (hzs:z.cells.size=size) (hsz:0<size)
 (v:Value) (n:Nat) (xs:List Value) (hs:a.eval s=v) (hown:w.ownsRow base e size v n xs)
 (sv:Value) (m:Nat) (news:List Value) (ok:Nat→Prop) (hx:a.eval x=sv) (hc:Cells w sv size m news ok) (h1:∀u∈news,u.oneCell'=true)
 (h63:n+m≤maxLen) (hbytes:(n+m)*bytes≤140737488355328) (hbase:base≤w.heap.size)
 (h:∀v' w',w'.ownsRow base e size v' (n+m) (xs++news)→w.grownBy w' v.ownBlock→K (a.put o.dst v') w'):o.wp P a w K Q:=by
 obtain⟨ad,c,rfl,hle,hmx,hl,hat⟩:=hc;cases ad with
 | some ad=>
   exact wp_append_own w s x t ho base e i z size bytes ht hi hz hsize hby hzs hsz v n xs hs hown ad m c news hx hl (fun j u hj=>by
    obtain⟨g,o,ea,_,hcc⟩:=hat j u hj;cases ea;show w.cell? (Addr.add _ j)=some u;unfold Addr.add;split
    ·rename_i h0;have h0:j=0:=by simpa using h0
     subst h0;simpa using hcc
    ·exact hcc) h1 h63 hbytes hbase fun v' w' h2 h3 _=>h v' w' h2 h3
 | none=>
   have hn:news=[]:=by
    cases news with
    |nil=>rfl
    | cons u r=>
      obtain⟨g,o,ea,_⟩:=hat 0 u rfl;cases ea
   subst hn;have hm:m=0:=by
    rcases Nat.eq_zero_or_pos m with h0|h0
    ·exact h0
    ·have:=Nat.mul_pos h0 hsz;simp at hl;omega
   subst hm;have hrun:=JS (P:=P) (w:=w) base t o.type e i size ht hi v n c xs hown;unfold Oper.wp execOp;simp only[ho,resolve,invoke,builtin,Sem.run_bind,Sem.run_pure,Result.andThen_ok,List.map_toArray,List.map_cons,List.map_nil,hs,hx,hrun];exact h v w (by simpa using hown) (AU (Ac w none))
theorem GY{ops:Array Oper}{rest:List Oper}{o:Oper}{a:Act}{Q:Exit→Act→World→Prop}(hgd:o.guard=none)(s x:Operand)(t:TypeId)
 (ho:o.op= .call {callee:= .builtin .append,args:=#[s,x],argTypes:=#[t,t]})
 (base:Nat) (e:TypeId) (i:TypeInfo) (z:Value) (size bytes:Nat) (ht:P.underlying t=some (.slice e)) (hi:P.info? e=some i) (hz:i.zero=some z)
 (hsize:i.size=size) (hby:i.bytes=bytes) (hzs:z.cells.size=size) (hsz:0<size)
 (v:Value) (n:Nat) (xs:List Value) (hs:a.eval s=v) (hown:w.ownsRow base e size v n xs)
 (sv:Value) (m:Nat) (news:List Value) (ok:Nat→Prop) (hx:a.eval x=sv) (hc:Cells w sv size m news ok) (h1:∀u∈news,u.oneCell'=true)
 (h63:n+m≤maxLen) (hbytes:(n+m)*bytes≤140737488355328) (hbase:base≤w.heap.size)
 (h:∀v' w',w'.ownsRow base e size v' (n+m) (xs++news)→w.grownBy w' v.ownBlock→wpList P ops Q rest (a.put o.dst v') w'):wpList P ops Q (o::rest) a w:=
 wpList_plain hgd fun _ hK=>Ke s x t ho base e i z size bytes ht hi hz hsize hby hzs hsz v n xs hs hown sv m news ok hx hc h1 h63 hbytes hbase fun v' w' h2 h3=>hK _ _ (h v' w' h2 h3)
end
def CT:Bs:=[32,32,32,32,32,32,32,32]
def Bj(s:Bs):Int×Bool:=
 if s=CT then(0,true)
 else if s.length≠8∨s.all AF=false then(0,false)
 else((AH (Aq (s.take 4)) (Aq ((s.drop 4).take 2)) (Aq (s.drop 6))).1,(AH (Aq (s.take 4)) (Aq ((s.drop 4).take 2)) (Aq (s.drop 6))).2==0)
def digSet:Bs:=[48,49,50,51,52,53,54,55,56,57]
theorem Ob(b:UInt8):digSet.contains b=AF b:=by
 rw[Bool.eq_iff_iff];constructor
 ·intro h;simp[digSet]at h;rcases h with h|h|h|h|h|h|h|h|h|h<;>subst h<;>decide
 ·intro h;simp[AF]at h;have:b.toNat=48∨b.toNat=49∨b.toNat=50∨b.toNat=51∨b.toNat=52∨b.toNat=53∨b.toNat=54∨b.toNat=55∨b.toNat=56∨b.toNat=57:=by omega
  rcases this with h|h|h|h|h|h|h|h|h|h<;>(have e:b=UInt8.ofNat b.toNat:=(by simp);rw[h]at e;rw[e];decide)
theorem Jn(l:List UInt8):(Lib.trimS l digSet==[])=l.all AF:=by
 rw[IN];congr 1;funext b;exact Ob b
theorem Iq(s:Bs)(hs:s.length≤1000000)(w:World):
 Calls Tryz.prog 241 #[str s] w fun e w'=>e= .returned (.tuple #[.int .i64 (Bj s).1,.bool (Bj s).2])∧w.grownBy w' none:=by
 by_cases hb:s=CT
 ·subst hb;go_enter func241,ntmps241;go_wp2;exact bodyPost_ret (v:= .tuple #[.int .i64 0,.bool true]) (by simp[results,results241,go_sem]) rfl ⟨rfl,Ac _ _⟩
 have hb':(s==[32,32,32,32,32,32,32,32])=false:=by simpa[CT]using hb
 by_cases h8:s.length=8
 ·have h8n:((s.length:Int)==8)=true:=by simp;omega
  have h8m:((s.length:Int) !=8)=false:=by simp;omega
  cases hd:s.all AF with
  | false=>
    have hm:Bj s=(0,false):=by simp only[Bj,hb,if_false,hd];simp
    rw[hm];rw[←Jn]at hd;go_enter func241,ntmps241;go_wp2_with fail;refine(strings_Trim ⟨s.toArray⟩ ⟨digSet.toArray⟩ _ (by simp[ByteArray.size];omega) (by decide) (ascii_of_all (by decide))).mono ?_;rintro e w1 ⟨rfl,hbe⟩;have hgb:=gbB hbe none;change(Lib.trimS s digSet==[])=false at hd;rw[show Lib.trimS (ByteArray.mk s.toArray).data.toList (ByteArray.mk digSet.toArray).data.toList=Lib.trimS s digSet from rfl];generalize Lib.trimS s digSet=z at*;clear hbe;go_wp2;exact bodyPost_ret (v:= .tuple #[.int .i64 0,.bool false]) (by simp[results,results241,go_sem]) rfl ⟨rfl,hgb⟩
  | true=>
    have hm:Bj s=((AH (Aq (s.take 4)) (Aq ((s.drop 4).take 2)) (Aq (s.drop 6))).1,(AH (Aq (s.take 4)) (Aq ((s.drop 4).take 2)) (Aq (s.drop 6))).2==0):=by
     simp only[Bj,hb,if_false,hd,h8];simp
    rw[hm];clear hm;obtain⟨a0,a1,a2,a3,a4,a5,a6,a7,rfl⟩:∃a0 a1 a2 a3 a4 a5 a6 a7,s=[a0,a1,a2,a3,a4,a5,a6,a7]:=by
     match s,h8 with
     | [a0,a1,a2,a3,a4,a5,a6,a7],_=>exact⟨_,_,_,_,_,_,_,_,rfl⟩
    have hd4:[a0,a1,a2,a3].all AF=true∧[a4,a5].all AF=true∧[a6,a7].all AF=true:=by
     simp at hd ⊢;simp[hd]
    have HD:=O hd4;clear hd4;rw[←Jn]at hd;go_enter func241,ntmps241;go_wp2_with fail;refine(strings_Trim ⟨[a0,a1,a2,a3,a4,a5,a6,a7].toArray⟩ ⟨digSet.toArray⟩ _ (by simp[ByteArray.size]) (by decide) (ascii_of_all (by decide))).mono ?_;rintro e w1 ⟨rfl,hbe⟩;have hgb:=gbB hbe none;change(Lib.trimS [a0,a1,a2,a3,a4,a5,a6,a7] digSet==[])=true at hd;rw[show Lib.trimS (ByteArray.mk [a0,a1,a2,a3,a4,a5,a6,a7].toArray).data.toList (ByteArray.mk digSet.toArray).data.toList=Lib.trimS [a0,a1,a2,a3,a4,a5,a6,a7] digSet from rfl];generalize Lib.trimS [a0,a1,a2,a3,a4,a5,a6,a7] digSet=z at*;clear hbe;go_wp2_with fail;have hy:=CQ _ HD.out.1 4 (by simp);have hm:=CQ _ HD.out.2.1 2 (by simp);have hd':=CQ _ HD.out.2.2 2 (by simp);simp only[List.take_succ_cons,List.take_zero,List.drop_succ_cons,List.drop_zero,List.take_nil]at*;generalize hY:Aq [a0,a1,a2,a3]=Y at*;generalize hMM:Aq [a4,a5]=M at*;generalize hDD:Aq [a6,a7]=D at*;have HN:=O (Z hY (Z hMM hDD));clear hY hMM hDD;have hx1:({data:=#[a0,a1,a2,a3,a4,a5,a6,a7]}:ByteArray).extract 0 4={data:=#[a0,a1,a2,a3]}:=rfl;have hx2:({data:=#[a0,a1,a2,a3,a4,a5,a6,a7]}:ByteArray).extract 4 6={data:=#[a4,a5]}:=rfl;have hx3:({data:=#[a0,a1,a2,a3,a4,a5,a6,a7]}:ByteArray).extract 6 8={data:=#[a6,a7]}:=rfl;have hda:=PU Y M D (by omega) (by omega) (by omega) (by omega) (by omega) (by omega)
    have hv1:∀w,Calls Tryz.prog 275 #[.string ⟨#[a0,a1,a2,a3]⟩] w fun e w'=>e= .returned (.int .i64 Y)∧w.grownBy w' none:=fun w=>by rw[←HN.out.1];exact GF [a0,a1,a2,a3] HD.out.1 (by simp) (by simp) w
    have hv2:∀w,Calls Tryz.prog 275 #[.string ⟨#[a4,a5]⟩] w fun e w'=>e= .returned (.int .i64 M)∧w.grownBy w' none:=fun w=>by rw[←HN.out.2.1];exact GF [a4,a5] HD.out.2.1 (by simp) (by simp) w
    have hv3:∀w,Calls Tryz.prog 275 #[.string ⟨#[a6,a7]⟩] w fun e w'=>e= .returned (.int .i64 D)∧w.grownBy w' none:=fun w=>by rw[←HN.out.2.2];exact GF [a6,a7] HD.out.2.2 (by simp) (by simp) w
    have HV:=O (Z hda (Z hv1 (Z hv2 hv3)));clear hda hv1 hv2 hv3;go_region_with(first| (go_at_call 274;with_reducible refine(HV.out.1 _).mono ?_;rintro e w5 ⟨rfl,g5⟩)| (with_reducible refine(HV.out.2.1 _).mono ?_;rintro e w2 ⟨rfl,g2⟩)| (with_reducible refine(HV.out.2.2.1 _).mono ?_;rintro e w3 ⟨rfl,g3⟩)| (with_reducible refine(HV.out.2.2.2 _).mono ?_;rintro e w4 ⟨rfl,g4⟩));all_goals
     go_wp2;exact bodyPost_ret (v:= .tuple #[.int .i64 (AH Y M D).1,.bool ((AH Y M D).2==0)]) (by simp[results,results241,go_sem]) rfl ⟨by rw[←HN.out.1,←HN.out.2.1,←HN.out.2.2];rfl,Aa (Aa (Aa (Aa (Am hgb) g2) g3) g4) g5⟩
 ·have hm:Bj s=(0,false):=by simp[Bj,hb,h8]
  rw[hm];have h8n:((s.length:Int)==8)=false:=by simp;omega
  have h8m:((s.length:Int) !=8)=true:=by simp;omega
  go_enter func241,ntmps241;go_wp2;exact bodyPost_ret (v:= .tuple #[.int .i64 0,.bool false]) (by simp[results,results241,go_sem]) rfl ⟨rfl,Ac _ _⟩
structure ES(d:Wd)(day:Bs→Int):Prop where
 nums:∀n:Int,0≤n→n≤999999999999999→(d.num n).length≤15∧Aq (d.num n)=n
 days:∀n:Int,0<n→n≤3652059→day (d.day n)=n
 zero:day []=0
theorem CM{h:Hd}{o:Int}(ho:h.op=o)(h1:h.vk=0∧h.vn=0∧h.vs=[])(h2:h.p=[]):h=hd0 o h.s:=by
 obtain⟨op,s,vk,vn,vs,p⟩:=h;obtain⟨h3,h4,h5⟩:=h1;simp only at ho h2 h3 h4 h5;subst ho h2 h3 h4 h5;rfl
theorem Ei{k:Fo}(h:k.len=0):k= .nil:=by
 cases k with
 |nil=>rfl
 |cons a b c=>simp[Fo.len]at h
theorem EF{k:Fo}(h:k.len=1):∃a b,k= .cons a b .nil:=by
 cases k with
 |nil=>simp[Fo.len]at h
 |cons a b c=>exact⟨a,b,by rw[Ei (k:=c) (by simpa[Fo.len]using h)]⟩
theorem Jt{k:Fo}(h:k.len=2):∃a b a' b',k= .cons a b (.cons a' b' .nil):=by
 cases k with
 |nil=>simp[Fo.len]at h
 | cons a b c=>
   obtain⟨a',b',rfl⟩:=EF (k:=c) (by simpa[Fo.len]using h);exact⟨a,b,a',b',rfl⟩
section
variable {day:Bs→Int}{d:Wd}{l:List Tok}{i n N:Nat}{E:Nat→Res Ex}
theorem Cv{s:Bs}(h:Ab l i=sg s):Ba l s i= .ok () (i+1):=by
 unfold Ba;rw[h,Bh,if_pos (by simp)]
theorem EC{s:Bs}(h:Ab l i=wd s):AZ l day E n i=BH l E n i:=by
 unfold AZ;rw[h];rfl
theorem GD(s t:Bs):Ae (wd s) t=false:=rfl
theorem Mj(hd:ES d day){h:Hd}(h0:h.op=0)(hs:h.s=[])(hp:h.p=[])(hc:AB h=true):Good day h .nil (BS d h):=by
 obtain⟨op,s,vk,vn,vs,p⟩:=h;simp only at h0 hs hp;subst h0 hs hp;unfold AB at hc;simp only at hc;have sig:∀(t:Bs)(x:Ex),(t=[46,84,46]∧x=Az 1 1 []∨t=[46,70,46]∧x=Az 1 0 []∨t=[46,78,85,76,76,46]∧x=Az 0 0 [])→∀s',Good day x.h x.kids (some ([sg t],s')):=by
  intro t x hx s';refine Good.prim (t:=[sg t]) ⟨_,_,rfl,?_⟩ ?_
  ·rcases hx with⟨rfl,_⟩| ⟨rfl,_⟩| ⟨rfl,_⟩<;>simp[sg]
  ·intro l N i _ ha _;rw[Dq ha.head];unfold Bv;rw[ha.head];simp only[Bh];rcases hx with⟨rfl,rfl⟩| ⟨rfl,rfl⟩| ⟨rfl,rfl⟩<;>rfl
 by_cases k0:vk=0
 ·subst k0;simp at hc;obtain⟨rfl,rfl⟩:=hc;exact sig _ (Az 0 0 []) (.inr (.inr ⟨rfl,rfl⟩)) _
 rw[if_neg k0]at hc;by_cases k1:vk=1
 ·subst k1;simp at hc;obtain⟨rfl|rfl,rfl⟩:=hc
  ·exact sig _ (Az 1 0 []) (.inr (.inl ⟨rfl,rfl⟩)) _
  ·exact sig _ (Az 1 1 []) (.inl ⟨rfl,rfl⟩) _
 rw[if_neg k1]at hc;by_cases k2:vk=2
 ·subst k2;simp at hc;obtain⟨⟨h1,h2⟩,rfl⟩:=hc;obtain⟨e1,e2⟩:=hd.nums vn h1 h2;have e:BS d ⟨0,[],2,vn,[],[]⟩=some ([⟨1,0,d.num vn⟩],d.num vn):=by
   unfold BS;rw[if_neg (by simp[A4];omega),if_neg (by simp),if_neg (by simp),if_pos rfl];simp only;rw[if_neg (by omega)]
  rw[e];refine Good.prim ⟨_,_,rfl,by simp⟩ ?_;intro l N i _ ha _;unfold AZ;rw[ha.head];simp only[e2];rfl
 rw[if_neg k2]at hc;by_cases k3:vk=3
 ·subst k3;simp at hc;obtain⟨⟨h1,h2⟩,rfl⟩:=hc;by_cases hz:vn=0
  ·subst hz;refine Good.prim (t:=[⟨3,0,[]⟩]) (s:=[123,125]) ⟨_,_,rfl,by simp⟩ ?_;intro l N i _ ha _;unfold AZ;rw[ha.head];simp only[hd.zero];rfl
  ·have e : BS d ⟨0, [], 3, vn, [], []⟩ = some ([⟨3, 0, d.day vn⟩], DX (d.day vn)) := by
    unfold BS;rw[if_neg (by simp[A4];omega),if_neg (by simp),if_neg (by simp),if_neg (by simp),if_pos rfl,if_neg hz]
   rw[e];refine Good.prim ⟨_,_,rfl,by simp⟩ ?_;intro l N i _ ha _;unfold AZ;rw[ha.head];simp only[hd.days vn (by omega) h2];rfl
 rw[if_neg k3]at hc;by_cases k4:vk=4
 ·subst k4;simp only[if_true,Bool.and_eq_true,beq_iff_eq]at hc;obtain⟨rfl,ht⟩:=hc;unfold Cu at ht;simp only[Bool.and_eq_true,decide_eq_true_eq,Bool.not_eq_true',Bool.and_eq_false_iff]at ht;obtain⟨⟨h1,h2⟩,h3⟩:=ht;have e:BS d ⟨0,[],4,0,vs,[]⟩=some ([⟨2,0,vs⟩],By vs::vs++[By vs]):=by
   unfold BS;rw[if_neg (by simp[A4];omega),if_neg (by simp),if_neg (by simp),if_neg (by simp),if_neg (by simp)];unfold D2;rw[if_pos ?_];rw[List.all_eq_true]at h1 ⊢;intro b hb;rw[Bool.and_eq_true];refine⟨h1 b hb,?_⟩;unfold By;rcases h3 with h3|h3
   ·rw[h3];simp only[Bool.false_eq_true,if_false,bne_iff_ne,ne_eq];rintro rfl;simp[List.contains_eq_mem]at h3;exact h3 hb
   ·split
    ·simp only[bne_iff_ne,ne_eq];rintro rfl;simp[List.contains_eq_mem]at h3;exact h3 hb
    ·rename_i h34;simp only[bne_iff_ne,ne_eq];rintro rfl;simp[List.contains_eq_mem]at h34;exact h34 hb
  rw[e];refine Good.prim ⟨_,_,rfl,by simp⟩ ?_;intro l N i _ ha _;unfold AZ;rw[ha.head];have h2':¬(2048<vs.length):=by omega
  simp[h2',Az]
 rw[if_neg k4]at hc;cases hc
theorem N1{s:Bs}(hs:Al s=true):Good day (hd0 1 s) .nil (nmW s):=by
 unfold nmW;rw[if_pos hs];refine Good.prim (t:=[wd s]) ⟨_,_,rfl,by simp[wd]⟩ ?_;intro l N i _ ha hst;have h1:Ep (Ab l (i+1)):=hst;rw[EC ha.head];unfold BH;rw[if_neg (by rw[Fd h1 (by decide)];simp),CB ha.head hs,Res.bind_ok,if_neg (by rw[Fd h1 (by decide)];simp)];rfl
theorem Qe{s:Bs}(hs:Al s=true):Good day (hd0 10 s) .nil (catL [sgn [64],nmW s]):=by
 have e:catL [sgn [64],nmW s]=some ([sg [64],wd s],64::s):=by simp[catL,Ax,sgn,nmW,hs]
 rw[e];refine Good.prim ⟨_,_,rfl,by simp[sg]⟩ ?_;intro l N i _ ha _;rw[Dq ha.head];unfold Bv;rw[ha.head];simp only[Bh];rw[if_neg (by decide),if_neg (by decide),if_neg (by decide),if_neg (by decide),if_neg (by decide),if_pos (by decide),CB ha.tail.head hs,Res.bind_ok];rfl
theorem Mh{s:Bs}{h:Hd}{k:Fo}{w:OW}(hs:Al s=true)(g:Good day h k w)(ho:AR h k.len=true):
 Good day (hd0 2 s) (.cons h k .nil) (catL [nmW s,sgn [45,62],if h.op=1 then nmW h.s else Cd w]):=by
 by_cases h1:h.op=1
 ·obtain⟨p1,p2,p3⟩:=Gb ho;have e:=CM h1 (p1 (by omega)) (p2 (by omega));have hk:Al h.s=true∧k.len=0:=by
   unfold As at p3;rw[if_neg (by omega),if_pos (.inl h1)]at p3;simpa using p3
  have e2:=Ei hk.2;subst e2;rw[if_pos h1];have e3:catL [nmW s,sgn [45,62],nmW h.s]=some ([wd s,sg [45,62],wd h.s],s++([45,62]++h.s)):=by simp[catL,Ax,sgn,nmW,hs,hk.1]
  rw[e3];refine Good.prim ⟨_,_,rfl,by simp[wd]⟩ ?_;intro l N i _ ha _;rw[EC ha.head];unfold BH;rw[ha.tail.head,Bh,if_neg (by decide),CB ha.head hs,Res.bind_ok,ha.tail.head,Bh,if_pos (by decide)];rw[show i+1+1=i+1+1 from rfl,ha.tail.tail.head,GD,if_neg (by simp),CB ha.tail.tail.head hk.1,Res.bind_ok,e];rfl
 ·rw[if_neg h1];obtain⟨t,s',rfl,hf,hr,_⟩:=g.ex;have e3:catL [nmW s,sgn [45,62],Cd (some (t,s'))]=some (wd s::sg [45,62]::sg [40]::(t++[sg [41]]),s++([45,62]++([40]++(s'++[41])))):=by simp[catL,Ax,sgn,nmW,hs,Cd]
  rw[e3];refine Good.prim ⟨_,_,rfl,by simp[wd]⟩ ?_;intro l N i hN ha _;simp only[List.length_cons,List.length_append,List.length_nil]at hN ⊢;have hc:Ab l (i+1+1+1+t.length)=sg [41]:=ha.tail.tail.tail.right.head;rw[EC ha.head];unfold BH;rw[ha.tail.head,Bh,if_neg (by decide),CB ha.head hs,Res.bind_ok,ha.tail.head,Bh,if_pos (by decide)];rw[ha.tail.tail.head,Bh,if_pos (by decide)];rw[show i+1+2=i+1+1+1 from rfl,hr l N (i+1+1+1) (by omega) ha.tail.tail.tail.left (by rw[hc];exact CD (by decide)),Res.bind_ok,Cv hc,Res.bind_ok];show Res.ok _ _=_;congr 1;omega
theorem Om{s:Bs}{k:Fo}(hs:Al s=true)(hk:DO day d k):Good day (hd0 3 s) k (catL [nmW s,sgn [40],Be ((A5 d k).map (·.2)),sgn [41]]):=by
 cases k with
 | nil=>
   have e3:catL [nmW s,sgn [40],Be ((A5 d .nil).map (·.2)),sgn [41]]=some ([wd s,sg [40],sg [41]],s++([40]++[41])):=by simp[catL,Ax,sgn,nmW,hs,A5,Be]
   rw[e3];refine Good.prim ⟨_,_,rfl,by simp[wd]⟩ ?_;intro l N i _ ha _;rw[EC ha.head];unfold BH;rw[ha.tail.head,Bh,if_pos (by decide)];unfold Cs;rw[CB ha.head hs,Res.bind_ok,Cv ha.tail.head,Res.bind_ok,ha.tail.tail.head,Bh,if_pos (by decide)];rfl
 | cons h' k' n'=>
   obtain⟨t,s',e,hf,hr⟩:=Ie d hk;have e3:catL [nmW s,sgn [40],Be ((A5 d (.cons h' k' n')).map (·.2)),sgn [41]]=some (wd s::sg [40]::(t++[sg [41]]),s++([40]++(s'++[41]))):=by
    rw[e];simp[catL,Ax,sgn,nmW,hs]
   rw[e3];refine Good.prim ⟨_,_,rfl,by simp[wd]⟩ ?_;intro l N i hN ha _;simp only[List.length_cons,List.length_append,List.length_nil]at hN ⊢;have hc:Ab l (i+1+1+t.length)=sg [41]:=ha.tail.tail.right.head;rw[EC ha.head];unfold BH;rw[ha.tail.head,Bh,if_pos (by decide)];unfold Cs;rw[CB ha.head hs,Res.bind_ok,Cv ha.tail.head,Res.bind_ok,if_neg (by rw[hf.sign ha.tail.tail.left (by decide)];simp)];rw[hr l N N (i+1+1) (by omega) (by omega) ha.tail.tail.left (by rw[hc];exact⟨CD (by decide),by decide⟩),Res.bind_ok,Cv hc,Res.bind_ok];show Res.ok _ _=_;congr 1;omega
end
end Go.Proofs.YtgjdhajcnechdaaGreatDoor
