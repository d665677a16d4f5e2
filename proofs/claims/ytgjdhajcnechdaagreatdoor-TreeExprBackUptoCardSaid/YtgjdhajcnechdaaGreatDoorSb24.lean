/-
  What is read as an expression is one, and is no larger than what is read: nodes and texts are bounded by the bulk.
-/
import Derived.Test.YtgjdhajcnechdaaGreatDoorSb23
import Derived.Test.YtgjdhajcnechdaaGreatDoorRows
import Derived.Test.YtgjdhajcnechdaaGreatDoorSb04
import Derived.Test.YtgjdhajcnechdaaGreatDoorSb16
set_option linter.all false
set_option maxRecDepth 100000
set_option maxHeartbeats 8000000
namespace Go.Proofs.YtgjdhajcnechdaaGreatDoor
open Go.Proofs.Tryz
open Go.RowKit Go.ChangeShapes
def Ch:List Bs→Nat
 | []=>0
 |s::r=>s.length+1+Ch r
def hdB(h:Hd):Nat:=h.s.length+h.vs.length+Ch h.p
def Fo.bulk:Fo→Nat
 | .nil=>0
 | .cons h k n=>2+hdB h+k.bulk+n.bulk
theorem KO:∀(p:List Bs),p.length≤Ch p∧∀s∈p,s.length≤Ch p:=by
 intro p;induction p with
 |nil=>exact⟨Nat.zero_le _,fun s hs=>by cases hs⟩
 | cons a r ih=>
   simp only[Ch,List.length_cons];refine⟨by omega,fun s hs=>?_⟩;rcases List.mem_cons.1 hs with rfl|hs
   ·omega
   ·have:=ih.2 s hs;omega
theorem Fr{h:Hd}(hb:hdB h≤2000000):h.fit:=by
 unfold hdB at hb;have:=KO h.p;exact⟨by omega,by omega,by omega,fun s hs=>by have:=this.2 s hs;omega⟩
theorem Hj:∀{f:Fo},f.bulk≤2000000→f.fit∧2*f.nodes≤f.bulk:=by
 intro f;induction f with
 |nil=>intro _;exact⟨trivial,by simp[Fo.nodes,Fo.bulk]⟩
 | cons h k n ihk ihn=>
   intro hb;simp only[Fo.bulk]at hb;have h1:=ihk (by omega);have h2:=ihn (by omega);simp only[Fo.bulk,Fo.nodes];exact⟨⟨Fr (by omega),h1.1,h2.1⟩,by omega⟩
section
variable {H:Type}{enc:TypeId×Value→H}{W:World}{base:Nat}{sp:Nat→Bool}{held:Bool}
theorem KL(l:List ByteArray):Rows.uptoBulkAll (strs (H:=H) l)=Ch (l.map fun s=>s.data.toList):=by
 induction l with
 |nil=>simp[strs,Rows.uptoBulkAll,Ch]
 | cons a r ih=>
   have ih':Rows.uptoBulkAll (r.map fun s=>DataW.lit (H:=H) (.string s.data.toList))=Ch (r.map fun s=>s.data.toList):=ih;show Rows.uptoBulkAll ((a::r).map fun s=>DataW.lit (H:=H) (.string s.data.toList))=_;simp only[List.map_cons,Rows.uptoBulkAll,Rows.uptoBulk,Ch,ih']
theorem KP{fuel:Nat}{cs:List Value}{x:DataW H×List MemPlace}(h:DataW.trod enc Tryz.prog W base sp held fuel 24 cs=some x):
 ∃pa pc,∃p:List Bs,cs=[.slice pa p.length pc]∧Cells W (.slice pa p.length pc) 1 p.length (p.map str) (fun _=>True)∧Ch p+1≤Rows.uptoBulk x.1:=by
 rcases open_strings underlying24 underlying9 co9 h with⟨rfl,rfl⟩| ⟨a,len,cap,ss,rfl,_,h1,h2,h3,rfl,hc,_⟩
 ·exact⟨none,0,[],rfl,Cells.nil _ _ _,by simp[Ch,Rows.uptoBulk]⟩
 ·have hle:len≤ss.length:=by rw[h3];split<;>omega
  have hpl:((ss.take len).map fun s=>s.data.toList).length=len:=by simp;omega
  refine⟨some a,cap,(ss.take len).map fun s=>s.data.toList,by rw[hpl],?_,?_⟩
  ·rw[hpl];refine FY h1 h2 (by simp;omega) ?_;intro j u hj;simp only[List.map_map,List.getElem?_map,Option.map_eq_some_iff]at hj;obtain⟨s,hs,rfl⟩:=hj;have hjl:j<ss.length:=by
    have:=(List.getElem?_eq_some_iff.1 hs).1;simp at this;omega
   have:=hc j hjl;rw[this];have e:ss.getD j ByteArray.empty=s:=by
    have h5:=(List.getElem?_eq_some_iff.1 hs);simp only[List.getElem_take]at h5;obtain⟨_,h6⟩:=h5;simp[List.getD,List.getElem?_eq_getElem hjl,h6]
   rw[e,GP];rfl
  ·simp only[Rows.uptoBulk];rw[KL];omega
def ER(W:World)(cs:List Value)(n:Nat):Prop:=∃(h:Hd)(pa la:Option Addr)(pc lc:Nat)(f:Fo),cs=hdC h (.slice pa h.p.length pc) (.slice la f.len lc)∧Cells W (.slice pa h.p.length pc) 1 h.p.length (h.p.map str) (fun _=>True)∧RepL (fun _=>True) W (.slice la f.len lc) f∧2+hdB h+f.bulk≤n
theorem LM{n:Nat}(ih:∀(cs:List Value) (x:DataW H×List MemPlace),DataW.trod enc Tryz.prog W base sp held n 27 cs=some x→ER W cs (Rows.uptoBulk x.1)){a:Addr}{elems:List (DataW H×List MemPlace)}
 (he:∀i,i<elems.length→(W.cells? base (a.add (i*7)) 7).bind (DataW.trod enc Tryz.prog W base sp held n 27)=elems[i]?):
 ∀k j,j+k=elems.length→∃(f:Fo)(cs:List Value),f.len=k∧cs.length=k*7∧RepF (fun _=>True) W f cs∧(∀i u,cs[i]? =some u→W.cell? (a.add (j*7+i))=some u)∧f.bulk≤Rows.uptoBulkAll ((elems.drop j).map (·.1)):=by
 intro k;induction k with
 |zero=>intro j _;exact⟨.nil,[],rfl,rfl,rfl,fun i u h=>by simp at h,by simp[Fo.bulk]⟩
 | succ k ihk=>
   intro j hj;obtain⟨f,ds,hf,hds,hF,hc,hbk⟩:=ihk (j+1) (by omega);have hx:=he j (by omega);have hjl:j<elems.length:=by omega
   rw[List.getElem?_eq_getElem hjl]at hx;obtain⟨cs',h1,h2⟩:=Option.bind_eq_some_iff.1 hx;obtain⟨h,pa,la,pc,lc,kids,rfl,hp,hl,hbb⟩:=ih cs' _ h2;obtain⟨_,_,hget⟩:=World.cells?_some h1;obtain⟨kcs,hk1,hk2⟩:=hl;refine⟨.cons h kids f,hdC h (.slice pa h.p.length pc) (.slice la kids.len lc)++ds,by simp[Fo.len,hf],by simp[hdC,hds];omega,⟨_,_,kcs,ds,rfl,hp,hk1,hk2,hF⟩,?_,?_⟩
   ·intro i u hi;by_cases h7:i<7
    ·rw[List.getElem?_append_left (by simp[hdC];omega)]at hi;have:=hget i h7;rw[Addr.add_add]at this;rw[this,hi]
    ·rw[List.getElem?_append_right (by simp[hdC];omega)]at hi;have:=hc _ u hi;rw[show(j+1)*7+(i-(hdC h (.slice pa h.p.length pc) (.slice la kids.len lc)).length)=j*7+i by simp[hdC];omega]at this;exact this
   ·rw[List.drop_eq_getElem_cons hjl];simp only[List.map_cons,Rows.uptoBulkAll,Fo.bulk];omega
theorem Ki{n:Nat}(ih:∀m,m<n→∀(cs:List Value) (x:DataW H×List MemPlace),DataW.trod enc Tryz.prog W base sp held m 27 cs=some x→ER W cs (Rows.uptoBulk x.1)){cs:List Value}{x:DataW H×List MemPlace}
 (h:DataW.trod enc Tryz.prog W base sp held n 25 cs=some x):∃(la:Option Addr)(lc:Nat)(f:Fo),cs=[.slice la f.len lc]∧RepL (fun _=>True) W (.slice la f.len lc) f∧f.bulk+1≤Rows.uptoBulk x.1:=by
 rcases DataW.trod_slice underlying25 h with⟨rfl,rfl⟩| ⟨a,len,cap,elems,rest,m,rfl,rfl,rfl,_,h1,h2,hlen,hel,_⟩
 ·exact⟨none,0,.nil,rfl,RepL.nil _ _,by simp[Fo.bulk,Rows.uptoBulk]⟩
 ·rw[co29]at hel;obtain⟨f,ds,hf,hds,hF,hc,hbk⟩:=LM (ih m (Nat.lt_succ_self _)) (a:=a) (elems:=elems) (fun i hi=>hel i (by omega)) len 0 (by omega);refine⟨some a,cap,f,by rw[hf],⟨ds,?_,hF⟩,?_⟩
  ·rw[hf];exact FY h1 h2 hds (fun j u hj=>by have:=hc j u hj;simpa using this)
  ·simp only[Rows.uptoBulk];rw[List.drop_zero]at hbk;omega
theorem Mm:∀(n:Nat)(cs:List Value)(x:DataW H×List MemPlace),DataW.trod enc Tryz.prog W base sp held n 27 cs=some x→ER W cs (Rows.uptoBulk x.1):=by
 intro n;induction n using Nat.strongRecOn with
 | ind n ih=>
   intro cs x h;obtain⟨xs,m,rfl,rfl,hl,hxl,hf⟩:=DataW.trod_struct underlying27 h;rw[co29]at hl;match cs,hl with
   | [c0,c1,c2,c3,c4,c5,c6],_=>
     match xs,hxl with
     | [y0,y1,y2,y3,y4],_=>
     have f0:DataW.trod enc Tryz.prog W base sp held m 3 (([c0,c1,c2,c3,c4,c5,c6].drop 0).take (Tryz.prog.cellsOf 3))=some y0:=hf 0 _ rfl;have f1:DataW.trod enc Tryz.prog W base sp held m 9 (([c0,c1,c2,c3,c4,c5,c6].drop 1).take (Tryz.prog.cellsOf 9))=some y1:=hf 1 _ rfl;have f2:DataW.trod enc Tryz.prog W base sp held m 23 (([c0,c1,c2,c3,c4,c5,c6].drop 2).take (Tryz.prog.cellsOf 23))=some y2:=hf 2 _ rfl;have f3:DataW.trod enc Tryz.prog W base sp held m 24 (([c0,c1,c2,c3,c4,c5,c6].drop 5).take (Tryz.prog.cellsOf 24))=some y3:=hf 3 _ rfl;have f4:DataW.trod enc Tryz.prog W base sp held m 25 (([c0,c1,c2,c3,c4,c5,c6].drop 6).take (Tryz.prog.cellsOf 25))=some y4:=hf 4 _ rfl;rw[co3]at f0;rw[co9]at f1;rw[co25]at f2;rw[co26]at f3;rw[co27]at f4;simp only[List.drop_zero,List.drop_succ_cons,List.take_succ_cons,List.take_zero]at f0 f1 f2 f3 f4;obtain⟨op,h0,_⟩:=DataW.trod_int underlying3 f0;obtain⟨s,h1,rfl,_⟩:=DataW.trod_string underlying9 f1;obtain⟨zs,q,_,rfl,_,hzl,hg⟩:=DataW.trod_struct underlying23 f2;match zs,hzl with
     | [z0,z1,z2],_=>
     have g0:DataW.trod enc Tryz.prog W base sp held q 3 (([c2,c3,c4].drop 0).take (Tryz.prog.cellsOf 3))=some z0:=hg 0 _ rfl;have g1:DataW.trod enc Tryz.prog W base sp held q 3 (([c2,c3,c4].drop 1).take (Tryz.prog.cellsOf 3))=some z1:=hg 1 _ rfl;have g2:DataW.trod enc Tryz.prog W base sp held q 9 (([c2,c3,c4].drop 2).take (Tryz.prog.cellsOf 9))=some z2:=hg 2 _ rfl;rw[co3]at g0 g1;rw[co9]at g2;simp only[List.drop_zero,List.drop_succ_cons,List.take_succ_cons,List.take_zero]at g0 g1 g2;obtain⟨vk,h2,_⟩:=DataW.trod_int underlying3 g0;obtain⟨vn,h3,_⟩:=DataW.trod_int underlying3 g1;obtain⟨vs,h4,rfl,_⟩:=DataW.trod_string underlying9 g2;obtain⟨pa,pc,p,h5,hp,hpb⟩:=KP f3;obtain⟨la,lc,f,h6,hl,hlb⟩:=Ki (fun k hk=>ih k (by omega)) f4;simp only[List.cons.injEq,and_true]at h0 h1 h2 h3 h4 h5 h6;subst h0 h1 h2 h3 h4 h5 h6;refine⟨⟨op,s.data.toList,vk,vn,vs.data.toList,p⟩,pa,la,pc,lc,f,by simp[hdC,GP],hp,hl,?_⟩;simp only[List.map_cons,List.map_nil,Rows.uptoBulk,Rows.uptoBulkAll,hdB];omega
theorem Nv{r:Reach}{b0:Nat}{v:Value}{d:DataW H}{ps:List MemPlace}(hv:Value.okWide Tryz.prog W r b0 27 v)(h:DataW.Trod enc Tryz.prog W base sp held 27 v d ps):∃x:Ex,VE (fun _=>True) W v x∧2+hdB x.h+x.kids.bulk≤Rows.uptoBulk d:=by
 unfold Value.okWide at hv;rw[underlying27]at hv;obtain⟨cs,rfl,_⟩:=hv;obtain⟨fuel,hf⟩:=h;obtain⟨h,pa,la,pc,lc,f,e,hp,hl,hb⟩:=Mm fuel _ _ hf;refine⟨⟨h,f⟩,⟨pa,pc,la,lc,?_,hp,hl⟩,hb⟩;cases cs;simp only[Value.cells]at e;subst e;rfl
theorem Ju{x:Ex}{n:Nat}(h:2+hdB x.h+x.kids.bulk≤n)(hn:n≤1048576):x.h.fit∧x.kids.fit∧x.kids.nodes≤1000000:=by
 have h1:=Hj (f:=x.kids) (by omega);exact⟨Fr (by omega),h1.1,by omega⟩
end
end Go.Proofs.YtgjdhajcnechdaaGreatDoor
