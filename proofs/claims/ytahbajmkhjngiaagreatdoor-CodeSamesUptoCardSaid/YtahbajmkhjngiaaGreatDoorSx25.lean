/-
  What is read as code is code, and weighs no more than what is read.
-/
import Derived.Test.YtahbajmkhjngiaaGreatDoorSx24
import Derived.Test.YtahbajmkhjngiaaGreatDoorRows
import Derived.OpenShut
import Derived.SliceStrings
set_option linter.all false
set_option maxRecDepth 100000
set_option maxHeartbeats 8000000
namespace Go.Proofs.YtahbajmkhjngiaaGreatDoor
open Go.Proofs.Tryz
open Go.RowKit Go.ChangeShapes
theorem cwU:Tryz.prog.cellsOf 33=3:=by kernel_rfl
theorem cwC:Tryz.prog.cellsOf 35=4:=by kernel_rfl
theorem cwI:Tryz.prog.cellsOf 3=1:=by kernel_rfl
theorem cwS:Tryz.prog.cellsOf 9=1:=by kernel_rfl
theorem cwIs:Tryz.prog.cellsOf 30=1:=by kernel_rfl
theorem cwCs:Tryz.prog.cellsOf 31=1:=by kernel_rfl
theorem B3(s:ByteArray):Value.string s=str s.data.toList:=by cases s;simp[str]
theorem Ca{α:Type}(f:α→Nat)(x:α)(r:List α)(k:Nat):pfx f (x::r) (k+1)=f x+pfx f r k:=by
 induction k with
 |zero=>simp[pfx]
 |succ k ih=>rw[pfx,ih,pfx];simp[Nat.add_assoc]
theorem Cj(l:List Cd):O l=l.flatMap cdC:=by
 induction l with
 |nil=>rfl
 |cons c r ih=>rw[O,ih];rfl
theorem AR{n:Int}(h:(Lit.int .i64 n).wf=true):A0 n:=by
 simp only[Lit.wf,Bool.and_eq_true,decide_eq_true_eq]at h;exact h
section
variable {H:Type}{enc:TypeId×Value→H}{W:World}{base:Nat}{sp:Nat→Bool}{held:Bool}
theorem Bm{a:Addr}{len cap size:Nat}{cs:List Value}(h1:len≤cap)(h2:cap≤maxLen)(hl:cs.length=len*size)(hc:∀j u,cs[j]? =some u→W.cell? (a.add j)=some u):
 Cells W (.slice (some a) len cap) size len cs (fun _=>True):=by
 refine⟨_,_,rfl,h1,h2,hl,fun j u hj=>?_⟩;have h0:∃v,cs[0]? =some v:=by
  cases cs with
  |nil=>simp at hj
  |cons v r=>exact⟨v,rfl⟩
 obtain⟨v,hv⟩:=h0;have hs:=World.cell?_spot (hc 0 v hv);have ha:a.add 0=a:=by unfold Addr.add;simp
 rw[ha]at hs;obtain⟨g,o,spot⟩:=a;simp only at hs;subst hs;refine⟨g,o,rfl,trivial,?_⟩;have:=hc j u hj;rwa[Addr.add_lit]at this
theorem By{α:Type}{sz:Nat}(toC:α→List Value)(hsz:∀x,(toC x).length=sz)(ok:α→Prop)(wt:α→Nat){n:Nat}{e:TypeId}{a:Addr}{elems:List (DataW H×List MemPlace)}
 (ih:∀(cs:List Value)(x:DataW H×List MemPlace),DataW.trod enc Tryz.prog W base sp held n e cs=some x→∃y:α,cs=toC y∧ok y∧wt y≤Rows.uptoBulk x.1)
 (he:∀i,i<elems.length→(W.cells? base (a.add (i*sz)) sz).bind (DataW.trod enc Tryz.prog W base sp held n e)=elems[i]?):
 ∀k j,j+k=elems.length→∃ys:List α,ys.length=k∧(ys.flatMap toC).length=k*sz∧(∀y∈ys,ok y)∧(∀i u,(ys.flatMap toC)[i]? =some u→W.cell? (a.add (j*sz+i))=some u)∧pfx wt ys ys.length≤Rows.uptoBulkAll ((elems.drop j).map (·.1)):=by
 intro k;induction k with
 |zero=>intro j _;exact⟨[],rfl,by simp,by simp,fun i u h=>by simp at h,by simp[pfx]⟩
 | succ k ihk=>
   intro j hj;obtain⟨ys,hf,hds,hF,hc,hbk⟩:=ihk (j+1) (by omega);have hx:=he j (by omega);have hjl:j<elems.length:=by omega
   rw[List.getElem?_eq_getElem hjl]at hx;obtain⟨cs',h1,h2⟩:=Option.bind_eq_some_iff.1 hx;obtain⟨y,rfl,hy,hbb⟩:=ih cs' _ h2;obtain⟨_,_,hget⟩:=World.cells?_some h1;refine⟨y::ys,by simp[hf],?_,?_,?_,?_⟩
   ·rw[List.flatMap_cons,List.length_append,hsz,hds,Nat.add_mul,Nat.one_mul,Nat.add_comm]
   ·intro z hz;rcases List.mem_cons.1 hz with rfl|hz
    ·exact hy
    ·exact hF z hz
   ·intro i u hi;rw[List.flatMap_cons]at hi;by_cases h7:i<sz
    ·rw[List.getElem?_append_left (by rw[hsz];exact h7)]at hi;have:=hget i h7;rw[Addr.add_add]at this;rw[this,hi]
    ·rw[List.getElem?_append_right (by rw[hsz];omega),hsz]at hi;have:=hc _ u hi;rw[show(j+1)*sz+(i-sz)=j*sz+i by rw[Nat.add_mul,Nat.one_mul];omega]at this;exact this
   ·rw[List.drop_eq_getElem_cons hjl];simp only[List.map_cons,Rows.uptoBulkAll,List.length_cons];rw[Ca];omega
theorem Bo{H:Type}(d:DataW H):1≤Rows.uptoBulk d:=by
 cases d with
 |lit l=>cases l<;>simp[Rows.uptoBulk]
 |nil=>simp[Rows.uptoBulk]
 |ptr d=>simp[Rows.uptoBulk]
 |slice a b=>simp[Rows.uptoBulk]
 |agg p=>simp[Rows.uptoBulk]
 |iface a d=>simp[Rows.uptoBulk]
 |map e=>simp[Rows.uptoBulk]
 |held h=>simp[Rows.uptoBulk]
theorem cd_of{n:Nat}(cs:List Value)(x:DataW H×List MemPlace)(h:DataW.trod enc Tryz.prog W base sp held n 35 cs=some x):∃y:Cd,cs=cdC y∧AI y∧wtC y≤Rows.uptoBulk x.1:=by
 obtain⟨xs,m,rfl,rfl,hl,hxl,hf⟩:=DataW.trod_struct underlying35 h;rw[cwC]at hl;match cs,hl with
 | [c0,c1,c2,c3],_=>
   match xs,hxl with
   | [y0,y1,y2,y3],_=>
   have f0:DataW.trod enc Tryz.prog W base sp held m 3 (([c0,c1,c2,c3].drop 0).take (Tryz.prog.cellsOf 3))=some y0:=hf 0 _ rfl;have f1:DataW.trod enc Tryz.prog W base sp held m 3 (([c0,c1,c2,c3].drop 1).take (Tryz.prog.cellsOf 3))=some y1:=hf 1 _ rfl;have f2:DataW.trod enc Tryz.prog W base sp held m 3 (([c0,c1,c2,c3].drop 2).take (Tryz.prog.cellsOf 3))=some y2:=hf 2 _ rfl;have f3:DataW.trod enc Tryz.prog W base sp held m 9 (([c0,c1,c2,c3].drop 3).take (Tryz.prog.cellsOf 9))=some y3:=hf 3 _ rfl;rw[cwI]at f0 f1 f2;rw[cwS]at f3;simp only[List.drop_zero,List.drop_succ_cons,List.take_succ_cons,List.take_zero]at f0 f1 f2 f3;obtain⟨op,h0,_,w0⟩:=DataW.trod_int underlying3 f0;obtain⟨pa,h1,_,w1⟩:=DataW.trod_int underlying3 f1;obtain⟨pb,h2,_,w2⟩:=DataW.trod_int underlying3 f2;obtain⟨s,h3,rfl,_⟩:=DataW.trod_string underlying9 f3;simp only[List.cons.injEq,and_true]at h0 h1 h2 h3;subst h0 h1 h2 h3;refine⟨⟨op,pa,pb,s.data.toList⟩,by simp[cdC,B3],⟨AR w0,AR w1,AR w2⟩,?_⟩;have b0:=Bo y0.1;have b1:=Bo y1.1;have b2:=Bo y2.1;simp only[List.map_cons,List.map_nil,Rows.uptoBulk,Rows.uptoBulkAll,wtC];omega
theorem Dz{n:Nat}{cs:List Value}{x:DataW H×List MemPlace}(h:DataW.trod enc Tryz.prog W base sp held n 31 cs=some x):
 ∃cv,∃l:List Cd,cs=[cv]∧Cells W cv 4 l.length (O l) (fun _=>True)∧(∀c∈l,AI c)∧pfx wtC l l.length+1≤Rows.uptoBulk x.1:=by
 rcases DataW.trod_slice underlying31 h with⟨rfl,rfl⟩| ⟨a,len,cap,elems,rest,m,rfl,rfl,rfl,_,h1,h2,hlen,hel,_⟩
 ·exact⟨_,[],rfl,Cells.nil _ _ _,by simp,by simp[pfx,Rows.uptoBulk]⟩
 ·rw[cwC]at hel;obtain⟨ys,hf,hds,hF,hc,hbk⟩:=By cdC (sz:=4) (fun _=>rfl) AI wtC (a:=a) (elems:=elems) (fun cs x=>cd_of cs x) (fun i hi=>hel i (by omega)) len 0 (by omega);refine⟨_,ys,rfl,?_,hF,?_⟩
  ·subst hf;rw[Cj];exact Bm h1 h2 hds (fun j u hj=>by have:=hc j u hj;simpa using this)
  ·simp only[Rows.uptoBulk];rw[List.drop_zero]at hbk;omega
theorem Cq(l:List Int):Rows.uptoBulkAll (lits (H:=H) .i64 l)=l.length:=by
 induction l with
 |nil=>rfl
 | cons a r ih=>
   have ih':Rows.uptoBulkAll (r.map fun n=>DataW.lit (H:=H) (.int .i64 n))=r.length:=ih;show Rows.uptoBulkAll ((a::r).map fun n=>DataW.lit (H:=H) (.int .i64 n))=_;simp only[List.map_cons,Rows.uptoBulkAll,Rows.uptoBulk,ih',List.length_cons];omega
theorem Ds{n:Nat}{cs:List Value}{x:DataW H×List MemPlace}(h:DataW.trod enc Tryz.prog W base sp held n 30 cs=some x):
 ∃rv,∃l:List Int,cs=[rv]∧Cells W rv 1 l.length (V l) (fun _=>True)∧(∀z∈l,A0 z)∧l.length+1≤Rows.uptoBulk x.1:=by
 rcases open_ints underlying30 underlying3 cwI h with⟨rfl,rfl⟩| ⟨a,len,cap,zs,rfl,_,h1,h2,h3,rfl,hc,hw⟩
 ·exact⟨_,[],rfl,Cells.nil _ _ _,by simp,by simp[Rows.uptoBulk]⟩
 ·have hle:len≤zs.length:=by rw[h3];split<;>omega
  have hl:(zs.take len).length=len:=by simp;omega
  refine⟨_,zs.take len,rfl,?_,fun z hz=>AR (hw z (List.mem_of_mem_take hz)),?_⟩
  ·rw[hl];refine Bm h1 h2 (by simp[V];omega) (fun j u hj=>?_);simp only[V,List.getElem?_map,Option.map_eq_some_iff]at hj;obtain⟨z,hz,rfl⟩:=hj;have hjl:j<len:=by have:=(List.getElem?_eq_some_iff.1 hz).1;simp at this;omega
   have:=hc j (by omega);rw[this];rw[List.getElem?_take,if_pos hjl]at hz;simp[List.getD,hz]
  ·simp only[Rows.uptoBulk];rw[Cq];omega
theorem un_of{n:Nat}(cs:List Value)(x:DataW H×List MemPlace)(h:DataW.trod enc Tryz.prog W base sp held n 33 cs=some x):
 ∃y:Un×Value×Value,cs=[str y.1.name,y.2.1,y.2.2]∧(Cells W y.2.1 1 y.1.row.length (V y.1.row) (fun _=>True)∧Cells W y.2.2 4 y.1.code.length (O y.1.code) (fun _=>True)∧A9 y.1)∧wtU y.1+1≤Rows.uptoBulk x.1:=by
 obtain⟨xs,m,rfl,rfl,hl,hxl,hf⟩:=DataW.trod_struct underlying33 h;rw[cwU]at hl;match cs,hl with
 | [c0,c1,c2],_=>
   match xs,hxl with
   | [y0,y1,y2],_=>
   have f0:DataW.trod enc Tryz.prog W base sp held m 9 (([c0,c1,c2].drop 0).take (Tryz.prog.cellsOf 9))=some y0:=hf 0 _ rfl;have f1:DataW.trod enc Tryz.prog W base sp held m 30 (([c0,c1,c2].drop 1).take (Tryz.prog.cellsOf 30))=some y1:=hf 1 _ rfl;have f2:DataW.trod enc Tryz.prog W base sp held m 31 (([c0,c1,c2].drop 2).take (Tryz.prog.cellsOf 31))=some y2:=hf 2 _ rfl;rw[cwS]at f0;rw[cwIs]at f1;rw[cwCs]at f2;simp only[List.drop_zero,List.drop_succ_cons,List.take_succ_cons,List.take_zero]at f0 f1 f2;obtain⟨s,h0,rfl,_⟩:=DataW.trod_string underlying9 f0;obtain⟨rv,row,h1,hr,hrw,hrb⟩:=Ds f1;obtain⟨cv,code,h2,hc,hcw,hcb⟩:=Dz f2;simp only[List.cons.injEq,and_true]at h0 h1 h2;subst h0 h1 h2;refine⟨⟨⟨s.data.toList,row,code⟩,c1,c2⟩,by simp[B3],⟨hr,hc,hrw,hcw⟩,?_⟩;simp only[List.map_cons,List.map_nil,Rows.uptoBulk,Rows.uptoBulkAll,wtU];omega
theorem Dw{W:World}:∀ys:List (Un×Value×Value),(∀y∈ys,Cells W y.2.1 1 y.1.row.length (V y.1.row) (fun _=>True)∧Cells W y.2.2 4 y.1.code.length (O y.1.code) (fun _=>True)∧A9 y.1)→RepU (fun _=>True) W (ys.map (·.1)) (ys.flatMap fun y=>[str y.1.name,y.2.1,y.2.2]):=by
 intro ys;induction ys with
 |nil=>intro _;rfl
 | cons y r ih=>
   intro h;obtain⟨h1,h2,_⟩:=h y (List.mem_cons_self);exact⟨_,_,_,rfl,h1,h2,ih (fun z hz=>h z (List.mem_cons_of_mem _ hz))⟩
theorem Du{α β:Type}(g:α→β)(f:β→Nat)(l:List α)(k:Nat):pfx f (l.map g) k=pfx (fun x=>f (g x)) l k:=by
 induction k with
 |zero=>rfl
 |succ k ih=>rw[pfx,pfx,ih,List.getElem?_map];cases l[k]? <;> rfl
theorem BR{r:Reach}{b0:Nat}{v:Value}{d:DataW H}{ps:List MemPlace}(hv:Value.okWide Tryz.prog W r b0 22 v)(h:DataW.Trod enc Tryz.prog W base sp held 22 v d ps):∃us:List Un,VU (fun _=>True) W v us∧A3 us∧Z us≤Rows.uptoBulk d:=by
 obtain⟨fuel,hf⟩:=h;have key:∀(cs:List Value)(x:DataW H×List MemPlace),DataW.trod enc Tryz.prog W base sp held fuel 22 cs=some x→∃v,∃us:List Un,cs=[v]∧VU (fun _=>True) W v us∧A3 us∧Z us≤Rows.uptoBulk x.1:=by
  intro cs x h;rcases DataW.trod_slice underlying22 h with⟨rfl,rfl⟩| ⟨a,len,cap,elems,rest,m,rfl,rfl,rfl,_,h1,h2,hlen,hel,_⟩
  ·exact⟨_,[],rfl,⟨[],Cells.nil _ _ _,rfl⟩,(show A3 []from fun u hu=>by cases hu),by simp[Z,pfx]⟩
  ·rw[cwU]at hel;obtain⟨ys,hf,hds,hF,hc,hbk⟩:=By (fun y:Un×Value×Value=>[str y.1.name,y.2.1,y.2.2]) (sz:=3) (fun _=>rfl) (fun y=>Cells W y.2.1 1 y.1.row.length (V y.1.row) (fun _=>True)∧Cells W y.2.2 4 y.1.code.length (O y.1.code) (fun _=>True)∧A9 y.1) (fun y=>wtU y.1+1) (a:=a) (elems:=elems) (fun cs x=>un_of cs x) (fun i hi=>hel i (by omega)) len 0 (by omega);refine⟨_,ys.map (·.1),rfl,⟨_,?_,Dw ys hF⟩,?_,?_⟩
   ·rw[List.length_map];subst hf;exact Bm h1 h2 hds (fun j u hj=>by have:=hc j u hj;simpa using this)
   ·intro u hu;obtain⟨y,hy,rfl⟩:=List.mem_map.1 hu;exact(hF y hy).2.2
   ·simp only[Rows.uptoBulk];rw[List.drop_zero]at hbk;unfold Z;rw[Du,List.length_map];rw[BB (fun y:Un×Value×Value=>wtU y.1) ys ys.length (Nat.le_refl _)]at hbk;omega
 obtain⟨v',us,e,h1,h2,h3⟩:=key _ _ hf;unfold Value.okWide at hv;rw[underlying22]at hv;cases v with
 | agg cs=>
   exfalso;simp[Cell.okWide,Cell.ok,underlying22]at hv
 | _=>
   simp only[Value.cells,List.cons.injEq,and_true]at e;subst e;exact⟨us,h1,h2,h3⟩
end
end Go.Proofs.YtahbajmkhjngiaaGreatDoor
