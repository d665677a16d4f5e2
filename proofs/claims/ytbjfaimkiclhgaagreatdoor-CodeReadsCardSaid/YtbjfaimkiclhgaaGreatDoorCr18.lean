/-
  KgX QgN
-/
import Derived.Test.YtbjfaimkiclhgaaGreatDoorCr17
import Derived.Test.YtbjfaimkiclhgaaGreatDoorCr16
import Derived.Test.YtbjfaimkiclhgaaGreatDoorCr11
import Derived.Test.YtbjfaimkiclhgaaGreatDoorCr14
set_option linter.all false
set_option maxRecDepth 100000
set_option maxHeartbeats 8000000
namespace Go.Proofs.YtbjfaimkiclhgaaGreatDoor
open Go.Proofs.Tryz
open Go.RowKit
variable{L:Array Bool}{i b k m s:Nat}{R:Bool->World->Prop}{W0 w:World}{x:Fo}{e1 e2:Bs×Value}{op:Int}{t:Array Value}{wd:Bs}{a:Act}{v tv wo:Value}{Q:Exit->Act->World->Prop}{es:List (Bs×Value)}{c:Bool}{l:List Tok}
abbrev Dt(k fc tp:Nat)(k1:Bs)(v1:Int)(k2:Bs)(v2:Int)(pos:String):Array Oper:=
 #[{dst:=some k,op:= .makeMap 68 none,type:=68,pos:=pos,after:=#[],guard:=none},
  {dst:=none,op:= .insert 68 (.tmp k) (.const (str k1)) (.const (.int .i64 v1)),type:=0,pos:=pos,after:=#[{on:=0,ground:= .data}],guard:=none},
  {dst:=none,op:= .insert 68 (.tmp k) (.const (str k2)) (.const (.int .i64 v2)),type:=0,pos:=pos,after:=#[{on:=0,ground:= .data}],guard:=none},
  {dst:=some (k+1),op:= .move (.tmp k),type:=68,pos:=pos,after:=#[{on:=0,ground:= .data},{on:=1,ground:= .data},{on:=2,ground:= .data}],guard:=none},
  {dst:=some (k+2),op:= .move (.tmp 1),type:=9,pos:=pos,after:=#[],guard:=none},
  {dst:=some (k+3),op:= .lookup 68 (.tmp (k+1)) (.tmp (k+2)) false,type:=3,pos:=pos,after:=#[{on:=3,ground:= .data},{on:=4,ground:= .data}],guard:=none},
  {dst:=some (k+4),op:= .move (.tmp 0),type:=tp,pos:=pos,after:=#[],guard:=none},
  {dst:=some (k+5),op:= .call {callee:= .value (.func fc),args:=#[.tmp (k+4)],argTypes:=#[tp]},type:=129,pos:=pos,after:=#[{on:=6,ground:= .data}],guard:=none},
  {dst:=some (k+6),op:= .build 134 #[(0,.tmp (k+3)),(4,.tmp (k+5))],type:=134,pos:=pos,after:=#[{on:=5,ground:= .data},{on:=7,ground:= .data}],guard:=none},
  {dst:=some 5,op:= .alloc 134,type:=0,pos:=pos,after:=#[],guard:=none},
  {dst:=none,op:= .store 134 (.tmp 5) (.tmp (k+6)),type:=0,pos:=pos,
   after:=#[{on:=9,ground:= .data},{on:=8,ground:= .data},{on:=7,ground:= .chain},{on:=0,ground:= .phase},{on:=1,ground:= .phase},{on:=2,ground:= .phase},{on:=3,ground:= .phase},{on:=4,ground:= .phase},{on:=5,ground:= .phase},{on:=6,ground:= .phase},{on:=7,ground:= .phase},{on:=8,ground:= .phase},{on:=9,ground:= .phase}],guard:=none}]
abbrev GF:List (Nat×Nat):=[(1,0),(2,0),(3,0),(3,1),(3,2),(5,3),(5,4),(7,6),(8,5),(8,7),(10,9),(10,8)]
def LitC(L:Array Bool):Prop:=∀p∈GF,Am L p.1=true->Am L p.2=true
def LitC.set(h:LitC L)(hL:L.size=11)(hi:i<11)(hd:∀p∈GF,p.1=i->Am L p.2=true):LitC (L.setIfInBounds i true):=by
 have ht:=Dw (L:=L) (i:=i) (by omega);intro p hp h1;rw[ht]at h1 ⊢;split
 ·rfl
 ·split at h1
  ·rename_i e;exact hd p hp e
  ·exact h p hp h1
def ED(b:Nat)(R:Bool->World->Prop)(W0:World)(x:Fo)(e1 e2:Bs×Value)(op:Int)(t:Array Value)(k:Nat)(wd:Bs)(L:Array Bool)(a:Act)(w:World):Prop:=
 LitC L/\∃m s v,LitW b R W0 x e1 e2 (Cl op) L m s v w/\LitA t k b wd op L m s v a
def EF{j:Nat}(h:a.tmps[j]? =some v):a.eval (.tmp j)=v:=by
 show a.tmps.getD j undef=v;simp[Array.getD_eq_getD_getElem?,h]
def LitA.quiet(h:LitA t k b wd op L m s v a)(hL:L.size=11)(hi:i<11)(hn:i ∉ Ca):LitA t k b wd op (L.setIfInBounds i true) m s v a:=
 ⟨h.d,h.sz,h.off,λj hj hT=>h.at' j hj (by
  rw[Dw (by omega)]at hT
  split at hT
  ·rename_i e;subst e;exact absurd hj hn
  ·exact hT)⟩
section
variable {P:Program}{o:Oper}{w':World}{next:Act->World->Prop}
def FZ(h:(execOp a.eval o).run P w= .ok (.value v) w')(hk:next (a.put o.dst v) w'):o.wp P a w next Q:=by
 unfold Oper.wp;rw[h];exact hk
def Kx(h:(execOp a.eval o).run P w= .ok .skip w')(hk:next (a.put o.dst undef) w'):o.wp P a w next Q:=by
 unfold Oper.wp;rw[h];exact hk
def SC{f:FuncId}{args:Array Value}(h:(execOp a.eval o).run P w= .ok (.enter f args) w')(hc:Calls P f args w' λe w''=>match e with| .returned v=>next (a.put o.dst v) w'' | .panicked chain=>Q (.panic chain) a w'' | .outgrown=>LetsOut Q):o.wp P a w next Q:=by
 unfold Oper.wp;rw[h];refine hc.mono ?_;intro e w'' h;cases e<;>exact h
def Ef{ops:Array Oper}{K:Act->World->Prop}(ho:ops[i]? =some o)(hg:o.guard=none)(h:∀K':Act->World->Prop,(∀a w,K a w->K' a w)->o.wp P a w K' Q):wpOp P ops Q i K a w:=
 wpOp_step ho λK' hK=>by
  rw[if_pos (by unfold Region.wanted;rw[hg])]
  exact h K' hK
end
def Ty(n:Int)(xa:Option Addr)(xl xc:Nat)(w:World):(Instr.build 134 #[(0,.int .i64 n),(4,.slice xa xl xc)]).run Tryz.prog w= .ok (.agg (Cl n (.slice xa xl xc)).toArray) w:=by kernel_rfl
def Tv(w:World):(Instr.alloc 134 true (.tuple #[])).run Tryz.prog w= .ok (.pointer (some ⟨w.heap.size,0,none⟩)) (w.alloc (.cells (stC 0 (.slice none 0 0)).toArray 134 (0,0))):=by kernel_rfl
def X8(hne:e1.1≠e2.1)(h:wd=e1.1/\v=e1.2\/wd=e2.1/\v=e2.2)(hes:Ei e1 e2 true true es)(hm:w.heap[m]? =some (AM es)):
 (Instr.lookup 68 (.map (some m)) (str wd) false).run Tryz.prog w= .ok v w:=by
 rw[Ku hm];obtain⟨k1,v1⟩:=e1;obtain⟨k2,v2⟩:=e2;simp only at h hne;have n1:(k1==k2)=false:=by simpa using hne
 have n2:(k2==k1)=false:=by simpa using λe=>hne e.symm
 rcases hes with rfl|rfl<;>rcases h with⟨rfl,rfl⟩| ⟨rfl,rfl⟩<;>simp[Ci,n1,n2]
def Tq(hne:e1.1≠e2.1)(h:Ei e1 e2 false c es):E3 e1.1 es:=by
 cases c with
 |false=>have h:es=[]:=h;subst h;trivial
 |true=>have h:es=[e2]:=h;subst h;exact⟨hne,trivial⟩
def Sw(hne:e1.1≠e2.1)(h:Ei e1 e2 c false es):E3 e2.1 es:=by
 cases c with
 |false=>have h:es=[]:=h;subst h;trivial
 |true=>have h:es=[e1]:=h;subst h;exact⟨λe=>hne e.symm,trivial⟩
section
variable {k1 k2:Bs}{v1 v2:Int}{fc tp:Nat}{pos:String}
structure EC(b:Nat)(R:Bool->World->Prop)(W0:World)(x:Fo)(k1:Bs)(v1:Int)(k2:Bs)(v2:Int)(op:Int)(t:Array Value)(k fc:Nat)(wd:Bs)(Q:Exit->Act->World->Prop):Prop where
 st:GK b R
 bw:b<W0.heap.size
 hk:5<k
 hs:k+6<t.size
 t0:t[0]? =some (.pointer (some ⟨b,0,none⟩))
 t1:t[1]? =some (str wd)
 ne:k1≠k2
 wds:wd=k1/\op=v1\/wd=k2/\op=v2
 ent:∀args w,(callFunc fc args).run Tryz.prog w= .ok (.enter fc args) w
 call:∀W,W0.grownBy W (some b)->R false W->Calls Tryz.prog fc #[.pointer (some ⟨b,0,none⟩)] W λe w'=>(∃v,e= .returned v/\W.grownBy w' (some b)/\RepL (An W.heap.size) w' v x/\R true w')\/(∃c,e= .panicked c/\∀a,a.defers=[]->Q (.panic c) a w')
def Ui(hi:i∈Ca):i<11:=by
 simp only[Ca,List.mem_cons,List.not_mem_nil,or_false]at hi;omega
def Uj(H:EC b R W0 x k1 v1 k2 v2 op t k fc wd Q)(hL:L.size=11)(hC:LitC (L.setIfInBounds 0 true))(h0:Am L 0=false)(h1:Am L 1=false)(h2:Am L 2=false)(h3:Am L 3=false)(hW:LitW b R W0 x (k1,.int .i64 v1) (k2,.int .i64 v2) (Cl op) L m s v w)(hA:LitA t k b wd op L m s v a):
 wpOp Tryz.prog (Dt k fc tp k1 v1 k2 v2 pos) Q 0 (ED b R W0 x (k1,.int .i64 v1) (k2,.int .i64 v2) op t k wd (L.setIfInBounds 0 true)) a w:=by
 refine Ef rfl rfl λK' hK=>FZ (v:= .map (some w.heap.size)) (w':=w.alloc (AM [])) ?_ (hK _ _ ⟨hC,w.heap.size,s,v,hW.make H.st hL h0 h1 h2,?_⟩)
 ·simp[execOp,Jn]
 ·refine hA.put hL H.hk H.hs (i:=0) (by decide) ?_;intro j hj hne hT;simp only[Ca,List.mem_cons,List.not_mem_nil,or_false]at hj;rcases hj with rfl|rfl|rfl|rfl|rfl|rfl|rfl|rfl
  ·exact absurd rfl hne
  ·rw[h3]at hT;cases hT
  all_goals rfl
def Uk(H:EC b R W0 x k1 v1 k2 v2 op t k fc wd Q)(hL:L.size=11)(hC:LitC (L.setIfInBounds 1 true))(h0:Am L 0=true)(h1:Am L 1=false)(hW:LitW b R W0 x (k1,.int .i64 v1) (k2,.int .i64 v2) (Cl op) L m s v w)(hA:LitA t k b wd op L m s v a):
 wpOp Tryz.prog (Dt k fc tp k1 v1 k2 v2 pos) Q 1 (ED b R W0 x (k1,.int .i64 v1) (k2,.int .i64 v2) op t k wd (L.setIfInBounds 1 true)) a w:=by
 obtain⟨es,hm,hes,hW'⟩:=hW.ins1 H.st hL H.bw h0 h1;rw[h1]at hes;have hk:=EF (hA.at' 0 (by decide) h0);refine Ef rfl rfl λK' hK=>Kx (w':=DK w m (es++[(k1,.int .i64 v1)])) ?_ (hK _ _ ⟨hC,m,s,v,hW',hA.quiet hL (by omega) (by decide)⟩);have hu:=MK hm k1 v1 (Tq H.ne hes);simp only[Cc,DI]at hk;have hc:∀u,a.eval (.const u)=u:=λ_=>rfl;simp[execOp,hk,hu,hc]
def Ul(H:EC b R W0 x k1 v1 k2 v2 op t k fc wd Q)(hL:L.size=11)(hC:LitC (L.setIfInBounds 2 true))(h0:Am L 0=true)(h1:Am L 2=false)(hW:LitW b R W0 x (k1,.int .i64 v1) (k2,.int .i64 v2) (Cl op) L m s v w)(hA:LitA t k b wd op L m s v a):
 wpOp Tryz.prog (Dt k fc tp k1 v1 k2 v2 pos) Q 2 (ED b R W0 x (k1,.int .i64 v1) (k2,.int .i64 v2) op t k wd (L.setIfInBounds 2 true)) a w:=by
 obtain⟨es,hm,hes,hW'⟩:=hW.ins2 H.st hL H.bw h0 h1;rw[h1]at hes;have hk:=EF (hA.at' 0 (by decide) h0);refine Ef rfl rfl λK' hK=>Kx (w':=DK w m (es++[(k2,.int .i64 v2)])) ?_ (hK _ _ ⟨hC,m,s,v,hW',hA.quiet hL (by omega) (by decide)⟩);have hu:=MK hm k2 v2 (Sw H.ne hes);simp only[Cc,DI]at hk;have hc:∀u,a.eval (.const u)=u:=λ_=>rfl;simp[execOp,hk,hu,hc]
def KI(H:EC b R W0 x k1 v1 k2 v2 op t k fc wd Q)(hL:L.size=11)(hi:i=3\/i=4\/i=6)(hC:LitC (L.setIfInBounds i true))(h0:i=3->Am L 0=true)(hW:LitW b R W0 x (k1,.int .i64 v1) (k2,.int .i64 v2) (Cl op) L m s v w)(hA:LitA t k b wd op L m s v a):
 wpOp Tryz.prog (Dt k fc tp k1 v1 k2 v2 pos) Q i (ED b R W0 x (k1,.int .i64 v1) (k2,.int .i64 v2) op t k wd (L.setIfInBounds i true)) a w:=by
 have hoff:∀j,j<5->∀i∈Ca,j≠Cc k i:=by
  intro j hj i hi;have:=H.hk;simp only[Ca,List.mem_cons,List.not_mem_nil,or_false]at hi;rcases hi with rfl|rfl|rfl|rfl|rfl|rfl|rfl|rfl<;>simp only[Cc]<;>omega
 have e0:=EF ((hA.off 0 (hoff 0 (by omega))).trans H.t0);have e1:=EF ((hA.off 1 (hoff 1 (by omega))).trans H.t1);rcases hi with rfl|rfl|rfl
 ·have hk:=EF (hA.at' 0 (by decide) (h0 rfl));refine Ef rfl rfl λK' hK=>FZ (v:= .map (some m)) (w':=w) ?_ (hK _ _ ⟨hC,m,s,v,hW.quiet hL (by omega) (by decide) (by decide) (by decide) (by decide) (by decide) (by decide),hA.put hL H.hk H.hs (i:=3) (by decide) λj _ _ _=>rfl⟩);simp only[Cc,DI]at hk;simp[execOp,hk]
 ·refine Ef rfl rfl λK' hK=>FZ (v:=str wd) (w':=w) ?_ (hK _ _ ⟨hC,m,s,v,hW.quiet hL (by omega) (by decide) (by decide) (by decide) (by decide) (by decide) (by decide),hA.put hL H.hk H.hs (i:=4) (by decide) λj _ _ _=>rfl⟩);simp[execOp,e1]
 ·refine Ef rfl rfl λK' hK=>FZ (v:= .pointer (some ⟨b,0,none⟩)) (w':=w) ?_ (hK _ _ ⟨hC,m,s,v,hW.quiet hL (by omega) (by decide) (by decide) (by decide) (by decide) (by decide) (by decide),hA.put hL H.hk H.hs (i:=6) (by decide) λj _ _ _=>rfl⟩);simp[execOp,e0]
def Um(H:EC b R W0 x k1 v1 k2 v2 op t k fc wd Q)(hL:L.size=11)(hC:LitC (L.setIfInBounds 5 true))(h0:Am L 0=true)(h1:Am L 1=true)(h2:Am L 2=true)(h3:Am L 3=true)(h4:Am L 4=true)(hW:LitW b R W0 x (k1,.int .i64 v1) (k2,.int .i64 v2) (Cl op) L m s v w)(hA:LitA t k b wd op L m s v a):
 wpOp Tryz.prog (Dt k fc tp k1 v1 k2 v2 pos) Q 5 (ED b R W0 x (k1,.int .i64 v1) (k2,.int .i64 v2) op t k wd (L.setIfInBounds 5 true)) a w:=by
 obtain⟨_,_,es,hm,hes⟩:=hW.map h0;rw[h1,h2]at hes;have hk3:=EF (hA.at' 3 (by decide) h3);have hk4:=EF (hA.at' 4 (by decide) h4);have hl:=X8 (wd:=wd) (v:= .int .i64 op) H.ne (by
  rcases H.wds with⟨e1,e2⟩| ⟨e1,e2⟩
  ·exact .inl ⟨e1,by rw[e2]⟩
  ·exact .inr ⟨e1,by rw[e2]⟩) hes hm
 refine Ef rfl rfl λK' hK=>FZ (v:= .int .i64 op) (w':=w) ?_ (hK _ _ ⟨hC,m,s,v,hW.quiet hL (by omega) (by decide) (by decide) (by decide) (by decide) (by decide) (by decide),hA.put hL H.hk H.hs (i:=5) (by decide) λj _ _ _=>rfl⟩);simp only[Cc,DI]at hk3 hk4;simp[execOp,hk3,hk4,hl]
def Uo(H:EC b R W0 x k1 v1 k2 v2 op t k fc wd Q)(hL:L.size=11)(hC:LitC (L.setIfInBounds 7 true))(h6:Am L 6=true)(h7:Am L 7=false)(h8:Am L 8=false)(h10:Am L 10=false)(hW:LitW b R W0 x (k1,.int .i64 v1) (k2,.int .i64 v2) (Cl op) L m s v w)(hA:LitA t k b wd op L m s v a):
 wpOp Tryz.prog (Dt k fc tp k1 v1 k2 v2 pos) Q 7 (ED b R W0 x (k1,.int .i64 v1) (k2,.int .i64 v2) op t k wd (L.setIfInBounds 7 true)) a w:=by
 have hk:=hA.at' 6 (by decide) h6;simp only[Cc,DI]at hk;refine Ef rfl rfl λK' hK=>SC (f:=fc) (args:=#[.pointer (some ⟨b,0,none⟩)]) (w':=w) ?_ ?_
 ·simp[execOp,resolve,invoke,Act.eval,H.ent,go_sem,hk]
 ·refine(H.call w hW.g (by have:=hW.r;rwa[h7]at this)).mono ?_;rintro e w' (⟨v',rfl,g,hr,hR⟩| ⟨c,rfl,hq⟩)
  ·refine hK _ _ ⟨hC,m,s,v',hW.call hL H.bw h10 g hR hr,hA.put hL H.hk H.hs (i:=7) (by decide) ?_⟩;intro j hj hne hT;simp only[Ca,List.mem_cons,List.not_mem_nil,or_false]at hj;rcases hj with rfl|rfl|rfl|rfl|rfl|rfl|rfl|rfl
   ·rfl
   ·rfl
   ·rfl
   ·rfl
   ·rfl
   ·exact absurd rfl hne
   ·rw[h8]at hT;cases hT
   ·rfl
  ·exact hq _ hA.d
def Up(H:EC b R W0 x k1 v1 k2 v2 op t k fc wd Q)(hL:L.size=11)(hC:LitC (L.setIfInBounds 8 true))(h5:Am L 5=true)(h7:Am L 7=true)(hW:LitW b R W0 x (k1,.int .i64 v1) (k2,.int .i64 v2) (Cl op) L m s v w)(hA:LitA t k b wd op L m s v a):
 wpOp Tryz.prog (Dt k fc tp k1 v1 k2 v2 pos) Q 8 (ED b R W0 x (k1,.int .i64 v1) (k2,.int .i64 v2) op t k wd (L.setIfInBounds 8 true)) a w:=by
 have hk5:=EF (hA.at' 5 (by decide) h5);have hk7:=EF (hA.at' 7 (by decide) h7);obtain⟨_,⟨xa,xc,rfl,_⟩,_⟩:=hW.val h7;refine Ef rfl rfl λK' hK=>FZ (v:= .agg (Cl op (.slice xa x.len xc)).toArray) (w':=w) ?_ (hK _ _ ⟨hC,m,s,_,hW.quiet hL (by omega) (by decide) (by decide) (by decide) (by decide) (by decide) (by decide),hA.put hL H.hk H.hs (i:=8) (by decide) λj _ _ _=>rfl⟩);have hb:=Ty op xa x.len xc w;simp only[Cc,DI]at hk5 hk7;simp[execOp,hk5,hk7,hb]
def Uq(H:EC b R W0 x k1 v1 k2 v2 op t k fc wd Q)(hL:L.size=11)(hC:LitC (L.setIfInBounds 9 true))(h9:Am L 9=false)(h10:Am L 10=false)(hW:LitW b R W0 x (k1,.int .i64 v1) (k2,.int .i64 v2) (Cl op) L m s v w)(hA:LitA t k b wd op L m s v a):
 wpOp Tryz.prog (Dt k fc tp k1 v1 k2 v2 pos) Q 9 (ED b R W0 x (k1,.int .i64 v1) (k2,.int .i64 v2) op t k wd (L.setIfInBounds 9 true)) a w:=by
 refine Ef rfl rfl λK' hK=>FZ (v:= .pointer (some ⟨w.heap.size,0,none⟩)) (w':=w.alloc (.cells (stC 0 (.slice none 0 0)).toArray 134 (0,0))) ?_ (hK _ _ ⟨hC,m,w.heap.size,v,hW.alloc H.st hL h9 h10,?_⟩)
 ·have:=Tv w;simp[execOp,this]
 ·refine hA.put hL H.hk H.hs (i:=9) (by decide) ?_;intro j hj hne hT;simp only[Ca,List.mem_cons,List.not_mem_nil,or_false]at hj;rcases hj with rfl|rfl|rfl|rfl|rfl|rfl|rfl|rfl
  iterate 7 rfl
  exact absurd rfl hne
def Sx(H:EC b R W0 x k1 v1 k2 v2 op t k fc wd Q)(hL:L.size=11)(hC:LitC (L.setIfInBounds 10 true))(h0:Am L 0=true)(h7:Am L 7=true)(h8:Am L 8=true)(h9:Am L 9=true)(h10:Am L 10=false)(hW:LitW b R W0 x (k1,.int .i64 v1) (k2,.int .i64 v2) (Cl op) L m s v w)(hA:LitA t k b wd op L m s v a):
 wpOp Tryz.prog (Dt k fc tp k1 v1 k2 v2 pos) Q 10 (ED b R W0 x (k1,.int .i64 v1) (k2,.int .i64 v2) op t k wd (L.setIfInBounds 10 true)) a w:=by
 have hk8:=hA.at' 8 (by decide) h8;have hk9:=hA.at' 9 (by decide) h9;obtain⟨_,⟨xa,xc,rfl,_⟩,_⟩:=hW.val h7;obtain⟨_,hs,_,hb⟩:=hW.new h9;rw[h10]at hb;refine Ef rfl rfl λK' hK=>Kx (w':=set10 w s (.int .i64 op) (str []) (str []) (.slice none 0 0) (.slice xa x.len xc) (.slice none 0 0) (.int .i64 0) (.slice none 0 0) (.slice none 0 0) (.slice none 0 0)) ?_ (hK _ _ ⟨hC,m,s,_,hW.store H.st hL H.bw h0 h9 h10,hA.quiet hL (by omega) (by decide)⟩);simp only[Cc,DI,Cl,List.size_toArray]at hk8 hk9;have ck_:=hb.c10;simp only[set10,set7];go_simp
def LitC.next(h:LitC L)(hL:L.size=11)(hr:i∈Region.ready .any (Dt k fc tp k1 v1 k2 v2 pos) L):LitC (L.setIfInBounds i true):=by
 obtain⟨hi,_,hd⟩:=MH hr;have hi:i<11:=hi;refine h.set hL hi ?_;intro p hp e;have h11:i=0\/i=1\/i=2\/i=3\/i=4\/i=5\/i=6\/i=7\/i=8\/i=9\/i=10:=by omega
 simp only[GF,List.mem_cons,List.not_mem_nil,or_false]at hp;rcases h11 with rfl|rfl|rfl|rfl|rfl|rfl|rfl|rfl|rfl|rfl|rfl
 all_goals
  rcases hp with rfl|rfl|rfl|rfl|rfl|rfl|rfl|rfl|rfl|rfl|rfl|rfl<;>first| (exact absurd e (by decide))| (exact hd _ rfl _ (List.mem_map.2 ⟨⟨_,.data⟩,List.mem_filter.2 ⟨by simp,rfl⟩,rfl⟩))
def Zi(hL:L.size=11)(hr:Region.ready .any (Dt k fc tp k1 v1 k2 v2 pos) L=[]):∀i,i<11->Am L i=true:=by
 intro i;induction i using Nat.strongRecOn with
 | _ i ih=>
   intro hi;cases ht:Am L i with
   |true=>rfl
   | false=>
     exfalso;have hm:i∈Region.ready .any (Dt k fc tp k1 v1 k2 v2 pos) L:=by
      unfold Region.ready;refine List.mem_filter.2 ⟨List.mem_range.2 hi,?_⟩;have h1:L.getD i true=false:=by
       have:Am L i=L.getD i true:=by
        unfold Am;simp[Array.getD_eq_getD_getElem?,hL,hi]
       rw[<-this];exact ht
      rw[h1];have h11:i=0\/i=1\/i=2\/i=3\/i=4\/i=5\/i=6\/i=7\/i=8\/i=9\/i=10:=by omega
      have ih':∀j,j<i->L.getD j false=true:=λj hj=>ih j hj (by omega);rcases h11 with rfl|rfl|rfl|rfl|rfl|rfl|rfl|rfl|rfl|rfl|rfl
      all_goals
       simp only[Bool.not_false,Bool.true_and,List.getElem?_toArray,List.getElem?_cons_zero,List.getElem?_cons_succ,Option.map_some,Option.getD_some,Array.all_toList,List.all_toArray,List.all_cons,List.all_nil,Bool.and_true,Bool.and_eq_true,Bool.or_eq_true];try simp[ih']
     rw[hr]at hm;cases hm
def Gz(n i:Nat):Am (Array.replicate n false) i=false:=by
 unfold Am;rw[Array.getD_eq_getD_getElem?,Array.getElem?_replicate];split<;>rfl
def IB{id:Nat} (H:EC b R {w with drawn:=w.drawn+1} x k1 v1 k2 v2 op t k fc wd Q) (hR:R false {w with drawn:=w.drawn+1})
 (hend:∀W m s v,({w with drawn:=w.drawn+1}:World).grownBy W (some b)->R true W->w.heap.size<=s->s<W.heap.size->RepL (λq=>w.heap.size<=q/\q≠s) W v x->Blk W s (Cl op v) 134->
  Q .normal {tmps:=(((((((t.setIfInBounds k (.map (some m))).setIfInBounds (k+1) (.map (some m))).setIfInBounds (k+2) (str wd)).setIfInBounds (k+3) (.int .i64 op)).setIfInBounds (k+4) (.pointer (some ⟨b,0,none⟩))).setIfInBounds (k+5) v).setIfInBounds (k+6) (.agg (Cl op v).toArray)).setIfInBounds 5 (.pointer (some ⟨s,0,none⟩)),defers:=[]} W):
 (Code.region id (Dt k fc tp k1 v1 k2 v2 pos) true).wp Tryz.prog Q {tmps:=t,defers:=[]} w:=by
 refine wp_region_any (by kernel_rfl) ?_;refine WD (I:=ED b R {w with drawn:=w.drawn+1} x (k1,.int .i64 v1) (k2,.int .i64 v2) op t k wd) ?_ ?_ _ _ _ _ (by simp) ?_ ?_
 ·rintro L a W hs ⟨hC,m,s,v,hW,hA⟩ i hi;have hs:L.size=11:=hs;have hN:=hC.next hs hi;obtain⟨hlt,hno,hd⟩:=MH hi;have hlt:i<11:=hlt;have ht:Am L i=false:=by
   unfold Am;have:L.getD i false=L.getD i true:=by simp[Array.getD_eq_getD_getElem?,hs,hlt]
   rw[this];exact hno
  have hc:∀a b,(a,b)∈GF->Am L b=false->Am L a=false:=by
   intro a b hab hb;cases h:Am L a with
   |false=>rfl
   | true=>
     have h2:=hC (a,b) hab h;simp only at h2;rw[hb]at h2;cases h2
  have hy:∀a b,(a,b)∈GF->a=i->Am L b=true:=by
   intro a b hab e;subst e;have h2:=hN (a,b) hab (by rw[Dw (by omega)];simp);simp only at h2;rw[Dw (by omega)]at h2;split at h2
   ·rename_i e;subst e;simp[GF]at hab;omega
   ·exact h2
  have h11:i=0\/i=1\/i=2\/i=3\/i=4\/i=5\/i=6\/i=7\/i=8\/i=9\/i=10:=by omega
  rcases h11 with rfl|rfl|rfl|rfl|rfl|rfl|rfl|rfl|rfl|rfl|rfl
  ·exact Uj H hs hN ht (hc 1 0 (by decide) ht) (hc 2 0 (by decide) ht) (hc 3 0 (by decide) ht) hW hA
  ·exact Uk H hs hN (hy 1 0 (by decide) rfl) ht hW hA
  ·exact Ul H hs hN (hy 2 0 (by decide) rfl) ht hW hA
  ·exact KI H hs (.inl rfl) hN (λ_=>hy 3 0 (by decide) rfl) hW hA
  ·exact KI H hs (.inr (.inl rfl)) hN (λe=>by cases e) hW hA
  ·have h3:=hy 5 3 (by decide) rfl;exact Um H hs hN (hC (3,0) (by decide) h3) (hC (3,1) (by decide) h3) (hC (3,2) (by decide) h3) h3 (hy 5 4 (by decide) rfl) hW hA
  ·exact KI H hs (.inr (.inr rfl)) hN (λe=>by cases e) hW hA
  ·have h8:=hc 8 7 (by decide) ht;exact Uo H hs hN (hy 7 6 (by decide) rfl) ht h8 (hc 10 8 (by decide) h8) hW hA
  ·exact Up H hs hN (hy 8 5 (by decide) rfl) (hy 8 7 (by decide) rfl) hW hA
  ·exact Uq H hs hN ht (hc 10 9 (by decide) ht) hW hA
  ·have h8:=hy 10 8 (by decide) rfl;have h5:=hC (8,5) (by decide) h8;have h3:=hC (5,3) (by decide) h5;exact Sx H hs hN (hC (3,0) (by decide) h3) (hC (8,7) (by decide) h8) h8 (hy 10 9 (by decide) rfl) ht hW hA
 ·rintro L a W hs ⟨hC,m,s,v,hW,hA⟩ hr;have hs:L.size=11:=hs;have hall:=Zi hs hr;obtain⟨s1,s2,s3,s4⟩:=hW.new (hall 9 (by omega));rw[hall 10 (by omega),if_pos rfl]at s4;have hr7:=hW.r;rw[hall 7 (by omega)]at hr7;have hval:=(hW.val (hall 7 (by omega))).mono (ok':=λq=>w.heap.size<=q/\q≠s) (λq hq _=>⟨hq.1,hq.2.2 (hall 9 (by omega))⟩);rw[hA.whole H.hk H.hs (λi hi=>hall i (Ui hi))];exact hend W m s v hW.g hr7 s1 s2 hval s4
 ·show(Ee _ _).length<=11;unfold Ee;exact nT (List.length_filter_le _ _) (by simp)
 ·refine⟨?_,0,0,undef,⟨Aa _ _,?_,?_,?_,?_⟩,⟨rfl,rfl,λj _=>rfl,?_⟩⟩
  ·intro p _ h;rw[Gz]at h;cases h
  ·rw[Gz];exact hR
  ·intro h;rw[Gz]at h;cases h
  ·intro h;rw[Gz]at h;cases h
  ·intro h;rw[Gz]at h;cases h
  ·intro i _ h;rw[Gz]at h;cases h
end
def De(b:Nat)(tv wo:Value)(l:List Tok)(hn:Al l)(day:Bs->Int)(n:Nat)(block:Rd l Bl)(wd:Bs):Prop:=
 ∀(w:World)(i:Nat),Glob w->Par w b tv wo l wordsL i->i<l.length->(Bw hn wordsL day n block wd).f i ≠ .out->Calls Tryz.prog 301 #[.pointer (some ⟨b,0,none⟩),str wd] w (Post b tv wo l wordsL w (VSt w) ((Bw hn wordsL day n block wd).f i))
def MF{W:World}{r:Res StB}(hb:b<w.heap.size)(g:w.grownBy W (some b))(hp:Par W b tv wo l wordsL i)(op:Int)(hr:r= .ok (sd0 op [],.nil) i)(o:Obj):
 Post b tv wo l wordsL w (VSt w) r (.returned (.agg #[.int .i64 op,str [],str [],.slice none 0 0,.slice none 0 0,.slice none 0 0,.int .i64 0,.slice none 0 0,.slice none 0 0,.slice none 0 0]))
  ((set10 W w.heap.size (.int .i64 op) (str []) (str []) (.slice none 0 0) (.slice none 0 0) (.slice none 0 0) (.int .i64 0) (.slice none 0 0) (.slice none 0 0) (.slice none 0 0)).alloc o):=by
 have g10:=DW W w.heap.size (.int .i64 op) (str []) (str []) (.slice none 0 0) (.slice none 0 0) (.slice none 0 0) (.int .i64 0) (.slice none 0 0) (.slice none 0 0) (.slice none 0 0);exact Post.ok (Ac (Aq g g10 (.inr (nR _))) o) hr ⟨none,none,none,none,none,none,0,0,0,0,0,0,rfl,⟨Cells.nil _ _ _,RepL.nil _ _,RepL.nil _ _,RepL.nil _ _,RepL.nil _ _⟩,RepV.nil _ _ _⟩ ((hp.gb g10 (by intro q e;cases e;omega)).alloc o)
section
variable {day:Bs->Int}{n:Nat}
abbrev zGak(Ψ:∀(b:Nat)(tv wo:Value)(l:List Tok)(day:Bs->Int)(n:Nat)(block:Rd l Bl)(hn:Al l),Prop):Prop:=∀{b:Nat}{tv wo:Value}{l:List Tok}{day:Bs->Int}{n:Nat}{block:Rd l Bl}(hn:Al l)(hnn:n<=90000)(hB:CQB b tv wo l block.f)(hE:CE 208 b tv wo l wordsL (Ak l day n))(hok:∀i,At (Ab l i))(hl:A0 l)(hgb:4<b),Ψ b tv wo l day n block hn
def zGal:(zGak λb tv wo l day n block hn=>De b tv wo l hn day n block Gs)/\(zGak λb tv wo l day n block hn=>De b tv wo l hn day n block Gc):=by
 refine⟨?a,?b⟩
 all_goals
  intro b tv wo l day n block hn hnn hB hE hok hl hgb;have HBk:=S hB;have HE:=S hE;have HTk:=S hok;have HSh:=S hl;clear hE hok hl hB;intro w i hg h hi ho;have HO:=S ho
 case' a=>
  generalize hR:(Bw hn wordsL day n block Gs).f i=R at*;replace hR:(D9 hn day n Gs).f (i+1)=R:=hR;have HQ:=S hR;have HGl:=S (X hg hgb);obtain⟨hb,hfew,c1,f1,HB0⟩:=D1 h hi;clear h ho hR hg;go_enter func301,ntmps301;go_upto_region 7 with fail;refine Az (λW=>Blk W w.heap.size (stC 0 (.slice none 0 0)) 134/\w.grownBy W (some b)/\Par W b tv wo l wordsL (i+1)) HB0.out ?_;rintro W0 ⟨hz,gz,hp⟩;have HZ:=S (X hz gz);have hl0:=hz.lt;clear hz gz HB0 c1 f1;have HC:=S (I6 hn (by omega) HE.1 HSh.1 hp Gs (λe=>HO.1 (by rw[<-HQ.1,e])))
 case' b=>
  generalize hR:(Bw hn wordsL day n block Gc).f i=R at*;replace hR:(D9 hn day n Gc).f (i+1)=R:=hR;have HQ:=S hR;have HGl:=S (X hg hgb);obtain⟨hb,hfew,c1,f1,HB0⟩:=D1 h hi;clear h ho hR hg;go_enter func301,ntmps301;go_upto_region 7 with fail;refine Az (λW=>Blk W w.heap.size (stC 0 (.slice none 0 0)) 134/\w.grownBy W (some b)/\Par W b tv wo l wordsL (i+1)) HB0.out ?_;rintro W0 ⟨hz,gz,hp⟩;have HZ:=S (X hz gz);have hl0:=hz.lt;clear hz gz HB0 c1 f1;have HC:=S (I6 hn (by omega) HE.1 HSh.1 hp Gc (λe=>HO.1 (by rw[<-HQ.1,e])))
 all_goals
  go_wp2_with fail;refine HC.1.mono ?_;intro e w4 hq;obtain⟨g,⟨q,hr,rfl⟩| ⟨s9,j9,v,hr,rfl,hv,hp9⟩⟩:=hq.split
  ·exact⟨rfl,Post.bad (Z HZ.1.2 g) (by rw[<-HQ.1,hr])⟩
  obtain⟨pa,xa,ba,na,fa,wa,pc,xc,bc,nc,fc,wc,rfl,hz9,hpp,hbk⟩:=Et hb HZ.1.1 HZ.1.2 g hv hp9 (HQ.1.symm.trans hr);have HE9:=S (X hpp hbk);have hkl9:=hz9.lt;have cz_:=hz9.c10;clear g hv hp9 hz9 hpp hbk hr;go_wp2;refine bZ ?hr9 rfl HE9.1.1
  case hr9=>exact A8 rfl _ HE9.1.2 rfl rfl
def zGaj:(zGak λb tv wo l day n block hn=>De b tv wo l hn day n block Gk)/\(zGak λb tv wo l day n block hn=>De b tv wo l hn day n block Gl)/\(zGak λb tv wo l day n block hn=>De b tv wo l hn day n block wIF)/\(zGak λb tv wo l day n block hn=>De b tv wo l hn day n block wDO)/\(zGak λb tv wo l day n block hn=>De b tv wo l hn day n block CS)/\(zGak λb tv wo l day n block hn=>De b tv wo l hn day n block GI):=by
 refine⟨?a,?b,?c,?d,?e,?f⟩
 all_goals
  intro b tv wo l day n block hn hnn hB hE hok hl hgb;have HBk:=S hB;have HE:=S hE;have HTk:=S hok;have HSh:=S hl;clear hE hok hl hB;intro w i hg h hi ho;have HO:=S ho
 case' a=>
  generalize hR:(Bw hn wordsL day n block Gk).f i=R at*;replace hR:(D9 hn day n Gk).f (i+1)=R:=hR;have HQ:=S hR;have HGl:=S (X hg hgb);obtain⟨hb,hfew,c1,f1,HB0⟩:=D1 h hi;clear h ho hR hg;go_enter func301,ntmps301;go_upto_region 7 with fail;refine Az (λW=>Blk W w.heap.size (stC 0 (.slice none 0 0)) 134/\w.grownBy W (some b)/\Par W b tv wo l wordsL (i+1)) HB0.out ?_;rintro W0 ⟨hz,gz,hp⟩;have HZ:=S (X hz gz);have hl0:=hz.lt;clear hz gz HB0 c1 f1;have HC:=S (I6 hn (by omega) HE.1 HSh.1 hp Gk (λe=>HO.1 (by rw[<-HQ.1,e])))
 case' b=>
  generalize hR:(Bw hn wordsL day n block Gl).f i=R at*;replace hR:(D9 hn day n Gl).f (i+1)=R:=hR;have HQ:=S hR;have HGl:=S (X hg hgb);obtain⟨hb,hfew,c1,f1,HB0⟩:=D1 h hi;clear h ho hR hg;go_enter func301,ntmps301;go_upto_region 7 with fail;refine Az (λW=>Blk W w.heap.size (stC 0 (.slice none 0 0)) 134/\w.grownBy W (some b)/\Par W b tv wo l wordsL (i+1)) HB0.out ?_;rintro W0 ⟨hz,gz,hp⟩;have HZ:=S (X hz gz);have hl0:=hz.lt;clear hz gz HB0 c1 f1;have HC:=S (I6 hn (by omega) HE.1 HSh.1 hp Gl (λe=>HO.1 (by rw[<-HQ.1,e])))
 case' c=>
  generalize hR:(Bw hn wordsL day n block wIF).f i=R at*;replace hR:(Ew hn wordsL day n block Jx JC J3).f (i+1)=R:=hR;have HQ:=S hR;have HGl:=S (X hg hgb);obtain⟨hb,hfew,c1,f1,HB0⟩:=D1 h hi;clear h ho hR hg;go_enter func301,ntmps301;go_upto_region 10 with fail;refine Az (λW=>Blk W w.heap.size (stC 0 (.slice none 0 0)) 134/\w.grownBy W (some b)/\Par W b tv wo l wordsL (i+1)) HB0.out ?_;rintro W0 ⟨hz,gz,hp⟩;have HZ:=S (X hz gz);have hl0:=hz.lt;clear hz gz HB0 c1 f1;have HC:=S (Md (more:=Jx) (other:=JC) (last:=J3) hn (by omega) HBk.1 HE.1 HTk.1 (BW HGl.1.1 HGl.1.2 HZ.1.2) HGl.1.2 (by decide) (by decide) (by decide) hp (λe=>HO.1 (by rw[<-HQ.1,e])))
 case' d=>
  generalize hR:(Bw hn wordsL day n block wDO).f i=R at*;replace hR:(doP hn wordsL day n block).f (i+1)=R:=hR;have HQ:=S hR;have HGl:=S (X hg hgb);obtain⟨hb,hfew,c1,f1,HB0⟩:=D1 h hi;clear h ho hR hg;go_enter func301,ntmps301;go_upto_region 13 with fail;refine Az (λW=>Blk W w.heap.size (stC 0 (.slice none 0 0)) 134/\w.grownBy W (some b)/\Par W b tv wo l wordsL (i+1)) HB0.out ?_;rintro W0 ⟨hz,gz,hp⟩;have HZ:=S (X hz gz);have hl0:=hz.lt;clear hz gz HB0 c1 f1;have HC:=S (Y7 hn (by omega) HBk.1 HE.1 HTk.1 HSh.1 (BW HGl.1.1 HGl.1.2 HZ.1.2) HGl.1.2 hp (λe=>HO.1 (by rw[<-HQ.1,e])))
 case' e=>
  generalize hR:(Bw hn wordsL day n block CS).f i=R at*;replace hR:(EU hn wordsL day n block).f (i+1)=R:=hR;have HQ:=S hR;have HGl:=S (X hg hgb);obtain⟨hb,hfew,c1,f1,HB0⟩:=D1 h hi;clear h ho hR hg;go_enter func301,ntmps301;go_upto_region 16 with fail;refine Az (λW=>Blk W w.heap.size (stC 0 (.slice none 0 0)) 134/\w.grownBy W (some b)/\Par W b tv wo l wordsL (i+1)) HB0.out ?_;rintro W0 ⟨hz,gz,hp⟩;have HZ:=S (X hz gz);have hl0:=hz.lt;clear hz gz HB0 c1 f1;have HC:=S (VC hn HBk.1 HE.1 HTk.1 HSh.1 (BW HGl.1.1 HGl.1.2 HZ.1.2) HGl.1.2 hp (λe=>HO.1 (by rw[<-HQ.1,e])))
 case' f=>
  generalize hR:(Bw hn wordsL day n block GI).f i=R at*;replace hR:(EN hn wordsL block).f (i+1)=R:=hR;have HQ:=S hR;have HGl:=S (X hg hgb);obtain⟨hb,hfew,c1,f1,HB0⟩:=D1 h hi;clear h ho hR hg;go_enter func301,ntmps301;go_upto_region 30 with fail;refine Az (λW=>Blk W w.heap.size (stC 0 (.slice none 0 0)) 134/\w.grownBy W (some b)/\Par W b tv wo l wordsL (i+1)) HB0.out ?_;rintro W0 ⟨hz,gz,hp⟩;have HZ:=S (X hz gz);have hl0:=hz.lt;clear hz gz HB0 c1 f1;have HC:=S (SJ hn HBk.1 HTk.1 HSh.1 (BW HGl.1.1 HGl.1.2 HZ.1.2) HGl.1.2 hp (λe=>HO.1 (by rw[<-HQ.1,e])))
 all_goals
  go_wp2_with fail;refine HC.1.mono ?_;intro e w4 hq;obtain⟨g,⟨q,hr,rfl⟩| ⟨s9,j9,v,hr,rfl,hv,hp9⟩⟩:=hq.split
  ·exact⟨rfl,Post.bad (Z HZ.1.2 g) (by rw[<-HQ.1,hr])⟩
  obtain⟨pa,xa,ba,na,fa,wa,pc,xc,bc,nc,fc,wc,rfl,hz9,hpp,hbk⟩:=Et hb HZ.1.1 HZ.1.2 g hv hp9 (HQ.1.symm.trans hr);have HE9:=S (X hpp hbk);have hkl9:=hz9.lt;have cz_:=hz9.c10;clear g hv hp9 hz9 hpp hbk hr;go_wp2;refine bZ ?hr9 rfl HE9.1.1
  case hr9=>exact A8 rfl _ HE9.1.2 rfl rfl
def VB{block:Rd l Bl}(hn:Al l)(hnn:n<=90000)(hB:CQB b tv wo l block.f)(hE:CE 208 b tv wo l wordsL (Ak l day n))(hok:∀i,At (Ab l i))(hl:A0 l)(hgb:4<b):De b tv wo l hn day n block Fb:=by
 have HBk:=S hB;have HE:=S hE;have HTk:=S hok;have HSh:=S hl;clear hE hok hl hB;intro w i hg h hi ho;have HO:=S ho;generalize hR:(Bw hn wordsL day n block Fb).f i=R at*;replace hR:(Rd.fin.bind λ_=>Rd.pure (sd0 6 [],Bl.nil)).f (i+1)=R:=hR;have HQ:=S hR;have HGl:=S (X hg hgb);obtain⟨hb,hfew,c1,f1,HB0⟩:=D1 h hi;clear h ho hR hg;go_enter func301,ntmps301;go_upto_region 20 with fail;refine Az (λW=>Blk W w.heap.size (stC 0 (.slice none 0 0)) 134/\w.grownBy W (some b)/\Par W b tv wo l wordsL (i+1)) HB0.out ?_;rintro W0 ⟨hz,gz,hp⟩;have HZ:=S (X hz gz);have hl0:=hz.lt;clear hz gz HB0 c1 f1;rw[Rd.fin_f]at HQ;go_wp2_with fail;refine(AY hp).mono ?_;intro e w2 hq;obtain⟨g,⟨q,hr,rfl⟩| ⟨u,i2,v,hr,rfl,rfl,hp9⟩⟩:=hq.split
 ·exact PBd HZ.1.2 g HQ hr
 replace HZ:=S (X (HZ.1.1.gb g (by simp;omega)) (Z HZ.1.2 g));replace hp:=hp9;clear hp9;replace HQ:=HQo HQ hr;clear hr g;rw[Rd.pure_f]at HQ;have hz2:=HZ.1.1;have HE9:=S (X hz2 (X HZ.1.2 hp));have hkl2:=hz2.lt;have cz_:=hz2.c10;have hmm:=Jn;have hup:=KZ;have hfn:=JY;have hfc:=JN;have hap1:∀x:List (Bs×Value),[]++x=x:=λ_=>rfl;have hap2:∀(a:Bs×Value)(l m:List (Bs×Value)),(a::l)++m=a::(l++m):=λ_ _ _=>rfl;have hlk:(Instr.lookup 68 (.map (some w2.heap.size)) (.string ⟨#[76,79,79,80]⟩) false).run Tryz.prog (w2.alloc (AM [([76,79,79,80],.int .i64 6),([69,88,73,84],.int .i64 7)]))= .ok (.int .i64 6) (w2.alloc (AM [(Fb,.int .i64 6),(Fa,.int .i64 7)])):=Ku (Ep _ _ _ rfl) Fb;clear hz2 HZ hp;go_wp2;refine bZ ?hr9 rfl (MF hb HE9.1.2.1 HE9.1.2.2 6 HQ.1.symm _)
 case hr9=>exact A8 rfl _ ((HE9.1.1.set10 (.int .i64 6) (str []) (str []) (.slice none 0 0) (.slice none 0 0) (.slice none 0 0) (.int .i64 0) (.slice none 0 0) (.slice none 0 0) (.slice none 0 0)).alloc _) rfl rfl
def VA{block:Rd l Bl}(hn:Al l)(hnn:n<=90000)(hB:CQB b tv wo l block.f)(hE:CE 208 b tv wo l wordsL (Ak l day n))(hok:∀i,At (Ab l i))(hl:A0 l)(hgb:4<b):De b tv wo l hn day n block Fa:=by
 have HBk:=S hB;have HE:=S hE;have HTk:=S hok;have HSh:=S hl;clear hE hok hl hB;intro w i hg h hi ho;have HO:=S ho;generalize hR:(Bw hn wordsL day n block Fa).f i=R at*;replace hR:(Rd.fin.bind λ_=>Rd.pure (sd0 7 [],Bl.nil)).f (i+1)=R:=hR;have HQ:=S hR;have HGl:=S (X hg hgb);obtain⟨hb,hfew,c1,f1,HB0⟩:=D1 h hi;clear h ho hR hg;go_enter func301,ntmps301;go_upto_region 20 with fail;refine Az (λW=>Blk W w.heap.size (stC 0 (.slice none 0 0)) 134/\w.grownBy W (some b)/\Par W b tv wo l wordsL (i+1)) HB0.out ?_;rintro W0 ⟨hz,gz,hp⟩;have HZ:=S (X hz gz);have hl0:=hz.lt;clear hz gz HB0 c1 f1;rw[Rd.fin_f]at HQ;go_wp2_with fail;refine(AY hp).mono ?_;intro e w2 hq;obtain⟨g,⟨q,hr,rfl⟩| ⟨u,i2,v,hr,rfl,rfl,hp9⟩⟩:=hq.split
 ·exact PBd HZ.1.2 g HQ hr
 replace HZ:=S (X (HZ.1.1.gb g (by simp;omega)) (Z HZ.1.2 g));replace hp:=hp9;clear hp9;replace HQ:=HQo HQ hr;clear hr g;rw[Rd.pure_f]at HQ;have hz2:=HZ.1.1;have HE9:=S (X hz2 (X HZ.1.2 hp));have hkl2:=hz2.lt;have cz_:=hz2.c10;have hmm:=Jn;have hup:=KZ;have hfn:=JY;have hfc:=JN;have hap1:∀x:List (Bs×Value),[]++x=x:=λ_=>rfl;have hap2:∀(a:Bs×Value)(l m:List (Bs×Value)),(a::l)++m=a::(l++m):=λ_ _ _=>rfl;have hlk:(Instr.lookup 68 (.map (some w2.heap.size)) (.string ⟨#[69,88,73,84]⟩) false).run Tryz.prog (w2.alloc (AM [([76,79,79,80],.int .i64 6),([69,88,73,84],.int .i64 7)]))= .ok (.int .i64 7) (w2.alloc (AM [(Fb,.int .i64 6),(Fa,.int .i64 7)])):=Ku (Ep _ _ _ rfl) Fa;clear hz2 HZ hp;go_wp2;refine bZ ?hr9 rfl (MF hb HE9.1.2.1 HE9.1.2.2 7 HQ.1.symm _)
 case hr9=>exact A8 rfl _ ((HE9.1.1.set10 (.int .i64 7) (str []) (str []) (.slice none 0 0) (.slice none 0 0) (.slice none 0 0) (.int .i64 0) (.slice none 0 0) (.slice none 0 0) (.slice none 0 0)).alloc _) rfl rfl
def Rn{block:Rd l Bl}(hn:Al l)(hnn:n<=90000)(hB:CQB b tv wo l block.f)(hE:CE 208 b tv wo l wordsL (Ak l day n))(hok:∀i,At (Ab l i))(hl:A0 l)(hgb:4<b):De b tv wo l hn day n block D8:=by
 have HBk:=S hB;have HE:=S hE;have HTk:=S hok;have HSh:=S hl;clear hE hok hl hB;intro w i hg h hi ho;have HO:=S ho;generalize hR:(Bw hn wordsL day n block D8).f i=R at*;replace hR:(D2 l (Ak l day n) (i+1)).bind (λf k=>(Rd.fin.bind λ_=>Rd.pure ({sd0 8 []with x:=f},Bl.nil)).f k)=R:=hR;have HQ:=S hR;have HGl:=S (X hg hgb);obtain⟨hb,hfew,c1,f1,HB0⟩:=D1 h hi;clear h ho hR hg;go_enter func301,ntmps301;go_upto_region 25 with fail;refine Az (λW=>Blk W w.heap.size (stC 0 (.slice none 0 0)) 134/\w.grownBy W (some b)/\Par W b tv wo l wordsL (i+1)) HB0.out ?_;rintro W0 ⟨hz,gz,hp⟩;have HZ:=S (X hz gz);have hl0:=hz.lt;clear hz gz HB0 c1 f1;have HPP:=S hp;clear hp;cases hr6:D2 l (Ak l day n) (i+1)with
 |out=>exact absurd (HQu HQ hr6) HO.1
 | bad q6=>
   refine IB (b := b) (R :=λc W => if c then False else Par W b tv wo l wordsL (i + 1)) (x := .nil) (k1 := D8) (v1 := 8) (k2 := DM) (v2 := 12) (op := 8) (k := 83) (fc := 327) (tp := 255) (wd := D8) (pos := "parse.go:232")
    ⟨?_,by have:=HPP.1.lt;exact this,by omega,by simp,rfl,rfl,by decide,.inl ⟨rfl,rfl⟩,λ_ _=>by kernel_rfl,λW gW hR=>?_⟩ (HPP.1.gbN (Ad (Aa _ _))) ?_
   ·intro c W W' o hR g ho;cases c with
    |true=>exact hR.elim
    |false=>exact Par.gb (show Par W b tv wo l wordsL (i+1)from hR) g ho
   ·refine(FQ HE.1 (show Par W b tv wo l wordsL (i+1)from hR) (by rw[hr6];simp)).mono ?_;intro e w3 hq;rw[hr6]at hq;obtain⟨g3,rfl⟩:=hq;exact .inr ⟨_,rfl,λa ha=>⟨ha,Post.bad (Z (Z (Ad HZ.1.2) gW) g3) (HQb HQ hr6)⟩⟩
   ·intro W m s v g hR;exact hR.elim
 |ok f j=>
 rw[hr6,Res.bind_ok,Rd.fin_f]at HQ;refine IB (b := b) (R :=λc W => Par W b tv wo l wordsL (if c then j else i + 1)) (x := f) (k1 := D8) (v1 := 8) (k2 := DM) (v2 := 12) (op := 8) (k := 83) (fc := 327) (tp := 255) (wd := D8) (pos := "parse.go:232")
  ⟨λ_ _ _ _ h g ho=>h.gb g ho,by have:=HPP.1.lt;exact this,by omega,by simp,rfl,rfl,by decide,.inl ⟨rfl,rfl⟩,λ_ _=>by kernel_rfl,λW gW hR=>?_⟩ (HPP.1.gbN (Ad (Aa _ _))) ?_
 ·refine(FQ HE.1 (show Par W b tv wo l wordsL (i+1)from hR) (by rw[hr6];simp)).mono ?_;intro e w3 hq;rw[hr6]at hq;obtain⟨g3,v,rfl,⟨fa,fc,rfl,hF⟩,h3⟩:=hq;exact .inl ⟨_,rfl,g3,hF,h3⟩
 ·intro W m s v g hR hs1 hs2 hV hB;simp only[List.setIfInBounds_toArray,List.set_cons_succ,List.set_cons_zero];obtain⟨_,⟨va,vc,rfl,_⟩,_⟩:=id hV;have gW:W0.grownBy W (some b):=Z (Ad (Aa W0 _)) g;have hp:Par W b tv wo l wordsL j:=hR;have hK:KS b w s W {sd0 8 []with x:=f} .nil (.slice none 0 0) (.slice va f.len vc) (.slice none 0 0) (.slice none 0 0) (.slice none 0 0) (.slice none 0 0):=
   ⟨hB,Cells.nil _ _ _,hV.mono (λq hq _=>⟨by have:=hq.1;omega,hq.2⟩),RepV.nil _ _ _,RepL.nil _ _,RepL.nil _ _,RepL.nil _ _,Z HZ.1.2 gW,hb,by omega,HZ.1.1.gb gW (by simp;omega)⟩
  have HK:=S hK;clear hK hV hB g gW hR;go_wp2_with fail;refine(AY hp).mono ?_;intro e w5 hq;obtain⟨g,⟨q,hr,rfl⟩| ⟨u,i5,v,hr,rfl,rfl,hp9⟩⟩:=hq.split
  ·exact PBd HK.1.gr g HQ hr
  replace HK:=S (HK.1.gb g);replace hp:=hp9;clear hp9;replace HQ:=HQo HQ hr;clear hr g;rw[Rd.pure_f]at HQ;obtain⟨pa9,xa9,ba9,na9,fa9,wa9,pc9,xc9,bc9,nc9,fc9,wc9,e91,e92,e93,e94,e95,e96⟩:=HK.1.shapes
  (first|cases e91|clear e91);(first|cases e92|clear e92);(first|cases e93|clear e93);(first|cases e94|clear e94);(first|cases e95|clear e95);(first|cases e96|clear e96);have hkb:=HK.1.blk;have hkz:=HK.1.zero;have hkl:=hkb.lt;have hkl2:=hkz.lt;have ck_:=hkb.c10;have cz_:=hkz.c10;clear hkb hkz;go_wp2;have hres9:=C1 HK.1 hp HQ.1.symm;have hblk9:=HK.1.out.2.2.1;refine bZ ?hr9 rfl hres9
  case hr9=>exact A8 rfl _ hblk9 rfl rfl
def SM{block:Rd l Bl}(hn:Al l)(hnn:n<=90000)(hB:CQB b tv wo l block.f)(hE:CE 208 b tv wo l wordsL (Ak l day n))(hok:∀i,At (Ab l i))(hl:A0 l)(hgb:4<b):De b tv wo l hn day n block DM:=by
 have HBk:=S hB;have HE:=S hE;have HTk:=S hok;have HSh:=S hl;clear hE hok hl hB;intro w i hg h hi ho;have HO:=S ho;generalize hR:(Bw hn wordsL day n block DM).f i=R at*;replace hR:(D2 l (Ak l day n) (i+1)).bind (λf k=>(Rd.fin.bind λ_=>Rd.pure ({sd0 12 []with x:=f},Bl.nil)).f k)=R:=hR;have HQ:=S hR;have HGl:=S (X hg hgb);obtain⟨hb,hfew,c1,f1,HB0⟩:=D1 h hi;clear h ho hR hg;go_enter func301,ntmps301;go_upto_region 25 with fail;refine Az (λW=>Blk W w.heap.size (stC 0 (.slice none 0 0)) 134/\w.grownBy W (some b)/\Par W b tv wo l wordsL (i+1)) HB0.out ?_;rintro W0 ⟨hz,gz,hp⟩;have HZ:=S (X hz gz);have hl0:=hz.lt;clear hz gz HB0 c1 f1;have HPP:=S hp;clear hp;cases hr6:D2 l (Ak l day n) (i+1)with
 |out=>exact absurd (HQu HQ hr6) HO.1
 | bad q6=>
   refine IB (b := b) (R :=λc W => if c then False else Par W b tv wo l wordsL (i + 1)) (x := .nil) (k1 := D8) (v1 := 8) (k2 := DM) (v2 := 12) (op := 12) (k := 83) (fc := 327) (tp := 255) (wd := DM) (pos := "parse.go:232")
    ⟨?_,by have:=HPP.1.lt;exact this,by omega,by simp,rfl,rfl,by decide,.inr ⟨rfl,rfl⟩,λ_ _=>by kernel_rfl,λW gW hR=>?_⟩ (HPP.1.gbN (Ad (Aa _ _))) ?_
   ·intro c W W' o hR g ho;cases c with
    |true=>exact hR.elim
    |false=>exact Par.gb (show Par W b tv wo l wordsL (i+1)from hR) g ho
   ·refine(FQ HE.1 (show Par W b tv wo l wordsL (i+1)from hR) (by rw[hr6];simp)).mono ?_;intro e w3 hq;rw[hr6]at hq;obtain⟨g3,rfl⟩:=hq;exact .inr ⟨_,rfl,λa ha=>⟨ha,Post.bad (Z (Z (Ad HZ.1.2) gW) g3) (HQb HQ hr6)⟩⟩
   ·intro W m s v g hR;exact hR.elim
 |ok f j=>
 rw[hr6,Res.bind_ok,Rd.fin_f]at HQ;refine IB (b := b) (R :=λc W => Par W b tv wo l wordsL (if c then j else i + 1)) (x := f) (k1 := D8) (v1 := 8) (k2 := DM) (v2 := 12) (op := 12) (k := 83) (fc := 327) (tp := 255) (wd := DM) (pos := "parse.go:232")
  ⟨λ_ _ _ _ h g ho=>h.gb g ho,by have:=HPP.1.lt;exact this,by omega,by simp,rfl,rfl,by decide,.inr ⟨rfl,rfl⟩,λ_ _=>by kernel_rfl,λW gW hR=>?_⟩ (HPP.1.gbN (Ad (Aa _ _))) ?_
 ·refine(FQ HE.1 (show Par W b tv wo l wordsL (i+1)from hR) (by rw[hr6];simp)).mono ?_;intro e w3 hq;rw[hr6]at hq;obtain⟨g3,v,rfl,⟨fa,fc,rfl,hF⟩,h3⟩:=hq;exact .inl ⟨_,rfl,g3,hF,h3⟩
 ·intro W m s v g hR hs1 hs2 hV hB;simp only[List.setIfInBounds_toArray,List.set_cons_succ,List.set_cons_zero];obtain⟨_,⟨va,vc,rfl,_⟩,_⟩:=id hV;have gW:W0.grownBy W (some b):=Z (Ad (Aa W0 _)) g;have hp:Par W b tv wo l wordsL j:=hR;have hK:KS b w s W {sd0 12 []with x:=f} .nil (.slice none 0 0) (.slice va f.len vc) (.slice none 0 0) (.slice none 0 0) (.slice none 0 0) (.slice none 0 0):=
   ⟨hB,Cells.nil _ _ _,hV.mono (λq hq _=>⟨by have:=hq.1;omega,hq.2⟩),RepV.nil _ _ _,RepL.nil _ _,RepL.nil _ _,RepL.nil _ _,Z HZ.1.2 gW,hb,by omega,HZ.1.1.gb gW (by simp;omega)⟩
  have HK:=S hK;clear hK hV hB g gW hR;go_wp2_with fail;refine(AY hp).mono ?_;intro e w5 hq;obtain⟨g,⟨q,hr,rfl⟩| ⟨u,i5,v,hr,rfl,rfl,hp9⟩⟩:=hq.split
  ·exact PBd HK.1.gr g HQ hr
  replace HK:=S (HK.1.gb g);replace hp:=hp9;clear hp9;replace HQ:=HQo HQ hr;clear hr g;rw[Rd.pure_f]at HQ;obtain⟨pa9,xa9,ba9,na9,fa9,wa9,pc9,xc9,bc9,nc9,fc9,wc9,e91,e92,e93,e94,e95,e96⟩:=HK.1.shapes
  (first|cases e91|clear e91);(first|cases e92|clear e92);(first|cases e93|clear e93);(first|cases e94|clear e94);(first|cases e95|clear e95);(first|cases e96|clear e96);have hkb:=HK.1.blk;have hkz:=HK.1.zero;have hkl:=hkb.lt;have hkl2:=hkz.lt;have ck_:=hkb.c10;have cz_:=hkz.c10;clear hkb hkz;go_wp2;have hres9:=C1 HK.1 hp HQ.1.symm;have hblk9:=HK.1.out.2.2.1;refine bZ ?hr9 rfl hres9
  case hr9=>exact A8 rfl _ hblk9 rfl rfl
def Nh(hw:saidWords.contains wd=false)(h:Par w b tv wo l wordsL i){C:Res Sd}
 (hC:∀W,Par W b tv wo l wordsL i->Calls Tryz.prog 329 #[.pointer (some ⟨b,0,none⟩),str wd] W (Post b tv wo l wordsL W (VSd W) C)):
 Calls Tryz.prog 301 #[.pointer (some ⟨b,0,none⟩),str wd] w (Post b tv wo l wordsL w (VSt w) (C.bind λs j=>(B3 l j).bind λ_ k=> .ok (s,.nil) k)):=by
 have hn:∀v,v∈saidWords->(wd==v)=false:=by
  intro v hv;have:wd≠v:=by
   rintro rfl;rw[List.contains_eq_mem]at hw;simp[hv]at hw
  simpa using this
 have hw0:=hn Gs (by decide);have hw1:=hn Gc (by decide);have hw2:=hn Gk (by decide);have hw3:=hn Gl (by decide);have hw4:=hn wIF (by decide);have hw5:=hn wDO (by decide);have hw6:=hn CS (by decide);have hw7:=hn Fb (by decide);have hw8:=hn Fa (by decide);have hw9:=hn D8 (by decide);have hw10:=hn DM (by decide);have hw11:=hn GI (by decide);clear hn hw;have hb:=h.lt;generalize hR:(C.bind λs j=>(B3 l j).bind λ_ k=>Res.ok (s,Bl.nil) k)=R;have HQ:=S hR;have HZ:=S (X (Blk.new w (stC 0 (.slice none 0 0)) 134) (show w.grownBy (w.alloc (.cells (stC 0 (.slice none 0 0)).toArray 134 (0,0))) (some b)from Ac (Aa _ _) _));have hl0:=HZ.1.1.lt;have HC:=S (hC _ (h.alloc (.cells (stC 0 (.slice none 0 0)).toArray 134 (0,0))));clear hC h hR;go_enter func301,ntmps301;go_wp2_with fail;refine HC.1.mono ?_;intro e w2 hq;obtain⟨g,⟨q,hr,rfl⟩| ⟨s,j,v,hr,rfl,⟨pa,xa,na,fa,wa,ba,pc,xc,nc,fc,wc,bc,rfl,k1,k2⟩,hp⟩⟩:=hq.split
 ·exact PBd HZ.1.2 g HQ hr
 replace HQ:=HQo HQ hr;clear hr;have HK:=S (KS.ofV (HZ.1.1.gb g (by simp;omega)) (Z HZ.1.2 g) hb hl0 k1 k2);have hp2:=hp.alloc (.cells (sdC s (.slice pa s.p.length pc) (.slice xa s.x.len xc) (.slice ba (Bl.nil).len bc) (.slice na s.n.len nc) (.slice fa s.f.len fc) (.slice wa s.w.len wc)).toArray 134 (0,0));replace hp:=hp2;clear g k1 k2 hp2 HC HZ;simp only[sdC];go_wp2_with fail;refine(AY hp).mono ?_;intro e w3 hq;obtain⟨g,⟨q,hr,rfl⟩| ⟨u,i3,v,hr,rfl,rfl,hp9⟩⟩:=hq.split
 ·exact PBd HK.1.gr g HQ hr
 replace HK:=S (HK.1.gb g);replace hp:=hp9;clear hp9;replace HQ:=HQo HQ hr;clear hr g;obtain⟨pa9,xa9,ba9,na9,fa9,wa9,pc9,xc9,bc9,nc9,fc9,wc9,e91,e92,e93,e94,e95,e96⟩:=HK.1.shapes
 (first|cases e91|clear e91);(first|cases e92|clear e92);(first|cases e93|clear e93);(first|cases e94|clear e94);(first|cases e95|clear e95);(first|cases e96|clear e96);have hkb:=HK.1.blk;have hkz:=HK.1.zero;have hkl:=hkb.lt;have hkl2:=hkz.lt;have ck_:=hkb.c10;have cz_:=hkz.c10;clear hkb hkz;go_wp2;have hres9:=C1 HK.1 hp HQ.1.symm;have hblk9:=HK.1.out.2.2.1;refine bZ ?hr9 rfl hres9
 case hr9=>exact A8 rfl _ hblk9 rfl rfl
def SO{block:Rd l Bl}(hn:Al l)(hnn:n<=90000)(hE:CE 208 b tv wo l wordsL (Ak l day n))(hok:∀i,At (Ab l i))(hl:A0 l)(hw:saidWords.contains wd=false):De b tv wo l hn day n block wd:=by
 intro w i _ h hi ho;have hne:∀v,v∈saidWords->wd≠v:=by
  rintro v hv rfl;rw[List.contains_eq_mem]at hw;simp[hv]at hw
 have e:(Bw hn wordsL day n block wd).f i=(if cmdWords.contains wd then(BA hn wordsL day n wd).f (i+1)else .bad i).bind λs j=>(B3 l j).bind λ_ k=> .ok (s,.nil) k:=by
  unfold Bw;rw[if_neg (by rintro(h|h|h|h)<;>exact hne _ (by decide) h),if_neg (hne wIF (by decide)),if_neg (hne wDO (by decide)),if_neg (hne CS (by decide)),if_neg (hne Fb (by decide)),if_neg (hne Fa (by decide)),if_neg (hne D8 (by decide)),if_neg (hne DM (by decide)),if_neg (hne GI (by decide))];cases hc:cmdWords.contains wd with
  |true=>rw[if_pos rfl,if_pos rfl];rfl
  |false=>rw[if_neg (by simp),if_neg (by simp)];rfl
 rw[e]at ho ⊢;cases hc:cmdWords.contains wd with
 | true=>
   rw[hc,if_pos rfl]at ho;rw[if_pos rfl];exact Nh hw h (λW hW=>Qg hn (by omega) hE hok hl hc W i hW hi (λe=>ho (by rw[e];rfl)))
 | false=>
   rw[if_neg (by simp)];refine Nh hw h (λW hW=>(Xc wd hc hW hi).mono ?_);rintro e w' ⟨rfl,g⟩;exact Post.bad g rfl
def SP{block:Rd l Bl}(hn:Al l)(hnn:n<=90000)(hB:CQB b tv wo l block.f)(hE:CE 208 b tv wo l wordsL (Ak l day n))(hok:∀i,At (Ab l i))(hl:A0 l)(hgb:4<b)(wd:Bs):De b tv wo l hn day n block wd:=by
 cases hw:saidWords.contains wd with
 |false=>exact SO hn hnn hE hok hl hw
 | true=>
   have hm:wd∈saidWords:=by simpa using hw
   simp only[saidWords,List.mem_cons,List.not_mem_nil,or_false]at hm;rcases hm with rfl|rfl|rfl|rfl|rfl|rfl|rfl|rfl|rfl|rfl|rfl|rfl
   ·exact zGal.1 hn hnn hB hE hok hl hgb
   ·exact zGal.2 hn hnn hB hE hok hl hgb
   ·exact zGaj.1 hn hnn hB hE hok hl hgb
   ·exact zGaj.2.1 hn hnn hB hE hok hl hgb
   ·exact zGaj.2.2.1 hn hnn hB hE hok hl hgb
   ·exact zGaj.2.2.2.1 hn hnn hB hE hok hl hgb
   ·exact zGaj.2.2.2.2.1 hn hnn hB hE hok hl hgb
   ·exact VB hn hnn hB hE hok hl hgb
   ·exact VA hn hnn hB hE hok hl hgb
   ·exact Rn hn hnn hB hE hok hl hgb
   ·exact SM hn hnn hB hE hok hl hgb
   ·exact zGaj.2.2.2.2.2 hn hnn hB hE hok hl hgb
end
end Go.Proofs.YtbjfaimkiclhgaaGreatDoor
