/-
  slices.Clone and slices.Contains at rows of texts. Rows of expressions that are looked through: slices.IndexFunc, slices.ContainsFunc, areExprs. sameExprs of the program: slices.EqualFunc over SameExp
-/
import Derived.Test.YtgjdhajcnechdaaGreatDoorSv10
import Derived.Test.YtgjdhajcnechdaaGreatDoorPlain
import Derived.Test.YtgjdhajcnechdaaGreatDoorSv09
import Derived.Test.YtgjdhajcnechdaaGreatDoorSv05
import Derived.OpenShut
import Derived.SliceStrings
set_option linter.all false
set_option maxRecDepth 100000
set_option maxHeartbeats 8000000
namespace Go.Proofs.YtgjdhajcnechdaaGreatDoor
open Go.Proofs.Tryz
open Go.RowKit
theorem Below.gbN{w w':World}(h:Below w.heap.size w w'):w.grownBy w' none:=⟨h.os,h.tape,h.output,h.size,fun k hk _=>h.block k hk⟩
section
variable {w:World}{l:List Bs}{pa:Option Addr}{pc:Nat}{ok:Nat→Prop}
theorem Cells.strs(h:Cells w (.slice pa l.length pc) 1 l.length (l.map str) ok)(hl:0<l.length):∃g o,pa=some ⟨g,o,none⟩∧∀j,j<l.length→w.cell? ⟨g,o+j,none⟩=some (.string ((l.map fun x=>(⟨x.toArray⟩:ByteArray)).getD j ByteArray.empty)):=by
 have SR:=SRow.of_cells h;obtain⟨a,cap,e,_,_,hat⟩:=SR;cases e;obtain⟨g,o,rfl,_,_⟩:=hat 0 hl;refine⟨g,o,rfl,fun j hj=>?_⟩;obtain⟨g',o',e,_,c⟩:=hat j hj;cases e;rw[c];simp[List.getD,hj]
theorem EZ(h:Cells w (.slice pa l.length pc) 1 l.length (l.map str) ok)(hl:l.length≤8000000):
 Calls Tryz.prog 54 #[.slice pa l.length pc] w fun e w'=>∃v,e= .returned v∧w'.ownsRow w.heap.size 9 1 v l.length (l.map str)∧w.grownBy w' none:=by
 rcases Nat.eq_zero_or_pos l.length with h0|h0
 ·have e0:l=[]:=List.eq_nil_of_length_eq_zero h0;subst e0;cases pa with
  | none=>
    refine(slices_Clone_string_nil 0 pc w).mono ?_;rintro e w' ⟨rfl,rfl⟩;exact⟨_,rfl,World.ownsRow_nil _ _ _ _,Ac _ _⟩
  | some a=>
    refine(slices_Clone_string_zero a pc w).mono ?_;rintro e w' ⟨v,rfl,h1,_,h2⟩;exact⟨v,rfl,h1,Below.gbN h2⟩
 ·obtain⟨g,o,rfl,hc⟩:=h.strs h0;refine(slices_Clone_string g o l.length pc (l.map fun x=>⟨x.toArray⟩) w (by simp) (by omega) (fun j hj=>hc j (by simpa using hj))).mono ?_;rintro e w' ⟨v,rfl,h1,_,h2⟩;refine⟨v,rfl,?_,Below.gbN h2⟩;rw[List.take_of_length_le (by simp),List.map_map]at h1;exact h1
theorem Ks(L:List Bs)(s:Bs):Lib.containsS (L.map fun x=>⟨x.toArray⟩) ⟨s.toArray⟩=L.contains s:=by
 rw[Bool.eq_iff_iff,Lib.containsS_iff,List.contains_iff_mem,List.mem_map];constructor
 ·rintro⟨x,hx,e⟩;have e2:x=s:=by simpa using congrArg (fun b:ByteArray=>b.data.toList) e
  subst e2;exact hx
 ·exact fun h=>⟨s,h,rfl⟩
theorem GX(h:Cells w (.slice pa l.length pc) 1 l.length (l.map str) ok)(hl:l.length≤8000000)(s:Bs):
 Calls Tryz.prog 52 #[.slice pa l.length pc,str s] w fun e w'=>e= .returned (.bool (l.contains s))∧w'=w:=by
 rcases Nat.eq_zero_or_pos l.length with h0|h0
 ·have e0:l=[]:=List.eq_nil_of_length_eq_zero h0;subst e0;exact slices_Contains_string_empty pa pc ⟨s.toArray⟩ w
 ·obtain⟨g,o,rfl,hc⟩:=h.strs h0;refine(slices_Contains_string g o l.length pc (l.map fun x=>⟨x.toArray⟩) ⟨s.toArray⟩ w (by simp) (by omega) (fun j hj=>hc j (by simpa using hj))).mono ?_;rintro e w' ⟨rfl,rfl⟩;rw[List.take_of_length_le (by simp),Ks];exact⟨rfl,rfl⟩
end
def Hd.fit(h:Hd):Prop:=h.s.length≤2000000∧h.vs.length≤2000000∧h.p.length≤2000000∧∀s∈h.p,s.length≤2000000
def Fo.fit:Fo→Prop
 | .nil=>True
 | .cons h k n=>h.fit∧k.fit∧n.fit
theorem Kh(f:Fo)(ok:Nat→Prop)(la:Option Addr)(lc:Nat)(w:World)(hf:RepL ok w (.slice la f.len lc) f)(hfit:f.fit)
 (hE:∀(h:Hd)(k:Fo)(pa lb:Option Addr)(pc ld:Nat)(W:World),k.wt<f.wt→h.fit→k.fit→Cells W (.slice pa h.p.length pc) 1 h.p.length (h.p.map str) (fun _=>True)→RepL (fun _=>True) W (.slice lb k.len ld) k→
  Calls Tryz.prog 124 #[exV h (.slice pa h.p.length pc) (.slice lb k.len ld)] W fun e w'=>e= .returned (.bool (!(AR h k.len&&okF k)))∧W.grownBy w' none):
 Calls Tryz.prog 169 #[.slice la f.len lc,.func (.func 124) #[] #[]] w fun e w'=>(∃n:Int,e= .returned (.int .i64 n)∧decide (0≤n)= !okF f)∧w.grownBy w' none:=by
 replace hf:=hf.mono (ok':=fun _=>True) (fun _ _ _=>trivial);obtain⟨cs,hc1,hr1⟩:=hf;obtain⟨_,_,e,hle,hmx,_,hc1⟩:=hc1;cases e;have hmax:f.len≤maxLen:=by omega
 unfold maxLen at hmax;clear hle hmx;have HC:=O (Z hc1 hE);have HR:=O (Z hr1 hfit);clear hc1 hE hr1 hfit;go_enter func169,ntmps169;go_wp2_with fail;go_loopg [8] f.len (fun n v8 wr=>∃rf:Fo,∃k:Nat,rf.len=n∧k+n=f.len∧v8= .int .i64 k∧rf.wt≤f.wt∧rf.fit∧okF f=okF rf∧RepF (fun _=>True) w rf (cs.drop (k*7))∧w.grownBy wr none)
 case atStart=>exact⟨f,0,rfl,by omega,rfl,Nat.le_refl _,HR.out.2,rfl,by simpa using HR.out.1,Ac _ _⟩
 case round=>
  obtain⟨rf,k,hn,hk,rfl,hno,hft,hs,hrf,hgr⟩:=hrel;clear HR;cases rf with
  | nil=>
    have hkI:decide (k<f.len)=false:=by simp[Fo.len]at hn;simp;omega
    have HS:=O (show okF f=true by rw[hs];rfl);have HG:=O hgr;clear hs hgr hn hrf hft;go_wp2;go_ret;exact⟨⟨_,rfl,by rw[HS.out];simp⟩,HG.out⟩
  | cons h1 k1 n1=>
    simp only[Fo.len]at hn;simp only[Fo.wt]at hno;subst hn;obtain⟨pa1,pc1,lb1,ld1,hp1,hl1,hx1,ha1⟩:=RepF.elem (n:=f.len) (lc:=lc) (f:=f) HC.out.1 hrf;have hkI:decide (k<f.len)=true:=by simp;omega
    have hkf:k+1≤f.len:=by omega
    have HS:=O (show okF f=((AR h1 k1.len&&okF k1)&&okF n1)from hs);have HE:=O (fun(W:World)(gW:wr.grownBy W none)=>HC.out.2 h1 k1 pa1 lb1 pc1 ld1 W (by omega) hft.1 hft.2.1 (hp1.gb (Aa hgr gW) (by simp)) (hl1.gb (Aa hgr gW) (by simp)));have HN:=O (Z (show n1.wt≤f.wt by omega) (Z hft.2.2 (Z hx1 hgr)));clear hs hno hrf hp1 hl1 hx1 hft;obtain⟨g1,o1,rfl,hokz,y0⟩:=ha1 0 _ rfl;obtain⟨_,_,e1,_,y1⟩:=ha1 1 _ rfl;cases e1;obtain⟨_,_,e1,_,y2⟩:=ha1 2 _ rfl;cases e1;obtain⟨_,_,e1,_,y3⟩:=ha1 3 _ rfl;cases e1;obtain⟨_,_,e1,_,y4⟩:=ha1 4 _ rfl;cases e1;obtain⟨_,_,e1,_,y5⟩:=ha1 5 _ rfl;cases e1;obtain⟨_,_,e1,_,y6⟩:=ha1 6 _ rfl;cases e1;have hglz:=World.block_lt_of_cell? w _ y0;have z0:=Af hgr y0;have z1:=Af hgr y1;have z2:=Af hgr y2;have z3:=Af hgr y3;have z4:=Af hgr y4;have z5:=Af hgr y5;have z6:=Af hgr y6;simp only[Nat.add_zero,←Nat.add_assoc]at z0 z1 z2 z3 z4 z5 z6;clear y0 y1 y2 y3 y4 y5 y6;clear ha1 hgr;have hws:=HN.out.2.2.2.size;have hq1:g1<wr.heap.size:=Nat.lt_of_lt_of_le hglz hws;cases hb:(AR h1 k1.len&&okF k1)with
    | true=>
      rw[hb]at HE;have HB:=O (show okF f=okF n1 by rw[HS.out,hb];rfl);clear hb;go_wp2_with fail;refine(HE.out _ ?gg).mono ?_
      case gg=>exact (by repeat(first| (with_reducible exact Ac _ _)| (with_reducible assumption)| (with_reducible exact AU (by assumption))| (with_reducible refine Ad ?_ _)| (with_reducible refine Am ?_)| (with_reducible refine A3 ?_ _)| ((with_reducible refine Ay ?_ _ _ ?h2);case h2=>first|exact .inl rfl|exact .inr (Nat.le_refl _)|exact .inr (by simp<;>omega))| (with_reducible refine Ah ?_ (by assumption))| (with_reducible refine Aa ?_ (by assumption))))
      rintro e w5 ⟨rfl,g5⟩;have gg:=Aa HN.out.2.2.2 (Aa (by repeat(first| (with_reducible exact Ac _ _)| (with_reducible assumption)| (with_reducible exact AU (by assumption))| (with_reducible refine Ad ?_ _)| (with_reducible refine Am ?_)| (with_reducible refine A3 ?_ _)| ((with_reducible refine Ay ?_ _ _ ?h2);case h2=>first|exact .inl rfl|exact .inr (Nat.le_refl _)|exact .inr (by simp<;>omega))| (with_reducible refine Ah ?_ (by assumption))| (with_reducible refine Aa ?_ (by assumption)))) g5);have HG:=O gg;clear gg g5;go_wp2;go_roundg n1.len
      case measure=>omega
      case rel=>exact⟨n1,k+1,rfl,by omega,by go_num,HN.out.1,HN.out.2.1,HB.out,HN.out.2.2.1,HG.out⟩
    | false=>
      rw[hb]at HE;have HB:=O (show okF f=false by rw[HS.out,hb];rfl);clear hb;go_wp2_with fail;refine(HE.out _ ?gg2).mono ?_
      case gg2=>exact (by repeat(first| (with_reducible exact Ac _ _)| (with_reducible assumption)| (with_reducible exact AU (by assumption))| (with_reducible refine Ad ?_ _)| (with_reducible refine Am ?_)| (with_reducible refine A3 ?_ _)| ((with_reducible refine Ay ?_ _ _ ?h2);case h2=>first|exact .inl rfl|exact .inr (Nat.le_refl _)|exact .inr (by simp<;>omega))| (with_reducible refine Ah ?_ (by assumption))| (with_reducible refine Aa ?_ (by assumption))))
      rintro e w5 ⟨rfl,g5⟩;have gg:=Aa HN.out.2.2.2 (Aa (by repeat(first| (with_reducible exact Ac _ _)| (with_reducible assumption)| (with_reducible exact AU (by assumption))| (with_reducible refine Ad ?_ _)| (with_reducible refine Am ?_)| (with_reducible refine A3 ?_ _)| ((with_reducible refine Ay ?_ _ _ ?h2);case h2=>first|exact .inl rfl|exact .inr (Nat.le_refl _)|exact .inr (by simp<;>omega))| (with_reducible refine Ah ?_ (by assumption))| (with_reducible refine Aa ?_ (by assumption)))) g5);have HG:=O gg;clear gg g5;go_wp2;go_ret;exact⟨⟨_,rfl,by rw[HB.out];simp⟩,HG.out⟩
theorem JZ(f:Fo)(ok:Nat→Prop)(la:Option Addr)(lc:Nat)(w:World)(hf:RepL ok w (.slice la f.len lc) f)(hfit:f.fit)
 (hE:∀(h:Hd)(k:Fo)(pa lb:Option Addr)(pc ld:Nat)(W:World),k.wt<f.wt→h.fit→k.fit→Cells W (.slice pa h.p.length pc) 1 h.p.length (h.p.map str) (fun _=>True)→RepL (fun _=>True) W (.slice lb k.len ld) k→
  Calls Tryz.prog 46 #[exV h (.slice pa h.p.length pc) (.slice lb k.len ld)] W fun e w'=>e= .returned (.bool (AR h k.len&&okF k))∧W.grownBy w' none):
 Calls Tryz.prog 73 #[.slice la f.len lc] w fun e w'=>e= .returned (.bool (okF f))∧w.grownBy w' none:=by
 have H:=O (Kh f ok la lc w hf hfit (fun h k pa lb pc ld W h1 h2 h3 h4 h5=>by
  have hp:=Blk.new W (hdC h (.slice pa h.p.length pc) (.slice lb k.len ld)) 27;have H:=O (fun(W2:World)(g:W.grownBy W2 none)=>hE h k pa lb pc ld W2 h1 h2 h3 (h4.gb g (by simp)) (h5.gb g (by simp)));obtain⟨x_0,x_1,x_2,x_3,x_4,x_5,x_6,x_f⟩:=(hp).c7;clear hE h4 h5 hp hf;generalize(AR h k.len&&okF k)=b at*;go_enter func124,ntmps124;go_wp2_with fail;refine(H.out _ ?gg).mono ?_
  case gg=>exact (by repeat(first| (with_reducible exact Ac _ _)| (with_reducible assumption)| (with_reducible exact AU (by assumption))| (with_reducible refine Ad ?_ _)| (with_reducible refine Am ?_)| (with_reducible refine A3 ?_ _)| ((with_reducible refine Ay ?_ _ _ ?h2);case h2=>first|exact .inl rfl|exact .inr (Nat.le_refl _)|exact .inr (by simp<;>omega))| (with_reducible refine Ah ?_ (by assumption))| (with_reducible refine Aa ?_ (by assumption))))
  rintro e w5 ⟨rfl,g5⟩;go_wp2;go_ret;exact⟨rfl,Aa (by repeat(first| (with_reducible exact Ac _ _)| (with_reducible assumption)| (with_reducible exact AU (by assumption))| (with_reducible refine Ad ?_ _)| (with_reducible refine Am ?_)| (with_reducible refine A3 ?_ _)| ((with_reducible refine Ay ?_ _ _ ?h2);case h2=>first|exact .inl rfl|exact .inr (Nat.le_refl _)|exact .inr (by simp<;>omega))| (with_reducible refine Ah ?_ (by assumption))| (with_reducible refine Aa ?_ (by assumption)))) g5⟩))
 clear hE hf hfit;have H2:Calls Tryz.prog 123 #[.slice la f.len lc,.func (.func 124) #[] #[]] w fun e w'=>e= .returned (.bool (!okF f))∧w.grownBy w' none:=by
  go_enter func123,ntmps123;go_wp2_with fail;refine H.out.mono ?_;rintro e w1 ⟨⟨n,rfl,hn⟩,hb⟩;have HN:=O hn;clear hn;go_wp2;go_ret;exact⟨by rw[←HN.out];rfl,hb⟩
 clear H;have H:=O H2;clear H2;go_enter func73,ntmps73;go_wp2_with fail;refine H.out.mono ?_;rintro e w1 ⟨rfl,hb⟩;go_wp2;go_ret;exact⟨rfl,hb⟩
def Dc(x y:Ex):Bool:=BQ x.h y.h&&Bt x.kids y.kids
theorem Gd(x:Ex):Dc x x=true:=by simp[Dc,BQ,Nx]
theorem F9{w:World}{ok ok':Nat→Prop}{u v:Value}{x y:Ex}(hx:VE ok w u x)(hy:VE ok' w v y):
 Calls Tryz.prog 11 #[u,v] w fun e w'=>e= .returned (.bool (Dc x y))∧w.grownBy w' none:=by
 obtain⟨pa,pc,la,lc,rfl,hp,hl⟩:=hx;obtain⟨pb,pd,lb,ld,rfl,hp2,hl2⟩:=hy;exact GW hp hp2 (fun W g=>Kl _ x.kids y.kids (Nat.lt_succ_self _) _ _ la lb lc ld W (hl.gb g (by simp)) (hl2.gb g (by simp)))
abbrev VEx(w:World):World→Value→Ex→Prop:=fun w' v x=>VE (AA w.heap.size) w' v x
abbrev VFo(w:World):World→Value→Fo→Prop:=fun w' v f=>VL w.heap.size w' v f
abbrev VNs(w:World):World→Value→List Bs→Prop:=fun w' v p=>VS w.heap.size w' v p
def CR(f:FuncId)(b:Nat)(tv:Value)(l:List Tok)(g:FR Ex):Prop:=
 ∀w st r,Rr w b tv l st→g st=some r→Calls Tryz.prog f #[.pointer (some ⟨b,0,none⟩)] w (B5 b tv l w (VEx w) r)
section
variable {w:World}{b:Nat}{tv:Value}{l:List Tok}{st:RS}
def Qr(l:List Tok)(b:Nat)(tv:Value)(n:Nat)(w:World)(r:List Bs×RS)(m:Nat)(v:Value)(wr:World):Prop:=
 ∃acc st,wr.ownsRow w.heap.size 9 1 v acc.length (acc.map str)∧Rr wr b tv l st∧Dt l m acc st=some r∧w.grownBy wr (some b)∧acc.length+m≤n+1
theorem Ns(h:Rr w b tv l st)(n:Nat)(hn:n≤4000000){r:List Bs×RS}(ho:EK l n st=some r):
 Calls Tryz.prog 333 #[.pointer (some ⟨b,0,none⟩)] w (B5 b tv l w (VNs w) r):=by
 have hb:=h.lt;have H:=O ho;clear ho;go_enter func333,ntmps333;go_wp2_with fail;refine(DW h).mono ?_;rintro e w1 ⟨g1,v,rfl,rfl,h1⟩;generalize hx:(A1 l st).1=x at*;have HR:=O (show Dt l n [x] (A1 l st).2=some r by rw[←H.out,EK,hx]);clear hx;have hs1:=g1.size;have ho1:(w1.alloc (.cells [str x].toArray 9 (0,0))).ownsRow w.heap.size 9 1 (.slice (some ⟨w1.heap.size,0,none⟩) 1 1) 1 [str x]:=EV rfl hs1 rfl (by decide);have h1':=h1.alloc (.cells [str x].toArray 9 (0,0));have g1':=Ad g1 (.cells [str x].toArray 9 (0,0));clear H;go_wp2_with fail;go_loopg [3] n (fun m v wr=>Qr l b tv n w r m v wr)
 case atStart=>exact⟨[x],_,ho1,h1',HR.out,g1',by simp;omega⟩
 case round=>
  obtain⟨acc,st',hown,hp,hloop,gr,hlen⟩:=hrel;clear ho1 h1' g1' h1 g1 HR;cases gk with
  |zero=>cases hloop
  |succ m=>
  have HT:=O (BX hp [44]);have HO:=O hown;rw[Dt]at hloop;cases hs:A2 l [44] st' with
  | false=>
    rw[hs]at HT hloop;have HQ:=O (show some (acc,Aj l [44] st')=some r from hloop);clear hloop hown hs;go_wp2_with fail;refine HT.out.mono ?_;rintro e w2 ⟨g2,v,rfl,rfl,h2⟩;have HE:=O (Z g2 h2);clear g2 h2;go_wp2;go_ret;have e1:=HQ.out;cases e1;have hpb:=hp.lt;exact⟨Aa gr HE.out.1,_,rfl,VS.of_owns (Cy HO.out HE.out.1 (by intro k hk _ e;cases e;omega)),HE.out.2⟩
  | true=>
    rw[hs]at HT hloop;have HQ:=O (show Dt l m (acc++[(A1 l (Aj l [44] st')).1]) (A1 l (Aj l [44] st')).2=some r from hloop);clear hloop hown hs;go_wp2_with fail;refine HT.out.mono ?_;rintro e w2 ⟨g2,v,rfl,rfl,h2⟩;have hp2:=h2.lt;go_wp2_with fail;refine(DW h2).mono ?_;rintro e w3 ⟨g3,v,rfl,rfl,h3⟩;generalize(A1 l (Aj l [44] st')).1=y at*;have g23:=Aa g2 g3;have hown3:=Cy HO.out g23 (by intro k hk _ e;cases e;omega);have hown4:=hown3.alloc (.cells [str y].toArray 9 (0,0));have gA:=Ad (Aa gr g23) (.cells [str y].toArray 9 (0,0));have hA:=h3.alloc (.cells [str y].toArray 9 (0,0));have hbs:=gA.size;obtain⟨i0,hi,hz0,hz1,hz2⟩:=info_parts Eh;have hnc:=Ce w3 [str y] 9;have hml:acc.length+1≤maxLen:=by unfold maxLen;omega
    clear hown3;have HX:=O (Z hi (Z hz0 (Z hz1 (Z hz2 (Z hnc (Z hml hown4))))));clear hi hz0 hz1 hz2 hnc hml hown4;go_wp2_with (at_builtin;obtain⟨hi,hz0,hz1,hz2,hnc,hml,hown4⟩:=HX.out;refine DE rfl _ _ 24 rfl w.heap.size 9 i0 (str []) 1 16 underlying24 hi hz0 hz1 hz2 rfl (by decide) _ _ _ rfl hown4 ⟨w3.heap.size,0,none⟩ 1 1 [str y] rfl rfl hnc (by simp[Value.oneCell']) hml (by omega) hbs ?_;intro v' w5 hown5 g5 _;clear hi hz0 hz1 hz2 hnc hml hown4);have HO5:=O hown5;clear hown5;go_roundg m
    case measure=>omega
    case rel=>
     have hob:∀k,u3.ownBlock=some k→b<k:=fun k hk=>by have:=(HO.out.lt k hk).1;omega
     have hob2:∀k,u3.ownBlock=some k→w.heap.size≤k:=fun k hk=>(HO.out.lt k hk).1;refine⟨acc++[y],_,by simpa using HO5.out,hA.gb g5 hob,HQ.out,?_,by simp;omega⟩;have g5':World.grownBy (w3.alloc _) w5 u3.ownBlock:=g5;cases hv:u3.ownBlock with
     |none=>rw[hv]at g5';exact Ah gA g5'
     |some k=>rw[hv]at g5';exact Ar gA g5' (.inr (hob2 k hv))
def Rh(l:List Tok)(E:FR Ex)(b:Nat)(tv:Value)(n:Nat)(w:World)(r:Fo×RS)(m:Nat)(v:Value)(wr:World):Prop:=
 ∃acc st,OwnF wr w.heap.size v acc∧Rr wr b tv l st∧DQ l E m acc st=some r∧w.grownBy wr (some b)∧acc.len+m≤n+1
theorem IC{E:FR Ex}(hE:CR 48 b tv l E)(h:Rr w b tv l st)(n:Nat)(hn:n≤4000000){r:Fo×RS}(ho:Dz l E n st=some r):
 Calls Tryz.prog 332 #[.pointer (some ⟨b,0,none⟩)] w (B5 b tv l w (VFo w) r):=by
 have hb:=h.lt;unfold Dz at ho;obtain⟨⟨x,st1⟩,hx,ho⟩:=Option.bind_eq_some_iff.1 ho;simp only at ho;have H:=O (Z hE ho);have HX:=O (hE _ _ _ h hx);clear hE ho hx;go_enter func332,ntmps332;go_wp2_with fail;refine HX.out.mono ?_;rintro e w1 ⟨g1,v,rfl,⟨pa,pc,la,lc,rfl,rp,rl⟩,h1⟩;simp only at rp rl h1 ⊢;have hs1:=g1.size;have hlt:=h1.lt;have ho1:OwnF (w1.alloc (.cells (hdC x.h (.slice pa x.h.p.length pc) (.slice la x.kids.len lc)).toArray 27 (0,0))) w.heap.size (.slice (some ⟨w1.heap.size,0,none⟩) 1 1) (.one x):=by
  have g:=World.grownBy_alloc w1 (.cells (hdC x.h (.slice pa x.h.p.length pc) (.slice la x.kids.len lc)).toArray 27 (0,0)) none;refine⟨_,EV rfl hs1 rfl (by decide),RepF.gb g (by simp) (RepF.mono (ok:=AA w.heap.size) ?_ (VE.rep rp rl))⟩;intro k hk hk2;exact⟨hk,by simp[Value.ownBlock];omega⟩
 have HO:=O ho1;have h1':=h1.alloc (.cells (hdC x.h (.slice pa x.h.p.length pc) (.slice la x.kids.len lc)).toArray 27 (0,0));have g1':=Ad g1 (.cells (hdC x.h (.slice pa x.h.p.length pc) (.slice la x.kids.len lc)).toArray 27 (0,0));clear ho1 rp rl HX;go_wp2_with fail;go_loopg [3] n (fun m v wr=>Rh l E b tv n w r m v wr)
 case atStart=>exact⟨.one x,_,HO.out,h1',H.out.2,g1',by simp[Fo.one,Ex.fo,Fo.len];omega⟩
 case round=>
  obtain⟨acc,st',hown,hp,hloop,gr,hlen⟩:=hrel;clear HO h1' g1' h1 g1;cases gk with
  |zero=>cases hloop
  |succ m=>
  have HT:=O (BX hp [44]);have HO:=O hown;rw[DQ]at hloop;cases hs:A2 l [44] st' with
  | false=>
    rw[hs]at HT hloop;have HQ:=O (show some (acc,Aj l [44] st')=some r from hloop);clear hloop hown hs;go_wp2_with fail;refine HT.out.mono ?_;rintro e w2 ⟨g2,v,rfl,rfl,h2⟩;have HE:=O (Z g2 h2);clear g2 h2;go_wp2;go_ret;have e1:=HQ.out;cases e1;have hpb:=hp.lt;exact⟨Aa gr HE.out.1,_,rfl,VL.of_owns (HO.out.gb HE.out.1 (by intro k hk _ e;cases e;omega)),HE.out.2⟩
  | true=>
    rw[hs]at HT hloop;have hq:(E (Aj l [44] st')).bind (fun r=>DQ l E m (acc.snoc r.1) r.2)=some r:=hloop;obtain⟨⟨y,st2⟩,hy,hq⟩:=Option.bind_eq_some_iff.1 hq;simp only at hq;have HQ:=O hq;have HY:=O hy;clear hloop hown hs hq hy;go_wp2_with fail;refine HT.out.mono ?_;rintro e w2 ⟨g2,v,rfl,rfl,h2⟩;have hp2:=h2.lt;go_wp2_with fail;refine(H.out.1 _ _ _ h2 HY.out).mono ?_;rintro e w3 ⟨g3,v',rfl,⟨ya,yc,ma,mc,rfl,ry,rm⟩,h3⟩;simp only at ry rm h3 ⊢;have g23:=Aa g2 g3;obtain⟨cs,hown3,hrep3⟩:=HO.out.gb g23 (by intro k hk _ e;cases e;omega);have hown4:=hown3.alloc (.cells (hdC y.h (.slice ya y.h.p.length yc) (.slice ma y.kids.len mc)).toArray 27 (0,0));have gB:=World.grownBy_alloc w3 (.cells (hdC y.h (.slice ya y.h.p.length yc) (.slice ma y.kids.len mc)).toArray 27 (0,0)) none;have gA:=Ad (Aa gr g23) (.cells (hdC y.h (.slice ya y.h.p.length yc) (.slice ma y.kids.len mc)).toArray 27 (0,0));have hA:=h3.alloc (.cells (hdC y.h (.slice ya y.h.p.length yc) (.slice ma y.kids.len mc)).toArray 27 (0,0));have hbs:=gA.size;have hs23:=g2.size;have hsr:=gr.size;have hol:∀k,u3.ownBlock=some k→w.heap.size≤k∧k<wr.heap.size:=fun k hk=>by
     obtain⟨cs0,ho0,_⟩:=HO.out;exact ho0.lt k hk
    obtain⟨i0,hi,hz0,hz1,hz2⟩:=info_parts Cl;have hnc:=Ce w3 (hdC y.h (.slice ya y.h.p.length yc) (.slice ma y.kids.len mc)) 27;have hml:acc.len+1≤maxLen:=by unfold maxLen;omega
    have HYY:=O (Z (hrep3.gb gB (by simp)) (Z (ry.gb gB (by simp)) (rm.gb gB (by simp))));have HX:=O (Z hi (Z hz0 (Z hz1 (Z hz2 (Z hnc (Z hml (Z hown4 hol)))))));clear hown3 hrep3 ry rm hi hz0 hz1 hz2 hnc hml hown4 hol;go_wp2_with (at_builtin;obtain⟨hi,hz0,hz1,hz2,hnc,hml,hown4,hol⟩:=HX.out;refine DE rfl _ _ 25 rfl w.heap.size 27 i0 _ 7 104 underlying25 hi hz0 hz1 hz2 rfl (by decide) _ _ _ rfl hown4 ⟨w3.heap.size,0,none⟩ 1 1 (hdC y.h (.slice ya y.h.p.length yc) (.slice ma y.kids.len mc)) rfl rfl hnc (by simp[hdC,Value.oneCell']) hml (by omega) hbs ?_;intro v' w5 hown5 g5 hn5;clear hi hz0 hz1 hz2 hnc hml hown4 hol);have HO5:=O (Z hown5 hn5);clear hown5 hn5;go_roundg m
    case measure=>omega
    case rel=>
     have hol:=HX.out.2.2.2.2.2.2.2;have g5':World.grownBy (w3.alloc _) w5 u3.ownBlock:=g5;refine⟨acc.snoc y,st2,?_,hA.gb g5' (fun k hk=>by have:=(hol k hk).1;omega),HQ.out,?_,by rw[Fo.len_snoc];omega⟩
     ·exact OwnF.snoc (v:=u3) (okx:=AA w2.heap.size) HYY.out.1 rfl HYY.out.2.1 HYY.out.2.2 (by intro k hk;have hk:w2.heap.size≤k:=hk;exact⟨by omega,fun e=>by have:=(hol k e).2;omega⟩) HO5.out.1 g5' HO5.out.2
     ·cases hv:u3.ownBlock with
      |none=>rw[hv]at g5';exact Ah gA g5'
      |some k=>rw[hv]at g5';exact Ar gA g5' (.inr (hol k hv).1)
theorem Lt{E:FR Ex}(hE:CR 48 b tv l E)(h:Rr w b tv l st)(n:Nat)(hn:n≤4000000)(s:Bs){r:Fo×RS}(ho:Di l E n s st=some r):
 Calls Tryz.prog 330 #[.pointer (some ⟨b,0,none⟩),str s] w (B5 b tv l w (VFo w) r):=by
 have hb:=h.lt;have HT:=O (BX h s);unfold Di at ho;cases hs:A2 l s st with
 | true=>
   rw[hs]at HT ho;have HQ:=O (show some (Fo.nil,Aj l s st)=some r from ho);clear ho hs hE;go_enter func330,ntmps330;go_wp2_with fail;refine HT.out.mono ?_;rintro e w1 ⟨g1,v,rfl,rfl,h1⟩;have HE:=O (Z g1 h1);clear g1 h1;go_wp2;go_ret;have e1:=HQ.out;cases e1;exact⟨HE.out.1,_,rfl,⟨none,0,rfl,RepL.nil _ _⟩,HE.out.2⟩
 | false=>
   rw[hs]at HT ho;have hq:(Dz l E n (Aj l s st)).bind (fun r=>some (r.1,AQ l s r.2))=some r:=ho;obtain⟨⟨f,st1⟩,hf,hq⟩:=Option.bind_eq_some_iff.1 hq;simp only at hq;cases hq;have HF:=O (Z hE hf);clear ho hs hE hf;go_enter func330,ntmps330;go_wp2_with fail;refine HT.out.mono ?_;rintro e w1 ⟨g1,v,rfl,rfl,h1⟩;have hb1:=h1.lt;go_wp2_with fail;refine(IC HF.out.1 h1 n hn HF.out.2).mono ?_;rintro e w2 ⟨g2,v,rfl,⟨la,lc,rfl,rl⟩,h2⟩;simp only at rl h2 ⊢;have HL:=O rl;clear rl;go_wp2_with fail;refine(C7 h2 s).mono ?_;rintro e w3 ⟨g3,v,rfl,rfl,h3⟩;have HE:=O (Z g3 h3);have hs1:=g1.size;clear g3 h3;go_wp2;go_ret;exact⟨Aa (Aa g1 g2) HE.out.1,_,rfl,⟨_,_,rfl,(HL.out.gb HE.out.1 (by intro k hk _ e;cases e;have:w1.heap.size≤b:=hk;omega)).mono (by intro k hk _;have:w1.heap.size≤k:=hk;show w.heap.size≤k;omega)⟩,HE.out.2⟩
end
open Go.ChangeShapes
theorem co29:Tryz.prog.cellsOf 27=7:=by kernel_rfl
theorem co3:Tryz.prog.cellsOf 3=1:=by kernel_rfl
theorem co9:Tryz.prog.cellsOf 9=1:=by kernel_rfl
theorem co25:Tryz.prog.cellsOf 23=3:=by kernel_rfl
theorem co26:Tryz.prog.cellsOf 24=1:=by kernel_rfl
theorem co27:Tryz.prog.cellsOf 25=1:=by kernel_rfl
theorem JH(s:ByteArray):Value.string s=str s.data.toList:=by cases s;simp[str]
section
variable {H:Type}{enc:TypeId×Value→H}{W:World}{base:Nat}{sp:Nat→Bool}{held:Bool}
theorem ID{a:Addr}{len cap size:Nat}{cs:List Value}(h1:len≤cap)(h2:cap≤maxLen)(hl:cs.length=len*size)(hc:∀j u,cs[j]? =some u→W.cell? (a.add j)=some u):
 Cells W (.slice (some a) len cap) size len cs (fun _=>True):=by
 refine⟨_,_,rfl,h1,h2,hl,fun j u hj=>?_⟩;have h0:∃v,cs[0]? =some v:=by
  cases cs with
  |nil=>simp at hj
  |cons v r=>exact⟨v,rfl⟩
 obtain⟨v,hv⟩:=h0;have hs:=World.cell?_spot (hc 0 v hv);have ha:a.add 0=a:=by unfold Addr.add;simp
 rw[ha]at hs;obtain⟨g,o,spot⟩:=a;simp only at hs;subst hs;refine⟨g,o,rfl,trivial,?_⟩;have:=hc j u hj;rwa[Addr.add_lit]at this
end
end Go.Proofs.YtgjdhajcnechdaaGreatDoor
