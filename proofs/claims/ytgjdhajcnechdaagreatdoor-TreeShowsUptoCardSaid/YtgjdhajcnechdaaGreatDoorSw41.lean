/-
  text, sized, ExprText. The reference's writer: closed, operand, list. The reference's writer: the state on the way, and the kinds 0, 1, 2, 3, 4. The reference's writer: kinds 2, 4, 5, 6.
-/
import Derived.Test.YtgjdhajcnechdaaGreatDoorSw40
import Derived.Test.YtgjdhajcnechdaaGreatDoorSw39
set_option linter.all false
set_option maxRecDepth 100000
set_option maxHeartbeats 8000000
namespace Go.Proofs.YtgjdhajcnechdaaGreatDoor
open Go.Proofs.Tryz
open Go.RowKit
theorem C6{w:World}{ok:Nat→Prop}{la:Option Addr}{n lc:Nat}{cs:List Value}{a:Hd}{b nx:Fo}{k:Nat}(hc:∀j u,cs[j]? =some u→∃g o,la=some ⟨g,o,none⟩∧ok g∧w.cell? ⟨g,o+j,none⟩=some u)
 (hr:RepF ok w (.cons a b nx) (cs.drop (k*7))):∃g o pa pc lb ld,la=some ⟨g,o,none⟩∧Cells w (.slice pa a.p.length pc) 1 a.p.length (a.p.map str) ok∧RepL ok w (.slice lb b.len ld) b∧RepF ok w nx (cs.drop ((k+1)*7))∧Kid w g (o+k*7) a (.slice pa a.p.length pc) (.slice lb b.len ld):=by
 obtain⟨pa,pc,lb,ld,h1,h2,h3,h4⟩:=RepF.elem (n:=n) (lc:=lc) (f:= .nil) hc hr;obtain⟨g,o,e,_,h5⟩:=h4 0 _ rfl;refine⟨g,o,pa,pc,lb,ld,e,h1,h2,h3,World.block_lt_of_cell? _ _ h5,fun i u hu=>?_⟩;obtain⟨g',o',e',_,h6⟩:=h4 i u hu;rw[e]at e';cases e';rw[Nat.add_assoc];exact h6
theorem Tp:∀(N:Nat)(h:Hd)(f:Fo),f.wt<N→AI h f.len=true→okF f=true→h.fit→f.fit→f.nodes≤1000000→∀(pa la:Option Addr)(pc lc:Nat)(w:World),Pow w→Cells w (.slice pa h.p.length pc) 1 h.p.length (h.p.map str) (fun _=>True)→RepL (fun _=>True) w (.slice la f.len lc) f→
 Calls Tryz.prog 35 #[exV h (.slice pa h.p.length pc) (.slice la f.len lc)] w fun e w'=>e= .returned (str (Bi wdM h (A7 wdM f)))∧w.grownBy w' none:=by
 intro N;induction N with
 |zero=>intro h f hN;omega
 | succ N ih=>
   intro h f hN ho hk hfit hft hnd pa la pc lc w hp hpc hrl;obtain⟨p1,p2,p3⟩:=DQ ho;have hsl:=hfit.1;have hlen:∀(a:Hd)(b:Fo),AI a b.len=true→okF b=true→a.fit→b.fit→b.nodes≤1000000→(Bi wdM a (A7 wdM b)).length≤900000000000000:=by
    intro a b h1 h2 h3 h4 h5;obtain⟨r1,r2⟩:=FN b h2 h4;have:=GN h3 h1 r2;omega
   have HL:∀W,w.grownBy W none→Calls Tryz.prog 59 #[.slice la f.len lc] W fun e w'=>e= .returned (str (BD ((A7 wdM f).map (·.2))))∧W.grownBy w' none:=fun W g=>
    Pl f _ la lc W (hrl.gb g (by simp)) hft hk hnd (fun h' k pa' lb pc' ld W2 g2 c1 c2 c3 c4 c5 c6 c7 c8=>ih h' k (by omega) c5 c6 c2 c3 c4 pa' lb pc' ld W2 ((hp.gb g).gb g2) c7 c8)
   have HLl:(BD ((A7 wdM f).map (·.2))).length≤1000000000000000:=by
    have h1:=GC (A7 wdM f);have h2:=(FN f hk hft).1;omega
   obtain⟨cs,hcs,hrf⟩:=hrl;obtain⟨_,_,e,_,_,_,hcc⟩:=hcs;cases e;have one:∀a b,f= .cons a b .nil→∃g o pa' pc' lb ld,la=some ⟨g,o,none⟩∧Kid w g o a (.slice pa' a.p.length pc') (.slice lb b.len ld)∧AI a b.len=true∧a.fit∧(Bi wdM a (A7 wdM b)).length≤900000000000000∧
    ∀W,w.grownBy W none→Calls Tryz.prog 35 #[exV a (.slice pa' a.p.length pc') (.slice lb b.len ld)] W fun e w'=>e= .returned (str (Bi wdM a (A7 wdM b)))∧W.grownBy w' none:=by
    rintro a b rfl;obtain⟨g,o,pa',pc',lb,ld,e,h1,h2,_,h4⟩:=C6 (k:=0) (n:=1) (lc:=lc) hcc (by simpa using hrf);simp only[okF,Bool.and_eq_true]at hk;simp only[Fo.wt]at hN;simp only[Fo.nodes]at hnd;refine⟨g,o,pa',pc',lb,ld,e,by simpa using h4,hk.1.1,hft.1,hlen a b hk.1.1 hk.1.2 hft.1 hft.2.1 (by omega),fun W gW=>ih a b (by omega) hk.1.1 hk.1.2 hft.1 hft.2.1 (by omega) pa' lb pc' ld W (hp.gb gW) (h1.gb gW (by simp)) (h2.gb gW (by simp))⟩
   have two:∀a b a2 b2,f= .cons a b (.cons a2 b2 .nil)→∃g o pa' pc' lb ld pa2 pc2 lb2 ld2,la=some ⟨g,o,none⟩∧Kid w g o a (.slice pa' a.p.length pc') (.slice lb b.len ld)∧Kid w g (o+7) a2 (.slice pa2 a2.p.length pc2) (.slice lb2 b2.len ld2)∧(Bi wdM a (A7 wdM b)).length≤900000000000000∧(Bi wdM a2 (A7 wdM b2)).length≤900000000000000∧
    (∀W,w.grownBy W none→Calls Tryz.prog 35 #[exV a (.slice pa' a.p.length pc') (.slice lb b.len ld)] W fun e w'=>e= .returned (str (Bi wdM a (A7 wdM b)))∧W.grownBy w' none)∧∀W,w.grownBy W none→Calls Tryz.prog 35 #[exV a2 (.slice pa2 a2.p.length pc2) (.slice lb2 b2.len ld2)] W fun e w'=>e= .returned (str (Bi wdM a2 (A7 wdM b2)))∧W.grownBy w' none:=by
    rintro a b a2 b2 rfl;obtain⟨g,o,pa',pc',lb,ld,e,h1,h2,hnx,h4⟩:=C6 (k:=0) (n:=2) (lc:=lc) hcc (by simpa using hrf);obtain⟨g2,o2,pa2,pc2,lb2,ld2,e2,h12,h22,_,h42⟩:=C6 (k:=1) (n:=2) (lc:=lc) hcc hnx;rw[e]at e2;cases e2;simp only[okF,Bool.and_eq_true]at hk;simp only[Fo.wt]at hN;simp only[Fo.nodes]at hnd;refine⟨g,o,pa',pc',lb,ld,pa2,pc2,lb2,ld2,e,by simpa using h4,by simpa using h42,hlen a b hk.1.1 hk.1.2 hft.1 hft.2.1 (by omega),hlen a2 b2 hk.2.1.1 hk.2.1.2 hft.2.2.1 hft.2.2.2.1 (by omega),fun W gW=>ih a b (by omega) hk.1.1 hk.1.2 hft.1 hft.2.1 (by omega) pa' lb pc' ld W (hp.gb gW) (h1.gb gW (by simp)) (h2.gb gW (by simp)),fun W gW=>ih a2 b2 (by omega) hk.2.1.1 hk.2.1.2 hft.2.2.1 hft.2.2.2.1 (by omega) pa2 lb2 pc2 ld2 W (hp.gb gW) (h12.gb gW (by simp)) (h22.gb gW (by simp))⟩
   have hopT:∀(x:Hd×Bs),x.2.length≤900000000000000→(opT x).length≤1000000000000000:=by
    intro x hx;unfold opT;split
    ·simp only[List.length_append,List.length_cons,List.length_nil];omega
    ·omega
   clear hcc hrf ih hlen;have hvl:=hfit.2.1;have hpl:=hfit.2.2.1;obtain⟨op,s,vk,vn,vs,p⟩:=h;unfold Ap at p3;simp only at p1 p2 p3 hsl hvl hpl hpc ⊢;by_cases e0:op=0
   ·subst e0;rw[if_pos rfl]at p3;simp only[Bool.and_eq_true]at p3;exact Ti (fun W g=>Ly (hp.gb g) (show A2 (HdV vk vn vs)=true from p3.2) hvl)
   rw[if_neg e0]at p3;by_cases e1:op=1
   ·subst e1;exact Tj
   by_cases e10:op=10
   ·subst e10;exact RP hsl
   rw[if_neg (by omega)]at p3;by_cases e2:op=2
   ·subst e2;rw[if_pos rfl]at p3;simp only[Bool.and_eq_true,beq_iff_eq]at p3;obtain⟨a,b,rfl⟩:=Cz p3.2;obtain⟨g,o,pa',pc',lb,ld,rfl,hkid,hko,hkf,hkl,hT⟩:=one a b rfl;show Calls _ _ _ _ fun e w'=>e= .returned (str (if a.op=1 then s++[45,62]++a.s else s++[45,62,40]++Bi wdM a (A7 wdM b)++[41]))∧_;by_cases ha:a.op=1
    ·rw[if_pos ha];exact RQ hsl hkf.1 ha hkid
    ·rw[if_neg ha];exact RR hsl (Nat.le_trans hkl (by decide)) ha hkid hT
   rw[if_neg e2]at p3;by_cases e3:op=3
   ·subst e3;exact Tk hsl HLl HL
   rw[if_neg e3]at p3;by_cases e4:op=4
   ·subst e4;rw[if_pos rfl]at p3;simp only[Bool.and_eq_true,Bool.or_eq_true,beq_iff_eq]at p3;obtain⟨a,b,rfl⟩:=Cz p3.2;obtain⟨g,o,pa',pc',lb,ld,rfl,hkid,hko,hkf,hkl,hT⟩:=one a b rfl;show Calls _ _ _ _ fun e w'=>e= .returned (str (if s=[45]then [45]++opT (a,Bi wdM a (A7 wdM b))else s++[32]++opT (a,Bi wdM a (A7 wdM b))))∧_;by_cases hs:s=[45]
    ·subst hs;rw[if_pos rfl];exact RT (hopT _ hkl) hkid (fun W gW=>EO (by omega) (fun W2 g2=>hT W2 (Aa gW g2)))
    ·rw[if_neg hs];exact RU hsl (hopT _ hkl) hs hkid (fun W gW=>EO (by omega) (fun W2 g2=>hT W2 (Aa gW g2)))
   rw[if_neg e4]at p3;by_cases e5:op=5
   ·subst e5;rw[if_pos rfl]at p3;simp only[Bool.and_eq_true,beq_iff_eq]at p3;obtain⟨a,b,a2,b2,rfl⟩:=E0 p3.2;obtain⟨g,o,pa',pc',lb,ld,pa2,pc2,lb2,ld2,rfl,hk1,hk2,hl1,hl2,hT,hT2⟩:=two a b a2 b2 rfl;exact Tl hsl (hopT _ hl1) (hopT _ hl2) hk1 hk2 (fun W gW=>EO (by omega) (fun W2 g2=>hT W2 (Aa gW g2))) (fun W gW=>EO (by omega) (fun W2 g2=>hT2 W2 (Aa gW g2)))
   rw[if_neg e5]at p3;by_cases e6:op=6
   ·subst e6;rw[if_pos rfl]at p3;simp only[Bool.and_eq_true,beq_iff_eq]at p3;obtain⟨a,b,a2,b2,rfl⟩:=E0 p3.2;obtain⟨g,o,pa',pc',lb,ld,pa2,pc2,lb2,ld2,rfl,hk1,hk2,hl1,hl2,hT,hT2⟩:=two a b a2 b2 rfl;exact Tm hsl (hopT _ hl1) (Nat.le_trans hl2 (by decide)) hk1 hk2 (fun W gW=>EO (by omega) (fun W2 g2=>hT W2 (Aa gW g2))) hT2
   rw[if_neg e6]at p3;by_cases e7:op=7
   ·subst e7;exact Tn HLl HL
   rw[if_neg e7]at p3;by_cases e8:op=8
   ·subst e8;rw[if_pos rfl]at p3;simp only[Bool.and_eq_true,beq_iff_eq]at p3;obtain⟨a,b,rfl⟩:=Cz p3.1.2;obtain⟨g,o,pa',pc',lb,ld,rfl,hkid,hko,hkf,hkl,hT⟩:=one a b rfl;have hj:=I8 p3.2;exact To (t2:=BD p) hsl (Nat.le_trans hkl (by decide)) (by omega) hkid hT (fun W gW=>JC (xs:=p) (hpc.gb gW (by simp)) rfl (by omega) (by omega))
   rw[if_neg e8]at p3;by_cases e9:op=9
   ·subst e9;rw[if_pos rfl]at p3;simp only[Bool.and_eq_true,Bool.or_eq_true,beq_iff_eq,List.isEmpty_iff]at p3;rcases p3 with⟨hs,hn⟩| ⟨rfl,hn⟩
    ·have hs0:s≠[]:=by rintro rfl;exact absurd hs (by decide)
     show Calls _ _ _ _ fun e w'=>e= .returned (str (if s≠[]then [38]++s++[46]else _))∧_;rw[if_pos hs0];exact RV hsl hs0
    ·obtain⟨a,b,rfl⟩:=Cz hn;obtain⟨g,o,pa',pc',lb,ld,rfl,hkid,hko,hkf,hkl,hT⟩:=one a b rfl;exact RW (Nat.le_trans hkl (by decide)) hkid hT
   rw[if_neg e9]at p3;cases p3
theorem QF{w:World}{v:Value}{x:Ex}{ok:Nat→Prop}(hp:Pow w)(hx:VE ok w v x)(h1:x.h.fit)(h2:x.kids.fit)(hn:x.kids.nodes≤1000000)(ho:okX x=true):
 Calls Tryz.prog 35 #[v] w fun e w'=>e= .returned (str (Cj wdM x))∧w.grownBy w' none:=by
 obtain⟨pa,pc,la,lc,rfl,hpc,hl⟩:=hx;unfold okX at ho;rw[Bool.and_eq_true]at ho;exact Tp _ x.h x.kids (Nat.lt_succ_self _) ho.1 ho.2 h1 h2 hn pa la pc lc w hp (hpc.mono fun _ _ _=>trivial) (hl.mono fun _ _ _=>trivial)
theorem Ji{x:Ex}(h1:x.h.fit)(h2:x.kids.fit)(hn:x.kids.nodes≤1000000)(ho:okX x=true):(Cj wdM x).length≤1000000000000000:=by
 unfold okX at ho;rw[Bool.and_eq_true]at ho;obtain⟨r1,r2⟩:=FN x.kids ho.2 h2;have:=GN h1 ho.1 r2;unfold Cj;omega
theorem OV(s:Bs)(hl:s.length≤1000000000000000)(w:World):Calls Tryz.prog 34 #[str s] w fun e w'=>e= .returned (.tuple #[str (if 4000<s.length then []else s),.int .i64 (if 4000<s.length then 3 else 0)])∧w.grownBy w' none:=by
 by_cases h:4000<s.length
 ·rw[if_pos h,if_pos h];have hI:decide ((4000:Int)<(s.length:Int))=true:=by simp;omega
  go_enter func34,ntmps34;go_wp2;exact bodyPost_ret (v:= .tuple #[str [],.int .i64 3]) (by simp[results,results34,go_sem]) rfl ⟨rfl,Ac _ _⟩
 ·rw[if_neg h,if_neg h];have hI:decide ((4000:Int)<(s.length:Int))=false:=by simp;omega
  go_enter func34,ntmps34;go_wp2;exact bodyPost_ret (v:= .tuple #[str s,.int .i64 0]) (by simp[results,results34,go_sem]) rfl ⟨rfl,Ac _ _⟩
def BY(x:Ex):Bs×Int:=if AL x≠0 then([],AL x)else if 4000<(Cj wdM x).length then([],3)else(Cj wdM x,0)
theorem G9{x:Ex}(h:AL x=0):okX x=true∧AW x.nodes x.levels=false:=by
 unfold AL at h;cases hl:AW x.nodes x.levels with
 |true=>rw[hl]at h;simp at h
 | false=>
   rw[hl]at h;cases ho:okX x with
   |true=>exact⟨rfl,rfl⟩
   |false=>rw[ho]at h;simp at h
theorem L1{w:World}{v:Value}{x:Ex}{ok:Nat→Prop}(hp:Pow w)(hx:VE ok w v x)(h1:x.h.fit)(h2:x.kids.fit)(hn:x.kids.nodes≤1000000):
 Calls Tryz.prog 12 #[v] w fun e w'=>e= .returned (.tuple #[str (BY x).1,.int .i64 (BY x).2])∧w.grownBy w' none:=by
 have HV:=O (fun(W:World)(g:w.grownBy W none)=>Gl (hx.gb g (by simp)) h1 h2 hn);have HX:=hx;obtain⟨pa,pc,la,lc,rfl,_,_⟩:=hx;have hB:=Blk.new w (hdC x.h (.slice pa x.h.p.length pc) (.slice la x.kids.len lc)) 27;have hB1:=hB;obtain⟨x_0,x_1,x_2,x_3,x_4,x_5,x_6,x_f⟩:=(hB1).c7;have HB:=O hB;clear hB1 hB;by_cases hv:AL x=0
 ·have ho:=(G9 hv).1;have HT:=O (fun(W:World)(g:w.grownBy W none)=>QF (hp.gb g) (HX.gb g (by simp)) h1 h2 hn ho);have HS:=O (fun(W:World)=>OV (Cj wdM x) (Ji h1 h2 hn ho) W);have HM:=O (show BY x=(if 4000<(Cj wdM x).length then []else Cj wdM x,if 4000<(Cj wdM x).length then 3 else 0)by
   unfold BY;rw[if_neg (by simpa using hv)];split<;>rfl)
  rw[HM.out];rw[hv]at HV;clear ho hv HX hp h1 h2 hn HM;generalize Cj wdM x=t at*;generalize(if 4000<t.length then []else t)=t2 at*;generalize(if 4000<t.length then(3:Int)else 0)=c2 at*;go_enter func12,ntmps12;go_wp2_with fail;refine(HV.out _ ?gg).mono ?_
  case gg=>exact (by repeat(first| (with_reducible exact Ac _ _)| (with_reducible assumption)| (with_reducible exact AX (by assumption))| (with_reducible refine Ad ?_ _)| (with_reducible refine Am ?_)| (with_reducible refine Ay ?_ _)| ((with_reducible refine Az ?_ _ _ ?h2);case h2=>first|exact .inl rfl|exact .inr (Nat.le_refl _)|exact .inr (by simp<;>omega))| (with_reducible refine Ag ?_ (by assumption))| (with_reducible refine Aa ?_ (by assumption))))
  rintro e w1 ⟨rfl,g1⟩;have hb1:=HB.out.gb g1 (by simp);have HG:=O (Aa (World.grownBy_alloc w (.cells (hdC x.h (.slice pa x.h.p.length pc) (.slice la x.kids.len lc)).toArray 27 (0,0)) none) g1);clear x_0 x_1 x_2 x_3 x_4 x_5 x_6 x_f g1;obtain⟨y_0,y_1,y_2,y_3,y_4,y_5,y_6,y_f⟩:=(hb1).c7;clear hb1;go_wp2_with fail;refine(HT.out _ HG.out).mono ?_;rintro e w2 ⟨rfl,g2⟩;go_wp2_with fail;refine(HS.out _).mono ?_;rintro e w3 ⟨rfl,g3⟩;have HG3:=O (Aa (Aa HG.out g2) g3);clear g2 g3;go_wp2;exact bodyPost_ret (v:= .tuple #[str t2,.int .i64 c2]) (by simp[results,results12,go_sem]) rfl ⟨rfl,HG3.out⟩
 ·have HM:=O (show BY x=([],AL x)by unfold BY;rw[if_pos hv]);rw[HM.out];have hvI:(AL x==0)=false:=by simpa using hv
  have hvI2:(AL x !=0)=true:=by simpa using hv
  clear hv HX hp h1 h2 hn HM;generalize AL x=vm at*;go_enter func12,ntmps12;go_wp2_with fail;refine(HV.out _ ?gg).mono ?_
  case gg=>exact (by repeat(first| (with_reducible exact Ac _ _)| (with_reducible assumption)| (with_reducible exact AX (by assumption))| (with_reducible refine Ad ?_ _)| (with_reducible refine Am ?_)| (with_reducible refine Ay ?_ _)| ((with_reducible refine Az ?_ _ _ ?h2);case h2=>first|exact .inl rfl|exact .inr (Nat.le_refl _)|exact .inr (by simp<;>omega))| (with_reducible refine Ag ?_ (by assumption))| (with_reducible refine Aa ?_ (by assumption))))
  rintro e w1 ⟨rfl,g1⟩;have HG:=O (Aa (World.grownBy_alloc w (.cells (hdC x.h (.slice pa x.h.p.length pc) (.slice la x.kids.len lc)).toArray 27 (0,0)) none) g1);clear x_0 x_1 x_2 x_3 x_4 x_5 x_6 x_f g1;go_wp2;exact bodyPost_ret (v:= .tuple #[str [],.int .i64 vm]) (by simp[results,results12,go_sem]) rfl ⟨rfl,HG.out⟩
def Fo.nT:Fo→Nat
 | .nil=>0
 | .cons h k n=>14+2*h.p.length+k.nT+n.nT
def Fo.kT:Fo→Nat
 | .nil=>0
 | .cons h k n=>10000000+2000002*h.p.length+k.kT+n.kT
def nX(a:Hd)(k:Fo):Nat:=10+2*a.p.length+k.nT
def kX(a:Hd)(k:Fo):Nat:=9000000+2000002*a.p.length+k.kT
def ExC(b:Nat)(a:Hd)(k:Fo):Prop:=∀(w:World)(out:Bs)(pre:List Tok)(wrong:Bool)(ov:Value)(pa la:Option Addr)(pc lc:Nat),Ww w b out pre wrong ov→Cells w (.slice pa a.p.length pc) 1 a.p.length (a.p.map str) (fun g=>g<b)→RepL (fun g=>g<b) w (.slice la k.len lc) k→
 pre.length+nX a k≤9000000→out.length+kX a k≤700000000000000→Calls Tryz.prog 47 #[.pointer (some ⟨b,0,none⟩),exV a (.slice pa a.p.length pc) (.slice la k.len lc)] w (WPost (AC wdM a (Ao wdM k)) (nX a k) (kX a k) w b out pre wrong ov)
def Bx(w:World)(b:Nat)(ov:Value)(k:Nat)(cs:List Value)(t:TypeId):Prop:=Blk w k cs t∧k≠b∧ov.ownBlock≠some k
theorem Bx.next{w w1:World}{b:Nat}{ov ov1:Value}{k:Nat}{cs:List Value}{t:TypeId}(h:Bx w b ov k cs t)(hk:WK w w1 b ov ov1):Bx w1 b ov1 k cs t:=
 ⟨hk.blk h.1 h.2.1 h.2.2,h.2.1,fun e=>by
  rcases hk.own _ e with h1|h1
  ·exact h.2.2 h1
  ·have:=h.1.lt;omega⟩
theorem Ww.box{w:World}{b:Nat}{out:Bs}{pre:List Tok}{wrong:Bool}{ov:Value}(h:Ww w b out pre wrong ov)(cs:List Value)(t:TypeId):
 Ww (w.alloc (.cells cs.toArray t (0,0))) b out pre wrong ov∧Bx (w.alloc (.cells cs.toArray t (0,0))) b ov w.heap.size cs t∧WK w (w.alloc (.cells cs.toArray t (0,0))) b ov ov:=
 ⟨h.gbN (World.grownBy_alloc _ _ _),⟨Blk.new w cs t,by have:=h.lt;omega,fun e=>by have:=(h.own _ e).2;omega⟩,WK.of_none (World.grownBy_alloc _ _ _)⟩
section
variable {w:World}{b:Nat}{out:Bs}{pre:List Tok}{wrong:Bool}{ov:Value}{a:Hd}{k:Fo}{pa la:Option Addr}{pc lc:Nat}
theorem Fs(h:Ww w b out pre wrong ov)(hp:Cells w (.slice pa a.p.length pc) 1 a.p.length (a.p.map str) (fun g=>g<b))(hr:RepL (fun g=>g<b) w (.slice la k.len lc) k)(E:ExC b a k)
 (hc:pre.length+(nX a k+2)≤9000000) (ho:out.length+(kX a k+2)≤700000000000000):
 Calls Tryz.prog 82 #[.pointer (some ⟨b,0,none⟩),exV a (.slice pa a.p.length pc) (.slice la k.len lc)] w (WPost (BX (AC wdM a (Ao wdM k))) (nX a k+2) (kX a k+2) w b out pre wrong ov):=by
 obtain⟨h0,hx0,k0⟩:=h.box (hdC a (.slice pa a.p.length pc) (.slice la k.len lc)) 27;have gA:=World.grownBy_alloc w (.cells (hdC a (.slice pa a.p.length pc) (.slice la k.len lc)).toArray 27 (0,0)) none;have HI:=O (Z h0 (Z hx0 (Z k0 (Z (hp.gb gA (by simp)) (hr.gb gA (by simp))))));have HE:=O E;have HC:=O (Z hc ho);clear h hp hr E hc ho h0 hx0 k0 gA;go_enter func82,ntmps82;go_wp2_with fail;refine(Br HI.out.1 [40] (by have:=HC.out.1;omega) (by have:=HC.out.2;simp only[List.length_cons,List.length_nil];omega)).mono ?_;rintro e w1 ⟨rfl,o1,p1,r1,ov1,h1,k1,q1⟩;have hx1:=HI.out.2.1.next k1;have hb1:=hx1.1;obtain⟨x_0,x_1,x_2,x_3,x_4,x_5,x_6,x_f⟩:=(hb1).c7;have hp1:=HI.out.2.2.2.1.kept k1 HI.out.1.low;have hr1:=HI.out.2.2.2.2.kept k1 HI.out.1.low;have n1:=q1.np;have m1:=q1.nk;simp only[List.length_cons,List.length_nil]at m1;have HE1:=O (HE.out w1 o1 p1 r1 ov1 pa la pc lc h1 hp1 hr1 (by have:=HC.out.1;omega) (by have:=HC.out.2;omega));have HQ:=O (Z k1 q1);clear hx1 hb1 hp1 hr1 h1 k1 q1;go_wp2_with fail;refine HE1.out.mono ?_;rintro e w2 ⟨rfl,o2,p2,r2,ov2,h2,k2,q2⟩;have n2:=q2.np;have m2:=q2.nk;clear x_0 x_1 x_2 x_3 x_4 x_5 x_6 x_f;go_wp2_with fail;refine(Br h2 [41] (by have:=HC.out.1;omega) (by have:=HC.out.2;simp only[List.length_cons,List.length_nil];omega)).mono ?_;rintro e w3 ⟨rfl,o3,p3,r3,ov3,h3,k3,q3⟩;go_wp2;go_end0
 exact⟨rfl,_,_,_,_,h3,HI.out.2.2.1.trans (HQ.out.1.trans (k2.trans k3)),(HQ.out.2.cat (q2.cat (q3.cat Wr.nil))).le (by omega) (by simp only[List.length_cons,List.length_nil];omega)⟩
theorem EQ(h:Ww w b out pre wrong ov)(hp:Cells w (.slice pa a.p.length pc) 1 a.p.length (a.p.map str) (fun g=>g<b))(hr:RepL (fun g=>g<b) w (.slice la k.len lc) k)(E:ExC b a k)
 (hc:pre.length+(nX a k+2)≤9000000) (ho:out.length+(kX a k+2)≤700000000000000):
 Calls Tryz.prog 85 #[.pointer (some ⟨b,0,none⟩),exV a (.slice pa a.p.length pc) (.slice la k.len lc)] w (WPost (Bl (a,AC wdM a (Ao wdM k))) (nX a k+2) (kX a k+2) w b out pre wrong ov):=by
 obtain⟨h0,hx0,k0⟩:=h.box (hdC a (.slice pa a.p.length pc) (.slice la k.len lc)) 27;have gA:=World.grownBy_alloc w (.cells (hdC a (.slice pa a.p.length pc) (.slice la k.len lc)).toArray 27 (0,0)) none;have HK:=O k0;have hp0:=hp.gb gA (by simp);have hr0:=hr.gb gA (by simp);have HM:=O (show Bl (a,AC wdM a (Ao wdM k))=if a.op≠4∧a.op≠5 then AC wdM a (Ao wdM k)else BX (AC wdM a (Ao wdM k))from rfl);have hb0:=hx0.1;obtain⟨x_0,x_1,x_2,x_3,x_4,x_5,x_6,x_f⟩:=(hb0).c7;by_cases h4:a.op=4
 ·have HCl:=O (Fs h0 hp0 hr0 E hc ho);have HM2:=O (HM.out.trans (if_neg (fun e=>e.1 h4)));rw[HM2.out];have c4:(a.op !=4)=false:=by simpa using h4
  have c4':(a.op==4)=true:=by simpa using h4
  clear h hp hr E hc ho h0 hx0 k0 gA hp0 hr0 hb0 HM HM2 h4;go_enter func85,ntmps85;go_wp2_with fail;refine HCl.out.mono ?_;rintro e w2 ⟨rfl,o2,p2,r2,ov2,h2,k2,q2⟩;go_wp2;go_end0;exact⟨rfl,_,_,_,_,h2,HK.out.trans k2,q2⟩
 have c4:(a.op !=4)=true:=by simpa using h4
 have c4':(a.op==4)=false:=by simpa using h4
 by_cases h5:a.op=5
 ·have HCl:=O (Fs h0 hp0 hr0 E hc ho);have HM2:=O (HM.out.trans (if_neg (fun e=>e.2 h5)));rw[HM2.out];have c5:(a.op !=5)=false:=by simpa using h5
  have c5':(a.op==5)=true:=by simpa using h5
  clear h hp hr E hc ho h0 hx0 k0 gA hp0 hr0 hb0 HM HM2 h4 h5;go_enter func85,ntmps85;go_wp2_with fail;refine HCl.out.mono ?_;rintro e w2 ⟨rfl,o2,p2,r2,ov2,h2,k2,q2⟩;go_wp2;go_end0;exact⟨rfl,_,_,_,_,h2,HK.out.trans k2,q2⟩
 have c5:(a.op !=5)=true:=by simpa using h5
 have c5':(a.op==5)=false:=by simpa using h5
 have HCl:=O (E _ _ _ _ _ pa la pc lc h0 hp0 hr0 (by omega) (by omega));have HM2:=O (HM.out.trans (if_pos ⟨h4,h5⟩));rw[HM2.out];clear h hp hr E hc ho h0 hx0 k0 gA hp0 hr0 hb0 HM HM2 h4 h5;go_enter func85,ntmps85;go_wp2_with fail;refine HCl.out.mono ?_;rintro e w2 ⟨rfl,o2,p2,r2,ov2,h2,k2,q2⟩;go_wp2;go_end0;exact⟨rfl,_,_,_,_,h2,HK.out.trans k2,q2.le (by omega) (by omega)⟩
theorem IR(f:Fo)(h:Ww w b out pre wrong ov)(hr:RepL (fun g=>g<b) w (.slice la f.len lc) f)(E:∀a k,k.wt<f.wt→a.fit→k.fit→ExC b a k)(hfit:f.fit)
 (hc:pre.length+f.nT≤9000000) (ho:out.length+f.kT≤700000000000000):
 Calls Tryz.prog 83 #[.pointer (some ⟨b,0,none⟩),.slice la f.len lc] w (WPost (AZ ((Ao wdM f).map (·.2))) f.nT f.kT w b out pre wrong ov):=by
 have hmx:f.len≤maxLen:=by obtain⟨_,⟨_,_,e,h1,h2,_⟩,_⟩:=hr;omega
 unfold maxLen at hmx;have HE:=O (Z E (Z hc ho));have H0:=O (Z h (Z hr hfit));clear h hr E hc ho hfit;go_enter func83,ntmps83;go_wp2_with fail;go_loopg [4] f.len (fun g v4 wr=>∃(k:Nat)(rf:Fo)(acc:OW)(nn kk:Nat)(o':Bs)(p':List Tok)(r':Bool)(ov':Value),k+g=f.len∧rf.len=g∧v4= .int .i64 k∧rf.wt≤f.wt∧rf.fit∧AZ ((Ao wdM f).map (·.2))=Av acc (CI k ((Ao wdM rf).map (·.2)))∧nn+rf.nT≤f.nT∧kk+rf.kT≤f.kT∧Wr acc nn kk pre out wrong p' o' r'∧Ww wr b o' p' r' ov'∧WK w wr b ov ov'∧
  ∃cs,Cells wr (.slice la f.len lc) 7 f.len cs (fun g=>g<b)∧RepF (fun g=>g<b) wr rf (cs.drop (k*7)))
 case atStart=>
  obtain⟨cs,h1,h2⟩:=H0.out.2.1;exact⟨0,f,some ([],[]),0,0,out,pre,wrong,ov,by omega,rfl,rfl,Nat.le_refl _,H0.out.2.2,by rw[BR,Jb],by omega,by omega,Wr.nil,H0.out.1,WK.refl,cs,h1,by simpa using h2⟩
 case round=>
  obtain⟨k,rf,acc,nn,kk,o',p',r',ov',hk,hg,rfl,hwt,hft,hacc,hnn,hkk,hwr,hw,hwk,cs,hcs,hrf⟩:=hrel;clear H0;cases rf with
  | nil=>
    have hj1:decide (k<f.len)=false:=by simp[Fo.len]at hg;simp;omega
    have HX:=O (Z (show AZ ((Ao wdM f).map (·.2))=acc by rw[hacc];exact Ch acc) (Z hwr (Z hw (Z hwk (Z (show nn≤f.nT by omega) (show kk≤f.kT by omega))))));clear hacc hwr hw hwk hcs hrf hnn hkk hg hft;go_wp2;go_end0;exact⟨rfl,_,_,_,_,HX.out.2.2.1,HX.out.2.2.2.1,(HX.out.2.1.of_eq HX.out.1.symm).le HX.out.2.2.2.2.1 HX.out.2.2.2.2.2⟩
  | cons a1 k1 n1=>
    simp only[Fo.len]at hg;simp only[Fo.wt]at hwt;simp only[Fo.nT]at hnn;simp only[Fo.kT]at hkk;subst hg;have hj1:decide (k<f.len)=true:=by simp;omega
    have hkf:k+1≤f.len:=by omega
    have hcs':=hcs;obtain⟨_,_,e,_,_,_,hcc⟩:=hcs';cases e;obtain⟨g1,o1,pa1,pc1,lb1,ld1,rfl,hp1,hl1,hx1,hkid⟩:=C6 (k:=k) (n:=f.len) (lc:=lc) hcc hrf;have hgb:g1<b:=by
     obtain⟨gg,oo,e2,hlt,_⟩:=hcc (k*7) (.int .i64 a1.op) (by
      obtain⟨pv,lv,kcs,rcs,hcs2,_⟩:=hrf;have:(cs.drop (k*7))[0]? =some (.int .i64 a1.op):=by rw[hcs2];rfl
      simpa using this)
     cases e2;exact hlt
    have hacc2:AZ ((Ao wdM f).map (·.2))=Av (Av acc (Av (Ct k) (AC wdM a1 (Ao wdM k1)))) (CI (k+1) ((Ao wdM n1).map (·.2))):=by
     rw[hacc];exact Jc _ _ _ _
    have hE1:=HE.out.1 a1 k1 (by omega) hft.1 hft.2.1;have hnp:=hwr.np;have hnk:=hwr.nk;have hb1:=HE.out.2.1;have hb2:=HE.out.2.2;have HC:=O (IQ hw k (by omega) (by omega));have HX:=O (Z hacc2 (Z hwr (Z hwk (Z hcs (Z hx1 (Z hp1 (Z hl1 (Z hkid (Z hw.low (Z hE1 (Z hft.2.2 (Z hgb (Z hnp hnk)))))))))))));clear hacc2 hwr hwk hcs hrf hx1 hp1 hl1 hkid hcc hacc hw hE1 hft hgb hnp hnk;go_wp2_with fail;refine HC.out.mono ?_;rintro e w2 ⟨rfl,o2,p2,r2,ov2,h2,k2,q2⟩;obtain⟨hacc2,hwr,hwk,hcs,hx1,hp1,hl1,hkid,hlow,hE1,hft,hgb,hnp,hnk⟩:=HX.out;have hkid2:Kid w2 g1 (o1+k*7) a1 (.slice pa1 a1.p.length pc1) (.slice lb1 k1.len ld1):=⟨Nat.lt_of_lt_of_le hkid.1 k2.size,fun i u hu=>k2.cell (hkid.2 i u hu) (by omega) (fun e=>by have:=hlow _ e;omega)⟩;obtain⟨z0,z1,z2,z3,z4,z5,z6⟩:=hkid2.c7;have hgl:=hkid2.1;have q2n:=q2.np;have q2k:=q2.nk;have HC2:=O (hE1 w2 o2 p2 r2 ov2 pa1 lb1 pc1 ld1 h2 (hp1.kept k2 hlow) (hl1.kept k2 hlow) (by unfold nX;omega) (by unfold kX;omega));have HQ:=O (Z q2 (Z k2 h2.low));clear hacc2 hwr hwk hcs hx1 hp1 hl1 hkid hkid2 hlow hE1 hft hgb hnp hnk q2 k2 h2 q2n q2k;go_wp2_with fail;refine HC2.out.mono ?_;rintro e w3 ⟨rfl,o3,p3,r3,ov3,h3,k3,q3⟩;have HR:=O (Z h3 (Z k3 q3));clear h3 k3 q3 z0 z1 z2 z3 z4 z5 z6;go_wp2;go_roundg n1.len
    case measure=>omega
    case rel=>
     obtain⟨hacc2,hwr,hwk,hcs,hx1,hp1,hl1,hkid,hlow,hE1,hft,hgb,hnp,hnk⟩:=HX.out;refine⟨k+1,n1,_,nn+(1+nX a1 k1),kk+(2+kX a1 k1),o3,p3,r3,ov3,by omega,rfl,by go_num,by omega,hft,hacc2,by unfold nX;omega,by unfold kX;omega,hwr.cat (HQ.out.1.cat HR.out.2.2),HR.out.1,(hwk.trans HQ.out.2.1).trans HR.out.2.1,cs,(hcs.kept HQ.out.2.1 hlow).kept HR.out.2.1 HQ.out.2.2,(hx1.kept HQ.out.2.1 hlow).kept HR.out.2.1 HQ.out.2.2⟩
end
theorem Kid.kept{w w1:World}{b:Nat}{ov ov1:Value}{g o:Nat}{a:Hd}{pv lv:Value}(hk:Kid w g o a pv lv∧g<b)(h:WK w w1 b ov ov1)(ho:∀k,ov.ownBlock=some k→b<k):Kid w1 g o a pv lv:=
 ⟨Nat.lt_of_lt_of_le hk.1.1 h.size,fun i u hu=>h.cell (hk.1.2 i u hu) (by have:=hk.2;omega) (fun e=>by have:=ho _ e;have:=hk.2;omega)⟩
structure Sx(w0:World)(b:Nat)(out0:Bs)(pre0:List Tok)(wrong0:Bool)(ov0:Value)(gx:Nat)(cs:List Value)(acc:OW)(n kk:Nat)(w:World)(out:Bs)(pre:List Tok)(wrong:Bool)(ov:Value):Prop where
 ww:Ww w b out pre wrong ov
 wk:WK w0 w b ov0 ov
 wr:Wr acc n kk pre0 out0 wrong0 pre out wrong
 bx:Bx w b ov gx cs 27
section
variable {w0 w w1:World}{b gx n kk n2 k2:Nat}{out0 out:Bs}{pre0 pre:List Tok}{wrong0 wrong:Bool}{ov0 ov:Value}{cs:List Value}{acc m:OW}{e:Ending}
theorem Sx.next(h:Sx w0 b out0 pre0 wrong0 ov0 gx cs acc n kk w out pre wrong ov)(hq:WPost m n2 k2 w b out pre wrong ov e w1):
 e= .returned (.tuple #[])∧∃out1 pre1 wrong1 ov1,Sx w0 b out0 pre0 wrong0 ov0 gx cs (Av acc m) (n+n2) (kk+k2) w1 out1 pre1 wrong1 ov1:=by
 obtain⟨he,o1,p1,r1,v1,h1,k1,q1⟩:=hq;exact⟨he,o1,p1,r1,v1,h1,h.wk.trans k1,h.wr.cat q1,h.bx.next k1⟩
theorem Sx.start(h:Ww w b out pre wrong ov)(cs:List Value):Sx w b out pre wrong ov w.heap.size cs (some ([],[])) 0 0 (w.alloc (.cells cs.toArray 27 (0,0))) out pre wrong ov:=by
 obtain⟨h1,h2,h3⟩:=h.box cs 27;exact⟨h1,h3,Wr.nil,h2⟩
theorem Sx.post(h:Sx w0 b out0 pre0 wrong0 ov0 gx cs acc n kk w out pre wrong ov)(he:m=acc)(hn:n≤n2)(hk:kk≤k2):WPost m n2 k2 w0 b out0 pre0 wrong0 ov0 (.returned (.tuple #[])) w:=
 ⟨rfl,_,_,_,_,h.ww,h.wk,(h.wr.of_eq he.symm).le hn hk⟩
theorem Sx.none(h:Sx w0 b out0 pre0 wrong0 ov0 gx cs (some ([],[])) 0 0 w out pre wrong ov)(hm:m=none)(h1:Ww w1 b out pre true ov)(k1:WK w w1 b ov ov):WPost m n2 k2 w0 b out0 pre0 wrong0 ov0 (.returned (.tuple #[])) w1:=by
 subst hm;exact⟨rfl,_,_,_,_,h1,h.wk.trans k1,Wr.bad (by have:=h.wr.np;omega) (by have:=h.wr.nk;omega)⟩
end
section
variable {w:World}{b:Nat}{out:Bs}{pre:List Tok}{wrong:Bool}{ov:Value}{s vs:Bs}{p:List Bs}{vk vn:Int}{k:Fo}{pv lv:Value}{pa la:Option Addr}{pc lc n:Nat}
theorem Sg(h:Ww w b out pre wrong ov)(hs:vs.length≤2000000)(hc:pre.length+10≤9000000)(ho:out.length+9000000≤700000000000000):
 Calls Tryz.prog 47 #[.pointer (some ⟨b,0,none⟩),exV ⟨0,s,vk,vn,vs,p⟩ pv lv] w (WPost (BK wdM (HdV vk vn vs)) 10 9000000 w b out pre wrong ov):=by
 have S0':=Sx.start h (hdC ⟨0,s,vk,vn,vs,p⟩ pv lv);have hb0:=S0'.bx.1;obtain⟨x_0,x_1,x_2,x_3,x_4,x_5,x_6,x_f⟩:=(hb0).c7;have S0:=O S0';have HV:=O (NG (vk:=vk) (vn:=vn) S0'.ww hs (by omega) (by omega));clear S0' hb0;go_enter func47,ntmps47;go_wp2_with fail;refine(HV.out).mono ?_;intro e1 w1 hq1;obtain⟨rfl,o1,p1,r1,v1,S1'⟩:=S0.out.next hq1;have S1:=O S1';have np1:=S1'.wr.np;have nk1:=S1'.wr.nk;have hb1:=S1'.bx.1;obtain⟨x_0,x_1,x_2,x_3,x_4,x_5,x_6,x_f⟩:=(hb1).c7;clear hq1 S1' hb1;go_wp2;go_end0;exact S1.out.post (BR _).symm (by omega) (by omega)
theorem Sh(h:Ww w b out pre wrong ov)(hs:s.length≤2000000)(hc:pre.length+10≤9000000)(ho:out.length+9000000≤700000000000000):
 Calls Tryz.prog 47 #[.pointer (some ⟨b,0,none⟩),exV ⟨1,s,vk,vn,vs,p⟩ pv lv] w (WPost (nmW s) 10 9000000 w b out pre wrong ov):=by
 have S0':=Sx.start h (hdC ⟨1,s,vk,vn,vs,p⟩ pv lv);have hb0:=S0'.bx.1;obtain⟨x_0,x_1,x_2,x_3,x_4,x_5,x_6,x_f⟩:=(hb0).c7;have S0:=O S0';have HV:=O (D4 S0'.ww s hs (by omega) (by omega));clear S0' hb0;go_enter func47,ntmps47;go_wp2_with fail;refine(HV.out).mono ?_;intro e1 w1 hq1;obtain⟨rfl,o1,p1,r1,v1,S1'⟩:=S0.out.next hq1;have S1:=O S1';have np1:=S1'.wr.np;have nk1:=S1'.wr.nk;have hb1:=S1'.bx.1;obtain⟨x_0,x_1,x_2,x_3,x_4,x_5,x_6,x_f⟩:=(hb1).c7;clear hq1 S1' hb1;go_wp2;go_end0;exact S1.out.post (BR _).symm (by omega) (by omega)
theorem Si(h:Ww w b out pre wrong ov)(hs:s.length≤2000000)(hr:RepL (fun g=>g<b) w (.slice la k.len lc) k)(E:∀a k2,k2.wt<k.wt→a.fit→k2.fit→ExC b a k2)(hfit:k.fit)(hc:pre.length+(10+k.nT)≤9000000)(ho:out.length+(9000000+k.kT)≤700000000000000):
 Calls Tryz.prog 47 #[.pointer (some ⟨b,0,none⟩),exV ⟨3,s,vk,vn,vs,p⟩ pv (.slice la k.len lc)] w (WPost (catL [nmW s,sgn [40],AZ ((Ao wdM k).map (·.2)),sgn [41]]) (10+k.nT) (9000000+k.kT) w b out pre wrong ov):=by
 have S0':=Sx.start h (hdC ⟨3,s,vk,vn,vs,p⟩ pv (.slice la k.len lc));have hb0:=S0'.bx.1;obtain⟨x_0,x_1,x_2,x_3,x_4,x_5,x_6,x_f⟩:=(hb0).c7;have S0:=O S0';have H0:=O (Z h (Z hr (Z E hfit)));clear S0' hb0 h hr E hfit;go_enter func47,ntmps47;go_wp2_with fail;refine((D4 S0.out.ww s hs (by omega) (by omega))).mono ?_;intro e1 w1 hq1;obtain⟨rfl,o1,p1,r1,v1,S1'⟩:=S0.out.next hq1;have S1:=O S1';have np1:=S1'.wr.np;have nk1:=S1'.wr.nk;have hb1:=S1'.bx.1;obtain⟨x_0,x_1,x_2,x_3,x_4,x_5,x_6,x_f⟩:=(hb1).c7;clear hq1 S1' hb1;go_wp2_with fail;refine((Br S1.out.ww [40] (by omega) (by simp only[List.length_cons,List.length_nil];omega))).mono ?_;intro e2 w2 hq2;obtain⟨rfl,o2,p2,r2,v2,S2'⟩:=S1.out.next hq2;have S2:=O S2';have np2:=S2'.wr.np;have nk2:=S2'.wr.nk;have hb2:=S2'.bx.1;obtain⟨x_0,x_1,x_2,x_3,x_4,x_5,x_6,x_f⟩:=(hb2).c7;clear hq2 S2' hb2;simp only[List.length_cons,List.length_nil]at nk2;go_wp2_with fail;refine((IR k S2.out.ww (H0.out.2.1.kept S2.out.wk H0.out.1.low) H0.out.2.2.1 H0.out.2.2.2 (by omega) (by omega))).mono ?_;intro e3 w3 hq3;obtain⟨rfl,o3,p3,r3,v3,S3'⟩:=S2.out.next hq3;have S3:=O S3';have np3:=S3'.wr.np;have nk3:=S3'.wr.nk;have hb3:=S3'.bx.1;obtain⟨x_0,x_1,x_2,x_3,x_4,x_5,x_6,x_f⟩:=(hb3).c7;clear hq3 S3' hb3;simp only[List.length_cons,List.length_nil]at nk3
 go_wp2_with fail;refine((Br S3.out.ww [41] (by omega) (by simp only[List.length_cons,List.length_nil];omega))).mono ?_;intro e4 w4 hq4;obtain⟨rfl,o4,p4,r4,v4,S4'⟩:=S3.out.next hq4;have S4:=O S4';have np4:=S4'.wr.np;have nk4:=S4'.wr.nk;have hb4:=S4'.bx.1;obtain⟨x_0,x_1,x_2,x_3,x_4,x_5,x_6,x_f⟩:=(hb4).c7;clear hq4 S4' hb4;go_wp2;go_end0;exact S4.out.post (by simp only[catL,Ch,BR,Cq]) (by omega) (by simp only[List.length_cons,List.length_nil];omega)
end
structure KidS(w:World)(b g o:Nat)(a:Hd)(k:Fo)(qa:Option Addr)(qc:Nat)(ra:Option Addr)(rc:Nat):Prop where
 kid:Kid w g o a (.slice qa a.p.length qc) (.slice ra k.len rc)∧g<b
 hp:Cells w (.slice qa a.p.length qc) 1 a.p.length (a.p.map str) (fun g=>g<b)
 hr:RepL (fun g=>g<b) w (.slice ra k.len rc) k
 ex:ExC b a k
theorem KidS.kept{w w1:World}{b:Nat}{ov ov1:Value}{g o:Nat}{a:Hd}{k:Fo}{qa:Option Addr}{qc:Nat}{ra:Option Addr}{rc:Nat}(hk:KidS w b g o a k qa qc ra rc)(h:WK w w1 b ov ov1)(ho:∀k,ov.ownBlock=some k→b<k):KidS w1 b g o a k qa qc ra rc:=
 ⟨⟨Kid.kept hk.kid h ho,hk.kid.2⟩,hk.hp.kept h ho,hk.hr.kept h ho,hk.ex⟩
section
variable {w:World}{b g o o2:Nat}{out:Bs}{pre:List Tok}{wrong:Bool}{ov:Value}{s vs:Bs}{p:List Bs}{vk vn:Int}{a a2:Hd}{k k2:Fo}{pv:Value}{qa qa2 ra ra2:Option Addr}{lc qc rc qc2 rc2:Nat}
theorem RD(h:Ww w b out pre wrong ov)(hs:s.length≤2000000)(hs2:a.s.length≤2000000)(ha:a.op=1)(hk:KidS w b g o a k qa qc ra rc)(hc:pre.length+(nX a k+10)≤9000000)(ho:out.length+(kX a k+8000000)≤700000000000000):
 Calls Tryz.prog 47 #[.pointer (some ⟨b,0,none⟩),exV ⟨2,s,vk,vn,vs,p⟩ pv (.slice (some ⟨g,o,none⟩) 1 lc)] w (WPost (catL [nmW s,sgn [45,62],nmW a.s]) (nX a k+10) (kX a k+8000000) w b out pre wrong ov):=by
 have hnx:10≤nX a k:=by unfold nX;omega
 have hkx:9000000≤kX a k:=Nat.le_trans (Nat.le_add_right 9000000 (2000002*a.p.length)) (Nat.le_add_right _ _);generalize nX a k=NX at*;generalize kX a k=KX at*;have S0':=Sx.start h (hdC ⟨2,s,vk,vn,vs,p⟩ pv (.slice (some ⟨g,o,none⟩) 1 lc));have hb0:=S0'.bx.1;obtain⟨x_0,x_1,x_2,x_3,x_4,x_5,x_6,x_f⟩:=(hb0).c7;have S0:=O S0';have H0:=O (Z h hk);clear S0' hb0 h hk;go_enter func47,ntmps47;go_wp2_with fail;refine(DN (b:=b) 1).mono ?_;rintro e1 w1 ⟨rfl,rfl⟩;go_wp2_with fail;refine((D4 S0.out.ww s hs (by omega) (by omega))).mono ?_;intro e1 w1 hq1;obtain⟨rfl,o1,p1,r1,v1,S1'⟩:=S0.out.next hq1;have S1:=O S1';have np1:=S1'.wr.np;have nk1:=S1'.wr.nk;have hb1:=S1'.bx.1;obtain⟨x_0,x_1,x_2,x_3,x_4,x_5,x_6,x_f⟩:=(hb1).c7;clear hq1 S1' hb1;go_wp2_with fail;refine((Br S1.out.ww [45,62] (by omega) (by simp only[List.length_cons,List.length_nil];omega))).mono ?_;intro e2 w2 hq2;obtain⟨rfl,o2,p2,r2,v2,S2'⟩:=S1.out.next hq2;have S2:=O S2';have np2:=S2'.wr.np;have nk2:=S2'.wr.nk;have hb2:=S2'.bx.1;obtain⟨x_0,x_1,x_2,x_3,x_4,x_5,x_6,x_f⟩:=(hb2).c7;clear hq2 S2' hb2;simp only[List.length_cons,List.length_nil]at nk2;obtain⟨z_0,z_1,z_2,z_3,z_4,z_5,z_6⟩:=(Kid.kept (H0.out.2.kid) S2.out.wk H0.out.1.low).c7;have z_l:=(Kid.kept (H0.out.2.kid) S2.out.wk H0.out.1.low).1;rw[ha]at z_0
 go_wp2_with fail;refine((D4 S2.out.ww a.s hs2 (by omega) (by omega))).mono ?_;intro e3 w3 hq3;obtain⟨rfl,o3,p3,r3,v3,S3'⟩:=S2.out.next hq3;have S3:=O S3';have np3:=S3'.wr.np;have nk3:=S3'.wr.nk;have hb3:=S3'.bx.1;obtain⟨x_0,x_1,x_2,x_3,x_4,x_5,x_6,x_f⟩:=(hb3).c7;clear hq3 S3' hb3;clear z_0 z_1 z_2 z_3 z_4 z_5 z_6;go_wp2;go_end0;exact S3.out.post (by simp only[catL,Ch,BR,Cq]) (by omega) (by simp only[List.length_cons,List.length_nil];omega)
theorem RE(h:Ww w b out pre wrong ov)(hs:s.length≤2000000)(ha:a.op≠1)(hk:KidS w b g o a k qa qc ra rc)(hc:pre.length+(nX a k+10)≤9000000)(ho:out.length+(kX a k+8000000)≤700000000000000):
 Calls Tryz.prog 47 #[.pointer (some ⟨b,0,none⟩),exV ⟨2,s,vk,vn,vs,p⟩ pv (.slice (some ⟨g,o,none⟩) 1 lc)] w (WPost (catL [nmW s,sgn [45,62],BX (AC wdM a (Ao wdM k))]) (nX a k+10) (kX a k+8000000) w b out pre wrong ov):=by
 have c1:(a.op==1)=false:=by simpa using ha
 have S0':=Sx.start h (hdC ⟨2,s,vk,vn,vs,p⟩ pv (.slice (some ⟨g,o,none⟩) 1 lc));have hb0:=S0'.bx.1;obtain⟨x_0,x_1,x_2,x_3,x_4,x_5,x_6,x_f⟩:=(hb0).c7;have S0:=O S0';have H0:=O (Z h hk);clear S0' hb0 h hk ha;go_enter func47,ntmps47;go_wp2_with fail;refine(DN (b:=b) 1).mono ?_;rintro e1 w1 ⟨rfl,rfl⟩;go_wp2_with fail;refine((D4 S0.out.ww s hs (by omega) (by omega))).mono ?_;intro e1 w1 hq1;obtain⟨rfl,o1,p1,r1,v1,S1'⟩:=S0.out.next hq1;have S1:=O S1';have np1:=S1'.wr.np;have nk1:=S1'.wr.nk;have hb1:=S1'.bx.1;obtain⟨x_0,x_1,x_2,x_3,x_4,x_5,x_6,x_f⟩:=(hb1).c7;clear hq1 S1' hb1;go_wp2_with fail;refine((Br S1.out.ww [45,62] (by omega) (by simp only[List.length_cons,List.length_nil];omega))).mono ?_;intro e2 w2 hq2;obtain⟨rfl,o2,p2,r2,v2,S2'⟩:=S1.out.next hq2;have S2:=O S2';have np2:=S2'.wr.np;have nk2:=S2'.wr.nk;have hb2:=S2'.bx.1;obtain⟨x_0,x_1,x_2,x_3,x_4,x_5,x_6,x_f⟩:=(hb2).c7;clear hq2 S2' hb2;simp only[List.length_cons,List.length_nil]at nk2;have K2:=O (H0.out.2.kept S2.out.wk H0.out.1.low);obtain⟨z_0,z_1,z_2,z_3,z_4,z_5,z_6⟩:=(Kid.kept (H0.out.2.kid) S2.out.wk H0.out.1.low).c7;have z_l:=(Kid.kept (H0.out.2.kid) S2.out.wk H0.out.1.low).1;go_wp2_with fail;refine((Fs S2.out.ww K2.out.hp K2.out.hr K2.out.ex (by omega) (by omega))).mono ?_;intro e3 w3 hq3;obtain⟨rfl,o3,p3,r3,v3,S3'⟩:=S2.out.next hq3;have S3:=O S3';have np3:=S3'.wr.np;have nk3:=S3'.wr.nk;have hb3:=S3'.bx.1;obtain⟨x_0,x_1,x_2,x_3,x_4,x_5,x_6,x_f⟩:=(hb3).c7;clear hq3 S3' hb3;clear z_0 z_1 z_2 z_3 z_4 z_5 z_6;go_wp2
 go_end0;exact S3.out.post (by simp only[catL,Ch,BR,Cq]) (by omega) (by simp only[List.length_cons,List.length_nil];omega)
theorem RG(h:Ww w b out pre wrong ov)(hs:s=[46,78,79,84,46])(hk:KidS w b g o a k qa qc ra rc)(hc:pre.length+(nX a k+10)≤9000000)(ho:out.length+(kX a k+8000000)≤700000000000000):
 Calls Tryz.prog 47 #[.pointer (some ⟨b,0,none⟩),exV ⟨4,s,vk,vn,vs,p⟩ pv (.slice (some ⟨g,o,none⟩) 1 lc)] w (WPost (catL [sgn s,Bb,Bl (a,AC wdM a (Ao wdM k))]) (nX a k+10) (kX a k+8000000) w b out pre wrong ov):=by
 subst hs;have S0':=Sx.start h (hdC ⟨4,[46,78,79,84,46],vk,vn,vs,p⟩ pv (.slice (some ⟨g,o,none⟩) 1 lc));have hb0:=S0'.bx.1;obtain⟨x_0,x_1,x_2,x_3,x_4,x_5,x_6,x_f⟩:=(hb0).c7;have S0:=O S0';have H0:=O (Z h hk);clear S0' hb0 h hk;go_enter func47,ntmps47;go_wp2_with fail;refine(DN (b:=b) 1).mono ?_;rintro e1 w1 ⟨rfl,rfl⟩;go_wp2_with fail;refine((Br S0.out.ww [46,78,79,84,46] (by omega) (by simp only[List.length_cons,List.length_nil];omega))).mono ?_;intro e1 w1 hq1;obtain⟨rfl,o1,p1,r1,v1,S1'⟩:=S0.out.next hq1;have S1:=O S1';have np1:=S1'.wr.np;have nk1:=S1'.wr.nk;have hb1:=S1'.bx.1;obtain⟨x_0,x_1,x_2,x_3,x_4,x_5,x_6,x_f⟩:=(hb1).c7;clear hq1 S1' hb1;simp only[List.length_cons,List.length_nil]at nk1;go_wp2_with fail;refine((EG S1.out.ww (by omega))).mono ?_;intro e2 w2 hq2;obtain⟨rfl,o2,p2,r2,v2,S2'⟩:=S1.out.next hq2;have S2:=O S2';have np2:=S2'.wr.np;have nk2:=S2'.wr.nk;have hb2:=S2'.bx.1;obtain⟨x_0,x_1,x_2,x_3,x_4,x_5,x_6,x_f⟩:=(hb2).c7;clear hq2 S2' hb2;simp only[List.length_cons,List.length_nil]at nk2;have K2:=O (H0.out.2.kept S2.out.wk H0.out.1.low);obtain⟨z_0,z_1,z_2,z_3,z_4,z_5,z_6⟩:=(Kid.kept (H0.out.2.kid) S2.out.wk H0.out.1.low).c7;have z_l:=(Kid.kept (H0.out.2.kid) S2.out.wk H0.out.1.low).1
 go_wp2_with fail;refine((EQ S2.out.ww K2.out.hp K2.out.hr K2.out.ex (by omega) (by omega))).mono ?_;intro e3 w3 hq3;obtain⟨rfl,o3,p3,r3,v3,S3'⟩:=S2.out.next hq3;have S3:=O S3';have np3:=S3'.wr.np;have nk3:=S3'.wr.nk;have hb3:=S3'.bx.1;obtain⟨x_0,x_1,x_2,x_3,x_4,x_5,x_6,x_f⟩:=(hb3).c7;clear hq3 S3' hb3;clear z_0 z_1 z_2 z_3 z_4 z_5 z_6;go_wp2;go_end0;exact S3.out.post (by simp only[catL,Ch,BR,Cq]) (by omega) (by simp only[List.length_cons,List.length_nil];omega)
theorem RH(h:Ww w b out pre wrong ov)(hs:s.length≤2000000)(hn:s≠[46,78,79,84,46])(hk:KidS w b g o a k qa qc ra rc)(hc:pre.length+(nX a k+10)≤9000000)(ho:out.length+(kX a k+8000000)≤700000000000000):
 Calls Tryz.prog 47 #[.pointer (some ⟨b,0,none⟩),exV ⟨4,s,vk,vn,vs,p⟩ pv (.slice (some ⟨g,o,none⟩) 1 lc)] w (WPost (catL [sgn s,some ([],[]),Bl (a,AC wdM a (Ao wdM k))]) (nX a k+10) (kX a k+8000000) w b out pre wrong ov):=by
 have c1:(s==[46,78,79,84,46])=false:=by simpa using hn
 have S0':=Sx.start h (hdC ⟨4,s,vk,vn,vs,p⟩ pv (.slice (some ⟨g,o,none⟩) 1 lc));have hb0:=S0'.bx.1;obtain⟨x_0,x_1,x_2,x_3,x_4,x_5,x_6,x_f⟩:=(hb0).c7;have S0:=O S0';have H0:=O (Z h hk);clear S0' hb0 h hk hn;go_enter func47,ntmps47;go_wp2_with fail;refine(DN (b:=b) 1).mono ?_;rintro e1 w1 ⟨rfl,rfl⟩;go_wp2_with fail;refine((Br S0.out.ww s (by omega) (by omega))).mono ?_;intro e1 w1 hq1;obtain⟨rfl,o1,p1,r1,v1,S1'⟩:=S0.out.next hq1;have S1:=O S1';have np1:=S1'.wr.np;have nk1:=S1'.wr.nk;have hb1:=S1'.bx.1;obtain⟨x_0,x_1,x_2,x_3,x_4,x_5,x_6,x_f⟩:=(hb1).c7;clear hq1 S1' hb1;have K2:=O (H0.out.2.kept S1.out.wk H0.out.1.low);obtain⟨z_0,z_1,z_2,z_3,z_4,z_5,z_6⟩:=(Kid.kept (H0.out.2.kid) S1.out.wk H0.out.1.low).c7;have z_l:=(Kid.kept (H0.out.2.kid) S1.out.wk H0.out.1.low).1;go_wp2_with fail;refine((EQ S1.out.ww K2.out.hp K2.out.hr K2.out.ex (by omega) (by omega))).mono ?_;intro e3 w3 hq3;obtain⟨rfl,o3,p3,r3,v3,S3'⟩:=S1.out.next hq3;have S3:=O S3';have np3:=S3'.wr.np;have nk3:=S3'.wr.nk;have hb3:=S3'.bx.1;obtain⟨x_0,x_1,x_2,x_3,x_4,x_5,x_6,x_f⟩:=(hb3).c7;clear hq3 S3' hb3;clear z_0 z_1 z_2 z_3 z_4 z_5 z_6;go_wp2;go_end0;exact S3.out.post (by simp only[catL,Ch,BR,Cq]) (by omega) (by omega)
theorem Sj(h:Ww w b out pre wrong ov)(hs:s.length≤2000000)(hk:KidS w b g o a k qa qc ra rc)(hk2:KidS w b g (o+7) a2 k2 qa2 qc2 ra2 rc2)(hc:pre.length+(nX a k+nX a2 k2+10)≤9000000)(ho:out.length+(kX a k+kX a2 k2+8000000)≤700000000000000):
 Calls Tryz.prog 47 #[.pointer (some ⟨b,0,none⟩),exV ⟨5,s,vk,vn,vs,p⟩ pv (.slice (some ⟨g,o,none⟩) 2 lc)] w (WPost (catL [Bl (a,AC wdM a (Ao wdM k)),Bb,sgn s,Bb,Bl (a2,AC wdM a2 (Ao wdM k2))]) (nX a k+nX a2 k2+10) (kX a k+kX a2 k2+8000000) w b out pre wrong ov):=by
 have S0':=Sx.start h (hdC ⟨5,s,vk,vn,vs,p⟩ pv (.slice (some ⟨g,o,none⟩) 2 lc));have hb0:=S0'.bx.1;obtain⟨x_0,x_1,x_2,x_3,x_4,x_5,x_6,x_f⟩:=(hb0).c7;have S0:=O S0';have H0:=O (Z h (Z hk hk2));have HC:=O (Z hc ho);clear S0' hb0 h hk hk2 hc ho;go_enter func47,ntmps47;go_wp2_with fail;refine(DN (b:=b) 2).mono ?_;rintro e1 w1 ⟨rfl,rfl⟩;have K1:=O (H0.out.2.1.kept S0.out.wk H0.out.1.low);obtain⟨z_0,z_1,z_2,z_3,z_4,z_5,z_6⟩:=H0.out.2.1.kid.1.c7;have z_l:=H0.out.2.1.kid.1.1;go_wp2_with fail;refine((EQ S0.out.ww K1.out.hp K1.out.hr K1.out.ex (by(have:=HC.out.1;have:=HC.out.2;omega)) (by(have:=HC.out.1;have:=HC.out.2;omega)))).mono ?_;intro e1 w1 hq1;obtain⟨rfl,o1,p1,r1,v1,S1'⟩:=S0.out.next hq1;have S1:=O S1';have np1:=S1'.wr.np;have nk1:=S1'.wr.nk;have hb1:=S1'.bx.1;obtain⟨x_0,x_1,x_2,x_3,x_4,x_5,x_6,x_f⟩:=(hb1).c7;clear hq1 S1' hb1;clear z_0 z_1 z_2 z_3 z_4 z_5 z_6;go_wp2_with fail;refine((EG S1.out.ww (by(have:=HC.out.1;have:=HC.out.2;omega)))).mono ?_;intro e2 w2 hq2;obtain⟨rfl,o2,p2,r2,v2,S2'⟩:=S1.out.next hq2;have S2:=O S2';have np2:=S2'.wr.np;have nk2:=S2'.wr.nk;have hb2:=S2'.bx.1;obtain⟨x_0,x_1,x_2,x_3,x_4,x_5,x_6,x_f⟩:=(hb2).c7;clear hq2 S2' hb2;go_wp2_with fail;refine((Br S2.out.ww s (by(have:=HC.out.1;have:=HC.out.2;omega)) (by(have:=HC.out.1;have:=HC.out.2;omega)))).mono ?_;intro e3 w3 hq3;obtain⟨rfl,o3,p3,r3,v3,S3'⟩:=S2.out.next hq3;have S3:=O S3';have np3:=S3'.wr.np;have nk3:=S3'.wr.nk;have hb3:=S3'.bx.1;obtain⟨x_0,x_1,x_2,x_3,x_4,x_5,x_6,x_f⟩:=(hb3).c7;clear hq3 S3' hb3
 go_wp2_with fail;refine((EG S3.out.ww (by(have:=HC.out.1;have:=HC.out.2;omega)))).mono ?_;intro e4 w4 hq4;obtain⟨rfl,o4,p4,r4,v4,S4'⟩:=S3.out.next hq4;have S4:=O S4';have np4:=S4'.wr.np;have nk4:=S4'.wr.nk;have hb4:=S4'.bx.1;obtain⟨x_0,x_1,x_2,x_3,x_4,x_5,x_6,x_f⟩:=(hb4).c7;clear hq4 S4' hb4;have K2:=O (H0.out.2.2.kept S4.out.wk H0.out.1.low);obtain⟨z_0,z_1,z_2,z_3,z_4,z_5,z_6⟩:=(Kid.kept (H0.out.2.2.kid) S4.out.wk H0.out.1.low).c7;have z_l:=(Kid.kept (H0.out.2.2.kid) S4.out.wk H0.out.1.low).1;go_wp2_with fail;refine((EQ S4.out.ww K2.out.hp K2.out.hr K2.out.ex (by(have:=HC.out.1;have:=HC.out.2;omega)) (by(have:=HC.out.1;have:=HC.out.2;omega)))).mono ?_;intro e5 w5 hq5;obtain⟨rfl,o5,p5,r5,v5,S5'⟩:=S4.out.next hq5;have S5:=O S5';have np5:=S5'.wr.np;have nk5:=S5'.wr.nk;have hb5:=S5'.bx.1;obtain⟨x_0,x_1,x_2,x_3,x_4,x_5,x_6,x_f⟩:=(hb5).c7;clear hq5 S5' hb5;clear z_0 z_1 z_2 z_3 z_4 z_5 z_6;go_wp2;go_end0;exact S5.out.post (by simp only[catL,Ch,BR,Cq]) (by(have:=HC.out.1;have:=HC.out.2;omega)) (by(have:=HC.out.1;have:=HC.out.2;omega))
theorem Sk(h:Ww w b out pre wrong ov)(hk:KidS w b g o a k qa qc ra rc)(hk2:KidS w b g (o+7) a2 k2 qa2 qc2 ra2 rc2)(hc:pre.length+(nX a k+nX a2 k2+10)≤9000000)(ho:out.length+(kX a k+kX a2 k2+8000000)≤700000000000000):
 Calls Tryz.prog 47 #[.pointer (some ⟨b,0,none⟩),exV ⟨6,s,vk,vn,vs,p⟩ pv (.slice (some ⟨g,o,none⟩) 2 lc)] w (WPost (catL [Bl (a,AC wdM a (Ao wdM k)),sgn [91],AC wdM a2 (Ao wdM k2),sgn [93]]) (nX a k+nX a2 k2+10) (kX a k+kX a2 k2+8000000) w b out pre wrong ov):=by
 have S0':=Sx.start h (hdC ⟨6,s,vk,vn,vs,p⟩ pv (.slice (some ⟨g,o,none⟩) 2 lc));have hb0:=S0'.bx.1;obtain⟨x_0,x_1,x_2,x_3,x_4,x_5,x_6,x_f⟩:=(hb0).c7;have S0:=O S0';have H0:=O (Z h (Z hk hk2));have HC:=O (Z hc ho);clear S0' hb0 h hk hk2 hc ho;go_enter func47,ntmps47;go_wp2_with fail;refine(DN (b:=b) 2).mono ?_;rintro e1 w1 ⟨rfl,rfl⟩;have K1:=O (H0.out.2.1.kept S0.out.wk H0.out.1.low);obtain⟨z_0,z_1,z_2,z_3,z_4,z_5,z_6⟩:=H0.out.2.1.kid.1.c7;have z_l:=H0.out.2.1.kid.1.1;go_wp2_with fail;refine((EQ S0.out.ww K1.out.hp K1.out.hr K1.out.ex (by(have:=HC.out.1;have:=HC.out.2;omega)) (by(have:=HC.out.1;have:=HC.out.2;omega)))).mono ?_;intro e1 w1 hq1;obtain⟨rfl,o1,p1,r1,v1,S1'⟩:=S0.out.next hq1;have S1:=O S1';have np1:=S1'.wr.np;have nk1:=S1'.wr.nk;have hb1:=S1'.bx.1;obtain⟨x_0,x_1,x_2,x_3,x_4,x_5,x_6,x_f⟩:=(hb1).c7;clear hq1 S1' hb1;clear z_0 z_1 z_2 z_3 z_4 z_5 z_6;go_wp2_with fail;refine((Br S1.out.ww [91] (by(have:=HC.out.1;have:=HC.out.2;omega)) (by simp only[List.length_cons,List.length_nil];(have:=HC.out.1;have:=HC.out.2;omega)))).mono ?_;intro e2 w2 hq2;obtain⟨rfl,o2,p2,r2,v2,S2'⟩:=S1.out.next hq2;have S2:=O S2';have np2:=S2'.wr.np;have nk2:=S2'.wr.nk;have hb2:=S2'.bx.1;obtain⟨x_0,x_1,x_2,x_3,x_4,x_5,x_6,x_f⟩:=(hb2).c7;clear hq2 S2' hb2;simp only[List.length_cons,List.length_nil]at nk2;have K2:=O (H0.out.2.2.kept S2.out.wk H0.out.1.low)
 obtain⟨z_0,z_1,z_2,z_3,z_4,z_5,z_6⟩:=(Kid.kept (H0.out.2.2.kid) S2.out.wk H0.out.1.low).c7;have z_l:=(Kid.kept (H0.out.2.2.kid) S2.out.wk H0.out.1.low).1;go_wp2_with fail;refine((K2.out.ex _ _ _ _ _ _ _ _ _ S2.out.ww K2.out.hp K2.out.hr (by(have:=HC.out.1;have:=HC.out.2;omega)) (by(have:=HC.out.1;have:=HC.out.2;omega)))).mono ?_;intro e3 w3 hq3;obtain⟨rfl,o3,p3,r3,v3,S3'⟩:=S2.out.next hq3;have S3:=O S3';have np3:=S3'.wr.np;have nk3:=S3'.wr.nk;have hb3:=S3'.bx.1;obtain⟨x_0,x_1,x_2,x_3,x_4,x_5,x_6,x_f⟩:=(hb3).c7;clear hq3 S3' hb3;clear z_0 z_1 z_2 z_3 z_4 z_5 z_6;simp only[List.length_cons,List.length_nil]at nk3;go_wp2_with fail;refine((Br S3.out.ww [93] (by(have:=HC.out.1;have:=HC.out.2;omega)) (by simp only[List.length_cons,List.length_nil];(have:=HC.out.1;have:=HC.out.2;omega)))).mono ?_;intro e4 w4 hq4;obtain⟨rfl,o4,p4,r4,v4,S4'⟩:=S3.out.next hq4;have S4:=O S4';have np4:=S4'.wr.np;have nk4:=S4'.wr.nk;have hb4:=S4'.bx.1;obtain⟨x_0,x_1,x_2,x_3,x_4,x_5,x_6,x_f⟩:=(hb4).c7;clear hq4 S4' hb4;go_wp2;go_end0;exact S4.out.post (by simp only[catL,Ch,BR,Cq]) (by(have:=HC.out.1;have:=HC.out.2;omega)) (by simp only[List.length_cons,List.length_nil];(have:=HC.out.1;have:=HC.out.2;omega))
end
end Go.Proofs.YtgjdhajcnechdaaGreatDoor
