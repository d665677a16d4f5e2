/-
  copied: the walk. The closure of Names: it notes a name. replaced: the state of a node whose operands are replaced, beside what the function value writes. replaced: an alias is copied. replaced with t
-/
import Derived.Test.YtgjdhajcnechdaaGreatDoorSv43
import Derived.Test.YtgjdhajcnechdaaGreatDoorSv33
import Derived.Test.YtgjdhajcnechdaaGreatDoorSv30
import Derived.Test.YtgjdhajcnechdaaGreatDoorSv20
set_option linter.all false
set_option maxRecDepth 100000
set_option maxHeartbeats 8000000
namespace Go.Proofs.YtgjdhajcnechdaaGreatDoor
open Go.Proofs.Tryz
open Go.RowKit
theorem CK.ve{B B' b c:Nat}{h:Hd}{pa la:Option Addr}{pc lc:Nat}{acc:Fo}{wr w1:World}(k:CK B b h (.slice pa h.p.length pc) (.slice la acc.len lc) acc wr)(g:wr.grownBy w1 (some c))(hc:c<B)(hB:B'≤B):VE (AA B') w1 (exV h (.slice pa h.p.length pc) (.slice la acc.len lc)) ⟨h,acc⟩:=by
 have hi:∀q,frN B (.slice la acc.len lc) q→q<wr.heap.size→AA B' q:=fun q hq _=>Nat.le_trans hB hq.1;have hs:∀q,B≤q→q<wr.heap.size→some q≠some c:=fun q hq _ e=>by cases e;omega
 obtain⟨cs,h1,h2⟩:=k.row;refine⟨pa,pc,la,lc,rfl,((k.hp.gb g (fun q hq hl=>hs q hq.1 hl)).mono fun q hq _=>Nat.le_trans hB hq.1),cs,(((B1 h1).gb g (fun q hq hl=>hs q hq hl)).mono fun q hq _=>Nat.le_trans hB hq),?_⟩;exact(RepF.gb g (fun q hq hl=>hs q hq.1 hl) h2).mono fun q hq _=>Nat.le_trans hB hq.1
def CpC(h:Hd)(k:Fo):Prop:=∀(W:World)(pa la:Option Addr)(pc lc:Nat),Cells W (.slice pa h.p.length pc) 1 h.p.length (h.p.map str) (fun _=>True)→RepL (fun _=>True) W (.slice la k.len lc) k→
 Calls Tryz.prog 26 #[exV h (.slice pa h.p.length pc) (.slice la k.len lc)] W fun e w'=>∃v,e= .returned v∧VE (AA W.heap.size) w' v ⟨h,k⟩∧W.grownBy w' none
section
variable {w:World}{h:Hd}{k:Fo}{pa la:Option Addr}{pc lc:Nat}
theorem KY(hp:Cells w (.slice pa h.p.length pc) 1 h.p.length (h.p.map str) (fun _=>True))(hr:RepL (fun _=>True) w (.slice la k.len lc) k)(hl:h.p.length≤8000000)(hn:k.len≤1000000)
 (E:∀a k2,k2.wt<k.wt→a.fit→k2.fit→k2.nodes≤k.nodes→CpC a k2) (hf:k.fit):
 Calls Tryz.prog 26 #[exV h (.slice pa h.p.length pc) (.slice la k.len lc)] w fun e w'=>∃v,e= .returned v∧VE (AA w.heap.size) w' v ⟨h,k⟩∧w.grownBy w' none:=by
 have HC:=O (fun(W:World)(g:w.grownBy W none)=>EZ (hp.gb g (by simp)) hl);have H0:=O (Z hr (Z E hf));have HX:=O (Blk.new w (hdC h (.slice pa h.p.length pc) (.slice la k.len lc)) 27);have HY:=O ((Blk.new (w.alloc (.cells (hdC h (.slice pa h.p.length pc) (.slice la k.len lc)).toArray 27 (0,0))) zeroE 27).of_eq (show _=w.heap.size+1 by simp) rfl);have hX:=HX.out;obtain⟨x_0,x_1,x_2,x_3,x_4,x_5,x_6,x_f⟩:=(hX).c7;clear hp hr E hf hX;go_enter func26,ntmps26;go_wp2_with fail;refine(HC.out _ (by repeat(first| (with_reducible exact Ac _ _)| (with_reducible assumption)| (with_reducible exact AU (by assumption))| (with_reducible refine Ad ?_ _)| (with_reducible refine Am ?_)| (with_reducible refine A3 ?_ _)| ((with_reducible refine Ay ?_ _ _ ?h2);case h2=>first|exact .inl rfl|exact .inr (Nat.le_refl _)|exact .inr (by simp<;>omega))| (with_reducible refine Ah ?_ (by assumption))| (with_reducible refine Aa ?_ (by assumption))))).mono ?_;rintro e w1 ⟨v,rfl,hv,g1⟩;obtain⟨va,vc,rfl,_⟩:=id (B1 hv);have hx1:=(Blk.alloc HX.out (.cells zeroE.toArray 27 (0,0))).gb g1 (by simp);have hy1:=HY.out.gb g1 (by simp);have g01:w.grownBy w1 none:=Aa (by repeat(first| (with_reducible exact Ac _ _)| (with_reducible assumption)| (with_reducible exact AU (by assumption))| (with_reducible refine Ad ?_ _)| (with_reducible refine Am ?_)| (with_reducible refine A3 ?_ _)| ((with_reducible refine Ay ?_ _ _ ?h2);case h2=>first|exact .inl rfl|exact .inr (Nat.le_refl _)|exact .inr (by simp<;>omega))| (with_reducible refine Ah ?_ (by assumption))| (with_reducible refine Aa ?_ (by assumption)))) g1;have hsz:=g1.size;have hsz2:w.heap.size+2≤w1.heap.size:=by simpa using hsz
 have gs5:w1.grownBy (w1.setCell ⟨w.heap.size,5,none⟩ (.slice va h.p.length vc)) (some w.heap.size):=AE (Ac w1 (some w.heap.size)) 5 _;have gs6:(w1.setCell ⟨w.heap.size,5,none⟩ (.slice va h.p.length vc)).grownBy ((w1.setCell ⟨w.heap.size,5,none⟩ (.slice va h.p.length vc)).setCell ⟨w.heap.size,6,none⟩ (.slice none 0 0)) (some w.heap.size):=AE (Ac _ (some w.heap.size)) 6 _;have gs:=Aa gs5 gs6;have gW2:w.grownBy ((w1.setCell ⟨w.heap.size,5,none⟩ (.slice va h.p.length vc)).setCell ⟨w.heap.size,6,none⟩ (.slice none 0 0)) none:=Ar g01 gs (.inr (Nat.le_refl _));have HCK:=O (show CK (w.heap.size+2) w.heap.size h (.slice va h.p.length vc) (.slice none 0 0) .nil ((w1.setCell ⟨w.heap.size,5,none⟩ (.slice va h.p.length vc)).setCell ⟨w.heap.size,6,none⟩ (.slice none 0 0))from
  ⟨((hx1.set 5 _).set 6 _).of_eq rfl rfl,((B1 hv).mono (ok':=frN (w.heap.size+2) (.slice none 0 0)) (fun q hq _=>⟨by simpa using hq,by simp[Value.ownBlock]⟩)).gb gs (fun q hq _ e=>by cases e;have:=hq.1;omega),⟨[],World.ownsRow_nil _ _ _ _,rfl⟩,by omega⟩)
 have HYB:=O (hy1.gb gs (by simp));have HG:=O gW2;obtain⟨cs,hcs,hrf⟩:=H0.out.1;obtain⟨_,_,e,_,hmx,_,hcc⟩:=hcs;cases e;have HR:=O hrf;have HCC:=O hcc;have hbl1:=hx1.lt;clear hv g01 gs5 gs6 gs gW2 hy1 x_0 x_1 x_2 x_3 x_4 x_5 x_6 x_f hrf hcc HX HY HC;obtain⟨y_0,y_1,y_2,y_3,y_4,y_5,y_6,y_f⟩:=(hx1).c7;clear hx1 g1;go_wp2_with fail;go_loopg [15] k.len (fun n v15 wr=>∃(i:Nat)(acc rf:Fo)(lv:Value),rf.len=n∧i+n=k.len∧v15= .int .i64 i∧acc.app rf=k∧acc.len=i∧CK (w.heap.size+2) w.heap.size h (.slice va h.p.length vc) lv acc wr∧Blk wr (w.heap.size+1) zeroE 27∧rf.wt≤k.wt∧rf.nodes≤k.nodes∧rf.fit∧RepF (fun _=>True) w rf (cs.drop (i*7))∧w.grownBy wr none)
 case atStart=>exact⟨0,.nil,k,.slice none 0 0,rfl,by omega,rfl,rfl,rfl,HCK.out,HYB.out,Nat.le_refl _,Nat.le_refl _,H0.out.2.2,by simpa using HR.out,HG.out⟩
 case round=>
  obtain⟨i,acc,rf,lv,hni,hk,rfl,hacc,hal,hck,hyb,hwt,hnd,hft,hrf,hgr⟩:=hrel;subst hal;obtain⟨aq,nq,rfl⟩:=hck.shape;have hb:=hck.blk;have hbl:=hb.lt;obtain⟨x_0,x_1,x_2,x_3,x_4,x_5,x_6,x_f⟩:=(hb).c7;clear hb HCK HYB HG HR y_0 y_1 y_2 y_3 y_4 y_5 y_6 y_f;cases rf with
  | nil=>
    have hkI:decide (acc.len<k.len)=false:=by simp[Fo.len]at hni;simp;omega
    have hak:k=acc:=by rw[Dh]at hacc;exact hacc.symm
    subst hak;have hbz:=hyb.lt;have hyb2:=hyb;obtain⟨z0,z1,z2,z3,z4,z5,z6,zf⟩:=Blk.c7 hyb2;have HX:=O (Z hck (Z hyb hgr));clear hck hyb hyb2 hgr hrf hacc hni;go_wp2;have g7:=Ag wr (w.heap.size+1) (.int .i64 (Ex.mk h k).h.op) (str (Ex.mk h k).h.s) (.int .i64 (Ex.mk h k).h.vk) (.int .i64 (Ex.mk h k).h.vn) (str (Ex.mk h k).h.vs) (.slice va (Ex.mk h k).h.p.length vc) (.slice aq (Ex.mk h k).kids.len nq);exact bodyPost_ret (Ai (hd:=h) (pv:= .slice va h.p.length vc) (lv:= .slice aq k.len nq) rfl _ (HX.out.2.1.set7 (.int .i64 (Ex.mk h k).h.op) (str (Ex.mk h k).h.s) (.int .i64 (Ex.mk h k).h.vk) (.int .i64 (Ex.mk h k).h.vn) (str (Ex.mk h k).h.vs) (.slice va (Ex.mk h k).h.p.length vc) (.slice aq (Ex.mk h k).kids.len nq)) rfl) rfl ⟨_,rfl,HX.out.1.ve g7 (by omega) (by omega),Ar HX.out.2.2 g7 (.inr (by omega))⟩
  | cons h1 k1 n1=>
    simp only[Fo.len]at hni;simp only[Fo.wt]at hwt;simp only[Fo.nodes]at hnd;subst hni;have hkI:decide (acc.len<k.len)=true:=by simp;omega
    have hkf:acc.len+1≤k.len:=by omega
    obtain⟨g1,o1,pa1,pc1,lb1,ld1,rfl,hp1,hl1,hx1,hkid⟩:=CL (k:=acc.len) (n:=k.len) (lc:=lc) HCC.out hrf;have HE1:=O (fun(W:World)(g:wr.grownBy W none)=>H0.out.2.1 h1 k1 (by omega) hft.1 hft.2.1 (by omega) W pa1 lb1 pc1 ld1 (hp1.gb (Aa hgr g) (by simp)) (hl1.gb (Aa hgr g) (by simp)));have hkid2:=hkid.gb' hgr;have hgl:=hkid2.1;obtain⟨z0,z1,z2,z3,z4,z5,z6⟩:=hkid2.c7;have hown0:=hck.own;have hacc2:(acc.snoc ⟨h1,k1⟩).app n1=k:=by rw[Dp];exact hacc
    obtain⟨i0,hi0,hz0,hz1,hz2⟩:=info_parts Cl;have HI:=O (Z hi0 (Z hz0 (Z hz1 hz2)));have HN:=O (Z hck (Z hyb (Z hgr (Z hacc2 (Z hft.2.2 (Z hx1 hown0))))));have hws:=hgr.size;clear hck hyb hgr hacc2 hacc hft hx1 hp1 hl1 hkid hkid2 hrf hown0 hi0 hz0 hz1 hz2;go_wp2_with fail;go_region_law(first
     | (refine step_append_lies _ (by rfl) _ _ 25 (by rfl) (w.heap.size+2) 27 i0 _ 7 104 underlying25 HI.out.1 HI.out.2.1 HI.out.2.2.1 HI.out.2.2.2 rfl (by decide) (.slice aq acc.len nq) acc.len cs5 (by rfl) HA.out.2.1 ⟨w5.heap.size,0,none⟩ 1 1 (hdC h1 (.slice pa5 h1.p.length pc5) (.slice la5 k1.len lc5)) (by rfl) rfl (Ce _ _ _) (by simp[hdC,Value.oneCell']) (by decide) (by unfold maxLen;omega) (by omega) (by have:=HA.out.2.2.2.2.2;simp;omega) _ rfl ?_;intro j cap w7 hown hgrow hat hlt;(have hck7:=HA.out.1.append (x:=⟨h1,k1⟩) HA.out.2.2.1 HA.out.2.2.2.1 HA.out.2.2.2.2.1 hown hgrow hat);(have hb7:=HA.out.1.blk.gb hgrow (fun e=>by have:=HA.out.1.own _ e.symm;omega));(have l7:=hb7.lt);obtain⟨s_0,s_1,s_2,s_3,s_4,s_5,s_6,s_f⟩:=(hb7).c7;(have HO:=O (Z hck7 (Z hown hgrow)));clear hck7 hb7 hown hgrow hat)
     | (go_simp;go_at_call 26;refine(HE1.out _ (by repeat(first| (with_reducible exact Ac _ _)| (with_reducible assumption)| (with_reducible exact AU (by assumption))| (with_reducible refine Ad ?_ _)| (with_reducible refine Am ?_)| (with_reducible refine A3 ?_ _)| ((with_reducible refine Ay ?_ _ _ ?h2);case h2=>first|exact .inl rfl|exact .inr (Nat.le_refl _)|exact .inr (by simp<;>omega))| (with_reducible refine Ah ?_ (by assumption))| (with_reducible refine Aa ?_ (by assumption))))).mono ?_;rintro e w5 ⟨v5,rfl,⟨pa5,pc5,la5,lc5,rfl,q1,q2⟩,g5⟩;(have g5':wr.grownBy w5 none:=Aa (by repeat(first| (with_reducible exact Ac _ _)| (with_reducible assumption)| (with_reducible exact AU (by assumption))| (with_reducible refine Ad ?_ _)| (with_reducible refine Am ?_)| (with_reducible refine A3 ?_ _)| ((with_reducible refine Ay ?_ _ _ ?h2);case h2=>first|exact .inl rfl|exact .inr (Nat.le_refl _)|exact .inr (by simp<;>omega))| (with_reducible refine Ah ?_ (by assumption))| (with_reducible refine Aa ?_ (by assumption)))) g5);(have hck5:=HN.out.1.gb g5');(have hb5:=hck5.blk);(have hbl5:=hb5.lt);(have gA:=World.grownBy_alloc w5 (.cells (hdC h1 (.slice pa5 h1.p.length pc5) (.slice la5 k1.len lc5)).toArray 27 (0,0)) none);(have hck6:=hck5.gb gA);(obtain⟨cs5,ho5,hr5⟩:=hck6.row);(have hfr:∀q,wr.heap.size≤q→frN (w.heap.size+2) (.slice aq acc.len nq) q:=fun q hq=>⟨by have:=(HN.out.2.1).lt;omega,fun e=>by have:=(HN.out.2.2.2.2.2.2 q e).2;omega⟩);(have HA:=O (Z hck6 (Z ho5 (Z hr5 (Z ((q1.mono (ok':=frN (w.heap.size+2) (.slice aq acc.len nq)) (fun q hq _=>hfr q (by have:wr.heap.size+1≤q:=(by simpa using hq);omega))).gb gA (by simp)) (Z ((q2.mono (ok':=frN (w.heap.size+2) (.slice aq acc.len nq)) (fun q hq _=>hfr q (by have:wr.heap.size+1≤q:=(by simpa using hq);omega))).gb gA (by simp)) g5'.size))))));(have HG5:=O (Aa g5' gA));obtain⟨u_0,u_1,u_2,u_3,u_4,u_5,u_6,u_f⟩:=(hb5).c7;clear hck5 hb5 gA hck6 ho5 hr5 hfr q1 q2 g5 g5'))
    all_goals
     go_wp2;go_roundg n1.len
     case measure=>omega
     case rel=>
      have hl9:=(HN.out.2.1).lt;have gs:w7.grownBy (w7.setCell ⟨w.heap.size,6,none⟩ (.slice (some ⟨j,0,none⟩) (acc.len+1) cap)) (some w.heap.size):=AE (Ac w7 (some w.heap.size)) 6 _;have gr7:=Eo HA.out.2.1 (Aa HN.out.2.2.1 HG5.out) HO.out.2.2 (by omega);exact⟨acc.len+1,acc.snoc ⟨h1,k1⟩,n1,(.slice (some ⟨j,0,none⟩) (acc.len+1) cap),rfl,by omega,by go_num,HN.out.2.2.2.1,by rw[Fo.len_snoc],HO.out.1,(QM HA.out.2.1 (HN.out.2.1.gb HG5.out (by simp)) HO.out.2.2 (by omega)).gb gs (by simp),by omega,by omega,HN.out.2.2.2.2.1,HN.out.2.2.2.2.2.1,Ar gr7 gs (.inr (Nat.le_refl _))⟩
end
theorem E4:∀f:Fo,f.len≤f.nodes:=by
 intro f;induction f with
 |nil=>exact Nat.le_refl _
 |cons h k n _ ih=>simp only[Fo.len,Fo.nodes];omega
theorem PS:∀(N:Nat)(h:Hd)(k:Fo),k.wt<N→h.fit→k.fit→k.nodes≤1000000→CpC h k:=by
 intro N;induction N with
 |zero=>intro h k hN;omega
 | succ N ih=>
   intro h k hN h1 h2 hn W pa la pc lc hp hr;have:=E4 k;have h3:=h1.2.2.1;exact KY hp hr (by omega) (by omega) (fun a k2 hw ha hk hnk=>ih a k2 (by omega) ha hk (by omega)) h2
theorem Hy{w:World}{v:Value}{x:Ex}{ok:Nat→Prop}(hx:VE ok w v x)(h1:x.h.fit)(h2:x.kids.fit)(hn:x.kids.nodes≤1000000):
 Calls Tryz.prog 26 #[v] w fun e w'=>∃u,e= .returned u∧VE (AA w.heap.size) w' u x∧w.grownBy w' none:=by
 obtain⟨pa,pc,la,lc,rfl,hp,hl⟩:=hx;exact PS _ x.h x.kids (Nat.lt_succ_self _) h1 h2 hn w pa la pc lc (hp.mono fun _ _ _=>trivial) (hl.mono fun _ _ _=>trivial)
section
variable {w w1:World}{b:Nat}{ov:Value}{l:List Bs}{h:Hd}{pa la:Option Addr}{pn pc ln lc:Nat}
theorem WK.later{w w1 w2:World}{b c:Nat}{ov ov1:Value}(h:WK w w1 b ov ov1)(g:w1.grownBy w2 (some c))(hc:w.heap.size≤c):WK w w2 b ov ov1:=
 ⟨g.os.trans h.os,g.tape.trans h.tape,g.output.trans h.output,Nat.le_trans h.size g.size,fun i hi h1 h2=>(g.block i (Nat.lt_of_lt_of_le hi h.size) (by intro e;cases e;omega)).trans (h.block i hi h1 h2),h.own⟩
end
def frW(c d b:Nat)(ex:Nat→Prop)(lv ov:Value)(q:Nat):Prop:=q≠c∧q≠d∧q≠b∧lv.ownBlock≠some q∧ov.ownBlock≠some q∧ex q
structure KW(B c d b:Nat)(ex:Nat→Prop)(h:Hd)(pv lv:Value)(acc:Fo)(ov:Value)(wr:World):Prop where
 blk:Blk wr c (hdC h pv lv) 27
 hp:Cells wr pv 1 h.p.length (h.p.map str) (frW c d b ex lv ov)
 row:∃cs,wr.ownsRow B 27 7 lv acc.len cs∧RepF (frW c d b ex lv ov) wr acc cs
 lo:b<B∧c<B∧b≠c∧d<B
 sep:∀q,lv.ownBlock=some q→ov.ownBlock≠some q
 own:ov.ownBlock≠some c
section
variable {B c d b j cap:Nat}{ex:Nat→Prop}{h:Hd}{pv lv px lx ov ov1:Value}{acc:Fo}{wr w1:World}{x:Ex}{cs:List Value}
theorem KW.shape(k:KW B c d b ex h pv lv acc ov wr):∃a n,lv= .slice a acc.len n:=by
 obtain⟨cs,h1,_⟩:=k.row;obtain⟨a,n,e,_⟩:=B1 h1;exact⟨a,n,e⟩
theorem KW.rown(k:KW B c d b ex h pv lv acc ov wr):∀q,lv.ownBlock=some q→B≤q∧q<wr.heap.size:=by
 obtain⟨cs,h1,_⟩:=k.row;exact fun q e=>h1.lt q e
theorem CG{v:Value}{size n:Nat}{ds:List Value}{ok:Nat→Prop}(hc:Cells wr v size n ds ok)(g:WK wr w1 b ov ov1)(hk:∀q,ok q→q≠b∧ov.ownBlock≠some q):Cells w1 v size n ds ok:=by
 obtain⟨a,cap,e,h1,h2,h3,h4⟩:=hc;refine⟨a,cap,e,h1,h2,h3,fun j u hj=>?_⟩;obtain⟨gg,o,ea,hk2,hcc⟩:=h4 j u hj;exact⟨gg,o,ea,hk2,g.cell hcc (hk gg hk2).1 (hk gg hk2).2⟩
theorem Rf{ok:Nat→Prop}(g:WK wr w1 b ov ov1)(hk:∀q,ok q→q≠b∧ov.ownBlock≠some q):∀{f:Fo}{ds:List Value},RepF ok wr f ds→RepF ok w1 f ds:=by
 intro f;induction f with
 |nil=>intro ds h;exact h
 | cons hd kids next ih1 ih2=>
   rintro ds ⟨pv,lv,kcs,rest,e,h1,h2,h3,h4⟩;exact⟨pv,lv,kcs,rest,e,CG h1 g hk,CG h2 g hk,ih1 h3,ih2 h4⟩
theorem GG{ok:Nat→Prop}{v:Value}{f:Fo}(h:RepL ok wr v f)(g:WK wr w1 b ov ov1)(hk:∀q,ok q→q≠b∧ov.ownBlock≠some q):RepL ok w1 v f:=by
 obtain⟨cs,h1,h2⟩:=h;exact⟨cs,CG h1 g hk,Rf g hk h2⟩
theorem RW{e size n:Nat}{v:Value}{xs:List Value}{B:Nat}(h:wr.ownsRow B e size v n xs)(g:WK wr w1 b ov ov1)(hb:b<B)(hs:∀q,v.ownBlock=some q→ov.ownBlock≠some q):w1.ownsRow B e size v n xs:=by
 refine⟨h.1,?_⟩;rcases h.2 with hn| ⟨q,cp,cur,rfl,hbq,hq,rest⟩
 ·exact .inl hn
 ·exact .inr ⟨q,cp,cur,rfl,hbq,(g.block q (Array.getElem?_eq_some_iff.1 hq).1 (by omega) (hs q rfl)).trans hq,rest⟩
theorem KW.kept(k:KW B c d b ex h pv lv acc ov wr)(g:WK wr w1 b ov ov1):KW B c d b ex h pv lv acc ov1 w1:=by
 have hlo:=k.lo;have hk:∀q,frW c d b ex lv ov q→q≠b∧ov.ownBlock≠some q:=fun q hq=>⟨hq.2.2.1,hq.2.2.2.2.1⟩;have hn:∀q,q<wr.heap.size→ov.ownBlock≠some q→ov1.ownBlock≠some q:=fun q hl ho e=>by
  rcases g.own q e with h1|h1
  ·exact ho h1
  ·omega
 have hf:∀q,frW c d b ex lv ov q→q<wr.heap.size→frW c d b ex lv ov1 q:=fun q hq hl=>⟨hq.1,hq.2.1,hq.2.2.1,hq.2.2.2.1,hn q hl hq.2.2.2.2.1,hq.2.2.2.2.2⟩;have mv:∀{v:Value}{size n:Nat}{ds:List Value},Cells wr v size n ds (frW c d b ex lv ov)→Cells w1 v size n ds (frW c d b ex lv ov1):=fun hc=>
  (CG (hc.mono (ok':=fun q=>frW c d b ex lv ov q∧frW c d b ex lv ov1 q) (fun q hq hl=>⟨hq,hf q hq hl⟩)) g (fun q hq=>hk q hq.1)).mono fun q hq _=>hq.2
 have mr:∀{f:Fo}{ds:List Value},RepF (frW c d b ex lv ov) wr f ds→RepF (frW c d b ex lv ov1) w1 f ds:=by
  intro f;induction f with
  |nil=>intro ds hr;exact hr
  | cons a k n ih1 ih2=>
    rintro ds ⟨pv1,lv1,kcs,rest,e,h1,h2,h3,h4⟩;exact⟨pv1,lv1,kcs,rest,e,mv h1,mv h2,ih1 h3,ih2 h4⟩
 obtain⟨cs,h1,h2⟩:=k.row;exact⟨g.blk k.blk (by omega) k.own,mv k.hp,⟨cs,RW h1 g (by omega) k.sep,mr h2⟩,hlo,fun q e=>hn q (h1.lt q e).2 (k.sep q e),hn c k.blk.lt k.own⟩
theorem KW.gbN(k:KW B c d b ex h pv lv acc ov wr)(g:wr.grownBy w1 none):KW B c d b ex h pv lv acc ov w1:=k.kept (WK.of_none g)
theorem KW.append(c0:KW B c d b ex h pv lv acc ov wr)(hrep:RepF (frW c d b ex lv ov) wr acc cs)(hx1:Cells wr px 1 x.h.p.length (x.h.p.map str) (frW c d b ex lv ov))(hx2:RepL (frW c d b ex lv ov) wr lx x.kids)
 (hown:w1.ownsRow B 27 7 (.slice (some ⟨j,0,none⟩) (acc.len+1) cap) (acc.len+1) (cs++hdC x.h px lx)) (hg:wr.grownBy w1 lv.ownBlock) (hat:lv.ownBlock=some j∨j=wr.heap.size) (hov:∀q,ov.ownBlock=some q→q<wr.heap.size):
 KW B c d b ex h pv (.slice (some ⟨j,0,none⟩) (acc.len+1) cap) (acc.snoc x) ov (w1.setCell ⟨c,6,none⟩ (.slice (some ⟨j,0,none⟩) (acc.len+1) cap)):=by
 have hlo:=c0.lo;have hB:B≤j:=by
  have:=hown.lt j rfl;omega
 have hj:ov.ownBlock≠some j:=fun e=>by
  rcases hat with h1|h1
  ·exact c0.sep j h1 e
  ·have:=hov j e;omega
 have hf:∀q,frW c d b ex lv ov q→q<wr.heap.size→frW c d b ex (.slice (some ⟨j,0,none⟩) (acc.len+1) cap) ov q:=fun q hq hl=>⟨hq.1,hq.2.1,hq.2.2.1,fun e=>by
  simp[Value.ownBlock]at e;subst e;rcases hat with h1|h1
  ·exact hq.2.2.2.1 h1
  ·omega,hq.2.2.2.2⟩
 have gs:w1.grownBy (w1.setCell ⟨c,6,none⟩ (.slice (some ⟨j,0,none⟩) (acc.len+1) cap)) (some c):=AE (Ac w1 (some c)) 6 _;have hnb:∀q,frW c d b ex (.slice (some ⟨j,0,none⟩) (acc.len+1) cap) ov q→some q≠some c:=fun q hq e=>by cases e;exact hq.1 rfl
 have mv:∀{v:Value}{size n:Nat}{ds:List Value},Cells wr v size n ds (frW c d b ex lv ov)→Cells (w1.setCell ⟨c,6,none⟩ (.slice (some ⟨j,0,none⟩) (acc.len+1) cap)) v size n ds (frW c d b ex (.slice (some ⟨j,0,none⟩) (acc.len+1) cap) ov):=fun hc=>
  (((hc.mono (ok':=fun q=>frW c d b ex lv ov q∧frW c d b ex (.slice (some ⟨j,0,none⟩) (acc.len+1) cap) ov q) (fun q hq hl=>⟨hq,hf q hq hl⟩)).gb hg (fun q hq _ e=>hq.1.2.2.2.1 e.symm)).mono (fun q hq _=>hq.2)).gb gs (fun q hq _=>hnb q hq)
 have mr:∀{f:Fo}{ds:List Value},RepF (frW c d b ex lv ov) wr f ds→RepF (frW c d b ex (.slice (some ⟨j,0,none⟩) (acc.len+1) cap) ov) (w1.setCell ⟨c,6,none⟩ (.slice (some ⟨j,0,none⟩) (acc.len+1) cap)) f ds:=by
  intro f;induction f with
  |nil=>intro ds hr;exact hr
  | cons a k n ih1 ih2=>
    rintro ds ⟨pv1,lv1,kcs,rest,e,h1,h2,h3,h4⟩;exact⟨pv1,lv1,kcs,rest,e,mv h1,mv h2,ih1 h3,ih2 h4⟩
 refine⟨((c0.blk.gb hg (fun e=>by have:=c0.rown c e.symm;omega)).set 6 _).of_eq rfl rfl,mv c0.hp,⟨cs++hdC x.h px lx,?_,?_⟩,hlo,fun q e=>?_,c0.own⟩
 ·rw[Fo.len_snoc];exact Cy hown gs (by intro q hq _ e;cases e;omega)
 ·obtain⟨kcs,k1,k2⟩:=hx2;exact RepF.app (mr hrep) (VE.rep (mv hx1) ⟨kcs,mv k1,mr k2⟩)
 ·simp[Value.ownBlock]at e;subst e;exact hj
theorem KW.ve{pa la:Option Addr}{pc lc:Nat}(k:KW B c d b ex h (.slice pa h.p.length pc) (.slice la acc.len lc) acc ov wr)(g:wr.grownBy w1 (some d))(hex:∀q,B≤q→ex q):VE (fun q=>q≠b∧ov.ownBlock≠some q∧ex q) w1 (exV h (.slice pa h.p.length pc) (.slice la acc.len lc)) ⟨h,acc⟩:=by
 have hlo:=k.lo;have hs:∀q,q≠d→some q≠some d:=fun q hq e=>by cases e;exact hq rfl
 obtain⟨cs,h1,h2⟩:=k.row;refine⟨pa,pc,la,lc,rfl,((k.hp.gb g (fun q hq _=>hs q hq.2.1)).mono fun q hq _=>⟨hq.2.2.1,hq.2.2.2.2⟩),cs,?_,(RepF.gb g (fun q hq _=>hs q hq.2.1) h2).mono fun q hq _=>⟨hq.2.2.1,hq.2.2.2.2⟩⟩;obtain⟨a,cp,e,q1,q2,q3,q4⟩:=B1 h1;refine((show Cells wr (.slice la acc.len lc) 7 acc.len cs (fun q=>B≤q∧ov.ownBlock≠some q)from⟨a,cp,e,q1,q2,q3,fun i u hu=>?_⟩).gb g (fun q hq _=>hs q (by have:=hq.1;omega))).mono fun q hq _=>⟨by have:=hq.1;omega,hq.2,hex q hq.1⟩;obtain⟨gg,o,ea,ho,hc⟩:=q4 i u hu;refine⟨gg,o,ea,⟨ho,?_⟩,hc⟩;cases e;exact fun e2=>k.sep gg (by rw[ea];rfl) e2
end
section
variable {w:World}{h:Hd}{k:Fo}{pa la:Option Addr}{pc lc:Nat}{bv fv:Value}
theorem Ni(h2:h.op=2)(hp:Cells w (.slice pa h.p.length pc) 1 h.p.length (h.p.map str) (fun _=>True))(hr:RepL (fun _=>True) w (.slice la k.len lc) k)(hf:h.fit)(hk:k.fit)(hn:k.nodes≤1000000):
 Calls Tryz.prog 24 #[exV h (.slice pa h.p.length pc) (.slice la k.len lc),bv,fv] w fun e w'=>∃v,e= .returned v∧VE (AA w.heap.size) w' v ⟨h,k⟩∧w.grownBy w' none:=by
 have HC:=O (fun(W:World)(g:w.grownBy W none)=>Hy (x:=⟨h,k⟩) ⟨pa,pc,la,lc,rfl,hp.gb g (by simp),hr.gb g (by simp)⟩ hf hk hn);have HX:=O (Blk.new w (hdC h (.slice pa h.p.length pc) (.slice la k.len lc)) 27);have HY:=O ((Blk.new (w.alloc (.cells (hdC h (.slice pa h.p.length pc) (.slice la k.len lc)).toArray 27 (0,0))) zeroE 27).of_eq (show _=w.heap.size+1 by simp) rfl);have hX:=HX.out;obtain⟨x_0,x_1,x_2,x_3,x_4,x_5,x_6,x_f⟩:=(hX).c7;have c1:(h.op==1)=false:=by rw[h2];rfl
 have c2:(h.op==2)=true:=by rw[h2];rfl
 clear hp hr hf hk hn hX h2;go_enter func24,ntmps24;go_wp2_with fail;refine(HC.out _ (by repeat(first| (with_reducible exact Ac _ _)| (with_reducible assumption)| (with_reducible exact AU (by assumption))| (with_reducible refine Ad ?_ _)| (with_reducible refine Am ?_)| (with_reducible refine A3 ?_ _)| ((with_reducible refine Ay ?_ _ _ ?h2);case h2=>first|exact .inl rfl|exact .inr (Nat.le_refl _)|exact .inr (by simp<;>omega))| (with_reducible refine Ah ?_ (by assumption))| (with_reducible refine Aa ?_ (by assumption))))).mono ?_;rintro e w1 ⟨v,rfl,⟨pa1,pc1,la1,lc1,rfl,q1,q2⟩,g1⟩;have hy1:=HY.out.gb g1 (by simp);have hyl:=hy1.lt;have g01:w.grownBy w1 none:=Aa (by repeat(first| (with_reducible exact Ac _ _)| (with_reducible assumption)| (with_reducible exact AU (by assumption))| (with_reducible refine Ad ?_ _)| (with_reducible refine Am ?_)| (with_reducible refine A3 ?_ _)| ((with_reducible refine Ay ?_ _ _ ?h2);case h2=>first|exact .inl rfl|exact .inr (Nat.le_refl _)|exact .inr (by simp<;>omega))| (with_reducible refine Ah ?_ (by assumption))| (with_reducible refine Aa ?_ (by assumption)))) g1;have hfr:∀q,w.heap.size+2≤q→some q≠some (w.heap.size+1):=fun q hq e=>by cases e;omega
 have HZ:=O (Z hy1 (Z g01 (Z (q1.mono (ok':=fun q=>w.heap.size+2≤q) (fun q hq _=>by simpa using hq)) (q2.mono (ok':=fun q=>w.heap.size+2≤q) (fun q hq _=>by simpa using hq)))));obtain⟨z0,z1,z2,z3,z4,z5,z6,zf⟩:=Blk.c7 hy1;clear hy1 g01 q1 q2 g1 x_0 x_1 x_2 x_3 x_4 x_5 x_6 x_f;go_wp2;have g7:=Ag w1 (w.heap.size+1) (.int .i64 h.op) (str h.s) (.int .i64 h.vk) (.int .i64 h.vn) (str h.vs) (.slice pa1 h.p.length pc1) (.slice la1 k.len lc1);exact bodyPost_ret (Ai (hd:=h) (pv:= .slice pa1 h.p.length pc1) (lv:= .slice la1 k.len lc1) rfl _ (HZ.out.1.set7 (.int .i64 h.op) (str h.s) (.int .i64 h.vk) (.int .i64 h.vn) (str h.vs) (.slice pa1 h.p.length pc1) (.slice la1 k.len lc1)) rfl) rfl
  ⟨_,rfl,⟨pa1,pc1,la1,lc1,rfl,(HZ.out.2.2.1.gb g7 (fun q hq _=>hfr q hq)).mono (fun q hq _=>by have:w.heap.size+2≤q:=hq;show w.heap.size≤q;omega),(HZ.out.2.2.2.gb g7 (fun q hq _=>hfr q hq)).mono (fun q hq _=>by have:w.heap.size+2≤q:=hq;show w.heap.size≤q;omega)⟩,Ar HZ.out.2.1 g7 (.inr (by omega))⟩
end
section
variable {w:World}{b:Nat}{ov:Value}{l p:List Bs}{h:Hd}{pa la ba:Option Addr}{pn pc ln lc bc:Nat}
end
theorem IW:∀(f:Fo)(p:List Bs),(AC f p).length≤f.nodes:=by
 intro f;induction f with
 |nil=>intro p;exact Nat.le_refl _
 | cons h k n ihk ihn=>
   intro p;show(Bm h p (AC k)++AC n p).length≤1+k.nodes+n.nodes;have h1:=ihn p;have h2:=ihk p;have h3:=ihk (p++h.p);rw[List.length_append];unfold Bm;split
   ·simp;omega
   ·split
    ·simp;omega
    ·split<;>omega
theorem Gi(h:Hd)(p:List Bs)(k:Fo):(Bm h p (AC k)).length≤1+k.nodes:=by
 have h2:=IW k p;have h3:=IW k (p++h.p);unfold Bm;split
 ·simp
 ·split
  ·simp
  ·split<;>omega
theorem WK.laterO{w w1 w2:World}{b:Nat}{ov ov1:Value}{o:Option Nat}(h:WK w w1 b ov ov1)(g:w1.grownBy w2 o)(hc:∀c,o=some c→w.heap.size≤c):WK w w2 b ov ov1:=by
 cases o with
 |none=>exact h.gbN g
 |some c=>exact h.later g (hc c rfl)
def frO(b N:Nat)(ov:Value)(q:Nat):Prop:=q≠b∧ov.ownBlock≠some q∧q<N
def frP(b:Nat)(ov:Value)(q:Nat):Prop:=q≠b∧ov.ownBlock≠some q
structure Dx(b n0:Nat)(I:World→Value→List Bs→Prop):Prop where
 gbO:∀{W W1:World}{ov:Value}{ns:List Bs}{o:Option Nat},I W ov ns→W.grownBy W1 o→(∀c,o=some c→n0≤c∧ov.ownBlock≠some c)→I W1 ov ns
 own:∀{W:World}{ov:Value}{ns:List Bs},I W ov ns→(∀q,ov.ownBlock=some q→b<q∧q<W.heap.size)∧b<n0∧n0≤W.heap.size
def DJ(I:World→Value→List Bs→Prop)(w:World)(b N:Nat)(ov:Value)(X:Ex)(ns:List Bs)(e:Ending)(w':World):Prop:=
 ∃v ov',e= .returned v∧VE (fun q=>q≠b∧ov'.ownBlock≠some q∧(q<N∨w.heap.size≤q)) w' v X∧I w' ov' ns∧WK w w' b ov ov'
def RpC(I:World→Value→List Bs→Prop)(fv:Value)(f:Ex→Ex)(b N:Nat)(h:Hd)(k:Fo)(p:List Bs):Prop:=∀(W:World)(ov:Value)(l:List Bs)(pa la ba:Option Addr)(pc lc bc:Nat),I W ov l→Cells W (.slice pa h.p.length pc) 1 h.p.length (h.p.map str) (frO b N ov)→RepL (frO b N ov) W (.slice la k.len lc) k→Cells W (.slice ba p.length bc) 1 p.length (p.map str) (frP b ov)→
 N≤W.heap.size→l.length+1+k.nodes≤1000001→Calls Tryz.prog 24 #[exV h (.slice pa h.p.length pc) (.slice la k.len lc),.slice ba p.length bc,fv] W
  (DJ I W b N ov (AO f h p k (A0 f k)) (l++Bm h p (AC k)))
section
variable {I:World→Value→List Bs→Prop}{fv:Value}{f:Ex→Ex}{w wr W:World}{b N n0:Nat}{ov:Value}{l p:List Bs}{h:Hd}{k:Fo}{pa la ba:Option Addr}{pc lc bc:Nat}
theorem RpC.at(E:RpC I fv f b N h k p)(K:Dx b n0 I)(hw:I wr ov l)(hp:Cells wr (.slice pa h.p.length pc) 1 h.p.length (h.p.map str) (frO b N ov))(hr:RepL (frO b N ov) wr (.slice la k.len lc) k)(hb:Cells wr (.slice ba p.length bc) 1 p.length (p.map str) (frP b ov))
 (hN:N≤wr.heap.size) (hl:l.length+1+k.nodes≤1000001):∀(W:World),wr.grownBy W none→Calls Tryz.prog 24 #[exV h (.slice pa h.p.length pc) (.slice la k.len lc),.slice ba p.length bc,fv] W
 (DJ I wr b N ov (AO f h p k (A0 f k)) (l++Bm h p (AC k))):=by
 intro W g;refine(E W ov l pa la ba pc lc bc (K.gbO hw g (by simp)) (hp.gb g (by simp)) (hr.gb g (by simp)) (hb.gb g (by simp)) (Nat.le_trans hN g.size) hl).mono ?_;rintro e w' ⟨v,ov',rfl,h1,h2,h3⟩;exact⟨v,ov',rfl,h1.mono (fun q hq _=>⟨hq.1,hq.2.1,by have:=g.size;have:=hq.2.2;omega⟩),h2,(WK.of_none g).trans h3⟩
end
structure Sta(I:World→Value→List Bs→Prop)(B c d b:Nat)(ex:Nat→Prop)(h:Hd)(pv lv:Value)(acc:Fo)(ov0 ov:Value)(X:Ex)(px lx:Value)(ns:List Bs)(wB:World)(cs:List Value)(w5 w6:World):Prop where
 kw:KW B c d b ex h pv lv acc ov w6
 kw5:Blk w5 c (hdC h pv lv) 27
 ho:w6.ownsRow B 27 7 lv acc.len cs
 rep:RepF (frW c d b ex lv ov) w6 acc cs
 x1:Cells w6 px 1 X.h.p.length (X.h.p.map str) (frW c d b ex lv ov)
 x2:RepL (frW c d b ex lv ov) w6 lx X.kids
 sz:B≤w6.heap.size
 nw:I w6 ov ns
 wk:WK wB w6 b ov0 ov
 db:Blk w6 d zeroE 27
 od:ov.ownBlock≠some d
 lo:wB.heap.size≤c∧d≠c
section
variable {I:World→Value→List Bs→Prop}{B c d b N n0 n1 j cap:Nat}{h:Hd}{pv lv px lx ov0 ov1 ov5:Value}{acc:Fo}{wB wr w5 w6 w7:World}{X:Ex}{ns:List Bs}{cs:List Value}{ex:Nat→Prop}
theorem KW.stepA(k0:KW B c d b (fun q=>q<N∨n0≤q) h pv lv acc ov1 wr)(K:Dx b n1 I)(q1:Cells w5 px 1 X.h.p.length (X.h.p.map str) (fun q=>q≠b∧ov5.ownBlock≠some q∧(q<N∨wr.heap.size≤q)))(q2:RepL (fun q=>q≠b∧ov5.ownBlock≠some q∧(q<N∨wr.heap.size≤q)) w5 lx X.kids)
 (hn:I w5 ov5 ns) (hk:WK wr w5 b ov1 ov5) (hd:Blk wr d zeroE 27) (hwk:WK wB wr b ov0 ov1) (hod:ov1.ownBlock≠some d) (hN:N≤n0) (hb:b<n0) (hdn:n0≤d∧d≠c) (hcn:n0≤c) (hcB:wB.heap.size≤c) (hB:B≤wr.heap.size):
 ∃cs,Sta I B c d b (fun q=>q<N∨n0≤q) h pv lv acc ov0 ov5 X px lx ns wB cs w5 (w5.alloc (.cells (hdC X.h px lx).toArray 27 (0,0))):=by
 have k5:=k0.kept hk;have gA:=World.grownBy_alloc w5 (.cells (hdC X.h px lx).toArray 27 (0,0)) none;have k6:=k5.gbN gA;obtain⟨cs,ho,hr⟩:=k6.row;have hlo:=k0.lo;have hcl:=k0.blk.lt;have hdl:=hd.lt;have hs5:=hk.size;have hf:∀q,(q≠b∧ov5.ownBlock≠some q∧(q<N∨wr.heap.size≤q))→q<w5.heap.size→frW c d b (fun q=>q<N∨n0≤q) lv ov5 q:=fun q hq _=>
  ⟨by omega,by omega,hq.1,fun e=>by have:=k0.rown q e;omega,hq.2.1,by have:=hq.2.2;show q<N∨n0≤q;omega⟩
 refine⟨cs,k6,k5.blk,ho,hr,(q1.mono hf).gb gA (by simp),(q2.mono hf).gb gA (by simp),?_,K.gbO hn gA (by simp),(hwk.trans hk).gbN gA,(hk.blk hd (by omega) hod).gb gA (by simp),fun e=>?_,hcB,hdn.2⟩
 ·have:=gA.size;omega
 ·rcases hk.own _ e with h1|h1
  ·exact hod h1
  ·omega
theorem Sta.close(s:Sta I B c d b ex h pv lv acc ov0 ov5 X px lx ns wB cs w5 w6)(K:Dx b n1 I)(hown:w7.ownsRow B 27 7 (.slice (some ⟨j,0,none⟩) (acc.len+1) cap) (acc.len+1) (cs++hdC X.h px lx))(hg:w6.grownBy w7 lv.ownBlock)(hat:lv.ownBlock=some j∨j=w6.heap.size)(hn1:n1≤c):
 KW B c d b ex h pv (.slice (some ⟨j,0,none⟩) (acc.len+1) cap) (acc.snoc X) ov5 (w7.setCell ⟨c,6,none⟩ (.slice (some ⟨j,0,none⟩) (acc.len+1) cap))∧Blk (w7.setCell ⟨c,6,none⟩ (.slice (some ⟨j,0,none⟩) (acc.len+1) cap)) d zeroE 27∧
  I (w7.setCell ⟨c,6,none⟩ (.slice (some ⟨j,0,none⟩) (acc.len+1) cap)) ov5 ns∧WK wB (w7.setCell ⟨c,6,none⟩ (.slice (some ⟨j,0,none⟩) (acc.len+1) cap)) b ov0 ov5:=by
 have hlo:=s.kw.lo;have hlo2:=s.lo;have hrn:=s.kw.rown;have hon:∀q,lv.ownBlock=some q→B≤q:=fun q e=>(hrn q e).1;have gs:w7.grownBy (w7.setCell ⟨c,6,none⟩ (.slice (some ⟨j,0,none⟩) (acc.len+1) cap)) (some c):=AE (Ac w7 (some c)) 6 _;refine⟨s.kw.append s.rep s.x1 s.x2 hown hg hat (fun q e=>((K.own s.nw).1 q e).2),?_,?_,?_⟩
 ·exact(s.db.gb hg (fun e=>by have:=hon d e.symm;omega)).gb gs (fun e=>by cases e;exact hlo2.2 rfl)
 ·have n7:I w7 ov5 ns:=K.gbO s.nw hg (fun q e=>⟨by have:=hon q e;omega,s.kw.sep q e⟩);exact K.gbO n7 gs (fun q e=>by cases e;exact⟨hn1,s.kw.own⟩)
 ·exact(s.wk.laterO hg (fun q e=>by have:=hon q e;omega)).later gs hlo2.1
end
def frS(N B:Nat)(lv:Value)(q:Nat):Prop:=(q<N∨B≤q)∧lv.ownBlock≠some q
def SwS(N B:Nat)(lv:Value)(acc:Fo)(wr:World):Prop:=∃cs,wr.ownsRow B 27 7 lv acc.len cs∧RepF (frS N B lv) wr acc cs
theorem SwS.shape{N B:Nat}{lv:Value}{acc:Fo}{wr:World}(k:SwS N B lv acc wr):∃a n,lv= .slice a acc.len n:=by
 obtain⟨cs,h1,_⟩:=k;obtain⟨a,n,e,_⟩:=B1 h1;exact⟨a,n,e⟩
theorem SwS.ve{N B B':Nat}{pa la:Option Addr}{pc lc:Nat}{acc:Fo}{h:Hd}{wr w1 w2:World}(k:SwS N B' (.slice la acc.len lc) acc wr)(hB:B+3≤B')(hp:Cells wr (.slice pa h.p.length pc) 1 h.p.length (h.p.map str) (fun q=>q<N))(hN:N≤B)
 (g1:wr.grownBy w1 (some B)) (g2:w1.grownBy w2 (some (B+2))):VE (fun q=>q<N∨B≤q) w2 (exV h (.slice pa h.p.length pc) (.slice la acc.len lc)) ⟨h,acc⟩:=by
 obtain⟨cs,h1,h2⟩:=k;have n1:∀q,(q<N∨B+3≤q)→some q≠some B:=fun q hq e=>by cases e;omega
 have n2:∀q,(q<N∨B+3≤q)→some q≠some (B+2):=fun q hq e=>by cases e;omega
 refine⟨pa,pc,la,lc,rfl,((hp.gb g1 (fun q hq _=>n1 q (.inl hq))).gb g2 (fun q hq _=>n2 q (.inl hq))).mono (fun q hq _=> .inl hq),cs,?_,((RepF.gb g2 (fun q hq _=>n2 q (by have:=hq.1;omega)) (RepF.gb g1 (fun q hq _=>n1 q (by have:=hq.1;omega)) h2))).mono (fun q hq _=>by have:=hq.1;show q<N∨B≤q;omega)⟩;exact(((B1 h1).gb g1 (fun q hq _=>n1 q (.inr (by omega)))).gb g2 (fun q hq _=>n2 q (.inr (by omega)))).mono (fun q hq _=> .inr (by omega))
def SwC(N:Nat)(name:Bs)(y:Ex)(ya yla:Option Addr)(yc ylc:Nat)(h:Hd)(k:Fo):Prop:=∀(W:World)(pa la:Option Addr)(pc lc:Nat),Cells W (.slice pa h.p.length pc) 1 h.p.length (h.p.map str) (fun q=>q<N)→RepL (fun q=>q<N) W (.slice la k.len lc) k→
 Cells W (.slice ya y.h.p.length yc) 1 y.h.p.length (y.h.p.map str) (fun q=>q<N)→RepL (fun q=>q<N) W (.slice yla y.kids.len ylc) y.kids→N≤W.heap.size→
 Calls Tryz.prog 29 #[exV h (.slice pa h.p.length pc) (.slice la k.len lc),str name,exV y.h (.slice ya y.h.p.length yc) (.slice yla y.kids.len ylc)] W fun e w'=>∃v,e= .returned v∧VE (fun q=>q<N∨W.heap.size≤q) w' v (swX name y h k (swF name y k))∧W.grownBy w' none
theorem SwC.at{N:Nat}{name:Bs}{y:Ex}{ya yla pa la:Option Addr}{yc ylc pc lc:Nat}{h:Hd}{k:Fo}{wr:World}(E:SwC N name y ya yla yc ylc h k)(hp:Cells wr (.slice pa h.p.length pc) 1 h.p.length (h.p.map str) (fun q=>q<N))(hr:RepL (fun q=>q<N) wr (.slice la k.len lc) k)
 (hyp:Cells wr (.slice ya y.h.p.length yc) 1 y.h.p.length (y.h.p.map str) (fun q=>q<N)) (hyr:RepL (fun q=>q<N) wr (.slice yla y.kids.len ylc) y.kids) (hN:N≤wr.heap.size):∀W,wr.grownBy W none→
 Calls Tryz.prog 29 #[exV h (.slice pa h.p.length pc) (.slice la k.len lc),str name,exV y.h (.slice ya y.h.p.length yc) (.slice yla y.kids.len ylc)] W fun e w'=>∃v,e= .returned v∧VE (fun q=>q<N∨wr.heap.size≤q) w' v (swX name y h k (swF name y k))∧wr.grownBy w' none:=by
 intro W g;refine(E W pa la pc lc (hp.gb g (by simp)) (hr.gb g (by simp)) (hyp.gb g (by simp)) (hyr.gb g (by simp)) (Nat.le_trans hN g.size)).mono ?_;rintro e w' ⟨v,rfl,h1,h2⟩;exact⟨v,rfl,h1.mono (fun q hq _=>by have:=g.size;have:q<N∨W.heap.size≤q:=hq;show q<N∨wr.heap.size≤q;omega),Aa g h2⟩
structure Ste(N B:Nat)(lv:Value)(acc:Fo)(X:Ex)(px lx:Value)(wr:World)(cs:List Value)(w6:World):Prop where
 ho:w6.ownsRow B 27 7 lv acc.len cs
 rep:RepF (frS N B lv) w6 acc cs
 x1:Cells w6 px 1 X.h.p.length (X.h.p.map str) (frS N B lv)
 x2:RepL (frS N B lv) w6 lx X.kids
 sz:B≤w6.heap.size
 gw:wr.grownBy w6 none
section
variable {N B j cap:Nat}{lv px lx:Value}{acc:Fo}{wr w5 w6 w7:World}{X:Ex}{cs:List Value}
theorem SwS.stepA(k0:SwS N B lv acc wr)(q1:Cells w5 px 1 X.h.p.length (X.h.p.map str) (fun q=>q<N∨wr.heap.size≤q))(q2:RepL (fun q=>q<N∨wr.heap.size≤q) w5 lx X.kids)(g5:wr.grownBy w5 none){n0:Nat}(hN:N≤n0)(hnB:n0≤B)(hB:B≤wr.heap.size):
 ∃cs,Ste N B lv acc X px lx wr cs (w5.alloc (.cells (hdC X.h px lx).toArray 27 (0,0))):=by
 have gA:=World.grownBy_alloc w5 (.cells (hdC X.h px lx).toArray 27 (0,0)) none;have g6:=Aa g5 gA;obtain⟨cs,ho,hr⟩:=k0;have hs5:=g5.size;have hs6:=gA.size;have hf:∀q,(q<N∨wr.heap.size≤q)→q<w5.heap.size→frS N B lv q:=fun q hq _=>⟨by omega,fun e=>by have:=ho.lt q e;omega⟩;exact⟨cs,ho.kept g6 (by cases lv.ownBlock with|none=>exact .inl rfl|some _=>exact .inr (by simp)),RepF.gb g6 (by simp) hr,(q1.mono hf).gb gA (by simp),(q2.mono hf).gb gA (by simp),by omega,g6⟩
theorem Ste.close(s:Ste N B lv acc X px lx wr cs w6)(hown:w7.ownsRow B 27 7 (.slice (some ⟨j,0,none⟩) (acc.len+1) cap) (acc.len+1) (cs++hdC X.h px lx))(hg:w6.grownBy w7 lv.ownBlock)(hat:lv.ownBlock=some j∨j=w6.heap.size):
 SwS N B (.slice (some ⟨j,0,none⟩) (acc.len+1) cap) (acc.snoc X) w7:=by
 have hf:∀q,frS N B lv q→q<w6.heap.size→frS N B (.slice (some ⟨j,0,none⟩) (acc.len+1) cap) q:=fun q hq hl=>⟨hq.1,fun e=>by
  simp[Value.ownBlock]at e;subst e;rcases hat with h1|h1
  ·exact hq.2 h1
  ·omega⟩
 have mv:∀{v:Value}{size n:Nat}{ds:List Value},Cells w6 v size n ds (frS N B lv)→Cells w7 v size n ds (frS N B (.slice (some ⟨j,0,none⟩) (acc.len+1) cap)):=fun hc=>
  ((hc.mono (ok':=fun q=>frS N B lv q∧frS N B (.slice (some ⟨j,0,none⟩) (acc.len+1) cap) q) (fun q hq hl=>⟨hq,hf q hq hl⟩)).gb hg (fun q hq _ e=>hq.1.2 e.symm)).mono (fun q hq _=>hq.2)
 have mr:∀{f:Fo}{ds:List Value},RepF (frS N B lv) w6 f ds→RepF (frS N B (.slice (some ⟨j,0,none⟩) (acc.len+1) cap)) w7 f ds:=by
  intro f;induction f with
  |nil=>intro ds hr;exact hr
  | cons a k n ih1 ih2=>
    rintro ds ⟨pv1,lv1,kcs,rest,e,h1,h2,h3,h4⟩;exact⟨pv1,lv1,kcs,rest,e,mv h1,mv h2,ih1 h3,ih2 h4⟩
 refine⟨cs++hdC X.h px lx,by rw[Fo.len_snoc];exact hown,?_⟩;obtain⟨kcs,k1,k2⟩:=s.x2;exact RepF.app (mr s.rep) (VE.rep (mv s.x1) ⟨kcs,mv k1,mr k2⟩)
end
end Go.Proofs.YtgjdhajcnechdaaGreatDoor
