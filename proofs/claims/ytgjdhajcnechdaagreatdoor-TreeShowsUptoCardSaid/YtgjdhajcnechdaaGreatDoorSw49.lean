/-
  replaced : a block. replaced: every expression. The program's Names. TreeShows: the walk.
-/
import Derived.Test.YtgjdhajcnechdaaGreatDoorSw46
import Derived.Test.YtgjdhajcnechdaaGreatDoorSw48
import Derived.Test.YtgjdhajcnechdaaGreatDoorSw47
import Derived.Test.YtgjdhajcnechdaaGreatDoorSw30
set_option linter.all false
set_option maxRecDepth 100000
set_option maxHeartbeats 8000000
namespace Go.Proofs.YtgjdhajcnechdaaGreatDoor
open Go.Proofs.Tryz
open Go.RowKit
section
variable {I:World→Value→List Bs→Prop}{fv:Value}{f:Ex→Ex}{w:World}{b N n0:Nat}{ov:Value}{l p:List Bs}{h:Hd}{k:Fo}{pa la ba:Option Addr}{pc lc bc:Nat}
theorem Nc{r:List Bs}(h8:h.op=8)(hre:r=p++h.p)(hpp:p.length+h.p.length≤8000000)(K:DD b n0 I)(hw:I w ov l)(hp:Cells w (.slice pa h.p.length pc) 1 h.p.length (h.p.map str) (frO b N ov))(hr:RepL (frO b N ov) w (.slice la k.len lc) k)(hb:Cells w (.slice ba p.length bc) 1 p.length (p.map str) (frP b ov))
 (hN:N≤w.heap.size) (hl:l.length+1+k.nodes≤1000001) (hpl:h.p.length≤8000000) (E:∀a k2,k2.wt<k.wt→k2.nodes≤k.nodes→nX a k2≤k.nT→a.fit→k2.fit→RpC I fv f b N a k2 r) (hf:k.fit):
 Calls Tryz.prog 24 #[exV h (.slice pa h.p.length pc) (.slice la k.len lc),.slice ba p.length bc,fv] w
  (DZ I w b N ov ⟨h,AG f k r⟩ (l++AA k r)):=by
 have HC0:=O (fun(W:World)(g:w.grownBy W none)=>Fv (hp.gb g (by simp)) hpl);have HCT:=O (fun(W:World)(g:w.grownBy W none)(R:Nat)(h0:W.cell? ⟨R,0,none⟩=some (.slice ba p.length bc))(h1:W.cell? ⟨R,1,none⟩=some (.slice pa h.p.length pc))=>L9 (ok:=fun _=>True) h0 h1 ((hb.gb g (by simp)).mono fun _ _ _=>trivial) ((hp.gb g (by simp)).mono fun _ _ _=>trivial) hpp hre);have HE:=O E;have HF:=O hf;have HNW:=O hw;have HK:=O K;have H0:=O hr;have hkl:=Fq k;have HX:=O (Blk.new w (hdC h (.slice pa h.p.length pc) (.slice la k.len lc)) 27);have gB:=World.grownBy_alloc (w.alloc (.cells (hdC h (.slice pa h.p.length pc) (.slice la k.len lc)).toArray 27 (0,0))) (.cells zeroE.toArray 27 (0,0)) none;have HX2:=O (HX.out.gb gB (by simp));have HD2:=O ((Blk.new (w.alloc (.cells (hdC h (.slice pa h.p.length pc) (.slice la k.len lc)).toArray 27 (0,0))) zeroE 27).of_eq (show _=w.heap.size+1 by simp) rfl);have HQ:=O ((Blk.new ((w.alloc (.cells (hdC h (.slice pa h.p.length pc) (.slice la k.len lc)).toArray 27 (0,0))).alloc (.cells zeroE.toArray 27 (0,0))) [.slice ba p.length bc,.slice pa h.p.length pc] 24).of_eq (show _=w.heap.size+1+1 by simp) rfl);clear gB;have hX:=HX.out;obtain⟨x_0,x_1,x_2,x_3,x_4,x_5,x_6,x_f⟩:=(hX).c7;have c1:(h.op==1)=false:=by rw[h8];rfl
 have c2:(h.op==2)=false:=by rw[h8];rfl
 have c8:(h.op==8)=true:=by rw[h8];rfl
 clear hp hr hb E hf hX K h8 hw hre;go_enter func24,ntmps24;go_wp2_with fail;refine(HCT.out _ gw _ (HQ.out.cell' 0 rfl) (HQ.out.cell' 1 rfl)).mono ?_;rintro e w2 ⟨v,rfl,hr2,g2⟩;obtain⟨ra,rc,rfl,_⟩:=id (AU hr2);have hx2:=(Blk.alloc HX2.out _).gb g2 (by simp);have hd2:=(Blk.alloc HD2.out _).gb g2 (by simp);have gw2:w.grownBy w2 none:=Aa gw g2;have hsz2:w.heap.size+1+1+1≤w2.heap.size:=by have:=g2.size;simpa using this
 have HGB:=O gw2;have hbl0:=(HK.out.own HNW.out).2;have HB:=O ((AU hr2).mono (ok':=frP b ov) (fun q hq _=>by
  have hq:w.heap.size+1+1+1≤q:=by simpa using hq
  exact⟨by omega,fun e=>by have:=((HK.out.own HNW.out).1 q e).2;omega⟩))
 have HC:=O (fun(W:World)(g:w2.grownBy W none)=>HC0.out W (Aa HGB.out g));have gC:=World.grownBy_alloc w2 (.cells (hdC h (.slice pa h.p.length pc) (.slice la k.len lc)).toArray 27 (0,0)) none;have HX3:=O (hx2.gb gC (by simp));have HD3:=O (hd2.gb gC (by simp));have HZ3:=O (Blk.new w2 (hdC h (.slice pa h.p.length pc) (.slice la k.len lc)) 27);clear x_0 x_1 x_2 x_3 x_4 x_5 x_6 x_f hr2 g2 gw2 gC hd2 HX2 HD2 HC0 HCT HQ;have hxl2:=hx2.lt;obtain⟨x_0,x_1,x_2,x_3,x_4,x_5,x_6,x_f⟩:=(hx2).c7;clear hx2;go_wp2_with fail;refine(HC.out _ gw).mono ?_;rintro e w1 ⟨v,rfl,hv,g1⟩;obtain⟨va,vc,rfl,_⟩:=id (AU hv);have hx1:=HX3.out.gb g1 (by simp);have hd1:=HD3.out.gb g1 (by simp);have hz1:=HZ3.out.gb g1 (by simp);have g01:World.grownBy w2 w1 none:=Aa gw g1;have hsz:w2.heap.size+1≤w1.heap.size:=by have:=g1.size;simpa using this
 have gs5:w1.grownBy (w1.setCell ⟨w2.heap.size,5,none⟩ (.slice va h.p.length vc)) (some (w2.heap.size)):=AH (Ac w1 (some (w2.heap.size))) 5 _;have gs6:(w1.setCell ⟨w2.heap.size,5,none⟩ (.slice va h.p.length vc)).grownBy ((w1.setCell ⟨w2.heap.size,5,none⟩ (.slice va h.p.length vc)).setCell ⟨w2.heap.size,6,none⟩ (.slice none 0 0)) (some (w2.heap.size)):=AH (Ac _ (some (w2.heap.size))) 6 _;have gs:=Aa gs5 gs6;have gW2:World.grownBy w2 ((w1.setCell ⟨w2.heap.size,5,none⟩ (.slice va h.p.length vc)).setCell ⟨w2.heap.size,6,none⟩ (.slice none 0 0)) none:=A9 g01 gs (.inr (by omega));have hbw:=(HK.out.own HNW.out).2;have hbo:=(HK.out.own HNW.out).1;have hoN:ov.ownBlock≠some (w.heap.size+1):=fun e=>by have:=(hbo _ e).2;omega
 have hzl:=hz1.lt;have HKW:=O (show KW (w2.heap.size+1) (w2.heap.size) (w.heap.size+1) b (fun q=>q<N∨w.heap.size≤q) h (.slice va h.p.length vc) (.slice none 0 0) .nil ov ((w1.setCell ⟨w2.heap.size,5,none⟩ (.slice va h.p.length vc)).setCell ⟨w2.heap.size,6,none⟩ (.slice none 0 0))from
  ⟨((hz1.set 5 _).set 6 _).of_eq rfl rfl,((AU hv).mono (ok':=frW (w2.heap.size) (w.heap.size+1) b (fun q=>q<N∨w.heap.size≤q) (.slice none 0 0) ov) (fun q hq _=>by
   have hq:w2.heap.size+1≤q:=by simpa using hq
   exact⟨by omega,by omega,by omega,by simp[Value.ownBlock],fun e=>(by have:=(hbo q e).2;omega),.inr (by omega)⟩)).gb gs (fun q hq _ e=>by cases e;exact hq.1 rfl),⟨[],World.ownsRow_nil _ _ _ _,rfl⟩,⟨by omega,by omega,by omega,by omega⟩,by simp[Value.ownBlock],fun e=>by have:=(hbo _ e).2;omega⟩)
 have HDB:=O (hd1.gb gs (fun e=>by have:=Option.some.inj e;omega));have HG:=O gW2;obtain⟨cs,hcs,hrf⟩:=H0.out;obtain⟨_,_,e,_,hmx,_,hcc⟩:=hcs;cases e;have HR:=O hrf;have HCC:=O hcc;clear hv g01 gs5 gs6 gs gW2 hd1 x_0 x_1 x_2 x_3 x_4 x_5 x_6 x_f hrf hcc HX HX3 HD3 HZ3 HC H0;obtain⟨y_0,y_1,y_2,y_3,y_4,y_5,y_6,y_f⟩:=(hx1).c7;obtain⟨z_0,z_1,z_2,z_3,z_4,z_5,z_6,z_f⟩:=(hz1).c7;have hxl:=hx1.lt;clear hx1 hz1 g1;go_wp2_with fail;go_loopg [48] k.len (fun n v48 wr=>∃(i:Nat)(acc rf:Fo)(lv ov1:Value)(ns:List Bs),rf.len=n∧i+n=k.len∧v48= .int .i64 i∧acc.app (AG f rf r)=AG f k r∧acc.len=i∧KW (w2.heap.size+1) (w2.heap.size) (w.heap.size+1) b (fun q=>q<N∨w.heap.size≤q) h (.slice va h.p.length vc) lv acc ov1 wr∧Blk wr (w.heap.size+1) zeroE 27∧rf.wt≤k.wt∧rf.nodes≤k.nodes∧rf.nT≤k.nT∧rf.fit∧RepF (frO b N ov) w rf (cs.drop (i*7))∧I wr ov1 ns∧ns++AA rf r=l++AA k r∧ns.length+rf.nodes≤l.length+k.nodes∧ov1.ownBlock≠some (w.heap.size+1)∧WK w2 wr b ov ov1)
 case atStart=>exact⟨0,.nil,k,.slice none 0 0,ov,l,rfl,by omega,rfl,rfl,rfl,HKW.out,HDB.out,Nat.le_refl _,Nat.le_refl _,Nat.le_refl _,HF.out,by simpa using HR.out,HK.out.gbO HNW.out (Aa HGB.out HG.out) (by simp),rfl,Nat.le_refl _,hoN,WK.of_none HG.out⟩
 case round=>
  obtain⟨i,acc,rf,lv,ov1,ns,hni,hk,rfl,hacc,hal,hkw,hdb,hwt,hnd,hnt,hft,hrf,hnw,hns,hnl,hod,hwk⟩:=hrel;subst hal;obtain⟨aq,nq,rfl⟩:=hkw.shape;have hb3:=hkw.blk;have hbl:=hb3.lt;obtain⟨x_0,x_1,x_2,x_3,x_4,x_5,x_6,x_f⟩:=(hb3).c7;clear hb3 HKW HDB HR HG y_0 y_1 y_2 y_3 y_4 y_5 y_6 y_f z_0 z_1 z_2 z_3 z_4 z_5 z_6 z_f;cases rf with
  | nil=>
    have hkI:decide (acc.len<k.len)=false:=by simp[Fo.len]at hni;simp;omega
    have hak:AG f k r=acc:=by rw[←hacc];exact EV acc
    have hnk:l++AA k r=ns:=by rw[←hns];simp[AA]
    have hd2:=hdb;have hdl:=hdb.lt;obtain⟨z0,z1,z2,z3,z4,z5,z6,zf⟩:=Blk.c7 hd2;have HX:=O (Z hkw (Z hdb (Z hnw (Z hwk (Z hod (Z hak hnk))))));clear hkw hdb hd2 hnw hwk hod hrf hacc hak hns hnk hnl hni;go_wp2;have g7:=Ah wr (w.heap.size+1) (.int .i64 (Ex.mk h acc).h.op) (str (Ex.mk h acc).h.s) (.int .i64 (Ex.mk h acc).h.vk) (.int .i64 (Ex.mk h acc).h.vn) (str (Ex.mk h acc).h.vs) (.slice va (Ex.mk h acc).h.p.length vc) (.slice aq (Ex.mk h acc).kids.len nq);exact bodyPost_ret (Al (hd:=h) (pv:= .slice va h.p.length vc) (lv:= .slice aq acc.len nq) rfl _ (HX.out.2.1.set7 (.int .i64 (Ex.mk h acc).h.op) (str (Ex.mk h acc).h.s) (.int .i64 (Ex.mk h acc).h.vk) (.int .i64 (Ex.mk h acc).h.vn) (str (Ex.mk h acc).h.vs) (.slice va (Ex.mk h acc).h.p.length vc) (.slice aq (Ex.mk h acc).kids.len nq)) rfl) rfl ⟨_,ov1,rfl,by rw[HX.out.2.2.2.2.2.1];exact HX.out.1.ve g7 (fun q hq=> .inr (by omega)),by rw[HX.out.2.2.2.2.2.2];exact HK.out.gbO HX.out.2.2.1 g7 (fun c e=>by cases e;exact⟨by omega,HX.out.2.2.2.2.1⟩),((WK.of_none HGB.out).trans HX.out.2.2.2.1).later g7 (by omega)⟩
  | cons h1 k1 n1=>
    simp only[Fo.len]at hni;simp only[Fo.wt]at hwt;simp only[Fo.nodes]at hnd hnl;simp only[Fo.nT]at hnt;subst hni;have hkI:decide (acc.len<k.len)=true:=by simp;omega
    have hkf:acc.len+1≤k.len:=by omega
    have hrf0:=hrf;obtain⟨g1,o1,pa1,pc1,lb1,ld1,rfl,hp1,hl1,hx1,hkid⟩:=C6 (k:=acc.len) (n:=k.len) (lc:=lc) HCC.out hrf;have hgok:frO b N ov g1:=by
     obtain⟨gg,oo,e2,hlt,_⟩:=HCC.out (acc.len*7) (.int .i64 h1.op) (by
      obtain⟨pv,lv,kcs,rcs,hcs2,_⟩:=hrf0;have:(cs.drop (acc.len*7))[0]? =some (.int .i64 h1.op):=by rw[hcs2];rfl
      simpa using this)
     cases e2;exact hlt
    have hkidB:=hkid.gb' HGB.out;have hkid2:Kid wr g1 (o1+acc.len*7) h1 (.slice pa1 h1.p.length pc1) (.slice lb1 k1.len ld1):=⟨Nat.lt_of_lt_of_le hkidB.1 hwk.size,fun i u hu=>hwk.cell (hkidB.2 i u hu) hgok.1 hgok.2.1⟩;have hgl:=hkid2.1;obtain⟨z0,z1,z2,z3,z4,z5,z6⟩:=hkid2.c7;have hmv:∀q,frO b N ov q→frO b N ov1 q:=fun q hq=>⟨hq.1,fun e=>by
     rcases hwk.own q e with h9|h9
     ·exact hq.2.1 h9
     ·have:=hq.2.2;omega,hq.2.2⟩
    have hkk:∀q,frO b N ov q→q≠b∧ov.ownBlock≠some q:=fun q hq=>⟨hq.1,hq.2.1⟩;have hp2:=(CN (hp1.gb HGB.out (by simp)) hwk hkk).mono (ok':=frO b N ov1) (fun q hq _=>hmv q hq);have hl2:=(FO (hl1.gb HGB.out (by simp)) hwk hkk).mono (ok':=frO b N ov1) (fun q hq _=>hmv q hq);have hb2:=(CN (HB.out.mono (ok':=fun q=>frP b ov q∧q<(w2).heap.size) (fun q hq hl=>⟨hq,hl⟩)) hwk (fun q hq=>hq.1)).mono (ok':=frP b ov1) (fun q hq _=>⟨hq.1.1,fun e=>by
     rcases hwk.own q e with h9|h9
     ·exact hq.1.2 h9
     ·have:=hq.2;omega⟩)
    have hsz9:=hwk.size;have HE1:=O ((HE.out h1 k1 (by omega) (by omega) (by show 10+2*h1.p.length+k1.nT≤k.nT;omega) hft.1 hft.2.1).at HK.out hnw hp2 hl2 hb2 (by omega) (by omega));have hcl:=F6 h1 r k1;have hns2:(ns++Bp h1 r (AA k1))++AA n1 r=l++AA k r:=by rw[←hns];simp[AA]
    have hacc2:(acc.snoc (Bn f h1 r k1 (AG f k1))).app (AG f n1 r)=AG f k r:=(EW acc (Bn f h1 r k1 (AG f k1)).h (Bn f h1 r k1 (AG f k1)).kids _).trans hacc;generalize Bn f h1 r k1 (AG f k1)=X at*;generalize Bp h1 r (AA k1)=cl at*;obtain⟨i0,hi0,hz0,hz1,hz2⟩:=info_parts CM;have HI:=O (Z hi0 (Z hz0 (Z hz1 hz2)));have HN:=O (Z hkw (Z hdb (Z hwk (Z hacc2 (Z hft.2.2 (Z hx1 (Z hod hns2)))))));clear hp2 hl2 hb2 hkid hkidB hkid2 hrf0 hrf hkw hdb hwk hacc2 hacc hft hx1 hp1 hl1 hod hns hns2 hi0 hz0 hz1 hz2 hnw hmv hkk;go_wp2_with fail;go_region_law(first
     | (refine step_append_lies _ (by rfl) _ _ 25 (by rfl) (w2.heap.size+1) 27 i0 _ 7 104 underlying25 HI.out.1 HI.out.2.1 HI.out.2.2.1 HI.out.2.2.2 rfl (by decide) (.slice aq acc.len nq) acc.len cs5 (by rfl) HA.out.ho ⟨w5.heap.size,0,none⟩ 1 1 (hdC X.h (.slice pa5 X.h.p.length pc5) (.slice la5 X.kids.len lc5)) (by rfl) rfl (BZ _ _ _) (by simp[hdC,Value.oneCell']) (by decide) (by unfold maxLen;omega) (by omega) (by have:=HA.out.sz;simp at this ⊢;omega) _ rfl ?_;intro j cap w7 hown hgrow hat hlt;(have hb7:=HA.out.kw.blk.gb hgrow (fun e=>by have:=HA.out.kw.rown _ e.symm;omega));(have l7:=hb7.lt);obtain⟨s_0,s_1,s_2,s_3,s_4,s_5,s_6,s_f⟩:=(hb7).c7;(have HO:=O (Z hown (Z hgrow hat)));clear hb7 hown hgrow hat)
     | (go_simp;go_at_call 24;refine(HE1.out _ gw).mono ?_;rintro e w5 ⟨v5,ov5,rfl,⟨pa5,pc5,la5,lc5,rfl,q1,q2⟩,hn5,hk5⟩;(have hA:=HN.out.1.stepA HK.out q1 q2 hn5 hk5 HN.out.2.1 HN.out.2.2.1 HN.out.2.2.2.2.2.2.1 (by omega) (by omega) (by omega) (by omega) (by omega) (by omega));(obtain⟨cs5,hA⟩:=hA);(have hb5:=hA.kw5);(have hbl5:=hb5.lt);(have HA:=O hA);obtain⟨u_0,u_1,u_2,u_3,u_4,u_5,u_6,u_f⟩:=(hb5).c7;clear hb5 q1 q2 hn5 hk5 hA))
    all_goals
     go_wp2;go_roundg n1.len
     case measure=>omega
     case rel=>
      have hZ:=HA.out.close HK.out HO.out.1 HO.out.2.1 HO.out.2.2 (by omega);exact⟨acc.len+1,acc.snoc X,n1,(.slice (some ⟨j,0,none⟩) (acc.len+1) cap),ov5,ns++cl,rfl,by omega,by go_num,HN.out.2.2.2.1,by rw[Fo.len_snoc],hZ.1,hZ.2.1,by omega,by omega,by omega,HN.out.2.2.2.2.1,HN.out.2.2.2.2.2.1,hZ.2.2.1,HN.out.2.2.2.2.2.2.2,by rw[List.length_append];omega,HA.out.od,hZ.2.2.2⟩
end
def Kt(I:World→Value→List Bs→Prop)(fv:Value)(f:Ex→Ex)(b N:Nat):Prop:=∀(h:Hd)(k:Fo)(p:List Bs)(W:World)(ov:Value)(l:List Bs)(pa la ba:Option Addr)(pc lc bc:Nat),h.op=1→p.contains h.s=false→I W ov l→Cells W (.slice pa h.p.length pc) 1 h.p.length (h.p.map str) (frO b N ov)→RepL (frO b N ov) W (.slice la k.len lc) k→
 Cells W (.slice ba p.length bc) 1 p.length (p.map str) (frP b ov)→N≤W.heap.size→l.length≤1000000→p.length≤8000000→Calls Tryz.prog 24 #[exV h (.slice pa h.p.length pc) (.slice la k.len lc),.slice ba p.length bc,fv] W (DZ I W b N ov (f ⟨h,k⟩) (l++[h.s]))
section
variable {I:World→Value→List Bs→Prop}{fv:Value}{f:Ex→Ex}{b n0 N:Nat}
theorem Nd(K:DD b n0 I)(D:Kt I fv f b N):∀(M:Nat)(h:Hd)(k:Fo)(p:List Bs),k.wt<M→h.fit→k.fit→p.length+nX h k≤8000000→RpC I fv f b N h k p:=by
 intro M;induction M with
 |zero=>intro h k p hM;omega
 | succ M ih=>
   intro h k p hM h1 h2 hx W ov l pa la ba pc lc bc hw hp hr hb hN hl;have g1:=Hx h k;have g2:10+2*h.p.length+k.nT=nX h k:=rfl;by_cases c1:h.op=1
   ·cases hc:p.contains h.s with
    | false=>
      rw[show Bn f h p k (AG f k)=f ⟨h,k⟩by unfold Bn;rw[if_pos ⟨c1,hc⟩]];rw[show Bp h p (AA k)=[h.s]by unfold Bp;rw[if_pos ⟨c1,hc⟩]];exact D h k p W ov l pa la ba pc lc bc c1 hc hw hp hr hb hN (by omega) (by omega)
    | true=>
      rw[show Bn f h p k (AG f k)=⟨h,AG f k p⟩by unfold Bn;rw[if_neg (by rw[hc];simp),if_neg (by omega),if_neg (by omega)]];rw[show Bp h p (AA k)=AA k p by unfold Bp;rw[if_neg (by rw[hc];simp),if_neg (by omega),if_neg (by omega)]];exact Ng c1 hc (by omega) K hw hp hr hb hN hl (by omega) (fun a k2 hw hk hx f1 f2=>ih a k2 p (by omega) f1 f2 (by omega)) h2
   by_cases c2:h.op=2
   ·rw[show Bn f h p k (AG f k)=⟨h,k⟩by unfold Bn;rw[if_neg (fun e=>c1 e.1),if_pos c2]];rw[show Bp h p (AA k)=[]by unfold Bp;rw[if_neg (fun e=>c1 e.1),if_pos c2],List.append_nil];refine(Nb c2 (hp.mono fun _ _ _=>trivial) (hr.mono fun _ _ _=>trivial) h1 h2 (by omega)).mono ?_;rintro e w' ⟨v,rfl,h3,g3⟩;have hbw:=K.own hw;exact⟨v,ov,rfl,h3.mono (fun q hq _=>by
     have hq:W.heap.size≤q:=hq;exact⟨by omega,fun e=>by have:=(hbw.1 q e).2;omega,.inr hq⟩),K.gbO hw g3 (by simp),WK.of_none g3⟩
   by_cases c8:h.op=8
   ·rw[show Bn f h p k (AG f k)=⟨h,AG f k (p++h.p)⟩by unfold Bn;rw[if_neg (fun e=>c1 e.1),if_neg c2,if_pos c8]];rw[show Bp h p (AA k)=AA k (p++h.p)by unfold Bp;rw[if_neg (fun e=>c1 e.1),if_neg c2,if_pos c8]];exact Nc c8 rfl (by omega) K hw hp hr hb hN hl (by omega) (fun a k2 hw hk hx f1 f2=>ih a k2 (p++h.p) (by omega) f1 f2 (by rw[List.length_append];omega)) h2
   rw[show Bn f h p k (AG f k)=⟨h,AG f k p⟩by unfold Bn;rw[if_neg (fun e=>c1 e.1),if_neg c2,if_neg c8]];rw[show Bp h p (AA k)=AA k p by unfold Bp;rw[if_neg (fun e=>c1 e.1),if_neg c2,if_neg c8]];exact Nf c1 c2 c8 K hw hp hr hb hN hl (by omega) (fun a k2 hw hk hx f1 f2=>ih a k2 p (by omega) f1 f2 (by omega)) h2
end
theorem Nw.keeps(b:Nat):DD b (b+1) (fun W ov ns=>Nw W b ov ns) where
 gbO:=fun{W W1 ov ns o} h g hc=>by
  cases o with
  |none=>exact h.gbN g
  |some c=>exact h.later g (by have:=(hc c rfl).1;omega) (hc c rfl).2
 own:=fun h=>⟨h.own,Nat.lt_succ_self _,h.blk.lt⟩
theorem Nw.does(b N:Nat):Kt (fun W ov ns=>Nw W b ov ns) (.func (.func 41) #[] #[.pointer (some ⟨b,0,none⟩)]) (fun x=>x) b N:=by
 intro h k p W ov l pa la ba pc lc bc c1 hc hw hp hr hb hN hl hpl;refine(Na c1 hc hw hl (hb.mono fun _ _ _=>trivial) hpl).mono ?_;rintro e w' ⟨rfl,ov',n1,k1⟩;have hmv:∀q,frO b N ov q→q<W.heap.size→q≠b∧ov'.ownBlock≠some q∧(q<N∨W.heap.size≤q):=fun q hq hl=>⟨hq.1,fun e=>by
  rcases k1.own q e with h9|h9
  ·exact hq.2.1 h9
  ·omega,.inl hq.2.2⟩
 have hmw:∀q,(frO b N ov q∧(q≠b∧ov'.ownBlock≠some q∧(q<N∨W.heap.size≤q)))→q≠b∧ov.ownBlock≠some q:=fun q hq=>⟨hq.1.1,hq.1.2.1⟩;exact⟨_,ov',rfl,⟨pa,pc,la,lc,rfl,(CN (hp.mono (ok':=fun q=>frO b N ov q∧(q≠b∧ov'.ownBlock≠some q∧(q<N∨W.heap.size≤q))) (fun q hq hl=>⟨hq,hmv q hq hl⟩)) k1 hmw).mono (fun q hq _=>hq.2),(FO (hr.mono (ok':=fun q=>frO b N ov q∧(q≠b∧ov'.ownBlock≠some q∧(q<N∨W.heap.size≤q))) (fun q hq hl=>⟨hq,hmv q hq hl⟩)) k1 hmw).mono (fun q hq _=>hq.2)⟩,n1,k1⟩
open Go.Sort Go.Lib
section
variable {w:World}{B:Nat}{v:Value}{xs:List Bs}
theorem Mm(h:w.ownsRow B 9 1 v xs.length (xs.map str))(hl:xs.length≤1000001):
 Calls Tryz.prog 43 #[v] w fun e w'=>∃u,e= .returned u∧Cells w' u 1 (Lib.compact xs).length ((Lib.compact xs).map str) (fun q=>B≤q)∧w.grownBy w' v.ownBlock:=by
 rcases h.2 with⟨rfl,h0⟩| ⟨g,cap,cur,rfl,hb,hblk,hnc,hcm,hcs,htake⟩
 ·have hx:xs=[]:=List.eq_nil_of_length_eq_zero h0;subst hx;refine(slices_Compact_string_empty none 0 w).mono ?_;rintro e w1 ⟨rfl,rfl⟩;have e:Lib.compact ([]:List Bs)=[]:=by simp[Lib.compact,compactUpTo]
  rw[e];exact⟨_,rfl,Cells.nil _ _ _,Ac _ _⟩
 ·have hH:=holds_of_block hblk (by rw[Nat.mul_one]at htake;exact htake);have hlt:=(Array.getElem?_eq_some_iff.1 hblk).1;refine(slices_Compact_string g 0 cap xs w hH (by omega) (by omega)).mono ?_;rintro e w1 ⟨rfl,q,hw3⟩;have hcl:=Iq xs;refine⟨_,rfl,⟨some ⟨g,0,none⟩,cap,rfl,by omega,hcm,by simp,fun j u hj=>⟨g,0,rfl,hb,?_⟩⟩,?_⟩
  ·have hjl : j < (Lib.compact xs).length := by
    have:=(List.getElem?_eq_some_iff.1 hj).1;simpa using this
   have h9:=cell?_putRow encStr (Sort.ahead w q) g 0 xs.toArray (Lib.compact xs++List.replicate (xs.length-(Lib.compact xs).length) []).toArray (show Holds encStr (Sort.ahead w q) g 0 xs.toArray from hH) (by simp;omega) j (by simp;omega);rw[hw3,h9];rw[List.getElem?_map,List.getElem?_eq_getElem hjl]at hj;simp only[Option.map_some,Option.some.injEq]at hj;rw[←hj];simp[encStr,hjl,List.getElem?_append_left hjl]
  ·rw[hw3];have:=grownBy_sorted (w:=w) (g:=g) (n:=q) (os:=#[]) (Lib.compact xs++List.replicate (xs.length-(Lib.compact xs).length) []).toArray;rw[grow_empty]at this;exact this
end
def EC(x:Ex):List Bs:=Bp x.h [] (AA x.kids)
theorem P9{x:Ex}(hv:AL x=0):EC x=DG x:=by
 have ho:=(G9 hv).1;have:=Ru (.one x) [] (by rw[DA];exact ho);simpa[Fo.one,Ex.fo,AA,AT,EC,DG]using this
theorem Nw.start(w:World):Nw (w.alloc (.cells #[.slice none 0 0] 24 (0,0))) w.heap.size (.slice none 0 0) []:=⟨Blk.new w [.slice none 0 0] 24,World.ownsRow_nil _ _ _ _⟩
theorem MS{w:World}{v:Value}{x:Ex}{ok:Nat→Prop}(hx:VE ok w v x)(h1:x.h.fit)(h2:x.kids.fit)(hn:x.kids.nodes≤1000000)(hf:x.few):
 Calls Tryz.prog 16 #[v] w fun e w'=>∃u,e= .returned (.tuple #[u,.int .i64 (AL x)])∧Cells w' u 1 (CT x).length ((CT x).map str) (A8 w.heap.size)∧w.grownBy w' none:=by
 have HV:=O (fun(W:World)(g:w.grownBy W none)=>Gl (hx.gb g (by simp)) h1 h2 hn);obtain⟨pa,pc,la,lc,rfl,q1,q2⟩:=hx;have hB:=Blk.new w (hdC x.h (.slice pa x.h.p.length pc) (.slice la x.kids.len lc)) 27;have hB1:=hB;obtain⟨x_0,x_1,x_2,x_3,x_4,x_5,x_6,x_f⟩:=(hB1).c7;have HB:=O hB;clear hB1 hB;by_cases hv:AL x=0
 ·have HM:=O (show CT x=Lib.compact (CF (EC x))by rw[P9 hv];exact if_pos hv);have HL:=O (show(EC x).length≤1000001 from Nat.le_trans (F6 x.h [] x.kids) (by omega));have HT:=O (show ∀(W:World)(b:Nat),w.grownBy W none→w.heap.size≤b→Nw W b (.slice none 0 0) []→Calls Tryz.prog 24 #[exV x.h (.slice pa x.h.p.length pc) (.slice la x.kids.len lc),.slice none 0 0,.func (.func 41) #[] #[.pointer (some ⟨b,0,none⟩)]] W
   (DZ (fun W ov ns=>Nw W b ov ns) W b w.heap.size (.slice none 0 0) (Bn (fun x=>x) x.h [] x.kids (AG (fun x=>x) x.kids)) (EC x))from fun W b g hb hw=>
   Nd (Nw.keeps b) (Nw.does b w.heap.size) (x.kids.wt+1) x.h x.kids [] (Nat.lt_succ_self _) h1 h2 (by have:=hf.1;simp only[List.length_nil];omega) W (.slice none 0 0) [] pa la none pc lc 0 hw
    (((q1.mono (ok':=fun q=>q<w.heap.size) (fun q _ hl=>hl)).gb g (by simp)).mono (fun q hq _=>⟨by have:q<w.heap.size:=hq;omega,by simp[Value.ownBlock],hq⟩)) (((q2.mono (ok':=fun q=>q<w.heap.size) (fun q _ hl=>hl)).gb g (by simp)).mono (fun q hq _=>⟨by have:q<w.heap.size:=hq;omega,by simp[Value.ownBlock],hq⟩)) (Cells.nil _ _ _) g.size (by simp only[List.length_nil];omega))
  rw[HM.out];rw[hv]at HV ⊢;clear hv h1 h2 hn HM hf q1 q2;generalize EC x=L at*;generalize Bn (fun x=>x) x.h [] x.kids (AG (fun x=>x) x.kids)=X at*;have HZL:=O (GK L);generalize hzz:CF L=zs at*;generalize hcz:Lib.compact zs=cz at*;have HZZ:=O (Z hzz hcz);clear hzz hcz;go_enter func16,ntmps16;go_wp2_with fail;refine(HV.out _ ?gg).mono ?_
  case gg=>exact gw
  rintro e w1 ⟨rfl,g1⟩;have hb1:=HB.out.gb g1 (by simp);have HG:=O (Aa (World.grownBy_alloc w (.cells (hdC x.h (.slice pa x.h.p.length pc) (.slice la x.kids.len lc)).toArray 27 (0,0)) none) g1);have hbs:=HG.out.size;clear x_0 x_1 x_2 x_3 x_4 x_5 x_6 x_f g1;have hbl1:=hb1.lt;obtain⟨y_0,y_1,y_2,y_3,y_4,y_5,y_6,y_f⟩:=(hb1).c7;clear hb1;go_wp2_with fail;refine(HT.out _ w1.heap.size (Ad HG.out _) hbs (Nw.start w1)).mono ?_;rintro e w2 ⟨v2,ov2,rfl,_,n2,k2⟩;have g2:=k2.gb_of (Ad HG.out _) hbs (by simp[Value.ownBlock]);have hS:=JM n2.row HL.out;have hown:=n2.own;obtain⟨a2,c2,rfl,_⟩:=id (AU n2.row);have HS:=O hS;have HN:=O (Z n2 g2);have d0:=n2.blk.cell 0;have dl:=n2.blk.lt;clear n2 k2 g2 hS y_0 y_1 y_2 y_3 y_4 y_5 y_6 y_f;go_wp2_with fail;refine HS.out.mono ?_;rintro e w3 ⟨rfl,h3,g3⟩;rw[HZZ.out.1]at h3;have gT3:=Dq HN.out.1.row HN.out.2 g3 (by omega);have hb3:=HN.out.1.blk.gb g3 (fun e=>by have:=(hown _ e.symm).1;omega);have hC:=Mm (xs:=zs) (by rw[HZL.out];exact h3) (by have:=HZL.out;have:=HL.out;omega);rw[HZZ.out.2]at hC;have HC:=O hC;have HG3:=O (Z h3 gT3);have e0:=hb3.cell 0;have el:=hb3.lt;clear h3 g3 gT3 hC hb3 d0;go_wp2_with fail;refine HC.out.mono ?_;rintro e w4 ⟨u,rfl,hu,g4⟩;have HU:=O (Z hu (Dq HG3.out.1 HG3.out.2 g4 (by omega)));obtain⟨ua,uc,rfl,_⟩:=hu;clear g4;go_wp2;exact bodyPost_ret (v:= .tuple #[.slice ua cz.length uc,.int .i64 0]) (by simp[results,results16,go_sem]) rfl ⟨_,rfl,HU.out.1.mono (fun q hq _=>by have:w1.heap.size+1≤q:=hq;show w.heap.size≤q;omega),HU.out.2⟩
 ·have HM:=O (show CT x=[]from if_neg hv);rw[HM.out];have hvI:(AL x==0)=false:=by simpa using hv
  have hvI2:(AL x !=0)=true:=by simpa using hv
  clear hv h1 h2 hn HM hf q1 q2;generalize AL x=vm at*;go_enter func16,ntmps16;go_wp2_with fail;refine(HV.out _ ?gg).mono ?_
  case gg=>exact gw
  rintro e w1 ⟨rfl,g1⟩;have HG:=O (Aa (World.grownBy_alloc w (.cells (hdC x.h (.slice pa x.h.p.length pc) (.slice la x.kids.len lc)).toArray 27 (0,0)) none) g1);clear x_0 x_1 x_2 x_3 x_4 x_5 x_6 x_f g1;go_wp2;exact bodyPost_ret (v:= .tuple #[.slice none 0 0,.int .i64 vm]) (by simp[results,results16,go_sem]) rfl ⟨_,rfl,Cells.nil _ _ _,HG.out⟩
theorem Th{w W W1:World}{b:Nat}{v0 v1 v2 v3 v4 v5 v6:Value}(h:(W.cell? ⟨b,0,none⟩=some v0∧W.cell? ⟨b,1,none⟩=some v1∧W.cell? ⟨b,2,none⟩=some v2∧W.cell? ⟨b,3,none⟩=some v3∧W.cell? ⟨b,4,none⟩=some v4∧W.cell? ⟨b,5,none⟩=some v5∧W.cell? ⟨b,6,none⟩=some v6)∧w.grownBy W none)(g:W.grownBy W1 none):
 (W1.cell? ⟨b,0,none⟩=some v0∧W1.cell? ⟨b,1,none⟩=some v1∧W1.cell? ⟨b,2,none⟩=some v2∧W1.cell? ⟨b,3,none⟩=some v3∧W1.cell? ⟨b,4,none⟩=some v4∧W1.cell? ⟨b,5,none⟩=some v5∧W1.cell? ⟨b,6,none⟩=some v6)∧w.grownBy W1 none:=
 ⟨⟨Af g h.1.1,Af g h.1.2.1,Af g h.1.2.2.1,Af g h.1.2.2.2.1,Af g h.1.2.2.2.2.1,Af g h.1.2.2.2.2.2.1,Af g h.1.2.2.2.2.2.2⟩,Aa h.2 g⟩
theorem KJ{w:World}{ok:Nat→Prop}{v:Value}{x:Ex}(ht:Tabs w.heap.size w)(hp:Pow w)(hx:VE ok w v x)(h1:x.h.fit)(h2:x.kids.fit)(hn:x.kids.nodes≤1000000)(hf:x.few):
 Calls Tryz.prog 5 #[v] w fun e w'=>e= .returned (.bool true)∧w.grownBy w' none:=by
 have HK:=O (fun(W:World)(g:w.grownBy W none)=>Ph ((ht.gbN g).mono g.size));have H1:=O (fun(W:World)(g:w.grownBy W none)=>Lk (hx.gb g (by simp)));have H2:=O (fun(W:World)(g:w.grownBy W none)=>L1 (hp.gb g) (hx.gb g (by simp)) h1 h2 hn);have H3:=O (fun(W:World)(g:w.grownBy W none)=>KS (hx.gb g (by simp)) h1 h2 hn hf);have H4:=O (fun(W:World)(g:w.grownBy W none)=>MS (hx.gb g (by simp)) h1 h2 hn hf);have H5:=O (fun(W:World)(g:w.grownBy W none)=>MX (hx.gb g (by simp)) h1 h2 hn hf);have H6:=O (fun(W:World)(g:w.grownBy W none)=>Gl (hx.gb g (by simp)) h1 h2 hn);have H7:=O (fun(W:World)(g:w.grownBy W none)=>FX (hx.gb g (by simp)) h1 h2 hn hf);obtain⟨pa,pc,la,lc,rfl,_,_⟩:=hx;have hB1:=Blk.new w (hdC x.h (.slice pa x.h.p.length pc) (.slice la x.kids.len lc)) 27;have gA:w.grownBy (w.alloc (.cells (hdC x.h (.slice pa x.h.p.length pc) (.slice la x.kids.len lc)).toArray 27 (0,0))) none:=World.grownBy_alloc _ _ _;have HB:=O (Z hB1 gA);clear hB1 gA ht hp h1 h2 hn hf;go_enter Tryz.func5,ntmps5;go_wp2_with fail;refine(H1.out _ HB.out.2).mono ?_;rintro e w1 ⟨o1,rfl,g1⟩;cases o1 with
 | true=>
   have gwx:=Aa HB.out.2 g1;go_wp2_with fail;refine(HK.out _ gwx).mono ?_;rintro e w2 ⟨rfl,g2⟩;go_wp2;go_ret;exact⟨rfl,Aa gwx g2⟩
 | false=>
   have HB1:=O (Z (HB.out.1.gb g1 (by simp)) (Aa HB.out.2 g1));have b1:=HB1.out.1;obtain⟨x_0,x_1,x_2,x_3,x_4,x_5,x_6,x_f⟩:=(b1).c7;clear b1 g1 HB H1;go_wp2_with fail;refine(H2.out _ HB1.out.2).mono ?_;rintro e w2 ⟨rfl,g2⟩;have HB2:=O (Z (HB1.out.1.gb g2 (by simp)) (Aa HB1.out.2 g2));have b2:=HB2.out.1;clear x_0 x_1 x_2 x_3 x_4 x_5 x_6 x_f H2 g2 HB1;obtain⟨x_0,x_1,x_2,x_3,x_4,x_5,x_6,x_f⟩:=(b2).c7;clear b2;go_wp2_with fail;refine(H3.out _ HB2.out.2).mono ?_;rintro e w3 ⟨rfl,g3⟩;have HB3:=O (Z (HB2.out.1.gb g3 (by simp)) (Aa HB2.out.2 g3));have b3:=HB3.out.1;clear x_0 x_1 x_2 x_3 x_4 x_5 x_6 x_f H3 g3 HB2;obtain⟨x_0,x_1,x_2,x_3,x_4,x_5,x_6,x_f⟩:=(b3).c7;clear b3;have hs1:((BY x).1==(BY x).1)=true:=by simp
   have hs2:((BY x).2==(BY x).2)=true:=by simp
   generalize BY x=z at*;go_wp2_with fail;refine(H4.out _ HB3.out.2).mono ?_;rintro e w4 ⟨u4,rfl,hu4,g4⟩;have HB4:=O (Z (HB3.out.1.gb g4 (by simp)) (Aa HB3.out.2 g4));have b4:=HB4.out.1;clear x_0 x_1 x_2 x_3 x_4 x_5 x_6 x_f H4 g4 HB3;obtain⟨x_0,x_1,x_2,x_3,x_4,x_5,x_6,x_f⟩:=(b4).c7;clear b4;obtain⟨ka,kc,rfl,_⟩:=id hu4;have HU4:=O hu4;clear hu4;go_wp2_with fail;refine(H5.out _ HB4.out.2).mono ?_;rintro e w5 ⟨u5,rfl,hu5,g5⟩;have HB5:=O (Z (HB4.out.1.gb g5 (by simp)) (Aa HB4.out.2 g5));obtain⟨ma,mc,rfl,_⟩:=id hu5;have HST:=O (fun(W:World)(g:w5.grownBy W none)=>KK ((HU4.out.gb g5 (by simp)).gb g (by simp)) (hu5.gb g (by simp)));rw[show Cv (CT x) (CT x)=true by simp[Cv]]at HST;have b5:=HB5.out.1;clear x_0 x_1 x_2 x_3 x_4 x_5 x_6 x_f H5 g5 HB4 HU4;obtain⟨x_0,x_1,x_2,x_3,x_4,x_5,x_6,x_f⟩:=(b5).c7;clear b5;clear hu5;have gwx:=HB5.out.2;have hv1:(AL x==AL x)=true:=by simp
   generalize CT x=nm at*;generalize AL x=vm at*;have HV6:=O (fun(W:World)(g:w5.grownBy W none)=>H6.out W (Aa gwx g));have HV7:=O (fun(W:World)(g:w5.grownBy W none)=>H7.out W (Aa gwx g));have HVK:=O (fun(W:World)(g:w5.grownBy W none)=>HK.out W (Aa gwx g));have hq:w5.grownBy w5.drew none:=Am (Ac _ _);have HG5:=O gwx;clear H6 H7 HK gwx x_f;go_wp2_with fail;go_region_held3 (fun W=>(W.cell? ⟨w.heap.size,0,none⟩=some (.int .i64 x.h.op)∧W.cell? ⟨w.heap.size,1,none⟩=some (str x.h.s)∧W.cell? ⟨w.heap.size,2,none⟩=some (.int .i64 x.h.vk)∧W.cell? ⟨w.heap.size,3,none⟩=some (.int .i64 x.h.vn)∧W.cell? ⟨w.heap.size,4,none⟩=some (str x.h.vs)∧W.cell? ⟨w.heap.size,5,none⟩=some (.slice pa x.h.p.length pc)∧W.cell? ⟨w.heap.size,6,none⟩=some (.slice la x.kids.len lc))∧w5.grownBy W none)
    (first|exact⟨⟨x_0,x_1,x_2,x_3,x_4,x_5,x_6⟩,hq⟩|exact Th (by assumption) g5)
    (first| (go_at_call 18;(with_reducible refine(HV6.out _ ?_).mono ?_);(simp[*]);rintro e w6 ⟨rfl,g5⟩)| (go_at_call 19;(with_reducible refine(HV7.out _ ?_).mono ?_);(simp[*]);rintro e w6 ⟨rfl,g5⟩)| (go_at_call 20;(with_reducible refine(HST.out _ ?_).mono ?_);(simp[*]);rintro e w6 ⟨rfl,g5⟩)| (go_at_call 8;(with_reducible refine(HVK.out _ ?_).mono ?_);(simp[*]);rintro e w6 ⟨rfl,g5⟩))
   rename_i hH;have HG:=O hH.2;clear hH x_0 x_1 x_2 x_3 x_4 x_5 x_6;go_wp2;go_ret;exact⟨rfl,Aa HG5.out HG.out⟩
end Go.Proofs.YtgjdhajcnechdaaGreatDoor
