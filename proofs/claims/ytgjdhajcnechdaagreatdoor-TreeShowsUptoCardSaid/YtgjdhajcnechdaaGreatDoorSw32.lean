/-
  Contracts of the statement parser: a statement that sets a value. Contracts of the statement parser: a block of one statement that sets a value. Contracts of the statement parser: a program of one sta
-/
import Derived.Test.YtgjdhajcnechdaaGreatDoorSw29
import Derived.Test.YtgjdhajcnechdaaGreatDoorPlain
import Derived.Shelf.Spec.SlicesGrow
import Derived.Laws.AppendOwnNone
set_option linter.all false
set_option maxRecDepth 100000
set_option maxHeartbeats 8000000
namespace Go.Proofs.YtgjdhajcnechdaaGreatDoor
open Go.Proofs.Tryz
open Go.RowKit
section
variable {b:Nat}{tv wv:Value}{l:List Tok}{wl:List Bs}
theorem QC{E:Nat→Res Ex}(hE:CE 67 b tv wv l wl E)(hl:CD l){w:World}{i:Nat}(hp:Par w b tv wv l wl i)(hk:(Ab l i).kind=0)(hs:Ae (Ab l (i+1)) [61]=true)
 {t x:Ex} {j k:Nat} (ht:DY l E i= .ok t j) (hs2:Ae (Ab l j) [61]=true) (he:E (j+1)= .ok x k) (hend:CH l k= .ok () (k+1)):
 Calls Tryz.prog 182 #[.pointer (some ⟨b,0,none⟩)] w (JS b tv wv l wl w t x (k+1)):=by
 have hb:=hp.lt;have hq:Ae (Ab l i) [63]=false:=by simp[Ae,hk]
 have hpar:Ae (Ab l (i+1)) [40]=false:=by
  simp[Ae]at hs ⊢;intro _ h;rw[hs.2]at h;exact absurd h (by decide)
 have H:=O (Z hE (Z hl (Z hs (Z ht (Z hs2 (Z he (Z hend (Z hq hpar))))))));have HK:=O hk;clear hE hl hk hs ht hs2 he hend hq hpar;have gr:w.grownBy (w.alloc (.cells (stC 0 (.slice none 0 0)).toArray 56 (0,0))) (some b):=Ad (Ac _ _) _;have hz:=Blk.new w (stC 0 (.slice none 0 0)) 56;replace hp:=hp.alloc (.cells (stC 0 (.slice none 0 0)).toArray 56 (0,0));go_enter func182,ntmps182;go_wp2_with fail;refine(Cl hp).mono ?_;rintro e w1 ⟨rfl,g⟩;have gA:=Ad g (.cells #[.int .i64 (Ab l i).kind,.int .i64 (Ab l i).pos,str (Ab l i).text] 105 (0,0));have hT:=Blk.new w1 [.int .i64 (Ab l i).kind,.int .i64 (Ab l i).pos,str (Ab l i).text] 105;have hbs:=g.size;simp at hbs;replace hz:=hz.gb gA (by simp);replace gr:=Ag gr gA;replace hp:=hp.gbN gA;clear g gA;go_wp2_with fail;refine(I9 hp H.out.2.2.1).mono ?_;rintro e w2 ⟨rfl,g⟩;replace hz:=hz.gb g (by simp);replace gr:=Ag gr g;replace hp:=hp.gbN g;replace hT:=hT.gb g (by simp);clear g;go_wp2_with fail;refine(Bu hp [63] H.out.2.2.2.2.2.2.2.1).mono ?_;rintro e w3 ⟨rfl,g⟩;replace hz:=hz.gb g (by simp);replace gr:=Ag gr g;replace hp:=hp.gbN g;replace hT:=hT.gb g (by simp);have t0:=hT.cell 0;simp only[List.getElem?_cons_zero]at t0;rw[HK.out]at t0;have hTl:=hT.lt;clear g;go_wp2_with fail;refine(Hq hp).mono ?_;rintro e w4 ⟨rfl,g⟩;replace hz:=hz.gb g (by simp);replace gr:=Ag gr g;replace hp:=hp.gbN g;clear g;go_wp2_with fail;refine(DP _ _ _ [40] _).mono ?_;rintro e w5 ⟨rfl,g⟩;replace hz:=hz.gb g (by simp);replace gr:=Ag gr g;replace hp:=hp.gbN g
 clear g t0 hTl hT;rw[show((Ab l (i+1)).kind==4&&(Ab l (i+1)).text==[40])=false from H.out.2.2.2.2.2.2.2.2];go_wp2_with fail;refine(Ow H.out.1 H.out.2.1 _ _ hp (by rw[H.out.2.2.2.1];simp)).mono ?_;rintro e w6 ⟨g,h6⟩;rw[H.out.2.2.2.1]at h6;obtain⟨v,rfl,⟨pa,pc,la,lc,rfl,rp,rl⟩,hp6⟩:=h6;have hbs6:=g.size;have hbs5:=gr.size;have hL:=Blk.new w6 (hdC t.h (.slice pa t.h.p.length pc) (.slice la t.kids.len lc)) 27;have hzl5:=hz.lt;have hsince:∀q,A8 w5.heap.size q→q<w6.heap.size→w.heap.size<q:=fun q hq _=>by have:w5.heap.size≤q:=hq;omega
 have gN:=World.grownBy_alloc w6 (.cells (hdC t.h (.slice pa t.h.p.length pc) (.slice la t.kids.len lc)).toArray 27 (0,0)) none;have HX:=O (Z (((rp.mono (ok':=fun q=>w.heap.size<q) hsince)).gb gN (by simp)) (((rl.mono (ok':=fun q=>w.heap.size<q) hsince)).gb gN (by simp)));replace gr:=Ag (Aa gr g) gN;have hp7:=hp6.gbN gN;replace hz:=(hz.gb g (by simp;omega)).gb gN (by simp);have hzlt:=hz.lt;clear rp rl g gN hp6 hp hsince;go_wp2_with fail;refine(B1 hp7 [61] H.out.2.2.2.2.1).mono ?_;rintro e w8 ⟨rfl,hp8,g8⟩;have hL8:=hL.gb g8 (by simp;omega);replace hz:=hz.gb g8 (by simp;omega);replace gr:=Aa gr g8;have hok:∀q,w.heap.size<q→some q≠some b:=fun q hq e=>by cases e;omega
 have HX8:=O (Z (HX.out.1.gb g8 (fun q hq _=>hok q hq)) (HX.out.2.gb g8 (fun q hq _=>hok q hq)));have hLb:=hL8.lt;have hzlt2:w.heap.size<w8.heap.size:=by have:=hz.lt;omega
 obtain⟨cl_0,cl_1,cl_2,cl_3,cl_4,cl_5,cl_6,cl_f⟩:=(hL8).c7;clear HX g8 hL hp7;go_wp2_with fail;go_region_with(first| (go_at_call 67;refine(H.out.1 _ _ (hp8.gbN (Am (Ac w8 none))) (by rw[H.out.2.2.2.2.2.1];simp)).mono ?_;rintro e w9 ⟨g9,h9⟩;rw[H.out.2.2.2.2.2.1]at h9;obtain⟨v,rfl,⟨pa2,pc2,la2,lc2,rfl,rp2,rl2⟩,hp9⟩:=h9;have gD:=Aa (Am (Ac w8 (some b))) g9;have hL9:=hL8.gb gD (by simp;omega);have hL9t:=hL9.lt;obtain⟨dl_0,dl_1,dl_2,dl_3,dl_4,dl_5,dl_6,dl_f⟩:=(hL9).c7;have HY:=O (Z rp2 rl2);clear rp2 rl2)| (go_at_call 67;refine(H.out.1 _ _ ((hp8.alloc (.cells (stC 0 (.slice none 0 0)).toArray 56 (0,0))).gbN (Am (Ac _ none))) (by rw[H.out.2.2.2.2.2.1];simp)).mono ?_;rintro e w9 ⟨g9,h9⟩;rw[H.out.2.2.2.2.2.1]at h9;obtain⟨v,rfl,⟨pa2,pc2,la2,lc2,rfl,rp2,rl2⟩,hp9⟩:=h9;have gD:=Aa (Am (Ad (Ac w8 (some b)) (.cells (stC 0 (.slice none 0 0)).toArray 56 (0,0)))) g9;have hL9:=hL8.gb gD (by simp;omega);have hL9t:=hL9.lt;obtain⟨dl_0,dl_1,dl_2,dl_3,dl_4,dl_5,dl_6,dl_f⟩:=(hL9).c7;have HY:=O (Z rp2 rl2);clear rp2 rl2;have hS9:=((Blk.new w8 (stC 0 (.slice none 0 0)) 56).drew).gb g9 (by have:=hp8.lt;simp;omega);obtain⟨sl_0,sl_1,sl_2,sl_3,sl_4,sl_5,sl_6,sl_7,sl_8,sl_9,sl_f⟩:=(hS9).c10;have hS9t:=hS9.lt));all_goals
  have hzD:=hz.gb gD (by simp;omega);have grD:=Aa gr gD;have hs89:=gD.size;first
  | have hP:SetPre b tv wv l wl w t x pa la pa2 la2 pc lc pc2 lc2 k (fun q=>w.heap.size<q∧q≠w8.heap.size) w9:=⟨hp9,(HX8.out.1.mono (ok':=fun q=>w.heap.size<q∧q≠w8.heap.size) (fun q hq h=>⟨hq,by omega⟩)).gb gD (by intro q hq _ e;cases e;have:=hq.1;omega),(HX8.out.2.mono (ok':=fun q=>w.heap.size<q∧q≠w8.heap.size) (fun q hq h=>⟨hq,by omega⟩)).gb gD (by intro q hq _ e;cases e;have:=hq.1;omega),HY.out.1.mono (fun q hq _=>by simp at hq;exact⟨by omega,by omega⟩),HY.out.2.mono (fun q hq _=>by simp at hq;exact⟨by omega,by omega⟩),grD,hzD,hb,fun q hq=>hq.1⟩
    refine EE (EA b tv wv l wl w t x k w8.heap.size w9.heap.size) (hP.C hS9 hzlt2 (fun q hq=>hq.2)) ?_;clear hP hS9 sl_0 sl_1 sl_2 sl_3 sl_4 sl_5 sl_6 sl_7 sl_8 sl_9 sl_f
  | have hP:SetPre b tv wv l wl w t x pa la pa2 la2 pc lc pc2 lc2 k (fun q=>w.heap.size<q) w9:=⟨hp9,HX8.out.1.gb gD (fun q hq _=>hok q hq),HX8.out.2.gb gD (fun q hq _=>hok q hq),HY.out.1.mono (fun q hq _=>by simp at hq;omega),HY.out.2.mono (fun q hq _=>by simp at hq;omega),grD,hzD,hb,fun q hq=>hq⟩
    first
    |refine EE (EA b tv wv l wl w t x k (w9.heap.size+1) w9.heap.size) hP.A ?_
    |refine EE (EA b tv wv l wl w t x k w9.heap.size (w9.heap.size+1)) hP.B ?_
    clear hP
  clear hzD grD hp9 g9 gD hL9 HY dl_0 dl_1 dl_2 dl_3 dl_4 dl_5 dl_6 dl_f cl_0 cl_1 cl_2 cl_3 cl_4 cl_5 cl_6 cl_f hL8 HX8 hz gr hp8;intro W hW;have hne:=hW.ne;go_wp2_with fail;refine(JW hW.par).mono ?_;rintro e w10 ⟨g,h10⟩;rw[H.out.2.2.2.2.2.2.1]at h10;obtain⟨v,rfl,rfl,hp10⟩:=h10;have hS:=hW.st.gb g (by simp;omega);have hZ:=hW.zero.gb g (by simp;omega);have HF:=O (Z hp10 (Z (Aa hW.gr g) (hW.row.gb g (fun q hq _=>hok q hq))));clear hp10 hW g;obtain⟨sl_0,sl_1,sl_2,sl_3,sl_4,sl_5,sl_6,sl_7,sl_8,sl_9,sl_f⟩:=(hS).c10;obtain⟨zl_0,zl_1,zl_2,zl_3,zl_4,zl_5,zl_6,zl_7,zl_8,zl_9,zl_f⟩:=(hZ).c10;have hSl:=hS.lt;have HZ:=O hZ;clear hZ hS;go_wp2;refine bodyPost_ret (Nh rfl _ (HZ.out.set10 _ _ _ _ _ _ _ _ _ _) rfl rfl) rfl ⟨_,_,rfl,(HF.out.2.2.gb (FA _ _ _ _ _ _ _ _ _ _ _ _) (fun q hq _ e=>by cases e;omega)).mono (fun q hq _=>Nat.le_of_lt hq),HF.out.1.gb (FA _ _ _ _ _ _ _ _ _ _ _ _) (by intro q e;cases e;exact hb),A9 HF.out.2.1 (FA _ _ _ _ _ _ _ _ _ _ _ _) (.inr (Nat.le_refl _))⟩
end
section
variable {b:Nat}{tv wv:Value}{l:List Tok}{wl:List Bs}
theorem Rz:(Tryz.prog.info? 56).map (fun i=>(i.zero,i.size,i.bytes))=some (some (.agg (stC 0 (.slice none 0 0)).toArray),10,192):=by kernel_rfl
theorem NU:GB []=false:=by decide+kernel
def SetRow(B:Nat)(w:World)(v:Value)(t x:Ex):Prop:=∃la lc,w.ownsRow B 56 10 v 1 (stC 0 (.slice la 2 lc))∧RepL (A8 B) w (.slice la 2 lc) (.two t x)
theorem SetRow.gb{B:Nat}{w w1:World}{v:Value}{t x:Ex}{r:Option Nat}(h:SetRow B w v t x)(g:w.grownBy w1 r)(hr:∀q,r=some q→q<B):SetRow B w1 v t x:=by
 obtain⟨la,lc,ho,hl⟩:=h;exact⟨la,lc,C2 ho g (by intro k hk _ e;have:=hr k e.symm;omega),hl.gb g (by intro k hk _ e;have:=hr k e.symm;have:B≤k:=hk;omega)⟩
def BlkR(b:Nat)(tv wv:Value)(l:List Tok)(wl:List Bs)(w:World)(t x:Ex)(g:Nat)(v:Value)(wr:World):Prop:=
 match g with
 | 0=>SetRow w.heap.size wr v t x∧Par wr b tv wv l wl l.length∧w.grownBy wr (some b)
 |_=>v= .slice none 0 0∧wr=w
theorem NM{E:Nat→Res Ex}(hE:CE 67 b tv wv l wl E)(hl:CD l){w:World}(hg:Glob w)(hgb:0<b){i:Nat}(hp:Par w b tv wv l wl i)(hk:(Ab l i).kind=0)(hs:Ae (Ab l (i+1)) [61]=true)
 {t x:Ex} {j k:Nat} (ht:DY l E i= .ok t j) (hs2:Ae (Ab l j) [61]=true) (he:E (j+1)= .ok x k) (hend:CH l k= .ok () (k+1)) (hlen:k+1=l.length) (hi:i<l.length):
 Calls Tryz.prog 140 #[.pointer (some ⟨b,0,none⟩)] w fun e w'=>∃v,e= .returned v∧SetRow w.heap.size w' v t x∧Par w' b tv wv l wl l.length∧w.grownBy w' (some b):=by
 have hb:=hp.lt;have hf:=hp.few;have HST:∀w1,Par w1 b tv wv l wl i→Calls Tryz.prog 182 #[.pointer (some ⟨b,0,none⟩)] w1 (JS b tv wv l wl w1 t x l.length):=fun w1 h=>by rw[←hlen];exact QC hE hl h hk hs ht hs2 he hend
 have HS:=O (Z HST (Z hs hg));obtain⟨ta,tc,rfl⟩:=hp.tv_eq;clear HST hE hk hs ht hs2 he hend hg hl;go_enter func140,ntmps140;go_wp2_with fail;go_loopg [3] 1 (fun g v wr=>BlkR b (.slice ta l.length tc) wv l wl w t x g v wr)
 case atStart=>exact⟨rfl,rfl⟩
 case round=>
  cases gk with
  | zero=>
    obtain⟨hR,hpe,gr⟩:=hrel;have HR:=O (Z hR (Z hpe gr));clear hR;have c0:=hpe.c0;have c1:=hpe.c1;clear hp hpe gr;have hd:decide ((l.length:Int)<(l.length:Int))=false:=by simp
    go_wp2_with fail;go_quiet(fail);go_wp2;go_ret;exact⟨_,rfl,HR.out.1.gb (Ay (Ac _ none) _) (by simp),HR.out.2.1.drewN _,Ay HR.out.2.2 _⟩
  | succ gk=>
    obtain⟨rfl,rfl⟩:=hrel;have c0:=hp.c0;have c1:=hp.c1;have hd:decide ((i:Int)<(l.length:Int))=true:=by simp;omega
    go_wp2_with fail;go_region_with(first| (go_at_call 181;refine(I9 (hp.gbN (Am (Ac wr none))) HS.out.2.1).mono ?_;rintro e w1 ⟨rfl,g1⟩)| (go_at_call 180;refine(L4 [] ((HS.out.2.2.gb (Am (Ac wr none)) (by simp)).gb g1 (by simp))).mono ?_;rintro e w2 ⟨rfl,g2⟩;rw[NU]));all_goals
     have gA:wr.grownBy w2 none:=Aa (Aa (Am (Ac wr none)) g1) g2;clear g1 g2;go_wp2_with fail;refine(HS.out.1 _ (hp.gbN gA)).mono ?_;rintro e w3 ⟨la,lc,rfl,hrep,hpar,g3⟩;have hsA:=gA.size;have hs3:=g3.size;have hpl:=hpar.lt;have hown4:(w3.alloc (.cells (stC 0 (.slice la 2 lc)).toArray 56 (0,0))).ownsRow wr.heap.size 56 10 (.slice none 0 0) 0 []:=⟨rfl,.inl ⟨rfl,rfl⟩⟩;have gB:=World.grownBy_alloc w3 (.cells (stC 0 (.slice la 2 lc)).toArray 56 (0,0)) none;have hbs:wr.heap.size≤(w3.alloc (.cells (stC 0 (.slice la 2 lc)).toArray 56 (0,0))).heap.size:=by simp;omega
     obtain⟨i0,hi0,hz0,hz1,hz2⟩:=info_parts Rz;have hnc:=BZ w3 (stC 0 (.slice la 2 lc)) 56;have HX:=O (Z hi0 (Z hz0 (Z hz1 (Z hz2 (Z hnc hown4)))));clear hi0 hz0 hz1 hz2 hnc hown4;go_wp2_with (at_builtin;obtain⟨hi0,hz0,hz1,hz2,hnc,hown4⟩:=HX.out;refine D7 rfl _ _ 49 rfl wr.heap.size 56 i0 _ 10 192 underlying49 hi0 hz0 hz1 hz2 rfl (by decide) _ _ _ rfl hown4 ⟨w3.heap.size,0,none⟩ 1 1 (stC 0 (.slice la 2 lc)) rfl rfl hnc (by simp[Value.oneCell']) (by decide) (by omega) hbs ?_;intro v' w5 hown5 g5 hn5;clear hi0 hz0 hz1 hz2 hnc hown4);have g5':(w3.alloc (.cells (stC 0 (.slice la 2 lc)).toArray 56 (0,0))).grownBy w5 none:=g5;have gC:=Aa gB g5';go_roundg 0
     case measure=>omega
     case rel=>exact⟨⟨la,lc,hown5,(hrep.gb gC (by simp)).mono (by intro q hq _;have:w2.heap.size≤q:=hq;show wr.heap.size≤q;omega)⟩,hpar.gbN gC,Ag (Aa (AX gA) g3) gC⟩
end
section
variable {b:Nat}{tv wv:Value}{l:List Tok}{wl:List Bs}
abbrev mainL:Bs:=[77,65,73,78]
def SetProg(B:Nat)(w:World)(v:Value)(t x:Ex):Prop:=∃kP bv,v= .slice (some ⟨kP,0,none⟩) 1 1∧B≤kP∧Blk w kP [str mainL,.bool false,.slice none 0 0,bv] 51∧SetRow B w bv t x
theorem SetProg.gb{B:Nat}{w w1:World}{v:Value}{t x:Ex}{r:Option Nat}(h:SetProg B w v t x)(g:w.grownBy w1 r)(hr:∀q,r=some q→q<B):SetProg B w1 v t x:=by
 obtain⟨kP,bv,e,hB,hb,hs⟩:=h;exact⟨kP,bv,e,hB,hb.gb g (fun e=>by have:=hr _ e.symm;omega),hs.gb g hr⟩
theorem Mr{w:World}{i:Nat}{t x:Ex}(hp:Par w b tv wv l wl i)
 (hB:Calls Tryz.prog 140 #[.pointer (some ⟨b,0,none⟩)] w fun e w'=>∃v,e= .returned v∧SetRow w.heap.size w' v t x∧Par w' b tv wv l wl l.length∧w.grownBy w' (some b)):
 Calls Tryz.prog 91 #[.pointer (some ⟨b,0,none⟩)] w fun e w'=>∃v,e= .returned v∧SetProg w.heap.size w' v t x∧Par w' b tv wv l wl l.length∧w.grownBy w' (some b):=by
 have hb:=hp.lt;have HB:=O hB;obtain⟨ta,tc,rfl⟩:=hp.tv_eq;clear hB;go_enter func91,ntmps91;go_wp2_with fail;refine HB.out.mono ?_;rintro e w1 ⟨bv,rfl,hS,hpar,g1⟩;obtain⟨a0,n0,c0,rfl⟩:∃a n c,bv= .slice a n c:=by
  obtain⟨la,lc,⟨_,h| ⟨g,cap,cur,rfl,_⟩⟩,_⟩:=hS
  ·exact absurd h.2 (by decide)
  ·exact⟨_,_,_,rfl⟩
 have gN:=World.grownBy_alloc w1 (.cells #[str mainL,.bool false,.slice none 0 0,.slice a0 n0 c0] 51 (0,0)) none;have hS2:=hS.gb gN (by simp);have hBk:=Blk.new w1 [str mainL,.bool false,.slice none 0 0,.slice a0 n0 c0] 51;have hs1:=g1.size;have hpar2:=hpar.gbN gN;have d0:=hpar2.c0;have d1:=hpar2.c1;have HF:=O (Z (show SetProg w.heap.size _ (.slice (some ⟨w1.heap.size,0,none⟩) 1 1) t x from⟨_,_,rfl,hs1,hBk,hS2⟩) (Z hpar2 (Ag g1 gN)));clear hS hS2 hBk gN hpar hpar2 hp;have hd:decide ((l.length:Int)<(l.length:Int))=false:=by simp
 go_wp2_with fail;go_loopg [3] 1 (fun _ v wr=>v= .slice (some ⟨w1.heap.size,0,none⟩) 1 1∧wr=(w1.alloc (.cells #[str mainL,.bool false,.slice none 0 0,.slice a0 n0 c0] 51 (0,0))))
 case atStart=>exact⟨rfl,rfl⟩
 case round=>
  obtain⟨rfl,rfl⟩:=hrel;go_wp2_with fail;go_quiet(fail);go_wp2;go_ret;exact⟨_,rfl,HF.out.1.gb (Ay (Ac _ none) _) (by simp),HF.out.2.1.drewN _,Ay HF.out.2.2 _⟩
def Kv(k:Nat)(w:World):Prop:=∃a n c,Blk w k [.slice a n c] 46
def Kl(k:Nat)(B:Nat)(w:World)(tx:Ex×Ex):Prop:=∃v,Blk w k [v] 46∧SetProg B w v tx.1 tx.2
theorem Ll{w:World}{k:Nat}{t x:Ex}(hp:Par w b tv wv l wl 0)(hk:Blk w k [.slice none 0 0] 46)(hkb:k<b)(ht:TRow w tv l (· < k))(hs:SRow w wv wl (fun g=>k<g∧g<b))
 (hB:Calls Tryz.prog 91 #[.pointer (some ⟨b,0,none⟩)] w fun e w'=>∃v,e= .returned v∧SetProg w.heap.size w' v t x∧Par w' b tv wv l wl l.length∧w.grownBy w' (some b)):
 Calls Tryz.prog 90 #[.pointer (some ⟨b,0,none⟩),.pointer (some ⟨k,0,none⟩)] w (GX b k w (Kv k) (Kl k) (.ok (t,x) l.length)):=by
 have hb:=hp.lt;have HB:=O hB;clear hB;go_enter func90,ntmps90;go_wp2_with fail;refine HB.out.mono ?_;rintro e w1 ⟨v,rfl,⟨kP,bv,rfl,hP⟩,hpar,g1⟩;have hk1:=hk.gb g1 (by simp;omega);have k0:=hk1.cell 0;have kf:=hk1.frozen 0;simp only[List.getElem?_cons_zero]at k0;have hs1:=g1.size;have HF:=O (Z hP (Z hpar hk1));clear hP hpar hk1;go_wp2;have gS:w1.grownBy (w1.setCell ⟨k,0,none⟩ (.slice (some ⟨kP,0,none⟩) 1 1)) (some k):=Az (Ac _ _) _ _ (.inl rfl);have hk2:=HF.out.2.2.set 0 (.slice (some ⟨kP,0,none⟩) 1 1);refine⟨rfl,.tuple #[],by simp[results,results90,go_sem],(Grown2.of g1 (.inr (.inl rfl))).trans (Grown2.of gS (.inr (.inr rfl))),⟨_,_,_,hk2⟩,rfl,⟨_,hk2,?_⟩,?_⟩
 ·exact SetProg.gb (w:=w1) (r:=some k) ⟨kP,bv,rfl,HF.out.1⟩ gS (by intro q e;cases e;omega)
 ·exact Bz gS HF.out.2.1.c1 (by simp;omega)
end
theorem SetProg.mono{B B':Nat}{w:World}{v:Value}{t x:Ex}(h:SetProg B w v t x)(hB:B'≤B):SetProg B' w v t x:=by
 obtain⟨kP,bv,e,hk,hb,la,lc,⟨hn,ho⟩,hl⟩:=h;refine⟨kP,bv,e,by omega,hb,la,lc,⟨hn,?_⟩,hl.mono fun q hq _=>Nat.le_trans hB hq⟩;rcases ho with h| ⟨g,cap,cur,h1,h2,h3⟩
 ·exact .inl h
 ·exact .inr ⟨g,cap,cur,h1,by omega,h3⟩
theorem P6(k:Nat)(v:Value)(w:World):(callFunc 90 (#[v]++#[.pointer (some ⟨k,0,none⟩)])).run Tryz.prog w= .ok (.enter 90 (#[v]++#[.pointer (some ⟨k,0,none⟩)])) w:=by kernel_rfl
theorem OB{w:World}(hg:Glob w){tv:Value}{l:List Tok}{day:Bs→Int}(hl:Du day l)(ht:TRow w tv l (fun _=>True))(hlen:l.length≤4001)(n:Nat)
 (hk:(Ab l 0).kind=0) (hs:Ae (Ab l 1) [61]=true) {t x:Ex} {j k:Nat} (htg:DY l (AB l day n) 0= .ok t j) (hs2:Ae (Ab l j) [61]=true) (he:AB l day n (j+1)= .ok x k) (hend:CH l k= .ok () (k+1)) (hle:k+1=l.length):
 Calls Tryz.prog 49 #[tv] w fun e w'=>∃v,e= .returned (.tuple #[v,.int .i64 (-1)])∧SetProg w.heap.size w' v t x∧w.grownBy w' none:=by
 have hmf:∀(fn:Fn)(first cap:Array Value)(w:World),(Instr.makeFunc fn first cap).run Tryz.prog w= .ok (.func fn first cap) w:=fun _ _ _ _=>rfl;have hK:=Blk.new w [.slice none 0 0] 46;have g0:=World.grownBy_alloc w (.cells [.slice none 0 0].toArray 46 (0,0)) none;have ht0:=(ht.mono (ok':=fun g=>g<w.heap.size) (fun k _ h=>h)).gb g0 (by simp);have hg0:=hg.gb g0 (by simp);have hK0:=hK.lt;have hw0:0<w.heap.size:=by
  unfold Glob Lib.TabIs World.var? at hg;simp only[EZ,Option.bind_some]at hg;rcases Nat.lt_or_ge 0 w.heap.size with h' |h'
  ·exact h'
  ·rw[Array.getElem?_eq_none h']at hg;simp at hg
 have hBL:∀w1 b wv,Glob w1→0<b→Par w1 b tv wv l wordsL 0→Calls Tryz.prog 140 #[.pointer (some ⟨b,0,none⟩)] w1 fun e w'=>∃v,e= .returned v∧SetRow w1.heap.size w' v t x∧Par w' b tv wv l wordsL l.length∧w1.grownBy w' (some b):=
  fun w1 b wv hg1 hb1 hp1=>NM (Jp hl n) hl.short hg1 hb1 hp1 hk hs htg hs2 he hend hle (by omega)
 have H:=O hBL;clear hBL hk hs htg hs2 he hend hg hl;go_enter func49,ntmps49;go_wp2_with fail;refine(Ka (k:=w.heap.size) hg0 (ht0.mono (fun _ _ _=>trivial)) hlen 90 #[.pointer (some ⟨w.heap.size,0,none⟩)] (P6 _) (.ok (t,x) l.length) hK0 (Kv w.heap.size) ?_ (Kl w.heap.size) ?_ ?_).mono ?_
 ·rintro w2 w3 r ⟨a,n,c,h⟩ g hr;exact⟨a,n,c,h.gb g (by simp at hr ⊢;omega)⟩
 ·rintro B w2 w3 a r ⟨v,hb,hv⟩ g hr hB;exact⟨v,hb.gb g (by simp at hr ⊢;omega),hv.gb g (by intro q e;cases e;exact hB)⟩
 ·intro w1 b wv g1 hb1 hp hs;simp at hb1;exact Ll hp (hK.gb g1 (by simp)) (by omega) ((ht0.gb g1 (by simp)).mono (fun q hq _=>hq)) (hs.mono (fun q hq _=>⟨by have:=hq.1;simp at this;omega,hq.2⟩)) (Mr hp (H.out _ _ _ (hg0.gb g1 (by simp)) (by omega) hp))
 rintro e w1 ⟨rfl,g1,_,hV⟩;obtain⟨B,hB,v,hb,hv⟩:=hV _ _ rfl;obtain⟨kP,bv,rfl,hP⟩:=hv;have k0:=hb.cell 0;simp only[List.getElem?_cons_zero]at k0;have hla:Ce l (.ok (t,x) l.length:Res (Ex×Ex))= -1:=by simp[Ce]
 have HF:=O (Z hP hB);rw[hla];clear hP hV;go_wp2;exact bodyPost_ret (v:= .tuple #[.slice (some ⟨kP,0,none⟩) 1 1,.int .i64 (-1)]) (by simp[results,results49,go_sem]) rfl ⟨_,rfl,SetProg.mono ⟨kP,bv,rfl,HF.out.1⟩ (by have:=HF.out.2;simp at this;omega),A9 g0 g1 (.inr (Nat.le_refl _))⟩
theorem QK(n:Nat)(h0:0<n)(hn:n≤1000000)(w:World):Calls Tryz.prog 224 #[.slice none 0 0,.int .i64 n] w fun e w'=>∃v,e= .returned v∧w'.ownsRow w.heap.size 27 7 v 0 []∧w.grownBy w' none:=by
 obtain⟨i0,hi,hz0,hz1,hz2⟩:=info_parts CM;refine(Any8.slices_Grow_grow growExpr i0 _ hi hz0 (by rw[hz1];decide) none 0 0 n [] w (Nat.le_refl _) (by omega) (by rw[hz2];omega) (by omega) (by simp) (fun _=>rfl) (by simp)).mono ?_;rintro e w' ⟨rfl,rfl⟩;refine⟨_,rfl,?_,?_⟩
 ·refine⟨rfl,.inr ⟨w.heap.size,_,_,rfl,Nat.le_refl _,heap_alloc_new _ _,Nat.zero_le _,?_,?_,?_⟩⟩
  ·exact grownCap_le_maxLen _ _ _ _ (by unfold maxLen;omega)
  ·have hge:=grownCap_ge w (0+n) 0 (Tryz.growExpr_ren.t 25);generalize grownCap w (0+n) 0 (Tryz.growExpr_ren.t 25)=c at*;rw[Array.size_append,Array.size_append,size_zeroCells,size_zeroCells];have e7:(Value.agg #[Value.int .i64 0,str [],Value.int .i64 0,Value.int .i64 0,str [],Value.slice none 0 0,Value.slice none 0 0]).cells.size=7:=rfl;rw[e7];simp;omega
  ·simp
 ·exact Ad (Am (Ac _ _)) _
theorem RepF.one{ok:Nat→Prop}{w:World}:∀{f:Fo}{cs:List Value},RepF ok w f cs→cs.length=f.len*7∧∀u∈cs,u.oneCell'=true:=by
 intro f;induction f with
 |nil=>rintro cs rfl;simp[Fo.len]
 | cons hd kids next ih1 ih2=>
   rintro cs ⟨pv,lv,kcs,rest,rfl,h1,h2,h3,h4⟩;obtain⟨pa,pc,rfl,_⟩:=h1;obtain⟨la,lc,rfl,_⟩:=h2;have:=ih2 h4;refine⟨by simp[hdC,Fo.len,this.1];omega,?_⟩;intro u hu;rcases List.mem_append.1 hu with h|h
   ·simp[hdC]at h;rcases h with rfl|rfl|rfl|rfl|rfl|rfl|rfl<;>rfl
   ·exact this.2 u h
theorem RepL.open{ok:Nat→Prop}{w:World}{la:Option Addr}{n lc:Nat}{f:Fo}(h:RepL ok w (.slice la n lc) f)(hf:0<f.len):
 ∃g o cs,la=some ⟨g,o,none⟩∧RepF ok w f cs∧cs.length=f.len*7∧(∀u∈cs,u.oneCell'=true)∧∀j u,cs[j]? =some u→w.cell? ⟨g,o+j,none⟩=some u:=by
 obtain⟨cs,⟨la',lc',e,_,_,hl,hc⟩,hF⟩:=h;cases e;have h1:=hF.one;cases cs with
 |nil=>simp at h1;omega
 | cons c0 cs'=>
   obtain⟨g,o,e,_,_⟩:=hc 0 c0 rfl;subst e;refine⟨g,o,_,rfl,hF,h1.1,h1.2,fun j u hj=>?_⟩;obtain⟨g',o',e',_,hcell⟩:=hc j u hj;cases e';exact hcell
theorem Nq{w:World}{R lc:Nat}{la:Option Addr}{ok:Nat→Prop}{f:Fo}(h0:w.cell? ⟨R,0,none⟩=some (.slice la 2 lc))(h1:w.cell? ⟨R,1,none⟩=some (.slice none 0 0))(h2:w.cell? ⟨R,2,none⟩=some (.slice none 0 0))(h3:w.cell? ⟨R,3,none⟩=some (.slice none 0 0))
 (hf:f.len=2) (hrep:RepL ok w (.slice la 2 lc) f):
 Calls Tryz.prog 187 #[.slice (some ⟨R,0,none⟩) 4 4] w fun e w'=>∃v cs,e= .returned v∧w'.ownsRow w.heap.size 27 7 v 2 cs∧RepF ok w' f cs∧w.grownBy w' none:=by
 obtain⟨G,o,cs,rfl,hF,hlen,hone,hat⟩:=hrep.open (by omega);rw[hf]at hlen;have HC:=O (Z h0 (Z h1 (Z h2 h3)));have HR:=O (Z hF (Z hlen (Z hone hat)));clear hf hrep hF hlen hone hat;go_enter func187,ntmps187;go_wp2_with fail;go_loopg [3,11] 5 (fun g v3 v11 wr=>∃k:Nat,k+g=5∧k≤4∧v11= .int .i64 k∧v3= .int .i64 (if k=0 then 0 else 2)∧wr=w)
 case atStart=>exact⟨0,rfl,by omega,rfl,rfl,rfl⟩
 case round=>
  obtain⟨k,hg,hk,rfl,rfl,hw⟩:=hrel;have hw':=hw.symm;clear hw;subst hw';have hcases:k=0∨k=1∨k=2∨k=3∨k=4:=by omega
  rcases hcases with rfl|rfl|rfl|rfl|rfl
  ·go_wp2_with fail;go_roundg 4
   case measure=>omega
   case rel=>exact⟨1,by omega,by omega,rfl,rfl,rfl⟩
  ·go_wp2_with fail;go_roundg 3
   case measure=>omega
   case rel=>exact⟨2,by omega,by omega,rfl,rfl,rfl⟩
  ·go_wp2_with fail;go_roundg 2
   case measure=>omega
   case rel=>exact⟨3,by omega,by omega,rfl,rfl,rfl⟩
  ·go_wp2_with fail;go_roundg 1
   case measure=>omega
   case rel=>exact⟨4,by omega,by omega,rfl,rfl,rfl⟩
  ·go_wp2_with fail;refine(QK 2 (by decide) (by decide) _).mono ?_;rintro e w1 ⟨v,rfl,hO,g1⟩;have d0:=Af g1 h0;have d1:=Af g1 h1;have d2:=Af g1 h2;have d3:=Af g1 h3;have hs1:=g1.size;have HO:=O (Z hO g1);clear hO g1 h0 h1 h2 h3;go_wp2_with fail;go_loopg [6,27] 5 (fun g v6 v27 w2=>∃k:Nat,k+g=5∧k≤4∧v27= .int .i64 k∧((k=0∧v6=v∧w2=w1)∨(k≠0∧∃cs,w2.ownsRow w.heap.size 27 7 v6 2 cs∧RepF ok w2 f cs∧w.grownBy w2 none)))
   case atStart=>exact⟨0,rfl,by omega,rfl,.inl ⟨rfl,rfl,rfl⟩⟩
   case round=>
    obtain⟨k,hg2,hk2,rfl,hc⟩:=hrel;have hcases:k=0∨k=1∨k=2∨k=3∨k=4:=by omega
    rcases hcases with rfl|rfl|rfl|rfl|rfl
    ·rcases hc with⟨_,rfl,rfl⟩| ⟨h,_⟩
     ·obtain⟨i0,hi0,hz0,hz1,hz2⟩:=info_parts CM;have HI:=O (Z hi0 (Z hz0 (Z hz1 hz2)));clear hi0 hz0 hz1 hz2;have hat1:∀j u,cs[j]? =some u→wr.cell? ((⟨G,o,none⟩:Addr).add j)=some u:=by
       intro j u hj;have e:(⟨G,o,none⟩:Addr).add j=⟨G,o+j,none⟩:=by unfold Addr.add;split<;>simp_all
       rw[e];exact Af HO.out.2 (HR.out.2.2.2 j u hj)
      have HA:=O hat1;clear hat1;go_wp2_with (at_builtin;obtain⟨hi0,hz0,hz1,hz2⟩:=HI.out;have hown:=HO.out.1;refine D7 rfl _ _ 25 rfl w.heap.size 27 i0 _ 7 104 underlying25 hi0 hz0 hz1 hz2 rfl (by decide) _ _ _ rfl hown ⟨G,o,none⟩ 2 lc cs rfl HR.out.2.1 HA.out HR.out.2.2.1 (by decide) (by decide) hs1 ?_;intro v' w5 hown5 g5 hn5;clear hi0 hz0 hz1 hz2 hown);have gW:w.grownBy w5 none:=by
       have hlt:=HO.out.1.lt;cases hv:u6.ownBlock with
       | none=>
         have g5':World.grownBy wr w5 u6.ownBlock:=g5;rw[hv]at g5';exact Aa HO.out.2 g5'
       | some k=>
         have g5':World.grownBy wr w5 u6.ownBlock:=g5;rw[hv]at g5';exact A9 HO.out.2 g5' (.inr (hlt k hv).1)
      have HO5:=O (Z hown5 (Z (RepF.gb gW (by simp) HR.out.1) gW));clear hown5 gW;go_roundg 4
      case measure=>omega
      case rel=>exact⟨1,by omega,by omega,rfl,.inr ⟨by decide,cs,HO5.out.1,HO5.out.2.1,HO5.out.2.2⟩⟩
     ·exact absurd rfl h
    ·rcases hc with⟨h,_⟩| ⟨_,cs2,hO2,hF2,g2⟩
     ·exact absurd h (by decide)
     have HO2:=O (Z hO2 (Z hF2 g2));have e0:=Af g2 HC.out.1;have e1:=Af g2 HC.out.2.1;have e2:=Af g2 HC.out.2.2.1;have e3:=Af g2 HC.out.2.2.2;clear hO2 hF2 g2;obtain⟨i0,hi0,hz0,hz1,hz2⟩:=info_parts CM;have HI:=O hi0;clear hi0 hz0 hz1 hz2;go_wp2_with (at_builtin;have hi0:=HI.out;have hown:=HO2.out.1;refine wpList_append_own_none rfl _ _ 25 rfl w.heap.size 27 i0 7 underlying25 hi0 _ _ _ rfl hown rfl ?_;clear hi0 hown);go_roundg 3
     case measure=>omega
     case rel=>exact⟨2,by omega,by omega,rfl,.inr ⟨by decide,cs2,HO2.out.1,HO2.out.2.1,HO2.out.2.2⟩⟩
    ·rcases hc with⟨h,_⟩| ⟨_,cs2,hO2,hF2,g2⟩
     ·exact absurd h (by decide)
     have HO2:=O (Z hO2 (Z hF2 g2));have e0:=Af g2 HC.out.1;have e1:=Af g2 HC.out.2.1;have e2:=Af g2 HC.out.2.2.1;have e3:=Af g2 HC.out.2.2.2;clear hO2 hF2 g2;obtain⟨i0,hi0,hz0,hz1,hz2⟩:=info_parts CM;have HI:=O hi0;clear hi0 hz0 hz1 hz2;go_wp2_with (at_builtin;have hi0:=HI.out;have hown:=HO2.out.1;refine wpList_append_own_none rfl _ _ 25 rfl w.heap.size 27 i0 7 underlying25 hi0 _ _ _ rfl hown rfl ?_;clear hi0 hown);go_roundg 2
     case measure=>omega
     case rel=>exact⟨3,by omega,by omega,rfl,.inr ⟨by decide,cs2,HO2.out.1,HO2.out.2.1,HO2.out.2.2⟩⟩
    ·rcases hc with⟨h,_⟩| ⟨_,cs2,hO2,hF2,g2⟩
     ·exact absurd h (by decide)
     have HO2:=O (Z hO2 (Z hF2 g2));have e0:=Af g2 HC.out.1;have e1:=Af g2 HC.out.2.1;have e2:=Af g2 HC.out.2.2.1;have e3:=Af g2 HC.out.2.2.2;clear hO2 hF2 g2;obtain⟨i0,hi0,hz0,hz1,hz2⟩:=info_parts CM;have HI:=O hi0;clear hi0 hz0 hz1 hz2;go_wp2_with (at_builtin;have hi0:=HI.out;have hown:=HO2.out.1;refine wpList_append_own_none rfl _ _ 25 rfl w.heap.size 27 i0 7 underlying25 hi0 _ _ _ rfl hown rfl ?_;clear hi0 hown);go_roundg 1
     case measure=>omega
     case rel=>exact⟨4,by omega,by omega,rfl,.inr ⟨by decide,cs2,HO2.out.1,HO2.out.2.1,HO2.out.2.2⟩⟩
    ·rcases hc with⟨h,_⟩| ⟨_,cs2,hO2,hF2,g2⟩
     ·exact absurd h (by decide)
     have HO2:=O (Z hO2 (Z hF2 g2));clear hO2 hF2 g2;go_wp2;go_ret;exact⟨_,cs2,rfl,HO2.out.1,HO2.out.2.1,HO2.out.2.2⟩
end Go.Proofs.YtgjdhajcnechdaaGreatDoor
