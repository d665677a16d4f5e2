/-
  QgQ QgR QgS QgT PtA PgR SizeG
-/
import Derived.Test.YtbjfaimkiclhgaaGreatDoorCt20
import Derived.Deep.Cut
import Derived.Test.YtbjfaimkiclhgaaGreatDoorCt14
import Derived.Test.YtbjfaimkiclhgaaGreatDoorCt11
import Derived.Test.YtbjfaimkiclhgaaGreatDoorCt19
import Derived.Test.YtbjfaimkiclhgaaGreatDoorCt04
set_option linter.all false
set_option maxRecDepth 100000
set_option maxHeartbeats 8000000
namespace Go.Proofs.YtbjfaimkiclhgaaGreatDoor
open Go.Proofs.Tryz
open Go.RowKit
section
variable {b:Nat}{tv wo:Value}{l:List Tok}{day:Bs->Int}{n:Nat}{w:World}{i:Nat}
def S5{block:Rd l Bl}(hn:Aj l)(hE:CE 208 b tv wo l wordsL (Ai l day n))(hok:∀i,As (Ab l i))(hl:Ay l)(hk:Bv l wordsL i=[])(h63:Ah (Ab l i) [63]=false) (hc:((Ab l i).kind==0&&Ah (Ab l (i+1)) [40])=false) (hk0:((Ab l i).kind==0)=false) (h:Par w b tv wo l wordsL i) (ho:(BL hn wordsL day n block).f i ≠ .out):
 Calls Tryz.prog 275 #[.pointer (some ⟨b,0,none⟩)] w (Post b tv wo l wordsL w (VSt w) ((BL hn wordsL day n block).f i)):=by
 have HKk:=S (X hk (X h63 hc));clear hk h63 hc;have hb:=h.lt;have HO:=S ho;generalize hR:(BL hn wordsL day n block).f i=R at*;have HTk:=S hok;have HSh:=S hl;have HE:=S hE;have HZ:=S (X (Blk.new w (stC 0 (.slice none 0 0)) 134) (show w.grownBy (w.alloc (.cells (stC 0 (.slice none 0 0)).toArray 134 (0,0))) (some b)from Ac (Aa _ _) _));have hp:=h.alloc (.cells (stC 0 (.slice none 0 0)).toArray 134 (0,0));clear hok hl hE ho h;go_enter func275,ntmps275;go_wp2_with fail;refine mR (Bn hp) λw1 g=>?_;have gA:=Ac g (.cells #[.int .i64 (Ab l i).kind,.int .i64 (Ab l i).pos,str (Ab l i).text] 250 (0,0));have hT:=Blk.new w1 [.int .i64 (Ab l i).kind,.int .i64 (Ab l i).pos,str (Ab l i).text] 250;have hbs:=g.size;simp at hbs;replace HZ:=S (X (HZ.1.1.gb gA (by simp)) (Ag HZ.1.2 gA));replace hp:=hp.gbN gA;clear g gA;go_wp2_with fail;refine mR (FN hp HTk.1) λw2 g=>?_;replace HZ:=S (X (HZ.1.1.gb g (by simp)) (Ag HZ.1.2 g));replace hp:=hp.gbN g;replace hT:=hT.gb g (by simp);clear g;rw[Hu,if_pos HKk.1.1]at hR;unfold Ge at hR;rw[if_neg (by rw[HKk.1.2.1];simp),if_neg (by rw[HKk.1.2.2];simp)]at hR;have HQ:=S hR;rw[HKk.1.1];clear hR;go_wp2_with fail;refine mR (Bf hp [63] HKk.1.2.1) λw3 g=>?_;replace HZ:=S (X (HZ.1.1.gb g (by simp)) (Ag HZ.1.2 g));replace hp:=hp.gbN g;replace hT:=hT.gb g (by simp);have t0:=hT.cell' 0 rfl;have hTl:=hT.lt;clear g hT;have hlz:=HZ.1.1.lt;have hs5:=HZ.1.2.size;go_wp2_with fail
 refine(M1 HE.1 HSh.1 _ _ hp (λe=>HO.1 (by rw[<-HQ.1,e];rfl))).mono ?_;intro e w6 hq;obtain⟨g,⟨q,hr,rfl⟩| ⟨t,i6,v,hr,rfl,⟨pa,pc,la,lc,rfl,rp,rl⟩,hp9⟩⟩:=hq.split
 ·exact PBd HZ.1.2 g HQ hr
 replace HZ:=S (X (HZ.1.1.gb g (by simp;omega)) (Z HZ.1.2 g));replace hp:=hp9;clear hp9;replace HQ:=HQo HQ hr;clear hr;have hs6:=g.size;have hL:=Blk.new w6 (hdC t.h (.slice pa t.h.p.length pc) (.slice la t.kids.len lc)) 163;have hsince:∀q,Al (w3).heap.size q->q<w6.heap.size->w.heap.size<q:=λq hq _=>by have:(w3).heap.size<=q:=hq;omega
 have gN:=gZ w6 (.cells (hdC t.h (.slice pa t.h.p.length pc) (.slice la t.kids.len lc)).toArray 163 (0,0)) none;have HX:=S (X ((rp.mono (ok':=λq=>w.heap.size<q) hsince).gb gN (by simp)) ((rl.mono (ok':=λq=>w.heap.size<q) hsince).gb gN (by simp)));replace HZ:=S (X (HZ.1.1.gb gN (by simp)) (Ag HZ.1.2 gN));have hp7:=hp.gbN gN;replace hp:=hp7;have hb6:=hp.lt;clear g rp rl gN hsince hp7;have hlz:=HZ.1.1.lt;have hlL:=hL.lt;have hbLT:b<w6.heap.size/\w.heap.size<w6.heap.size:=by simp at hlz hlL;omega
 have HS:=S (MT hp [61]);clear hp;go_wp2_with fail;refine HS.1.mono ?_;rintro e w7 ⟨rfl,hp9,g⟩;replace hL:=hL.gb g (by simp;omega);replace HX:=S (X (HX.1.1.gb g (λq hq _ e=>by cases e;omega)) (HX.1.2.gb g (λq hq _ e=>by cases e;omega)));replace HZ:=S (X (HZ.1.1.gb g (by simp;omega)) (Z HZ.1.2 g));have hp:=hp9;clear g hp9 HS;generalize hsg:Ah (Ab l i6) [61]=ok at*;clear hsg;go_upto_if 52 with fail
 go_cut []from 9 (λwx=>∃j8,Par wx b tv wo l wordsL j8/\(Blk wx w.heap.size (stC 0 (.slice none 0 0)) 134/\w.grownBy wx (some b))/\Blk wx w6.heap.size (hdC t.h (.slice pa t.h.p.length pc) (.slice la t.kids.len lc)) 163/\(Cells wx (.slice pa t.h.p.length pc) 1 t.h.p.length (t.h.p.map str) (λq=>w.heap.size<q)/\RepL (λq=>w.heap.size<q) wx (.slice la t.kids.len lc) t.kids)/\((Ai l day n j8).bind λx j=>(B4 l j).bind λ_ j=>Res.ok ({sd0 0 []with x:= .two t x},Bl.nil) j)=R)
 case first=>
  cases ok with
  | true=>
    have hp1:Par w7 b tv wo l wordsL (i6+1):=hp;have e1:((Ai l day n (i6+1)).bind λx j=>(B4 l j).bind λ_ j=>Res.ok ({sd0 0 []with x:= .two t x},Bl.nil) j)=R:=HQ.1;have HQ1:=S e1;clear e1;go_wp2;go_meet
    case rel=>exact⟨_,hp1,HZ.1,hL,HX.1,HQ1.1⟩
  | false=>
    have hp1:Par w7 b tv wo l wordsL i6:=hp;replace hp:=hp1;clear hp1;have e1:Res.bind (AW l [58,61] i6) _=R:=HQ.1;replace HQ:=S e1;clear e1;have hlz:=HZ.1.1.lt;have hl7:=hL.lt;go_wp2_with fail;refine(CL hp [58,61]).mono ?_;intro e w8 hq;obtain⟨g,⟨q,hr,rfl⟩| ⟨u,i8,v,hr,rfl,rfl,hp9⟩⟩:=hq.split
    ·exact PBd HZ.1.2 g HQ hr
    replace HZ:=S (X (HZ.1.1.gb g (by simp;omega)) (Z HZ.1.2 g));replace hp:=hp9;clear hp9;replace HQ:=HQo HQ hr;clear hr;have hL8:=hL.gb g (by simp;omega);have HX8:=S (X (HX.1.1.gb g (λq hq _ e=>by cases e;omega)) (HX.1.2.gb g (λq hq _ e=>by cases e;omega)));clear g hL HX;go_wp2;go_meet
    case rel=>exact⟨_,hp,HZ.1,hL8,HX8.1,HQ.1⟩
 case rest=>
 obtain⟨j8,hp1,hz1,hL8,hX1,hq1⟩:=hcut;replace HZ:=S hz1;have HX8:=S hX1;replace HQ:=S hq1;replace hp:=hp1;clear hp1 hz1 hX1 hq1 hL HX;generalize hWW:wc=w8 at*;clear hWW;have hok:∀q,w.heap.size<q->some q≠some b:=λq hq e=>by cases e;omega
 have hzlt2:w.heap.size<w8.heap.size:=by have:=HZ.1.1.lt;omega
 have hLb:=hL8.lt;obtain⟨cl_0,cl_1,cl_2,cl_3,cl_4,cl_5,cl_6,cl_f⟩:=(hL8).c7;cases hr6:Ai l day n j8 with
 |out=>exact absurd (HQu HQ hr6) HO.1
 | bad q6=>
   go_wp2_with fail;go_region_with(first| (go_at_call 208;refine(HE.1 _ _ (hp.gbN (Ae (Aa w8 none))) (by rw[hr6];simp)).mono ?_;rintro e w9 h9;rw[hr6]at h9;obtain⟨g9,rfl⟩:=h9;refine Bx (P:=Tryz.prog) ⟨rfl,Post.bad (Z (Ae HZ.1.2) g9) (HQb HQ hr6)⟩ ⟨#[],[]⟩ w9 ?_)| (go_at_call 208;refine(HE.1 _ _ ((hp.alloc (.cells (stC 0 (.slice none 0 0)).toArray 134 (0,0))).gbN (Ae (Aa _ none))) (by rw[hr6];simp)).mono ?_;rintro e w9 h9;rw[hr6]at h9;obtain⟨g9,rfl⟩:=h9;refine Bx (P:=Tryz.prog) ⟨rfl,Post.bad (Z (Ae (Ac HZ.1.2 (.cells (stC 0 (.slice none 0 0)).toArray 134 (0,0)))) g9) (HQb HQ hr6)⟩ ⟨#[],[]⟩ w9 ?_));all_goals trivial
 |ok x i9=>
 replace HQ:=HQo HQ hr6;go_upto_region 18 with fail;go_cut [8]from 9 (λv8 wx=>∃kS kR,v8= .pointer (some ⟨kS,0,none⟩)/\Ie b tv wo l wordsL w t x i9 kS kR wx)
 case first=>
  go_region_with(first| (go_at_call 208;refine(HE.1 _ _ (hp.gbN (Ae (Aa w8 none))) (by rw[hr6];simp)).mono ?_;rintro e w9 ⟨g9,h9⟩;rw[hr6]at h9;obtain⟨v,rfl,⟨pa2,pc2,la2,lc2,rfl,rp2,rl2⟩,hp9⟩:=h9;have gD:=Z (Ae (Aa w8 (some b))) g9;have hL9:=hL8.gb gD (by simp;omega);have hL9t:=hL9.lt;have dl_:=hL9.c7;have HY:=S (X rp2 rl2);clear rp2 rl2)| (go_at_call 208;refine(HE.1 _ _ ((hp.alloc (.cells (stC 0 (.slice none 0 0)).toArray 134 (0,0))).gbN (Ae (Aa _ none))) (by rw[hr6];simp)).mono ?_;rintro e w9 ⟨g9,h9⟩;rw[hr6]at h9;obtain⟨v,rfl,⟨pa2,pc2,la2,lc2,rfl,rp2,rl2⟩,hp9⟩:=h9;have gD:=Z (Ae (Ac (Aa w8 (some b)) (.cells (stC 0 (.slice none 0 0)).toArray 134 (0,0)))) g9;have hL9:=hL8.gb gD (by simp;omega);have hL9t:=hL9.lt;have dl_:=hL9.c7;have HY:=S (X rp2 rl2);clear rp2 rl2;have hS9:=((Blk.new w8 (stC 0 (.slice none 0 0)) 134).drew).gb g9 (by have:=hp.lt;simp;omega);have sl_:=hS9.c10;have hS9t:=hS9.lt));all_goals
   have hzD:=HZ.1.1.gb gD (by simp;omega);have grD:=Z HZ.1.2 gD;have hs89:=gD.size;first
   | have hP:SetPre b tv wo l wordsL w t x pa la pa2 la2 pc lc pc2 lc2 i9 (λq=>w.heap.size<q/\q≠w8.heap.size) w9:=⟨hp9,(HX8.1.1.mono (ok':=λq=>w.heap.size<q/\q≠w8.heap.size) (λq hq h=>⟨hq,by omega⟩)).gb gD (by intro q hq _ e;cases e;have:=hq.1;omega),(HX8.1.2.mono (ok':=λq=>w.heap.size<q/\q≠w8.heap.size) (λq hq h=>⟨hq,by omega⟩)).gb gD (by intro q hq _ e;cases e;have:=hq.1;omega),HY.1.1.mono (λq hq _=>by simp at hq;exact⟨by omega,by omega⟩),HY.1.2.mono (λq hq _=>by simp at hq;exact⟨by omega,by omega⟩),grD,hzD,hb,λq hq=>hq.1⟩
     have hF:=hP.C hS9 hzlt2 (λq hq=>hq.2);go_wp2_with fail;go_meet
     case rel=>exact⟨_,_,rfl,hF⟩
   | have hP:SetPre b tv wo l wordsL w t x pa la pa2 la2 pc lc pc2 lc2 i9 (λq=>w.heap.size<q) w9:=⟨hp9,HX8.1.1.gb gD (λq hq _=>hok q hq),HX8.1.2.gb gD (λq hq _=>hok q hq),HY.1.1.mono (λq hq _=>by simp at hq;omega),HY.1.2.mono (λq hq _=>by simp at hq;omega),grD,hzD,hb,λq hq=>hq⟩
     go_wp2_with fail;go_meet
     case rel=>
      first
      |exact⟨_,_,rfl,hP.A⟩
      |exact⟨_,_,rfl,hP.B⟩
 case rest=>
 obtain⟨kS,kR,rfl,hW⟩:=hcut;generalize hWW:wc=W at*;clear hWW cl_0 cl_1 cl_2 cl_3 cl_4 cl_5 cl_6 cl_f hL8 HX8 HZ hp hr6;have hne:=hW.ne;go_wp2_with fail;refine(Ba hW.par).mono ?_;intro e w10 hq;obtain⟨g,⟨q,hr,rfl⟩| ⟨u,i10,v,hr,rfl,rfl,hp10⟩⟩:=hq.split
 ·exact PBd hW.gr g HQ hr
 replace HQ:=HQo HQ hr;clear hr;have hS:=hW.st.gb g (by simp;omega);have hZ:=hW.zero.gb g (by simp;omega);have HF:=S (X hp10 (X (Z hW.gr g) (hW.row.gb g (λq hq _=>hok q hq))));clear hp10 hW g;have sl_:=hS.c10;have zl_:=hZ.c10;have hSl:=hS.lt;have HZ9:=S hZ;clear hZ hS;go_wp2;refine bZ (A7 rfl _ (HZ9.1.set10 _ _ _ _ _ _ _ _ _ _) rfl rfl) rfl (Post.ok (Ap HF.1.2.1 (DR _ _ _ _ _ _ _ _ _ _ _ _) (.inr (nR _))) HQ.1.symm (StV.x (op:=0) (s:=[]) (f:= .two t x) ((HF.1.2.2.gb (DR _ _ _ _ _ _ _ _ _ _ _ _) (λq hq _ e=>by cases e;omega)).mono (λq hq _=>Nat.le_of_lt hq))) (HF.1.1.gb (DR _ _ _ _ _ _ _ _ _ _ _ _) (by intro q e;cases e;exact hb)))
end
section
variable {b:Nat}{tv wo:Value}{l:List Tok}{day:Bs->Int}{n:Nat}{w:World}{i:Nat}
def Vn{block:Rd l Bl}(hn:Aj l)(hnn:n<=90000)(hB:CQB b tv wo l block.f)(hE:CE 208 b tv wo l wordsL (Ai l day n))(hok:∀i,As (Ab l i))(hl:Ay l)(hgb:4<b):StmtQ b tv wo l hn day n block:=by
 intro w i hg h hi ho;by_cases hk:Bv l wordsL i=[]
 ·cases h63:Ah (Ab l i) [63]with
  |true=>exact R0 hn hE hok hl hk h63 h ho
  | false=>
    cases hk0:(Ab l i).kind==0 with
    |false=>exact S5 hn hE hok hl hk h63 (by rw[hk0];rfl) hk0 h ho
    | true=>
      cases h40:Ah (Ab l (i+1)) [40]with
      |true=>exact S3 hn hE hok hl hk h63 (by simpa using hk0) h40 h ho
      |false=>exact S4 hn hE hok hl hk h63 (by rw[hk0,h40];rfl) hk0 h ho
 ·exact Rz hn hE hok hl hgb (S2 hn hnn hB hE hok hl hgb _) hk hg h hi ho
def Y7(stp:Rd l StB)(b:Nat)(tv wo:Value)(w:World)(n:Nat)(R:Res Bl)(g:Nat)(v:Value)(wr:World):Prop:=
 ∃a j,OwnB wr w.heap.size v a/\Par wr b tv wo l wordsL j/\w.grownBy wr (some b)/\a.len+g<=n/\(D8 wordsL stp g a).f j=R
def Ss{stp:Rd l StB}{n:Nat}(hnn:n<=100000)(hok:∀i,As (Ab l i))(hgb:4<b)
 (hS:∀w i,Glob w->Par w b tv wo l wordsL i->i<l.length->stp.f i ≠ .out->Calls Tryz.prog 275 #[.pointer (some ⟨b,0,none⟩)] w (Post b tv wo l wordsL w (VSt w) (stp.f i)))
 (hg:Glob w) (h:Par w b tv wo l wordsL i) (ho:(D8 wordsL stp n .nil).f i ≠ .out):
 Calls Tryz.prog 244 #[.pointer (some ⟨b,0,none⟩)] w (Post b tv wo l wordsL w (VBl w) ((D8 wordsL stp n .nil).f i)):=by
 have hb:=h.lt;have HO:=S ho;generalize hR:(D8 wordsL stp n .nil).f i=R at*;have HQ0:=S (X h hR);have HTk:=S hok;have HSt:=S hS;have HGl:=S (X hg hgb);clear hok hS hg h ho hR;go_enter func244,ntmps244;go_wp2_with fail;go_loopg [3] n (λg v3 wr=>Y7 stp b tv wo w n R g v3 wr)
 case atStart=>exact⟨.nil,i,⟨[],World.ownsRow_nil _ _ _ _,rfl⟩,HQ0.1.1,Aa _ _,by simp[Bl.len],HQ0.1.2⟩
 case round=>
  obtain⟨a,j,hown,hp1,hgr,hlen,hq⟩:=hrel;clear HQ0;have hp:=hp1;obtain⟨ta,tc,rfl⟩:=hp.tv_eq;have c0:=hp.c0;have c1:=hp.c1;have hbr:=hp.lt;have hfew:=hp.few;have HW:=S (X hown hgr);have HQ:=S hq;clear hown hgr hp1 hq;cases gk with
  |zero=>exact absurd HQ.1.symm HO.1
  |succ k=>
  have e0:=HQ.1;unfold D8 at e0;rw[Rd.condN_f]at e0;replace HQ:=S e0;clear e0;by_cases hi:j<l.length
  ·have hd:decide ((j:Int)<(l.length:Int))=true:=by simp;omega
   have hD:=Ae (Aa wr none);have HG9:=S (fun(W:World)(g:wr.grownBy W none)=>BU HGl.1.1 HGl.1.2 (Ag HW.1.2 g));have HPp:=S hp;clear hp;cases hK:endWords.contains (Bv l wordsL j)with
   | true=>
     have HKW:=S ((Lu (Bv l wordsL j)).trans hK);replace HQ:=HQr HQ (by rw[if_neg (nF (show Fi l wordsL j=false by unfold Fi;rw[hK];simp))]);rw[Rd.pure_f]at HQ;clear hK;go_wp2_with fail;go_region_held3 (λW=>W.cell? ⟨b,0,none⟩=some (.slice ta l.length tc)/\W.cell? ⟨b,1,none⟩=some (.int .i64 j)/\wr.grownBy W none) (first|exact⟨c0,c1,hD⟩|exact⟨Ad gA c0,Ad gA c1,gA⟩|exact⟨Ad gF c0,Ad gF c1,gF⟩) (first| (go_at_call 274;refine mR (FN (HPp.1.gbN hD) HTk.1) λw1 g1=>?_;(have gF:=Z hD g1);clear g1)| (go_at_call 273;refine mR (L8 _ (HG9.1 _ gF)) λw2 g2=>?_;rw[HKW.1];(have gA:=Z gF g2);clear g2));all_goals
      have HF:=S (X (Ag HW.1.2 gA) (X (HW.1.1.gb gA (by simp)) (HPp.1.gbN gA)));clear gA;go_wp2;go_ret;exact Post.ok HF.1.1 HQ.1.symm HF.1.2.1.rep HF.1.2.2
   | false=>
     have HKW:=S ((Lu (Bv l wordsL j)).trans hK);replace HQ:=HQr HQ (by rw[if_pos (show Fi l wordsL j=true by unfold Fi;rw[hK];simpa using hi)]);rw[Rd.bind_f]at HQ;clear hK;go_wp2_with fail;go_region_held3 (λW=>W.cell? ⟨b,0,none⟩=some (.slice ta l.length tc)/\W.cell? ⟨b,1,none⟩=some (.int .i64 j)/\wr.grownBy W none) (first|exact⟨c0,c1,hD⟩|exact⟨Ad gA c0,Ad gA c1,gA⟩|exact⟨Ad gF c0,Ad gF c1,gF⟩) (first| (go_at_call 274;refine mR (FN (HPp.1.gbN hD) HTk.1) λw1 g1=>?_;(have gF:=Z hD g1);clear g1)| (go_at_call 273;refine mR (L8 _ (HG9.1 _ gF)) λw2 g2=>?_;rw[HKW.1];(have gA:=Z gF g2);clear g2));all_goals
      have hs2:=gA.size;have HA:=S (X (HW.1.1.gb gA (by simp)) (X (HPp.1.gbN gA) (Ag HW.1.2 gA)));clear gA;go_wp2_with fail;refine(HSt.1 _ _ (BU HGl.1.1 HGl.1.2 HA.1.2.2) HA.1.2.1 hi (λe=>HO.1 (by rw[<-HQ.1,e];rfl))).mono ?_;intro e w3 hq;obtain⟨g3,⟨q,hr,rfl⟩| ⟨⟨s1,c1'⟩,j3,v,hr,rfl,⟨pa,xa,na,fa,wa,ba,pc,xc,nc,fc,wc,bc,rfl,k1,k2⟩,h3⟩⟩:=hq.split
      ·exact PBd HA.1.2.2 g3 HQ hr
      replace HQ:=HQo HQ hr;clear hr;simp only at k1 k2 HQ;have hs3:=g3.size;have hs4:=HA.1.2.2.size;have gN:=gZ w3 (.cells (sdC s1 (.slice pa s1.p.length pc) (.slice xa s1.x.len xc) (.slice ba c1'.len bc) (.slice na s1.n.len nc) (.slice fa s1.f.len fc) (.slice wa s1.w.len wc)).toArray 134 (0,0)) none;have HFr:=S (λq hq=>HA.1.1.fresh (by omega) q hq);have hown:=(HA.1.1.gb g3 (by intro q hq _ e;cases e;omega)).gb gN (by simp);obtain⟨cs,ho1,ho2⟩:=hown;obtain⟨i0,HI⟩:=iPz Ya;have k1':=k1.gb gN (by simp);have k2':=k2.gb gN (by simp);have HB:=S (X ho1 (X ho2 (X k1' (X k2' (X (h3.gbN gN) (Ag (Z HA.1.2.2 g3) gN))))));have hlen2:a.len<=200000:=by omega
      clear ho1 ho2 k1 k2 k1' k2' g3 gN h3;simp only[sdC];go_wp2_with (at_builtin;go_loud(refine wpList_append_lies _ rfl _ _ 38 rfl w.heap.size 134 i0 _ 10 192 underlying38 HI.1.1 HI.1.2.1 HI.1.2.2.1 HI.1.2.2.2 rfl (by decide) _ _ cs rfl HB.1.1 ⟨w3.heap.size,0,none⟩ 1 1 (sdC s1 (.slice pa s1.p.length pc) (.slice xa s1.x.len xc) (.slice ba c1'.len bc) (.slice na s1.n.len nc) (.slice fa s1.f.len fc) (.slice wa s1.w.len wc)) rfl rfl (AY _ _ _) (by simp[sdC,Value.oneCell']) (by decide) (by unfold maxLen;omega) (by omega) (by simp<;>omega) _ rfl ?_;intro j9 cap w7 hown hgrow hat hlt;(have HE:=S (X (OwnB.snoc HB.1.1 HB.1.2.1 HB.1.2.2.1 HB.1.2.2.2.1 (λq hq _=>HFr.1 q hq) hown hgrow hat) (X (HB.1.2.2.2.2.1.gb hgrow (λq hq=>by have:=(HB.1.1.lt q hq).1;omega)) (EE HB.1.2.2.2.2.2 hgrow (λq hq=>(HB.1.1.lt q hq).1)))));clear hown hgrow hat));go_roundg k
      case measure=>omega
      case rel=>exact⟨_,_,HE.1.1,HE.1.2.1,HE.1.2.2,by rw[Bl.len_app];simp only[Bl.len];omega,HQ.1⟩
  ·have hd:decide ((j:Int)<(l.length:Int))=false:=by simp;omega
   replace HQ:=HQr HQ (by rw[if_neg (nF (show Fi l wordsL j=false by unfold Fi;rw[show decide (j<l.length)=false by simpa using hi];rfl))]);rw[Rd.pure_f]at HQ;have HPp:=S hp;clear hp;go_wp2_with fail;go_quiet(fail);go_wp2;go_ret;refine Post.ok (An HW.1.2 _) HQ.1.symm ?_ ?_
   ·exact(HW.1.1.gb (An (Aa wr none) _) (by simp)).rep
   ·exact HPp.1.drewN _
end
section
variable {b:Nat}{tv wo:Value}{l:List Tok}
def YV(hn:Aj l)(hl:Ee AE l)(hok:∀i,As (Ab l i))(hgb:4<b):∀n,n<=90000->CQB b tv wo l (Du hn wordsL AE n).f:=by
 intro n;induction n with
 |zero=>intro _ w i _ _ ho;exact absurd rfl ho
 | succ n ih=>
   intro hnn w i hg h ho;have hB:=ih (by omega);have hE:=M8 (b:=b) (tv:=tv) (wv:=wo) (wl:=wordsL) hl n;exact Ss (n:=n) (by omega) hok hgb (Vn hn (by omega) hB hE hok hl.short hgb) hg h ho
end
section
variable {l:List Tok}(hn:Aj l){β:Type}{W:List Bs}{day:Bs->Int}{n:Nat}{a:List Pq}{q:List Pq->Rd l β}{i:Nat}
def Lr{fn:Bool}:((Ec hn W day n a fn).bind q).f i=(AD l i).bind λs j=>(FZ l n j).bind λp j=>(B4 l j).bind λ_ j=>((Du hn W day n).f j).bind λb j=>(q (a++[(s,fn,p,b)])).f j:=by
 have e:((Ec hn W day n a fn).bind q).f i=((AD l i).bind λs j=>(FZ l n j).bind λp j=>(B4 l j).bind λ_ j=>((Du hn W day n).f j).bind λb j=> .ok (a++[(s,fn,p,b)]) j).bind λx j=>(q x).f j:=rfl;rw[e];simp only[Res.bind_assoc];rfl
def Xx{x:β}(hw:(Ar l W i==C7)=false):
 (if Ar l W i=DW\/Ar l W i=C7 then Rd.skip.bind λ_=>(Ec hn W day n a (Ar l W i==C7)).bind q else(Rd.bad x:Rd l β)).f i=(GI l W DW i).bind λ_ j=>((Ec hn W day n a false).bind q).f j:=by
 have hw':Ar l W i≠C7:=by simpa using hw
 unfold GI;rw[hw];cases hP:Ar l W i==DW with
 | true=>
   have hP':Ar l W i=DW:=by simpa using hP
   rw[if_pos (.inl hP'),if_pos rfl];rfl
 | false=>
   have hP':Ar l W i≠DW:=by simpa using hP
   rw[if_neg (by simp[hw',hP']),if_neg (by simp)];rfl
def Uu{x:β}(hw:(Ar l W i==C7)=true):
 (if Ar l W i=DW\/Ar l W i=C7 then Rd.skip.bind λ_=>(Ec hn W day n a (Ar l W i==C7)).bind q else(Rd.bad x:Rd l β)).f i=((Ec hn W day n a true).bind q).f (i+1):=by
 have hw':Ar l W i=C7:=by simpa using hw
 rw[hw,if_pos (.inr hw')];rfl
end
section
variable {b:Nat}{tv wo:Value}{l:List Tok}{n:Nat}{w:World}{i:Nat}
def ProgQ(hn:Aj l)(m b:Nat)(tv wo:Value)(w:World)(R:Res (List Pq))(g:Nat)(v:Value)(wr:World):Prop:=
 ∃a j,OwnP wr w.heap.size v a/\Par wr b tv wo l wordsL j/\w.grownBy wr (some b)/\a.length+g<=m+1/\(D6 hn wordsL AE m g a).f j=R
def PP(hn:Aj l)(hl:Ee AE l)(hok:∀i,As (Ab l i))(hgb:4<b)(hnn:n<=90000)(hg:Glob w)(h:Par w b tv wo l wordsL i)(ho:(BW hn wordsL AE n).f i ≠ .out):
 Calls Tryz.prog 213 #[.pointer (some ⟨b,0,none⟩)] w (Post b tv wo l wordsL w (VPr w) ((BW hn wordsL AE n).f i)):=by
 have hb:=h.lt;have HO:=S ho;generalize hR:(BW hn wordsL AE n).f i=R at*;replace hR:((Du hn wordsL AE n).f i).bind (λx j=>(D6 hn wordsL AE n n [([77,65,73,78],false,[],x)]).f j)=R:=hR;have HQ0:=S hR;have HTk:=S hok;have HSh:=S hl.short;have HGl:=S (X hg hgb);have HBk:=S (YV (b:=b) (tv:=tv) (wo:=wo) hn hl hok hgb n hnn);have HC:=S (HBk.1 w i hg h (λe=>HO.1 (by rw[<-HQ0.1,e];rfl)));clear hok hl hg hgb ho hR h;go_enter func213,ntmps213;go_wp2_with fail;refine HC.1.mono ?_;intro e w1 hq;obtain⟨g,⟨q,hr,rfl⟩| ⟨c,i1,v,hr,rfl,hv,hp1⟩⟩:=hq.split
 ·exact⟨rfl,Post.bad g (by rw[<-HQ0.1,hr];rfl)⟩
 obtain⟨ba,bc,rfl⟩:∃ba bc,v= .slice ba c.len bc:=by obtain⟨cs,⟨a9,c9,e9,_⟩,_⟩:=hv;exact⟨a9,c9,e9⟩
 have e0:=HQ0.1;rw[hr,Res.bind_ok]at e0;replace HQ0:=S e0;clear e0 hr HC hq;have hs1:=g.size;have HR0:=S (X (OwnP.one (q:=([77,65,73,78],false,[],c)) (pa:=none) (pc:=0) rfl hs1 (Cells.nil _ _ _) hv) (X (hp1.alloc (.cells (pdC (AB ([77,65,73,78],false,[],c)) (.slice none 0 0) (.slice ba c.len bc)).toArray 40 (0,0))) (Ac g (.cells (pdC (AB ([77,65,73,78],false,[],c)) (.slice none 0 0) (.slice ba c.len bc)).toArray 40 (0,0)))));clear g hv hp1;go_wp2_with fail;go_loopg [3] n (λg v3 wr=>ProgQ hn n b tv wo w R g v3 wr)
 case atStart=>exact⟨_,i1,HR0.1.1,HR0.1.2.1,HR0.1.2.2,by simp;omega,HQ0.1⟩
 case round=>
  obtain⟨a,j,hown,hp1,hgr,hlen,hq⟩:=hrel;clear HQ0 HR0;have hp:=hp1;obtain⟨ta,tc,rfl⟩:=hp.tv_eq;have c0:=hp.c0;have c1:=hp.c1;have hbr:=hp.lt;have hfew:=hp.few;have hsr:=hgr.size;have HFr:=S (λq (hq:wr.heap.size<=q)=>hown.fresh hsr q hq);have HZ:=S (X hown hgr);have HQ:=S hq;clear hown hgr hp1 hq;cases gk with
  |zero=>exact absurd HQ.1.symm HO.1
  |succ k=>
  have e0:=HQ.1;unfold D6 at e0;rw[Rd.condN_f]at e0;replace HQ:=S e0;clear e0;by_cases hi:j<l.length
  ·have hd:decide ((j:Int)<(l.length:Int))=true:=by simp;omega
   rw[if_pos (show decide (j<l.length)=true by simpa using hi),Rd.here_f]at HQ;go_wp2_with fail;go_quiet(fail);have hZ1:=HZ.1.1.gb (An (Aa wr none) nq) (by simp);have hZ2:=An HZ.1.2 nq;have hp2:=hp.drewN nq;have hs2:wr.heap.size<=(wr.drewN nq).heap.size:=nR _;generalize wr.drewN nq=w2 at*;replace HZ:=S (X hZ1 hZ2);replace hp:=hp2;clear hZ1 hZ2 hp2 c0 c1 hbr hd;cases hw:Ar l wordsL j==C7 with
   | true=>
     rw[Uu hn hw,Lr hn]at HQ;go_wp2_with fail;refine(Di hp HTk.1 C7 (by decide) hw).mono ?_;rintro e w3 ⟨rfl,hp9,g⟩;replace HZ:=S (X (HZ.1.1.gb g (by intros;simp;omega)) (Z HZ.1.2 g));replace hp:=hp9;have hs3:=nT hs2 g.size;clear hp9 g hw;go_wp2_with fail;refine(B6 hp HSh.1).mono ?_;intro e w4 hq;obtain⟨g,⟨q,hr,rfl⟩| ⟨s,i4,v,hr,rfl,rfl,hp9⟩⟩:=hq.split
     ·exact PBd HZ.1.2 g HQ hr
     replace HZ:=S (X (HZ.1.1.gb g (by intros;simp;omega)) (Z HZ.1.2 g));replace hp:=hp9;clear hp9;replace HQ:=HQo HQ hr;clear hr;have hs4:=g.size;have hs40:=HZ.1.2.size;clear g;go_wp2_with fail;refine(Mw hp HSh.1 n (λe=>HO.1 (by rw[<-HQ.1,e];rfl))).mono ?_;intro e w5 hq;obtain⟨g,⟨q,hr,rfl⟩| ⟨p,i5,v,hr,rfl,⟨pa,pc,rfl,hV⟩,hp9⟩⟩:=hq.split
     ·exact PBd HZ.1.2 g HQ hr
     replace HZ:=S (X (HZ.1.1.gb g (by intros;simp;omega)) (Z HZ.1.2 g));replace hp:=hp9;clear hp9;replace HQ:=HQo HQ hr;clear hr;have hs5:=g.size;have hT:=Blk.new w5 [str s,.bool true,.slice pa p.length pc,.slice none 0 0] 40;have gN:=gZ w5 (.cells [str s,.bool true,.slice pa p.length pc,.slice none 0 0].toArray 40 (0,0)) none;have HX:=S (X ((HZ.1.1.x rfl).gb gN (by simp)) (Ag HZ.1.2 gN));have hV9:=S ((hV.mono (ok':=λq=>w4.heap.size<=q/\q<w5.heap.size) (λq h1 h2=>⟨h1,h2⟩)).gb gN (by simp));replace hp:=hp.gbN gN;clear HZ hV g;have HZ:=HX;clear HX gN;go_wp2_with fail;refine(Ba hp).mono ?_;intro e w6 hq;obtain⟨g,⟨q,hr,rfl⟩| ⟨u,i6,v,hr,rfl,rfl,hp9⟩⟩:=hq.split
     ·exact PBd HZ.1.2 g HQ hr
     replace HZ:=S (X (HZ.1.1.gb g (by intros;simp;omega)) (Z HZ.1.2 g));replace hp:=hp9;clear hp9;replace HQ:=HQo HQ hr;clear hr;have hs6:w5.heap.size<w6.heap.size:=by have h9:=g.size;simp at h9;omega
     replace hT:=hT.gb g (by simp;omega);replace hV9:=S (hV9.1.gb g (by intro q hq _;simp;omega));have hTl:=hT.lt;clear g;go_wp2_with fail;refine(HBk.1 _ _ (BU HGl.1.1 HGl.1.2 HZ.1.2) hp (λe=>HO.1 (by rw[<-HQ.1,e];rfl))).mono ?_;intro e w7 hq;obtain⟨g,⟨q,hr,rfl⟩| ⟨c,i7,v,hr,rfl,hB,hp9⟩⟩:=hq.split
     ·exact PBd HZ.1.2 g HQ hr
     replace HZ:=S (X (HZ.1.1.gb g (by intros;simp;omega)) (Z HZ.1.2 g));replace hp:=hp9;clear hp9;replace HQ:=HQo HQ hr;clear hr;have hs7:=g.size;replace hT:=hT.gb g (by simp;omega);replace hV9:=S (hV9.1.gb g (by intro q hq _;simp;omega));replace hTl:=hT.lt;obtain⟨ba,bc,rfl⟩:∃ba bc,v= .slice ba c.len bc:=by obtain⟨cs,⟨a9,c9,e9,_⟩,_⟩:=hB;exact⟨a9,c9,e9⟩
     have t3:=hT.cell' 3 rfl;have tf:=hT.frozen 3;have gS:=Am (Aa w7 (some w5.heap.size)) 3 (.slice ba c.len bc);have HG:=S (X ((hT.set 3 (.slice ba c.len bc)).of_eq (cs':=[str s,.bool true,.slice pa p.length pc,.slice ba c.len bc]) rfl rfl) (X (HZ.1.1.gb gS (by intros;simp;omega)).back (X (EE HZ.1.2 gS (by intro k hk;cases hk;omega)) (X (hp.gb gS (by intro q e;cases e;omega)) (X (hV9.1.gb gS (by intro q hq _;simp;omega)) (RepV.gb hB gS (by intro q hq _;have hq':w6.heap.size<=q:=hq;simp;omega)))))));clear g gS hT hV9 hB HZ hp;go_upto_region 9 with fail;refine Ax (λW=>Blk W w5.heap.size [str s,.bool true,.slice pa p.length pc,.slice ba c.len bc] 40/\OwnP W w.heap.size u3 a/\w.grownBy W (some b)/\Par W b (.slice ta l.length tc) wo l wordsL i7/\Cells W (.slice pa p.length pc) 1 p.length (p.map str) (λq=>w4.heap.size<=q/\q<w5.heap.size)/\RepV (Al w6.heap.size) W false (.slice ba c.len bc) c) HG.1 ?_;clear HG t3 tf hTl;rintro W ⟨hT,hO,gW,hp,hV,hB⟩;have hsW:=gW.size;have t0:=hT.cell' 0 rfl;have t1:=hT.cell' 1 rfl;have t2:=hT.cell' 2 rfl;have t3:=hT.cell' 3 rfl;have hTl:=hT.lt;have gN:=gZ W (.cells (pdC (AB (s,true,p,c)) (.slice pa p.length pc) (.slice ba c.len bc)).toArray 40 (0,0)) none;obtain⟨cs,ho1,ho2⟩:=hO.gb gN (by simp);obtain⟨i0,hi0,hz0,hz1,hz2⟩:=info_parts Oc;have HI:=S (X hi0 (X hz0 (X hz1 hz2)))
     have HB:=S (X ho1 (X ho2 (X ((hV.mono (ok':=λq=>wr.heap.size<=q) (λq h1 _=>by omega)).gb gN (by simp)) (X (RepV.gb (RepV.mono' (ok':=λq=>wr.heap.size<=q) hB (λq h1 _=>by have h1':w6.heap.size<=q:=h1;omega)) gN (by simp)) (X (hp.gbN gN) (Ag gW gN))))));have hlen2:a.length<=200000:=by omega
     clear hi0 hz0 hz1 hz2 ho1 ho2 hV hB hp gW gN hT;go_wp2_with (at_builtin;go_loud(refine wpList_append_lies _ rfl _ _ 41 rfl w.heap.size 40 i0 _ 4 72 underlying41 HI.1.1 HI.1.2.1 HI.1.2.2.1 HI.1.2.2.2 rfl (by decide) _ _ cs rfl HB.1.1 ⟨W.heap.size,0,none⟩ 1 1 (pdC (AB (s,true,p,c)) (.slice pa p.length pc) (.slice ba c.len bc)) rfl rfl (AY _ _ _) (by simp[pdC,Value.oneCell']) (by decide) (by unfold maxLen;omega) (by omega) (by simp;omega) _ rfl ?_;intro j9 cap w9 hown hgrow hat hlt;(have HE:=S (X (OwnP.snoc (q:=(s,true,p,c)) HB.1.1 HB.1.2.1 HB.1.2.2.1 HB.1.2.2.2.1 (λq hq _=>HFr.1 q hq) hown hgrow hat) (X (HB.1.2.2.2.2.1.gb hgrow (λq hq=>by have:=(HB.1.1.lt q hq).1;omega)) (EE HB.1.2.2.2.2.2 hgrow (λq hq=>(HB.1.1.lt q hq).1)))));clear hown hgrow hat));go_roundg k
     case measure=>omega
     case rel=>exact⟨_,_,HE.1.1,HE.1.2.1,HE.1.2.2,by simp;omega,HQ.1⟩
   | false=>
     rw[Xx hn hw]at HQ;go_wp2_with fail;refine mR (Df hp HTk.1 C7 hw) λw20 g=>?_;replace HZ:=S (X (HZ.1.1.gb g (by simp)) (Ag HZ.1.2 g));replace hp:=hp.gbN g;have hs20:=g.size;clear g hw;go_wp2_with fail;refine(BJ hp HTk.1 DW (by decide)).mono ?_;intro e w3 hq;obtain⟨g,⟨q,hr,rfl⟩| ⟨u,i3,v,hr,rfl,rfl,hp9⟩⟩:=hq.split
     ·exact PBd HZ.1.2 g HQ hr
     replace HZ:=S (X (HZ.1.1.gb g (by intros;simp;omega)) (Z HZ.1.2 g));replace hp:=hp9;clear hp9;replace HQ:=HQo HQ hr;clear hr;have hs3:wr.heap.size<=w3.heap.size:=nT hs2 (nT hs20 g.size);clear g;rw[Lr hn]at HQ;go_wp2_with fail;refine(B6 hp HSh.1).mono ?_;intro e w4 hq;obtain⟨g,⟨q,hr,rfl⟩| ⟨s,i4,v,hr,rfl,rfl,hp9⟩⟩:=hq.split
     ·exact PBd HZ.1.2 g HQ hr
     replace HZ:=S (X (HZ.1.1.gb g (by intros;simp;omega)) (Z HZ.1.2 g));replace hp:=hp9;clear hp9;replace HQ:=HQo HQ hr;clear hr;have hs4:=g.size;have hs40:=HZ.1.2.size;clear g;go_wp2_with fail;refine(Mw hp HSh.1 n (λe=>HO.1 (by rw[<-HQ.1,e];rfl))).mono ?_;intro e w5 hq;obtain⟨g,⟨q,hr,rfl⟩| ⟨p,i5,v,hr,rfl,⟨pa,pc,rfl,hV⟩,hp9⟩⟩:=hq.split
     ·exact PBd HZ.1.2 g HQ hr
     replace HZ:=S (X (HZ.1.1.gb g (by intros;simp;omega)) (Z HZ.1.2 g));replace hp:=hp9;clear hp9;replace HQ:=HQo HQ hr;clear hr;have hs5:=g.size;have hT:=Blk.new w5 [str s,.bool false,.slice pa p.length pc,.slice none 0 0] 40;have gN:=gZ w5 (.cells [str s,.bool false,.slice pa p.length pc,.slice none 0 0].toArray 40 (0,0)) none;have HX:=S (X ((HZ.1.1.x rfl).gb gN (by simp)) (Ag HZ.1.2 gN));have hV9:=S ((hV.mono (ok':=λq=>w4.heap.size<=q/\q<w5.heap.size) (λq h1 h2=>⟨h1,h2⟩)).gb gN (by simp));replace hp:=hp.gbN gN;clear HZ hV g;have HZ:=HX;clear HX gN;go_wp2_with fail;refine(Ba hp).mono ?_;intro e w6 hq;obtain⟨g,⟨q,hr,rfl⟩| ⟨u,i6,v,hr,rfl,rfl,hp9⟩⟩:=hq.split
     ·exact PBd HZ.1.2 g HQ hr
     replace HZ:=S (X (HZ.1.1.gb g (by intros;simp;omega)) (Z HZ.1.2 g));replace hp:=hp9;clear hp9;replace HQ:=HQo HQ hr;clear hr;have hs6:w5.heap.size<w6.heap.size:=by have h9:=g.size;simp at h9;omega
     replace hT:=hT.gb g (by simp;omega);replace hV9:=S (hV9.1.gb g (by intro q hq _;simp;omega));have hTl:=hT.lt;clear g;go_wp2_with fail;refine(HBk.1 _ _ (BU HGl.1.1 HGl.1.2 HZ.1.2) hp (λe=>HO.1 (by rw[<-HQ.1,e];rfl))).mono ?_;intro e w7 hq;obtain⟨g,⟨q,hr,rfl⟩| ⟨c,i7,v,hr,rfl,hB,hp9⟩⟩:=hq.split
     ·exact PBd HZ.1.2 g HQ hr
     replace HZ:=S (X (HZ.1.1.gb g (by intros;simp;omega)) (Z HZ.1.2 g));replace hp:=hp9;clear hp9;replace HQ:=HQo HQ hr;clear hr;have hs7:=g.size;replace hT:=hT.gb g (by simp;omega);replace hV9:=S (hV9.1.gb g (by intro q hq _;simp;omega));replace hTl:=hT.lt;obtain⟨ba,bc,rfl⟩:∃ba bc,v= .slice ba c.len bc:=by obtain⟨cs,⟨a9,c9,e9,_⟩,_⟩:=hB;exact⟨a9,c9,e9⟩
     have t3:=hT.cell' 3 rfl;have tf:=hT.frozen 3;have gS:=Am (Aa w7 (some w5.heap.size)) 3 (.slice ba c.len bc);have HG:=S (X ((hT.set 3 (.slice ba c.len bc)).of_eq (cs':=[str s,.bool false,.slice pa p.length pc,.slice ba c.len bc]) rfl rfl) (X (HZ.1.1.gb gS (by intros;simp;omega)).back (X (EE HZ.1.2 gS (by intro k hk;cases hk;omega)) (X (hp.gb gS (by intro q e;cases e;omega)) (X (hV9.1.gb gS (by intro q hq _;simp;omega)) (RepV.gb hB gS (by intro q hq _;have hq':w6.heap.size<=q:=hq;simp;omega)))))));clear g gS hT hV9 hB HZ hp;go_upto_region 9 with fail;refine Ax (λW=>Blk W w5.heap.size [str s,.bool false,.slice pa p.length pc,.slice ba c.len bc] 40/\OwnP W w.heap.size u3 a/\w.grownBy W (some b)/\Par W b (.slice ta l.length tc) wo l wordsL i7/\Cells W (.slice pa p.length pc) 1 p.length (p.map str) (λq=>w4.heap.size<=q/\q<w5.heap.size)/\RepV (Al w6.heap.size) W false (.slice ba c.len bc) c) HG.1 ?_;clear HG t3 tf hTl;rintro W ⟨hT,hO,gW,hp,hV,hB⟩;have hsW:=gW.size;have t0:=hT.cell' 0 rfl;have t1:=hT.cell' 1 rfl;have t2:=hT.cell' 2 rfl;have t3:=hT.cell' 3 rfl;have hTl:=hT.lt;have gN:=gZ W (.cells (pdC (AB (s,false,p,c)) (.slice pa p.length pc) (.slice ba c.len bc)).toArray 40 (0,0)) none;obtain⟨cs,ho1,ho2⟩:=hO.gb gN (by simp);obtain⟨i0,hi0,hz0,hz1,hz2⟩:=info_parts Oc;have HI:=S (X hi0 (X hz0 (X hz1 hz2)))
     have HB:=S (X ho1 (X ho2 (X ((hV.mono (ok':=λq=>wr.heap.size<=q) (λq h1 _=>by omega)).gb gN (by simp)) (X (RepV.gb (RepV.mono' (ok':=λq=>wr.heap.size<=q) hB (λq h1 _=>by have h1':w6.heap.size<=q:=h1;omega)) gN (by simp)) (X (hp.gbN gN) (Ag gW gN))))));have hlen2:a.length<=200000:=by omega
     clear hi0 hz0 hz1 hz2 ho1 ho2 hV hB hp gW gN hT;go_wp2_with (at_builtin;go_loud(refine wpList_append_lies _ rfl _ _ 41 rfl w.heap.size 40 i0 _ 4 72 underlying41 HI.1.1 HI.1.2.1 HI.1.2.2.1 HI.1.2.2.2 rfl (by decide) _ _ cs rfl HB.1.1 ⟨W.heap.size,0,none⟩ 1 1 (pdC (AB (s,false,p,c)) (.slice pa p.length pc) (.slice ba c.len bc)) rfl rfl (AY _ _ _) (by simp[pdC,Value.oneCell']) (by decide) (by unfold maxLen;omega) (by omega) (by simp;omega) _ rfl ?_;intro j9 cap w9 hown hgrow hat hlt;(have HE:=S (X (OwnP.snoc (q:=(s,false,p,c)) HB.1.1 HB.1.2.1 HB.1.2.2.1 HB.1.2.2.2.1 (λq hq _=>HFr.1 q hq) hown hgrow hat) (X (HB.1.2.2.2.2.1.gb hgrow (λq hq=>by have:=(HB.1.1.lt q hq).1;omega)) (EE HB.1.2.2.2.2.2 hgrow (λq hq=>(HB.1.1.lt q hq).1)))));clear hown hgrow hat));go_roundg k
     case measure=>omega
     case rel=>exact⟨_,_,HE.1.1,HE.1.2.1,HE.1.2.2,by simp;omega,HQ.1⟩
  ·have hd:decide ((j:Int)<(l.length:Int))=false:=by simp;omega
   rw[if_neg (nF (show decide (j<l.length)=false by simpa using hi)),Rd.pure_f]at HQ;have HPp:=S hp;clear hp;go_wp2_with fail;go_quiet(fail);go_wp2;go_ret;refine Post.ok (An HZ.1.2 _) HQ.1.symm ?_ ?_
   ·exact(HZ.1.1.gb (An (Aa wr none) _) (by simp)).rep
   ·exact HPp.1.drewN _
end
variable{b n i j:Nat}{tv:Value}{l:List Tok}{w:World}{a:List Pq}
def On(k B:Nat)(w:World)(a:List Pq):Prop:=∃la lc,Blk w k [.slice la a.length lc] 41/\RepQ (Al B) w (.slice la a.length lc) (a.map AB)
def Qn{k:Nat}{wv:Value}(hn:Aj l)(hl:Ee AE l)(hok:∀i,As (Ab l i))(hgb:4<b)(hnn:n<=90000)(hg:Glob w)(hp:Par w b tv wv l wordsL 0)(hk:Blk w k [.slice none 0 0] 41)(hkb:k<b)
 (ho:(BW hn wordsL AE n).f 0 ≠ .out):
 Calls Tryz.prog 212 #[.pointer (some ⟨b,0,none⟩),.pointer (some ⟨k,0,none⟩)] w (K9 b k w (O6 k) (On k) ((BW hn wordsL AE n).f 0)):=by
 have hb:=hp.lt;have HB:=S (PP hn hl hok hgb hnn hg hp ho);clear hl hok hg ho;generalize(BW hn wordsL AE n).f 0=R at*;go_enter func212,ntmps212;go_wp2_with fail;refine HB.1.mono ?_;intro e w1 hq;obtain⟨g,⟨q,rfl,rfl⟩| ⟨a,j,v,rfl,rfl,hv,hpar⟩⟩:=hq.split
 ·exact⟨rfl,Grown2.of g (.inr (.inl rfl)),⟨none,0,0,hk.gb g (by simp;omega)⟩,rfl⟩
 obtain⟨la,lc,rfl⟩:∃la lc,v= .slice la a.length lc:=by
  obtain⟨cs,⟨a9,c9,e9,_⟩,_⟩:=hv;rw[List.length_map]at e9;exact⟨a9,c9,e9⟩
 have hk1:=hk.gb g (by simp;omega);have k0:=hk1.cell 0;have kf:=hk1.frozen 0;simp only[List.getElem?_cons_zero]at k0;have hs1:=g.size;have HF:=S (X hv (X hpar hk1));clear hv hpar hk1 hq;go_wp2;have gS:w1.grownBy (w1.setCell ⟨k,0,none⟩ (.slice la a.length lc)) (some k):=Af (Aa _ _) _ _ (.inl rfl);have hk2:=HF.1.2.2.set 0 (.slice la a.length lc);refine⟨rfl,.tuple #[],by simp[results,results212,go_sem],(Grown2.of g (.inr (.inl rfl))).trans (Grown2.of gS (.inr (.inr rfl))),⟨_,_,_,hk2⟩,rfl,⟨_,_,hk2,?_⟩,?_⟩
 ·exact HF.1.1.gb gS (by intro q hq _ e;have h9:w.heap.size<=q:=hq;cases e;omega)
 ·exact B3 gS HF.1.2.1.c1 (by simp;omega)
def Uv(hg:Glob w)(hn:Aj l)(hl:Ee AE l)(hok:∀i,As (Ab l i))(ht:TRow w tv l (λ_=>True))(hlen:l.length<=4001)(n:Nat)(hnn:n<=90000)(ho:(BW hn wordsL AE n).f 0 ≠ .out):
 Calls Tryz.prog 160 #[tv] w λe w'=>∃la ln lc,e= .returned (.tuple #[.slice la ln lc,.int .i64 (BO l ((BW hn wordsL AE n).f 0))])/\w.grownBy w' none/\
  ∀a j,(BW hn wordsL AE n).f 0= .ok a j->ln=a.length/\RepQ (Al w.heap.size) w' (.slice la ln lc) (a.map AB):=by
 have hmf:∀(fn:Fn)(first cap:Array Value)(w:World),(Instr.makeFunc fn first cap).run Tryz.prog w= .ok (.func fn first cap) w:=λ_ _ _ _=>rfl;have hK:=Blk.new w [.slice none 0 0] 41;have g0:=gZ w (.cells [.slice none 0 0].toArray 41 (0,0)) none;have ht0:=(ht.mono (ok':=λg=>g<w.heap.size) (λk _ h=>h)).gb g0 (by simp);have hg0:=hg.gb g0 (by simp);have hK0:=hK.lt;have hw0:4<w.heap.size:=by
  unfold Glob Lib.TabIs World.var? at hg;simp only[Hp,Option.bind_some]at hg;rcases Nat.lt_or_ge 4 w.heap.size with h' |h'
  ·exact h'
  ·rw[Array.getElem?_eq_none h']at hg;simp at hg
 have H:=S (λw1 b wv (hg1:Glob w1) (hb1:w.heap.size+1<=b) (hp1:Par w1 b tv wv l wordsL 0) (hk1:Blk w1 w.heap.size [.slice none 0 0] 41)=>Qn (k:=w.heap.size) hn hl hok (by omega) hnn hg1 hp1 hk1 (by omega) ho);clear hl hg hok;generalize(BW hn wordsL AE n).f 0=R at*;go_enter func160,ntmps160;go_wp2_with fail;refine(Om (k:=w.heap.size) hg0 (ht0.mono (λ_ _ _=>trivial)) hlen 212 #[.pointer (some ⟨w.heap.size,0,none⟩)] (Wy _) R hK0 (O6 w.heap.size) ?_ (On w.heap.size) ?_ ?_).mono ?_
 ·rintro w2 w3 r ⟨a,n,c,h⟩ g hr;exact⟨a,n,c,h.gb g (by simp at hr ⊢;omega)⟩
 ·rintro B w2 w3 a r ⟨la,lc,hb,hv⟩ g hr hB;exact⟨la,lc,hb.gb g (by simp at hr ⊢;omega),hv.gb g (by intro q hq _ e;have h9:B<=q:=hq;cases e;omega)⟩
 ·intro w1 b wv g1 hb1 hp hs;simp at hb1;exact H.1 _ _ _ (hg0.gb g1 (by simp)) (by omega) hp (hK.gb g1 (by simp))
 rintro e w1 ⟨rfl,g1,hU,hV⟩;obtain⟨la,ln,lc,hb⟩:=hU;have k0:=hb.cell 0;simp only[List.getElem?_cons_zero]at k0;have HF:=S (X (Ap g0 g1 (.inr (nR _))) (show ∀a j,R= .ok a j->ln=a.length/\RepQ (Al w.heap.size) w1 (.slice la ln lc) (a.map AB)from λa j e=>by
  obtain⟨B,hB,la',lc',hb',hv⟩:=hV a j e;have e2:=hb'.cell 0;rw[hb.cell 0]at e2;cases e2;simp at hB;refine⟨rfl,?_⟩;obtain⟨cs,h1,h2⟩:=hv;exact⟨cs,h1.mono (λq hq _=>by have:B<=q:=hq;show w.heap.size<=q;omega),RepP.mono (λq hq _=>by have:B<=q:=hq;show w.heap.size<=q;omega) h2⟩))
 clear hV g1 hb;go_wp2;exact bZ (v:= .tuple #[.slice la ln lc,.int .i64 (BO l R)]) (by simp[results,results160,go_sem]) rfl ⟨_,_,_,rfl,HF.1.1,HF.1.2⟩
def Bl.sum:Bl->Nat
 | .nil=>0
 | .st h b n=>1+h.nodes+b.sum+n.sum
 | .bl b n=>1+b.sum+n.sum
def Bl.wt_le:∀b:Bl,b.wt<=b.sum:=by
 intro b;induction b with
 |nil=>exact nR _
 |st h b n ih1 ih2=>simp only[Bl.wt,Bl.sum];omega
 |bl b n ih1 ih2=>simp only[Bl.wt,Bl.sum];omega
def Bl.sum_app:∀a b:Bl,(a.app b).sum=a.sum+b.sum:=by
 intro a;induction a with
 |nil=>intro b;simp[Bl.app,Bl.sum]
 |st h k n _ ih=>intro b;simp[Bl.app,Bl.sum,ih];omega
 |bl k n _ ih=>intro b;simp[Bl.app,Bl.sum,ih];omega
abbrev sw(r:StB):Nat:=1+r.1.nodes+r.2.sum
abbrev pwB(a:Fo×Bl):Nat:=a.1.nodes+a.2.sum
section
open Rd
variable (hn:Aj l)(W:List Bs)(day:Bs->Int){block:Rd l Bl}
def RB(w:Bs):Bg (D4 hn day n w) sw 1:=
 Bg.bind (λp=>p.2.nodes) 0 1 ((Im hn day ([],.nil)).le (by simp[Fo.nodes])) (λa=>Bg.bind (λp=>p.2.nodes) a.2.nodes 1 (KB (m:=λp:List Bs×Fo=>p.2.nodes) (Im hn day) n a) (λa=>Ao AI (Bg.pure (by simp[sw,Sd.nodes,sd0,Fo.nodes,Bl.sum];omega))) (by omega)) (by omega)
def KV(hb:Bg block Bl.sum 0)(a:Fo×Bl):Bg (Dy hn day n block a) pwB (pwB a):=
 BN hn day λx=>Ao AI (Bg.bind Bl.sum 0 (x.nodes+pwB a+1) hb (λb=>Bg.pure (by simp only[pwB,Fo.nodes_snoc,Bl.sum_app,Bl.sum];omega)) (by omega))
def ML(hb:Bg block Bl.sum 0)(more other last:Bs):Bg (Em hn W day n block more other last) sw 1:=
 Bg.bind pwB 0 1 ((KV hn day hb (.nil,.nil)).le (by simp[pwB,Fo.nodes,Bl.sum])) (λa=>Bg.bind pwB (pwB a) 1 (Ny (m:=pwB) (KV hn day hb) n a) (λa=>
  Bg.bind Bl.sum a.2.sum (a.1.nodes+1) (Cl (Ao AI (Bg.bind Bl.sum 0 (a.2.sum+1) hb (λb=>Bg.pure (by simp only[Bl.sum_app,Bl.sum];omega)) (by omega))) (Bg.pure (nR _)))
   (λb=>Ao BH (Ao AI (Bg.pure (by simp[sw,Sd.nodes,sd0,Fo.nodes];omega)))) (by simp only[pwB];omega)) (by omega)) (by omega)
def bw_do(hb:Bg block Bl.sum 0):Bg (doP hn W day n block) sw 1:=
 Cl (Ao AI (Ao BH ((ML hn W day hb _ _ _).le (by omega))))
  (Cl (Bg.bind pwB 0 1 ((KV hn day hb (.nil,.nil)).le (by simp[pwB,Fo.nodes,Bl.sum])) (λa=>Ao BH (Ao AI (Bg.pure (by simp[sw,pwB,Sd.nodes,sd0,Fo.nodes];omega)))) (by omega))
   (Cf λs=>Bg.bind Fo.nodes 0 1 (Cl ((Hh hn day).le (by omega)) (Bg.pure (by simp[Fo.nodes]))) (λf=>Ao AI (Bg.pure (by simp[sw,Sd.nodes,sd0,Fo.nodes,Bl.sum];omega))) (by omega)))
def XF(hb:Bg block Bl.sum 0):Bg (EM hn W day n block) sw 1:=
 Cf λs=>Ao EB (BN hn day λx=>Ao BH (BN hn day λy=>Bg.bind Ex.nodes 1 (y.nodes+x.nodes+1) (Cl ((IW hn day).le (by omega)) (Bg.pure (by simp[A6,Ex.nodes,Fo.nodes])))
  (λz=>Ao AI (Bg.bind Bl.sum 0 (z.nodes+y.nodes+x.nodes+2) hb (λb=>Ao BH (Ao AI (Bg.pure (by simp[sw,Sd.nodes,sd0,Fo.nodes,Bl.sum,Fo.nodes_snoc,Fo.nodes_one];omega)))) (by omega))) (by omega)))
def Ws(hb:Bg block Bl.sum 0):Bg (EF hn W block) sw 1:=
 Ao BH (Ao AI (Bg.bind Bl.sum 0 2 hb (λb=>Bg.bind (λr=>r.2.sum) (b.sum+1) 1
  (Cl (Bg.bind (λ_=>0) 0 (b.sum+2) (Cl (Nz hn) (Bg.pure (nR _))) (λs=>Ao AI (Bg.bind Bl.sum 0 (b.sum+2) hb (λc=>Bg.pure (by simp[Bl.sum];omega)) (by omega))) (by omega))
   (Bg.pure (by simp only[Bl.sum];omega))) (λr=>Ao BH (Ao AI (Bg.pure (by simp[sw,Sd.nodes,sd0,Fo.nodes];omega)))) (by omega)) (by omega)))
def XI(hb:Bg block Bl.sum 0)(w:Bs):Bg (By hn W day n block w) sw 0:=by
 unfold By;repeat' refine CR ?_ ?_
 ·exact Bo (RB hn day w)
 ·exact Bo (ML hn W day hb _ _ _)
 ·exact Bo (bw_do hn W day hb)
 ·exact Bo (XF hn W day hb)
 ·exact Bo (Ao AI (Bg.pure (by simp[sw,Sd.nodes,sd0,Fo.nodes,Bl.sum])))
 ·exact Bo (Ao AI (Bg.pure (by simp[sw,Sd.nodes,sd0,Fo.nodes,Bl.sum])))
 ·exact Bo (Bg.bind Fo.nodes 0 1 (Hi hn day) (λx=>Ao AI (Bg.pure (by simp[sw,Sd.nodes,sd0,Fo.nodes,Bl.sum];omega))) (by omega))
 ·exact Bo (Bg.bind Fo.nodes 0 1 (Hi hn day) (λx=>Ao AI (Bg.pure (by simp[sw,Sd.nodes,sd0,Fo.nodes,Bl.sum];omega))) (by omega))
 ·exact Bo (Ws hn W hb)
 ·exact Bo (Bg.bind Sd.nodes 0 1 (LZ hn W day w) (λs=>Ao AI (Bg.pure (by simp only[sw,Bl.sum];omega))) (by omega))
 ·exact Bg.bad
def Jh(t:Ex):Bg (Gn hn day n t) sw t.nodes:=
 Bg.bind AJ 0 t.nodes (C3 (Bg.pure (by simp only[AJ];omega)) EB) (λ_=>BN hn day λx=>Ao AI (Bg.pure (by simp[sw,Sd.nodes,sd0,Fo.nodes,Bl.sum,Fo.nodes_two];omega))) (by omega)
def XK(s:Bs):Bg (Ia hn day n s) sw 1:=
 C3 (Bg.bind Fo.nodes 0 2 (MK hn day) (λf=>Ao AI (Bg.pure (by simp[sw,Sd.nodes,sd0,Fo.nodes,Bl.sum,Fo.nodes_one,Ex.nodes];omega))) (by omega))
  (C3 (BN hn day λx=>Ao EB ((Jh hn day _).le (by simp only[DY,AH,Ex.nodes,Fo.nodes_two,Fo.nodes];omega)))
   (C3 (Cf λt=>(Jh hn day _).le (by simp only[AH,Ex.nodes,Fo.nodes_one,Fo.nodes];omega)) ((Jh hn day _).le (by simp only[AH,Ex.nodes,Fo.nodes];omega))))
def Wt:Bg (EH hn day n) sw 0:=
 C3 (Bg.bind Fo.nodes 0 1 (EA (Bg.pure (by simp[Fo.nodes])) (Hh hn day)) (λx=>Ao AI (Bg.pure (by simp[sw,Sd.nodes,sd0,Fo.nodes,Bl.sum];omega))) (by omega))
  (EA (Bg.bind Ex.nodes 0 0 (Nw hn day) (λt=>(Jh hn day t).le (by omega)) (by omega)) (Cf λs=>XK hn day s))
def XJ(hb:Bg block Bl.sum 0):Bg (BL hn W day n block) sw 0:=λi a j e=>by
 have e':(if Bv l W i=[]then EH hn day n else By hn W day n block (Bv l W i)).f i= .ok a j:=e
 split at e'
 ·exact Wt hn day i a j e'
 ·exact XI hn W day hb _ i a j e'
end
section
open Rd
variable (hn:Aj l)(W:List Bs)(day:Bs->Int)
def Cq(a:List Pq):Nat:=(a.map λp=>p.2.2.2.sum).sum
def Pk(a:List Pq)(p:Pq):Cq (a++[p])=Cq a+p.2.2.2.sum:=by simp[Cq]
def PK{st:Rd l StB}(h:Bg st sw 0):∀k a,Bg (D8 W st k a) Bl.sum a.sum:=by
 intro k;induction k with
 |zero=>exactλa=>Bg.out
 |succ k ih=>exactλa=>Hc (Bg.bind sw 0 a.sum h (λr=>(ih _).le (by simp only[sw,Bl.sum_app,Bl.sum];omega)) (by omega)) (Bg.pure (nR _))
def N0:∀n,Bg (Du hn W day n) Bl.sum 0:=by
 intro n;induction n with
 |zero=>exact Bg.out
 |succ n ih=>exact PK W (XJ hn W day ih) n .nil
def XG(n:Nat)(a:List Pq)(fn:Bool):Bg (Ec hn W day n a fn) Cq (Cq a):=by
 refine Cf λs=>Bg.bind (λ_=>0) 0 (Cq a) ?_ (λp=>Ao AI (Bg.bind Bl.sum 0 (Cq a) (N0 hn W day n) (λb=>Bg.pure (by rw[Pk];show Cq a+b.sum<=b.sum+Cq a;omega)) (by omega))) (by omega);refine C3 (C3 (Bg.pure (nZ _)) (Bg.bind (λ_=>0) 0 0 ?_ (λp=>Ao EB (Bg.pure (nZ _))) (by omega))) (Bg.pure (nZ _));intro i p j e;have h:=JK (l:=l) (n:=n) i;rw[show CF l n i= .ok p j from e]at h;simp only[Big,AJ]at h;show 0+i<=j+0;omega
def QT(n:Nat):∀k a,Bg (D6 hn W day n k a) Cq (Cq a):=by
 intro k;induction k with
 |zero=>exactλa=>Bg.out
 |succ k ih=>exactλa=>Hc (FV λw=>CR (Bo (Bg.bind Cq (Cq a) 0 (XG hn W day n a _) (λa=>ih a) (by omega))|> λh=>h.le (nR _)) Bg.bad) (Bg.pure (nR _))
def XH(n:Nat):Bg (BW hn W day n) Cq 0:=
 Bg.bind Bl.sum 0 0 (N0 hn W day n) (λb=>(QT hn W day n n _).le (by simp[Cq])) (by omega)
def Ql:∀{a:List Pq}{p:Pq},p∈a->p.2.2.2.sum<=Cq a:=by
 intro a;induction a with
 |nil=>intro p h;cases h
 | cons q r ih=>
   intro p h;have e:Cq (q::r)=q.2.2.2.sum+Cq r:=by simp[Cq]
   rcases List.mem_cons.1 h with h|h
   ·subst h;omega
   ·have:=ih h;omega
def YU(h:(BW hn W day n).f 0= .ok a j):∀p∈a,p.2.2.2.wt<=j:=by
 intro p hp;have h1:=XH hn W day n 0 a j h;have h2:=Ql hp;have h3:=p.2.2.2.wt_le;omega
def Wh{s:Bs}(h:AD l i= .ok s j):s.length<=10:=by
 unfold AD at h;split at h
 ·rename_i hc;cases h;simp only[Aw,Bool.and_eq_true,decide_eq_true_eq]at hc;omega
 ·cases h
def OX(n:Nat):∀k (a:List Pq) i r j,(∀p∈a,p.1.length<=10)->(D6 hn W day n k a).f i= .ok r j->∀p∈r,p.1.length<=10:=by
 intro k;induction k with
 |zero=>intro a i r j _ h;cases h
 | succ k ih=>
   intro a i r j ha h;unfold D6 at h;rw[condN_f]at h;split at h
   ·rw[here_f]at h;by_cases hw:Ar l W i=DW\/Ar l W i=C7
    ·rw[if_pos hw,skip_f,Lr]at h;cases h1:AD l (i+1)with
     |out=>rw[h1]at h;cases h
     |bad q=>rw[h1]at h;cases h
     | ok s i1=>
       rw[h1,Res.bind_ok]at h;have hs:=Wh h1;cases h2:FZ l n i1 with
       |out=>rw[h2]at h;cases h
       |bad q=>rw[h2]at h;cases h
       | ok p i2=>
         rw[h2,Res.bind_ok]at h;cases h3:B4 l i2 with
         |out=>rw[h3]at h;cases h
         |bad q=>rw[h3]at h;cases h
         | ok u i3=>
           rw[h3,Res.bind_ok]at h;cases h4:(Du hn W day n).f i3 with
           |out=>rw[h4]at h;cases h
           |bad q=>rw[h4]at h;cases h
           | ok b i4=>
             rw[h4,Res.bind_ok]at h;refine ih _ _ _ _ ?_ h;intro x hx;rcases List.mem_append.1 hx with hx|hx
             ·exact ha x hx
             ·rw[List.mem_singleton]at hx;subst hx;exact hs
    ·rw[if_neg hw]at h;cases h
   ·cases h;exact ha
def Sr(h:(BW hn W day n).f 0= .ok a j):∀p∈a,p.1.length<=10:=by
 have e:(BW hn W day n).f 0=((Du hn W day n).f 0).bind λb i=>(D6 hn W day n n [([77,65,73,78],false,[],b)]).f i:=rfl;rw[e]at h;cases h1:(Du hn W day n).f 0 with
 |out=>rw[h1]at h;cases h
 |bad q=>rw[h1]at h;cases h
 | ok b i=>
   rw[h1,Res.bind_ok]at h;exact OX hn W day n n _ _ _ _ (by intro p hp;rw[List.mem_singleton]at hp;subst hp;simp) h
def Xy(hn3:l.length+3<=n)(h:(BW hn wordsL day n).f 0= .ok a j):j<=l.length:=by
 have:=M7 hn wordsL day n hn3;rw[h]at this;exact this.2
def Nm(hn3:l.length+3<=n):(BW hn wordsL day n).f 0 ≠ .out:=by
 intro e;have:=M7 hn wordsL day n hn3;rw[e]at this;exact this
def JP(a:List Pq):Nat:=(a.map λp=>p.2.2.2).foldr (λb n=>b.nodes+n) 0
def Qm:∀a:List Pq,JP a=Ce a:=by
 intro a;induction a with
 |nil=>rfl
 | cons p r ih=>
   have e1:JP (p::r)=p.2.2.2.nodes+JP r:=rfl;have e2:Ce (p::r)=p.2.2.2.nodes+Ce r:=by simp[Ce]
   rw[e1,e2,ih]
end
def QA:∀l:List Bl,D5 l<=IQ l:=by
 intro l;induction l with
 |nil=>exact nR _
 | cons a r ih=>
   have:=a.levels_le;show max a.levels (D5 r)<=a.nodes+IQ r;omega
def Rm{ok:Nat->Prop}{la:Option Addr}{lc:Nat}{l:List Pd}(hf:RepQ ok w (.slice la l.length lc) l)(hn:Da l<=1000000):
 Calls Tryz.prog 59 #[.slice la l.length lc] w (ρ w (szV (Da l:Int) (D5 (l.map Pd.body):Int))):=by
 obtain⟨cs,hc1,hr1⟩:=hf;obtain⟨_,_,e,hle,hmx,_,hc1⟩:=hc1;cases e;have hmax:l.length<=maxLen:=by omega
 unfold maxLen at hmax;clear hle hmx;have HC:=S hc1;have HR:=S hr1;have hfl:D5 (l.map Pd.body)<=Da l:=QA _;have HA:=S (Acc1.start w);clear hc1 hr1;generalize hNN:Da l=NN at*;generalize hLL:D5 (l.map Pd.body)=LL at*;have HNL:=S (X hNN hLL);clear hNN hLL;go_enter func59,ntmps59;go_wp2_with fail;go_loopg [8] l.length (λg v8 wr=>∃rest:List Pd,∃k n m:Nat,rest.length=g/\l.length=k+rest.length/\v8= .int .i64 k/\n+Da rest=NN/\max m (D5 (rest.map Pd.body))=LL/\RepP ok w rest (cs.drop (k*4))/\Acc1 w n m wr)
 case atStart=>exact⟨l,0,0,0,rfl,by simp,rfl,by rw[HNL.1.1];omega,by rw[HNL.1.2];omega,by simpa using HR.1,HA.1⟩
 case round=>
  obtain⟨rest,k,n,m,hg,hk,rfl,hno,hlv,hrow,hA⟩:=hrel;clear HR HA;have a0:=hA.acc.cell' 0 rfl;have a1:=hA.acc.cell' 1 rfl;have r0:=hA.res.cell' 0 rfl;have r1:=hA.res.cell' 1 rfl;have rf:=λk=>hA.res.frozen k;have rl:=hA.res.lt;have af:=λk=>hA.acc.frozen k;have al:=hA.acc.lt;cases rest with
  | nil=>
    have hkI:decide (k<l.length)=false:=by simp at hk;simp;omega
    have HG:=S (X hA (show n=NN/\m=LL by simp[Da,IQ,D5]at hno hlv;omega));clear hA hk hg hrow hno hlv;go_wp2;refine bZ (Ix rfl _ (HG.1.1.res.set2 _ _) rfl) rfl ⟨by rw[HG.1.2.1,HG.1.2.2],?_⟩;have g:=HG.1.1.g;exact(Af (Af (by assumption) _ _ (.inr (nR _))) _ _ (.inr (nR _)))
  | cons p next=>
    simp only[List.length_cons]at hg hk;subst hg;have hkI:decide (k<l.length)=true:=by simp;omega
    have i0:(0:Int)<=(k:Int):=by omega
    have i1:(k:Int)<(l.length:Int):=by omega
    have hkl:k+1<=l.length:=by omega
    obtain⟨pa,ba,pc,bc,_,h2,hnx,hat⟩:=RepP.elem (k:=k) HC.1 hrow;rw[OY]at hno;have hlv:max m (max p.body.levels (D5 (next.map Pd.body)))=LL:=hlv;have hcl:=p.body.levels_le;have HL:=S (fun(W:World)(gW:wr.grownBy W none)=>YI (p.body.wt+1) p.body (Nat.lt_succ_self _) (by omega) ok ba bc W (h2.gb (Z hA.g gW) (by simp)));have HI:=S (fun(W:World)=>Lw n m p.body.nodes p.body.levels (by omega) (by omega) (by omega) W);have HN:=S (X hnx (show l.length=k+1+next.length/\n+p.body.nodes+Da next=NN/\max (max m p.body.levels) (D5 (next.map Pd.body))=LL from⟨by omega,by omega,by omega⟩));obtain⟨g1,o1,rfl,_,z0⟩:=hat 0 _ rfl;obtain⟨_,_,e1,_,z1⟩:=hat 1 _ rfl;cases e1;obtain⟨_,_,e1,_,z2⟩:=hat 2 _ rfl;cases e1;obtain⟨_,_,e1,_,z3⟩:=hat 3 _ rfl;cases e1;rw[<-Nat.add_assoc]at z0 z1 z2 z3;replace z0:=Ad hA.g z0;replace z1:=Ad hA.g z1;replace z2:=Ad hA.g z2;replace z3:=Ad hA.g z3;simp only[Nat.add_zero]at z0;have hgl:=bY wr _ z0;have HG:=S hA;have hy:=Blk.new wr (pdC p (.slice pa p.p.length pc) (.slice ba p.body.len bc)) 40;have hac:=HG.1.acc.alloc (.cells (pdC p (.slice pa p.p.length pc) (.slice ba p.body.len bc)).toArray 40 (0,0));have HY:=S (X hy hac);have hws:=HG.1.g.size;have q0:=hy.cell' 0 rfl;have q1:=hy.cell' 1 rfl;have q2:=hy.cell' 2 rfl;have q3:=hy.cell' 3 rfl;have hyl:=hy.lt;clear hat hy hac hA h2 hnx hrow hk hno hlv hcl;simp only[pdC]at HY ⊢;go_wp2_with fail;go_region_with(first
     | (go_at_call 86;refine(HL.1 _ ?gg).mono ?_;(case gg=>exact(by repeat(first| (with_reducible exact Aa _ _)| (with_reducible refine Ac ?_ _)| (with_reducible refine Ae ?_))));rintro e w5 ⟨rfl,g5⟩;(have y5:=(HY.1.1.drewN 1).gb g5 (by simp));(have ac5:=(HY.1.2.drewN 1).gb g5 (by simp));(have b0:=y5.cell' 0 rfl);(have b1:=y5.cell' 1 rfl);(have b2:=y5.cell' 2 rfl);(have b3:=y5.cell' 3 rfl);(have d0:=ac5.cell' 0 rfl);(have d1:=ac5.cell' 1 rfl);(have df:=λk=>ac5.frozen k);(have dl:=ac5.lt))
     | (go_at_call 85;refine mR (HI.1 _) λw6 g6=>?_;(have ac6:=ac5.gb g6 (by simp));(have m0:=ac6.cell' 0 rfl);(have m1:=ac6.cell' 1 rfl);(have mf:=λk=>ac6.frozen k);(have ml:=ac6.lt)))
    all_goals
     have hre:=((((HG.1.res.alloc (.cells (pdC p (.slice pa p.p.length pc) (.slice ba p.body.len bc)).toArray 40 (0,0))).drewN 1).gb g5 (by simp)).gb g6 (by simp));have gg:=Ag (Ag (Ae (Ac HG.1.g (.cells (pdC p (.slice pa p.p.length pc) (.slice ba p.body.len bc)).toArray 40 (0,0)))) g5) g6;have HX:=S (X ac6 (X hre gg));clear hre gg;go_wp2;go_roundg next.length
     case measure=>omega
     case rel=>exact⟨next,k+1,_,_,rfl,HN.1.2.1,by go_num,HN.1.2.2.1,HN.1.2.2.2,HN.1.1,(HX.1.2.1.set_other _ _ (by simp)).set_other _ _ (by simp),HX.1.1.set2 _ _,Af (Af HX.1.2.2 _ _ (.inr (by simp<;>omega))) _ _ (.inr (by simp<;>omega))⟩
end Go.Proofs.YtbjfaimkiclhgaaGreatDoor
