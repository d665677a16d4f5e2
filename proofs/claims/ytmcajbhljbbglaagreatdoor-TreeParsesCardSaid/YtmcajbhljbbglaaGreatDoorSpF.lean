/-
  Pieces of scripts that stand in many proofs.
-/
import Derived.WalkKit
import Derived.BigQuiet
import Derived.Deep.QuietTactic
import Derived.WalkSpells
import Derived.StillTailTactics
import Derived.WalkLawsBesides
import Derived.Lib.Hide
import Derived.Deep.RegionWith
import Derived.Deep.RegionHeld3
import Derived.MapKept
import Derived.WideMake
import Derived.KernelRfl
import Derived.Deep.LoopGhost
import Derived.Lib.Case
import Derived.Laws.Rows
import Derived.Shelf.Strings.CaseAny
import Derived.Lib.MapLaws
import Derived.Lib.SmallJoins
import Derived.Defers
import Derived.Recover
import Derived.Lib.ItoaMem
import Derived.IntWalk
import Derived.RangeFuncNested
import Derived.RangeFuncBound
import Derived.RangeFuncCalls
import Derived.RangeFuncLeaves
import Derived.RangeFuncBox
import Derived.Shelf.Abstract
import Derived.OwnWalkIn
import Derived.TacticsInMore
import Derived.LoopNIn
import Derived.LoopIn
import Derived.Maps.AppendAt
import Derived.Deep.AppendLies
import Derived.Deep.RegionLaw
import Derived.Laws.IdiomStrings
import Derived.Deep.Cut
import Derived.Deep.CutRange
import Derived.Deep.DeepCutAuto
import Derived.Shelf.Spec.SlicesGrow
import Derived.Laws.AppendOwnNone
import Derived.Maps.Own
import Derived.Maps.Views
import Derived.Lib.LaidU8
import Derived.Lib.LaidCase
import Derived.Lib.LaidTab
import Derived.PinnedBridge
import Derived.JoinedOf
import Derived.ProofKit
import Derived.OpenShut
import Derived.Carry
import Derived.Lay
import Derived.LaidOnce
import Derived.SevenTiedAt
set_option linter.all false
namespace Go.Proofs.YtmcajbhljbbglaaGreatDoor
def Aa{P:Prop}(h:P):PLift P:=⟨h⟩
theorem Ai{P:Prop}(h:PLift P):P:=h.1
variable {P:Prop}
theorem De(h:P:=by
 repeat(first| (with_reducible assumption)| (with_reducible apply Sc.alloc)| (with_reducible apply Sc.drew)| (with_reducible apply Sc.drewN)| (with_reducible apply Sc.setLine)| (with_reducible apply Sc.setBegun)| (with_reducible apply Sc.setBad)| (with_reducible apply Sc.go)| (with_reducible apply Sc.set_other)|omega| (simp<;>omega))):P:=h
theorem Ag(h:P:=by
 simp;omega):P:=h
theorem Ab(h:P:=by
 omega):P:=h
theorem Ad(h:P:=by
 decide):P:=h
theorem Ae(h:P:=by
 simp):P:=h
theorem DT(h:P:=by
 rw[←HQ.out,hr];rfl):P:=h
theorem DU(h:P:=by
 rw[hr,Res.bind_ok]):P:=h
theorem A6(h:P:=by
 intro q e;cases e;omega):P:=h
theorem AI(h:P:=by
 unfold maxLen;omega):P:=h
theorem Ig(h:P:=by
 intro q hq _;have hq':w4.heap.size<q:=hq;simp;omega):P:=h
theorem Bz(h:P:=by
 rw[←HQ.out,hr6];rfl):P:=h
theorem B8(h:P:=by
 rw[←HQ.out,e];rfl):P:=h
theorem GU(h:P:=by
 intros;simp;omega):P:=h
theorem Bj(h:P:=by
 rw[Rd.pure_f]):P:=h
theorem Cx(h:P:=by
 rw[if_neg (ne_true_of_eq_false hs)]):P:=h
theorem FT(h:P:=by
 intro k hk;exact hk.1):P:=h
theorem Bp(h:P:=by
 rw[hr6];simp):P:=h
theorem Ao(h:P:=by
 rfl):P:=h
theorem BQ(h:P:=by
 rw[Rd.bind_f]):P:=h
theorem Xv(h:P:=by
 obtain⟨cs,⟨a9,c9,e9,_⟩,_⟩:=hB;exact⟨a9,c9,e9⟩):P:=h
theorem Df(h:P:=by
 have:=HK.out.bw;omega):P:=h
theorem Dg(h:P:=by
 simp[Value.oneCell']):P:=h
theorem CU(h:P:=by
 rw[Res.bind_ok]):P:=h
theorem JM(h:P:=by
 intro q hq _;have:=hok q hq;show w.heap.size≤q;omega):P:=h
theorem Bk(h:P:=by
 kernel_rfl):P:=h
theorem BE(h:P:=by
 simpa using hk):P:=h
theorem ML(h:P:=by
 rw[if_neg (ne_true_of_eq_false hw)]):P:=h
theorem Eo(h:P:=by
 first|omega| (simp;omega)):P:=h
theorem Qg(h:P:=by
 rw[←HQ.out,hr]):P:=h
theorem JN(h:P:=by
 intro q hq _ e;have:=hok q hq;cases e;omega):P:=h
theorem EK(h:P:=by
 simp[zeroE,Value.oneCell']):P:=h
theorem Cg(h:P:=by
 rw[←HQ.out,e]):P:=h
theorem MF(h:P:=by
 intro q hq _;have hq':w11.heap.size≤q:=hq;simp;omega):P:=h
theorem EI(h:P:=by
 rw[if_pos hs]):P:=h
theorem JG(h:P:=by
 intro q hq _ e;cases e;have:=hq.1;omega):P:=h
theorem MG(h:P:=by
 simp[results,results113,go_sem]):P:=h
theorem MH(h:P:=by
 simp[results,results175,go_sem]):P:=h
theorem Qd(h:P:=by
 simp[results,results242,go_sem];try(congr 1;omega)):P:=h
theorem FS(h:P:=by
 simp[hdC,Value.oneCell']):P:=h
theorem D3(h:P:=by
 simpa using he):P:=h
theorem MI(h:P:=by
 simp[results,results162,go_sem]):P:=h
theorem Xs(h:P:=by
 rw[Rd.fin_f]):P:=h
theorem Fk(h:P:=by
 rw[hr6,Res.bind_ok]):P:=h
theorem If(h:P:=by
 intro k hk _ e;cases e;omega):P:=h
theorem IU(h:P:=by
 intro k hk;cases hk;omega):P:=h
theorem JH(h:P:=by
 simp[Fo.one,Ex.fo,Fo.len]):P:=h
theorem Xt(h:P:=by
 simp[results,results245,go_sem];try(congr 1;omega)):P:=h
theorem GT(h:P:=by
 intro q e;cases e;exact hbL):P:=h
theorem D4(h:P:=by
 simpa using hq):P:=h
theorem La(h:P:=by
 simp[sb,Sd.nodes,sd0,Fo.nodes,Bl.nodes];omega):P:=h
theorem Em(h:P:=by
 rw[Rd.must_f]):P:=h
theorem Lb(h:P:=by
 simp[sw,Sd.nodes,sd0,Fo.nodes,Bl.sum];omega):P:=h
theorem Qe(h:P:=by
 have:=(List.getElem?_eq_some_iff.1 hu).1;exact this):P:=h
theorem JI(h:P:=by
 intro q hq _ e;cases e;omega):P:=h
theorem JJ(h:P:=by
 simp[pdC,Value.oneCell']):P:=h
theorem En(h:P:=by
 decide+kernel):P:=h
theorem AbH(h:P:=by
 intro k hk;have:_≤k:=hk;omega):P:=h
theorem Qf(h:P:=by
 rw[←HR.out,ho];rfl):P:=h
theorem Xu(h:P:=by
 intro k hk;have hk:w2.heap.size≤k:=hk;exact⟨by omega,fun e=>by have:=(hol k e).2;omega⟩):P:=h
theorem JK(h:P:=by
 simp[results,results12,go_sem]):P:=h
theorem Lc(h:P:=by
 simp[results,results13,go_sem]):P:=h
theorem Ld(h:P:=by
 rcases hq with h|h<;>rw[h]<;>decide):P:=h
theorem EJ(h:P:=by
 simp<;>omega):P:=h
theorem Fl(h:P:=by
 rw[Rd.expr_f]):P:=h
theorem MJ(h:P:=by
 unfold Addr.add;split<;>simp_all):P:=h
theorem MK(h:P:=by
 simp[results,results59,go_sem]):P:=h
theorem JL(h:P:=by
 rw[if_pos hw]):P:=h
theorem Ii(h:P:=by
 simp[set7]):P:=h
theorem MP(h:P:=by
 intro e;exact k.mL (by cases e;rfl)):P:=h
theorem MQ(h:P:=by
 intro q hq _;simp;omega):P:=h
theorem Lh(h:P:=by
 simp[Sd.nodes,sd0,Fo.nodes]):P:=h
theorem Qs(h:P:=by
 first|exact⟨_,rfl⟩|exact⟨_,Ue _ _ _⟩):P:=h
theorem XA(h:P:=by
 intro q hq;have:(wb).heap.size≤q:=hq;omega):P:=h
theorem GV(h:P:=by
 simpa using hw):P:=h
theorem XB(h:P:=by
 rw[if_neg (ne_true_of_eq_false (show Rd.atEnd l i=false from hk))]):P:=h
theorem IX(h:P:=by
 rw[Rd.ifw_f]):P:=h
theorem Qt(h:P:=by
 simp[results,results104,go_sem]):P:=h
theorem Qu(h:P:=by
 simp[results,results110,go_sem]):P:=h
theorem MR(h:P:=by
 simp[results,results209,go_sem]):P:=h
theorem MS(h:P:=by
 simp[results,results212,go_sem]):P:=h
theorem JQ(h:P:=by
 simp only[Bv];omega):P:=h
theorem MT(h:P:=by
 simp[results,results23,go_sem]):P:=h
theorem Li(h:P:=by
 rw[←HR.out,e];rfl):P:=h
theorem Lj(h:P:=by
 simp[MapKept.IsKey]):P:=h
theorem XC(h:P:=by
 have:s≠BH:=fun e=>h0 (by rw[e];decide);simpa using this):P:=h
theorem XD(h:P:=by
 have:s≠CC:=fun e=>h0 (by rw[e];decide);simpa using this):P:=h
theorem XE(h:P:=by
 obtain⟨cs,⟨a9,c9,e9,_⟩,_⟩:=hv;exact⟨a9,c9,e9⟩):P:=h
theorem XF(h:P:=by
 intro q hq _ e;cases e;exact hq.2 rfl):P:=h
theorem XG(h:P:=by
 simp[Fo.len_snoc,Fo.one,Ex.fo,Fo.len]):P:=h
theorem XH(h:P:=by
 simpa using List.drop_eq_nil_iff.1 hd):P:=h
theorem IY(h:P:=by
 rw[Rd.name_f]):P:=h
theorem XI(h:P:=by
 have:=HK.out.blk.cell' 2 rfl;rw[hf0]at this;exact this):P:=h
theorem XJ(h:P:=by
 intro k hk _ e;cases e;have:w1.heap.size≤b:=hk;omega):P:=h
theorem Xw(h:P:=by
 simp only[DN,AC,Ex.nodes,Fo.nodes_two,Fo.nodes];omega):P:=h
theorem MM(h:P:=by
 intro q e;cases e;exact hL):P:=h
theorem Qh(h:P:=by
 intro q hq _ e;cases e;exact hq rfl):P:=h
theorem Xx(h:P:=by
 intro q hq _;have hq':w6.heap.size≤q:=hq;simp;omega):P:=h
theorem Qi(h:P:=by
 rcases h2 with rfl|rfl|rfl<;>decide):P:=h
theorem Xy(h:P:=by
 simp[List.getD_eq_getElem?_getD,h1]):P:=h
theorem Xz(h:P:=by
 simp[Af,List.getElem?_eq_none (Nat.le_of_not_lt hi)]):P:=h
theorem IV(h:P:=by
 simp[Fo.nodes]):P:=h
theorem Le(h:P:=by
 simpa using hs):P:=h
theorem Ih(h:P:=by
 rw[ho2];simp):P:=h
theorem JO(h:P:=by
 have:=h0.1;omega):P:=h
theorem X0(h:P:=by
 have:t≠JD:=fun e=>hto (.inr e);simpa using this):P:=h
theorem X1(h:P:=by
 have:t≠wON:=fun e=>hto (.inl e);simpa using this):P:=h
theorem X2(h:P:=by
 simp only[AC,Ex.nodes,Fo.nodes_one,Fo.nodes];omega):P:=h
theorem X3(h:P:=by
 have:s≠I3:=fun e=>hus (.inr e);simpa using this):P:=h
theorem X4(h:P:=by
 have:t≠JD:=fun e=>ht (.inr e);simpa using this):P:=h
theorem X5(h:P:=by
 have:t≠wON:=fun e=>ht (.inl e);simpa using this):P:=h
theorem X6(h:P:=by
 have:s≠Er:=fun e=>hs (.inr e);simpa using this):P:=h
theorem IW(h:P:=by
 rw[Rd.skip_f]):P:=h
theorem Qj(h:P:=by
 intro e;cases e;exact c3 h0 rfl):P:=h
theorem Qk(h:P:=by
 rcases h1 with rfl|rfl<;>decide):P:=h
theorem Ql(h:P:=by
 simp[results,results183,go_sem]):P:=h
theorem Lf(h:P:=by
 have:=HN.out;omega):P:=h
theorem Qm(h:P:=by
 rw[Res.bind_assoc]):P:=h
theorem Qn(h:P:=by
 simp only[Sd.nodes]at hs;omega):P:=h
theorem JP(h:P:=by
 simpa using h1):P:=h
theorem Lg(h:P:=by
 simpa using hi):P:=h
theorem MN(h:P:=by
 intro k hk;simp;omega):P:=h
theorem X7(h:P:=by
 have:=gb.size;simp at*;omega):P:=h
theorem Qo(h:P:=by
 cases e;rfl):P:=h
theorem Qp(h:P:=by
 have:=k.bw;have:=k.wL;omega):P:=h
theorem MO(h:P:=by
 simp at h1 ⊢;omega):P:=h
theorem X8(h:P:=by
 show w.heap.size≤_;omega):P:=h
theorem Qq(h:P:=by
 simp[ByteArray.size];omega):P:=h
theorem X9(h:P:=by
 rw[hr]):P:=h
theorem Qr(h:P:=by
 simp[FP,Value.oneCell']):P:=h
theorem Lm(h:P:=by
 simpa using h0):P:=h
theorem Ln(h:P:=by
 simpa using h7):P:=h
theorem Lo(h:P:=by
 simpa using h9):P:=h
theorem Qz(h:P:=by
 simpa using hj):P:=h
theorem JV(h:P:=by
 rw[hs8];rfl):P:=h
theorem Lp(h:P:=by
 simpa using h):P:=h
theorem MW(h:P:=by
 rw[HH.out.2,hok]):P:=h
theorem MX(h:P:=by
 simp[hkl,HC.out]):P:=h
theorem Q0(h:P:=by
 simp[set10,set7]):P:=h
theorem JW(h:P:=by
 obtain⟨pa9,xa9,ba9,na9,fa9,wa9,pc9,xc9,bc9,nc9,fc9,wc9,e91,e92,e93,e94,e95,e96⟩:=(HK).out.shapes;have RU{P}(h:P:=by have hkb:=(HK).out.blk;have hkz:=(HK).out.zero;have RY{P}(h:P:=by exact Ai Kj):=Aa h;exact Rg):=Aa h;exact QZ):P:=h
theorem DV(h:P:=by
 clear HK;intro W hW;obtain⟨pv0,xv0,nv0,fv0,wv0,hK0,hR0⟩:=hW;have HK0:=Z hK0;clear hK0;obtain⟨pa9,xa9,ba9,na9,fa9,wa9,pc9,xc9,bc9,nc9,fc9,wc9,e91,e92,e93,e94,e95,e96⟩:=(HK0).out.shapes;have RU{P}(h:P:=by
 have hkb:=(HK0).out.blk;have hkz:=(HK0).out.zero;have RY{P}(h:P:=by
 have hres9:=jO (HK0).out hR0;have hblk9:=(HK0).out.out.2.2.1;refine bodyPost_ret ?hr9 rfl hres9
 case hr9=>exact FL rfl _ hblk9 rfl rfl):=Aa h;exact Rg):=Aa h;exact QZ):P:=h
theorem XY(h:P:=by
 have RY{P}(h:P:=by exact Ai eC):=Aa h;exact Rg):P:=h
theorem Q1(h:P:=by
 have RU{P}(h:P:=by exact Ai R5):=Aa h;exact QZ):P:=h
theorem XZ(h:P:=by
 clear g rp rl gN hsince hp7;have hlz:=HZ.out.1.lt;have hlL:=hL.lt;have hbLT:b<w6.heap.size∧w.heap.size<w6.heap.size:=by simp at hlz hlL;omega
 have HS:=Z (nR hp [61]);clear hp;go_wp2_with fail;refine HS.out.mono ?_;rintro e w7 ⟨rfl,hp9,g⟩;replace hL:=hL.gb g Ag;replace HX:=Z (Ac (HX.out.1.gb g (fun q hq _ e=>by cases e;omega)) (HX.out.2.gb g (fun q hq _ e=>by cases e;omega)));replace HZ:=Z (Ac (HZ.out.1.gb g Ag) (Ah HZ.out.2 g));have hp:=hp9;clear g hp9 HS;generalize hsg:Ak (Af l i6) [61]=ok at*;clear hsg;go_upto_if 52 with fail
 go_cut []from 9 (fun wx=>∃j8,Par wx b tv wo l wordsL j8∧(Blk wx w.heap.size (stC 0 (.slice none 0 0)) 50∧w.grownBy wx (some b))∧Blk wx w6.heap.size (hdC t.h (.slice pa t.h.p.length pc) (.slice la t.kids.len lc)) 29∧(Cells wx (.slice pa t.h.p.length pc) 1 t.h.p.length (t.h.p.map str) (fun q=>w.heap.size<q)∧RepL (fun q=>w.heap.size<q) wx (.slice la t.kids.len lc) t.kids)∧((Aw l day n j8).bind fun x j=>(BP l j).bind fun _ j=>Res.ok ({sd0 0 []with x:= .two t x},Bl.nil) j)=R)
 case first=>
  cases ok with
  | true=>
    have hp1:Par w7 b tv wo l wordsL (i6+1):=hp;have e1:((Aw l day n (i6+1)).bind fun x j=>(BP l j).bind fun _ j=>Res.ok ({sd0 0 []with x:= .two t x},Bl.nil) j)=R:=HQ.out;have HQ1:=Z e1;clear e1;go_wp2;go_meet
    case rel=>exact⟨_,hp1,HZ.out,hL,HX.out,HQ1.out⟩
  | false=>
    have hp1:Par w7 b tv wo l wordsL i6:=hp;replace hp:=hp1;clear hp1;have e1:Res.bind (Br l [58,61] i6) _=R:=HQ.out;replace HQ:=Z e1;clear e1;have hlz:=HZ.out.1.lt;have hl7:=hL.lt;go_wp2_with fail;refine(Ec hp [58,61]).mono ?_;intro e w8 hq;obtain⟨g,⟨q,hr,rfl⟩| ⟨u,i8,v,hr,rfl,rfl,hp9⟩⟩:=hq.split
    ·exact⟨rfl,Post.bad (Ah HZ.out.2 g) DT⟩
    replace HZ:=Z (Ac (HZ.out.1.gb g Ag) (Ah HZ.out.2 g));replace hp:=hp9;clear hp9;replace HQ:=HQr HQ DU;clear hr;have hL8:=hL.gb g Ag;have HX8:=Z (Ac (HX.out.1.gb g (fun q hq _ e=>by cases e;omega)) (HX.out.2.gb g (fun q hq _ e=>by cases e;omega)));clear g hL HX;go_wp2;go_meet
    case rel=>exact⟨_,hp,HZ.out,hL8,HX8.out,HQ.out⟩
 case rest=>
 obtain⟨j8,hp1,hz1,hL8,hX1,hq1⟩:=hcut;replace HZ:=Z hz1;have HX8:=Z hX1;replace HQ:=Z hq1;replace hp:=hp1;clear hp1 hz1 hX1 hq1 hL HX;generalize hWW:wc=w8 at*;clear hWW;have hok:∀q,w.heap.size<q→some q≠some b:=fun q hq e=>by cases e;omega
 have hzlt2:w.heap.size<w8.heap.size:=by have:=HZ.out.1.lt;omega
 have hLb:=hL8.lt;obtain⟨cl_0,cl_1,cl_2,cl_3,cl_4,cl_5,cl_6,cl_f⟩:=(hL8).c7;cases hr6:Aw l day n j8 with
 |out=>exact absurd Bz HO.out
 | bad q6=>
   go_wp2_with fail;go_region_with(first| (go_at_call 56;refine(HE.out _ _ (hp.gbN (An (Aj w8 none))) Bp).mono ?_;rintro e w9 h9;rw[hr6]at h9;obtain⟨g9,rfl⟩:=h9;refine Cd (P:=Tryz.prog) ⟨rfl,Post.bad (Ah (An HZ.out.2) g9) Bz⟩ ⟨#[],[]⟩ w9 ?_)| (go_at_call 56;refine(HE.out _ _ ((hp.alloc (.cells (stC 0 (.slice none 0 0)).toArray 50 (0,0))).gbN (An (Aj _ none))) Bp).mono ?_;rintro e w9 h9;rw[hr6]at h9;obtain⟨g9,rfl⟩:=h9;refine Cd (P:=Tryz.prog) ⟨rfl,Post.bad (Ah (An (Ar HZ.out.2 (.cells (stC 0 (.slice none 0 0)).toArray 50 (0,0)))) g9) Bz⟩ ⟨#[],[]⟩ w9 ?_));all_goals trivial
 |ok x i9=>
 replace HQ:=HQr HQ Fk;go_upto_region 18 with fail;go_cut [8]from 9 (fun v8 wx=>∃kS kR,v8= .pointer (some ⟨kS,0,none⟩)∧ME b tv wo l wordsL w t x i9 kS kR wx)
 case first=>
  go_region_with(first| (go_at_call 56;refine(HE.out _ _ (hp.gbN (An (Aj w8 none))) Bp).mono ?_;rintro e w9 ⟨g9,h9⟩;rw[hr6]at h9;obtain⟨v,rfl,⟨pa2,pc2,la2,lc2,rfl,rp2,rl2⟩,hp9⟩:=h9;have gD:=Ah (An (Aj w8 (some b))) g9;have hL9:=hL8.gb gD Ag;have hL9t:=hL9.lt;obtain⟨dl_0,dl_1,dl_2,dl_3,dl_4,dl_5,dl_6,dl_f⟩:=(hL9).c7;have HY:=Z (Ac rp2 rl2);clear rp2 rl2)| (go_at_call 56;refine(HE.out _ _ ((hp.alloc (.cells (stC 0 (.slice none 0 0)).toArray 50 (0,0))).gbN (An (Aj _ none))) Bp).mono ?_;rintro e w9 ⟨g9,h9⟩;rw[hr6]at h9;obtain⟨v,rfl,⟨pa2,pc2,la2,lc2,rfl,rp2,rl2⟩,hp9⟩:=h9;have gD:=Ah (An (Ar (Aj w8 (some b)) (.cells (stC 0 (.slice none 0 0)).toArray 50 (0,0)))) g9;have hL9:=hL8.gb gD Ag;have hL9t:=hL9.lt;obtain⟨dl_0,dl_1,dl_2,dl_3,dl_4,dl_5,dl_6,dl_f⟩:=(hL9).c7;have HY:=Z (Ac rp2 rl2);clear rp2 rl2;have hS9:=((Blk.new w8 (stC 0 (.slice none 0 0)) 50).drew).gb g9 (by have:=hp.lt;simp;omega);obtain⟨sl_0,sl_1,sl_2,sl_3,sl_4,sl_5,sl_6,sl_7,sl_8,sl_9,sl_f⟩:=(hS9).c10;have hS9t:=hS9.lt));all_goals
   have hzD:=HZ.out.1.gb gD Ag;have grD:=Ah HZ.out.2 gD;have hs89:=gD.size;first
   | have hP:SetPre b tv wo l wordsL w t x pa la pa2 la2 pc lc pc2 lc2 i9 (fun q=>w.heap.size<q∧q≠w8.heap.size) w9:=⟨hp9,(HX8.out.1.mono (ok':=fun q=>w.heap.size<q∧q≠w8.heap.size) (fun q hq h=>⟨hq,by omega⟩)).gb gD JG,(HX8.out.2.mono (ok':=fun q=>w.heap.size<q∧q≠w8.heap.size) (fun q hq h=>⟨hq,by omega⟩)).gb gD JG,HY.out.1.mono (fun q hq _=>by simp at hq;exact⟨by omega,by omega⟩),HY.out.2.mono (fun q hq _=>by simp at hq;exact⟨by omega,by omega⟩),grD,hzD,hb,fun q hq=>hq.1⟩
     have hF:=hP.C hS9 hzlt2 (fun q hq=>hq.2);go_wp2_with fail;go_meet
     case rel=>exact⟨_,_,rfl,hF⟩
   | have hP:SetPre b tv wo l wordsL w t x pa la pa2 la2 pc lc pc2 lc2 i9 (fun q=>w.heap.size<q) w9:=⟨hp9,HX8.out.1.gb gD (fun q hq _=>hok q hq),HX8.out.2.gb gD (fun q hq _=>hok q hq),HY.out.1.mono (fun q hq _=>by simp at hq;omega),HY.out.2.mono (fun q hq _=>by simp at hq;omega),grD,hzD,hb,fun q hq=>hq⟩
     go_wp2_with fail;go_meet
     case rel=>
      first
      |exact⟨_,_,rfl,hP.A⟩
      |exact⟨_,_,rfl,hP.B⟩
 case rest=>
 obtain⟨kS,kR,rfl,hW⟩:=hcut;generalize hWW:wc=W at*;clear hWW cl_0 cl_1 cl_2 cl_3 cl_4 cl_5 cl_6 cl_f hL8 HX8 HZ hp hr6;have hne:=hW.ne;go_wp2_with fail;refine(Gb hW.par).mono ?_;intro e w10 hq;obtain⟨g,⟨q,hr,rfl⟩| ⟨u,i10,v,hr,rfl,rfl,hp10⟩⟩:=hq.split
 ·exact⟨rfl,Post.bad (Ah hW.gr g) DT⟩
 replace HQ:=HQr HQ DU;clear hr;have hS:=hW.st.gb g Ag;have hZ:=hW.zero.gb g Ag;have HF:=Z (Ac hp10 (Ac (Ah hW.gr g) (hW.row.gb g (fun q hq _=>hok q hq))));clear hp10 hW g;obtain⟨sl_0,sl_1,sl_2,sl_3,sl_4,sl_5,sl_6,sl_7,sl_8,sl_9,sl_f⟩:=(hS).c10;obtain⟨zl_0,zl_1,zl_2,zl_3,zl_4,zl_5,zl_6,zl_7,zl_8,zl_9,zl_f⟩:=(hZ).c10;have hSl:=hS.lt;have HZ9:=Z hZ;clear hZ hS;go_wp2;refine bodyPost_ret (FL rfl _ (HZ9.out.set10 _ _ _ _ _ _ _ _ _ _) rfl rfl) rfl (Post.ok (A5 HF.out.2.1 (FZ _ _ _ _ _ _ _ _ _ _ _ _) (.inr (Nat.le_refl _))) HQ.out.symm (StV.x (op:=0) (s:=[]) (f:= .two t x) ((HF.out.2.2.gb (FZ _ _ _ _ _ _ _ _ _ _ _ _) (fun q hq _ e=>by cases e;omega)).mono (fun q hq _=>Nat.le_of_lt hq))) (HF.out.1.gb (FZ _ _ _ _ _ _ _ _ _ _ _ _) (by intro q e;cases e;exact hb)))):P:=h
theorem EL(h:P:=by
 have hb:=h.lt;have hz:=Blk.new w (stC 0 (.slice none 0 0)) 50;have gz:w.grownBy (w.alloc (.cells (stC 0 (.slice none 0 0)).toArray 50 (0,0))) (some b):=Ar (Aj _ _) _;have HN:=Z (Gc (h.alloc (.cells (stC 0 (.slice none 0 0)).toArray 50 (0,0))) (fun _=>hi));clear h;go_enter func136,ntmps136;go_wp2_with fail;refine HN.out.mono ?_;rintro e w1 ⟨g1,v,rfl,rfl,h1⟩;have HZ:=Z (Ac (hz.gb g1 Ag) (Ah gz g1));have hl1:=HZ.out.1.lt;clear hz gz g1 HN;exact Ai EO):P:=h
theorem JX(h:P:=by
 refine bodyPost_ret ?hr9 rfl hres9
 case hr9=>exact FL rfl _ hblk9 rfl rfl):P:=h
theorem Gu(h:P:=by
 go_wp2_with fail;refine HC.out.mono ?_;intro e w4 hq;obtain⟨g,⟨q,hr,rfl⟩| ⟨s9,j9,v,hr,rfl,hv,hp9⟩⟩:=hq.split
 ·exact⟨rfl,Post.bad (Ah HZ.out.2 g) Qg⟩
 obtain⟨pa,xa,ba,na,fa,wa,pc,xc,bc,nc,fc,wc,rfl,hz9,hpp,hbk⟩:=jM hb HZ.out.1 HZ.out.2 g hv hp9 (HQ.out.symm.trans hr);have HE9:=Z (Ac hpp hbk);have hkl9:=hz9.lt;obtain⟨cz_0,cz_1,cz_2,cz_3,cz_4,cz_5,cz_6,cz_7,cz_8,cz_9,cz_f⟩:=(hz9).c10;clear g hv hp9 hz9 hpp hbk hr;go_wp2;refine bodyPost_ret ?hr9 rfl HE9.out.1
 case hr9=>exact FL rfl _ HE9.out.2 rfl rfl):P:=h
theorem MY(h:P:=by
 go_wp2_with fail;refine(BR hR).mono ?_;rintro e w11 ⟨g,v,rfl,rfl,h9⟩;have Ep{P}(h:P:=by replace hR:=h9;simp only at hR;clear h9;have hs11:=g.size;replace hT:=hT.gb g Ag;replace hV9:=Z (hV9.out.gb g Ig);replace hTl:=hT.lt;clear g;go_wp2_with fail;refine(HBk.out _ _ _ hR HX.out.2.1).mono ?_;rintro e w7 ⟨g,v,rfl,hB,h9⟩;have hs7:=g.size;have Ep{P}(h:P:=by replace hT:=hT.gb g Ag;replace hV9:=Z (hV9.out.gb g Ig);replace hTl:=hT.lt;simp only at hB h9;obtain⟨ba,bc,rfl⟩:∃ba bc,v= .slice ba c.len bc:=Xv;have t3:=hT.cell' 3 rfl;have tf:=hT.frozen 3;have gS:=As (Aj w7 (some w4.heap.size)) 3 (.slice ba c.len bc);exact Ai NC):=Aa h;exact Eg):=Aa h;exact Eg):P:=h
theorem AbL(h:P:=by
 go_upto_region 41 with fail;refine AL (fun W=>(∃pv xv nv fv wv,KS b w (w.heap.size+1) W _ .nil pv xv (.slice none 0 0) nv fv wv)∧Par W b tv wo l wordsL _) ⟨⟨_,_,_,_,_,HK.out⟩,hp⟩ ?_;clear HK hp;rintro W9 ⟨⟨pv0,xv0,nv0,fv0,wv0,hK0⟩,hp⟩;have HK:=Z hK0;clear hK0;exact Ai Abf):P:=h
theorem Lq(h:P:=by
 have hb:=h.lt;have HO:=Z ho;generalize hR:(C7 hn wordsL day n block).f i=R at*;have HTk:=Z hok;have HSh:=Z hl;have HE:=Z hE;have RV{P}(h:P:=by have hp:=h.alloc (.cells (stC 0 (.slice none 0 0)).toArray 50 (0,0));clear hok hl hE ho h;go_enter func130,ntmps130;go_wp2_with fail;refine(CI hp).mono ?_;rintro e w1 ⟨rfl,g⟩;have gA:=Ar g (.cells #[.int .i64 (Af l i).kind,.int .i64 (Af l i).pos,str (Af l i).text] 89 (0,0));have hT:=Blk.new w1 [.int .i64 (Af l i).kind,.int .i64 (Af l i).pos,str (Af l i).text] 89;have hbs:=g.size;simp at hbs;replace HZ:=Z (Ac (HZ.out.1.gb gA Ae) (A0 HZ.out.2 gA));replace hp:=hp.gbN gA;clear g gA;go_wp2_with fail;refine(Oc hp HTk.out).mono ?_;rintro e w2 ⟨rfl,g⟩;replace HZ:=Z (Ac (HZ.out.1.gb g Ae) (A0 HZ.out.2 g));replace hp:=hp.gbN g;replace hT:=hT.gb g Ae;clear g;exact Ai L9):=Aa h;exact Ra):P:=h
theorem AT(h:P:=by
 replace HK:=Z (HK.out.gb g);replace hp:=hp9;clear hp9;replace HQ:=HQr HQ DU;clear hr;exact Ai AV):P:=h
theorem IZ(h:P:=by
 go_enter func277,ntmps277;go_wp2_with fail;refine HT0.out.mono ?_;rintro e w1 ⟨rfl,g1⟩;have hZ1:=(H.out.2.1.gb g1 Ae).alloc (.cells #[.int .i64 t.kind,.int .i64 t.pos,str t.text] 89 (0,0));have hR1:=(H.out.2.2.2.gbN g1).alloc (.cells #[.int .i64 t.kind,.int .i64 t.pos,str t.text] 89 (0,0));have hTk:=Blk.new w1 [.int .i64 t.kind,.int .i64 t.pos,str t.text] 89;have G1:=Z (Ar (A0 H.out.2.2.1 g1) (.cells #[.int .i64 t.kind,.int .i64 t.pos,str t.text] 89 (0,0)));have hb1:b<w1.heap.size:=Nat.lt_of_lt_of_le H.out.2.2.2.lt g1.size;have hw1:w.heap.size<w1.heap.size:=Nat.lt_of_lt_of_le Ae g1.size;clear g1 HT0;exact Ai Jd):P:=h
theorem Ya(h:P:=by
 have hb2:=h2.lt;have hs2:=hS2.lt;have HC:=Z (HX.out.1 _ _ _ h2 HX.out.2);have HQ:=Z (Ac hT2 (Ac hS2 G2));clear hT2 hS2 G2 h2;go_wp2_with fail;refine HC.out.mono ?_;rintro e w3 ⟨g3,v,rfl,⟨pb,pd,lb,ld,rfl,rp,rl⟩,h3⟩;simp only at rp rl h3 ⊢;have hs3:=g3.size;have HV:=Z (Ac rp rl);have h4:=h3.alloc (.cells (hdC x.h (.slice pb x.h.p.length pd) (.slice lb x.kids.len ld)).toArray 29 (0,0));have hE4:=Blk.new w3 (hdC x.h (.slice pb x.h.p.length pd) (.slice lb x.kids.len ld)) 29;have gX:=World.grownBy_alloc w3 (.cells (hdC x.h (.slice pb x.h.p.length pd) (.slice lb x.kids.len ld)).toArray 29 (0,0)) none;have HN:=Z (BR h4);have HK:=Z (Ac hE4 (Ac ((HQ.out.1.gb g3 Ag).gb gX Ae) (Ac ((HQ.out.2.1.gb g3 Ag).gb gX Ae) (Ac (A0 g3 gX) gX))));clear rp rl h3 h4 hE4 gX g3 HC;go_wp2_with fail;refine HN.out.mono ?_;rintro e w5 ⟨g5,v,rfl,rfl,h5⟩;have hE5:=HK.out.1.gb g5 Ag;have hT5:=HK.out.2.1.gb g5 Ag;have hS5:=HK.out.2.2.1.gb g5 Ag;have hs5:=g5.size;have HG:=Z (Ac (Ah HK.out.2.2.2.1 g5) (Ac (Ah (AY HK.out.2.2.2.2) g5) h5));clear g5 h5 HN;obtain⟨ce_0,ce_1,ce_2,ce_3,ce_4,ce_5,ce_6,ce_f⟩:=(hE5).c7;obtain⟨ct_0,ct_1,ct_2,ct_3,ct_4,ct_5,ct_6,ct_f⟩:=(hT5).c7;have cs_0:=hS5.cell' 0 rfl;have cs_1:=hS5.cell' 1 rfl;have cs_2:=hS5.cell' 2 rfl;have cs_3:=hS5.cell' 3 rfl;have cs_4:=hS5.cell' 4 rfl;have cs_5:=hS5.cell' 5 rfl;have cs_6:=hS5.cell' 6 rfl;have cs_7:=hS5.cell' 7 rfl;have cs_8:=hS5.cell' 8 rfl;have cs_9:=hS5.cell' 9 rfl;have hSf:=fun i=>hS5.frozen i;have hSl:=hS5.lt;have hEl:=hE5.lt;have hTl:=hT5.lt
 have HS:=Z hS5;clear hE5 hT5 hS5 ce_f ct_f;go_wp2;have G:=Ah HQ.out.2.2 HG.out.1;have g10:=FZ w5 (w.heap.size+1) (.int .i64 0) (str []) (str []) (.slice none 0 0) (.slice (some ⟨w5.heap.size,0,none⟩) 2 2) (.slice none 0 0) (.int .i64 0) (.slice none 0 0) (.slice none 0 0) (.slice none 0 0);have hne:∀q,(B≤q∧q≠w.heap.size+1)→some q≠some b:=fun q h e=>by cases e;omega
 have hne2:∀q,(B≤q∧q≠w.heap.size+1)→some q≠some (w.heap.size+1):=fun q h e=>by cases e;exact h.2 rfl
 have t1:=((HP.out.1.mono (ok':=fun q=>B≤q∧q≠w.heap.size+1) (fun q h hq=>⟨h,by omega⟩)).gb G (fun q h _=>hne q h)).gb g10 (fun q h _=>hne2 q h);have t2:=((HP.out.2.mono (ok':=fun q=>B≤q∧q≠w.heap.size+1) (fun q h hq=>⟨h,by omega⟩)).gb G (fun q h _=>hne q h)).gb g10 (fun q h _=>hne2 q h);have x1:=((HV.out.1.mono (ok':=fun q=>B≤q∧q≠w.heap.size+1) (fun q h hq=>by have:w2.heap.size≤q:=h;omega)).gb HG.out.2.1 (fun q h _=>hne q h)).gb g10 (fun q h _=>hne2 q h);have x2:=((HV.out.2.mono (ok':=fun q=>B≤q∧q≠w.heap.size+1) (fun q h hq=>by have:w2.heap.size≤q:=h;omega)).gb HG.out.2.1 (fun q h _=>hne q h)).gb g10 (fun q h _=>hne2 q h);have R:=RepL.two (n:=w5.heap.size) (x:=t) (y:=x) Q0 Ab t1 t2 x1 x2;exact bodyPost_ret (FL rfl _ ((HS.out.set10 (.int .i64 0) (str []) (str []) (.slice none 0 0) (.slice (some ⟨w5.heap.size,0,none⟩) 2 2) (.slice none 0 0) (.int .i64 0) (.slice none 0 0) (.slice none 0 0) (.slice none 0 0)).alloc _) rfl rfl) rfl
  ⟨Ar (A5 G g10 (.inr Ab)) _,_,rfl,StV.x (op:=0) (s:=[]) (f:= .two t x) (xa:=some ⟨w5.heap.size,0,none⟩) (xc:=2) (R.mono (fun q h _=>h.1)),(HG.out.2.2.gb g10 (fun k e=>by cases e;omega)).alloc _⟩):P:=h
theorem GW(h:P:=by
 go_wp2_with fail;refine HC.out.mono ?_;rintro e w2 ⟨g2,v,rfl,hv,h2⟩;obtain⟨s,st2⟩:=r;obtain⟨pa,xa,ba,na,fa,wa,pc,xc,bc,nc,fc,wc,rfl,hz2,hp,hbk⟩:=Og hb HZ.out.1 HZ.out.2 g2 hv h2;have HE:=Z (Ac hp hbk);have hkl2:=hz2.lt;obtain⟨cz_0,cz_1,cz_2,cz_3,cz_4,cz_5,cz_6,cz_7,cz_8,cz_9,cz_f⟩:=(hz2).c10;clear g2 hv h2 hz2 hp hbk HC;exact Oo):P:=h
theorem Q2(h:P:=by
 have hkb:=HK.out.blk;have hkz:=HK.out.zero;have hkl:=hkb.lt;have hkl2:=hkz.lt;have ck_0:=(hkb).cell' 0 rfl;have ck_1:=(hkb).cell' 1 rfl;have ck_2:=(hkb).cell' 2 rfl;have ck_3:=(hkb).cell' 3 rfl;have ck_f:=fun i=>(hkb).frozen i;have cz_0:=(hkz).cell' 0 rfl;have cz_1:=(hkz).cell' 1 rfl;have cz_2:=(hkz).cell' 2 rfl;have cz_3:=(hkz).cell' 3 rfl;have cz_f:=fun i=>(hkz).frozen i;clear hkb hkz;go_wp2;exact Ai R6):P:=h
theorem Ik(h:P:=by
 have hL:=hk.blk;have hZ:=hk.zero;have hwL:=hk.wL;have HK:=Z hk;clear hk hp;obtain⟨cl_0,cl_1,cl_2,cl_3,cl_4,cl_5,cl_6,cl_f⟩:=(hL).c7;obtain⟨cz_0,cz_1,cz_2,cz_3,cz_4,cz_5,cz_6,cz_f⟩:=(hZ).c7;go_wp2;have hk:=HK.out;exact bodyPost_ret (AX rfl _ (hZ.set7 _ _ _ _ _ _ _) rfl) rfl (E9 hb HQ.out.symm hk.gr ⟨_,_,_,_,rfl,hk.rp,hk.rl⟩ FT hk.par (AD _ _ _ _ _ _ _ _ _))):P:=h
theorem Qv(h:P:=by
 have hs2:=hs1.go (k:Int) k rfl hkl2;go_wp2_with fail;refine(Se hs2).mono ?_;rintro e w2 ⟨g2,h2⟩;have g12:w1.grownBy w2 (some b):=Ah (A7 (Aj _ _) _ _ (.inl rfl)) g2;cases hcm:Bw s k with
 | some j=>
   have HM:=Z hcm;rw[hcm]at h2;clear hcm;obtain⟨rfl,j',hs3⟩:=h2;go_wp2;exact bodyPost_ret (v:= .tuple #[.bool true,.bool false]) MG rfl (jR HK.out HG.out HM.out (Ah (AY (A0 g g1)) g12) hs3)
 | none=>
   have HM:=Z hcm;rw[hcm]at h2;clear hcm;obtain⟨rfl,hs3⟩:=h2;have d0:=hs3.c0;have d1:=hs3.c1;have e1:=hs3.fr 1;have hb3:=hs3.lt;by_cases hle:Az s k<s.length
   ·have hl3:decide (Az s k<s.length)=true:=by simpa using hle
    have HN:=Z (show BJ s k=Az s k+1 by unfold BJ;rw[if_pos hle]);generalize Az s k=q at*;go_wp2;go_quiet(fail);go_wp2;exact bodyPost_ret (v:= .tuple #[.bool true,.bool true]) MG rfl (Sf (j:=q+1) HK.out HG.out HM.out HN.out (A7 (AA (Ah (AY (A0 g g1)) g12) _) _ _ (.inl rfl)) De)
   ·have hl3:decide (Az s k<s.length)=false:=by simpa using hle
    have HN:=Z (show BJ s k=Az s k by unfold BJ;rw[if_neg hle]);generalize Az s k=q at*;go_wp2;go_quiet(fail);go_wp2;exact bodyPost_ret (v:= .tuple #[.bool true,.bool true]) MG rfl (Sf (j:=q) HK.out HG.out HM.out HN.out (AA (Ah (AY (A0 g g1)) g12) _) De)):P:=h
theorem FU(h:P:=by
 have hz:=Blk.new w (stC 0 (.slice none 0 0)) 50;have gz:w.grownBy (w.alloc (.cells (stC 0 (.slice none 0 0)).toArray 50 (0,0))) (some b):=Ar (Aj _ _) _;exact Ai FV):P:=h
theorem MU(h:P:=by
 obtain⟨cs,ho1,ho2⟩:=hO.gb gN Ae;obtain⟨i0,hi0,hz0,hz1,hz2⟩:=info_parts Ub;have HI:=Z (Ac hi0 (Ac hz0 (Ac hz1 hz2)));have HB:=Z (Ac ho1 (Ac ho2 (Ac ((hV.mono (ok':=fun q=>wr.heap.size≤q) (fun q h1 _=>by have h1':w4.heap.size<q:=h1;show wr.heap.size≤q;omega)).gb gN Ae) (Ac (RepV.gb (RepV.mono' (ok':=fun q=>wr.heap.size≤q) hB (fun q h1 _=>by have h1':w11.heap.size≤q:=h1;omega)) gN Ae) (Ac (hp.gbN gN) (A0 gW gN))))));have hlen2:a.length≤200000:=Ab;clear hi0 hz0 hz1 hz2 ho1 ho2 hV hB hp gW gN hT;exact Ai NA):P:=h
theorem Qw(h:P:=by
 have hkl:=HK.out.lt;have hwL:=HK.out.wL;have hbw:=HK.out.bw;refine(jP hn HE.out HTk.out hp (fun e=>HO.out B8)).mono ?_;intro e w20 hq;obtain⟨g20,⟨q,hr,rfl⟩| ⟨c,j20,v,hr,rfl,⟨na,fa,wa,nc,fc,wc,rfl,rn,rf,rw0⟩,h20⟩⟩:=hq.split
 ·exact⟨rfl,Post.bad (Ah HK.out.gr g20) DT⟩
 replace HQ:=HQr HQ DU;clear hr;have b9{P}(h:P:=by exact Ai R3):=Aa h;exact S8):P:=h
theorem JR(h:P:=by
 obtain⟨g,⟨q,hr,rfl⟩| ⟨x,j,v,hr,rfl,⟨pa,pc,la,lc,rfl,rp,rl⟩,hp⟩⟩:=hq.split
 ·exact⟨rfl,Post.bad (Ah gr g) Qg⟩
 replace gr:=Ah gr g;replace HQ:=HQr HQ X9;clear hr;replace hz:=hz.gb g Ag;obtain⟨cz_0,cz_1,cz_2,cz_3,cz_4,cz_5,cz_6,cz_f⟩:=(hz).c7;have HV:=Z (Ac rp rl);clear rp rl g;go_wp2;exact bodyPost_ret (AX rfl _ (hz.set7 _ _ _ _ _ _ _) rfl) rfl (E9 hb HQ.out.symm gr ⟨_,_,_,_,rfl,HV.out.1,HV.out.2⟩ AbH hp (AD _ _ _ _ _ _ _ _ _))):P:=h
theorem Ch(h:P:=by
 replace hp:=hp9;clear hp9;replace HQ:=HQr HQ DU;clear hr;exact Ai Cj):P:=h
theorem BA(h:P:=by
 exact⟨rfl,Post.bad (Ah HK.out.gr g) DT⟩):P:=h
theorem XK(h:P:=by
 generalize hbe:AH o x z=bz at*;have HBE:=Z hbe;have g7:=AD w5 w1.heap.size (.int .i64 bz.h.op) (str bz.h.s) (.int .i64 bz.h.vk) (.int .i64 bz.h.vn) (str bz.h.vs) (.slice ua bz.h.p.length uc) (.slice va bz.kids.len vc);have hL7:=hL5.set7 (.int .i64 bz.h.op) (str bz.h.s) (.int .i64 bz.h.vk) (.int .i64 bz.h.vn) (str bz.h.vs) (.slice ua bz.h.p.length uc) (.slice va bz.kids.len vc);have h7:=(h4.gbN g5).gb g7 A6;have hV7:VE (fun g=>w.heap.size<g∧g≠w1.heap.size) _ _ bz:=VE.gb ⟨_,_,_,_,rfl,ru,rv⟩ g7 XF;have gW:=A5 (A0 (Ah (An gr) g4) g5) g7 (.inr Ab);have hZ7:=Blk.gb (Blk.gb (hZ2.gb hg4 Ag) g5 Ae) g7 Ag;have hQ:R= .ok bz q:=by rw[←HQ.out,ho2,←hbe];rfl
 simp only[set7]at hL7 h7 hV7 gW hZ7;clear g7 ru rv hy hz hok hbe cl_0 cl_1 cl_2 cl_3 cl_4 cl_5 cl_6 cl_f dl_0 dl_1 dl_2 dl_3 dl_4 dl_5 dl_6 dl_f el_0 el_1 el_2 el_3 el_4 el_5 el_6 el_f hL4 hL5 hL2 hZ2 hs0 hs2;have jG{P}(h:P:=by have HF:=Z (Ac h7 (Ac hV7 (Ac gW hQ)));clear h7 hV7 gW hQ;obtain⟨cl_0,cl_1,cl_2,cl_3,cl_4,cl_5,cl_6,cl_f⟩:=(hL7).c7;obtain⟨cz_0,cz_1,cz_2,cz_3,cz_4,cz_5,cz_6,cz_f⟩:=(hZ7).c7;go_wp2;have g7:=AD W w.heap.size (.int .i64 bz.h.op) (str bz.h.s) (.int .i64 bz.h.vk) (.int .i64 bz.h.vn) (str bz.h.vs) (.slice ua bz.h.p.length uc) (.slice va bz.kids.len vc);obtain⟨h7,hV7,gW,hQ⟩:=HF.out;exact bodyPost_ret (AX rfl _ (hZ7.set7 _ _ _ _ _ _ _) rfl) rfl (E9 hb hQ gW hV7 FT h7 g7)):=Aa h;exact bB):P:=h
theorem Fm(h:P:=by
 obtain⟨cl_0,cl_1,cl_2,cl_3,cl_4,cl_5,cl_6,cl_f⟩:=(hL).c7;obtain⟨cz_0,cz_1,cz_2,cz_3,cz_4,cz_5,cz_6,cz_f⟩:=(hZ).c7;exact Ai Fv):P:=h
theorem XL(h:P:=by
 go_wp2_with fail;refine(H.out.1 _ _ h0 (fun e=>H.out.2 Li)).mono ?_;rintro e w1 ⟨g1,h1⟩;cases ho:CQ l sumf m (i+1)with
 |out=>rw[ho]at h1;exact h1.elim
 | bad q=>
   exact L2
 | ok x j=>
   have cM{P}(h:P:=by have hQ:R= .ok (unE [46,78,79,84,46] x) j:=Qf;have H2:=Z (Ac rp (Ac rl hQ));clear rp rl hQ hB h0;obtain⟨cz_0,cz_1,cz_2,cz_3,cz_4,cz_5,cz_6,cz_f⟩:=(hZ).c7;go_wp2;obtain⟨rp,rl,hQ⟩:=H2.out;have iF{P}(h:P:=by exact bodyPost_ret (AX (hd:=hd0 4 [46,78,79,84,46]) (pv:= .slice none 0 0) (lv:= .slice (some ⟨w1.heap.size,0,none⟩) 1 1) rfl _ (Blk.alloc hW (Obj.cells #[Value.int IntKind.i64 x.h.op,str x.h.s,Value.int IntKind.i64 x.h.vk,Value.int IntKind.i64 x.h.vn,str x.h.vs,Value.slice pa x.h.p.length pc,Value.slice la x.kids.len lc] 29)) rfl) rfl (Mz (op:=4) (s:=[46,78,79,84,46]) hb hQ (Ah g0 g1) rp rl XA h1 g7 hsz)):=Aa h;exact ZH):=Aa h;exact SU):P:=h
theorem Fp(h:P:=by
 refine AL (fun W=>Blk W w.heap.size (stC 0 (.slice none 0 0)) 50∧w.grownBy W (some b)∧Par W b tv wo l wordsL (i+1)) HB0.out ?_;rintro W0 ⟨hz,gz,hp⟩;have HZ:=Z (Ac hz gz);have hl0:=hz.lt;clear hz gz HB0 c1 f1;exact Ai Fw):P:=h
theorem XM(h:P:=by
 intro e w6 hq;obtain⟨g,⟨q,hr,rfl⟩| ⟨t,j2,v,hr,rfl,rfl,hp⟩⟩:=hq.split
 ·exact⟨rfl,Post.bad (Ah gr g) DT⟩
 replace gr:=Ah gr g;replace HQ:=HQr HQ DU;clear hr;replace hz:=hz.gb g Ag;clear g;have rp:=Cells.nil w6 1 (fun g=>w.heap.size<g);have rl:=RepL.nil w6 (fun g=>w.heap.size<g);have RW{P}(h:P:=by have g7:=AD w6 w.heap.size (.int .i64 2) (str s) (.int .i64 0) (.int .i64 0) (str []) (.slice none 0 0) (.slice (some ⟨w6.heap.size,0,none⟩) 1 1);have hW:=hz.set7 (.int .i64 2) (str s) (.int .i64 0) (.int .i64 0) (str []) (.slice none 0 0) (.slice (some ⟨w6.heap.size,0,none⟩) 1 1);have jF{P}(h:P:=by exact bodyPost_ret (AX (hd:=hd0 2 s) (pv:= .slice none 0 0) (lv:= .slice (some ⟨w6.heap.size,0,none⟩) 1 1) rfl _ (Blk.alloc hW (Obj.cells #[Value.int IntKind.i64 (AC t).h.op,str (AC t).h.s,Value.int IntKind.i64 (AC t).h.vk,Value.int IntKind.i64 (AC t).h.vn,str (AC t).h.vs,Value.slice none (AC t).h.p.length 0,Value.slice none (AC t).kids.len 0] 29)) rfl) rfl (Mz (op:=2) (s:=s) hb HQ.out.symm gr HV.out.1 HV.out.2 (fun k hk=>hk) hp g7 hsz)):=Aa h;exact aZ):=Aa h;exact Rb):P:=h
theorem D5(h:P:=by
 have gz:w.grownBy (w.alloc (.cells zeroE.toArray 29 (0,0))) (some b):=Ar (Aj _ _) _;have hz:=Blk.new w zeroE 29;have h0:=h.alloc (.cells zeroE.toArray 29 (0,0));exact Ai DA):P:=h
theorem Lk(h:P:=by
 have b9{P}(h:P:=by exact Ai L8):=Aa h;exact S8):P:=h
theorem AbI(h:P:=by
 have HK20:=Z (hK20.putC (rn.mono hfr) (rf.mono hfr) (rw0.mono hfr) _ rfl);have HR20:=Z (h20.putC (L:=w.heap.size+1) Ab (.int .i64 c.kind) (.slice na c.n.len nc) (.slice fa c.f.len fc) (.slice wa c.w.len wc));clear hK20 g20 h20 rn rf rw0 hfr;have hR21:=HR20.out;have HK:=Z HK20.out;clear HK20 HR20;go_upto_region 50 with fail;refine AL (Eb b tv l w _ _) ⟨_,_,_,_,_,HK.out,hR21⟩ ?_;exact Ai Abd):P:=h
theorem XN(h:P:=by
 obtain⟨ps,st11,hps,ho⟩:=Rd.bind_g ho;rw[Rd.pure_g]at ho;cases ho;rw[FF]at hps;have HW:=Z (Ef hR H.out.2.2 Dt Ad);generalize hwr2:B4 l wordsL Dt _=pr at*;obtain⟨ok2,st12⟩:=pr;simp only at hps;cases ok2 with
 | false=>
   rw[if_neg Ae,Rd.pure_g]at hps;cases hps;have N9{P}(h:P:=by have HE:=Z (Ac (HK.out.gb g12) h12);clear g12 h12 HW;go_wp2;go_end0;exact⟨rfl,⟨_,_,HE.out.1.toKS⟩,HE.out.2⟩):=Aa h;exact LU
 | true=>
   rw[if_pos rfl,Rd.pure_g]at hps;cases hps;obtain⟨i0,hi0,hz0,hz1,hz2⟩:=info_parts LI;have HI2:=Z (Ac hi0 (Ac hz0 (Ac hz1 hz2)));clear hi0 hz0 hz1 hz2;have N9{P}(h:P:=by have hK12:=HK.out.gb g12;have hbL:=hK12.bL;have hkl:=hK12.lt;have hwL:=hK12.wL;have d3:=hK12.blk.cell' 3 rfl;have HB:=Z (Ac (hK12.alloc (.cells #[str Dt] 9 (0,0))) (h12.alloc (.cells #[str Dt] 9 (0,0))));clear g12 h12 HW hK12;go_wp2_with (at_builtin;go_loud(refine wpList_append_lies _ rfl _ _ 26 rfl (w0.heap.size+1) 9 i0 _ 1 16 underlying26 HI2.out.1 HI2.out.2.1 HI2.out.2.2.1 HI2.out.2.2.2 rfl Ad _ _ _ rfl HB.out.1.p ⟨w12.heap.size,0,none⟩ 1 1 [str Dt] rfl rfl (D0 _ _ _) Dg Ad (by simp[maxLen]) Ae Ag _ rfl ?_;intro j cap w13 hown hgrow hat hlt;(have HK8:=Z (Ac (HB.out.1.addP' hown hgrow hat) (Rr.app HB.out.2 hgrow (fun q hq=>(HB.out.1.belowP q hq).1) hbL 3 (.slice (some ⟨j,0,none⟩) ([p].length+1) cap))));(have hb7:=HB.out.1.blk.gb hgrow HB.out.1.neP);(have f7:=hb7.frozen 3);(have d7:=hb7.cell' 3 rfl);(have l7:=hb7.lt);clear hown hgrow hat hb7 HB));go_end0;exact⟨rfl,⟨_,_,HK8.out.1.toKS⟩,HK8.out.2⟩):=Aa h;exact LU):P:=h
theorem JS(h:P:=by
 go_wp2;go_ret;exact⟨by first|rfl| (simp;done)| (simp;omega),rfl⟩):P:=h
theorem XO(h:P:=by
 obtain⟨i0,hi0,hz0,hz1,hz2⟩:=info_parts LI;have HI2:=Z (Ac hi0 (Ac hz0 (Ac hz1 hz2)));clear hi0 hz0 hz1 hz2;go_wp2_with fail;refine(Ey hp HTk.out Dt Ad hw).mono ?_;rintro e w12 ⟨rfl,hp9,g⟩;replace HK:=Z (HK.out.gb g);replace hp:=hp9;clear g hp9;replace HQ:=HQr HQ JL;clear hw;replace HQ:=HQr HQ Bj;replace HQ:=HQr HQ CU;replace HQ:=HQr HQ Bj;have hbL:=HK.out.bL;have hkl:=HK.out.lt;have hwL:=HK.out.wL;have d3:=HK.out.blk.cell' 3 rfl;have HB:=Z (Ac (HK.out.alloc (.cells #[str Dt] 9 (0,0))) (hp.alloc (.cells #[str Dt] 9 (0,0))));clear HK;go_wp2_with (at_builtin;go_loud(refine wpList_append_lies _ rfl _ _ 26 rfl (w.heap.size+1) 9 i0 _ 1 16 underlying26 HI2.out.1 HI2.out.2.1 HI2.out.2.2.1 HI2.out.2.2.2 rfl Ad _ _ _ rfl HB.out.1.p ⟨w12.heap.size,0,none⟩ 1 1 [str Dt] rfl rfl (D0 _ _ _) Dg Ad (by simp[maxLen]) Ae Ag _ rfl ?_;intro j cap w13 hown hgrow hat hlt;(have HK8:=Z (Ac (HB.out.1.addP' hown hgrow hat) (Par.app HB.out.2 hgrow (fun q hq=>(HB.out.1.belowP q hq).1) hbL 3 (.slice (some ⟨j,0,none⟩) ([p].length+1) cap))));(have hb7:=HB.out.1.blk.gb hgrow HB.out.1.neP);(have f7:=hb7.frozen 3);(have d7:=hb7.cell' 3 rfl);(have l7:=hb7.lt);clear hown hgrow hat hb7 HB));go_end0;exact Post.ok HK8.out.1.toKS.gr HQ.out.symm ⟨rfl,_,_,_,_,_,HK8.out.1.toKS⟩ HK8.out.2):P:=h
theorem JT(h:P:=by
 obtain⟨i0,hi0,hz0,hz1,hz2⟩:=info_parts Kq;have HI:=Z (Ac hi0 (Ac hz0 (Ac hz1 hz2)));have hbL:=HK.out.bL;have hwL:=HK.out.wL;have hkl:=HK.out.lt;clear hi0 hz0 hz1 hz2;have hx4:=HK.out.blk.cell' 4 rfl;have hcx:=HXk.out.blk;obtain⟨cx_0,cx_1,cx_2,cx_3,cx_4,cx_5,cx_6,cx_f⟩:=(hcx).c7;have hlx:=hcx.lt;exact Ai Kh):P:=h
theorem Qx(h:P:=by
 have HQ:=Z (show R= .bad k by rw[←HM.out,Bo,HS.out,hcm]);rw[hcm]at hp;clear hcm;obtain⟨rfl,j2,hs2⟩:=hp;have hr2:=hq.res.gb g12 Ag;have cV{P}(h:P:=by go_wp2;exact aC):=Aa h;exact Ti):P:=h
theorem XP(h:P:=by
 cases hpp;have HK:=Z (B9 hR [40]);rw[h40]at HK;go_wp2_with fail;refine(HK.out).mono ?_;rintro e w50 ⟨g,v,rfl,rfl,h9⟩;have RT{P}(h:P:=by have Rm{P}(h:P:=by rintro e w51 ⟨g,v,rfl,rfl,h9⟩;have RT{P}(h:P:=by clear HK h41;go_wp2_with fail;refine(Ur hR _ Ab hnn').mono ?_;rintro e w52 ⟨g,v,rfl,⟨pa,pc,rfl,hV⟩,h9⟩;have hs52:=g.size;have Ep{P}(h:P:=by replace hT:=hT.gb g Ag;replace hTl:=hT.lt;have t2:=hT.cell' 2 rfl;have tf:=hT.frozen 2;simp only at h9 hV;have gS:=As (Aj w52 (some w4.heap.size)) 2 (.slice pa p.length pc);have hV9:=Z ((hV.mono (ok':=fun q=>w4.heap.size<q) (fun q h1 _=>by have h1':w51.heap.size≤q:=h1;show w4.heap.size<q;omega)).gb gS Ig);replace HZ:=Z (Ac (HZ.out.1.gb gS GU) (C0 HZ.out.2 gS IU));exact Ai dZ):=Aa h;exact Eg):=Aa h;exact QY):=Aa h;exact Oj):=Aa h;exact QY):P:=h
theorem AbJ(h:P:=by
 have hLb:=hL.lt;go_wp2_with fail;go_region_with(first| (go_at_call 127;refine(H.out.2.1 _ _ _ (HK2.out.rr.drewN 1) HY.out).mono ?_;rintro e w4 ⟨g4,v,rfl,hv,h4⟩;have hk4:=HK2.out.gb hb (Ah (An (Aj w2 (some b))) g4) h4;have hL4:=hk4.blk;have hZ4:=hk4.zero;obtain⟨dl_0,dl_1,dl_2,dl_3,dl_4,dl_5,dl_6,dl_f⟩:=(hL4).c7;obtain⟨dz_0,dz_1,dz_2,dz_3,dz_4,dz_5,dz_6,dz_f⟩:=(hZ4).c7;have hok:∀q,w4.heap.size≤q→but w w1.heap.size q:=(fun q hq=>by have:=hL4.lt;exact⟨by omega,by omega⟩);have hz:VE (but w w1.heap.size) w4 v z:=hv.mono (fun q hq _=>by have hq:w2.heap.size≤q:=hq;exact⟨by omega,by omega⟩);have HZ4:=Z (Ac hk4 (Ac hok hz));clear hk4 hok hz hv h4)| (go_at_call 62;refine(IF [60,62] x z _ _ HZ4.out.2.1 HZ4.out.1.ve HZ4.out.2.2).mono ?_;rintro e w5 ⟨u,rfl,hu,g5⟩;obtain⟨ua,uc,va,vc,rfl,ru,rv⟩:=hu;have hZ5:=hZ4.gb g5 Ae;obtain⟨ez_0,ez_1,ez_2,ez_3,ez_4,ez_5,ez_6,ez_f⟩:=(hZ5).c7;have HU:=Z (Ac g5 (Ac ru rv));clear g5 ru rv));all_goals
  generalize hbe:AH [60,62] x z=bz at*;have hk5:=HZ4.out.1.gbN hb HU.out.1;exact bE):P:=h
theorem JU(h:P:=by
 have RT{P}(h:P:=by exact Ai Ki):=Aa h;exact QY):P:=h
theorem Qy(h:P:=by
 have RV{P}(h:P:=by have hp:=h.alloc (.cells (stC 0 (.slice none 0 0)).toArray 50 (0,0));exact Ai R4):=Aa h;exact Ra):P:=h
theorem XQ(h:P:=by
 skip;have dE{P}(h:P:=by go_quiet(fail);have f258:=hq.sc.fr 258;have f259:=hq.sc.fr 259;go_wp2_with fail;refine(HX.out _).mono ?_;intro e w3 hp;obtain⟨g3,t,ok,rfl,hF⟩:=hp.fin;have g13:w1.grownBy w3 (some b):=Ah (As (As (AA (Aj w1 (some b)) _) 258 _) 259 _) g3;have hr3:=hq.res.gb g13 Ag;have z0:=hr3.cell 0;have z1:=hr3.cell 1;have z2:=hr3.cell 2;have zf:=fun k=>hr3.frozen k;have zl:=hr3.lt;simp only[List.getElem?_cons_zero,List.getElem?_cons_succ]at z0 z1 z2;have HF:=Z hF;clear hF;go_wp2;refine bodyPost_ret (Du (t:=t) (r:=ok) rfl _ (hr3.set3 _ _ _) rfl rfl) rfl ?_;have g:=Ah hq.g g13;exact qG (((HF.out.set_other _ _ Ag).set_other _ _ Ag).set_other _ _ Ag) HS.out HM.out gw):=Aa h;exact Tw):P:=h
theorem XR(h:P:=by
 subst hs;go_upto_region 11 with fail;generalize hWW:World.setCell _ _ _=W3 at*;replace HK:=Z HK3.out.1;have hR:=HK3.out.2;clear HK3 h2 d0 f0;have iZ{P}(h:P:=by have d4:=hK4.blk.cell' 1 rfl;have f4:=hK4.blk.frozen 1;have Oa{P}(h:P:=by have hK5:=hK4.layN (rp.mono hfr) (rl.mono hfr);have hR5:=(h4.gb (As (Aj w4 (some (w.heap.size+1))) 1 (.slice (some ⟨w4.heap.size,0,none⟩) 1 1)) A6).alloc (.cells (hdC x.h (.slice pa x.h.p.length pc) (.slice la x.kids.len lc)).toArray 29 (0,0));have HK5:=Z (Ac hK5 hR5);exact Sw):=Aa h;exact N3):=Aa h;exact aL):P:=h
theorem Ij(h:P:=by
 go_enter func91,ntmps91;go_wp2_with fail;go_quiet(fail);have HT:=Z (show TkS w b s i _ ov pre (w.drewN nq)from⟨HH.out.drewN nq,I4 (AA (Aj _ _) _) Ab⟩);clear c0 c1 hg;generalize hw0:w.drewN nq=w0 at*;clear hw0;exact Ai It):P:=h
theorem XS(h:P:=by
 cases ho;have cT{P}(h:P:=by
 rw[AG];have hR:=h5.gbN g6;replace HK:=Z (hK5.gbN g6);clear hK5 g6 h5;have hkl:=HK.out.lt;have hwL:=HK.out.wL;go_wp2_with fail;refine(H.out.2.1 _ _ _ hR hx).mono ?_;rintro e w7 ⟨g3,v,rfl,⟨pa,pc,la,lc,rfl,rp,rl⟩,h3⟩;have RX{P}(h:P:=by
 have hbL:b<L:=Df;have hfr:∀q,Ap (w6).heap.size q→q<(w7).heap.size→but w0 L q:=fun q hq _=>by have h1:(w6).heap.size≤q:=hq;(try simp at h1);exact⟨by omega,by omega⟩
 have hK4:=hK3.layX (f:= .one x) (m:=1) JH Ad (VE.rep (rp.mono hfr) (rl.mono hfr));have hR3:=(h3.gb (As (Aj w7 (some L)) 4 (.slice (some ⟨(w7).heap.size,0,none⟩) 1 1)) A6).alloc (.cells (hdC (x).h (.slice pa (x).h.p.length pc) (.slice la (x).kids.len lc)).toArray 29 (0,0));replace HK:=Z hK4;clear hK3 g3 h3 rp rl hK4 hfr;exact Ai d5):=Aa h;exact Rc):=Aa h;exact Te):P:=h
theorem XT(h:P:=by
 have jG{P}(h:P:=by exact Ai eA):=Aa h;exact bB):P:=h
theorem XU(h:P:=by
 go_wp2_with fail;go_loopg [5] L.length (fun g v5 wr=>∃i:Nat,∃r:List Bs,i+g=L.length∧v5= .int .i64 i∧L.drop i=r∧r.contains s=T∧w.grownBy wr none)
 case atStart=>exact⟨0,L,by omega,rfl,rfl,hT,Aj _ _⟩
 case round=>
  obtain⟨i,r,hg,rfl,hd,hc,hgr⟩:=hrel;clear hT;cases r with
  | nil=>
    have hi:L.length≤i:=XH;have hi1:decide (i<L.length)=false:=Ag;have HF:=Z (show T=false by rw[←hc];rfl);clear hd hc;go_wp2;go_ret;exact⟨by rw[HF.out];rfl,hgr⟩
  | cons c r=>
    obtain⟨h1,h2,hi⟩:=UC hd;have hi1:decide (i<L.length)=true:=Lg;obtain⟨lb,lo,rfl,_,c0⟩:=HA.out i hi;have c1:=Am hgr c0;have e:L.getD i []=c:=Xy;rw[e]at c1;have i0:(0:Int)≤(i:Int):=Ab;have i2:(i:Int)<(L.length:Int):=Ab;clear c0 h1 hd e;by_cases hs:c=s
    ·have HF:=Z (show T=true by rw[←hc,hs];simp);have hb:(c==s)=true:=Le;clear hc;go_wp2;go_ret;exact⟨by rw[HF.out];rfl,hgr⟩
    ·have HF:=Z (show r.contains s=T by rw[←hc,List.contains_cons];simp[show(s==c)=false by simpa using fun e=>hs e.symm]);have hb:(c==s)=false:=Le;have HG:=Z hgr;clear hc hgr;go_wp2;go_roundg (L.length-(i+1))
     case measure=>omega
     case rel=>exact⟨i+1,r,by omega,by go_num,h2,HF.out,HG.out⟩):P:=h
theorem MV(h:P:=by
 have Ep{P}(h:P:=by replace hR:=h9;simp only at hR;clear h9;exact Ai NB):=Aa h;exact Eg):P:=h
theorem AbK(h:P:=by
 rintro e w5 ⟨g5,v,rfl,rfl,h5⟩;replace HK:=Z (HK.out.gb g5);clear g5;go_wp2_with fail;refine(BR h5).mono ?_;rintro e w6 ⟨g6,v,rfl,rfl,h6⟩;replace HK:=Z (HK.out.gb g6);clear g6;have HS:=Z HK.out.toKS;obtain⟨pa9,xa9,ba9,na9,fa9,wa9,pc9,xc9,bc9,nc9,fc9,wc9,e91,e92,e93,e94,e95,e96⟩:=(HS).out.shapes;exact Ai Abe):P:=h
theorem Ll(h:P:=by
 have RZ{P}(h:P:=by go_wp2;exact bodyPost_ret (v:= .tuple #[str [],.int .i64 0,.bool false]) MI rfl (Sg HM.out gw)):=Aa h;exact Ri):P:=h
theorem XV(h:P:=by
 have hk5:=HZ4.out.1.gbN hb HU.out.1;exact bE):P:=h
theorem XW(h:P:=by
 rintro W3 ⟨hK,hp3⟩;replace HK:=Z hK;replace hp:=hp3;clear hK hp3 HF c0 f0 c1 f1 hlk;have jI{P}(h:P:=by have d4:=hK4.blk.cell' 1 rfl;have f4:=hK4.blk.frozen 1;have Oa{P}(h:P:=by have hK5:=hK4.layN (rp.mono hfr) (rl.mono hfr);have hp5:=(h4.set (L:=w.heap.size+1) Ab 1 (.slice (some ⟨w4.heap.size,0,none⟩) 1 1)).alloc (.cells (hdC x.h (.slice pa x.h.p.length pc) (.slice la x.kids.len lc)).toArray 29 (0,0));have HK5:=Z (Ac hK5 hp5);exact S0):=Aa h;exact N3):=Aa h;exact bG):P:=h
theorem XX(h:P:=by
 have hp:=hk.par;have gr:=hk.gr;have hltW:=hk.blk.lt;have hwL:=hk.wL;go_wp2_with fail;refine(H.out.1 _ _ hp (fun e=>H.out.2.2.2 B8)).mono ?_;intro e wx hq;obtain⟨g,⟨q,hr,rfl⟩| ⟨x,jx,v,hr,rfl,⟨pa,pc,la,lc,rfl,rp,rl⟩,hp⟩⟩:=hq.split
 ·exact⟨rfl,Post.bad (Ah gr g) DT⟩
 replace gr:=Ah gr g;replace HQ:=HQr HQ DU;clear hr;replace hk:=hk.gb hb g hp;have HK1:=Z (hk.kid1 hb (rp.mono fun g hg _=>(⟨by have:_≤g:=hg;omega,by have:_≤g:=hg;omega⟩:but w _ g)) (rl.mono fun g hg _=>(⟨by have:_≤g:=hg;omega,by have:_≤g:=hg;omega⟩:but w _ g)));have hL:=hk.blk;obtain⟨cl_0,cl_1,cl_2,cl_3,cl_4,cl_5,cl_6,cl_f⟩:=(hL).c7;have hlt:=hL.lt;clear hk rp rl g;go_wp2_with fail;have hk:=HK1.out;replace gr:=hk.gr;refine(Ec hk.par [125]).mono ?_;intro e wy hq;obtain⟨g,⟨q,hr,rfl⟩| ⟨_,jy,v,hr,rfl,rfl,hp⟩⟩:=hq.split
 ·exact⟨rfl,Post.bad (Ah gr g) DT⟩
 replace gr:=Ah gr g;replace HQ:=HQr HQ DU;clear hr;replace hk:=hk.gb hb g hp;clear cl_0 cl_1 cl_2 cl_3 cl_4 cl_5 cl_6 cl_f hL;clear g HK1 hlt;exact Ai eB):P:=h
theorem Yp(h:P:=by
 replace HK:=Z hK1;clear hcx hcy hcz hK1 hR HXk HYk HZk;go_wp2_with fail;refine(BR hR1).mono ?_;rintro e w10 ⟨g10,v,rfl,rfl,h10⟩;replace HK:=Z (HK.out.gb g10);clear g10;have HC:=Z (H.out.1 _ _ _ h10 HX.out.2.2);have hkl:=HK.out.lt;clear hR1;have dY{P}(h:P:=by replace HK:=Z (HK.out.gb g11);have hkl:=HK.out.lt;have hx5:=HK.out.blk.cell' 5 rfl;have hf5:=HK.out.blk.frozen 5;have hK2:=HK.out.layB (c:=c) (ca:=ca) (cc:=cc) (RepV.mono' (ok':=but w L) ⟨kcs,⟨ca,cc,rfl,k1⟩,k2⟩ (fun q hq _=>by have h1:w10.heap.size≤q:=hq;exact⟨by omega,by omega⟩));have hR2:=(h11.gb (As (Aj w11 (some L)) 5 (.slice (some ⟨w11.heap.size,0,none⟩) 1 1)) A6).alloc (.cells #[.slice ca c.len cc] 43 (0,0));replace HK:=Z hK2;clear hK2 k1 k2 g11 h11 HC;go_wp2_with fail;refine(C5 hR2 H.out.2.2 BL Ad).mono ?_;have cF{P}(h:P:=by exact Ai eN):=Aa h;exact SI):=Aa h;exact TX):P:=h
theorem Ka(h:P:=by
 clear HG t3 tf hTl;rintro W ⟨hT,hO,gW,hp,hV,hB⟩;have hsW:=gW.size;have t0:=hT.cell' 0 rfl;have t1:=hT.cell' 1 rfl;have t2:=hT.cell' 2 rfl;have t3:=hT.cell' 3 rfl;have hTl:=hT.lt;exact Ai Kl):P:=h
theorem Nc(h:P:=by
 have cV{P}(h:P:=by exact Ai NG):=Aa h;exact Ti):P:=h
theorem Yq(h:P:=by
 have HK20:=Z (hK20.putC (rn.mono hfr) (rf.mono hfr) (rw0.mono hfr) _ rfl);have HP20:=Z (h20.putC (L:=(w.heap.size+1)) Ab (.int .i64 c.kind) (.slice na c.n.len nc) (.slice fa c.f.len fc) (.slice wa c.w.len wc));clear hK20 g20 h20 rn rf rw0 hfr HK hp;replace HQ:=HQr HQ Bj;have HK:=HK20;have hp:=HP20.out;clear HK20 HP20;exact Ai eO):P:=h
theorem AbQ(h:P:=by
 go_wp2;exact aC):P:=h
theorem Q6(h:P:=by
 go_wp2_with fail;refine HC.out.mono ?_;rintro e w9 ⟨g9,v,rfl,hv,h9⟩;obtain⟨s9,st9⟩:=r;obtain⟨pa9,xa9,ba9,na9,fa9,wa9,pc9,xc9,bc9,nc9,fc9,wc9,rfl,hz9,hp,hbk⟩:=Og hb HZ.out.1 HZ.out.2 (Ah G4.out g9) hv h9;have HE:=Z (Ac hp hbk);have hkl9:=hz9.lt;obtain⟨cz_0,cz_1,cz_2,cz_3,cz_4,cz_5,cz_6,cz_7,cz_8,cz_9,cz_f⟩:=(hz9).c10;clear g9 hv h9 hz9 hp hbk HC;exact Oo):P:=h
theorem Yr(h:P:=by
 have jI{P}(h:P:=by exact Ai eP):=Aa h;exact bG):P:=h
theorem Fr(h:P:=by
 obtain⟨cz_0,cz_1,cz_2,cz_3,cz_4,cz_5,cz_6,cz_f⟩:=(hZ).c7;go_wp2;exact Ai Fy):P:=h
theorem Nd(h:P:=by
 have dE{P}(h:P:=by exact Ai NH):=Aa h;exact Tw):P:=h
theorem Q7(h:P:=by
 have HS:=Z HK.out.toKS;obtain⟨pa9,xa9,ba9,na9,fa9,wa9,pc9,xc9,bc9,nc9,fc9,wc9,e91,e92,e93,e94,e95,e96⟩:=(HS).out.shapes;exact Ai RA):P:=h
theorem Il(h:P:=by
 obtain⟨xa9,xc9,e9⟩:=HK.out.shapeX;(first|subst e9|cases e9|clear e9);have hbL:=HK.out.bL;have hwL:=HK.out.wL;have hkl:=HK.out.lt;have hx4:=HK.out.blk.cell' 4 rfl;exact Ai Iu):P:=h
theorem Di(h:P:=by
 have HE:=Z hE;have HTk:=Z hok;have HSh:=Z hl;clear hE hok hl;intro w i h hi ho;have HO:=Z ho;exact Ai Dl):P:=h
theorem Ys(h:P:=by
 rintro e w2 ⟨rfl,n,os,rfl⟩;rw[jV];go_wp2;go_ret;have hA:=World.grownBy_alloc w (.cells (wordsRaw.map fun l=>Value.string ⟨l.toArray⟩).toArray 9 (0,0)) none;have hS:=nV (os:=os) (n:=n) (w:=w.alloc (.cells (wordsRaw.map fun l=>Value.string ⟨l.toArray⟩).toArray 9 (0,0))) (g:=w.heap.size) wordsL.toArray;refine⟨_,rfl,⟨_,_,rfl,Nat.le_refl _,by decide,fun j hj=>⟨w.heap.size,0,rfl,Nat.le_refl _,?_⟩⟩,?_⟩
 ·have hc:=cell?_putRow encStr _ w.heap.size 0 wordsRaw.toArray wordsL.toArray (jX w n) Ad j Qz;have hlt:=World.block_lt_of_cell? _ _ hc;have hb:∀(W:World) os (k:Nat) a,k<W.heap.size→(grow W os).cell? ⟨k,a,none⟩=W.cell? ⟨k,a,none⟩:=fun W os k a h=>by
   unfold World.cell?;rw[heap_grow_old _ _ h]
  rw[hb _ _ _ _ hlt,hc];simp[encStr,List.getD_eq_getElem?_getD,hj]
 ·refine⟨hS.os.trans hA.os,hS.tape.trans hA.tape,hS.output.trans hA.output,Nat.le_trans hA.size hS.size,fun k hk _=>?_⟩;rw[hS.block k Ag Ag];exact hA.block k hk Ae):P:=h
theorem Q8(h:P:=by
 have hb:=h.lt;have hf:=h.few;have c1:=h.c1;have g0:w.grownBy ((w.alloc (.cells #[.int .i64 0,.int .i64 0,str []] 89 (0,0))).alloc (.cells #[.int .i64 0,.int .i64 i,str []] 89 (0,0))) none:=Ar (World.grownBy_alloc w _ none) _;have hA:TkRel w b s i i ((w.alloc (.cells #[.int .i64 0,.int .i64 0,str []] 89 (0,0))).alloc (.cells #[.int .i64 0,.int .i64 i,str []] 89 (0,0))):=
  ⟨h.gbN g0,(Blk.new _ [.int .i64 0,.int .i64 i,str []] _).of_eq Ae rfl,(Blk.new _ [.int .i64 0,.int .i64 0,str []] _).alloc _,AY g0,ht.gbN g0⟩
 clear h ht g0;exact Ai RB):P:=h
theorem Q9(h:P:=by
 go_wp2_with fail;go_region_with(go_at_call 95;refine(HBk.out _ _ (DO HGl.out.1 HGl.out.2 (An HK.out.gr)) (hp.gbN (An (Aj _ none))) Bp).mono ?_;rintro e w6 hq6;rw[hr6]at hq6;obtain⟨g6,rfl⟩:=hq6;refine Cd (P:=Tryz.prog) ⟨rfl,Post.bad (Ah (An HK.out.gr) g6) Bz⟩ ⟨#[],[]⟩ w6 ?_);all_goals trivial):P:=h
theorem Fs(h:P:=by
 have HQ:=Z hR;have HGl:=Z (Ac hg hgb);obtain⟨hb,hfew,c1,f1,HB0⟩:=Up h hi;clear h ho hR hg;go_enter func179,ntmps179;exact Ai Fz):P:=h
theorem Jb(h:P:=by
 intro w i hp ho;have hb:=hp.lt;have gr:w.grownBy (w.alloc (.cells zeroE.toArray 29 (0,0))) (some b):=Ar (Aj _ _) _;have hz:=Blk.new w zeroE 29;replace hp:=hp.alloc (.cells zeroE.toArray 29 (0,0));exact Ai Jf):P:=h
theorem Yt(h:P:=by
 have hconv:=run_bytes_of_string (P:=Tryz.prog) w 9 182 5 ⟨s.toArray⟩ underlying9 underlying182 underlying5;have hsz:(⟨s.toArray⟩:ByteArray).size=s.length:=by simp[ByteArray.size]
 rw[hsz]at hconv;generalize hcap:grownCap w s.length 0 5=cap at*;have h0:CapR w s w.heap.size 0 (w.drew.alloc (.cells (bytesRow ⟨s.toArray⟩ cap) 5 ((bytesRow ⟨s.toArray⟩ cap).size,(bytesRow ⟨s.toArray⟩ cap).size+1))):=by
  refine⟨fun j hj=>?_,fun j hj=>?_,by simp,Ar (An (Aj _ _)) _⟩
  ·show(w.drew.alloc _).cell? ⟨w.drew.heap.size,j,none⟩=_;rw[World.cell?_alloc_mark,bytesRow_at _ _ _ Qz];simp[ER,Gg hj]
  ·show(w.drew.alloc _).frozen? ⟨w.drew.heap.size,j,none⟩=_;rw[World.frozen?_alloc_mark];have:s.length≤(bytesRow ⟨s.toArray⟩ cap).size:=by simp[bytesRow]
   simp;omega
 have H0:=Z h0;clear h0 hsz hcap;generalize(w.drew.alloc (.cells (bytesRow ⟨s.toArray⟩ cap) 5 ((bytesRow ⟨s.toArray⟩ cap).size,(bytesRow ⟨s.toArray⟩ cap).size+1)))=W at*;exact Ai eQ):P:=h
theorem Ft(h:P:=by
 have HBk:=Z hB;have HE:=Z hE;have HTk:=Z hok;have HSh:=Z hl;clear hE hok hl hB;intro w i hg h hi ho;have HO:=Z ho;exact Ai F0):P:=h
theorem EN(h:P:=by
 obtain⟨i0,hi0,hz0,hz1,hz2⟩:=info_parts Kq;have HI:=Z (Ac hi0 (Ac hz0 (Ac hz1 hz2)));exact Ai EQ):P:=h
theorem Fu(h:P:=by
 go_wp2;go_ret;exact⟨by rw[HF.out];rfl,HG.out⟩):P:=h
theorem Yu(h:P:=by
 have g7:=AD w1 w.heap.size (.int .i64 4) (str [45]) (.int .i64 0) (.int .i64 0) (str []) (.slice none 0 0) (.slice (some ⟨w1.heap.size,0,none⟩) 1 1);have hW:=hZ.set7 (.int .i64 4) (str [45]) (.int .i64 0) (.int .i64 0) (str []) (.slice none 0 0) (.slice (some ⟨w1.heap.size,0,none⟩) 1 1);have hsz:(set7 w1 w.heap.size (.int .i64 4) (str [45]) (.int .i64 0) (.int .i64 0) (str []) (.slice none 0 0) (.slice (some ⟨w1.heap.size,0,none⟩) 1 1)).heap.size=w1.heap.size:=Ii;simp only[set7]at hW g7 hsz;generalize(((((((w1.setCell {block:=w.heap.size,off:=0} (.int .i64 4)).setCell {block:=w.heap.size,off:=1} (str [45])).setCell {block:=w.heap.size,off:=2} (.int .i64 0)).setCell {block:=w.heap.size,off:=3} (.int .i64 0)).setCell {block:=w.heap.size,off:=4} (str [])).setCell {block:=w.heap.size,off:=5} (.slice none 0 0)).setCell {block:=w.heap.size,off:=6} (.slice (some ⟨w1.heap.size,0,none⟩) 1 1))=W at*;exact Ai eR):P:=h
theorem Yv(h:P:=by
 clear hh;generalize Lib.toUpperD (A3 s i (i+signsL[k].length))=z at*;generalize signsL[k]=x at*;have he1:decide ((i:Int)+x.length≤s.length)=true:=Ag;have he2:decide ((i:Int)≤i+x.length)=true:=Ag;have hw1:IntKind.i64.wrap ((i:Int)+(x.length:Int))=(i:Int)+x.length:=IntWalk.i64_in _ Ab;have cX{P}(h:P:=by clear hw1;go_wp2_with fail;go_region_held3 (fun W=>W.cell? ⟨b,0,none⟩=some (str s)∧W.cell? ⟨b,1,none⟩=some (.int .i64 i)∧wr.grownBy W none) (first|exact⟨c0,c1,An (Aj wr none)⟩|exact⟨Am g5 c0,Am g5 c1,A0 (An (Aj wr none)) g5⟩) (first| (go_at_call 159;refine(HU.out _ ?_).mono ?_;(simp[*]);rintro e w5 ⟨rfl,g5⟩));exact Ai eS):=Aa h;exact Tm):P:=h
theorem QA(h:P:=by
 have hblk9:=HK.out.out.2.2.1;refine bodyPost_ret ?hr9 rfl hres9
 case hr9=>exact jL rfl _ hblk9 rfl rfl):P:=h
theorem AbR(h:P:=by
 go_wp2_with (at_builtin;go_loud(refine wpList_append_lies _ rfl _ _ 34 rfl w.heap.size 45 i0 _ 4 72 underlying34 HI.out.1 HI.out.2.1 HI.out.2.2.1 HI.out.2.2.2 rfl Ad _ _ cs rfl HB.out.1 ⟨W.heap.size,0,none⟩ 1 1 (pdC (AB (s,false,[],c)) (.slice none 0 0) (.slice ba c.len bc)) rfl rfl (Bu _ _ _) JJ Ad AI Ab Ag _ rfl ?_;intro j9 cap w9 hown hgrow hat hlt;(have HE:=Z (Ac (OwnP.snoc (pa:=none) (pc:=0) (q:=(s,false,[],c)) HB.out.1 HB.out.2.1 HB.out.2.2.1 HB.out.2.2.2.1 (fun q hq _=>HFr.out q hq) hown hgrow hat) (Ac (HB.out.2.2.2.2.1.gb hgrow (fun q hq=>by have:=(HB.out.1.lt q hq).1;omega)) (C0 HB.out.2.2.2.2.2 hgrow (fun q hq=>(HB.out.1.lt q hq).1)))));clear hown hgrow hat));exact N2):P:=h
theorem AbS(h:P:=by
 go_wp2_with (at_builtin;go_loud(refine wpList_append_lies _ rfl _ _ 34 rfl w.heap.size 45 i0 _ 4 72 underlying34 HI.out.1 HI.out.2.1 HI.out.2.2.1 HI.out.2.2.2 rfl Ad _ _ cs rfl HB.out.1 ⟨W.heap.size,0,none⟩ 1 1 (pdC (AB (s,true,[],c)) (.slice none 0 0) (.slice ba c.len bc)) rfl rfl (Bu _ _ _) JJ Ad AI Ab Ag _ rfl ?_;intro j9 cap w9 hown hgrow hat hlt;(have HE:=Z (Ac (OwnP.snoc (pa:=none) (pc:=0) (q:=(s,true,[],c)) HB.out.1 HB.out.2.1 HB.out.2.2.1 HB.out.2.2.2.1 (fun q hq _=>HFr.out q hq) hown hgrow hat) (Ac (HB.out.2.2.2.2.1.gb hgrow (fun q hq=>by have:=(HB.out.1.lt q hq).1;omega)) (C0 HB.out.2.2.2.2.2 hgrow (fun q hq=>(HB.out.1.lt q hq).1)))));clear hown hgrow hat));exact N2):P:=h
theorem Q3(h:P:=by
 have jB{P}(h:P:=by have ga:=Ah g1 g2;go_wp2_with fail;refine(H1.out _ ga [91]).mono ?_;rintro e w3 ⟨rfl,g3⟩;rw[HS3.out];exact Ai R7):=Aa h;exact aO):P:=h
theorem Gv(h:P:=by
 go_wp2;go_end0;exact Post.ok HK.out.gr HQ.out.symm ⟨rfl,_,_,_,_,_,HK.out⟩ hp):P:=h
theorem Yb(h:P:=by
 refine⟨hlr,by rw[←hrec];simp,by rw[←hrec],?_⟩;have hB6:=(World.putObj_heap_other (o:=Obj.loop {rec0 with state:= .exhausted}) (by omega:w.heap.size≠w.heap.size+1+1)).trans hB;have hD6:=(World.putObj_heap_other (o:=Obj.loop {rec0 with state:= .exhausted}) (by omega:w.heap.size+1≠w.heap.size+1+1)).trans hD;have hO6:=ownsRow_putObj hO (Obj.loop {rec0 with state:= .exhausted}) hlr rfl;have hg6:=K6 hg (w.heap.size+1+1) (Obj.loop {rec0 with state:= .exhausted}) Ab;have hs6:=hs2.putObj (w.heap.size+1+1) (Obj.loop {rec0 with state:= .exhausted}) Ab;generalize(W.putObj (w.heap.size+1+1) (Obj.loop {rec0 with state:= .exhausted}))=W6 at*;have hc6:=Blk.cell (cs:=[v]) hB6 0;simp only[List.getElem?_cons_zero]at hc6;clear hA hJ0 hrec;gi_wp2;refine⟨by simp,.inl ⟨_,_,rfl,run_takeDeferred hD6,?_⟩⟩;exact Ai eD):P:=h
theorem Yc(h:P:=by
 have HO:=Z ho;have HIN:=Z hin;clear ho hin;go_enter func232,ntmps232;go_wp2_with fail;refine HS.out.mono ?_;rintro e w1 ⟨rfl,g1⟩;have dK{P}(h:P:=by
 have hK3:=HK.out.gbN gA;have hR3:=HH.out.gbN gA;have d1:=hK3.blk.cell' 1 rfl;have f1:=hK3.blk.frozen 1;have hl3:=hK3.lt;have hbL:b<L:=by have:=hK3.bw;have:=hK3.wL;omega
 have hR4:=hR3.gb (As (Aj w3 (some L)) 1 (str s)) A6;replace HK:=Z (hK3.putS s);have HN:=Z (Gc hR4 (fun _=>hi));clear g1 g2 g3 gA hK3 hR3 hR4;go_wp2_with fail;refine HN.out.mono ?_;rintro e w4 ⟨g4,v,rfl,rfl,h4⟩;replace HK:=Z (HK.out.gb g4);clear g4 HN d1 f1 hl3;exact Ai eE):=Aa h;exact T8):P:=h
theorem CV(h:P:=by
 exact⟨rfl,Post.bad (Ah gr g) DT⟩):P:=h
theorem AbM(h:P:=by
 have hK4:=hK3.layX (f:= .one x) (m:=1) JH Ad (VE.rep (rp.mono hfr) (rl.mono hfr));have hR3:=(h3.gb (As (Aj w7 (some (w.heap.size+1))) 4 (.slice (some ⟨(w7).heap.size,0,none⟩) 1 1)) A6).alloc (.cells (hdC (x).h (.slice pa (x).h.p.length pc) (.slice la (x).kids.len lc)).toArray 29 (0,0));replace HK:=Z hK4;clear hK3 g3 h3 rp rl hK4 hfr;go_upto_region 50 with fail;refine AL (Eb b tv l w _ _) ⟨_,_,_,_,_,HK.out,hR3⟩ ?_;exact Ai Abg):P:=h
theorem GX(h:P:=by
 replace hz:=hz.gb g Ag;replace gr:=Ah gr g;replace hp:=hp';have hs0:=hz.lt;clear g;replace HQ:=HQr HQ EI;go_wp2_with fail;exact Ai Hb):P:=h
theorem Yd(h:P:=by
 rw[if_pos rfl,Rd.fin_g]at hb7;obtain⟨c,st3,hc,hb7⟩:=Rd.bind_g hb7;rw[Rd.pure_g]at hb7;cases hb7;have HX:=Z hc;clear hc;have NY{P}(h:P:=by clear g4 HW;go_wp2_with fail;refine(BR h4).mono ?_;rintro e w5 ⟨g5,v,rfl,rfl,h5⟩;replace HK:=Z (HK.out.gb g5);clear g5;have hR:=h5;have hkl:=HK.out.lt;have hx5:=HK.out.blk.cell' 5 rfl;clear h5 h4;go_wp2_with fail;obtain⟨i0,hi0,hz0,hz1,hz2⟩:=info_parts Uc;have HI:=Z (Ac hi0 (Ac hz0 (Ac hz1 hz2)));have hroom:=hlen;have hbL:=HK.out.bL;have hwL:=HK.out.wL;clear hi0 hz0 hz1 hz2;exact Ai eF):=Aa h;exact Nw):P:=h
theorem D6(h:P:=by
 exact⟨rfl,Post.bad (Ah HZ.out.2 g) DT⟩):P:=h
theorem Ye(h:P:=by
 have HK5:=Z (hk5.setL hb (zp.mono fun q hq _=>hin q hq) (zl.mono fun q hq _=>hin q hq));have hlt5:=hL5.lt;have hb5:=h5.lt;clear hk5 zp zl h5 g5 HC HK2 hin;obtain⟨cl_0,cl_1,cl_2,cl_3,cl_4,cl_5,cl_6,cl_f⟩:=(hL5).c7;go_wp2_with fail;refine(E8 HK5.out.rr [125]).mono ?_;rintro e w6 ⟨g6,v,rfl,rfl,h6⟩;have HK6:=Z (HK5.out.gb hb g6 h6);clear g6 h6 HK5 cl_0 cl_1 cl_2 cl_3 cl_4 cl_5 cl_6 cl_f hL5;have hk6:=HK6.out;have hL6:=hk6.blk;have hZ6:=hk6.zero;have hltz:=hZ6.lt;have hlt6:=hL6.lt;clear hk6;obtain⟨cl_0,cl_1,cl_2,cl_3,cl_4,cl_5,cl_6,cl_f⟩:=(hL6).c7;obtain⟨cz_0,cz_1,cz_2,cz_3,cz_4,cz_5,cz_6,cz_f⟩:=(hZ6).c7;go_wp2;have hk:=HK6.out;exact Ai eG):P:=h
theorem Yf(h:P:=by
 have iZ{P}(h:P:=by exact Ai eH):=Aa h;exact aL):P:=h
theorem MZ(h:P:=by
 go_enter func125,ntmps125;go_wp2_with fail;go_quiet(fail);have HT:=Z (show TkS w b s i line ov pre (w.drewN nq)from⟨HH.out.drewN nq,I4 (AA (Aj _ _) _) Ab⟩);clear c0 c1 hg;generalize hw0:w.drewN nq=w0 at*;clear hw0;go_wp2_with fail;refine(Of _ _).mono ?_;rintro e w1 ⟨rfl,rfl⟩;exact Ai ND):P:=h
theorem Na(h:P:=by
 have hkl2:=hz2.lt;obtain⟨cz_0,cz_1,cz_2,cz_3,cz_4,cz_5,cz_6,cz_7,cz_8,cz_9,cz_f⟩:=(hz2).c10;have hmm:=Mq;have hup:=OQ;have hfn:=OA;have hfc:=Ob;have hap1:∀x:List (Bs×Value),[]++x=x:=fun _=>rfl;have hap2:∀(a:Bs×Value)(l m:List (Bs×Value)),(a::l)++m=a::(l++m):=fun _ _ _=>rfl;exact Ai NE):P:=h
theorem Q4(h:P:=by
 have h0:=h.alloc (.cells (stC 0 (.slice none 0 0)).toArray 50 (0,0));have HF:=Z (LW h0 hok);have HZ0:=Z (Ac hz (Ac gz h0));have HKY:=Z hk;clear h hz gz h0 hk;go_enter func103,ntmps103;go_wp2_with fail;refine HF.out.mono ?_;rintro e w1 ⟨rfl,g1⟩;simp only[HKY.out];have HZ:=Z (Ac (HZ0.out.1.gb g1 Ae) (A0 HZ0.out.2.1 g1));have hR1:=HZ0.out.2.2.gbN g1;clear g1 HF HZ0;have HT:=Z (B9 hR1 [63]);exact Ai R8):P:=h
theorem Yg(h:P:=by
 have gB:=World.grownBy_alloc w3 (.cells (hdC y.h (.slice ya y.h.p.length yc) (.slice ma y.kids.len mc)).toArray 29 (0,0)) none;have gA:=Ar (Ah gr g23) (.cells (hdC y.h (.slice ya y.h.p.length yc) (.slice ma y.kids.len mc)).toArray 29 (0,0));have hA:=h3.alloc (.cells (hdC y.h (.slice ya y.h.p.length yc) (.slice ma y.kids.len mc)).toArray 29 (0,0));have hbs:=gA.size;have hs23:=g2.size;have hsr:=gr.size;have hol:∀k,u3.ownBlock=some k→w.heap.size≤k∧k<wr.heap.size:=fun k hk=>by
  obtain⟨cs0,ho0,_⟩:=HO.out;exact ho0.lt k hk
 obtain⟨i0,hi,hz0,hz1,hz2⟩:=info_parts Kq;have hnc:=Bu w3 (hdC y.h (.slice ya y.h.p.length yc) (.slice ma y.kids.len mc)) 29;have hml:acc.len+1≤maxLen:=AI;exact Ai eI):P:=h
theorem Fq(h:P:=by
 obtain⟨cl_0,cl_1,cl_2,cl_3,cl_4,cl_5,cl_6,cl_f⟩:=(hL).c7;exact Ai Fx):P:=h
theorem AbN(h:P:=by
 intro e w7 hq;obtain⟨g,⟨q,hr,rfl⟩| ⟨s9,j9,v,hr,rfl,⟨rfl,pv,xv,nv,fv,wv,hK9⟩,hp9⟩⟩:=hq.split
 ·exact⟨rfl,Post.bad g Qg⟩
 replace HK:=Z hK9;replace hp:=hp9;replace HQ:=HQr HQ X9;clear hr hK9 hp9 g;exact Ai Abh):P:=h
theorem Nb(h:P:=by
 obtain⟨ok,st6⟩:=pr;simp only at hw hq;subst hw;have HQ:=Z hq;clear hq;go_wp2_with fail;refine HW.out.mono ?_;rintro e w11 ⟨g11,v,rfl,rfl,h11⟩;replace HK:=Z (HK.out.gb g11);clear g11 HW;go_wp2;exact Ai NF):P:=h
theorem Q5(h:P:=by
 rintro e w7 ⟨g3,v,rfl,⟨pa,pc,la,lc,rfl,rp,rl⟩,h3⟩;have RX{P}(h:P:=by exact Ai R9):=Aa h;exact Rc):P:=h
theorem Yh(h:P:=by
 simp only[List.getElem?_cons_zero,List.getElem?_cons_succ]at d0 d2;have HI:=Z (Jj hR1 0 Ab [38]);rw[Nat.add_zero,htt,h38]at HI;clear htt;go_wp2_with fail;refine HI.out.mono ?_;rintro e w2 ⟨rfl,g2⟩;have hR2:=hR1.gbN g2;have hZ2:=hZ1.gb g2 Ae;have G2:=Z (A0 G1.out g2);have hb2:=hR2.lt;have HS:=Z (IB hR2 primL Ad Ad w2.heap.size rfl 6 rfl);have hB2:=hZ2.alloc (.cells (primL.map str).toArray 9 (0,0));have hG2:=Ar G2.out (.cells (primL.map str).toArray 9 (0,0));have hltw:=hZ2.lt;clear g2 hR2 hR1 hZ1 HI hTk;go_wp2_with fail;refine HS.out.mono ?_;rintro e w3 ⟨g3,v,rfl,rfl,h3⟩;have hZ:=hB2.gb g3 Ag;have HR:=Z (Ac (Ah hG2 g3) h3);have hw3:w.heap.size<w3.heap.size:=hZ.lt;have hb3:=h3.lt;clear g3 h3 HS hB2 hG2 hZ2;clear d0 d2;exact Ai eJ):P:=h
theorem Yi(h:P:=by
 clear hh hr;generalize Lib.toUpperA (A3 s i (i+signsL[k].length))=z at*;generalize signsL[k]=x at*;have he1:decide ((i:Int)+x.length≤s.length)=true:=Ag;have he2:decide ((i:Int)≤i+x.length)=true:=Ag;have cX{P}(h:P:=by go_wp2_with fail;go_region_held3 (fun W=>W.cell? ⟨w.heap.size,k,none⟩=some (str x)∧wr.grownBy W none) (first|exact⟨ck,An (Aj wr none)⟩|exact⟨Am g5 ck,A0 (An (Aj wr none)) g5⟩) (first| (go_at_call 141;refine(HU.out _).mono ?_;rintro e w5 ⟨rfl,g5⟩));exact Ai eK):=Aa h;exact Tm):P:=h
theorem Yj(h:P:=by
 have hs1:=g1.size;have hlt:=h1.lt;have ho1:OwnF (w1.alloc (.cells (hdC x.h (.slice pa x.h.p.length pc) (.slice la x.kids.len lc)).toArray 29 (0,0))) w.heap.size (.slice (some ⟨w1.heap.size,0,none⟩) 1 1) (.one x):=by
  have Ro{P}(h:P:=by refine⟨_,Ji rfl hs1 rfl Ad,RepF.gb g Ae (RepF.mono (ok:=Ap w.heap.size) ?_ (VE.rep rp rl))⟩;intro k hk hk2;exact⟨hk,by simp[Value.ownBlock];omega⟩):=Aa h;exact Om
 have HO:=Z ho1;have h1':=h1.alloc (.cells (hdC x.h (.slice pa x.h.p.length pc) (.slice la x.kids.len lc)).toArray 29 (0,0));have g1':=Ar g1 (.cells (hdC x.h (.slice pa x.h.p.length pc) (.slice la x.kids.len lc)).toArray 29 (0,0));exact Ai eL):P:=h
theorem Yk(h:P:=by
 have HQ:=Z (show R= .bad j by rw[←HM.out,Bo,HS.out,if_neg (by rw[hgo];simp)]);rw[if_neg (by rw[hgo];simp)]at hp;obtain⟨rfl,hs2⟩:=hp;clear hgo;have d1:=hs2.c1;have d260:=hs2.c260;have f260:=hs2.fr 260;go_wp2;refine bodyPost_ret (Du (t:=⟨0,0,[]⟩) (r:=false) rfl _ ((hr2.set_other _ _ Ag).set3 _ _ _) rfl rfl) rfl ⟨?_,?_⟩
 ·have g:=Ah hq.g g12;exact gw
 ·rw[HQ.out];exact⟨⟨_,rfl⟩,j,_,(((hs2.setBad _).set_other _ _ Ag).set_other _ _ Ag).set_other _ _ Ag⟩):P:=h
theorem Ci(h:P:=by
 have hkl:=HK.out.lt;have hwL:=HK.out.wL;go_wp2_with fail;exact Ai Ck):P:=h
theorem Ja(h:P:=by
 have hbL:=h.bL;have hwL:=h.wL;have hlt:=h.blk.lt;have Rx{P}(h:P:=by exact Ai Je):=Aa h;exact O2):P:=h
theorem Yl(h:P:=by
 generalize bAt s i=q at*;go_wp2_with fail;refine HX.out.mono ?_;intro e w3 hp;obtain⟨g3,t,ok,rfl,hF⟩:=hp.fin;have hr3:=hA2.res.gb g3 Ag;have jK{P}(h:P:=by have g:=Ah hA2.g g3;exact(((hF.set_other _ _ Ag).set_other _ _ Ag).set_other _ _ Ag).post gw):=Aa h;exact bK):P:=h
theorem JY(h:P:=by
 go_wp2_with fail;obtain⟨i0,hi0,hz0,hz1,hz2⟩:=info_parts Uc;have HI:=Z (Ac hi0 (Ac hz0 (Ac hz1 hz2)));exact Ai Kk):P:=h
theorem Dh(h:P:=by
 go_wp2_with fail;refine HT.out.mono ?_;rintro e w2 ⟨g2,v,rfl,rfl,h2⟩;exact Ai Dk):P:=h
theorem Lr(h:P:=by
 have Ry{P}(h:P:=by clear hw;replace HQ:=HQr HQ Bj;replace HQ:=HQr HQ CU;exact Ai LA):=Aa h;exact O3):P:=h
theorem Ym(h:P:=by
 have hcx:=HXk.out.blk;have hcy:=HYk.out.blk;have hcz:=HZk.out.blk;obtain⟨cx_0,cx_1,cx_2,cx_3,cx_4,cx_5,cx_6,cx_f⟩:=(hcx).c7;obtain⟨cy_0,cy_1,cy_2,cy_3,cy_4,cy_5,cy_6,cy_f⟩:=(hcy).c7;obtain⟨cz_0,cz_1,cz_2,cz_3,cz_4,cz_5,cz_6,cz_f⟩:=(hcz).c7;have hlx:=hcx.lt;have hly:=hcy.lt;have hlz:=hcz.lt;have hkl:=HK.out.lt;have hx4:=HK.out.blk.cell' 4 rfl;have hf4:=HK.out.blk.frozen 4;have hwL:=HK.out.wL;have hK1:=HK.out.layX (m:=3) XG Ad (RepF.three (HXk.out.mono (ok':=but w L) (fun q hq _=>⟨hq.1,hq.2.1⟩)) (HYk.out.mono (ok':=but w L) (fun q hq _=>⟨hq.1,hq.2.1⟩)) (HZk.out.mono (ok':=but w L) (fun q hq _=>hq)));exact Ai eM):P:=h
theorem JZ(h:P:=by
 go_enter func175,ntmps175;go_wp2;exact bodyPost_ret (v:= .tuple #[str [],.int .i64 0]) MH rfl (Si HM.out (Aj _ _))):P:=h
theorem Yn(h:P:=by
 go_enter func73,ntmps73;go_wp2_with fail;refine HT.out.mono ?_;rintro e w1 ⟨rfl,g1⟩;have h1:=h.gbN g1;have c2:=h1.c2;simp only at c2;have HA:=Z (h1.alloc (.cells #[.int .i64 t.kind,.int .i64 t.pos,str t.text] 89 (0,0)));have HG:=Z (Ar (AY g1) (.cells #[.int .i64 t.kind,.int .i64 t.pos,str t.text] 89 (0,0)):World.grownBy w _ (some b));exact aH):P:=h
theorem EM(h:P:=by
 rintro W0 ⟨hK,hp⟩;have HK:=Z hK;clear hK HB0 c1 f1;have hkl:=HK.out.lt;exact Ai EP):P:=h
theorem AbO(h:P:=by
 have HG:=Z (Ac ((hT.set 3 (.slice ba c.len bc)).of_eq (cs':=[str s,.bool false,.slice none 0 0,.slice ba c.len bc]) rfl rfl) (Ac (HZ.out.1.gb gS GU).back (Ac (C0 HZ.out.2 gS IU) (Ac (h9.gb gS A6) (Ac (hV9.out.gb gS Ig) (RepV.gb hB gS MF))))));clear g gS hT hV9 hB HZ h9 hR;go_upto_region 13 with fail;refine AL (fun W=>Blk W w4.heap.size [str s,.bool false,.slice none 0 0,.slice ba c.len bc] 45∧OwnP W w.heap.size u3 a∧w.grownBy W (some b)∧Rr W b (.slice ta l.length tc) l st5∧Cells W (.slice none 0 0) 1 ([]:List Bs).length (([]:List Bs).map str) (fun q=>w4.heap.size<q)∧RepV (Ap w11.heap.size) W false (.slice ba c.len bc) c) HG.out ?_;exact Ai Abi):P:=h
theorem AbP(h:P:=by
 have HG:=Z (Ac ((hT.set 3 (.slice ba c.len bc)).of_eq (cs':=[str s,.bool true,.slice none 0 0,.slice ba c.len bc]) rfl rfl) (Ac (HZ.out.1.gb gS GU).back (Ac (C0 HZ.out.2 gS IU) (Ac (h9.gb gS A6) (Ac (hV9.out.gb gS Ig) (RepV.gb hB gS MF))))));clear g gS hT hV9 hB HZ h9 hR;go_upto_region 13 with fail;refine AL (fun W=>Blk W w4.heap.size [str s,.bool true,.slice none 0 0,.slice ba c.len bc] 45∧OwnP W w.heap.size u3 a∧w.grownBy W (some b)∧Rr W b (.slice ta l.length tc) l st5∧Cells W (.slice none 0 0) 1 ([]:List Bs).length (([]:List Bs).map str) (fun q=>w4.heap.size<q)∧RepV (Ap w11.heap.size) W false (.slice ba c.len bc) c) HG.out ?_;exact Ai Abj):P:=h
theorem Yo(h:P:=by
 have HK5:=Z (Ac hK5 hR5);exact Sw):P:=h
theorem Nj(h:P:=by
 have hkl:=HK.out.lt;have hwL:=HK.out.wL;refine(TZ hn H.out.2.1 H.out.2.2 hR hc).mono ?_;rintro e w20 ⟨g20,v,rfl,⟨na,fa,wa,nc,fc,wc,rfl,rn,rf,rw0⟩,h20⟩;simp only at rn rf rw0 h20 ⊢;exact Ai NM):P:=h
theorem Nk(h:P:=by
 exact bodyPost_ret (AX rfl _ (hZ.set7 _ _ _ _ _ _ _) rfl) rfl (CK hb hk.gr hk.ve FT hk.rr g7)):P:=h
theorem Io(h:P:=by
 go_wp2_with fail;refine HX.out.mono ?_;rintro e w1 ⟨g1,v,rfl,⟨pa,pc,la,lc,rfl,rp,rl⟩,h1⟩;simp only at rp rl h1 ⊢;exact Ai Ix):P:=h
theorem YB(h:P:=by
 go_wp2;have hk:=HK2.out;have g7:=AD w2 w.heap.size (.int .i64 x.h.op) (str x.h.s) (.int .i64 x.h.vk) (.int .i64 x.h.vn) (str x.h.vs) (.slice pa x.h.p.length pc) (.slice la x.kids.len lc);exact Ai fD):P:=h
theorem YC(h:P:=by
 cases r with
 |out=>exact h1.elim
 | bad q=>
   subst h1;exact⟨rfl,Post.bad (Ah g0 g1) rfl⟩
 | ok x j=>
   have cL{P}(h:P:=by have g7:=AD w1 (w.heap.size+1) (.int .i64 x.h.op) (str x.h.s) (.int .i64 x.h.vk) (.int .i64 x.h.vn) (str x.h.vs) (.slice pa x.h.p.length pc) (.slice la x.kids.len lc);exact TY):=Aa h;exact SS):P:=h
theorem Kb(h:P:=by
 obtain⟨csA,hoA,hrA⟩:=kA.x;have HA1:=Z (Ac kA (Ac hoA (Ac hrA ((hp.drewN 1).alloc (.cells zeroE.toArray 29 (0,0))))));clear hi0 hz0 hz1 hz2 kA hoA hrA;exact Ai Km):P:=h
theorem YD(h:P:=by
 cases r with
 |out=>exact h1.elim
 | bad q=>
   subst h1;exact⟨rfl,Post.bad (Ah g0 g1) rfl⟩
 | ok x j=>
   have cL{P}(h:P:=by have g7:=AD w1 w.heap.size (.int .i64 x.h.op) (str x.h.s) (.int .i64 x.h.vk) (.int .i64 x.h.vn) (str x.h.vs) (.slice pa x.h.p.length pc) (.slice la x.kids.len lc);exact TY):=Aa h;exact SS):P:=h
theorem AbV(h:P:=by
 have jJ{P}(h:P:=by replace HQ:=HQr HQ BQ;go_wp2_with fail;refine UB (fun W=>(∃pv xv,KS b w (w.heap.size+1) W _ .nil pv xv (.slice none 0 0) (.slice none 0 0) (.slice none 0 0) (.slice none 0 0))∧Par W b tv wo l wordsL j7) ⟨⟨_,_,HK.out⟩,hp⟩ ?_;clear HK hp d3 f3;rintro W7 ⟨⟨pv7,xv7,hK7⟩,hp⟩;have HK:=Z hK7;clear hK7;exact Ai Abm):=Aa h;exact bI):P:=h
theorem Nl(h:P:=by
 have L6{P}(h:P:=by have hgI:=As (Aj W1 (some b)) 1 (.int .i64 ((i:Int)+1));have HPI:=Z (hp.goI ((i:Int)+1) (i+1) Ab Ab);have HKI:=Z (HK.out.gb hgI);clear hgI;exact Ai NO):=Aa h;exact Kt):P:=h
theorem YE(h:P:=by
 obtain⟨pa,xa,na,fa,wa,ba,pc,xc,nc,fc,wc,bc,rfl,h1,h2⟩:=hv;have hz1:=hz.gb g Ag;have hlt:=hz.lt;have g10:=FZ w1 w.heap.size (.int .i64 s.1.op) (str s.1.s) (str s.1.t) (.slice pa s.1.p.length pc) (.slice xa s.1.x.len xc) (.slice ba s.2.len bc) (.int .i64 s.1.kind) (.slice na s.1.n.len nc) (.slice fa s.1.f.len fc) (.slice wa s.1.w.len wc);have hne:∀q,Ap w0.heap.size q→q<w1.heap.size→some q≠some w.heap.size:=fun q hq _ e=>by cases e;have:w0.heap.size≤w.heap.size:=hq;omega
 have hm:∀q,Ap w0.heap.size q→Ap w.heap.size q:=fun q hq=>by have:w0.heap.size≤q:=hq;show w.heap.size≤q;omega
 have h3:=h1.gb g10 hne;exact Ai fE):P:=h
theorem D7(h:P:=by
 replace hz:=hz.gb g Ae;replace gr:=A0 gr g;replace hp:=hp.gbN g;clear g;exact Ai DB):P:=h
theorem YF(h:P:=by
 have HK5:=Z (Ac hK5 hp5);exact S0):P:=h
theorem D8(h:P:=by
 replace HQ:=HQr HQ Xs;go_wp2_with fail;refine(Gb hp).mono ?_;exact Ai DC):P:=h
theorem Nm(h:P:=by
 rw[hw]at HW;have HQ:=Z hqq;clear hqq;have N9{P}(h:P:=by replace HK:=Z (HK.out.gb g12);clear g12 HW;go_wp2;exact Ai NP):=Aa h;exact LU):P:=h
theorem YG(h:P:=by
 induction b with
 |nil=>intro k cs h;exact h
 | st h b n ih1 ih2=>
   intro k cs hr;cases k with
   |true=>exact hr
   | false=>
     obtain⟨pa,xa,na,fa,wa,ba,pc,xc,nc,fc,wc,bc,kcs,rest,e,h1,h2,h3,h4⟩:=hr;exact⟨pa,xa,na,fa,wa,ba,pc,xc,nc,fc,wc,bc,kcs,rest,e,⟨h1.p.mono hk,h1.x.mono hk,h1.n.mono hk,h1.f.mono hk,h1.w.mono hk⟩,h2.mono hk,ih1 h3,ih2 h4⟩
 | bl b n ih1 ih2=>
   intro k cs hr;cases k with
   |false=>exact hr
   | true=>
     obtain⟨ba,bc,kcs,rest,e,h2,h3,h4⟩:=hr;exact⟨ba,bc,kcs,rest,e,h2.mono hk,ih1 h3,ih2 h4⟩):P:=h
theorem QI(h:P:=by
 go_wp2_with fail;go_region_with(go_at_call 98;refine(C4 (hp.gbN (An (Aj _ none))) HSh.out).mono ?_;rintro e w6 hq6;rw[hr6]at hq6;obtain⟨g6,rfl⟩:=hq6;refine Cd (P:=Tryz.prog) ⟨rfl,Post.bad (Ah (An HK.out.gr) g6) Bz⟩ ⟨#[],[]⟩ w6 ?_);all_goals trivial):P:=h
theorem YH(h:P:=by
 exact bodyPost_ret (AX (hd:=(Bi:Ex).h) (pv:= .slice none 0 0) (lv:= .slice none 0 0) rfl _ (hZ.set7 _ _ _ _ _ _ _) rfl) rfl (CK (ok:=fun k=>w.heap.size<k) (x:=Bi) hb HR.out.1 ⟨none,0,none,0,rfl,Cells.nil _ _ _,RepL.nil _ _⟩ (fun k hk=>hk) HR.out.2 (AD _ _ _ _ _ _ _ _ _))):P:=h
theorem Kc(h:P:=by
 replace HZ:=Z (Ac (HZ.out.1.gb g7 Ag) (Ah HZ.out.2 g7));replace hR:=h7;replace hl5:=HZ.out.1.lt;replace hb5:=hR.lt;clear g7 h7 HT;exact Ai Kn):P:=h
theorem AbW(h:P:=by
 have hkl:=HK.out.lt;have hx5:=HK.out.blk.cell' 5 rfl;have hf5:=HK.out.blk.frozen 5;have hK2:=HK.out.layB (c:=c) (ca:=ca) (cc:=cc) (RepV.mono' (ok':=but w L) ⟨kcs,⟨ca,cc,rfl,k1⟩,k2⟩ (fun q hq _=>by have h1:w12.heap.size≤q:=hq;exact⟨by omega,by omega⟩));have hp2:=(hp.set (L:=L) Ab 5 (.slice (some ⟨w13.heap.size,0,none⟩) 1 1)).alloc (.cells #[.slice ca c.len cc] 43 (0,0));replace HK:=Z hK2;replace hp:=hp2;clear hK2 hp2 k1 k2 g;replace HQ:=HQr HQ Em;go_wp2_with fail;refine(CJ hp HTk.out BL Ad).mono ?_;intro e w14 hq;exact Ai Abn):P:=h
theorem YI(h:P:=by
 have cT{P}(h:P:=by exact Ai fF):=Aa h;exact Te):P:=h
theorem Gx(h:P:=by
 replace HZ:=Z (Ac (HZ.out.1.gb g Ae) (A0 HZ.out.2 g));replace hp:=hp.gbN g;exact Ai G7):P:=h
theorem YJ(h:P:=by
 have hb':w.heap[r]? =some (.map (CW l 0).toArray l.length):=hb;have hf:Instr.findNow .string (str k) (CW l 0) 0=some (CO k l 0):=by rw[OC]
 have hc:∀e,(Instr.checkKey e 10000 kt (str k)).run P w= .ok () w:=fun e=>MapKept.run_checkKey (k:=str k) hk Lj e 9999;cases h:CO k l 0 with
 |none=>simp[Instr.lookup,run_underlying hm,MapKept.run_getObj_map hb',hc,MapKept.run_findKey hk hf,Result.andThen,h,hz]
 |some x=>simp[Instr.lookup,run_underlying hm,MapKept.run_getObj_map hb',hc,MapKept.run_findKey hk hf,Result.andThen,h]):P:=h
theorem YK(h:P:=by
 have hkl:k=s.length:=Ab;have hj1:decide (k<s.length)=false:=Ag;have hback:=run_convert_bytes_back (P:=Tryz.prog) wr 182 9 5 ⟨w.heap.size,0,none⟩ cap (Lib.toUpperA s) underlying182 underlying5 underlying9 (by
  intro j hj;have hj':j<s.length:=by rwa[OM]at hj
  have e:(⟨w.heap.size,0,none⟩:Addr).add j=⟨w.heap.size,j,none⟩:=MJ;rw[e,hr.cell j hj',qF];simp[ER,hkl,hj'])
 rw[OM]at hback;have HG:=Z hr.g;clear hr;go_wp2;go_ret;exact⟨rfl,HG.out⟩):P:=h
theorem D9(h:P:=by
 have hbL:=HK.out.bL;have hwL:=HK.out.wL;clear hi0 hz0 hz1 hz2;exact Ai DD):P:=h
theorem QJ(h:P:=by
 refine AL (KY b tv wo l w L _ (i+1)) ⟨⟨_,_,HKI.out⟩,HPI.out⟩ ?_;rintro W2 ⟨⟨pv2,xv2,hK⟩,hp1⟩;replace HK:=Z hK;replace hp:=hp1;clear hK hp1 HKI HPI c1 f1 hkl;have hkl:=HK.out.lt;go_wp2_with fail;refine(CJ hp HTk.out wTO Ad).mono ?_;intro e w3 hq;exact Ai RI):P:=h
theorem QK(h:P:=by
 go_wp2_with fail;refine(HC.out).mono ?_;rintro e w5 ⟨g5,v,rfl,⟨pa,pc,la,lc,rfl,rp,rl⟩,h5⟩;simp only at rp rl h5 ⊢;have hZ5:=hZ.gb g5 Ag;have HE:=Z (Ac (Ah G0.out g5) (Ac rp (Ac rl h5)));clear g5 rp rl h5 hZ;obtain⟨cz_0,cz_1,cz_2,cz_3,cz_4,cz_5,cz_6,cz_f⟩:=(hZ5).c7;go_wp2;exact Ai RJ):P:=h
theorem AbT(h:P:=by
 have hres9:=jN (HK).out hp HQ.out.symm;have hblk9:=(HK).out.out.2.2.1;exact Ai Abk):P:=h
theorem Nf(h:P:=by
 rintro e w5 ⟨g5,v,rfl,rfl,h5⟩;replace HK:=Z (HK.out.gb g5);clear g5;exact Ai NI):P:=h
theorem Yw(h:P:=by
 have hn:∀v,v∈cmdWords→(wd==v)=false:=by
  intro v hv;have:wd≠v:=by
   rintro rfl;exact LN
  simpa using this
 have hw0:=hn F9 Ad;have hw1:=hn Fh Ad;have hw2:=hn wGO Ad;have hw3:=hn Fa Ad;have hw4:=hn EG Ad;have hw5:=hn F3 Ad;have hw6:=hn FJ Ad;have hw7:=hn FN Ad;have hw8:=hn F8 Ad;have hw9:=hn Et Ad;have hw10:=hn Es Ad;have hw11:=hn Eu Ad;have hw12:=hn Ea Ad;have hw13:=hn FA Ad;have hw14:=hn EH Ad;have hw15:=hn FB Ad;have hw16:=hn Gp Ad;clear hn hw;exact Ai eT):P:=h
theorem BV(h:P:=by
 replace gr:=Ah gr g;replace HQ:=HQr HQ DU;clear hr;exact Ai BW):P:=h
theorem Yx(h:P:=by
 rw[he,GC]at h2;have HQ:=Z (show R= .ok x j by rw[←HR.out,ho];simp[Res.bind,he]);rw[he];clear he;obtain⟨cz_0,cz_1,cz_2,cz_3,cz_4,cz_5,cz_6,cz_f⟩:=(hZ2).c7;go_wp2;have dV{P}(h:P:=by exact bodyPost_ret (AX rfl _ (hZ2.set7 _ _ _ _ _ _ _) rfl) rfl (E9 hb HQ.out gr HV2.out FT h2 g7)):=Aa h;exact TS):P:=h
theorem QB(h:P:=by
 go_wp2_with fail;refine(BC hp [44] hs).mono ?_;rintro e w12 ⟨rfl,hp9,g⟩;replace HK:=Z (HK.out.gb g);replace hp:=hp9;clear g hp9;replace HQ:=HQr HQ EI;clear hs;replace HQ:=HQr HQ BQ;replace HQ:=HQr HQ Qm;go_wp2;exact Ai RC):P:=h
theorem QC(h:P:=by
 have NY{P}(h:P:=by clear g4 HW;go_wp2_with fail;exact Ai RD):=Aa h;exact Nw):P:=h
theorem Dj(h:P:=by
 clear h ho hR;go_enter func222,ntmps222;go_upto_region 4 with fail;exact Ai Dm):P:=h
theorem Yy(h:P:=by
 have hlt:=g.size;have rp':=rp.gb g7 JN;have rl':=rl.gb g7 JN;have hV:VE (Ap w.heap.size) (W.alloc (Obj.cells #[Value.int IntKind.i64 x.h.op,str x.h.s,Value.int IntKind.i64 x.h.vk,Value.int IntKind.i64 x.h.vn,str x.h.vs,Value.slice pa x.h.p.length pc,Value.slice la x.kids.len lc] 29)) (exV (hd0 op s) (.slice none 0 0) (.slice (some ⟨w1.heap.size,0,none⟩) 1 1)) ⟨hd0 op s,.one x⟩:=
  VE.node (f:= .one x) (RepL.one (ok:=Ap w.heap.size) (n:=w1.heap.size) hsz.symm X8 (rp'.mono JM) (rl'.mono JM))
 exact Ai eU):P:=h
theorem Yz(h:P:=by
 have bS{P}(h:P:=by obtain⟨_,_,e1,_,y4⟩:=ha1 4 _ rfl;cases e1;obtain⟨_,_,e1,_,y5⟩:=ha1 5 _ rfl;cases e1;obtain⟨_,_,e1,_,y6⟩:=ha1 6 _ rfl;cases e1;exact Ai eV):=Aa h;exact Sr):P:=h
theorem Y0(h:P:=by
 have bT{P}(h:P:=by obtain⟨_,_,e1,_,y4⟩:=ha2 4 _ rfl;cases e1;obtain⟨_,_,e1,_,y5⟩:=ha2 5 _ rfl;cases e1;obtain⟨_,_,e1,_,y6⟩:=ha2 6 _ rfl;cases e1;exact Ai eW):=Aa h;exact Ss):P:=h
theorem Y1(h:P:=by
 obtain⟨cs,ho1,ho2⟩:=hO.gb gN Ae;obtain⟨i0,hi0,hz0,hz1,hz2⟩:=info_parts Ub;have HI:=Z (Ac hi0 (Ac hz0 (Ac hz1 hz2)));have HB:=Z (Ac ho1 (Ac ho2 (Ac ((hV.mono (ok':=fun q=>wr.heap.size≤q) (fun q h1 _=>by omega)).gb gN Ae) (Ac (RepV.gb (RepV.mono' (ok':=fun q=>wr.heap.size≤q) hB (fun q h1 _=>by have h1':w6.heap.size≤q:=h1;omega)) gN Ae) (Ac (hp.gbN gN) (A0 gW gN))))));have hlen2:a.length≤200000:=Ab;clear hi0 hz0 hz1 hz2 ho1 ho2 hV hB hp gW gN hT;exact Ai eX):P:=h
theorem QD(h:P:=by
 refine(h.kept hg ?_).kept g1 ?_
 ·cases hv:v.ownBlock with
  |none=>exact .inl rfl
  |some q=>exact .inr fun e=>a1 q hv e.symm
 ·cases hv:v.ownBlock with
  |none=>exact .inl rfl
  |some q=>exact .inr fun e=>by cases e;exact a2 hv):P:=h
theorem Y2(h:P:=by
 replace hR:=h9.gb gS A6;have HW:=Z (E8 hR [41]);clear g gS h9 hV;go_wp2_with fail;refine HW.out.mono ?_;rintro e w5 ⟨g,v,rfl,rfl,h9⟩;have hs9:w52.heap.size≤w5.heap.size:=by have h9:=g.size;simpa using h9
 have Ep{P}(h:P:=by replace hT:=hT.gb g Ag;replace hV9:=Z (hV9.out.gb g Ig);replace hR:=h9;simp only at hR;replace hTl:=hT.lt;clear g h9 HW t2 tf;exact Ai eY):=Aa h;exact Eg):P:=h
theorem Ls(h:P:=by
 generalize hWW:World.setCell _ _ _=W10 at*;have HK:=Z HK8.out.1;have hR:=HK8.out.2;clear HK8 hx5 d6 d7 f7 l6 l7 s6;exact Ai LB):P:=h
theorem Gw(h:P:=by
 have hb:=h.lt;have hf:=h.few;have c0:=h.c0;have c1:=h.c1;have hg:=fun h=>BI s i h hi;exact Ai Gz):P:=h
theorem Ng(h:P:=by
 have hw0:w.heap.size<(w.alloc (.cells zeroE.toArray 29 (0,0))).heap.size:=Ae;have HX:=Z (hop _ _ _ h0 hx);have H:=Z (Ac hop (Ac ho (Ac hz (Ac gz hw0))));clear hop ho hx hz gz h0 hw0;exact Ai NJ):P:=h
theorem Y3(h:P:=by
 intro w i h ho;have hb:=h.lt;have g0:w.grownBy ((w.alloc (.cells #[.pointer (some ⟨b,0,none⟩)] 94 (0,0))).alloc (.cells zeroE.toArray 29 (0,0))) (some b):=Ar (Ar (Aj _ _) _) _;have hB:=Blk.new (w.alloc (.cells #[.pointer (some ⟨b,0,none⟩)] 94 (0,0))) zeroE 29;have hk:((w.alloc (.cells #[.pointer (some ⟨b,0,none⟩)] 94 (0,0))).alloc (.cells zeroE.toArray 29 (0,0))).cell? ⟨w.heap.size,0,none⟩=some (.pointer (some ⟨b,0,none⟩)):=Ae;rw[World.size_alloc]at hB;exact Ai eZ):P:=h
theorem Y4(h:P:=by
 have HX:=Z (Ac hi (Ac hz0 (Ac hz1 (Ac hz2 (Ac hnc (Ac hml hown4))))));clear hi hz0 hz1 hz2 hnc hml hown4;go_wp2_with (at_builtin;obtain⟨hi,hz0,hz1,hz2,hnc,hml,hown4⟩:=HX.out;refine Oe rfl _ _ 26 rfl w.heap.size 9 i0 (str []) 1 16 underlying26 hi hz0 hz1 hz2 rfl Ad _ _ _ rfl hown4 ⟨w3.heap.size,0,none⟩ 1 1 [str y] rfl rfl hnc Dg hml Ab hbs ?_;intro v' w5 hown5 g5 _;clear hi hz0 hz1 hz2 hnc hml hown4);have HO5:=Z hown5;clear hown5;exact Ai e8):P:=h
theorem Y5(h:P:=by
 generalize(((((((w10.setCell {block:=W8.heap.size,off:=0} (.int .i64 x.h.op)).setCell {block:=W8.heap.size,off:=1} (.string {data:=List.toArray x.h.s})).setCell {block:=W8.heap.size,off:=2} (.int .i64 x.h.vk)).setCell {block:=W8.heap.size,off:=3} (.int .i64 x.h.vn)).setCell {block:=W8.heap.size,off:=4} (.string {data:=List.toArray x.h.vs})).setCell {block:=W8.heap.size,off:=5} (.slice pe x.h.p.length pf)).setCell {block:=W8.heap.size,off:=6} (.slice le x.kids.len lf))=W9 at*;exact Ai fA):P:=h
theorem Im(h:P:=by
 have hne:∀q,but w L q→q<wr.heap.size→some q≠some L:=fun q hq _ e=>by cases e;exact hq.2 rfl
 exact Ai Iv):P:=h
theorem Lt(h:P:=by
 have hmf:∀(fn:Fn)(first cap:Array Value)(w:World),(Instr.makeFunc fn first cap).run Tryz.prog w= .ok (.func fn first cap) w:=fun _ _ _ _=>rfl;exact Ai LC):P:=h
theorem Y6(h:P:=by
 have HK7:=Z hK7;have hbW:=hK7.rr.lt;clear hK7;go_wp2_with fail;refine HS.out.mono ?_;rintro e w8 ⟨g8,v,rfl,rfl,h8⟩;have HK8:=Z ((HK7.out.gbN hb (World.grownBy_alloc _ _ none)).gb hb g8 h8);clear HS HK7 g8 h8;go_wp2_with fail;go_roundg m
 case measure=>omega
 case rel=>exact⟨bz,ua,uc,va,vc,st3,rfl,HK8.out,HQ.out⟩):P:=h
theorem Nh(h:P:=by
 rintro e w1 ⟨rfl,rfl⟩;rw[HC.out.1];go_wp2_with fail;refine(Od HT.out.rl hi).mono ?_;rintro e w1 ⟨rfl,g1⟩;rw[HC.out.2.1];have HT1:=Z (HT.out.gbN g1);exact Ai NK):P:=h
theorem Lu(h:P:=by
 replace HK:=Z (HK.out.gb g);replace hp:=hp9;clear g hp9;replace HQ:=HQr HQ JL;clear hw;exact Ai LD):P:=h
theorem Y7(h:P:=by
 replace HQ:=HQr HQ Cx;have I0{P}(h:P:=by exact bodyPost_ret (AX (hd:=(AC s:Ex).h) (pv:= .slice none 0 0) (lv:= .slice none 0 0) rfl _ (hz.set7 _ _ _ _ _ _ _) rfl) rfl (E9 (ok:=fun k=>w.heap.size<k) (x:=AC s) hb HQ.out.symm gr ⟨none,0,none,0,rfl,Cells.nil _ _ _,RepL.nil _ _⟩ (fun k hk=>hk) hp (AD _ _ _ _ _ _ _ _ _))):=Aa h;exact Is):P:=h
theorem QE(h:P:=by
 have L6{P}(h:P:=by have hgI:=As (Aj w2 (some b)) 1 (.int .i64 ((j:Int)+1));have HPI:=Z (hp.goI ((j:Int)+1) (j+1) Ab Ab);have HKI:=Z (HK.out.gb hgI);clear hgI;exact Ai RE):=Aa h;exact Kt):P:=h
theorem QF(h:P:=by
 go_wp2_with fail;go_quiet(fail);go_wp2_with fail;refine(HE.out _ gw).mono ?_;rintro e w2 ⟨rfl,g2,hs2⟩;have hr2:=(hq.res.drewN nq).gb g2 Ag;exact Ai RF):P:=h
theorem In(h:P:=by
 have hk2:=HK2.out;have hL:=hk2.blk;have hZ:=hk2.zero;have hwL:=hk2.wL;exact Ai Iw):P:=h
theorem QG(h:P:=by
 go_wp2_with fail;refine(B5 hp [44] hs).mono ?_;rintro e w12 ⟨rfl,g⟩;replace HK:=Z (HK.out.gbN g);replace hp:=hp.gbN g;clear g;replace HQ:=HQr HQ Cx;clear hs;replace HQ:=HQr HQ CU;exact Ai RG):P:=h
theorem Y8(h:P:=by
 have hn:∀v,v∈saidWords→(wd==v)=false:=by
  intro v hv;have:wd≠v:=by
   rintro rfl;exact LN
  simpa using this
 have hw0:=hn Gh Ad;have hw1:=hn FW Ad;have hw2:=hn Gd Ad;have hw3:=hn Ge Ad;have hw4:=hn wIF Ad;have hw5:=hn wDO Ad;have hw6:=hn BH Ad;have hw7:=hn FE Ad;have hw8:=hn FD Ad;have hw9:=hn CD Ad;have hw10:=hn CB Ad;have hw11:=hn Hy Ad;clear hn hw;exact Ai fB):P:=h
theorem Y9(h:P:=by
 go_wp2_with fail;go_quiet(fail);go_wp2;go_roundg gk
 case measure=>omega
 case rel=>exact⟨k+1,by omega,by simp,HR.out _ (AA (Aj wr none) _)⟩):P:=h
theorem YA(h:P:=by
 go_wp2_with (at_builtin;obtain⟨hi,hz0,hz1,hz2,hnc,hml,hown4,hol⟩:=HX.out;refine Oe rfl _ _ 27 rfl w.heap.size 29 i0 _ 7 104 underlying27 hi hz0 hz1 hz2 rfl Ad _ _ _ rfl hown4 ⟨w3.heap.size,0,none⟩ 1 1 (hdC y.h (.slice ya y.h.p.length yc) (.slice ma y.kids.len mc)) rfl rfl hnc FS hml Ab hbs ?_;intro v' w5 hown5 g5 hn5;clear hi hz0 hz1 hz2 hnc hml hown4 hol);have HO5:=Z (Ac hown5 hn5);clear hown5 hn5;exact Ai fC):P:=h
theorem QH(h:P:=by
 generalize hWW:World.setCell _ _ _=W11 at*;have HK:=Z HK8.out.1;have hp:=HK8.out.2;clear HK8 d7 f7 l7 hx4 cx_0 cx_1 cx_2 cx_3 cx_4 cx_5 cx_6 cx_f hlx HXk HF;exact Ai RH):P:=h
theorem AbU(h:P:=by
 have hres9:=Sj (HK).out hp HQ.out.symm;have hblk9:=(HK).out.out.2.2.1;exact Ai Abl):P:=h
theorem Ni(h:P:=by
 go_wp2;go_quiet(fail);go_wp2;go_quiet(fail);go_wp2_with fail;refine(Sh _ _).mono ?_;rintro e w1 ⟨rfl,rfl⟩;exact Ai NL):P:=h
theorem Zg(h:P:=by
 have hs10:=g10.size;have hZ10:=HZk.out.gb g10 Ag (fun q hq _ e=>by cases e;have:W8.heap.size≤b:=hq;omega);have hcz:=hZ10.blk;obtain⟨dz_0,dz_1,dz_2,dz_3,dz_4,dz_5,dz_6,dz_f⟩:=(hcz).c7;have hlz:=hcz.lt;have g11:=AD w10 W8.heap.size (.int .i64 x.h.op) (str x.h.s) (.int .i64 x.h.vk) (.int .i64 x.h.vn) (str x.h.vs) (.slice pe x.h.p.length pf) (.slice le x.kids.len lf);exact Ai fX):P:=h
theorem Ha(h:P:=by
 go_wp2_with fail;refine(Kr _ _).mono ?_;rintro e w1 ⟨rfl,rfl⟩;exact Ai Hf):P:=h
theorem AbY(h:P:=by
 go_wp2_with fail;go_region;go_wp2;refine bodyPost_ret (Du (t:=⟨5,j,[]⟩) (r:=true) rfl _ (((hr2.set3 _ _ _).alloc _).drew) rfl rfl) rfl ⟨?_,?_⟩
 ·have g:=Ah (AA hq.g nq) g2;exact gw
 ·rw[HQ.out];exact⟨rfl,((((hs2.set_other _ _ Ag).set_other _ _ Ag).set_other _ _ Ag).alloc _).drew⟩):P:=h
theorem Zh(h:P:=by
 have HN:=Z (Gc hR1 (fun _=>hi));clear hR1;go_wp2_with fail;refine HN.out.mono ?_;rintro e w2 ⟨g2,v,rfl,rfl,h2⟩;have hZ:=hZ1.gb g2 Ag;have hT2:=hTk.gb g2 Ag;have HR:=Z (Ac (Ah G1.out g2) h2);have hlt2:=hZ.lt;have t2:=hT2.cell 2;simp only[List.getElem?_cons_zero,List.getElem?_cons_succ]at t2;clear g2 h2 hZ1 hTk HN;go_wp2_with fail;refine(HV.out _).mono ?_;exact Ai fY):P:=h
theorem Zi(h:P:=by
 generalize hWW:World.setCell _ _ _=W8 at*;have HK:=Z HK8.out.1;have hR:=HK8.out.2;clear HK8 hx4 d6 d7 f7 l6 l7 s6;go_wp2_with fail;refine(BR hR).mono ?_;rintro e w9 ⟨g9,v,rfl,rfl,h9⟩;replace HK:=Z (HK.out.gb g9);clear g9;have hR:=h9;have hkl:=HK.out.lt;have hx5:=HK.out.blk.cell' 5 rfl;clear h9;exact Ai fZ):P:=h
theorem Ly(h:P:=by
 go_wp2_with fail;go_roundg gk
 case measure=>omega
 case rel=>exact HR.out):P:=h
theorem Zj(h:P:=by
 have hK:KS b w s W {sd0 12 []with x:=f} .nil (.slice none 0 0) (.slice va f.len vc) (.slice none 0 0) (.slice none 0 0) (.slice none 0 0) (.slice none 0 0):=
  ⟨hB,Cells.nil _ _ _,hV.mono (fun q hq _=>⟨by have:=hq.1;omega,hq.2⟩),RepV.nil _ _ _,RepL.nil _ _,RepL.nil _ _,RepL.nil _ _,Ah HZ.out.2 gW,hb,by omega,HZ.out.1.gb gW Ag⟩
 have HK:=Z hK;clear hK hV hB g gW hR;go_wp2_with fail;exact Ai f5):P:=h
theorem Zk(h:P:=by
 have hK:KS b w s W {sd0 8 []with x:=f} .nil (.slice none 0 0) (.slice va f.len vc) (.slice none 0 0) (.slice none 0 0) (.slice none 0 0) (.slice none 0 0):=
  ⟨hB,Cells.nil _ _ _,hV.mono (fun q hq _=>⟨by have:=hq.1;omega,hq.2⟩),RepV.nil _ _ _,RepL.nil _ _,RepL.nil _ _,RepL.nil _ _,Ah HZ.out.2 gW,hb,by omega,HZ.out.1.gb gW Ag⟩
 have HK:=Z hK;clear hK hV hB g gW hR;go_wp2_with fail;exact Ai f6):P:=h
theorem Lz(h:P:=by
 rintro e w4 ⟨rfl,g4⟩;replace hZ:=hZ.gb g4 Ae;replace HR:=Z (Ac (A0 HR.out.1 g4) (HR.out.2.gbN g4));have hlt4:=hZ.lt;exact Ai LG):P:=h
theorem Zl(h:P:=by
 have hs1:=g.size;have HR0:=Z (Ac (OwnP.one (q:=([77,65,73,78],false,[],c)) (pa:=none) (pc:=0) rfl hs1 (Cells.nil _ _ _) hv) (Ac (hp1.alloc (.cells (pdC (AB ([77,65,73,78],false,[],c)) (.slice none 0 0) (.slice ba c.len bc)).toArray 45 (0,0))) (Ar g (.cells (pdC (AB ([77,65,73,78],false,[],c)) (.slice none 0 0) (.slice ba c.len bc)).toArray 45 (0,0)))));clear g hv hp1;go_wp2_with fail;exact Ai gE):P:=h
theorem L0(h:P:=by
 go_enter func11,ntmps11;go_wp2;go_ret;exact⟨by rw[HF.out];rfl,gw⟩):P:=h
theorem Kd(h:P:=by
 exact Fine.bind' (i':=p) Ab (Jk _ _) fun _ k _ hk hl2=>⟨by omega,hl2⟩):P:=h
theorem Zm(h:P:=by
 have hkl5:=HK.out.lt;have hbw:=HK.out.bw;have hx4:=HK.out.blk.cell' 4 rfl;have hf4:=HK.out.blk.frozen 4;have hK6:=HK.out.putX (hF.mono (fun q hq _=>by have h1:(w3).heap.size≤q:=hq;(try simp at h1);exact⟨by omega,by omega⟩));have hp6:=hp.set (L:=L) Ab 4 (.slice fa f.len fc);replace HK:=Z hK6;replace hp:=hp6;clear hK6 hp6 hF g;exact Ai gG):P:=h
theorem Zn(h:P:=by
 have hE1:=HPF.out.1.endQ1 HPF.out.2 HVF.out.1 HVF.out.2;have hE2:=HPF.out.1.endQ2 HPF.out.2 HVF.out.1 HVF.out.2;simp only[Dd]at hE1 hE2;first
 |exact⟨⟨_,by with_reducible exact hE1.1⟩,by with_reducible exact hE1.2⟩
 |exact⟨⟨_,by with_reducible exact hE2.1⟩,by with_reducible exact hE2.2⟩):P:=h
theorem Jc(h:P:=by
 go_wp2_with fail;refine(Sh _ _).mono ?_;rintro e w1 ⟨rfl,rfl⟩;exact Ai Jg):P:=h
theorem Nq(h:P:=by
 intro W m s v g hR hs1 hs2 hV hB;simp only[List.setIfInBounds_toArray,List.set_cons_succ,List.set_cons_zero];obtain⟨_,⟨va,vc,rfl,_⟩,_⟩:=id hV;exact Ai NT):P:=h
theorem Zo(h:P:=by
 clear rp rl;have hZ:=hB.gb g1 Ag;have gA:=Ar (Ah g0 g1) (.cells (hdC x.h (.slice pa x.h.p.length pc) (.slice la x.kids.len lc)).toArray 29 (0,0));have hA:=h1.alloc (.cells (hdC x.h (.slice pa x.h.p.length pc) (.slice la x.kids.len lc)).toArray 29 (0,0));have hL:=Blk.new w1 (hdC x.h (.slice pa x.h.p.length pc) (.slice la x.kids.len lc)) 29;go_wp2_with fail;exact Ai gH):P:=h
theorem Zp(h:P:=by
 have hK4:=HK.out.layX (f:= .one x) (m:=1) JH Ad (VE.rep (rp.mono hfr) (rl.mono hfr));have hp3:=(hp.set (L:=L) hbL 4 (.slice (some ⟨(w7).heap.size,0,none⟩) 1 1)).alloc (.cells (hdC (x).h (.slice pa (x).h.p.length pc) (.slice la (x).kids.len lc)).toArray 29 (0,0));replace HK:=Z hK4;replace hp:=hp3;clear g rp rl hK4 hp3 hfr;replace HQ:=HQr HQ Bj;exact Ai gL):P:=h
theorem Nr(h:P:=by
 cases hpp;have HK:=Z (B9 hR [40]);rw[h40]at HK;go_wp2_with fail;refine(HK.out).mono ?_;exact Ai NU):P:=h
theorem Zq(h:P:=by
 obtain⟨a',st4,hpa,hq⟩:=Rd.bind_g hq;unfold BS at hpa;obtain⟨x,st2,hx,hpa⟩:=Rd.bind_g hpa;rw[Rd.fin_g]at hpa;obtain⟨c,st3,hc,hpa⟩:=Rd.bind_g hpa;rw[Rd.pure_g]at hpa;cases hpa;have HX:=Z (Ac hx (Ac hc hq));clear hx hc hq;have hkl:=HK.out.lt;have hx4:=HK.out.blk.cell' 4 rfl;go_wp2_with fail;exact Ai gO):P:=h
theorem Zr(h:P:=by
 have gN:=World.grownBy_alloc w6 (.cells (hdC t.h (.slice pa t.h.p.length pc) (.slice la t.kids.len lc)).toArray 29 (0,0)) none;have HX:=Z (Ac ((rp.mono (ok':=fun q=>w.heap.size<q) hsince).gb gN Ae) ((rl.mono (ok':=fun q=>w.heap.size<q) hsince).gb gN Ae));replace HZ:=Z (Ac (HZ.out.1.gb gN Ae) (A0 HZ.out.2 gN));have hp7:=hp.gbN gN;replace hp:=hp7;have hb6:=hp.lt;exact Ai gP):P:=h
theorem Zs(h:P:=by
 have e0:=hq3.sc.c0;have e1:=hq3.sc.c1;have t0:=hq3.tok.cell 0;have t1:=hq3.tok.cell 1;have t2:=hq3.tok.cell 2;have tf:=fun k=>hq3.tok.frozen k;have tl:=hq3.tok.lt;simp only[List.getElem?_cons_zero,List.getElem?_cons_succ]at t0 t1 t2;have hkI:decide ((k:Int)≤s.length)=true:=Ag;have hkI2:decide (i≤k)=true:=Ag;exact Ai gQ):P:=h
theorem L1(h:P:=by
 clear h;have HK:=Z hKK.toKS;clear hKK;have H:=Z (Ac True.intro (Ac hE hok));clear hE hok;go_enter func192,ntmps192;exact Ai LH):P:=h
theorem Ns(h:P:=by
 rw[hB];go_enter func242,ntmps242;go_wp2;exact bodyPost_ret (v:= .tuple #[_,_]) Qd rfl ⟨rfl,Aj _ _⟩):P:=h
theorem Zt(h:P:=by
 rintro e w2 ⟨rfl,hs2,g2⟩;have HS2:=Z (hs2.wr_eq E2.out.symm);clear hs2 hs;go_wp2;go_roundg gk
 case measure=>omega
 case rel=>exact⟨j+1,by omega,by omega,by go_num,HS2.out,Ah HG.out g2⟩):P:=h
theorem Gy(h:P:=by
 go_wp2_with fail;refine HT.out.mono ?_;rintro e w1 ⟨rfl,g1⟩;exact Ai GA):P:=h
theorem YL(h:P:=by
 rintro e w2 ⟨rfl,hs2,g2⟩;have c1:=hs2.c1;have f1:=hs2.fr 1;go_wp2;go_roundg gk
 case measure=>omega
 case rel=>exact⟨k+1,by omega,by omega,(hs2.go _ (k+1) Ab Ab).wr_eq e2.symm,A7 (Ah (AA HG.out _) g2) _ _ (.inl rfl)⟩):P:=h
theorem Nn(h:P:=by
 rw[hB];go_enter func245,ntmps245;go_wp2;exact bodyPost_ret (v:= .tuple #[_,_]) Xt rfl ⟨rfl,rfl⟩):P:=h
theorem QL(h:P:=by
 rw[hcm]at hp;clear hcm;obtain⟨rfl,hs2⟩:=hp;have hr2:=hq.res.gb g12 Ag;have ht2:=hq.tabs.gb g12 Ae;have gg:=Ah hq.g g12;go_wp2;exact Ai RK):P:=h
theorem YM(h:P:=by
 have HB:=Z c4;rw[c4]at HT;clear c4;go_enter func11,ntmps11;go_wp2_with fail;refine(HT.out _ ?gg).mono ?_
 case gg=>exact gw
 rintro e w1 ⟨rfl,g1⟩;have gwx:w.grownBy w1 none:=Ah (Ar (World.grownBy_alloc w _ none) _) g1;exact Ai fG):P:=h
theorem YN(h:P:=by
 rintro e wr ⟨rfl,g2,h2⟩;have g12:w1.grownBy wr (some b):=Ah (Ar (Aj _ _) _) g2;have gr:=Ah gA g2;have hL2:=hL.gb g2 Ag;have hZ2:=(hZ.gb g12 Ag);have HV2:=Z (HV.out.gb g12 JI);have hwr:=gr.size;have hLb:=hL2.lt;clear gA hA hL g2 hB hZ g0 h0 HV;obtain⟨cl_0,cl_1,cl_2,cl_3,cl_4,cl_5,cl_6,cl_f⟩:=(hL2).c7;exact Ai fH):P:=h
theorem YO(h:P:=by
 have HC:=Z (H.out.1 _ _ _ HK2.out.rr HY.out);have hLt:=HK2.out.blk.lt;have hwL:=HK2.out.wL;go_wp2_with fail;refine HC.out.mono ?_;rintro e w5 ⟨g5,v,rfl,⟨za,zc,na,nc,rfl,zp,zl⟩,h5⟩;simp only at zp zl h5 ⊢;have hs5:=g5.size;have hk5:=HK2.out.gb hb g5 h5;have hL5:=hk5.blk;exact Ai fI):P:=h
theorem QM(h:P:=by
 rintro e w1 ⟨rfl,g1⟩;have c1:=(h.gbN g1).c1;go_wp2_with fail;refine(I1 c1).mono ?_;rintro e w2 ⟨rfl,rfl⟩;exact⟨rfl,AY g1,rfl⟩):P:=h
theorem GY(h:P:=by
 go_wp2_with fail;refine HT.out.mono ?_;rintro e w1 ⟨g1,v,rfl,rfl,h1⟩;exact Ai Hc):P:=h
theorem YP(h:P:=by
 have HX:=Z (Ac ((HZ.out.1.x rfl).gb gN Ae) (A0 HZ.out.2 gN));have hV9:=Z ((hV.mono (ok':=fun q=>w4.heap.size≤q∧q<w5.heap.size) (fun q h1 h2=>⟨h1,h2⟩)).gb gN Ae);replace hp:=hp.gbN gN;clear HZ hV g;have HZ:=HX;clear HX gN;go_wp2_with fail;refine(Gb hp).mono ?_;intro e w6 hq;exact Ai fJ):P:=h
theorem YQ(h:P:=by
 rintro e w5 ⟨g5,v,rfl,hv,h5⟩;obtain⟨fa,fc,rfl,hF⟩:=hv;simp only at hF h5;have hkl5:=(HK.out.gb g5).lt;have hx4:=(HK.out.gb g5).blk.cell' 4 rfl;have hf4:=(HK.out.gb g5).blk.frozen 4;have hK6:=(HK.out.gb g5).putX (hF.mono (fun q hq _=>by have h1:w4.heap.size≤q:=hq;exact⟨by omega,by omega⟩));exact Ai fK):P:=h
theorem Lv(h:P:=by
 obtain⟨⟨z,st3⟩,hy,hq⟩:=Option.bind_eq_some_iff.1 hq;simp only at hq;have HQ:=Z hq;have HY:=Z hy;exact Ai LE):P:=h
theorem Lw(h:P:=by
 generalize hW:w1.alloc (.cells #[.int .i64 t.kind,.int .i64 t.pos,str t.text] 89 (0,0))=W at*;have d0:=hTk.cell 0;exact Ai LF):P:=h
theorem YR(h:P:=by
 have HK:=Z hk;have HN:=Z hn;clear hk hn;go_enter func98,ntmps98;go_wp2_with fail;refine(CI h).mono ?_;rintro e w1 ⟨rfl,g1⟩;rw[AG,HK.out];go_wp2_with fail;refine(kF _ _ Ab).mono ?_;rintro e w2 ⟨rfl,g2⟩;rw[HN.out];have h2:Par w2 b tv wv l wl i:=h.gbN gw;exact Ai fL):P:=h
theorem GZ(h:P:=by
 go_wp2_with fail;refine(CI h).mono ?_;rintro e w1 ⟨rfl,g1⟩;exact Ai He):P:=h
theorem No(h:P:=by
 rintro e w7 ⟨g3,v,rfl,rfl,h3⟩;have hK3:=HK.out.gb g3;have hkl3:=hK3.lt;have d3:=hK3.blk.cell' 3 rfl;have f3:=hK3.blk.frozen 3;exact Ai NQ):P:=h
theorem AbX(h:P:=by
 go_wp2_with fail;refine(C5 hR H.out.2.1 JC Ad).mono ?_;rintro e w11 ⟨g5,v,rfl,rfl,h5⟩;replace HK:=Z (HK.out.gb g5);clear g5;go_wp2_with fail;refine(BR h5).mono ?_;rintro e w12 ⟨g6,v,rfl,rfl,h6⟩;replace HK:=Z (HK.out.gb g6);clear g6;exact Ai Abo):P:=h
theorem Lx(h:P:=by
 refine⟨by omega,by omega,?_⟩;simp only[Bool.toNat_true];omega):P:=h
theorem YS(h:P:=by
 have hx4:=HK.out.blk.cell' 4 rfl;have hf4:=HK.out.blk.frozen 4;have hK6:=HK.out.putX (hF.mono (fun q hq _=>by have h1:w4.heap.size≤q:=hq;exact⟨by omega,by omega⟩));have hp6:=hp.set (L:=w3.heap.size) Ab 4 (.slice fa f.len fc);replace HK:=Z hK6;replace hp:=hp6;clear hK6 hp6 hF g;exact Ai fM):P:=h
theorem YT(h:P:=by
 go_wp2_with fail;go_region_with(go_at_call 56;refine(HE.out _ _ (hp.gbN (An (Aj _ none))) Bp).mono ?_;rintro e w6 hq6;rw[hr6]at hq6;obtain⟨g6,rfl⟩:=hq6;refine Cd (P:=Tryz.prog) ⟨rfl,Post.bad (Ah (An HK.out.gr) g6) Bz⟩ ⟨#[],[]⟩ w6 ?_);all_goals trivial):P:=h
theorem YU(h:P:=by
 refine DM (DM (Bg.pure (Nat.zero_le _)) (Bg.bind (fun _=>0) 0 0 ?_ (fun p=>A4 Ht (Bg.pure (Nat.zero_le _))) Ab)) (Bg.pure (Nat.zero_le _));intro i p j e;have h:=Uo (l:=l) (n:=n) i;rw[show Eh l n i= .ok p j from e]at h;simp only[Big,Bv]at h;show 0+i≤j+0;omega):P:=h
theorem YV(h:P:=by
 have Rz{P}(h:P:=by have hbL:b<L:=Df;have hp3:=(hp.set (L:=L) hbL 3 (.slice (some ⟨(w7).heap.size,0,none⟩) 1 1)).alloc (.cells #[str p] 9 (0,0));replace HK:=Z (HK.out.layP p);replace hp:=hp3;clear hp3;exact Ai fN):=Aa h;exact O4):P:=h
theorem YW(h:P:=by
 have hs6:w5.heap.size<w6.heap.size:=by have h9:=g.size;simp at h9;omega
 replace hT:=hT.gb g Ag;replace hV9:=Z (hV9.out.gb g MQ);have hTl:=hT.lt;clear g;go_wp2_with fail;refine(HBk.out _ _ (DO HGl.out.1 HGl.out.2 HZ.out.2) hp (fun e=>HO.out B8)).mono ?_;intro e w7 hq;exact Ai fO):P:=h
theorem QN(h:P:=by
 cases hv:u.ownBlock with
 |none=>exact .inl rfl
 |some q=>exact .inr fun e=>by cases e;exact h1 hv):P:=h
theorem DW(h:P:=by
 replace HZ:=Z (Ac (HZ.out.1.gb g Ag) (Ah HZ.out.2 g));exact Ai DX):P:=h
theorem YX(h:P:=by
 go_enter func192,ntmps192;go_wp2_with fail;refine HS.out.mono ?_;rintro e w5 ⟨rfl,g5⟩;replace HK:=Z (HK.out.gbN g5);have hR5:=hR.gbN g5;have HT:=Z (Mb hR5 1 Ab);clear g5;go_wp2_with fail;refine HT.out.mono ?_;rintro e w6 ⟨rfl,g6⟩;exact Ai fP):P:=h
theorem YY(h:P:=by
 go_wp2_with fail;refine(HX.out).mono ?_;rintro e w1 ⟨g1,v,rfl,⟨pa,pc,la,lc,rfl,rp,rl⟩,h1⟩;simp only at rp rl h1 ⊢;have hs1:=g1.size;have hb1:=h1.lt;have hlt1:w.heap.size<w1.heap.size:=Ab;have hZ:=hB.gb g1 Ag;have H2:=Z (Ac rp (Ac rl (Ac h1 (Ah g0 g1))));clear rp rl hB h1 g1 g0;exact Ai fQ):P:=h
theorem QO(h:P:=by
 have n0:(0:Int)≤(((Fo.one x)).len:Int):=Ab;have n1:(((Fo.one x)).len:Int)<((((Fo.one x)).len+1:Nat):Int):=Ab;have n2:(((Fo.one x)).len:Int)<(((Fo.one x)).len:Int)+1:=Ab;exact Ai RL):P:=h
theorem YZ(h:P:=by
 clear HR HA;have a0:=hA.acc.cell 0;have a1:=hA.acc.cell 1;have r0:=hA.res.cell 0;have r1:=hA.res.cell 1;have rf:=fun k=>hA.res.frozen k;have rl:=hA.res.lt;have af:=fun k=>hA.acc.frozen k;have al:=hA.acc.lt;simp only[List.getElem?_cons_zero,List.getElem?_cons_succ]at a0 a1 r0 r1;exact Ai fR):P:=h
theorem Za(h:P:=by
 have hs7:=g.size;replace hT:=hT.gb g Ag;replace hV9:=Z (hV9.out.gb g MQ);replace hTl:=hT.lt;obtain⟨ba,bc,rfl⟩:∃ba bc,v= .slice ba c.len bc:=Xv;have t3:=hT.cell' 3 rfl;have tf:=hT.frozen 3;have gS:=As (Aj w7 (some w5.heap.size)) 3 (.slice ba c.len bc);exact Ai fS):P:=h
theorem Zb(h:P:=by
 have g7:=AD wr L (.int .i64 op) (str s) (.int .i64 0) (.int .i64 0) (str []) (.slice none 0 0) (.slice (some ⟨wr.heap.size,0,none⟩) 2 2);have hsz:(set7 wr L (.int .i64 op) (str s) (.int .i64 0) (.int .i64 0) (str []) (.slice none 0 0) (.slice (some ⟨wr.heap.size,0,none⟩) 2 2)).heap.size=wr.heap.size:=Ii;exact Ai fT):P:=h
theorem Zc(h:P:=by
 exact⟨pa,xa,na,fa,wa,ba,pc,xc,nc,fc,wc,bc,rfl,⟨h3.p.mono fun q hq _=>hm q hq,h3.x.mono fun q hq _=>hm q hq,h3.n.mono fun q hq _=>hm q hq,h3.f.mono fun q hq _=>hm q hq,h3.w.mono fun q hq _=>hm q hq⟩,RepV.mono' (h2.gb g10 hne) fun q hq _=>hm q hq⟩):P:=h
theorem Zd(h:P:=by
 go_wp2_with fail;refine HA.out.mono ?_;rintro e w1 ⟨rfl,g1⟩;replace HK:=Z (HK.out.gbN g1);replace hp:=hp.gbN g1;clear g1 HA;go_wp2_with fail;refine(I8 hp HTk.out i).mono ?_;rintro e w2 ⟨rfl,g2⟩;replace HK:=Z (HK.out.gbN g2);replace hp:=hp.gbN g2;clear g2;generalize Av l wordsL i=s at*;exact Ai fU):P:=h
theorem Ze(h:P:=by
 go_wp2_with fail;refine(Dn hs k 3 (r:=false) HC.out).mono ?_;rintro e w1 ⟨rfl,g1⟩;have hs1:=hs.gbN g1;have hk2:AE s k=k:=by
  have h2:=HC.out;by_cases hkl:k<s.length
  ·exact Dq hkl (by simpa[hkl]using h2)
  ·exact DZ Ab
 have HK:=Z (hk2.symm.trans HQ.out);clear hk2;exact Ai fV):P:=h
theorem Ip(h:P:=by
 go_wp2_with fail;refine HS.out.mono ?_;rintro e w1 ⟨rfl,g1⟩;exact Ai Iy):P:=h
theorem Np(h:P:=by
 intro w st r h ho;have hb:=h.lt;unfold DE at ho;have L7{P}(h:P:=by exact Ai NS):=Aa h;exact Ku):P:=h
theorem Zf(h:P:=by
 have HI:=Z (Jj h2 0 Ab [38]);replace HZ:=Z (Ac (HZ.out.1.gb g2 Ag) (Ah HZ.out.2 g2));clear g2 HT;rw[Nat.add_zero,HM.out.1]at HI;go_wp2_with fail;refine HI.out.mono ?_;rintro e w3 ⟨rfl,g3⟩;replace HZ:=Z (Ac (HZ.out.1.gb g3 Ae) (A0 HZ.out.2 g3));have hR3:=h2.gbN g3;have hl3:=HZ.out.1.lt;exact Ai fW):P:=h
theorem ZJ(h:P:=by
 rintro e w2 ⟨rfl,g2⟩;have hr2':=hr.gbN g2;have d1:=hr2'.sc.c1;have f1:=hr2'.sc.fr 1;go_wp2;go_roundg gk
 case measure=>omega
 case rel=>exact⟨k+1,by omega,by omega,hr2'.go hb hkl⟩):P:=h
theorem Abb(h:P:=by
 have hfr:∀q,Ap (W0).heap.size q→q<w20.heap.size→but w (w.heap.size+1) q:=fun q hq _=>by have h1:(W0).heap.size≤q:=hq;(try simp at h1);exact⟨by omega,by omega⟩
 exact Ai Abq):P:=h
theorem ZK(h:P:=by
 go_wp2_with fail;go_quiet(fail);go_wp2;go_ret;exact⟨A0 HO.out.2.2.1 (AA (Aj wr none) _),_,rfl,RepV.mono' (HO.out.1.gb (AA (Aj wr none) _) Ae).rep (fun q hq _=>Nat.le_of_succ_le hq),HO.out.2.1.gbN (AA (Aj wr none) _)⟩):P:=h
theorem Nu(h:P:=by
 rw[show(w.alloc (.cells (stC 0 (.slice none 0 0)).toArray 50 (0,0))).heap.size=w.heap.size+1 by simp]at hKK;have HK:=Z hKK;exact Ai NW):P:=h
theorem Kf(h:P:=by
 obtain⟨i0,hi0,hz0,hz1,hz2⟩:=info_parts LI;have HI:=Z (Ac hi0 (Ac hz0 (Ac hz1 hz2)));exact Ai Ko):P:=h
theorem ZL(h:P:=by
 simp only[List.take_succ_cons,List.take_zero,List.drop_succ_cons,List.drop_zero,List.take_nil]at*;generalize hY:AS [a0,a1,a2,a3]=Y at*;generalize hMM:AS [a4,a5]=M at*;generalize hDD:AS [a6,a7]=D at*;have HN:=Z (Ac hY (Ac hMM hDD));clear hY hMM hDD;exact Ai iG):P:=h
theorem ZM(h:P:=by
 refine(OB HE.out (show Par W b tv wo l wordsL (i+1)from hR) Bp).mono ?_;intro e w3 hq;rw[hr6]at hq;obtain⟨g3,rfl⟩:=hq;exact .inr ⟨_,rfl,fun a ha=>⟨ha,Post.bad (Ah (Ah (An HZ.out.2) gW) g3) Bz⟩⟩):P:=h
theorem ZN(h:P:=by
 have hK7:=(HZ4.out.1.gbN hb HU.out.1).store (z:=AH o x z) hb HU.out.2.1 HU.out.2.2;simp only[set7]at hK7;clear cl_0 cl_1 cl_2 cl_3 cl_4 cl_5 cl_6 cl_f dl_0 dl_1 dl_2 dl_3 dl_4 dl_5 dl_6 dl_f el_0 el_1 el_2 el_3 el_4 el_5 el_6 el_f hL4 hL5 hL;generalize hbe:AH o x z=bz at*;exact Ai iH):P:=h
theorem ZO(h:P:=by
 clear hKK hE hok ho;go_enter func192,ntmps192;go_wp2_with fail;refine HC.out.mono ?_;rintro e w5 ⟨rfl,⟨pv,xv,hK⟩,h5⟩;have HK:=Z hK;clear hK HC;obtain⟨s,st5⟩:=r;simp only at HK h5;go_upto_region 50 with fail;refine AL (Eb b tv l w _ _) ⟨_,_,_,_,_,HK.out,h5⟩ ?_;exact Ai iI):P:=h
theorem QU(h:P:=by
 rcases Int.lt_or_le y 1 with h|h
 ·have:y=0:=by omega
  subst this;decide
 ·rw[Int.tdiv_eq_ediv_of_nonneg Ab];omega):P:=h
theorem ZP(h:P:=by
 rw[Bool.eq_iff_iff];simp only[beq_iff_eq];constructor
 ·intro h;have h1:a.toNat=n:=Ab;apply UInt8.toNat_inj.1;rw[h1];simp[UInt8.toNat_ofNat',Nat.mod_eq_of_lt hn]
 ·rintro rfl;simp[UInt8.toNat_ofNat',Nat.mod_eq_of_lt hn]):P:=h
theorem ZQ(h:P:=by
 generalize hWW:World.setCell _ _ _=W10 at*;have HK:=Z HK8.out.1;have hp:=HK8.out.2;clear HK8 hx5 d6 d7 f7 l6 l7 s6;go_wp2_with fail;exact Ai iJ):P:=h
theorem ZR(h:P:=by
 rw[hw]at HW;have HQ:=Z hqq;have HK10:=Z hK10;clear hqq hK10;have N9{P}(h:P:=by have HK12:=Z (HK10.out.gb g12);clear g12 HW;go_wp2;exact Ai iK):=Aa h;exact LU):P:=h
theorem ZS(h:P:=by
 replace hk:=hk.gb hb g hp;clear g;have hz:=hk.zero;have hL:=hk.blk;have rp:=hk.rp.mono (ok':=fun g=>w.heap.size<g) (fun g hg _=>hg.1);have rl:=hk.rl.mono (ok':=fun g=>w.heap.size<g) (fun g hg _=>hg.1);have hwL:=hk.wL;have hltL:=hL.lt;clear hk;exact Ai iL):P:=h
theorem ZT(h:P:=by
 have hs1:=g1.size;have ho1:(w1.alloc (.cells [str x].toArray 9 (0,0))).ownsRow w.heap.size 9 1 (.slice (some ⟨w1.heap.size,0,none⟩) 1 1) 1 [str x]:=Ji rfl hs1 rfl Ad;have h1':=h1.alloc (.cells [str x].toArray 9 (0,0));have g1':=Ar g1 (.cells [str x].toArray 9 (0,0));exact Ai iM):P:=h
theorem ZU(h:P:=by
 have hglz:=World.block_lt_of_cell? w _ y0;have z0:=Am hgr y0;have z1:=Am hgr y1;have z2:=Am hgr y2;have z3:=Am hgr y3;have z4:=Am hgr y4;have z5:=Am hgr y5;have z6:=Am hgr y6;exact Ai iN):P:=h
theorem ZV(h:P:=by
 have hglt:=World.block_lt_of_cell? w _ y0;have t0:=Am hgr y0;have t1:=Am hgr y1;have t2:=Am hgr y2;have t3:=Am hgr y3;have t4:=Am hgr y4;have t5:=Am hgr y5;have t6:=Am hgr y6;exact Ai iO):P:=h
theorem ZW(h:P:=by
 have gA:=Ar (Ah gr g23) (.cells [str y].toArray 9 (0,0));have hA:=h3.alloc (.cells [str y].toArray 9 (0,0));have hbs:=gA.size;obtain⟨i0,hi,hz0,hz1,hz2⟩:=info_parts LI;have hnc:=Bu w3 [str y] 9;have hml:acc.length+1≤maxLen:=AI;exact Ai iP):P:=h
theorem ZX(h:P:=by
 have hlk:(Instr.lookup 181 (.map (some w2.heap.size)) (.string ⟨#[76,79,79,80]⟩) false).run Tryz.prog (w2.alloc (Bh [([76,79,79,80],.int .i64 6),([69,88,73,84],.int .i64 7)]))= .ok (.int .i64 6) (w2.alloc (Bh [(FE,.int .i64 6),(FD,.int .i64 7)])):=OF (GD _ _ _ rfl) FE;exact Ai iQ):P:=h
theorem ZY(h:P:=by
 have hlk:(Instr.lookup 181 (.map (some w2.heap.size)) (.string ⟨#[69,88,73,84]⟩) false).run Tryz.prog (w2.alloc (Bh [([76,79,79,80],.int .i64 6),([69,88,73,84],.int .i64 7)]))= .ok (.int .i64 7) (w2.alloc (Bh [(FE,.int .i64 6),(FD,.int .i64 7)])):=OF (GD _ _ _ rfl) FD;exact Ai iR):P:=h
theorem ZZ(h:P:=by
 go_wp2_with fail;refine(Uq HT1.out.rl hi hc).mono ?_;rintro e w3 h3;obtain⟨rfl,_⟩:=id h3;have H3:=Z h3;clear h3;go_wp2;go_end0;exact OO HT1.out.below H3.out):P:=h
theorem aA(h:P:=by
 intro m;induction m with
 |zero=>intro w i h ho;exact absurd rfl ho
 |succ m ih=>
 intro w i h ho;have hb:=h.lt;have gz:w.grownBy (w.alloc (.cells zeroE.toArray 29 (0,0))) (some b):=Ar (Aj _ _) _;have hz:=Blk.new w zeroE 29;have hp:=h.alloc (.cells zeroE.toArray 29 (0,0));exact Ai iS):P:=h
theorem aB(h:P:=by
 go_roundg (m'+1)
 case measure=>omega
 case rel=>exact⟨true,_,_,rfl,⟨_,_,_,HK.out⟩,h11,.inl ⟨rfl,m',rfl,by simp only[Fo.len_snoc];omega,by simp only[Bl.len_app,Bl.len];omega,HQ.out⟩⟩):P:=h
theorem QV(h:P:=by
 clear h;have HK:=Z hKK.toKS;clear hKK;go_enter func192,ntmps192;go_upto_region 50 with fail;refine AL (Eb b tv l w _ _) ⟨_,_,_,_,_,HK.out,hR⟩ ?_;exact Ai RQ):P:=h
theorem QW(h:P:=by
 obtain⟨cs,hc1,hr1⟩:=hf;obtain⟨_,_,e,hle,hmx,_,hc1⟩:=hc1;cases e;have hmax:f.len≤maxLen:=Ab;unfold maxLen at hmax;clear hle hmx;exact Ai RR):P:=h
theorem QX(h:P:=by
 go_wp2;go_roundg gk
 case measure=>omega
 case rel=>exact⟨k+1,by omega,by go_num,HR.out⟩):P:=h
theorem QP(h:P:=by
 go_wp2_with fail;refine HS.out.mono ?_;rintro e w2 ⟨g2,v,rfl,rfl,h2⟩;have HK2:=Z ((HK.out.gbN hb (World.grownBy_alloc _ _ none)).gb hb g2 h2);exact Ai RM):P:=h
theorem Zu(h:P:=by
 go_enter func158,ntmps158;go_wp2_with fail;refine(strings_IndexByte _ _ _).mono ?_;rintro e w1 ⟨rfl,rfl⟩;rw[P8];rw[show Lib.indexByte (ByteArray.mk (List.drop k s).toArray).data.toList ((10:Int).toNat.toUInt8)=_ from H.out];go_wp2;go_ret;exact Ai gR):P:=h
theorem Zv(h:P:=by
 go_quiet(fail);go_wp2_with fail;refine(jT (hq.sc.gbN gw) hj).mono ?_;intro e w2 hp;obtain⟨g2,hp⟩:=hp;have g12:w1.grownBy w2 (some b):=Ah gw g2;have hr2:=hq.res.gb g12 Ag;exact Ai gU):P:=h
theorem Zw(h:P:=by
 have gA:=World.grownBy_alloc w9 (.cells (hdC (Bi).h (.slice none (Bi).h.p.length 0) (.slice none (Bi).kids.len 0)).toArray 29 (0,0)) none;have k7:=HK.out.alloc (.cells (hdC (Bi).h (.slice none (Bi).h.p.length 0) (.slice none (Bi).kids.len 0)).toArray 29 (0,0));exact Ai gV):P:=h
theorem Zx(h:P:=by
 have g:∀a b c,w.grownBy (((w.alloc a).alloc b).alloc c) none:=fun a b c=>gw;exact RepL.two Ae (hok _ Ab) (hx.gb (g _ _ _) Ae) (hx'.gb (g _ _ _) Ae) (hy.gb (g _ _ _) Ae) (hy'.gb (g _ _ _) Ae)):P:=h
theorem Zy(h:P:=by
 generalize(BD D).1=v at*;go_wp2;exact bodyPost_ret (v:= .tuple #[str D,.int .i64 13,.bool false]) MI rfl (Sg HM.out (A0 (AA (Aj _ _) _) g1))):P:=h
theorem Zz(h:P:=by
 have b4:=Int.tmod_lt_of_pos y (b:=4) Ad;have b100:=Int.tmod_lt_of_pos y (b:=100) Ad;have b400:=Int.tmod_lt_of_pos y (b:=400) Ad;have c4:=Int.tmod_nonneg (a:=y) 4 h0;have c100:=Int.tmod_nonneg (a:=y) 100 h0;have c400:=Int.tmod_nonneg (a:=y) 400 h0;exact Ai gY):P:=h
theorem Nt(h:P:=by
 obtain⟨a,cap,rfl,hle,hmx,hat⟩:=h;have HA:=Z hat;have hmax:L.length≤maxLen:=Ab;unfold maxLen at hmax;exact Ai NV):P:=h
theorem Z0(h:P:=by
 split
 ·rename_i hs;have hl:=CG hs;have h:=hp (i+1) hl Ab;revert h;cases p.f (i+1)with
  |ok b k=>exact fun h=>⟨by have:=h.1;omega,h.2⟩
  |bad k=>exact id
  |out=>exact id
 ·exact hq i h1 h2):P:=h
theorem QQ(h:P:=by
 obtain⟨cs,hc1,hr1⟩:=hf;obtain⟨_,_,e,hle,hmx,_,hc1⟩:=hc1;cases e;have hmax:l.length≤maxLen:=Ab;unfold maxLen at hmax;clear hle hmx;exact Ai RN):P:=h
theorem Z1(h:P:=by
 have HF:=Z (fun q hq=>HK.out.fresh q hq);have gZ:=World.grownBy_alloc W8 (.cells zeroE.toArray 29 (0,0)) none;have HZk:=Z (KE.new (x:=Bi) (ok:=Ap W8.heap.size) (Cells.nil W8 1 (fun _=>False)) (RepL.nil W8 (fun _=>False)) (fun q hq _=>hq.elim));exact Ai iA):P:=h
theorem Z2(h:P:=by
 have gA:=World.grownBy_alloc W9 (.cells (hdC (x).h (.slice pe (x).h.p.length pf) (.slice le (x).kids.len lf)).toArray 29 (0,0)) none;have k7:=HK.out.alloc (.cells (hdC (x).h (.slice pe (x).h.p.length pf) (.slice le (x).kids.len lf)).toArray 29 (0,0));exact Ai iB):P:=h
theorem QR(h:P:=by
 have n0:(0:Int)≤((a.2).len:Int):=Ab;have n1:((a.2).len:Int)<(((a.2).len+1:Nat):Int):=Ab;have n2:((a.2).len:Int)<((a.2).len:Int)+1:=Ab;exact Ai RO):P:=h
theorem Z3(h:P:=by
 unfold Glob Lib.TabIs World.var? at hg;simp only[Ms,Option.bind_some]at hg;rcases Nat.lt_or_ge 0 w.heap.size with h' |h'
 ·exact h'
 ·rw[Array.getElem?_eq_none h']at hg;simp at hg):P:=h
theorem Z4(h:P:=by
 rw[M5,if_pos HKk.out.1]at hR;unfold J0 at hR;rw[if_neg (by rw[HKk.out.2.1];simp),if_neg (by rw[HKk.out.2.2];simp)]at hR;have HQ:=Z hR;rw[HKk.out.1];clear hR;go_wp2_with fail;refine(B5 hp [63] HKk.out.2.1).mono ?_;rintro e w3 ⟨rfl,g⟩;exact Ai iC):P:=h
theorem Z5(h:P:=by
 refine(OB HE.out (show Par W b tv wo l wordsL (i+1)from hR) Bp).mono ?_;intro e w3 hq;rw[hr6]at hq;obtain⟨g3,v,rfl,⟨fa,fc,rfl,hF⟩,h3⟩:=hq;exact .inl ⟨_,rfl,g3,hF,h3⟩):P:=h
theorem Z6(h:P:=by
 have HC:=Z hc;have HG:=Z g;clear hc h10;go_wp2_with fail;go_quiet((go_at_call 168;refine(OE _ _).mono ?_;rintro e w9 ⟨rfl,rfl⟩;exact⟨rfl,_,rfl⟩));rw[HC.out];have hs1:=hs.drewN nq;exact Ai iD):P:=h
theorem Z7(h:P:=by
 generalize(BD D).1=v at*;go_wp2;exact bodyPost_ret (v:= .tuple #[str [],.int .i64 0]) MH rfl (Si HM.out (A0 (AA (Aj _ _) _) g1))):P:=h
theorem Z8(h:P:=by
 have g5':World.grownBy (w3.alloc _) w5 u3.ownBlock:=g5;cases hv:u3.ownBlock with
 |none=>rw[hv]at g5';exact A0 gA g5'
 |some k=>rw[hv]at g5';exact A5 gA g5' (.inr (hob2 k hv))):P:=h
theorem QS(h:P:=by
 cases hv:v'.ownBlock with
 |none=>exact .inl rfl
 |some q=>exact .inr fun e=>by cases e;exact nL' hv):P:=h
theorem AbZ(h:P:=by
 clear g;replace HQ:=HQr HQ BQ;have hkl:=HK.out.lt;have hbL:=HK.out.bw;have hwL:=HK.out.wL;go_wp2_with fail;refine(HBk.out _ _ (DO HGl.out.1 HGl.out.2 HK.out.gr) hp (fun e=>HO.out B8)).mono ?_;intro e w13 hq;exact Ai Abp):P:=h
theorem QT(h:P:=by
 have a0:=hr.acc.cell 0;have a1:=hr.acc.cell 1;have r0:=hr.res.cell 0;have r1:=hr.res.cell 1;have rf:=fun k=>hr.res.frozen k;exact Ai RP):P:=h
theorem Z9(h:P:=by
 go_wp2;go_quiet(fail);go_wp2;exact bodyPost_ret (v:= .tuple #[.slice none 0 0,.int .i64 k,.int .i64 2]) MK rfl ⟨AA HG.out _,by rw[if_neg HP.out,HL.out]⟩):P:=h
theorem ZA(h:P:=by
 go_roundg 0
 case measure=>omega
 case rel=>exact⟨false,_,_,rfl,⟨_,_,_,HK.out⟩,h11,.inr ⟨rfl,rfl,HQ.out.symm,by simp only[Bl.len_app,Bl.len];omega⟩⟩):P:=h
theorem ZB(h:P:=by
 have g1:=World.grownBy_alloc w (.cells #[.int .i64 0,.slice none 0 0,.slice none 0 0,.slice none 0 0] 48 (0,0)) none;have g2:=Ar g1 (.cells #[.int .i64 0,.slice none 0 0,.slice none 0 0,.slice none 0 0] 48 (0,0));have g3:=Ar g2 (Bh Jz);exact Ai iE):P:=h
theorem ZC(h:P:=by
 go_wp2_with fail;refine(Kx H1.out i).mono ?_;rintro e w2 ⟨rfl,hs2,g2⟩;go_wp2;go_end0;exact Ju HM.out (HW.out.trans (EA g2 Ab)) hs2):P:=h
theorem ZD(h:P:=by
 rw[←HQ.out];unfold EZ;rw[Rd.cond_f];cases Rd.atEnd l i3 with
 |true=>rfl
 | false=>
   show Res.bind (Res.bind _ _) _=Res.bind _ _;rw[Res.bind_assoc];rfl):P:=h
theorem Aba(h:P:=by
 have R2{P}(h:P:=by
 cases hr6:block.f i7 with
 |out=>exact absurd Bz HO.out
 | bad q6=>
   exact Q9
 |ok c2 i8=>
 replace HQ:=HQr HQ Fk;replace HQ:=HQr HQ Bj;replace HQ:=HQr HQ CU;replace HQ:=HQr HQ Em;have Kk{P}(h:P:=by
 have hroom:=(show(Bl.bl c .nil).len≤5 by simp[Bl.len]);have DD{P}(h:P:=by
 go_region_law(first
  | (refine step_append_lies _ Ao _ _ 46 Ao (w.heap.size+1) 43 i0 _ 1 24 underlying46 HI.out.1 HI.out.2.1 HI.out.2.2.1 HI.out.2.2.2 rfl Ad _ _ ds6 Ao HB.out.2.1 ⟨w6.heap.size,0,none⟩ 1 1 [.slice ca6 (c2).len cc6] Ao rfl (D0 _ _ _) Dg Ad AI Ab Ag _ rfl ?_;intro j cap w7 hown hgrow hat hlt;(have HK8:=Z (Ac (HB.out.1.addB' HB.out.2.1 HB.out.2.2.1 HB.out.2.2.2.1 (fun q hq=>HK.out.fresh q hq) hown hgrow hat) (Par.app HB.out.2.2.2.2 hgrow (fun q hq=>(HB.out.1.belowB q hq).1) hbL 5 (.slice (some ⟨j,0,none⟩) ((Bl.bl c .nil).len+1) cap))));(have hb7:=HB.out.1.blk.gb hgrow HB.out.1.neB);(have f7:=hb7.frozen 5);(have d7:=hb7.cell' 5 rfl);(have l7:=hb7.lt);clear hown hgrow hat hb7 HB)
  | (go_simp;go_at_call 95;refine(HBk.out _ _ (DO HGl.out.1 HGl.out.2 (AA HK.out.gr 1)) (hp.drewN 1) Bp).mono ?_;rintro e w6 hq6;rw[hr6]at hq6;obtain⟨g6,v,rfl,hv6,h6⟩:=hq6;(obtain⟨_,⟨ca6,cc6,rfl,_⟩,_⟩:=id hv6);(have k6:=HK.out.gb (Ah (An (Aj _ _)) g6));(have l6:=k6.lt);(have d6:=k6.blk.cell' 5 rfl);(have s6:=g6.size);(have k7:=k6.alloc (.cells #[.slice ca6 (c2).len cc6] 43 (0,0)));(obtain⟨ds6,ho6,hr7⟩:=k7.bb);(have gA:=World.grownBy_alloc w6 (.cells #[.slice ca6 (c2).len cc6] 43 (0,0)) none);(have HB:=Z (Ac k7 (Ac ho6 (Ac hr7 (Ac (RepV.gb hv6 gA Ae) (h6.alloc (.cells #[.slice ca6 (c2).len cc6] 43 (0,0))))))));clear k6 k7 ho6 hr7 hv6 h6 gA g6))
 all_goals
  have iJ{P}(h:P:=by
  refine(CJ hp HTk.out JC Ad).mono ?_;intro e w11 hq;obtain⟨g,⟨q,hr,rfl⟩| ⟨u,i11,v,hr,rfl,rfl,hp9⟩⟩:=hq.split
  ·exact BA
  have AV{P}(h:P:=by clear g;have DC{P}(h:P:=by have Rt{P}(h:P:=by have AV{P}(h:P:=by exact aW):=Aa h;exact AT):=Aa h;exact Ou):=Aa h;exact D8):=Aa h;exact AT):=Aa h;exact ZQ):=Aa h
 exact D9):=Aa h;exact JY):=Aa h;exact O8):P:=h
theorem Iq(h:P:=by
 have Abf{P}(h:P:=by have Kj{P}(h:P:=by have Abk{P}(h:P:=by exact JX):=Aa h;exact AbT):=Aa h;exact JW):=Aa h;exact AbL):P:=h
theorem ZE(h:P:=by
 have Kk{P}(h:P:=by
 have hroom:=(show(Bl.bl c .nil).len≤5 by simp[Bl.len]);have DD{P}(h:P:=by
 go_region_law(first
  | (refine step_append_lies _ Ao _ _ 46 Ao (w.heap.size+1) 43 i0 _ 1 24 underlying46 HI.out.1 HI.out.2.1 HI.out.2.2.1 HI.out.2.2.2 rfl Ad _ _ ds6 Ao HB.out.2.1 ⟨w6.heap.size,0,none⟩ 1 1 [.slice ca6 (c2).len cc6] Ao rfl (D0 _ _ _) Dg Ad AI Ab Ag _ rfl ?_;intro j cap w7 hown hgrow hat hlt;(have HK8:=Z (Ac (HB.out.1.addB' HB.out.2.1 HB.out.2.2.1 HB.out.2.2.2.1 (fun q hq=>HK.out.fresh q hq) hown hgrow hat) (Rr.app HB.out.2.2.2.2 hgrow (fun q hq=>(HB.out.1.belowB q hq).1) hbL 5 (.slice (some ⟨j,0,none⟩) ((Bl.bl c .nil).len+1) cap))));(have hb7:=HB.out.1.blk.gb hgrow HB.out.1.neB);(have f7:=hb7.frozen 5);(have d7:=hb7.cell' 5 rfl);(have l7:=hb7.lt);clear hown hgrow hat hb7 HB)
  | (go_simp;go_at_call 70;refine(H.out.1 _ _ _ (hR.drewN 1) HC2.out).mono ?_;rintro e w6 ⟨g6,v,rfl,hv6,h6⟩;(obtain⟨_,⟨ca6,cc6,rfl,_⟩,_⟩:=id hv6);(have k6:=HK.out.gb (Ah (An (Aj _ _)) g6));(have l6:=k6.lt);(have d6:=k6.blk.cell' 5 rfl);(have s6:=g6.size);(have k7:=k6.alloc (.cells #[.slice ca6 (c2).len cc6] 43 (0,0)));(obtain⟨ds6,ho6,hr6⟩:=k7.bb);(have gA:=World.grownBy_alloc w6 (.cells #[.slice ca6 (c2).len cc6] 43 (0,0)) none);(have HB:=Z (Ac k7 (Ac ho6 (Ac hr6 (Ac (RepV.gb hv6 gA Ae) (h6.alloc (.cells #[.slice ca6 (c2).len cc6] 43 (0,0))))))));clear k6 k7 ho6 hr6 hv6 h6 gA g6))
 all_goals
  have LB{P}(h:P:=by have Abo{P}(h:P:=by have RA{P}(h:P:=by have R5{P}(h:P:=by exact SA):=Aa h;exact Q1):=Aa h;exact Q7):=Aa h;exact AbX):=Aa h;exact Ls):=Aa h
 exact D9):=Aa h;exact JY):P:=h
theorem ZF(h:P:=by
 have AV{P}(h:P:=by exact aW):=Aa h;exact AT):P:=h
theorem ZG(h:P:=by
 have R5{P}(h:P:=by exact SA):=Aa h;exact Q1):P:=h
theorem Ke(h:P:=by
 have Kj{P}(h:P:=by have Abl{P}(h:P:=by exact JX):=Aa h;exact AbU):=Aa h;exact JW):P:=h
theorem ZH(h:P:=by
 have g7:=AD w1 w.heap.size (.int .i64 4) (str [46,78,79,84,46]) (.int .i64 0) (.int .i64 0) (str []) (.slice none 0 0) (.slice (some ⟨w1.heap.size,0,none⟩) 1 1);have hW:=hZ.set7 (.int .i64 4) (str [46,78,79,84,46]) (.int .i64 0) (.int .i64 0) (str []) (.slice none 0 0) (.slice (some ⟨w1.heap.size,0,none⟩) 1 1);have hsz:(set7 w1 w.heap.size (.int .i64 4) (str [46,78,79,84,46]) (.int .i64 0) (.int .i64 0) (str []) (.slice none 0 0) (.slice (some ⟨w1.heap.size,0,none⟩) 1 1)).heap.size=w1.heap.size:=Ii;simp only[set7]at hW g7 hsz;generalize(((((((w1.setCell {block:=w.heap.size,off:=0} (.int .i64 4)).setCell {block:=w.heap.size,off:=1} (str [46,78,79,84,46])).setCell {block:=w.heap.size,off:=2} (.int .i64 0)).setCell {block:=w.heap.size,off:=3} (.int .i64 0)).setCell {block:=w.heap.size,off:=4} (str [])).setCell {block:=w.heap.size,off:=5} (.slice none 0 0)).setCell {block:=w.heap.size,off:=6} (.slice (some ⟨w1.heap.size,0,none⟩) 1 1))=W at*;exact Ai iF):P:=h
theorem Ir(h:P:=by
 intro e w5 hq;obtain⟨g,⟨q,hr,rfl⟩| ⟨u,i5,v,hr,rfl,rfl,hp9⟩⟩:=hq.split
 ·exact BA
 exact Ai Iz):P:=h
theorem ZI(h:P:=by
 clear hK3 g3 h3;go_wp2_with fail;refine UB (Eb b tv l w _ _) ⟨_,_,_,_,_,HK.out,hR3⟩ ?_;clear HK hR3 d3 f3;intro W hW;obtain⟨pv1,xv1,nv1,fv1,wv1,hK1,hR⟩:=hW;have HK:=Z hK1;clear hK1;have NM{P}(h:P:=by
 have L8{P}(h:P:=by
 have hfr:∀q,Ap (W).heap.size q→q<w20.heap.size→but w (w.heap.size+1) q:=fun q hq _=>by have h1:(W).heap.size≤q:=hq;(try simp at h1);exact⟨by omega,by omega⟩
 exact L5):=Aa h;exact Lk):=Aa h;exact Nj):P:=h
theorem aZ(h:P:=by
 have hsz:(set7 w6 w.heap.size (.int .i64 2) (str s) (.int .i64 0) (.int .i64 0) (str []) (.slice none 0 0) (.slice (some ⟨w6.heap.size,0,none⟩) 1 1)).heap.size=w6.heap.size:=Ii;simp only[set7]at hW g7 hsz;generalize(((((((w6.setCell {block:=w.heap.size,off:=0} (.int .i64 2)).setCell {block:=w.heap.size,off:=1} (str s)).setCell {block:=w.heap.size,off:=2} (.int .i64 0)).setCell {block:=w.heap.size,off:=3} (.int .i64 0)).setCell {block:=w.heap.size,off:=4} (str [])).setCell {block:=w.heap.size,off:=5} (.slice none 0 0)).setCell {block:=w.heap.size,off:=6} (.slice (some ⟨w6.heap.size,0,none⟩) 1 1))=W' at*;exact Ai jF):P:=h
theorem Ny(h:P:=by
 have R6{P}(h:P:=by have hres9:AM b tv l w (VSc w) (_,_) _ _:=⟨HK.out.out.1,_,rfl,HK.out.out.2.2.2,(hR1).gb HK.out.out.2.1 A6⟩;exact QA):=Aa h;exact Q2):P:=h
theorem Nz(h:P:=by
 have NI{P}(h:P:=by have Kj{P}(h:P:=by have hres9:=Jl (HK).out h5;have hblk9:=(HK).out.out.2.2.1;exact JX):=Aa h;exact JW):=Aa h;exact Nf):P:=h
theorem N0(h:P:=by
 have R6{P}(h:P:=by have hres9:=Post.ok (V:=VSc w) HK.out.out.1 HQ.out.symm HK.out.out.2.2.2 (hp.gb HK.out.out.2.1 A6);exact QA):=Aa h;exact Q2):P:=h
theorem bA(h:P:=by
 have hL:=hk.blk;have hZ:=hk.zero;have hwL:=hk.wL;have HK2:=Z hk;clear hk hloop;have Fv{P}(h:P:=by go_wp2;have hk:=HK2.out;have dV{P}(h:P:=by have e1:=HQ.out;cases e1;exact Nk):=Aa h;exact TS):=Aa h;exact Fm):P:=h
theorem bB(h:P:=by
 generalize(((((((w5.setCell {block:=w1.heap.size,off:=0} (.int .i64 bz.h.op)).setCell {block:=w1.heap.size,off:=1} (.string {data:=List.toArray bz.h.s})).setCell {block:=w1.heap.size,off:=2} (.int .i64 bz.h.vk)).setCell {block:=w1.heap.size,off:=3} (.int .i64 bz.h.vn)).setCell {block:=w1.heap.size,off:=4} (.string {data:=List.toArray bz.h.vs})).setCell {block:=w1.heap.size,off:=5} (.slice ua bz.h.p.length uc)).setCell {block:=w1.heap.size,off:=6} (.slice va bz.kids.len vc))=W at*;exact Ai jG):P:=h
theorem bC(h:P:=by
 have hV9:=Z (Cells.nil w5 1 (fun q=>w4.heap.size<q));have NC{P}(h:P:=by have Abi{P}(h:P:=by have Kl{P}(h:P:=by have gN:=World.grownBy_alloc W (.cells (pdC (AB (s,false,[],c)) (.slice none 0 0) (.slice ba c.len bc)).toArray 45 (0,0)) none;have NA{P}(h:P:=by exact AbR):=Aa h;exact MU):=Aa h;exact Ka):=Aa h;exact AbO):=Aa h;exact MY):P:=h
theorem bD(h:P:=by
 have hV9:=Z (Cells.nil w5 1 (fun q=>w4.heap.size<q));have NC{P}(h:P:=by have Abj{P}(h:P:=by have Kl{P}(h:P:=by have gN:=World.grownBy_alloc W (.cells (pdC (AB (s,true,[],c)) (.slice none 0 0) (.slice ba c.len bc)).toArray 45 (0,0)) none;have NA{P}(h:P:=by exact AbS):=Aa h;exact MU):=Aa h;exact Ka):=Aa h;exact AbP):=Aa h;exact MY):P:=h
theorem N1(h:P:=by
 refine(C4 hp HSh.out).mono ?_;intro e w7 hq;obtain⟨g,⟨q,hr,rfl⟩| ⟨p,j7,v,hr,rfl,rfl,hp9⟩⟩:=hq.split
 ·exact BA
 exact Ai NZ):P:=h
theorem N2(h:P:=by
 go_roundg k'
 case measure=>omega
 case rel=>exact⟨_,_,HE.out.1,HE.out.2.1,HE.out.2.2,by simp;omega,HX.out.2.2⟩):P:=h
theorem bE(h:P:=by
 have HK5:=Z hk5;clear hk5;go_wp2;have hk5:=HK5.out;have g7:=AD w5 w.heap.size (.int .i64 bz.h.op) (str bz.h.s) (.int .i64 bz.h.vk) (.int .i64 bz.h.vn) (str bz.h.vs) (.slice ua bz.h.p.length uc) (.slice va bz.kids.len vc);exact bodyPost_ret (AX rfl _ (hZ5.set7 _ _ _ _ _ _ _) rfl) rfl (CK hb hk5.gr ⟨_,_,_,_,rfl,HU.out.2.1,HU.out.2.2⟩ FT hk5.rr g7)):P:=h
theorem Abc(h:P:=by
 have hk2:=HK.out.gb hb g2 h2;have hL:=hk2.blk;have hZ:=hk2.zero;have hwL:=hk2.wL;have HK2:=Z hk2;clear hk2 g2 h2;have Fv{P}(h:P:=by have fD{P}(h:P:=by have e1:=HQ.out;cases e1;exact Nk):=Aa h;exact YB):=Aa h;exact Fm):P:=h
theorem Rf(h:P:=by
 have hblk9:=(HK).out.out.2.2.1;exact JX):P:=h
theorem Rg(h:P:=by
 have hkl:=hkb.lt;have hkl2:=hkz.lt;obtain⟨ck_0,ck_1,ck_2,ck_3,ck_4,ck_5,ck_6,ck_7,ck_8,ck_9,ck_f⟩:=(hkb).c10;obtain⟨cz_0,cz_1,cz_2,cz_3,cz_4,cz_5,cz_6,cz_7,cz_8,cz_9,cz_f⟩:=(hkz).c10;clear hkb hkz;go_wp2;exact Ai RY):P:=h
theorem bF(h:P:=by
 have hs4:=g.size;have hs40:=HZ.out.2.size;clear g;go_wp2_with fail;refine(kG hp HSh.out n (fun e=>HO.out B8)).mono ?_;intro e w5 hq;obtain⟨g,⟨q,hr,rfl⟩| ⟨p,i5,v,hr,rfl,⟨pa,pc,rfl,hV⟩,hp9⟩⟩:=hq.split
 ·exact D6
 have Ep{P}(h:P:=by exact Ai jH):=Aa h;exact Eg):P:=h
theorem Rh(h:P:=by
 have Iw{P}(h:P:=by clear hk2;have Fv{P}(h:P:=by have fD{P}(h:P:=by exact Nk):=Aa h;exact YB):=Aa h;exact Fm):=Aa h;exact In):P:=h
theorem N3(h:P:=by
 have hfr:∀q,Ap (W3).heap.size q→q<w4.heap.size→but w (w.heap.size+1) q:=fun q hq _=>by have h1:(W3).heap.size≤q:=hq;exact⟨by omega,by omega⟩
 exact Ai Oa):P:=h
theorem bG(h:P:=by
 have hkl:=HK.out.lt;have hwL:=HK.out.wL;go_wp2_with fail;refine(HE.out _ _ hp (fun e=>HO.out B8)).mono ?_;intro e w4 hq;obtain⟨g4,⟨q,hr,rfl⟩| ⟨x,j4,v,hr,rfl,⟨pa,pc,la,lc,rfl,rp,rl⟩,h4⟩⟩:=hq.split
 ·exact⟨rfl,Post.bad (Ah HK.out.gr g4) DT⟩
 replace HQ:=HQr HQ DU;clear hr;have hs4:=g4.size;have hK4:=HK.out.gb g4;have hkl4:=hK4.lt;exact Ai jI):P:=h
theorem bH(h:P:=by
 go_wp2_with fail;refine(Ga HR.out.2).mono ?_;rintro e w4 ⟨g4,v,rfl,rfl,h4⟩;replace hZ:=hZ.gb g4 Ag;replace HR:=Z (Ac (Ah HR.out.1 g4) h4);have hlt4:=hZ.lt;clear g4 h4;have Fy{P}(h:P:=by exact YH):=Aa h;exact Fr):P:=h
theorem bI(h:P:=by
 have Rz{P}(h:P:=by have hbL:b<(w.heap.size+1):=Df;have hp3:=(hp.set (L:=(w.heap.size+1)) hbL 3 (.slice (some ⟨(w7).heap.size,0,none⟩) 1 1)).alloc (.cells #[str p] 9 (0,0));replace HK:=Z (HK.out.layP p);replace hp:=hp3;clear hp3;exact Ai jJ):=Aa h;exact O4):P:=h
theorem Ri(h:P:=by
 go_enter func162,ntmps162;go_wp2_with fail;go_quiet(fail);rw[HX.out];go_wp2_with fail;refine(jQ t [123,125] hp _).mono ?_;rintro e w1 ⟨rfl,rfl⟩;exact Ai RZ):P:=h
theorem Rj(h:P:=by
 refine(OB HE.out hp (fun e=>HO.out B8)).mono ?_;intro e w5 hq;obtain⟨g,⟨q,hr,rfl⟩| ⟨f,j5,v,hr,rfl,⟨fa,fc,rfl,hF⟩,hp9⟩⟩:=hq.split
 ·exact BA
 exact Ai Sa):P:=h
theorem Rk(h:P:=by
 intro e w7 hq;obtain⟨g,⟨q,hr,rfl⟩| ⟨u,i7,v,hr,rfl,rfl,hp9⟩⟩:=hq.split
 ·exact BA
 exact Ai Sb):P:=h
theorem bJ(h:P:=by
 have HQ:=Z (show R= .bad k by rw[←HM.out,Bo,HS.out,if_pos hgo,hcm]);rw[hcm]at hp;clear hcm hgo;obtain⟨rfl,j2,hs2⟩:=hp;exact AbQ):P:=h
theorem bK(h:P:=by
 have r0:=hr3.cell 0;have r1:=hr3.cell 1;have r2:=hr3.cell 2;have rf:=fun k=>hr3.frozen k;have rl:=hr3.lt;simp only[List.getElem?_cons_zero,List.getElem?_cons_succ]at r0 r1 r2;go_wp2;refine bodyPost_ret (Du (t:=t) (r:=ok) rfl _ (hr3.set3 _ _ _) rfl rfl) rfl ?_;rw[HT.out];exact Ai jK):P:=h
theorem bM(h:P:=by
 go_wp2_with fail;refine(Ev hp HTk.out Dt hw).mono ?_;rintro e w12 ⟨rfl,g⟩;have LA{P}(h:P:=by replace HQ:=HQr HQ Bj;replace HK:=Z HK.out.toKS;exact Gv):=Aa h;exact Lr):P:=h
theorem L2(h:P:=by
 rw[ho]at h1;subst h1;exact⟨rfl,Post.bad (Ah g0 g1) Qf⟩):P:=h
theorem QY(h:P:=by
 have Ep{P}(h:P:=by replace hR:=h9;simp only at hR;clear h9;have hs9:=g.size;replace hT:=hT.gb g Ag;have hTl:=hT.lt;clear g;exact Ai RT):=Aa h;exact Eg):P:=h
theorem QZ(h:P:=by
 (first|cases e91|clear e91);(first|cases e92|clear e92);(first|cases e93|clear e93);(first|cases e94|clear e94);(first|cases e95|clear e95);(first|cases e96|clear e96);exact Ai RU):P:=h
theorem aC(h:P:=by
 refine bodyPost_ret (Du (t:=⟨0,0,[]⟩) (r:=false) rfl _ (hr2.set3 _ _ _) rfl rfl) rfl ⟨?_,?_⟩
 ·have g:=Ah hq.g g12;exact gw
 ·rw[HQ.out];exact⟨⟨_,rfl⟩,j2,_,((hs2.set_other _ _ Ag).set_other _ _ Ag).set_other _ _ Ag⟩):P:=h
theorem aD(h:P:=by
 have hlz:=HZ.out.1.lt;have hs5:=HZ.out.2.size;go_wp2_with fail;refine(lH HE.out HSh.out _ _ hp (fun e=>HO.out B8)).mono ?_;intro e w6 hq;obtain⟨g,⟨q,hr,rfl⟩| ⟨t,i6,v,hr,rfl,⟨pa,pc,la,lc,rfl,rp,rl⟩,hp9⟩⟩:=hq.split
 ·exact D6
 exact Ai iT):P:=h
theorem Ra(h:P:=by
 have HZ:=Z (Ac (Blk.new w (stC 0 (.slice none 0 0)) 50) (show w.grownBy (w.alloc (.cells (stC 0 (.slice none 0 0)).toArray 50 (0,0))) (some b)from Ar (Aj _ _) _));exact Ai RV):P:=h
theorem aE(h:P:=by
 have hlt:=hk.blk.lt;have hwL:=hk.wL;go_wp2_with fail;refine(UR H.out.1 H.out.2.1 hp n (fun e=>H.out.2.2.2 B8)).mono ?_;intro e w4 hq;obtain⟨g,⟨q,hr,rfl⟩| ⟨f,j3,v,hr,rfl,⟨ma,mc,rfl,rl⟩,hp⟩⟩:=hq.split
 ·exact CV
 exact Ai iU):P:=h
theorem aF(h:P:=by
 replace HQ:=HQr HQ Bj;replace HQ:=HQr HQ CU;replace HQ:=HQr HQ BQ;cases m with
 |zero=>exact absurd HQ.out.symm HO.out
 |succ m=>
 replace HQ:=HQr HQ (by rw[Rd.moreS_f]);have hkl:=HK.out.lt;exact Ai iV):P:=h
theorem Rb(h:P:=by
 have HV:=Z (Ac rp rl);clear rp rl;obtain⟨cz_0,cz_1,cz_2,cz_3,cz_4,cz_5,cz_6,cz_f⟩:=(hz).c7;have hltz:=hz.lt;go_wp2;exact Ai RW):P:=h
theorem Nv(h:P:=by
 have hs3:=g.size;have hkl3:=HK.out.lt;have d3:=HK.out.blk.cell' 4 rfl;have f3:=HK.out.blk.frozen 4;exact Ai NX):P:=h
theorem aG(h:P:=by
 generalize hWW:World.setCell _ _ _=W11 at*;have HK:=Z HK8.out.1;have hR:=HK8.out.2;clear HK8 d7 f7 l7 hx4 cx_0 cx_1 cx_2 cx_3 cx_4 cx_5 cx_6 cx_f hlx HXk HF;have HW:=Z (B9 hR [44]);exact Ai iW):P:=h
theorem aH(h:P:=by
 have hb1:=h1.lt;go_wp2_with fail;refine(Ga HA.out).mono ?_;rintro e w2 ⟨g2,v,rfl,rfl,h2⟩;go_wp2;go_ret;exact⟨Ah HG.out g2,_,rfl,by rw[HQ.out];rfl,by rw[HQ.out];exact h2⟩):P:=h
theorem aI(h:P:=by
 rw[hcs]at hq;cases hq;clear hcs;have Iw{P}(h:P:=by have hbL:=hk2.bL;clear hk2;have Fv{P}(h:P:=by exact AbJ):=Aa h;exact Fm):=Aa h;exact In):P:=h
theorem Rc(h:P:=by
 simp only at rp rl h3 ⊢;have hs3:=g3.size;have hK3:=HK.out.gb g3;have hkl3:=hK3.lt;have d3:=hK3.blk.cell' 4 rfl;have f3:=hK3.blk.frozen 4;exact Ai RX):P:=h
theorem Nw(h:P:=by
 go_wp2_with fail;refine HW.out.mono ?_;rintro e w4 ⟨g4,v,rfl,rfl,h4⟩;replace HK:=Z (HK.out.gb g4);exact Ai NY):P:=h
theorem aJ(h:P:=by
 have HW:=Z hcc;clear hcc;go_enter func104,ntmps104;go_wp2_with fail;refine HC.out.mono ?_;rintro e w1 ⟨rfl,g1⟩;go_wp2_with fail;refine(HI.out _ g1).mono ?_;rintro e w2 ⟨rfl,g2⟩;rw[HW.out];exact Ai iX):P:=h
theorem aK(h:P:=by
 have HO:=Z hown;have HS:=Z hs;clear hloop hs hown;go_wp2_with fail;refine(B5 hp _ HS.out).mono ?_;rintro e w2 ⟨rfl,g2⟩;have h2:=hp.gbN g2;go_wp2;go_ret;exact Ai iY):P:=h
theorem aL(h:P:=by
 have hkl:=HK.out.lt;have hwL:=HK.out.wL;go_wp2_with fail;refine(H.out.1 _ _ _ hR HX.out.1).mono ?_;rintro e w4 ⟨g4,v,rfl,⟨pa,pc,la,lc,rfl,rp,rl⟩,h4⟩;simp only at rp rl h4 ⊢;have hs4:=g4.size;have hK4:=HK.out.gb g4;have hkl4:=hK4.lt;exact Ai iZ):P:=h
theorem aM(h:P:=by
 go_wp2_with fail;refine(C4 hp HSh.out).mono ?_;intro e w4 hq;obtain⟨g,⟨q,hr,rfl⟩| ⟨s,i4,v,hr,rfl,rfl,hp9⟩⟩:=hq.split
 ·exact D6
 have Ep{P}(h:P:=by exact Ai jA):=Aa h;exact Eg):P:=h
theorem Is(h:P:=by
 obtain⟨cz_0,cz_1,cz_2,cz_3,cz_4,cz_5,cz_6,cz_f⟩:=(hz).c7;go_wp2;exact Ai I0):P:=h
theorem aN(h:P:=by
 have HG:=Z (Ac hgr (Ac hCt hcnt));clear hgr hn hrf hCt hcnt;go_wp2;go_end0;exact⟨rfl,HG.out.1,by rw[←HG.out.2.2];exact HG.out.2.1⟩):P:=h
theorem aO(h:P:=by
 go_enter func102,ntmps102;go_wp2_with fail;refine(H1.out _ (Aj _ _) [61]).mono ?_;rintro e w1 ⟨rfl,g1⟩;rw[HS1.out];go_wp2_with fail;refine(H1.out _ g1 [58,61]).mono ?_;rintro e w2 ⟨rfl,g2⟩;rw[HS2.out];exact Ai jB):P:=h
theorem aP(h:P:=by
 have HZ9:=Z (Ac ((HZ.out.1.x rfl).gb gN Ae) (A0 HZ.out.2 gN));replace hR:=hR.gbN gN;have hs5:wr.heap.size≤w4.heap.size:=Ab;clear HZ gN;have HZ:=HZ9;clear HZ9;have hTl:=hT.lt;exact Ai jC):P:=h
theorem aQ(h:P:=by
 obtain⟨g1,o1,rfl,_,z0⟩:=hat 0 _ rfl;obtain⟨_,_,e1,_,z1⟩:=hat 1 _ rfl;cases e1;obtain⟨_,_,e1,_,z2⟩:=hat 2 _ rfl;cases e1;obtain⟨_,_,e1,_,z3⟩:=hat 3 _ rfl;cases e1;exact Ai jD):P:=h
theorem aR(h:P:=by
 go_wp2_with fail;refine(UR HE.out (UD l day n) hp n (fun e=>HO.out B8)).mono ?_;intro e w5 hq;obtain⟨g,⟨q,hr,rfl⟩| ⟨f,i5,v,hr,rfl,⟨fa,fc,rfl,hF⟩,hp9⟩⟩:=hq.split
 ·exact BA
 exact Ai jE):P:=h
theorem aS(h:P:=by
 go_wp2_with fail;refine(Kx HT1.out.rl i).mono ?_;rintro e w2 ⟨rfl,h2,g2⟩;go_wp2;go_end0;exact Ju HQ.out (HT1.out.below.trans (EA g2 Ab)) h2):P:=h
theorem aT(h:P:=by
 have RH{P}(h:P:=by
 replace HK:=Z HK.out.toKS;have DC{P}(h:P:=by
 have Rt{P}(h:P:=by
 have AV{P}(h:P:=by
 have Abp{P}(h:P:=by
 obtain⟨g,⟨q,hr,rfl⟩| ⟨c,i13,v,hr,rfl,⟨kcs,⟨ca,cc,rfl,k1⟩,k2⟩,hp9⟩⟩:=hq.split
 ·exact BA
 have AV{P}(h:P:=by
 have Abn{P}(h:P:=by
 obtain⟨g,⟨q,hr,rfl⟩| ⟨u,i14,v,hr,rfl,rfl,hp9⟩⟩:=hq.split
 ·exact BA
 have AV{P}(h:P:=by
 clear g;have DC{P}(h:P:=by
 intro e w15 hq;obtain⟨g,⟨q,hr,rfl⟩| ⟨u,i15,v,hr,rfl,rfl,hp9⟩⟩:=hq.split
 ·exact BA
 have AV{P}(h:P:=by clear g;replace HQ:=HQr HQ Bj;exact Ke):=Aa h;exact AT):=Aa h;exact D8):=Aa h;exact AT):=Aa h;exact AbW):=Aa h;exact AT):=Aa h;exact AbZ):=Aa h;exact AT):=Aa h;exact Ou):=Aa h;exact D8):=Aa h;exact QH):P:=h
theorem aU(h:P:=by
 replace HQ:=HQr HQ IY;have Ck{P}(h:P:=by
 have NZ{P}(h:P:=by
 have AV{P}(h:P:=by
 have Abm{P}(h:P:=by
 have R3{P}(h:P:=by
 have hfr:∀q,Ap (W7).heap.size q→q<w20.heap.size→but w (w.heap.size+1) q:=fun q hq _=>by have h1:(W7).heap.size≤q:=hq;(try simp at h1);exact⟨by omega,by omega⟩
 have eO{P}(h:P:=by exact Iq):=Aa h;exact Yq):=Aa h;exact Qw):=Aa h;exact AbV):=Aa h;exact AT):=Aa h;exact N1):=Aa h;exact Ci):P:=h
theorem Re(h:P:=by
 have EP{P}(h:P:=by replace HQ:=HQr HQ BQ;replace HK:=Z HK.out.toKS;go_wp2_with fail;have R3{P}(h:P:=by have Abq{P}(h:P:=by have eO{P}(h:P:=by exact Iq):=Aa h;exact Yq):=Aa h;exact Abb):=Aa h;exact Qw):=Aa h;exact EM):P:=h
theorem aV(h:P:=by
 have AV{P}(h:P:=by clear g;replace HQ:=HQr HQ Bj;exact Ke):=Aa h;exact AT):P:=h
theorem aW(h:P:=by
 clear g;replace HQ:=HQr HQ Bj;have RA{P}(h:P:=by have R5{P}(h:P:=by have hkb:=(HS).out.blk;have hkz:=(HS).out.zero;have eC{P}(h:P:=by have hres9:=Sj (HS).out hp HQ.out.symm;have hblk9:=(HS).out.out.2.2.1;exact JX):=Aa h;exact XY):=Aa h;exact Q1):=Aa h;exact Q7):P:=h
theorem aX(h:P:=by
 go_wp2_with fail;refine(BR hR6).mono ?_;rintro e w7 ⟨g7,v,rfl,rfl,h7⟩;replace HK:=Z (HK.out.gb g7);clear g7;have Kj{P}(h:P:=by have hres9:=Jl (HK).out h7;exact Rf):=Aa h;exact JW):P:=h
theorem aY(h:P:=by
 have Iz{P}(h:P:=by
 have AV{P}(h:P:=by
 clear g;have DC{P}(h:P:=by
 intro e w6 hq;obtain⟨g,⟨q,hr,rfl⟩| ⟨u,i6,v,hr,rfl,rfl,hp9⟩⟩:=hq.split
 ·exact BA
 exact ZF):=Aa h;exact D8):=Aa h;exact AT):=Aa h;exact Ir):P:=h
theorem L3(h:P:=by
 have Abe{P}(h:P:=by exact ZG):=Aa h;exact AbK):P:=h
theorem L4(h:P:=by
 have Abh{P}(h:P:=by exact Iq):=Aa h;exact AbN):P:=h
theorem L5(h:P:=by
 have Abd{P}(h:P:=by exact DV):=Aa h;exact AbI):P:=h
theorem S9(h:P:=by
 go_wp2_with fail;refine(Gb hp).mono ?_;have Sb{P}(h:P:=by exact Ow):=Aa h;exact Rk):P:=h
theorem SA(h:P:=by
 have hkb:=(HS).out.blk;have hkz:=(HS).out.zero;have eC{P}(h:P:=by have hres9:=Jl (HS).out h6;have hblk9:=(HS).out.out.2.2.1;exact JX):=Aa h;exact XY):P:=h
theorem SB(h:P:=by
 go_wp2_with fail;refine HW.out.mono ?_;rintro e w2 ⟨g2,v,rfl,rfl,h2⟩;have hz2:=hz1.gb g2 Ag;have G2:=Ah G1 g2;have hzl:=hz2.lt;clear g2 HW hz1 G1 h1;go_wp2_with fail;exact Ai cA):P:=h
theorem SC(h:P:=by
 have HE:=Z (lI (l:=l) (m:=m) (k:=k) (by rw[hs1,hs2];exact he));have he1:(s==t)=false:=D3;have he2:(s !=t)=true:=D3;clear he hs1 hs2;go_wp2_with fail;go_quiet(fail);go_wp2;go_ret;exact Ai cC):P:=h
theorem SD(h:P:=by
 go_wp2;go_region;go_wp2;refine bodyPost_ret (v:= .tuple #[.slice none 0 0,.int .i64 i,.int .i64 2]) Lc rfl ⟨An HV.out.2,?_⟩;rw[HE.out]):P:=h
theorem SE(h:P:=by
 replace HK:=Z (HK.out.gb g7);clear g7 HW d3 f3;generalize hsl1:Value.slice (some ⟨w5.heap.size,0,none⟩) 1 1=pv at*;clear hsl1;generalize hsl2:Value.slice (some ⟨w2.heap.size,0,none⟩) 1 1=xv at*;clear hsl2;exact Ai cD):P:=h
theorem SF(h:P:=by
 go_roundg k
 case measure=>omega
 case rel=>exact⟨_,_,HE.out.1,HE.out.2.1,HE.out.2.2,by simp;omega,HQ.out⟩):P:=h
theorem SG(h:P:=by
 have hw1:IntKind.i64.wrap ((i:Int)+n)=(i:Int)+n:=IntWalk.i64_in _ Ab;have hw2:((i:Int)+n).toNat=i+n:=Ab;have hl1:(i:Int)≤(i:Int)+n:=Ab;have hl2:(i:Int)+n≤s.length:=Ab;have hl3:(0:Int)≤(i:Int)+n:=Ab;exact Ai cE):P:=h
theorem SH(h:P:=by
 obtain⟨pv,lv,kcs,rcs,hcs,_,_,_,hn⟩:=h.row;have e:cs.drop ((k+1)*7)=rcs:=by
  rw[show(k+1)*7=k*7+7 by omega,←List.drop_drop,hcs];exact List.drop_left' rfl
 rw[e];exact hn):P:=h
theorem SI(h:P:=by
 rintro e w12 ⟨g12,v,rfl,rfl,h12⟩;replace HK:=Z (HK.out.gb g12);clear g12;go_wp2_with fail;refine(BR h12).mono ?_;rintro e w13 ⟨g13,v,rfl,rfl,h13⟩;replace HK:=Z (HK.out.gb g13);clear g13;exact Ai cF):P:=h
theorem SJ(h:P:=by
 rw[hcm]at hp;clear hcm hgo;obtain⟨rfl,hs2⟩:=hp;have ht2:=hq.tabs.gb g12 Ae;have gg:=Ah hq.g g12;go_wp2;exact Ai cG):P:=h
theorem SK(h:P:=by
 go_wp2;refine bodyPost_ret (OP rfl _ (HG.out.1.res.set2 _ _) rfl) rfl ⟨by rw[HG.out.2.1,HG.out.2.2],?_⟩;have g:=HG.out.1.g;exact gw):P:=h
theorem SL(h:P:=by
 have hN:=Z (Gc hR1 (fun _=>hi));have HX:=Z (Ac hx hq);clear hb1 hx hq;go_wp2_with fail;refine hN.out.mono ?_;rintro e w2 ⟨g2,v,rfl,rfl,hR⟩;replace HK:=Z (HK.out.gb g2);exact Ai cH):P:=h
theorem On(h:P:=by
 refine(Se (hq.sc.gbN gw)).mono ?_;intro e w2 hp;obtain⟨g2,hp⟩:=hp;have g12:w1.grownBy w2 (some b):=Ah gw g2;exact Ai Rp):P:=h
theorem Oo(h:P:=by
 go_wp2;refine bodyPost_ret ?hr9 rfl HE.out.1
 case hr9=>exact FL rfl _ HE.out.2 rfl rfl):P:=h
theorem SM(h:P:=by
 have HC:=Z (Ac hc1 hc2);clear hc1 hc2;have hnI:((l.length:Int) !=(m.length:Int))=false:=Ag;have hnI2:((l.length:Int)==(m.length:Int))=true:=Ag;have HN:=Z hn;clear hn;go_enter func32,ntmps32;go_wp2_with fail;exact Ai cI):P:=h
theorem SN(h:P:=by
 go_wp2_with fail;go_quiet(fail);go_wp2;go_ret;exact⟨AA HZ.out.2 _,_,rfl,(HZ.out.1.gb (AA (Aj wr none) _) Ae).rep,hR.gbN (AA (Aj wr none) _)⟩):P:=h
theorem SO(h:P:=by
 exact⟨((Blk.new _ _ _).of_eq Ae rfl).alloc _,RepL.nil _ _,RepL.nil _ _,RepL.nil _ _,AY g3,hb,by omega,by omega,by omega,GD _ _ _ Ae,((Blk.new w _ _).alloc _).alloc _⟩):P:=h
theorem SP(h:P:=by
 have hkl:k<signsL.length:=by show k<38;omega
 have ck:=(hr.row.cell k).trans (show(signsL.map str)[k]? =some (str signsL[k])by simp[hkl]);have hx6:=Kv (List.getElem_mem hkl);have hkI:decide ((k:Int)<38)=true:=Ag;exact Ai cJ):P:=h
theorem SQ(h:P:=by
 have DC{P}(h:P:=by have Sb{P}(h:P:=by have AV{P}(h:P:=by exact Aba):=Aa h;exact AT):=Aa h;exact Rk):=Aa h;exact D8):P:=h
theorem SR(h:P:=by
 go_wp2_with fail;refine(BC hp _ HN.out.2).mono ?_;rintro e wb ⟨rfl,h0,gb⟩;have g0:w.grownBy wb (some b):=Ah gz gb;have hB:=Blk.gb hz gb Ag;have hw0:w.heap.size<wb.heap.size:=X7;clear hz hp gb gz;exact Ai cK):P:=h
theorem Op(h:P:=by
 rintro e w2 ⟨rfl,g⟩;replace hz:=hz.gb g Ae;replace gr:=A0 gr g;replace hp:=hp.gbN g;replace hs0:=hz.lt;clear g;exact Ai Rq):P:=h
theorem LJ(h:P:=by
 intro e w2 hq;obtain⟨g,⟨q,hr,rfl⟩| ⟨u,i2,v,hr,rfl,rfl,hp9⟩⟩:=hq.split
 ·exact D6
 exact Ai N4):P:=h
theorem Oq(h:P:=by
 go_wp2;go_ret;exact⟨by rw[HF.out];rfl,AA HN.out.2.2 _⟩):P:=h
theorem SS(h:P:=by
 obtain⟨v,rfl,hv,h1⟩:=h1;have HV:=Z hv;obtain⟨pa,pc,la,lc,rfl,-,-⟩:=hv;have hZ:=(hB).gb g1 Ag;obtain⟨cz_0,cz_1,cz_2,cz_3,cz_4,cz_5,cz_6,cz_f⟩:=(hZ).c7;have HR:=Z hr;clear hr;go_wp2;exact Ai cL):P:=h
theorem ST(h:P:=by
 have h:(if f then some (a,((i,f):RS))else none)=some r:=h;cases f with
 |true=>rw[if_pos rfl]at h;cases h;exact .inl ⟨rfl,rfl⟩
 |false=>rw[if_neg Ae]at h;cases h):P:=h
theorem Sk(h:P:=by
 obtain⟨a,cap,e,_,_,h3⟩:=h.toks;obtain⟨lb,lo,ea,ho,c0,c1,c2⟩:=h3 j hj;subst ea;exact⟨lb,lo,cap,e,World.block_lt_of_cell? w _ c0,Nat.ne_of_lt ho,c0,c1,c2⟩):P:=h
theorem Sl(h:P:=by
 go_wp2_with fail;go_quiet(fail);have hcat:(({data:=#[a2,a3,a4,a5]}:ByteArray)++{data:=#[a7,a8]}++{data:=#[a10,a11]})=⟨[a2,a3,a4,a5,a7,a8,a10,a11].toArray⟩:=rfl;rw[hcat];exact Ai bN):P:=h
theorem Oh(h:P:=by
 have Kj{P}(h:P:=by have hres9:=Jl (HK).out h13;exact Rf):=Aa h;exact JW):P:=h
theorem Sm(h:P:=by
 have hd:decide ((i:Int)<(l.length:Int))=true:=Ag;go_wp2_with fail;go_quiet(fail);have hZ1:=HZ.out.1.gb (AA (Aj wr none) nq) Ae;have hZ2:=AA HZ.out.2 nq;have hp2:=hR.gbN (AA (Aj wr none) nq);exact Ai bO):P:=h
theorem Oi(h:P:=by
 obtain⟨cs,h1,h2⟩:=h;exact⟨cs,E7 h1 g hk,h2.gb g fun k hk1 hk2=>hk k hk1.1 hk2⟩):P:=h
theorem Sn(h:P:=by
 go_wp2;go_roundg gk
 case measure=>omega
 case rel=>exact⟨k+1,by omega,by simp,HR.out w5 (A0 (An (Aj wr none)) g5)⟩):P:=h
theorem I5(h:P:=by
 go_wp2;go_ret;exact⟨rfl,rfl⟩):P:=h
theorem Ks(h:P:=by
 rename_i hs;have:=CG hs;exact⟨by omega,this⟩):P:=h
theorem So(h:P:=by
 intro W hW;have a0:=hW.tok.cell 0;have a1:=hW.tok.cell 1;have a2:=hW.tok.cell 2;simp only[List.getElem?_cons_zero,List.getElem?_cons_succ]at a0 a1 a2;have HW:=Z hW;exact Ai bP):P:=h
theorem Sp(h:P:=by
 have hm:BD s=((Bq (AS (s.take 4)) (AS ((s.drop 4).take 2)) (AS (s.drop 6))).1,(Bq (AS (s.take 4)) (AS ((s.drop 4).take 2)) (AS (s.drop 6))).2==0):=by
  simp only[BD,hb,if_false,hd,h8];simp
 rw[hm];clear hm;exact Ai bQ):P:=h
theorem Sq(h:P:=by
 generalize wr.drewN nq=w2 at*;replace HZ:=Z (Ac hZ1 hZ2);replace hR:=hp2;clear hZ1 hZ2 hp2 c0 c1 c2 hbr hd;have HS:=Z (Hk hR HTk.out 0 Ab);go_wp2_with fail;refine HS.out.mono ?_;exact Ai bR):P:=h
theorem Sr(h:P:=by
 obtain⟨g1,o1,rfl,hokz,y0⟩:=ha1 0 _ rfl;obtain⟨_,_,e1,_,y1⟩:=ha1 1 _ rfl;cases e1;obtain⟨_,_,e1,_,y2⟩:=ha1 2 _ rfl;cases e1;obtain⟨_,_,e1,_,y3⟩:=ha1 3 _ rfl;cases e1;exact Ai bS):P:=h
theorem Ss(h:P:=by
 obtain⟨g2,o2,rfl,hokt,y0⟩:=ha2 0 _ rfl;obtain⟨_,_,e1,_,y1⟩:=ha2 1 _ rfl;cases e1;obtain⟨_,_,e1,_,y2⟩:=ha2 2 _ rfl;cases e1;obtain⟨_,_,e1,_,y3⟩:=ha2 3 _ rfl;cases e1;exact Ai bT):P:=h
theorem Su(h:P:=by
 have HT5:=Z ((HT.out.gbN (An (Aj _ _))).gbN g5);have d0:=HT5.out.rl.c0;have d1:=HT5.out.rl.c1;have hb5:=HT5.out.rl.lt;clear c0 c1;go_wp2_with fail;exact Ai bU):P:=h
theorem Sv(h:P:=by
 have HE:=Z (show l.getD k []=m.getD k []by rw[hs1,hs2,he]);have he1:(s==t)=true:=D3;have he2:(s !=t)=false:=D3;clear he hs1 hs2;go_wp2_with fail;go_quiet(fail);go_wp2;exact Ai bV):P:=h
theorem Oj(h:P:=by
 clear HK h40;have HK:=Z (B9 hR [41]);rw[h41]at HK;go_wp2_with fail;refine(HK.out).mono ?_;exact Ai Rm):P:=h
theorem Sw(h:P:=by
 clear hK5 hR5 hfr rp rl g4 h4 hK4;go_wp2;go_roundg k'
 case measure=>omega
 case rel=>exact⟨_,_,⟨_,_,_,_,_,_,HK5.out.1⟩,HK5.out.2,HX.out.2⟩):P:=h
theorem Sx(h:P:=by
 refine AL (fun W=>KC b w (w.heap.size+1) (w.heap.size+2) W c na fa wa nc fc wc∧Par W b tv wo l wordsL (j+1)) ⟨HKI.out,HPI.out⟩ ?_;rintro W3 ⟨hK,hp3⟩;replace HK:=Z hK;replace hp:=hp3;exact Ai bW):P:=h
theorem Sy(h:P:=by
 clear HPI HKI;go_wp2;go_roundg k
 case measure=>omega
 case rel=>exact⟨_,_,⟨_,_,_,_,_,_,HF.out.1⟩,HF.out.2,HQ.out⟩):P:=h
theorem Sz(h:P:=by
 have HO:=Z hown;have HS:=Z hs;clear hloop hs hown;go_wp2_with fail;refine(BC hp _ HS.out).mono ?_;rintro e w2 ⟨rfl,h2,g2⟩;go_wp2_with fail;exact Ai bX):P:=h
theorem S0(h:P:=by
 clear hK5 hp5 hfr rp rl g4 h4 hK4;go_wp2;go_roundg k
 case measure=>omega
 case rel=>exact⟨_,_,⟨_,_,_,_,_,_,HK5.out.1⟩,HK5.out.2,HQ.out⟩):P:=h
theorem Ok(h:P:=by
 have EP{P}(h:P:=by replace HK:=Z HK.out.toKS;exact Iq):=Aa h;exact EM):P:=h
theorem Ol(h:P:=by
 replace HK:=Z hK9;replace hp:=hp9;have HA:=Z (kW hr);replace HQ:=HQr HQ DU;clear hr hK9 hp9 g;exact Ai Rn):P:=h
theorem S1(h:P:=by
 go_wp2;go_roundg gk
 case measure=>omega
 case rel=>exact⟨k+1,by omega,by go_num,HN.out,AA HG.out _⟩):P:=h
theorem S2(h:P:=by
 have gN:=World.grownBy_alloc w3 (.cells (sdC s1 (.slice pa s1.p.length pc) (.slice xa s1.x.len xc) (.slice ba c1'.len bc) (.slice na s1.n.len nc) (.slice fa s1.f.len fc) (.slice wa s1.w.len wc)).toArray 50 (0,0)) none;exact Ai bY):P:=h
theorem S3(h:P:=by
 have hnI:((l.length:Int) !=(m.length:Int))=true:=by simp;omega
 have hnI2:((l.length:Int)==(m.length:Int))=false:=Ag;have HN:=Z (kI hn);clear hn hc1 hc2;go_enter func32,ntmps32;go_wp2;go_ret;exact Ai bZ):P:=h
theorem S4(h:P:=by
 have HG:=Z hgr;clear hs hgr hn hl hra hrb;go_wp2;go_ret;exact⟨by rw[HS.out];rfl,HG.out⟩):P:=h
theorem S5(h:P:=by
 have h1:=Cm h k.blk hne;refine(h.kept g1 ?_).kept g2 ?_
 ·exact QN
 ·cases hv:u.ownBlock with
  |none=>exact .inl rfl
  |some q=>exact .inr Ae):P:=h
theorem Jm(h:P:=by
 go_enter func173,ntmps173;exact JS):P:=h
theorem Jn(h:P:=by
 go_enter func119,ntmps119;exact JS):P:=h
theorem Jo(h:P:=by
 go_enter func170,ntmps170;exact JS):P:=h
theorem Jp(h:P:=by
 go_enter func168,ntmps168;exact JS):P:=h
theorem Om(h:P:=by
 have g:=World.grownBy_alloc w1 (.cells (hdC x.h (.slice pa x.h.p.length pc) (.slice la x.kids.len lc)).toArray 29 (0,0)) none;exact Ai Ro):P:=h
theorem S6(h:P:=by
 go_wp2_with fail;refine HA.out.mono ?_;rintro e w4 ⟨rfl,g4⟩;rw[AG];replace HK:=Z (HK.out.gbN g4);replace hp:=hp.gbN g4;clear g4 HA;exact Ai b7):P:=h
theorem S7(h:P:=by
 go_wp2_with fail;refine(HR.out _ HT.out.rl).mono ?_;rintro e w1 ⟨rfl,g1⟩;have HT1:=Z (HT.out.gbN g1);have c0:=HT1.out.rl.c0;have c1:=HT1.out.rl.c1;have hb1:=HT1.out.rl.lt;exact Ai b8):P:=h
theorem S8(h:P:=by
 have hK20:=HK.out.gb g20;have hkl20:=hK20.lt;have d6:=hK20.blk.cell' 6 rfl;have d7:=hK20.blk.cell' 7 rfl;have d8:=hK20.blk.cell' 8 rfl;have d9:=hK20.blk.cell' 9 rfl;have ff:=fun i=>hK20.blk.frozen i;exact Ai b9):P:=h
theorem Tu(h:P:=by
 generalize A9 l primL (i,false)=S at*;have hS:S=[]∨S=[46,84,46]∨S=[46,70,46]∨S=[46,78,85,76,76,46]∨S=[40]∨S=[123]∨S=[64]:=by
  rcases hin with h|h
  ·exact .inl h
  ·right;simpa[primL]using h
 exact Ai dC):P:=h
theorem Tv(h:P:=by
 go_enter func188,ntmps188;go_wp2_with fail;refine HW.out.mono ?_;rintro e w1 ⟨g1,v,rfl,rfl,h1⟩;have hz1:=HZ.out.1.gb g1 Ag;have G1:=Ah HZ.out.2 g1;clear g1 HW HZ;exact Ai dD):P:=h
theorem Tw(h:P:=by
 go_wp2_with fail;go_quiet(fail);go_wp2_with fail;go_quiet(fail);go_wp2_with fail;go_quiet((go_at_call 111;refine(HP.out _).mono ?_;rintro e w9 ⟨rfl,rfl⟩;exact⟨rfl,_,rfl⟩));go_wp2_with fail;exact Ai dE):P:=h
theorem Oz(h:P:=by
 go_wp2;go_ret;exact⟨by rw[←HE.out];rfl,AA HG.out _⟩):P:=h
theorem Tx(h:P:=by
 have h1:=Cm h k.blk hne;refine h.kept g1 ?_;cases hv:v.ownBlock with
 |none=>exact .inl rfl
 |some q=>exact .inr fun e=>by cases e;exact h1 hv):P:=h
theorem O0(h:P:=by
 have HK:=Z (KpR.new hb H.out.2.2.1 H.out.2.2.2.1 H.out.2.2.2.2 g1 rp rl h1);have hb1:=h1.lt;clear rp rl h1 HX g1;exact Ai Rw):P:=h
theorem Ty(h:P:=by
 generalize hn:s.length=n at*;clear h;go_enter func156,ntmps156;go_wp2;go_quiet(fail);go_wp2;go_ret;exact⟨by simp[hk],gw⟩):P:=h
theorem O1(h:P:=by
 go_enter func184,ntmps184;go_wp2;go_ret;exact⟨rfl,Aj _ _⟩):P:=h
theorem LO(h:P:=by
 go_wp2;go_ret;exact⟨by simp[h4,h100],rfl⟩):P:=h
theorem Tz(h:P:=by
 clear hat;have hno:=hr.nodes;simp only[Fo.nodes]at hno;have hmo:=hr.levels;simp only[Fo.levels]at hmo;have hkl:=kids.len_nodes;have hpo:=hr.pos;exact Ai dF):P:=h
theorem T0(h:P:=by
 go_wp2_with fail;refine(I1 hp.c1).mono ?_;rintro e w9 ⟨rfl,rfl⟩;exact⟨rfl,Post.bad gr HQ.out.symm⟩):P:=h
theorem Eg(h:P:=by
 replace HZ:=Z (Ac (HZ.out.1.gb g GU) (Ah HZ.out.2 g));exact Ai Ep):P:=h
theorem T1(h:P:=by
 rw[hw]at HX ⊢;replace HX:=Z HX.out;clear hw;have HN:=Z (Gc hR (fun _=>hi));go_wp2_with fail;refine(HN.out).mono ?_;rintro e w3 ⟨g,v,rfl,rfl,h9⟩;exact Ai dG):P:=h
theorem T2(h:P:=by
 go_wp2_with fail;refine(I1 hp.c1).mono ?_;rintro e w9 ⟨rfl,rfl⟩;exact⟨rfl,Post.bad HK.out.gr HQ.out.symm⟩):P:=h
theorem Kt(h:P:=by
 have c1:=hp.c1;have f1:=hp.f1;have hbl9:=hp.lt;have hfew9:=hp.few;exact Ai L6):P:=h
theorem T3(h:P:=by
 have g23:=Ah g2 g3;obtain⟨cs,hown3,hrep3⟩:=HO.out.gb g23 If;have hown4:=hown3.alloc (.cells (hdC y.h (.slice ya y.h.p.length yc) (.slice ma y.kids.len mc)).toArray 29 (0,0));exact Ai dH):P:=h
theorem T4(h:P:=by
 intro c W W' o hR g ho;cases c with
 |true=>exact hR.elim
 |false=>exact Par.gb (show Par W b tv wo l wordsL (i+1)from hR) g ho):P:=h
theorem T5(h:P:=by
 have h1:=ihk (k+1) (s.1+1,max s.2 (k+1));have h2:=ihn k (Be kids (k+1) (s.1+1,max s.2 (k+1)));simp only at h1;omega):P:=h
theorem T6(h:P:=by
 refine leaves_cons (f:=85) (args:=#[.pointer (some ⟨w.heap.size,0,none⟩)]) Ae (by simp[go_sem]) ?_;refine(kE (hR3.cell 0) (hR3.frozen 0)).mono ?_;rintro e u' w3 ⟨rfl,rfl,rfl⟩;exact Ai dI):P:=h
theorem LP(h:P:=by
 go_wp2;go_ret;exact⟨by rw[HM.out];rfl,gw⟩):P:=h
theorem T7(h:P:=by
 go_enter func114,ntmps114;go_wp2_with fail;refine(Dn hA.sc i 1 (r:=false) (by simp[HC.out.1])).mono ?_;rintro e w1 ⟨rfl,g1⟩;have hA1:=hA.gbN g1;clear hA g1;go_wp2_with fail;exact Ai dJ):P:=h
theorem T8(h:P:=by
 have g2:=Ar g1 (.cells (setWords.map str).toArray 9 (0,0));go_wp2_with fail;refine(ON (lD w1 setWords Ad) s).mono ?_;rintro e w3 ⟨rfl,g3⟩;rw[HIN.out];have gA:=Ah g2 g3;exact Ai dK):P:=h
theorem T9(h:P:=by
 rintro e w6 ⟨g6,v,rfl,rfl,h6⟩;replace HK:=Z (HK.out.gb g6);clear g6;have hR:=h6;have hkl:=HK.out.lt;have hx5:=HK.out.blk.cell' 5 rfl;exact Ai dL):P:=h
theorem TA(h:P:=by
 unfold Lib.upperB;rw[if_pos h0,UInt8.toNat_sub_of_le _ _ (by simp[UInt8.le_iff_toNat_le];omega)];simp;omega):P:=h
theorem TB(h:P:=by
 go_wp2;refine bodyPost_ret (v:= .tuple #[str [],.bool false]) Qt rfl ⟨⟨false,by rw[HN.out],fun _=>HN.out⟩,hgr⟩):P:=h
theorem Ku(h:P:=by
 obtain⟨⟨x,st1⟩,hx,ho⟩:=Option.bind_eq_some_iff.1 ho;simp only at ho;exact Ai L7):P:=h
theorem SU(h:P:=by
 rw[ho]at h1;obtain⟨v,rfl,⟨pa,pc,la,lc,rfl,rp,rl⟩,h1⟩:=h1;have hs1:=g1.size;have hb1:=h1.lt;have hlt1:w.heap.size<w1.heap.size:=Ab;have hZ:=hB.gb g1 Ag;exact Ai cM):P:=h
theorem SV(h:P:=by
 have hk2:=HK.out.gb hb g2 h2;have hL:=hk2.blk;have hwL:=hk2.wL;have hbL:=hk2.bL;have HK2:=Z hk2;clear hk2 g2 h2;exact Ai cN):P:=h
theorem SW(h:P:=by
 have HT:=Z (B9 hR [45,62]);rw[hsg]at HT;go_wp2_with fail;refine HT.out.mono ?_;rintro e w8 ⟨g7,v,rfl,rfl,h7⟩;exact Ai cO):P:=h
theorem SX(h:P:=by
 refine Big.bind (hE _) fun f p hp=>Big.bind (FX _ _) fun _ k hk=>?_;simp only[Big,Bv,Ex.nodes,Fo.nodes_one]at hj hk hp ⊢;omega):P:=h
theorem SY(h:P:=by
 refine(HE.out _ _ hp (fun e=>HO.out B8)).mono ?_;intro e w7 hq;obtain⟨g,⟨q,hr,rfl⟩| ⟨x,j7,v,hr,rfl,⟨pa,pc,la,lc,rfl,rp,rl⟩,hp9⟩⟩:=hq.split
 ·exact BA
 exact Ai cP):P:=h
theorem SZ(h:P:=by
 simp only[Cz,List.mem_cons,List.not_mem_nil,or_false]at hi;rcases hi with rfl|rfl|rfl|rfl|rfl|rfl|rfl|rfl<;>simp only[C1]<;>omega):P:=h
theorem Ta(h:P:=by
 have hkl:=World.block_lt_of_cell? w _ hk;have hb:=h.lt;simp only at hkl;have g0:w.grownBy (w.alloc (.cells zeroE.toArray 29 (0,0))) (some b):=Ar (Aj _ _) _;have hB:=Blk.new w zeroE 29;exact Ai cQ):P:=h
theorem Tb(h:P:=by
 refine(Vy HX.out.1 hR HX.out.2).mono ?_;rintro e w3 ⟨g3,v,rfl,⟨fa,fc,rfl,hF⟩,h3⟩;exact .inl ⟨_,rfl,g3,hF,h3⟩):P:=h
theorem Tc(h:P:=by
 go_enter func161,ntmps161;go_wp2_with fail;refine HL.out.mono ?_;rintro e w1 ⟨rfl,rfl⟩;go_wp2_with fail;go_quiet((go_at_call 202;exact Calls.quiet_of_same (HI.out _)));exact Ai cR):P:=h
theorem Ot(h:P:=by
 have hne2:∀q,fre w L pv xv bv q→q<wr.heap.size→some q≠some L:=fun q hq _ e=>by cases e;exact hq.2.1 rfl
 exact Ai Rs):P:=h
theorem Td(h:P:=by
 have hs3:=g.size;clear g HN;have hN4:=BY hR;rw[hnm]at hN4;go_wp2_with fail;refine(hN4).mono ?_;rintro e w4 ⟨g,v,rfl,rfl,h9⟩;exact Ai cS):P:=h
theorem Jq(h:P:=by
 obtain⟨c,st2,hc,ho⟩:=Rd.bind_g ho;rw[Rd.pure_g]at ho;cases ho;exact Ai Kg):P:=h
theorem LK(h:P:=by
 have g:=Ah (An HW.out.g) g8;exact gw):P:=h
theorem Te(h:P:=by
 go_wp2_with fail;refine hM.out.mono ?_;rintro e w5 ⟨g5,v,rfl,rfl,h5⟩;have hK5:=HK.out.gb g5;clear g5;go_wp2_with fail;refine(HT.out _ h5).mono ?_;rintro e w6 ⟨rfl,g6⟩;exact Ai cT):P:=h
theorem Tf(h:P:=by
 unfold A9;simp only[Bool.false_eq_true,if_false];rw[List.find?_eq_none.2 (fun x _=>by rw[h38];simp)];rfl):P:=h
theorem Tg(h:P:=by
 rw[hr2]at h3;subst h3;exact⟨rfl,Post.bad (Ah (Ah gr g2) g3) (by rw[←HQ.out,hr2];rfl)⟩):P:=h
theorem Ou(h:P:=by
 intro e w12 hq;obtain⟨g,⟨q,hr,rfl⟩| ⟨u,i12,v,hr,rfl,rfl,hp9⟩⟩:=hq.split
 ·exact BA
 exact Ai Rt):P:=h
theorem Th(h:P:=by
 have g10:=FZ W w.heap.size (.int .i64 op) (str []) (str []) (.slice none 0 0) (.slice none 0 0) (.slice none 0 0) (.int .i64 0) (.slice none 0 0) (.slice none 0 0) (.slice none 0 0);exact Ai cU):P:=h
theorem Ti(h:P:=by
 have z0:=hr2.cell 0;have z1:=hr2.cell 1;have z2:=hr2.cell 2;have zf:=fun k=>hr2.frozen k;have zl:=hr2.lt;simp only[List.getElem?_cons_zero,List.getElem?_cons_succ]at z0 z1 z2;exact Ai cV):P:=h
theorem LM(h:P:=by
 go_wp2;go_end0;exact⟨g1,_,rfl,rfl,h1⟩):P:=h
theorem Tj(h:P:=by
 have h2:=(h.gbN g1).gbN g2;have c1:=h2.c1;have f1:=h2.f1;go_wp2;go_ret;exact⟨rfl,h2.goI _ _ Ab Ab,gw⟩):P:=h
theorem Tk(h:P:=by
 go_wp2_with fail;refine(E8 HK.out.rr [41]).mono ?_;rintro e w6 ⟨g6,v,rfl,rfl,h6⟩;have HK2:=Z (HK.out.gb hb g6 h6);clear g6 h6 HK;exact Ai cW):P:=h
theorem Tl(h:P:=by
 clear hK3 g3 h3;go_wp2;go_end0;exact⟨rfl,⟨_,_,HK.out⟩,hR3⟩):P:=h
theorem Tm(h:P:=by
 have hw2:(0:Int)≤(i:Int)+x.length:=Ab;have hw3:(i:Int)+x.length≤s.length:=Ab;have hw4:((i:Int)+x.length).toNat=i+x.length:=Ab;have hw5:(i:Int)≤(i:Int)+x.length:=Ab;exact Ai cX):P:=h
theorem Tn(h:P:=by
 clear HS g1 h1;go_wp2_with fail;refine HN.out.mono ?_;rintro e w2 ⟨g2,v,rfl,rfl,h2⟩;have hZ2:=hZ1.gb g2 Ag;have G2:=Z (Ah G1.out g2);exact Ai cY):P:=h
theorem To(h:P:=by
 generalize signsL[k]=x at*;have he1:decide ((i:Int)+x.length≤s.length)=false:=Ag;exact Y9):P:=h
theorem Tp(h:P:=by
 cases hv:u3.ownBlock with
 |none=>rw[hv]at g5';exact A0 gA g5'
 |some k=>rw[hv]at g5';exact A5 gA g5' (.inr (hol k hv).1)):P:=h
theorem Ov(h:P:=by
 intro n;induction n with
 |zero=>intro w st r h ho;cases ho
 |succ n ih=>
 intro w st r h ho;have hb:=h.lt;exact Ai Ru):P:=h
theorem LN(h:P:=by
 rw[List.contains_eq_mem]at hw;simp[hv]at hw):P:=h
theorem Ow(h:P:=by
 have AV{P}(h:P:=by clear g;exact Ke):=Aa h;exact AT):P:=h
theorem Ox(h:P:=by
 obtain⟨x,pa,pc,la,lc,st2,hk,hloop⟩:=hrel;clear HK;cases gk with
 |zero=>cases hloop
 |succ m=>
 exact Ai Rv):P:=h
theorem Oy(h:P:=by
 have Iz{P}(h:P:=by exact aV):=Aa h;exact Ir):P:=h
theorem Tq(h:P:=by
 have hkI:decide (k<l.length)=false:=by simpa using hk
 have HE:=Z (kH HN.out (fun j hj=>hp j Ab));have HG:=Z hgr;clear hp hgr;go_wp2;go_ret;exact Ai cZ):P:=h
theorem Tr(h:P:=by
 have HO:=Z ho;simp only at HT0 c2;generalize htt:Af l i=t at*;have hk1:(t.kind==1)=false:=Ag;have hk2:(t.kind==2)=false:=Ag;have hk3:(t.kind==3)=false:=Ag;exact Ai c8):P:=h
theorem Ts(h:P:=by
 obtain⟨csA,hoA,hrA⟩:=kA.x;have HA1:=Z (Ac kA (Ac hoA (Ac hrA ((hR.drewN 1).alloc (.cells zeroE.toArray 29 (0,0))))));clear hi0 hz0 hz1 hz2 kA hoA hrA;exact Ai dA):P:=h
theorem Tt(h:P:=by
 have hZ11:=(hZ10.put (y:=x) rp rl (fun q hq _=>by have h1:w9.heap.size≤q:=hq;omega)).mono (ok':=Ap W8.heap.size) (fun q hq _=>by have h1:w9.heap.size≤q:=hq;show W8.heap.size≤q;omega);exact Ai dB):P:=h
theorem TH(h:P:=by
 clear hq;gi_wp2;refine⟨fun _ h=>(by cases h),?_⟩;gi_wp2;refine bodyPost_ret (results_none rfl _ _ _) rfl ⟨⟨_,rfl⟩,?_⟩;rw[HR.out];exact Ai dO):P:=h
theorem TI(h:P:=by
 have HT:=Z (B9 hR [91]);rw[hsg]at HT;go_wp2_with fail;refine HT.out.mono ?_;rintro e w7 ⟨g7,v,rfl,rfl,h7⟩;exact Ai dP):P:=h
theorem O4(h:P:=by
 clear g;have hkl3:=HK.out.lt;have d3:=HK.out.blk.cell' 3 rfl;have f3:=HK.out.blk.frozen 3;exact Ai Rz):P:=h
theorem O5(h:P:=by
 obtain⟨g,⟨q,hr,rfl⟩| ⟨x,j2,v,hr,rfl,⟨pa,pc,la,lc,rfl,rp,rl⟩,hp⟩⟩:=hq.split
 ·exact CV
 exact Ai R0):P:=h
theorem TJ(h:P:=by
 go_enter func110,ntmps110;go_wp2;go_quiet(fail);go_wp2;refine bodyPost_ret (v:= .tuple #[AG ⟨5,i,[]⟩,.bool true]) Qu rfl ⟨gw,?_,by simp⟩;exact Ai dQ):P:=h
theorem TK(h:P:=by
 have:cs[k*7+i]? =(cs.drop (k*7))[i]?:=Ae;rw[this,hcs,List.getElem?_append_left Qe];exact hu):P:=h
theorem O6(h:P:=by
 obtain⟨cs,h1,h2⟩:=h;exact⟨cs,h1.gb g hk,h2.gb g hk⟩):P:=h
theorem TL(h:P:=by
 have hob:∀k,u3.ownBlock=some k→b<k:=fun k hk=>by have:=(HO.out.lt k hk).1;omega
 have hob2:∀k,u3.ownBlock=some k→w.heap.size≤k:=fun k hk=>(HO.out.lt k hk).1;exact Ai dR):P:=h
theorem TM(h:P:=by
 have gc:=Ah ga g3;go_wp2_with fail;refine(H1.out _ gc [45,62]).mono ?_;rintro e w4 ⟨rfl,g4⟩;rw[HS4.out];exact Ai dS):P:=h
theorem O7(h:P:=by
 intro e w4 hq;obtain⟨g,⟨q,hr,rfl⟩| ⟨u,i4,v,hr,rfl,rfl,hp9⟩⟩:=hq.split
 ·exact BA
 exact Ai R1):P:=h
theorem TN(h:P:=by
 go_wp2_with fail;go_meet
 case rel=>exact⟨⟨_,HK8.out.1⟩,HK8.out.2⟩):P:=h
theorem LT(h:P:=by
 obtain⟨g,⟨q,hr,rfl⟩| ⟨u,i3,v,hr,rfl,rfl,hp9⟩⟩:=hq.split
 ·exact BA
 exact Ai N8):P:=h
theorem TO(h:P:=by
 have hC:=HF.out (L.getD i []);rw[hp]at hC;have HC:=Z (show Calls Tryz.prog 226 (#[str (L.getD i [])]++#[.pointer (some ⟨k,0,none⟩)]) wr _ from hC);exact Ai dT):P:=h
theorem TP(h:P:=by
 exact RepL.two hsz.symm ⟨by omega,by omega⟩ (h.rp.gb g7 hk) (h.rl.gb g7 hk) (zp.gb g7 hk) (zl.gb g7 hk)):P:=h
theorem TQ(h:P:=by
 obtain⟨pxa,pxc,lxa,lxc,rfl,hx,hx'⟩:=hx;obtain⟨pya,pyc,lya,lyc,rfl,hy,hy'⟩:=hy;have H:=Z (Ac hok (Ac hx (Ac hx' (Ac hy hy'))));clear hok hx hx' hy hy';exact Ai dU):P:=h
theorem TR(h:P:=by
 exact Fine.bind' (i':=q+1) Ab (ih _ Ab fun ho=>by have:=hn ho;omega) fun y k _ hk hl=>⟨by omega,hl⟩):P:=h
theorem TS(h:P:=by
 have g7:=AD wr w.heap.size (.int .i64 x.h.op) (str x.h.s) (.int .i64 x.h.vk) (.int .i64 x.h.vn) (str x.h.vs) (.slice pa x.h.p.length pc) (.slice la x.kids.len lc);exact Ai dV):P:=h
theorem TT(h:P:=by
 obtain⟨cs,hc1,hr1⟩:=ha;obtain⟨ds,hc2,hr2⟩:=hb;obtain⟨_,_,e,hle,hmx,_,hc1⟩:=hc1;cases e;obtain⟨_,_,e,_,_,_,hc2⟩:=hc2;cases e;exact Ai dW):P:=h
theorem O8(h:P:=by
 clear g;replace HQ:=HQr HQ BQ;have hkl:=HK.out.lt;have hx5:=HK.out.blk.cell' 5 rfl;exact Ai R2):P:=h
theorem TU(h:P:=by
 refine(H.out.2.1 _ _ _ h2 HX.out.1).mono ?_;rintro e w3 ⟨g3,v,rfl,⟨pa,pc,la,lc,rfl,rp,rl⟩,h3⟩;simp only at rp rl h3 ⊢;have hs3:=g3.size;exact Ai dX):P:=h
theorem TV(h:P:=by
 go_wp2;go_ret;exact Post.ok HE.out.1 HQ.out.symm ⟨none,0,rfl,Cells.nil _ _ _⟩ HE.out.2):P:=h
theorem TW(h:P:=by
 have RF{P}(h:P:=by have NG{P}(h:P:=by exact AbY):=Aa h;exact Nc):=Aa h;exact QF):P:=h
theorem O9(h:P:=by
 have Abg{P}(h:P:=by exact DV):=Aa h;exact AbM):P:=h
theorem TX(h:P:=by
 go_wp2_with fail;refine HC.out.mono ?_;rintro e w11 ⟨g11,v,rfl,⟨kcs,⟨ca,cc,rfl,k1⟩,k2⟩,h11⟩;simp only at h11;have hs11:=g11.size;exact Ai dY):P:=h
theorem LU(h:P:=by
 go_wp2_with fail;refine HW.out.mono ?_;rintro e w12 ⟨g12,v,rfl,rfl,h12⟩;exact Ai N9):P:=h
theorem TY(h:P:=by
 exact bodyPost_ret (AX rfl _ (hZ.set7 _ _ _ _ _ _ _) rfl) rfl (kX h.lt g0 rfl g1 HV.out h1 Ae Ae g7)):P:=h
theorem LQ(h:P:=by
 obtain⟨g,⟨q,hr,rfl⟩| ⟨s,j,v,hr,rfl,rfl,hp⟩⟩:=hq.split
 ·exact CV
 exact Ai N5):P:=h
theorem TC(h:P:=by
 go_wp2_with fail;refine(UN (a:=(.nil,.nil)) hn HBk.out HE.out HGl.out.1 HGl.out.2 HK.out (by simp[Fo.len]) (by simp[Bl.len]) hp (fun e=>HO.out B8)).mono ?_;exact Ai dM):P:=h
theorem O2(h:P:=by
 have hk:∀q,but w L q→q<wr.heap.size→some q≠some L:=fun q hq _ e=>by cases e;exact hq.2 rfl
 exact Ai Rx):P:=h
theorem TD(h:P:=by
 cases q.f (i+1)with
 |ok b k=>exact fun h=>⟨by have:=h.1;omega,h.2⟩
 |bad k=>exact id
 |out=>exact id):P:=h
theorem TE(h:P:=by
 clear hloop hs hk;have Dk{P}(h:P:=by exact Abc):=Aa h;exact Dh):P:=h
theorem O3(h:P:=by
 replace HK:=Z (HK.out.gbN g);replace hp:=hp.gbN g;clear g;replace HQ:=HQr HQ ML;exact Ai Ry):P:=h
theorem LR(h:P:=by
 replace HQ:=HQr HQ BQ;replace HQ:=HQr HQ IX;have hkl:=HK.out.lt;exact Ai N6):P:=h
theorem TF(h:P:=by
 have hE1:=HPF.out.1.endR1 HPF.out.2 HVF.out.1 HVF.out.2;have hE2:=HPF.out.1.endR2 HPF.out.2 HVF.out.1 HVF.out.2;simp only[Dd]at hE1 hE2;exact Ai dN):P:=h
theorem TG(h:P:=by
 have BW{P}(h:P:=by replace hk:=hk.gb hb g hp;clear g;exact Ik):=Aa h;exact BV):P:=h
theorem LS(h:P:=by
 obtain⟨f,st3,hf,ho⟩:=Rd.bind_g ho;rw[Rd.fin_g,Rd.pure_g]at ho;cases ho;exact Ai N7):P:=h
end Go.Proofs.YtmcajbhljbbglaaGreatDoor
