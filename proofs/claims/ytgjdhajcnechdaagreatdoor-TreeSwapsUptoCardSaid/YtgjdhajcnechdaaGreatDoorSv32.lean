/-
  isText, isConst, isExpr. The reference's reader: pow, not. The reference's reader: unary.
-/
import Derived.Test.YtgjdhajcnechdaaGreatDoorSv23
import Derived.Test.YtgjdhajcnechdaaGreatDoorSv22
import Derived.Test.YtgjdhajcnechdaaGreatDoorSv16
import Derived.Test.YtgjdhajcnechdaaGreatDoorSv30
import Derived.Test.YtgjdhajcnechdaaGreatDoorSv18
import Derived.Test.YtgjdhajcnechdaaGreatDoorSv20
set_option linter.all false
set_option maxRecDepth 100000
set_option maxHeartbeats 8000000
namespace Go.Proofs.YtgjdhajcnechdaaGreatDoor
open Go.Proofs.Tryz
open Go.RowKit
def ByteC(w:World)(b:Nat)(s:Bs):Prop:=∀j,j<s.length→w.cell? ⟨b,j,none⟩=some (.int .u8 ((s.getD j 0).toNat:Int))
theorem Mr(s:Bs)(hs:s.length≤2000000)(w:World):Calls Tryz.prog 125 #[str s] w fun e w'=>e= .returned (.bool (Cu s))∧w.grownBy w' none:=by
 have hconv:=run_bytes_of_string (P:=Tryz.prog) w 9 134 5 ⟨s.toArray⟩ underlying9 underlying134 underlying5;have hsz:(⟨s.toArray⟩:ByteArray).size=s.length:=by simp[ByteArray.size]
 rw[hsz]at hconv;generalize hcap:grownCap w s.length 0 5=cap at*;have h0:ByteC (w.drew.alloc (.cells (bytesRow ⟨s.toArray⟩ cap) 5 ((bytesRow ⟨s.toArray⟩ cap).size,(bytesRow ⟨s.toArray⟩ cap).size+1))) w.heap.size s:=by
  intro j hj;show(w.drew.alloc _).cell? ⟨w.drew.heap.size,j,none⟩=_;rw[World.cell?_alloc_mark,bytesRow_at _ _ _ (by simpa using hj)];simp[CZ hj,hj]
 have g0:w.grownBy (w.drew.alloc (.cells (bytesRow ⟨s.toArray⟩ cap) 5 ((bytesRow ⟨s.toArray⟩ cap).size,(bytesRow ⟨s.toArray⟩ cap).size+1))) none:=Ad (Am (Ac _ _)) _;have H0:=O (Z h0 g0);have HL:=O hs;have hM:=O (show Cu s=(s.all BI&&decide (s.length≤2048)&&!(s.contains 34&&s.contains 39))from rfl);clear h0 g0 hsz hcap;generalize(w.drew.alloc (.cells (bytesRow ⟨s.toArray⟩ cap) 5 ((bytesRow ⟨s.toArray⟩ cap).size,(bytesRow ⟨s.toArray⟩ cap).size+1)))=W at*;go_enter func125,ntmps125;go_wp2_with fail;go_loopg [8] s.length (fun g v8 wr=>∃k:Nat,k+g=s.length∧v8= .int .i64 k∧(∀j,j<k→BI (s.getD j 0)=true)∧W.grownBy wr none)
 case atStart=>exact⟨0,by omega,rfl,fun j hj=>by omega,Ac _ _⟩
 case round=>
  obtain⟨k,hk,rfl,hp,gr⟩:=hrel;clear hconv;by_cases hkl:k<s.length
  ·have hj1:decide (k<s.length)=true:=by simpa using hkl
   have ck:=Af gr (H0.out.1 k hkl);have i0:(0:Int)≤(k:Int):=by omega
   have i1:(k:Int)<(s.length:Int):=by omega
   have HP:=O (Z hp gr);have hall:=fun(h:BI (s.getD k 0)=false)=>Jx (p:=BI) (l:=s) (d:=0) hkl h;clear hp gr;generalize hc:s.getD k 0=c at*;have hpr:BI c=true↔c.toNat=9∨(32≤c.toNat∧c.toNat≤126):=by
    unfold BI;rw[Bool.or_eq_true,Bool.and_eq_true,beq_iff_eq,decide_eq_true_eq,decide_eq_true_eq,UInt8.le_iff_toNat_le,UInt8.le_iff_toNat_le,←UInt8.toNat_inj];rfl
   by_cases h:c.toNat=9∨(32≤c.toNat∧c.toNat≤126)
   ·have HC:=O (Z (hpr.2 h) hc);clear hpr hall hc;rcases h with h| ⟨h,h'⟩
    ·have h9:((c.toNat:Int)==9)=true:=by simp;omega
     have h9':((c.toNat:Int) !=9)=false:=by simp;omega
     go_wp2;go_roundg (s.length-(k+1))
     case measure=>omega
     case rel=>exact⟨k+1,by omega,by go_num,fun j hj=>by rcases Nat.lt_succ_iff_lt_or_eq.1 hj with h|rfl;exact HP.out.1 j h;rw[HC.out.2];exact HC.out.1,HP.out.2⟩
    ·have h9:((c.toNat:Int)==9)=false:=by simp;omega
     have h9':((c.toNat:Int) !=9)=true:=by simp;omega
     have h3:decide ((c.toNat:Int)<32)=false:=by simp;omega
     have h4:decide ((126:Int)<(c.toNat:Int))=false:=by simp;omega
     go_wp2;go_roundg (s.length-(k+1))
     case measure=>omega
     case rel=>exact⟨k+1,by omega,by go_num,fun j hj=>by rcases Nat.lt_succ_iff_lt_or_eq.1 hj with h|rfl;exact HP.out.1 j h;rw[HC.out.2];exact HC.out.1,HP.out.2⟩
   ·have HF := O (show Cu s = false by
     rw[hM.out,hall (by cases hb:BI c with|false=>rfl|true=>exact absurd (hpr.1 hb) h)];rfl)
    have h9:((c.toNat:Int)==9)=false:=by simp;omega
    have h9':((c.toNat:Int) !=9)=true:=by simp;omega
    clear hpr hall hc;by_cases h3:c.toNat<32
    ·have h3I:decide ((c.toNat:Int)<32)=true:=by simp;omega
     go_wp2;go_ret;exact⟨by rw[HF.out];rfl,Aa H0.out.2 HP.out.2⟩
    ·have h3I:decide ((c.toNat:Int)<32)=false:=by simp;omega
     have h4:decide ((126:Int)<(c.toNat:Int))=true:=by simp;omega
     go_wp2;go_ret;exact⟨by rw[HF.out];rfl,Aa H0.out.2 HP.out.2⟩
  ·have hj1:decide (k<s.length)=false:=by simpa using hkl
   have hall:s.all BI=true:=G9 (d:=0) fun j hj=>hp j (by omega);have HG:=O (Aa H0.out.2 gr);have HA:=O (show Cu s=(decide (s.length≤2048)&&!(s.contains 34&&s.contains 39))by rw[hM.out,hall];rfl);have H1:=O (fun W=>strings_Contains_one ⟨s.toArray⟩ 34 W);have H2:=O (fun W=>strings_Contains_one ⟨s.toArray⟩ 39 W);have e1:=Iy s 34;have e2:=Iy s 39;clear hp gr hall hM;by_cases hl:s.length≤2048
   ·have hlI:decide ((s.length:Int)≤2048)=true:=by simp;omega
    have hl':decide (s.length≤2048)=true:=by simpa using hl
    cases b1:s.contains 34 with
    | false=>
      have HF:=O (show Cu s=true by rw[HA.out,hl',b1];rfl);have E1:=O (e1.trans b1);clear HA e1 e2 b1 hl hl';go_wp2_with fail;refine(H1.out _).mono ?_;rintro e w1 ⟨rfl,rfl⟩;rw[E1.out];go_wp2;go_ret;exact⟨by rw[HF.out];rfl,HG.out⟩
    | true=>
      have HF:=O (show Cu s= !(s.contains 39)by rw[HA.out,hl',b1];rfl);have E1:=O (e1.trans b1);have E2:=O e2;clear HA e1 e2 b1 hl hl';generalize s.contains 39=b2 at*;go_wp2_with fail;refine(H1.out _).mono ?_;rintro e w1 ⟨rfl,rfl⟩;rw[E1.out];go_wp2_with fail;refine(H2.out _).mono ?_;rintro e w2 ⟨rfl,rfl⟩;rw[E2.out];go_wp2;go_ret;exact⟨by rw[HF.out];rfl,HG.out⟩
   ·have hlI:decide ((s.length:Int)≤2048)=false:=by simp;omega
    have HF:=O (show Cu s=false by rw[HA.out];simp[hl]);clear HA e1 e2 hl;go_wp2;go_ret;exact⟨by rw[HF.out];rfl,HG.out⟩
section
variable {b:Nat}{tv:Value}{l:List Tok}
theorem PG{un:FR Ex}(hun:CR 283 b tv l un):∀n,CR 250 b tv l (D1 l un n):=by
 intro n;induction n with
 |zero=>intro w st r h ho;cases ho
 |succ n ih=>
 intro w st r h ho;have hb:=h.lt;rw[D1]at ho;obtain⟨⟨x,st1⟩,hx,ho⟩:=Option.bind_eq_some_iff.1 ho;simp only at ho;have gz:w.grownBy (w.alloc (.cells zeroE.toArray 27 (0,0))) (some b):=Ad (Ac _ _) _;have hz:=Blk.new w zeroE 27;have h0:=h.alloc (.cells zeroE.toArray 27 (0,0));have hw0:w.heap.size<(w.alloc (.cells zeroE.toArray 27 (0,0))).heap.size:=by simp
 have HX:=O (hun _ _ _ h0 hx);have H:=O (Z ih (Z ho (Z hz (Z gz hw0))));clear hun ho hx hz gz h0 hw0 ih;go_enter func250,ntmps250;go_wp2_with fail;refine HX.out.mono ?_;rintro e w1 ⟨g1,v,rfl,⟨pa,pc,la,lc,rfl,rp,rl⟩,h1⟩;simp only at rp rl h1 ⊢;have HK:=O (KpR.new hb H.out.2.2.1 H.out.2.2.2.1 H.out.2.2.2.2 g1 rp rl h1);have hb1:=h1.lt;clear rp rl h1 HX g1;have HT:=O (BX HK.out.rr [94]);have hloop:=H.out.2.1;cases hs:A2 l [94] st1 with
 | false=>
   rw[hs]at HT hloop;have hq:some (x,Aj l [94] st1)=some r:=hloop;cases hq;clear hloop hs;go_wp2_with fail;refine HT.out.mono ?_;rintro e w2 ⟨g2,v,rfl,rfl,h2⟩;have HK2:=O (HK.out.gb hb g2 h2);clear g2 h2 HK;have hk2:=HK2.out;have hL:=hk2.blk;have hZ:=hk2.zero;have hwL:=hk2.wL;clear hk2;obtain⟨cl_0,cl_1,cl_2,cl_3,cl_4,cl_5,cl_6,cl_f⟩:=(hL).c7;obtain⟨cz_0,cz_1,cz_2,cz_3,cz_4,cz_5,cz_6,cz_f⟩:=(hZ).c7;go_wp2;have hk:=HK2.out;have g7:=Ag w2 w.heap.size (.int .i64 x.h.op) (str x.h.s) (.int .i64 x.h.vk) (.int .i64 x.h.vn) (str x.h.vs) (.slice pa x.h.p.length pc) (.slice la x.kids.len lc);exact bodyPost_ret (Ai rfl _ (hZ.set7 _ _ _ _ _ _ _) rfl) rfl (Bf hb hk.gr hk.ve (by intro k hk;exact hk.1) hk.rr g7)
 | true=>
   rw[hs]at HT hloop;have hq:(D1 l un n (Aj l [94] st1)).bind (fun q=>some (Aw [94] x q.1,q.2))=some r:=hloop;obtain⟨⟨z,st3⟩,hy,hq⟩:=Option.bind_eq_some_iff.1 hq;simp only at hq;cases hq;have HY:=O hy;clear hloop hs hy;go_wp2_with fail;refine HT.out.mono ?_;rintro e w2 ⟨g2,v,rfl,rfl,h2⟩;have HK2:=O (HK.out.gb hb g2 h2);clear g2 h2 HK;have hk2:=HK2.out;have hL:=hk2.blk;have hZ:=hk2.zero;have hwL:=hk2.wL;have hbL:=hk2.bL;clear hk2;obtain⟨cl_0,cl_1,cl_2,cl_3,cl_4,cl_5,cl_6,cl_f⟩:=(hL).c7;obtain⟨cz_0,cz_1,cz_2,cz_3,cz_4,cz_5,cz_6,cz_f⟩:=(hZ).c7;have hLb:=hL.lt;go_wp2_with fail;go_region_with(first| (go_at_call 250;refine(H.out.1 _ _ _ (HK2.out.rr.drewN 1) HY.out).mono ?_;rintro e w4 ⟨g4,v,rfl,hv,h4⟩;have hk4:=HK2.out.gb hb (Aa (Am (Ac w2 (some b))) g4) h4;have hL4:=hk4.blk;have hZ4:=hk4.zero;obtain⟨dl_0,dl_1,dl_2,dl_3,dl_4,dl_5,dl_6,dl_f⟩:=(hL4).c7;obtain⟨dz_0,dz_1,dz_2,dz_3,dz_4,dz_5,dz_6,dz_f⟩:=(hZ4).c7;have hok:∀q,w4.heap.size≤q→but w w1.heap.size q:=(fun q hq=>by have:=hL4.lt;exact⟨by omega,by omega⟩);have hz:VE (but w w1.heap.size) w4 v z:=hv.mono (fun q hq _=>by have hq:w2.heap.size≤q:=hq;exact⟨by omega,by omega⟩);have HZ4:=O (Z hk4 (Z hok hz));clear hk4 hok hz hv h4)| (go_at_call 89;refine(Dn [94] x z _ _ HZ4.out.2.1 HZ4.out.1.ve HZ4.out.2.2).mono ?_;rintro e w5 ⟨u,rfl,hu,g5⟩;obtain⟨ua,uc,va,vc,rfl,ru,rv⟩:=hu;have hZ5:=hZ4.gb g5 (by simp);obtain⟨ez_0,ez_1,ez_2,ez_3,ez_4,ez_5,ez_6,ez_f⟩:=(hZ5).c7;have HU:=O (Z g5 (Z ru rv));clear g5 ru rv));all_goals
    generalize hbe:Aw [94] x z=bz at*;have hk5:=HZ4.out.1.gbN hb HU.out.1;have HK5:=O hk5;clear hk5;go_wp2;have hk5:=HK5.out;have g7:=Ag w5 w.heap.size (.int .i64 bz.h.op) (str bz.h.s) (.int .i64 bz.h.vk) (.int .i64 bz.h.vn) (str bz.h.vs) (.slice ua bz.h.p.length uc) (.slice va bz.kids.len vc);exact bodyPost_ret (Ai rfl _ (hZ5.set7 _ _ _ _ _ _ _) rfl) rfl (Bf hb hk5.gr ⟨_,_,_,_,rfl,HU.out.2.1,HU.out.2.2⟩ (by intro k hk;exact hk.1) hk5.rr g7)
theorem IJ{L:List Bs}{st:RS}(h:Au l L st≠[]):Au l L st∈L:=by
 unfold Au at*;cases hs:st.2 with
 |true=>rw[hs]at h;simp at h
 | false=>
   rw[hs]at h;simp only[Bool.false_eq_true,if_false]at h ⊢;cases hf:L.find? (Ae (Ab l st.1))with
   |none=>rw[hf]at h;simp at h
   |some t=>exact List.mem_of_find?_eq_some hf
theorem PD{sm:FR Ex}(hsum:CR 178 b tv l sm):∀n,CR 138 b tv l (Df l sm n):=by
 intro n;induction n with
 |zero=>intro w st r h ho;cases ho
 |succ n ih=>
 intro w st r h ho;have hb:=h.lt;rw[Df]at ho;have gz:w.grownBy (w.alloc (.cells zeroE.toArray 27 (0,0))) (some b):=Ad (Ac _ _) _;have hz:=Blk.new w zeroE 27;have h0:=h.alloc (.cells zeroE.toArray 27 (0,0));have HS:=O (Dr h0 [[46,78,79,84,46],[33]] (by decide) (by decide) (w.heap.size+1) (by simp) 2 rfl);have H:=O (Z ih (Z hsum (Z hz gz)));have HO:=O ho;clear hsum ho hz gz h0 ih;go_enter func138,ntmps138;go_wp2_with fail;refine HS.out.mono ?_;rintro e w0 ⟨gs,v,rfl,rfl,h0⟩;have hB:=(H.out.2.2.1.alloc (.cells ([[46,78,79,84,46],[33]].map str).toArray 9 (0,0))).gb gs (by simp;omega);have g0:=Aa (Ad H.out.2.2.2 (.cells ([[46,78,79,84,46],[33]].map str).toArray 9 (0,0))) gs;have hw0:w.heap.size<w0.heap.size:=hB.lt;have ho:=HO.out;rw[show D0=[[46,78,79,84,46],[33]]from rfl]at ho;clear HS gs HO;by_cases he:Au l [[46,78,79,84,46],[33]] st=[]
 ·rw[if_pos (by rw[he];rfl)]at ho;obtain⟨⟨x,st1⟩,hx,ho⟩:=Option.bind_eq_some_iff.1 ho;simp only at ho;have HE:=O he;rw[show(A7 l [[46,78,79,84,46],[33]] st).1=[]from he];have HX:=O (H.out.2.1 _ _ _ h0 hx);have HO:=O ho;have HB:=O (Z hB g0);clear he hx ho h0 hB g0;go_wp2_with fail;refine HX.out.mono ?_;rintro e w1 ⟨g1,v,rfl,⟨pa,pc,la,lc,rfl,rp,rl⟩,h1⟩;simp only at rp rl h1 ⊢;have hK:=KpR.new hb HB.out.1 HB.out.2 hw0 g1 rp rl h1;have hb1:=h1.lt;have HS:=O (Dr hK.rr [[61],[61,61],[60,62],[35],[33,61],[60],[62],[60,61],[62,61],[36]] (by decide) (by decide) (w1.heap.size+1) (by simp) 10 rfl);have HK:=O hK;clear rp rl h1 HX g1 hK HB;go_wp2_with fail;refine HS.out.mono ?_;rintro e w2 ⟨g2,v,rfl,rfl,h2⟩;have HK2:=O ((HK.out.gbN hb (World.grownBy_alloc _ _ none)).gb hb g2 h2);have ho:=HO.out;rw[show CO=[[61],[61,61],[60,62],[35],[33,61],[60],[62],[60,61],[62,61],[36]]from rfl]at ho;clear HS HK g2 h2 HO;by_cases he2:Au l [[61],[61,61],[60,62],[35],[33,61],[60],[62],[60,61],[62,61],[36]] st1=[]
  ·rw[if_pos (by rw[he2];rfl)]at ho;cases ho;rw[show(A7 l [[61],[61,61],[60,62],[35],[33,61],[60],[62],[60,61],[62,61],[36]] st1).1=[]from he2];clear he2;have hk2:=HK2.out;have hL:=hk2.blk;have hZ:=hk2.zero;have hwL:=hk2.wL;clear hk2;obtain⟨cl_0,cl_1,cl_2,cl_3,cl_4,cl_5,cl_6,cl_f⟩:=(hL).c7;obtain⟨cz_0,cz_1,cz_2,cz_3,cz_4,cz_5,cz_6,cz_f⟩:=(hZ).c7;go_wp2;have hk:=HK2.out;have g7:=Ag w2 w.heap.size (.int .i64 x.h.op) (str x.h.s) (.int .i64 x.h.vk) (.int .i64 x.h.vn) (str x.h.vs) (.slice pa x.h.p.length pc) (.slice la x.kids.len lc);exact bodyPost_ret (Ai rfl _ (hZ.set7 _ _ _ _ _ _ _) rfl) rfl (Bf hb hk.gr hk.ve (by intro k hk;exact hk.1) hk.rr g7)
  ·have hin:=IJ he2;rw[if_neg (by simpa using he2)]at ho;obtain⟨⟨z,st3⟩,hy,hq⟩:=Option.bind_eq_some_iff.1 ho;simp only at hq;clear ho;have HY:=O hy;have es:(A7 l [[61],[61,61],[60,62],[35],[33,61],[60],[62],[60,61],[62,61],[36]] st1).1=Au l [[61],[61,61],[60,62],[35],[33,61],[60],[62],[60,61],[62,61],[36]] st1:=rfl;rw[es];clear hy he2 es;generalize(A7 l [[61],[61,61],[60,62],[35],[33,61],[60],[62],[60,61],[62,61],[36]] st1).2=st2 at*;generalize Au l [[61],[61,61],[60,62],[35],[33,61],[60],[62],[60,61],[62,61],[36]] st1=o at*;have hc:(o=[35]∧Eu o=[60,62])∨(o=[33,61]∧Eu o=[60,62])∨((o==[35])=false∧(o==[33,61])=false∧(o==[])=false∧Eu o=o):=by
    simp only[List.mem_cons,List.not_mem_nil,or_false]at hin;rcases hin with rfl|rfl|rfl|rfl|rfl|rfl|rfl|rfl|rfl|rfl<;>decide
   clear hin;rcases hc with⟨rfl,hcs⟩| ⟨rfl,hcs⟩| ⟨n1,n2,n3,hcs⟩
   ·rw[hcs]at hq;cases hq;clear hcs;have hk2:=HK2.out;have hL:=hk2.blk;have hZ:=hk2.zero;have hwL:=hk2.wL;have hbL:=hk2.bL;clear hk2;obtain⟨cl_0,cl_1,cl_2,cl_3,cl_4,cl_5,cl_6,cl_f⟩:=(hL).c7;obtain⟨cz_0,cz_1,cz_2,cz_3,cz_4,cz_5,cz_6,cz_f⟩:=(hZ).c7;have hLb:=hL.lt;go_wp2_with fail;go_region_with(first| (go_at_call 178;refine(H.out.2.1 _ _ _ (HK2.out.rr.drewN 1) HY.out).mono ?_;rintro e w4 ⟨g4,v,rfl,hv,h4⟩;have hk4:=HK2.out.gb hb (Aa (Am (Ac w2 (some b))) g4) h4;have hL4:=hk4.blk;have hZ4:=hk4.zero;obtain⟨dl_0,dl_1,dl_2,dl_3,dl_4,dl_5,dl_6,dl_f⟩:=(hL4).c7;obtain⟨dz_0,dz_1,dz_2,dz_3,dz_4,dz_5,dz_6,dz_f⟩:=(hZ4).c7;have hok:∀q,w4.heap.size≤q→but w w1.heap.size q:=(fun q hq=>by have:=hL4.lt;exact⟨by omega,by omega⟩);have hz:VE (but w w1.heap.size) w4 v z:=hv.mono (fun q hq _=>by have hq:w2.heap.size≤q:=hq;exact⟨by omega,by omega⟩);have HZ4:=O (Z hk4 (Z hok hz));clear hk4 hok hz hv h4)| (go_at_call 89;refine(Dn [60,62] x z _ _ HZ4.out.2.1 HZ4.out.1.ve HZ4.out.2.2).mono ?_;rintro e w5 ⟨u,rfl,hu,g5⟩;obtain⟨ua,uc,va,vc,rfl,ru,rv⟩:=hu;have hZ5:=hZ4.gb g5 (by simp);obtain⟨ez_0,ez_1,ez_2,ez_3,ez_4,ez_5,ez_6,ez_f⟩:=(hZ5).c7;have HU:=O (Z g5 (Z ru rv));clear g5 ru rv));all_goals
     generalize hbe:Aw [60,62] x z=bz at*;have hk5:=HZ4.out.1.gbN hb HU.out.1;have HK5:=O hk5;clear hk5;go_wp2;have hk5:=HK5.out;have g7:=Ag w5 w.heap.size (.int .i64 bz.h.op) (str bz.h.s) (.int .i64 bz.h.vk) (.int .i64 bz.h.vn) (str bz.h.vs) (.slice ua bz.h.p.length uc) (.slice va bz.kids.len vc);exact bodyPost_ret (Ai rfl _ (hZ5.set7 _ _ _ _ _ _ _) rfl) rfl (Bf hb hk5.gr ⟨_,_,_,_,rfl,HU.out.2.1,HU.out.2.2⟩ (by intro k hk;exact hk.1) hk5.rr g7)
   ·rw[hcs]at hq;cases hq;clear hcs;have hk2:=HK2.out;have hL:=hk2.blk;have hZ:=hk2.zero;have hwL:=hk2.wL;have hbL:=hk2.bL;clear hk2;obtain⟨cl_0,cl_1,cl_2,cl_3,cl_4,cl_5,cl_6,cl_f⟩:=(hL).c7;obtain⟨cz_0,cz_1,cz_2,cz_3,cz_4,cz_5,cz_6,cz_f⟩:=(hZ).c7;have hLb:=hL.lt;go_wp2_with fail;go_region_with(first| (go_at_call 178;refine(H.out.2.1 _ _ _ (HK2.out.rr.drewN 1) HY.out).mono ?_;rintro e w4 ⟨g4,v,rfl,hv,h4⟩;have hk4:=HK2.out.gb hb (Aa (Am (Ac w2 (some b))) g4) h4;have hL4:=hk4.blk;have hZ4:=hk4.zero;obtain⟨dl_0,dl_1,dl_2,dl_3,dl_4,dl_5,dl_6,dl_f⟩:=(hL4).c7;obtain⟨dz_0,dz_1,dz_2,dz_3,dz_4,dz_5,dz_6,dz_f⟩:=(hZ4).c7;have hok:∀q,w4.heap.size≤q→but w w1.heap.size q:=(fun q hq=>by have:=hL4.lt;exact⟨by omega,by omega⟩);have hz:VE (but w w1.heap.size) w4 v z:=hv.mono (fun q hq _=>by have hq:w2.heap.size≤q:=hq;exact⟨by omega,by omega⟩);have HZ4:=O (Z hk4 (Z hok hz));clear hk4 hok hz hv h4)| (go_at_call 89;refine(Dn [60,62] x z _ _ HZ4.out.2.1 HZ4.out.1.ve HZ4.out.2.2).mono ?_;rintro e w5 ⟨u,rfl,hu,g5⟩;obtain⟨ua,uc,va,vc,rfl,ru,rv⟩:=hu;have hZ5:=hZ4.gb g5 (by simp);obtain⟨ez_0,ez_1,ez_2,ez_3,ez_4,ez_5,ez_6,ez_f⟩:=(hZ5).c7;have HU:=O (Z g5 (Z ru rv));clear g5 ru rv));all_goals
     generalize hbe:Aw [60,62] x z=bz at*;have hk5:=HZ4.out.1.gbN hb HU.out.1;have HK5:=O hk5;clear hk5;go_wp2;have hk5:=HK5.out;have g7:=Ag w5 w.heap.size (.int .i64 bz.h.op) (str bz.h.s) (.int .i64 bz.h.vk) (.int .i64 bz.h.vn) (str bz.h.vs) (.slice ua bz.h.p.length uc) (.slice va bz.kids.len vc);exact bodyPost_ret (Ai rfl _ (hZ5.set7 _ _ _ _ _ _ _) rfl) rfl (Bf hb hk5.gr ⟨_,_,_,_,rfl,HU.out.2.1,HU.out.2.2⟩ (by intro k hk;exact hk.1) hk5.rr g7)
   ·rw[hcs]at hq;cases hq;clear hcs;have hk2:=HK2.out;have hL:=hk2.blk;have hZ:=hk2.zero;have hwL:=hk2.wL;have hbL:=hk2.bL;clear hk2;obtain⟨cl_0,cl_1,cl_2,cl_3,cl_4,cl_5,cl_6,cl_f⟩:=(hL).c7;obtain⟨cz_0,cz_1,cz_2,cz_3,cz_4,cz_5,cz_6,cz_f⟩:=(hZ).c7;have hLb:=hL.lt;go_wp2_with fail;go_region_with(first| (go_at_call 178;refine(H.out.2.1 _ _ _ (HK2.out.rr.drewN 1) HY.out).mono ?_;rintro e w4 ⟨g4,v,rfl,hv,h4⟩;have hk4:=HK2.out.gb hb (Aa (Am (Ac w2 (some b))) g4) h4;have hL4:=hk4.blk;have hZ4:=hk4.zero;obtain⟨dl_0,dl_1,dl_2,dl_3,dl_4,dl_5,dl_6,dl_f⟩:=(hL4).c7;obtain⟨dz_0,dz_1,dz_2,dz_3,dz_4,dz_5,dz_6,dz_f⟩:=(hZ4).c7;have hok:∀q,w4.heap.size≤q→but w w1.heap.size q:=(fun q hq=>by have:=hL4.lt;exact⟨by omega,by omega⟩);have hz:VE (but w w1.heap.size) w4 v z:=hv.mono (fun q hq _=>by have hq:w2.heap.size≤q:=hq;exact⟨by omega,by omega⟩);have HZ4:=O (Z hk4 (Z hok hz));clear hk4 hok hz hv h4)| (go_at_call 89;refine(Dn o x z _ _ HZ4.out.2.1 HZ4.out.1.ve HZ4.out.2.2).mono ?_;rintro e w5 ⟨u,rfl,hu,g5⟩;obtain⟨ua,uc,va,vc,rfl,ru,rv⟩:=hu;have hZ5:=hZ4.gb g5 (by simp);obtain⟨ez_0,ez_1,ez_2,ez_3,ez_4,ez_5,ez_6,ez_f⟩:=(hZ5).c7;have HU:=O (Z g5 (Z ru rv));clear g5 ru rv));all_goals
     generalize hbe:Aw o x z=bz at*;have hk5:=HZ4.out.1.gbN hb HU.out.1;have HK5:=O hk5;clear hk5;go_wp2;have hk5:=HK5.out;have g7:=Ag w5 w.heap.size (.int .i64 bz.h.op) (str bz.h.s) (.int .i64 bz.h.vk) (.int .i64 bz.h.vn) (str bz.h.vs) (.slice ua bz.h.p.length uc) (.slice va bz.kids.len vc);exact bodyPost_ret (Ai rfl _ (hZ5.set7 _ _ _ _ _ _ _) rfl) rfl (Bf hb hk5.gr ⟨_,_,_,_,rfl,HU.out.2.1,HU.out.2.2⟩ (by intro k hk;exact hk.1) hk5.rr g7)
 ·rw[if_neg (by simpa using he)]at ho;obtain⟨⟨x,st1⟩,hx,ho⟩:=Option.bind_eq_some_iff.1 ho;simp only at ho;cases ho;have es:(A7 l [[46,78,79,84,46],[33]] st).1=Au l [[46,78,79,84,46],[33]] st:=rfl;rw[es];have hs0:(Au l [[46,78,79,84,46],[33]] st==[])=false:=by simpa using he
  have hs1:(Au l [[46,78,79,84,46],[33]] st !=[])=true:=by simpa using he
  have HX:=O (H.out.1 _ _ _ h0 hx);clear he es hx h0;generalize Au l [[46,78,79,84,46],[33]] st=o at*;go_wp2_with fail;refine(HX.out).mono ?_;rintro e w1 ⟨g1,v,rfl,⟨pa,pc,la,lc,rfl,rp,rl⟩,h1⟩;simp only at rp rl h1 ⊢;have hs1:=g1.size;have hb1:=h1.lt;have hlt1:w.heap.size<w1.heap.size:=by omega
  have hZ:=hB.gb g1 (by simp;omega);have H2:=O (Z rp (Z rl (Z h1 (Aa g0 g1))));clear rp rl hB h1 g1 g0;obtain⟨cz_0,cz_1,cz_2,cz_3,cz_4,cz_5,cz_6,cz_f⟩:=(hZ).c7;go_wp2;obtain⟨rp,rl,h1,gg⟩:=H2.out;have g7:=Ag w1 w.heap.size (.int .i64 4) (str [46,78,79,84,46]) (.int .i64 0) (.int .i64 0) (str []) (.slice none 0 0) (.slice (some ⟨w1.heap.size,0,none⟩) 1 1);have hW:=hZ.set7 (.int .i64 4) (str [46,78,79,84,46]) (.int .i64 0) (.int .i64 0) (str []) (.slice none 0 0) (.slice (some ⟨w1.heap.size,0,none⟩) 1 1);have hsz:(set7 w1 w.heap.size (.int .i64 4) (str [46,78,79,84,46]) (.int .i64 0) (.int .i64 0) (str []) (.slice none 0 0) (.slice (some ⟨w1.heap.size,0,none⟩) 1 1)).heap.size=w1.heap.size:=by simp[set7]
  simp only[set7]at hW g7 hsz;generalize(((((((w1.setCell {block:=w.heap.size,off:=0} (.int .i64 4)).setCell {block:=w.heap.size,off:=1} (str [46,78,79,84,46])).setCell {block:=w.heap.size,off:=2} (.int .i64 0)).setCell {block:=w.heap.size,off:=3} (.int .i64 0)).setCell {block:=w.heap.size,off:=4} (str [])).setCell {block:=w.heap.size,off:=5} (.slice none 0 0)).setCell {block:=w.heap.size,off:=6} (.slice (some ⟨w1.heap.size,0,none⟩) 1 1))=W at*;exact bodyPost_ret (Ai (hd:=hd0 4 [46,78,79,84,46]) (pv:= .slice none 0 0) (lv:= .slice (some ⟨w1.heap.size,0,none⟩) 1 1) rfl _ (Blk.alloc hW (Obj.cells #[Value.int IntKind.i64 x.h.op,str x.h.s,Value.int IntKind.i64 x.h.vk,Value.int IntKind.i64 x.h.vn,str x.h.vs,Value.slice pa x.h.p.length pc,Value.slice la x.kids.len lc] 27)) rfl) rfl (EG (op:=4) (s:=[46,78,79,84,46]) hb gg rp rl (by intro q hq;have:(w0).heap.size≤q:=hq;omega) h1 g7 hsz)
end
section
variable {b:Nat}{tv:Value}{l:List Tok}
theorem Nw{E pr:FR Ex}(hE:CR 48 b tv l E)(hP:CR 304 b tv l pr)(N:Nat):∀n,CR 283 b tv l (Dw l E pr N n):=by
 intro n;induction n with
 |zero=>intro w st r h ho;cases ho
 |succ n ih=>
 intro w st r h ho;have hb:=h.lt;rw[Dw]at ho;have gz:w.grownBy (w.alloc (.cells zeroE.toArray 27 (0,0))) (some b):=Ad (Ac _ _) _;have hz:=Blk.new w zeroE 27;have h0:=h.alloc (.cells zeroE.toArray 27 (0,0));have HT:=O (BX h0 [45]);cases hs:A2 l [45] st with
 | true=>
   rw[hs]at HT ho;have hq:(Dw l E pr N n (Aj l [45] st)).bind (fun r=>some (unE [45] r.1,r.2))=some r:=ho;obtain⟨⟨x,st1⟩,hx,hq⟩:=Option.bind_eq_some_iff.1 hq;simp only at hq;cases hq;have H:=O (Z ih (Z hx (Z hz gz)));clear ho hs hE hP ih hx hz gz h0;go_enter func283,ntmps283;go_wp2_with fail;refine HT.out.mono ?_;rintro e w0 ⟨gs,v,rfl,rfl,h0⟩;have hB:=H.out.2.2.1.gb gs (by simp;omega);have g0:=Aa H.out.2.2.2 gs;have hw0:w.heap.size<w0.heap.size:=hB.lt;have HX:=O (H.out.1 _ _ _ h0 H.out.2.1);clear gs HT h0;go_wp2_with fail;refine(HX.out).mono ?_;rintro e w1 ⟨g1,v,rfl,⟨pa,pc,la,lc,rfl,rp,rl⟩,h1⟩;simp only at rp rl h1 ⊢;have hs1:=g1.size;have hb1:=h1.lt;have hlt1:w.heap.size<w1.heap.size:=by omega
   have hZ:=hB.gb g1 (by simp;omega);have H2:=O (Z rp (Z rl (Z h1 (Aa g0 g1))));clear rp rl hB h1 g1 g0;obtain⟨cz_0,cz_1,cz_2,cz_3,cz_4,cz_5,cz_6,cz_f⟩:=(hZ).c7;go_wp2;obtain⟨rp,rl,h1,gg⟩:=H2.out;have g7:=Ag w1 w.heap.size (.int .i64 4) (str [45]) (.int .i64 0) (.int .i64 0) (str []) (.slice none 0 0) (.slice (some ⟨w1.heap.size,0,none⟩) 1 1);have hW:=hZ.set7 (.int .i64 4) (str [45]) (.int .i64 0) (.int .i64 0) (str []) (.slice none 0 0) (.slice (some ⟨w1.heap.size,0,none⟩) 1 1);have hsz:(set7 w1 w.heap.size (.int .i64 4) (str [45]) (.int .i64 0) (.int .i64 0) (str []) (.slice none 0 0) (.slice (some ⟨w1.heap.size,0,none⟩) 1 1)).heap.size=w1.heap.size:=by simp[set7]
   simp only[set7]at hW g7 hsz;generalize(((((((w1.setCell {block:=w.heap.size,off:=0} (.int .i64 4)).setCell {block:=w.heap.size,off:=1} (str [45])).setCell {block:=w.heap.size,off:=2} (.int .i64 0)).setCell {block:=w.heap.size,off:=3} (.int .i64 0)).setCell {block:=w.heap.size,off:=4} (str [])).setCell {block:=w.heap.size,off:=5} (.slice none 0 0)).setCell {block:=w.heap.size,off:=6} (.slice (some ⟨w1.heap.size,0,none⟩) 1 1))=W at*;exact bodyPost_ret (Ai (hd:=hd0 4 [45]) (pv:= .slice none 0 0) (lv:= .slice (some ⟨w1.heap.size,0,none⟩) 1 1) rfl _ (Blk.alloc hW (Obj.cells #[Value.int IntKind.i64 x.h.op,str x.h.s,Value.int IntKind.i64 x.h.vk,Value.int IntKind.i64 x.h.vn,str x.h.vs,Value.slice pa x.h.p.length pc,Value.slice la x.kids.len lc] 27)) rfl) rfl (EG (op:=4) (s:=[45]) hb gg rp rl (by intro q hq;have:(w0).heap.size≤q:=hq;omega) h1 g7 hsz)
 | false=>
   rw[hs]at HT ho;have hq:(pr (Aj l [45] st)).bind (fun r=>CP l E N r.1 r.2)=some r:=ho;obtain⟨⟨x,st1⟩,hx,hq⟩:=Option.bind_eq_some_iff.1 hq;simp only at hq;have H:=O (Z hE (Z hP (Z hx (Z hz (Z gz hq)))));clear ho hs hE hP ih hx hz gz h0 hq;go_enter func283,ntmps283;go_wp2_with fail;refine HT.out.mono ?_;rintro e w0 ⟨gs,v,rfl,rfl,h0⟩;have hB:=H.out.2.2.2.1.gb gs (by simp;omega);have g0:=Aa H.out.2.2.2.2.1 gs;have hw0:w.heap.size<w0.heap.size:=hB.lt;have HX:=O (H.out.2.1 _ _ _ h0 H.out.2.2.1);have HB:=O (Z hB g0);clear gs HT h0 hB g0;go_wp2_with fail;refine HX.out.mono ?_;rintro e w1 ⟨g1,v,rfl,⟨pa,pc,la,lc,rfl,rp,rl⟩,h1⟩;simp only at rp rl h1 ⊢;have HK:=O (KpR.new hb HB.out.1 HB.out.2 hw0 g1 rp rl h1);have hb1:=h1.lt;clear rp rl h1 HX g1 HB;go_wp2_with fail;go_loopg [] N (fun m wr=>∃x pa pc la lc st,KpR b tv l w w1.heap.size wr x pa pc la lc st∧CP l E m x st=some r)
   case atStart=>exact⟨x,pa,pc,la,lc,_,HK.out,H.out.2.2.2.2.2⟩
   case round=>
    obtain⟨x,pa,pc,la,lc,st2,hk,hloop⟩:=hrel;clear HK;cases gk with
    |zero=>cases hloop
    |succ m=>
    rw[CP]at hloop;have HT:=O (BX hk.rr [91]);have HK:=O hk;cases hs:A2 l [91] st2 with
    | false=>
      rw[hs]at HT hloop;have hq:some (x,Aj l [91] st2)=some r:=hloop;clear hloop hs hk;go_wp2_with fail;refine HT.out.mono ?_;rintro e w2 ⟨g2,v,rfl,rfl,h2⟩;have HK2:=O (HK.out.gb hb g2 h2);clear g2 h2 HK;cases hq;have hk2:=HK2.out;have hL:=hk2.blk;have hZ:=hk2.zero;have hwL:=hk2.wL;clear hk2;obtain⟨cl_0,cl_1,cl_2,cl_3,cl_4,cl_5,cl_6,cl_f⟩:=(hL).c7;obtain⟨cz_0,cz_1,cz_2,cz_3,cz_4,cz_5,cz_6,cz_f⟩:=(hZ).c7;go_wp2;have hk:=HK2.out;have g7:=Ag w2 w.heap.size (.int .i64 x.h.op) (str x.h.s) (.int .i64 x.h.vk) (.int .i64 x.h.vn) (str x.h.vs) (.slice pa x.h.p.length pc) (.slice la x.kids.len lc);exact bodyPost_ret (Ai rfl _ (hZ.set7 _ _ _ _ _ _ _) rfl) rfl (Bf hb hk.gr hk.ve (by intro k hk;exact hk.1) hk.rr g7)
    | true=>
      rw[hs]at HT hloop;have hq:(E (Aj l [91] st2)).bind (fun r=>CP l E m (Ct x r.1) (AQ l [93] r.2))=some r:=hloop;obtain⟨⟨z,st3⟩,hy,hq⟩:=Option.bind_eq_some_iff.1 hq;simp only at hq;have HQ:=O hq;have HY:=O hy;clear hloop hs hk hq hy;go_wp2_with fail;refine HT.out.mono ?_;rintro e w2 ⟨g2,v,rfl,rfl,h2⟩;have hbw2:=h2.lt;have HK2:=O (HK.out.gb hb g2 h2);have hL2:=HK2.out.blk.lt;have HX:=O (H.out.1 _ _ _ h2 HY.out);clear g2 h2 HK HT;go_wp2_with fail;refine HX.out.mono ?_;rintro e w4 ⟨g4,v,rfl,⟨za,zc,na,nc,rfl,zp,zl⟩,h4⟩;simp only at zp zl h4 ⊢;have hs4:=g4.size;have hwL:=HK2.out.wL;have gI:=World.grownBy_alloc w4 (.cells (hdC z.h (.slice za z.h.p.length zc) (.slice na z.kids.len nc)).toArray 27 (0,0)) none;have hin:∀g,AA w2.heap.size g→but w w1.heap.size g:=fun g hg=>by have hg:w2.heap.size≤g:=hg;exact⟨by omega,by omega⟩
      have hkI:=(HK2.out.gb hb g4 h4).gbN hb gI;have HI:=O (Z (Blk.new w4 (hdC z.h (.slice za z.h.p.length zc) (.slice na z.kids.len nc)) 27) (Z ((zp.gb gI (by simp)).mono fun g hg _=>hin g hg) ((zl.gb gI (by simp)).mono fun g hg _=>hin g hg)));have HKI:=O hkI;have hb4:=h4.lt;clear hkI gI zp zl h4 g4 HX hin;go_wp2_with fail;refine(C7 HKI.out.rr [93]).mono ?_;rintro e w6 ⟨g6,v,rfl,rfl,h6⟩;have hk6:=HKI.out.gb hb g6 h6;have hI6:=HI.out.1.gb g6 (by simp;omega);have hL6:=hk6.blk;have hok6:∀q,but w w1.heap.size q→q<(w4.alloc (.cells (hdC z.h (.slice za z.h.p.length zc) (.slice na z.kids.len nc)).toArray 27 (0,0))).heap.size→some q≠some b:=fun q hq _ e=>by cases e;have:=hq.1;omega
      have hK7:=hk6.two hb 6 [] (HI.out.2.1.gb g6 hok6) (HI.out.2.2.gb g6 hok6);have HK7:=O hK7;have hlt6:=hL6.lt;have hlt7:=hI6.lt;have hne6:w1.heap.size≠w4.heap.size:=by omega
      clear hk6 hK7 h6 g6;obtain⟨cl_0,cl_1,cl_2,cl_3,cl_4,cl_5,cl_6,cl_f⟩:=(hL6).c7;obtain⟨ci_0,ci_1,ci_2,ci_3,ci_4,ci_5,ci_6,ci_f⟩:=(hI6).c7;go_wp2_with fail;go_roundg m
      case measure=>omega
      case rel=>exact⟨Ct x z,none,0,_,2,_,HK7.out,HQ.out⟩
end
end Go.Proofs.YtgjdhajcnechdaaGreatDoor
