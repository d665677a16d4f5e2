/-
  The reference's reader: pow, not.
-/
import Derived.Test.YtmcajbhljbbglaaGreatDoorSpF
import Derived.Test.YtmcajbhljbbglaaGreatDoorSp20
set_option linter.all false
set_option maxRecDepth 100000
set_option maxHeartbeats 8000000
namespace Go.Proofs.YtmcajbhljbbglaaGreatDoor
open Tryz
open Go.RowKit
section
variable {b:Nat}{tv:Value}{l:List Tok}
theorem yL{un:FR Ex}(hun:CR 247 b tv l un):∀n,CR 214 b tv l (Ie l un n):=by
 have Ru{P}(h:P:=by
 rw[Ie]at ho;have L7{P}(h:P:=by
 have DA{P}(h:P:=by
 have hw0:w.heap.size<(w.alloc (.cells zeroE.toArray 29 (0,0))).heap.size:=Ae;have HX:=Z (hun _ _ _ h0 hx);have H:=Z (Ac ih (Ac ho (Ac hz (Ac gz hw0))));clear hun ho hx hz gz h0 hw0 ih;go_enter func214,ntmps214;have Ix{P}(h:P:=by
 have Rw{P}(h:P:=by
 have HT:=Z (B9 HK.out.rr [94]);have hloop:=H.out.2.1;cases hs:A2 l [94] st1 with
 | false=>
   rw[hs]at HT hloop;have hq:some (x,Aq l [94] st1)=some r:=hloop;cases hq;clear hloop hs;have Dk{P}(h:P:=by have HK2:=Z (HK.out.gb hb g2 h2);clear g2 h2 HK;exact Rh):=Aa h;exact Dh
 | true=>
   rw[hs]at HT hloop;have hq:(Ie l un n (Aq l [94] st1)).bind (fun q=>some (AH [94] x q.1,q.2))=some r:=hloop;obtain⟨⟨z,st3⟩,hy,hq⟩:=Option.bind_eq_some_iff.1 hq;simp only at hq;cases hq;have HY:=Z hy;clear hloop hs hy;have Dk{P}(h:P:=by
   have HK2:=Z (HK.out.gb hb g2 h2);clear g2 h2 HK;have Iw{P}(h:P:=by
   have hbL:=hk2.bL;clear hk2;have Fv{P}(h:P:=by
   have hLb:=hL.lt;go_wp2_with fail;go_region_with(first| (go_at_call 214;refine(H.out.1 _ _ _ (HK2.out.rr.drewN 1) HY.out).mono ?_;rintro e w4 ⟨g4,v,rfl,hv,h4⟩;have hk4:=HK2.out.gb hb (Ah (An (Aj w2 (some b))) g4) h4;have hL4:=hk4.blk;have hZ4:=hk4.zero;obtain⟨dl_0,dl_1,dl_2,dl_3,dl_4,dl_5,dl_6,dl_f⟩:=(hL4).c7;obtain⟨dz_0,dz_1,dz_2,dz_3,dz_4,dz_5,dz_6,dz_f⟩:=(hZ4).c7;have hok:∀q,w4.heap.size≤q→but w w1.heap.size q:=(fun q hq=>by have:=hL4.lt;exact⟨by omega,by omega⟩);have hz:VE (but w w1.heap.size) w4 v z:=hv.mono (fun q hq _=>by have hq:w2.heap.size≤q:=hq;exact⟨by omega,by omega⟩);have HZ4:=Z (Ac hk4 (Ac hok hz));clear hk4 hok hz hv h4)| (go_at_call 62;refine(IF [94] x z _ _ HZ4.out.2.1 HZ4.out.1.ve HZ4.out.2.2).mono ?_;rintro e w5 ⟨u,rfl,hu,g5⟩;obtain⟨ua,uc,va,vc,rfl,ru,rv⟩:=hu;have hZ5:=hZ4.gb g5 Ae;obtain⟨ez_0,ez_1,ez_2,ez_3,ez_4,ez_5,ez_6,ez_f⟩:=(hZ5).c7;have HU:=Z (Ac g5 (Ac ru rv));clear g5 ru rv));all_goals
    generalize hbe:AH [94] x z=bz at*;exact XV):=Aa h
   exact Fm):=Aa h;exact In):=Aa h;exact Dh):=Aa h
 exact O0):=Aa h;exact Io):=Aa h;exact D5):=Aa h;exact Ku):=Aa h;exact Ov
theorem Wd{L:List Bs}{st:RS}(h:A9 l L st≠[]):A9 l L st∈L:=by
 unfold A9 at*;cases hs:st.2 with
 |true=>rw[hs]at h;simp at h
 | false=>
   rw[hs]at h;simp only[Bool.false_eq_true,if_false]at h ⊢;cases hf:L.find? (Ak (Af l st.1))with
   |none=>rw[hf]at h;simp at h
   |some t=>exact List.mem_of_find?_eq_some hf
theorem yK{sm:FR Ex}(hsum:CR 127 b tv l sm):∀n,CR 93 b tv l (GR l sm n):=by
 have Ru{P}(h:P:=by
 rw[GR]at ho;have DA{P}(h:P:=by
 have HS:=Z (IB h0 [[46,78,79,84,46],[33]] Ad Ad (w.heap.size+1) Ae 2 rfl);have H:=Z (Ac ih (Ac hsum (Ac hz gz)));have HO:=Z ho;clear hsum ho hz gz h0 ih;go_enter func93,ntmps93;go_wp2_with fail;refine HS.out.mono ?_;rintro e w0 ⟨gs,v,rfl,rfl,h0⟩;have hB:=(H.out.2.2.1.alloc (.cells ([[46,78,79,84,46],[33]].map str).toArray 9 (0,0))).gb gs Ag;have g0:=Ah (Ar H.out.2.2.2 (.cells ([[46,78,79,84,46],[33]].map str).toArray 9 (0,0))) gs;have hw0:w.heap.size<w0.heap.size:=hB.lt;have ho:=HO.out;rw[show Ib=[[46,78,79,84,46],[33]]from rfl]at ho;clear HS gs HO;by_cases he:A9 l [[46,78,79,84,46],[33]] st=[]
 ·rw[if_pos (by rw[he];rfl)]at ho;have L7{P}(h:P:=by
  have HE:=Z he;rw[show(AJ l [[46,78,79,84,46],[33]] st).1=[]from he];have HX:=Z (H.out.2.1 _ _ _ h0 hx);have HO:=Z ho;have HB:=Z (Ac hB g0);clear he hx ho h0 hB g0;have Ix{P}(h:P:=by
  have hK:=KpR.new hb HB.out.1 HB.out.2 hw0 g1 rp rl h1;have hb1:=h1.lt;have HS:=Z (IB hK.rr [[61],[61,61],[60,62],[35],[33,61],[60],[62],[60,61],[62,61],[36]] Ad Ad (w1.heap.size+1) Ae 10 rfl);have HK:=Z hK;clear rp rl h1 HX g1 hK HB;have RM{P}(h:P:=by
  have ho:=HO.out;rw[show Gs=[[61],[61,61],[60,62],[35],[33,61],[60],[62],[60,61],[62,61],[36]]from rfl]at ho;clear HS HK g2 h2 HO;by_cases he2:A9 l [[61],[61,61],[60,62],[35],[33,61],[60],[62],[60,61],[62,61],[36]] st1=[]
  ·rw[if_pos (by rw[he2];rfl)]at ho;cases ho;rw[show(AJ l [[61],[61,61],[60,62],[35],[33,61],[60],[62],[60,61],[62,61],[36]] st1).1=[]from he2];clear he2;exact Rh
  ·have hin:=Wd he2;rw[if_neg (by simpa using he2)]at ho;obtain⟨⟨z,st3⟩,hy,hq⟩:=Option.bind_eq_some_iff.1 ho;simp only at hq;clear ho;have HY:=Z hy;have es:(AJ l [[61],[61,61],[60,62],[35],[33,61],[60],[62],[60,61],[62,61],[36]] st1).1=A9 l [[61],[61,61],[60,62],[35],[33,61],[60],[62],[60,61],[62,61],[36]] st1:=rfl;rw[es];clear hy he2 es;generalize(AJ l [[61],[61,61],[60,62],[35],[33,61],[60],[62],[60,61],[62,61],[36]] st1).2=st2 at*;generalize A9 l [[61],[61,61],[60,62],[35],[33,61],[60],[62],[60,61],[62,61],[36]] st1=o at*;have hc:(o=[35]∧JE o=[60,62])∨(o=[33,61]∧JE o=[60,62])∨((o==[35])=false∧(o==[33,61])=false∧(o==[])=false∧JE o=o):=by
    simp only[List.mem_cons,List.not_mem_nil,or_false]at hin;rcases hin with rfl|rfl|rfl|rfl|rfl|rfl|rfl|rfl|rfl|rfl<;>decide
   clear hin;rcases hc with⟨rfl,hcs⟩| ⟨rfl,hcs⟩| ⟨n1,n2,n3,hcs⟩
   ·exact aI
   ·exact aI
   ·rw[hcs]at hq;cases hq;clear hcs;have Iw{P}(h:P:=by
    have hbL:=hk2.bL;clear hk2;have Fv{P}(h:P:=by
    have hLb:=hL.lt;go_wp2_with fail;go_region_with(first| (go_at_call 127;refine(H.out.2.1 _ _ _ (HK2.out.rr.drewN 1) HY.out).mono ?_;rintro e w4 ⟨g4,v,rfl,hv,h4⟩;have hk4:=HK2.out.gb hb (Ah (An (Aj w2 (some b))) g4) h4;have hL4:=hk4.blk;have hZ4:=hk4.zero;obtain⟨dl_0,dl_1,dl_2,dl_3,dl_4,dl_5,dl_6,dl_f⟩:=(hL4).c7;obtain⟨dz_0,dz_1,dz_2,dz_3,dz_4,dz_5,dz_6,dz_f⟩:=(hZ4).c7;have hok:∀q,w4.heap.size≤q→but w w1.heap.size q:=(fun q hq=>by have:=hL4.lt;exact⟨by omega,by omega⟩);have hz:VE (but w w1.heap.size) w4 v z:=hv.mono (fun q hq _=>by have hq:w2.heap.size≤q:=hq;exact⟨by omega,by omega⟩);have HZ4:=Z (Ac hk4 (Ac hok hz));clear hk4 hok hz hv h4)| (go_at_call 62;refine(IF o x z _ _ HZ4.out.2.1 HZ4.out.1.ve HZ4.out.2.2).mono ?_;rintro e w5 ⟨u,rfl,hu,g5⟩;obtain⟨ua,uc,va,vc,rfl,ru,rv⟩:=hu;have hZ5:=hZ4.gb g5 Ae;obtain⟨ez_0,ez_1,ez_2,ez_3,ez_4,ez_5,ez_6,ez_f⟩:=(hZ5).c7;have HU:=Z (Ac g5 (Ac ru rv));clear g5 ru rv));all_goals
     generalize hbe:AH o x z=bz at*;exact XV):=Aa h
    exact Fm):=Aa h;exact In):=Aa h
  exact QP):=Aa h;exact Io):=Aa h;exact Ku
 ·rw[if_neg D3]at ho;have L7{P}(h:P:=by cases ho;have es:(AJ l [[46,78,79,84,46],[33]] st).1=A9 l [[46,78,79,84,46],[33]] st:=rfl;rw[es];have hs0:(A9 l [[46,78,79,84,46],[33]] st==[])=false:=D3;have hs1:(A9 l [[46,78,79,84,46],[33]] st !=[])=true:=D3;have HX:=Z (H.out.1 _ _ _ h0 hx);clear he es hx h0;generalize A9 l [[46,78,79,84,46],[33]] st=o at*;have fQ{P}(h:P:=by have Fy{P}(h:P:=by obtain⟨rp,rl,h1,gg⟩:=H2.out;have iF{P}(h:P:=by exact bodyPost_ret (AX (hd:=hd0 4 [46,78,79,84,46]) (pv:= .slice none 0 0) (lv:= .slice (some ⟨w1.heap.size,0,none⟩) 1 1) rfl _ (Blk.alloc hW (Obj.cells #[Value.int IntKind.i64 x.h.op,str x.h.s,Value.int IntKind.i64 x.h.vk,Value.int IntKind.i64 x.h.vn,str x.h.vs,Value.slice pa x.h.p.length pc,Value.slice la x.kids.len lc] 29)) rfl) rfl (KN (op:=4) (s:=[46,78,79,84,46]) hb gg rp rl (by intro q hq;have:(w0).heap.size≤q:=hq;omega) h1 g7 hsz)):=Aa h;exact ZH):=Aa h;exact Fr):=Aa h;exact YY):=Aa h;exact Ku):=Aa h
 exact D5):=Aa h;exact Ov
end
end Go.Proofs.YtmcajbhljbbglaaGreatDoor
