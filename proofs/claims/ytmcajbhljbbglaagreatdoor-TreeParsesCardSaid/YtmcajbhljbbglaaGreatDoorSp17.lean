/-
  The reference's reader: expr, and.
-/
import Derived.Test.YtmcajbhljbbglaaGreatDoorSpF
import Derived.Test.YtmcajbhljbbglaaGreatDoorSp14
set_option linter.all false
set_option maxRecDepth 100000
set_option maxHeartbeats 8000000
namespace Go.Proofs.YtmcajbhljbbglaaGreatDoor
open Tryz
open Go.RowKit
section
variable {b:Nat}{tv:Value}{l:List Tok}
theorem rB{opnd:FR Ex}(hop:CR 60 b tv l opnd)(n:Nat):CR 28 b tv l (DE l orL n opnd):=by
 show CR 28 b tv l (DE l [[46,79,82,46]] n opnd);have NS{P}(h:P:=by
 have DA{P}(h:P:=by
 have NJ{P}(h:P:=by
 go_enter func28,ntmps28;have Ix{P}(h:P:=by
 have Rw{P}(h:P:=by
 go_wp2_with fail;go_loopg [] n (fun m wr=>∃x pa pc la lc st,KpR b tv l w w1.heap.size wr x pa pc la lc st∧CM l [[46,79,82,46]] opnd m x st=some r)
 case atStart=>exact⟨x,pa,pc,la,lc,_,HK.out,H.out.2.1⟩
 case round=>
  have Rv{P}(h:P:=by
  rw[Vm Ad]at hloop;have HT:=Z (B9 hk.rr [46,79,82,46]);have HK:=Z hk;cases hs:A2 l [46,79,82,46] st2 with
  | false=>
    rw[hs]at HT hloop;have HQ:=Z (show some (x,Aq l [46,79,82,46] st2)=some r from hloop);exact TE
  | true=>
    rw[hs]at HT hloop;have hq:(opnd (Aq l [46,79,82,46] st2)).bind (fun r=>CM l [[46,79,82,46]] opnd m (AH [46,79,82,46] x r.1) r.2)=some r:=hloop;have LE{P}(h:P:=by
    clear hloop hs hk hq hy;have Dk{P}(h:P:=by
    have cN{P}(h:P:=by
    have Fx{P}(h:P:=by
    have hLb:=hL.lt;go_wp2_with fail;go_region_with(first| (go_at_call 60;refine(H.out.1 _ _ _ (HK2.out.rr.drewN 1) HY.out).mono ?_;rintro e w4 ⟨g4,v,rfl,hv,h4⟩;have hk4:=HK2.out.gb hb (Ah (An (Aj w2 (some b))) g4) h4;have hL4:=hk4.blk;obtain⟨dl_0,dl_1,dl_2,dl_3,dl_4,dl_5,dl_6,dl_f⟩:=(hL4).c7;have hok:∀q,w4.heap.size≤q→but w w1.heap.size q:=(fun q hq=>by have:=hL4.lt;exact⟨by omega,by omega⟩);have hz:VE (but w w1.heap.size) w4 v z:=hv.mono (fun q hq _=>by have hq:w2.heap.size≤q:=hq;exact⟨by omega,by omega⟩);have HZ4:=Z (Ac hk4 (Ac hok hz));clear hk4 hok hz hv h4)| (go_at_call 62;refine(IF [46,79,82,46] x z _ _ HZ4.out.2.1 HZ4.out.1.ve HZ4.out.2.2).mono ?_;rintro e w5 ⟨u,rfl,hu,g5⟩;obtain⟨ua,uc,va,vc,rfl,ru,rv⟩:=hu;have hL5:=hL4.gb g5 Ae;obtain⟨el_0,el_1,el_2,el_3,el_4,el_5,el_6,el_f⟩:=(hL5).c7;have HU:=Z (Ac g5 (Ac ru rv));clear g5 ru rv));all_goals
     have hK7:=(HZ4.out.1.gbN hb HU.out.1).store (z:=AH [46,79,82,46] x z) hb HU.out.2.1 HU.out.2.2;have HK7:=Z hK7;clear hK7;go_wp2_with fail;go_roundg m
     case measure=>omega
     case rel=>exact⟨AH [46,79,82,46] x z,ua,uc,va,vc,_,HK7.out,HQ.out⟩):=Aa h
    exact Fq):=Aa h;exact SV):=Aa h;exact Dh):=Aa h;exact Lv):=Aa h
  exact Ox):=Aa h
 exact O0):=Aa h;exact Io):=Aa h;exact Ng):=Aa h;exact D5):=Aa h;exact Np
theorem yE{opnd:FR Ex}(hop:CR 93 b tv l opnd)(n:Nat):CR 60 b tv l (DE l andL n opnd):=by
 show CR 60 b tv l (DE l [[46,65,78,68,46]] n opnd);have NS{P}(h:P:=by
 have DA{P}(h:P:=by
 have NJ{P}(h:P:=by
 go_enter func60,ntmps60;have Ix{P}(h:P:=by
 have Rw{P}(h:P:=by
 go_wp2_with fail;go_loopg [] n (fun m wr=>∃x pa pc la lc st,KpR b tv l w w1.heap.size wr x pa pc la lc st∧CM l [[46,65,78,68,46]] opnd m x st=some r)
 case atStart=>exact⟨x,pa,pc,la,lc,_,HK.out,H.out.2.1⟩
 case round=>
  have Rv{P}(h:P:=by
  rw[Vm Ad]at hloop;have HT:=Z (B9 hk.rr [46,65,78,68,46]);have HK:=Z hk;cases hs:A2 l [46,65,78,68,46] st2 with
  | false=>
    rw[hs]at HT hloop;have HQ:=Z (show some (x,Aq l [46,65,78,68,46] st2)=some r from hloop);exact TE
  | true=>
    rw[hs]at HT hloop;have hq:(opnd (Aq l [46,65,78,68,46] st2)).bind (fun r=>CM l [[46,65,78,68,46]] opnd m (AH [46,65,78,68,46] x r.1) r.2)=some r:=hloop;have LE{P}(h:P:=by
    clear hloop hs hk hq hy;have Dk{P}(h:P:=by
    have cN{P}(h:P:=by
    have Fx{P}(h:P:=by
    have hLb:=hL.lt;go_wp2_with fail;go_region_with(first| (go_at_call 93;refine(H.out.1 _ _ _ (HK2.out.rr.drewN 1) HY.out).mono ?_;rintro e w4 ⟨g4,v,rfl,hv,h4⟩;have hk4:=HK2.out.gb hb (Ah (An (Aj w2 (some b))) g4) h4;have hL4:=hk4.blk;obtain⟨dl_0,dl_1,dl_2,dl_3,dl_4,dl_5,dl_6,dl_f⟩:=(hL4).c7;have hok:∀q,w4.heap.size≤q→but w w1.heap.size q:=(fun q hq=>by have:=hL4.lt;exact⟨by omega,by omega⟩);have hz:VE (but w w1.heap.size) w4 v z:=hv.mono (fun q hq _=>by have hq:w2.heap.size≤q:=hq;exact⟨by omega,by omega⟩);have HZ4:=Z (Ac hk4 (Ac hok hz));clear hk4 hok hz hv h4)| (go_at_call 62;refine(IF [46,65,78,68,46] x z _ _ HZ4.out.2.1 HZ4.out.1.ve HZ4.out.2.2).mono ?_;rintro e w5 ⟨u,rfl,hu,g5⟩;obtain⟨ua,uc,va,vc,rfl,ru,rv⟩:=hu;have hL5:=hL4.gb g5 Ae;obtain⟨el_0,el_1,el_2,el_3,el_4,el_5,el_6,el_f⟩:=(hL5).c7;have HU:=Z (Ac g5 (Ac ru rv));clear g5 ru rv));all_goals
     have hK7:=(HZ4.out.1.gbN hb HU.out.1).store (z:=AH [46,65,78,68,46] x z) hb HU.out.2.1 HU.out.2.2;have HK7:=Z hK7;clear hK7;go_wp2_with fail;go_roundg m
     case measure=>omega
     case rel=>exact⟨AH [46,65,78,68,46] x z,ua,uc,va,vc,_,HK7.out,HQ.out⟩):=Aa h
    exact Fq):=Aa h;exact SV):=Aa h;exact Dh):=Aa h;exact Lv):=Aa h
  exact Ox):=Aa h
 exact O0):=Aa h;exact Io):=Aa h;exact Ng):=Aa h;exact D5):=Aa h;exact Np
end
end Go.Proofs.YtmcajbhljbbglaaGreatDoor
