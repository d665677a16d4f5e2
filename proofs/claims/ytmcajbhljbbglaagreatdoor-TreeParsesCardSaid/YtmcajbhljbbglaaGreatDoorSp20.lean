/-
  The reference's reader: sum, prod.
-/
import Derived.Test.YtmcajbhljbbglaaGreatDoorSpF
import Derived.Test.YtmcajbhljbbglaaGreatDoorSp17
set_option linter.all false
set_option maxRecDepth 100000
set_option maxHeartbeats 8000000
namespace Go.Proofs.YtmcajbhljbbglaaGreatDoor
open Tryz
open Go.RowKit
section
variable {b:Nat}{tv:Value}{l:List Tok}
theorem IB{W:World}{st:RS}(h:Rr W b tv l st)(L:List Bs)(hne:∀s∈L,s≠[])(hl:L.length≤100)(n:Nat)(hn:n=W.heap.size)(m:Nat)(hm:L.length=m):
 Calls Tryz.prog 126 #[.pointer (some ⟨b,0,none⟩),.slice (some ⟨n,0,none⟩) m m] (W.alloc (.cells (L.map str).toArray 9 (0,0))) (AM b tv l (W.alloc (.cells (L.map str).toArray 9 (0,0))) VStr (AJ l L st)):=by
 subst hm;exact xD (h.alloc _) (ok:=fun k=>k=n) (Cells.new' hn Ae AI rfl) (by intro k hk;have:=h.lt;omega) hne hl
theorem yO{opnd:FR Ex}(hop:CR 177 b tv l opnd)(n:Nat):CR 127 b tv l (DE l sumL n opnd):=by
 show CR 127 b tv l (DE l [[43],[45]] n opnd);have NS{P}(h:P:=by
 have DA{P}(h:P:=by
 have NJ{P}(h:P:=by
 go_enter func127,ntmps127;have Ix{P}(h:P:=by
 have hK:=KpR.new hb H.out.2.2.1 H.out.2.2.2.1 H.out.2.2.2.2 g1 rp rl h1;have hb1:=h1.lt;have HS:=Z (IB hK.rr [[43],[45]] Ad Ad (w1.heap.size+1) Ae 2 rfl);have HK:=Z hK;clear rp rl h1 HX g1 hK;have RM{P}(h:P:=by
 clear HS HK g2 h2;go_wp2_with fail;go_loopg [4] n (fun m v4 wr=>∃x pa pc la lc st,v4=str (A9 l [[43],[45]] st)∧KpR b tv l w w1.heap.size wr x pa pc la lc (AJ l [[43],[45]] st).2∧CM l [[43],[45]] opnd m x st=some r)
 case atStart=>exact⟨x,pa,pc,la,lc,st1,rfl,HK2.out,H.out.2.1⟩
 case round=>
  obtain⟨x,pa,pc,la,lc,st2,rfl,hk,hloop⟩:=hrel;clear HK2;cases gk with
  |zero=>cases hloop
  |succ m=>
  rw[CM]at hloop;generalize hso:A9 l [[43],[45]] st2=o at*;by_cases he:o=[]
  ·subst he;have HQ:=Z (show some (x,(AJ l [[43],[45]] st2).2)=some r from hloop);exact bA
  ·have hs0:(o==[])=false:=by simpa using he
   have hs2:o.isEmpty=false:=D3;rw[hs2]at hloop;have hq:(opnd (AJ l [[43],[45]] st2).2).bind (fun r=>CM l [[43],[45]] opnd m (AH o x r.1) r.2)=some r:=hloop;have LE{P}(h:P:=by
   have hL:=hk.blk;have hwL:=hk.wL;have hbL:=hk.bL;have HK2:=Z hk;clear hloop hk hq hy hs2 he hso;have Fx{P}(h:P:=by
   have hLb:=hL.lt;go_wp2_with fail;go_region_with(first| (go_at_call 177;refine(H.out.1 _ _ _ (HK2.out.rr.drewN 1) HY.out).mono ?_;rintro e w4 ⟨g4,v,rfl,hv,h4⟩;have hk4:=HK2.out.gb hb (Ah (An (Aj wr (some b))) g4) h4;have hL4:=hk4.blk;obtain⟨dl_0,dl_1,dl_2,dl_3,dl_4,dl_5,dl_6,dl_f⟩:=(hL4).c7;have hok:∀q,w4.heap.size≤q→but w w1.heap.size q:=(fun q hq=>by have:=hL4.lt;exact⟨by omega,by omega⟩);have hz:VE (but w w1.heap.size) w4 v z:=hv.mono (fun q hq _=>by have hq:wr.heap.size≤q:=hq;exact⟨by omega,by omega⟩);have HZ4:=Z (Ac hk4 (Ac hok hz));clear hk4 hok hz hv h4)| (go_at_call 62;refine(IF o x z _ _ HZ4.out.2.1 HZ4.out.1.ve HZ4.out.2.2).mono ?_;rintro e w5 ⟨u,rfl,hu,g5⟩;obtain⟨ua,uc,va,vc,rfl,ru,rv⟩:=hu;have hL5:=hL4.gb g5 Ae;obtain⟨el_0,el_1,el_2,el_3,el_4,el_5,el_6,el_f⟩:=(hL5).c7;have HU:=Z (Ac g5 (Ac ru rv));clear g5 ru rv));all_goals
    have iH{P}(h:P:=by have eA{P}(h:P:=by have HS:=Z (IB hK7.rr [[43],[45]] Ad Ad W.heap.size rfl 2 rfl);exact Y6):=Aa h;exact XT):=Aa h;exact ZN):=Aa h
   exact Fq):=Aa h;exact Lv):=Aa h
 exact QP):=Aa h;exact Io):=Aa h;exact Ng):=Aa h;exact D5):=Aa h;exact Np
theorem xA{opnd:FR Ex}(hop:CR 214 b tv l opnd)(n:Nat):CR 177 b tv l (DE l Xr n opnd):=by
 show CR 177 b tv l (DE l [[42],[47],[37]] n opnd);have NS{P}(h:P:=by
 have DA{P}(h:P:=by
 have NJ{P}(h:P:=by
 go_enter func177,ntmps177;have Ix{P}(h:P:=by
 have hK:=KpR.new hb H.out.2.2.1 H.out.2.2.2.1 H.out.2.2.2.2 g1 rp rl h1;have hb1:=h1.lt;have HS:=Z (IB hK.rr [[42],[47],[37]] Ad Ad (w1.heap.size+1) Ae 3 rfl);have HK:=Z hK;clear rp rl h1 HX g1 hK;have RM{P}(h:P:=by
 clear HS HK g2 h2;go_wp2_with fail;go_loopg [4] n (fun m v4 wr=>∃x pa pc la lc st,v4=str (A9 l [[42],[47],[37]] st)∧KpR b tv l w w1.heap.size wr x pa pc la lc (AJ l [[42],[47],[37]] st).2∧CM l [[42],[47],[37]] opnd m x st=some r)
 case atStart=>exact⟨x,pa,pc,la,lc,st1,rfl,HK2.out,H.out.2.1⟩
 case round=>
  obtain⟨x,pa,pc,la,lc,st2,rfl,hk,hloop⟩:=hrel;clear HK2;cases gk with
  |zero=>cases hloop
  |succ m=>
  rw[CM]at hloop;generalize hso:A9 l [[42],[47],[37]] st2=o at*;by_cases he:o=[]
  ·subst he;have HQ:=Z (show some (x,(AJ l [[42],[47],[37]] st2).2)=some r from hloop);exact bA
  ·have hs0:(o==[])=false:=by simpa using he
   have hs2:o.isEmpty=false:=D3;rw[hs2]at hloop;have hq:(opnd (AJ l [[42],[47],[37]] st2).2).bind (fun r=>CM l [[42],[47],[37]] opnd m (AH o x r.1) r.2)=some r:=hloop;have LE{P}(h:P:=by
   have hL:=hk.blk;have hwL:=hk.wL;have hbL:=hk.bL;have HK2:=Z hk;clear hloop hk hq hy hs2 he hso;have Fx{P}(h:P:=by
   have hLb:=hL.lt;go_wp2_with fail;go_region_with(first| (go_at_call 214;refine(H.out.1 _ _ _ (HK2.out.rr.drewN 1) HY.out).mono ?_;rintro e w4 ⟨g4,v,rfl,hv,h4⟩;have hk4:=HK2.out.gb hb (Ah (An (Aj wr (some b))) g4) h4;have hL4:=hk4.blk;obtain⟨dl_0,dl_1,dl_2,dl_3,dl_4,dl_5,dl_6,dl_f⟩:=(hL4).c7;have hok:∀q,w4.heap.size≤q→but w w1.heap.size q:=(fun q hq=>by have:=hL4.lt;exact⟨by omega,by omega⟩);have hz:VE (but w w1.heap.size) w4 v z:=hv.mono (fun q hq _=>by have hq:wr.heap.size≤q:=hq;exact⟨by omega,by omega⟩);have HZ4:=Z (Ac hk4 (Ac hok hz));clear hk4 hok hz hv h4)| (go_at_call 62;refine(IF o x z _ _ HZ4.out.2.1 HZ4.out.1.ve HZ4.out.2.2).mono ?_;rintro e w5 ⟨u,rfl,hu,g5⟩;obtain⟨ua,uc,va,vc,rfl,ru,rv⟩:=hu;have hL5:=hL4.gb g5 Ae;obtain⟨el_0,el_1,el_2,el_3,el_4,el_5,el_6,el_f⟩:=(hL5).c7;have HU:=Z (Ac g5 (Ac ru rv));clear g5 ru rv));all_goals
    have iH{P}(h:P:=by have eA{P}(h:P:=by have HS:=Z (IB hK7.rr [[42],[47],[37]] Ad Ad W.heap.size rfl 3 rfl);exact Y6):=Aa h;exact XT):=Aa h;exact ZN):=Aa h
   exact Fq):=Aa h;exact Lv):=Aa h
 exact QP):=Aa h;exact Io):=Aa h;exact Ng):=Aa h;exact D5):=Aa h;exact Np
end
end Go.Proofs.YtmcajbhljbbglaaGreatDoor
