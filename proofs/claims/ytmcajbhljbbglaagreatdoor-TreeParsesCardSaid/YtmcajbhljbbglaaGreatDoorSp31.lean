/-
  The reference's reader of statements: stands, word, must, first. The reference's reader of statements: some; how the words read as the grammar has them. The reference's reader of statements: a stateme
-/
import Derived.Test.YtmcajbhljbbglaaGreatDoorSpF
import Derived.Test.YtmcajbhljbbglaaGreatDoorSp29
import Derived.Test.YtmcajbhljbbglaaGreatDoorSp07
import Derived.Test.YtmcajbhljbbglaaGreatDoorSp25
import Derived.Test.YtmcajbhljbbglaaGreatDoorSp14
import Derived.Test.YtmcajbhljbbglaaGreatDoorSp27
set_option linter.all false
set_option maxRecDepth 100000
set_option maxHeartbeats 8000000
namespace Go.Proofs.YtmcajbhljbbglaaGreatDoor
open Tryz
open Go.RowKit
theorem Wt{s:Bs}(h:s.all F1=true):Lib.toUpperA s=s:=by
 have hall:∀n:Fin 256,F1 (UInt8.ofNat n.val)=true→Lib.upperB (UInt8.ofNat n.val)=UInt8.ofNat n.val:=En;have h1:∀b:UInt8,F1 b=true→Lib.upperB b=b:=fun b hb=>by
  have:=hall ⟨b.toNat,b.toNat_lt⟩;simp only[show UInt8.ofNat b.toNat=b by simp]at this;exact this hb
 unfold Lib.toUpperA;rw[List.all_eq_true]at h;exact(List.map_congr_left fun b hb=>h1 b (h b hb)).trans (List.map_id s)
section
variable {w:World}{b:Nat}{tv:Value}{l:List Tok}{st:RS}
theorem Hk(h:Rr w b tv l st)(hok:∀i,At (Af l i))(k:Nat)(hk2:k≤4):
 Calls Tryz.prog 71 #[.pointer (some ⟨b,0,none⟩),.int .i64 k] w fun e w'=>e= .returned (str (Av l wordsL (st.1+k)))∧w.grownBy w' none:=by
 have HT:=Z (Mb h k hk2);have hO:=hok (st.1+k);unfold Av;generalize Af l (st.1+k)=t at*;clear h hok;by_cases hk:t.kind=0
 ·have hk':(t.kind==0)=true:=by simpa using hk
  have HU:=Z (fun(W:World)(wv:Value)(ok:Nat→Prop)(hS:SRow W wv wordsL ok)=>wW hS t.text hO.short (Wt (hO.word hk).2) Ad Ad);rw[hk',if_pos rfl];clear hO hk';have HWd:=Z (fun(W:World)=>mA W);generalize hwl:wordsL=L at*;clear hwl;go_enter func71,ntmps71;have GA{P}(h:P:=by
  rw[AG,hk];have hTk:=Blk.new w1 [.int .i64 0,.int .i64 t.pos,str t.text] 89;have gK:=Ah g1 (World.grownBy_alloc w1 (.cells #[.int .i64 0,.int .i64 t.pos,str t.text] 89 (0,0)) none);generalize hW:w1.alloc (.cells #[.int .i64 0,.int .i64 t.pos,str t.text] 89 (0,0))=W at*;have d0:=hTk.cell 0;have d2:=hTk.cell 2;have hlT:=hTk.lt;simp only[List.getElem?_cons_zero,List.getElem?_cons_succ]at d0 d2;have HG:=Z gK;have HD:=Z d2;clear hTk gK g1;go_wp2_with fail;go_region_with(first
   | (go_at_call 21;refine(HWd.out _).mono ?_;rintro e w5 ⟨wv,rfl,hS,g5⟩;(obtain⟨sa,sc,rfl,_⟩:=id hS);(have c5:=Am g5 HD.out);(have HS:=Z hS);clear hS)
   | (go_at_call 104;refine(HU.out _ _ _ HS.out).mono ?_;rintro e w6 ⟨⟨f,rfl,hf⟩,g6⟩;(have HF:=Z hf);clear hf))
  all_goals
   have HE:=Z (Ah (Ah (An HG.out) g5) g6);clear g5 g6;cases f with
   | true=>
     go_wp2;go_ret;exact⟨rfl,HE.out⟩
   | false=>
     go_wp2;go_ret;exact⟨by rw[HF.out rfl];rfl,HE.out⟩):=Aa h
  exact Gy
 ·have hk':(t.kind==0)=false:=by simpa using hk
  have hk1:(t.kind !=0)=true:=by simp[hk]
  clear hO;rw[hk',if_neg Ae];go_enter func71,ntmps71;have GA{P}(h:P:=by rw[AG];have hTk:=Blk.new w1 [.int .i64 t.kind,.int .i64 t.pos,str t.text] 89;have gK:=Ah g1 (World.grownBy_alloc w1 (.cells #[.int .i64 t.kind,.int .i64 t.pos,str t.text] 89 (0,0)) none);have LF{P}(h:P:=by have hlT:=hTk.lt;simp only[List.getElem?_cons_zero,List.getElem?_cons_succ]at d0;have HG:=Z gK;clear hTk gK g1;go_wp2;go_ret;exact⟨rfl,HG.out⟩):=Aa h;exact Lw):=Aa h;exact Gy
def B4(l:List Tok)(W:List Bs)(w:Bs)(st:RS):Bool×RS:=if !st.2&&Av l W st.1==w then(true,(st.1+1,st.2))else(false,st)
theorem Ef(h:Rr w b tv l st)(hok:∀i,At (Af l i))(s:Bs)(hs:s≠[]):
 Calls Tryz.prog 228 #[.pointer (some ⟨b,0,none⟩),str s] w (AM b tv l w VB (B4 l wordsL s st)):=by
 obtain⟨i,f⟩:=st;have c2:=h.c2;have hf:=h.few;simp only at c2;cases f with
 | true=>
   go_enter func228,ntmps228;go_wp2;go_ret;exact⟨Aj _ _,_,rfl,rfl,h⟩
 | false=>
   have HS:=Z (Hk h hok 0 Ab);by_cases hw:Av l wordsL i=s
   ·have hi : i < l.length := by
     apply GK;intro e;apply hs;rw[←hw];unfold Av;rw[e];rfl
    have HQ:=Z (show B4 l wordsL s (i,false)=(true,(i+1,false))by simp[B4,hw]);have HK:=Z hw;have hb:(s !=s)=false:=Ae;clear hw;go_enter func228,ntmps228;have Iy{P}(h:P:=by rw[Nat.add_zero,HK.out];have h1:=h.gbN g1;have c1:=h1.c1;have f1:=h1.fr 1;simp only at c1;go_wp2;go_ret;refine⟨gw,_,rfl,by rw[HQ.out];rfl,?_⟩;rw[HQ.out];exact h1.go _ (i+1) rfl Ab):=Aa h;exact Ip
   ·have HQ:=Z (show B4 l wordsL s (i,false)=(false,(i,false))by simp[B4,hw]);have hb:(Av l wordsL i !=s)=true:=GV;have hb1:(Av l wordsL i==s)=false:=GV;clear hw;go_enter func228,ntmps228;have Iy{P}(h:P:=by rw[Nat.add_zero];go_wp2;go_ret;refine⟨gw,_,rfl,by rw[HQ.out];rfl,?_⟩;rw[HQ.out];exact h.gbN g1):=Aa h;exact Ip
def DP(l:List Tok)(W:List Bs)(w:Bs)(st:RS):RS:=if(B4 l W w st).1 then(B4 l W w st).2 else((B4 l W w st).2.1,true)
theorem C5(h:Rr w b tv l st)(hok:∀i,At (Af l i))(s:Bs)(hs:s≠[]):
 Calls Tryz.prog 229 #[.pointer (some ⟨b,0,none⟩),str s] w (AM b tv l w VU ((),DP l wordsL s st)):=by
 have HW:=Z (Ef h hok s hs);unfold DP;generalize B4 l wordsL s st=r at*;obtain⟨ok,st2⟩:=r;cases ok with
 | true=>
   simp only[if_true];go_enter func229,ntmps229;go_wp2_with fail;refine HW.out.mono ?_;rintro e w1 ⟨g1,v,rfl,rfl,h1⟩;exact LM
 | false=>
   simp only[Bool.false_eq_true,if_false];go_enter func229,ntmps229;go_wp2_with fail;refine HW.out.mono ?_;rintro e w1 ⟨g1,v,rfl,rfl,h1⟩;go_wp2_with fail;refine(Ga h1).mono ?_;rintro e w2 ⟨g2,v,rfl,rfl,h2⟩;go_wp2;go_end0;exact⟨Ah g1 g2,_,rfl,rfl,h2⟩
theorem LW(h:Rr w b tv l st)(hok:∀i,At (Af l i)):
 Calls Tryz.prog 102 #[.pointer (some ⟨b,0,none⟩)] w fun e w'=>e= .returned (str (AR l wordsL st.1))∧w.grownBy w' none:=by
 have H1:=Z (fun(W:World)(g:w.grownBy W none)(s:Bs)=>Jj (h.gbN g) 1 Ab s);have H0:=Z (fun(W:World)(g:w.grownBy W none)=>Hk (h.gbN g) hok 0 Ab);clear h hok;generalize hK:AR l wordsL st.1=K;unfold AR at hK;have HK:=Z hK;clear hK;cases h1:Ak (Af l (st.1+1)) [61]with
 | true=>
   have HF:=Z (show K=[]by rw[←HK.out,h1];rfl);have HS:=Z h1;clear h1;go_enter func102,ntmps102;go_wp2_with fail;refine(H1.out _ (Aj _ _) [61]).mono ?_;rintro e w1 ⟨rfl,g1⟩;rw[HS.out];go_wp2;go_ret;exact⟨by rw[HF.out];rfl,g1⟩
 | false=>
   have HS1:=Z h1;cases h2:Ak (Af l (st.1+1)) [58,61]with
   | true=>
     have HF:=Z (show K=[]by rw[←HK.out,h1,h2];rfl);have HS2:=Z h2;clear h1 h2;have jB{P}(h:P:=by go_wp2;go_ret;exact⟨by rw[HF.out];rfl,Ah g1 g2⟩):=Aa h;exact aO
   | false=>
     have HS2:=Z h2;cases h3:Ak (Af l (st.1+1)) [91]with
     | true=>
       have HF:=Z (show K=[]by rw[←HK.out,h1,h2,h3];rfl);have HS3:=Z h3;clear h1 h2 h3;have R7{P}(h:P:=by go_wp2;go_ret;exact⟨by rw[HF.out];rfl,Ah ga g3⟩):=Aa h;exact Q3
     | false=>
       have HS3:=Z h3;cases h4:Ak (Af l (st.1+1)) [45,62]with
       | true=>
         have HF:=Z (show K=[]by rw[←HK.out,h1,h2,h3,h4];rfl);have HS4:=Z h4;clear h1 h2 h3 h4;have R7{P}(h:P:=by have dS{P}(h:P:=by go_wp2;go_ret;exact⟨by rw[HF.out];rfl,Ah gc g4⟩):=Aa h;exact TM):=Aa h;exact Q3
       | false=>
         have HF:=Z (show K=Av l wordsL st.1 by rw[←HK.out,h1,h2,h3,h4];rfl);have HS4:=Z h4;clear h1 h2 h3 h4;have R7{P}(h:P:=by have dS{P}(h:P:=by have gd:=Ah gc g4;go_wp2_with fail;refine(H0.out _ gd).mono ?_;rintro e w5 ⟨rfl,g5⟩;go_wp2;go_ret;exact⟨by rw[HF.out];rfl,Ah gd g5⟩):=Aa h;exact TM):=Aa h;exact Q3
end
theorem must_g{l:List Tok}(W:List Bs)(w:Bs)(st:RS):(Rd.must W w:Rd l Unit).g st=some ((),DP l W w st):=by
 obtain⟨i,f⟩:=st;show(if !f&&Av l W i==w then(some ((),BT (i,f)):OR Unit)else some ((),(i,true)))=_;unfold DP B4 BT;cases f with
 |true=>rfl
 | false=>
   cases h:Av l W i==w with
   |true=>simp[h]
   |false=>simp[h]
theorem FF{l:List Tok}{α:Type}(W:List Bs)(w:Bs)(p q:Rd l α)(st:RS):(Rd.ifw W w p q).g st=if(B4 l W w st).1 then p.g (B4 l W w st).2 else q.g (B4 l W w st).2:=by
 obtain⟨i,f⟩:=st;show(if !f&&Av l W i==w then p.g (BT (i,f))else q.g (i,f))=_;unfold B4 BT;cases f with
 |true=>rfl
 | false=>
   cases h:Av l W i==w with
   |true=>simp[h]
   |false=>simp[h]
def PZ(l:List Tok)(E:FR Ex):FR Fo:=fun st=>if st.2||(Af l st.1).kind==5 then some (.nil,st)else(E st).bind fun q=>some (.one q.1,q.2)
theorem PW{l:List Tok}(hn:Al l)(day:Bs→Int)(n:Nat):(GO hn day n).g=PZ l (AN l day n):=rfl
section
variable {w:World}{b:Nat}{tv:Value}{l:List Tok}{st:RS}
theorem Vy{E:FR Ex}(hE:CR 28 b tv l E)(h:Rr w b tv l st){r:Fo×RS}(ho:PZ l E st=some r):
 Calls Tryz.prog 190 #[.pointer (some ⟨b,0,none⟩)] w (AM b tv l w (VFo w) r):=by
 obtain⟨i,f⟩:=st;have c2:=h.c2;have hb:=h.lt;simp only at c2;unfold PZ at ho;cases f with
 | true=>
   have hq:some (Fo.nil,((i,true):RS))=some r:=ho;cases hq;clear ho;go_enter func190,ntmps190;go_wp2;go_ret;exact⟨Aj _ _,_,rfl,⟨none,0,rfl,RepL.nil _ _⟩,h⟩
 | false=>
   have HT:=Z (ED h);simp only[Bool.false_or]at ho;cases hk:(Af l i).kind==5 with
   | true=>
     rw[hk]at ho;have hq:some (Fo.nil,((i,false):RS))=some r:=ho;cases hq;have hk5:(Af l i).kind=5:=BE;clear ho hk;simp only at HT;go_enter func190,ntmps190;have GA{P}(h:P:=by rw[AG,hk5];have HE:=Z (Ac g1 (h.gbN g1));clear g1;go_wp2;go_ret;exact⟨AY HE.out.1,_,rfl,⟨none,0,rfl,RepL.nil _ _⟩,HE.out.2⟩):=Aa h;exact Gy
   | false=>
     rw[hk,if_neg Ae]at ho;obtain⟨⟨x,st1⟩,hx,hq⟩:=Option.bind_eq_some_iff.1 ho;simp only at hq;cases hq;have HX:=Z (Ac hE hx);clear ho hE hx;simp only at HT;go_enter func190,ntmps190;have GA{P}(h:P:=by rw[AG];have h1:=h.gbN g1;have hs1:=g1.size;have HC:=Z (HX.out.1 _ _ _ h1 HX.out.2);have G1:=Z g1;clear g1 h1;go_wp2_with fail;refine HC.out.mono ?_;rintro e w2 ⟨g2,v,rfl,⟨pa,pc,la,lc,rfl,rp,rl⟩,h2⟩;simp only at rp rl h2 ⊢;have hs2:=g2.size;have HE:=Z (Ac g2 (Ac rp (Ac rl h2)));clear g2 rp rl h2 HC;go_wp2;go_ret;refine⟨Ar (Ah (AY G1.out) HE.out.1) _,_,rfl,⟨_,_,rfl,?_⟩,HE.out.2.2.2.alloc _⟩;exact RepL.one (x:=x) rfl (by show w.heap.size≤w2.heap.size;omega) (HE.out.2.1.mono (fun q hq _=>by have:w1.heap.size≤q:=hq;show w.heap.size≤q;omega)) (HE.out.2.2.1.mono (fun q hq _=>by have:w1.heap.size≤q:=hq;show w.heap.size≤q;omega))):=Aa h;exact Gy
end
def StV(ok:Nat→Prop)(w:World)(v:Value)(r:StB):Prop:=∃pa xa na fa wa ba,∃pc xc nc fc wc bc,
 v= .agg (sdC r.1 (.slice pa r.1.p.length pc) (.slice xa r.1.x.len xc) (.slice ba r.2.len bc) (.slice na r.1.n.len nc) (.slice fa r.1.f.len fc) (.slice wa r.1.w.len wc)).toArray∧
 SdRep ok w r.1 pa xa na fa wa pc xc nc fc wc∧RepV ok w true (.slice ba r.2.len bc) r.2
theorem StV.gb{w w1:World}{ok:Nat→Prop}{v:Value}{s:StB}{r:Option Nat}(h:StV ok w v s)(g:w.grownBy w1 r)(hk:∀k,ok k→k<w.heap.size→some k≠r):StV ok w1 v s:=by
 obtain⟨pa,xa,na,fa,wa,ba,pc,xc,nc,fc,wc,bc,e,h1,h2⟩:=h;exact⟨pa,xa,na,fa,wa,ba,pc,xc,nc,fc,wc,bc,e,h1.gb g hk,h2.gb g hk⟩
theorem RepV.nil(ok:Nat→Prop)(w:World)(k:Bool):RepV ok w k (.slice none 0 0) .nil:=⟨[],Cells.nil _ _ _,rfl⟩
theorem StV.x{ok:Nat→Prop}{w:World}{op:Int}{s:Bs}{f:Fo}{xa:Option Addr}{xc:Nat}(h:RepL ok w (.slice xa f.len xc) f):
 StV ok w (.agg #[.int .i64 op,str s,str [],.slice none 0 0,.slice xa f.len xc,.slice none 0 0,.int .i64 0,.slice none 0 0,.slice none 0 0,.slice none 0 0]) ({sd0 op s with x:=f},.nil):=
 ⟨none,xa,none,none,none,none,0,xc,0,0,0,0,rfl,⟨Cells.nil _ _ _,h,RepL.nil _ _,RepL.nil _ _,RepL.nil _ _⟩,RepV.nil _ _ _⟩
def SPost(b B:Nat)(tv:Value)(l:List Tok)(w:World)(r:StB×RS)(e:Ending)(w':World):Prop:=AM b tv l w (fun w' v x=>StV (Ap B) w' v x) r e w'
def eqR(l:List Tok)(st:RS):RS:=if A2 l [61] st then Aq l [61] st else AZ l [58,61] (Aq l [61] st)
def setR(l:List Tok)(E:FR Ex)(t:Ex):FR StB:=fun st=>(E (eqR l st)).bind fun q=>some (({sd0 0 []with x:= .two t q.1},.nil),Fi l q.2)
theorem MC{l:List Tok}(hn:Al l)(day:Bs→Int)(n:Nat)(t:Ex):(setP hn day n t).g=setR l (AN l day n) t:=by
 funext st;show((if A2 l [61] st then some ((),Aq l [61] st)else some ((),AZ l [58,61] (Aq l [61] st)):OR Unit).bind _)=_;unfold setR eqR;cases A2 l [61] st with
 |true=>rfl
 |false=>rfl
section
variable {w:World}{b:Nat}{tv:Value}{l:List Tok}{st:RS}
theorem Mx{E:FR Ex}(hE:CR 28 b tv l E)(h:Rr w b tv l st){B:Nat}(hB:b<B)(hBw:B≤w.heap.size){u:Value}{t:Ex}(ht:VE (Ap B) w u t){r:StB×RS}(ho:setR l E t st=some r):
 Calls Tryz.prog 138 #[.pointer (some ⟨b,0,none⟩),u] w (SPost b B tv l w r):=by
 have hb:=h.lt;obtain⟨⟨x,st1⟩,hx,hq⟩:=Option.bind_eq_some_iff.1 ho;simp only at hq;cases hq;obtain⟨pa,pc,la,lc,rfl,tp,tl⟩:=ht;have gA:=Ar (World.grownBy_alloc w (.cells (hdC t.h (.slice pa t.h.p.length pc) (.slice la t.kids.len lc)).toArray 29 (0,0)) (some b)) (.cells (stC 0 (.slice none 0 0)).toArray 50 (0,0));have h0:=(h.alloc (.cells (hdC t.h (.slice pa t.h.p.length pc) (.slice la t.kids.len lc)).toArray 29 (0,0))).alloc (.cells (stC 0 (.slice none 0 0)).toArray 50 (0,0));have hT0:=(Blk.new w (hdC t.h (.slice pa t.h.p.length pc) (.slice la t.kids.len lc)) 29).alloc (.cells (stC 0 (.slice none 0 0)).toArray 50 (0,0));have hS0:Blk ((w.alloc (.cells (hdC t.h (.slice pa t.h.p.length pc) (.slice la t.kids.len lc)).toArray 29 (0,0))).alloc (.cells (stC 0 (.slice none 0 0)).toArray 50 (0,0))) (w.heap.size+1) (stC 0 (.slice none 0 0)) 50:=(Blk.new (w.alloc (.cells (hdC t.h (.slice pa t.h.p.length pc) (.slice la t.kids.len lc)).toArray 29 (0,0))) (stC 0 (.slice none 0 0)) 50).of_eq Ae rfl;have HT:=Z (B9 h0 [61]);have H0:=Z (Ac hT0 (Ac hS0 gA));have HX:=Z (Ac hE hx);have HP:=Z (Ac tp tl);clear ho h0 hT0 hS0 gA hE hx tp tl;cases hs:A2 l [61] st with
 | true=>
   rw[hs]at HT;have e1:eqR l st=Aq l [61] st:=by unfold eqR;rw[hs];rfl
   go_enter func138,ntmps138;have Dk{P}(h:P:=by rw[←e1]at h2;have hT2:=H0.out.1.gb g2 Ag;have hS2:=H0.out.2.1.gb g2 Ag;have G2:=Ah H0.out.2.2 g2;clear g2;exact Ya):=Aa h;exact Dh
 | false=>
   rw[hs]at HT;have e1:eqR l st=AZ l [58,61] (Aq l [61] st):=by unfold eqR;rw[hs];rfl
   go_enter func138,ntmps138;have Hc{P}(h:P:=by have hb1:=h1.lt;go_wp2_with fail;refine(E8 h1 [58,61]).mono ?_;rintro e w2 ⟨g2,v,rfl,rfl,h2⟩;simp only at h2;rw[←e1]at h2;have hT2:=(H0.out.1.gb g1 Ag).gb g2 Ag;have hS2:=(H0.out.2.1.gb g1 Ag).gb g2 Ag;have G2:=Ah H0.out.2.2 (Ah g1 g2);clear g1 g2 h1;exact Ya):=Aa h;exact GY
end
end Go.Proofs.YtmcajbhljbbglaaGreatDoor
