/-
  LexH LexI LexJ LexK LexL
-/
import Derived.Test.YtbjfaimkiclhgaaGreatDoorCr06
import Derived.Deep.DeepCutAuto
import Derived.RangeFuncNested
import Derived.RangeFuncBound
import Derived.RangeFuncCalls
import Derived.RangeFuncLeaves
import Derived.RangeFuncBox
import Derived.Shelf.Abstract
import Derived.OwnWalkIn
import Derived.TacticsInMore
import Derived.LoopNIn
import Derived.LoopIn
import Derived.Maps.AppendAt
import Derived.Test.YtbjfaimkiclhgaaGreatDoorCr03
set_option linter.all false
set_option maxRecDepth 100000
set_option maxHeartbeats 8000000
namespace Go.Proofs.YtbjfaimkiclhgaaGreatDoor
open Go.Proofs.Tryz
open Go.RowKit
variable{w w' w1:World}{b i n j k:Nat}{s:Bs}{r ok line begun l:Bool}{t:Tok}{bad:Int}{F:Fence}{P:Program}{Q:Exit->Act->World->Prop}
def Vm(h:Sc w b s i true true (-1))(ht:Tabs b w)(hi:i<s.length)(hn1:cls 1 (bAt s i)=false)(hc:cls 2 (bAt s i)=true):
 Calls Tryz.prog 266 #[.pointer (some ⟨b,0,none⟩)] w (TokPost w b s (BQ s i)):=by
 have hb:=h.lt;have hf:=h.few;have c1:=h.c1;have g0:w.grownBy ((w.alloc (.cells #[.int .i64 0,.int .i64 0,str []] 250 (0,0))).alloc (.cells #[.int .i64 0,.int .i64 i,str []] 250 (0,0))) none:=Ac (gZ w _ none) _;have hA:TkRel w b s i i ((w.alloc (.cells #[.int .i64 0,.int .i64 0,str []] 250 (0,0))).alloc (.cells #[.int .i64 0,.int .i64 i,str []] 250 (0,0))):=
  ⟨h.gbN g0,(Blk.new _ [.int .i64 0,.int .i64 i,str []] _).of_eq (by simp) rfl,(Blk.new _ [.int .i64 0,.int .i64 0,str []] _).alloc _,Ao g0,ht.gbN g0⟩
 clear h ht g0;have hr1:Ar s (cls 2) i<=s.length:=CK (by omega);have hr2:i<=Ar s (cls 2) i:=BJ _ _ _;have HT:=S (show BQ s i=if 15<Ar s (cls 2) i-i then .bad i else .tok ⟨1,i,A6 s i (Ar s (cls 2) i)⟩ (Ar s (cls 2) i) true from(if_neg (by rw[hn1];simp)).trans (if_pos hc));have HC:=S (X hn1 hc);clear hc hn1;go_enter func266,ntmps266;go_wp2_with fail;refine mR (Cw hA.sc i 1 (r:=false) (by simp[HC.1.1])) λw1 g1=>?_;have hA1:=hA.gbN g1;clear hA g1;go_wp2_with fail;refine(Cw hA1.sc i 2 (r:=true) (by simp[hi,HC.1.2])).mono ?_;rintro e w1' ⟨rfl,g1⟩;have hA2:=hA1.gbN g1;clear hA1 g1;go_wp2_with fail;go_loopg [] (Ar s (cls 2) i-i) (λg wr=>∃k:Nat,k+g=Ar s (cls 2) i/\i<=k/\TkRel w b s i k wr)
 case atStart=>exact⟨i,by omega,nR _,hA2⟩
 case round=>
  obtain⟨k,hk,hik,hr⟩:=hrel;clear hA2 c1;have c1:=hr.sc.c1;have hb1:=hr.sc.lt;cases gk with
  | zero=>
    have hke:k=Ar s (cls 2) i:=by omega
    have hstop:(decide (k<s.length)&&cls 2 (bAt s k))=false:=by
     by_cases hkl:k<s.length
     ·have:=Lo (s:=s) (p:=cls 2) (i:=i) (by omega);rw[<-hke]at this;simp[this]
     ·simp[hkl]
    have HS:=S hstop;rw[<-hke]at HT hr1 hr2;have hx:=Cf s i k;rw[show(s.drop i).take (k-i)=A6 s i k from rfl]at hx;have HX:=S hx;have HL:=S (show(A6 s i k).length=k-i from Fh hik (by omega));generalize A6 s i k=T at*;clear hx hstop hke hk;go_wp2_with fail;refine mR (Cw hr.sc k 2 (r:=false) HS.1) λw3 g3=>?_;have hq3:=hr.gbN g3;have e0:=hq3.sc.c0;have e1:=hq3.sc.c1;have t0:=hq3.tok.cell' 0 rfl;have t1:=hq3.tok.cell' 1 rfl;have t2:=hq3.tok.cell' 2 rfl;have tf:=λk=>hq3.tok.frozen k;have tl:=hq3.tok.lt;have hkI:decide ((k:Int)<=s.length)=true:=by simp;omega
    have hkI2:decide (i<=k)=true:=by simp;omega
    have hq:=S hq3;clear hq3 hr g3;go_wp2_with fail;go_region;rw[HX.1];all_goals
     refine Ms (λW=>TkEnd w b s i k 1 T W) ?_ ?_
     ·exact⟨((hq.1.sc.drewN 1).set_other _ _ (by simp;omega)).set_other _ _ (by simp;omega),(((hq.1.tok.drewN 1).set 0 (.int .i64 1)).set 2 (str T)).of_eq rfl rfl,((hq.1.res.drewN 1).set_other _ _ (by simp)).set_other _ _ (by simp),Af (Af (Ad hq.1.g) _ _ (.inr (by simp))) _ _ (.inr (by simp))⟩
     intro W hW;have a0:=hW.tok.cell' 0 rfl;have a1:=hW.tok.cell' 1 rfl;have a2:=hW.tok.cell' 2 rfl;have HW:=S hW;have HS:=S (fun(W':World)(g:W.grownBy W' none)=>Nm (hW.gbN g).sc ⟨1,i,T⟩ 15);have hWs:=hW.g.size;have hWl:=hW.tok.lt;clear hW;by_cases hm:15<T.length
     ·have HM:=S (show BQ s i= .bad i by rw[HT.1,<-HL.1,if_pos hm]);have HP:=S hm;clear hm;go_wp2_with fail;go_region_with(first| (go_at_call 292;refine(HS.1 _ ?gg).mono ?_;(case gg=>exact(Ad (Aa _ _)));intro e w8 hp8;obtain⟨g8,hp9⟩:=hp8;rw[if_pos HP.1]at hp9;obtain⟨rfl,h8⟩:=hp9;(have hr8:=(HW.1.res.drewN 1).gb g8 (by simp;omega));(have ht8:=(HW.1.tok.drewN 1).gb g8 (by simp;omega));(have r0:=hr8.cell' 0 rfl);(have r1:=hr8.cell' 1 rfl);(have r2:=hr8.cell' 2 rfl);(have rf:=λk=>hr8.frozen k);(have rl:=hr8.lt);(have b0:=ht8.cell' 0 rfl);(have b1:=ht8.cell' 1 rfl);(have b2:=ht8.cell' 2 rfl)));all_goals
       go_wp2;refine bZ (Ce (t:=⟨1,i,T⟩) (r:=false) rfl _ (hr8.set3 _ _ _) rfl rfl) rfl ⟨?_,?_⟩
       ·have g:=Z (Ad HW.1.g) g8;exact(Af (Af (Af (by assumption) _ _ (.inr (nR _))) _ _ (.inr (nR _))) _ _ (.inr (nR _)))
       ·rw[HM.1];exact⟨⟨_,rfl⟩,k,true,(by repeat(first| (with_reducible assumption)| (with_reducible apply Sc.set_other)| (simp<;>omega)))⟩
     ·have HM:=S (show BQ s i= .tok ⟨1,i,T⟩ k true by rw[HT.1,<-HL.1,if_neg hm]);have HP:=S hm;clear hm;go_wp2_with fail;go_region_with(first| (go_at_call 292;refine(HS.1 _ ?gg).mono ?_;(case gg=>exact(Ad (Aa _ _)));intro e w8 hp8;obtain⟨g8,hp9⟩:=hp8;rw[if_neg HP.1]at hp9;obtain⟨rfl,h8⟩:=hp9;(have hr8:=(HW.1.res.drewN 1).gb g8 (by simp;omega));(have ht8:=(HW.1.tok.drewN 1).gb g8 (by simp;omega));(have r0:=hr8.cell' 0 rfl);(have r1:=hr8.cell' 1 rfl);(have r2:=hr8.cell' 2 rfl);(have rf:=λk=>hr8.frozen k);(have rl:=hr8.lt);(have b0:=ht8.cell' 0 rfl);(have b1:=ht8.cell' 1 rfl);(have b2:=ht8.cell' 2 rfl)));all_goals
       go_wp2;refine bZ (Ce (t:=⟨1,i,T⟩) (r:=true) rfl _ (hr8.set3 _ _ _) rfl rfl) rfl ⟨?_,?_⟩
       ·have g:=Z (Ad HW.1.g) g8;exact(Af (Af (Af (by assumption) _ _ (.inr (nR _))) _ _ (.inr (nR _))) _ _ (.inr (nR _)))
       ·rw[HM.1];exact⟨rfl,(by repeat(first| (with_reducible assumption)| (with_reducible apply Sc.set_other)| (simp<;>omega)))⟩
  | succ gk=>
    have h10:=Jh hik (by omega:k<Ar s (cls 2) i);have hkl:=h10.1;have HW:=S h10.2;clear h10;go_wp2_with fail;refine mR (Cw hr.sc k 2 (r:=true) (by simp[hkl,HW.1])) λw2 g2=>?_;have hr2':=hr.gbN g2;have d1:=hr2'.sc.c1;have f1:=hr2'.sc.fr 1;go_wp2;go_roundg gk
    case measure=>omega
    case rel=>exact⟨k+1,by omega,by omega,hr2'.go hb hkl⟩
def TokFin(b:Nat)(s:Bs)(r:St)(t:Tok)(ok:Bool)(w:World):Prop:=match r with
 | .tok t' j l=>t=t'/\ok=true/\Sc w b s j l l (-1)
 | .bad k=>ok=false/\∃j l,Sc w b s j l l k
 |_=>False
def TokPost.fin{r:St}{e:Ending}(h:TokPost w b s r e w'):w.grownBy w' (some b)/\∃t ok,e= .returned (.tuple #[AR t,.bool ok])/\TokFin b s r t ok w':=by
 obtain⟨g,h⟩:=h;refine⟨g,?_⟩;cases r with
 |tok t j l=>exact⟨t,true,h.1,rfl,rfl,h.2⟩
 |bad k=>obtain⟨⟨t,e⟩,hs⟩:=h;exact⟨t,false,e,rfl,hs⟩
 |again j l=>exact h.elim
 |stop=>exact h.elim
def TokFin.post{r:St}(h:TokFin b s r t ok w')(g:w.grownBy w' (some b)):TokPost w b s r (.returned (.tuple #[AR t,.bool ok])) w':=by
 refine⟨g,?_⟩;cases r with
 |tok t' j l=>obtain⟨rfl,rfl,hs⟩:=h;exact⟨rfl,hs⟩
 |bad k=>obtain⟨rfl,hs⟩:=h;exact⟨⟨t,rfl⟩,hs⟩
 |again j l=>exact h.elim
 |stop=>exact h.elim
def TokFin.set_other{r:St}(h:TokFin b s r t ok w)(a:Addr)(v:Value)(hne:b≠a.block):TokFin b s r t ok (w.setCell a v):=by
 cases r with
 |tok t' j l=>obtain⟨h1,h2,hs⟩:=h;exact⟨h1,h2,hs.set_other a v hne⟩
 |bad k=>obtain⟨h1,j,l,hs⟩:=h;exact⟨h1,j,l,hs.set_other a v hne⟩
 |again j l=>exact h.elim
 |stop=>exact h.elim
def E8{a:UInt8}(hn:n<256)(h:(a==UInt8.ofNat n)=r):((a.toNat:Int)==(n:Int))=r:=by
 subst h;rw[Bool.eq_iff_iff];simp only[beq_iff_eq];constructor
 ·intro h;have h1:a.toNat=n:=by omega
  apply UInt8.toNat_inj.1;rw[h1];simp[UInt8.toNat_ofNat',Nat.mod_eq_of_lt hn]
 ·rintro rfl;simp[UInt8.toNat_ofNat',Nat.mod_eq_of_lt hn]
def TR(h:Sc w b s i true true (-1))(ht:Tabs b w)(hi:i<s.length)(hn1:cls 1 (bAt s i)=false)(hn2:cls 2 (bAt s i)=false)(h10:bAt s i≠10):
 Calls Tryz.prog 266 #[.pointer (some ⟨b,0,none⟩)] w (TokPost w b s (BQ s i)):=by
 have hb:=h.lt;have hf:=h.few;have c1:=h.c1;have g0:w.grownBy ((w.alloc (.cells #[.int .i64 0,.int .i64 0,str []] 250 (0,0))).alloc (.cells #[.int .i64 0,.int .i64 i,str []] 250 (0,0))) none:=Ac (gZ w _ none) _;have hA:TkRel w b s i i ((w.alloc (.cells #[.int .i64 0,.int .i64 0,str []] 250 (0,0))).alloc (.cells #[.int .i64 0,.int .i64 i,str []] 250 (0,0))):=
  ⟨h.gbN g0,(Blk.new _ [.int .i64 0,.int .i64 i,str []] _).of_eq (by simp) rfl,(Blk.new _ [.int .i64 0,.int .i64 0,str []] _).alloc _,Ao g0,ht.gbN g0⟩
 clear h ht g0;have HC:=S (X hn1 hn2);have HB:=S h10;clear hn1 hn2 h10;go_enter func266,ntmps266;go_wp2_with fail;refine mR (Cw hA.sc i 1 (r:=false) (by simp[HC.1.1])) λw1 g1=>?_;have hA1:=hA.gbN g1;clear hA g1;go_wp2_with fail;refine mR (Cw hA1.sc i 2 (r:=false) (by simp[HC.1.2])) λw2 g1=>?_;have hA2:=hA1.gbN g1;clear hA1 g1 c1;have c0:=hA2.sc.c0;have c1:=hA2.sc.c1;have hg:=λh=>GL s i h hi;have gs:=hA2.g.size;have hbl:=hA2.sc.lt;have t0:=hA2.tok.cell' 0 rfl;have t1:=hA2.tok.cell' 1 rfl;have t2:=hA2.tok.cell' 2 rfl;cases hq:(bAt s i==34||bAt s i==39)with
 | true=>
   have HT:=S (show BQ s i=ER s i from(if_neg (by rw[HC.1.1];simp)).trans ((if_neg (by rw[HC.1.2];simp)).trans (if_pos (by simpa using hq))));have hX:=Yh hA2.sc hi HB.1;have HX:=S hX;clear hX;cases h34:bAt s i==34
   case' true=>
    have e34:=E8 (n:=34) (by decide) h34;clear hq h34;simp only[Int.cast_ofNat_Int]at e34
   case' false=>
    have e34:=E8 (n:=34) (by decide) h34;have e39:=E8 (n:=39) (r:=true) (by decide) (by simpa[h34]using hq);clear hq h34;simp only[Int.cast_ofNat_Int]at e34 e39
   all_goals
    generalize bAt s i=q at*;go_wp2_with fail;refine HX.1.mono ?_;intro e w3 hp;obtain⟨g3,t,ok,rfl,hF⟩:=hp.fin;have hr3:=hA2.res.gb g3 (by simp;omega);have r0:=hr3.cell' 0 rfl;have r1:=hr3.cell' 1 rfl;have r2:=hr3.cell' 2 rfl;have rf:=λk=>hr3.frozen k;have rl:=hr3.lt;go_wp2;refine bZ (Ce (t:=t) (r:=ok) rfl _ (hr3.set3 _ _ _) rfl rfl) rfl ?_;rw[HT.1];have g:=Z hA2.g g3;exact(((hF.set_other _ _ (by simp;omega)).set_other _ _ (by simp;omega)).set_other _ _ (by simp;omega)).post (Af (Af (Af (by assumption) _ _ (.inr (nR _))) _ _ (.inr (nR _))) _ _ (.inr (nR _)))
 | false=>
   have h34:(bAt s i==34)=false/\(bAt s i==39)=false:=by simpa using hq
   have HT0:=S (show BQ s i=(match C2 (s.drop i)with|some (d,n)=>St.tok ⟨3,i,d⟩ (i+n) true|none=>J2 s i)from(if_neg (by rw[HC.1.1];simp)).trans ((if_neg (by rw[HC.1.2];simp)).trans (if_neg (by simpa using h34))));have e34:=E8 (n:=34) (by decide) h34.1;have e39:=E8 (n:=39) (by decide) h34.2;have hX:=Wa hA2.sc;have HX0:=S hX;clear hq h34 hX;simp only[Int.cast_ofNat_Int]at e34 e39;generalize bAt s i=q at*;go_wp2_with fail;refine HX0.1.mono ?_;rintro e w4 ⟨g4,hp⟩;have hA4:=hA2.gbN g4;have gs4:=hA4.g.size;have hb4:=hA4.sc.lt;cases hd:C2 (s.drop i)with
   | some p=>
     obtain⟨d,n⟩:=p;have hlen:=MR hd;simp only[List.length_drop]at hlen;rw[hd]at hp HT0;have HT:=S HT0.1;subst hp;clear hd HT0;have q1:=hA4.sc.c1;have f1:=hA4.sc.fr 1;have r0:=hA4.res.cell' 0 rfl;have r1:=hA4.res.cell' 1 rfl;have r2:=hA4.res.cell' 2 rfl;have rf:=λk=>hA4.res.frozen k;have rl:=hA4.res.lt;go_wp2;refine bZ (Ce (t:=⟨3,i,d⟩) (r:=true) rfl _ ((hA4.res.set_other _ _ (by simp;omega)).set3 _ _ _) rfl rfl) rfl ⟨?_,?_⟩
     ·have g:=hA4.g;exact(by repeat(first| (with_reducible assumption)| ((with_reducible refine Af ?_ _ _ ?h2);case h2=>first|exact .inl rfl|exact .inr (nR _))))
     ·rw[HT.1];have hs4:=hA4.sc;exact⟨rfl,(by repeat(first| (with_reducible assumption)| (with_reducible apply Sc.go)| (with_reducible apply Sc.set_other)|omega| (simp<;>omega)))⟩
   | none=>
     rw[hd]at hp HT0;have HT:=S HT0.1;obtain⟨d,n,rfl⟩:=hp;clear hd HT0;have hX:=Xn hA4.sc hA4.tabs;have HX:=S hX;clear hX;have u0:=hA4.tok.cell' 0 rfl;have u1:=hA4.tok.cell' 1 rfl;have u2:=hA4.tok.cell' 2 rfl;go_wp2_with fail;refine HX.1.mono ?_;intro e w3 hp;obtain⟨g3,t,ok,rfl,hF⟩:=hp.fin;have hr3:=hA4.res.gb g3 (by simp;omega);have r0:=hr3.cell' 0 rfl;have r1:=hr3.cell' 1 rfl;have r2:=hr3.cell' 2 rfl;have rf:=λk=>hr3.frozen k;have rl:=hr3.lt;go_wp2;refine bZ (Ce (t:=t) (r:=ok) rfl _ (hr3.set3 _ _ _) rfl rfl) rfl ?_;rw[HT.1];have g:=Z hA4.g g3;exact(((hF.set_other _ _ (by simp;omega)).set_other _ _ (by simp;omega)).set_other _ _ (by simp;omega)).post (Af (Af (Af (by assumption) _ _ (.inr (nR _))) _ _ (.inr (nR _))) _ _ (.inr (nR _)))
def Vl(h:Sc w b s i true true (-1))(ht:Tabs b w)(hi:i<s.length)(h10:bAt s i≠10):
 Calls Tryz.prog 266 #[.pointer (some ⟨b,0,none⟩)] w (TokPost w b s (BQ s i)):=by
 cases h1:cls 1 (bAt s i)with
 |true=>exact TS h ht hi h1
 | false=>
   cases h2:cls 2 (bAt s i)with
   |true=>exact Vm h ht hi h1 h2
   |false=>exact TR h ht hi h1 h2 h10
def Sc.drew(h:Sc w b s i line begun bad):Sc w.drew b s i line begun bad:=h.drewN 1
def UX(s:Bs)(l:Bool)(R:NR)(hR:R ≠ .out):∀(d k m:Nat),s.length-k=d->k<=s.length->Bh s m k l=R->∃m',1<=m'/\m'<=m/\Bh s m' (AV s k) l=R:=by
 intro d;induction d with
 | zero=>
   intro k m hd hk h;rw[show AV s k=k from Er (by omega)];cases m with
   |zero=>exact absurd h.symm hR
   |succ m=>exact⟨m+1,by omega,nR _,h⟩
 | succ d ih=>
   intro k m hd hk h;have hkl:k<s.length:=by omega
   cases m with
   |zero=>exact absurd h.symm hR
   | succ m=>
     cases hb:cls 3 (bAt s k)with
     | false=>
       rw[show AV s k=k from DH hkl hb];exact⟨m+1,by omega,nR _,h⟩
     | true=>
       rw[show AV s k=AV s (k+1)from Cz hkl hb];have h10:bAt s k≠10:=by intro e;rw[e]at hb;revert hb;decide
       have hs:Cx s k l= .again (k+1) l:=by
        unfold Cx;rw[if_neg (by omega),if_neg h10,if_pos hb]
       rw[Bh,hs]at h;obtain⟨m',h1,h2,h3⟩:=ih (k+1) m (by omega) (by omega) h;exact⟨m',h1,by omega,h3⟩
def WT(s:Bs)(k:Nat)(p:Bs)(hr:p.isPrefixOf (s.drop k)=r)(w:World):
 Calls Tryz.prog 191 #[.string ((⟨s.toArray⟩:ByteArray).extract k s.length),.string ⟨p.toArray⟩] w λe w'=>e= .returned (.bool r)/\w'=w:=(Kh s k p hr w).mono λ_ _ h=>⟨h.1,h.2.symm⟩
def Xq(h:s.length<=j):Cx s j l=if l then .tok ⟨5,j,[]⟩ j false else .stop:=if_pos h
def YF(h:j<s.length)(h10:bAt s j=10):Cx s j l=if l then .tok ⟨5,j,[]⟩ (j+1) false else .again (j+1) false:=(if_neg (by omega)).trans (if_pos h10)
def Xp(h:j<s.length)(h10:bAt s j≠10)(hb:cls 3 (bAt s j)=false)(hc:((bAt s j==42&&!l)||EX s j)=true):Cx s j l=match BS s j with
 |some k=> .bad k
 |none=> .again (Au s j) l:=(if_neg (by omega)).trans ((if_neg h10).trans ((if_neg (by rw[hb];simp)).trans (if_pos hc)))
def Ve(h:j<s.length)(h10:bAt s j≠10)(hb:cls 3 (bAt s j)=false)(hc:((bAt s j==42&&!l)||EX s j)=false)(h59:bAt s j=59):Cx s j l=if CV s (AV s (j+1))then
 match BS s (AV s (j+1))with
 |some k=> .bad k
 |none=> .again (BT s (AV s (j+1))) l
 else .bad j:=(if_neg (by omega)).trans ((if_neg h10).trans ((if_neg (by rw[hb];simp)).trans ((if_neg (by rw[hc];simp)).trans (if_pos h59))))
def Xr(h:j<s.length)(h10:bAt s j≠10)(hb:cls 3 (bAt s j)=false)(hc:((bAt s j==42&&!l)||EX s j)=false)(h59:bAt s j≠59):Cx s j l=BQ s j:=(if_neg (by omega)).trans ((if_neg h10).trans ((if_neg (by rw[hb];simp)).trans ((if_neg (by rw[hc];simp)).trans (if_neg h59))))
def My(h:Sc w b s i true true bad)(hj:j=if i<s.length then i+1 else i):
 Calls Tryz.prog 263 #[.pointer (some ⟨b,0,none⟩)] w λe w'=>e= .returned (.tuple #[AR ⟨5,i,[]⟩,.bool true])/\w.grownBy w' (some b)/\Sc w' b s j false false bad:=by
 subst hj;refine(Mw h).mono ?_;rintro e w' ⟨g,hs,he⟩;exact⟨by rw[he];simp,g,hs⟩
def Nb(h:Sc w b s i false false bad)(hj:j=if i<s.length then i+1 else i)(hr:(!decide (i<s.length))=r):
 Calls Tryz.prog 263 #[.pointer (some ⟨b,0,none⟩)] w λe w'=>e= .returned (.tuple #[tok0,.bool r])/\w.grownBy w' (some b)/\Sc w' b s j false false bad:=by
 subst hj hr;refine(Mw h).mono ?_;rintro e w' ⟨g,hs,he⟩;exact⟨by rw[he];simp,g,hs⟩
def N9(w:World)(b:Nat)(s:Bs)(r:NR)(e:Ending)(w':World):Prop:=
 w.grownBy w' (some b)/\match r with
  | .tok t j l _=>e= .returned (.tuple #[AR t,.bool true])/\Sc w' b s j l l (-1)
  | .stop=>(∃t,e= .returned (.tuple #[AR t,.bool false]))/\∃j l,Sc w' b s j l l (-1)
  | .bad k=>(∃t,e= .returned (.tuple #[AR t,.bool false]))/\∃j l,Sc w' b s j l l k
  | .out=>False
def Wg{m:Nat}{R:NR}(hF:TokFin b s (BQ s j) t ok w')(hS:Cx s j l=BQ s j)(hM:Bh s (m+1) j l=R)(g:w.grownBy w' (some b)):
 N9 w b s R (.returned (.tuple #[AR t,.bool ok])) w':=by
 subst hM;refine⟨g,?_⟩;rw[Bh,hS];cases ht:BQ s j with
 |tok t' j' l'=>rw[ht]at hF;obtain⟨rfl,rfl,hs⟩:=hF;exact⟨rfl,hs⟩
 |bad k=>rw[ht]at hF;obtain⟨rfl,hs⟩:=hF;exact⟨⟨t,rfl⟩,hs⟩
 |again j' l'=>rw[ht]at hF;exact hF.elim
 |stop=>rw[ht]at hF;exact hF.elim
structure NxRel(w:World)(b:Nat)(s:Bs)(k:Nat)(l:Bool)(wr:World):Prop where
 sc:Sc wr b s k l l (-1)
 res:Blk wr w.heap.size [.int .i64 0,.int .i64 0,str []] 250
 g:w.grownBy wr (some b)
 tabs:Tabs b wr
def NxRel.gbN{w2:World}(h:NxRel w b s k l w1)(g:w1.grownBy w2 none):NxRel w b s k l w2:=
 ⟨h.sc.gbN g,h.res.gb g (by simp),Z h.g (Ao g),h.tabs.gbN g⟩
def XE(h:Sc w b s i line line (-1))(ht:Tabs b w)(hn:Bh s n i line ≠ .out):
 Calls Tryz.prog 234 #[.pointer (some ⟨b,0,none⟩)] w (N9 w b s (Bh s n i line)):=by
 have hb:=h.lt;generalize hR:Bh s n i line=R at*;have hA:NxRel w b s i line (w.alloc (.cells #[.int .i64 0,.int .i64 0,str []] 250 (0,0))):=
  ⟨h.alloc _,Blk.new _ [.int .i64 0,.int .i64 0,str []] _,gZ w _ _,ht.gbN (gZ w _ none)⟩
 have HR:=S (X hR hn);clear h ht hR hn;go_enter func234,ntmps234;go_wp2_with fail;go_loopg [] n (λg wr=>∃k l,Bh s g k l=R/\NxRel w b s k l wr)
 case atStart=>exact⟨i,line,HR.1.1,hA⟩
 case round=>
  obtain⟨k,l,hk,hr⟩:=hrel;clear hA;have hN:=UX s l R HR.1.2 _ k gk rfl hr.sc.le hk;have HN:=S hN;clear hk hN;have hb1:=hr.sc.lt;have gs:=hr.g.size;go_wp2_with fail;refine(Xo hr.sc).mono ?_;rintro e w1 ⟨rfl,hs1,g1⟩;have hq:NxRel w b s (AV s k) l w1:=⟨hs1,hr.res.gb g1 (by simp;omega),Z hr.g g1,hr.tabs.gb g1 (by simp)⟩;have hbl:AV s k<s.length->cls 3 (bAt s (AV s k))=false:=λh=>Lo h;obtain⟨m,hm1,hm2,hm3⟩:=HN.1;have HM:=S hm3;clear HN hs1 hr hm3 hb1 gs;generalize AV s k=j at*;have hb1:=hq.sc.lt;have gs:=hq.g.size;have hf:=hq.sc.few;have hjl:=hq.sc.le;have c0:=hq.sc.c0;have c1:=hq.sc.c1;have c258:=hq.sc.c258;have c259:=hq.sc.c259;have r0:=hq.res.cell' 0 rfl;have r1:=hq.res.cell' 1 rfl;have r2:=hq.res.cell' 2 rfl;have rf:=λk=>hq.res.frozen k;have rl:=hq.res.lt;obtain⟨m,rfl⟩:∃q,m=q+1:=⟨m-1,by omega⟩;by_cases hj:j<s.length
  ·have hj1:((j:Int)==(s.length:Int))=false:=by simp;omega
   have hg:=λh=>GL s j h hj;have hb3:=hbl hj;by_cases h10:bAt s j=10
   ·have hS:=YF (l:=l) hj h10;have e10:((bAt s j).toNat:Int)==10:=by rw[h10];rfl
    cases l with
    | true=>
      have HQ:=S (show R= .tok ⟨5,j,[]⟩ (j+1) false m by rw[<-HM.1,Bh,hS];rfl);have HE:=S (fun(W:World)(g:w1.grownBy W none)=>My (hq.sc.gbN g) (j:=j+1) (by rw[if_pos hj]));clear hS h10 hbl hb3;generalize bAt s j=q at*;go_wp2_with fail;go_quiet(fail);go_wp2_with fail;refine(HE.1 _ (Aj (Aa _ _) _)).mono ?_;rintro e w2 ⟨rfl,g2,hs2⟩;have hr2:=(hq.res.drewN nq).gb g2 (by simp;omega);have z0:=hr2.cell' 0 rfl;have z1:=hr2.cell' 1 rfl;have z2:=hr2.cell' 2 rfl;have zf:=λk=>hr2.frozen k;have zl:=hr2.lt;go_wp2_with fail;go_region;go_wp2;refine bZ (Ce (t:=⟨5,j,[]⟩) (r:=true) rfl _ (((hr2.set3 _ _ _).alloc _).drew) rfl rfl) rfl ⟨?_,?_⟩
      ·have g:=Z (Aj hq.g nq) g2;exact(by repeat(first| (with_reducible assumption)| (with_reducible refine Ac ?_ _)| (with_reducible refine Ad ?_)| ((with_reducible refine Af ?_ _ _ ?h2);case h2=>exact .inr (nR _))))
      ·rw[HQ.1];exact⟨rfl,((((hs2.set_other _ _ (by simp;omega)).set_other _ _ (by simp;omega)).set_other _ _ (by simp;omega)).alloc _).drew⟩
    | false=>
      have HQ:=S (show Bh s m (j+1) false=R by rw[<-HM.1,Bh,hS];rfl);have HE:=S (fun(W:World)(g:w1.grownBy W none)=>Nb (hq.sc.gbN g) (j:=j+1) (by rw[if_pos hj]) (r:=false) (by simp[hj]));clear hS h10 hbl hb3;generalize bAt s j=q at*;go_wp2_with fail;go_quiet(fail);go_wp2_with fail;refine(HE.1 _ (Aj (Aa _ _) _)).mono ?_;rintro e w2 ⟨rfl,g2,hs2⟩;have hr2:=(hq.res.drewN nq).gb g2 (by simp;omega);have gg:=Z (Aj hq.g nq) g2;have ht2:=hq.tabs.gb (Z (Aj (Aa _ (some b)) nq) g2) (by simp);go_wp2;go_roundg m
      case measure=>omega
      case rel=>exact⟨j+1,false,HQ.1,hs2.alloc _,hr2.alloc _,Ac gg _,ht2.gbN (gZ _ _ _)⟩
   ·have e10:(((bAt s j).toNat:Int)==10)=false:=E8 (n:=10) (by decide) (by simpa using h10);clear hbl;go_upto_region 8 with(first|go_quiet(fail)|fail)
    go_cut [53] (λv53 wx=>v53= .bool (bAt s j==42&&!l)/\NxRel w b s j l wx)
    case first=>
     cases h42:bAt s j==42 with
     | false=>
       have e42:(((bAt s j).toNat:Int)==42)=false:=E8 (n:=42) (by decide) h42;generalize bAt s j=q at*;go_quiet(fail);go_wp2;go_meet;exact⟨by rw[h42];rfl,hq.gbN (by first|exact Aj (Aj (Aa _ _) _) _ |exact Aj (Aa _ _) _)⟩
     | true=>
       have e42:(((bAt s j).toNat:Int)==42)=true:=E8 (n:=42) (by decide) h42;generalize bAt s j=q at*;cases l;all_goals
        go_quiet(fail);go_wp2;go_meet;exact⟨by rw[h42];rfl,hq.gbN (by first|exact Aj (Aj (Aa _ _) _) _ |exact Aj (Aa _ _) _)⟩
    case rest=>
    obtain⟨rfl,hq2⟩:=hcut;clear gs hb1 c0 c1 c258 c259 r0 r1 r2 rf rl hq;have c0:=hq2.sc.c0;have c1:=hq2.sc.c1;have hleI:decide ((j:Int)<=s.length)=true:=by simp;omega
    go_upto_if 53 with fail
    go_cut [53] (λv53 wx=>v53= .bool ((bAt s j==42&&!l)||EX s j)/\NxRel w b s j l wx)
    case first=>
     cases hs42:bAt s j==42&&!l with
     | true=>
       go_wp2;go_meet;exact⟨by rw[hs42];rfl,hq2⟩
     | false=>
       have HP:=S (WT s j [38,38] (r:=EX s j) rfl);go_wp2_with fail;go_quiet((go_at_call 191;refine(HP.1 _).mono ?_;rintro e w9 ⟨rfl,rfl⟩;exact⟨rfl,_,rfl⟩));go_wp2;go_meet;exact⟨by rw[hs42];rfl,hq2.gbN (Aj (Aa _ _) _)⟩
    case rest=>
    obtain⟨rfl,hq⟩:=hcut;clear c0 c1 hq2 e10;generalize wc=w1 at*;have gs:=hq.g.size;have hb1:=hq.sc.lt;have c0:=hq.sc.c0;have c1:=hq.sc.c1;have c258:=hq.sc.c258;have c259:=hq.sc.c259;have r0:=hq.res.cell' 0 rfl;have r1:=hq.res.cell' 1 rfl;have r2:=hq.res.cell' 2 rfl;have rf:=λk=>hq.res.frozen k;have rl:=hq.res.lt;cases hcc:(bAt s j==42&&!l)||EX s j with
    | true=>
      have HS:=S (Xp (l:=l) hj h10 hb3 hcc);clear h10 hb3 hcc;generalize bAt s j=q at*;go_wp2_with fail;refine(I2 (hq.sc.gbN (Aa _ _))).mono ?_;intro e w2 hp;obtain⟨g2,hp⟩:=hp;have g12:w1.grownBy w2 (some b):=Z (Aa _ _) g2;cases hcm:BS s j with
      | some k=>
        have HQ:=S (show R= .bad k by rw[<-HM.1,Bh,HS.1,hcm]);rw[hcm]at hp;clear hcm;obtain⟨rfl,j2,hs2⟩:=hp;have hr2:=hq.res.gb g12 (by simp;omega);have z0:=hr2.cell' 0 rfl;have z1:=hr2.cell' 1 rfl;have z2:=hr2.cell' 2 rfl;have zf:=λk=>hr2.frozen k;have zl:=hr2.lt;go_wp2;refine bZ (Ce (t:=⟨0,0,[]⟩) (r:=false) rfl _ (hr2.set3 _ _ _) rfl rfl) rfl ⟨?_,?_⟩
        ·have g:=Z hq.g g12;exact(Af (Af (Af (by assumption) _ _ (.inr (nR _))) _ _ (.inr (nR _))) _ _ (.inr (nR _)))
        ·rw[HQ.1];exact⟨⟨_,rfl⟩,j2,_,((hs2.set_other _ _ (by simp;omega)).set_other _ _ (by simp;omega)).set_other _ _ (by simp;omega)⟩
      | none=>
        have HQ:=S (show Bh s m (Au s j) l=R by rw[<-HM.1,Bh,HS.1,hcm]);rw[hcm]at hp;clear hcm;obtain⟨rfl,hs2⟩:=hp;have hr2:=hq.res.gb g12 (by simp;omega);have ht2:=hq.tabs.gb g12 (by simp);have gg:=Z hq.g g12;go_wp2;go_roundg m
        case measure=>omega
        case rel=>exact⟨Au s j,l,HQ.1,hs2,hr2,gg,ht2⟩
    | false=>
      by_cases h59:bAt s j=59
      ·have HS:=S (Ve (l:=l) hj h10 hb3 hcc h59);have e59:(((bAt s j).toNat:Int)==59)=true:=E8 (n:=59) (by decide) (by simpa using h59);clear h10 hb3 hcc h59;generalize bAt s j=q at*;go_wp2_with fail;go_quiet(fail);go_wp2_with fail;refine(Py (hq.sc.gbN (Aj (Aa _ _) _)) hj).mono ?_;intro e w2 hp;obtain⟨g2,hp⟩:=hp;have g12:w1.grownBy w2 (some b):=Z (Aj (Aa _ _) _) g2;have hr2:=hq.res.gb g12 (by simp;omega);have z0:=hr2.cell' 0 rfl;have z1:=hr2.cell' 1 rfl;have z2:=hr2.cell' 2 rfl;have zf:=λk=>hr2.frozen k;have zl:=hr2.lt;cases hgo:CV s (AV s (j+1))with
       | false=>
         have HQ:=S (show R= .bad j by rw[<-HM.1,Bh,HS.1,if_neg (by rw[hgo];simp)]);rw[if_neg (by rw[hgo];simp)]at hp;obtain⟨rfl,hs2⟩:=hp;clear hgo;have d1:=hs2.c1;have d260:=hs2.c260;have f260:=hs2.fr 260;go_wp2;refine bZ (Ce (t:=⟨0,0,[]⟩) (r:=false) rfl _ ((hr2.set_other _ _ (by simp;omega)).set3 _ _ _) rfl rfl) rfl ⟨?_,?_⟩
         ·have g:=Z hq.g g12;exact(by repeat(first| (with_reducible assumption)| ((with_reducible refine Af ?_ _ _ ?h2);case h2=>first|exact .inl rfl|exact .inr (nR _))))
         ·rw[HQ.1];exact⟨⟨_,rfl⟩,j,_,(((hs2.setBad _).set_other _ _ (by simp;omega)).set_other _ _ (by simp;omega)).set_other _ _ (by simp;omega)⟩
       | true=>
         rw[if_pos hgo]at hp;cases hcm:BS s (AV s (j+1))with
         | some k=>
           have HQ:=S (show R= .bad k by rw[<-HM.1,Bh,HS.1,if_pos hgo,hcm]);rw[hcm]at hp;clear hcm hgo;obtain⟨rfl,j2,hs2⟩:=hp;go_wp2;refine bZ (Ce (t:=⟨0,0,[]⟩) (r:=false) rfl _ (hr2.set3 _ _ _) rfl rfl) rfl ⟨?_,?_⟩
           ·have g:=Z hq.g g12;exact(Af (Af (Af (by assumption) _ _ (.inr (nR _))) _ _ (.inr (nR _))) _ _ (.inr (nR _)))
           ·rw[HQ.1];exact⟨⟨_,rfl⟩,j2,_,((hs2.set_other _ _ (by simp;omega)).set_other _ _ (by simp;omega)).set_other _ _ (by simp;omega)⟩
         | none=>
           have HQ:=S (show Bh s m (BT s (AV s (j+1))) l=R by rw[<-HM.1,Bh,HS.1,if_pos hgo,hcm]);rw[hcm]at hp;clear hcm hgo;obtain⟨rfl,hs2⟩:=hp;have ht2:=hq.tabs.gb g12 (by simp);have gg:=Z hq.g g12;go_wp2;go_roundg m
           case measure=>omega
           case rel=>exact⟨_,l,HQ.1,hs2,hr2,gg,ht2⟩
      ·have HS:=S (Xr (l:=l) hj h10 hb3 hcc h59);have e59:(((bAt s j).toNat:Int)==59)=false:=E8 (n:=59) (by decide) (by simpa using h59);have HX:=S (λq=>Vl (w:=((w1.drewN q).setCell ⟨b,258,none⟩ (.bool true)).setCell ⟨b,259,none⟩ (.bool true)) (((hq.sc.drewN q).setLine true).setBegun true) (hq.tabs.gb (Af (Af (Aj (Aa _ (some b)) q) _ _ (.inl rfl)) _ _ (.inl rfl)) (by simp)) hj h10);clear h10 hb3 hcc h59;generalize bAt s j=q at*;go_wp2_with fail;go_quiet(fail);have f258:=hq.sc.fr 258;have f259:=hq.sc.fr 259;go_wp2_with fail;refine(HX.1 _).mono ?_;intro e w3 hp;obtain⟨g3,t,ok,rfl,hF⟩:=hp.fin;have g13:w1.grownBy w3 (some b):=Z (Ai (Ai (Aj (Aa w1 (some b)) _) 258 _) 259 _) g3;have hr3:=hq.res.gb g13 (by simp;omega);have z0:=hr3.cell' 0 rfl;have z1:=hr3.cell' 1 rfl;have z2:=hr3.cell' 2 rfl;have zf:=λk=>hr3.frozen k;have zl:=hr3.lt;have HF:=S hF;clear hF;go_wp2;refine bZ (Ce (t:=t) (r:=ok) rfl _ (hr3.set3 _ _ _) rfl rfl) rfl ?_;have g:=Z hq.g g13;exact Wg (((HF.1.set_other _ _ (by simp;omega)).set_other _ _ (by simp;omega)).set_other _ _ (by simp;omega)) HS.1 HM.1 (Af (Af (Af (by assumption) _ _ (.inr (nR _))) _ _ (.inr (nR _))) _ _ (.inr (nR _)))
  ·have hj1:((j:Int)==(s.length:Int))=true:=by simp;omega
   have hS:=Xq (s:=s) (j:=j) (l:=l) (by omega);cases l with
   | true=>
     have HQ:=S (show R= .tok ⟨5,j,[]⟩ j false m by rw[<-HM.1,Bh,hS];rfl);have HE:=S (fun(W:World)(g:w1.grownBy W none)=>My (hq.sc.gbN g) (j:=j) (by rw[if_neg hj]));clear hS;go_wp2_with fail;go_quiet(fail);go_wp2_with fail;refine(HE.1 _ (Aj (Aa _ _) _)).mono ?_;rintro e w2 ⟨rfl,g2,hs2⟩;have hr2:=(hq.res.drewN nq).gb g2 (by simp;omega);have z0:=hr2.cell' 0 rfl;have z1:=hr2.cell' 1 rfl;have z2:=hr2.cell' 2 rfl;have zf:=λk=>hr2.frozen k;have zl:=hr2.lt;go_wp2_with fail;go_region;go_wp2;refine bZ (Ce (t:=⟨5,j,[]⟩) (r:=true) rfl _ (((hr2.set3 _ _ _).alloc _).drew) rfl rfl) rfl ⟨?_,?_⟩
     ·have g:=Z (Aj hq.g nq) g2;exact(by repeat(first| (with_reducible assumption)| (with_reducible refine Ac ?_ _)| (with_reducible refine Ad ?_)| ((with_reducible refine Af ?_ _ _ ?h2);case h2=>exact .inr (nR _))))
     ·rw[HQ.1];exact⟨rfl,((((hs2.set_other _ _ (by simp;omega)).set_other _ _ (by simp;omega)).set_other _ _ (by simp;omega)).alloc _).drew⟩
   | false=>
     have HQ:=S (show R= .stop by rw[<-HM.1,Bh,hS];rfl);have HE:=S (fun(W:World)(g:w1.grownBy W none)=>Nb (hq.sc.gbN g) (j:=j) (by rw[if_neg hj]) (r:=true) (by simp[hj]));clear hS;go_wp2_with fail;go_quiet(fail);go_wp2_with fail;refine(HE.1 _ (Aj (Aa _ _) _)).mono ?_;rintro e w2 ⟨rfl,g2,hs2⟩;have hr2:=(hq.res.drewN nq).gb g2 (by simp;omega);have z0:=hr2.cell' 0 rfl;have z1:=hr2.cell' 1 rfl;have z2:=hr2.cell' 2 rfl;have zf:=λk=>hr2.frozen k;have zl:=hr2.lt;go_wp2_with fail;go_region;go_wp2;refine bZ (Ce (t:=⟨0,0,[]⟩) (r:=false) rfl _ (((hr2.set3 _ _ _).alloc _).drew) rfl rfl) rfl ⟨?_,?_⟩
     ·have g:=Z (Aj hq.g nq) g2;exact(by repeat(first| (with_reducible assumption)| (with_reducible refine Ac ?_ _)| (with_reducible refine Ad ?_)| ((with_reducible refine Af ?_ _ _ ?h2);case h2=>exact .inr (nR _))))
     ·rw[HQ.1];exact⟨⟨_,rfl⟩,j,false,((((hs2.set_other _ _ (by simp;omega)).set_other _ _ (by simp;omega)).set_other _ _ (by simp;omega)).alloc _).drew⟩
open Go.Shelf
attribute [local go_sem] Oper.semAt_some
def Pm{c:Code}(J:Nat->Act->World->Prop)(h0:∀a w,¬J 0 a w)(hJ:∀g a w,J (g+1) a w->c.wpIn F n P (Exit.then (J g) Q) a w):
 ∀g a w,J g a w->(Code.loop c).wpIn F n P Q a w:=by
 have key:∀g a w,J g a w->Code.roundsIn F n P c Q g a w:=by
  intro g;induction g with
  |zero=>intro a w h;exact(h0 a w h).elim
  | succ g ih=>
    intro a w h;rw[roundsIn_succ];refine wpIn_mono (hJ g a w h) ?_;intro e a' w' h';cases e with
    |normal=>exact ih a' w' h'
    |_=>exact h'
 intro g a w h;exact wpIn_loop_rounds g (key g a w h)
def G7{r:Option Nat}(h:w.grownBy w1 r)(k:Nat)(o:Obj)(hk:w.heap.size<=k):w.grownBy (w1.putObj k o) r:=by
 refine⟨h.os,h.tape,h.output,by simpa[World.putObj]using h.size,λi hi hr=>?_⟩;rw[<-h.block i hi hr];exact World.putObj_heap_other (by omega)
def Of(s:Bs):∀n i line t j l m,Bh s n i line= .tok t j l m->m<n:=by
 intro n;induction n with
 |zero=>intro i line t j l m h;cases h
 | succ n ih=>
   intro i line t j l m h;rw[Bh]at h;cases hs:Cx s i line with
   |tok t' j' l'=>rw[hs]at h;cases h;omega
   |again j' l'=>rw[hs]at h;have:=ih _ _ _ _ _ _ h;omega
   |stop=>rw[hs]at h;cases h
   |bad k=>rw[hs]at h;cases h
def Lv(b:Nat)(s:Bs)(J:List Tok->World->Prop)(R:LexR)(w:World):Prop:=match R with
 | .ok l=>J l w/\∃j l,Sc w b s j l l (-1)
 | .bad k=>(∃l,J l w)/\∃j l,Sc w b s j l l k
 | .out=>False
def Sc.below{n₀:Nat}(h:Sc w b s i line begun bad)(g:Below n₀ w w1)(hb:b<n₀):Sc w1 b s i line begun bad:=⟨(g.block b hb).trans h.blk,h.le,h.few⟩
def XM(m:Nat)(l cb b n₀:Nat)(s:Bs)(J:List Tok->World->Prop)(hn₀:b<n₀/\cb<n₀/\b≠cb)
 (hJ:∀pre A B,J pre A->A.grownBy B (some b)->J pre B)
 (hY:∀pre t W,J pre W->pre.length<100000->YieldAt Fence.wide m Tryz.prog l #[AR t] W λe W'=>e= .returned (.bool true)/\J (pre++[t]) W'/\Below n₀ W W')
 (htab:∀A B,Tabs b A->Below n₀ A B->Tabs b B)
 (n i:Nat) (line:Bool) (R:LexR) (hR:R ≠ .out) (hl:CD s n i line=R) (hn:n<100000)
 (W:World) (hcb:W.cell? ⟨cb,0,none⟩=some (.pointer (some ⟨b,0,none⟩))) (hs:Sc W b s i line line (-1)) (ht:Tabs b W) (h0:J [] W):
 CallsIn Fence.wide (m+1) Tryz.prog 233 #[.func (.yield l) #[] #[],.pointer (some ⟨cb,0,none⟩)] W λe W'=>(∃v,e= .returned v)/\Lv b s J R W':=by
 refine callsIn_of_wp func233 rfl trivial ?_ rfl;simp only[ntmps233,List.size_toArray,List.length_cons,List.length_nil,Nat.reduceAdd,Nat.reduceSub,Array.replicate_succ,Array.replicate_zero,List.push_toArray,List.append_toArray,List.nil_append,List.cons_append];gi_wp2;refine Pm (λg a w=>∃u2 u3 u4 u5 u6 u7 u8 u9 u10 u11 u12 u13 u14 u15 u16 u17,a={tmps:=#[.func (.yield l) #[] #[],.pointer (some ⟨cb,0,none⟩),u2,u3,u4,u5,u6,u7,u8,u9,u10,u11,u12,u13,u14,u15,u16,u17],defers:=[]}/\
  ∃pre k q i' line',k<g/\pre.length+k<100000/\q<=k/\(CD s q i' line').pre pre=R/\w.cell? ⟨cb,0,none⟩=some (.pointer (some ⟨b,0,none⟩))/\Sc w b s i' line' line' (-1)/\Tabs b w/\J pre w) ?_ ?_ (n+1) _ _ ?_
 ·rintro a w ⟨u2,u3,u4,u5,u6,u7,u8,u9,u10,u11,u12,u13,u14,u15,u16,u17,_,pre,k,q,i',line',h,_⟩;omega
 ·rintro g a w ⟨u2,u3,u4,u5,u6,u7,u8,u9,u10,u11,u12,u13,u14,u15,u16,u17,rfl,pre,k,q,i',line',hk,hlen,hqk,hR',hc,hsc,htb,hj⟩;have hnx:Bh s q i' line' ≠ .out:=by
   intro e;rw[Kr,e]at hR';exact hR hR'.symm
  have hlx:=Kr s q i' line';have hN:=XE hsc htb hnx;have HN:=S (X hR' (X hlx hN));have hlt:=Of s q i' line';have HLT:=S hlt;clear hN hlx hR' hnx hlt;have hcl:=bY w _ hc;have hbl:=hsc.lt;gi_wp2_with fail;refine⟨trivial,(callsIn_wide.2 HN.1.2.2).mono ?_⟩;intro e w1 hp;obtain⟨g1,hp⟩:=hp;have hc1:=B9 g1 hc (by simp;omega);have ht1:=htb.gb g1 (by simp);have hj1:=hJ _ _ _ hj g1;have hw1:=g1.size;cases hq:Bh s q i' line' with
  |out=>rw[hq]at hp;exact hp.elim
  | stop=>
    rw[hq]at hp;obtain⟨⟨t,rfl⟩,j,l',hs1⟩:=hp;have HR:=S (show R= .ok pre by rw[<-HN.1.1,HN.1.2.1,hq];simp[LexR.pre]);clear hq;gi_wp2;refine⟨λ_ h=>(by cases h),?_⟩;gi_wp2;refine bZ (results_none rfl _ _ _) rfl ⟨⟨_,rfl⟩,?_⟩;rw[HR.1];exact⟨hJ _ _ _ hj1 (gZ w1 _ _),j,l',hs1.alloc _⟩
  | bad k'=>
    rw[hq]at hp;obtain⟨⟨t,rfl⟩,j,l',hs1⟩:=hp;have HR:=S (show R= .bad k' by rw[<-HN.1.1,HN.1.2.1,hq];simp[LexR.pre]);clear hq;gi_wp2;refine⟨λ_ h=>(by cases h),?_⟩;gi_wp2;refine bZ (results_none rfl _ _ _) rfl ⟨⟨_,rfl⟩,?_⟩;rw[HR.1];exact⟨⟨_,hJ _ _ _ hj1 (gZ w1 _ _)⟩,j,l',hs1.alloc _⟩
  | tok t j l' m'=>
    rw[hq]at hp;obtain⟨rfl,hs1⟩:=hp;have HR:=S (show(CD s m' j l').pre (pre++[t])=R by rw[<-HN.1.1,HN.1.2.1,hq,<-LexR.pre_cons]);have hm':=HLT.1 _ _ _ _ hq;clear hq;have gA:=gZ w1 (.cells #[.int .i64 t.kind,.int .i64 t.pos,str t.text] 250 (0,0)) (some b);obtain⟨fn,tmps,assign,body,hy,hRd⟩:=hY pre t _ (hJ _ _ _ hj1 gA) (by omega);gi_wp2_with fail;refine hRd.mono ?_;rintro e W3 ⟨rfl,hj3,hb3⟩;have hc3:=(hb3.cell (p:=⟨cb,0,none⟩) hn₀.2.1).trans (B9 gA hc1 (by simp;omega));have hs3:=(hs1.alloc (.cells #[.int .i64 t.kind,.int .i64 t.pos,str t.text] 250 (0,0))).below hb3 hn₀.1;have ht3:=htab _ _ (ht1.gb gA (by simp)) hb3;clear hRd hy;gi_wp2;exact⟨_,_,_,_,_,_,_,_,_,_,_,_,_,_,_,_,rfl,pre++[t],k-1,m',j,l',by omega,by simp;omega,by omega,HR.1,hc3,hs3,ht3,hj3⟩
 ·exact⟨_,_,_,_,_,_,_,_,_,_,_,_,_,_,_,_,rfl,[],n,n,i,line,by omega,by simp;omega,nR _,by rw[LexR.pre_nil];exact hl,hcb,hs,ht,h0⟩
attribute [local go_sem] Oper.semAt_some
def FJ(t:Tok):List Value:=[.int .i64 t.kind,.int .i64 t.pos,str t.text]
def CY(l:List Tok):List Value:=l.flatMap FJ
def PW(l:List Tok)(t:Tok):CY (l++[t])=CY l++FJ t:=by simp[CY]
def ColJ(w:World)(b lr:Nat)(rec:Loop)(pre:List Tok)(W:World):Prop:=
 ∃v,Blk W w.heap.size [v] 197/\W.ownsRow (w.heap.size+3) 250 3 v pre.length (CY pre)/\W.heap[lr]? =some (.loop rec)/\W.heap[w.heap.size+1]? =some (.deferred (some []))/\w.grownBy W (some b)
def ColJ.gb{lr:Nat}{rec:Loop}{pre:List Tok}{A B:World}(h:ColJ w b lr rec pre A)(g:A.grownBy B (some b))(hb:b<w.heap.size)(hl:b<lr):ColJ w b lr rec pre B:=by
 obtain⟨v,h1,h2,h3,h4,h5⟩:=h;exact⟨v,h1.gb g (by simp;omega),Cs h2 g (by intro k hk _ e;cases e;omega),CL g h3 (by simp;omega),CL g h4 (by simp;omega),Z h5 g⟩
def Tabs.below{B:Nat}(h:Tabs B w)(g:Below n w w1)(hB:B<=n):Tabs B w1:=by
 have hlow:=h.low;refine⟨⟨λc hc=>(g.cell (p:=⟨_,_,none⟩) (by simp<;>omega)).trans (h.utf8.1 c hc),λi hi=>⟨(g.cell (p:=⟨_,_,none⟩) (by simp<;>omega)).trans (h.utf8.2 i hi).1,(g.cell (p:=⟨_,_,none⟩) (by simp<;>omega)).trans (h.utf8.2 i hi).2⟩⟩,hlow,?_,?_⟩
 ·obtain⟨R,oR,cap,hR,hc,ht⟩:=h.case;refine⟨R,oR,cap,hR,(g.cell (p:=⟨_,_,none⟩) (by simp<;>omega)).trans hc,λi hi=>?_⟩;have:=ht i hi;have hk:R<n:=by omega
  exact⟨(g.cell (p:=⟨_,_,none⟩) hk).trans this.1,(g.cell (p:=⟨_,_,none⟩) hk).trans this.2.1,(g.cell (p:=⟨_,_,none⟩) hk).trans this.2.2.1,(g.cell (p:=⟨_,_,none⟩) hk).trans this.2.2.2.1,(g.cell (p:=⟨_,_,none⟩) hk).trans this.2.2.2.2⟩
 ·have hg:=h.glob;unfold Glob Lib.TabIs World.var? at*;simp only[Hz,Option.bind_some]at hg ⊢;rw[g.block _ (by omega)];exact hg
def Sc.putObj(h:Sc w b s i line begun bad)(k:Nat)(o:Obj)(hk:k≠b):Sc (w.putObj k o) b s i line begun bad:=⟨(World.putObj_heap_other hk.symm).trans h.blk,h.le,h.few⟩
def NB(h:n<=k)(W3:World)(o:Obj):Below n W3 (W3.putObj k o):=
 ⟨rfl,rfl,rfl,by simp[World.putObj],λi hi=>World.putObj_heap_other (by omega)⟩
structure ColR(w W:World)(b lr:Nat)(rec:Loop)(t:Tok)(v:Value)(pre:List Tok)(W2:World):Prop where
 box:Blk W2 w.heap.size [v] 197
 tok:Blk W2 W.heap.size [.int .i64 t.kind,.int .i64 t.pos,str t.text] 250
 row:W2.ownsRow (w.heap.size+3) 250 3 v pre.length (CY pre)
 loop:W2.heap[lr]? =some (.loop {rec with state:= .busy})
 dfr:W2.heap[w.heap.size+1]? =some (.deferred (some []))
 g:w.grownBy W2 (some b)
 below:Below w.heap.size W W2
def OT{g:Operand}{ps:Array Tmp}{assign body:Code}{a:Act}
 (hro:F.round=none) (h1:1<=n) {gf:Nat} {lb:Array Value} (hg:a.eval g= .func (.func gf) #[] lb) (hFg:F.fn gf) (eg:∀args w,(callFunc gf args).run P w= .ok (.enter gf args) w)
 (h:∀fn,F.fn fn->CallsIn F (n-1) P gf (#[.func (.yield (w.heap.size+1)) #[] #[]]++lb) ((w.alloc (.deferred (some []))).alloc (.loop {state:= .ready,pending:=none,fn:=fn,tmps:=a.tmps,params:=ps,assign:=assign,body:=body,defers:=w.heap.size}))
  λe W=>(∃v,e= .returned v)/\∃r,W.heap[w.heap.size+1]? =some (.loop r)/\r.state ≠ .busy/\r.pending=none/\Q .normal {a with defers:={target:= .collected w.heap.size,args:=#[]}::a.defers} (W.putObj (w.heap.size+1) (.loop {r with state:= .exhausted}))):
 (Code.rangeFunc g ps assign body).wpIn F n P Q a w:=by
 refine wpIn_rangeFunc ?_;intro fn hfn;rw[hro];refine⟨w.heap.size+1,[{target:= .collected w.heap.size,args:=#[]}],(w.alloc (.deferred (some []))).alloc (.loop {state:= .ready,pending:=none,fn:=fn,tmps:=a.tmps,params:=ps,assign:=assign,body:=body,defers:=w.heap.size}),
  {target:= .fn (.func gf) lb,args:=#[.func (.yield (w.heap.size+1)) #[] #[]]},(w.alloc (.deferred (some []))).alloc (.loop {state:= .ready,pending:=none,fn:=fn,tmps:=a.tmps,params:=ps,assign:=assign,body:=body,defers:=w.heap.size}),gf,
  #[.func (.yield (w.heap.size+1)) #[] #[]]++lb,(w.alloc (.deferred (some []))).alloc (.loop {state:= .ready,pending:=none,fn:=fn,tmps:=a.tmps,params:=ps,assign:=assign,body:=body,defers:=w.heap.size}),run_enterLoop_outer _ _ _ _ _,?_,?_,?_,λ_=>h1,?_⟩
 ·simp only[resolve,hg];simp[go_sem]
 ·intro f' hf';simp[Target.leads]at hf';subst hf';exact hFg
 ·simp[invoke,go_sem,eg]
 ·refine(h fn hfn).mono ?_;rintro e W ⟨⟨v,rfl⟩,r,hr,hb,hp,hq⟩;exact⟨none,_,(run_endLoop (P:=P) hr hb).trans (congrArg (λp=>Result.ok p _) hp),hq⟩
def PA{cb:Nat}{R:LexR}(hbc:b≠cb)(hcb:w.cell? ⟨cb,0,none⟩=some (.pointer (some ⟨b,0,none⟩)))(hs:Sc w b s i line line (-1))(ht:Tabs b w)
 (hR:R ≠ .out) (hl:CD s n i line=R) (hn:n<100000):
 Calls Tryz.prog 232 #[.slice none 0 0,.func (.func 233) #[] #[.pointer (some ⟨cb,0,none⟩)]] w
  λe w'=>w.grownBy w' (some b)/\(∃v,e= .returned v/\Lv b s (λl W=>W.ownsRow (w.heap.size+3) 250 3 v l.length (CY l)) R w'):=by
 have hb:=hs.lt;have hcl:=bY w _ hcb;refine(callsIn_wide (n:=6)).1 ?_;refine callsIn_of_wp_marks func232 rfl trivial ?_ rfl;simp only[ntmps232,List.size_toArray,List.length_cons,List.length_nil,Nat.reduceAdd,Nat.reduceSub,Array.replicate_succ,Array.replicate_zero,List.push_toArray,List.append_toArray,List.nil_append,List.cons_append];gi_wp2;refine OT rfl (by omega) (gf:=233) (lb:=#[.pointer (some ⟨cb,0,none⟩)]) rfl trivial (enters_of func233 (by kernel_rfl) rfl) ?_;intro fn hfn;have hsz:(w.alloc (.cells #[.slice none 0 0] 197)).heap.size=w.heap.size+1:=by simp
 rw[hsz];generalize hrec:Loop.mk _ _ _ _ _ _ _ _=rec0;have g0:w.grownBy (((w.alloc (.cells #[.slice none 0 0] 197)).alloc (.deferred (some []))).alloc (.loop rec0)) none:=Ac (Ac (gZ w _ none) _) _;have hJ0:ColJ w b (w.heap.size+1+1) rec0 [] (((w.alloc (.cells #[.slice none 0 0] 197)).alloc (.deferred (some []))).alloc (.loop rec0)):=by
  refine⟨.slice none 0 0,((Blk.new w [.slice none 0 0] 197).alloc _).alloc _,World.ownsRow_nil _ _ _ _,?_,?_,Ao g0⟩
  ·have:=World.alloc_heap_new ((w.alloc (.cells #[.slice none 0 0] 197)).alloc (.deferred (some []))) (.loop rec0);simpa using this
  ·have:=World.alloc_heap_new (w.alloc (.cells #[.slice none 0 0] 197)) (.deferred (some []));rw[hsz]at this;exact(Below.heap_alloc _ _ _ (by simp)).trans this
 have hA:=XM 4 (w.heap.size+1+1) cb b w.heap.size s (ColJ w b (w.heap.size+1+1) rec0) ⟨hb,hcl,hbc⟩ (λpre A B h g=>h.gb g hb (by omega)) ?hY
  (λA B h g=>?htab) n i line R hR hl hn _ (Ae g0 hcb) (hs.gbN g0) (ht.gbN g0) hJ0
 case htab=>exact h.below g (by omega)
 case hY=>
  rintro pre t W ⟨v,hB,hO,hlr,hD,hg⟩ hlen;have hpar:rec0.params=#[7]:=by rw[<-hrec]
  have hsize:=hg.size;have hlr1:(W.alloc (.cells #[.int .i64 t.kind,.int .i64 t.pos,str t.text] 250)).heap[w.heap.size+1+1]? =some (.loop rec0):=(Below.heap_alloc _ _ _ (Array.getElem?_eq_some_iff.1 hlr).1).trans hlr;refine⟨_,_,_,_,run_yield hlr (by rw[hpar];rfl),roundIn_of_wpIn trivial ?_⟩;obtain⟨post,hpost⟩:∃post:Ending->World->Prop,post=λe W'=>e= .returned (.bool true)/\ColJ w b (w.heap.size+1+1) rec0 (pre++[t]) W'/\Below w.heap.size W W':=⟨_,rfl⟩;rw[<-hpost];have hfin:∀(W3:World),W3.heap[w.heap.size+1+1]? =some (.loop {rec0 with state:= .busy})->(ColJ w b (w.heap.size+1+1) rec0 (pre++[t]) (W3.putObj (w.heap.size+1+1) (.loop rec0))/\Below w.heap.size W W3)->∀a,roundPost Tryz.prog (w.heap.size+1+1) post .normal a W3:=by
   intro W3 h3 hc a;refine⟨_,_,run_endRound none h3,?_⟩;have he:({({rec0 with state:= .busy}:Loop)with state:=if(Option.isNone (none:Option Code))then .ready else .done,pending:=none}:Loop)=rec0:=by rw[<-hrec];rfl
   rw[he,hpost];exact⟨rfl,hc.1,hc.2.trans (NB (n:=w.heap.size) (by omega) W3 _)⟩
  have hst:rec0.state= .ready:=by rw[<-hrec]
  have HF:=S (X hlr1 (X hfin hst));clear hlr1 hfin hpar hst hpost;rw[<-hrec];simp only[];gi_wp2;refine⟨_,run_beginRound HF.1.1 HF.1.2.2,?_⟩;have gA:=gZ W (.cells #[.int .i64 t.kind,.int .i64 t.pos,str t.text] 250 (0,0)) none;have hltR:=(Array.getElem?_eq_some_iff.1 hlr).1;have h2:ColR w W b (w.heap.size+1+1) rec0 t v pre ((W.alloc (.cells #[.int .i64 t.kind,.int .i64 t.pos,str t.text] 250 (0,0))).putObj (w.heap.size+1+1) (.loop {rec0 with state:= .busy})):=by
   have hlA:w.heap.size+1+1≠W.heap.size:=by omega
   have hne2:w.heap.size+1+1<(W.alloc (.cells #[.int .i64 t.kind,.int .i64 t.pos,str t.text] 250 (0,0))).heap.size:=by simp;omega
   refine⟨(World.putObj_heap_other (by omega)).trans (hB.alloc _),(World.putObj_heap_other (λe=>hlA e.symm)).trans (Blk.new W [.int .i64 t.kind,.int .i64 t.pos,str t.text] _),ownsRow_putObj (hO.alloc _) _ ((Below.heap_alloc _ _ _ hltR).trans hlr) rfl,World.putObj_heap_same hne2,(World.putObj_heap_other (by omega)).trans ((Below.heap_alloc _ _ _ (by omega)).trans hD),G7 (Ac hg _) _ _ (by omega),(NX gA).mono hsize|>.trans (NB (by omega) _ _)⟩
  generalize(W.alloc (.cells #[.int .i64 t.kind,.int .i64 t.pos,str t.text] 250 (0,0))).putObj (w.heap.size+1+1) (.loop {rec0 with state:= .busy})=W2 at*;have hb2:=h2.box.cell' 0 rfl;have hf2:=h2.box.frozen 0;have k0:=h2.tok.cell' 0 rfl;have k1:=h2.tok.cell' 1 rfl;have k2:=h2.tok.cell' 2 rfl;have hsz2:=h2.g.size;obtain⟨i0,hi,hz0,hz1,hz2⟩:=info_parts Wo;have hsz3:=(Array.getElem?_eq_some_iff.1 h2.loop).1;gi_wp2_with (gi_at_builtin;refine wpListIn_append_own _ rfl (.tmp 8) (.tmp 10) 197 rfl (w.heap.size+3) 250 i0 _ 3 32 underlying197 hi hz0 hz1 hz2 rfl (by decide) v pre.length (CY pre) rfl (h2.row.alloc _) ⟨W2.heap.size,0,none⟩ 1 1 (FJ t) rfl rfl (AP W2 (FJ t) 250) (by simp[FJ,Value.oneCell']) (by unfold maxLen;omega) (by omega) (by simp;omega) ?_;intro v' w1 hown' hgrow _;obtain⟨g',cap',rfl⟩:=ownsRow_succ hown';(have hne:∀k,k<w.heap.size+3->some k≠v.ownBlock:=λk hk e=>by have:=(h2.row.lt _ e.symm).1;omega);(have hbx:=(h2.box.alloc (.cells (FJ t).toArray 250 (0,0))).gb hgrow (hne _ (by omega)));(have hx0:=hbx.cell 0);(have hxf:=hbx.frozen 0);(have hxl:=hbx.lt);(simp only[List.getElem?_cons_zero]at hx0));have hl5:=(Below.heap_setCell w1 ⟨w.heap.size,0,none⟩ (Value.slice (some ⟨g',0,none⟩) (pre.length+1) cap') (w.heap.size+1+1) (by simp;omega)).trans (CL hgrow ((Below.heap_alloc _ _ _ hsz3).trans h2.loop) (hne _ (by omega)))
  have hd5:=(Below.heap_setCell w1 ⟨w.heap.size,0,none⟩ (Value.slice (some ⟨g',0,none⟩) (pre.length+1) cap') (w.heap.size+1) (by simp)).trans (CL hgrow ((Below.heap_alloc _ _ _ (by omega)).trans h2.dfr) (hne _ (by omega)));have hb5:Below w.heap.size W2 (w1.setCell ⟨w.heap.size,0,none⟩ (Value.slice (some ⟨g',0,none⟩) (pre.length+1) cap')):=
   ⟨hgrow.os,hgrow.tape,hgrow.output,by have:=hgrow.size;simp at this ⊢;omega,λk hk=>(Below.heap_setCell _ _ _ _ (by simp;omega)).trans ((hgrow.block k (by simp;omega) (λe=>hne k (by omega) e)).trans (Below.heap_alloc _ _ _ (by omega)))⟩
  have hr5:=ownsRow_putObj (Cs hown' (Ai (Aa w1 (some w.heap.size)) 0 (Value.slice (some ⟨g',0,none⟩) (pre.length+1) cap')) (by intro k hk _ e;cases e;omega)) (Obj.loop rec0) hl5 rfl;refine HF.1.2.1 _ hl5 ⟨⟨_,(World.putObj_heap_other (by omega)).trans (hbx.set 0 _),?_,World.putObj_heap_same (Array.getElem?_eq_some_iff.1 hl5).1,(World.putObj_heap_other (by omega)).trans hd5,?_⟩,h2.below.trans hb5⟩ _
  ·rw[PW,lA];exact hr5
  ·refine G7 ?_ _ _ (by omega);have g2:w.grownBy w1 (some b):=⟨hgrow.os.trans h2.g.os,hgrow.tape.trans h2.g.tape,hgrow.output.trans h2.g.output,by have:=hgrow.size;simp at this;omega,λk hk hkb=>((hgrow.block k (by simp;omega) (λe=>hne k (by omega) e)).trans (Below.heap_alloc _ _ _ (by omega))).trans (h2.g.block k hk hkb)⟩;exact Af g2 _ _ (.inr (nR _))
 simp only[List.append_toArray,List.cons_append,List.nil_append];refine hA.mono ?_;rintro e W ⟨⟨v0,rfl⟩,hE⟩;refine⟨⟨_,rfl⟩,rec0,?_⟩;cases R with
 |out=>exact absurd rfl hR
 | ok l=>
   obtain⟨⟨v,hB,hO,hlr,hD,hg⟩,j,l',hs2⟩:=hE;refine⟨hlr,by rw[<-hrec];simp,by rw[<-hrec],?_⟩;have hB6:=(World.putObj_heap_other (o:=Obj.loop {rec0 with state:= .exhausted}) (by omega:w.heap.size≠w.heap.size+1+1)).trans hB;have hD6:=(World.putObj_heap_other (o:=Obj.loop {rec0 with state:= .exhausted}) (by omega:w.heap.size+1≠w.heap.size+1+1)).trans hD;have hO6:=ownsRow_putObj hO (Obj.loop {rec0 with state:= .exhausted}) hlr rfl;have hg6:=G7 hg (w.heap.size+1+1) (Obj.loop {rec0 with state:= .exhausted}) (by omega);have hs6:=hs2.putObj (w.heap.size+1+1) (Obj.loop {rec0 with state:= .exhausted}) (by omega);generalize(W.putObj (w.heap.size+1+1) (Obj.loop {rec0 with state:= .exhausted}))=W6 at*;have hc6:=Blk.cell (cs:=[v]) hB6 0;simp only[List.getElem?_cons_zero]at hc6;clear hA hJ0 hrec;gi_wp2;refine⟨by simp,.inl ⟨_,_,rfl,run_takeDeferred hD6,?_⟩⟩;exact⟨_,results_tmp rfl _ _ _,G7 hg6 _ _ (by omega),_,rfl,ownsRow_putObj hO6 _ hD6 rfl,j,l',hs6.putObj _ _ (by omega)⟩
 | bad k=>
   obtain⟨⟨l,v,hB,hO,hlr,hD,hg⟩,j,l',hs2⟩:=hE;refine⟨hlr,by rw[<-hrec];simp,by rw[<-hrec],?_⟩;have hB6:=(World.putObj_heap_other (o:=Obj.loop {rec0 with state:= .exhausted}) (by omega:w.heap.size≠w.heap.size+1+1)).trans hB;have hD6:=(World.putObj_heap_other (o:=Obj.loop {rec0 with state:= .exhausted}) (by omega:w.heap.size+1≠w.heap.size+1+1)).trans hD;have hO6:=ownsRow_putObj hO (Obj.loop {rec0 with state:= .exhausted}) hlr rfl;have hg6:=G7 hg (w.heap.size+1+1) (Obj.loop {rec0 with state:= .exhausted}) (by omega);have hs6:=hs2.putObj (w.heap.size+1+1) (Obj.loop {rec0 with state:= .exhausted}) (by omega);generalize(W.putObj (w.heap.size+1+1) (Obj.loop {rec0 with state:= .exhausted}))=W6 at*;have hc6:=Blk.cell (cs:=[v]) hB6 0;simp only[List.getElem?_cons_zero]at hc6;clear hA hJ0 hrec;gi_wp2;refine⟨by simp,.inl ⟨_,_,rfl,run_takeDeferred hD6,?_⟩⟩;exact⟨_,results_tmp rfl _ _ _,G7 hg6 _ _ (by omega),_,rfl,⟨l,ownsRow_putObj hO6 _ hD6 rfl⟩,j,l',hs6.putObj _ _ (by omega)⟩
end Go.Proofs.YtbjfaimkiclhgaaGreatDoor
