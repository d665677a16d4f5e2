/-
  LexJ LexK LexL Line LineB VaB VaE VaF CkC CkD CkE
-/
import Derived.Test.YtbjfaimkiclhgaaGreatDoorCt07
import Derived.Deep.DeepCutAuto
import Derived.RangeFuncNested
import Derived.RangeFuncBound
import Derived.RangeFuncCalls
import Derived.RangeFuncLeaves
import Derived.RangeFuncBox
import Derived.Shelf.Abstract
import Derived.OwnWalkIn
import Derived.TacticsInMore
import Derived.LoopNIn
import Derived.LoopIn
import Derived.Maps.AppendAt
import Derived.Test.YtbjfaimkiclhgaaGreatDoorCt03
import Derived.Test.YtbjfaimkiclhgaaGreatDoorCt06
import Derived.Test.YtbjfaimkiclhgaaGreatDoorCt04
import Derived.Maps.RangeWalk
import Derived.Sort.OwnSorted
import Derived.Lib.SlicesCompact
import Derived.Test.YtbjfaimkiclhgaaGreatDoorCt05
set_option linter.all false
set_option maxRecDepth 100000
set_option maxHeartbeats 8000000
namespace Go.Proofs.YtbjfaimkiclhgaaGreatDoor
open Go.Proofs.Tryz
open Go.RowKit
variable{w w1 w2:World}{b i j k n B cc:Nat}{s:Bs}{line begun:Bool}{bad:Int}{r:Option Nat}{l:List (Bs×Bs)}{F:Fence}{P:Program}{Q:Exit->Act->World->Prop}{a tv v x y z c:Value}{cs:List Value}{t:TypeId}{ok ok':Nat->Prop}{day:Bs->Int}{left:List Nat}{xs:List Bs}{ca:Option Addr}
def Sc.drew(h:Sc w b s i line begun bad):Sc w.drew b s i line begun bad:=h.drewN 1
def Vz(s:Bs)(l:Bool)(R:NR)(hR:R ≠ .out):∀(d k m:Nat),s.length-k=d->k<=s.length->Bk s m k l=R->∃m',1<=m'/\m'<=m/\Bk s m' (AV s k) l=R:=by
 intro d;induction d with
 | zero=>
   intro k m hd hk h;rw[show AV s k=k from Ei (by omega)];cases m with
   |zero=>exact absurd h.symm hR
   |succ m=>exact⟨m+1,by omega,nR _,h⟩
 | succ d ih=>
   intro k m hd hk h;have hkl:k<s.length:=by omega
   cases m with
   |zero=>exact absurd h.symm hR
   | succ m=>
     cases hb:cls 3 (bAt s k)with
     | false=>
       rw[show AV s k=k from DA hkl hb];exact⟨m+1,by omega,nR _,h⟩
     | true=>
       rw[show AV s k=AV s (k+1)from Cy hkl hb];have h10:bAt s k≠10:=by intro e;rw[e]at hb;revert hb;decide
       have hs:Cw s k l= .again (k+1) l:=by
        unfold Cw;rw[if_neg (by omega),if_neg h10,if_pos hb]
       rw[Bk,hs]at h;obtain⟨m',h1,h2,h3⟩:=ih (k+1) m (by omega) (by omega) h;exact⟨m',h1,by omega,h3⟩
def Xv(s:Bs)(k:Nat)(p:Bs){r:Bool}(hr:p.isPrefixOf (s.drop k)=r)(w:World):
 Calls Tryz.prog 191 #[.string ((⟨s.toArray⟩:ByteArray).extract k s.length),.string ⟨p.toArray⟩] w λe w'=>e= .returned (.bool r)/\w'=w:=(JO s k p hr w).mono λ_ _ h=>⟨h.1,h.2.symm⟩
section
variable {l:Bool}
def WQ(h:s.length<=j):Cw s j l=if l then .tok ⟨5,j,[]⟩ j false else .stop:=if_pos h
def Yo(h:j<s.length)(h10:bAt s j=10):Cw s j l=if l then .tok ⟨5,j,[]⟩ (j+1) false else .again (j+1) false:=(if_neg (by omega)).trans (if_pos h10)
def WP(h:j<s.length)(h10:bAt s j≠10)(hb:cls 3 (bAt s j)=false)(hc:((bAt s j==42&&!l)||EQ s j)=true):Cw s j l=match BR s j with
 |some k=> .bad k
 |none=> .again (At s j) l:=(if_neg (by omega)).trans ((if_neg h10).trans ((if_neg (by rw[hb];simp)).trans (if_pos hc)))
def UK(h:j<s.length)(h10:bAt s j≠10)(hb:cls 3 (bAt s j)=false)(hc:((bAt s j==42&&!l)||EQ s j)=false)(h59:bAt s j=59):Cw s j l=if CS s (AV s (j+1))then
 match BR s (AV s (j+1))with
 |some k=> .bad k
 |none=> .again (BS s (AV s (j+1))) l
 else .bad j:=(if_neg (by omega)).trans ((if_neg h10).trans ((if_neg (by rw[hb];simp)).trans ((if_neg (by rw[hc];simp)).trans (if_pos h59))))
def WR(h:j<s.length)(h10:bAt s j≠10)(hb:cls 3 (bAt s j)=false)(hc:((bAt s j==42&&!l)||EQ s j)=false)(h59:bAt s j≠59):Cw s j l=BP s j:=(if_neg (by omega)).trans ((if_neg h10).trans ((if_neg (by rw[hb];simp)).trans ((if_neg (by rw[hc];simp)).trans (if_neg h59))))
end
def Mi(h:Sc w b s i true true bad)(hj:j=if i<s.length then i+1 else i):
 Calls Tryz.prog 263 #[.pointer (some ⟨b,0,none⟩)] w λe w'=>e= .returned (.tuple #[AR ⟨5,i,[]⟩,.bool true])/\w.grownBy w' (some b)/\Sc w' b s j false false bad:=by
 subst hj;refine(Mh h).mono ?_;rintro e w' ⟨g,hs,he⟩;exact⟨by rw[he];simp,g,hs⟩
def ME(h:Sc w b s i false false bad)(hj:j=if i<s.length then i+1 else i){r:Bool}(hr:(!decide (i<s.length))=r):
 Calls Tryz.prog 263 #[.pointer (some ⟨b,0,none⟩)] w λe w'=>e= .returned (.tuple #[tok0,.bool r])/\w.grownBy w' (some b)/\Sc w' b s j false false bad:=by
 subst hj hr;refine(Mh h).mono ?_;rintro e w' ⟨g,hs,he⟩;exact⟨by rw[he];simp,g,hs⟩
def Nq(w:World)(b:Nat)(s:Bs)(r:NR)(e:Ending)(w':World):Prop:=
 w.grownBy w' (some b)/\match r with
  | .tok t j l _=>e= .returned (.tuple #[AR t,.bool true])/\Sc w' b s j l l (-1)
  | .stop=>(∃t,e= .returned (.tuple #[AR t,.bool false]))/\∃j l,Sc w' b s j l l (-1)
  | .bad k=>(∃t,e= .returned (.tuple #[AR t,.bool false]))/\∃j l,Sc w' b s j l l k
  | .out=>False
def V6{w':World}{m:Nat}{l:Bool}{R:NR}{t:Tok}{ok:Bool}(hF:TokFin b s (BP s j) t ok w')(hS:Cw s j l=BP s j)(hM:Bk s (m+1) j l=R)(g:w.grownBy w' (some b)):
 Nq w b s R (.returned (.tuple #[AR t,.bool ok])) w':=by
 subst hM;refine⟨g,?_⟩;rw[Bk,hS];cases ht:BP s j with
 |tok t' j' l'=>rw[ht]at hF;obtain⟨rfl,rfl,hs⟩:=hF;exact⟨rfl,hs⟩
 |bad k=>rw[ht]at hF;obtain⟨rfl,hs⟩:=hF;exact⟨⟨t,rfl⟩,hs⟩
 |again j' l'=>rw[ht]at hF;exact hF.elim
 |stop=>rw[ht]at hF;exact hF.elim
structure NxRel(w:World)(b:Nat)(s:Bs)(k:Nat)(l:Bool)(wr:World):Prop where
 sc:Sc wr b s k l l (-1)
 res:Blk wr w.heap.size [.int .i64 0,.int .i64 0,str []] 250
 g:w.grownBy wr (some b)
 tabs:Tabs b wr
def NxRel.gbN{l:Bool}(h:NxRel w b s k l w1)(g:w1.grownBy w2 none):NxRel w b s k l w2:=
 ⟨h.sc.gbN g,h.res.gb g (by simp),Z h.g (A2 g),h.tabs.gbN g⟩
def Xh(h:Sc w b s i line line (-1))(ht:Tabs b w)(hn:Bk s n i line ≠ .out):
 Calls Tryz.prog 234 #[.pointer (some ⟨b,0,none⟩)] w (Nq w b s (Bk s n i line)):=by
 have hb:=h.lt;generalize hR:Bk s n i line=R at*;have hA:NxRel w b s i line (w.alloc (.cells #[.int .i64 0,.int .i64 0,str []] 250 (0,0))):=
  ⟨h.alloc _,Blk.new _ [.int .i64 0,.int .i64 0,str []] _,gZ w _ _,ht.gbN (gZ w _ none)⟩
 have HR:=S (X hR hn);clear h ht hR hn;go_enter func234,ntmps234;go_wp2_with fail;go_loopg [] n (λg wr=>∃k l,Bk s g k l=R/\NxRel w b s k l wr)
 case atStart=>exact⟨i,line,HR.1.1,hA⟩
 case round=>
  obtain⟨k,l,hk,hr⟩:=hrel;clear hA;have hN:=Vz s l R HR.1.2 _ k gk rfl hr.sc.le hk;have HN:=S hN;clear hk hN;have hb1:=hr.sc.lt;have gs:=hr.g.size;go_wp2_with fail;refine(WO hr.sc).mono ?_;rintro e w1 ⟨rfl,hs1,g1⟩;have hq:NxRel w b s (AV s k) l w1:=⟨hs1,hr.res.gb g1 (by simp;omega),Z hr.g g1,hr.tabs.gb g1 (by simp)⟩;have hbl:AV s k<s.length->cls 3 (bAt s (AV s k))=false:=λh=>Lc h;obtain⟨m,hm1,hm2,hm3⟩:=HN.1;have HM:=S hm3;clear HN hs1 hr hm3 hb1 gs;generalize AV s k=j at*;have hb1:=hq.sc.lt;have gs:=hq.g.size;have hf:=hq.sc.few;have hjl:=hq.sc.le;have c0:=hq.sc.c0;have c1:=hq.sc.c1;have c258:=hq.sc.c258;have c259:=hq.sc.c259;have r0:=hq.res.cell' 0 rfl;have r1:=hq.res.cell' 1 rfl;have r2:=hq.res.cell' 2 rfl;have rf:=λk=>hq.res.frozen k;have rl:=hq.res.lt;obtain⟨m,rfl⟩:∃q,m=q+1:=⟨m-1,by omega⟩;by_cases hj:j<s.length
  ·have hj1:((j:Int)==(s.length:Int))=false:=by simp;omega
   have hg:=λh=>GE s j h hj;have hb3:=hbl hj;by_cases h10:bAt s j=10
   ·have hS:=Yo (l:=l) hj h10;have e10:((bAt s j).toNat:Int)==10:=by rw[h10];rfl
    cases l with
    | true=>
      have HQ:=S (show R= .tok ⟨5,j,[]⟩ (j+1) false m by rw[<-HM.1,Bk,hS];rfl);have HE:=S (fun(W:World)(g:w1.grownBy W none)=>Mi (hq.sc.gbN g) (j:=j+1) (by rw[if_pos hj]));clear hS h10 hbl hb3;generalize bAt s j=q at*;go_wp2_with fail;go_quiet(fail);go_wp2_with fail;refine(HE.1 _ (An (Aa _ _) _)).mono ?_;rintro e w2 ⟨rfl,g2,hs2⟩;have hr2:=(hq.res.drewN nq).gb g2 (by simp;omega);have z0:=hr2.cell' 0 rfl;have z1:=hr2.cell' 1 rfl;have z2:=hr2.cell' 2 rfl;have zf:=λk=>hr2.frozen k;have zl:=hr2.lt;go_wp2_with fail;go_region;go_wp2;refine bZ (Cc (t:=⟨5,j,[]⟩) (r:=true) rfl _ (((hr2.set3 _ _ _).alloc _).drew) rfl rfl) rfl ⟨?_,?_⟩
      ·have g:=Z (An hq.g nq) g2;exact(by repeat(first| (with_reducible assumption)| (with_reducible refine Ac ?_ _)| (with_reducible refine Ae ?_)| ((with_reducible refine Af ?_ _ _ ?h2);case h2=>exact .inr (nR _))))
      ·rw[HQ.1];exact⟨rfl,((((hs2.set_other _ _ (by simp;omega)).set_other _ _ (by simp;omega)).set_other _ _ (by simp;omega)).alloc _).drew⟩
    | false=>
      have HQ:=S (show Bk s m (j+1) false=R by rw[<-HM.1,Bk,hS];rfl);have HE:=S (fun(W:World)(g:w1.grownBy W none)=>ME (hq.sc.gbN g) (j:=j+1) (by rw[if_pos hj]) (r:=false) (by simp[hj]));clear hS h10 hbl hb3;generalize bAt s j=q at*;go_wp2_with fail;go_quiet(fail);go_wp2_with fail;refine(HE.1 _ (An (Aa _ _) _)).mono ?_;rintro e w2 ⟨rfl,g2,hs2⟩;have hr2:=(hq.res.drewN nq).gb g2 (by simp;omega);have gg:=Z (An hq.g nq) g2;have ht2:=hq.tabs.gb (Z (An (Aa _ (some b)) nq) g2) (by simp);go_wp2;go_roundg m
      case measure=>omega
      case rel=>exact⟨j+1,false,HQ.1,hs2.alloc _,hr2.alloc _,Ac gg _,ht2.gbN (gZ _ _ _)⟩
   ·have e10:(((bAt s j).toNat:Int)==10)=false:=Eu (n:=10) (by decide) (by simpa using h10);clear hbl;go_upto_region 8 with(first|go_quiet(fail)|fail)
    go_cut [53] (λv53 wx=>v53= .bool (bAt s j==42&&!l)/\NxRel w b s j l wx)
    case first=>
     cases h42:bAt s j==42 with
     | false=>
       have e42:(((bAt s j).toNat:Int)==42)=false:=Eu (n:=42) (by decide) h42;generalize bAt s j=q at*;go_quiet(fail);go_wp2;go_meet;exact⟨by rw[h42];rfl,hq.gbN (by first|exact An (An (Aa _ _) _) _ |exact An (Aa _ _) _)⟩
     | true=>
       have e42:(((bAt s j).toNat:Int)==42)=true:=Eu (n:=42) (by decide) h42;generalize bAt s j=q at*;cases l;all_goals
        go_quiet(fail);go_wp2;go_meet;exact⟨by rw[h42];rfl,hq.gbN (by first|exact An (An (Aa _ _) _) _ |exact An (Aa _ _) _)⟩
    case rest=>
    obtain⟨rfl,hq2⟩:=hcut;clear gs hb1 c0 c1 c258 c259 r0 r1 r2 rf rl hq;have c0:=hq2.sc.c0;have c1:=hq2.sc.c1;have hleI:decide ((j:Int)<=s.length)=true:=by simp;omega
    go_upto_if 53 with fail
    go_cut [53] (λv53 wx=>v53= .bool ((bAt s j==42&&!l)||EQ s j)/\NxRel w b s j l wx)
    case first=>
     cases hs42:bAt s j==42&&!l with
     | true=>
       go_wp2;go_meet;exact⟨by rw[hs42];rfl,hq2⟩
     | false=>
       have HP:=S (Xv s j [38,38] (r:=EQ s j) rfl);go_wp2_with fail;go_quiet((go_at_call 191;refine(HP.1 _).mono ?_;rintro e w9 ⟨rfl,rfl⟩;exact⟨rfl,_,rfl⟩));go_wp2;go_meet;exact⟨by rw[hs42];rfl,hq2.gbN (An (Aa _ _) _)⟩
    case rest=>
    obtain⟨rfl,hq⟩:=hcut;clear c0 c1 hq2 e10;generalize wc=w1 at*;have gs:=hq.g.size;have hb1:=hq.sc.lt;have c0:=hq.sc.c0;have c1:=hq.sc.c1;have c258:=hq.sc.c258;have c259:=hq.sc.c259;have r0:=hq.res.cell' 0 rfl;have r1:=hq.res.cell' 1 rfl;have r2:=hq.res.cell' 2 rfl;have rf:=λk=>hq.res.frozen k;have rl:=hq.res.lt;cases hcc:(bAt s j==42&&!l)||EQ s j with
    | true=>
      have HS:=S (WP (l:=l) hj h10 hb3 hcc);clear h10 hb3 hcc;generalize bAt s j=q at*;go_wp2_with fail;refine(Io (hq.sc.gbN (Aa _ _))).mono ?_;intro e w2 hp;obtain⟨g2,hp⟩:=hp;have g12:w1.grownBy w2 (some b):=Z (Aa _ _) g2;cases hcm:BR s j with
      | some k=>
        have HQ:=S (show R= .bad k by rw[<-HM.1,Bk,HS.1,hcm]);rw[hcm]at hp;clear hcm;obtain⟨rfl,j2,hs2⟩:=hp;have hr2:=hq.res.gb g12 (by simp;omega);have z0:=hr2.cell' 0 rfl;have z1:=hr2.cell' 1 rfl;have z2:=hr2.cell' 2 rfl;have zf:=λk=>hr2.frozen k;have zl:=hr2.lt;go_wp2;refine bZ (Cc (t:=⟨0,0,[]⟩) (r:=false) rfl _ (hr2.set3 _ _ _) rfl rfl) rfl ⟨?_,?_⟩
        ·have g:=Z hq.g g12;exact(Af (Af (Af (by assumption) _ _ (.inr (nR _))) _ _ (.inr (nR _))) _ _ (.inr (nR _)))
        ·rw[HQ.1];exact⟨⟨_,rfl⟩,j2,_,((hs2.set_other _ _ (by simp;omega)).set_other _ _ (by simp;omega)).set_other _ _ (by simp;omega)⟩
      | none=>
        have HQ:=S (show Bk s m (At s j) l=R by rw[<-HM.1,Bk,HS.1,hcm]);rw[hcm]at hp;clear hcm;obtain⟨rfl,hs2⟩:=hp;have hr2:=hq.res.gb g12 (by simp;omega);have ht2:=hq.tabs.gb g12 (by simp);have gg:=Z hq.g g12;go_wp2;go_roundg m
        case measure=>omega
        case rel=>exact⟨At s j,l,HQ.1,hs2,hr2,gg,ht2⟩
    | false=>
      by_cases h59:bAt s j=59
      ·have HS:=S (UK (l:=l) hj h10 hb3 hcc h59);have e59:(((bAt s j).toNat:Int)==59)=true:=Eu (n:=59) (by decide) (by simpa using h59);clear h10 hb3 hcc h59;generalize bAt s j=q at*;go_wp2_with fail;go_quiet(fail);go_wp2_with fail;refine(Pu (hq.sc.gbN (An (Aa _ _) _)) hj).mono ?_;intro e w2 hp;obtain⟨g2,hp⟩:=hp;have g12:w1.grownBy w2 (some b):=Z (An (Aa _ _) _) g2;have hr2:=hq.res.gb g12 (by simp;omega);have z0:=hr2.cell' 0 rfl;have z1:=hr2.cell' 1 rfl;have z2:=hr2.cell' 2 rfl;have zf:=λk=>hr2.frozen k;have zl:=hr2.lt;cases hgo:CS s (AV s (j+1))with
       | false=>
         have HQ:=S (show R= .bad j by rw[<-HM.1,Bk,HS.1,if_neg (by rw[hgo];simp)]);rw[if_neg (by rw[hgo];simp)]at hp;obtain⟨rfl,hs2⟩:=hp;clear hgo;have d1:=hs2.c1;have d260:=hs2.c260;have f260:=hs2.fr 260;go_wp2;refine bZ (Cc (t:=⟨0,0,[]⟩) (r:=false) rfl _ ((hr2.set_other _ _ (by simp;omega)).set3 _ _ _) rfl rfl) rfl ⟨?_,?_⟩
         ·have g:=Z hq.g g12;exact(by repeat(first| (with_reducible assumption)| ((with_reducible refine Af ?_ _ _ ?h2);case h2=>first|exact .inl rfl|exact .inr (nR _))))
         ·rw[HQ.1];exact⟨⟨_,rfl⟩,j,_,(((hs2.setBad _).set_other _ _ (by simp;omega)).set_other _ _ (by simp;omega)).set_other _ _ (by simp;omega)⟩
       | true=>
         rw[if_pos hgo]at hp;cases hcm:BR s (AV s (j+1))with
         | some k=>
           have HQ:=S (show R= .bad k by rw[<-HM.1,Bk,HS.1,if_pos hgo,hcm]);rw[hcm]at hp;clear hcm hgo;obtain⟨rfl,j2,hs2⟩:=hp;go_wp2;refine bZ (Cc (t:=⟨0,0,[]⟩) (r:=false) rfl _ (hr2.set3 _ _ _) rfl rfl) rfl ⟨?_,?_⟩
           ·have g:=Z hq.g g12;exact(Af (Af (Af (by assumption) _ _ (.inr (nR _))) _ _ (.inr (nR _))) _ _ (.inr (nR _)))
           ·rw[HQ.1];exact⟨⟨_,rfl⟩,j2,_,((hs2.set_other _ _ (by simp;omega)).set_other _ _ (by simp;omega)).set_other _ _ (by simp;omega)⟩
         | none=>
           have HQ:=S (show Bk s m (BS s (AV s (j+1))) l=R by rw[<-HM.1,Bk,HS.1,if_pos hgo,hcm]);rw[hcm]at hp;clear hcm hgo;obtain⟨rfl,hs2⟩:=hp;have ht2:=hq.tabs.gb g12 (by simp);have gg:=Z hq.g g12;go_wp2;go_roundg m
           case measure=>omega
           case rel=>exact⟨_,l,HQ.1,hs2,hr2,gg,ht2⟩
      ·have HS:=S (WR (l:=l) hj h10 hb3 hcc h59);have e59:(((bAt s j).toNat:Int)==59)=false:=Eu (n:=59) (by decide) (by simpa using h59);have HX:=S (λq=>UP (w:=((w1.drewN q).setCell ⟨b,258,none⟩ (.bool true)).setCell ⟨b,259,none⟩ (.bool true)) (((hq.sc.drewN q).setLine true).setBegun true) (hq.tabs.gb (Af (Af (An (Aa _ (some b)) q) _ _ (.inl rfl)) _ _ (.inl rfl)) (by simp)) hj h10);clear h10 hb3 hcc h59;generalize bAt s j=q at*;go_wp2_with fail;go_quiet(fail);have f258:=hq.sc.fr 258;have f259:=hq.sc.fr 259;go_wp2_with fail;refine(HX.1 _).mono ?_;intro e w3 hp;obtain⟨g3,t,ok,rfl,hF⟩:=hp.fin;have g13:w1.grownBy w3 (some b):=Z (Am (Am (An (Aa w1 (some b)) _) 258 _) 259 _) g3;have hr3:=hq.res.gb g13 (by simp;omega);have z0:=hr3.cell' 0 rfl;have z1:=hr3.cell' 1 rfl;have z2:=hr3.cell' 2 rfl;have zf:=λk=>hr3.frozen k;have zl:=hr3.lt;have HF:=S hF;clear hF;go_wp2;refine bZ (Cc (t:=t) (r:=ok) rfl _ (hr3.set3 _ _ _) rfl rfl) rfl ?_;have g:=Z hq.g g13;exact V6 (((HF.1.set_other _ _ (by simp;omega)).set_other _ _ (by simp;omega)).set_other _ _ (by simp;omega)) HS.1 HM.1 (Af (Af (Af (by assumption) _ _ (.inr (nR _))) _ _ (.inr (nR _))) _ _ (.inr (nR _)))
  ·have hj1:((j:Int)==(s.length:Int))=true:=by simp;omega
   have hS:=WQ (s:=s) (j:=j) (l:=l) (by omega);cases l with
   | true=>
     have HQ:=S (show R= .tok ⟨5,j,[]⟩ j false m by rw[<-HM.1,Bk,hS];rfl);have HE:=S (fun(W:World)(g:w1.grownBy W none)=>Mi (hq.sc.gbN g) (j:=j) (by rw[if_neg hj]));clear hS;go_wp2_with fail;go_quiet(fail);go_wp2_with fail;refine(HE.1 _ (An (Aa _ _) _)).mono ?_;rintro e w2 ⟨rfl,g2,hs2⟩;have hr2:=(hq.res.drewN nq).gb g2 (by simp;omega);have z0:=hr2.cell' 0 rfl;have z1:=hr2.cell' 1 rfl;have z2:=hr2.cell' 2 rfl;have zf:=λk=>hr2.frozen k;have zl:=hr2.lt;go_wp2_with fail;go_region;go_wp2;refine bZ (Cc (t:=⟨5,j,[]⟩) (r:=true) rfl _ (((hr2.set3 _ _ _).alloc _).drew) rfl rfl) rfl ⟨?_,?_⟩
     ·have g:=Z (An hq.g nq) g2;exact(by repeat(first| (with_reducible assumption)| (with_reducible refine Ac ?_ _)| (with_reducible refine Ae ?_)| ((with_reducible refine Af ?_ _ _ ?h2);case h2=>exact .inr (nR _))))
     ·rw[HQ.1];exact⟨rfl,((((hs2.set_other _ _ (by simp;omega)).set_other _ _ (by simp;omega)).set_other _ _ (by simp;omega)).alloc _).drew⟩
   | false=>
     have HQ:=S (show R= .stop by rw[<-HM.1,Bk,hS];rfl);have HE:=S (fun(W:World)(g:w1.grownBy W none)=>ME (hq.sc.gbN g) (j:=j) (by rw[if_neg hj]) (r:=true) (by simp[hj]));clear hS;go_wp2_with fail;go_quiet(fail);go_wp2_with fail;refine(HE.1 _ (An (Aa _ _) _)).mono ?_;rintro e w2 ⟨rfl,g2,hs2⟩;have hr2:=(hq.res.drewN nq).gb g2 (by simp;omega);have z0:=hr2.cell' 0 rfl;have z1:=hr2.cell' 1 rfl;have z2:=hr2.cell' 2 rfl;have zf:=λk=>hr2.frozen k;have zl:=hr2.lt;go_wp2_with fail;go_region;go_wp2;refine bZ (Cc (t:=⟨0,0,[]⟩) (r:=false) rfl _ (((hr2.set3 _ _ _).alloc _).drew) rfl rfl) rfl ⟨?_,?_⟩
     ·have g:=Z (An hq.g nq) g2;exact(by repeat(first| (with_reducible assumption)| (with_reducible refine Ac ?_ _)| (with_reducible refine Ae ?_)| ((with_reducible refine Af ?_ _ _ ?h2);case h2=>exact .inr (nR _))))
     ·rw[HQ.1];exact⟨⟨_,rfl⟩,j,false,((((hs2.set_other _ _ (by simp;omega)).set_other _ _ (by simp;omega)).set_other _ _ (by simp;omega)).alloc _).drew⟩
open Go.Shelf
attribute [local go_sem] Oper.semAt_some
def OK{c:Code}(J:Nat->Act->World->Prop)(h0:∀a w,¬J 0 a w)(hJ:∀g a w,J (g+1) a w->c.wpIn F n P (Exit.then (J g) Q) a w):
 ∀g a w,J g a w->(Code.loop c).wpIn F n P Q a w:=by
 have key:∀g a w,J g a w->Code.roundsIn F n P c Q g a w:=by
  intro g;induction g with
  |zero=>intro a w h;exact(h0 a w h).elim
  | succ g ih=>
    intro a w h;rw[roundsIn_succ];refine wpIn_mono (hJ g a w h) ?_;intro e a' w' h';cases e with
    |normal=>exact ih a' w' h'
    |_=>exact h'
 intro g a w h;exact wpIn_loop_rounds g (key g a w h)
def Gy(h:w.grownBy w1 r)(k:Nat)(o:Obj)(hk:w.heap.size<=k):w.grownBy (w1.putObj k o) r:=by
 refine⟨h.os,h.tape,h.output,by simpa[World.putObj]using h.size,λi hi hr=>?_⟩;rw[<-h.block i hi hr];exact World.putObj_heap_other (by omega)
def NC(s:Bs):∀n i line t j l m,Bk s n i line= .tok t j l m->m<n:=by
 intro n;induction n with
 |zero=>intro i line t j l m h;cases h
 | succ n ih=>
   intro i line t j l m h;rw[Bk]at h;cases hs:Cw s i line with
   |tok t' j' l'=>rw[hs]at h;cases h;omega
   |again j' l'=>rw[hs]at h;have:=ih _ _ _ _ _ _ h;omega
   |stop=>rw[hs]at h;cases h
   |bad k=>rw[hs]at h;cases h
def Le(b:Nat)(s:Bs)(J:List Tok->World->Prop)(R:LexR)(w:World):Prop:=match R with
 | .ok l=>J l w/\∃j l,Sc w b s j l l (-1)
 | .bad k=>(∃l,J l w)/\∃j l,Sc w b s j l l k
 | .out=>False
def Sc.below{n₀:Nat}(h:Sc w b s i line begun bad)(g:Below n₀ w w1)(hb:b<n₀):Sc w1 b s i line begun bad:=⟨(g.block b hb).trans h.blk,h.le,h.few⟩
def Yi(m:Nat)(l cb b n₀:Nat)(s:Bs)(J:List Tok->World->Prop)(hn₀:b<n₀/\cb<n₀/\b≠cb)
 (hJ:∀pre A B,J pre A->A.grownBy B (some b)->J pre B)
 (hY:∀pre t W,J pre W->pre.length<100000->YieldAt Fence.wide m Tryz.prog l #[AR t] W λe W'=>e= .returned (.bool true)/\J (pre++[t]) W'/\Below n₀ W W')
 (htab:∀A B,Tabs b A->Below n₀ A B->Tabs b B)
 (n i:Nat) (line:Bool) (R:LexR) (hR:R ≠ .out) (hl:CB s n i line=R) (hn:n<100000)
 (W:World) (hcb:W.cell? ⟨cb,0,none⟩=some (.pointer (some ⟨b,0,none⟩))) (hs:Sc W b s i line line (-1)) (ht:Tabs b W) (h0:J [] W):
 CallsIn Fence.wide (m+1) Tryz.prog 233 #[.func (.yield l) #[] #[],.pointer (some ⟨cb,0,none⟩)] W λe W'=>(∃v,e= .returned v)/\Le b s J R W':=by
 refine callsIn_of_wp func233 rfl trivial ?_ rfl;simp only[ntmps233,List.size_toArray,List.length_cons,List.length_nil,Nat.reduceAdd,Nat.reduceSub,Array.replicate_succ,Array.replicate_zero,List.push_toArray,List.append_toArray,List.nil_append,List.cons_append];gi_wp2;refine OK (λg a w=>∃u2 u3 u4 u5 u6 u7 u8 u9 u10 u11 u12 u13 u14 u15 u16 u17,a={tmps:=#[.func (.yield l) #[] #[],.pointer (some ⟨cb,0,none⟩),u2,u3,u4,u5,u6,u7,u8,u9,u10,u11,u12,u13,u14,u15,u16,u17],defers:=[]}/\
  ∃pre k q i' line',k<g/\pre.length+k<100000/\q<=k/\(CB s q i' line').pre pre=R/\w.cell? ⟨cb,0,none⟩=some (.pointer (some ⟨b,0,none⟩))/\Sc w b s i' line' line' (-1)/\Tabs b w/\J pre w) ?_ ?_ (n+1) _ _ ?_
 ·rintro a w ⟨u2,u3,u4,u5,u6,u7,u8,u9,u10,u11,u12,u13,u14,u15,u16,u17,_,pre,k,q,i',line',h,_⟩;omega
 ·rintro g a w ⟨u2,u3,u4,u5,u6,u7,u8,u9,u10,u11,u12,u13,u14,u15,u16,u17,rfl,pre,k,q,i',line',hk,hlen,hqk,hR',hc,hsc,htb,hj⟩;have hnx:Bk s q i' line' ≠ .out:=by
   intro e;rw[JY,e]at hR';exact hR hR'.symm
  have hlx:=JY s q i' line';have hN:=Xh hsc htb hnx;have HN:=S (X hR' (X hlx hN));have hlt:=NC s q i' line';have HLT:=S hlt;clear hN hlx hR' hnx hlt;have hcl:=bY w _ hc;have hbl:=hsc.lt;gi_wp2_with fail;refine⟨trivial,(callsIn_wide.2 HN.1.2.2).mono ?_⟩;intro e w1 hp;obtain⟨g1,hp⟩:=hp;have hc1:=B3 g1 hc (by simp;omega);have ht1:=htb.gb g1 (by simp);have hj1:=hJ _ _ _ hj g1;have hw1:=g1.size;cases hq:Bk s q i' line' with
  |out=>rw[hq]at hp;exact hp.elim
  | stop=>
    rw[hq]at hp;obtain⟨⟨t,rfl⟩,j,l',hs1⟩:=hp;have HR:=S (show R= .ok pre by rw[<-HN.1.1,HN.1.2.1,hq];simp[LexR.pre]);clear hq;gi_wp2;refine⟨λ_ h=>(by cases h),?_⟩;gi_wp2;refine bZ (results_none rfl _ _ _) rfl ⟨⟨_,rfl⟩,?_⟩;rw[HR.1];exact⟨hJ _ _ _ hj1 (gZ w1 _ _),j,l',hs1.alloc _⟩
  | bad k'=>
    rw[hq]at hp;obtain⟨⟨t,rfl⟩,j,l',hs1⟩:=hp;have HR:=S (show R= .bad k' by rw[<-HN.1.1,HN.1.2.1,hq];simp[LexR.pre]);clear hq;gi_wp2;refine⟨λ_ h=>(by cases h),?_⟩;gi_wp2;refine bZ (results_none rfl _ _ _) rfl ⟨⟨_,rfl⟩,?_⟩;rw[HR.1];exact⟨⟨_,hJ _ _ _ hj1 (gZ w1 _ _)⟩,j,l',hs1.alloc _⟩
  | tok t j l' m'=>
    rw[hq]at hp;obtain⟨rfl,hs1⟩:=hp;have HR:=S (show(CB s m' j l').pre (pre++[t])=R by rw[<-HN.1.1,HN.1.2.1,hq,<-LexR.pre_cons]);have hm':=HLT.1 _ _ _ _ hq;clear hq;have gA:=gZ w1 (.cells #[.int .i64 t.kind,.int .i64 t.pos,str t.text] 250 (0,0)) (some b);obtain⟨fn,tmps,assign,body,hy,hRd⟩:=hY pre t _ (hJ _ _ _ hj1 gA) (by omega);gi_wp2_with fail;refine hRd.mono ?_;rintro e W3 ⟨rfl,hj3,hb3⟩;have hc3:=(hb3.cell (p:=⟨cb,0,none⟩) hn₀.2.1).trans (B3 gA hc1 (by simp;omega));have hs3:=(hs1.alloc (.cells #[.int .i64 t.kind,.int .i64 t.pos,str t.text] 250 (0,0))).below hb3 hn₀.1;have ht3:=htab _ _ (ht1.gb gA (by simp)) hb3;clear hRd hy;gi_wp2;exact⟨_,_,_,_,_,_,_,_,_,_,_,_,_,_,_,_,rfl,pre++[t],k-1,m',j,l',by omega,by simp;omega,by omega,HR.1,hc3,hs3,ht3,hj3⟩
 ·exact⟨_,_,_,_,_,_,_,_,_,_,_,_,_,_,_,_,rfl,[],n,n,i,line,by omega,by simp;omega,nR _,by rw[LexR.pre_nil];exact hl,hcb,hs,ht,h0⟩
attribute [local go_sem] Oper.semAt_some
def FC(t:Tok):List Value:=[.int .i64 t.kind,.int .i64 t.pos,str t.text]
def CX(l:List Tok):List Value:=l.flatMap FC
def Pn(l:List Tok)(t:Tok):CX (l++[t])=CX l++FC t:=by simp[CX]
def ColJ(w:World)(b lr:Nat)(rec:Loop)(pre:List Tok)(W:World):Prop:=
 ∃v,Blk W w.heap.size [v] 197/\W.ownsRow (w.heap.size+3) 250 3 v pre.length (CX pre)/\W.heap[lr]? =some (.loop rec)/\W.heap[w.heap.size+1]? =some (.deferred (some []))/\w.grownBy W (some b)
def ColJ.gb{lr:Nat}{rec:Loop}{pre:List Tok}{A B:World}(h:ColJ w b lr rec pre A)(g:A.grownBy B (some b))(hb:b<w.heap.size)(hl:b<lr):ColJ w b lr rec pre B:=by
 obtain⟨v,h1,h2,h3,h4,h5⟩:=h;exact⟨v,h1.gb g (by simp;omega),Cr h2 g (by intro k hk _ e;cases e;omega),CK g h3 (by simp;omega),CK g h4 (by simp;omega),Z h5 g⟩
def Tabs.below(h:Tabs B w)(g:Below n w w1)(hB:B<=n):Tabs B w1:=by
 have hlow:=h.low;refine⟨⟨λc hc=>(g.cell (p:=⟨_,_,none⟩) (by simp<;>omega)).trans (h.utf8.1 c hc),λi hi=>⟨(g.cell (p:=⟨_,_,none⟩) (by simp<;>omega)).trans (h.utf8.2 i hi).1,(g.cell (p:=⟨_,_,none⟩) (by simp<;>omega)).trans (h.utf8.2 i hi).2⟩⟩,hlow,?_,?_⟩
 ·obtain⟨R,oR,cap,hR,hc,ht⟩:=h.case;refine⟨R,oR,cap,hR,(g.cell (p:=⟨_,_,none⟩) (by simp<;>omega)).trans hc,λi hi=>?_⟩;have:=ht i hi;have hk:R<n:=by omega
  exact⟨(g.cell (p:=⟨_,_,none⟩) hk).trans this.1,(g.cell (p:=⟨_,_,none⟩) hk).trans this.2.1,(g.cell (p:=⟨_,_,none⟩) hk).trans this.2.2.1,(g.cell (p:=⟨_,_,none⟩) hk).trans this.2.2.2.1,(g.cell (p:=⟨_,_,none⟩) hk).trans this.2.2.2.2⟩
 ·have hg:=h.glob;unfold Glob Lib.TabIs World.var? at*;simp only[Hp,Option.bind_some]at hg ⊢;rw[g.block _ (by omega)];exact hg
def Sc.putObj(h:Sc w b s i line begun bad)(k:Nat)(o:Obj)(hk:k≠b):Sc (w.putObj k o) b s i line begun bad:=⟨(World.putObj_heap_other hk.symm).trans h.blk,h.le,h.few⟩
def Ns(h:n<=k)(W3:World)(o:Obj):Below n W3 (W3.putObj k o):=
 ⟨rfl,rfl,rfl,by simp[World.putObj],λi hi=>World.putObj_heap_other (by omega)⟩
structure ColR(w W:World)(b lr:Nat)(rec:Loop)(t:Tok)(v:Value)(pre:List Tok)(W2:World):Prop where
 box:Blk W2 w.heap.size [v] 197
 tok:Blk W2 W.heap.size [.int .i64 t.kind,.int .i64 t.pos,str t.text] 250
 row:W2.ownsRow (w.heap.size+3) 250 3 v pre.length (CX pre)
 loop:W2.heap[lr]? =some (.loop {rec with state:= .busy})
 dfr:W2.heap[w.heap.size+1]? =some (.deferred (some []))
 g:w.grownBy W2 (some b)
 below:Below w.heap.size W W2
def O9{g:Operand}{ps:Array Tmp}{assign body:Code}{a:Act}
 (hro:F.round=none) (h1:1<=n) {gf:Nat} {lb:Array Value} (hg:a.eval g= .func (.func gf) #[] lb) (hFg:F.fn gf) (eg:∀args w,(callFunc gf args).run P w= .ok (.enter gf args) w)
 (h:∀fn,F.fn fn->CallsIn F (n-1) P gf (#[.func (.yield (w.heap.size+1)) #[] #[]]++lb) ((w.alloc (.deferred (some []))).alloc (.loop {state:= .ready,pending:=none,fn:=fn,tmps:=a.tmps,params:=ps,assign:=assign,body:=body,defers:=w.heap.size}))
  λe W=>(∃v,e= .returned v)/\∃r,W.heap[w.heap.size+1]? =some (.loop r)/\r.state ≠ .busy/\r.pending=none/\Q .normal {a with defers:={target:= .collected w.heap.size,args:=#[]}::a.defers} (W.putObj (w.heap.size+1) (.loop {r with state:= .exhausted}))):
 (Code.rangeFunc g ps assign body).wpIn F n P Q a w:=by
 refine wpIn_rangeFunc ?_;intro fn hfn;rw[hro];refine⟨w.heap.size+1,[{target:= .collected w.heap.size,args:=#[]}],(w.alloc (.deferred (some []))).alloc (.loop {state:= .ready,pending:=none,fn:=fn,tmps:=a.tmps,params:=ps,assign:=assign,body:=body,defers:=w.heap.size}),
  {target:= .fn (.func gf) lb,args:=#[.func (.yield (w.heap.size+1)) #[] #[]]},(w.alloc (.deferred (some []))).alloc (.loop {state:= .ready,pending:=none,fn:=fn,tmps:=a.tmps,params:=ps,assign:=assign,body:=body,defers:=w.heap.size}),gf,
  #[.func (.yield (w.heap.size+1)) #[] #[]]++lb,(w.alloc (.deferred (some []))).alloc (.loop {state:= .ready,pending:=none,fn:=fn,tmps:=a.tmps,params:=ps,assign:=assign,body:=body,defers:=w.heap.size}),run_enterLoop_outer _ _ _ _ _,?_,?_,?_,λ_=>h1,?_⟩
 ·simp only[resolve,hg];simp[go_sem]
 ·intro f' hf';simp[Target.leads]at hf';subst hf';exact hFg
 ·simp[invoke,go_sem,eg]
 ·refine(h fn hfn).mono ?_;rintro e W ⟨⟨v,rfl⟩,r,hr,hb,hp,hq⟩;exact⟨none,_,(run_endLoop (P:=P) hr hb).trans (congrArg (λp=>Result.ok p _) hp),hq⟩
def Pp{cb:Nat}{R:LexR}(hbc:b≠cb)(hcb:w.cell? ⟨cb,0,none⟩=some (.pointer (some ⟨b,0,none⟩)))(hs:Sc w b s i line line (-1))(ht:Tabs b w)
 (hR:R ≠ .out) (hl:CB s n i line=R) (hn:n<100000):
 Calls Tryz.prog 232 #[.slice none 0 0,.func (.func 233) #[] #[.pointer (some ⟨cb,0,none⟩)]] w
  λe w'=>w.grownBy w' (some b)/\(∃v,e= .returned v/\Le b s (λl W=>W.ownsRow (w.heap.size+3) 250 3 v l.length (CX l)) R w'):=by
 have hb:=hs.lt;have hcl:=bY w _ hcb;refine(callsIn_wide (n:=6)).1 ?_;refine callsIn_of_wp_marks func232 rfl trivial ?_ rfl;simp only[ntmps232,List.size_toArray,List.length_cons,List.length_nil,Nat.reduceAdd,Nat.reduceSub,Array.replicate_succ,Array.replicate_zero,List.push_toArray,List.append_toArray,List.nil_append,List.cons_append];gi_wp2;refine O9 rfl (by omega) (gf:=233) (lb:=#[.pointer (some ⟨cb,0,none⟩)]) rfl trivial (enters_of func233 (by kernel_rfl) rfl) ?_;intro fn hfn;have hsz:(w.alloc (.cells #[.slice none 0 0] 197)).heap.size=w.heap.size+1:=by simp
 rw[hsz];generalize hrec:Loop.mk _ _ _ _ _ _ _ _=rec0;have g0:w.grownBy (((w.alloc (.cells #[.slice none 0 0] 197)).alloc (.deferred (some []))).alloc (.loop rec0)) none:=Ac (Ac (gZ w _ none) _) _;have hJ0:ColJ w b (w.heap.size+1+1) rec0 [] (((w.alloc (.cells #[.slice none 0 0] 197)).alloc (.deferred (some []))).alloc (.loop rec0)):=by
  refine⟨.slice none 0 0,((Blk.new w [.slice none 0 0] 197).alloc _).alloc _,World.ownsRow_nil _ _ _ _,?_,?_,A2 g0⟩
  ·have:=World.alloc_heap_new ((w.alloc (.cells #[.slice none 0 0] 197)).alloc (.deferred (some []))) (.loop rec0);simpa using this
  ·have:=World.alloc_heap_new (w.alloc (.cells #[.slice none 0 0] 197)) (.deferred (some []));rw[hsz]at this;exact(Below.heap_alloc _ _ _ (by simp)).trans this
 have hA:=Yi 4 (w.heap.size+1+1) cb b w.heap.size s (ColJ w b (w.heap.size+1+1) rec0) ⟨hb,hcl,hbc⟩ (λpre A B h g=>h.gb g hb (by omega)) ?hY
  (λA B h g=>?htab) n i line R hR hl hn _ (Ad g0 hcb) (hs.gbN g0) (ht.gbN g0) hJ0
 case htab=>exact h.below g (by omega)
 case hY=>
  rintro pre t W ⟨v,hB,hO,hlr,hD,hg⟩ hlen;have hpar:rec0.params=#[7]:=by rw[<-hrec]
  have hsize:=hg.size;have hlr1:(W.alloc (.cells #[.int .i64 t.kind,.int .i64 t.pos,str t.text] 250)).heap[w.heap.size+1+1]? =some (.loop rec0):=(Below.heap_alloc _ _ _ (Array.getElem?_eq_some_iff.1 hlr).1).trans hlr;refine⟨_,_,_,_,run_yield hlr (by rw[hpar];rfl),roundIn_of_wpIn trivial ?_⟩;obtain⟨post,hpost⟩:∃post:Ending->World->Prop,post=λe W'=>e= .returned (.bool true)/\ColJ w b (w.heap.size+1+1) rec0 (pre++[t]) W'/\Below w.heap.size W W':=⟨_,rfl⟩;rw[<-hpost];have hfin:∀(W3:World),W3.heap[w.heap.size+1+1]? =some (.loop {rec0 with state:= .busy})->(ColJ w b (w.heap.size+1+1) rec0 (pre++[t]) (W3.putObj (w.heap.size+1+1) (.loop rec0))/\Below w.heap.size W W3)->∀a,roundPost Tryz.prog (w.heap.size+1+1) post .normal a W3:=by
   intro W3 h3 hc a;refine⟨_,_,run_endRound none h3,?_⟩;have he:({({rec0 with state:= .busy}:Loop)with state:=if(Option.isNone (none:Option Code))then .ready else .done,pending:=none}:Loop)=rec0:=by rw[<-hrec];rfl
   rw[he,hpost];exact⟨rfl,hc.1,hc.2.trans (Ns (n:=w.heap.size) (by omega) W3 _)⟩
  have hst:rec0.state= .ready:=by rw[<-hrec]
  have HF:=S (X hlr1 (X hfin hst));clear hlr1 hfin hpar hst hpost;rw[<-hrec];simp only[];gi_wp2;refine⟨_,run_beginRound HF.1.1 HF.1.2.2,?_⟩;have gA:=gZ W (.cells #[.int .i64 t.kind,.int .i64 t.pos,str t.text] 250 (0,0)) none;have hltR:=(Array.getElem?_eq_some_iff.1 hlr).1;have h2:ColR w W b (w.heap.size+1+1) rec0 t v pre ((W.alloc (.cells #[.int .i64 t.kind,.int .i64 t.pos,str t.text] 250 (0,0))).putObj (w.heap.size+1+1) (.loop {rec0 with state:= .busy})):=by
   have hlA:w.heap.size+1+1≠W.heap.size:=by omega
   have hne2:w.heap.size+1+1<(W.alloc (.cells #[.int .i64 t.kind,.int .i64 t.pos,str t.text] 250 (0,0))).heap.size:=by simp;omega
   refine⟨(World.putObj_heap_other (by omega)).trans (hB.alloc _),(World.putObj_heap_other (λe=>hlA e.symm)).trans (Blk.new W [.int .i64 t.kind,.int .i64 t.pos,str t.text] _),ownsRow_putObj (hO.alloc _) _ ((Below.heap_alloc _ _ _ hltR).trans hlr) rfl,World.putObj_heap_same hne2,(World.putObj_heap_other (by omega)).trans ((Below.heap_alloc _ _ _ (by omega)).trans hD),Gy (Ac hg _) _ _ (by omega),(N6 gA).mono hsize|>.trans (Ns (by omega) _ _)⟩
  generalize(W.alloc (.cells #[.int .i64 t.kind,.int .i64 t.pos,str t.text] 250 (0,0))).putObj (w.heap.size+1+1) (.loop {rec0 with state:= .busy})=W2 at*;have hb2:=h2.box.cell' 0 rfl;have hf2:=h2.box.frozen 0;have k0:=h2.tok.cell' 0 rfl;have k1:=h2.tok.cell' 1 rfl;have k2:=h2.tok.cell' 2 rfl;have hsz2:=h2.g.size;obtain⟨i0,hi,hz0,hz1,hz2⟩:=info_parts VG;have hsz3:=(Array.getElem?_eq_some_iff.1 h2.loop).1;gi_wp2_with (gi_at_builtin;refine wpListIn_append_own _ rfl (.tmp 8) (.tmp 10) 197 rfl (w.heap.size+3) 250 i0 _ 3 32 underlying197 hi hz0 hz1 hz2 rfl (by decide) v pre.length (CX pre) rfl (h2.row.alloc _) ⟨W2.heap.size,0,none⟩ 1 1 (FC t) rfl rfl (AY W2 (FC t) 250) (by simp[FC,Value.oneCell']) (by unfold maxLen;omega) (by omega) (by simp;omega) ?_;intro v' w1 hown' hgrow _;obtain⟨g',cap',rfl⟩:=ownsRow_succ hown';(have hne:∀k,k<w.heap.size+3->some k≠v.ownBlock:=λk hk e=>by have:=(h2.row.lt _ e.symm).1;omega);(have hbx:=(h2.box.alloc (.cells (FC t).toArray 250 (0,0))).gb hgrow (hne _ (by omega)));(have hx0:=hbx.cell 0);(have hxf:=hbx.frozen 0);(have hxl:=hbx.lt);(simp only[List.getElem?_cons_zero]at hx0));have hl5:=(Below.heap_setCell w1 ⟨w.heap.size,0,none⟩ (Value.slice (some ⟨g',0,none⟩) (pre.length+1) cap') (w.heap.size+1+1) (by simp;omega)).trans (CK hgrow ((Below.heap_alloc _ _ _ hsz3).trans h2.loop) (hne _ (by omega)))
  have hd5:=(Below.heap_setCell w1 ⟨w.heap.size,0,none⟩ (Value.slice (some ⟨g',0,none⟩) (pre.length+1) cap') (w.heap.size+1) (by simp)).trans (CK hgrow ((Below.heap_alloc _ _ _ (by omega)).trans h2.dfr) (hne _ (by omega)));have hb5:Below w.heap.size W2 (w1.setCell ⟨w.heap.size,0,none⟩ (Value.slice (some ⟨g',0,none⟩) (pre.length+1) cap')):=
   ⟨hgrow.os,hgrow.tape,hgrow.output,by have:=hgrow.size;simp at this ⊢;omega,λk hk=>(Below.heap_setCell _ _ _ _ (by simp;omega)).trans ((hgrow.block k (by simp;omega) (λe=>hne k (by omega) e)).trans (Below.heap_alloc _ _ _ (by omega)))⟩
  have hr5:=ownsRow_putObj (Cr hown' (Am (Aa w1 (some w.heap.size)) 0 (Value.slice (some ⟨g',0,none⟩) (pre.length+1) cap')) (by intro k hk _ e;cases e;omega)) (Obj.loop rec0) hl5 rfl;refine HF.1.2.1 _ hl5 ⟨⟨_,(World.putObj_heap_other (by omega)).trans (hbx.set 0 _),?_,World.putObj_heap_same (Array.getElem?_eq_some_iff.1 hl5).1,(World.putObj_heap_other (by omega)).trans hd5,?_⟩,h2.below.trans hb5⟩ _
  ·rw[Pn,lA];exact hr5
  ·refine Gy ?_ _ _ (by omega);have g2:w.grownBy w1 (some b):=⟨hgrow.os.trans h2.g.os,hgrow.tape.trans h2.g.tape,hgrow.output.trans h2.g.output,by have:=hgrow.size;simp at this;omega,λk hk hkb=>((hgrow.block k (by simp;omega) (λe=>hne k (by omega) e)).trans (Below.heap_alloc _ _ _ (by omega))).trans (h2.g.block k hk hkb)⟩;exact Af g2 _ _ (.inr (nR _))
 simp only[List.append_toArray,List.cons_append,List.nil_append];refine hA.mono ?_;rintro e W ⟨⟨v0,rfl⟩,hE⟩;refine⟨⟨_,rfl⟩,rec0,?_⟩;cases R with
 |out=>exact absurd rfl hR
 | ok l=>
   obtain⟨⟨v,hB,hO,hlr,hD,hg⟩,j,l',hs2⟩:=hE;refine⟨hlr,by rw[<-hrec];simp,by rw[<-hrec],?_⟩;have hB6:=(World.putObj_heap_other (o:=Obj.loop {rec0 with state:= .exhausted}) (by omega:w.heap.size≠w.heap.size+1+1)).trans hB;have hD6:=(World.putObj_heap_other (o:=Obj.loop {rec0 with state:= .exhausted}) (by omega:w.heap.size+1≠w.heap.size+1+1)).trans hD;have hO6:=ownsRow_putObj hO (Obj.loop {rec0 with state:= .exhausted}) hlr rfl;have hg6:=Gy hg (w.heap.size+1+1) (Obj.loop {rec0 with state:= .exhausted}) (by omega);have hs6:=hs2.putObj (w.heap.size+1+1) (Obj.loop {rec0 with state:= .exhausted}) (by omega);generalize(W.putObj (w.heap.size+1+1) (Obj.loop {rec0 with state:= .exhausted}))=W6 at*;have hc6:=Blk.cell (cs:=[v]) hB6 0;simp only[List.getElem?_cons_zero]at hc6;clear hA hJ0 hrec;gi_wp2;refine⟨by simp,.inl ⟨_,_,rfl,run_takeDeferred hD6,?_⟩⟩;exact⟨_,results_tmp rfl _ _ _,Gy hg6 _ _ (by omega),_,rfl,ownsRow_putObj hO6 _ hD6 rfl,j,l',hs6.putObj _ _ (by omega)⟩
 | bad k=>
   obtain⟨⟨l,v,hB,hO,hlr,hD,hg⟩,j,l',hs2⟩:=hE;refine⟨hlr,by rw[<-hrec];simp,by rw[<-hrec],?_⟩;have hB6:=(World.putObj_heap_other (o:=Obj.loop {rec0 with state:= .exhausted}) (by omega:w.heap.size≠w.heap.size+1+1)).trans hB;have hD6:=(World.putObj_heap_other (o:=Obj.loop {rec0 with state:= .exhausted}) (by omega:w.heap.size+1≠w.heap.size+1+1)).trans hD;have hO6:=ownsRow_putObj hO (Obj.loop {rec0 with state:= .exhausted}) hlr rfl;have hg6:=Gy hg (w.heap.size+1+1) (Obj.loop {rec0 with state:= .exhausted}) (by omega);have hs6:=hs2.putObj (w.heap.size+1+1) (Obj.loop {rec0 with state:= .exhausted}) (by omega);generalize(W.putObj (w.heap.size+1+1) (Obj.loop {rec0 with state:= .exhausted}))=W6 at*;have hc6:=Blk.cell (cs:=[v]) hB6 0;simp only[List.getElem?_cons_zero]at hc6;clear hA hJ0 hrec;gi_wp2;refine⟨by simp,.inl ⟨_,_,rfl,run_takeDeferred hD6,?_⟩⟩;exact⟨_,results_tmp rfl _ _ _,Gy hg6 _ _ (by omega),_,rfl,⟨l,ownsRow_putObj hO6 _ hD6 rfl⟩,j,l',hs6.putObj _ _ (by omega)⟩
structure Grown2(w w':World)(b k:Nat):Prop where
 os:w'.os=w.os
 tape:w'.tape=w.tape
 output:w'.output=w.output
 size:w.heap.size<=w'.heap.size
 block:∀i,i<w.heap.size->i≠b->i≠k->w'.heap[i]? =w.heap[i]?
def Grown2.of(g:w.grownBy w1 r)(hr:r=none\/r=some b\/r=some k):Grown2 w w1 b k:=
 ⟨g.os,g.tape,g.output,g.size,λi hi hb hk=>g.block i hi (by rcases hr with rfl|rfl|rfl<;>simp<;>assumption)⟩
def Grown2.trans(h:Grown2 w w1 b k)(g:Grown2 w1 w2 b k):Grown2 w w2 b k:=
 ⟨g.os.trans h.os,g.tape.trans h.tape,g.output.trans h.output,nT h.size g.size,λi hi hb hk=>(g.block i (Nat.lt_of_lt_of_le hi h.size) hb hk).trans (h.block i hi hb hk)⟩
def Grown2.gb(g0:w.grownBy w1 none)(h:Grown2 w1 w2 b k)(hb:w.heap.size<=b):w.grownBy w2 (some k):=
 ⟨h.os.trans g0.os,h.tape.trans g0.tape,h.output.trans g0.output,nT g0.size h.size,λi hi hk=>(h.block i (Nat.lt_of_lt_of_le hi g0.size) (by omega) (by simpa using hk)).trans (g0.block i hi (by simp))⟩
def Grown2.blk(h:Grown2 w w1 b k)(hB:Blk w i cs t)(h1:i≠b)(h2:i≠k):Blk w1 i cs t:=(h.block i hB.lt h1 h2).trans hB
def BO{α:Type}(l:List Tok):Res α->Int
 | .ok _ j=>if j<l.length then j else -1
 | .bad q=>q
 | .out=>0
def K9{α:Type}(b k:Nat)(w1:World)(U:World->Prop)(V:Nat->World->α->Prop)(M:Res α)(e:Ending)(w2:World):Prop:=
 Grown2 w1 w2 b k/\U w2/\match M with
  | .ok a j=>e= .returned (.tuple #[])/\V w1.heap.size w2 a/\w2.cell? ⟨b,1,none⟩=some (.int .i64 j)
  | .bad q=>e= .panicked (GG q)
  | .out=>False
def Yh{α:Type}(l:List Tok)(k:Nat)(w:World)(U:World->Prop)(V:Nat->World->α->Prop)(M:Res α)(e:Ending)(w':World):Prop:=
 e= .returned (.int .i64 (BO l M))/\w.grownBy w' (some k)/\U w'/\∀a j,M= .ok a j->∃B,w.heap.size<=B/\V B w' a
def Om(hg:Glob w){l:List Tok}(ht:TRow w tv l (λ_=>True))(hlen:l.length<=4001)(gf:Nat)(cap:Array Value)
 (hcf:∀v w,(callFunc gf (#[v]++cap)).run Tryz.prog w= .ok (.enter gf (#[v]++cap)) w) {α:Type} (M:Res α) (k:Nat) (hk:k<w.heap.size) (U:World->Prop) (hU:∀w2 w3 r,U w2->w2.grownBy w3 (some r)->w.heap.size<=r->U w3) (V:Nat->World->α->Prop)
 (hV:∀B w2 w3 a r,V B w2 a->w2.grownBy w3 (some r)->w.heap.size<=r->r<B->V B w3 a)
 (hrule:∀w1 b wv,w.grownBy w1 none->w.heap.size<=b->Par w1 b tv wv l wordsL 0->SRow w1 wv wordsL (λg=>w.heap.size<=g/\g<b)->Calls Tryz.prog gf (#[.pointer (some ⟨b,0,none⟩)]++cap) w1 (K9 b k w1 U V M)):
 Calls Tryz.prog 206 #[tv,.func (.func gf) #[] cap] w (Yh l k w U V M):=by
 have hmf:∀(fn:Fn)(first cap:Array Value)(w:World),(Instr.makeFunc fn first cap).run Tryz.prog w= .ok (.func fn first cap) w:=λ_ _ _ _=>rfl;obtain⟨ta,tc,rfl,_⟩:=id ht;have g0:w.grownBy (w.alloc (.cells #[.int .i64 0] 3 (0,0))) none:=gZ w _ none;have hR:=Blk.new w [.int .i64 0] 3;go_enter_defers func206,ntmps206;go_wp2_with fail;refine(Vg (hg.gb g0 (by simp))).mono ?_;rintro e wA ⟨wv,rfl,hS,gA⟩;obtain⟨wa,wc,rfl,_⟩:=id hS;have gA0:=Z g0 gA;have hA:=gZ wA (.cells #[.slice ta l.length tc,.int .i64 0,.slice wa wordsL.length wc,.slice none 0 0] 284 (0,0)) none;have hPar:Par (wA.alloc (.cells [.slice ta l.length tc,.int .i64 0,.slice wa wordsL.length wc,.slice none 0 0].toArray 284 (0,0))) wA.heap.size (.slice ta l.length tc) (.slice wa wordsL.length wc) l wordsL 0:=by
  refine⟨Blk.new wA _ _,?_,?_,nZ _,hlen⟩
  ·obtain⟨a,c,e,h1,h2,h3⟩:=ht;refine⟨a,c,e,h1,h2,λj hj=>?_⟩;obtain⟨lb,lo,ea,_,c0,c1,c2⟩:=h3 j hj;have hlt:=bY w _ c0;have:=gA0.size;exact⟨lb,lo,ea,by simp at hlt;omega,Ad hA (Ad gA0 c0),Ad hA (Ad gA0 c1),Ad hA (Ad gA0 c2)⟩
  ·obtain⟨a,c,e,h1,h2,h3⟩:=hS;refine⟨a,c,e,h1,h2,λj hj=>?_⟩;obtain⟨lb,lo,ea,_,c0⟩:=h3 j hj;have hlt:=bY wA _ c0;exact⟨lb,lo,ea,hlt,Ad hA c0⟩
 have hWd:SRow (wA.alloc (.cells [.slice ta l.length tc,.int .i64 0,.slice wa wordsL.length wc,.slice none 0 0].toArray 284 (0,0))) (.slice wa wordsL.length wc) wordsL (λg=>w.heap.size<=g/\g<wA.heap.size):=by
  obtain⟨a,c,e,h1,h2,h3⟩:=hS;refine⟨a,c,e,h1,h2,λj hj=>?_⟩;obtain⟨lb,lo,ea,hge,c0⟩:=h3 j hj;have hlt:=bY wA _ c0;exact⟨lb,lo,ea,⟨by simp at hge;omega,hlt⟩,Ad hA c0⟩
 have gB:=Z gA0 hA;have hsA:=gA.size;simp at hsA;have hR2:=(hR.gb gA (by simp)).gb hA (by simp);go_wp2_with fail;refine(hrule _ _ _ gB (by omega) hPar hWd).mono ?_;rintro e w2 ⟨g2,hu,h2⟩;have hR3:=g2.blk hR2 (by omega) (by omega);have gC:=Grown2.gb gB g2 (by omega);cases hM:M with
 |out=>rw[hM]at h2;exact h2.elim
 | bad q=>
   rw[hM]at h2;subst h2;refine leaves_cons (f:=235) (args:=#[.pointer (some ⟨w.heap.size,0,none⟩)]) (by simp) (by simp[go_sem]) ?_;refine(Ma (hR3.cell 0) (hR3.frozen 0)).mono ?_;rintro e u' w3 ⟨rfl,rfl,rfl⟩;have hc:=((hR3.set 0 (.int .i64 q)).alloc (.cells #[.int .i64 q] 281 (0,0))).cell 0;refine⟨.int .i64 q,by simp[results,results206,go_sem,hc],rfl,Ac (Af gC _ _ (.inr (nR _))) _,hU _ _ _ hu (Ac (Af (Aa _ (some w.heap.size)) _ _ (.inl rfl)) _) (nR _),by simp⟩
 | ok a j=>
   rw[hM]at h2;obtain⟨rfl,hVa,c1⟩:=h2;by_cases hj:j<l.length
   ·go_wp2_with fail;refine(DQ c1).mono ?_;rintro e w3 ⟨rfl,rfl⟩;refine leaves_cons (f:=235) (args:=#[.pointer (some ⟨w.heap.size,0,none⟩)]) (by simp) (by simp[go_sem]) ?_;refine(Ma (hR3.cell 0) (hR3.frozen 0)).mono ?_;rintro e u' w3 ⟨rfl,rfl,rfl⟩;have hc:=((hR3.set 0 (.int .i64 j)).alloc (.cells #[.int .i64 j] 281 (0,0))).cell 0;refine⟨.int .i64 j,by simp[results,results206,go_sem,hc],by simp[BO,hj],Ac (Af gC _ _ (.inr (nR _))) _,hU _ _ _ hu (Ac (Af (Aa _ (some w.heap.size)) _ _ (.inl rfl)) _) (nR _),?_⟩;rintro a' j' ⟨⟩;exact⟨_,gB.size,hV _ _ _ _ _ hVa (Ac (Af (Aa _ (some w.heap.size)) _ _ (.inl rfl)) _) (nR _) (by simp;omega)⟩
   ·have hc0:=hR3.cell 0;have hf0:=hR3.frozen 0;simp only[List.getElem?_cons_zero]at hc0;go_wp2;refine leaves_cons (f:=235) (args:=#[.pointer (some ⟨w.heap.size,0,none⟩)]) (by simp) (by simp[go_sem]) ?_;refine(RE ⟨w.heap.size,0,none⟩ _).mono ?_;rintro e u' w3 ⟨rfl,rfl,rfl⟩;have hc:=(hR3.set 0 (.int .i64 (-1))).cell 0;refine⟨.int .i64 (-1),by simp[results,results206,go_sem,hc],by simp[BO,hM,hj],Af gC _ _ (.inr (nR _)),hU _ _ _ hu (Af (Aa _ (some w.heap.size)) _ _ (.inl rfl)) (nR _),?_⟩;rintro a' j' e';rw[hM]at e';cases e';exact⟨_,gB.size,hV _ _ _ _ _ hVa (Af (Aa _ (some w.heap.size)) _ _ (.inl rfl)) (nR _) (by simp;omega)⟩
def BV(l:List Tok)(day:Bs->Int)(n:Nat):Res Ex:=(Ai l day n 0).bind λx i=>(B4 l i).bind λ_ j=> .ok x j
def HoldsE(k B:Nat)(w:World)(x:Ex):Prop:=∃pa pc la lc,Blk w k (hdC x.h (.slice pa x.h.p.length pc) (.slice la x.kids.len lc)) 163/\
 Cells w (.slice pa x.h.p.length pc) 1 x.h.p.length (x.h.p.map str) (Al B)/\RepL (Al B) w (.slice la x.kids.len lc) x.kids
def SomeE(k:Nat)(w:World):Prop:=∃h pa pn pc la ln lc,Blk w k (hdC h (.slice pa pn pc) (.slice la ln lc)) 163
def SomeE.gb(h:SomeE k w)(g:w.grownBy w1 r)(h1:r≠some k):SomeE k w1:=by
 obtain⟨h,pa,pn,pc,la,ln,lc,hb⟩:=h;exact⟨h,pa,pn,pc,la,ln,lc,hb.gb g (λe=>h1 e.symm)⟩
def HoldsE.gb{x:Ex}(h:HoldsE k B w x)(g:w.grownBy w1 r)(h1:r≠some k)(h2:∀q,r=some q->q<B):HoldsE k B w1 x:=by
 obtain⟨pa,pc,la,lc,hb,hp,hl⟩:=h;have hk:∀q,Al B q->q<w.heap.size->some q≠r:=λq hq _ e=>by have:=h2 q e.symm;simp at hq;omega
 exact⟨pa,pc,la,lc,hb.gb g (λe=>h1 e.symm),hp.gb g hk,hl.gb g hk⟩
def TRow.mono{l:List Tok}(h:TRow w v l ok)(hk:∀k,ok k->k<w.heap.size->ok' k):TRow w v l ok':=by
 obtain⟨a,cap,e,h1,h2,h3⟩:=h;refine⟨a,cap,e,h1,h2,λj hj=>?_⟩;obtain⟨lb,lo,ea,ho,c0,c1,c2⟩:=h3 j hj;exact⟨lb,lo,ea,hk _ ho (bY w _ c0),c0,c1,c2⟩
def SRow.mono{l:List Bs}(h:SRow w v l ok)(hk:∀k,ok k->k<w.heap.size->ok' k):SRow w v l ok':=by
 obtain⟨a,cap,e,h1,h2,h3⟩:=h;refine⟨a,cap,e,h1,h2,λj hj=>?_⟩;obtain⟨lb,lo,ea,ho,c0⟩:=h3 j hj;exact⟨lb,lo,ea,hk _ ho (bY w _ c0),c0⟩
def U7{wv:Value}{l:List Tok}{wl:List Bs}(hl:Ee day l)(n:Nat)(hp:Par w b tv wv l wl 0)(hk:Blk w k zeroE 163)(hkb:k<b)
 (ht:TRow w tv l (· < k)) (hs:SRow w wv wl (λg=>k<g/\g<b)) (ho:BV l day n ≠ .out):
 Calls Tryz.prog 207 #[.pointer (some ⟨b,0,none⟩),.pointer (some ⟨k,0,none⟩)] w (K9 b k w (SomeE k) (HoldsE k) (BV l day n)):=by
 have hE:=M8 (b:=b) (tv:=tv) (wv:=wv) (wl:=wl) hl n;generalize hR:BV l day n=R at*;have HQ:=S hR;rw[BV]at HQ;have H:=S (X hE ho);clear hE ho hR hl;have hb:=hp.lt;go_enter func207,ntmps207;go_wp2_with fail;refine(H.1.1 _ _ hp (λe=>H.1.2 (by rw[<-HQ.1,e];rfl))).mono ?_;intro e w1 hq;obtain⟨g,⟨q,hr,rfl⟩| ⟨x,j,v,hr,rfl,⟨pa,pc,la,lc,rfl,rp,rl⟩,hp⟩⟩:=hq.split
 ·have e1:R= .bad q:=by rw[<-HQ.1,hr];rfl
  subst e1;exact⟨rfl,Grown2.of g (.inr (.inl rfl)),⟨hd0 0 [],none,0,0,none,0,0,hk.gb g (by simp;omega)⟩,rfl⟩
 replace HQ:=HQo HQ hr;clear hr;replace hk:=hk.gb g (by simp;omega);replace ht:=ht.gb g (by intro q hq e;cases e;have:b<k:=hq;omega);replace hs:=hs.gb g (by intro q hq e;cases e;have:=hq.2;omega);have hb1:=g.size;have g7:=A0 w1 k (.int .i64 x.h.op) (str x.h.s) (.int .i64 x.h.vk) (.int .i64 x.h.vn) (str x.h.vs) (.slice pa x.h.p.length pc) (.slice la x.kids.len lc);have hk7:=hk.set7 (.int .i64 x.h.op) (str x.h.s) (.int .i64 x.h.vk) (.int .i64 x.h.vn) (str x.h.vs) (.slice pa x.h.p.length pc) (.slice la x.kids.len lc);have hok:∀q,Al w.heap.size q->q<w1.heap.size->some q≠some k:=λq hq _ e=>by simp at hq;cases e;omega
 have hX:=S (X (rp.gb g7 hok) (rl.gb g7 hok));have hp7:Par (set7 w1 k (.int .i64 x.h.op) (str x.h.s) (.int .i64 x.h.vk) (.int .i64 x.h.vn) (str x.h.vs) (.slice pa x.h.p.length pc) (.slice la x.kids.len lc)) b tv wv l wl j:=
  ⟨hp.blk.gb g7 (by simp;omega),(ht.gb g7 (by intro q hq e;cases e;have:k<k:=hq;omega)).mono (λq hq _=>by have:q<k:=hq;omega),(hs.gb g7 (by intro q hq e;cases e;have:=hq.1;omega)).mono (λq hq _=>hq.2),hp.le,hp.few⟩
 have gX:Grown2 w (set7 w1 k (.int .i64 x.h.op) (str x.h.s) (.int .i64 x.h.vk) (.int .i64 x.h.vn) (str x.h.vs) (.slice pa x.h.p.length pc) (.slice la x.kids.len lc)) b k:=(Grown2.of g (.inr (.inl rfl))).trans (Grown2.of g7 (.inr (.inr rfl)));clear rp rl hp ht hs;have cl_:=hk.c7;go_wp2_with fail;refine(Ba hp7).mono ?_;intro e w2 hq;obtain⟨g2,⟨q,hr,rfl⟩| ⟨_,j2,v,hr,rfl,rfl,hp⟩⟩:=hq.split
 ·have e1:R= .bad q:=by rw[<-HQ.1,hr];rfl
  subst e1;exact⟨rfl,gX.trans (Grown2.of g2 (.inr (.inl rfl))),⟨x.h,_,_,_,_,_,_,hk7.gb g2 (by simp;omega)⟩,rfl⟩
 have e1:R= .ok x j2:=by rw[<-HQ.1,hr];rfl
 subst e1;have hk8:=hk7.gb g2 (by simp;omega);have hok2:∀q,Al w.heap.size q->q<(set7 w1 k (.int .i64 x.h.op) (str x.h.s) (.int .i64 x.h.vk) (.int .i64 x.h.vn) (str x.h.vs) (.slice pa x.h.p.length pc) (.slice la x.kids.len lc)).heap.size->some q≠some b:=λq hq _ e=>by simp at hq;cases e;omega
 go_wp2;have hX2:=X (hX.1.1.gb g2 hok2) (hX.1.2.gb g2 hok2);exact⟨rfl,.tuple #[],by simp[results,results207,go_sem],gX.trans (Grown2.of g2 (.inr (.inl rfl))),⟨x.h,_,_,_,_,_,_,hk8⟩,rfl,⟨pa,pc,la,lc,hk8,hX2.1,hX2.2⟩,hp.c1⟩
def Wx(k:Nat)(v:Value)(w:World):(callFunc 207 (#[v]++#[.pointer (some ⟨k,0,none⟩)])).run Tryz.prog w= .ok (.enter 207 (#[v]++#[.pointer (some ⟨k,0,none⟩)])) w:=by kernel_rfl
def Wj(l:List Tok)(w:World)(M:Res Ex)(e:Ending)(w':World):Prop:=
 ∃h pa pn pc la ln lc,e= .returned (.tuple #[exV h (.slice pa pn pc) (.slice la ln lc),.int .i64 (BO l M)])/\w.grownBy w' none/\
  ∀x j,M= .ok x j->VE (Al w.heap.size) w' (exV h (.slice pa pn pc) (.slice la ln lc)) x
def VZ(hg:Glob w){l:List Tok}(hl:Ee day l)(ht:TRow w tv l (λ_=>True))(hlen:l.length<=4001)(n:Nat)(ho:BV l day n ≠ .out):
 Calls Tryz.prog 157 #[tv] w (Wj l w (BV l day n)):=by
 have hmf:∀(fn:Fn)(first cap:Array Value)(w:World),(Instr.makeFunc fn first cap).run Tryz.prog w= .ok (.func fn first cap) w:=λ_ _ _ _=>rfl;have g0:w.grownBy ((w.alloc (.cells zeroE.toArray 163 (0,0))).alloc (.cells zeroE.toArray 163 (0,0))) none:=Ac (gZ w _ none) _;have hz:=(Blk.new w zeroE 163).alloc (.cells zeroE.toArray 163 (0,0));have hk:=Blk.new (w.alloc (.cells zeroE.toArray 163 (0,0))) zeroE 163;replace hk:=hk.of_eq (k':=w.heap.size+1) (by simp) rfl;have ht0:=(ht.mono (ok':=λg=>g<w.heap.size) (λk _ h=>h)).gb g0 (by simp);have hg0:=hg.gb g0 (by simp);have hk0:=hk.lt;have hw0:4<w.heap.size:=by
  unfold Glob Lib.TabIs World.var? at hg;simp only[Hp,Option.bind_some]at hg;rcases Nat.lt_or_ge 4 w.heap.size with h' |h'
  ·exact h'
  ·rw[Array.getElem?_eq_none h']at hg;simp at hg
 have H:=S (X hl ho);clear hl ho hg;go_enter func157,ntmps157;go_wp2_with fail;refine(Om (k:=w.heap.size+1) hg0 (ht0.mono (λ_ _ _=>trivial)) hlen 207 #[.pointer (some ⟨w.heap.size+1,0,none⟩)] (Wx _) (BV l day n) hk0 (SomeE (w.heap.size+1)) ?_ (HoldsE (w.heap.size+1)) ?_ ?_).mono ?_
 ·intro w2 w3 r h g hr;exact h.gb g (by simp;simp at hr;omega)
 ·intro B w2 w3 a r h g hr hB;exact h.gb g (by simp;simp at hr;omega) (by intro q e;cases e;exact hB)
 ·intro w1 b wv g1 hb1 hp hs;refine U7 H.1.1 n hp (hk.gb g1 (by simp)) (by simp at hb1;omega) ((ht0.gb g1 (by simp)).mono (λq hq _=>by have:q<w.heap.size:=hq;omega)) (hs.mono (λq hq _=>⟨by have:=hq.1;simp at this;omega,hq.2⟩)) H.1.2
 rintro e w1 ⟨rfl,g1,⟨h,pa,pn,pc,la,ln,lc,hB⟩,hV⟩;have hz1:=hz.gb g1 (by simp);have cl_:=hB.c7;have cz_:=hz1.c7;have hltz:=hz1.lt;go_wp2;have g7:=A0 w1 w.heap.size (.int .i64 h.op) (str h.s) (.int .i64 h.vk) (.int .i64 h.vn) (str h.vs) (.slice pa pn pc) (.slice la ln lc);have hW:=hz1.set7 (.int .i64 h.op) (str h.s) (.int .i64 h.vk) (.int .i64 h.vn) (str h.vs) (.slice pa pn pc) (.slice la ln lc);simp only[set7]at hW g7;generalize(((((((w1.setCell {block:=w.heap.size,off:=0} (.int .i64 h.op)).setCell {block:=w.heap.size,off:=1} (str h.s)).setCell {block:=w.heap.size,off:=2} (.int .i64 h.vk)).setCell {block:=w.heap.size,off:=3} (.int .i64 h.vn)).setCell {block:=w.heap.size,off:=4} (str h.vs)).setCell {block:=w.heap.size,off:=5} (.slice pa pn pc)).setCell {block:=w.heap.size,off:=6} (.slice la ln lc))=W at*;obtain⟨dl_0,dl_1,dl_2,dl_3,dl_4,dl_5,dl_6,dl_f⟩:=(hW).c7;refine bZ (v:= .tuple #[exV h (.slice pa pn pc) (.slice la ln lc),.int .i64 (BO l (BV l day n))]) ?_ rfl ⟨h,pa,pn,pc,la,ln,lc,rfl,?_,?_⟩
 ·simp[results,results157,go_sem,dl_0,dl_1,dl_2,dl_3,dl_4,dl_5,dl_6]
 ·exact Ap (Ap g0 g1 (.inr (by omega))) g7 (.inr (nR _))
 ·intro x j e;obtain⟨B,hB',pa',pc',la',lc',hb',rp,rl⟩:=hV x j e;have hok:∀q,Al B q->q<w1.heap.size->some q≠some w.heap.size:=λq hq _ e=>by simp at hB' hq;cases e;omega
  have hok2:∀q,Al B q->q<W.heap.size->Al w.heap.size q:=λq hq _=>by simp at hB' hq ⊢;omega
  have e1:(hdC x.h (.slice pa' x.h.p.length pc') (.slice la' x.kids.len lc')).toArray=(hdC h (.slice pa pn pc) (.slice la ln lc)).toArray:=by
   have e2:=hb'.symm.trans hB;injection e2 with e2
   injection e2
  have e3:exV h (.slice pa pn pc) (.slice la ln lc)=exV x.h (.slice pa' x.h.p.length pc') (.slice la' x.kids.len lc'):=by rw[show exV h _ _= .agg (hdC h (.slice pa pn pc) (.slice la ln lc)).toArray from rfl,<-e1];rfl
  rw[e3];exact⟨pa',pc',la',lc',rfl,(rp.gb g7 hok).mono hok2,(rl.gb g7 hok).mono hok2⟩
def Hd.fit(h:Hd):Prop:=h.s.length<=2000000/\h.vs.length<=2000000/\h.p.length<=2000000/\∀s∈h.p,s.length<=2000000
def Fo.fit:Fo->Prop
 | .nil=>True
 | .cons h k n=>h.fit/\k.fit/\n.fit
def OQ(f:Fo)(ok:Nat->Prop)(la:Option Addr)(lc:Nat)(w:World)(hf:RepL ok w (.slice la f.len lc) f)(hfit:f.fit)
 (hE:∀(h:Hd)(k:Fo)(pa lb:Option Addr)(pc ld:Nat)(W:World),k.wt<f.wt->h.fit->k.fit->Cells W (.slice pa h.p.length pc) 1 h.p.length (h.p.map str) (λ_=>True)->RepL (λ_=>True) W (.slice lb k.len ld) k->
  Calls Tryz.prog 169 #[exV h (.slice pa h.p.length pc) (.slice lb k.len ld)] W (ρ W (.bool (!(BY h k.len&&okF k))))):
 Calls Tryz.prog 217 #[.slice la f.len lc,.func (.func 169) #[] #[]] w λe w'=>(∃n:Int,e= .returned (.int .i64 n)/\decide (0<=n)= !okF f)/\w.grownBy w' none:=by
 replace hf:=hf.mono (ok':=λ_=>True) (λ_ _ _=>trivial);obtain⟨cs,hc1,hr1⟩:=hf;obtain⟨_,_,e,hle,hmx,_,hc1⟩:=hc1;cases e;have hmax:f.len<=maxLen:=by omega
 unfold maxLen at hmax;clear hle hmx;have HC:=S (X hc1 hE);have HR:=S (X hr1 hfit);clear hc1 hE hr1 hfit;go_enter func217,ntmps217;go_wp2_with fail;go_loopg [8] f.len (λn v8 wr=>∃rf:Fo,∃k:Nat,rf.len=n/\k+n=f.len/\v8= .int .i64 k/\rf.wt<=f.wt/\rf.fit/\okF f=okF rf/\RepF (λ_=>True) w rf (cs.drop (k*7))/\w.grownBy wr none)
 case atStart=>exact⟨f,0,rfl,by omega,rfl,nR _,HR.1.2,rfl,by simpa using HR.1.1,Aa _ _⟩
 case round=>
  obtain⟨rf,k,hn,hk,rfl,hno,hft,hs,hrf,hgr⟩:=hrel;clear HR;cases rf with
  | nil=>
    have hkI:decide (k<f.len)=false:=by simp[Fo.len]at hn;simp;omega
    have HS:=S (show okF f=true by rw[hs];rfl);have HG:=S hgr;clear hs hgr hn hrf hft;go_wp2;go_ret;exact⟨⟨_,rfl,by rw[HS.1];simp⟩,HG.1⟩
  | cons h1 k1 n1=>
    simp only[Fo.len]at hn;simp only[Fo.wt]at hno;subst hn;obtain⟨pa1,pc1,lb1,ld1,hp1,hl1,hx1,ha1⟩:=RepF.elem (n:=f.len) (lc:=lc) (f:=f) HC.1.1 hrf;have hkI:decide (k<f.len)=true:=by simp;omega
    have hkf:k+1<=f.len:=by omega
    have HS:=S (show okF f=((BY h1 k1.len&&okF k1)&&okF n1)from hs);have HE:=S (fun(W:World)(gW:wr.grownBy W none)=>HC.1.2 h1 k1 pa1 lb1 pc1 ld1 W (by omega) hft.1 hft.2.1 (hp1.gb (Z hgr gW) (by simp)) (hl1.gb (Z hgr gW) (by simp)));have HN:=S (X (show n1.wt<=f.wt by omega) (X hft.2.2 (X hx1 hgr)));clear hs hno hrf hp1 hl1 hx1 hft;obtain⟨g1,o1,rfl,hokz,y0⟩:=ha1 0 _ rfl;obtain⟨_,_,e1,_,y1⟩:=ha1 1 _ rfl;cases e1;obtain⟨_,_,e1,_,y2⟩:=ha1 2 _ rfl;cases e1;obtain⟨_,_,e1,_,y3⟩:=ha1 3 _ rfl;cases e1;obtain⟨_,_,e1,_,y4⟩:=ha1 4 _ rfl;cases e1;obtain⟨_,_,e1,_,y5⟩:=ha1 5 _ rfl;cases e1;obtain⟨_,_,e1,_,y6⟩:=ha1 6 _ rfl;cases e1;have hglz:=bY w _ y0;have z0:=Ad hgr y0;have z1:=Ad hgr y1;have z2:=Ad hgr y2;have z3:=Ad hgr y3;have z4:=Ad hgr y4;have z5:=Ad hgr y5;have z6:=Ad hgr y6;simp only[Nat.add_zero,<-Nat.add_assoc]at z0 z1 z2 z3 z4 z5 z6;clear y0 y1 y2 y3 y4 y5 y6 ha1 hgr;have hws:=HN.1.2.2.2.size;have hq1:g1<wr.heap.size:=Nat.lt_of_lt_of_le hglz hws;cases hb:(BY h1 k1.len&&okF k1)with
    | true=>
      rw[hb]at HE;have HB:=S (show okF f=okF n1 by rw[HS.1,hb];rfl);clear hb;go_wp2_with fail;refine(HE.1 _ ?gg).mono ?_
      case gg=>exact(Aa _ _)
      rintro e w5 ⟨rfl,g5⟩;have gg:=Z HN.1.2.2.2 (Z (Aa _ _) g5);have HG:=S gg;clear gg g5;go_wp2;go_roundg n1.len
      case measure=>omega
      case rel=>exact⟨n1,k+1,rfl,by omega,by go_num,HN.1.1,HN.1.2.1,HB.1,HN.1.2.2.1,HG.1⟩
    | false=>
      rw[hb]at HE;have HB:=S (show okF f=false by rw[HS.1,hb];rfl);clear hb;go_wp2_with fail;refine(HE.1 _ ?gg2).mono ?_
      case gg2=>exact(Aa _ _)
      rintro e w5 ⟨rfl,g5⟩;have gg:=Z HN.1.2.2.2 (Z (Aa _ _) g5);have HG:=S gg;clear gg g5;go_wp2;go_ret;exact⟨⟨_,rfl,by rw[HB.1];simp⟩,HG.1⟩
def Pr(f:Fo)(ok:Nat->Prop)(la:Option Addr)(lc:Nat)(w:World)(hf:RepL ok w (.slice la f.len lc) f)(hfit:f.fit)
 (hE:∀(h:Hd)(k:Fo)(pa lb:Option Addr)(pc ld:Nat)(W:World),k.wt<f.wt->h.fit->k.fit->Cells W (.slice pa h.p.length pc) 1 h.p.length (h.p.map str) (λ_=>True)->RepL (λ_=>True) W (.slice lb k.len ld) k->
  Calls Tryz.prog 170 #[exV h (.slice pa h.p.length pc) (.slice lb k.len ld)] W (ρ W (.bool (BY h k.len&&okF k)))):
 Calls Tryz.prog 122 #[.slice la f.len lc] w (ρ w (.bool (okF f))):=by
 have H:=S (OQ f ok la lc w hf hfit (λh k pa lb pc ld W h1 h2 h3 h4 h5=>by
  have hp:=Blk.new W (hdC h (.slice pa h.p.length pc) (.slice lb k.len ld)) 163;have H:=S (fun(W2:World)(g:W.grownBy W2 none)=>hE h k pa lb pc ld W2 h1 h2 h3 (h4.gb g (by simp)) (h5.gb g (by simp)));have x_:=hp.c7;clear hE h4 h5 hp hf;generalize(BY h k.len&&okF k)=b at*;go_enter func169,ntmps169;go_wp2_with fail;refine(H.1 _ ?gg).mono ?_
  case gg=>exact(Ac (Aa _ _) _)
  rintro e w5 ⟨rfl,g5⟩;go_wp2;go_ret;exact⟨rfl,Z (Ac (Aa _ _) _) g5⟩))
 clear hE hf hfit;have H2:Calls Tryz.prog 168 #[.slice la f.len lc,.func (.func 169) #[] #[]] w (ρ w (.bool (!okF f))):=by
  go_enter func168,ntmps168;go_wp2_with fail;refine H.1.mono ?_;rintro e w1 ⟨⟨n,rfl,hn⟩,hb⟩;have HN:=S hn;clear hn;go_wp2;go_ret;exact⟨by rw[<-HN.1];rfl,hb⟩
 clear H;have H:=S H2;clear H2;go_enter func122,ntmps122;go_wp2_with fail;refine mR H.1 λw1 hb=>?_;go_wp2;go_ret;exact⟨rfl,hb⟩
open Go.Sort
def Iter(w:World)(r b:Nat)(l:List (Bs×Bs))(left:List Nat):Prop:=
 w.heap[b]? =some (Ca l)/\∃seen:Array Nat,w.heap[r]? =some (.mapIter (some b) l.length seen l.length)/\left.Nodup/\∀i,i∈left↔i<l.length/\seen.contains i=false
def Kc(l:List (Bs×Bs)):∀n i:Nat,(AS l n)[i]? =(l[i]?).map λp=>({key:=str p.1,val:=str p.2,born:=n+i}:MapEntry):=by
 induction l with
 |nil=>intro n i;simp[AS]
 | cons x l ih=>
   intro n i;obtain⟨a,b⟩:=x;cases i with
   |zero=>simp[AS]
   |succ i=>simp[AS,ih];congr 1;funext p;congr 1;omega
def Nd{e:MapEntry}(h:e∈(AS l 0)):∃i,i<l.length/\e.born=i/\e.key=str (l.getD i ([],[])).1/\e.val=str (l.getD i ([],[])).2:=by
 obtain⟨i,hi,rfl⟩:=List.getElem_of_mem h;have hil:i<l.length:=by simpa[Qh]using hi
 refine⟨i,hil,?_⟩;have:=Kc l 0 i;rw[List.getElem?_eq_getElem hi,List.getElem?_eq_getElem hil]at this;simp only[Option.map_some,Option.some.injEq,Nat.zero_add]at this;rw[this,List.getD_eq_getElem?_getD,List.getElem?_eq_getElem hil];exact⟨rfl,rfl,rfl⟩
def Tb(l:List (Bs×Bs)):((AS l 0).map (·.born))=List.range l.length:=by
 apply List.ext_getElem?;intro i;rw[List.getElem?_map,Kc];by_cases h:i<l.length
 ·simp[List.getElem?_eq_getElem h,h]
 ·simp[List.getElem?_eq_none (Nat.le_of_not_lt h),h]
section
def Pa{k e:TypeId}(ht:P.underlying t=some (.map k e))(hb:w.heap[b]? =some (Ca l)):
 (Instr.range t (.map (some b))).run P w= .ok (.pointer (some ⟨w.heap.size,0,none⟩)) (w.alloc (.mapIter (some b) l.length #[] l.length)):=
 run_range_map w t k e b (AS l 0).toArray l.length ht hb
def Iter.start(hb:w.heap[b]? =some (Ca l)):Iter (w.alloc (.mapIter (some b) l.length #[] l.length)) w.heap.size b l (List.range l.length):=
 ⟨G0 _ _ _ _ hb,#[],Eg _ _ _ rfl,List.nodup_range,λi=>by simp⟩
def Iter.gb{r:Nat}{q:Option Nat}(h:Iter w r b l left)(g:w.grownBy w1 q)(h1:some b≠q)(h2:some r≠q):Iter w1 r b l left:=by
 obtain⟨hb,seen,hr,hn,hi⟩:=h;exact⟨CK g hb h1,seen,CK g hr h2,hn,hi⟩
def Iter.next{r:Nat}(h:Iter w r b l left)(ty:TypeId):
 (left=[]/\(Instr.next (.pointer (some ⟨r,0,none⟩)) false ty).run P w= .ok (.tuple #[.bool false]) w)\/
 ∃i∈left,∃w1:World,(Instr.next (.pointer (some ⟨r,0,none⟩)) false ty).run P w= .ok (.tuple #[.bool true,str (l.getD i ([],[])).1,str (l.getD i ([],[])).2]) w1/\Iter w1 r b l (left.erase i)/\w.grownBy w1 (some r)/\
  (Instr.entry (.pointer (some ⟨r,0,none⟩))).run P w1= .ok (.tuple #[str (l.getD i ([],[])).1,str (l.getD i ([],[])).2]) w1:=by
 obtain⟨hb,seen,hr,hnd,hi⟩:=h;have hb':w.heap[b]? =some (.map (AS l 0).toArray l.length):=hb;have hold:∀x∈(AS l 0).toArray.toList,x.born<l.length:=λx hx=>by
  obtain⟨i,h1,h2,_⟩:=Nd (by simpa using hx);omega
 have hlt:r<w.heap.size:=(Array.getElem?_eq_some_iff.1 hr).1;simp only[Instr.next,getObj,Sem.run_bind,Sem.run,hr,hb',Result.andThen,next_test_false seen _ l.length l.length hold (nR _),Bool.false_eq_true,if_false];have hmem:∀x∈(Array.filter (λe=>!seen.contains e.born) (AS l 0).toArray).toList,x.born<l.length:=λx hx=>hold x (by simp at hx ⊢;exact hx.1);have hL:∀x∈(Array.filter (λe=>!seen.contains e.born) (AS l 0).toArray).toList,x.born∈left/\x.key=str (l.getD x.born ([],[])).1/\x.val=str (l.getD x.born ([],[])).2/\x∈AS l 0:=λx hx=>by
  have hx':x∈AS l 0/\seen.contains x.born=false:=by simpa using hx
  obtain⟨i,h1,h2,h3,h4⟩:=Nd hx'.1;subst h2;exact⟨(hi _).2 ⟨h1,hx'.2⟩,h3,h4,hx'.1⟩
 have hE:Array.filter (λe=>!seen.contains e.born) (AS l 0).toArray=#[]->left=[]:=λhe=>by
  rcases List.eq_nil_or_concat left with h| ⟨_,i,h⟩
  ·exact h
  ·exfalso;obtain⟨h1,h2⟩:=(hi i).1 (by rw[h];simp);rw[Array.filter_eq_empty_iff]at he;have hm:(AS l 0)[i]? =some {key:=str l[i].1,val:=str l[i].2,born:=0+i}:=by rw[Kc,List.getElem?_eq_getElem h1];rfl
   refine he _ (by simpa using List.mem_of_getElem? hm) ?_;simpa using h2
 generalize Array.filter (λe=>!seen.contains e.born) (AS l 0).toArray=L at hmem hL hE ⊢;have e1:L.filter (λx=>decide (x.born<l.length))=L:=Array.filter_eq_self.2 (λx hx=>by simpa using hmem x (by simpa using hx));have e2:L.filter (λx=>decide (x.born>=l.length))=#[]:=by
  rw[Array.filter_eq_empty_iff];intro x hx;have:=hmem x (by simpa using hx);simp;omega
 simp only[e1,e2,Array.append_empty];by_cases h0:L.size=0
 ·left;have:L=#[]:=Array.eq_empty_of_size_eq_zero h0;subst this;refine⟨hE rfl,?_⟩;simp[choose,Sem.run,Question.forced]
 ·right;have hne:L.isEmpty=false:=by simp[Array.isEmpty,h0]
  simp only[hne,Bool.false_eq_true,if_false,Array.empty_append,Array.size_map];have hch:∃(j:Nat)(w1:World),j<L.size/\w1.Alike w/\w.grownBy w1 none/\(choose (Question.mapNext L.size)).run P w= .ok j w1:=by
   by_cases hf:L.size<=1
   ·exact⟨0,w,by omega,⟨rfl,rfl,rfl⟩,Aa _ _,by simp[choose,Sem.run,Question.forced,hf]⟩
   ·exact ⟨_, w.drew, Nat.mod_lt _ (by omega), ⟨rfl, rfl, rfl⟩, Ae (Aa _ _), by
     simp only[choose,Sem.run,Question.forced,decide_eq_true_eq,hf,if_false,Question.cut];rfl⟩
  obtain⟨j,w1,hj,hal,g1,hrun⟩:=hch;obtain⟨k1,k2,k3,k4⟩:=hL L[j] (by simp);have hr1:w1.heap[r]? =some (.mapIter (some b) l.length seen l.length):=by rw[hal.1];exact hr
  have hb1:w1.heap[b]? =some (.map (AS l 0).toArray l.length):=by rw[hal.1];exact hb'
  have hlt1:r<w1.heap.size:=by rw[hal.1];exact hlt
  have hne:b≠r:=by
   rintro rfl;rw[hr]at hb';cases hb'
  have hw2:∃w2:World,w2={w1 with heap:=w1.heap.setIfInBounds r (.mapIter (some b) l.length (seen.push L[j].born) l.length)}:=⟨_,rfl⟩;obtain⟨w2,hw2⟩:=hw2;have hr2:w2.heap[r]? =some (.mapIter (some b) l.length (seen.push L[j].born) l.length):=by rw[hw2];simp[hlt1]
  have hb2:w2.heap[b]? =some (.map (AS l 0).toArray l.length):=by
   rw[hw2];show(w1.heap.setIfInBounds r _)[b]? =_;rw[Array.getElem?_setIfInBounds_ne (λe=>hne e.symm)];exact hb1
  have hs2:(setObj r (.mapIter (some b) l.length (seen.push L[j].born) l.length)).run P w1= .ok () w2:=by
   simp only[setObj,Sem.run,hr1];rw[hw2]
  refine⟨L[j].born,k1,w2,?_,⟨hb2,_,hr2,hnd.erase _,λi=>?_⟩,?_,?_⟩
  ·simp only[hrun,Array.getElem?_map,Array.getElem?_eq_getElem hj,Option.map_some,Sem.run_bind,hs2,Result.andThen,k2,k3];rfl
  ·rw[hnd.mem_erase_iff,hi];have:(seen.push L[j].born).contains i=(seen.contains i||i==L[j].born):=by
    rw[Bool.eq_iff_iff];simp
   rw[this];constructor
   ·rintro⟨a1,a2,a3⟩;exact⟨a2,by rw[a3];simpa using a1⟩
   ·rintro⟨a1,a2⟩;simp only[Bool.or_eq_false_iff,beq_eq_false_iff_ne]at a2;exact⟨a2.2,a1,a2.1⟩
  ·refine Z (A2 g1) ?_;rw[hw2];refine⟨rfl,rfl,rfl,by simp,λi _ hir=>?_⟩;show(w1.heap.setIfInBounds r _)[i]? =_;exact Array.getElem?_setIfInBounds_ne (λe=>hir (by rw[e]))
  ·have hf : (AS l 0).toArray.find? (·.born == L[j].born) = some L[j] := by
    rw[<-Array.find?_toList];refine find_born L[j] _ ?_ k4;show((AS l 0).map (·.born)).Nodup;rw[Tb];exact List.nodup_range
   simp only[Instr.entry,getObj,Sem.run_bind,Sem.run,hr2,hb2,Result.andThen,Array.back?_push,bne_self_eq_false,Bool.false_eq_true,if_false,hf,k2,k3];rfl
variable {ops:Array Oper}{rest:List Oper}{o:Oper}{a:Act}
def OH(hg:o.guard=none)(it:Operand)(hop:o.op=Op.next it false){r:Nat}(hit:a.eval it= .pointer (some ⟨r,0,none⟩))(h:Iter w r b l left)
 (hDone:left=[]->wpList P ops Q rest (a.put o.dst (.tuple #[.bool false])) w)
 (hMore:∀(i:Nat)(w':World),i∈left->Iter w' r b l (left.erase i)->w.grownBy w' (some r)->(Instr.entry (.pointer (some ⟨r,0,none⟩))).run P w'= .ok (.tuple #[str (l.getD i ([],[])).1,str (l.getD i ([],[])).2]) w'->
  wpList P ops Q rest (a.put o.dst (.tuple #[.bool true,str (l.getD i ([],[])).1,str (l.getD i ([],[])).2])) w'):
 wpList P ops Q (o::rest) a w:=by
 refine wpList_plain hg λK' hK'=>?_;unfold Oper.wp;rcases h.next (P:=P) o.type with⟨hl,hrun⟩| ⟨i,hi,w1,hrun,h1,hgr,hen⟩
 ·simp[execOp,hop,hit,hrun,Result.andThen];exact hK' _ _ (hDone hl)
 ·simp[execOp,hop,hit,hrun,Result.andThen];exact hK' _ _ (hMore i w1 hi h1 hgr hen)
end
def Wc(h:i<(lvl k).length):((lvl k).getD i ([],[])).2∈(lvl k).map (·.2):=by
 rw[List.getD_eq_getElem?_getD,List.getElem?_eq_getElem h];exact List.mem_map.2 ⟨_,List.getElem_mem h,rfl⟩
def YK(s:Bs):(∃k,k<6/\s∈(lvl k).map (·.2))↔s∈opsL:=by
 have h1:∀k,k<6->∀s∈(lvl k).map (·.2),s∈opsL:=by decide
 have h2:∀s∈opsL,∃k,k<6/\s∈(lvl k).map (·.2):=by decide
 exact⟨fun⟨k,hk,h⟩=>h1 k hk s h,h2 s⟩
def Coll(xs:List Bs)(k:Nat)(left:List Nat):Prop:=(∀s,s∈xs↔(∃j,j<k/\s∈(lvl j).map (·.2))\/∃i,i<(lvl k).length/\i ∉ left/\((lvl k).getD i ([],[])).2=s)
def Coll.start:Coll [] 0 (List.range (lvl 0).length):=λs=>by
 constructor
 ·intro h;cases h
 ·rintro(⟨j,h,_⟩| ⟨i,h1,h2,_⟩)
  ·omega
  ·exact absurd (List.mem_range.2 h1) h2
def Coll.step(h:Coll xs k left)(hn:left.Nodup)(hi:i∈left)(hl:i<(lvl k).length):Coll (xs++[((lvl k).getD i ([],[])).2]) k (left.erase i):=λs=>by
 rw[List.mem_append,h s,List.mem_singleton]
 constructor
 ·rintro((h| ⟨j,h1,h2,h3⟩)|rfl)
  ·exact .inl h
  ·exact .inr ⟨j,h1,λe=>h2 (List.mem_of_mem_erase e),h3⟩
  ·exact .inr ⟨i,hl,λe=>by rw[hn.mem_erase_iff]at e;exact e.1 rfl,rfl⟩
 ·rintro(h| ⟨j,h1,h2,h3⟩)
  ·exact .inl (.inl h)
  ·by_cases hj:j=i
   ·subst hj;exact .inr h3.symm
   ·exact .inl (.inr ⟨j,h1,λe=>h2 ((hn.mem_erase_iff).2 ⟨hj,e⟩),h3⟩)
def Coll.next(h:Coll xs k []):Coll xs (k+1) (List.range (lvl (k+1)).length):=λs=>by
 rw[h s]
 constructor
 ·rintro(⟨j,h1,h2⟩| ⟨i,h1,_,h3⟩)
  ·exact .inl ⟨j,by omega,h2⟩
  ·exact .inl ⟨k,by omega,by rw[<-h3];exact Wc h1⟩
 ·rintro(⟨j,h1,h2⟩| ⟨i,h1,h2,_⟩)
  ·by_cases hj:j=k
   ·subst hj
    obtain⟨p,hp,rfl⟩:=List.mem_map.1 h2
    obtain⟨i,hi,rfl⟩:=List.getElem_of_mem hp
    exact .inr ⟨i,hi,by simp,by rw[List.getD_eq_getElem?_getD,List.getElem?_eq_getElem hi];rfl⟩
   ·exact .inl ⟨j,by omega,h2⟩
  ·exact absurd (List.mem_range.2 h1) h2
def Coll.done(h:Coll xs 6 (List.range (lvl 6).length))(s:Bs):s∈xs↔s∈opsL:=by
 rw[h s,<-YK];constructor
 ·rintro(h| ⟨i,h1,h2,_⟩)
  ·exact h
  ·exact absurd (List.mem_range.2 h1) h2
 ·exactλh=> .inl h
open Go.Lib
def Ra(zs:List Bs)(s:Bs):s∈Lib.compact zs↔s∈zs:=by
 unfold Lib.compact compactUpTo;simp only[List.mem_map,List.mem_filter,List.mem_range];have hg:∀j,j<zs.length->(zs.toArray[j]!: Bs)=zs.getD j []:=λj hj=>by simp[hj]
 constructor
 ·rintro⟨j,⟨hj,_⟩,rfl⟩;rw[hg j hj,List.getD_eq_getElem?_getD,List.getElem?_eq_getElem hj];exact List.getElem_mem hj
 ·intro h;obtain⟨j,hj,hs⟩:=List.getElem_of_mem h;have:∀j,j<zs.length->zs.getD j []=s->∃a,(a<zs.length/\keeps zs.toArray a=true)/\zs.toArray[a]! =s:=by
   intro j;induction j with
   |zero=>intro hj hs;exact⟨0,⟨hj,by simp[keeps]⟩,by rw[hg 0 hj,hs]⟩
   | succ j ih=>
     intro hj hs;by_cases hk:keeps zs.toArray (j+1)=true
     ·exact⟨j+1,⟨hj,hk⟩,by rw[hg _ hj,hs]⟩
     ·refine ih (by omega) ?_;rw[<-hs,<-hg _ hj,<-hg j (by omega)];unfold keeps at hk;rw[decide_eq_true_eq]at hk;exact(Classical.not_not.1 λe=>hk (.inr e)).symm
  exact this j hj (by rw[List.getD_eq_getElem?_getD,List.getElem?_eq_getElem hj];exact hs)
def QZ(zs:List Bs):(Lib.compact zs).length<=zs.length:=by
 unfold Lib.compact compactUpTo;rw[List.length_map];exact nT (List.length_filter_le _ _) (by simp)
def Ph(w:World):Calls Tryz.prog 250 #[] w λe w'=>(∃(g cap:Nat)(zs:List Bs),e= .returned (.slice (some ⟨g,0,none⟩) zs.length cap)/\zs.length<=100/\(∀j,j<zs.length->w'.cell? ⟨g,j,none⟩=some (str (zs.getD j [])))/\∀s,s∈zs↔s∈opsL)/\w.grownBy w' none:=by
 go_enter func250,ntmps250;go_wp2_with fail;refine(JG _).mono ?_;rintro e w1 ⟨m,rfl,hm,g1⟩;have HM:=S (X hm g1);clear hm g1;go_wp2_with fail;go_loopg [1,7] 6 (λg v1 v7 wr=>∃(k:Nat)(xs:List Bs),k+g=6/\v7= .int .i64 k/\wr.ownsRow w1.heap.size 9 1 v1 xs.length (xs.map str)/\Coll xs k (List.range (lvl k).length)/\xs.length<=10*k/\w1.grownBy wr none)
 case atStart=>exact⟨0,[],rfl,rfl,World.ownsRow_nil _ _ _ _,Coll.start,by simp,Aa _ _⟩
 case round=>
  obtain⟨k,xs,hg,rfl,hown,hcoll,hlen,gr⟩:=hrel;by_cases hk:k<6
  ·have hkI:decide ((k:Int)<6)=true:=by simp;omega
   have hix:=NU m k hk;have hmk:=CK gr (HM.1.1 k hk) (by simp);have hrg:=Pa (P:=Tryz.prog) underlying311 hmk;have HX:=S (X hown (X hcoll (X hlen (X gr hmk))));clear hown hcoll hlen gr hmk;have HL:=S (show(lvl k).length<=10 by match k,hk with| 0,_ | 1,_ | 2,_ | 3,_ | 4,_ | 5,_=>decide);go_wp2_with fail;go_loopg [1] (lvl k).length (λg v1 wq=>∃(xs:List Bs)(left:List Nat),left.length=g/\wq.ownsRow w1.heap.size 9 1 v1 xs.length (xs.map str)/\Coll xs k left/\xs.length+g<=10*k+10/\Iter wq wr.heap.size (m+k) (lvl k) left/\v1.ownBlock≠some wr.heap.size/\w1.grownBy wq none)
   case atStart=>
    refine⟨xs,List.range (lvl k).length,by simp,HX.1.1.alloc _,HX.1.2.1,by have:=HX.1.2.2.1;have:=HL.1;omega,Iter.start HX.1.2.2.2.2,?_,Ac HX.1.2.2.2.1 _⟩;intro e;have:=(HX.1.1.lt _ e).2;omega
   case round=>
    obtain⟨ys,left,hleft,hown,hcoll,hlen,hit,hne,gq⟩:=hrel;have hr0:=HX.1.2.2.2.1.size;have HY:=S (X hown (X hcoll (X hlen (X hne (X gq hit)))));clear hown hcoll hlen hne gq hrg hix;subst hleft;go_wp2_with (at_next;refine OH rfl _ rfl rfl hit ?_ ?_)
    ·intro hl;subst hl;clear hit;go_wp2;go_roundg (gk-1)
     case measure=>omega
     case rel=>exact⟨k+1,ys,by omega,by go_num,HY.1.1,HY.1.2.1.next,by have:=HY.1.2.2.1;simp only[List.length_nil]at this;omega,HY.1.2.2.2.2.1⟩
    ·intro i wp hi hit2 gp hen;have hil:i<(lvl k).length:=by
      obtain⟨_,_,_,_,h⟩:=hit;exact((h i).1 hi).1
     have hnd:left.Nodup:=by
      obtain⟨_,_,_,h,_⟩:=hit;exact h
     have hst:=HY.1.2.1.step hnd hi hil;have hle:=List.length_erase_of_mem hi;have hpos:0<left.length:=List.length_pos_of_mem hi;have hown2:=HY.1.1.kept gp (.inr HY.1.2.2.2.1);rw[List.getD_eq_getElem?_getD]at hst;generalize((lvl k)[i]?.getD ([],[])).1=s0 at*;generalize((lvl k)[i]?.getD ([],[])).2=s at*;have hown4:=hown2.alloc (.cells [str s].toArray 9 (0,0));have gq2:=Ap HY.1.2.2.2.2.1 gp (.inr hr0);have gA:=Ac gq2 (.cells [str s].toArray 9 (0,0));have hbs:=gA.size;obtain⟨i0,hi0,hz0,hz1,hz2⟩:=info_parts Fe;have hnc:=AY wp [str s] 9;have hl3:=HY.1.2.2.1;have hml:ys.length+1<=maxLen:=by unfold maxLen;omega
     have hyb:(ys.length+1)*16<=140737488355328:=by omega
     have HZ:=S (X hi0 (X hz0 (X hz1 (X hz2 (X hnc (X hml hown4))))));have HW:=S (X hst (X hle (X hpos (X gA (X (hit2.gb (gZ wp (.cells [str s].toArray 9 (0,0)) none) (by simp) (by simp)) gp.size)))));clear hi0 hz0 hz1 hz2 hnc hml hown4 hown2 hst hle hpos gA hit hit2 gq2 gp hi hil hnd hl3;go_wp2_with (at_builtin;obtain⟨hi0,hz0,hz1,hz2,hnc,hml,hown4⟩:=HZ.1;refine GQ rfl _ _ 37 rfl w1.heap.size 9 i0 (str []) 1 16 underlying37 hi0 hz0 hz1 hz2 rfl (by decide) _ _ _ rfl hown4 ⟨wp.heap.size,0,none⟩ 1 1 [str s] rfl rfl hnc (by simp[Value.oneCell']) hml hyb hbs ?_;intro v' w5 hown5 g5 hnb;clear hi0 hz0 hz1 hz2 hnc hml hown4);have HO5:=S (X hown5 (X g5 hnb));clear hown5 g5 hnb hen;go_roundg (left.erase i).length
     case measure=>have:=HW.1.2.1;have:=HW.1.2.2.1;omega
     case rel=>
      have hob:∀q,u1.ownBlock=some q->w1.heap.size<=q:=λq hq=>(HY.1.1.lt q hq).1;have hmlt:m+k<w1.heap.size:=(Array.getElem?_eq_some_iff.1 (HM.1.1 k hk)).1;have g5':World.grownBy (wp.alloc _) w5 u1.ownBlock:=HO5.1.2.1;refine⟨ys++[s],left.erase i,rfl,by simpa using HO5.1.1,HW.1.1,by have:=HW.1.2.1;have:=HY.1.2.2.1;rw[lA,List.length_singleton];have:=HW.1.2.2.1;omega,HW.1.2.2.2.2.1.gb g5' (λe=>by have:=hob _ e.symm;omega) (λe=>HY.1.2.2.2.1 e.symm),?_,?_⟩
      ·intro e;rcases HO5.1.2.2 _ e with h|h
       ·exact HY.1.2.2.2.1 h
       ·have h6:=HW.1.2.2.2.2.2;have h7:=HY.1.2.2.2.2.2;obtain⟨_,_,h8,_⟩:=h7;have h9:=(Array.getElem?_eq_some_iff.1 h8).1;simp at h;omega
      ·cases hv:u1.ownBlock with
       |none=>rw[hv]at g5';exact Ag HW.1.2.2.2.1 g5'
       |some q=>rw[hv]at g5';exact Ap HW.1.2.2.2.1 g5' (.inr (hob q hv))
  ·have hkI:decide ((k:Int)<6)=false:=by simp;omega
   obtain rfl:k=6:=by omega
   have hmem:=hcoll.done;obtain⟨_,⟨_,h0⟩| ⟨g,cap,cur,rfl,hb,hblk,hnc,hcm,hcs,htake⟩⟩:=hown
   ·exfalso;have:([43]:Bs)∈xs:=(hmem _).2 (by decide);rw[List.eq_nil_of_length_eq_zero h0]at this;cases this
   have hlt:=(Array.getElem?_eq_some_iff.1 hblk).1;have hH:Holds encStr wr g 0 xs.toArray:=holds_of_block hblk (by rw[Nat.mul_one]at htake;exact htake);have HS:=S (slices_Sort_string g 0 cap xs wr hH hlt (by omega));have hperm:=List.mergeSort_perm xs (λx y=>decide (x<=y));have hzl:xs.length=(xs.mergeSort λx y=>decide (x<=y)).length:=hperm.length_eq.symm;have hzm:∀s,s∈(xs.mergeSort λx y=>decide (x<=y))↔s∈opsL:=λs=>by rw[hperm.mem_iff,hmem s]
   generalize(xs.mergeSort λx y=>decide (x<=y))=zs at*;have HY:=S (X hmem (X hb (X hlt (X hH (X hzm (X hzl (X hnc gr)))))));clear hcoll gr hmem hb hblk hnc hcm hcs htake hH hperm hzm hzl hlt;go_wp2_with fail;refine HS.1.mono ?_;rintro e w2 ⟨rfl,n,os,hw2⟩;have g2:wr.grownBy w2 (some g):=by rw[hw2];exact grownBy_sorted _
   have hH2:Holds encStr w2 g 0 zs.toArray:=by
    rw[hw2];refine holds_grow _ _ _ _ _ _ (by simpa using HY.1.2.2.1) (holds_putRow _ _ _ _ xs.toArray _ (show Holds encStr (Sort.ahead wr n) g 0 xs.toArray from HY.1.2.2.2.1) ?_);have:=HY.1.2.2.2.2.2.1;simp;omega
   have hlt2:g<w2.heap.size:=by have:=g2.size;have:=HY.1.2.2.1;omega
   have HC:∀L,L=zs.length->Calls Tryz.prog 281 #[.slice (some ⟨g,0,none⟩) L cap] w2 λe w'=>e= .returned (.slice (some ⟨g,0,none⟩) (Lib.compact zs).length cap)/\∃q,w'=putRow encStr (Sort.ahead w2 q) g 0 (Lib.compact zs++List.replicate (zs.length-(Lib.compact zs).length) []).toArray:=by
    rintro _ rfl;exact slices_Compact_string g 0 cap zs w2 hH2 (by have:=HY.1.2.2.2.2.2.1;omega) (by have:=HY.1.2.2.2.2.2.1;have:=HY.1.2.2.2.2.2.2.1;omega)
   replace HC:=HC xs.length HY.1.2.2.2.2.2.1;have HC2:=S HC;have HH:=S (X hH2 g2);clear HC hw2 hH2 g2;go_wp2_with fail;refine HC2.1.mono ?_;rintro e w3 ⟨rfl,q,hw3⟩;have HW:=S hw3;clear hw3 HS HC2;go_wp2;go_ret;have hcl:=QZ zs;have hzl:=HY.1.2.2.2.2.2.1;refine⟨⟨g,cap,Lib.compact zs,rfl,by omega,λj hj=>?_,λs=>by rw[Ra];exact HY.1.2.2.2.2.1 s⟩,?_⟩
   ·rw[HW.1];have:=cell?_putRow encStr (Sort.ahead w2 q) g 0 zs.toArray (Lib.compact zs++List.replicate (zs.length-(Lib.compact zs).length) []).toArray (show Holds encStr (Sort.ahead w2 q) g 0 zs.toArray from HH.1.1) (by simp;omega) j (by simp;omega);rw[Nat.zero_add]at this;rw[this];simp[encStr,hj,List.getElem_append_left hj,List.getElem?_append_left hj]
   ·have g3 : w2.grownBy w3 (some g) := by
     rw[HW.1];have:=grownBy_sorted (w:=w2) (g:=g) (n:=q) (os:=#[]) (Lib.compact zs++List.replicate (zs.length-(Lib.compact zs).length) []).toArray;rw[grow_empty]at this;exact this
    have ga:=Ap HY.1.2.2.2.2.2.2.2 HH.1.2 (.inr HY.1.2.1);have gb:=Ap ga g3 (.inr HY.1.2.1);exact Z HM.1.2 gb
def OT(s:Bs)(w:World):Calls Tryz.prog 219 #[str s] w (ρ w (.bool (opsL.contains s))):=by
 generalize hb0:opsL.contains s=b;have HB:=S hb0;clear hb0;go_enter func219,ntmps219;go_wp2_with fail;refine(Ph _).mono ?_;rintro e w1 ⟨⟨g,cap,zs,rfl,hl,hc,hm⟩,g1⟩;have HC:=S (slices_Contains_string g 0 zs.length cap (zs.map λz=>⟨z.toArray⟩) ⟨s.toArray⟩ w1 (by simp) (by omega) (λj hj=>by
  have hj':j<zs.length:=by simpa using hj
  have:=hc j hj';rw[Nat.zero_add,this];simp[List.getD_eq_getElem?_getD,hj']))
 have hb:Lib.containsS ((zs.map λz=>(⟨z.toArray⟩:ByteArray)).take zs.length) ⟨s.toArray⟩=opsL.contains s:=by
  rw[Bool.eq_iff_iff,containsS_iff,List.take_of_length_le (by simp),List.contains_iff_mem,<-hm s,List.mem_map];constructor
  ·rintro⟨z,hz,e⟩;have:z=s:=by
    have:=congrArg (λb:ByteArray=>b.data.toList) e;simpa using this
   exact this ▸ hz
  ·exactλh=>⟨s,h,rfl⟩
 rw[hb,HB.1]at HC;clear hb hc hm;go_wp2_with fail;refine HC.1.mono ?_;rintro e w2 ⟨rfl,rfl⟩;go_wp2;go_ret;exact⟨rfl,g1⟩
abbrev Ct:Cd:=⟨17,0,0,[]⟩
abbrev knU:Un:=⟨mainB,[0,0],[Ct]⟩
def Yp(w:World)(b:Nat):
 Calls Tryz.prog 66 #[.pointer (some ⟨b,0,none⟩),.slice none 0 0] w λe w'=>e= .returned (.tuple #[])/\w'=w:=by
 go_enter func66,ntmps66;go_wp2_with fail;go_loopg [5,8] 0 (λg v5 v8 wr=>g=0/\v8= .int .i64 0/\wr=w)
 case atStart=>exact⟨rfl,rfl,rfl⟩
 case round=>
  obtain⟨rfl,rfl,rfl⟩:=hrel;go_wp2;go_end0;exact⟨rfl,rfl⟩
def put_k{x1 x2 x3:Value}(h:Blk w b [.slice none 0 0,x1,x2,x3] 106):
 Calls Tryz.prog 64 #[.pointer (some ⟨b,0,none⟩),.int .i64 17,.int .i64 0,.int .i64 0,str []] w λe w'=>e= .returned (.tuple #[])/\∃q cp,Blk w' b [.slice (some ⟨q,0,none⟩) 1 cp,x1,x2,x3] 106/\
  w'.ownsRow w.heap.size 61 4 (.slice (some ⟨q,0,none⟩) 1 cp) 1 (A9 [Ct])/\w.grownBy w' (some b):=by
 obtain⟨j0,hj0,hy0,hy1,hy2⟩:=info_parts Ob;have HJ:=S (X hj0 (X hy0 (X hy1 hy2)));have c0:=h.cell' 0 rfl;have HB:=S h;have hlt:=h.lt;clear hj0 hy0 hy1 hy2 h;go_enter func64,ntmps64;go_wp2_with (at_builtin;go_loud(refine wpList_append_lies _ rfl _ _ 56 rfl w.heap.size 61 j0 (.agg #[.int .i64 0,.int .i64 0,.int .i64 0,str []]) 4 40 underlying56 HJ.1.1 HJ.1.2.1 HJ.1.2.2.1 HJ.1.2.2.2 rfl (by decide) (.slice none 0 0) 0 [] rfl (EC _ _ _ _) ⟨w.heap.size,0,none⟩ 1 1 [.int .i64 17,.int .i64 0,.int .i64 0,str []] rfl rfl (AY _ _ _) (by simp[Value.oneCell']) (by decide) (by decide) (by decide) (by simp) _ rfl ?_;intro g6 cap6 w6 hown hgrow hat6 hlt6;(have g7:w.grownBy w6 none:=Dw (gZ w _ none) hgrow (by simp[Value.ownBlock]));(have hb7:=HB.1.gb g7 (by simp));(have f0:=hb7.frozen 0);(have l7:=hb7.lt);(have d0:=hb7.cell' 0 rfl);(have HE:=S (X hown (X g7 hb7)));(have HQ:=S (show w.heap.size<=g6 from by rcases hat6 with h9|h9;(simp[Value.ownBlock]at h9);(rw[h9];simp)));clear hown hgrow hat6 g7 hb7));go_end0;refine⟨rfl,g6,cap6,(HE.1.2.2.set 0 _).of_eq rfl rfl,?_,Af (A2 HE.1.2.1) _ _ (.inl rfl)⟩;exact Cr (show w6.ownsRow w.heap.size 61 4 (.slice (some ⟨g6,0,none⟩) 1 cap6) 1 (A9 [Ct])from by simpa[A9,cdC]using HE.1.1) (Af (Aa w6 (some b)) _ _ (.inl rfl)) (λk hk _ e=>by cases e;omega)
def sK{W W1:World}{P C:Nat}(h:W.cell? ⟨P,0,none⟩=some x/\W.cell? ⟨P,2,none⟩=some y/\W.cell? ⟨C,0,none⟩=some z)(g:W.grownBy W1 r)(hp:some P≠r)(hc:some C≠r):
 W1.cell? ⟨P,0,none⟩=some x/\W1.cell? ⟨P,2,none⟩=some y/\W1.cell? ⟨C,0,none⟩=some z:=⟨B3 g h.1 hp,B3 g h.2.1 hp,B3 g h.2.2 hc⟩
def R4{fn:Func}{p:Tmp}(h:fn.results=#[.cell p 58])(tmps:Array Value){b:Value}(hb:Blk w k [a,b,c] 58)
 (hp:tmps.getD p undef= .pointer (some ⟨k,0,none⟩)):(results fn tmps).run Tryz.prog w= .ok (.agg #[a,b,c]) w:=by
 have c0:=hb.cell' 0 rfl;have c1:=hb.cell' 1 rfl;have c2:=hb.cell' 2 rfl;have hp':tmps[p]?.getD undef= .pointer (some ⟨k,0,none⟩):=by simpa using hp
 simp[results,h,hp',go_sem,c0,c1,c2]
def TG{b:Value}(hb:Blk w2 k [a,b,c] 58):
 Blk (((((w2.setCell ⟨k,0,none⟩ x).setCell ⟨k,1,none⟩ y).setCell ⟨k,2,none⟩ z).alloc (.cells #[.int .i64 0,.int .i64 0] 3 (0,0))).drew) k [x,y,z] 58/\
 w2.grownBy (((((w2.setCell ⟨k,0,none⟩ x).setCell ⟨k,1,none⟩ y).setCell ⟨k,2,none⟩ z).alloc (.cells #[.int .i64 0,.int .i64 0] 3 (0,0))).drew) (some k)/\
 Blk (((((w2.setCell ⟨k,0,none⟩ x).setCell ⟨k,1,none⟩ y).setCell ⟨k,2,none⟩ z).alloc (.cells #[.int .i64 0,.int .i64 0] 3 (0,0))).drew) w2.heap.size [.int .i64 0,.int .i64 0] 3:=by
 have h3:Blk (((w2.setCell ⟨k,0,none⟩ x).setCell ⟨k,1,none⟩ y).setCell ⟨k,2,none⟩ z) k [x,y,z] 58:=((hb.set 0 x).set 1 y).set 2 z;have g3:w2.grownBy (((w2.setCell ⟨k,0,none⟩ x).setCell ⟨k,1,none⟩ y).setCell ⟨k,2,none⟩ z) (some k):=Af (Af (Af (Aa w2 (some k)) ⟨k,0,none⟩ x (.inl rfl)) ⟨k,1,none⟩ y (.inl rfl)) ⟨k,2,none⟩ z (.inl rfl);have hs:(((w2.setCell ⟨k,0,none⟩ x).setCell ⟨k,1,none⟩ y).setCell ⟨k,2,none⟩ z).heap.size=w2.heap.size:=by simp[World.setCell]
 generalize(((w2.setCell ⟨k,0,none⟩ x).setCell ⟨k,1,none⟩ y).setCell ⟨k,2,none⟩ z)=W at*;exact⟨(h3.alloc _).drew,Ae (Ac g3 _),((Blk.new W [.int .i64 0,.int .i64 0] 3).drew).of_eq hs rfl⟩
def JE{r:Nat}(h:Blk w r cs t)(hn:cs.length=n*k)(hm:n<=maxLen)(ho:ok r):Cells w (.slice (some ⟨r,0,none⟩) n n) k n cs ok:=
 ⟨_,_,rfl,nR _,hm,hn,λj u hj=>⟨r,0,rfl,ho,by rw[Nat.zero_add];exact h.cell' j hj⟩⟩
def Ze(w:World)(m:Nat):
 Calls Tryz.prog 36 #[.agg #[str mainB,.bool false,.slice none 0 0,.slice none 0 0],.map (some m)] w λe w'=>∃r q cp,e= .returned (.agg #[str mainB,.slice (some ⟨r,0,none⟩) 2 2,.slice (some ⟨q,0,none⟩) 1 cp])/\
  Cells w' (.slice (some ⟨r,0,none⟩) 2 2) 1 2 (Bt [0,0]) (Al w.heap.size)/\Cells w' (.slice (some ⟨q,0,none⟩) 1 cp) 4 1 (A9 [Ct]) (Al w.heap.size)/\w.grownBy w' none:=by
 go_enter func36,ntmps36;go_wp2_with fail;refine(Yp _ _).mono ?_;rintro e w1 ⟨rfl,rfl⟩;have bP:=((Blk.new w mainC 40).alloc (.cells #[.string ⟨#[]⟩,.slice none 0 0,.slice none 0 0] 58 (0,0))).alloc (.cells #[.slice none 0 0,.slice none 0 0,.int .i64 0,.map (some m)] 106 (0,0));have bR:=((Blk.new (w.alloc (.cells mainC.toArray 40 (0,0))) [.string ⟨#[]⟩,.slice none 0 0,.slice none 0 0] 58).alloc (.cells #[.slice none 0 0,.slice none 0 0,.int .i64 0,.map (some m)] 106 (0,0))).of_eq (k':=w.heap.size+1) (by simp) rfl;have bC:=(Blk.new ((w.alloc (.cells mainC.toArray 40 (0,0))).alloc (.cells #[.string ⟨#[]⟩,.slice none 0 0,.slice none 0 0] 58 (0,0))) [.slice none 0 0,.slice none 0 0,.int .i64 0,.map (some m)] 106).of_eq (k':=w.heap.size+1+1) (by simp) rfl;have gW:w.grownBy (((w.alloc (.cells mainC.toArray 40 (0,0))).alloc (.cells #[.string ⟨#[]⟩,.slice none 0 0,.slice none 0 0] 58 (0,0))).alloc (.cells #[.slice none 0 0,.slice none 0 0,.int .i64 0,.map (some m)] 106 (0,0))) none:=Ac (Ac (gZ w _ none) _) _;change Blk (((w.alloc (.cells #[str mainB,.bool false,.slice none 0 0,.slice none 0 0] 40 (0,0))).alloc (.cells #[.string ⟨#[]⟩,.slice none 0 0,.slice none 0 0] 58 (0,0))).alloc (.cells #[.slice none 0 0,.slice none 0 0,.int .i64 0,.map (some m)] 106 (0,0))) _ _ _ at bP
 change Blk (((w.alloc (.cells #[str mainB,.bool false,.slice none 0 0,.slice none 0 0] 40 (0,0))).alloc (.cells #[.string ⟨#[]⟩,.slice none 0 0,.slice none 0 0] 58 (0,0))).alloc (.cells #[.slice none 0 0,.slice none 0 0,.int .i64 0,.map (some m)] 106 (0,0))) _ _ _ at bR;change Blk (((w.alloc (.cells #[str mainB,.bool false,.slice none 0 0,.slice none 0 0] 40 (0,0))).alloc (.cells #[.string ⟨#[]⟩,.slice none 0 0,.slice none 0 0] 58 (0,0))).alloc (.cells #[.slice none 0 0,.slice none 0 0,.int .i64 0,.map (some m)] 106 (0,0))) _ _ _ at bC;change w.grownBy (((w.alloc (.cells #[str mainB,.bool false,.slice none 0 0,.slice none 0 0] 40 (0,0))).alloc (.cells #[.string ⟨#[]⟩,.slice none 0 0,.slice none 0 0] 58 (0,0))).alloc (.cells #[.slice none 0 0,.slice none 0 0,.int .i64 0,.map (some m)] 106 (0,0))) none at gW;generalize(((w.alloc (.cells #[str mainB,.bool false,.slice none 0 0,.slice none 0 0] 40 (0,0))).alloc (.cells #[.string ⟨#[]⟩,.slice none 0 0,.slice none 0 0] 58 (0,0))).alloc (.cells #[.slice none 0 0,.slice none 0 0,.int .i64 0,.map (some m)] 106 (0,0)))=W at*;have H1:=S (X bP (X bR (X bC gW)));clear bP bR bC gW;go_wp2_with fail;refine(put_k H1.1.2.2.1).mono ?_;rintro e w2 ⟨rfl,q,cp,hC,hown,g2⟩;have bP:=H1.1.1.gb g2 (by simp;omega);have bR:=H1.1.2.1.gb g2 (by simp);have g3:w.grownBy w2 none:=Ap H1.1.2.2.2 g2 (.inr (by omega));have hWs:=H1.1.2.2.2.size;have hWl:=H1.1.2.2.1.lt;have a0:=bP.cell' 0 rfl;have a1:=bP.cell' 1 rfl;have a2:=bP.cell' 2 rfl
 have b0:=bR.cell' 0 rfl;have b1:=bR.cell' 1 rfl;have b2:=bR.cell' 2 rfl;have bf:=λk=>bR.frozen k;have bl:=bR.lt;have pl:=bP.lt;have cl:=hC.lt;have e0:=hC.cell' 0 rfl;have H2:=S (X bP (X bR (X hC (X hown (X g3 hWl)))));clear bP bR hC hown g2 g3 hWs hWl H1;go_wp2_with fail;have HX0:=S (show w2.cell? ⟨w.heap.size,0,none⟩=some (str mainB)/\w2.cell? ⟨w.heap.size,2,none⟩=some (.slice none 0 0)/\w2.cell? ⟨w.heap.size+1+1,0,none⟩=some (.slice (some ⟨q,0,none⟩) 1 cp)from⟨a0,a2,e0⟩);have HX:=S (show w2.drew.cell? ⟨w.heap.size,0,none⟩=some (str mainB)/\w2.drew.cell? ⟨w.heap.size,2,none⟩=some (.slice none 0 0)/\w2.drew.cell? ⟨w.heap.size+1+1,0,none⟩=some (.slice (some ⟨q,0,none⟩) 1 cp)from⟨a0,a2,e0⟩);go_region_held3 (λW=>W.cell? ⟨w.heap.size,0,none⟩=some (str mainB)/\W.cell? ⟨w.heap.size,2,none⟩=some (.slice none 0 0)/\W.cell? ⟨w.heap.size+1+1,0,none⟩=some (.slice (some ⟨q,0,none⟩) 1 cp))
  (first|exact HX.1|exact sK (by assumption) (gZ _ _ (some (w.heap.size+1))) (by simp) (by simp)|exact sK HX0.1 (Ae (Ac (Af (Af (Af (Aa w2 (some (w.heap.size+1))) _ _ (.inl rfl)) _ _ (.inl rfl)) _ _ (.inl rfl)) _)) (by simp) (by simp))
  (first|fail)
 rename_i hH;clear hH HX HX0;go_wp2;have hU:=TG (x:=str mainB) (y:= .slice (some ⟨w2.heap.size,0,none⟩) 2 2) (z:= .slice (some ⟨q,0,none⟩) 1 cp) H2.1.2.1;have hw2:=H2.1.2.2.2.2.1.size;have hWl:=H2.1.2.2.2.2.2;refine bZ (R4 rfl _ hU.1 rfl) rfl ⟨w2.heap.size,q,cp,rfl,JE hU.2.2 rfl (by decide) hw2,?_,Ap H2.1.2.2.2.2.1 hU.2.1 (.inr (by omega))⟩;exact((Db H2.1.2.2.2.1).gb hU.2.1 (λk hk _ e=>by have h1:_<=k:=hk;cases e;omega)).mono (λk hk _=>by have h1:_<=k:=hk;show w.heap.size<=k;omega)
abbrev unVk(ra:Option Addr)(rc:Nat)(ca:Option Addr)(cc:Nat):Value:= .agg #[str mainB,.slice ra 2 rc,.slice ca 1 cc]
def RY(w:World):Calls Tryz.prog 52 #[.agg #[.int .i64 17,.int .i64 0,.int .i64 0,str []]] w (ρ w (.bool false)):=by
 go_enter func52,ntmps52;go_wp2;go_ret;exact⟨rfl,(Ac (Aa _ _) _)⟩
def Zu(h:Cells w (.slice ca 1 cc) 4 1 (A9 [Ct]) ok):∃g o,ca=some ⟨g,o,none⟩/\g<w.heap.size/\w.cell? ⟨g,o,none⟩=some (.int .i64 17)/\w.cell? ⟨g,o+1,none⟩=some (.int .i64 0)/\w.cell? ⟨g,o+2,none⟩=some (.int .i64 0)/\w.cell? ⟨g,o+3,none⟩=some (str []):=by
 obtain⟨g,o,e,_,hl,c0,c1,c2,c3⟩:=Cells.cd (l:=[Ct]) (n:=1) (j:=0) (x:=Ct) h rfl;exact⟨g,o,e,hl,by simpa using c0,by simpa using c1,by simpa using c2,by simpa using c3⟩
def P3(h:Cells w (.slice ca 1 cc) 4 1 (A9 [Ct]) ok):
 Calls Tryz.prog 77 #[.slice ca 1 cc,.func (.func 52) #[] #[]] w (ρ w (.int .i64 (-1))):=by
 obtain⟨g,o,rfl,hgl,c0,c1,c2,c3⟩:=Zu h;have HC:=S (X c0 (X c1 (X c2 c3)));clear h c0 c1 c2 c3 hgl;go_enter func77,ntmps77;go_wp2_with fail;go_loopg [5,8] 1 (λg v5 v8 wr=>∃k:Nat,k+g=1/\v8= .int .i64 k/\w.grownBy wr none)
 case atStart=>exact⟨0,rfl,rfl,Aa _ _⟩
 case round=>
  obtain⟨k,hk,rfl,hg⟩:=hrel;cases gk with
  | zero=>
    have hk1:k=1:=by omega
    subst hk1;have HX:=S hg;clear hg;go_wp2;go_ret;exact⟨rfl,HX.1⟩
  | succ gk=>
    have hk0:k=0:=by omega
    subst hk0;have d0:=Ad hg HC.1.1;have d1:=Ad hg HC.1.2.1;have d2:=Ad hg HC.1.2.2.1;have d3:=Ad hg HC.1.2.2.2;have HX:=S hg;clear hg;go_wp2_with fail;refine mR (RY _) λw2 g2=>?_;have H2:=S (Z HX.1 g2);clear g2;go_wp2;go_roundg gk
    case measure=>omega
    case rel=>exact⟨1,by omega,rfl,H2.1⟩
def TD{ra:Option Addr}{rc:Nat}(h:Cells w (.slice ca 1 cc) 4 1 (A9 [Ct]) ok):
 Calls Tryz.prog 28 #[unVk ra rc ca cc] w (ρ w (.bool false)):=by
 have gA:=gZ w (.cells #[str mainB,.slice ra 2 rc,.slice ca 1 cc] 58 (0,0)) none;have HH:=S (X (h.gb gA (by simp)) gA);clear h gA;have hc:∀W,Cells W (.slice ca 1 cc) 4 1 (A9 [Ct]) ok->Calls Tryz.prog 51 #[.slice ca 1 cc,.func (.func 52) #[] #[]] W (ρ W (.bool false)):=by
  intro W hW;have HW:=S hW;clear hW;go_enter func51,ntmps51;go_wp2_with fail;refine mR (P3 HW.1) λw1 g1=>?_;go_wp2;go_ret;exact⟨rfl,g1⟩
 have HC:=S hc;clear hc;go_enter func28,ntmps28;go_wp2_with fail;refine mR (HC.1 _ HH.1.1) λw1 g1=>?_;have HG:=S (Z HH.1.2 g1);clear g1;go_wp2;go_ret;exact⟨rfl,HG.1⟩
def Zv(h:VU ok w v [knU]):∃g o cap ra rc ca cc,v= .slice (some ⟨g,o,none⟩) 1 cap/\g<w.heap.size/\w.cell? ⟨g,o,none⟩=some (str mainB)/\w.cell? ⟨g,o+1,none⟩=some (.slice ra 2 rc)/\w.cell? ⟨g,o+2,none⟩=some (.slice ca 1 cc)/\
 Cells w (.slice ra 2 rc) 1 2 (Bt [0,0]) ok/\Cells w (.slice ca 1 cc) 4 1 (A9 [Ct]) ok:=by
 obtain⟨a,cap,rfl,_,_,hat⟩:=h.open;obtain⟨g,o,ra,rc,ca,cc,rfl,_,hl,c0,c1,c2,h1,h2⟩:=hat 0 knU rfl;exact⟨g,o,cap,ra,rc,ca,cc,rfl,hl,by simpa using c0,by simpa using c1,by simpa using c2,h1,h2⟩
def Lg(k:Nat)(ok:Nat->Prop):Prop:=∀(W:World)(ra:Option Addr)(rc:Nat)(ca:Option Addr)(cc:Nat),Cells W (.slice ra 2 rc) 1 2 (Bt [0,0]) ok->Cells W (.slice ca 1 cc) 4 1 (A9 [Ct]) ok->Calls Tryz.prog k #[unVk ra rc ca cc] W (ρ W (.bool false))
def P5(h:VU ok w v [knU])(hk:Lg 28 ok):
 Calls Tryz.prog 53 #[v,.func (.func 28) #[] #[]] w (ρ w (.int .i64 (-1))):=by
 obtain⟨g,o,cap,ra,rc,ca,cc,rfl,hgl,c0,c1,c2,h1,h2⟩:=Zv h;have HC:=S (X c0 (X c1 (X c2 (X h1 h2))));have HK:=S hk;clear h c0 c1 c2 h1 h2 hgl hk;go_enter func53,ntmps53;go_wp2_with fail;go_loopg [5,8] 1 (λg v5 v8 wr=>∃k:Nat,k+g=1/\v8= .int .i64 k/\w.grownBy wr none)
 case atStart=>exact⟨0,rfl,rfl,Aa _ _⟩
 case round=>
  obtain⟨j,hj,rfl,hg⟩:=hrel;cases gk with
  | zero=>
    have hk1:j=1:=by omega
    subst hk1;have HX:=S hg;clear hg;go_wp2;go_ret;exact⟨rfl,HX.1⟩
  | succ gk=>
    have hk0:j=0:=by omega
    subst hk0;have d0:=Ad hg HC.1.1;have d1:=Ad hg HC.1.2.1;have d2:=Ad hg HC.1.2.2.1;have HX:=S hg;clear hg;go_wp2_with fail;refine mR (HK.1 _ ra rc ca cc (HC.1.2.2.2.1.gb HX.1 (by simp)) (HC.1.2.2.2.2.gb HX.1 (by simp))) λw2 g2=>?_;have H2:=S (Z HX.1 g2);clear g2;go_wp2;go_roundg gk
    case measure=>omega
    case rel=>exact⟨1,by omega,rfl,H2.1⟩
def OJ(h:VU ok w v [knU])(hk:Lg 28 ok):
 Calls Tryz.prog 29 #[v,.func (.func 28) #[] #[]] w (ρ w (.bool false)):=by
 have HI:=S (P5 h hk);clear h hk;go_enter func29,ntmps29;go_wp2_with fail;refine mR HI.1 λw1 g1=>?_;go_wp2;go_ret;exact⟨rfl,g1⟩
def RZ(ok:Nat->Prop):Lg 28 ok:=λ_ _ _ _ _ _ h=>TD h
open Go.Maps Go.WideMaps Go.ChangeMaps Go.MapKept
def Tr{G c:Nat}(h:Blk w G mainC 40):
 Calls Tryz.prog 14 #[.slice (some ⟨G,0,none⟩) 1 c] w λe w'=>∃v,e= .returned (.tuple #[v,.int .i64 0])/\VU (Al w.heap.size) w' v [knU]/\w.grownBy w' none:=by
 have hmm:=@run_makeMap Tryz.prog;obtain⟨n0,hn0,hv0,hv1,hv2⟩:=info_parts Od;have HU:=S (X hn0 (X hv0 (X hv1 hv2)));have HB:=S h;clear h hn0 hv0 hv1 hv2;go_enter func14,ntmps14;go_wp2_with fail;refine mR (Pb HB.1) λw1 g1=>?_;have H1:=S (X (HB.1.gb g1 (by simp)) g1);clear g1;go_wp2_with fail;go_loopg [7,19] 1 (λg v7 v19 wr=>(g=1/\v19= .int .i64 0/\wr=w1.alloc (.map #[] 0))\/(g=0/\v19= .int .i64 1/\w1.grownBy wr none))
 case atStart=>exact .inl ⟨rfl,rfl,rfl⟩
 case round=>
  rcases hrel with⟨rfl,rfl,rfl⟩| ⟨rfl,rfl,hg⟩
  ·have g0:=gZ w1 (.map #[] 0) none;have hbk:=H1.1.1.gb g0 (by simp);have z0:=hbk.cell' 0 rfl;have z1:=hbk.cell' 1 rfl;have z2:=hbk.cell' 2 rfl;have z3:=hbk.cell' 3 rfl;have hgl:=hbk.lt;have HM:=S (World.ownsMap_made (H:=Unit) w1 Tryz.prog 9 (plainElem Tryz.prog 3));clear hbk;have hkey:keyOf Tryz.prog 9 (str mainB)=some _:=keyOf_string_mk (s:=⟨mainB.toArray⟩) underlying9 (by decide);go_wp2_with (at_mapUpdate;refine wpList_mapUpdate_own _ rfl _ _ _ 68 rfl 9 3 Lo underlying68 (plainElem (H:=Unit) Tryz.prog 3) w1.heap.size 0 _ rfl (HM.1.alloc _) (by unfold maxLen;omega) _ _ _ rfl rfl hkey _ [] (plainElem_int underlying3 (by decide)) ?_;intro w2 hown1 hgrow1);have gwx:w1.grownBy w2 none:=Ap (Ac (gZ w1 _ none) _) hgrow1 (.inr (nR _));clear hown1 hgrow1;go_roundg 0
   case measure=>omega
   case rel=>exact .inr ⟨rfl,rfl,gwx⟩
  ·have H2:=S (X (H1.1.1.gb hg (by simp)) (Z H1.1.2 hg));clear hg;go_wp2_with fail;go_loopg [8,10,32] 1 (λg v8 v10 v32 wr=>(g=1/\v32= .int .i64 0/\v8= .slice none 0 0/\Blk wr G mainC 40/\w.grownBy wr none)\/(g=0/\v32= .int .i64 1/\VU (Al w.heap.size) wr v8 [knU]/\w.grownBy wr none))
   case atStart=>exact .inl ⟨rfl,rfl,rfl,H2.1.1,H2.1.2⟩
   case round=>
    rcases hrel with⟨rfl,rfl,rfl,hb,hg⟩| ⟨rfl,rfl,hv,hg⟩
    ·have z0:=hb.cell' 0 rfl;have z1:=hb.cell' 1 rfl;have z2:=hb.cell' 2 rfl;have z3:=hb.cell' 3 rfl;have hgl:=hb.lt;have gA:=Z hg (gZ wr (.cells mainC.toArray 40 (0,0)) none);have hgs:=hg.size;have HX:=S gA;clear hb hg gA H2;go_wp2_with fail;refine(Ze _ _).mono ?_;rintro e w5 ⟨r,q,cp,rfl,hr,hc,g5⟩;have hs5:w.heap.size<=w5.heap.size:=(Z HX.1 g5).size;have gA5:=gZ w5 (.cells [str mainB,.slice (some ⟨r,0,none⟩) 2 2,.slice (some ⟨q,0,none⟩) 1 cp].toArray 58 (0,0)) none;have HR:=S (X (hr.gb gA5 (by simp)) (X (hc.gb gA5 (by simp)) (Z (Z HX.1 g5) gA5)));clear hr hc g5 gA5;go_wp2_with (at_builtin;go_loud(refine wpList_append_lies _ rfl _ _ 23 rfl w.heap.size 58 n0 (.agg #[str [],.slice none 0 0,.slice none 0 0]) 3 64 underlying23 HU.1.1 HU.1.2.1 HU.1.2.2.1 HU.1.2.2.2 rfl (by decide) (.slice none 0 0) 0 [] rfl (EC _ _ _ _) ⟨w5.heap.size,0,none⟩ 1 1 [str mainB,.slice (some ⟨r,0,none⟩) 2 2,.slice (some ⟨q,0,none⟩) 1 cp] rfl rfl (AY _ _ _) (by simp[Value.oneCell']) (by decide) (by decide) (by decide) (by simp;omega) _ rfl ?_;intro g6 cap6 w6 hown hgrow hat6 hlt6;(have HE:=S (X hown hgrow));clear hown hgrow hat6));go_roundg 0
     case measure=>omega
     case rel=>
      refine .inr ⟨rfl,rfl,⟨[str mainB,.slice (some ⟨r,0,none⟩) 2 2,.slice (some ⟨q,0,none⟩) 1 cp],?_,?_⟩,?_⟩
      ·exact Db (by simpa using HE.1.1)
      ·refine RepU.one (u:=knU) ?_ ?_
       ·exact(HR.1.1.gb HE.1.2 (by simp[Value.ownBlock])).mono (λk hk _=>by have h1:_<=k:=hk;simp at h1;show w.heap.size<=k;omega)
       ·exact(HR.1.2.1.gb HE.1.2 (by simp[Value.ownBlock])).mono (λk hk _=>by have h1:_<=k:=hk;simp at h1;show w.heap.size<=k;omega)
      ·exact Dw HR.1.2.2 HE.1.2 (by simp[Value.ownBlock])
    ·have HV:=S (X hv hg);clear hv hg H2;go_wp2_with fail;refine mR (NI HV.1.1 (by decide)) λw3 g3=>?_;have H3:=S (X (HV.1.1.gb g3 (by simp)) (Z HV.1.2 g3));have hsz:szU [knU]=1:=by decide
     rw[hsz];clear g3 hsz;go_wp2_with fail;refine mR (OJ H3.1.1 (RZ _)) λw4 g4=>?_;have H4:=S (X (H3.1.1.gb g4 (by simp)) (Z H3.1.2 g4));clear g4;go_wp2;exact bZ (v:= .tuple #[u8,.int .i64 0]) (by simp[results,results14,go_sem]) rfl ⟨_,rfl,H4.1.1,H4.1.2⟩
end Go.Proofs.YtbjfaimkiclhgaaGreatDoor
