/-
  The lexer: the next token.
-/
import Derived.Test.YtgjdhajcnechdaaGreatDoorSv21
set_option linter.all false
set_option maxRecDepth 100000
set_option maxHeartbeats 8000000
namespace Go.Proofs.YtgjdhajcnechdaaGreatDoor
open Go.Proofs.Tryz
open Go.RowKit
theorem Sc.drew{w:World}{b:Nat}{s:Bs}{i:Nat}{line begun:Bool}{bad:Int}(h:Sc w b s i line begun bad):Sc w.drew b s i line begun bad:=h.drewN 1
theorem Pc(s:Bs)(l:Bool)(R:NR)(hR:R ≠ .out):∀(d k m:Nat),s.length-k=d→k≤s.length→AI s m k l=R→∃m',1≤m'∧m'≤m∧AI s m' (AP s k) l=R:=by
 intro d;induction d with
 | zero=>
   intro k m hd hk h;rw[show AP s k=k from CC (by omega)];cases m with
   |zero=>exact absurd h.symm hR
   |succ m=>exact⟨m+1,by omega,Nat.le_refl _,h⟩
 | succ d ih=>
   intro k m hd hk h;have hkl:k<s.length:=by omega
   cases m with
   |zero=>exact absurd h.symm hR
   | succ m=>
     cases hb:cls 3 (bAt s k)with
     | false=>
       rw[show AP s k=k from Cz hkl hb];exact⟨m+1,by omega,Nat.le_refl _,h⟩
     | true=>
       rw[show AP s k=AP s (k+1)from BO hkl hb];have h10:bAt s k≠10:=by intro e;rw[e]at hb;revert hb;decide
       have hs:BM s k l= .again (k+1) l:=by
        unfold BM;rw[if_neg (by omega),if_neg h10,if_pos hb]
       rw[AI,hs]at h;obtain⟨m',h1,h2,h3⟩:=ih (k+1) m (by omega) (by omega) h;exact⟨m',h1,by omega,h3⟩
theorem Ji(s:Bs)(k:Nat)(p:Bs){r:Bool}(hr:p.isPrefixOf (s.drop k)=r)(w:World):
 Calls Tryz.prog 154 #[.string ((⟨s.toArray⟩:ByteArray).extract k s.length),.string ⟨p.toArray⟩] w fun e w'=>e= .returned (.bool r)∧w'=w:=(Gc s k p hr w).mono fun _ _ h=>⟨h.1,h.2.symm⟩
section
variable {s:Bs}{j:Nat}{l:Bool}
theorem Q8(h:s.length≤j):BM s j l=if l then .tok ⟨5,j,[]⟩ j false else .stop:=if_pos h
theorem QT(h:j<s.length)(h10:bAt s j=10):BM s j l=if l then .tok ⟨5,j,[]⟩ (j+1) false else .again (j+1) false:=(if_neg (by omega)).trans (if_pos h10)
theorem Jm(h:j<s.length)(h10:bAt s j≠10)(hb:cls 3 (bAt s j)=false)(hc:((bAt s j==42&&!l)||Dy s j)=true):BM s j l=match Bp s j with
 |some k=> .bad k
 |none=> .again (An s j) l:=(if_neg (by omega)).trans ((if_neg h10).trans ((if_neg (by rw[hb];simp)).trans (if_pos hc)))
theorem Ot(h:j<s.length)(h10:bAt s j≠10)(hb:cls 3 (bAt s j)=false)(hc:((bAt s j==42&&!l)||Dy s j)=false)(h59:bAt s j=59):BM s j l=if BT s (AP s (j+1))then
 match Bp s (AP s (j+1))with
 |some k=> .bad k
 |none=> .again (B0 s (AP s (j+1))) l
 else .bad j:=(if_neg (by omega)).trans ((if_neg h10).trans ((if_neg (by rw[hb];simp)).trans ((if_neg (by rw[hc];simp)).trans (if_pos h59))))
theorem Q9(h:j<s.length)(h10:bAt s j≠10)(hb:cls 3 (bAt s j)=false)(hc:((bAt s j==42&&!l)||Dy s j)=false)(h59:bAt s j≠59):BM s j l=B3 s j:=(if_neg (by omega)).trans ((if_neg h10).trans ((if_neg (by rw[hb];simp)).trans ((if_neg (by rw[hc];simp)).trans (if_neg h59))))
end
theorem Ia{w:World}{b:Nat}{s:Bs}{i:Nat}{bad:Int}(h:Sc w b s i true true bad){j:Nat}(hj:j=if i<s.length then i+1 else i):
 Calls Tryz.prog 153 #[.pointer (some ⟨b,0,none⟩)] w fun e w'=>e= .returned (.tuple #[AY ⟨5,i,[]⟩,.bool true])∧w.grownBy w' (some b)∧Sc w' b s j false false bad:=by
 subst hj;refine(H9 h).mono ?_;rintro e w' ⟨g,hs,he⟩;exact⟨by rw[he];simp,g,hs⟩
theorem Iz{w:World}{b:Nat}{s:Bs}{i:Nat}{bad:Int}(h:Sc w b s i false false bad){j:Nat}(hj:j=if i<s.length then i+1 else i){r:Bool}(hr:(!decide (i<s.length))=r):
 Calls Tryz.prog 153 #[.pointer (some ⟨b,0,none⟩)] w fun e w'=>e= .returned (.tuple #[tok0,.bool r])∧w.grownBy w' (some b)∧Sc w' b s j false false bad:=by
 subst hj hr;refine(H9 h).mono ?_;rintro e w' ⟨g,hs,he⟩;exact⟨by rw[he];simp,g,hs⟩
def IP(w:World)(b:Nat)(s:Bs)(r:NR)(e:Ending)(w':World):Prop:=
 w.grownBy w' (some b)∧match r with
  | .tok t j l _=>e= .returned (.tuple #[AY t,.bool true])∧Sc w' b s j l l (-1)
  | .stop=>(∃t,e= .returned (.tuple #[AY t,.bool false]))∧∃j l,Sc w' b s j l l (-1)
  | .bad k=>(∃t,e= .returned (.tuple #[AY t,.bool false]))∧∃j l,Sc w' b s j l l k
  | .out=>False
theorem IZ{w w':World}{b:Nat}{s:Bs}{m j:Nat}{l:Bool}{R:NR}{t:Tok}{ok:Bool}(hF:TokFin b s (B3 s j) t ok w')(hS:BM s j l=B3 s j)(hM:AI s (m+1) j l=R)(g:w.grownBy w' (some b)):
 IP w b s R (.returned (.tuple #[AY t,.bool ok])) w':=by
 subst hM;refine⟨g,?_⟩;rw[AI,hS];cases ht:B3 s j with
 |tok t' j' l'=>rw[ht]at hF;obtain⟨rfl,rfl,hs⟩:=hF;exact⟨rfl,hs⟩
 |bad k=>rw[ht]at hF;obtain⟨rfl,hs⟩:=hF;exact⟨⟨t,rfl⟩,hs⟩
 |again j' l'=>rw[ht]at hF;exact hF.elim
 |stop=>rw[ht]at hF;exact hF.elim
structure GT(w:World)(b:Nat)(s:Bs)(k:Nat)(l:Bool)(wr:World):Prop where
 sc:Sc wr b s k l l (-1)
 res:Blk wr w.heap.size [.int .i64 0,.int .i64 0,str []] 105
 g:w.grownBy wr (some b)
 tabs:Tabs b wr
theorem Pz{w:World}{b:Nat}{s:Bs}{i n:Nat}{line:Bool}(h:Sc w b s i line line (-1))(ht:Tabs b w)(hn:AI s n i line ≠ .out):
 Calls Tryz.prog 104 #[.pointer (some ⟨b,0,none⟩)] w (IP w b s (AI s n i line)):=by
 have hb:=h.lt;generalize hR:AI s n i line=R at*;have hA:GT w b s i line (w.alloc (.cells #[.int .i64 0,.int .i64 0,str []] 105 (0,0))):=
  ⟨h.alloc _,Blk.new _ [.int .i64 0,.int .i64 0,str []] _,World.grownBy_alloc w _ _,ht.gbN (World.grownBy_alloc w _ none)⟩
 have HR:=O (Z hR hn);clear h ht hR hn;go_enter func104,ntmps104;go_wp2_with fail;go_loopg [] n (fun g wr=>∃k l,AI s g k l=R∧GT w b s k l wr)
 case atStart=>exact⟨i,line,HR.out.1,hA⟩
 case round=>
  obtain⟨k,l,hk,hr⟩:=hrel;clear hA;have hN:=Pc s l R HR.out.2 _ k gk rfl hr.sc.le hk;have HN:=O hN;clear hk hN;have hb1:=hr.sc.lt;have gs:=hr.g.size;go_wp2_with fail;refine(Q4 hr.sc).mono ?_;rintro e w1 ⟨rfl,hs1,g1⟩;have hq:GT w b s (AP s k) l w1:=⟨hs1,hr.res.gb g1 (by simp;omega),Aa hr.g g1,hr.tabs.gb g1 (by simp)⟩;have hbl:AP s k<s.length→cls 3 (bAt s (AP s k))=false:=fun h=>GC h;obtain⟨m,hm1,hm2,hm3⟩:=HN.out;have HM:=O hm3;clear HN hs1 hr hm3 hb1 gs;generalize AP s k=j at*;have hb1:=hq.sc.lt;have gs:=hq.g.size;have hf:=hq.sc.few;have hjl:=hq.sc.le;have c0:=hq.sc.c0;have c1:=hq.sc.c1;have c258:=hq.sc.c258;have c259:=hq.sc.c259;have r0:=hq.res.cell 0;have r1:=hq.res.cell 1;have r2:=hq.res.cell 2;have rf:=fun k=>hq.res.frozen k;have rl:=hq.res.lt;simp only[List.getElem?_cons_zero,List.getElem?_cons_succ]at r0 r1 r2;obtain⟨m,rfl⟩:∃q,m=q+1:=⟨m-1,by omega⟩;by_cases hj:j<s.length
  ·have hj1:((j:Int)==(s.length:Int))=false:=by simp;omega
   have hg:=fun h=>Cr s j h hj;have hb3:=hbl hj;by_cases h10:bAt s j=10
   ·have hS:=QT (l:=l) hj h10;have e10:((bAt s j).toNat:Int)==10:=by rw[h10];rfl
    cases l with
    | true=>
      have HQ:=O (show R= .tok ⟨5,j,[]⟩ (j+1) false m by rw[←HM.out,AI,hS];rfl);have HE:=O (fun(W:World)(g:w1.grownBy W none)=>Ia (hq.sc.gbN g) (j:=j+1) (by rw[if_pos hj]));clear hS h10 hbl hb3;generalize bAt s j=q at*;go_wp2_with fail;go_quiet(fail);go_wp2_with fail;refine(HE.out _ (by repeat(first| (with_reducible exact Ac _ _)| (with_reducible assumption)| (with_reducible exact AU (by assumption))| (with_reducible refine Ad ?_ _)| (with_reducible refine Am ?_)| (with_reducible refine A3 ?_ _)| ((with_reducible refine Ay ?_ _ _ ?h2);case h2=>first|exact .inl rfl|exact .inr (Nat.le_refl _)|exact .inr (by simp<;>omega))| (with_reducible refine Ah ?_ (by assumption))| (with_reducible refine Aa ?_ (by assumption))))).mono ?_;rintro e w2 ⟨rfl,g2,hs2⟩;have hr2:=(hq.res.drewN nq).gb g2 (by simp;omega);have z0:=hr2.cell 0;have z1:=hr2.cell 1;have z2:=hr2.cell 2;have zf:=fun k=>hr2.frozen k;have zl:=hr2.lt;simp only[List.getElem?_cons_zero,List.getElem?_cons_succ]at z0 z1 z2;go_wp2_with fail;go_region;go_wp2;refine bodyPost_ret (Bn (t:=⟨5,j,[]⟩) (r:=true) rfl _ (((hr2.set3 _ _ _).alloc _).drew) rfl rfl) rfl ⟨?_,?_⟩
      ·have g:=Aa (A3 hq.g nq) g2;exact (by repeat(first| (with_reducible exact Ac _ _)| (with_reducible assumption)| (with_reducible exact AU (by assumption))| (with_reducible refine Ad ?_ _)| (with_reducible refine Am ?_)| (with_reducible refine A3 ?_ _)| ((with_reducible refine Ay ?_ _ _ ?h2);case h2=>first|exact .inl rfl|exact .inr (Nat.le_refl _)|exact .inr (by simp<;>omega))| (with_reducible refine Ah ?_ (by assumption))| (with_reducible refine Aa ?_ (by assumption))))
      ·rw[HQ.out];exact⟨rfl,((((hs2.set_other _ _ (by simp;omega)).set_other _ _ (by simp;omega)).set_other _ _ (by simp;omega)).alloc _).drew⟩
    | false=>
      have HQ:=O (show AI s m (j+1) false=R by rw[←HM.out,AI,hS];rfl);have HE:=O (fun(W:World)(g:w1.grownBy W none)=>Iz (hq.sc.gbN g) (j:=j+1) (by rw[if_pos hj]) (r:=false) (by simp[hj]));clear hS h10 hbl hb3;generalize bAt s j=q at*;go_wp2_with fail;go_quiet(fail);go_wp2_with fail;refine(HE.out _ (by repeat(first| (with_reducible exact Ac _ _)| (with_reducible assumption)| (with_reducible exact AU (by assumption))| (with_reducible refine Ad ?_ _)| (with_reducible refine Am ?_)| (with_reducible refine A3 ?_ _)| ((with_reducible refine Ay ?_ _ _ ?h2);case h2=>first|exact .inl rfl|exact .inr (Nat.le_refl _)|exact .inr (by simp<;>omega))| (with_reducible refine Ah ?_ (by assumption))| (with_reducible refine Aa ?_ (by assumption))))).mono ?_;rintro e w2 ⟨rfl,g2,hs2⟩;have hr2:=(hq.res.drewN nq).gb g2 (by simp;omega);have gg:=Aa (A3 hq.g nq) g2;have ht2:=hq.tabs.gb (Aa (A3 (Ac _ (some b)) nq) g2) (by simp);go_wp2;go_roundg m
      case measure=>omega
      case rel=>exact⟨j+1,false,HQ.out,hs2.alloc _,hr2.alloc _,Ad gg _,ht2.gbN (World.grownBy_alloc _ _ _)⟩
   ·have e10:(((bAt s j).toNat:Int)==10)=false:=CA (n:=10) (by decide) (by simpa using h10);by_cases hstar:bAt s j=42∧l=false
    ·obtain⟨h42,rfl⟩:=hstar;have HS:=O (Jm (l:=false) hj h10 hb3 (by simp[h42]));have e42:(((bAt s j).toNat:Int)==42)=true:=CA (n:=42) (by decide) (by simpa using h42);clear h10 hbl hb3 h42;generalize bAt s j=q at*;go_wp2_with fail;go_quiet(fail);go_wp2_with fail;go_quiet(fail);go_wp2_with fail;refine(Eb (hq.sc.gbN (by repeat(first| (with_reducible exact Ac _ _)| (with_reducible assumption)| (with_reducible exact AU (by assumption))| (with_reducible refine Ad ?_ _)| (with_reducible refine Am ?_)| (with_reducible refine A3 ?_ _)| ((with_reducible refine Ay ?_ _ _ ?h2);case h2=>first|exact .inl rfl|exact .inr (Nat.le_refl _)|exact .inr (by simp<;>omega))| (with_reducible refine Ah ?_ (by assumption))| (with_reducible refine Aa ?_ (by assumption)))))).mono ?_;intro e w2 hp;obtain⟨g2,hp⟩:=hp;have g12:w1.grownBy w2 (some b):=Aa (by repeat(first| (with_reducible exact Ac _ _)| (with_reducible assumption)| (with_reducible exact AU (by assumption))| (with_reducible refine Ad ?_ _)| (with_reducible refine Am ?_)| (with_reducible refine A3 ?_ _)| ((with_reducible refine Ay ?_ _ _ ?h2);case h2=>first|exact .inl rfl|exact .inr (Nat.le_refl _)|exact .inr (by simp<;>omega))| (with_reducible refine Ah ?_ (by assumption))| (with_reducible refine Aa ?_ (by assumption)))) g2;cases hcm:Bp s j with
     | some k=>
       have HQ:=O (show R= .bad k by rw[←HM.out,AI,HS.out,hcm]);rw[hcm]at hp;clear hcm;obtain⟨rfl,j2,hs2⟩:=hp;have hr2:=hq.res.gb g12 (by simp;omega);have z0:=hr2.cell 0;have z1:=hr2.cell 1;have z2:=hr2.cell 2;have zf:=fun k=>hr2.frozen k;have zl:=hr2.lt;simp only[List.getElem?_cons_zero,List.getElem?_cons_succ]at z0 z1 z2;go_wp2;refine bodyPost_ret (Bn (t:=⟨0,0,[]⟩) (r:=false) rfl _ (hr2.set3 _ _ _) rfl rfl) rfl ⟨?_,?_⟩
       ·have g:=Aa hq.g g12;exact (by repeat(first| (with_reducible exact Ac _ _)| (with_reducible assumption)| (with_reducible exact AU (by assumption))| (with_reducible refine Ad ?_ _)| (with_reducible refine Am ?_)| (with_reducible refine A3 ?_ _)| ((with_reducible refine Ay ?_ _ _ ?h2);case h2=>first|exact .inl rfl|exact .inr (Nat.le_refl _)|exact .inr (by simp<;>omega))| (with_reducible refine Ah ?_ (by assumption))| (with_reducible refine Aa ?_ (by assumption))))
       ·rw[HQ.out];exact⟨⟨_,rfl⟩,j2,_,((hs2.set_other _ _ (by simp;omega)).set_other _ _ (by simp;omega)).set_other _ _ (by simp;omega)⟩
     | none=>
       have HQ:=O (show AI s m (An s j) false=R by rw[←HM.out,AI,HS.out,hcm]);rw[hcm]at hp;clear hcm;obtain⟨rfl,hs2⟩:=hp;have hr2:=hq.res.gb g12 (by simp;omega);have ht2:=hq.tabs.gb g12 (by simp);have gg:=Aa hq.g g12;go_wp2;go_roundg m
       case measure=>omega
       case rel=>exact⟨An s j,false,HQ.out,hs2,hr2,gg,ht2⟩
    ·have hor : ((((bAt s j).toNat : Int) == 42) = false) ∨ ((((bAt s j).toNat : Int) == 42) = true ∧ l = true) := by
      cases h42:bAt s j==42 with
      |false=>exact .inl (CA (n:=42) (by decide) h42)
      | true=>exact .inr ⟨CA (n:=42) (by decide) h42,by cases l with
        |true=>rfl
        |false=>exact absurd ⟨by simpa using h42,rfl⟩ hstar⟩
     have hs42:(bAt s j==42&&!l)=false:=by
      cases h42:bAt s j==42 with
      |false=>rfl
      | true=>cases l with
        |true=>rfl
        |false=>exact absurd ⟨by simpa using h42,rfl⟩ hstar
     have hleI:decide ((j:Int)≤s.length)=true:=by simp;omega
     cases ha:Dy s j with
     | true=>
       have HS:=O (Jm (l:=l) hj h10 hb3 (by rw[ha];simp));have HP:=O (Ji s j [38,38] (r:=true) ha);clear h10 hbl hb3 hstar hs42 ha;generalize bAt s j=q at*;rcases hor with e42| ⟨e42,rfl⟩
       ·go_wp2_with fail;go_quiet(fail);go_wp2_with fail;go_quiet(fail);go_wp2_with fail;go_quiet((go_at_call 154;refine(HP.out _).mono ?_;rintro e w9 ⟨rfl,rfl⟩;exact⟨rfl,_,rfl⟩));go_wp2_with fail;refine(Eb (hq.sc.gbN (by repeat(first| (with_reducible exact Ac _ _)| (with_reducible assumption)| (with_reducible exact AU (by assumption))| (with_reducible refine Ad ?_ _)| (with_reducible refine Am ?_)| (with_reducible refine A3 ?_ _)| ((with_reducible refine Ay ?_ _ _ ?h2);case h2=>first|exact .inl rfl|exact .inr (Nat.le_refl _)|exact .inr (by simp<;>omega))| (with_reducible refine Ah ?_ (by assumption))| (with_reducible refine Aa ?_ (by assumption)))))).mono ?_;intro e w2 hp;obtain⟨g2,hp⟩:=hp;have g12:w1.grownBy w2 (some b):=Aa (by repeat(first| (with_reducible exact Ac _ _)| (with_reducible assumption)| (with_reducible exact AU (by assumption))| (with_reducible refine Ad ?_ _)| (with_reducible refine Am ?_)| (with_reducible refine A3 ?_ _)| ((with_reducible refine Ay ?_ _ _ ?h2);case h2=>first|exact .inl rfl|exact .inr (Nat.le_refl _)|exact .inr (by simp<;>omega))| (with_reducible refine Ah ?_ (by assumption))| (with_reducible refine Aa ?_ (by assumption)))) g2;cases hcm:Bp s j with
        | some k=>
          have HQ:=O (show R= .bad k by rw[←HM.out,AI,HS.out,hcm]);rw[hcm]at hp;clear hcm;obtain⟨rfl,j2,hs2⟩:=hp;have hr2:=hq.res.gb g12 (by simp;omega);have z0:=hr2.cell 0;have z1:=hr2.cell 1;have z2:=hr2.cell 2;have zf:=fun k=>hr2.frozen k;have zl:=hr2.lt;simp only[List.getElem?_cons_zero,List.getElem?_cons_succ]at z0 z1 z2;go_wp2;refine bodyPost_ret (Bn (t:=⟨0,0,[]⟩) (r:=false) rfl _ (hr2.set3 _ _ _) rfl rfl) rfl ⟨?_,?_⟩
          ·have g:=Aa hq.g g12;exact (by repeat(first| (with_reducible exact Ac _ _)| (with_reducible assumption)| (with_reducible exact AU (by assumption))| (with_reducible refine Ad ?_ _)| (with_reducible refine Am ?_)| (with_reducible refine A3 ?_ _)| ((with_reducible refine Ay ?_ _ _ ?h2);case h2=>first|exact .inl rfl|exact .inr (Nat.le_refl _)|exact .inr (by simp<;>omega))| (with_reducible refine Ah ?_ (by assumption))| (with_reducible refine Aa ?_ (by assumption))))
          ·rw[HQ.out];exact⟨⟨_,rfl⟩,j2,_,((hs2.set_other _ _ (by simp;omega)).set_other _ _ (by simp;omega)).set_other _ _ (by simp;omega)⟩
        | none=>
          have HQ:=O (show AI s m (An s j) l=R by rw[←HM.out,AI,HS.out,hcm]);rw[hcm]at hp;clear hcm;obtain⟨rfl,hs2⟩:=hp;have hr2:=hq.res.gb g12 (by simp;omega);have ht2:=hq.tabs.gb g12 (by simp);have gg:=Aa hq.g g12;go_wp2;go_roundg m
          case measure=>omega
          case rel=>exact⟨An s j,l,HQ.out,hs2,hr2,gg,ht2⟩
       ·go_wp2_with fail;go_quiet(fail);go_wp2_with fail;go_quiet(fail);go_wp2_with fail;go_quiet((go_at_call 154;refine(HP.out _).mono ?_;rintro e w9 ⟨rfl,rfl⟩;exact⟨rfl,_,rfl⟩));go_wp2_with fail;refine(Eb (hq.sc.gbN (by repeat(first| (with_reducible exact Ac _ _)| (with_reducible assumption)| (with_reducible exact AU (by assumption))| (with_reducible refine Ad ?_ _)| (with_reducible refine Am ?_)| (with_reducible refine A3 ?_ _)| ((with_reducible refine Ay ?_ _ _ ?h2);case h2=>first|exact .inl rfl|exact .inr (Nat.le_refl _)|exact .inr (by simp<;>omega))| (with_reducible refine Ah ?_ (by assumption))| (with_reducible refine Aa ?_ (by assumption)))))).mono ?_;intro e w2 hp;obtain⟨g2,hp⟩:=hp;have g12:w1.grownBy w2 (some b):=Aa (by repeat(first| (with_reducible exact Ac _ _)| (with_reducible assumption)| (with_reducible exact AU (by assumption))| (with_reducible refine Ad ?_ _)| (with_reducible refine Am ?_)| (with_reducible refine A3 ?_ _)| ((with_reducible refine Ay ?_ _ _ ?h2);case h2=>first|exact .inl rfl|exact .inr (Nat.le_refl _)|exact .inr (by simp<;>omega))| (with_reducible refine Ah ?_ (by assumption))| (with_reducible refine Aa ?_ (by assumption)))) g2;cases hcm:Bp s j with
        | some k=>
          have HQ:=O (show R= .bad k by rw[←HM.out,AI,HS.out,hcm]);rw[hcm]at hp;clear hcm;obtain⟨rfl,j2,hs2⟩:=hp;have hr2:=hq.res.gb g12 (by simp;omega);have z0:=hr2.cell 0;have z1:=hr2.cell 1;have z2:=hr2.cell 2;have zf:=fun k=>hr2.frozen k;have zl:=hr2.lt;simp only[List.getElem?_cons_zero,List.getElem?_cons_succ]at z0 z1 z2;go_wp2;refine bodyPost_ret (Bn (t:=⟨0,0,[]⟩) (r:=false) rfl _ (hr2.set3 _ _ _) rfl rfl) rfl ⟨?_,?_⟩
          ·have g:=Aa hq.g g12;exact (by repeat(first| (with_reducible exact Ac _ _)| (with_reducible assumption)| (with_reducible exact AU (by assumption))| (with_reducible refine Ad ?_ _)| (with_reducible refine Am ?_)| (with_reducible refine A3 ?_ _)| ((with_reducible refine Ay ?_ _ _ ?h2);case h2=>first|exact .inl rfl|exact .inr (Nat.le_refl _)|exact .inr (by simp<;>omega))| (with_reducible refine Ah ?_ (by assumption))| (with_reducible refine Aa ?_ (by assumption))))
          ·rw[HQ.out];exact⟨⟨_,rfl⟩,j2,_,((hs2.set_other _ _ (by simp;omega)).set_other _ _ (by simp;omega)).set_other _ _ (by simp;omega)⟩
        | none=>
          have HQ:=O (show AI s m (An s j) true=R by rw[←HM.out,AI,HS.out,hcm]);rw[hcm]at hp;clear hcm;obtain⟨rfl,hs2⟩:=hp;have hr2:=hq.res.gb g12 (by simp;omega);have ht2:=hq.tabs.gb g12 (by simp);have gg:=Aa hq.g g12;go_wp2;go_roundg m
          case measure=>omega
          case rel=>exact⟨An s j,true,HQ.out,hs2,hr2,gg,ht2⟩
     | false=>
       have HP:=O (Ji s j [38,38] (r:=false) ha);have hcc:((bAt s j==42&&!l)||Dy s j)=false:=by rw[hs42,ha];rfl
       by_cases h59:bAt s j=59
       ·have HS:=O (Ot (l:=l) hj h10 hb3 hcc h59);have e59:(((bAt s j).toNat:Int)==59)=true:=CA (n:=59) (by decide) (by simpa using h59);clear h10 hbl hb3 hstar hs42 ha hcc h59;generalize bAt s j=q at*;rcases hor with e42| ⟨e42,rfl⟩
        ·skip;go_wp2_with fail;go_quiet(fail);go_wp2_with fail;go_quiet(fail);go_wp2_with fail;go_quiet((go_at_call 154;refine(HP.out _).mono ?_;rintro e w9 ⟨rfl,rfl⟩;exact⟨rfl,_,rfl⟩));go_wp2_with fail;go_quiet(fail);go_wp2_with fail;refine(GZ (hq.sc.gbN (by repeat(first| (with_reducible exact Ac _ _)| (with_reducible assumption)| (with_reducible exact AU (by assumption))| (with_reducible refine Ad ?_ _)| (with_reducible refine Am ?_)| (with_reducible refine A3 ?_ _)| ((with_reducible refine Ay ?_ _ _ ?h2);case h2=>first|exact .inl rfl|exact .inr (Nat.le_refl _)|exact .inr (by simp<;>omega))| (with_reducible refine Ah ?_ (by assumption))| (with_reducible refine Aa ?_ (by assumption))))) hj).mono ?_;intro e w2 hp;obtain⟨g2,hp⟩:=hp;have g12:w1.grownBy w2 (some b):=Aa (by repeat(first| (with_reducible exact Ac _ _)| (with_reducible assumption)| (with_reducible exact AU (by assumption))| (with_reducible refine Ad ?_ _)| (with_reducible refine Am ?_)| (with_reducible refine A3 ?_ _)| ((with_reducible refine Ay ?_ _ _ ?h2);case h2=>first|exact .inl rfl|exact .inr (Nat.le_refl _)|exact .inr (by simp<;>omega))| (with_reducible refine Ah ?_ (by assumption))| (with_reducible refine Aa ?_ (by assumption)))) g2;have hr2:=hq.res.gb g12 (by simp;omega);have z0:=hr2.cell 0;have z1:=hr2.cell 1;have z2:=hr2.cell 2;have zf:=fun k=>hr2.frozen k;have zl:=hr2.lt;simp only[List.getElem?_cons_zero,List.getElem?_cons_succ]at z0 z1 z2;cases hgo:BT s (AP s (j+1))with
         | false=>
           have HQ:=O (show R= .bad j by rw[←HM.out,AI,HS.out,if_neg (by rw[hgo];simp)]);rw[if_neg (by rw[hgo];simp)]at hp;obtain⟨rfl,hs2⟩:=hp;clear hgo;have d1:=hs2.c1;have d260:=hs2.c260;have f260:=hs2.fr 260;go_wp2;refine bodyPost_ret (Bn (t:=⟨0,0,[]⟩) (r:=false) rfl _ ((hr2.set_other _ _ (by simp;omega)).set3 _ _ _) rfl rfl) rfl ⟨?_,?_⟩
           ·have g:=Aa hq.g g12;exact (by repeat(first| (with_reducible exact Ac _ _)| (with_reducible assumption)| (with_reducible exact AU (by assumption))| (with_reducible refine Ad ?_ _)| (with_reducible refine Am ?_)| (with_reducible refine A3 ?_ _)| ((with_reducible refine Ay ?_ _ _ ?h2);case h2=>first|exact .inl rfl|exact .inr (Nat.le_refl _)|exact .inr (by simp<;>omega))| (with_reducible refine Ah ?_ (by assumption))| (with_reducible refine Aa ?_ (by assumption))))
           ·rw[HQ.out];exact⟨⟨_,rfl⟩,j,_,(((hs2.setBad _).set_other _ _ (by simp;omega)).set_other _ _ (by simp;omega)).set_other _ _ (by simp;omega)⟩
         | true=>
           rw[if_pos hgo]at hp;cases hcm:Bp s (AP s (j+1))with
           | some k=>
             have HQ:=O (show R= .bad k by rw[←HM.out,AI,HS.out,if_pos hgo,hcm]);rw[hcm]at hp;clear hcm hgo;obtain⟨rfl,j2,hs2⟩:=hp;go_wp2;refine bodyPost_ret (Bn (t:=⟨0,0,[]⟩) (r:=false) rfl _ (hr2.set3 _ _ _) rfl rfl) rfl ⟨?_,?_⟩
             ·have g:=Aa hq.g g12;exact (by repeat(first| (with_reducible exact Ac _ _)| (with_reducible assumption)| (with_reducible exact AU (by assumption))| (with_reducible refine Ad ?_ _)| (with_reducible refine Am ?_)| (with_reducible refine A3 ?_ _)| ((with_reducible refine Ay ?_ _ _ ?h2);case h2=>first|exact .inl rfl|exact .inr (Nat.le_refl _)|exact .inr (by simp<;>omega))| (with_reducible refine Ah ?_ (by assumption))| (with_reducible refine Aa ?_ (by assumption))))
             ·rw[HQ.out];exact⟨⟨_,rfl⟩,j2,_,((hs2.set_other _ _ (by simp;omega)).set_other _ _ (by simp;omega)).set_other _ _ (by simp;omega)⟩
           | none=>
             have HQ:=O (show AI s m (B0 s (AP s (j+1))) l=R by rw[←HM.out,AI,HS.out,if_pos hgo,hcm]);rw[hcm]at hp;clear hcm hgo;obtain⟨rfl,hs2⟩:=hp;have ht2:=hq.tabs.gb g12 (by simp);have gg:=Aa hq.g g12;go_wp2;go_roundg m
             case measure=>omega
             case rel=>exact⟨_,l,HQ.out,hs2,hr2,gg,ht2⟩
        ·skip;go_wp2_with fail;go_quiet(fail);go_wp2_with fail;go_quiet(fail);go_wp2_with fail;go_quiet((go_at_call 154;refine(HP.out _).mono ?_;rintro e w9 ⟨rfl,rfl⟩;exact⟨rfl,_,rfl⟩));go_wp2_with fail;go_quiet(fail);go_wp2_with fail;refine(GZ (hq.sc.gbN (by repeat(first| (with_reducible exact Ac _ _)| (with_reducible assumption)| (with_reducible exact AU (by assumption))| (with_reducible refine Ad ?_ _)| (with_reducible refine Am ?_)| (with_reducible refine A3 ?_ _)| ((with_reducible refine Ay ?_ _ _ ?h2);case h2=>first|exact .inl rfl|exact .inr (Nat.le_refl _)|exact .inr (by simp<;>omega))| (with_reducible refine Ah ?_ (by assumption))| (with_reducible refine Aa ?_ (by assumption))))) hj).mono ?_;intro e w2 hp;obtain⟨g2,hp⟩:=hp;have g12:w1.grownBy w2 (some b):=Aa (by repeat(first| (with_reducible exact Ac _ _)| (with_reducible assumption)| (with_reducible exact AU (by assumption))| (with_reducible refine Ad ?_ _)| (with_reducible refine Am ?_)| (with_reducible refine A3 ?_ _)| ((with_reducible refine Ay ?_ _ _ ?h2);case h2=>first|exact .inl rfl|exact .inr (Nat.le_refl _)|exact .inr (by simp<;>omega))| (with_reducible refine Ah ?_ (by assumption))| (with_reducible refine Aa ?_ (by assumption)))) g2;have hr2:=hq.res.gb g12 (by simp;omega);have z0:=hr2.cell 0;have z1:=hr2.cell 1;have z2:=hr2.cell 2;have zf:=fun k=>hr2.frozen k;have zl:=hr2.lt;simp only[List.getElem?_cons_zero,List.getElem?_cons_succ]at z0 z1 z2;cases hgo:BT s (AP s (j+1))with
         | false=>
           have HQ:=O (show R= .bad j by rw[←HM.out,AI,HS.out,if_neg (by rw[hgo];simp)]);rw[if_neg (by rw[hgo];simp)]at hp;obtain⟨rfl,hs2⟩:=hp;clear hgo;have d1:=hs2.c1;have d260:=hs2.c260;have f260:=hs2.fr 260;go_wp2;refine bodyPost_ret (Bn (t:=⟨0,0,[]⟩) (r:=false) rfl _ ((hr2.set_other _ _ (by simp;omega)).set3 _ _ _) rfl rfl) rfl ⟨?_,?_⟩
           ·have g:=Aa hq.g g12;exact (by repeat(first| (with_reducible exact Ac _ _)| (with_reducible assumption)| (with_reducible exact AU (by assumption))| (with_reducible refine Ad ?_ _)| (with_reducible refine Am ?_)| (with_reducible refine A3 ?_ _)| ((with_reducible refine Ay ?_ _ _ ?h2);case h2=>first|exact .inl rfl|exact .inr (Nat.le_refl _)|exact .inr (by simp<;>omega))| (with_reducible refine Ah ?_ (by assumption))| (with_reducible refine Aa ?_ (by assumption))))
           ·rw[HQ.out];exact⟨⟨_,rfl⟩,j,_,(((hs2.setBad _).set_other _ _ (by simp;omega)).set_other _ _ (by simp;omega)).set_other _ _ (by simp;omega)⟩
         | true=>
           rw[if_pos hgo]at hp;cases hcm:Bp s (AP s (j+1))with
           | some k=>
             have HQ:=O (show R= .bad k by rw[←HM.out,AI,HS.out,if_pos hgo,hcm]);rw[hcm]at hp;clear hcm hgo;obtain⟨rfl,j2,hs2⟩:=hp;go_wp2;refine bodyPost_ret (Bn (t:=⟨0,0,[]⟩) (r:=false) rfl _ (hr2.set3 _ _ _) rfl rfl) rfl ⟨?_,?_⟩
             ·have g:=Aa hq.g g12;exact (by repeat(first| (with_reducible exact Ac _ _)| (with_reducible assumption)| (with_reducible exact AU (by assumption))| (with_reducible refine Ad ?_ _)| (with_reducible refine Am ?_)| (with_reducible refine A3 ?_ _)| ((with_reducible refine Ay ?_ _ _ ?h2);case h2=>first|exact .inl rfl|exact .inr (Nat.le_refl _)|exact .inr (by simp<;>omega))| (with_reducible refine Ah ?_ (by assumption))| (with_reducible refine Aa ?_ (by assumption))))
             ·rw[HQ.out];exact⟨⟨_,rfl⟩,j2,_,((hs2.set_other _ _ (by simp;omega)).set_other _ _ (by simp;omega)).set_other _ _ (by simp;omega)⟩
           | none=>
             have HQ:=O (show AI s m (B0 s (AP s (j+1))) true=R by rw[←HM.out,AI,HS.out,if_pos hgo,hcm]);rw[hcm]at hp;clear hcm hgo;obtain⟨rfl,hs2⟩:=hp;have ht2:=hq.tabs.gb g12 (by simp);have gg:=Aa hq.g g12;go_wp2;go_roundg m
             case measure=>omega
             case rel=>exact⟨_,true,HQ.out,hs2,hr2,gg,ht2⟩
       ·have HS:=O (Q9 (l:=l) hj h10 hb3 hcc h59);have e59:(((bAt s j).toNat:Int)==59)=false:=CA (n:=59) (by decide) (by simpa using h59);have HX:=O (fun q=>O6 (w:=((w1.drewN q).setCell ⟨b,258,none⟩ (.bool true)).setCell ⟨b,259,none⟩ (.bool true)) (((hq.sc.drewN q).setLine true).setBegun true) (hq.tabs.gb (Ay (Ay (A3 (Ac _ (some b)) q) _ _ (.inl rfl)) _ _ (.inl rfl)) (by simp)) hj h10);clear h10 hbl hb3 hstar hs42 ha hcc h59;generalize bAt s j=q at*;rcases hor with e42| ⟨e42,rfl⟩
        ·skip;go_wp2_with fail;go_quiet(fail);go_wp2_with fail;go_quiet(fail);go_wp2_with fail;go_quiet((go_at_call 154;refine(HP.out _).mono ?_;rintro e w9 ⟨rfl,rfl⟩;exact⟨rfl,_,rfl⟩));go_wp2_with fail;go_quiet(fail);have f258:=hq.sc.fr 258;have f259:=hq.sc.fr 259;go_wp2_with fail;refine(HX.out _).mono ?_;intro e w3 hp;obtain⟨g3,t,ok,rfl,hF⟩:=hp.fin;have g13:w1.grownBy w3 (some b):=Aa (AE (AE (A3 (Ac w1 (some b)) _) 258 _) 259 _) g3;have hr3:=hq.res.gb g13 (by simp;omega);have z0:=hr3.cell 0;have z1:=hr3.cell 1;have z2:=hr3.cell 2;have zf:=fun k=>hr3.frozen k;have zl:=hr3.lt;simp only[List.getElem?_cons_zero,List.getElem?_cons_succ]at z0 z1 z2;have HF:=O hF;clear hF;go_wp2;refine bodyPost_ret (Bn (t:=t) (r:=ok) rfl _ (hr3.set3 _ _ _) rfl rfl) rfl ?_;have g:=Aa hq.g g13;exact IZ (((HF.out.set_other _ _ (by simp;omega)).set_other _ _ (by simp;omega)).set_other _ _ (by simp;omega)) HS.out HM.out (by repeat(first| (with_reducible exact Ac _ _)| (with_reducible assumption)| (with_reducible exact AU (by assumption))| (with_reducible refine Ad ?_ _)| (with_reducible refine Am ?_)| (with_reducible refine A3 ?_ _)| ((with_reducible refine Ay ?_ _ _ ?h2);case h2=>first|exact .inl rfl|exact .inr (Nat.le_refl _)|exact .inr (by simp<;>omega))| (with_reducible refine Ah ?_ (by assumption))| (with_reducible refine Aa ?_ (by assumption))))
        ·skip;go_wp2_with fail;go_quiet(fail);go_wp2_with fail;go_quiet(fail);go_wp2_with fail;go_quiet((go_at_call 154;refine(HP.out _).mono ?_;rintro e w9 ⟨rfl,rfl⟩;exact⟨rfl,_,rfl⟩));go_wp2_with fail;go_quiet(fail);have f258:=hq.sc.fr 258;have f259:=hq.sc.fr 259;go_wp2_with fail;refine(HX.out _).mono ?_;intro e w3 hp;obtain⟨g3,t,ok,rfl,hF⟩:=hp.fin;have g13:w1.grownBy w3 (some b):=Aa (AE (AE (A3 (Ac w1 (some b)) _) 258 _) 259 _) g3;have hr3:=hq.res.gb g13 (by simp;omega);have z0:=hr3.cell 0;have z1:=hr3.cell 1;have z2:=hr3.cell 2;have zf:=fun k=>hr3.frozen k;have zl:=hr3.lt;simp only[List.getElem?_cons_zero,List.getElem?_cons_succ]at z0 z1 z2;have HF:=O hF;clear hF;go_wp2;refine bodyPost_ret (Bn (t:=t) (r:=ok) rfl _ (hr3.set3 _ _ _) rfl rfl) rfl ?_;have g:=Aa hq.g g13;exact IZ (((HF.out.set_other _ _ (by simp;omega)).set_other _ _ (by simp;omega)).set_other _ _ (by simp;omega)) HS.out HM.out (by repeat(first| (with_reducible exact Ac _ _)| (with_reducible assumption)| (with_reducible exact AU (by assumption))| (with_reducible refine Ad ?_ _)| (with_reducible refine Am ?_)| (with_reducible refine A3 ?_ _)| ((with_reducible refine Ay ?_ _ _ ?h2);case h2=>first|exact .inl rfl|exact .inr (Nat.le_refl _)|exact .inr (by simp<;>omega))| (with_reducible refine Ah ?_ (by assumption))| (with_reducible refine Aa ?_ (by assumption))))
  ·have hj1:((j:Int)==(s.length:Int))=true:=by simp;omega
   have hS:=Q8 (s:=s) (j:=j) (l:=l) (by omega);cases l with
   | true=>
     have HQ:=O (show R= .tok ⟨5,j,[]⟩ j false m by rw[←HM.out,AI,hS];rfl);have HE:=O (fun(W:World)(g:w1.grownBy W none)=>Ia (hq.sc.gbN g) (j:=j) (by rw[if_neg hj]));clear hS;go_wp2_with fail;go_quiet(fail);go_wp2_with fail;refine(HE.out _ (by repeat(first| (with_reducible exact Ac _ _)| (with_reducible assumption)| (with_reducible exact AU (by assumption))| (with_reducible refine Ad ?_ _)| (with_reducible refine Am ?_)| (with_reducible refine A3 ?_ _)| ((with_reducible refine Ay ?_ _ _ ?h2);case h2=>first|exact .inl rfl|exact .inr (Nat.le_refl _)|exact .inr (by simp<;>omega))| (with_reducible refine Ah ?_ (by assumption))| (with_reducible refine Aa ?_ (by assumption))))).mono ?_;rintro e w2 ⟨rfl,g2,hs2⟩;have hr2:=(hq.res.drewN nq).gb g2 (by simp;omega);have z0:=hr2.cell 0;have z1:=hr2.cell 1;have z2:=hr2.cell 2;have zf:=fun k=>hr2.frozen k;have zl:=hr2.lt;simp only[List.getElem?_cons_zero,List.getElem?_cons_succ]at z0 z1 z2;go_wp2_with fail;go_region;go_wp2;refine bodyPost_ret (Bn (t:=⟨5,j,[]⟩) (r:=true) rfl _ (((hr2.set3 _ _ _).alloc _).drew) rfl rfl) rfl ⟨?_,?_⟩
     ·have g:=Aa (A3 hq.g nq) g2;exact (by repeat(first| (with_reducible exact Ac _ _)| (with_reducible assumption)| (with_reducible exact AU (by assumption))| (with_reducible refine Ad ?_ _)| (with_reducible refine Am ?_)| (with_reducible refine A3 ?_ _)| ((with_reducible refine Ay ?_ _ _ ?h2);case h2=>first|exact .inl rfl|exact .inr (Nat.le_refl _)|exact .inr (by simp<;>omega))| (with_reducible refine Ah ?_ (by assumption))| (with_reducible refine Aa ?_ (by assumption))))
     ·rw[HQ.out];exact⟨rfl,((((hs2.set_other _ _ (by simp;omega)).set_other _ _ (by simp;omega)).set_other _ _ (by simp;omega)).alloc _).drew⟩
   | false=>
     have HQ:=O (show R= .stop by rw[←HM.out,AI,hS];rfl);have HE:=O (fun(W:World)(g:w1.grownBy W none)=>Iz (hq.sc.gbN g) (j:=j) (by rw[if_neg hj]) (r:=true) (by simp[hj]));clear hS;go_wp2_with fail;go_quiet(fail);go_wp2_with fail;refine(HE.out _ (by repeat(first| (with_reducible exact Ac _ _)| (with_reducible assumption)| (with_reducible exact AU (by assumption))| (with_reducible refine Ad ?_ _)| (with_reducible refine Am ?_)| (with_reducible refine A3 ?_ _)| ((with_reducible refine Ay ?_ _ _ ?h2);case h2=>first|exact .inl rfl|exact .inr (Nat.le_refl _)|exact .inr (by simp<;>omega))| (with_reducible refine Ah ?_ (by assumption))| (with_reducible refine Aa ?_ (by assumption))))).mono ?_;rintro e w2 ⟨rfl,g2,hs2⟩;have hr2:=(hq.res.drewN nq).gb g2 (by simp;omega);have z0:=hr2.cell 0;have z1:=hr2.cell 1;have z2:=hr2.cell 2;have zf:=fun k=>hr2.frozen k;have zl:=hr2.lt;simp only[List.getElem?_cons_zero,List.getElem?_cons_succ]at z0 z1 z2;go_wp2_with fail;go_region;go_wp2;refine bodyPost_ret (Bn (t:=⟨0,0,[]⟩) (r:=false) rfl _ (((hr2.set3 _ _ _).alloc _).drew) rfl rfl) rfl ⟨?_,?_⟩
     ·have g:=Aa (A3 hq.g nq) g2;exact (by repeat(first| (with_reducible exact Ac _ _)| (with_reducible assumption)| (with_reducible exact AU (by assumption))| (with_reducible refine Ad ?_ _)| (with_reducible refine Am ?_)| (with_reducible refine A3 ?_ _)| ((with_reducible refine Ay ?_ _ _ ?h2);case h2=>first|exact .inl rfl|exact .inr (Nat.le_refl _)|exact .inr (by simp<;>omega))| (with_reducible refine Ah ?_ (by assumption))| (with_reducible refine Aa ?_ (by assumption))))
     ·rw[HQ.out];exact⟨⟨_,rfl⟩,j,false,((((hs2.set_other _ _ (by simp;omega)).set_other _ _ (by simp;omega)).set_other _ _ (by simp;omega)).alloc _).drew⟩
end Go.Proofs.YtgjdhajcnechdaaGreatDoor
