/-
  TwiceB PgO PgP WrU TxB Code: Validate, the program's: are the names of parameters names? Code: the program's reader of texts: the line of an instruction. Code: the program's reader of texts: lines of 
-/
import Derived.Test.YtbjfaimkiclhgaaGreatDoorCr11
import Derived.Maps.Views
import Derived.Test.YtbjfaimkiclhgaaGreatDoorCr08
import Derived.Test.YtbjfaimkiclhgaaGreatDoorCr03
import Derived.Test.YtbjfaimkiclhgaaGreatDoorCr15
import Derived.Test.YtbjfaimkiclhgaaGreatDoorCr05
import Derived.Lib.ItoaMem
import Derived.Test.YtbjfaimkiclhgaaGreatDoorCr17
import Derived.Test.YtbjfaimkiclhgaaGreatDoorCr02
import Derived.Laws.OwnMore
set_option linter.all false
set_option maxRecDepth 100000
set_option maxHeartbeats 8000000
namespace Go.Proofs.YtbjfaimkiclhgaaGreatDoor
open Go.Proofs.Tryz
open Go.RowKit Go.Maps Go.WideMaps Go.ChangeMaps Go.MapKept
variable{ok:Nat->Prop}{w w1:World}{v a0 a1 a2 a3 rv cv:Value}{b n i m k cap B M:Nat}{l:List Tok}{s:Bs}{α β:Type}{c:Nat->Bool}{W L:List Bs}{a:Option Addr}{t:TypeId}{vs us:List Un}{u:Un}{cs:List Value}
def RepP.four:∀{l:List Pd}{cs:List Value},RepP ok w l cs->∀i,i<l.length->∃fn pa pn pc ba bn bc,cs[i*4]? =some (str (Bo l i))/\cs[i*4+1]? =some (.bool fn)/\cs[i*4+2]? =some (.slice pa pn pc)/\cs[i*4+3]? =some (.slice ba bn bc):=by
 intro l;induction l with
 |nil=>intro cs _ i hi;simp at hi
 | cons a r ih=>
   rintro cs ⟨pa,ba,pc,bc,rest,rfl,_,_,h3⟩ i hi;cases i with
   |zero=>exact⟨_,_,_,_,_,_,_,rfl,rfl,rfl,rfl⟩
   | succ i=>
     obtain⟨fn,pa',pn,pc',ba',bn,bc',e0,e1,e2,e3⟩:=ih h3 i (by simpa using hi);refine⟨fn,pa',pn,pc',ba',bn,bc',?_⟩;rw[show(i+1)*4=i*4+4 by omega];exact⟨by simpa[pdC,Bo]using e0,by simpa[pdC,Bo]using e1,by simpa[pdC,Bo]using e2,by simpa[pdC,Bo]using e3⟩
def P7{z:DataW Unit×List MemPlace}(h:plainElem Tryz.prog 4 v=some z):∃x,v= .bool x/\z=(.lit (.bool x),[]):=by
 unfold plainElem at h;rw[underlying4]at h;cases v<;>simp at h;exact⟨_,rfl,h.symm⟩
def Em(l:List Bs):DataW Unit:=l.foldl (λD s=>D.put (.string s) (.lit (.bool true))) (.map [])
def IG(l:List Bs)(s:Bs):Em (l++[s])=(Em l).put (.string s) (.lit (.bool true)):=by simp[Em]
def V5{D:DataW Unit}(h:IsMap D)(k:Lit)(d:DataW Unit):IsMap (D.put k d):=by
 obtain⟨es,rfl⟩:=h;exact⟨_,rfl⟩
def UU(s:Bs):∀(l:List Bs)(D:DataW Unit),IsMap D->(l.foldl (λD s=>D.put (.string s) (.lit (.bool true))) D).atKey (.string s) (.lit (.bool false))=if l.contains s then .lit (.bool true)else D.atKey (.string s) (.lit (.bool false)):=by
 intro l;induction l with
 |nil=>intro D _;rfl
 | cons a r ih=>
   intro D hD;rw[List.foldl_cons,ih _ (V5 hD _ _)];by_cases h:s=a
   ·subst h;rw[atKey_put_same hD (by first|exact trivial|decide|simp[WideAt.IsKeyLit])];simp
   ·rw[atKey_put_other (by simpa using h)];simp[List.contains_cons,h]
def YD(l:List Bs)(s:Bs):(Em l).atKey (.string s) (.lit (.bool false))= .lit (.bool (l.contains s)):=by
 unfold Em;rw[UU s l _ ⟨_,rfl⟩];cases l.contains s<;>rfl
def Nt{W:World}{l:List Bs}(hs:s.length<=maxLen)(h:W.ownsMap Tryz.prog 9 (plainElem Tryz.prog 4) b n (Em l)):
 (Instr.lookup 62 (.map (some b)) (str s) false).run Tryz.prog W= .ok (.bool (l.contains s)) W:=by
 have hkey:keyOf Tryz.prog 9 (str s)=some (.string s):=keyOf_string_mk (s:=⟨s.toArray⟩) underlying9 hs;obtain⟨v,ps,hrun,hv⟩:=h.lookup Is underlying62 (zeroB W) (plainElem_bool underlying4 false) hkey;obtain⟨x,rfl,e⟩:=P7 hv;rw[YD]at e;cases e;exact hrun
def QY{la:Option Addr}{lc:Nat}{l:List Pd}(hs:∀i,i<l.length->(Bo l i).length<=maxLen)(hf:RepQ ok w (.slice la l.length lc) l):
 Calls Tryz.prog 60 #[.slice la l.length lc] w (ρ w (.bool (ES l))):=by
 obtain⟨cs,hc1,hr1⟩:=hf;obtain⟨_,_,e,hle,hmx,hcl,hc1⟩:=hc1;cases e;have hmax:l.length<=maxLen:=by omega
 unfold maxLen at hmax;clear hle hmx;have HC:=S (λi (hi:i<l.length)=>show ∃fn pa pn pc ba bn bc,∃g o,la=some ⟨g,o,none⟩/\w.cell? ⟨g,o+i*4,none⟩=some (str (Bo l i))/\w.cell? ⟨g,o+i*4+1,none⟩=some (.bool fn)/\w.cell? ⟨g,o+i*4+2,none⟩=some (.slice pa pn pc)/\w.cell? ⟨g,o+i*4+3,none⟩=some (.slice ba bn bc)from by
  obtain⟨fn,pa,pn,pc,ba,bn,bc,h0,h1,h2,h3⟩:=hr1.four i hi;obtain⟨g,o,e,_,c0⟩:=hc1 (i*4) _ h0;obtain⟨_,_,e1,_,c1⟩:=hc1 (i*4+1) _ h1;obtain⟨_,_,e2,_,c2⟩:=hc1 (i*4+2) _ h2;obtain⟨_,_,e3,_,c3⟩:=hc1 (i*4+3) _ h3;rw[e]at e1 e2 e3;cases e1;cases e2;cases e3;rw[<-Nat.add_assoc]at c1 c2 c3;exact⟨_,_,_,_,_,_,_,g,o,e,c0,c1,c2,c3⟩)
 have HS:=S hs;clear hc1 hr1 hs;generalize hT:ES l=T;have HT:=S hT;clear hT;have hmm:=@run_makeMap Tryz.prog;have HM:=S (World.ownsMap_made (H:=Unit) w Tryz.prog 9 (plainElem Tryz.prog 4));go_enter func60,ntmps60;go_wp2_with fail;go_loopg [9] l.length (λg v9 wr=>∃i:Nat,i+g=l.length/\v9= .int .i64 i/\(∀j,j<i->∀k,k<j->Bo l j≠Bo l k)/\wr.ownsMap Tryz.prog 9 (plainElem Tryz.prog 4) w.heap.size i (Em ((List.range i).map (Bo l)))/\w.grownBy wr none)
 case atStart=>exact⟨0,by omega,rfl,λj hj=>by omega,HM.1,gZ w _ none⟩
 case round=>
  obtain⟨i,hk,rfl,hno,hown,hgr⟩:=hrel;clear HM;have HN:=S (X hno (X hown hgr));clear hno hown hgr;by_cases hi:i<l.length
  ·have hi1:decide (i<l.length)=true:=by simpa using hi
   have i0:(0:Int)<=(i:Int):=by omega
   have i1:(i:Int)<(l.length:Int):=by omega
   obtain⟨fn,pa,pn,pc,ba,bn,bc,gb,ob,rfl,c0,c1,c2,c3⟩:=HC.1 i hi;replace c0:=Ae HN.1.2.2 c0;replace c1:=Ae HN.1.2.2 c1;replace c2:=Ae HN.1.2.2 c2;replace c3:=Ae HN.1.2.2 c3;have hgl:=bY _ _ c0;have hlk:=Nt (HS.1 i hi) (HN.1.2.1.alloc (.cells #[str (Bo l i),.bool fn,.slice pa pn pc,.slice ba bn bc] 40 (0,0)));cases hE:((List.range i).map (Bo l)).contains (Bo l i)with
   | true=>
     have HF:=S (show T=true by
      rw[<-HT.1];have h:=hE;simp only[List.contains_eq_mem,List.mem_map,List.mem_range,decide_eq_true_eq]at h;obtain⟨k,hk,e⟩:=h;exact Vo hi hk e.symm)
     rw[hE]at hlk;have HG:=S (Ac HN.1.2.2 (.cells #[str (Bo l i),.bool fn,.slice pa pn pc,.slice ba bn bc] 40 (0,0)));clear hE;go_wp2;go_ret;exact⟨by rw[HF.1];rfl,HG.1⟩
   | false=>
     have HF:=S (show ∀j,j<i+1->∀k,k<j->Bo l j≠Bo l k from λj hj q hq=>by
      by_cases e:j=i
      ·subst e;intro e;have h:((List.range j).map (Bo l)).contains (Bo l j)=true:=by
        simp only[List.contains_eq_mem,List.mem_map,List.mem_range,decide_eq_true_eq];exact⟨q,hq,e.symm⟩
       rw[h]at hE;cases hE
      ·exact HN.1.1 j (by omega) q hq)
     rw[hE]at hlk;have hkey:keyOf Tryz.prog 9 (str (Bo l i))=some (.string (Bo l i)):=keyOf_string_mk (s:=⟨(Bo l i).toArray⟩) underlying9 (HS.1 i hi);have HK:=S hkey;clear hE hkey;go_wp2_with (at_mapUpdate;refine wpList_mapUpdate_own _ rfl _ _ _ 62 rfl 9 4 Is underlying62 (plainElem (H:=Unit) Tryz.prog 4) w.heap.size i _ rfl (HN.1.2.1.alloc _) (by unfold maxLen;omega) _ _ _ rfl rfl HK.1 _ [] (plainElem_bool underlying4 true) ?_;intro w1 hown1 hgrow1;(have HW:=S (X hown1 (Aq (Ac HN.1.2.2 (.cells #[str (Bo l i),.bool fn,.slice pa pn pc,.slice ba bn bc] 40 (0,0))) hgrow1 (.inr (nR _)))));clear hown1 hgrow1);go_roundg (l.length-(i+1))
     case measure=>omega
     case rel=>exact⟨i+1,by omega,by go_num,HF.1,by rw[List.range_succ,List.map_append,List.map_singleton,IG];exact HW.1.1,HW.1.2⟩
  ·have hi1:decide (i<l.length)=false:=by simpa using hi
   have HF:=S (show T=false by rw[<-HT.1];exact Yl (λj hj=>HN.1.1 j (by omega)));go_wp2;go_ret;exact⟨by rw[HF.1];rfl,HN.1.2.2⟩
def Nx{α:Type}(l:List Tok)(i:Nat):Res α->Prop
 | .ok _ j=>i<=j/\j<=l.length
 | .bad _=>True
 | .out=>False
def NxS{α:Type}(l:List Tok)(i:Nat):Res α->Prop
 | .ok _ j=>i<j/\j<=l.length
 | .bad _=>True
 | .out=>False
def NxS.weak{r:Res α}(h:NxS l i r):Nx l i r:=by
 cases r with
 |ok a j=>exact⟨Nat.le_of_lt h.1,h.2⟩
 |bad k=>trivial
 |out=>exact h
def Ends{l:List Tok}{α:Type}(P:Rd l α)(n:Nat):Prop:=∀i,i<=l.length->l.length+2<=n+i->Nx l i (P.f i)
def EndsS{l:List Tok}{α:Type}(P:Rd l α)(n:Nat):Prop:=∀i,i<=l.length->l.length+2<=n+i->NxS l i (P.f i)
def EndsS.weak{P:Rd l α}(h:EndsS P n):Ends P n:=λi h1 h2=>(h i h1 h2).weak
def Ends.le{P:Rd l α}(h:Ends P m)(hn:n<=m):Ends P n:=λi h1 h2=>h i h1 (by omega)
def Ends.pure(a:α):Ends (Rd.pure a:Rd l α) n:=λi h1 _=>⟨nR _,h1⟩
def Ends.bad(a:α):EndsS (Rd.bad a:Rd l α) n:=λ_ _ _=>trivial
def Ends.bind{P:Rd l α}{Q:α->Rd l β}(hP:Ends P n)(hQ:∀x,Ends (Q x) n):Ends (P.bind Q) n:=by
 intro i h1 h2;have h:=hP i h1 h2;show Nx l i ((P.f i).bind _);cases hr:P.f i with
 | ok a j=>
   rw[hr]at h;have hq:=hQ a j h.2 (by have:=h.1;omega);show Nx l i ((Q a).f j);revert hq;cases(Q a).f j with
   |ok b k=>exactλhq=>⟨nT h.1 hq.1,hq.2⟩
   |bad k=>exactλ_=>trivial
   |out=>exact id
 |bad k=>trivial
 |out=>rw[hr]at h;exact h
def EndsS.bind{P:Rd l α}{Q:α->Rd l β}(hP:EndsS P n)(hQ:∀x,Ends (Q x) (n-1)):EndsS (P.bind Q) n:=by
 intro i h1 h2;have h:=hP i h1 h2;show NxS l i ((P.f i).bind _);cases hr:P.f i with
 | ok a j=>
   rw[hr]at h;have hq:=hQ a j h.2 (by have:=h.1;omega);show NxS l i ((Q a).f j);revert hq;cases(Q a).f j with
   |ok b k=>exactλhq=>⟨Nat.lt_of_lt_of_le h.1 hq.1,hq.2⟩
   |bad k=>exactλ_=>trivial
   |out=>exact id
 |bad k=>trivial
 |out=>rw[hr]at h;exact h
def Fine.nx{o:Prop}{r:Res α}(h:Fine o l.length i r)(ho:o):NxS l i r:=by
 cases r with
 |ok a j=>exact h
 |bad k=>trivial
 |out=>exact h ho
def He(s:Bs):EndsS (Rd.want s:Rd l Unit) n:=λi _ _=>(Eb (o:=True) s i).nx trivial
def ends_fin:EndsS (Rd.fin:Rd l Unit) n:=λi _ _=>(NW (o:=True) i).nx trivial
def CO(hn:Al l):EndsS (Rd.name hn:Rd l Bs) n:=λi _ _=>(Fe (o:=True) i).nx trivial
def Fk{p q:Rd l α}(hp:Ends p (n-1))(hq:Ends q n):Ends (Rd.ifs s p q) n:=by
 intro i h1 h2;show Nx l i (if Ah (Ab l i) s then p.f (i+1)else q.f i);split
 ·rename_i hs;have hl:=BF hs;have h:=hp (i+1) hl (by omega);revert h;cases p.f (i+1)with
  |ok b k=>exactλh=>⟨by have:=h.1;omega,h.2⟩
  |bad k=>exact id
  |out=>exact id
 ·exact hq i h1 h2
def U3{p q:Rd l α}(hp:Ends p (n-1))(hq:EndsS q n):EndsS (Rd.ifs s p q) n:=by
 intro i h1 h2;show NxS l i (if Ah (Ab l i) s then p.f (i+1)else q.f i);split
 ·rename_i hs;have hl:=BF hs;have h:=hp (i+1) hl (by omega);revert h;cases p.f (i+1)with
  |ok b k=>exactλh=>⟨by have:=h.1;omega,h.2⟩
  |bad k=>exact id
  |out=>exact id
 ·exact hq i h1 h2
def IN{p q:Rd l α}(hp:Ends p n)(hq:Ends q n):Ends (Rd.cond c p q) n:=by
 intro i h1 h2;show Nx l i (if c i then p.f i else q.f i);split
 ·exact hp i h1 h2
 ·exact hq i h1 h2
def Sr{p q:Rd l α}(hp:EndsS p n)(hq:EndsS q n):EndsS (Rd.cond c p q) n:=by
 intro i h1 h2;show NxS l i (if c i then p.f i else q.f i);split
 ·exact hp i h1 h2
 ·exact hq i h1 h2
def Ss{p q:Rd l α}(hp:Ends p n)(hq:Ends q n):Ends (Rd.condW c p q) n:=IN (c:=c) hp hq
def Zq(h:Bp l W i≠[]):i<l.length:=by
 apply CX (W:=W);intro e;apply h;unfold Bp;split
 ·rfl
 ·exact e
def Dv{q:Rd l α}(hq:Ends q (n-1))(hi:i<l.length)(h2:l.length+2<=n+i):NxS l i ((Rd.skip.bind λ_=>q).f i):=by
 have h:=hq (i+1) hi (by omega);show NxS l i (q.f (i+1));revert h;cases q.f (i+1)with
 |ok b k=>exactλh=>⟨by have:=h.1;omega,h.2⟩
 |bad k=>exact id
 |out=>exact id
def Eo{w:Bs}(hw:w≠[]){p q:Rd l α}(hp:Ends p (n-1))(hq:Ends q n):Ends (Rd.ifw W w p q) n:=by
 intro i h1 h2;show Nx l i (if As l W i==w then(Rd.skip.bind λ_=>p).f i else q.f i);split
 ·rename_i hs;simp only[beq_iff_eq]at hs;exact(Dv hp (CX (W:=W) (by rw[hs];exact hw)) h2).weak
 ·exact hq i h1 h2
def U4{w:Bs}(hw:w≠[]){p q:Rd l α}(hp:Ends p (n-1))(hq:EndsS q n):EndsS (Rd.ifw W w p q) n:=by
 intro i h1 h2;show NxS l i (if As l W i==w then(Rd.skip.bind λ_=>p).f i else q.f i);split
 ·rename_i hs;simp only[beq_iff_eq]at hs;exact Dv hp (CX (W:=W) (by rw[hs];exact hw)) h2
 ·exact hq i h1 h2
def CZ{w:Bs}(hw:w≠[]):EndsS (Rd.must W w:Rd l Unit) n:=U4 hw (Ends.pure _) (Ends.bad _)
def ST{step:α->Rd l α}(h:∀a,Ends (step a) n):∀k a i,i<=l.length->l.length+1<=k+i->l.length+2<=n+i->Nx l i ((Rd.moreS s step k a).f i):=by
 intro k;induction k with
 |zero=>intro a i h1 h2;omega
 | succ k ih=>
   intro a i h1 h2 h3;show Nx l i (if Ah (Ab l i) s then((step a).f (i+1)).bind (λx j=>(Rd.moreS s step k x).f j)else .ok a i);split
   ·rename_i hs;have hl:=BF hs;have h0:=h a (i+1) hl (by omega);cases hr:(step a).f (i+1)with
    | ok b j=>
      rw[hr]at h0;have hq:=ih b j h0.2 (by have:=h0.1;omega) (by have:=h0.1;omega);rw[Res.bind_ok];revert hq;cases(Rd.moreS s step k b).f j with
      |ok b k=>exactλh=>⟨by have:=h.1;have:=h0.1;omega,h.2⟩
      |bad k=>exact id
      |out=>exact id
    |bad k=>trivial
    |out=>rw[hr]at h0;exact h0
   ·exact⟨nR _,h1⟩
def SU{w:Bs}(hw:w≠[]){step:α->Rd l α}(h:∀a,Ends (step a) (n-1)):∀k a i,i<=l.length->l.length+1<=k+i->l.length+2<=n+i->Nx l i ((Rd.moreW W w step k a).f i):=by
 intro k;induction k with
 |zero=>intro a i h1 h2;omega
 | succ k ih=>
   intro a i h1 h2 h3;show Nx l i (if As l W i==w then((step a).f (i+1)).bind (λx j=>(Rd.moreW W w step k x).f j)else .ok a i);split
   ·rename_i hs;simp only[beq_iff_eq]at hs;have hl:=CX (l:=l) (W:=W) (i:=i) (by rw[hs];exact hw);have h0:=h a (i+1) hl (by omega);cases hr:(step a).f (i+1)with
    | ok b j=>
      rw[hr]at h0;have hq:=ih b j h0.2 (by have:=h0.1;omega) (by have:=h0.1;omega);rw[Res.bind_ok];revert hq;cases(Rd.moreW W w step k b).f j with
      |ok b k=>exactλh=>⟨by have:=h.1;have:=h0.1;omega,h.2⟩
      |bad k=>exact id
      |out=>exact id
    |bad k=>trivial
    |out=>rw[hr]at h0;exact h0
   ·exact⟨nR _,h1⟩
section
open Rd
variable (hn:Al l)(W:List Bs)(day:Bs->Int){block:Rd l Bl}
def CN:EndsS (B5 hn day n) n:=λi h1 h2=>(GX (l:=l) day n i).nx (by omega)
def K4:EndsS (GO hn day n) n:=λi h1 h2=>(Kc (o:=True) (n:=n) (λq hq=>(GX (l:=l) day n q).weak (λ_=>by omega)) (λ_=>by omega)).nx trivial
def SV:EndsS (OC hn n) n:=λi h1 h2=>(Ma (o:=True) (λ_=>by omega)).nx trivial
def SS:EndsS (L1 hn day n) n:=λi h1 h2=>(LY (o:=True) (λ_ q hq=>(GX (l:=l) day n q).weak (λ_=>by omega))).nx trivial
def K6:Ends (Ip hn day n) n:=Ss (Ends.pure _) ((CN hn day).weak.bind λ_=>Ends.pure _)
def Mk{step:α->Rd l α}(h:∀a,Ends (step a) m)(hk:m<=k+1)(a:α):Ends (Rd.moreS s step k a) m:=λi h1 h2=>ST h k a i h1 (by omega) h2
def QL{w:Bs}(hw:w≠[]){step:α->Rd l α}(h:∀a,Ends (step a) (m-1))(hk:m<=k+1)(a:α):Ends (Rd.moreW W w step k a) m:=λi h1 h2=>SU hw h k a i h1 (by omega) h2
def LJ(a:List Bs×Fo):Ends (FY hn day n a) n:=
 (CO hn).weak.bind λ_=>(Fk ((CN hn day).weak.le (by omega)) (Ends.pure _)).bind λ_=>Ends.pure _
def PK(w:Bs):Ends (D9 hn day n w) (n-1):=
 ((LJ hn day _).le (by omega)).bind λa=>(Mk (λa=>(LJ hn day a).le (by omega)) (by omega) a).bind λ_=>ends_fin.weak.bind λ_=>Ends.pure _
def K5(hb:Ends block (n-1))(a:Fo×Bl):Ends (D0 hn day n block a) (n-1):=
 ((CN hn day).weak.le (by omega)).bind λ_=>ends_fin.weak.bind λ_=>hb.bind λ_=>Ends.pure _
def Mj(hb:Ends block (n-1)){more other last:Bs}(h1:more≠[])(h2:other≠[])(h3:last≠[]):Ends (Ew hn W day n block more other last) (n-1):=
 (K5 hn day hb _).bind λa=>(QL W h1 (λa=>(K5 hn day hb a).le (by omega)) (by omega) a).bind λa=>
  (Eo h2 (ends_fin.weak.bind λ_=>(hb.le (by omega)).bind λ_=>Ends.pure _) (Ends.pure _)).bind λ_=>(CZ h3).weak.bind λ_=>ends_fin.weak.bind λ_=>Ends.pure _
def YS(hb:Ends block (n-1)):Ends (doP hn W day n block) (n-1):=
 Eo (by decide) (ends_fin.weak.bind λ_=>(CZ (by decide)).weak.bind λ_=>(Mj hn W day hb (by decide) (by decide) (by decide)).le (by omega))
  (Eo (by decide) (((K5 hn day hb _).le (by omega)).bind λa=>(CZ (by decide)).weak.bind λ_=>ends_fin.weak.bind λ_=>Ends.pure _)
   ((CO hn).weak.bind λs=>(Eo (by decide) ((K4 hn day).weak.le (by omega)) (Ends.pure _)).bind λ_=>ends_fin.weak.bind λ_=>Ends.pure _))
def U5(hb:Ends block (n-1)):Ends (EU hn W day n block) (n-1):=
 (CO hn).weak.bind λ_=>(He _).weak.bind λ_=>((CN hn day).weak.le (by omega)).bind λ_=>(CZ (by decide)).weak.bind λ_=>((CN hn day).weak.le (by omega)).bind λ_=>
  (Eo (by decide) ((CN hn day).weak.le (by omega)) (Ends.pure _)).bind λ_=>ends_fin.weak.bind λ_=>hb.bind λ_=>(CZ (by decide)).weak.bind λ_=>ends_fin.weak.bind λ_=>Ends.pure _
def Su(hb:Ends block (n-1)):Ends (EN hn W block) (n-1):=
 (CZ (by decide)).weak.bind λ_=>ends_fin.weak.bind λ_=>hb.bind λ_=>
  (Eo (by decide) ((Eo (by decide) (CO hn).weak (Ends.pure _)).bind λ_=>ends_fin.weak.bind λ_=>(hb.le (by omega)).bind λ_=>Ends.pure _) (Ends.pure _)).bind λ_=>
   (CZ (by decide)).weak.bind λ_=>ends_fin.weak.bind λ_=>Ends.pure _
def Lp{q:Rd l α}(hi:i<l.length)(hq:Nx l (i+1) (q.f (i+1))):NxS l i ((Rd.skip.bind λ_=>q).f i):=by
 show NxS l i (q.f (i+1));revert hq;cases q.f (i+1)with
 |ok b k=>exactλh=>⟨by have:=h.1;omega,h.2⟩
 |bad k=>exact id
 |out=>exact id
def Jv{P:Rd l α}{Q:α->Rd l β}(hP:Nx l i (P.f i))(hQ:∀a j,i<=j->j<=l.length->Nx l j ((Q a).f j)):Nx l i ((P.bind Q).f i):=by
 show Nx l i ((P.f i).bind _);cases hr:P.f i with
 | ok a j=>
   rw[hr]at hP;have hq:=hQ a j hP.1 hP.2;show Nx l i ((Q a).f j);revert hq;cases(Q a).f j with
   |ok b k=>exactλhq=>⟨nT hP.1 hq.1,hq.2⟩
   |bad k=>exactλ_=>trivial
   |out=>exact id
 |bad k=>trivial
 |out=>rw[hr]at hP;exact hP
def Tj:AZ []=0:=by decide
def SX:∀k c i,i<=l.length->l.length+1<=k+i->l.length+2<=n+i->Nx l i ((By hn W day n k c).f i):=by
 intro k;induction k with
 |zero=>intro c i h1 h2;omega
 | succ k ih=>
   intro c i h1 h2 h3;have step:∀(hi:i<l.length)(F:Ex->ScM),Nx l i (((Rd.skip.bind λ_=>(B5 hn day n).bind λx=>By hn W day n k (F x)):Rd l ScM).f i):=λhi F=>
    (Lp hi (Jv ((CN hn day).weak (i+1) hi (by omega)) (λx j h4 h5=>ih (F x) j h5 (by omega) (by omega)))).weak
   unfold By;show Nx l i ((if AZ (As l W i)≠0/\c.kind=0 then _ else _:Rd l ScM).f i);generalize hw:As l W i=w at*;have hlt:w≠[]->i<l.length:=λh=>CX (W:=W) (by rw[hw];exact h);split
   ·rename_i h;have hi:=hlt (λe=>h.1 (by rw[e];exact Tj));split
    ·exact step hi _
    ·exact(Lp hi (ih _ (i+1) hi (by omega) (by omega))).weak
   ·split
    ·rename_i h;exact step (hlt (by rw[h.1];decide)) _
    ·split
     ·rename_i h;exact step (hlt (by rw[h.1];decide)) _
     ·exact⟨nR _,h1⟩
def QM(c:ScM):Ends (By hn W day n n c) (n-1):=λi h1 h2=>SX hn W day n c i h1 (by omega) (by omega)
def LK(a:List Bs×Fo):Ends (EG hn W day n a) n:=
 (CO hn).weak.bind λ_=>(CZ (by decide)).weak.bind λ_=>(CN hn day).weak.bind λ_=>Ends.pure _
def IP{Q:Bs->Rd l α}(h:∀w i,As l W i=w->i<=l.length->l.length+2<=n+i->Nx l i ((Q w).f i)):Ends ((here W).bind Q) n:=λi h1 h2=>h _ i rfl h1 h2
def GT{q:Rd l α}(hq:Ends q n)(hi:i<l.length)(h2:l.length+2<=n+i):Nx l i ((Rd.skip.bind λ_=>q).f i):=(Dv (hq.le (by omega)) hi h2).weak
def Sv(s:Sd):Ends (F5 hn W day n s) (n-1):=
 (CZ (by decide)).weak.bind λ_=>((CN hn day).weak.le (by omega)).bind λ_=>(CZ (by decide)).weak.bind λ_=>(CO hn).weak.bind λ_=>
  (Eo (by decide) (((CN hn day).weak.le (by omega)).bind λ_=>Ends.pure _) (Ends.pure _)).bind λ_=>
   IP W λw i hw h1 h2=>Jv (by
    split
    ·rename_i h
     exact GT (n:=n-1) (Ends.pure _) (CX (W:=W) (by rw[hw];rcases h with h|h<;>rw[h]<;>decide)) h2
    ·exact⟨nR _,h1⟩) (λt j h4 h5=>Ends.bind (n:=n-1) (Eo (by decide) (Ends.pure _) (Ends.pure _)) (λ_=>Ends.pure _) j h5 (by omega))
def PL(s:Sd):Ends (Fr hn W day n s) (n-1):=IP W λw i hw h1 h2=>by
 have hlt:w≠[]->i<l.length:=λh=>CX (W:=W) (by rw[hw];exact h)
 split
 ·rename_i h
  refine GT (n:=n-1) ?_ (hlt (by rcases h with h|h<;>rw[h]<;>decide)) h2
  refine IP W λt i ht h1 h2=>?_
  split
  ·rename_i h
   exact GT (n:=n-1) (Ends.pure _) (CX (W:=W) (by rw[ht];rcases h with h|h<;>rw[h]<;>decide)) h2
  ·exact trivial
 ·split
  ·rename_i h
   refine GT (n:=n-1) ?_ (hlt (by rcases h with h|h|h<;>rw[h]<;>decide)) h2
   refine(CZ (by decide)).weak.bind λ_=>IN (Ends.pure _) ?_
   split
   ·exact(CO hn).weak.bind λ_=>Ends.pure _
   ·split
    ·exact((CN hn day).weak.le (by omega)).bind λ_=>Ends.pure _
    ·exact((CN hn day).weak.le (by omega)).bind λ_=>(CZ (by decide)).weak.bind λ_=>(CO hn).weak.bind λ_=>Ends.pure _
  ·exact trivial
def YT(s:Sd):Ends (goP hn W day n s) (n-1):=IP W λw i hw h1 h2=>by
 show Nx l i (if(w==FL||w==Fy)&&Rd.atEnd l (i+1)then(Rd.skip.bind λ_=>Rd.pure _:Rd l Sd).f i else _)
 split
 ·rename_i h
  simp only[Bool.and_eq_true,Bool.or_eq_true,beq_iff_eq]at h
  exact GT (n:=n-1) (Ends.pure _) (CX (W:=W) (by rw[hw];rcases h.1 with h|h<;>rw[h]<;>decide)) h2
 ·exact Ends.bind (n:=n-1) ((CN hn day).weak.le (by omega)) (λ_=>Ends.pure _) i h1 h2
def We{c:Prop} [Decidable c] {p q:Rd l α} (hp:Ends p m) (hq:Ends q m):Ends (if c then p else q) m:=by
 by_cases h:c
 ·rw[if_pos h];exact hp
 ·rw[if_neg h];exact hq
def PJ(w:Bs):Ends (BA hn W day n w) (n-1):=by
 unfold BA;have hx:=(CN hn day (n:=n)).weak.le (n:=n-1) (by omega);have hs:=QM hn W day (n:=n) Cm;repeat' refine We ?_ ?_
 ·exact(CO hn).weak.bind λ_=>Ends.pure _
 ·exact IN (Ends.pure _) ((CO hn).weak.bind λ_=>(Eo (by decide) ((CO hn).weak.bind λ_=>Ends.pure _) (Ends.pure _)).bind λ_=>Ends.pure _)
 ·exact YT hn W day _
 ·exact((K6 hn day).le (by omega)).bind λ_=>Ends.pure _
 ·exact hx.bind λ_=>Ends.pure _
 ·exact Ends.pure _
 ·exact(CZ (by decide)).weak.bind λ_=>Ends.pure _
 ·exact hs.bind λ_=>Ends.pure _
 ·exact((LK hn W day _).le (by omega)).bind λa=>(Mk (λa=>(LK hn W day a).le (by omega)) (by omega) a).bind λ_=>hs.bind λ_=>Ends.pure _
 ·exact(CZ (by decide)).weak.bind λ_=>(CO hn).weak.bind λ_=>hs.bind λ_=>Ends.pure _
 ·exact hx.bind λ_=>(CZ (by decide)).weak.bind λ_=>(CO hn).weak.bind λ_=>hs.bind λ_=>Ends.pure _
 ·exact Sv hn W day _
 ·exact PL hn W day _
def U7(hb:Ends block (n-1))(w:Bs)(hi:i<l.length)(h2:l.length+2<=n+i):NxS l i ((Bw hn W day n block w).f i):=by
 unfold Bw;have hf:Ends ((Rd.fin.bind λ_=>Rd.pure (sd0 6 [],Bl.nil)):Rd l StB) (n-1):=ends_fin.weak.bind λ_=>Ends.pure _;repeat' split
 ·exact Dv (PK hn day w) hi h2
 ·exact Dv (Mj hn W day hb (by decide) (by decide) (by decide)) hi h2
 ·exact Dv (YS hn W day hb) hi h2
 ·exact Dv (U5 hn W day hb) hi h2
 ·exact Dv (ends_fin.weak.bind λ_=>Ends.pure _) hi h2
 ·exact Dv (ends_fin.weak.bind λ_=>Ends.pure _) hi h2
 ·exact Dv (((K6 hn day).le (by omega)).bind λ_=>ends_fin.weak.bind λ_=>Ends.pure _) hi h2
 ·exact Dv (((K6 hn day).le (by omega)).bind λ_=>ends_fin.weak.bind λ_=>Ends.pure _) hi h2
 ·exact Dv (Su hn W hb) hi h2
 ·exact Dv ((PJ hn W day w).bind λ_=>ends_fin.weak.bind λ_=>Ends.pure _) hi h2
 ·exact trivial
def IZ(t:Ex):Ends (Gw hn day n t) n:=
 (Fk (Ends.pure _) (He _).weak).bind λ_=>(CN hn day).weak.bind λ_=>ends_fin.weak.bind λ_=>Ends.pure _
def U9(s:Bs):Ends (Ir hn day n s) n:=
 Fk ((Fk (Ends.pure _) (((K4 hn day).weak.le (by omega)).bind λ_=>(He _).weak.bind λ_=>Ends.pure _)).bind λ_=>ends_fin.weak.bind λ_=>Ends.pure _)
  (Fk (((CN hn day).weak.le (by omega)).bind λ_=>(He _).weak.bind λ_=>(IZ hn day _).le (by omega))
   (Fk ((CO hn).weak.bind λ_=>(IZ hn day _).le (by omega)) (IZ hn day _)))
def SW:EndsS (EP hn day n) n:=
 U3 ((IN (Ends.pure _) ((K4 hn day).weak.le (by omega))).bind λ_=>ends_fin.weak.bind λ_=>Ends.pure _)
  (Sr ((SS hn day).bind λt=>(IZ hn day t).le (by omega)) ((CO hn).bind λs=>(U9 hn day s).le (by omega)))
def U8(hb:Ends block (n-1)):EndsS (BL hn W day n block) n:=by
 intro i h1 h2;show NxS l i ((if Bp l W i=[]then EP hn day n else Bw hn W day n block (Bp l W i)).f i);split
 ·exact SW hn day i h1 h2
 ·rename_i h;exact U7 hn W day hb _ (Zq h) h2
end
section
open Rd
variable (hn:Al l)(W:List Bs)(day:Bs->Int)
def Pr{st:Rd l StB}(h:EndsS st n):∀k a i,i<=l.length->l.length+1<=k+i->l.length+2<=n+i->Nx l i ((DF W st k a).f i):=by
 intro k;induction k with
 |zero=>intro a i h1 h2;omega
 | succ k ih=>
   intro a i h1 h2 h3;show Nx l i (if Ft l W i then(st.bind λr=>DF W st k (a.app (.st r.1 r.2 .nil))).f i else .ok a i);split
   ·have h0:=h i h1 h3;show Nx l i ((st.f i).bind _);cases hr:st.f i with
    | ok b j=>
      rw[hr]at h0;have hq:=ih (a.app (.st b.1 b.2 .nil)) j h0.2 (by have:=h0.1;omega) (by have:=h0.1;omega);rw[Res.bind_ok];revert hq;cases(DF W st k (a.app (.st b.1 b.2 .nil))).f j with
      |ok b k=>exactλh=>⟨by have:=h.1;have:=h0.1;omega,h.2⟩
      |bad k=>exact id
      |out=>exact id
    |bad k=>trivial
    |out=>rw[hr]at h0;exact h0
   ·exact⟨nR _,h1⟩
def Mr:∀m,Ends (Dx hn W day m) (m-1):=by
 intro m;induction m with
 |zero=>intro i h1 h2;omega
 |succ n ih=>exactλi h1 h2=>Pr W (U8 hn W day (n:=n) ih) n .nil i h1 (by omega) (by omega)
def U6(n:Nat)(a:List Pq)(fn:Bool):Ends (El hn W day n a fn) (n-1):=
 (CO hn).weak.bind λ_=>(Fk (Fk (Ends.pure _) (((SV hn (n:=n)).weak.le (by omega)).bind λ_=>(He _).weak.bind λ_=>Ends.pure _)) (Ends.pure _)).bind λ_=>
  ends_fin.weak.bind λ_=>(Mr hn W day n).bind λ_=>Ends.pure _
def Pz(n:Nat):∀k a i,i<=l.length->l.length+1<=k+i->l.length+2<=(n-1)+i->Nx l i ((DD hn W day n k a).f i):=by
 intro k;induction k with
 |zero=>intro a i h1 h2;omega
 | succ k ih=>
   intro a i h1 h2 h3;show Nx l i (if decide (i<l.length)then(if As l W i=Ed\/As l W i=C9 then(Rd.skip.bind λ_=>(El hn W day n a (As l W i==C9)).bind λa=>DD hn W day n k a)else Rd.bad a:Rd l (List Pq)).f i else .ok a i);split
   ·rename_i hi;simp only[decide_eq_true_eq]at hi;split
    ·exact(Lp hi (Jv (U6 hn W day n a _ (i+1) hi (by omega)) (λx j h4 h5=>ih x j h5 (by omega) (by omega)))).weak
    ·exact trivial
   ·exact⟨nR _,h1⟩
def MU(n:Nat)(h:l.length+3<=n):Nx l 0 ((BY hn W day n).f 0):=
 Jv (Mr hn W day n 0 (nZ _) (by omega)) (λb j _ h5=>Pz hn W day n n _ j h5 (by omega) (by omega))
end
open Go.Lib
def Ut(y m:Int)(h1:1<=m)(h2:m<=12):28<=AT y m:=by
 unfold AT;split
 ·omega
 ·have hm:m=1\/m=2\/m=3\/m=4\/m=5\/m=6\/m=7\/m=8\/m=9\/m=10\/m=11\/m=12:=by omega
  rcases hm with rfl|rfl|rfl|rfl|rfl|rfl|rfl|rfl|rfl|rfl|rfl|rfl<;>decide
def GS(y:Int){a:Nat}(h:a<=b)(hb:b<=12):Av y a<=Av y b:=by
 obtain⟨k,rfl⟩:∃k,b=a+k:=⟨b-a,by omega⟩;clear h;induction k with
 |zero=>exact Int.le_refl _
 | succ k ih=>
   have:=ih (by omega);have h2:=Ut y ((a+k:Nat)+1) (by omega) (by omega);show Av y a<=Av y (a+k)+AT y ((a+k:Nat)+1);omega
def IK{a:Int}(h1:1<=a):∀k:Nat,Ax a<=Ax (a+k):=by
 intro k;induction k with
 |zero=>simp
 | succ k ih=>
   have h2:=JX (a+k) (by omega);have h3:=GS (a+k) (a:=0) (b:=12) (by omega) (by omega);have h4:Av (a+k) 0=0:=rfl;rw[show a+((k+1:Nat):Int)=a+k+1 by omega];omega
def Yq{a b n:Int}(ha:1<=a)(hb:1<=b)(h1:Ax a<n)(h2:n<=Ax (a+1))(h3:Ax b<n)(h4:n<=Ax (b+1)):a=b:=by
 by_cases h:a<b
 ·have:=IK (a:=a+1) (by omega) (b-(a+1)).toNat;rw[show a+1+((b-(a+1)).toNat:Int)=b by omega]at this;omega
 by_cases h':b<a
 ·have:=IK (a:=b+1) (by omega) (a-(b+1)).toNat;rw[show b+1+((a-(b+1)).toNat:Int)=a by omega]at this;omega
 omega
def Us{y n:Int}{a:Nat}(ha:1<=a)(ha2:a<=12)(hb:1<=b)(hb2:b<=12)(h1:Av y (a-1)<n)(h2:n<=Av y a)(h3:Av y (b-1)<n)(h4:n<=Av y b):a=b:=by
 by_cases h:a<b
 ·have:=GS y (a:=a) (b:=b-1) (by omega) (by omega);omega
 by_cases h':b<a
 ·have:=GS y (a:=b) (b:=a-1) (by omega) (by omega);omega
 omega
def JG(y:Int)(h:1<=m):Av y m=Av y (m-1)+AT y m:=by
 obtain⟨k,rfl⟩:∃q,m=q+1:=⟨m-1,by omega⟩;show Av y k+AT y ((k:Int)+1)=_;rw[show k+1-1=k by omega];congr 2
def Vb{n:Int}{y q:Nat}(hy:1<=y)(hy2:y<=9999)(hm:1<=m)(hm2:m<=12)(hq:1<=q)(hq2:(q:Int)<=AT y m)(h:Ax y+Av y (m-1)+q=n):Ba n=(y,m,q):=by
 have hb:∀{y m:Nat}{q:Int},1<=y->1<=m->m<=12->1<=q->q<=AT y m->Ax y<Ax y+Av y (m-1)+q/\Ax y+Av y (m-1)+q<=Ax ((y:Int)+1):=by
  intro y m q h1 h2 h3 h4 h5;have a1:=GS y (a:=0) (b:=m-1) (by omega) (by omega);have a2:=GS y (a:=m) (b:=12) (by omega) (by omega);have a3:=JG y h2;have a4:=JX (y:Int) (by omega);have a5:Av (y:Int) 0=0:=rfl;omega
 have h0:=hb hy hm hm2 (show(1:Int)<=(q:Int)by omega) hq2;rw[h]at h0;have hn1:0<n:=by
  have:=IK (a:=1) (by omega) (y-1);rw[show(1:Int)+((y-1:Nat):Int)=y by omega]at this;have e:Ax 1=0:=by decide
  omega
 have hn2:n<=3652059:=by
  have:=IK (a:=(y:Int)+1) (by omega) (9999-y);rw[show(y:Int)+1+((9999-y:Nat):Int)=10000 by omega]at this;have e:Ax 10000=3652059:=by decide
  omega
 obtain⟨a,b,c,d,e,f,g⟩:=KD hn1 hn2;have h1:=hb a c d (show(1:Int)<=((Ba n).2.2:Int)by omega) f;rw[g]at h1;have e1:((Ba n).1:Int)=y:=Yq (by omega) (by omega) h1.1 h1.2 h0.1 h0.2;have s1:(Ba n).1=y:=by omega
 rw[s1]at g f;have a3:=JG y hm;have a4:=JG y c;have e2:(Ba n).2.1=m:=Us (y:=y) (n:=n-Ax y) c d hm hm2 (by omega) (by omega) (by omega) (by omega);rw[e2]at g;have e3:(Ba n).2.2=q:=by omega
 rw[<-s1,<-e2,<-e3]
def wl:OW->Nat
 |none=>0
 |some p=>p.1.length
open Go.Sort
def TM(n:Int)(h0:0<n)(h1:n<=3652059)(w:World):Calls Tryz.prog 300 #[.int .i64 n] w (ρ w (str (Dy n))):=by
 have H:=S (Va n h0 h1 w);clear h0 h1;go_enter func300,ntmps300;go_wp2_with fail;refine H.1.mono ?_;rintro e w1 ⟨⟨y,m,q,rfl,a1,a2,a3,a4,a5,a6,a7⟩,g1⟩;have hq31:=(Ny (y:=y) (m:=m) (by omega) (by omega)).2;have HD:=S (show Dy n=AU 4 y++AU 2 m++AU 2 q by unfold Dy;rw[Vb a1 a2 a3 a4 a5 a6 a7]);have hn:∀k u:Nat,1<=k->u<10 ^ k->(decDigits u).length<=k:=λk u hk hu=>by rw[decDigits_length];exact Kd k hk hu
 have l1:=EK (k:=4) (u:=y) (by omega) (by omega);have l2:=EK (k:=2) (u:=m) (by omega) (by omega);have l3:=EK (k:=2) (u:=q) (by omega) (by omega);have H1:=S (λW=>Kg y 4 (by omega) (hn 4 y (by omega) (by omega)) (by omega) W);have H2:=S (λW=>Kg m 2 (by omega) (hn 2 m (by omega) (by omega)) (by omega) W);have H3:=S (λW=>Kg q 2 (by omega) (hn 2 q (by omega) (by omega)) (by omega) W);change Hid (∀W,Calls _ _ _ W (ρ W (str (AU 4 y))))at H1;change Hid (∀W,Calls _ _ _ W (ρ W (str (AU 2 m))))at H2;change Hid (∀W,Calls _ _ _ W (ρ W (str (AU 2 q))))at H3;generalize AU 4 y=s1 at*;generalize AU 2 m=s2 at*;generalize AU 2 q=s3 at*;have hc1:¬(9223372036854775807<s1.length+s2.length):=by omega
 have hc2:¬(9223372036854775807<s1.length+s2.length+s3.length):=by omega
 have hc3:¬(9223372036854775807<(s1++s2).length+s3.length):=by rw[lA];omega
 clear a1 a2 a3 a4 a5 a6 a7 hn hq31;go_wp2_with fail;refine mR (H1.1 _) λw2 g2=>?_;go_wp2_with fail;refine mR (H2.1 _) λw3 g3=>?_;go_wp2_with fail;refine mR (H3.1 _) λw4 g4=>?_;have HG:=S (Z (Z (Z g1 g2) g3) g4);clear g1 g2 g3 g4;go_wp2;go_ret;refine⟨?_,HG.1⟩;rw[HD.1,<-Ia,<-ByteArray.mk_append_mk];rfl
def Vd(n:Int)(h0:0<n)(h1:n<=3652059)(w:World):Calls Tryz.prog 271 #[.int .i64 n] w (ρ w (.tuple #[str (Dy n),.int .i64 0])):=by
 have H:=S (λW=>TM n h0 h1 W);have HD:=S (MZ n h0 h1 w);have hz:(n==0)=false:=by simp;omega
 go_enter func271,ntmps271;go_wp2_with fail;refine HD.1.mono ?_;rintro e w1 ⟨rfl,rfl⟩;go_wp2_with fail;refine mR (H.1 _) λw2 g2=>?_;go_wp2;exact bZ (v:= .tuple #[str (Dy n),.int .i64 0]) (by simp[results,results271,go_sem]) rfl ⟨rfl,g2⟩
def K7(s:Bs)(c:UInt8):decide (0<=Lib.indexByte s c)=s.contains c:=by
 induction s with
 |nil=>rfl
 | cons b s ih=>
   rw[List.contains_cons,<-ih];have:=indexByte_ge s c;show decide (0<=(if b==c then(0:Int)else if Lib.indexByte s c == -1 then -1 else Lib.indexByte s c+1))=_;by_cases h:b=c
   ·subst h;simp
   ·rw[if_neg (by simpa using h),show(c==b)=false by simpa using λe=>h e.symm,Bool.false_or,decide_eq_decide];split
    ·rename_i h2;have h3:Lib.indexByte s c= -1:=by simpa using h2
     rw[h3]
    ·rename_i h2;have h3:Lib.indexByte s c ≠ -1:=by simpa using h2
     omega
def C7{b:ByteArray}(h:b.data.toList=s):Value.string b=str s:=by subst h;rfl
section
variable {vk vn:Int}{vs:Bs}
def HdV(vk vn:Int)(vs:Bs):Hd:=⟨0,[],vk,vn,vs,[]⟩
def PG(hp:Pow w)(hc:A9 (HdV vk vn vs)=true)(hl:vs.length<=2000000):
 Calls Tryz.prog 241 #[.agg #[.int .i64 vk,.int .i64 vn,str vs]] w (ρ w (str (Ie wdM (HdV vk vn vs)))):=by
 unfold A9 HdV at hc;unfold Ie HdV;simp only at hc ⊢;by_cases h1:vk=1
 ·subst h1;rw[if_neg (by omega),if_pos rfl]at hc;rw[if_pos rfl];simp at hc;rcases hc.1 with rfl|rfl
  ·rw[if_pos rfl];clear hc;go_enter func241,ntmps241;go_wp2;go_ret;exact⟨rfl,(Ac (Ac (Aa _ _) _) _)⟩
  ·rw[if_neg (by omega)];clear hc;go_enter func241,ntmps241;go_wp2;go_ret;exact⟨rfl,(Ac (Ac (Aa _ _) _) _)⟩
 have c1:(vk==1)=false:=by simpa using h1
 rw[if_neg h1];by_cases h2:vk=2
 ·subst h2;rw[if_neg (by omega),if_neg h1,if_pos rfl]at hc;rw[if_pos rfl];simp at hc;have H:=S (fun(W:World)(g:w.grownBy W none)=>strconv_Itoa vn (by omega) (by omega) W (hp.gb g));show Calls _ _ _ _ λe w'=>e= .returned (str (itoa vn))/\_;clear hc hp h1;go_enter func241,ntmps241;go_wp2_with fail;refine(H.1 _ ?gg).mono ?_
  case gg=>exact(Ac (Aa _ _) _)
  rintro e w1 ⟨rfl,k,os,hw1⟩;have g1:=O1 (w.alloc (.cells #[.int .i64 2,.int .i64 vn,str vs] 161 (0,0))) k os;rw[<-hw1]at g1;have HG:=S (Z (gZ w (.cells #[.int .i64 2,.int .i64 vn,str vs] 161 (0,0)) none) g1);clear hw1 g1;go_wp2;go_ret;exact⟨rfl,HG.1⟩
 have c2:(vk==2)=false:=by simpa using h2
 rw[if_neg h2];by_cases h3:vk=3
 ·subst h3;rw[if_neg (by omega),if_neg h1,if_neg h2,if_pos rfl]at hc;rw[if_pos rfl];simp at hc;by_cases hz:vn=0
  ·subst hz;rw[if_pos rfl];clear hc h1 h2;go_enter func241,ntmps241;go_wp2;go_ret;exact⟨rfl,(Ac (Aa _ _) _)⟩
  ·rw[if_neg hz];have hzI:(vn==0)=false:=by simpa using hz
   have H:=S (λW=>Vd vn (by omega) (by omega) W);have hl8:=Nr (n:=vn) (by omega) (by omega);show Calls _ _ _ _ λe w'=>e= .returned (str (IV (Dy vn)))/\_;generalize Dy vn=s at*;match s,hl8 with
   | [a0,a1,a2,a3,a4,a5,a6,a7],_=>
     clear hc hz h1 h2 hp;go_enter func241,ntmps241;go_wp2_with fail;refine mR (H.1 _) λw1 g1=>?_;have HG:=S (Z (gZ w (.cells #[.int .i64 3,.int .i64 vn,str vs] 161 (0,0)) none) g1);clear g1;go_wp2_with fail;go_quiet(fail);go_wp2;go_ret;exact⟨congrArg Ending.returned (C7 (by rfl)),Aj HG.1 _⟩
 have c3:(vk==3)=false:=by simpa using h3
 rw[if_neg h3];by_cases h4:vk=4
 ·subst h4;rw[if_pos rfl];have H:=S (λW=>strings_Contains_one ⟨vs.toArray⟩ 34 W);have hix:=K7 vs 34;have hcl1:¬(9223372036854775807<1+vs.length):=by omega
  have hcl2:¬(9223372036854775807<1+vs.length+1):=by omega
  clear hc h1 h2 h3 hp;cases hb:vs.contains 34
  case' true=>
   rw[if_pos rfl]
  case' false=>
   rw[if_neg (by simp)]
  all_goals
   have HB:=S (hix.trans hb);clear hix hb;go_enter func241,ntmps241;go_wp2_with fail;refine(H.1 _).mono ?_;rintro e w1 ⟨rfl,rfl⟩;rw[HB.1];go_wp2;go_ret;exact⟨congrArg Ending.returned (C7 (by simp[ByteArray.data_append])),(Ac (Aa _ _) _)⟩
 have c4:(vk==4)=false:=by simpa using h4
 rw[if_neg h4];clear hc h1 h2 h3 h4 hp;go_enter func241,ntmps241;go_wp2;go_ret;exact⟨rfl,(Ac (Aa _ _) _)⟩
end
theorem O0{c:UInt8}{x:Bs}:∀{l:List Bs},x∈l->x.length+1<=(l.flatMap (· ++[c])).length
 | y::r,h=>by
   rw[fC,lA]
   rcases List.mem_cons.1 h with rfl|h
   ·simp
   ·have:=O0 (c:=c) h;omega
def WP{c:UInt8}{x:Bs}(h:x∈Lib.split s [c]):x.length<=s.length:=by
 have h1:=O0 (c:=c) h;rw[IJ c s.length s (nR _)]at h1;simp at h1;exact h1
def FE(s:Bs):Bool:= !Ay s
def Ux(s:Bs)(hs:s.length<=4000000)(w:World):Calls Tryz.prog 81 #[str s] w (ρ w (.bool (FE s))):=by
 have HN:=S (Fj s w hs);clear hs;go_enter func81,ntmps81;go_wp2_with fail;refine mR HN.1 λw1 g1=>?_;go_wp2;go_ret;exact⟨rfl,g1⟩
def Hq(l:List Bs)(k:Nat):Bool:=(l.take k).any FE
def P0{l:List Bs}(h:Cells w (.slice a l.length cap) 1 l.length (l.map str) ok)(hl:∀s∈l,s.length<=4000000):
 Calls Tryz.prog 112 #[.slice a l.length cap,.func (.func 81) #[] #[]] w λe w'=>∃i:Int,e= .returned (.int .i64 i)/\decide (0<=i)=l.any FE/\w.grownBy w' none:=by
 have hln:l.length<=9223372036854775807:=by obtain⟨_,_,e,h3,h4,_⟩:=h;cases e;unfold maxLen at h4;omega
 have HC:=S (X h hl);clear h hl;go_enter func112,ntmps112;go_wp2_with fail;go_loopg [5,8] l.length (λg v5 v8 wr=>∃k:Nat,k+g=l.length/\v8= .int .i64 k/\Hq l k=false/\w.grownBy wr none)
 case atStart=>exact⟨0,by omega,rfl,rfl,Aa _ _⟩
 case round=>
  obtain⟨k,hk,rfl,hq,hg⟩:=hrel;cases gk with
  | zero=>
    have hk1:k=l.length:=by omega
    have hj1:decide (k<l.length)=false:=by simp;omega
    subst hk1;have HX:=S (X hg hq);clear hg hq;go_wp2;go_ret;exact⟨-1,rfl,by have h:=HX.1.2;rw[Hq,List.take_length]at h;rw[h];rfl,HX.1.1⟩
  | succ gk=>
    have hkl:k<l.length:=by omega
    have hj1:decide (k<l.length)=true:=by simpa using hkl
    obtain⟨c,hc⟩:∃c,l[k]? =some c:=⟨_,B4 hkl⟩;obtain⟨g,o,rfl,c0⟩:=(Cells.at1 HC.1.1).2 k hkl;have hcd:l.getD k []=c:=by rw[List.getD_eq_getElem?_getD,hc];rfl
    rw[hcd]at c0;have d0:=Ae hg c0;have HX:=S (X hg (X hq hc));have HK:=S (λW=>Ux c (HC.1.2 c (List.mem_of_getElem? hc)) W);clear hg hq hc c0 hcd;go_wp2_with fail;refine mR (HK.1 _) λw2 g2=>?_;have H2:=S (Z HX.1.1 g2);clear g2;cases hlc:FE c with
    | true=>
      have HT:=S (show l.any FE=true from List.any_eq_true.2 ⟨c,List.mem_of_getElem? HX.1.2.2,hlc⟩);go_wp2;go_ret;exact⟨_,rfl,by rw[HT.1];simp,H2.1⟩
    | false=>
      have HT:=S (show Hq l (k+1)=false by
       rw[Hq,List.take_add_one,HX.1.2.2,List.any_append];have h:=HX.1.2.1;rw[Hq]at h;rw[h];simp[hlc])
      go_wp2;go_roundg gk
      case measure=>omega
      case rel=>exact⟨k+1,by omega,by go_num,HT.1,H2.1⟩
def OX{l:List Bs}(h:Cells w (.slice a l.length cap) 1 l.length (l.map str) ok)(hl:∀s∈l,s.length<=4000000):
 Calls Tryz.prog 80 #[.slice a l.length cap,.func (.func 81) #[] #[]] w (ρ w (.bool (l.any FE))):=by
 have HI:=S (P0 h hl);clear h hl;go_enter func80,ntmps80;go_wp2_with fail;refine HI.1.mono ?_;rintro e w1 ⟨i,rfl,hi,g1⟩;go_wp2;go_ret;exact⟨rfl,g1⟩
def Dc(s:Bs):List Bs:=Lib.splitK [32] 0 (min 4 (s.length+1)-1) s
def TK(c:List UInt8)(k:Nat):∀s:Bs,(Lib.splitK c 0 k s).length<=k+1:=by
 induction k with
 |zero=>intro s;simp[Lib.splitK]
 | succ k ih=>
   intro s;rw[Lib.splitK];split
   ·simp
   ·have:=ih (s.drop ((Lib.index s c).toNat+c.length));simp;omega
def YX{a b c:Bs}{r:Bs}(ha:(32:UInt8) ∉ a)(hb:(32:UInt8) ∉ b)(hc:(32:UInt8) ∉ c):Dc (a++32::(b++32::(c++32::r)))=[a,b,c,r]:=by
 unfold Dc;rw[show min 4 ((a++32::(b++32::(c++32::r))).length+1)-1=3 by simp;omega,II _ _ _ _ ha,II _ _ _ _ hb,II _ _ _ _ hc];rfl
def Kp(n:Int):(32:UInt8) ∉ itoa n:=by
 intro h;have:=DX n;rw[List.all_eq_true]at this;exact absurd (this _ h) (by decide)
def MP{d:Cd}(h:s++[10]=AO d):Dc s=[itoa d.op,itoa d.a,itoa d.b,qtM d.s]:=by
 have:s=itoa d.op++32::(itoa d.a++32::(itoa d.b++32::qtM d.s)):=by
  refine List.append_cancel_right (bs:=[10]) ?_;rw[h,AO];simp
 rw[this];exact YX (Kp _) (Kp _) (Kp _)
def I7{l:Bs}(h:l∈Dc s):l.length<=s.length:=by
 have:∀(k:Nat)(s l:Bs),l∈Lib.splitK [32] 0 k s->l.length<=s.length:=by
  intro k;induction k with
  |zero=>intro s l h;simp[Lib.splitK]at h;subst h;exact nR _
  | succ k ih=>
    intro s l h;rw[Lib.splitK]at h;split at h
    ·simp at h;subst h;exact nR _
    ·rcases List.mem_cons.1 h with h|h
     ·subst h;simp;omega
     ·have:=ih _ _ h;simp at this;omega
 exact this _ _ _ h
def TL(s:Bs)(hs:s.length<=1048576)(hm:Mx w):
 Calls Tryz.prog 74 #[str s,str [32],.int .i64 4] w λe w'=>∃(cs:List Value)(cap:Nat),e= .returned (.slice (some ⟨w.heap.size,0,none⟩) (Dc s).length cap)/\w'=w.alloc (.cells cs.toArray 9 (0,0))/\∀(j:Nat)(p:Bs),(Dc s)[j]? =some p->cs[j]? =some (str p):=by
 obtain⟨m,hm⟩:=hm;have hz:(⟨s.toArray⟩:ByteArray).size=s.length:=by simp[ByteArray.size]
 refine(strings_SplitN ⟨s.toArray⟩ ⟨#[32]⟩ 4 m w (by rw[hz];omega) hm (by simp[ByteArray.size]) (by decide) (by decide)).mono ?_;rintro e w' ⟨rfl,rfl⟩;have h1:=Lib.splitB_data ⟨#[32]⟩ 0 (min 4 (s.length+1)-1) ⟨s.toArray⟩;rw[hz];have h2:(Lib.splitB ⟨#[32]⟩ 0 (min 4 (s.length+1)-1) ⟨s.toArray⟩).length=(Dc s).length:=by
  have:=congrArg List.length h1;simpa[Dc]using this
 refine⟨_,_,by rw[h2],rfl,λj p hj=>?_⟩;have h3:(Lib.splitB ⟨#[32]⟩ 0 (min 4 (s.length+1)-1) ⟨s.toArray⟩).map (·.data.toList)=Dc s:=by
  rw[h1];rfl
 rw[<-h3,List.getElem?_map]at hj;obtain⟨b,hb,rfl⟩:=Option.map_eq_some_iff.1 hj;have hlt:j<((Lib.splitB ⟨#[32]⟩ 0 (min 4 (s.length+1)-1) ⟨s.toArray⟩).map Value.string).length:=by
  rw[List.length_map];exact(List.getElem?_eq_some_iff.1 hb).1
 rw[List.getElem?_append_left hlt,List.getElem?_map,hb];simp[str]
def LR{fn:Func}{p q:Tmp}(h:fn.results=#[.cell p 61,.tmp q])(tmps:Array Value){r:Bool}(hb:Blk w k [a0,a1,a2,a3] 61)
 (hp:tmps.getD p undef= .pointer (some ⟨k,0,none⟩)) (hq:tmps.getD q undef= .bool r):(results fn tmps).run Tryz.prog w= .ok (.tuple #[.agg #[a0,a1,a2,a3],.bool r]) w:=by
 have c0:=hb.cell' 0 rfl;have c1:=hb.cell' 1 rfl;have c2:=hb.cell' 2 rfl;have c3:=hb.cell' 3 rfl;have hp':tmps[p]?.getD undef= .pointer (some ⟨k,0,none⟩):=by simpa using hp
 have hq':tmps[q]?.getD undef= .bool r:=by simpa using hq
 simp[results,h,hp',hq',go_sem,c0,c1,c2,c3]
def RdP(w:World)(s:Bs)(e:Ending)(w':World):Prop:=∃c b,e= .returned (.tuple #[.agg #[.int .i64 c.op,.int .i64 c.a,.int .i64 c.b,str c.s],.bool b])/\w.grownBy w' none/\c.s.length<=s.length/\(b=true->CQ c)/\(∀d,CQ d->s++[10]=AO d->b=true/\c=d)
def RdF(s:Bs)(c0 c1 c2 c3:Bool)(c:Cd):Prop:=(∀d,CQ d->s++[10]=AO d->(c0=true/\c1=true/\c2=true/\c3=true)/\c=d)/\(c0=true->c1=true->c2=true->CQ c)
def Blk.set4C(h:Blk w k [a0,a1,a2,a3] t)(v0 v1 v2 v3:Value):Blk ((((w.setCell ⟨k,0,none⟩ v0).setCell ⟨k,1,none⟩ v1).setCell ⟨k,2,none⟩ v2).setCell ⟨k,3,none⟩ v3) k [v0,v1,v2,v3] t:=
 ((((h.set 0 v0).set 1 v1).set 2 v2).set 3 v3).of_eq rfl rfl
def Qk(s:Bs)(hs:s.length<=1048576)(hp:Pow w)(he:Errs w)(hm:Mx w):
 Calls Tryz.prog 44 #[str s] w λe w'=>RdP w s e w':=by
 have HF:=S (X hp (X he hm));have hA:=gZ w (.cells [.int .i64 0,.int .i64 0,.int .i64 0,str []].toArray 61 (0,0)) none;have hR0:=Blk.new w [.int .i64 0,.int .i64 0,.int .i64 0,str []] 61;have HA:=S (X hR0 hA);clear hp he hm hA hR0;go_enter func44,ntmps44;go_upto_region 1 with fail;have e0:w.alloc (.cells [.int .i64 0,.int .i64 0,.int .i64 0,str []].toArray 61 (0,0))=w.alloc (.cells #[.int .i64 0,.int .i64 0,.int .i64 0,.string ⟨#[]⟩] 61 (0,0)):=rfl;rw[e0]at HA;clear e0;generalize w.alloc (.cells #[.int .i64 0,.int .i64 0,.int .i64 0,.string ⟨#[]⟩] 61 (0,0))=W1 at*;have HSp:=S (TL s hs (HF.1.2.2.gb HA.1.2));have hlt1:=HA.1.1.lt;go_wp2_with fail;refine HSp.1.mono ?_;rintro e w2 ⟨cs,cap,rfl,rfl,hcs⟩;have gP:=gZ W1 (.cells cs.toArray 9 (0,0)) none;have hR2:=HA.1.1.gb gP (by simp);have hPb:=Blk.new W1 cs 9;have hG2:=Z HA.1.2 gP;clear gP;generalize W1.alloc (.cells cs.toArray 9 (0,0))=W2 at*;generalize W1.heap.size=P at*;have hcl:(Dc s).length<=4:=nT (TK _ _ _) (by omega);by_cases hf:(Dc s).length<4
 ·have hj1:decide (((Dc s).length:Int)<4)=true:=by simp;omega
  have HN:=S (show ∀d,CQ d->s++[10]=AO d->False from λd _ h=>by rw[MP h]at hf;simp at hf);have b0:=hR2.cell' 0 rfl;have b1:=hR2.cell' 1 rfl;have b2:=hR2.cell' 2 rfl;have b3:=hR2.cell' 3 rfl;have f0:=hR2.frozen 0;have f1:=hR2.frozen 1;have f2:=hR2.frozen 2;have f3:=hR2.frozen 3;have hlt2:=hR2.lt;have HB:=S (X hR2 hG2);clear hf hcs hR2 hG2 hPb;go_wp2
  (try simp only[Exit.inBlock,Exit.then]);refine bZ (LR rfl _ (HB.1.1.set4C (.int .i64 0) (.int .i64 0) (.int .i64 0) (str [])) rfl rfl) rfl ?_;exact⟨⟨0,0,0,[]⟩,false,rfl,Af (Af (Af (Af HB.1.2 _ _ (.inr (nR _))) _ _ (.inr (nR _))) _ _ (.inr (nR _))) _ _ (.inr (nR _)),nZ _,(λe=>by cases e),λd hw h=>(HN.1 d hw h).elim⟩
 ·obtain ⟨p0, p1, p2, p3, hP4⟩ : ∃ p0 p1 p2 p3, Dc s = [p0, p1, p2, p3] := by
   cases h:Dc s with
   |nil=>rw[h]at hf;simp at hf
   | cons a l=>
     cases l with
     |nil=>rw[h]at hf;simp at hf
     | cons b l=>
       cases l with
       |nil=>rw[h]at hf;simp at hf
       | cons c l=>
         cases l with
         |nil=>rw[h]at hf;simp at hf
         | cons d l=>
           cases l with
           |nil=>exact⟨a,b,c,d,rfl⟩
           |cons e l=>rw[h]at hcl;simp at hcl
  have hs0:p0.length<=s.length:=I7 (by rw[hP4];simp);have hs1:p1.length<=s.length:=I7 (by rw[hP4];simp);have hs2:p2.length<=s.length:=I7 (by rw[hP4];simp);have hs3:p3.length<=s.length:=I7 (by rw[hP4];simp);have q0:=hPb.cell' 0 (hcs 0 p0 (by rw[hP4];rfl));have HQ:=S (X (hPb.cell' 1 (hcs 1 p1 (by rw[hP4];rfl))) (X (hPb.cell' 2 (hcs 2 p2 (by rw[hP4];rfl))) (hPb.cell' 3 (hcs 3 p3 (by rw[hP4];rfl)))));have HD:=S (show ∀d,CQ d->s++[10]=AO d->p0=itoa d.op/\p1=itoa d.a/\p2=itoa d.b/\p3=qtM d.s from λd _ h=>by
   have h1:=MP h;rw[hP4]at h1;simpa using h1)
  have HB:=S (X hR2 hG2);have hlen:(Dc s).length=4:=by rw[hP4];rfl
  rw[hlen];clear hf hcs hPb hP4 hcl hR2 hG2;go_wp2_with fail;refine(Hi p0 (by omega) (HF.1.1.gb HB.1.2) (HF.1.2.1.gbN HB.1.2)).mono ?_;rintro e w3 ⟨n0,c0,rfl,x0,y0,g3⟩;have q1:=Ae g3 HQ.1.1;have H3:=S (X g3 (X (Z HB.1.2 g3) (X x0 y0)));clear g3 x0 y0 q0;go_wp2_with fail;refine(Hi p1 (by omega) (HF.1.1.gb H3.1.2.1) (HF.1.2.1.gbN H3.1.2.1)).mono ?_;rintro e w4 ⟨n1,c1,rfl,x1,y1,g4⟩;have q2:=Ae (Z H3.1.1 g4) HQ.1.2.1;have H4:=S (X (Z H3.1.1 g4) (X (Z H3.1.2.1 g4) (X x1 y1)));clear g4 x1 y1 q1;go_wp2_with fail;refine(Hi p2 (by omega) (HF.1.1.gb H4.1.2.1) (HF.1.2.1.gbN H4.1.2.1)).mono ?_;rintro e w5 ⟨n2,c2,rfl,x2,y2,g5⟩;have q3:=Ae (Z H4.1.1 g5) HQ.1.2.2;have H5:=S (X (Z H4.1.1 g5) (X (Z H4.1.2.1 g5) (X x2 y2)));clear g5 x2 y2 q2;go_wp2_with fail;refine(OA p3 (by omega) (HF.1.2.1.gbN H5.1.2.1)).mono ?_;rintro e w6 ⟨t,c3,rfl,g6,htl,y3⟩;have hR6:=HB.1.1.gb (Z H5.1.1 g6) (by simp);have b0:=hR6.cell' 0 rfl;have b1:=hR6.cell' 1 rfl;have b2:=hR6.cell' 2 rfl;have b3:=hR6.cell' 3 rfl;have f0:=hR6.frozen 0;have f1:=hR6.frozen 1;have f2:=hR6.frozen 2;have f3:=hR6.frozen 3;have hlt6:=hR6.lt;have HE:=S (X hR6 (Z H5.1.2.1 g6));have HFu:=S (show RdF s c0 c1 c2 c3 ⟨n0,n1,n2,t⟩from⟨λd hw h=>by
   obtain⟨e0,e1,e2,e3⟩:=HD.1 d hw h;obtain⟨a0,a1⟩:=H3.1.2.2.2 d.op hw.1 e0;obtain⟨a2,a3⟩:=H4.1.2.2.2 d.a hw.2.1 e1;obtain⟨a4,a5⟩:=H5.1.2.2.2 d.b hw.2.2 e2;obtain⟨a6,a7⟩:=y3 d.s e3;exact⟨⟨a0,a2,a4,a6⟩,by rw[a1,a3,a5,a7]⟩,λe0 e1 e2=>⟨(H3.1.2.2.1 e0).2,(H4.1.2.2.1 e1).2,(H5.1.2.2.1 e2).2⟩⟩)
  clear hR6 g6 y3 q3 H3 H4 H5;have hb:c0=false\/(c0=true/\c1=false)\/(c0=true/\c1=true/\c2=false)\/(c0=true/\c1=true/\c2=true):=by
   cases c0<;>cases c1<;>cases c2<;>simp
  rcases hb with rfl| ⟨rfl,rfl⟩| ⟨rfl,rfl,rfl⟩| ⟨rfl,rfl,rfl⟩
  all_goals
   go_wp2
   (try simp only[Exit.inBlock,Exit.then]);refine bZ (LR rfl _ (HE.1.1.set4C (.int .i64 n0) (.int .i64 n1) (.int .i64 n2) (str t)) rfl rfl) rfl ?_;refine⟨⟨n0,n1,n2,t⟩,_,rfl,Af (Af (Af (Af HE.1.2 _ _ (.inr (nR _))) _ _ (.inr (nR _))) _ _ (.inr (nR _))) _ _ (.inr (nR _)),nT htl hs3,λe=>?_,λd hw h=>?_⟩
   ·first|exact HFu.1.2 rfl rfl rfl|cases e
   ·obtain⟨h1,h2⟩:=HFu.1.1 d hw h;refine⟨?_,h2⟩;first| (have h3:=h1.1;cases h3;done)| (have h3:=h1.2.1;cases h3;done)| (have h3:=h1.2.2.1;cases h3;done)|exact h1.2.2.2
def Dz(v:Un):Bs:=[117,110,105,116,32]++(qtM v.name++v.row.flatMap A3)
def EA(c:Cd):Bs:=itoa c.op++32::(itoa c.a++32::(itoa c.b++32::qtM c.s))
def Mq(c:Cd):EA c++[10]=AO c:=by simp[EA,AO]
def Bz(vs:List Un):List Bs:=vs.flatMap λv=>Dz v::v.code.map EA
def TV(v:Un):BM v=(Dz v::v.code.map EA).flatMap (· ++[10]):=by
 have h:∀l:List Cd,(l.map EA).flatMap (· ++[10])=l.flatMap AO:=by
  intro l;induction l with
  |nil=>rfl
  |cons c l ih=>rw[List.map_cons,fC,fC,ih,Mq]
 rw[GZ,fC,h,Dz,CR];simp
def IA(vs:List Un):AG vs=(Bz vs).flatMap (· ++[10]):=by
 rw[Fi];induction vs with
 |nil=>rfl
 |cons v vs ih=>rw[fC,ih,Bz,Bz,fC,List.flatMap_append,TV]
def O4(m:Bs):(10:UInt8) ∉ qtM m:=by
 intro h;rw[Du]at h;simp only[List.mem_cons,List.mem_append,List.mem_flatMap,List.not_mem_nil,or_false]at h;rcases h with h| ⟨b,_,h⟩|h
 ·exact absurd h (by decide)
 ·exact absurd (Kz h).1 (by decide)
 ·exact absurd h (by decide)
def IS(n:Int):(10:UInt8) ∉ itoa n:=by
 intro h;have:=DX n;rw[List.all_eq_true]at this;exact absurd (this _ h) (by decide)
def Tp(vs:List Un):∀l∈Bz vs,(10:UInt8) ∉ l:=by
 intro l hl;obtain⟨v,_,hv⟩:=List.mem_flatMap.1 hl;rcases List.mem_cons.1 hv with rfl|hv
 ·intro h;rw[Dz]at h;rcases List.mem_append.1 h with h|h
  ·exact absurd h (by decide)
  ·rcases List.mem_append.1 h with h|h
   ·exact O4 _ h
   ·obtain⟨n,_,hn⟩:=List.mem_flatMap.1 h;rw[A3]at hn;rcases List.mem_cons.1 hn with h|h
    ·exact absurd h (by decide)
    ·exact IS _ h
 ·obtain⟨c,_,rfl⟩:=List.mem_map.1 hv;intro h;simp only[EA,List.mem_append,List.mem_cons]at h;rcases h with h|h|h|h|h|h|h
  ·exact IS _ h
  ·exact absurd h (by decide)
  ·exact IS _ h
  ·exact absurd h (by decide)
  ·exact IS _ h
  ·exact absurd h (by decide)
  ·exact O4 _ h
def NJ(h0:vs≠[])(h:s++[10]=AG vs):Lib.split s [10]=Bz vs:=by
 refine R0 10 _ s ?_ (Tp vs) (by rw[h,IA]);cases vs with
 |nil=>exact absurd rfl h0
 |cons v vs=>simp[Bz]
def Do(l:Bs):Bool:=Lib.hasPrefix l [117,110,105,116,32]
def T2(c:Cd):Do (EA c)=false:=by
 have h1:=DX c.op;cases hi:itoa c.op with
 |nil=>exact absurd hi (Jm _)
 | cons y z=>
   rw[hi]at h1;simp only[List.all_cons,Bool.and_eq_true]at h1;have hy:y≠117:=by intro e;rw[e]at h1;exact absurd h1.1 (by decide)
   rw[Do,EA,hi,Lib.hasPrefix];simp[List.isPrefixOf,Ne.symm hy]
def X1{l:Bs}(h:Do l=true):l=[117,110,105,116,32]++Lib.trimPrefix l [117,110,105,116,32]:=by
 unfold Do at h;have h2:[117,110,105,116,32].isPrefixOf l=true:=h;obtain⟨r,hr⟩:=List.isPrefixOf_iff_prefix.1 h2;rw[Lib.trimPrefix,if_pos h,<-hr];simp
def MY(v:Un):Do (Dz v)=true:=by
 unfold Do;show [117,110,105,116,32].isPrefixOf (Dz v)=true;rw[List.isPrefixOf_iff_prefix];exact⟨_,rfl⟩
def Nw(hw:WideUs vs){l:Bs}(h:l∈Bz vs):(∃v,Dn v/\l=Dz v)\/∃c,CQ c/\l=EA c:=by
 obtain⟨v,hv,h⟩:=List.mem_flatMap.1 h;rcases List.mem_cons.1 h with rfl|h
 ·exact .inl ⟨v,hw v hv,rfl⟩
 ·obtain⟨c,hc,rfl⟩:=List.mem_map.1 h;exact .inr ⟨c,(hw v hv).2 c hc,rfl⟩
def RdI(L:List Bs)(us:List Un)(k:Nat):Prop:=∀vs,WideUs vs->L=Bz vs->Bz us=L.take k
def RdI.init(L:List Bs):RdI L [] 0:=λ_ _ _=>rfl
def Km(hk:k<L.length):L.take (k+1)=L.take k++[L[k]]:=by
 rw[List.take_add_one,List.getElem?_eq_getElem hk];rfl
def JR(us vs:List Un):Bz (us++vs)=Bz us++Bz vs:=by simp[Bz]
def RdI.unit(h:RdI L us k)(hk:k<L.length)(hh:Do L[k]=true){nm:Bs}{l:List Int}{b:Bool}(hu:∀u,Dn u->Lib.trimPrefix L[k] [117,110,105,116,32]=qtM u.name++u.row.flatMap A3->b=true/\nm=u.name/\l=u.row):
 RdI L (us++[⟨nm,l,[]⟩]) (k+1)/\(b=false->∀vs,WideUs vs->L≠Bz vs):=by
 have key:∀vs,WideUs vs->L=Bz vs->b=true/\L[k]=Dz ⟨nm,l,[]⟩:=by
  intro vs hw he;have hm:L[k]∈Bz vs:=by rw[<-he];exact List.getElem_mem hk
  rcases Nw hw hm with⟨v,hv,e⟩| ⟨c,_,e⟩
  ·have h1:=X1 hh;rw[e]at h1;have h2:Lib.trimPrefix L[k] [117,110,105,116,32]=qtM v.name++v.row.flatMap A3:=by
    rw[e];exact(List.append_cancel_left (show [117,110,105,116,32]++(qtM v.name++v.row.flatMap A3)=[117,110,105,116,32]++Lib.trimPrefix (Dz v) [117,110,105,116,32]from h1)).symm
   obtain⟨h3,h4,h5⟩:=hu v hv h2;refine⟨h3,?_⟩;rw[e,Dz,Dz,h4,h5]
  ·rw[e,T2]at hh;cases hh
 refine⟨λvs hw he=>?_,λhb vs hw he=>?_⟩
 ·rw[JR,h vs hw he,Km hk,(key vs hw he).2];rfl
 ·have:=(key vs hw he).1;rw[hb]at this;cases this
def RdI.code(h:RdI L us k)(hk:k<L.length)(hh:Do L[k]=false){c:Cd}{b:Bool}(hu:∀d,CQ d->L[k]++[10]=AO d->b=true/\c=d):
 (∀init u,us=init++[u]->RdI L (init++[⟨u.name,u.row,u.code++[c]⟩]) (k+1))/\(b=false\/us=[]->∀vs,WideUs vs->L≠Bz vs):=by
 have key:∀vs,WideUs vs->L=Bz vs->b=true/\L[k]=EA c:=by
  intro vs hw he;have hm:L[k]∈Bz vs:=by rw[<-he];exact List.getElem_mem hk
  rcases Nw hw hm with⟨v,hv,e⟩| ⟨d,hd,e⟩
  ·rw[e,MY]at hh;cases hh
  ·obtain⟨h3,h4⟩:=hu d hd (by rw[e,Mq]);exact⟨h3,by rw[h4];exact e⟩
 refine⟨λinit u e vs hw he=>?_,λhb vs hw he=>?_⟩
 ·have h1:=h vs hw he;rw[Km hk,<-h1,e,JR,JR,(key vs hw he).2];simp[Bz,Dz]
 ·rcases hb with hb|rfl
  ·have:=(key vs hw he).1;rw[hb]at this;cases this
  ·have h1:=h vs hw he;have hk0:k=0:=by
    have:=congrArg List.length h1;simp[Bz]at this;omega
   subst hk0;cases vs with
   |nil=>rw[he]at hk;simp[Bz]at hk
   | cons v vs=>
     have:L[0]=Dz v:=by simp[he,Bz]
     rw[this,MY]at hh;cases hh
def Ug(h:Bz us=Bz vs):us=vs:=by
 have h1:Bx us 0=Bx vs 0:=by rw[Gb,Gb,IA,IA,h]
 exact(KF h1).1
def Y1(f:α->Nat)(l m:List α):∀k,k<=l.length->pfx f (l++m) k=pfx f l k:=by
 intro k;induction k with
 |zero=>intro _;rfl
 | succ k ih=>
   intro hk;rw[pfx,pfx,ih (by omega),List.getElem?_append_left (by omega)]
def Oi(f:α->Nat)(l:List α)(x:α):pfx f (l++[x]) (l++[x]).length=pfx f l l.length+f x:=by
 rw[lA,List.length_singleton,pfx,Y1 f l [x] _ (nR _),List.getElem?_append_right (nR _),Nat.sub_self];rfl
def Jy(us:List Un)(u:Un):Bq (us++[u])=Bq us+1+wtU u:=by
 unfold Bq;rw[Oi,lA,List.length_singleton];omega
def ZH(us:List Un)(nm:Bs)(l:List Int):Bq (us++[⟨nm,l,[]⟩])=Bq us+1+(nm.length+l.length):=by
 rw[Jy];rfl
def ZP(us:List Un)(u:Un)(c:Cd):Bq (us++[⟨u.name,u.row,u.code++[c]⟩])=Bq (us++[u])+(3+c.s.length):=by
 rw[Jy,Jy];unfold wtU;rw[Oi];simp only[wtC];omega
def DO(L:List Bs):Nat:=(L.flatMap (· ++[(10:UInt8)])).length
def Sy(hk:k<L.length):DO (L.take (k+1))=DO (L.take k)+(L[k].length+1):=by
 rw[Km hk,DO,List.flatMap_append,lA];simp[DO]
def Od(L:List Bs)(k:Nat):DO (L.take k)<=DO L:=by
 have:L=L.take k++L.drop k:=(List.take_append_drop k L).symm;conv=>rhs;rw[this]
 rw[DO,DO,List.flatMap_append,lA];omega
def RF(s:Bs):DO (Lib.split s [10])=s.length+1:=by
 rw[DO,IJ 10 _ s (nR _)];simp
def okP(B M:Nat)(v:Value):Nat->Prop:=λk=>B<=k/\v.ownBlock≠some k/\k<M
structure OwnL(w:World)(B M:Nat)(v:Value)(init:List Un)(u:Un)(cs:List Value)(rv cv:Value):Prop where
 row:w.ownsRow B 58 3 v (init.length+1) (cs++[str u.name,rv,cv])
 rep:RepU (okP B M v) w init cs
 num:Cells w rv 1 u.row.length (Be u.row) (okP B M v)
 cod:w.ownsRow M 61 4 cv u.code.length (AC u.code)
 le:B<=M
 ml:M<=w.heap.size
def OwnPr(w:World)(B:Nat)(v:Value)(us:List Un):Prop:=(us=[]/\v= .slice none 0 0)\/∃init u cs rv cv M,us=init++[u]/\OwnL w B M v init u cs rv cv
def Hr{B1 B2 k1 k2 n1 n2:Nat}{t1 t2:TypeId}{v1 v2:Value}{xs1 xs2:List Value}(h1:w.ownsRow B1 t1 k1 v1 n1 xs1)(h2:w.ownsRow B2 t2 k2 v2 n2 xs2)(ht:t1≠t2):∀q,v2.ownBlock=some q->v1.ownBlock≠some q:=by
 intro q e;rcases h2.2 with⟨rfl,_⟩| ⟨g,cap,cur,rfl,_,hq,_⟩
 ·simp[Value.ownBlock]at e
 ·simp only[Value.ownBlock,Option.some.injEq]at e;subst e;exact Jq h1 hq ht
def SD{xs:List Value}(h:w.ownsRow B t k v n xs):Cells w v k n xs (λq=>v.ownBlock=some q/\B<=q):=by
 obtain⟨a,cap,e,h1,h2,h3,h4⟩:=C0 h;refine⟨a,cap,e,h1,h2,h3,λj u hj=>?_⟩;obtain⟨g,o,ea,hok,c⟩:=h4 j u hj;exact⟨g,o,ea,⟨by rw[e,ea];rfl,hok⟩,c⟩
def OwnL.gbN{init:List Un}(h:OwnL w B M v init u cs rv cv)(g:w.grownBy w1 none):OwnL w1 B M v init u cs rv cv:=
 ⟨BG h.row g (by simp),h.rep.gb g (by simp),h.num.gb g (by simp),BG h.cod g (by simp),h.le,nT h.ml g.size⟩
def OwnPr.gbN(h:OwnPr w B v us)(g:w.grownBy w1 none):OwnPr w1 B v us:=by
 rcases h with h| ⟨init,u,cs,rv,cv,M,e,h⟩
 ·exact .inl h
 ·exact .inr ⟨init,u,cs,rv,cv,M,e,h.gbN g⟩
def OwnPr.all(h:OwnPr w B v us):∃cs,w.ownsRow B 58 3 v us.length cs/\RepU (okP B w.heap.size v) w us cs:=by
 rcases h with⟨rfl,rfl⟩| ⟨init,u,cs,rv,cv,M,rfl,h⟩
 ·exact⟨[],D7 _ _ _ _,rfl⟩
 ·refine⟨_,by rw[lA];exact h.row,?_⟩;refine(h.rep.mono λk hk hl=>⟨hk.1,hk.2.1,hl⟩).app (RepU.one (h.num.mono λk hk hl=>⟨hk.1,hk.2.1,hl⟩) ((SD h.cod).mono λk hk hl=>⟨nT h.le hk.2,Hr h.row h.cod (by decide) k hk.1,hl⟩))
def OwnPr.vu(h:OwnPr w B v us):VU (An B) w v us:=by
 obtain⟨cs,h1,h2⟩:=h.all;exact⟨cs,C0 h1,h2.mono λk hk _=>hk.1⟩
def OwnPr.unit{Bu:Nat}{v':Value}(h1:w.ownsRow B 58 3 v us.length cs)(h2:RepU (okP B w.heap.size v) w us cs)(hr:w.ownsRow Bu 3 1 rv u.row.length (Be u.row))(hc:u.code=[])(hB:B<=Bu)(hv:∀q,v.ownBlock=some q->q<Bu)
 (ho:w1.ownsRow B 58 3 v' (us.length+1) (cs++[str u.name,rv,.slice none 0 0])) (hg:w.grownBy w1 v.ownBlock) (hnew:∀k,v'.ownBlock=some k->v.ownBlock=some k\/w.heap.size<=k) (hs:B<=w.heap.size):OwnPr w1 B v' (us++[u]):=by
 refine .inr ⟨us,u,cs,rv,.slice none 0 0,w.heap.size,rfl,ho,?_,?_,by rw[hc];exact D7 _ _ _ _,hs,hg.size⟩
 ·refine(h2.gb hg λk hk _ e=>hk.2.1 e.symm).mono λk hk _=>⟨hk.1,λe=>?_,hk.2.2⟩;rcases hnew k e with h|h
  ·exact hk.2.1 h
  ·have:=hk.2.2;omega
 ·have h3:=((C0 hr).mono (ok':=λk=>Bu<=k/\k<w.heap.size) (λk hk hl=>⟨hk,hl⟩)).gb hg (λk hk _ e=>by have:=hv k e.symm;omega);exact h3.mono λk hk _=>⟨nT hB hk.1,λe=>by
   rcases hnew k e with h|h
   ·have:=hv k h;omega
   ·omega,hk.2⟩
def OwnL.code{g:Nat}{cv':Value}{init:List Un}{c:Cd}(h:OwnL w B M (.slice (some ⟨g,0,none⟩) (init.length+1) cap) init u cs rv cv)
 (ho:w1.ownsRow M 61 4 cv' (u.code.length+1) (AC u.code++cdC c)) (hg:w.grownBy w1 cv.ownBlock):
 OwnPr (w1.setCell ⟨g,init.length*3+2,none⟩ cv') B (.slice (some ⟨g,0,none⟩) (init.length+1) cap) (init++[⟨u.name,u.row,u.code++[c]⟩]):=by
 have hcs:cs.length=init.length*3:=by
  have:=h.row.1;simp at this;omega
 have hM:∀q,cv.ownBlock=some q->M<=q:=Fv h.cod;have h1:=BG h.row hg (Hr h.row h.cod (by decide));have h2:=h1.stored (init.length*3+2) cv';rw[show(cs++[str u.name,rv,cv]).set (init.length*3+2) cv'=cs++[str u.name,rv,cv']by
  rw[List.set_append_right _ _ (by omega),hcs,show init.length*3+2-init.length*3=2 by omega];rfl]at h2
 have gS:=Ai (Aa w1 (some g)) (init.length*3+2) cv';refine .inr ⟨init,_,cs,rv,cv',M,rfl,h2.1,?_,?_,?_,h.le,nT (nT h.ml hg.size) gS.size⟩
 ·refine(h.rep.gb hg λk hk _ e=>?_).gb gS λk hk _ e=>?_
  ·have:=hM k e.symm;have:=hk.2.2;omega
  ·exact hk.2.1 e.symm
 ·refine(h.num.gb hg λk hk _ e=>?_).gb gS λk hk _ e=>?_
  ·have:=hM k e.symm;have:=hk.2.2;omega
  ·exact hk.2.1 e.symm
 ·have h3 : w1.ownsRow M 61 4 cv' (u.code ++ [c]).length (AC (u.code ++ [c])) := by
   rw[lA,Mh,show AC [c]=cdC c by simp[AC]];exact ho
  refine BG h3 gS λq e=>?_;have e:=Option.some.inj e;subst e;exact Hr h3 h1 (by decide) g rfl
def RrP(w:World)(s:Bs)(e:Ending)(w':World):Prop:=∃us v b,e= .returned (.tuple #[v,.bool b])/\w.grownBy w' none/\(b=false->v= .slice none 0 0)/\(b=true->VU (An w.heap.size) w' v us/\WideUs us/\Bq us<=3*(s.length+1))/\(∀vs,vs≠[]->WideUs vs->s++[10]=AG vs->b=true/\us=vs)
def RrP.no{w':World}(hL:L=Lib.split s [10])(g:w.grownBy w' none)(h:∀vs,WideUs vs->L≠Bz vs):RrP w s (.returned (.tuple #[.slice none 0 0,.bool false])) w':=
 ⟨[],_,false,rfl,g,λ_=>rfl,(λe=>by cases e),λvs h0 hw he=>absurd (hL.trans (NJ h0 he)) (h vs hw)⟩
def Wn(p:Bs):Lib.hasPrefix (⟨p.toArray⟩:ByteArray).data.toList (⟨#[117,110,105,116,32]⟩:ByteArray).data.toList=Do p:=by simp[Do]
def YQ(p:Bs)(w:World):Calls Tryz.prog 42 #[str p,.string ⟨#[117,110,105,116,32]⟩] w λe w'=>e= .returned (.tuple #[str (Lib.trimPrefix p [117,110,105,116,32]),.bool (Do p)])/\w=w':=by
 refine(strings_CutPrefix ⟨p.toArray⟩ ⟨#[117,110,105,116,32]⟩ w).mono ?_;rintro e w' ⟨rfl,rfl⟩;exact⟨by rw[Wn],rfl⟩
def Ot(n:Nat):n*3+2<(n+1)*3:=by omega
def aB{a b c:Value}(h:(cs++[a,b,c]).length=(n+1)*3):cs.length=n*3:=by
 simp at h;omega
def Wl{a b c:Value}(h:cs.length=n*3):(cs++[a,b,c])[n*3+2]? =some c:=by
 rw[List.getElem?_append_right (by omega),h,show n*3+2-n*3=2 by omega];rfl
def VY(h:n<=3*(200000+1)):n+1<=maxLen:=by unfold maxLen;omega
def VW(h:n<=3*(200000+1)):(n+1)*40<=140737488355328:=by omega
def Zr(n:Nat):((n:Int)+1==0)=false:=by simp;omega
def Wz{c:Cd}(h:WideUs (us++[u]))(hc:CQ c):WideUs (us++[⟨u.name,u.row,u.code++[c]⟩]):=by
 intro x hx;rcases List.mem_append.1 hx with h1|h1
 ·exact h x (List.mem_append_left _ h1)
 ·simp at h1;subst h1;have hu:=h u (by simp);refine⟨hu.1,λd hd=>?_⟩;rcases List.mem_append.1 hd with h2|h2
  ·exact hu.2 d h2
  ·simp at h2;subst h2;exact hc
def ZQ{c:Cd}{a:Nat}(h1:b=a+(n+1))(h2:Bq (us++[u])<=3*a)(h3:c.s.length<=n):Bq (us++[⟨u.name,u.row,u.code++[c]⟩])<=3*b:=by
 rw[ZP];omega
def Lc(h:n<=200001):wrap64 (n:Int)=(n:Int):=by unfold wrap64;omega
def WO(l:List α)(k:Nat)(h:k<=l.length):pfx (λ_=>1) l k=k:=by
 induction k with
 |zero=>rfl
 |succ k ih=>rw[DC (B4 h),ih (by omega)]
def VX(h:Bq (us++[u])<=m):u.code.length<=m:=by
 have h1:=Jy us u;have h2:wtU u=u.name.length+u.row.length+pfx wtC u.code u.code.length:=rfl;have h4:=Lu (λ_:Cd=>1) wtC 1 (λc=>by unfold wtC;omega) u.code u.code.length;have h5:=WO u.code u.code.length (nR _);omega
def WA(h:WideUs us)(hu:Dn u):WideUs (us++[u]):=by
 intro x hx;rcases List.mem_append.1 hx with h1|h1
 ·exact h x h1
 ·simp at h1;subst h1;exact hu
def V0(s:Bs)(hs:s.length<=200000)(hp:Pow w)(he:Errs w)(hm:Mx w):
 Calls Tryz.prog 18 #[str s] w λe w'=>RrP w s e w':=by
 have HF:=S (X hp (X he hm));obtain⟨L,hL⟩:∃L,L=Lib.split s [10]:=⟨_,rfl⟩;have HSp:=S (IH s (by omega) 10 hm);have hLl:L.length<=s.length+1:=by rw[hL];exact Np 10 s
 have hLs:∀l∈L,l.length<=s.length:=λl h=>MB 10 s (by rw[<-hL];exact h);have hLn:DO L=s.length+1:=by rw[hL];exact RF s
 rw[<-hL]at HSp;obtain⟨i1,hi0',hz0',hz1',hz2'⟩:=info_parts Lj;have HJ:=S (X hi0' (X hz0' (X hz1' hz2')));obtain⟨i2,hi0'',hz0'',hz1'',hz2''⟩:=info_parts Lk;have HK:=S (X hi0'' (X hz0'' (X hz1'' hz2'')));have HLs:=S (X hLs (X hL hLn));clear hi0' hz0' hz1' hz2' hi0'' hz0'' hz1'' hz2'' hp he hm hLs hL hLn;have hP:=Blk.new w (L.map str) 9;have gP:=gZ w (.cells (L.map str).toArray 9 (0,0)) none;have HA:=S (X hP gP);clear hP gP;go_enter func18,ntmps18;go_wp2_with fail;refine HSp.1.mono ?_;rintro e w3 ⟨rfl,rfl⟩;generalize w.alloc (.cells (L.map str).toArray 9 (0,0))=W3 at*;go_wp2_with fail;go_loopg [4,6,7,8,9,10,11,12,13,17] L.length (λg v4 v6 v7 v8 v9 v10 v11 v12 v13 v17 wr=>∃k us,k+g=L.length/\v17= .int .i64 (k:Nat)/\Blk wr w.heap.size (L.map str) 9/\OwnPr wr (w.heap.size+1) v4 us/\RdI L us k/\WideUs us/\Bq us<=3*DO (L.take k)/\us.length<=k/\w.grownBy wr none)
 case atStart=>exact⟨0,[],by omega,rfl,HA.1.1,.inl ⟨rfl,rfl⟩,RdI.init L,(λu h=>by cases h),nZ _,nZ _,HA.1.2⟩
 case round=>
  obtain⟨k,us,hk,rfl,hP,hO,hX,hW,hwt,hul,hG⟩:=hrel;clear HA HSp;have hgs:=hG.size;cases gk with
  | zero=>
    have hkl:k=L.length:=by omega
    have hj1:decide (k<L.length)=false:=by simp;omega
    subst hkl;have HZ:=S (X hO (X hX (X hW (X hwt hG))));clear hP hO hX hW hwt hG;go_wp2;go_ret2;refine⟨us,u4,true,rfl,HZ.1.2.2.2.2,(λe=>by cases e),λ_=>⟨HZ.1.1.vu.mono (λk hk _=>by have:w.heap.size+1<=k:=hk;show w.heap.size<=k;omega),HZ.1.2.2.1,?_⟩,λvs h0 hw he=>⟨rfl,?_⟩⟩
    ·have h1:=HZ.1.2.2.2.1;rw[List.take_length,HLs.1.2.2]at h1;exact h1
    ·have h1:L=Bz vs:=HLs.1.2.1.trans (NJ h0 he);have h2:=HZ.1.2.1 vs hw h1;rw[List.take_length,h1]at h2;exact Ug h2
  | succ gk=>
    have hkl:k<L.length:=by omega
    have hj1:decide (k<L.length)=true:=by simpa using hkl
    obtain⟨p,hp⟩:∃p,p=L[k]:=⟨_,rfl⟩;have hpl:p.length<=s.length:=by rw[hp];exact HLs.1.1 _ (List.getElem_mem hkl)
    have q0:=hP.cell' k (v:=str p) (by rw[List.getElem?_map,List.getElem?_eq_getElem hkl,hp];rfl);have hlt4:=hP.lt;have hn:=Sy hkl;have hle:=Od L (k+1);rw[<-hp]at hn;rw[HLs.1.2.2]at hle;have HZ:=S (X hP (X hO (X hX (X hW hG))));have HPe:=S hp;clear hP hO hX hW hG hp;go_wp2_with fail;refine(YQ p _).mono ?_;rintro e w5 ⟨rfl,rfl⟩;have hhp:Do L[k]=Do p:=by rw[HPe.1]
    cases hh:Do p with
    | true=>
      rw[hh]at hhp;have htr:(Lib.trimPrefix p [117,110,105,116,32]).length<=p.length:=by
       unfold Lib.trimPrefix;split<;>simp
      have HRu:=S (Ql (Lib.trimPrefix p [117,110,105,116,32]) (by omega) (HF.1.1.gb HZ.1.2.2.2.2) (HF.1.2.1.gbN HZ.1.2.2.2.2) (HF.1.2.2.gb HZ.1.2.2.2.2));have HTr:=S (show Lib.trimPrefix p [117,110,105,116,32]=Lib.trimPrefix L[k] [117,110,105,116,32]by rw[HPe.1]);generalize Lib.trimPrefix p [117,110,105,116,32]=r at*;go_wp2_with fail;refine HRu.1.mono ?_;rintro e w6 ⟨nm,l,rv,b,rfl,g6,ho6,hln,h64,hfu⟩;obtain⟨ra,rc,rfl⟩:=GY ho6;have hun:=HZ.1.2.2.1.unit hkl hhp (nm:=nm) (l:=l) (b:=b) (λu hw h=>hfu u hw (HTr.1.trans h));have HU:=S (X hun (X h64 ho6));have G6:=Z HZ.1.2.2.2.2 g6;have HG6:=S (X g6 G6);have hgs6:=g6.size;clear hfu hun h64 ho6 g6 G6 HRu;cases b with
      | false=>
        go_wp2;go_ret2;exact RrP.no HLs.1.2.1 (Ac HG6.1.2 _) (HU.1.1.2 (by first|rfl|trivial))
      | true=>
        go_upto_region 8 with fail;have hN:=Blk.new w6 [str nm,.slice ra l.length rc,.slice none 0 0] 58;have gN:=gZ w6 (.cells [str nm,.slice ra l.length rc,.slice none 0 0].toArray 58 (0,0)) none;have e0:w6.alloc (.cells [str nm,.slice ra l.length rc,.slice none 0 0].toArray 58 (0,0))=w6.alloc (.cells #[.string ⟨nm.toArray⟩,.slice ra l.length rc,.slice none 0 0] 58 (0,0)):=rfl;rw[e0]at hN gN;clear e0;generalize w6.alloc (.cells #[.string ⟨nm.toArray⟩,.slice ra l.length rc,.slice none 0 0] 58 (0,0))=W7 at*;have a0:=hN.cell' 0 rfl;have a1:=hN.cell' 1 rfl;have a2:=hN.cell' 2 rfl;have hl7:=hN.lt;have hs7:=gN.size;obtain⟨cs,hrow,hrep⟩:=(HZ.1.2.1.gbN (Z HG6.1.1 gN)).all;have hvl:∀q,u4.ownBlock=some q->w.heap.size+1<=q/\q<wr.heap.size:=by
         obtain⟨_,h,_⟩:=HZ.1.2.1.all;exactλq e=>h.lt q e
        have HN:=S (X hN (X gN (X hrow (X hrep hvl))));clear hN gN hrow hrep hvl;go_wp2_with (at_builtin;go_loud(refine wpList_append_lies _ rfl _ _ 23 rfl (w.heap.size+1) 58 i2 (.agg #[str [],.slice none 0 0,.slice none 0 0]) 3 64 underlying23 HK.1.1 HK.1.2.1 HK.1.2.2.1 HK.1.2.2.2 rfl (by decide) u4 us.length cs rfl (BG HN.1.2.2.1 (gZ _ _ none) (by simp)) ⟨W7.heap.size,0,none⟩ 1 1 [str nm,.slice ra l.length rc,.slice none 0 0] rfl rfl (AP _ _ _) (by simp[Value.oneCell']) (by decide) (by unfold maxLen;omega) (by omega) (by simp;omega) _ rfl ?_;intro g8 cap8 w8 hown8 hgrow8 hat8 hlt8;(have H8:=S (X hown8 (X hgrow8 hat8)));clear hown8 hgrow8 hat8));have gA:=gZ W7 (.cells [str nm,.slice ra l.length rc,.slice none 0 0].toArray 58 (0,0)) none;have hOU:=OwnPr.unit (u:=⟨nm,l,[]⟩) (BG HN.1.2.2.1 gA (by simp)) ((HN.1.2.2.2.1.gb gA (by simp)).mono (λk hk _=>⟨hk.1,hk.2.1,by have:=hk.2.2;simp;omega⟩)) (BG (BG HU.1.2.2 HN.1.2.1 (by simp)) gA (by simp)) rfl (by omega) (λq e=>(HN.1.2.2.2.2 q e).2) H8.1.1 H8.1.2.1 (λk e=>by
         simp only[Value.ownBlock,Option.some.injEq]at e;rw[<-e];rcases H8.1.2.2 with h9|h9
         ·exact .inl h9
         ·exact .inr (by rw[h9];exact nR _)) (by simp;omega)
        have hP8:=(((HZ.1.1.gb HG6.1.1 (by simp)).gb HN.1.2.1 (by simp)).gb gA (by simp)).gb H8.1.2.1 (λe=>by have:=(HN.1.2.2.2.2 _ e.symm).1;omega);have hG8:=BB (Z (Z HG6.1.2 HN.1.2.1) gA) H8.1.2.1 (λq e=>by have:=(HN.1.2.2.2.2 q e).1;omega);have HY:=S (X hOU (X hP8 hG8));have hwn:=ZH us nm l;clear gA hOU hP8 hG8;go_roundg gk
        case measure=>omega
        case rel=>exact⟨k+1,us++[⟨nm,l,[]⟩],by omega,by go_num,HY.1.2.1,HY.1.1,HU.1.1.1,WA HZ.1.2.2.2.1 ⟨HU.1.2.1 (by first|rfl|trivial),λc h=>by cases h⟩,by rw[hwn,hn];omega,by simp;omega,HY.1.2.2⟩
    | false=>
      rw[hh]at hhp;have HRc:=S (Qk p (by omega) (HF.1.1.gb HZ.1.2.2.2.2) (HF.1.2.1.gbN HZ.1.2.2.2.2) (HF.1.2.2.gb HZ.1.2.2.2.2));go_wp2_with fail;refine HRc.1.mono ?_;rintro e w6 ⟨c,b,rfl,g6,hcl,hwc,hfc⟩;have hco:=HZ.1.2.2.1.code hkl hhp (c:=c) (b:=b) (λd hd h=>hfc d hd (by rw[HPe.1];exact h));have G6:=Z HZ.1.2.2.2.2 g6;have HU:=S (X hco (X hwc (X g6 G6)));have hgs6:=g6.size;clear hfc hco hwc g6 G6 HRc;cases b with
      | false=>
        go_wp2;go_ret2;exact RrP.no HLs.1.2.1 (Ac HU.1.2.2.2 _) (HU.1.1.2 (by first|exact .inl rfl|exact .inl trivial|trivial))
      | true=>
        rcases HZ.1.2.1 with⟨rfl,rfl⟩| ⟨init,u,cs,rv,cv,M,rfl,hL⟩
        ·go_wp2;go_ret2;exact RrP.no HLs.1.2.1 (Ac HU.1.2.2.2 _) (HU.1.1.2 (by first|exact .inr rfl|exact .inr trivial|trivial))
        ·obtain ⟨g, cap, rfl⟩ : ∃ g cap, u4 = .slice (some ⟨g, 0, none⟩) (init.length + 1) cap := by
          rcases hL.row.2 with⟨_,h⟩| ⟨g,cap,_,h,_⟩
          ·omega
          ·exact⟨g,cap,h⟩
         obtain⟨ca,cc,rfl⟩:=GY hL.cod;have hcs:cs.length=init.length*3:=aB hL.row.1;have hil:init.length<=200001:=nT (Nat.le_of_succ_le (by rw[lA]at hul;exact hul)) (nT (Nat.le_of_lt hkl) (nT hLl (Nat.succ_le_succ hs)));have hlk:=Od L k;rw[HLs.1.2.2]at hlk;have hcdl:u.code.length<=3*(200000+1):=VX (nT hwt (Nat.mul_le_mul_left 3 (nT hlk (Nat.succ_le_succ hs))));have HNm:=S (X hn (X hle (X hwt (X hul (X hcs (X hgs (X hcl (X hpl (X hlt4 hgs6)))))))));have hm1:=VY hcdl;have hm2:=VW hcdl;have n1:wrap64 (init.length:Int)=(init.length:Int):=Lc hil;have n2:(0:Int)<=(init.length:Int):=Int.natCast_nonneg _;have n3:(init.length:Int)<(init.length:Int)+1:=Int.lt_succ _;have n4:((init.length:Int)+1==0)=false:=Zr _;have HCd:=S (X hm1 hm2);clear hn hle hwt hul hgs hcl hlk hcdl hil hm1 hm2;go_upto_region 12 with fail;have hN:=Blk.new w6 [.int .i64 c.op,.int .i64 c.a,.int .i64 c.b,str c.s] 61;have gN:=gZ w6 (.cells [.int .i64 c.op,.int .i64 c.a,.int .i64 c.b,str c.s].toArray 61 (0,0)) none;have e0:w6.alloc (.cells [.int .i64 c.op,.int .i64 c.a,.int .i64 c.b,str c.s].toArray 61 (0,0))=w6.alloc (.cells #[.int .i64 c.op,.int .i64 c.a,.int .i64 c.b,.string ⟨c.s.toArray⟩] 61 (0,0)):=rfl;rw[e0]at hN gN;clear e0;generalize w6.alloc (.cells #[.int .i64 c.op,.int .i64 c.a,.int .i64 c.b,.string ⟨c.s.toArray⟩] 61 (0,0))=W7 at*;have a0:=hN.cell' 0 rfl;have a1:=hN.cell' 1 rfl;have a2:=hN.cell' 2 rfl;have a3:=hN.cell' 3 rfl
         have hl7:=hN.lt;have hL7:=hL.gbN (Z HU.1.2.2.1 gN);have hget:(cs++[str u.name,rv,.slice ca u.code.length cc])[init.length*3+2]? =some (.slice ca u.code.length cc):=Wl hcs;have q1:=(hL7.row.cellAt (init.length*3+2) (Ot init.length)).trans hget;have q2:=hL7.row.frozenAt (init.length*3+2);have q3:=(hL7.row.lt g rfl).2;have HL:=S (X hL7 (X hget (X hL gN)));have HM3:=S (fun(o:Obj)=>nT hL7.ml (Ac (Ad (Aa W7 none)) o).size);clear hN gN hL7 hget hL hcs hlt4 hpl hgs6;go_upto_region 15 with fail
         go_region_law(go_loud(refine step_append_lies _ (by rfl) _ _ 56 (by rfl) M 61 i1 (.agg #[.int .i64 0,.int .i64 0,.int .i64 0,str []]) 4 40 underlying56 HJ.1.1 HJ.1.2.1 HJ.1.2.2.1 HJ.1.2.2.2 rfl (by decide) (.slice ca u.code.length cc) u.code.length (AC u.code) (by rfl) (BG HL.1.1.cod (Ac (Ad (Aa _ none)) _) (by simp)) ⟨W7.heap.size,0,none⟩ 1 1 [.int .i64 c.op,.int .i64 c.a,.int .i64 c.b,str c.s] (by rfl) rfl (World.news_of_block (heap_alloc_new _ _)) (by simp[Value.oneCell']) (by decide) HCd.1.1 HCd.1.2 (HM3.1 _) _ rfl ?_;intro g8 cap8 w8 hown8 hgrow8 hat8 hlt8;(have hrow7:=BG HL.1.1.row (Ac (Ad (Aa W7 none)) (.cells #[.int .i64 c.op,.int .i64 c.a,.int .i64 c.b,str c.s] 61 (0,0))) (by simp));(have hcod7:=BG HL.1.1.cod (Ac (Ad (Aa W7 none)) (.cells #[.int .i64 c.op,.int .i64 c.a,.int .i64 c.b,str c.s] 61 (0,0))) (by simp));(have hrow8:=BG hrow7 hgrow8 (Hr hrow7 hcod7 (by decide)));(have r1:=(hrow8.cellAt (init.length*3+2) (Ot init.length)).trans HL.1.2.1);(have r2:=hrow8.frozenAt (init.length*3+2));(have r3:=(hrow8.lt g rfl).2);(have H8:=S (X hown8 hgrow8));clear hown8 hgrow8 hat8 hrow8 hrow7 hcod7));all_goals
          have gA:=Ac (Ad (Aa W7 none)) (.cells #[.int .i64 c.op,.int .i64 c.a,.int .i64 c.b,str c.s] 61 (0,0));have hOP:=OwnL.code (c:=c) (HL.1.1.gbN gA) H8.1.1 H8.1.2;have hcod7:=BG HL.1.1.cod gA (by simp);have hrow8:=BG (BG HL.1.1.row gA (by simp)) H8.1.2 (Hr (BG HL.1.1.row gA (by simp)) hcod7 (by decide));have gS:=Ai (Aa w8 (some g)) (init.length*3+2) (.slice (some ⟨g8,0,none⟩) (u.code.length+1) cap8);have hP7:=((HZ.1.1.gb HU.1.2.2.1 (by simp)).gb HL.1.2.2.2 (by simp)).gb gA (by simp);have hP8:=hP7.gb H8.1.2 (λe=>Jq hcod7 hP7 (by decide) e.symm);have hP9:=hP8.gb gS (λe=>Jq hrow8 hP8 (by decide) e.symm);have hMg:=Fv HL.1.1.cod;have hMB:=HL.1.1.le;have hgB:=Fv HL.1.1.row g rfl;have hG8:=Af (BB (Z (Z HU.1.2.2.2 HL.1.2.2.2) gA) H8.1.2 (λq e=>nT (Nat.le_of_succ_le hMB) (hMg q e))) ⟨g,init.length*3+2,none⟩ (.slice (some ⟨g8,0,none⟩) (u.code.length+1) cap8) (.inr (Nat.le_of_succ_le hgB));have HY:=S (X hOP (X hP9 hG8));clear gA hOP hcod7 hrow8 gS hP7 hP8 hP9 hMg hMB hgB hG8;go_wp2;go_roundg gk
          case measure=>exact Nat.lt_succ_self _
          case rel=>exact⟨k+1,init++[⟨u.name,u.row,u.code++[c]⟩],by rw[<-hk,Nat.add_assoc,Nat.add_comm 1 gk],by go_num,HY.1.2.1,HY.1.1,HU.1.1.1 init u rfl,Wz HZ.1.2.2.2.1 (HU.1.2.1 (by first|rfl|trivial)),ZQ HNm.1.1 HNm.1.2.2.1 HNm.1.2.2.2.2.2.2.1,by rw[lA];exact Nat.le_succ_of_le (by have h:=HNm.1.2.2.2.1;rw[lA]at h;exact h),HY.1.2.2⟩
end Go.Proofs.YtbjfaimkiclhgaaGreatDoor
