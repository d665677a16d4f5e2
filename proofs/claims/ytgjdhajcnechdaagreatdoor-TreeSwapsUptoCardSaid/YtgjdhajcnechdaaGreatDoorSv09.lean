/-
  Contracts of the parser: variable, names, unary, list. Contracts of the parser: list, unary. Dates: isLeap, monthDays, yearsDays, Days, Val, Unstamp. Dates: Days. Dates: Val of digits. Equality of tex
-/
import Derived.Test.YtgjdhajcnechdaaGreatDoorSv08
import Derived.Test.YtgjdhajcnechdaaGreatDoorSv06
import Derived.Deep.LoopGhost
import Derived.Test.YtgjdhajcnechdaaGreatDoorSv02
set_option linter.all false
set_option maxRecDepth 100000
set_option maxHeartbeats 8000000
namespace Go.Proofs.YtgjdhajcnechdaaGreatDoor
open Go.Proofs.Tryz
open Go.RowKit
section
variable {b:Nat}{tv wv:Value}{l:List Tok}{wl:List Bs}
theorem Hw{w:World}{i:Nat}(h:Par w b tv wv l wl i)(hl:C1 l):
 Calls Tryz.prog 311 #[.pointer (some ⟨b,0,none⟩)] w (Post b tv wv l wl w (fun _ v x=>v=str x) (AT l i)):=by
 have hb:=h.lt;have c3:=h.c3;have HL:=O hl;clear hl;go_enter func311,ntmps311;go_wp2_with fail;go_region_with(first| (go_at_call 111;refine(BZ (h.gbN (Am (Ac _ _)))).mono ?_;rintro e w1 ⟨rfl,g1⟩;have h1:=h.gbN (Aa (Am (Ac _ _)) g1);have d3:=h1.c3)| (go_at_call 52;refine(slices_Contains_string_empty _ _ _ _).mono ?_;rintro e w2 ⟨rfl,rfl⟩));all_goals
  have gA:=Aa (Am (Ac w none)) g1;go_wp2_with fail;refine(Dm h1 HL.out).mono ?_;rintro e w2 ⟨g2,h2⟩;cases hr:AT l i with
  |out=>rw[hr]at h2;exact h2.elim
  | bad q=>
    rw[hr]at h2;subst h2;exact⟨rfl,Post.bad (Aa (AU gA) g2) hr⟩
  | ok x j=>
    rw[hr]at h2;obtain⟨v,rfl,rfl,h2⟩:=h2;have HR:=O hr;clear hr;go_wp2;go_ret;exact Post.ok (Aa (AU gA) g2) HR.out rfl h2
theorem EV{w:World}{base e size n m:Nat}{cs:List Value}(hm:m=w.heap.size)(hb:base≤w.heap.size)(h:cs.length=n*size)(hn:n≤maxLen):(w.alloc (.cells cs.toArray e (0,0))).ownsRow base e size (.slice (some ⟨m,0,none⟩) n n) n cs:=by
 subst hm;exact⟨h,.inr ⟨_,_,cs.toArray,rfl,hb,heap_alloc_new w _,Nat.le_refl _,hn,by simpa using h,by simp[←h]⟩⟩
def VS(B:Nat)(w:World)(v:Value)(p:List Bs):Prop:=∃pa pc,v= .slice pa p.length pc∧Cells w v 1 p.length (p.map str) (AA B)
theorem VS.of_owns{w:World}{B:Nat}{v:Value}{p:List Bs}(h:w.ownsRow B 9 1 v p.length (p.map str)):VS B w v p:=by
 have hc:=B1 h;obtain⟨a,cap,e,_⟩:=id hc;exact⟨a,cap,e,hc⟩
def Ri(l:List Tok)(wl:List Bs)(b:Nat)(tv wv:Value)(w:World)(r:Res (List Bs))(m:Nat)(v:Value)(wr:World):Prop:=
 ∃acc j,wr.ownsRow w.heap.size 9 1 v acc.length (acc.map str)∧Par wr b tv wv l wl j∧BN l m acc j=r∧w.grownBy wr (some b)∧acc.length≤j∧acc≠[]
theorem ND{w:World}{i:Nat}(h:Par w b tv wv l wl i)(hl:C1 l)(n:Nat)(ho:Ck l n i ≠ .out):
 Calls Tryz.prog 185 #[.pointer (some ⟨b,0,none⟩)] w (Post b tv wv l wl w (VS w.heap.size) (Ck l n i)):=by
 have hb:=h.lt;have hf:=h.few;generalize hR:Ck l n i=R at*;have H:=O (Z hl (Z ho hR));clear hl ho hR;go_enter func185,ntmps185;go_wp2_with fail;refine(Dm h H.out.1).mono ?_;rintro e w1 ⟨g1,h1⟩;cases hr:AT l i with
 |out=>rw[hr]at h1;exact h1.elim
 | bad q=>
   rw[hr]at h1;subst h1;exact⟨rfl,Post.bad g1 (by rw[←H.out.2.2,Ck,hr];rfl)⟩
 | ok x j=>
   rw[hr]at h1;obtain⟨v,rfl,rfl,h1⟩:=h1;have HR:=O (show BN l n [x] j=R by rw[←H.out.2.2,Ck,hr];rfl);have hj:1≤j:=by
    unfold AT at hr;split at hr
    ·cases hr;omega
    ·cases hr
   have hs1:=g1.size;have ho1:(w1.alloc (.cells [str x].toArray 9 (0,0))).ownsRow w.heap.size 9 1 (.slice (some ⟨w1.heap.size,0,none⟩) 1 1) 1 [str x]:=EV rfl hs1 rfl (by decide);have h1':=h1.alloc (.cells [str x].toArray 9 (0,0));have g1':=Ad g1 (.cells [str x].toArray 9 (0,0));clear hr;go_wp2_with fail;go_loopg [3] n (fun m v wr=>Ri l wl b tv wv w R m v wr)
   case atStart=>exact⟨[x],j,ho1,h1',HR.out,g1',hj,by simp⟩
   case round=>
    obtain⟨acc,q,hown,hp,hloop,gr,hlen,hne⟩:=hrel;clear ho1 h1' g1' h1 g1;have hj2:=hp.le;cases gk with
    |zero=>exact absurd hloop.symm H.out.2.1
    |succ m=>
    cases hs:Ae (Ab l q) [44]with
    | false=>
      have HQ:=O (show R= .ok acc q by rw[←hloop];simp[BN,hs]);have HO:=O hown;have HS:=O hs;clear hloop hs hown;go_wp2_with fail;refine(Bo hp _ HS.out).mono ?_;rintro e w2 ⟨rfl,g2⟩;have h2:=hp.gbN g2;go_wp2;go_ret;exact Post.ok (Ah gr g2) HQ.out (VS.of_owns (Cy HO.out g2 (by simp))) h2
    | true=>
      have HQ:=O (show(AT l (q+1)).bind (fun y j=>BN l m (acc++[y]) j)=R by rw[←hloop];simp[BN,hs]);have HO:=O hown;have HS:=O hs;clear hloop hs hown;go_wp2_with fail;refine(Bw hp _ HS.out).mono ?_;rintro e w2 ⟨rfl,h2,g2⟩;go_wp2_with fail;refine(Dm h2 H.out.1).mono ?_;rintro e w3 ⟨g3,h3⟩;cases hr2:AT l (q+1)with
      |out=>rw[hr2]at h3;exact h3.elim
      | bad z=>
        rw[hr2]at h3;subst h3;exact⟨rfl,Post.bad (Aa (Aa gr g2) g3) (by rw[←HQ.out,hr2];rfl)⟩
      | ok y z=>
        rw[hr2]at h3;obtain⟨v',rfl,rfl,h3⟩:=h3;have hz:q+2≤z:=by
         unfold AT at hr2;split at hr2
         ·cases hr2;omega
         ·cases hr2
        have HQ2:=O (show BN l m (acc++[y]) z=R by rw[←HQ.out,hr2];rfl);have g23:=Aa g2 g3;have hown3:=Cy HO.out g23 (by intro k hk _ e;cases e;omega);have hown4:=hown3.alloc (.cells [str y].toArray 9 (0,0));have hlen2:=h3.le;have gA:=Ad (Aa gr g23) (.cells [str y].toArray 9 (0,0));have hA:=h3.alloc (.cells [str y].toArray 9 (0,0));have hbs:=gA.size;obtain⟨i0,hi,hz0,hz1,hz2⟩:=info_parts Eh;have hnc:=Ce w3 [str y] 9;have hml:acc.length+1≤maxLen:=by unfold maxLen;omega
        clear hr2 hown3;have HX:=O (Z hi (Z hz0 (Z hz1 (Z hz2 (Z hnc (Z hml hown4))))));clear hi hz0 hz1 hz2 hnc hml hown4;go_wp2_with (at_builtin;obtain⟨hi,hz0,hz1,hz2,hnc,hml,hown4⟩:=HX.out;refine DE rfl _ _ 24 rfl w.heap.size 9 i0 (str []) 1 16 underlying24 hi hz0 hz1 hz2 rfl (by decide) _ _ _ rfl hown4 ⟨w3.heap.size,0,none⟩ 1 1 [str y] rfl rfl hnc (by simp[Value.oneCell']) hml (by omega) hbs ?_;intro v' w5 hown5 g5 _;clear hi hz0 hz1 hz2 hnc hml hown4);have HO5:=O hown5;clear hown5;go_roundg m
        case measure=>omega
        case rel=>
         have hob:∀k,u3.ownBlock=some k→b<k:=fun k hk=>by have:=(HO.out.lt k hk).1;omega
         have hob2:∀k,u3.ownBlock=some k→w.heap.size≤k:=fun k hk=>(HO.out.lt k hk).1;refine⟨acc++[y],z,by simpa using HO5.out,hA.gb g5 hob,HQ2.out,?_,by simp;omega,by simp⟩;have g5':World.grownBy (w3.alloc _) w5 u3.ownBlock:=g5;cases hv:u3.ownBlock with
         |none=>rw[hv]at g5';exact Ah gA g5'
         |some k=>rw[hv]at g5';exact Ar gA g5' (.inr (hob2 k hv))
end
section
variable {b:Nat}{tv wv:Value}{l:List Tok}{wl:List Bs}
def VL(B:Nat)(w:World)(v:Value)(f:Fo):Prop:=∃la lc,v= .slice la f.len lc∧RepL (AA B) w v f
theorem VL.of_owns{w:World}{B:Nat}{v:Value}{f:Fo}(h:OwnF w B v f):VL B w v f:=by
 obtain⟨cs,h1,h2⟩:=id h;obtain⟨a,cap,e,_⟩:=B1 h1;exact⟨a,cap,e,h.rep⟩
def ListR(l:List Tok)(wl:List Bs)(E:Nat→Res Ex)(b:Nat)(tv wv:Value)(w:World)(r:Res Fo)(m:Nat)(v:Value)(wr:World):Prop:=
 ∃acc j,OwnF wr w.heap.size v acc∧Par wr b tv wv l wl j∧BK l E m acc j=r∧w.grownBy wr (some b)∧acc.len≤j
def DS(E:Nat→Res Ex):Prop:=∀i x j,E i= .ok x j→i<j
theorem Jd{E:Nat→Res Ex}(hE:CE 67 b tv wv l wl E)(hgo:DS E){w:World}{i:Nat}(h:Par w b tv wv l wl i)(n:Nat)(ho:Ch l E n i ≠ .out):
 Calls Tryz.prog 220 #[.pointer (some ⟨b,0,none⟩)] w (Post b tv wv l wl w (VL w.heap.size) (Ch l E n i)):=by
 have hb:=h.lt;have hf:=h.few;generalize hR:Ch l E n i=R at*;have H:=O (Z hE (Z ho (Z hR hgo)));clear hE ho hR hgo;go_enter func220,ntmps220;go_wp2_with fail;refine(H.out.1 _ _ h (fun e=>H.out.2.1 (by rw[←H.out.2.2.1,Ch,e];rfl))).mono ?_;rintro e w1 ⟨g1,h1⟩;cases hr:E i with
 |out=>rw[hr]at h1;exact h1.elim
 | bad q=>
   rw[hr]at h1;subst h1;exact⟨rfl,Post.bad g1 (by rw[←H.out.2.2.1,Ch,hr];rfl)⟩
 | ok x j=>
   rw[hr]at h1;obtain⟨v,rfl,⟨pa,pc,la,lc,rfl,rp,rl⟩,h1⟩:=h1;have HR:=O (show BK l E n (.one x) j=R by rw[←H.out.2.2.1,Ch,hr];rfl);have hj:1≤j:=by have:=H.out.2.2.2 _ _ _ hr;omega
   have hs1:=g1.size;have hlt:=h1.lt;have ho1:OwnF (w1.alloc (.cells (hdC x.h (.slice pa x.h.p.length pc) (.slice la x.kids.len lc)).toArray 27 (0,0))) w.heap.size (.slice (some ⟨w1.heap.size,0,none⟩) 1 1) (.one x):=by
    have g:=World.grownBy_alloc w1 (.cells (hdC x.h (.slice pa x.h.p.length pc) (.slice la x.kids.len lc)).toArray 27 (0,0)) none;refine⟨_,EV rfl hs1 rfl (by decide),RepF.gb g (by simp) (RepF.mono (ok:=AA w.heap.size) ?_ (VE.rep rp rl))⟩;intro k hk hk2;exact⟨hk,by simp[Value.ownBlock];omega⟩
   have HO:=O ho1;have h1':=h1.alloc (.cells (hdC x.h (.slice pa x.h.p.length pc) (.slice la x.kids.len lc)).toArray 27 (0,0));have g1':=Ad g1 (.cells (hdC x.h (.slice pa x.h.p.length pc) (.slice la x.kids.len lc)).toArray 27 (0,0));clear hr ho1 rp rl;go_wp2_with fail;go_loopg [3] n (fun m v wr=>ListR l wl E b tv wv w R m v wr)
   case atStart=>exact⟨.one x,j,HO.out,h1',HR.out,g1',hj⟩
   case round=>
    obtain⟨acc,q,hown,hp,hloop,gr,hlen⟩:=hrel;clear HO h1' g1' h1 g1;have hj2:=hp.le;cases gk with
    |zero=>exact absurd hloop.symm H.out.2.1
    |succ m=>
    cases hs:Ae (Ab l q) [44]with
    | false=>
      have HQ:=O (show R= .ok acc q by rw[←hloop];simp[BK,hs]);have HO:=O hown;have HS:=O hs;clear hloop hs hown;go_wp2_with fail;refine(Bo hp _ HS.out).mono ?_;rintro e w2 ⟨rfl,g2⟩;have h2:=hp.gbN g2;go_wp2;go_ret;exact Post.ok (Ah gr g2) HQ.out (VL.of_owns (HO.out.gb g2 (by simp))) h2
    | true=>
      have HQ:=O (show(E (q+1)).bind (fun y j=>BK l E m (acc.snoc y) j)=R by rw[←hloop];simp[BK,hs]);have HO:=O hown;have HS:=O hs;clear hloop hs hown;go_wp2_with fail;refine(Bw hp _ HS.out).mono ?_;rintro e w2 ⟨rfl,h2,g2⟩;go_wp2_with fail;refine(H.out.1 _ _ h2 (fun e=>H.out.2.1 (by rw[←HQ.out,e];rfl))).mono ?_;rintro e w3 ⟨g3,h3⟩;cases hr2:E (q+1)with
      |out=>rw[hr2]at h3;exact h3.elim
      | bad z=>
        rw[hr2]at h3;subst h3;exact⟨rfl,Post.bad (Aa (Aa gr g2) g3) (by rw[←HQ.out,hr2];rfl)⟩
      | ok y z=>
        rw[hr2]at h3;obtain⟨v',rfl,⟨ya,yc,ma,mc,rfl,ry,rm⟩,h3⟩:=h3;have hz:q+1<z:=H.out.2.2.2 _ _ _ hr2;have HQ2:=O (show BK l E m (acc.snoc y) z=R by rw[←HQ.out,hr2];rfl);have g23:=Aa g2 g3;obtain⟨cs,hown3,hrep3⟩:=HO.out.gb g23 (by intro k hk _ e;cases e;omega);have hown4:=hown3.alloc (.cells (hdC y.h (.slice ya y.h.p.length yc) (.slice ma y.kids.len mc)).toArray 27 (0,0));have hlen2:=h3.le;have gB:=World.grownBy_alloc w3 (.cells (hdC y.h (.slice ya y.h.p.length yc) (.slice ma y.kids.len mc)).toArray 27 (0,0)) none;have gA:=Ad (Aa gr g23) (.cells (hdC y.h (.slice ya y.h.p.length yc) (.slice ma y.kids.len mc)).toArray 27 (0,0));have hA:=h3.alloc (.cells (hdC y.h (.slice ya y.h.p.length yc) (.slice ma y.kids.len mc)).toArray 27 (0,0));have hbs:=gA.size;have hs23:=g2.size;have hsr:=gr.size;have hol:∀k,u3.ownBlock=some k→w.heap.size≤k∧k<wr.heap.size:=fun k hk=>by
         obtain⟨cs0,ho0,_⟩:=HO.out;exact ho0.lt k hk
        obtain⟨i0,hi,hz0,hz1,hz2⟩:=info_parts Cl;have hnc:=Ce w3 (hdC y.h (.slice ya y.h.p.length yc) (.slice ma y.kids.len mc)) 27;have hml:acc.len+1≤maxLen:=by unfold maxLen;omega
        have HY:=O (Z (hrep3.gb gB (by simp)) (Z (ry.gb gB (by simp)) (rm.gb gB (by simp))));have HX:=O (Z hi (Z hz0 (Z hz1 (Z hz2 (Z hnc (Z hml (Z hown4 hol)))))));clear hr2 hown3 hrep3 ry rm hi hz0 hz1 hz2 hnc hml hown4 hol;go_wp2_with (at_builtin;obtain⟨hi,hz0,hz1,hz2,hnc,hml,hown4,hol⟩:=HX.out;refine DE rfl _ _ 25 rfl w.heap.size 27 i0 _ 7 104 underlying25 hi hz0 hz1 hz2 rfl (by decide) _ _ _ rfl hown4 ⟨w3.heap.size,0,none⟩ 1 1 (hdC y.h (.slice ya y.h.p.length yc) (.slice ma y.kids.len mc)) rfl rfl hnc (by simp[hdC,Value.oneCell']) hml (by omega) hbs ?_;intro v' w5 hown5 g5 hn5;clear hi hz0 hz1 hz2 hnc hml hown4 hol);have HO5:=O (Z hown5 hn5);clear hown5 hn5;go_roundg m
        case measure=>omega
        case rel=>
         have hol:=HX.out.2.2.2.2.2.2.2;have g5':World.grownBy (w3.alloc _) w5 u3.ownBlock:=g5;refine⟨acc.snoc y,z,?_,hA.gb g5' (fun k hk=>by have:=(hol k hk).1;omega),HQ2.out,?_,by rw[Fo.len_snoc];omega⟩
         ·exact OwnF.snoc (v:=u3) (okx:=AA w2.heap.size) HY.out.1 rfl HY.out.2.1 HY.out.2.2 (by intro k hk;have hk:w2.heap.size≤k:=hk;exact⟨by omega,fun e=>by have:=(hol k e).2;omega⟩) HO5.out.1 g5' HO5.out.2
         ·cases hv:u3.ownBlock with
          |none=>rw[hv]at g5';exact Ah gA g5'
          |some k=>rw[hv]at g5';exact Ar gA g5' (.inr (hol k hv).1)
end
def Cm(y:Int):Bool:=(y.tmod 4==0)&&((y.tmod 100 !=0)||(y.tmod 400==0))
def AW(y m:Int):Int:=if m==2&&Cm y then 29 else([31,28,31,30,31,30,31,31,30,31,30,31]:List Int).getD (m-1).toNat 0
def Ak(y:Int):Int:=365*(y-1)+(y-1).tdiv 4-(y-1).tdiv 100+(y-1).tdiv 400
theorem Mo(y:Int)(h0:0≤y)(h1:y≤100000)(w:World):Calls Tryz.prog 265 #[.int .i64 y] w fun e w'=>e= .returned (.bool (Cm y))∧w'=w:=by
 have b4:=Int.tmod_lt_of_pos y (b:=4) (by decide);have b100:=Int.tmod_lt_of_pos y (b:=100) (by decide);have b400:=Int.tmod_lt_of_pos y (b:=400) (by decide);have c4:=Int.tmod_nonneg (a:=y) 4 h0;have c100:=Int.tmod_nonneg (a:=y) 100 h0;have c400:=Int.tmod_nonneg (a:=y) 400 h0;unfold Cm;generalize e4:y.tmod 4=a at*;generalize e100:y.tmod 100=b at*;generalize e400:y.tmod 400=c at*;by_cases h4:a=0
 ·by_cases h100:b=0
  ·go_enter func265,ntmps265;go_wp2;go_ret;exact⟨by simp[h4,h100],rfl⟩
  ·go_enter func265,ntmps265;go_wp2;go_ret;exact⟨by simp[h4,h100],rfl⟩
 ·go_enter func265,ntmps265;go_wp2;go_ret;exact⟨by simp[h4],rfl⟩
theorem Kp(y:Int)(h0:0≤y)(h1:y≤100000)(w:World):Calls Tryz.prog 229 #[.int .i64 y] w fun e w'=>e= .returned (.int .i64 (Ak y))∧w'=w:=by
 have hb4: -100000≤(y-1).tdiv 4∧(y-1).tdiv 4≤100000:=by
  rcases Int.lt_or_le y 1 with h|h
  ·have:y=0:=by omega
   subst this;decide
  ·rw[Int.tdiv_eq_ediv_of_nonneg (by omega)];omega
 have hb100: -100000≤(y-1).tdiv 100∧(y-1).tdiv 100≤100000:=by
  rcases Int.lt_or_le y 1 with h|h
  ·have:y=0:=by omega
   subst this;decide
  ·rw[Int.tdiv_eq_ediv_of_nonneg (by omega)];omega
 have hb400: -100000≤(y-1).tdiv 400∧(y-1).tdiv 400≤100000:=by
  rcases Int.lt_or_le y 1 with h|h
  ·have:y=0:=by omega
   subst this;decide
  ·rw[Int.tdiv_eq_ediv_of_nonneg (by omega)];omega
 unfold Ak;generalize e4:(y-1).tdiv 4=a at*;generalize e100:(y-1).tdiv 100=b at*;generalize e400:(y-1).tdiv 400=c at*;go_enter func229,ntmps229;go_wp2;go_ret;exact⟨rfl,rfl⟩
theorem F7(y m:Int)(h0:0≤y)(h1:y≤100000)(hm0:1≤m)(hm1:m≤12)(w:World):Calls Tryz.prog 230 #[.int .i64 y,.int .i64 m] w fun e w'=>e= .returned (.int .i64 (AW y m))∧w.grownBy w' none:=by
 have hm:m=1∨m=2∨m=3∨m=4∨m=5∨m=6∨m=7∨m=8∨m=9∨m=10∨m=11∨m=12:=by omega
 rcases hm with rfl|rfl|rfl|rfl|rfl|rfl|rfl|rfl|rfl|rfl|rfl|rfl
 case inr.inl=>
  go_enter func230,ntmps230;go_wp2_with fail;refine(Mo y h0 h1 _).mono ?_;rintro e w1 ⟨rfl,rfl⟩;cases hl:Cm y with
  | true=>
    go_wp2;go_ret;exact⟨by simp[AW,hl],(by repeat(first| (with_reducible exact Ac _ _)| (with_reducible assumption)| (with_reducible exact AU (by assumption))| (with_reducible refine Ad ?_ _)| (with_reducible refine Am ?_)| (with_reducible refine A3 ?_ _)| ((with_reducible refine Ay ?_ _ _ ?h2);case h2=>first|exact .inl rfl|exact .inr (Nat.le_refl _)|exact .inr (by simp<;>omega))| (with_reducible refine Ah ?_ (by assumption))| (with_reducible refine Aa ?_ (by assumption))))⟩
  | false=>
    go_wp2;go_ret;exact⟨by simp[AW,hl],(by repeat(first| (with_reducible exact Ac _ _)| (with_reducible assumption)| (with_reducible exact AU (by assumption))| (with_reducible refine Ad ?_ _)| (with_reducible refine Am ?_)| (with_reducible refine A3 ?_ _)| ((with_reducible refine Ay ?_ _ _ ?h2);case h2=>first|exact .inl rfl|exact .inr (Nat.le_refl _)|exact .inr (by simp<;>omega))| (with_reducible refine Ah ?_ (by assumption))| (with_reducible refine Aa ?_ (by assumption))))⟩
 all_goals
  go_enter func230,ntmps230;go_wp2;go_ret;exact⟨rfl,(by repeat(first| (with_reducible exact Ac _ _)| (with_reducible assumption)| (with_reducible exact AU (by assumption))| (with_reducible refine Ad ?_ _)| (with_reducible refine Am ?_)| (with_reducible refine A3 ?_ _)| ((with_reducible refine Ay ?_ _ _ ?h2);case h2=>first|exact .inl rfl|exact .inr (Nat.le_refl _)|exact .inr (by simp<;>omega))| (with_reducible refine Ah ?_ (by assumption))| (with_reducible refine Aa ?_ (by assumption))))⟩
theorem Ew(y m:Int)(hm0:1≤m)(hm1:m≤12):0≤AW y m∧AW y m≤31:=by
 have hm:m=1∨m=2∨m=3∨m=4∨m=5∨m=6∨m=7∨m=8∨m=9∨m=10∨m=11∨m=12:=by omega
 unfold AW;rcases hm with rfl|rfl|rfl|rfl|rfl|rfl|rfl|rfl|rfl|rfl|rfl|rfl<;>(try split)<;>decide
def Ap(y:Int):Nat→Int
 | 0=>0
 |k+1=>Ap y k+AW y (k+1)
theorem Fe(y:Int):∀k:Nat,k≤12→0≤Ap y k∧Ap y k≤31*k:=by
 intro k;induction k with
 |zero=>intro _;simp[Ap]
 | succ k ih=>
   intro hk;have h1:=ih (by omega);have h2:=Ew y (k+1) (by omega) (by omega);unfold Ap;omega
def Ca(y m d:Int):Bool:=decide (y<1)||decide (9999<y)||decide (m<1)||decide (12<m)||decide (d<1)||decide (AW y m<d)
def AH(y m d:Int):Int×Int:=if Ca y m d then(0,1)else(Ak y+d+Ap y (m-1).toNat,0)
theorem PU(y m d:Int)(hy0:0≤y)(hy1:y≤9999)(hm0:0≤m)(hm1:m≤99)(hd0:0≤d)(hd1:d≤99)(w:World):
 Calls Tryz.prog 274 #[.int .i64 y,.int .i64 m,.int .i64 d] w fun e w'=>e= .returned (.tuple #[.int .i64 (AH y m d).1,.int .i64 (AH y m d).2])∧w.grownBy w' none:=by
 by_cases h1:y<1
 ·have hB:AH y m d=(0,1):=by simp[AH,Ca,h1]
  rw[hB];go_enter func274,ntmps274;go_wp2;exact bodyPost_ret (v:= .tuple #[_,_]) (by simp[results,results274,go_sem];try(congr 1;omega)) rfl ⟨rfl,Ac _ _⟩
 by_cases h2:m<1
 ·have hB:AH y m d=(0,1):=by simp[AH,Ca,h2]
  rw[hB];go_enter func274,ntmps274;go_wp2;exact bodyPost_ret (v:= .tuple #[_,_]) (by simp[results,results274,go_sem];try(congr 1;omega)) rfl ⟨rfl,Ac _ _⟩
 by_cases h3:12<m
 ·have hB:AH y m d=(0,1):=by simp[AH,Ca,h3]
  rw[hB];go_enter func274,ntmps274;go_wp2;exact bodyPost_ret (v:= .tuple #[_,_]) (by simp[results,results274,go_sem];try(congr 1;omega)) rfl ⟨rfl,Ac _ _⟩
 by_cases h4:d<1
 ·have hB:AH y m d=(0,1):=by simp[AH,Ca,h4]
  rw[hB];go_enter func274,ntmps274;go_wp2;exact bodyPost_ret (v:= .tuple #[_,_]) (by simp[results,results274,go_sem];try(congr 1;omega)) rfl ⟨rfl,Ac _ _⟩
 have hml:=Ew y m (by omega) (by omega);have hyl:0≤Ak y∧Ak y≤4000000:=by
  unfold Ak;rw[Int.tdiv_eq_ediv_of_nonneg (by omega),Int.tdiv_eq_ediv_of_nonneg (by omega),Int.tdiv_eq_ediv_of_nonneg (by omega)];omega
 by_cases h5:AW y m<d
 ·have hB:AH y m d=(0,1):=by simp[AH,Ca,h5]
  rw[hB];go_enter func274,ntmps274;go_wp2_with fail;refine(F7 y m (by omega) (by omega) (by omega) (by omega) _).mono ?_;rintro e w1 ⟨rfl,g1⟩;go_wp2;exact bodyPost_ret (v:= .tuple #[_,_]) (by simp[results,results274,go_sem];try(congr 1;omega)) rfl ⟨rfl,g1⟩
 have hB:AH y m d=(Ak y+d+Ap y (m-1).toNat,0):=by simp[AH,Ca,h1,h2,h3,h4,h5];omega
 rw[hB];clear hB;go_enter func274,ntmps274;go_wp2_with fail;refine(F7 y m (by omega) (by omega) (by omega) (by omega) _).mono ?_;rintro e w1 ⟨rfl,g1⟩;go_wp2_with fail;refine(Kp y (by omega) (by omega) _).mono ?_;rintro e w2 ⟨rfl,rfl⟩;go_wp2_with fail;generalize hM:(m-1).toNat=M at*;go_loopg [8,9,41] M (fun g v8 v9 v41 wr=>∃k:Nat,k+g=M∧v8= .int .i64 (Ak y+d+Ap y k)∧v41= .int .i64 k∧w.grownBy wr none)
 case atStart=>exact⟨0,by omega,by simp[Ap],rfl,g1⟩
 case round=>
  obtain⟨k,hk,rfl,rfl,gr⟩:=hrel;have hbl:=Fe y k (by omega);cases gk with
  | zero=>
    have hkM:k=M:=by omega
    subst hkM;go_wp2;exact bodyPost_ret (v:= .tuple #[_,_]) (by simp[results,results274,go_sem];try(congr 1;omega)) rfl ⟨rfl,gr⟩
  | succ gk=>
    go_wp2_with fail;refine(F7 y (k+1) (by omega) (by omega) (by omega) (by omega) _).mono ?_;rintro e w3 ⟨rfl,g3⟩;have hm2:=Ew y (k+1) (by omega) (by omega);go_wp2_with fail;go_roundg gk
    case measure=>omega
    case rel=>exact⟨k+1,by omega,by simp[Ap];omega,by simp,Aa gr g3⟩
def AF(b:UInt8):Bool:=decide (48≤b.toNat)&&decide (b.toNat≤57)
theorem RB(s:Bs)(k:Nat)(h:k<(⟨s.toArray⟩:ByteArray).size)(h2:k<s.length):(⟨s.toArray⟩:ByteArray)[k]'h=s[k]:=rfl
theorem FT(s:Bs)(k:Nat)(h:k<s.length):Aq (s.take (k+1))=10*Aq (s.take k)+((s[k].toNat:Int)-48):=by
 unfold Aq;rw[List.take_succ_eq_append_getElem h,List.foldl_append];rfl
theorem CQ(s:Bs)(hd:s.all AF=true):∀k,k≤s.length→0≤Aq (s.take k)∧Aq (s.take k)<10 ^ k:=by
 intro k;induction k with
 |zero=>intro _;simp[Aq]
 | succ k ih=>
   intro hk;have h1:=ih (by omega);have h2:=List.all_eq_true.1 hd s[k] (List.getElem_mem _);simp[AF]at h2;rw[FT s k (by omega),Int.pow_succ];omega
theorem Lp(s:Bs)(hd:s.all AF=true):Lib.trimLeftS s [32]=s:=by
 cases s with
 |nil=>rfl
 | cons c t=>
   simp[AF]at hd;have:c≠32:=by rintro rfl;simp at hd
   simp[Lib.trimLeftS,this]
theorem GF(s:Bs)(hd:s.all AF=true)(h0:1≤s.length)(h8:s.length≤8)(w:World):
 Calls Tryz.prog 275 #[str s] w fun e w'=>e= .returned (.int .i64 (Aq s))∧w.grownBy w' none:=by
 cases s with
 |nil=>simp at h0
 |cons c t=>
 have hc:=List.all_eq_true.1 hd c (by simp);have hg:=Jy c t;simp[AF]at hc;obtain⟨hc1,hc2⟩:=hc;have h45:((c.toNat:Int)==45)=false:=by simp;omega
 have h43:((c.toNat:Int)==43)=false:=by simp;omega
 have H:=O hd;have h8':t.length≤7:=by simpa using h8
 go_enter func275,ntmps275;go_wp2_with fail;refine(strings_TrimLeft ⟨(c::t).toArray⟩ ⟨#[32]⟩ _ (by decide) (ascii_of_all (by decide))).mono ?_;rintro e w1 ⟨rfl,hb⟩;have gr:=gbB hb none;rw[show Lib.trimLeftS (ByteArray.mk (c::t).toArray).data.toList (ByteArray.mk #[32]).data.toList=c::t from Lp _ H.out];clear hb;go_wp2_with fail;go_loopg [4,5,27] (c::t).length (fun g v4 v5 v27 wr=>∃k:Nat,k+g=(c::t).length∧v4= .int .i64 (Aq ((c::t).take k))∧v27= .int .i64 k∧w.grownBy wr none)
 case atStart=>exact⟨0,by omega,by simp[Aq],rfl,gr⟩
 case round=>
  obtain⟨k,hk,rfl,rfl,g⟩:=hrel;have hnl:0≤Aq ((c::t).take k)∧Aq ((c::t).take k)<100000000:=by
   have h1:=CQ (c::t) H.out k (by omega);have h2:(10:Int) ^ k≤10 ^ 8:=by exact_mod_cast Nat.pow_le_pow_right (n:=10) (by decide) (by simp only[List.length_cons]at hk;omega:k≤8)
   have h3:(10:Int) ^ 8=100000000:=by decide
   omega
  cases gk with
  | zero=>
    have hkM:k=t.length+1:=by simpa using hk
    rw[List.take_of_length_le (by simp;omega)]at*;generalize hzz:Aq (c::t)=z at*;have HZ:=O hzz;clear hzz;have hnlt:((k:Int)<(t.length:Int)+1)=False:=by simp;omega
    clear hk hkM;go_wp2;go_ret;exact⟨by rw[HZ.out];rfl,g⟩
  | succ gk=>
    have hlt:k<(c::t).length:=by omega
    have hx:=List.all_eq_true.1 H.out (c::t)[k] (List.getElem_mem _);simp only[AF,Bool.and_eq_true,decide_eq_true_eq]at hx;obtain⟨hx1,hx2⟩:=hx;have hgk:=fun h=>RB (c::t) k h hlt;have hn1:=FT (c::t) k hlt;have hkl:(k:Int)<t.length+1:=by simp only[List.length_cons]at hlt;omega
    generalize hz:Aq ((c::t).take k)=z at*;generalize hq:(c::t)[k]=q at*;go_wp2_with fail;go_roundg gk
    case measure=>omega
    case rel=>exact⟨k+1,by omega,by rw[hn1];congr 1;omega,by simp,g⟩
def C6(l m:List Bs):Bool:=decide (l=m)
def BQ(h k:Hd):Bool:=decide (h=k)
def Bt:Fo→Fo→Bool
 | .nil,.nil=>true
 | .cons h k n,.cons h' k' n'=>(BQ h h'&&Bt k k')&&Bt n n'
 |_,_=>false
theorem OU:∀{f g:Fo},Bt f g=true→f.len=g.len:=by
 intro f;induction f with
 |nil=>intro g h;cases g with|nil=>rfl|cons=>cases h
 | cons hd kids next ih1 ih2=>
   intro g h;cases g with
   |nil=>cases h
   | cons h' k' n'=>
     simp only[Bt,Bool.and_eq_true]at h;simp[Fo.len,ih2 h.2]
theorem Nx:∀f:Fo,Bt f f=true:=by
 intro f;induction f with
 |nil=>rfl
 |cons hd kids next ih1 ih2=>simp[Bt,BQ,ih1,ih2]
theorem Mm(h k:Hd):BQ h k=(h.op==k.op&&h.s==k.s&&((h.vk==k.vk&&h.vn==k.vn)&&h.vs==k.vs)&&C6 h.p k.p):=by
 cases h;cases k;rw[Bool.eq_iff_iff];simp[BQ,C6,and_assoc]
theorem Cells.at1{w:World}{pa:Option Addr}{n pc:Nat}{l:List Bs}{ok:Nat→Prop}(h:Cells w (.slice pa n pc) 1 l.length (l.map str) ok):n=l.length∧∀k,k<l.length→∃g o,pa=some ⟨g,o,none⟩∧w.cell? ⟨g,o+k,none⟩=some (str (l.getD k [])):=by
 obtain⟨a,cap,e,_,_,_,h4⟩:=h;cases e;refine⟨rfl,fun k hk=>?_⟩;obtain⟨g,o,e,_,hc⟩:=h4 k (str (l.getD k [])) (by simp[List.getD,List.getElem?_eq_getElem hk]);exact⟨g,o,e,hc⟩
theorem L5{l m:List Bs}(h:l.length≠m.length):C6 l m=false:=by
 unfold C6;simp;rintro rfl;exact h rfl
theorem MN{l m:List Bs}{k:Nat}(h:l.getD k []≠m.getD k []):C6 l m=false:=by
 unfold C6;simp;rintro rfl;exact h rfl
theorem L4{l m:List Bs}(hn:l.length=m.length)(h:∀j,j<l.length→l.getD j []=m.getD j []):C6 l m=true:=by
 unfold C6;simp;apply List.ext_getElem hn;intro j h1 h2;have:=h j h1;simpa[List.getD,List.getElem?_eq_getElem h1,List.getElem?_eq_getElem h2]using this
theorem KC{w:World}{pa pb:Option Addr}{pc pd:Nat}{l m:List Bs}{ok ok':Nat→Prop}(h1:Cells w (.slice pa l.length pc) 1 l.length (l.map str) ok)(h2:Cells w (.slice pb m.length pd) 1 m.length (m.map str) ok'):
 Calls Tryz.prog 32 #[.slice pa l.length pc,.slice pb m.length pd] w fun e w'=>e= .returned (.bool (C6 l m))∧w.grownBy w' none:=by
 have hc1:=h1.at1.2;have hc2:=h2.at1.2;have hl:l.length≤maxLen:=by obtain⟨_,_,e,h3,h4,_⟩:=h1;omega
 unfold maxLen at hl;clear h1 h2;by_cases hn:l.length=m.length
 ·have HC:=O (Z hc1 hc2);clear hc1 hc2;have hnI:((l.length:Int) !=(m.length:Int))=false:=by simp;omega
  have hnI2:((l.length:Int)==(m.length:Int))=true:=by simp;omega
  have HN:=O hn;clear hn;go_enter func32,ntmps32;go_wp2_with fail;go_loopg [5] l.length (fun g v5 wr=>∃k:Nat,k+g=l.length∧v5= .int .i64 k∧(∀j,j<k→l.getD j []=m.getD j [])∧w.grownBy wr none)
  case atStart=>exact⟨0,by omega,rfl,fun j hj=>by omega,Ac _ _⟩
  case round=>
   obtain⟨k,hg,rfl,hp,hgr⟩:=hrel;by_cases hk:k<l.length
   ·obtain⟨g1,o1,rfl,c1⟩:=HC.out.1 k hk;obtain⟨g2,o2,rfl,c2⟩:=HC.out.2 k (by have:=HN.out;omega);have d1:=Af hgr c1;have d2:=Af hgr c2;have hkm:k<m.length:=by have:=HN.out;omega
    have hkI:decide (k<l.length)=true:=by simpa using hk
    have HP:=O hp;have HG:=O hgr;clear hp hgr c1 c2;generalize hs1:l.getD k []=s at*;generalize hs2:m.getD k []=t at*;by_cases he:s=t
    ·have HE:=O (show l.getD k []=m.getD k []by rw[hs1,hs2,he]);have he1:(s==t)=true:=by simpa using he
     have he2:(s !=t)=false:=by simpa using he
     clear he hs1 hs2;go_wp2_with fail;go_quiet(fail);go_wp2;go_roundg (l.length-(k+1))
     case measure=>omega
     case rel=>exact⟨k+1,by omega,by go_num,fun j hj=>by rcases Nat.lt_succ_iff_lt_or_eq.1 hj with h|rfl;exact HP.out j h;exact HE.out,A3 HG.out _⟩
    ·have HE:=O (MN (l:=l) (m:=m) (k:=k) (by rw[hs1,hs2];exact he));have he1:(s==t)=false:=by simpa using he
     have he2:(s !=t)=true:=by simpa using he
     clear he hs1 hs2;go_wp2_with fail;go_quiet(fail);go_wp2;go_ret;exact⟨by rw[HE.out];rfl,A3 HG.out _⟩
   ·have hkI:decide (k<l.length)=false:=by simpa using hk
    have HE:=O (L4 HN.out (fun j hj=>hp j (by omega)));have HG:=O hgr;clear hp hgr;go_wp2;go_ret;exact⟨by rw[HE.out];rfl,HG.out⟩
 ·have hnI:((l.length:Int) !=(m.length:Int))=true:=by simp;omega
  have hnI2:((l.length:Int)==(m.length:Int))=false:=by simp;omega
  have HN:=O (L5 hn);clear hn hc1 hc2;go_enter func32,ntmps32;go_wp2;go_ret;exact⟨by rw[HN.out];rfl,(by repeat(first| (with_reducible exact Ac _ _)| (with_reducible assumption)| (with_reducible exact AU (by assumption))| (with_reducible refine Ad ?_ _)| (with_reducible refine Am ?_)| (with_reducible refine A3 ?_ _)| ((with_reducible refine Ay ?_ _ _ ?h2);case h2=>first|exact .inl rfl|exact .inr (Nat.le_refl _)|exact .inr (by simp<;>omega))| (with_reducible refine Ah ?_ (by assumption))| (with_reducible refine Aa ?_ (by assumption))))⟩
theorem GW{w:World}{h h':Hd}{pa pb la lb:Option Addr}{pc pd ln lc lm ld:Nat}{ok ok':Nat→Prop}{b:Bool}(h1:Cells w (.slice pa h.p.length pc) 1 h.p.length (h.p.map str) ok)(h2:Cells w (.slice pb h'.p.length pd) 1 h'.p.length (h'.p.map str) ok')
 (HL:∀W,w.grownBy W none→Calls Tryz.prog 33 #[.slice la ln lc,.slice lb lm ld] W fun e w'=>e= .returned (.bool b)∧W.grownBy w' none):
 Calls Tryz.prog 11 #[exV h (.slice pa h.p.length pc) (.slice la ln lc),exV h' (.slice pb h'.p.length pd) (.slice lb lm ld)] w fun e w'=>e= .returned (.bool (BQ h h'&&b))∧w.grownBy w' none:=by
 have HH:=O (Mm h h');have HT:=O (fun(W:World)(g:w.grownBy W none)=>KC (h1.gb g (by simp)) (h2.gb g (by simp)));have HL':=O HL;clear HL h1 h2;obtain⟨op,s,vk,vn,vs,p⟩:=h;obtain⟨op',s',vk',vn',vs',p'⟩:=h';simp only at HH HT ⊢;cases c1:(op==op')with
 | false=>
   have HF:=O (show(BQ ⟨op,s,vk,vn,vs,p⟩ ⟨op',s',vk',vn',vs',p'⟩&&b)=false by rw[HH.out,c1];simp);go_enter func11,ntmps11;go_wp2;go_ret;exact⟨by rw[HF.out];rfl,(by repeat(first| (with_reducible exact Ac _ _)| (with_reducible assumption)| (with_reducible exact AU (by assumption))| (with_reducible refine Ad ?_ _)| (with_reducible refine Am ?_)| (with_reducible refine A3 ?_ _)| ((with_reducible refine Ay ?_ _ _ ?h2);case h2=>first|exact .inl rfl|exact .inr (Nat.le_refl _)|exact .inr (by simp<;>omega))| (with_reducible refine Ah ?_ (by assumption))| (with_reducible refine Aa ?_ (by assumption))))⟩
 | true=>
   cases c2:(s==s')with
   | false=>
     have HF:=O (show(BQ ⟨op,s,vk,vn,vs,p⟩ ⟨op',s',vk',vn',vs',p'⟩&&b)=false by rw[HH.out,c1,c2];simp);go_enter func11,ntmps11;go_wp2;go_ret;exact⟨by rw[HF.out];rfl,(by repeat(first| (with_reducible exact Ac _ _)| (with_reducible assumption)| (with_reducible exact AU (by assumption))| (with_reducible refine Ad ?_ _)| (with_reducible refine Am ?_)| (with_reducible refine A3 ?_ _)| ((with_reducible refine Ay ?_ _ _ ?h2);case h2=>first|exact .inl rfl|exact .inr (Nat.le_refl _)|exact .inr (by simp<;>omega))| (with_reducible refine Ah ?_ (by assumption))| (with_reducible refine Aa ?_ (by assumption))))⟩
   | true=>
     by_cases hk:vk=vk'
     ·subst hk;by_cases hn:vn=vn'
      ·subst hn;by_cases hs:vs=vs'
       ·subst hs;have HF:=O (show(BQ ⟨op,s,vk,vn,vs,p⟩ ⟨op',s',vk,vn,vs,p'⟩&&b)=(C6 p p'&&b)by rw[HH.out,c1,c2];simp);rw[HF.out];clear HH HF;cases c4:C6 p p' with
        | false=>
          have HB:=O c4;rw[c4]at HT;clear c4;go_enter func11,ntmps11;go_wp2_with fail;refine(HT.out _ ?gg).mono ?_
          case gg=>exact (by repeat(first| (with_reducible exact Ac _ _)| (with_reducible assumption)| (with_reducible exact AU (by assumption))| (with_reducible refine Ad ?_ _)| (with_reducible refine Am ?_)| (with_reducible refine A3 ?_ _)| ((with_reducible refine Ay ?_ _ _ ?h2);case h2=>first|exact .inl rfl|exact .inr (Nat.le_refl _)|exact .inr (by simp<;>omega))| (with_reducible refine Ah ?_ (by assumption))| (with_reducible refine Aa ?_ (by assumption))))
          rintro e w1 ⟨rfl,g1⟩;have gwx:w.grownBy w1 none:=Aa (Ad (World.grownBy_alloc w _ none) _) g1;go_wp2;go_ret;exact⟨rfl,gwx⟩
        | true=>
          have HB:=O c4;rw[c4]at HT;clear c4;go_enter func11,ntmps11;go_wp2_with fail;refine(HT.out _ ?gg).mono ?_
          case gg=>exact (by repeat(first| (with_reducible exact Ac _ _)| (with_reducible assumption)| (with_reducible exact AU (by assumption))| (with_reducible refine Ad ?_ _)| (with_reducible refine Am ?_)| (with_reducible refine A3 ?_ _)| ((with_reducible refine Ay ?_ _ _ ?h2);case h2=>first|exact .inl rfl|exact .inr (Nat.le_refl _)|exact .inr (by simp<;>omega))| (with_reducible refine Ah ?_ (by assumption))| (with_reducible refine Aa ?_ (by assumption))))
          rintro e w1 ⟨rfl,g1⟩;have gwx:w.grownBy w1 none:=Aa (Ad (World.grownBy_alloc w _ none) _) g1;have x6:=(((Blk.new w [.int .i64 op,str s,.int .i64 vk,.int .i64 vn,str vs,.slice pa p.length pc,.slice la ln lc] 27).alloc _).gb g1 (by simp)).cell 6;have y6:=(show Blk w1 (w.heap.size+1) [.int .i64 op',str s',.int .i64 vk,.int .i64 vn,str vs,.slice pb p'.length pd,.slice lb lm ld] 27 from((Blk.new _ _ _).of_eq (by simp) rfl).gb g1 (by simp)).cell 6;simp only[List.getElem?_cons_zero,List.getElem?_cons_succ]at x6 y6;go_wp2_with fail;refine(HL'.out _ gwx).mono ?_;rintro e w2 ⟨rfl,g2⟩;go_wp2;go_ret;exact⟨rfl,Aa gwx g2⟩
       ·have HF:=O (show(BQ ⟨op,s,vk,vn,vs,p⟩ ⟨op',s',vk,vn,vs',p'⟩&&b)=false by rw[HH.out,c1,c2];simp[hs]);go_enter func11,ntmps11;go_wp2;go_ret;exact⟨by rw[HF.out];rfl,(by repeat(first| (with_reducible exact Ac _ _)| (with_reducible assumption)| (with_reducible exact AU (by assumption))| (with_reducible refine Ad ?_ _)| (with_reducible refine Am ?_)| (with_reducible refine A3 ?_ _)| ((with_reducible refine Ay ?_ _ _ ?h2);case h2=>first|exact .inl rfl|exact .inr (Nat.le_refl _)|exact .inr (by simp<;>omega))| (with_reducible refine Ah ?_ (by assumption))| (with_reducible refine Aa ?_ (by assumption))))⟩
      ·have HF:=O (show(BQ ⟨op,s,vk,vn,vs,p⟩ ⟨op',s',vk,vn',vs',p'⟩&&b)=false by rw[HH.out,c1,c2];simp[hn]);go_enter func11,ntmps11;go_wp2;go_ret;exact⟨by rw[HF.out];rfl,(by repeat(first| (with_reducible exact Ac _ _)| (with_reducible assumption)| (with_reducible exact AU (by assumption))| (with_reducible refine Ad ?_ _)| (with_reducible refine Am ?_)| (with_reducible refine A3 ?_ _)| ((with_reducible refine Ay ?_ _ _ ?h2);case h2=>first|exact .inl rfl|exact .inr (Nat.le_refl _)|exact .inr (by simp<;>omega))| (with_reducible refine Ah ?_ (by assumption))| (with_reducible refine Aa ?_ (by assumption))))⟩
     ·have HF:=O (show(BQ ⟨op,s,vk,vn,vs,p⟩ ⟨op',s',vk',vn',vs',p'⟩&&b)=false by rw[HH.out,c1,c2];simp[hk]);go_enter func11,ntmps11;go_wp2;go_ret;exact⟨by rw[HF.out];rfl,(by repeat(first| (with_reducible exact Ac _ _)| (with_reducible assumption)| (with_reducible exact AU (by assumption))| (with_reducible refine Ad ?_ _)| (with_reducible refine Am ?_)| (with_reducible refine A3 ?_ _)| ((with_reducible refine Ay ?_ _ _ ?h2);case h2=>first|exact .inl rfl|exact .inr (Nat.le_refl _)|exact .inr (by simp<;>omega))| (with_reducible refine Ah ?_ (by assumption))| (with_reducible refine Aa ?_ (by assumption))))⟩
def Fo.wt:Fo→Nat
 | .nil=>0
 | .cons _ kids next=>1+kids.wt+next.wt
theorem RepF.elem{ok:Nat→Prop}{w:World}{la:Option Addr}{n lc:Nat}{cs:List Value}{f:Fo}{h:Hd}{kids next:Fo}{k:Nat}(hc:∀j u,cs[j]? =some u→∃g o,la=some ⟨g,o,none⟩∧ok g∧w.cell? ⟨g,o+j,none⟩=some u)
 (hr:RepF ok w (.cons h kids next) (cs.drop (k*7))):∃pa pc lb ld,Cells w (.slice pa h.p.length pc) 1 h.p.length (h.p.map str) ok∧RepL ok w (.slice lb kids.len ld) kids∧RepF ok w next (cs.drop ((k+1)*7))∧
  ∀i u,(hdC h (.slice pa h.p.length pc) (.slice lb kids.len ld))[i]? =some u→∃g o,la=some ⟨g,o,none⟩∧ok g∧w.cell? ⟨g,o+(k*7+i),none⟩=some u:=by
 obtain⟨pv,lv,kcs,rcs,hcs,hp,hl,hkids,hnext⟩:=hr;have hp':=hp;have hl':=hl;obtain⟨pa,pc,rfl,_⟩:=hp;obtain⟨lb,ld,rfl,_⟩:=hl;refine⟨pa,pc,lb,ld,hp',⟨kcs,hl',hkids⟩,?_,?_⟩
 ·have e : cs.drop ((k + 1) * 7) = rcs := by
   rw[show(k+1)*7=k*7+7 by omega,←List.drop_drop,hcs];exact List.drop_left' rfl
  rw[e];exact hnext
 ·intro i u hu;refine hc (k*7+i) u ?_;have:cs[k*7+i]? =(cs.drop (k*7))[i]?:=by simp
  rw[this,hcs,List.getElem?_append_left (by have:=(List.getElem?_eq_some_iff.1 hu).1;exact this)];exact hu
theorem Kl:∀(N:Nat)(f g:Fo),f.wt<N→∀(ok ok':Nat→Prop)(la lb:Option Addr)(lc ld:Nat)(w:World),RepL ok w (.slice la f.len lc) f→RepL ok' w (.slice lb g.len ld) g→
 Calls Tryz.prog 33 #[.slice la f.len lc,.slice lb g.len ld] w fun e w'=>e= .returned (.bool (Bt f g))∧w.grownBy w' none:=by
 intro N;induction N with
 |zero=>intro f g hN;omega
 | succ N ih=>
   intro f g hN ok ok' la lb lc ld w hf hg;by_cases hlen:f.len=g.len
   ·obtain⟨cs,hc1,hr1⟩:=hf;obtain⟨ds,hc2,hr2⟩:=hg;obtain⟨_,_,e,hle,hmx,_,hc1⟩:=hc1;cases e;obtain⟨_,_,e,_,_,_,hc2⟩:=hc2;cases e;have hmax:f.len≤maxLen:=by omega
    unfold maxLen at hmax;clear hle hmx;have hnI:((f.len:Int) !=(g.len:Int))=false:=by simp;omega
    have hnI2:((f.len:Int)==(g.len:Int))=true:=by simp;omega
    have HC:=O (Z hc1 (Z hc2 (Z ih hlen)));have HR:=O (Z hr1 hr2);clear hc1 hc2 ih hlen hr1 hr2;go_enter func33,ntmps33;go_wp2_with fail;go_loopg [5] f.len (fun n v5 wr=>∃rf rg:Fo,∃k:Nat,rf.len=n∧k+n=f.len∧rf.len=rg.len∧v5= .int .i64 k∧rf.wt≤f.wt∧Bt f g=Bt rf rg∧RepF ok w rf (cs.drop (k*7))∧RepF ok' w rg (ds.drop (k*7))∧w.grownBy wr none)
    case atStart=>exact⟨f,g,0,rfl,by omega,HC.out.2.2.2,rfl,Nat.le_refl _,rfl,by simpa using HR.out.1,by simpa using HR.out.2,Ac _ _⟩
    case round=>
     obtain⟨rf,rg,k,hn,hk,hl,rfl,hno,hs,hrf,hrg,hgr⟩:=hrel;clear HR;cases rf with
     | nil=>
       cases rg with
       |cons=>simp[Fo.len]at hl
       | nil=>
         have hkI:decide (k<f.len)=false:=by simp[Fo.len]at hn;simp;omega
         have HS:=O (show Bt f g=true by rw[hs];rfl);have HG:=O hgr;clear hs hgr hn hl hrf hrg;go_wp2;go_ret;exact⟨by rw[HS.out];rfl,HG.out⟩
     | cons h1 k1 n1=>
       cases rg with
       |nil=>simp[Fo.len]at hl
       | cons h2 k2 n2=>
         simp only[Fo.len]at hn hl;simp only[Fo.wt]at hno;subst hn;obtain⟨pa1,pc1,lb1,ld1,hp1,hl1,hx1,ha1⟩:=RepF.elem (n:=f.len) (lc:=lc) (f:=f) HC.out.1 hrf;obtain⟨pa2,pc2,lb2,ld2,hp2,hl2,hx2,ha2⟩:=RepF.elem (n:=g.len) (lc:=ld) (f:=g) HC.out.2.1 hrg;have hkI:decide (k<f.len)=true:=by simp;omega
         have hkg:k<g.len:=by have:=HC.out.2.2.2;omega
         have hkf:k+1≤f.len:=by omega
         have HS:=O (Z (show Bt f g=((BQ h1 h2&&Bt k1 k2)&&Bt n1 n2)from hs) (show n1.len=n2.len by omega));have HE:=O (fun(W:World)(gW:wr.grownBy W none)=>GW (hp1.gb (Aa hgr gW) (by simp)) (hp2.gb (Aa hgr gW) (by simp)) (b:=Bt k1 k2) (fun W2 gW2=>HC.out.2.2.1 k1 k2 (by omega) ok ok' lb1 lb2 ld1 ld2 W2 (hl1.gb (Aa hgr (Aa gW gW2)) (by simp)) (hl2.gb (Aa hgr (Aa gW gW2)) (by simp))));have HN:=O (Z (show n1.wt≤f.wt by omega) (Z hx1 (Z hx2 hgr)));clear hs hl hno hrf hrg hp1 hl1 hx1 hp2 hl2 hx2;obtain⟨g1,o1,rfl,hokz,y0⟩:=ha1 0 _ rfl;obtain⟨_,_,e1,_,y1⟩:=ha1 1 _ rfl;cases e1;obtain⟨_,_,e1,_,y2⟩:=ha1 2 _ rfl;cases e1;obtain⟨_,_,e1,_,y3⟩:=ha1 3 _ rfl;cases e1;obtain⟨_,_,e1,_,y4⟩:=ha1 4 _ rfl;cases e1;obtain⟨_,_,e1,_,y5⟩:=ha1 5 _ rfl;cases e1;obtain⟨_,_,e1,_,y6⟩:=ha1 6 _ rfl;cases e1;have hglz:=World.block_lt_of_cell? w _ y0;have z0:=Af hgr y0;have z1:=Af hgr y1;have z2:=Af hgr y2;have z3:=Af hgr y3;have z4:=Af hgr y4;have z5:=Af hgr y5;have z6:=Af hgr y6;simp only[Nat.add_zero,←Nat.add_assoc]at z0 z1 z2 z3 z4 z5 z6;clear y0 y1 y2 y3 y4 y5 y6;obtain⟨g2,o2,rfl,hokt,y0⟩:=ha2 0 _ rfl;obtain⟨_,_,e1,_,y1⟩:=ha2 1 _ rfl;cases e1;obtain⟨_,_,e1,_,y2⟩:=ha2 2 _ rfl;cases e1;obtain⟨_,_,e1,_,y3⟩:=ha2 3 _ rfl;cases e1;obtain⟨_,_,e1,_,y4⟩:=ha2 4 _ rfl;cases e1;obtain⟨_,_,e1,_,y5⟩:=ha2 5 _ rfl;cases e1;obtain⟨_,_,e1,_,y6⟩:=ha2 6 _ rfl;cases e1;have hglt:=World.block_lt_of_cell? w _ y0;have t0:=Af hgr y0;have t1:=Af hgr y1;have t2:=Af hgr y2;have t3:=Af hgr y3;have t4:=Af hgr y4;have t5:=Af hgr y5
         have t6:=Af hgr y6;simp only[Nat.add_zero,←Nat.add_assoc]at t0 t1 t2 t3 t4 t5 t6;clear y0 y1 y2 y3 y4 y5 y6;clear ha1 ha2 hgr;have hws:=HN.out.2.2.2.size;cases hb:(BQ h1 h2&&Bt k1 k2)with
         | true=>
           rw[hb]at HE;have HB:=O (show Bt f g=Bt n1 n2 by rw[HS.out.1,hb];rfl);clear hb;go_wp2_with fail;go_region_with(go_at_call 11;refine(HE.out _ ?gg).mono ?_;(case gg=>exact (by repeat(first| (with_reducible exact Ac _ _)| (with_reducible assumption)| (with_reducible exact AU (by assumption))| (with_reducible refine Ad ?_ _)| (with_reducible refine Am ?_)| (with_reducible refine A3 ?_ _)| ((with_reducible refine Ay ?_ _ _ ?h2);case h2=>first|exact .inl rfl|exact .inr (Nat.le_refl _)|exact .inr (by simp<;>omega))| (with_reducible refine Ah ?_ (by assumption))| (with_reducible refine Aa ?_ (by assumption)))));rintro e w5 ⟨rfl,g5⟩);all_goals
            go_wp2;go_roundg n1.len
            case measure=>omega
            case rel=>exact⟨n1,n2,k+1,rfl,by omega,HS.out.2,by go_num,HN.out.1,HB.out,HN.out.2.1,HN.out.2.2.1,Aa (A3 HN.out.2.2.2 _) g5⟩
         | false=>
           rw[hb]at HE;have HB:=O (show Bt f g=false by rw[HS.out.1,hb];rfl);clear hb;go_wp2_with fail;go_region_with(go_at_call 11;refine(HE.out _ ?gg).mono ?_;(case gg=>exact (by repeat(first| (with_reducible exact Ac _ _)| (with_reducible assumption)| (with_reducible exact AU (by assumption))| (with_reducible refine Ad ?_ _)| (with_reducible refine Am ?_)| (with_reducible refine A3 ?_ _)| ((with_reducible refine Ay ?_ _ _ ?h2);case h2=>first|exact .inl rfl|exact .inr (Nat.le_refl _)|exact .inr (by simp<;>omega))| (with_reducible refine Ah ?_ (by assumption))| (with_reducible refine Aa ?_ (by assumption)))));rintro e w5 ⟨rfl,g5⟩);all_goals
            go_wp2;go_ret;exact⟨by rw[HB.out];rfl,Aa (A3 HN.out.2.2.2 _) g5⟩
   ·have hnI:((f.len:Int) !=(g.len:Int))=true:=by simp;omega
    have hnI2:((f.len:Int)==(g.len:Int))=false:=by simp;omega
    have HN:=O (show Bt f g=false by cases h:Bt f g with|false=>rfl|true=>exact absurd (OU h) hlen);clear hlen hf hg ih;go_enter func33,ntmps33;go_wp2;go_ret;exact⟨by rw[HN.out];rfl,(by repeat(first| (with_reducible exact Ac _ _)| (with_reducible assumption)| (with_reducible exact AU (by assumption))| (with_reducible refine Ad ?_ _)| (with_reducible refine Am ?_)| (with_reducible refine A3 ?_ _)| ((with_reducible refine Ay ?_ _ _ ?h2);case h2=>first|exact .inl rfl|exact .inr (Nat.le_refl _)|exact .inr (by simp<;>omega))| (with_reducible refine Ah ?_ (by assumption))| (with_reducible refine Aa ?_ (by assumption))))⟩
end Go.Proofs.YtgjdhajcnechdaaGreatDoor
