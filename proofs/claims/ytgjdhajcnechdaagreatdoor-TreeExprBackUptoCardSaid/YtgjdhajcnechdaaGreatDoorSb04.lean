/-
  SameExprs of the reference: rows of expressions. Plain laws: an expression that is right is read from the tokens that it is written as. No program, no world. Rows of expressions that are looked throug
-/
import Derived.Test.YtgjdhajcnechdaaGreatDoorSb03
import Derived.Test.YtgjdhajcnechdaaGreatDoorSb01
set_option linter.all false
set_option maxRecDepth 100000
set_option maxHeartbeats 8000000
namespace Go.Proofs.YtgjdhajcnechdaaGreatDoor
open Go.Proofs.Tryz
open Go.RowKit
def Fo.wt:Fo→Nat
 | .nil=>0
 | .cons _ kids next=>1+kids.wt+next.wt
theorem RepF.elem{ok:Nat→Prop}{w:World}{la:Option Addr}{n lc:Nat}{cs:List Value}{f:Fo}{h:Hd}{kids next:Fo}{k:Nat}(hc:∀j u,cs[j]? =some u→∃g o,la=some ⟨g,o,none⟩∧ok g∧w.cell? ⟨g,o+j,none⟩=some u)
 (hr:RepF ok w (.cons h kids next) (cs.drop (k*7))):∃pa pc lb ld,Cells w (.slice pa h.p.length pc) 1 h.p.length (h.p.map str) ok∧RepL ok w (.slice lb kids.len ld) kids∧RepF ok w next (cs.drop ((k+1)*7))∧
  ∀i u,(hdC h (.slice pa h.p.length pc) (.slice lb kids.len ld))[i]? =some u→∃g o,la=some ⟨g,o,none⟩∧ok g∧w.cell? ⟨g,o+(k*7+i),none⟩=some u:=by
 obtain⟨pv,lv,kcs,rcs,hcs,hp,hl,hkids,hnext⟩:=hr;have hp':=hp;have hl':=hl;obtain⟨pa,pc,rfl,_⟩:=hp;obtain⟨lb,ld,rfl,_⟩:=hl;refine⟨pa,pc,lb,ld,hp',⟨kcs,hl',hkids⟩,?_,?_⟩
 ·have e : cs.drop ((k + 1) * 7) = rcs := by
   rw[show(k+1)*7=k*7+7 by omega,←List.drop_drop,hcs];exact List.drop_left' rfl
  rw[e];exact hnext
 ·intro i u hu;refine hc (k*7+i) u ?_;have:cs[k*7+i]? =(cs.drop (k*7))[i]?:=by simp
  rw[this,hcs,List.getElem?_append_left (by have:=(List.getElem?_eq_some_iff.1 hu).1;exact this)];exact hu
theorem Hx:∀(N:Nat)(f g:Fo),f.wt<N→∀(ok ok':Nat→Prop)(la lb:Option Addr)(lc ld:Nat)(w:World),RepL ok w (.slice la f.len lc) f→RepL ok' w (.slice lb g.len ld) g→
 Calls Tryz.prog 33 #[.slice la f.len lc,.slice lb g.len ld] w fun e w'=>e= .returned (.bool (AC f g))∧w.grownBy w' none:=by
 intro N;induction N with
 |zero=>intro f g hN;omega
 | succ N ih=>
   intro f g hN ok ok' la lb lc ld w hf hg;by_cases hlen:f.len=g.len
   ·obtain⟨cs,hc1,hr1⟩:=hf;obtain⟨ds,hc2,hr2⟩:=hg;obtain⟨_,_,e,hle,hmx,_,hc1⟩:=hc1;cases e;obtain⟨_,_,e,_,_,_,hc2⟩:=hc2;cases e;have hmax:f.len≤maxLen:=by omega
    unfold maxLen at hmax;clear hle hmx;have hnI:((f.len:Int) !=(g.len:Int))=false:=by simp;omega
    have hnI2:((f.len:Int)==(g.len:Int))=true:=by simp;omega
    have HC:=I (X hc1 (X hc2 (X ih hlen)));have HR:=I (X hr1 hr2);clear hc1 hc2 ih hlen hr1 hr2;go_enter func33,ntmps33;go_wp2_with fail;go_loopg [5] f.len (fun n v5 wr=>∃rf rg:Fo,∃k:Nat,rf.len=n∧k+n=f.len∧rf.len=rg.len∧v5= .int .i64 k∧rf.wt≤f.wt∧AC f g=AC rf rg∧RepF ok w rf (cs.drop (k*7))∧RepF ok' w rg (ds.drop (k*7))∧w.grownBy wr none)
    case atStart=>exact⟨f,g,0,rfl,by omega,HC.out.2.2.2,rfl,Nat.le_refl _,rfl,by simpa using HR.out.1,by simpa using HR.out.2,Ac _ _⟩
    case round=>
     obtain⟨rf,rg,k,hn,hk,hl,rfl,hno,hs,hrf,hrg,hgr⟩:=hrel;clear HR;cases rf with
     | nil=>
       cases rg with
       |cons=>simp[Fo.len]at hl
       | nil=>
         have hkI:decide (k<f.len)=false:=by simp[Fo.len]at hn;simp;omega
         have HS:=I (show AC f g=true by rw[hs];rfl);have HG:=I hgr;clear hs hgr hn hl hrf hrg;go_wp2;go_ret;exact⟨by rw[HS.out];rfl,HG.out⟩
     | cons h1 k1 n1=>
       cases rg with
       |nil=>simp[Fo.len]at hl
       | cons h2 k2 n2=>
         simp only[Fo.len]at hn hl;simp only[Fo.wt]at hno;subst hn;obtain⟨pa1,pc1,lb1,ld1,hp1,hl1,hx1,ha1⟩:=RepF.elem (n:=f.len) (lc:=lc) (f:=f) HC.out.1 hrf;obtain⟨pa2,pc2,lb2,ld2,hp2,hl2,hx2,ha2⟩:=RepF.elem (n:=g.len) (lc:=ld) (f:=g) HC.out.2.1 hrg;have hkI:decide (k<f.len)=true:=by simp;omega
         have hkg:k<g.len:=by have:=HC.out.2.2.2;omega
         have hkf:k+1≤f.len:=by omega
         have HS:=I (X (show AC f g=((AZ h1 h2&&AC k1 k2)&&AC n1 n2)from hs) (show n1.len=n2.len by omega));have HE:=I (fun(W:World)(gW:wr.grownBy W none)=>Fq (hp1.gb (O hgr gW) (by simp)) (hp2.gb (O hgr gW) (by simp)) (b:=AC k1 k2) (fun W2 gW2=>HC.out.2.2.1 k1 k2 (by omega) ok ok' lb1 lb2 ld1 ld2 W2 (hl1.gb (O hgr (O gW gW2)) (by simp)) (hl2.gb (O hgr (O gW gW2)) (by simp))));have HN:=I (X (show n1.wt≤f.wt by omega) (X hx1 (X hx2 hgr)));clear hs hl hno hrf hrg hp1 hl1 hx1 hp2 hl2 hx2;obtain⟨g1,o1,rfl,hokz,y0⟩:=ha1 0 _ rfl;obtain⟨_,_,e1,_,y1⟩:=ha1 1 _ rfl;cases e1;obtain⟨_,_,e1,_,y2⟩:=ha1 2 _ rfl;cases e1;obtain⟨_,_,e1,_,y3⟩:=ha1 3 _ rfl;cases e1;obtain⟨_,_,e1,_,y4⟩:=ha1 4 _ rfl;cases e1;obtain⟨_,_,e1,_,y5⟩:=ha1 5 _ rfl;cases e1;obtain⟨_,_,e1,_,y6⟩:=ha1 6 _ rfl;cases e1;have hglz:=World.block_lt_of_cell? w _ y0;have z0:=Ab hgr y0;have z1:=Ab hgr y1;have z2:=Ab hgr y2;have z3:=Ab hgr y3;have z4:=Ab hgr y4;have z5:=Ab hgr y5;have z6:=Ab hgr y6;simp only[Nat.add_zero,←Nat.add_assoc]at z0 z1 z2 z3 z4 z5 z6;clear y0 y1 y2 y3 y4 y5 y6;obtain⟨g2,o2,rfl,hokt,y0⟩:=ha2 0 _ rfl;obtain⟨_,_,e1,_,y1⟩:=ha2 1 _ rfl;cases e1;obtain⟨_,_,e1,_,y2⟩:=ha2 2 _ rfl;cases e1;obtain⟨_,_,e1,_,y3⟩:=ha2 3 _ rfl;cases e1;obtain⟨_,_,e1,_,y4⟩:=ha2 4 _ rfl;cases e1;obtain⟨_,_,e1,_,y5⟩:=ha2 5 _ rfl;cases e1;obtain⟨_,_,e1,_,y6⟩:=ha2 6 _ rfl;cases e1;have hglt:=World.block_lt_of_cell? w _ y0;have t0:=Ab hgr y0;have t1:=Ab hgr y1;have t2:=Ab hgr y2;have t3:=Ab hgr y3;have t4:=Ab hgr y4;have t5:=Ab hgr y5
         have t6:=Ab hgr y6;simp only[Nat.add_zero,←Nat.add_assoc]at t0 t1 t2 t3 t4 t5 t6;clear y0 y1 y2 y3 y4 y5 y6;clear ha1 ha2 hgr;have hws:=HN.out.2.2.2.size;cases hb:(AZ h1 h2&&AC k1 k2)with
         | true=>
           rw[hb]at HE;have HB:=I (show AC f g=AC n1 n2 by rw[HS.out.1,hb];rfl);clear hb;go_wp2_with fail;go_region_with(go_at_call 11;refine(HE.out _ ?gg).mono ?_;(case gg=>exact (by repeat(first| (with_reducible exact Ac _ _)| (with_reducible assumption)| (with_reducible exact AW (by assumption))| (with_reducible refine Aa ?_ _)| (with_reducible refine Aj ?_)| (with_reducible refine AH ?_ _)| ((with_reducible refine Ax ?_ _ _ ?h2);case h2=>first|exact .inl rfl|exact .inr (Nat.le_refl _)|exact .inr (by simp<;>omega))| (with_reducible refine Ae ?_ (by assumption))| (with_reducible refine O ?_ (by assumption)))));rintro e w5 ⟨rfl,g5⟩);all_goals
            go_wp2;go_roundg n1.len
            case measure=>omega
            case rel=>exact⟨n1,n2,k+1,rfl,by omega,HS.out.2,by go_num,HN.out.1,HB.out,HN.out.2.1,HN.out.2.2.1,O (AH HN.out.2.2.2 _) g5⟩
         | false=>
           rw[hb]at HE;have HB:=I (show AC f g=false by rw[HS.out.1,hb];rfl);clear hb;go_wp2_with fail;go_region_with(go_at_call 11;refine(HE.out _ ?gg).mono ?_;(case gg=>exact (by repeat(first| (with_reducible exact Ac _ _)| (with_reducible assumption)| (with_reducible exact AW (by assumption))| (with_reducible refine Aa ?_ _)| (with_reducible refine Aj ?_)| (with_reducible refine AH ?_ _)| ((with_reducible refine Ax ?_ _ _ ?h2);case h2=>first|exact .inl rfl|exact .inr (Nat.le_refl _)|exact .inr (by simp<;>omega))| (with_reducible refine Ae ?_ (by assumption))| (with_reducible refine O ?_ (by assumption)))));rintro e w5 ⟨rfl,g5⟩);all_goals
            go_wp2;go_ret;exact⟨by rw[HB.out];rfl,O (AH HN.out.2.2.2 _) g5⟩
   ·have hnI:((f.len:Int) !=(g.len:Int))=true:=by simp;omega
    have hnI2:((f.len:Int)==(g.len:Int))=false:=by simp;omega
    have HN:=I (show AC f g=false by cases h:AC f g with|false=>rfl|true=>exact absurd (Ga h) hlen);clear hlen hf hg ih;go_enter func33,ntmps33;go_wp2;go_ret;exact⟨by rw[HN.out];rfl,(by repeat(first| (with_reducible exact Ac _ _)| (with_reducible assumption)| (with_reducible exact AW (by assumption))| (with_reducible refine Aa ?_ _)| (with_reducible refine Aj ?_)| (with_reducible refine AH ?_ _)| ((with_reducible refine Ax ?_ _ _ ?h2);case h2=>first|exact .inl rfl|exact .inr (Nat.le_refl _)|exact .inr (by simp<;>omega))| (with_reducible refine Ae ?_ (by assumption))| (with_reducible refine O ?_ (by assumption))))⟩
def At(l:List Tok)(i:Nat)(t:List Tok):Prop:=∃r,l.drop i=t++r
section
variable {l:List Tok}{i:Nat}{a b t:List Tok}{c:Tok}
theorem At.head(h:At l i (c::t)):Z l i=c:=by
 obtain⟨r,h⟩:=h;have h0:(l.drop i)[0]? =some c:=by rw[h];rfl
 have h1:l[i]? =some c:=by simpa using h0
 simp[Z,h1]
theorem At.tail(h:At l i (c::t)):At l (i+1) t:=by
 obtain⟨r,h⟩:=h;refine⟨r,?_⟩;have h1:(l.drop i).drop 1=t++r:=by rw[h];rfl
 rwa[List.drop_drop]at h1
theorem At.left(h:At l i (a++b)):At l i a:=by
 obtain⟨r,h⟩:=h;exact⟨b++r,by rw[h,List.append_assoc]⟩
theorem At.right(h:At l i (a++b)):At l (i+a.length) b:=by
 obtain⟨r,h⟩:=h;refine⟨r,?_⟩;rw[←List.drop_drop,h,List.append_assoc,List.drop_left]
theorem At.all(l:List Tok):At l 0 l:=⟨[],by simp⟩
end
def sg(s:Bs):Tok:=⟨4,0,s⟩
def wd(s:Bs):Tok:=⟨0,0,s⟩
theorem AU(s t:Bs):Ad (sg s) t=(s==t):=by simp[Ad,sg]
def opsL:List Bs:=[[46,79,82,46],[46,65,78,68,46],[61],[61,61],[60,62],[60],[62],[60,61],[62,61],[36],[43],[45],[42],[47],[37],[94]]
def Dl(s:Bs):Nat:=if s=[46,79,82,46]then 0 else if s=[46,65,78,68,46]then 1 else if s=[43]∨s=[45]then 3 else if s=[42]∨s=[47]∨s=[37]then 4 else if s=[94]then 5 else 2
def B8(b:UInt8):Bool:=b==9||(32≤b&&b≤126)
def BV(s:Bs):Bool:=s.all B8&&decide (s.length≤2048)&&!(s.contains 34&&s.contains 39)
def Ao(h:Hd):Bool:=
 if h.vk=0 then h.vn==0&&h.vs.isEmpty
 else if h.vk=1 then(h.vn==0||h.vn==1)&&h.vs.isEmpty
 else if h.vk=2 then decide (0≤h.vn)&&decide (h.vn≤999999999999999)&&h.vs.isEmpty
 else if h.vk=3 then decide (0≤h.vn)&&decide (h.vn≤3652059)&&h.vs.isEmpty
 else if h.vk=4 then h.vn==0&&BV h.vs
 else false
def An(h:Hd)(n:Nat):Bool:=
 if h.op=0 then h.s.isEmpty&&n==0&&Ao h
 else if h.op=1∨h.op=10 then Ak h.s&&n==0
 else if h.op=2 then Ak h.s&&n==1
 else if h.op=3 then Ak h.s
 else if h.op=4 then(h.s==[45]||h.s==[46,78,79,84,46])&&n==1
 else if h.op=5 then opsL.contains h.s&&n==2
 else if h.op=6 then h.s.isEmpty&&n==2
 else if h.op=7 then h.s.isEmpty&&decide (1≤n)
 else if h.op=8 then h.s.isEmpty&&n==1&&h.p.all Ak
 else if h.op=9 then(Ak h.s&&n==0)||(h.s.isEmpty&&n==1)
 else false
def Ba(h:Hd)(n:Nat):Bool:=
 if h.op≠0∧¬(h.vk=0∧h.vn=0∧h.vs=[])then false
 else if h.op≠8∧h.p≠[]then false
 else An h n
theorem CB{h:Hd}{n:Nat}(hok:Ba h n=true):(h.op≠0→h.vk=0∧h.vn=0∧h.vs=[])∧(h.op≠8→h.p=[])∧An h n=true:=by
 unfold Ba at hok;by_cases h1:h.op≠0∧¬(h.vk=0∧h.vn=0∧h.vs=[])
 ·rw[if_pos h1]at hok;cases hok
 rw[if_neg h1]at hok;by_cases h2:h.op≠8∧h.p≠[]
 ·rw[if_pos h2]at hok;cases hok
 rw[if_neg h2]at hok;exact⟨fun e=>Classical.not_not.1 fun c=>h1 ⟨e,c⟩,fun e=>Classical.not_not.1 fun c=>h2 ⟨e,c⟩,hok⟩
def okF:Fo→Bool
 | .nil=>true
 | .cons h k n=>Ba h k.len&&okF k&&okF n
abbrev OW:=Option (List Tok×Bs)
def A9(a b:OW):OW:=a.bind fun x=>b.map fun y=>(x.1++y.1,x.2++y.2)
def Af:List OW→OW
 | []=>some ([],[])
 |a::r=>A9 a (Af r)
def sgn(s:Bs):OW:=some ([sg s],s)
def AY:OW:=some ([],[32])
def nmW(s:Bs):OW:=if Ak s then some ([wd s],s)else none
def BU(w:OW):OW:=Af [sgn [40],w,sgn [41]]
def Bo(x:Hd×OW):OW:=if x.1.op≠4∧x.1.op≠5 then x.2 else BU x.2
def Cl:List OW→OW
 | []=>some ([],[])
 |a::r=>Af [sgn [44],AY,a,Cl r]
def Bi:List OW→OW
 | []=>some ([],[])
 |a::r=>A9 a (Cl r)
def BM(s:Bs):UInt8:=if s.contains 34 then 39 else 34
def txtW(s:Bs):OW:=if s.all (fun b=>B8 b&&b !=BM s)then some ([⟨2,0,s⟩],BM s::s++[BM s])else none
def Cz(s:Bs):Bs:=[123,94]++s.take 4++[45]++(s.drop 4).take 2++[45]++s.drop 6++[125]
structure Wd where
 num:Int→Bs
 day:Int→Bs
def BP(h:Hd):Bool:=
 decide (h.vs.length≤2048)&&(if h.vk=0 then h.vn==0 else if h.vk=1 then(h.vn==0||h.vn==1)else if h.vk=2 then decide (-1000000000000000≤h.vn)&&decide (h.vn≤1000000000000000)
  else if h.vk=3 then decide (0≤h.vn)&&decide (h.vn≤3652059)else if h.vk=4 then h.vn==0 else false)&&(h.vk==4||h.vs.isEmpty)
def Cg(d:Wd)(h:Hd):OW:=
 if BP h=false then none
 else if h.vk=0 then sgn [46,78,85,76,76,46]
 else if h.vk=1 then sgn (if h.vn=0 then [46,70,46]else [46,84,46])
 else if h.vk=2 then(if h.vn<0∨15<(d.num h.vn).length then none else some ([⟨1,0,d.num h.vn⟩],d.num h.vn))
 else if h.vk=3 then(if h.vn=0 then some ([⟨3,0,[]⟩],[123,125])else some ([⟨3,0,d.day h.vn⟩],Cz (d.day h.vn)))
 else txtW h.vs
def A6(d:Wd)(h:Hd)(ks:List (Hd×OW)):OW:=
 if h.op=0 then Cg d h
 else if h.op=1 then nmW h.s
 else if h.op=2 then(match ks with
  | [x]=>Af [nmW h.s,sgn [45,62],if x.1.op=1 then nmW x.1.s else BU x.2]
  |_=>none)
 else if h.op=3 then Af [nmW h.s,sgn [40],Bi (ks.map (·.2)),sgn [41]]
 else if h.op=4 then(match ks with
  | [x]=>Af [sgn h.s,if h.s=[46,78,79,84,46]then AY else some ([],[]),Bo x]
  |_=>none)
 else if h.op=5 then(match ks with
  | [x,y]=>Af [Bo x,AY,sgn h.s,AY,Bo y]
  |_=>none)
 else if h.op=6 then(match ks with
  | [x,y]=>Af [Bo x,sgn [91],y.2,sgn [93]]
  |_=>none)
 else if h.op=7 then Af [sgn [123],Bi (ks.map (·.2)),sgn [125]]
 else if h.op=8 then(match ks with
  | [x]=>Af [sgn [123],sgn [124],Bi (h.p.map nmW),sgn [124],AY,x.2,sgn [125]]
  |_=>none)
 else if h.op=9 then(match ks with
  | [x]=>Af [sgn [38],BU x.2]
  |_=>Af [sgn [38],nmW h.s,sgn [46]])
 else if h.op=10 then Af [sgn [64],nmW h.s]
 else none
def Ai(d:Wd):Fo→List (Hd×OW)
 | .nil=>[]
 | .cons h k n=>(h,A6 d h (Ai d k))::Ai d n
def exW(d:Wd)(x:Ex):OW:=A6 d x.h (Ai d x.kids)
theorem LK(d:Wd):∀f:Fo,(Ai d f).length=f.len:=by
 intro f;induction f with
 |nil=>rfl
 |cons h k n _ ih=>simp[Ai,Fo.len,ih]
def D4:List Bs:=[[91],[40],[45,62],[46]]
def EY:List Bs:=opsL++[[35],[33,61]]
def StopP(c:Tok):Prop:=c.kind=4→c.text ∉ D4
def StopE(c:Tok):Prop:=c.kind=4→c.text ∉ D4++EY
def Fst(L:List Bs)(t:List Tok):Prop:=∃c r,t=c::r∧(c.kind=4→c.text ∉ L)
abbrev noE:List Bs:=[[41],[124]]
abbrev noO:List Bs:=[[41],[124],[45],[46,78,79,84,46],[33]]
theorem StopE.p{c:Tok}(h:StopE c):StopP c:=fun k m=>h k (List.mem_append_left _ m)
theorem DB{c:Tok}{L:List Bs}(h:c.kind=4→c.text ∉ L){s:Bs}(hs:s∈L):Ad c s=false:=by
 unfold Ad;cases hk:c.kind==4 with
 |false=>rfl
 | true=>
   simp only[Bool.true_and];rw[beq_eq_false_iff_ne];intro e;exact h (by simpa using hk) (e ▸ hs)
theorem I5{s:Bs}:∀{L:List (Bs×Bs)},(∀p∈L,p.1≠s)→L.lookup s=none:=by
 intro L h;exact List.lookup_eq_none_iff.2 (fun p hp=>by have:=h p hp;simp;exact fun e=>this e.symm)
theorem L9:∀k<6,∀p∈lvl k,p.1∈EY:=by decide
theorem Cy{l:List Tok}{j k:Nat}(hk:k<6)(h:StopE (Z l j)):As l k j=[]:=by
 unfold As;split
 ·rename_i hk4;have h2:=h (by simpa using hk4);unfold C4;rw[I5 (fun p hp e=>h2 (List.mem_append_right _ (by rw[←e];exact L9 k hk p hp)))];rfl
 ·rfl
theorem MJ:∀s∈opsL,Dl s<6∧C4 (Dl s) s=s∧s≠[]∧(∀k<6,k≠Dl s→C4 k s=[])∧s ∉ D4:=by decide
theorem GJ{l:List Tok}{j:Nat}{s:Bs}(h:Z l j=sg s)(k:Nat):As l k j=C4 k s:=by
 unfold As;rw[h];rfl
def lvR(l:List Tok)(un:Nat→Res Ex)(n:Nat):Nat→Nat→Res Ex
 | 0=>A0 l 0 n (A0 l 1 n (AL l (BF l n (AI l un n)) n))
 | 1=>A0 l 1 n (AL l (BF l n (AI l un n)) n)
 | 2=>AL l (BF l n (AI l un n)) n
 | 3=>BF l n (AI l un n)
 | 4=>A0 l 4 n (AI l un n)
 | 5=>AI l un n
 |_=>un
theorem DR(l:List Tok)(day:Bs→Int)(n i:Nat):Ap l day (n+1) i=lvR l (AQ l (Ap l day n) (AG l day (Ap l day n) n) n) n 0 i:=rfl
section
variable {l:List Tok}{un:Nat→Res Ex}{n i j m:Nat}{x y:Ex}{s:Bs}
theorem DT{k:Nat}{opnd:Nat→Res Ex}(h:opnd i= .ok x j)(ho:As l k j=[])(hn:0<n):A0 l k n opnd i= .ok x j:=by
 obtain⟨n,rfl⟩:∃q,n=q+1:=⟨n-1,by omega⟩;unfold A0;rw[h,Res.bind_ok];unfold joinLoop;rw[ho];rfl
theorem DU{k:Nat}{opnd:Nat→Res Ex}(h:opnd i= .ok x j)(ho:As l k j=s)(hs:s≠[])(h2:opnd (j+1)= .ok y m)(ho2:As l k m=[])(hn:1<n):A0 l k n opnd i= .ok (AK s x y) m:=by
 obtain⟨n,rfl⟩:∃q,n=q+2:=⟨n-2,by omega⟩;unfold A0;rw[h,Res.bind_ok];unfold joinLoop;rw[ho,if_neg (by simpa using hs),h2,Res.bind_ok];unfold joinLoop;rw[ho2];rfl
theorem Fa{k:Nat}(hk:k<6)(hn:0<n)(h:lvR l un n (k+1) i= .ok x j)(ho:As l k j=[])(hf:k=2→Ad (Z l i) [46,78,79,84,46]=false∧Ad (Z l i) [33]=false):lvR l un n k i= .ok x j:=by
 match k,hk with
 | 0,_=>exact DT h ho hn
 | 1,_=>exact DT h ho hn
 | 2,_=>
   obtain⟨n,rfl⟩:∃q,n=q+1:=⟨n-1,by omega⟩;show AL l _ (n+1) i=_;unfold AL;rw[(hf rfl).1,(hf rfl).2];have h':BF l (n+1) (AI l un (n+1)) i= .ok x j:=h;simp only[Bool.or_self,Bool.false_eq_true,if_false];rw[h',Res.bind_ok,ho];rfl
 | 3,_=>exact DT h ho hn
 | 4,_=>exact DT h ho hn
 | 5,_=>
   obtain⟨n,rfl⟩:∃q,n=q+1:=⟨n-1,by omega⟩;show AI l un (n+1) i=_;unfold AI;have h':un i= .ok x j:=h;rw[h',Res.bind_ok,ho];rfl
theorem DY{a b:Nat}(hab:a≤b)(hb:b≤6)(hn:0<n)(h:lvR l un n b i= .ok x j)(ho:∀k,a≤k→k<b→As l k j=[])(hf:Ad (Z l i) [46,78,79,84,46]=false∧Ad (Z l i) [33]=false):lvR l un n a i= .ok x j:=by
 obtain⟨d,rfl⟩:∃d,b=a+d:=⟨b-a,by omega⟩;clear hab;induction d generalizing a with
 |zero=>exact h
 | succ d ih=>
   refine Fa (by omega) hn (ih (a:=a+1) (by omega) (by rw[show a+1+d=a+(d+1)by omega];exact h) (fun k h1 h2=>ho k (by omega) (by omega))) (ho a (Nat.le_refl _) (by omega)) (fun _=>hf)
theorem N9{k:Nat}(hk:k<6)(hn:1<n)(h:lvR l un n (k+1) i= .ok x j)(ho:As l k j=s)(hs:s≠[])(h2:lvR l un n (k+1) (j+1)= .ok y m)(ho2:As l k m=[])
 (hf:Ad (Z l i) [46,78,79,84,46]=false∧Ad (Z l i) [33]=false):lvR l un n k i= .ok (AK s x y) m:=by
 match k,hk with
 | 0,_=>exact DU h ho hs h2 ho2 hn
 | 1,_=>exact DU h ho hs h2 ho2 hn
 | 2,_=>
   obtain⟨n,rfl⟩:∃q,n=q+1:=⟨n-1,by omega⟩;show AL l _ (n+1) i=_;unfold AL;rw[hf.1,hf.2];have h':BF l (n+1) (AI l un (n+1)) i= .ok x j:=h;have h2':BF l (n+1) (AI l un (n+1)) (j+1)= .ok y m:=h2;simp only[Bool.or_self,Bool.false_eq_true,if_false];rw[h',Res.bind_ok,ho,if_neg (by simpa using hs),h2',Res.bind_ok]
 | 3,_=>exact DU h ho hs h2 ho2 hn
 | 4,_=>exact DU h ho hs h2 ho2 hn
 | 5,_=>
   obtain⟨n,rfl⟩:∃q,n=q+2:=⟨n-2,by omega⟩;show AI l un (n+2) i=_;unfold AI;have h':un i= .ok x j:=h;have h2':un (j+1)= .ok y m:=h2;rw[h',Res.bind_ok,ho,if_neg (by simpa using hs)];have h3:AI l un (n+1) (j+1)= .ok y m:=by
    unfold AI;rw[h2',Res.bind_ok,ho2];rfl
   rw[h3,Res.bind_ok]
end
def Hd.fit(h:Hd):Prop:=h.s.length≤2000000∧h.vs.length≤2000000∧h.p.length≤2000000∧∀s∈h.p,s.length≤2000000
def Fo.fit:Fo→Prop
 | .nil=>True
 | .cons h k n=>h.fit∧k.fit∧n.fit
theorem Hs(f:Fo)(ok:Nat→Prop)(la:Option Addr)(lc:Nat)(w:World)(hf:RepL ok w (.slice la f.len lc) f)(hfit:f.fit)
 (hE:∀(h:Hd)(k:Fo)(pa lb:Option Addr)(pc ld:Nat)(W:World),k.wt<f.wt→h.fit→k.fit→Cells W (.slice pa h.p.length pc) 1 h.p.length (h.p.map str) (fun _=>True)→RepL (fun _=>True) W (.slice lb k.len ld) k→
  Calls Tryz.prog 124 #[exV h (.slice pa h.p.length pc) (.slice lb k.len ld)] W fun e w'=>e= .returned (.bool (!(Ba h k.len&&okF k)))∧W.grownBy w' none):
 Calls Tryz.prog 169 #[.slice la f.len lc,.func (.func 124) #[] #[]] w fun e w'=>(∃n:Int,e= .returned (.int .i64 n)∧decide (0≤n)= !okF f)∧w.grownBy w' none:=by
 replace hf:=hf.mono (ok':=fun _=>True) (fun _ _ _=>trivial);obtain⟨cs,hc1,hr1⟩:=hf;obtain⟨_,_,e,hle,hmx,_,hc1⟩:=hc1;cases e;have hmax:f.len≤maxLen:=by omega
 unfold maxLen at hmax;clear hle hmx;have HC:=I (X hc1 hE);have HR:=I (X hr1 hfit);clear hc1 hE hr1 hfit;go_enter func169,ntmps169;go_wp2_with fail;go_loopg [8] f.len (fun n v8 wr=>∃rf:Fo,∃k:Nat,rf.len=n∧k+n=f.len∧v8= .int .i64 k∧rf.wt≤f.wt∧rf.fit∧okF f=okF rf∧RepF (fun _=>True) w rf (cs.drop (k*7))∧w.grownBy wr none)
 case atStart=>exact⟨f,0,rfl,by omega,rfl,Nat.le_refl _,HR.out.2,rfl,by simpa using HR.out.1,Ac _ _⟩
 case round=>
  obtain⟨rf,k,hn,hk,rfl,hno,hft,hs,hrf,hgr⟩:=hrel;clear HR;cases rf with
  | nil=>
    have hkI:decide (k<f.len)=false:=by simp[Fo.len]at hn;simp;omega
    have HS:=I (show okF f=true by rw[hs];rfl);have HG:=I hgr;clear hs hgr hn hrf hft;go_wp2;go_ret;exact⟨⟨_,rfl,by rw[HS.out];simp⟩,HG.out⟩
  | cons h1 k1 n1=>
    simp only[Fo.len]at hn;simp only[Fo.wt]at hno;subst hn;obtain⟨pa1,pc1,lb1,ld1,hp1,hl1,hx1,ha1⟩:=RepF.elem (n:=f.len) (lc:=lc) (f:=f) HC.out.1 hrf;have hkI:decide (k<f.len)=true:=by simp;omega
    have hkf:k+1≤f.len:=by omega
    have HS:=I (show okF f=((Ba h1 k1.len&&okF k1)&&okF n1)from hs);have HE:=I (fun(W:World)(gW:wr.grownBy W none)=>HC.out.2 h1 k1 pa1 lb1 pc1 ld1 W (by omega) hft.1 hft.2.1 (hp1.gb (O hgr gW) (by simp)) (hl1.gb (O hgr gW) (by simp)));have HN:=I (X (show n1.wt≤f.wt by omega) (X hft.2.2 (X hx1 hgr)));clear hs hno hrf hp1 hl1 hx1 hft;obtain⟨g1,o1,rfl,hokz,y0⟩:=ha1 0 _ rfl;obtain⟨_,_,e1,_,y1⟩:=ha1 1 _ rfl;cases e1;obtain⟨_,_,e1,_,y2⟩:=ha1 2 _ rfl;cases e1;obtain⟨_,_,e1,_,y3⟩:=ha1 3 _ rfl;cases e1;obtain⟨_,_,e1,_,y4⟩:=ha1 4 _ rfl;cases e1;obtain⟨_,_,e1,_,y5⟩:=ha1 5 _ rfl;cases e1;obtain⟨_,_,e1,_,y6⟩:=ha1 6 _ rfl;cases e1;have hglz:=World.block_lt_of_cell? w _ y0;have z0:=Ab hgr y0;have z1:=Ab hgr y1;have z2:=Ab hgr y2;have z3:=Ab hgr y3;have z4:=Ab hgr y4;have z5:=Ab hgr y5;have z6:=Ab hgr y6;simp only[Nat.add_zero,←Nat.add_assoc]at z0 z1 z2 z3 z4 z5 z6;clear y0 y1 y2 y3 y4 y5 y6;clear ha1 hgr;have hws:=HN.out.2.2.2.size;have hq1:g1<wr.heap.size:=Nat.lt_of_lt_of_le hglz hws;cases hb:(Ba h1 k1.len&&okF k1)with
    | true=>
      rw[hb]at HE;have HB:=I (show okF f=okF n1 by rw[HS.out,hb];rfl);clear hb;go_wp2_with fail;refine(HE.out _ ?gg).mono ?_
      case gg=>exact (by repeat(first| (with_reducible exact Ac _ _)| (with_reducible assumption)| (with_reducible exact AW (by assumption))| (with_reducible refine Aa ?_ _)| (with_reducible refine Aj ?_)| (with_reducible refine AH ?_ _)| ((with_reducible refine Ax ?_ _ _ ?h2);case h2=>first|exact .inl rfl|exact .inr (Nat.le_refl _)|exact .inr (by simp<;>omega))| (with_reducible refine Ae ?_ (by assumption))| (with_reducible refine O ?_ (by assumption))))
      rintro e w5 ⟨rfl,g5⟩;have gg:=O HN.out.2.2.2 (O (by repeat(first| (with_reducible exact Ac _ _)| (with_reducible assumption)| (with_reducible exact AW (by assumption))| (with_reducible refine Aa ?_ _)| (with_reducible refine Aj ?_)| (with_reducible refine AH ?_ _)| ((with_reducible refine Ax ?_ _ _ ?h2);case h2=>first|exact .inl rfl|exact .inr (Nat.le_refl _)|exact .inr (by simp<;>omega))| (with_reducible refine Ae ?_ (by assumption))| (with_reducible refine O ?_ (by assumption)))) g5);have HG:=I gg;clear gg g5;go_wp2;go_roundg n1.len
      case measure=>omega
      case rel=>exact⟨n1,k+1,rfl,by omega,by go_num,HN.out.1,HN.out.2.1,HB.out,HN.out.2.2.1,HG.out⟩
    | false=>
      rw[hb]at HE;have HB:=I (show okF f=false by rw[HS.out,hb];rfl);clear hb;go_wp2_with fail;refine(HE.out _ ?gg2).mono ?_
      case gg2=>exact (by repeat(first| (with_reducible exact Ac _ _)| (with_reducible assumption)| (with_reducible exact AW (by assumption))| (with_reducible refine Aa ?_ _)| (with_reducible refine Aj ?_)| (with_reducible refine AH ?_ _)| ((with_reducible refine Ax ?_ _ _ ?h2);case h2=>first|exact .inl rfl|exact .inr (Nat.le_refl _)|exact .inr (by simp<;>omega))| (with_reducible refine Ae ?_ (by assumption))| (with_reducible refine O ?_ (by assumption))))
      rintro e w5 ⟨rfl,g5⟩;have gg:=O HN.out.2.2.2 (O (by repeat(first| (with_reducible exact Ac _ _)| (with_reducible assumption)| (with_reducible exact AW (by assumption))| (with_reducible refine Aa ?_ _)| (with_reducible refine Aj ?_)| (with_reducible refine AH ?_ _)| ((with_reducible refine Ax ?_ _ _ ?h2);case h2=>first|exact .inl rfl|exact .inr (Nat.le_refl _)|exact .inr (by simp<;>omega))| (with_reducible refine Ae ?_ (by assumption))| (with_reducible refine O ?_ (by assumption)))) g5);have HG:=I gg;clear gg g5;go_wp2;go_ret;exact⟨⟨_,rfl,by rw[HB.out];simp⟩,HG.out⟩
theorem Hg(f:Fo)(ok:Nat→Prop)(la:Option Addr)(lc:Nat)(w:World)(hf:RepL ok w (.slice la f.len lc) f)(hfit:f.fit)
 (hE:∀(h:Hd)(k:Fo)(pa lb:Option Addr)(pc ld:Nat)(W:World),k.wt<f.wt→h.fit→k.fit→Cells W (.slice pa h.p.length pc) 1 h.p.length (h.p.map str) (fun _=>True)→RepL (fun _=>True) W (.slice lb k.len ld) k→
  Calls Tryz.prog 46 #[exV h (.slice pa h.p.length pc) (.slice lb k.len ld)] W fun e w'=>e= .returned (.bool (Ba h k.len&&okF k))∧W.grownBy w' none):
 Calls Tryz.prog 73 #[.slice la f.len lc] w fun e w'=>e= .returned (.bool (okF f))∧w.grownBy w' none:=by
 have H:=I (Hs f ok la lc w hf hfit (fun h k pa lb pc ld W h1 h2 h3 h4 h5=>by
  have hp:=Blk.new W (hdC h (.slice pa h.p.length pc) (.slice lb k.len ld)) 27;have H:=I (fun(W2:World)(g:W.grownBy W2 none)=>hE h k pa lb pc ld W2 h1 h2 h3 (h4.gb g (by simp)) (h5.gb g (by simp)));obtain⟨x_0,x_1,x_2,x_3,x_4,x_5,x_6,x_f⟩:=(hp).c7;clear hE h4 h5 hp hf;generalize(Ba h k.len&&okF k)=b at*;go_enter func124,ntmps124;go_wp2_with fail;refine(H.out _ ?gg).mono ?_
  case gg=>exact (by repeat(first| (with_reducible exact Ac _ _)| (with_reducible assumption)| (with_reducible exact AW (by assumption))| (with_reducible refine Aa ?_ _)| (with_reducible refine Aj ?_)| (with_reducible refine AH ?_ _)| ((with_reducible refine Ax ?_ _ _ ?h2);case h2=>first|exact .inl rfl|exact .inr (Nat.le_refl _)|exact .inr (by simp<;>omega))| (with_reducible refine Ae ?_ (by assumption))| (with_reducible refine O ?_ (by assumption))))
  rintro e w5 ⟨rfl,g5⟩;go_wp2;go_ret;exact⟨rfl,O (by repeat(first| (with_reducible exact Ac _ _)| (with_reducible assumption)| (with_reducible exact AW (by assumption))| (with_reducible refine Aa ?_ _)| (with_reducible refine Aj ?_)| (with_reducible refine AH ?_ _)| ((with_reducible refine Ax ?_ _ _ ?h2);case h2=>first|exact .inl rfl|exact .inr (Nat.le_refl _)|exact .inr (by simp<;>omega))| (with_reducible refine Ae ?_ (by assumption))| (with_reducible refine O ?_ (by assumption)))) g5⟩))
 clear hE hf hfit;have H2:Calls Tryz.prog 123 #[.slice la f.len lc,.func (.func 124) #[] #[]] w fun e w'=>e= .returned (.bool (!okF f))∧w.grownBy w' none:=by
  go_enter func123,ntmps123;go_wp2_with fail;refine H.out.mono ?_;rintro e w1 ⟨⟨n,rfl,hn⟩,hb⟩;have HN:=I hn;clear hn;go_wp2;go_ret;exact⟨by rw[←HN.out];rfl,hb⟩
 clear H;have H:=I H2;clear H2;go_enter func73,ntmps73;go_wp2_with fail;refine H.out.mono ?_;rintro e w1 ⟨rfl,hb⟩;go_wp2;go_ret;exact⟨rfl,hb⟩
section
variable {w:World}{h:Hd}{pa la:Option Addr}{pc n lc:Nat}
theorem Ls(h0:h.op≠0)(hv:¬(h.vk=0∧h.vn=0∧h.vs=[])):Ba h n=false:=by
 unfold Ba;rw[if_pos ⟨h0,hv⟩]
theorem Lt(hv:¬(h.op≠0∧¬(h.vk=0∧h.vn=0∧h.vs=[])))(h8:h.op≠8)(hp:h.p≠[]):Ba h n=false:=by
 unfold Ba;rw[if_neg hv,if_pos ⟨h8,hp⟩]
theorem Lu(hv:¬(h.op≠0∧¬(h.vk=0∧h.vn=0∧h.vs=[])))(h8:¬(h.op≠8∧h.p≠[])):Ba h n=An h n:=by
 unfold Ba;rw[if_neg hv,if_neg h8]
theorem Jm(h0:h.op≠0)(hv:¬(h.vk=0∧h.vn=0∧h.vs=[])):
 Calls Tryz.prog 46 #[exV h (.slice pa h.p.length pc) (.slice la n lc)] w fun e w'=>e= .returned (.bool false)∧w.grownBy w' none:=by
 obtain⟨op,s,vk,vn,vs,p⟩:=h;simp only at h0 hv ⊢;have c1:(op==0)=false:=by simpa using h0
 have c2:(op !=0)=true:=by simpa using h0
 clear h0;by_cases hk:vk=0
 ·subst hk;by_cases hn:vn=0
  ·subst hn;have hs:vs≠[]:=fun e=>hv ⟨rfl,rfl,e⟩;clear hv;go_enter func46,ntmps46;go_wp2;go_ret;exact⟨rfl,(by repeat(first| (with_reducible exact Ac _ _)| (with_reducible assumption)| (with_reducible exact AW (by assumption))| (with_reducible refine Aa ?_ _)| (with_reducible refine Aj ?_)| (with_reducible refine AH ?_ _)| ((with_reducible refine Ax ?_ _ _ ?h2);case h2=>first|exact .inl rfl|exact .inr (Nat.le_refl _)|exact .inr (by simp<;>omega))| (with_reducible refine Ae ?_ (by assumption))| (with_reducible refine O ?_ (by assumption))))⟩
  ·clear hv;go_enter func46,ntmps46;go_wp2;go_ret;exact⟨rfl,(by repeat(first| (with_reducible exact Ac _ _)| (with_reducible assumption)| (with_reducible exact AW (by assumption))| (with_reducible refine Aa ?_ _)| (with_reducible refine Aj ?_)| (with_reducible refine AH ?_ _)| ((with_reducible refine Ax ?_ _ _ ?h2);case h2=>first|exact .inl rfl|exact .inr (Nat.le_refl _)|exact .inr (by simp<;>omega))| (with_reducible refine Ae ?_ (by assumption))| (with_reducible refine O ?_ (by assumption))))⟩
 ·clear hv;go_enter func46,ntmps46;go_wp2;go_ret;exact⟨rfl,(by repeat(first| (with_reducible exact Ac _ _)| (with_reducible assumption)| (with_reducible exact AW (by assumption))| (with_reducible refine Aa ?_ _)| (with_reducible refine Aj ?_)| (with_reducible refine AH ?_ _)| ((with_reducible refine Ax ?_ _ _ ?h2);case h2=>first|exact .inl rfl|exact .inr (Nat.le_refl _)|exact .inr (by simp<;>omega))| (with_reducible refine Ae ?_ (by assumption))| (with_reducible refine O ?_ (by assumption))))⟩
theorem Jn(hv:¬(h.op≠0∧¬(h.vk=0∧h.vn=0∧h.vs=[])))(h8:h.op≠8)(hp:h.p≠[]):
 Calls Tryz.prog 46 #[exV h (.slice pa h.p.length pc) (.slice la n lc)] w fun e w'=>e= .returned (.bool false)∧w.grownBy w' none:=by
 obtain⟨op,s,vk,vn,vs,p⟩:=h;simp only at h8 hp hv ⊢;have c3:(op==8)=false:=by simpa using h8
 have c4:(op !=8)=true:=by simpa using h8
 have hl:0<p.length:=List.length_pos_iff.2 hp;have hlI:decide ((0:Int)<(p.length:Int))=true:=by simp;omega
 by_cases h0:op=0
 ·subst h0;clear hv hp h8;go_enter func46,ntmps46;go_wp2;go_ret;exact⟨rfl,(by repeat(first| (with_reducible exact Ac _ _)| (with_reducible assumption)| (with_reducible exact AW (by assumption))| (with_reducible refine Aa ?_ _)| (with_reducible refine Aj ?_)| (with_reducible refine AH ?_ _)| ((with_reducible refine Ax ?_ _ _ ?h2);case h2=>first|exact .inl rfl|exact .inr (Nat.le_refl _)|exact .inr (by simp<;>omega))| (with_reducible refine Ae ?_ (by assumption))| (with_reducible refine O ?_ (by assumption))))⟩
 ·obtain⟨rfl,rfl,rfl⟩:vk=0∧vn=0∧vs=[]:=Classical.not_not.1 fun e=>hv ⟨h0,e⟩;have c1:(op==0)=false:=by simpa using h0
  have c2:(op !=0)=true:=by simpa using h0
  clear hv hp h8 h0;go_enter func46,ntmps46;go_wp2;go_ret;exact⟨rfl,(by repeat(first| (with_reducible exact Ac _ _)| (with_reducible assumption)| (with_reducible exact AW (by assumption))| (with_reducible refine Aa ?_ _)| (with_reducible refine Aj ?_)| (with_reducible refine AH ?_ _)| ((with_reducible refine Ax ?_ _ _ ?h2);case h2=>first|exact .inl rfl|exact .inr (Nat.le_refl _)|exact .inr (by simp<;>omega))| (with_reducible refine Ae ?_ (by assumption))| (with_reducible refine O ?_ (by assumption))))⟩
theorem Jo(hv:¬(h.op≠0∧¬(h.vk=0∧h.vn=0∧h.vs=[])))(h8:¬(h.op≠8∧h.p≠[]))
 (HL:∀W,w.grownBy W none→Calls Tryz.prog 73 #[.slice la n lc] W fun e w'=>e= .returned (.bool false)∧W.grownBy w' none):
 Calls Tryz.prog 46 #[exV h (.slice pa h.p.length pc) (.slice la n lc)] w fun e w'=>e= .returned (.bool false)∧w.grownBy w' none:=by
 have H:=I HL;clear HL;obtain⟨op,s,vk,vn,vs,p⟩:=h;simp only at h8 hv ⊢;by_cases h0:op=0
 ·subst h0;obtain rfl:p=[]:=Classical.not_not.1 fun e=>h8 ⟨by decide,e⟩;clear hv h8;go_enter func46,ntmps46;go_wp2_with fail;refine(H.out _ ?gg).mono ?_
  case gg=>exact (by repeat(first| (with_reducible exact Ac _ _)| (with_reducible assumption)| (with_reducible exact AW (by assumption))| (with_reducible refine Aa ?_ _)| (with_reducible refine Aj ?_)| (with_reducible refine AH ?_ _)| ((with_reducible refine Ax ?_ _ _ ?h2);case h2=>first|exact .inl rfl|exact .inr (Nat.le_refl _)|exact .inr (by simp<;>omega))| (with_reducible refine Ae ?_ (by assumption))| (with_reducible refine O ?_ (by assumption))))
  rintro e w5 ⟨rfl,g5⟩;go_wp2;go_ret;exact⟨rfl,O (by repeat(first| (with_reducible exact Ac _ _)| (with_reducible assumption)| (with_reducible exact AW (by assumption))| (with_reducible refine Aa ?_ _)| (with_reducible refine Aj ?_)| (with_reducible refine AH ?_ _)| ((with_reducible refine Ax ?_ _ _ ?h2);case h2=>first|exact .inl rfl|exact .inr (Nat.le_refl _)|exact .inr (by simp<;>omega))| (with_reducible refine Ae ?_ (by assumption))| (with_reducible refine O ?_ (by assumption)))) g5⟩
 ·obtain⟨rfl,rfl,rfl⟩:vk=0∧vn=0∧vs=[]:=Classical.not_not.1 fun e=>hv ⟨h0,e⟩;have c1:(op==0)=false:=by simpa using h0
  have c2:(op !=0)=true:=by simpa using h0
  by_cases e8:op=8
  ·subst e8;clear hv h8 h0;go_enter func46,ntmps46;go_wp2_with fail;refine(H.out _ ?gg).mono ?_
   case gg=>exact (by repeat(first| (with_reducible exact Ac _ _)| (with_reducible assumption)| (with_reducible exact AW (by assumption))| (with_reducible refine Aa ?_ _)| (with_reducible refine Aj ?_)| (with_reducible refine AH ?_ _)| ((with_reducible refine Ax ?_ _ _ ?h2);case h2=>first|exact .inl rfl|exact .inr (Nat.le_refl _)|exact .inr (by simp<;>omega))| (with_reducible refine Ae ?_ (by assumption))| (with_reducible refine O ?_ (by assumption))))
   rintro e w5 ⟨rfl,g5⟩;go_wp2;go_ret;exact⟨rfl,O (by repeat(first| (with_reducible exact Ac _ _)| (with_reducible assumption)| (with_reducible exact AW (by assumption))| (with_reducible refine Aa ?_ _)| (with_reducible refine Aj ?_)| (with_reducible refine AH ?_ _)| ((with_reducible refine Ax ?_ _ _ ?h2);case h2=>first|exact .inl rfl|exact .inr (Nat.le_refl _)|exact .inr (by simp<;>omega))| (with_reducible refine Ae ?_ (by assumption))| (with_reducible refine O ?_ (by assumption)))) g5⟩
  ·obtain rfl:p=[]:=Classical.not_not.1 fun e=>h8 ⟨e8,e⟩;have c3:(op==8)=false:=by simpa using e8
   have c4:(op !=8)=true:=by simpa using e8
   clear hv h8 h0 e8;go_enter func46,ntmps46;go_wp2_with fail;refine(H.out _ ?gg).mono ?_
   case gg=>exact (by repeat(first| (with_reducible exact Ac _ _)| (with_reducible assumption)| (with_reducible exact AW (by assumption))| (with_reducible refine Aa ?_ _)| (with_reducible refine Aj ?_)| (with_reducible refine AH ?_ _)| ((with_reducible refine Ax ?_ _ _ ?h2);case h2=>first|exact .inl rfl|exact .inr (Nat.le_refl _)|exact .inr (by simp<;>omega))| (with_reducible refine Ae ?_ (by assumption))| (with_reducible refine O ?_ (by assumption))))
   rintro e w5 ⟨rfl,g5⟩;go_wp2;go_ret;exact⟨rfl,O (by repeat(first| (with_reducible exact Ac _ _)| (with_reducible assumption)| (with_reducible exact AW (by assumption))| (with_reducible refine Aa ?_ _)| (with_reducible refine Aj ?_)| (with_reducible refine AH ?_ _)| ((with_reducible refine Ax ?_ _ _ ?h2);case h2=>first|exact .inl rfl|exact .inr (Nat.le_refl _)|exact .inr (by simp<;>omega))| (with_reducible refine Ae ?_ (by assumption))| (with_reducible refine O ?_ (by assumption)))) g5⟩
end
end Go.Proofs.YtgjdhajcnechdaaGreatDoor
