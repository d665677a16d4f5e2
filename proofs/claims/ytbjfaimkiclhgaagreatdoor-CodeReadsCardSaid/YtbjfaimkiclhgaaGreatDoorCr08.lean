/-
  Code: how much there is of it: Size on both sides, Weight. The table that Itoa reads; Itoa. Code: its lines, as a text. CdK PgM RlE Line LineB Lex Tame Size VaE VaF CkD CdG
-/
import Derived.Test.YtbjfaimkiclhgaaGreatDoorCr02
import Derived.Test.YtbjfaimkiclhgaaGreatDoorPlain
import Derived.Lib.ItoaMem
import Derived.Test.YtbjfaimkiclhgaaGreatDoorCr04
import Derived.Test.YtbjfaimkiclhgaaGreatDoorCr06
import Derived.Test.YtbjfaimkiclhgaaGreatDoorCr03
import Derived.Test.YtbjfaimkiclhgaaGreatDoorCr07
import Derived.Laws.IdiomStrings
import Derived.Deep.AppendLies
import Derived.Deep.RegionLaw
import Derived.Test.YtbjfaimkiclhgaaGreatDoorCr05
import Derived.Maps.RangeWalk
import Derived.Sort.OwnSorted
import Derived.Lib.SlicesCompact
set_option linter.all false
set_option maxRecDepth 100000
set_option maxHeartbeats 8000000
namespace Go.Proofs.YtbjfaimkiclhgaaGreatDoor
open Go.Proofs.Tryz
open Go.RowKit
variable{α:Type}{k m B n b i j cc:Nat}{w w1 wr:World}{v tv:Value}{us:List Un}{ok ok':Nat->Prop}{t:TypeId}{cs:List Value}{l ts:List Tok}{s:Bs}{r:Option Nat}{x:Ex}{day:Bs->Int}{line:Bool}{left:List Nat}{xs:List Bs}{ca:Option Addr}
def pfx{α:Type}(f:α->Nat)(l:List α):Nat->Nat
 | 0=>0
 |k+1=>pfx f l k+(match l[k]? with|some u=>f u|none=>0)
def DC{f:α->Nat}{l:List α}{u:α}(h:l[k]? =some u):pfx f l (k+1)=pfx f l k+f u:=by simp[pfx,h]
def E5(f:α->Nat)(l:List α)(h:k<=m):pfx f l k<=pfx f l m:=by
 induction m with
 | zero => have : k = 0 := by omega
           subst this;exact nR _
 | succ m ih=>
   by_cases e:k=m+1
   ·subst e;exact nR _
   ·have:=ih (by omega);rw[pfx];omega
def szU(us:List Un):Nat:=pfx (λu=>u.code.length) us us.length
def wtC(c:Cd):Nat:=3+c.s.length
def wtU(u:Un):Nat:=u.name.length+u.row.length+pfx wtC u.code u.code.length
def Bq(us:List Un):Nat:=us.length+pfx wtU us us.length
def B4{l:List α}(h:k<l.length):l[k]? =some l[k]:=List.getElem?_eq_getElem h
def NH(h:VU ok w v us)(hb:szU us<=100000000):
 Calls Tryz.prog 26 #[v] w (ρ w (.int .i64 (szU us))):=by
 obtain⟨a,cap,rfl,hle,hmx,hat⟩:=h.open;have hlen:us.length<=9223372036854775807:=by unfold maxLen at hmx;omega
 have HA:=S hat;clear hat hle hmx h;go_enter func26,ntmps26;go_wp2_with fail;go_loopg [3,5,8] us.length (λg v3 v5 v8 wr=>∃k:Nat,k+g=us.length/\v8= .int .i64 k/\v3= .int .i64 (pfx (λu=>u.code.length) us k:Nat)/\w.grownBy wr none)
 case atStart=>exact⟨0,by omega,rfl,rfl,Aa _ _⟩
 case round=>
  obtain⟨k,hk,rfl,rfl,hG⟩:=hrel;cases gk with
  | zero=>
    have hkl:k=us.length:=by omega
    have hj1:decide (k<us.length)=false:=by simp;omega
    subst hkl;go_wp2;go_ret;exact⟨rfl,hG⟩
  | succ gk=>
    have hkl:k<us.length:=by omega
    have hj1:decide (k<us.length)=true:=by simp;omega
    obtain⟨g,o,ra,rc,ca,cc,rfl,_,_,c0,c1,c2,_,_⟩:=HA.1 k _ (B4 hkl);have d0:=Ae hG c0;have d1:=Ae hG c1;have d2:=Ae hG c2;have hs:=DC (f:=λu:Un=>u.code.length) (B4 hkl);have hm:=E5 (λu:Un=>u.code.length) us (show k+1<=us.length from hkl);have hm1:pfx (λu:Un=>u.code.length) us (k+1)<=100000000:=nT hm hb;rw[hs]at hm1;have HS:=S hs;have HG:=S (Ac hG (.cells #[str us[k].name,.slice ra us[k].row.length rc,.slice ca us[k].code.length cc] 58 (0,0)));clear c0 c1 c2 hs hm hG;go_wp2;go_roundg gk
    case measure=>omega
    case rel=>exact⟨k+1,by omega,by go_num,by rw[HS.1];go_num,HG.1⟩
open Go.Lib Go.Sort
def Pow (w : World) : Prop := Lib.TabIs Tryz.prog w "internal/strconv.uint64pow10" .u64 Lib.pow10Tab
def OD: Tryz.prog.globalNamed "internal/strconv.uint64pow10" = some 3 := by kernel_rfl
def Pow.gb(h:Pow w)(g:w.grownBy w1 none):Pow w1:=by
 unfold Pow Lib.TabIs World.var? at*;simp only[OD,Option.bind_some]at h ⊢;have hlt:3<w.heap.size:=by
  rcases Nat.lt_or_ge 3 w.heap.size with h' |h'
  ·exact h'
  ·rw[Array.getElem?_eq_none h']at h;simp at h
 rw[g.block _ hlt (by simp)];exact h
def O1(w:World)(k:Nat)(os:Array Obj):w.grownBy (grow (w.drewN k) os) none:=by
 refine⟨rfl,rfl,rfl,by simp,λi hi _=>?_⟩;rw[heap_grow_old _ _ (by simpa using hi)];rfl
def Jb(hp:Pow w)(n:Int)(h0: -9223372036854775808<=n)(h1:n<=9223372036854775807):
 Calls Tryz.prog 32 #[.int .i64 n] w (ρ w (str (Lib.itoa n))):=by
 refine(strconv_Itoa n h0 h1 w hp).mono ?_;rintro e w' ⟨rfl,k,os,rfl⟩;exact⟨rfl,O1 _ _ _⟩
def Bv{α:Type}(f:α->Bs)(l:List α):Nat->Bs
 | 0=>[]
 |k+1=>Bv f l k++(match l[k]? with|some x=>f x|none=>[])
def JL{f:α->Bs}{l:List α}{x:α}(h:l[k]? =some x):Bv f l (k+1)=Bv f l k++f x:=by simp[Bv,h]
def Lu(f g:α->Nat)(c:Nat)(h:∀x,f x<=c*g x)(l:List α)(k:Nat):pfx f l k<=c*pfx g l k:=by
 induction k with
 |zero=>simp[pfx]
 | succ k ih=>
   rw[pfx,pfx,Nat.mul_add];cases l[k]? with
   |none=>simpa using ih
   |some x=>have:=h x;simp only;omega
def A3(n:Int):Bs:=32::Lib.itoa n
def AO(c:Cd):Bs:=Lib.itoa c.op++[32]++Lib.itoa c.a++[32]++Lib.itoa c.b++[32]++qtM c.s++[10]
def CR(u:Un):Bs:=[117,110,105,116,32]++qtM u.name
def BM(u:Un):Bs:=CR u++Bv A3 u.row u.row.length++[10]++Bv AO u.code u.code.length
def AG(us:List Un):Bs:=Bv BM us us.length
def Js(s:Bs):(qtM s).length<=3*s.length+2:=by
 have:=KO s s.length;rw[qtM,lA];simp;omega
def Lk:(Tryz.prog.info? 58).map (λi=>(i.zero,i.size,i.bytes))=some (some (.agg #[str [],.slice none 0 0,.slice none 0 0]),3,64):=by kernel_rfl
def OwnU(w:World)(B:Nat)(v:Value)(us:List Un):Prop:=∃cs,w.ownsRow B 58 3 v us.length cs/\RepU (λg=>B<=g/\v.ownBlock≠some g) w us cs
def GY{xs:List Value}(h:w.ownsRow B t k v n xs):∃a c,v= .slice a n c:=by
 rcases h.2 with⟨rfl,rfl⟩| ⟨g,cap,cur,rfl,_⟩
 ·exact⟨_,_,rfl⟩
 ·exact⟨_,_,rfl⟩
def OwnU.snoc{v':Value}{u:Un}{rv cv:Value}{okx:Nat->Prop}
 (hf:RepU (λg=>B<=g/\v.ownBlock≠some g) w us cs) (h1:Cells w rv 1 u.row.length (Be u.row) okx) (h2:Cells w cv 4 u.code.length (AC u.code) okx) (hokx:∀k,okx k->k<w.heap.size->B<=k/\v.ownBlock≠some k)
 (ho:w1.ownsRow B 58 3 v' (us.length+1) (cs++[str u.name,rv,cv])) (hg:w.grownBy w1 v.ownBlock) (hnew:∀k,v'.ownBlock=some k->v.ownBlock=some k\/w.heap.size<=k):OwnU w1 B v' (us++[u]):=by
 refine⟨_,by rw[lA];exact ho,?_⟩;have a1:=hf.app (RepU.one (u:=u) (h1.mono hokx) (h2.mono hokx));have a2:=RepU.mono (ok':=λg=>B<=g/\v.ownBlock≠some g/\v'.ownBlock≠some g) (λk hk hlt=>⟨hk.1,hk.2,λe=>by
  rcases hnew k e with h|h
  ·exact hk.2 h
  ·omega⟩) a1
 exact(a2.gb hg λk hk _ e=>hk.2.1 e.symm).mono λk hk _=>⟨hk.1,hk.2.2⟩
def Y0(l:List α)(k:Nat)(h:k<=l.length):pfx (λ_=>1) l k=k:=by
 induction k with
 |zero=>rfl
 |succ k ih=>rw[DC (B4 h),ih (by omega)]
abbrev Ed:Bs:=[80,82,79,67,69,68,85,82,69]
abbrev C9:Bs:=[70,85,78,67,84,73,79,78]
abbrev Gs:Bs:=[76,79,67,65,76]
abbrev Gc:Bs:=[80,82,73,86,65,84,69]
abbrev Gk:Bs:=[80,85,66,76,73,67]
abbrev Gl:Bs:=[83,84,65,84,73,67]
abbrev wIF:Bs:=[73,70]
abbrev Jx:Bs:=[69,76,83,69,73,70]
abbrev JC:Bs:=[69,76,83,69]
abbrev J3:Bs:=[69,78,68,73,70]
abbrev wDO:Bs:=[68,79]
abbrev EZ:Bs:=[67,65,83,69]
abbrev JW:Bs:=[79,84,72,69,82,87,73,83,69]
abbrev Lb:Bs:=[69,78,68,67,65,83,69]
abbrev Eh:Bs:=[87,72,73,76,69]
abbrev L3:Bs:=[69,78,68,68,79]
abbrev CS:Bs:=[70,79,82]
abbrev wTO:Bs:=[84,79]
abbrev JD:Bs:=[83,84,69,80]
abbrev BN:Bs:=[78,69,88,84]
abbrev Fb:Bs:=[76,79,79,80]
abbrev Fa:Bs:=[69,88,73,84]
abbrev D8:Bs:=[82,69,84,85,82,78]
abbrev GQ:Bs:=[87,73,84,72]
abbrev DM:Bs:=[66,82,69,65,75]
abbrev GI:Bs:=[66,69,71,73,78]
abbrev N6:Bs:=[83,69,81,85,69,78,67,69]
abbrev Hm:Bs:=[82,69,67,79,86,69,82]
abbrev J4:Bs:=[85,83,73,78,71]
abbrev Iu:Bs:=[69,78,68]
abbrev F2:Bs:=[83,69,76,69,67,84]
abbrev FM:Bs:=[85,83,69]
abbrev Il:Bs:=[65,76,73,65,83]
abbrev wGO:Bs:=[71,79]
abbrev FL:Bs:=[84,79,80]
abbrev Fy:Bs:=[66,79,84,84,79,77]
abbrev FH:Bs:=[83,75,73,80]
abbrev FG:Bs:=[83,69,69,75]
abbrev F0:Bs:=[76,79,67,65,84,69]
abbrev Ff:Bs:=[67,79,78,84,73,78,85,69]
abbrev Fs:Bs:=[82,69,80,76,65,67,69]
abbrev Fz:Bs:=[68,69,76,69,84,69]
abbrev F1:Bs:=[82,69,67,65,76,76]
abbrev Fx:Bs:=[65,80,80,69,78,68]
abbrev L2:Bs:=[66,76,65,78,75]
abbrev FF:Bs:=[80,65,67,75]
abbrev FN:Bs:=[90,65,80]
abbrev F8:Bs:=[67,79,85,78,84]
abbrev FK:Bs:=[83,85,77]
abbrev F9:Bs:=[73,78,68,69,88]
abbrev wON:Bs:=[79,78]
abbrev wTAG:Bs:=[84,65,71]
abbrev Ic:Bs:=[85,78,73,81,85,69]
abbrev Ha:Bs:=[67,65,78,68,73,68,65,84,69]
abbrev CP:Bs:=[68,69,83,67,69,78,68,73,78,71]
abbrev Gx:Bs:=[83,69,84]
abbrev GJ:Bs:=[79,82,68,69,82]
abbrev Ib:Bs:=[70,73,76,84,69,82]
abbrev Hh:Bs:=[82,69,76,65,84,73,79,78]
abbrev L9:Bs:=[73,78,84,79]
abbrev L4:Bs:=[69,88,65,67,84]
abbrev La:Bs:=[68,69,76,69,84,69,68]
abbrev wOFF:Bs:=[79,70,70]
abbrev DT:Bs:=[65,76,76]
abbrev DR:Bs:=[82,69,83,84]
abbrev Cy:Bs:=[82,69,67,79,82,68]
def ET(W:List Bs)(s:Bs):Bs:=if W.contains s then s else if 4<=s.length then(W.find? λw=>s.isPrefixOf w).getD []else []
def As(l:List Tok)(W:List Bs)(i:Nat):Bs:=if(Ab l i).kind==0 then ET W (Ab l i).text else []
def Bp(l:List Tok)(W:List Bs)(i:Nat):Bs:=
 if Ah (Ab l (i+1)) [61]||Ah (Ab l (i+1)) [58,61]||Ah (Ab l (i+1)) [91]||Ah (Ab l (i+1)) [45,62]then []else As l W i
def endWords:List Bs:=[Jx,JC,J3,EZ,JW,Lb,L3,BN,Hm,Iu,Ed,C9]
structure Rd(l:List Tok)(α:Type) where
 f:Nat->Res α
namespace Rd
variable {β:Type}
def pure(a:α):Rd l α:=⟨λi=> .ok a i⟩
def bind(p:Rd l α)(q:α->Rd l β):Rd l β:=⟨λi=>(p.f i).bind λx j=>(q x).f j⟩
def bad(_:α):Rd l α:=⟨λi=> .bad i⟩
def out(_:α):Rd l α:=⟨λ_=> .out⟩
def skip:Rd l Unit:=⟨λi=> .ok () (i+1)⟩
def want(s:Bs):Rd l Unit:=⟨AW l s⟩
def fin:Rd l Unit:=⟨B3 l⟩
def name(_:Al l):Rd l Bs:=⟨AD l⟩
def ifs(s:Bs)(p q:Rd l α):Rd l α:=⟨λi=>if Ah (Ab l i) s then p.f (i+1)else q.f i⟩
def cond(c:Nat->Bool)(p q:Rd l α):Rd l α:=⟨λi=>if c i then p.f i else q.f i⟩
def condW(c:Nat->Bool)(p q:Rd l α):Rd l α:=⟨λi=>if c i then p.f i else q.f i⟩
def In(c:Nat->Bool)(p q:Rd l α):Rd l α:=⟨λi=>if c i then p.f i else q.f i⟩
def ifw(W:List Bs)(w:Bs)(p q:Rd l α):Rd l α:=In (λi=>As l W i==w) (skip.bind λ_=>p) q
def must(W:List Bs)(w:Bs):Rd l Unit:=ifw W w (pure ()) (bad ())
def here(W:List Bs):Rd l Bs:=⟨λi=> .ok (As l W i) i⟩
def moreS(s:Bs)(step:α->Rd l α):Nat->α->Rd l α
 | 0,a=>out a
 |n+1,a=>ifs s ((step a).bind (moreS s step n)) (pure a)
def moreW(W:List Bs)(w:Bs)(step:α->Rd l α):Nat->α->Rd l α
 | 0,a=>out a
 |n+1,a=>ifw W w ((step a).bind (moreW W w step n)) (pure a)
def atEnd(l:List Tok)(i:Nat):Bool:=(Ab l i).kind==5
end Rd
def sd0(op:Int)(s:Bs):Sd:=⟨op,s,[],[],.nil,0,.nil,.nil,.nil⟩
def Bl.app:Bl->Bl->Bl
 | .nil,g=>g
 | .st h b n,g=> .st h b (n.app g)
 | .bl b n,g=> .bl b (n.app g)
abbrev StB:=Sd×Bl
structure ScM where
 kind:Int
 n:Fo
 f:Fo
 w:Fo
def Cm:ScM:=⟨0,.nil,.nil,.nil⟩
def Db(s:Sd)(c:ScM):Sd:={s with kind:=c.kind,n:=c.n,f:=c.f,w:=c.w}
def AZ(w:Bs):Int:=if w=DT then 1 else if w=BN then 2 else if w=DR then 3 else if w=Cy then 4 else 0
section
open Rd
variable (hn:Al l)(W:List Bs)(day:Bs->Int)(n:Nat)(block:Rd l Bl)
def B5(_:Al l)(day:Bs->Int)(n:Nat):Rd l Ex:=⟨Ak l day n⟩
def GO(_:Al l)(day:Bs->Int)(n:Nat):Rd l Fo:=⟨Dd l (Ak l day n) n⟩
def OC(_:Al l)(n:Nat):Rd l (List Bs):=⟨CG l n⟩
def L1(_:Al l)(day:Bs->Int)(n:Nat):Rd l Ex:=⟨DJ l (Ak l day n)⟩
def Ip:Rd l Fo:=condW (atEnd l) (pure .nil) ((B5 hn day n).bind λx=>pure (.one x))
def FY(a:List Bs×Fo):Rd l (List Bs×Fo):=(name hn).bind λs=>(ifs [58,61] (B5 hn day n) (pure C6)).bind λx=>pure (a.1++[s],a.2.snoc x)
def D9(w:Bs):Rd l StB:=(FY hn day n ([],.nil)).bind λa=>(moreS [44] (FY hn day n) n a).bind λa=>fin.bind λ_=>pure ({sd0 2 w with p:=a.1,x:=a.2},.nil)
def D0(a:Fo×Bl):Rd l (Fo×Bl):=(B5 hn day n).bind λx=>fin.bind λ_=>block.bind λb=>pure (a.1.snoc x,a.2.app (.bl b .nil))
def Ew(more other last:Bs):Rd l StB:=
 (D0 hn day n block (.nil,.nil)).bind λa=>(moreW W more (D0 hn day n block) n a).bind λa=>
  (ifw W other (fin.bind λ_=>block.bind λb=>pure (a.2.app (.bl b .nil))) (pure a.2)).bind λbs=>
   (must W last).bind λ_=>fin.bind λ_=>pure ({sd0 3 []with x:=a.1},bs)
def doP:Rd l StB:=
 ifw W EZ (fin.bind λ_=>(must W EZ).bind λ_=>Ew hn W day n block EZ JW Lb)
  (ifw W Eh ((D0 hn day n block (.nil,.nil)).bind λa=>(must W L3).bind λ_=>fin.bind λ_=>pure ({sd0 4 []with x:=a.1},a.2))
   ((name hn).bind λs=>(ifw W GQ (GO hn day n) (pure .nil)).bind λf=>fin.bind λ_=>pure ({sd0 9 s with x:=f},.nil)))
def EU:Rd l StB:=
 (name hn).bind λs=>(want [61]).bind λ_=>(B5 hn day n).bind λx=>(must W wTO).bind λ_=>(B5 hn day n).bind λy=>
  (ifw W JD (B5 hn day n) (pure (A7 2 1 []))).bind λz=>fin.bind λ_=>block.bind λb=>(must W BN).bind λ_=>fin.bind λ_=>
   pure ({sd0 5 s with x:=((Fo.one x).snoc y).snoc z},.bl b .nil)
def EN:Rd l StB:=
 (must W N6).bind λ_=>fin.bind λ_=>block.bind λb=>
  (ifw W Hm ((ifw W J4 (name hn) (pure [])).bind λs=>fin.bind λ_=>block.bind λc=>pure (s,Bl.bl b (.bl c .nil))) (pure ([],Bl.bl b .nil))).bind λr=>
   (must W Iu).bind λ_=>fin.bind λ_=>pure (sd0 11 r.1,r.2)
def By:Nat->ScM->Rd l ScM
 | 0,c=>out c
 |k+1,c=>condW (λ_=>false) (pure c) ((here W).bind λw=>
  if AZ w≠0/\c.kind=0 then skip.bind λ_=>if w=BN\/w=Cy then(B5 hn day n).bind λx=>By k {c with kind:=AZ w,n:= .one x}else By k {c with kind:=AZ w}
  else if w=CS/\c.f.len=0 then skip.bind λ_=>(B5 hn day n).bind λx=>By k {c with f:= .one x}
  else if w=Eh/\c.w.len=0 then skip.bind λ_=>(B5 hn day n).bind λx=>By k {c with w:= .one x}
  else pure c)
def EG(a:List Bs×Fo):Rd l (List Bs×Fo):=(name hn).bind λs=>(must W GQ).bind λ_=>(B5 hn day n).bind λx=>pure (a.1++[s],a.2.snoc x)
def F5(s:Sd):Rd l Sd:=
 (must W wON).bind λ_=>(B5 hn day n).bind λx=>(must W wTAG).bind λ_=>(name hn).bind λp=>
  (ifw W CS ((B5 hn day n).bind λy=>pure (Fo.two x y)) (pure (Fo.one x))).bind λf=>
   (here W).bind λw=>(if w=Ic\/w=Ha then skip.bind λ_=>pure w else pure []).bind λt=>
    (ifw W CP (pure [p,CP]) (pure [p])).bind λps=>pure {s with p:=ps,x:=f,t:=t}
def Fr(s:Sd):Rd l Sd:=
 (here W).bind λw=>
  if w=L4\/w=La then skip.bind λ_=>(here W).bind λt=>if t=wON\/t=wOFF then skip.bind λ_=>pure {s with s:=w,t:=t}else bad {s with s:=w}
  else if w=GJ\/w=Ib\/w=Hh then skip.bind λ_=>(must W wTO).bind λ_=>cond (atEnd l) (pure {s with s:=w})
   (if w=GJ then(name hn).bind λp=>pure {s with s:=w,p:=[p]}
    else if w=Ib then(B5 hn day n).bind λx=>pure {s with s:=w,x:= .one x}
    else(B5 hn day n).bind λx=>(must W L9).bind λ_=>(name hn).bind λp=>pure {s with s:=w,x:= .one x,p:=[p]})
  else bad s
def goP(s:Sd):Rd l Sd:=(here W).bind λw=>cond (λi=>(w==FL||w==Fy)&&atEnd l (i+1)) (skip.bind λ_=>pure {s with t:=w}) ((B5 hn day n).bind λx=>pure {s with x:= .one x})
def BA(w:Bs):Rd l Sd:=
 if w=F2 then(name hn).bind λp=>pure {sd0 13 w with p:=[p]}
 else if w=FM then cond (atEnd l) (pure (sd0 13 w)) ((name hn).bind λp=>(ifw W Il ((name hn).bind λq=>pure [p,q]) (pure [p])).bind λps=>pure {sd0 13 w with p:=ps})
 else if w=wGO then goP hn W day n (sd0 13 w)
 else if w=FH then(Ip hn day n).bind λx=>pure {sd0 13 w with x:=x}
 else if w=FG then(B5 hn day n).bind λx=>pure {sd0 13 w with x:= .one x}
 else if w=Ff\/w=FF\/w=FN then pure (sd0 13 w)
 else if w=Fx then(must W L2).bind λ_=>pure (sd0 13 w)
 else if w=F0\/w=Fz\/w=F1 then(By hn W day n n Cm).bind λc=>pure (Db (sd0 13 w) c)
 else if w=Fs then(EG hn W day n ([],.nil)).bind λa=>(moreS [44] (EG hn W day n) n a).bind λa=>(By hn W day n n Cm).bind λc=>pure (Db {sd0 13 w with p:=a.1,x:=a.2} c)
 else if w=F8 then(must W wTO).bind λ_=>(name hn).bind λp=>(By hn W day n n Cm).bind λc=>pure (Db {sd0 13 w with p:=[p]} c)
 else if w=FK then(B5 hn day n).bind λx=>(must W wTO).bind λ_=>(name hn).bind λp=>(By hn W day n n Cm).bind λc=>pure (Db {sd0 13 w with p:=[p],x:= .one x} c)
 else if w=F9 then F5 hn W day n (sd0 13 w)
 else Fr hn W day n (sd0 13 w)
def cmdWords:List Bs:=[F2,FM,wGO,FH,FG,Ff,FF,FN,Fx,F0,Fz,F1,Fs,F8,FK,F9,Gx]
def Bw(w:Bs):Rd l StB:=
 if w=Gs\/w=Gc\/w=Gk\/w=Gl then skip.bind λ_=>D9 hn day n w
 else if w=wIF then skip.bind λ_=>Ew hn W day n block Jx JC J3
 else if w=wDO then skip.bind λ_=>doP hn W day n block
 else if w=CS then skip.bind λ_=>EU hn W day n block
 else if w=Fb then skip.bind λ_=>fin.bind λ_=>pure (sd0 6 [],.nil)
 else if w=Fa then skip.bind λ_=>fin.bind λ_=>pure (sd0 7 [],.nil)
 else if w=D8 then skip.bind λ_=>(Ip hn day n).bind λx=>fin.bind λ_=>pure ({sd0 8 []with x:=x},.nil)
 else if w=DM then skip.bind λ_=>(Ip hn day n).bind λx=>fin.bind λ_=>pure ({sd0 12 []with x:=x},.nil)
 else if w=GI then skip.bind λ_=>EN hn W block
 else if cmdWords.contains w then skip.bind λ_=>(BA hn W day n w).bind λs=>fin.bind λ_=>pure (s,.nil)
 else bad (sd0 13 w,.nil)
def Gw(t:Ex):Rd l StB:=(ifs [61] (pure ()) (want [58,61])).bind λ_=>(B5 hn day n).bind λx=>fin.bind λ_=>pure ({sd0 0 []with x:= .two t x},.nil)
def On:Rd l Fo:=ifs [41] (pure .nil) ((GO hn day n).bind λf=>(want [41]).bind λ_=>pure f)
def Ir(s:Bs):Rd l StB:=
 ifs [40] ((On hn day n).bind λf=>fin.bind λ_=>pure ({sd0 10 []with x:= .one ⟨hd0 3 s,f⟩},.nil))
  (ifs [91] ((B5 hn day n).bind λx=>(want [93]).bind λ_=>Gw hn day n (Eg (AH s) x))
   (ifs [45,62] ((name hn).bind λt=>Gw hn day n ⟨hd0 2 s,.one (AH t)⟩) (Gw hn day n (AH s))))
def EP:Rd l StB:=
 ifs [63] ((cond (atEnd l) (pure .nil) (GO hn day n)).bind λx=>fin.bind λ_=>pure ({sd0 1 []with x:=x},.nil))
  (cond (λi=>Ah (Ab l i) [38]) ((L1 hn day n).bind λt=>Gw hn day n t) ((name hn).bind λs=>Ir hn day n s))
def keyP:Rd l Bs:=⟨λi=> .ok (Bp l W i) i⟩
def BL:Rd l StB:=(keyP W).bind λw=>if w=[]then EP hn day n else Bw hn W day n block w
end
section
open Rd
variable (hn:Al l)(W:List Bs)(day:Bs->Int)
def Ft(l:List Tok)(W:List Bs)(i:Nat):Bool:=decide (i<l.length)&&!endWords.contains (Bp l W i)
def DF(st:Rd l StB):Nat->Bl->Rd l Bl
 | 0,a=>out a
 |k+1,a=>In (Ft l W) (st.bind λr=>DF st k (a.app (.st r.1 r.2 .nil))) (pure a)
def Dx:Nat->Rd l Bl
 | 0=>out .nil
 |n+1=>DF W (BL hn W day n (Dx n)) n .nil
def Yx(n:Nat):Rd l (List Bs):=ifs [40] (ifs [41] (pure []) ((OC hn n).bind λp=>(want [41]).bind λ_=>pure p)) (pure [])
end
abbrev Pq:=Bs×Bool×List Bs×Bl
section
open Rd
variable (hn:Al l)(W:List Bs)(day:Bs->Int)
def El(n:Nat)(a:List Pq)(fn:Bool):Rd l (List Pq):=
 (name hn).bind λs=>(Yx hn n).bind λp=>fin.bind λ_=>(Dx hn W day n).bind λb=>pure (a++[(s,fn,p,b)])
def DD(n:Nat):Nat->List Pq->Rd l (List Pq)
 | 0,a=>out a
 |k+1,a=>In (λi=>decide (i<l.length)) ((here W).bind λw=>
  if w=Ed\/w=C9 then skip.bind λ_=>(El hn W day n a (w==C9)).bind λa=>DD n k a else bad a) (pure a)
def BY(n:Nat):Rd l (List Pq):=(Dx hn W day n).bind λb=>DD hn W day n n [([77,65,73,78],false,[],b)]
end
def E0(s:Bs)(k j:Nat):UInt8:=if j<k then Lib.upperB (bAt s j)else bAt s j
def KT(s:Bs):(Lib.toUpperA s).length=s.length:=by simp[Lib.toUpperA]
def VO(s:Bs)(j:Nat)(hj:j<(Lib.toUpperA s).length):(Lib.toUpperA s)[j]=Lib.upperB (bAt s j):=by
 have hj':j<s.length:=by rwa[KT]at hj
 simp[Lib.toUpperA,B0 hj']
structure CapR(w:World)(s:Bs)(H k:Nat)(wr:World):Prop where
 cell:∀j,j<s.length->wr.cell? ⟨H,j,none⟩=some (.int .u8 (E0 s k j).toNat)
 fr:∀j,j<s.length->wr.frozen? ⟨H,j,none⟩=false
 lt:H<wr.heap.size
 g:w.grownBy wr none
def CapR.step{H:Nat}(h:CapR w s H k wr)(hH:w.heap.size<=H)(hk:k<s.length):CapR w s H (k+1) (wr.setCell ⟨H,k,none⟩ (.int .u8 (Lib.upperB (bAt s k)).toNat)):=by
 refine⟨λj hj=>?_,λj hj=>by rw[World.frozen?_setCell];exact h.fr j hj,by simpa using h.lt,Af h.g _ _ (.inr hH)⟩;by_cases e:j=k
 ·subst e;rw[World.cell?_setCell_same _ _ _ (h.cell j hj)];simp[E0]
 ·rw[World.cell?_setCell_other _ _ _ _ (by simp[e]),h.cell j hj];have:(j<k+1)=(j<k):=by apply propext;omega
  simp[E0,this]
structure Grown2(w w':World)(b k:Nat):Prop where
 os:w'.os=w.os
 tape:w'.tape=w.tape
 output:w'.output=w.output
 size:w.heap.size<=w'.heap.size
 block:∀i,i<w.heap.size->i≠b->i≠k->w'.heap[i]? =w.heap[i]?
section
variable {w2:World}
def Grown2.of(g:w.grownBy w1 r)(hr:r=none\/r=some b\/r=some k):Grown2 w w1 b k:=
 ⟨g.os,g.tape,g.output,g.size,λi hi hb hk=>g.block i hi (by rcases hr with rfl|rfl|rfl<;>simp<;>assumption)⟩
def Grown2.trans(h:Grown2 w w1 b k)(g:Grown2 w1 w2 b k):Grown2 w w2 b k:=
 ⟨g.os.trans h.os,g.tape.trans h.tape,g.output.trans h.output,nT h.size g.size,λi hi hb hk=>(g.block i (Nat.lt_of_lt_of_le hi h.size) hb hk).trans (h.block i hi hb hk)⟩
def Grown2.gb(g0:w.grownBy w1 none)(h:Grown2 w1 w2 b k)(hb:w.heap.size<=b):w.grownBy w2 (some k):=
 ⟨h.os.trans g0.os,h.tape.trans g0.tape,h.output.trans g0.output,nT g0.size h.size,λi hi hk=>(h.block i (Nat.lt_of_lt_of_le hi g0.size) (by omega) (by simpa using hk)).trans (g0.block i hi (by simp))⟩
def Grown2.blk(h:Grown2 w w1 b k)(hB:Blk w i cs t)(h1:i≠b)(h2:i≠k):Blk w1 i cs t:=(h.block i hB.lt h1 h2).trans hB
end
def BP{α:Type}(l:List Tok):Res α->Int
 | .ok _ j=>if j<l.length then j else -1
 | .bad q=>q
 | .out=>0
def KQ{α:Type}(b k:Nat)(w1:World)(U:World->Prop)(V:Nat->World->α->Prop)(M:Res α)(e:Ending)(w2:World):Prop:=
 Grown2 w1 w2 b k/\U w2/\match M with
  | .ok a j=>e= .returned (.tuple #[])/\V w1.heap.size w2 a/\w2.cell? ⟨b,1,none⟩=some (.int .i64 j)
  | .bad q=>e= .panicked (GP q)
  | .out=>False
def XL{α:Type}(l:List Tok)(k:Nat)(w:World)(U:World->Prop)(V:Nat->World->α->Prop)(M:Res α)(e:Ending)(w':World):Prop:=
 e= .returned (.int .i64 (BP l M))/\w.grownBy w' (some k)/\U w'/\∀a j,M= .ok a j->∃B,w.heap.size<=B/\V B w' a
def O6(hg:Glob w)(ht:TRow w tv l (λ_=>True))(hlen:l.length<=4001)(gf:Nat)(cap:Array Value)
 (hcf:∀v w,(callFunc gf (#[v]++cap)).run Tryz.prog w= .ok (.enter gf (#[v]++cap)) w)  (M:Res α) (k:Nat) (hk:k<w.heap.size) (U:World->Prop) (hU:∀w2 w3 r,U w2->w2.grownBy w3 (some r)->w.heap.size<=r->U w3) (V:Nat->World->α->Prop)
 (hV:∀B w2 w3 a r,V B w2 a->w2.grownBy w3 (some r)->w.heap.size<=r->r<B->V B w3 a)
 (hrule:∀w1 b wv,w.grownBy w1 none->w.heap.size<=b->Par w1 b tv wv l wordsL 0->SRow w1 wv wordsL (λg=>w.heap.size<=g/\g<b)->Calls Tryz.prog gf (#[.pointer (some ⟨b,0,none⟩)]++cap) w1 (KQ b k w1 U V M)):
 Calls Tryz.prog 206 #[tv,.func (.func gf) #[] cap] w (XL l k w U V M):=by
 have hmf:∀(fn:Fn)(first cap:Array Value)(w:World),(Instr.makeFunc fn first cap).run Tryz.prog w= .ok (.func fn first cap) w:=λ_ _ _ _=>rfl;obtain⟨ta,tc,rfl,_⟩:=id ht;have g0:w.grownBy (w.alloc (.cells #[.int .i64 0] 3 (0,0))) none:=gZ w _ none;have hR:=Blk.new w [.int .i64 0] 3;go_enter_defers func206,ntmps206;go_wp2_with fail;refine(WC (hg.gb g0 (by simp))).mono ?_;rintro e wA ⟨wv,rfl,hS,gA⟩;obtain⟨wa,wc,rfl,_⟩:=id hS;have gA0:=Z g0 gA;have hA:=gZ wA (.cells #[.slice ta l.length tc,.int .i64 0,.slice wa wordsL.length wc,.slice none 0 0] 284 (0,0)) none;have hPar:Par (wA.alloc (.cells [.slice ta l.length tc,.int .i64 0,.slice wa wordsL.length wc,.slice none 0 0].toArray 284 (0,0))) wA.heap.size (.slice ta l.length tc) (.slice wa wordsL.length wc) l wordsL 0:=by
  refine⟨Blk.new wA _ _,?_,?_,nZ _,hlen⟩
  ·obtain⟨a,c,e,h1,h2,h3⟩:=ht;refine⟨a,c,e,h1,h2,λj hj=>?_⟩;obtain⟨lb,lo,ea,_,c0,c1,c2⟩:=h3 j hj;have hlt:=bY w _ c0;have:=gA0.size;exact⟨lb,lo,ea,by simp at hlt;omega,Ae hA (Ae gA0 c0),Ae hA (Ae gA0 c1),Ae hA (Ae gA0 c2)⟩
  ·obtain⟨a,c,e,h1,h2,h3⟩:=hS;refine⟨a,c,e,h1,h2,λj hj=>?_⟩;obtain⟨lb,lo,ea,_,c0⟩:=h3 j hj;have hlt:=bY wA _ c0;exact⟨lb,lo,ea,hlt,Ae hA c0⟩
 have hWd:SRow (wA.alloc (.cells [.slice ta l.length tc,.int .i64 0,.slice wa wordsL.length wc,.slice none 0 0].toArray 284 (0,0))) (.slice wa wordsL.length wc) wordsL (λg=>w.heap.size<=g/\g<wA.heap.size):=by
  obtain⟨a,c,e,h1,h2,h3⟩:=hS;refine⟨a,c,e,h1,h2,λj hj=>?_⟩;obtain⟨lb,lo,ea,hge,c0⟩:=h3 j hj;have hlt:=bY wA _ c0;exact⟨lb,lo,ea,⟨by simp at hge;omega,hlt⟩,Ae hA c0⟩
 have gB:=Z gA0 hA;have hsA:=gA.size;simp at hsA;have hR2:=(hR.gb gA (by simp)).gb hA (by simp);go_wp2_with fail;refine(hrule _ _ _ gB (by omega) hPar hWd).mono ?_;rintro e w2 ⟨g2,hu,h2⟩;have hR3:=g2.blk hR2 (by omega) (by omega);have gC:=Grown2.gb gB g2 (by omega);cases hM:M with
 |out=>rw[hM]at h2;exact h2.elim
 | bad q=>
   rw[hM]at h2;subst h2;refine leaves_cons (f:=235) (args:=#[.pointer (some ⟨w.heap.size,0,none⟩)]) (by simp) (by simp[go_sem]) ?_;refine(Mp (hR3.cell 0) (hR3.frozen 0)).mono ?_;rintro e u' w3 ⟨rfl,rfl,rfl⟩;have hc:=((hR3.set 0 (.int .i64 q)).alloc (.cells #[.int .i64 q] 281 (0,0))).cell 0;refine⟨.int .i64 q,by simp[results,results206,go_sem,hc],rfl,Ac (Af gC _ _ (.inr (nR _))) _,hU _ _ _ hu (Ac (Af (Aa _ (some w.heap.size)) _ _ (.inl rfl)) _) (nR _),by simp⟩
 | ok a j=>
   rw[hM]at h2;obtain⟨rfl,hVa,c1⟩:=h2;by_cases hj:j<l.length
   ·go_wp2_with fail;refine(DV c1).mono ?_;rintro e w3 ⟨rfl,rfl⟩;refine leaves_cons (f:=235) (args:=#[.pointer (some ⟨w.heap.size,0,none⟩)]) (by simp) (by simp[go_sem]) ?_;refine(Mp (hR3.cell 0) (hR3.frozen 0)).mono ?_;rintro e u' w3 ⟨rfl,rfl,rfl⟩;have hc:=((hR3.set 0 (.int .i64 j)).alloc (.cells #[.int .i64 j] 281 (0,0))).cell 0;refine⟨.int .i64 j,by simp[results,results206,go_sem,hc],by simp[BP,hj],Ac (Af gC _ _ (.inr (nR _))) _,hU _ _ _ hu (Ac (Af (Aa _ (some w.heap.size)) _ _ (.inl rfl)) _) (nR _),?_⟩;rintro a' j' ⟨⟩;exact⟨_,gB.size,hV _ _ _ _ _ hVa (Ac (Af (Aa _ (some w.heap.size)) _ _ (.inl rfl)) _) (nR _) (by simp;omega)⟩
   ·have hc0:=hR3.cell 0;have hf0:=hR3.frozen 0;simp only[List.getElem?_cons_zero]at hc0;go_wp2;refine leaves_cons (f:=235) (args:=#[.pointer (some ⟨w.heap.size,0,none⟩)]) (by simp) (by simp[go_sem]) ?_;refine(Sk ⟨w.heap.size,0,none⟩ _).mono ?_;rintro e u' w3 ⟨rfl,rfl,rfl⟩;have hc:=(hR3.set 0 (.int .i64 (-1))).cell 0;refine⟨.int .i64 (-1),by simp[results,results206,go_sem,hc],by simp[BP,hM,hj],Af gC _ _ (.inr (nR _)),hU _ _ _ hu (Af (Aa _ (some w.heap.size)) _ _ (.inl rfl)) (nR _),?_⟩;rintro a' j' e';rw[hM]at e';cases e';exact⟨_,gB.size,hV _ _ _ _ _ hVa (Af (Aa _ (some w.heap.size)) _ _ (.inl rfl)) (nR _) (by simp;omega)⟩
def BX(l:List Tok)(day:Bs->Int)(n:Nat):Res Ex:=(Ak l day n 0).bind λx i=>(B3 l i).bind λ_ j=> .ok x j
def HoldsE(k B:Nat)(w:World)(x:Ex):Prop:=∃pa pc la lc,Blk w k (hdC x.h (.slice pa x.h.p.length pc) (.slice la x.kids.len lc)) 163/\
 Cells w (.slice pa x.h.p.length pc) 1 x.h.p.length (x.h.p.map str) (An B)/\RepL (An B) w (.slice la x.kids.len lc) x.kids
def SomeE(k:Nat)(w:World):Prop:=∃h pa pn pc la ln lc,Blk w k (hdC h (.slice pa pn pc) (.slice la ln lc)) 163
def SomeE.gb(h:SomeE k w)(g:w.grownBy w1 r)(h1:r≠some k):SomeE k w1:=by
 obtain⟨h,pa,pn,pc,la,ln,lc,hb⟩:=h;exact⟨h,pa,pn,pc,la,ln,lc,hb.gb g (λe=>h1 e.symm)⟩
def HoldsE.gb(h:HoldsE k B w x)(g:w.grownBy w1 r)(h1:r≠some k)(h2:∀q,r=some q->q<B):HoldsE k B w1 x:=by
 obtain⟨pa,pc,la,lc,hb,hp,hl⟩:=h;have hk:∀q,An B q->q<w.heap.size->some q≠r:=λq hq _ e=>by have:=h2 q e.symm;simp at hq;omega
 exact⟨pa,pc,la,lc,hb.gb g (λe=>h1 e.symm),hp.gb g hk,hl.gb g hk⟩
def TRow.mono(h:TRow w v l ok)(hk:∀k,ok k->k<w.heap.size->ok' k):TRow w v l ok':=by
 obtain⟨a,cap,e,h1,h2,h3⟩:=h;refine⟨a,cap,e,h1,h2,λj hj=>?_⟩;obtain⟨lb,lo,ea,ho,c0,c1,c2⟩:=h3 j hj;exact⟨lb,lo,ea,hk _ ho (bY w _ c0),c0,c1,c2⟩
def SRow.mono{l:List Bs}(h:SRow w v l ok)(hk:∀k,ok k->k<w.heap.size->ok' k):SRow w v l ok':=by
 obtain⟨a,cap,e,h1,h2,h3⟩:=h;refine⟨a,cap,e,h1,h2,λj hj=>?_⟩;obtain⟨lb,lo,ea,ho,c0⟩:=h3 j hj;exact⟨lb,lo,ea,hk _ ho (bY w _ c0),c0⟩
def Uc{wv:Value}{wl:List Bs}(hl:En day l)(n:Nat)(hp:Par w b tv wv l wl 0)(hk:Blk w k zeroE 163)(hkb:k<b)
 (ht:TRow w tv l (· < k)) (hs:SRow w wv wl (λg=>k<g/\g<b)) (ho:BX l day n ≠ .out):
 Calls Tryz.prog 207 #[.pointer (some ⟨b,0,none⟩),.pointer (some ⟨k,0,none⟩)] w (KQ b k w (SomeE k) (HoldsE k) (BX l day n)):=by
 have hE:=MV (b:=b) (tv:=tv) (wv:=wv) (wl:=wl) hl n;generalize hR:BX l day n=R at*;have HQ:=S hR;rw[BX]at HQ;have H:=S (X hE ho);clear hE ho hR hl;have hb:=hp.lt;go_enter func207,ntmps207;go_wp2_with fail;refine(H.1.1 _ _ hp (λe=>H.1.2 (by rw[<-HQ.1,e];rfl))).mono ?_;intro e w1 hq;obtain⟨g,⟨q,hr,rfl⟩| ⟨x,j,v,hr,rfl,⟨pa,pc,la,lc,rfl,rp,rl⟩,hp⟩⟩:=hq.split
 ·have e1:R= .bad q:=by rw[<-HQ.1,hr];rfl
  subst e1;exact⟨rfl,Grown2.of g (.inr (.inl rfl)),⟨hd0 0 [],none,0,0,none,0,0,hk.gb g (by simp;omega)⟩,rfl⟩
 replace HQ:=HQo HQ hr;clear hr;replace hk:=hk.gb g (by simp;omega);replace ht:=ht.gb g (by intro q hq e;cases e;have:b<k:=hq;omega);replace hs:=hs.gb g (by intro q hq e;cases e;have:=hq.2;omega);have hb1:=g.size;have g7:=A2 w1 k (.int .i64 x.h.op) (str x.h.s) (.int .i64 x.h.vk) (.int .i64 x.h.vn) (str x.h.vs) (.slice pa x.h.p.length pc) (.slice la x.kids.len lc);have hk7:=hk.set7 (.int .i64 x.h.op) (str x.h.s) (.int .i64 x.h.vk) (.int .i64 x.h.vn) (str x.h.vs) (.slice pa x.h.p.length pc) (.slice la x.kids.len lc);have hok:∀q,An w.heap.size q->q<w1.heap.size->some q≠some k:=λq hq _ e=>by simp at hq;cases e;omega
 have hX:=S (X (rp.gb g7 hok) (rl.gb g7 hok));have hp7:Par (set7 w1 k (.int .i64 x.h.op) (str x.h.s) (.int .i64 x.h.vk) (.int .i64 x.h.vn) (str x.h.vs) (.slice pa x.h.p.length pc) (.slice la x.kids.len lc)) b tv wv l wl j:=
  ⟨hp.blk.gb g7 (by simp;omega),(ht.gb g7 (by intro q hq e;cases e;have:k<k:=hq;omega)).mono (λq hq _=>by have:q<k:=hq;omega),(hs.gb g7 (by intro q hq e;cases e;have:=hq.1;omega)).mono (λq hq _=>hq.2),hp.le,hp.few⟩
 have gX:Grown2 w (set7 w1 k (.int .i64 x.h.op) (str x.h.s) (.int .i64 x.h.vk) (.int .i64 x.h.vn) (str x.h.vs) (.slice pa x.h.p.length pc) (.slice la x.kids.len lc)) b k:=(Grown2.of g (.inr (.inl rfl))).trans (Grown2.of g7 (.inr (.inr rfl)));clear rp rl hp ht hs;have cl_:=hk.c7;go_wp2_with fail;refine(AY hp7).mono ?_;intro e w2 hq;obtain⟨g2,⟨q,hr,rfl⟩| ⟨_,j2,v,hr,rfl,rfl,hp⟩⟩:=hq.split
 ·have e1:R= .bad q:=by rw[<-HQ.1,hr];rfl
  subst e1;exact⟨rfl,gX.trans (Grown2.of g2 (.inr (.inl rfl))),⟨x.h,_,_,_,_,_,_,hk7.gb g2 (by simp;omega)⟩,rfl⟩
 have e1:R= .ok x j2:=by rw[<-HQ.1,hr];rfl
 subst e1;have hk8:=hk7.gb g2 (by simp;omega);have hok2:∀q,An w.heap.size q->q<(set7 w1 k (.int .i64 x.h.op) (str x.h.s) (.int .i64 x.h.vk) (.int .i64 x.h.vn) (str x.h.vs) (.slice pa x.h.p.length pc) (.slice la x.kids.len lc)).heap.size->some q≠some b:=λq hq _ e=>by simp at hq;cases e;omega
 go_wp2;have hX2:=X (hX.1.1.gb g2 hok2) (hX.1.2.gb g2 hok2);exact⟨rfl,.tuple #[],by simp[results,results207,go_sem],gX.trans (Grown2.of g2 (.inr (.inl rfl))),⟨x.h,_,_,_,_,_,_,hk8⟩,rfl,⟨pa,pc,la,lc,hk8,hX2.1,hX2.2⟩,hp.c1⟩
def VR(k:Nat)(v:Value)(w:World):(callFunc 207 (#[v]++#[.pointer (some ⟨k,0,none⟩)])).run Tryz.prog w= .ok (.enter 207 (#[v]++#[.pointer (some ⟨k,0,none⟩)])) w:=by kernel_rfl
def WG(l:List Tok)(w:World)(M:Res Ex)(e:Ending)(w':World):Prop:=
 ∃h pa pn pc la ln lc,e= .returned (.tuple #[exV h (.slice pa pn pc) (.slice la ln lc),.int .i64 (BP l M)])/\w.grownBy w' none/\
  ∀x j,M= .ok x j->VE (An w.heap.size) w' (exV h (.slice pa pn pc) (.slice la ln lc)) x
def X6(hg:Glob w)(hl:En day l)(ht:TRow w tv l (λ_=>True))(hlen:l.length<=4001)(n:Nat)(ho:BX l day n ≠ .out):
 Calls Tryz.prog 157 #[tv] w (WG l w (BX l day n)):=by
 have hmf:∀(fn:Fn)(first cap:Array Value)(w:World),(Instr.makeFunc fn first cap).run Tryz.prog w= .ok (.func fn first cap) w:=λ_ _ _ _=>rfl;have g0:w.grownBy ((w.alloc (.cells zeroE.toArray 163 (0,0))).alloc (.cells zeroE.toArray 163 (0,0))) none:=Ac (gZ w _ none) _;have hz:=(Blk.new w zeroE 163).alloc (.cells zeroE.toArray 163 (0,0));have hk:=Blk.new (w.alloc (.cells zeroE.toArray 163 (0,0))) zeroE 163;replace hk:=hk.of_eq (k':=w.heap.size+1) (by simp) rfl;have ht0:=(ht.mono (ok':=λg=>g<w.heap.size) (λk _ h=>h)).gb g0 (by simp);have hg0:=hg.gb g0 (by simp);have hk0:=hk.lt;have hw0:4<w.heap.size:=by
  unfold Glob Lib.TabIs World.var? at hg;simp only[Hz,Option.bind_some]at hg;rcases Nat.lt_or_ge 4 w.heap.size with h' |h'
  ·exact h'
  ·rw[Array.getElem?_eq_none h']at hg;simp at hg
 have H:=S (X hl ho);clear hl ho hg;go_enter func157,ntmps157;go_wp2_with fail;refine(O6 (k:=w.heap.size+1) hg0 (ht0.mono (λ_ _ _=>trivial)) hlen 207 #[.pointer (some ⟨w.heap.size+1,0,none⟩)] (VR _) (BX l day n) hk0 (SomeE (w.heap.size+1)) ?_ (HoldsE (w.heap.size+1)) ?_ ?_).mono ?_
 ·intro w2 w3 r h g hr;exact h.gb g (by simp;simp at hr;omega)
 ·intro B w2 w3 a r h g hr hB;exact h.gb g (by simp;simp at hr;omega) (by intro q e;cases e;exact hB)
 ·intro w1 b wv g1 hb1 hp hs;refine Uc H.1.1 n hp (hk.gb g1 (by simp)) (by simp at hb1;omega) ((ht0.gb g1 (by simp)).mono (λq hq _=>by have:q<w.heap.size:=hq;omega)) (hs.mono (λq hq _=>⟨by have:=hq.1;simp at this;omega,hq.2⟩)) H.1.2
 rintro e w1 ⟨rfl,g1,⟨h,pa,pn,pc,la,ln,lc,hB⟩,hV⟩;have hz1:=hz.gb g1 (by simp);have cl_:=hB.c7;have cz_:=hz1.c7;have hltz:=hz1.lt;go_wp2;have g7:=A2 w1 w.heap.size (.int .i64 h.op) (str h.s) (.int .i64 h.vk) (.int .i64 h.vn) (str h.vs) (.slice pa pn pc) (.slice la ln lc);have hW:=hz1.set7 (.int .i64 h.op) (str h.s) (.int .i64 h.vk) (.int .i64 h.vn) (str h.vs) (.slice pa pn pc) (.slice la ln lc);simp only[set7]at hW g7;generalize(((((((w1.setCell {block:=w.heap.size,off:=0} (.int .i64 h.op)).setCell {block:=w.heap.size,off:=1} (str h.s)).setCell {block:=w.heap.size,off:=2} (.int .i64 h.vk)).setCell {block:=w.heap.size,off:=3} (.int .i64 h.vn)).setCell {block:=w.heap.size,off:=4} (str h.vs)).setCell {block:=w.heap.size,off:=5} (.slice pa pn pc)).setCell {block:=w.heap.size,off:=6} (.slice la ln lc))=W at*;obtain⟨dl_0,dl_1,dl_2,dl_3,dl_4,dl_5,dl_6,dl_f⟩:=(hW).c7;refine bZ (v:= .tuple #[exV h (.slice pa pn pc) (.slice la ln lc),.int .i64 (BP l (BX l day n))]) ?_ rfl ⟨h,pa,pn,pc,la,ln,lc,rfl,?_,?_⟩
 ·simp[results,results157,go_sem,dl_0,dl_1,dl_2,dl_3,dl_4,dl_5,dl_6]
 ·exact Aq (Aq g0 g1 (.inr (by omega))) g7 (.inr (nR _))
 ·intro x j e;obtain⟨B,hB',pa',pc',la',lc',hb',rp,rl⟩:=hV x j e;have hok:∀q,An B q->q<w1.heap.size->some q≠some w.heap.size:=λq hq _ e=>by simp at hB' hq;cases e;omega
  have hok2:∀q,An B q->q<W.heap.size->An w.heap.size q:=λq hq _=>by simp at hB' hq ⊢;omega
  have e1:(hdC x.h (.slice pa' x.h.p.length pc') (.slice la' x.kids.len lc')).toArray=(hdC h (.slice pa pn pc) (.slice la ln lc)).toArray:=by
   have e2:=hb'.symm.trans hB;injection e2 with e2
   injection e2
  have e3:exV h (.slice pa pn pc) (.slice la ln lc)=exV x.h (.slice pa' x.h.p.length pc') (.slice la' x.kids.len lc'):=by rw[show exV h _ _= .agg (hdC h (.slice pa pn pc) (.slice la ln lc)).toArray from rfl,<-e1];rfl
  rw[e3];exact⟨pa',pc',la',lc',rfl,(rp.gb g7 hok).mono hok2,(rl.gb g7 hok).mono hok2⟩
def Ub(s:Bs):∀n i line,i<=s.length->2*(s.length-i)+line.toNat<n->CD s n i line ≠ .out:=by
 intro n;induction n using Nat.strongRecOn with
 | ind n ih=>
   intro i line hi hn;rw[Kr];have hf:=S9 s n i line hi hn;cases hq:Bh s n i line with
   | tok t j l m=>
     rw[hq]at hf;have:=ih m (Of s n i line t j l m hq) j l hf.1 hf.2;show(CD s m j l).cons t ≠ .out;cases hr:CD s m j l with
     |ok l=>simp[LexR.cons]
     |bad k=>simp[LexR.cons]
     |out=>exact absurd hr this
   |stop=>simp
   |bad k=>simp
   |out=>rw[hq]at hf;exact hf.elim
def F7(s:Bs):LexR:=CD s (2*s.length+1) 0 false
def JP(s:Bs):F7 s ≠ .out:=Ub s _ 0 false (nZ _) (by simp)
def R1:∀(l:List Tok)(j:Nat),j<l.length->(CY l)[j*3]? =some (.int .i64 (Ab l j).kind)/\(CY l)[j*3+1]? =some (.int .i64 (Ab l j).pos)/\(CY l)[j*3+2]? =some (str (Ab l j).text):=by
 intro l;induction l with
 |nil=>intro j h;simp at h
 | cons t l ih=>
   intro j h;have e:CY (t::l)=FJ t++CY l:=by simp[CY]
   rw[e];cases j with
   |zero=>exact⟨rfl,rfl,rfl⟩
   | succ j=>
     have h':=ih j (by simpa using h);have ht:Ab (t::l) (j+1)=Ab l j:=by simp[Ab]
     rw[ht];have hl:(FJ t).length=3:=rfl;refine⟨?_,?_,?_⟩
     ·rw[List.getElem?_append_right (by rw[hl];omega),hl,show(j+1)*3-3=j*3 by omega];exact h'.1
     ·rw[List.getElem?_append_right (by rw[hl];omega),hl,show(j+1)*3+1-3=j*3+1 by omega];exact h'.2.1
     ·rw[List.getElem?_append_right (by rw[hl];omega),hl,show(j+1)*3+2-3=j*3+2 by omega];exact h'.2.2
def Ra(h:w.ownsRow B 250 3 v l.length (CY l)):TRow w v l (An B):=by
 obtain⟨a,cap,e,h1,h2,h3,h4⟩:=C0 h;refine⟨a,cap,e,h1,h2,λj hj=>?_⟩;obtain⟨c0,c1,c2⟩:=R1 l j hj;obtain⟨g,o,ea,hg,d0⟩:=h4 _ _ c0;obtain⟨g1,o1,ea1,_,d1⟩:=h4 _ _ c1;obtain⟨g2,o2,ea2,_,d2⟩:=h4 _ _ c2;rw[ea]at ea1 ea2;cases ea1;cases ea2;exact⟨g,o,ea,hg,d0,by rw[Nat.add_assoc];exact d1,by rw[Nat.add_assoc];exact d2⟩
def XN(b:Nat)(w:World):Calls Tryz.prog 205 #[.pointer (some ⟨b,0,none⟩)] w λe w'=>e= .returned (.func (.func 233) #[] #[.pointer (some ⟨w.heap.size,0,none⟩)])/\w'=w.alloc (.cells #[.pointer (some ⟨b,0,none⟩)] 244 (0,0)):=by
 have hmf:∀(fn:Fn)(first cap:Array Value)(w:World),(Instr.makeFunc fn first cap).run Tryz.prog w= .ok (.func fn first cap) w:=λ_ _ _ _=>rfl;go_enter func205,ntmps205;go_wp2;go_ret;exact⟨rfl,rfl⟩
def QE{cb:Nat}{R:LexR}(hbc:b≠cb)(hcb:w.cell? ⟨cb,0,none⟩=some (.pointer (some ⟨b,0,none⟩)))(hs:Sc w b s i line line (-1))(ht:Tabs b w)
 (hR:R ≠ .out) (hl:CD s n i line=R) (hn:n<100000):
 Calls Tryz.prog 204 #[.func (.func 233) #[] #[.pointer (some ⟨cb,0,none⟩)]] w
  λe w'=>w.grownBy w' (some b)/\(∃v,e= .returned v/\Lv b s (λl W=>W.ownsRow (w.heap.size+3) 250 3 v l.length (CY l)) R w'):=by
 have hA:=PA hbc hcb hs ht hR hl hn;have HA:=S hA;clear hA hl hcb hs ht hR hn;go_enter func204,ntmps204;go_wp2_with fail;refine HA.1.mono ?_;rintro e w1 ⟨g,v,rfl,hE⟩;have HE:=S hE;clear hE;go_wp2;go_ret;exact⟨g,_,rfl,HE.1⟩
def Wk:∀(cr:List Value)(k:Nat)(pre old post:List Value),old.length=cr.length->pre.length=2+k->
 (cr.zipIdx k).foldl (λcs x=>cs.setIfInBounds (2+x.2) x.1) (pre++old++post).toArray=(pre++cr++post).toArray:=by
 intro cr;induction cr with
 | nil=>
   intro k pre old post h _;have:old=[]:=List.eq_nil_of_length_eq_zero (by simpa using h);subst this;rfl
 | cons c cr ih=>
   intro k pre old post h hp;cases old with
   |nil=>simp at h
   | cons o old=>
     rw[List.zipIdx_cons,List.foldl_cons];have e:(pre++o::old++post).toArray.setIfInBounds (2+k) c=((pre++[c])++old++post).toArray:=by
      rw[<-hp];simp
     simp only[];rw[e,ih (k+1) (pre++[c]) old post (by simpa using h) (by simp;omega)];simp
def Rh:Tryz.zeroCells247=([str [],Value.int .i64 0]++List.replicate 256 (Value.int .u8 0)++[Value.bool false,Value.bool false,Value.int .i64 0]).toArray:=by kernel_rfl
def set0(a v:Value)(l:List Value):(a::l).toArray.setIfInBounds 0 v=(v::l).toArray:=by simp
def Qq(s:Bs)(cr:List Value)(hc:cr.length=256):
 List.foldl (λcs x=>cs.setIfInBounds (2+x.2) x.1) (Tryz.zeroCells247.setIfInBounds 0 (str s)) cr.zipIdx=([str s,Value.int .i64 0]++cr++[Value.bool false,Value.bool false,Value.int .i64 0]).toArray:=by
 rw[Rh];have e:=set0 (str []) (str s) ([Value.int .i64 0]++List.replicate 256 (Value.int .u8 0)++[Value.bool false,Value.bool false,Value.int .i64 0]);have e2:([str [],Value.int .i64 0]++List.replicate 256 (Value.int .u8 0)++[Value.bool false,Value.bool false,Value.int .i64 0]).toArray.setIfInBounds 0 (str s)=([str s,Value.int .i64 0]++List.replicate 256 (Value.int .u8 0)++[Value.bool false,Value.bool false,Value.int .i64 0]).toArray:=e;rw[e2];exact Wk cr 0 [str s,Value.int .i64 0] (List.replicate 256 (Value.int .u8 0)) _ (by rw[List.length_replicate,hc]) rfl
def PV(s:Bs)(cr:List Value)(hc:cr.length=256):
 (([str s,Value.int .i64 0]++cr++[Value.bool false,Value.bool false,Value.int .i64 0]).toArray).setIfInBounds 260 (.int .i64 (-1))=(str s :: .int .i64 0::(cr++[.bool false,.bool false,.int .i64 (-1)])).toArray:=by
 rw[List.setIfInBounds_toArray];congr 1;rw[show(260:Nat)=258+1+1 from rfl];show str s::Value.int .i64 0::((cr++[Value.bool false,Value.bool false,Value.int .i64 0]).set 258 (.int .i64 (-1)))=_;rw[List.set_append_right _ _ (by omega),hc];rfl
def Tabs.mono{B':Nat}(h:Tabs B w)(hB:B<=B'):Tabs B' w:=by
 obtain⟨R,oR,cap,hR,hc⟩:=h.case;have:=h.low;exact⟨h.utf8,by omega,⟨R,oR,cap,by omega,hc⟩,h.glob⟩
def XK(w:World)(s:Bs)(e:Ending)(w':World):Prop:=w.grownBy w' none/\
 if 4000<s.length then e= .returned (.tuple #[.slice none 0 0,.int .i64 0,.int .i64 3])
 else match F7 s with
  | .ok l=>if 1200<l.length then e= .returned (.tuple #[.slice none 0 0,.int .i64 0,.int .i64 3])else ∃v,e= .returned (.tuple #[v,.int .i64 l.length,.int .i64 0])/\TRow w' v l (An w.heap.size)
  | .bad k=>e= .returned (.tuple #[.slice none 0 0,.int .i64 k,.int .i64 2])
  | .out=>False
def Zh(ht:Tabs w.heap.size w)(s:Bs)(hs:s.length<=1000000):Calls Tryz.prog 156 #[str s] w (XK w s):=by
 by_cases hl:4000<s.length
 ·have HP:=S hl;have hl1:decide ((4000:Int)<s.length)=true:=by simp;omega
  go_enter func156,ntmps156;go_wp2;exact bZ (v:= .tuple #[.slice none 0 0,.int .i64 0,.int .i64 3]) (by simp[results,results156,go_sem]) rfl ⟨Aa _ _,by rw[if_pos HP.1]⟩
 ·have HP:=S hl;have hl1:decide ((4000:Int)<s.length)=false:=by simp;omega
  go_enter func156,ntmps156;go_wp2_with fail;refine mR (QC _) λw1 g1=>?_;have hcl:=G3 256;have HF:=S (Qq s (AF 256) hcl);have HC:=S (PV s (AF 256) hcl);generalize hcr:AF 256=cr at*;have HR:=S hcr;clear hcr;go_wp2_with fail
  ·exfalso;rw[HF.1]at h;simp[hcl]at h
  rw[HF.1,HC.1];refine(XN _ _).mono ?_;rintro e w2 ⟨rfl,rfl⟩;have g2:w1.grownBy ((w1.alloc (.cells (str s :: .int .i64 0::(cr++[.bool false,.bool false,.int .i64 (-1)])).toArray 247 (0,0))).alloc (.cells #[.pointer (some ⟨w1.heap.size,0,none⟩)] 244 (0,0))) none:=Ac (gZ w1 _ none) _;have hS:Sc ((w1.alloc (.cells (str s :: .int .i64 0::(cr++[.bool false,.bool false,.int .i64 (-1)])).toArray 247 (0,0))).alloc (.cells #[.pointer (some ⟨w1.heap.size,0,none⟩)] 244 (0,0))) w1.heap.size s 0 false false (-1):=by
   refine⟨((Blk.new w1 _ _).alloc _).of_eq rfl ?_,nZ _,by omega⟩;rw[<-HR.1];rfl
  have hcb:((w1.alloc (.cells (str s :: .int .i64 0::(cr++[.bool false,.bool false,.int .i64 (-1)])).toArray 247 (0,0))).alloc (.cells #[.pointer (some ⟨w1.heap.size,0,none⟩)] 244 (0,0))).cell? ⟨w1.heap.size+1,0,none⟩=some (.pointer (some ⟨w1.heap.size,0,none⟩)):=by
   simp
  have hsz:(w1.alloc (.cells (str s :: .int .i64 0::(cr++[.bool false,.bool false,.int .i64 (-1)])).toArray 247 (0,0))).heap.size=w1.heap.size+1:=by simp
  rw[hsz];have ht2:=(ht.gbN g1).gbN g2;have gA:=Z g1 g2;generalize((w1.alloc (.cells (str s :: .int .i64 0::(cr++[.bool false,.bool false,.int .i64 (-1)])).toArray 247 (0,0))).alloc (.cells #[.pointer (some ⟨w1.heap.size,0,none⟩)] 244 (0,0)))=W at*;generalize(str s :: .int .i64 0::(cr++[.bool false,.bool false,.int .i64 (-1)])).toArray=big at*;have hw1:=g1.size;have hC:=QE (n:=2*s.length+1) (by omega) hcb hS (ht2.mono hw1) (JP s) rfl (by omega);have HW:=S hC;clear hC hcb hS ht2 HF HC HR hcl hsz;go_wp2_with fail;refine HW.1.mono ?_;rintro e w3 ⟨g3,v,rfl,hE⟩;have gB:=Aq gA g3 (.inr hw1);cases hq:F7 s with
  |out=>exact absurd hq (JP s)
  | bad k=>
    rw[hq]at hE;obtain⟨_,j,l',hs3⟩:=hE;have HQ:=S hq;clear hq;have d260:=hs3.c260;have hlt:=hs3.lt;go_wp2;go_quiet(fail);go_wp2;exact bZ (v:= .tuple #[.slice none 0 0,.int .i64 k,.int .i64 2]) (by simp[results,results156,go_sem]) rfl ⟨Aj gB _,by rw[if_neg HP.1,HQ.1]⟩
  | ok l=>
    rw[hq]at hE;obtain⟨hO,j,l',hs3⟩:=hE;have HQ:=S hq;clear hq;have hT:=Ra hO;obtain⟨a,cap,rfl,_⟩:=id hT;have HT:=S hT;clear hT hO;have d260:=hs3.c260;have hlt:=hs3.lt;have hwA:=gA.size;by_cases hm:1200<l.length
    ·have HM:=S hm;have hm1:decide ((1200:Int)<l.length)=true:=by simp;omega
     clear hm;go_wp2;exact bZ (v:= .tuple #[.slice none 0 0,.int .i64 0,.int .i64 3]) (by simp[results,results156,go_sem]) rfl ⟨gB,by rw[if_neg HP.1,HQ.1];show ite _ _ _;rw[if_pos HM.1]⟩
    ·have HM:=S hm;have hm1:decide ((1200:Int)<l.length)=false:=by simp;omega
     clear hm;go_wp2;refine bZ (v:= .tuple #[.slice a l.length cap,.int .i64 l.length,.int .i64 0]) (by simp[results,results156,go_sem]) rfl ⟨gB,?_⟩;rw[if_neg HP.1,HQ.1];show ite _ _ _;rw[if_neg HM.1];exact⟨_,rfl,TRow.mono HT.1 λk hk _=>by simp at hk ⊢;omega⟩
structure At(t:Tok):Prop where
 short:t.text.length<=4000
 num:t.kind=1->1<=t.text.length/\t.text.length<=15/\t.text.all AL=true
 word:t.kind=0->(∃c r,t.text=c::r/\AL c=false)/\t.text.all DY=true
def Yd(b:UInt8):cls 2 b=AL b:=by
 rw[Bool.eq_iff_iff];simp only[cls,AL,beq_iff_eq,Bool.and_eq_true,decide_eq_true_eq];rcases JM b.toNat with⟨h2,h3⟩| ⟨h2,h3⟩| ⟨h2,h3⟩| ⟨h2,h3⟩| ⟨h2,h3⟩<;>rw[h2]<;>constructor<;>intro h<;>first|omega| (exfalso;omega)
def ML(b:UInt8)(h:Bi b=true):DY (Lib.upperB b)=true/\(cls 1 b=true->AL (Lib.upperB b)=false):=by
 have hall:∀n:Fin 256,Bi (UInt8.ofNat n.val)=true->DY (Lib.upperB (UInt8.ofNat n.val))=true/\(cls 1 (UInt8.ofNat n.val)=true->AL (Lib.upperB (UInt8.ofNat n.val))=false):=by decide+kernel
 have e:UInt8.ofNat b.toNat=b:=by simp
 have:=hall ⟨b.toNat,b.toNat_lt⟩;simp only[e]at this;exact this h
def K9:(A6 s i j).length<=s.length:=by simp[A6];omega
def Vk(hi:i<s.length)(hs:s.length<=4000){t:Tok}{l:Bool}(h:BQ s i= .tok t j l):At t:=by
 unfold BQ at h;split at h
 ·rename_i h1;split at h
  ·cases h
  ·cases h;have hge:i+1<=Ar s Bi i:=by rw[Cz hi (by simp[Bi,h1])];exact BJ _ _ _
   have hsl:A6 s i (Ar s Bi i)=bAt s i::A6 s (i+1) (Ar s Bi i):=Mf (by omega) (CK (by omega));refine⟨by simp only[Lib.toUpperA,List.length_map];exact nT K9 hs,by simp,λ_=>⟨⟨Lib.upperB (bAt s i),Lib.toUpperA (A6 s (i+1) (Ar s Bi i)),by simp[hsl,Lib.toUpperA],(ML _ (by simp[Bi,h1])).2 h1⟩,?_⟩⟩;rw[List.all_eq_true];intro x hx;obtain⟨y,hy,rfl⟩:=List.mem_map.1 hx;exact(ML y (KB (by omega) y hy)).1
 ·split at h
  ·rename_i h1;split at h
   ·cases h
   ·cases h;have hge:i+1<=Ar s (cls 2) i:=by rw[Cz hi h1];exact BJ _ _ _
    have hle:Ar s (cls 2) i<=s.length:=CK (by omega);refine⟨nT K9 hs,λ_=>⟨?_,?_,?_⟩,by simp⟩
    ·simp only[Fh (by omega:i<=Ar s (cls 2) i) hle];omega
    ·simp only[Fh (by omega:i<=Ar s (cls 2) i) hle];omega
    ·rw[List.all_eq_true];intro x hx;rw[<-Yd];exact KB (by omega) x hx
  ·split at h
   ·unfold ER at h;simp only[]at h;split at h
    ·split at h
     ·cases h
     ·cases h;exact⟨nT K9 hs,by simp,by simp⟩
    ·cases h
   ·cases hd:C2 (s.drop i)with
    | some p=>
      obtain⟨d,n⟩:=p;rw[hd]at h;cases h;refine⟨?_,by simp,by simp⟩;unfold C2 at hd;split at hd
      ·cases hd;simp
      ·split at hd
       ·split at hd
        ·cases hd;simp[Eu,A6];omega
        ·cases hd
       ·cases hd
    | none=>
      rw[hd]at h;cases hs2:EY s i with
      |none=>rw[hs2]at h;cases h
      | some w=>
        rw[hs2]at h;cases h;have:=Kk (Nn hs2).1;exact⟨by simp;omega,by simp,by simp⟩
def MT(i:Nat):At ⟨5,i,[]⟩:=⟨by simp,by simp,by simp⟩
def Tm(hs:s.length<=4000){t:Tok}{l:Bool}(h:Cx s i line= .tok t j l):At t:=by
 unfold Cx at h;split at h
 ·split at h
  ·cases h;exact MT i
  ·cases h
 ·split at h
  ·split at h
   ·cases h;exact MT i
   ·cases h
  ·split at h
   ·cases h
   ·split at h
    ·split at h<;>cases h
    ·split at h
     ·split at h
      ·split at h<;>cases h
      ·cases h
     ·exact Vk (by omega) hs h
def Ov(hs:s.length<=4000):∀n i line ts,CD s n i line= .ok ts->∀t∈ts,At t:=by
 intro n;induction n with
 |zero=>intro i line ts h;cases h
 | succ n ih=>
   intro i line ts h;rw[CD]at h;cases hq:Cx s i line with
   | tok t j l=>
     rw[hq]at h;simp only at h;cases hr:CD s n j l with
     | ok ts'=>
       rw[hr]at h;cases h;intro t' ht';rcases List.mem_cons.1 ht' with rfl|ht'
       ·exact Tm hs hq
       ·exact ih j l ts' hr t' ht'
     |bad k=>rw[hr]at h;cases h
     |out=>rw[hr]at h;cases h
   |again j l=>rw[hq]at h;exact ih j l ts h
   |stop=>rw[hq]at h;cases h;simp
   |bad k=>rw[hq]at h;cases h
def Jj(h:∀t∈ts,At t)(i:Nat):At (Ab ts i):=by
 unfold Ab;cases hi:ts[i]? with
 |none=>exact⟨by simp,by simp,by simp⟩
 |some t=>exact h t (List.mem_of_getElem? hi)
def Wc:∀(s:Bs)(a:Nat),s.all AL=true->∃n:Nat,Lib.decFrom a s=some n/\(n:Int)=s.foldl (λn b=>10*n+((b.toNat:Int)-48)) (a:Int):=by
 intro s;induction s with
 |nil=>intro a _;exact⟨a,rfl,rfl⟩
 | cons b r ih=>
   intro a h;simp only[List.all_cons,Bool.and_eq_true,AL,decide_eq_true_eq]at h;obtain⟨n,h1,h2⟩:=ih (a*10+(b.toNat-48)) h.2;refine⟨n,?_,?_⟩
   ·rw[Lib.decFrom,Lib.digitVal,if_pos h.1];exact h1
   ·rw[List.foldl_cons,h2];congr 1;omega
def WI(s:Bs)(h1:1<=s.length)(hd:s.all AL=true):Lib.atoi s=some (AA s):=by
 cases s with
 |nil=>simp at h1
 | cons b r=>
   obtain⟨n,h2,h3⟩:=Wc (b::r) 0 hd;simp only[List.all_cons,Bool.and_eq_true,AL,decide_eq_true_eq]at hd;have e45:(b==45)=false:=by simp;rintro rfl;simp at hd
   have e43:(b==43)=false:=by simp;rintro rfl;simp at hd
   have e:Lib.decNat (b::r)=some n:=h2;simp only[Lib.atoi,e45,e43,e,Bool.false_eq_true,if_false,Option.map_some];rw[h3];rfl
def AE(s:Bs):Int:=(C8 s).1
def TP(h:∀t∈ts,At t):En AE ts:=by
 refine⟨λi=>(Jj h i).short,λi hi=>?_,λi _ w=>?_⟩
 ·have:=(Jj h i).num hi;exact⟨by omega,WI _ this.1 this.2.2⟩
 ·refine(MC (Ab ts i).text (by have:=(Jj h i).short;omega) w).mono ?_;rintro e w' ⟨rfl,g⟩;exact⟨⟨_,rfl⟩,g⟩
def RA(hs:s.length<=4000)(h:F7 s= .ok ts):En AE ts:=TP (Ov hs _ _ _ _ h)
def Fo.nodes:Fo->Nat
 | .nil=>0
 | .cons _ kids next=>1+kids.nodes+next.nodes
def Fo.levels:Fo->Nat
 | .nil=>0
 | .cons _ kids next=>max (1+kids.levels) next.levels
def Ex.nodes(x:Ex):Nat:=1+x.kids.nodes
def Ex.levels(x:Ex):Nat:=1+x.kids.levels
def Fo.len_nodes:∀f:Fo,f.len<=f.nodes/\f.levels<=f.nodes:=by
 intro f;induction f with
 |nil=>simp[Fo.len,Fo.nodes,Fo.levels]
 |cons h kids next ih1 ih2=>simp only[Fo.len,Fo.nodes,Fo.levels];omega
abbrev szV(n m:Int):Value:= .agg #[.int .i64 n,.int .i64 m]
def Kl(a b c d:Nat)(ha:a+c<=1000000000)(hb:b<=1000000000)(hd:d<=1000000000)(w:World):
 Calls Tryz.prog 167 #[szV a b,szV c d] w (ρ w (szV ((a+c:Nat):Int) ((max b (d+1):Nat):Int))):=by
 have e1:((a+c:Nat):Int)=(a:Int)+c:=by push_cast;rfl
 have e2:((max b (d+1):Nat):Int)=max (b:Int) ((d:Int)+1):=by omega
 rw[e1,e2];clear e1 e2;go_enter func167,ntmps167;go_wp2;exact bZ (v:=szV ((a:Int)+c) (max (b:Int) ((d:Int)+1))) (by simp[results,results167,go_sem]) rfl ⟨rfl,(Ac (Ac (Ac (Aa _ _) _) _) _)⟩
def LE(a b c d:Nat)(ha:a+c<=1000000000)(hb:b<=1000000000)(hd:d<=1000000000)(w:World):
 Calls Tryz.prog 85 #[szV a b,szV c d] w (ρ w (szV ((a+c:Nat):Int) ((max b d:Nat):Int))):=by
 have e1:((a+c:Nat):Int)=(a:Int)+c:=by push_cast;rfl
 have e2:((max b d:Nat):Int)=max (b:Int) d:=by omega
 rw[e1,e2];clear e1 e2;go_enter func85,ntmps85;go_wp2;exact bZ (v:=szV ((a:Int)+c) (max (b:Int) d)) (by simp[results,results85,go_sem]) rfl ⟨rfl,(Ac (Ac (Ac (Aa _ _) _) _) _)⟩
def Cq(n m:Nat):Bool:=decide (400<n)||decide (14<m)
def JO(n m:Nat)(w:World):
 Calls Tryz.prog 58 #[szV n m] w (ρ w (.bool (Cq n m))):=by
 cases h1:decide (400<n)with
 | true=>
   have HM:=S (show Cq n m=true by unfold Cq;rw[h1];rfl);have h2:decide ((400:Int)<n)=true:=by simp at h1 ⊢;omega
   clear h1;go_enter func58,ntmps58;go_wp2;go_ret;exact⟨by rw[HM.1];rfl,(Ac (Aa _ _) _)⟩
 | false=>
   have HM:=S (show Cq n m=decide ((14:Int)<m)by unfold Cq;rw[h1,Bool.false_or,decide_eq_decide];omega);have h2:decide ((400:Int)<n)=false:=by simp at h1 ⊢;omega
   clear h1;go_enter func58,ntmps58;go_wp2;go_ret;exact⟨by rw[HM.1];rfl,(Ac (Aa _ _) _)⟩
def IF{fn:Func}{p:Tmp}(h:fn.results=#[.cell p 96])(tmps:Array Value){a b:Value}(hb:Blk w k [a,b] 96)
 (hp:tmps.getD p undef= .pointer (some ⟨k,0,none⟩)):(results fn tmps).run Tryz.prog w= .ok (.agg #[a,b]) w:=by
 have c0:=hb.cell' 0 rfl;have c1:=hb.cell' 1 rfl;have hp':tmps[p]?.getD undef= .pointer (some ⟨k,0,none⟩):=by simpa using hp
 simp[results,h,hp',go_sem,c0,c1]
def Blk.set2{a0 a1:Value}(h:Blk w k [a0,a1] t)(v0 v1:Value):Blk ((w.setCell ⟨k,0,none⟩ v0).setCell ⟨k,1,none⟩ v1) k [v0,v1] t:=
 ((h.set 0 v0).set 1 v1).of_eq rfl rfl
structure SzRel(ok:Nat->Prop)(w:World)(f rest:Fo)(cs:List Value)(k n m:Nat)(wr:World):Prop where
 len:f.len=k+rest.len
 row:RepF ok w rest (cs.drop (k*7))
 nodes:n+rest.nodes=1+f.nodes
 levels:max m (1+rest.levels)=1+f.levels
 pos:1<=m/\1<=n
 acc:Blk wr (w.heap.size+2) [.int .i64 n,.int .i64 m] 96
 res:Blk wr (w.heap.size+1) [.int .i64 0,.int .i64 0] 96
 g:w.grownBy wr none
def SzRel.next{f kids next:Fo}{h':Hd}(h:SzRel ok w f (.cons h' kids next) cs k n m wr)
 (hacc:Blk w1 (w.heap.size+2) [.int .i64 ((n+(1+kids.nodes):Nat):Int),.int .i64 ((max m (1+kids.levels+1):Nat):Int)] 96) (hres:Blk w1 (w.heap.size+1) [.int .i64 0,.int .i64 0] 96) (g:w.grownBy w1 none):
 SzRel ok w f next cs (k+1) (n+(1+kids.nodes)) (max m (1+kids.levels+1)) w1:=by
 have h1:=h.len;have h3:=h.nodes;have h4:=h.levels;have h5:=h.pos;simp only[Fo.len,Fo.nodes,Fo.levels]at h1 h3 h4;refine⟨by omega,?_,by omega,by omega,⟨by omega,by omega⟩,hacc,hres,g⟩;obtain⟨pv,lv,kcs,rcs,hcs,_,_,_,hn⟩:=h.row;have e:cs.drop ((k+1)*7)=rcs:=by
  rw[show(k+1)*7=k*7+7 by omega,<-List.drop_drop,hcs];exact List.drop_left' rfl
 rw[e];exact hn
def Og:∀(N:Nat)(f:Fo),f.nodes<N->f.nodes<=1000000->∀(ok:Nat->Prop)(h:Hd)(pa:Option Addr)(pn pc:Nat)(la:Option Addr)(lc:Nat)(w:World),RepL ok w (.slice la f.len lc) f->
 Calls Tryz.prog 158 #[exV h (.slice pa pn pc) (.slice la f.len lc)] w (ρ w (szV ((1+f.nodes:Nat):Int) ((1+f.levels:Nat):Int))):=by
 intro N;induction N with
 |zero=>intro f hN;omega
 | succ N ih=>
   intro f hN hn ok h pa pn pc la lc w hrep;obtain⟨cs,hcells,hrow⟩:=hrep;obtain⟨la',lc',e,h1,h2,h3,h4⟩:=hcells;cases e;have hfl:=f.len_nodes;have hA:SzRel ok w f f cs 0 1 1 (((w.alloc (.cells #[.int .i64 h.op,str h.s,.int .i64 h.vk,.int .i64 h.vn,str h.vs,.slice pa pn pc,.slice la f.len lc] 163 (0,0))).alloc (.cells #[.int .i64 0,.int .i64 0] 96 (0,0))).alloc (.cells #[.int .i64 1,.int .i64 1] 96 (0,0))):=
    ⟨by simp,by simpa using hrow,rfl,by omega,⟨nR _,nR _⟩,(Blk.new _ [.int .i64 1,.int .i64 1] _).of_eq (by simp) rfl,((Blk.new _ [.int .i64 0,.int .i64 0] _).of_eq (by simp) rfl).alloc _,Ac (Ac (gZ w _ none) _) _⟩
   have H4:=S (X h4 ih);clear h4 ih hrow;go_enter func158,ntmps158;go_wp2_with fail;go_loopg [10] f.len (λg v10 wr=>∃rest:Fo,∃k n m:Nat,rest.len=g/\v10= .int .i64 k/\SzRel ok w f rest cs k n m wr)
   case atStart=>exact⟨f,0,1,1,rfl,rfl,hA⟩
   case round=>
    obtain⟨rest,k,n,m,hg,rfl,hr⟩:=hrel;clear hA;have a0:=hr.acc.cell' 0 rfl;have a1:=hr.acc.cell' 1 rfl;have r0:=hr.res.cell' 0 rfl;have r1:=hr.res.cell' 1 rfl;have rf:=λk=>hr.res.frozen k;have af:=λk=>hr.acc.frozen k;have al:=hr.acc.lt;cases rest with
    | nil=>
      have hlen:=hr.len;have hkI:decide (k<f.len)=false:=by simp[Fo.len]at hlen;simp;omega
      have hnm:n=1+f.nodes/\m=1+f.levels:=by
       have h1:=hr.nodes;have h2:=hr.levels;have h3:=hr.pos;simp[Fo.nodes,Fo.levels]at h1 h2;omega
      have HN:=S hnm;clear hnm hlen hg;go_wp2;refine bZ (IF rfl _ (hr.res.set2 _ _) rfl) rfl ⟨by rw[HN.1.1,HN.1.2],?_⟩;have g:=hr.g;exact(Af (Af (by assumption) _ _ (.inr (by simp<;>omega))) _ _ (.inr (by simp<;>omega)))
    | cons h' kids next=>
      simp only[Fo.len]at hg;subst hg;have hlen:=hr.len;simp only[Fo.len]at hlen;have hkI:decide (k<f.len)=true:=by simp;omega
      obtain⟨pv',lv',kcs,rcs,hcs,hp,hl,hkids,hnext⟩:=hr.row;obtain⟨pa',pc',rfl,_⟩:=hp;have hL:RepL ok w lv' kids:=⟨kcs,hl,hkids⟩;obtain⟨la2,lc2,rfl,_⟩:=hl;have hat:∀i u,(hdC h' (.slice pa' h'.p.length pc') (.slice la2 kids.len lc2))[i]? =some u->∃g o,la=some ⟨g,o,none⟩/\ok g/\w.cell? ⟨g,o+(k*7+i),none⟩=some u:=by
       intro i u hu;refine H4.1.1 (k*7+i) u ?_;have:cs[k*7+i]? =(cs.drop (k*7))[i]?:=by simp
       rw[this,hcs,List.getElem?_append_left (by have:=(List.getElem?_eq_some_iff.1 hu).1;exact this)];exact hu
      obtain⟨g,o,rfl,hok,y0⟩:=hat 0 _ rfl;obtain⟨_,_,e1,_,y1⟩:=hat 1 _ rfl;cases e1;obtain⟨_,_,e1,_,y2⟩:=hat 2 _ rfl;cases e1;obtain⟨_,_,e1,_,y3⟩:=hat 3 _ rfl;cases e1;obtain⟨_,_,e1,_,y4⟩:=hat 4 _ rfl;cases e1;obtain⟨_,_,e1,_,y5⟩:=hat 5 _ rfl;cases e1;obtain⟨_,_,e1,_,y6⟩:=hat 6 _ rfl;cases e1;have hgl:=bY w _ y0;have z0:=Ae hr.g y0;have z1:=Ae hr.g y1;have z2:=Ae hr.g y2;have z3:=Ae hr.g y3;have z4:=Ae hr.g y4;have z5:=Ae hr.g y5;have z6:=Ae hr.g y6;simp only[Nat.add_zero,<-Nat.add_assoc]at z0 z1 z2 z3 z4 z5 z6;clear y0 y1 y2 y3 y4 y5 y6 hat;have hno:=hr.nodes;simp only[Fo.nodes]at hno;have hmo:=hr.levels;simp only[Fo.levels]at hmo;have hkl:=kids.len_nodes;have hpo:=hr.pos;have hk0:kids.nodes<N:=by omega
      have HL:=S (fun(W:World)(gW:wr.grownBy W none)=>H4.1.2 kids hk0 (by omega) ok h' pa' h'.p.length pc' la2 lc2 W (hL.gb (Z hr.g gW) (by simp)));have HI:=S (fun(W:World)=>Kl n m (1+kids.nodes) (1+kids.levels) (by omega) (by omega) (by omega) W);have HR:=S hr;have hkl2:k+1<=f.len:=by omega
      clear hL hnext hkids hcs hr hno hmo hlen hpo;have hy:=Blk.new wr (hdC h' (.slice pa' h'.p.length pc') (.slice la2 kids.len lc2)) 163;have hac:=HR.1.acc.alloc (.cells (hdC h' (.slice pa' h'.p.length pc') (.slice la2 kids.len lc2)).toArray 163 (0,0));have HY:=S (X hy hac);clear hy hac;have hws:=HR.1.g.size;go_wp2_with fail;go_region_with(first
       | (go_at_call 158;refine(HL.1 _ ?gg).mono ?_;(case gg=>exact(by repeat(first| (with_reducible exact Aa _ _)| (with_reducible refine Ac ?_ _)| (with_reducible refine Ad ?_))));rintro e w5 ⟨rfl,g5⟩;(have y5:=(HY.1.1.drewN 1).gb g5 (by simp));(have ac5:=(HY.1.2.drewN 1).gb g5 (by simp));(have b0:=y5.cell 0);(have b1:=y5.cell 1);(have b2:=y5.cell 2);(have b3:=y5.cell 3);(have b4:=y5.cell 4);(have b5:=y5.cell 5);(have b6:=y5.cell 6);(have d0:=ac5.cell 0);(have d1:=ac5.cell 1);(have df:=λk=>ac5.frozen k);(have dl:=ac5.lt);(simp only[hdC,List.getElem?_cons_zero,List.getElem?_cons_succ]at b0 b1 b2 b3 b4 b5 b6 d0 d1))
       | (go_at_call 167;refine mR (HI.1 _) λw6 g6=>?_;(have ac6:=ac5.gb g6 (by simp));(have m0:=ac6.cell' 0 rfl);(have m1:=ac6.cell' 1 rfl);(have mf:=λk=>ac6.frozen k);(have ml:=ac6.lt)))
      all_goals
       have hre:=((((HR.1.res.alloc (.cells (hdC h' (.slice pa' h'.p.length pc') (.slice la2 kids.len lc2)).toArray 163 (0,0))).drewN 1).gb g5 (by simp)).gb g6 (by simp));have gg:=Ag (Ag (Ad (Ac HR.1.g (.cells (hdC h' (.slice pa' h'.p.length pc') (.slice la2 kids.len lc2)).toArray 163 (0,0)))) g5) g6;have HX:=S (X ac6 (X hre gg));clear hre gg;go_wp2;go_roundg next.len
       case measure=>omega
       case rel=>
        refine⟨next,k+1,n+(1+kids.nodes),max m (1+kids.levels+1),rfl,by simp,HR.1.next ((HX.1.1.set2 _ _).of_eq (by omega) (by push_cast;rfl)) ((HX.1.2.1.set_other _ _ (by simp)).set_other _ _ (by simp)) (Af (Af HX.1.2.2 _ _ (.inr (by simp;omega))) _ _ (.inr (by simp;omega)))⟩
def M9(h:VE ok w v x)(hn:x.kids.nodes<=1000000):
 Calls Tryz.prog 158 #[v] w (ρ w (szV (x.nodes:Int) (x.levels:Int))):=by
 obtain⟨pa,pc,la,lc,rfl,_,hl⟩:=h;exact Og (x.kids.nodes+1) x.kids (by omega) hn ok x.h pa x.h.p.length pc la lc w hl
def Iter(w:World)(r b:Nat)(l:List (Bs×Bs))(left:List Nat):Prop:=
 w.heap[b]? =some (Cb l)/\∃seen:Array Nat,w.heap[r]? =some (.mapIter (some b) l.length seen l.length)/\left.Nodup/\∀i,i∈left↔i<l.length/\seen.contains i=false
def Kv(l:List (Bs×Bs)):∀n i:Nat,(AS l n)[i]? =(l[i]?).map λp=>({key:=str p.1,val:=str p.2,born:=n+i}:MapEntry):=by
 induction l with
 |nil=>intro n i;simp[AS]
 | cons x l ih=>
   intro n i;obtain⟨a,b⟩:=x;cases i with
   |zero=>simp[AS]
   |succ i=>simp[AS,ih];congr 1;funext p;congr 1;omega
def Nv{l:List (Bs×Bs)}{e:MapEntry}(h:e∈(AS l 0)):∃i,i<l.length/\e.born=i/\e.key=str (l.getD i ([],[])).1/\e.val=str (l.getD i ([],[])).2:=by
 obtain⟨i,hi,rfl⟩:=List.getElem_of_mem h;have hil:i<l.length:=by simpa[Q4]using hi
 refine⟨i,hil,?_⟩;have:=Kv l 0 i;rw[List.getElem?_eq_getElem hi,List.getElem?_eq_getElem hil]at this;simp only[Option.map_some,Option.some.injEq,Nat.zero_add]at this;rw[this,List.getD_eq_getElem?_getD,List.getElem?_eq_getElem hil];exact⟨rfl,rfl,rfl⟩
def S2(l:List (Bs×Bs)):((AS l 0).map (·.born))=List.range l.length:=by
 apply List.ext_getElem?;intro i;rw[List.getElem?_map,Kv];by_cases h:i<l.length
 ·simp[List.getElem?_eq_getElem h,h]
 ·simp[List.getElem?_eq_none (Nat.le_of_not_lt h),h]
section
variable {P:Program}
def Pk{k e:TypeId}{l:List (Bs×Bs)}(ht:P.underlying t=some (.map k e))(hb:w.heap[b]? =some (Cb l)):
 (Instr.range t (.map (some b))).run P w= .ok (.pointer (some ⟨w.heap.size,0,none⟩)) (w.alloc (.mapIter (some b) l.length #[] l.length)):=
 run_range_map w t k e b (AS l 0).toArray l.length ht hb
def Iter.start{l:List (Bs×Bs)}(hb:w.heap[b]? =some (Cb l)):Iter (w.alloc (.mapIter (some b) l.length #[] l.length)) w.heap.size b l (List.range l.length):=
 ⟨GB _ _ _ _ hb,#[],Ep _ _ _ rfl,List.nodup_range,λi=>by simp⟩
def Iter.gb{r:Nat}{l:List (Bs×Bs)}{q:Option Nat}(h:Iter w r b l left)(g:w.grownBy w1 q)(h1:some b≠q)(h2:some r≠q):Iter w1 r b l left:=by
 obtain⟨hb,seen,hr,hn,hi⟩:=h;exact⟨CL g hb h1,seen,CL g hr h2,hn,hi⟩
def Iter.next{r:Nat}{l:List (Bs×Bs)}(h:Iter w r b l left)(ty:TypeId):
 (left=[]/\(Instr.next (.pointer (some ⟨r,0,none⟩)) false ty).run P w= .ok (.tuple #[.bool false]) w)\/
 ∃i∈left,∃w1:World,(Instr.next (.pointer (some ⟨r,0,none⟩)) false ty).run P w= .ok (.tuple #[.bool true,str (l.getD i ([],[])).1,str (l.getD i ([],[])).2]) w1/\Iter w1 r b l (left.erase i)/\w.grownBy w1 (some r)/\
  (Instr.entry (.pointer (some ⟨r,0,none⟩))).run P w1= .ok (.tuple #[str (l.getD i ([],[])).1,str (l.getD i ([],[])).2]) w1:=by
 obtain⟨hb,seen,hr,hnd,hi⟩:=h;have hb':w.heap[b]? =some (.map (AS l 0).toArray l.length):=hb;have hold:∀x∈(AS l 0).toArray.toList,x.born<l.length:=λx hx=>by
  obtain⟨i,h1,h2,_⟩:=Nv (by simpa using hx);omega
 have hlt:r<w.heap.size:=(Array.getElem?_eq_some_iff.1 hr).1;simp only[Instr.next,getObj,Sem.run_bind,Sem.run,hr,hb',Result.andThen,next_test_false seen _ l.length l.length hold (nR _),Bool.false_eq_true,if_false];have hmem:∀x∈(Array.filter (λe=>!seen.contains e.born) (AS l 0).toArray).toList,x.born<l.length:=λx hx=>hold x (by simp at hx ⊢;exact hx.1);have hL:∀x∈(Array.filter (λe=>!seen.contains e.born) (AS l 0).toArray).toList,x.born∈left/\x.key=str (l.getD x.born ([],[])).1/\x.val=str (l.getD x.born ([],[])).2/\x∈AS l 0:=λx hx=>by
  have hx':x∈AS l 0/\seen.contains x.born=false:=by simpa using hx
  obtain⟨i,h1,h2,h3,h4⟩:=Nv hx'.1;subst h2;exact⟨(hi _).2 ⟨h1,hx'.2⟩,h3,h4,hx'.1⟩
 have hE:Array.filter (λe=>!seen.contains e.born) (AS l 0).toArray=#[]->left=[]:=λhe=>by
  rcases List.eq_nil_or_concat left with h| ⟨_,i,h⟩
  ·exact h
  ·exfalso;obtain⟨h1,h2⟩:=(hi i).1 (by rw[h];simp);rw[Array.filter_eq_empty_iff]at he;have hm:(AS l 0)[i]? =some {key:=str l[i].1,val:=str l[i].2,born:=0+i}:=by rw[Kv,List.getElem?_eq_getElem h1];rfl
   refine he _ (by simpa using List.mem_of_getElem? hm) ?_;simpa using h2
 generalize Array.filter (λe=>!seen.contains e.born) (AS l 0).toArray=L at hmem hL hE ⊢;have e1:L.filter (λx=>decide (x.born<l.length))=L:=Array.filter_eq_self.2 (λx hx=>by simpa using hmem x (by simpa using hx));have e2:L.filter (λx=>decide (x.born>=l.length))=#[]:=by
  rw[Array.filter_eq_empty_iff];intro x hx;have:=hmem x (by simpa using hx);simp;omega
 simp only[e1,e2,Array.append_empty];by_cases h0:L.size=0
 ·left;have:L=#[]:=Array.eq_empty_of_size_eq_zero h0;subst this;refine⟨hE rfl,?_⟩;simp[choose,Sem.run,Question.forced]
 ·right;have hne:L.isEmpty=false:=by simp[Array.isEmpty,h0]
  simp only[hne,Bool.false_eq_true,if_false,Array.empty_append,Array.size_map];have hch:∃(j:Nat)(w1:World),j<L.size/\w1.Alike w/\w.grownBy w1 none/\(choose (Question.mapNext L.size)).run P w= .ok j w1:=by
   by_cases hf:L.size<=1
   ·exact⟨0,w,by omega,⟨rfl,rfl,rfl⟩,Aa _ _,by simp[choose,Sem.run,Question.forced,hf]⟩
   ·exact ⟨_, w.drew, Nat.mod_lt _ (by omega), ⟨rfl, rfl, rfl⟩, Ad (Aa _ _), by
     simp only[choose,Sem.run,Question.forced,decide_eq_true_eq,hf,if_false,Question.cut];rfl⟩
  obtain⟨j,w1,hj,hal,g1,hrun⟩:=hch;obtain⟨k1,k2,k3,k4⟩:=hL L[j] (by simp);have hr1:w1.heap[r]? =some (.mapIter (some b) l.length seen l.length):=by rw[hal.1];exact hr
  have hb1:w1.heap[b]? =some (.map (AS l 0).toArray l.length):=by rw[hal.1];exact hb'
  have hlt1:r<w1.heap.size:=by rw[hal.1];exact hlt
  have hne:b≠r:=by
   rintro rfl;rw[hr]at hb';cases hb'
  have hw2:∃w2:World,w2={w1 with heap:=w1.heap.setIfInBounds r (.mapIter (some b) l.length (seen.push L[j].born) l.length)}:=⟨_,rfl⟩;obtain⟨w2,hw2⟩:=hw2;have hr2:w2.heap[r]? =some (.mapIter (some b) l.length (seen.push L[j].born) l.length):=by rw[hw2];simp[hlt1]
  have hb2:w2.heap[b]? =some (.map (AS l 0).toArray l.length):=by
   rw[hw2];show(w1.heap.setIfInBounds r _)[b]? =_;rw[Array.getElem?_setIfInBounds_ne (λe=>hne e.symm)];exact hb1
  have hs2:(setObj r (.mapIter (some b) l.length (seen.push L[j].born) l.length)).run P w1= .ok () w2:=by
   simp only[setObj,Sem.run,hr1];rw[hw2]
  refine⟨L[j].born,k1,w2,?_,⟨hb2,_,hr2,hnd.erase _,λi=>?_⟩,?_,?_⟩
  ·simp only[hrun,Array.getElem?_map,Array.getElem?_eq_getElem hj,Option.map_some,Sem.run_bind,hs2,Result.andThen,k2,k3];rfl
  ·rw[hnd.mem_erase_iff,hi];have:(seen.push L[j].born).contains i=(seen.contains i||i==L[j].born):=by
    rw[Bool.eq_iff_iff];simp
   rw[this];constructor
   ·rintro⟨a1,a2,a3⟩;exact⟨a2,by rw[a3];simpa using a1⟩
   ·rintro⟨a1,a2⟩;simp only[Bool.or_eq_false_iff,beq_eq_false_iff_ne]at a2;exact⟨a2.2,a1,a2.1⟩
  ·refine Z (Ao g1) ?_;rw[hw2];refine⟨rfl,rfl,rfl,by simp,λi _ hir=>?_⟩;show(w1.heap.setIfInBounds r _)[i]? =_;exact Array.getElem?_setIfInBounds_ne (λe=>hir (by rw[e]))
  ·have hf : (AS l 0).toArray.find? (·.born == L[j].born) = some L[j] := by
    rw[<-Array.find?_toList];refine find_born L[j] _ ?_ k4;show((AS l 0).map (·.born)).Nodup;rw[S2];exact List.nodup_range
   simp only[Instr.entry,getObj,Sem.run_bind,Sem.run,hr2,hb2,Result.andThen,Array.back?_push,bne_self_eq_false,Bool.false_eq_true,if_false,hf,k2,k3];rfl
variable {ops:Array Oper}{rest:List Oper}{o:Oper}{a:Act}{Q:Exit->Act->World->Prop}
def Pa(hg:o.guard=none)(it:Operand)(hop:o.op=Op.next it false){r:Nat}{l:List (Bs×Bs)}(hit:a.eval it= .pointer (some ⟨r,0,none⟩))(h:Iter w r b l left)
 (hDone:left=[]->wpList P ops Q rest (a.put o.dst (.tuple #[.bool false])) w)
 (hMore:∀(i:Nat)(w':World),i∈left->Iter w' r b l (left.erase i)->w.grownBy w' (some r)->(Instr.entry (.pointer (some ⟨r,0,none⟩))).run P w'= .ok (.tuple #[str (l.getD i ([],[])).1,str (l.getD i ([],[])).2]) w'->
  wpList P ops Q rest (a.put o.dst (.tuple #[.bool true,str (l.getD i ([],[])).1,str (l.getD i ([],[])).2])) w'):
 wpList P ops Q (o::rest) a w:=by
 refine wpList_plain hg λK' hK'=>?_;unfold Oper.wp;rcases h.next (P:=P) o.type with⟨hl,hrun⟩| ⟨i,hi,w1,hrun,h1,hgr,hen⟩
 ·simp[execOp,hop,hit,hrun,Result.andThen];exact hK' _ _ (hDone hl)
 ·simp[execOp,hop,hit,hrun,Result.andThen];exact hK' _ _ (hMore i w1 hi h1 hgr hen)
end
def X9(h:i<(lvl k).length):((lvl k).getD i ([],[])).2∈(lvl k).map (·.2):=by
 rw[List.getD_eq_getElem?_getD,List.getElem?_eq_getElem h];exact List.mem_map.2 ⟨_,List.getElem_mem h,rfl⟩
def Yt(s:Bs):(∃k,k<6/\s∈(lvl k).map (·.2))↔s∈opsL:=by
 have h1:∀k,k<6->∀s∈(lvl k).map (·.2),s∈opsL:=by decide
 have h2:∀s∈opsL,∃k,k<6/\s∈(lvl k).map (·.2):=by decide
 exact⟨fun⟨k,hk,h⟩=>h1 k hk s h,h2 s⟩
def Coll(xs:List Bs)(k:Nat)(left:List Nat):Prop:=(∀s,s∈xs↔(∃j,j<k/\s∈(lvl j).map (·.2))\/∃i,i<(lvl k).length/\i ∉ left/\((lvl k).getD i ([],[])).2=s)
def Coll.start:Coll [] 0 (List.range (lvl 0).length):=λs=>by
 constructor
 ·intro h;cases h
 ·rintro(⟨j,h,_⟩| ⟨i,h1,h2,_⟩)
  ·omega
  ·exact absurd (List.mem_range.2 h1) h2
def Coll.step(h:Coll xs k left)(hn:left.Nodup)(hi:i∈left)(hl:i<(lvl k).length):Coll (xs++[((lvl k).getD i ([],[])).2]) k (left.erase i):=λs=>by
 rw[List.mem_append,h s,List.mem_singleton]
 constructor
 ·rintro((h| ⟨j,h1,h2,h3⟩)|rfl)
  ·exact .inl h
  ·exact .inr ⟨j,h1,λe=>h2 (List.mem_of_mem_erase e),h3⟩
  ·exact .inr ⟨i,hl,λe=>by rw[hn.mem_erase_iff]at e;exact e.1 rfl,rfl⟩
 ·rintro(h| ⟨j,h1,h2,h3⟩)
  ·exact .inl (.inl h)
  ·by_cases hj:j=i
   ·subst hj;exact .inr h3.symm
   ·exact .inl (.inr ⟨j,h1,λe=>h2 ((hn.mem_erase_iff).2 ⟨hj,e⟩),h3⟩)
def Coll.next(h:Coll xs k []):Coll xs (k+1) (List.range (lvl (k+1)).length):=λs=>by
 rw[h s]
 constructor
 ·rintro(⟨j,h1,h2⟩| ⟨i,h1,_,h3⟩)
  ·exact .inl ⟨j,by omega,h2⟩
  ·exact .inl ⟨k,by omega,by rw[<-h3];exact X9 h1⟩
 ·rintro(⟨j,h1,h2⟩| ⟨i,h1,h2,_⟩)
  ·by_cases hj:j=k
   ·subst hj
    obtain⟨p,hp,rfl⟩:=List.mem_map.1 h2
    obtain⟨i,hi,rfl⟩:=List.getElem_of_mem hp
    exact .inr ⟨i,hi,by simp,by rw[List.getD_eq_getElem?_getD,List.getElem?_eq_getElem hi];rfl⟩
   ·exact .inl ⟨j,by omega,h2⟩
  ·exact absurd (List.mem_range.2 h1) h2
def Coll.done(h:Coll xs 6 (List.range (lvl 6).length))(s:Bs):s∈xs↔s∈opsL:=by
 rw[h s,<-Yt];constructor
 ·rintro(h| ⟨i,h1,h2,_⟩)
  ·exact h
  ·exact absurd (List.mem_range.2 h1) h2
 ·exactλh=> .inl h
def QG(zs:List Bs)(s:Bs):s∈Lib.compact zs↔s∈zs:=by
 unfold Lib.compact compactUpTo;simp only[List.mem_map,List.mem_filter,List.mem_range];have hg:∀j,j<zs.length->(zs.toArray[j]!: Bs)=zs.getD j []:=λj hj=>by simp[hj]
 constructor
 ·rintro⟨j,⟨hj,_⟩,rfl⟩;rw[hg j hj,List.getD_eq_getElem?_getD,List.getElem?_eq_getElem hj];exact List.getElem_mem hj
 ·intro h;obtain⟨j,hj,hs⟩:=List.getElem_of_mem h;have:∀j,j<zs.length->zs.getD j []=s->∃a,(a<zs.length/\keeps zs.toArray a=true)/\zs.toArray[a]! =s:=by
   intro j;induction j with
   |zero=>intro hj hs;exact⟨0,⟨hj,by simp[keeps]⟩,by rw[hg 0 hj,hs]⟩
   | succ j ih=>
     intro hj hs;by_cases hk:keeps zs.toArray (j+1)=true
     ·exact⟨j+1,⟨hj,hk⟩,by rw[hg _ hj,hs]⟩
     ·refine ih (by omega) ?_;rw[<-hs,<-hg _ hj,<-hg j (by omega)];unfold keeps at hk;rw[decide_eq_true_eq]at hk;exact(Classical.not_not.1 λe=>hk (.inr e)).symm
  exact this j hj (by rw[List.getD_eq_getElem?_getD,List.getElem?_eq_getElem hj];exact hs)
def QF(zs:List Bs):(Lib.compact zs).length<=zs.length:=by
 unfold Lib.compact compactUpTo;rw[List.length_map];exact nT (List.length_filter_le _ _) (by simp)
def P5(w:World):Calls Tryz.prog 250 #[] w λe w'=>(∃(g cap:Nat)(zs:List Bs),e= .returned (.slice (some ⟨g,0,none⟩) zs.length cap)/\zs.length<=100/\(∀j,j<zs.length->w'.cell? ⟨g,j,none⟩=some (str (zs.getD j [])))/\∀s,s∈zs↔s∈opsL)/\w.grownBy w' none:=by
 go_enter func250,ntmps250;go_wp2_with fail;refine(Ka _).mono ?_;rintro e w1 ⟨m,rfl,hm,g1⟩;have HM:=S (X hm g1);clear hm g1;go_wp2_with fail;go_loopg [1,7] 6 (λg v1 v7 wr=>∃(k:Nat)(xs:List Bs),k+g=6/\v7= .int .i64 k/\wr.ownsRow w1.heap.size 9 1 v1 xs.length (xs.map str)/\Coll xs k (List.range (lvl k).length)/\xs.length<=10*k/\w1.grownBy wr none)
 case atStart=>exact⟨0,[],rfl,rfl,World.ownsRow_nil _ _ _ _,Coll.start,by simp,Aa _ _⟩
 case round=>
  obtain⟨k,xs,hg,rfl,hown,hcoll,hlen,gr⟩:=hrel;by_cases hk:k<6
  ·have hkI:decide ((k:Int)<6)=true:=by simp;omega
   have hix:=O2 m k hk;have hmk:=CL gr (HM.1.1 k hk) (by simp);have hrg:=Pk (P:=Tryz.prog) underlying311 hmk;have HX:=S (X hown (X hcoll (X hlen (X gr hmk))));clear hown hcoll hlen gr hmk;have HL:=S (show(lvl k).length<=10 by match k,hk with| 0,_ | 1,_ | 2,_ | 3,_ | 4,_ | 5,_=>decide);go_wp2_with fail;go_loopg [1] (lvl k).length (λg v1 wq=>∃(xs:List Bs)(left:List Nat),left.length=g/\wq.ownsRow w1.heap.size 9 1 v1 xs.length (xs.map str)/\Coll xs k left/\xs.length+g<=10*k+10/\Iter wq wr.heap.size (m+k) (lvl k) left/\v1.ownBlock≠some wr.heap.size/\w1.grownBy wq none)
   case atStart=>
    refine⟨xs,List.range (lvl k).length,by simp,HX.1.1.alloc _,HX.1.2.1,by have:=HX.1.2.2.1;have:=HL.1;omega,Iter.start HX.1.2.2.2.2,?_,Ac HX.1.2.2.2.1 _⟩;intro e;have:=(HX.1.1.lt _ e).2;omega
   case round=>
    obtain⟨ys,left,hleft,hown,hcoll,hlen,hit,hne,gq⟩:=hrel;have hr0:=HX.1.2.2.2.1.size;have HY:=S (X hown (X hcoll (X hlen (X hne (X gq hit)))));clear hown hcoll hlen hne gq hrg hix;subst hleft;go_wp2_with (at_next;refine Pa rfl _ rfl rfl hit ?_ ?_)
    ·intro hl;subst hl;clear hit;go_wp2;go_roundg (gk-1)
     case measure=>omega
     case rel=>exact⟨k+1,ys,by omega,by go_num,HY.1.1,HY.1.2.1.next,by have:=HY.1.2.2.1;simp only[List.length_nil]at this;omega,HY.1.2.2.2.2.1⟩
    ·intro i wp hi hit2 gp hen;have hil:i<(lvl k).length:=by
      obtain⟨_,_,_,_,h⟩:=hit;exact((h i).1 hi).1
     have hnd:left.Nodup:=by
      obtain⟨_,_,_,h,_⟩:=hit;exact h
     have hst:=HY.1.2.1.step hnd hi hil;have hle:=List.length_erase_of_mem hi;have hpos:0<left.length:=List.length_pos_of_mem hi;have hown2:=HY.1.1.kept gp (.inr HY.1.2.2.2.1);rw[List.getD_eq_getElem?_getD]at hst;generalize((lvl k)[i]?.getD ([],[])).1=s0 at*;generalize((lvl k)[i]?.getD ([],[])).2=s at*;have hown4:=hown2.alloc (.cells [str s].toArray 9 (0,0));have gq2:=Aq HY.1.2.2.2.2.1 gp (.inr hr0);have gA:=Ac gq2 (.cells [str s].toArray 9 (0,0));have hbs:=gA.size;obtain⟨i0,hi0,hz0,hz1,hz2⟩:=info_parts Fp;have hnc:=AP wp [str s] 9;have hl3:=HY.1.2.2.1;have hml:ys.length+1<=maxLen:=by unfold maxLen;omega
     have hyb:(ys.length+1)*16<=140737488355328:=by omega
     have HZ:=S (X hi0 (X hz0 (X hz1 (X hz2 (X hnc (X hml hown4))))));have HW:=S (X hst (X hle (X hpos (X gA (X (hit2.gb (gZ wp (.cells [str s].toArray 9 (0,0)) none) (by simp) (by simp)) gp.size)))));clear hi0 hz0 hz1 hz2 hnc hml hown4 hown2 hst hle hpos gA hit hit2 gq2 gp hi hil hnd hl3;go_wp2_with (at_builtin;obtain⟨hi0,hz0,hz1,hz2,hnc,hml,hown4⟩:=HZ.1;refine GV rfl _ _ 37 rfl w1.heap.size 9 i0 (str []) 1 16 underlying37 hi0 hz0 hz1 hz2 rfl (by decide) _ _ _ rfl hown4 ⟨wp.heap.size,0,none⟩ 1 1 [str s] rfl rfl hnc (by simp[Value.oneCell']) hml hyb hbs ?_;intro v' w5 hown5 g5 hnb;clear hi0 hz0 hz1 hz2 hnc hml hown4);have HO5:=S (X hown5 (X g5 hnb));clear hown5 g5 hnb hen;go_roundg (left.erase i).length
     case measure=>have:=HW.1.2.1;have:=HW.1.2.2.1;omega
     case rel=>
      have hob:∀q,u1.ownBlock=some q->w1.heap.size<=q:=λq hq=>(HY.1.1.lt q hq).1;have hmlt:m+k<w1.heap.size:=(Array.getElem?_eq_some_iff.1 (HM.1.1 k hk)).1;have g5':World.grownBy (wp.alloc _) w5 u1.ownBlock:=HO5.1.2.1;refine⟨ys++[s],left.erase i,rfl,by simpa using HO5.1.1,HW.1.1,by have:=HW.1.2.1;have:=HY.1.2.2.1;rw[lA,List.length_singleton];have:=HW.1.2.2.1;omega,HW.1.2.2.2.2.1.gb g5' (λe=>by have:=hob _ e.symm;omega) (λe=>HY.1.2.2.2.1 e.symm),?_,?_⟩
      ·intro e;rcases HO5.1.2.2 _ e with h|h
       ·exact HY.1.2.2.2.1 h
       ·have h6:=HW.1.2.2.2.2.2;have h7:=HY.1.2.2.2.2.2;obtain⟨_,_,h8,_⟩:=h7;have h9:=(Array.getElem?_eq_some_iff.1 h8).1;simp at h;omega
      ·cases hv:u1.ownBlock with
       |none=>rw[hv]at g5';exact Ag HW.1.2.2.2.1 g5'
       |some q=>rw[hv]at g5';exact Aq HW.1.2.2.2.1 g5' (.inr (hob q hv))
  ·have hkI:decide ((k:Int)<6)=false:=by simp;omega
   obtain rfl:k=6:=by omega
   have hmem:=hcoll.done;obtain⟨_,⟨_,h0⟩| ⟨g,cap,cur,rfl,hb,hblk,hnc,hcm,hcs,htake⟩⟩:=hown
   ·exfalso;have:([43]:Bs)∈xs:=(hmem _).2 (by decide);rw[List.eq_nil_of_length_eq_zero h0]at this;cases this
   have hlt:=(Array.getElem?_eq_some_iff.1 hblk).1;have hH:Holds encStr wr g 0 xs.toArray:=holds_of_block hblk (by rw[Nat.mul_one]at htake;exact htake);have HS:=S (slices_Sort_string g 0 cap xs wr hH hlt (by omega));have hperm:=List.mergeSort_perm xs (λx y=>decide (x<=y));have hzl:xs.length=(xs.mergeSort λx y=>decide (x<=y)).length:=hperm.length_eq.symm;have hzm:∀s,s∈(xs.mergeSort λx y=>decide (x<=y))↔s∈opsL:=λs=>by rw[hperm.mem_iff,hmem s]
   generalize(xs.mergeSort λx y=>decide (x<=y))=zs at*;have HY:=S (X hmem (X hb (X hlt (X hH (X hzm (X hzl (X hnc gr)))))));clear hcoll gr hmem hb hblk hnc hcm hcs htake hH hperm hzm hzl hlt;go_wp2_with fail;refine HS.1.mono ?_;rintro e w2 ⟨rfl,n,os,hw2⟩;have g2:wr.grownBy w2 (some g):=by rw[hw2];exact grownBy_sorted _
   have hH2:Holds encStr w2 g 0 zs.toArray:=by
    rw[hw2];refine holds_grow _ _ _ _ _ _ (by simpa using HY.1.2.2.1) (holds_putRow _ _ _ _ xs.toArray _ (show Holds encStr (Sort.ahead wr n) g 0 xs.toArray from HY.1.2.2.2.1) ?_);have:=HY.1.2.2.2.2.2.1;simp;omega
   have hlt2:g<w2.heap.size:=by have:=g2.size;have:=HY.1.2.2.1;omega
   have HC:∀L,L=zs.length->Calls Tryz.prog 281 #[.slice (some ⟨g,0,none⟩) L cap] w2 λe w'=>e= .returned (.slice (some ⟨g,0,none⟩) (Lib.compact zs).length cap)/\∃q,w'=putRow encStr (Sort.ahead w2 q) g 0 (Lib.compact zs++List.replicate (zs.length-(Lib.compact zs).length) []).toArray:=by
    rintro _ rfl;exact slices_Compact_string g 0 cap zs w2 hH2 (by have:=HY.1.2.2.2.2.2.1;omega) (by have:=HY.1.2.2.2.2.2.1;have:=HY.1.2.2.2.2.2.2.1;omega)
   replace HC:=HC xs.length HY.1.2.2.2.2.2.1;have HC2:=S HC;have HH:=S (X hH2 g2);clear HC hw2 hH2 g2;go_wp2_with fail;refine HC2.1.mono ?_;rintro e w3 ⟨rfl,q,hw3⟩;have HW:=S hw3;clear hw3 HS HC2;go_wp2;go_ret;have hcl:=QF zs;have hzl:=HY.1.2.2.2.2.2.1;refine⟨⟨g,cap,Lib.compact zs,rfl,by omega,λj hj=>?_,λs=>by rw[QG];exact HY.1.2.2.2.2.1 s⟩,?_⟩
   ·rw[HW.1];have:=cell?_putRow encStr (Sort.ahead w2 q) g 0 zs.toArray (Lib.compact zs++List.replicate (zs.length-(Lib.compact zs).length) []).toArray (show Holds encStr (Sort.ahead w2 q) g 0 zs.toArray from HH.1.1) (by simp;omega) j (by simp;omega);rw[Nat.zero_add]at this;rw[this];simp[encStr,hj,List.getElem_append_left hj,List.getElem?_append_left hj]
   ·have g3 : w2.grownBy w3 (some g) := by
     rw[HW.1];have:=grownBy_sorted (w:=w2) (g:=g) (n:=q) (os:=#[]) (Lib.compact zs++List.replicate (zs.length-(Lib.compact zs).length) []).toArray;rw[grow_empty]at this;exact this
    have ga:=Aq HY.1.2.2.2.2.2.2.2 HH.1.2 (.inr HY.1.2.1);have gb:=Aq ga g3 (.inr HY.1.2.1);exact Z HM.1.2 gb
def Pw(s:Bs)(w:World):Calls Tryz.prog 219 #[str s] w (ρ w (.bool (opsL.contains s))):=by
 generalize hb0:opsL.contains s=b;have HB:=S hb0;clear hb0;go_enter func219,ntmps219;go_wp2_with fail;refine(P5 _).mono ?_;rintro e w1 ⟨⟨g,cap,zs,rfl,hl,hc,hm⟩,g1⟩;have HC:=S (slices_Contains_string g 0 zs.length cap (zs.map λz=>⟨z.toArray⟩) ⟨s.toArray⟩ w1 (by simp) (by omega) (λj hj=>by
  have hj':j<zs.length:=by simpa using hj
  have:=hc j hj';rw[Nat.zero_add,this];simp[List.getD_eq_getElem?_getD,hj']))
 have hb:Lib.containsS ((zs.map λz=>(⟨z.toArray⟩:ByteArray)).take zs.length) ⟨s.toArray⟩=opsL.contains s:=by
  rw[Bool.eq_iff_iff,containsS_iff,List.take_of_length_le (by simp),List.contains_iff_mem,<-hm s,List.mem_map];constructor
  ·rintro⟨z,hz,e⟩;have:z=s:=by
    have:=congrArg (λb:ByteArray=>b.data.toList) e;simpa using this
   exact this ▸ hz
  ·exactλh=>⟨s,h,rfl⟩
 rw[hb,HB.1]at HC;clear hb hc hm;go_wp2_with fail;refine HC.1.mono ?_;rintro e w2 ⟨rfl,rfl⟩;go_wp2;go_ret;exact⟨rfl,g1⟩
abbrev unVk(ra:Option Addr)(rc:Nat)(ca:Option Addr)(cc:Nat):Value:= .agg #[str mainB,.slice ra 2 rc,.slice ca 1 cc]
def Ta(w:World):Calls Tryz.prog 52 #[.agg #[.int .i64 17,.int .i64 0,.int .i64 0,str []]] w (ρ w (.bool false)):=by
 go_enter func52,ntmps52;go_wp2;go_ret;exact⟨rfl,(Ac (Aa _ _) _)⟩
def Zv(h:Cells w (.slice ca 1 cc) 4 1 (AC [Cv]) ok):∃g o,ca=some ⟨g,o,none⟩/\g<w.heap.size/\w.cell? ⟨g,o,none⟩=some (.int .i64 17)/\w.cell? ⟨g,o+1,none⟩=some (.int .i64 0)/\w.cell? ⟨g,o+2,none⟩=some (.int .i64 0)/\w.cell? ⟨g,o+3,none⟩=some (str []):=by
 obtain⟨g,o,e,_,hl,c0,c1,c2,c3⟩:=Cells.cd (l:=[Cv]) (n:=1) (j:=0) (x:=Cv) h rfl;exact⟨g,o,e,hl,by simpa using c0,by simpa using c1,by simpa using c2,by simpa using c3⟩
def PP(h:Cells w (.slice ca 1 cc) 4 1 (AC [Cv]) ok):
 Calls Tryz.prog 77 #[.slice ca 1 cc,.func (.func 52) #[] #[]] w (ρ w (.int .i64 (-1))):=by
 obtain⟨g,o,rfl,hgl,c0,c1,c2,c3⟩:=Zv h;have HC:=S (X c0 (X c1 (X c2 c3)));clear h c0 c1 c2 c3 hgl;go_enter func77,ntmps77;go_wp2_with fail;go_loopg [5,8] 1 (λg v5 v8 wr=>∃k:Nat,k+g=1/\v8= .int .i64 k/\w.grownBy wr none)
 case atStart=>exact⟨0,rfl,rfl,Aa _ _⟩
 case round=>
  obtain⟨k,hk,rfl,hg⟩:=hrel;cases gk with
  | zero=>
    have hk1:k=1:=by omega
    subst hk1;have HX:=S hg;clear hg;go_wp2;go_ret;exact⟨rfl,HX.1⟩
  | succ gk=>
    have hk0:k=0:=by omega
    subst hk0;have d0:=Ae hg HC.1.1;have d1:=Ae hg HC.1.2.1;have d2:=Ae hg HC.1.2.2.1;have d3:=Ae hg HC.1.2.2.2;have HX:=S hg;clear hg;go_wp2_with fail;refine mR (Ta _) λw2 g2=>?_;have H2:=S (Z HX.1 g2);clear g2;go_wp2;go_roundg gk
    case measure=>omega
    case rel=>exact⟨1,by omega,rfl,H2.1⟩
def UH{ra:Option Addr}{rc:Nat}(h:Cells w (.slice ca 1 cc) 4 1 (AC [Cv]) ok):
 Calls Tryz.prog 28 #[unVk ra rc ca cc] w (ρ w (.bool false)):=by
 have gA:=gZ w (.cells #[str mainB,.slice ra 2 rc,.slice ca 1 cc] 58 (0,0)) none;have HH:=S (X (h.gb gA (by simp)) gA);clear h gA;have hc:∀W,Cells W (.slice ca 1 cc) 4 1 (AC [Cv]) ok->Calls Tryz.prog 51 #[.slice ca 1 cc,.func (.func 52) #[] #[]] W (ρ W (.bool false)):=by
  intro W hW;have HW:=S hW;clear hW;go_enter func51,ntmps51;go_wp2_with fail;refine mR (PP HW.1) λw1 g1=>?_;go_wp2;go_ret;exact⟨rfl,g1⟩
 have HC:=S hc;clear hc;go_enter func28,ntmps28;go_wp2_with fail;refine mR (HC.1 _ HH.1.1) λw1 g1=>?_;have HG:=S (Z HH.1.2 g1);clear g1;go_wp2;go_ret;exact⟨rfl,HG.1⟩
def Zw(h:VU ok w v [knU]):∃g o cap ra rc ca cc,v= .slice (some ⟨g,o,none⟩) 1 cap/\g<w.heap.size/\w.cell? ⟨g,o,none⟩=some (str mainB)/\w.cell? ⟨g,o+1,none⟩=some (.slice ra 2 rc)/\w.cell? ⟨g,o+2,none⟩=some (.slice ca 1 cc)/\
 Cells w (.slice ra 2 rc) 1 2 (Be [0,0]) ok/\Cells w (.slice ca 1 cc) 4 1 (AC [Cv]) ok:=by
 obtain⟨a,cap,rfl,_,_,hat⟩:=h.open;obtain⟨g,o,ra,rc,ca,cc,rfl,_,hl,c0,c1,c2,h1,h2⟩:=hat 0 knU rfl;exact⟨g,o,cap,ra,rc,ca,cc,rfl,hl,by simpa using c0,by simpa using c1,by simpa using c2,h1,h2⟩
def Lz(k:Nat)(ok:Nat->Prop):Prop:=∀(W:World)(ra:Option Addr)(rc:Nat)(ca:Option Addr)(cc:Nat),Cells W (.slice ra 2 rc) 1 2 (Be [0,0]) ok->Cells W (.slice ca 1 cc) 4 1 (AC [Cv]) ok->Calls Tryz.prog k #[unVk ra rc ca cc] W (ρ W (.bool false))
def PR(h:VU ok w v [knU])(hk:Lz 28 ok):
 Calls Tryz.prog 53 #[v,.func (.func 28) #[] #[]] w (ρ w (.int .i64 (-1))):=by
 obtain⟨g,o,cap,ra,rc,ca,cc,rfl,hgl,c0,c1,c2,h1,h2⟩:=Zw h;have HC:=S (X c0 (X c1 (X c2 (X h1 h2))));have HK:=S hk;clear h c0 c1 c2 h1 h2 hgl hk;go_enter func53,ntmps53;go_wp2_with fail;go_loopg [5,8] 1 (λg v5 v8 wr=>∃k:Nat,k+g=1/\v8= .int .i64 k/\w.grownBy wr none)
 case atStart=>exact⟨0,rfl,rfl,Aa _ _⟩
 case round=>
  obtain⟨j,hj,rfl,hg⟩:=hrel;cases gk with
  | zero=>
    have hk1:j=1:=by omega
    subst hk1;have HX:=S hg;clear hg;go_wp2;go_ret;exact⟨rfl,HX.1⟩
  | succ gk=>
    have hk0:j=0:=by omega
    subst hk0;have d0:=Ae hg HC.1.1;have d1:=Ae hg HC.1.2.1;have d2:=Ae hg HC.1.2.2.1;have HX:=S hg;clear hg;go_wp2_with fail;refine mR (HK.1 _ ra rc ca cc (HC.1.2.2.2.1.gb HX.1 (by simp)) (HC.1.2.2.2.2.gb HX.1 (by simp))) λw2 g2=>?_;have H2:=S (Z HX.1 g2);clear g2;go_wp2;go_roundg gk
    case measure=>omega
    case rel=>exact⟨1,by omega,rfl,H2.1⟩
def Pf(h:VU ok w v [knU])(hk:Lz 28 ok):
 Calls Tryz.prog 29 #[v,.func (.func 28) #[] #[]] w (ρ w (.bool false)):=by
 have HI:=S (PR h hk);clear h hk;go_enter func29,ntmps29;go_wp2_with fail;refine mR HI.1 λw1 g1=>?_;go_wp2;go_ret;exact⟨rfl,g1⟩
def Tb(ok:Nat->Prop):Lz 28 ok:=λ_ _ _ _ _ _ h=>UH h
def IX{l m:List α}{x:α}(h:l.take k=m.take k)(h1:l[k]? =some x)(h2:m[k]? =some x):l.take (k+1)=m.take (k+1):=by
 rw[List.take_add_one,List.take_add_one,h,h1,h2]
def FD{l m:List α}{x y:α}(h1:l[k]? =some x)(h2:m[k]? =some y)(h:x≠y):l≠m:=by
 rintro rfl;rw[h1]at h2;exact h (by cases h2;rfl)
def J0{l m:List α}(hl:l.length=m.length)(h:l.take l.length=m.take l.length):l=m:=by
 rw[List.take_of_length_le (nR _),List.take_of_length_le (by omega)]at h;exact h
def SY{a b:Option Addr}{c d:Nat}{l m:List Int}(h1:Cells w (.slice a l.length c) 1 l.length (Be l) ok)(h2:Cells w (.slice b m.length d) 1 m.length (Be m) ok'):
 Calls Tryz.prog 27 #[.slice a l.length c,.slice b m.length d] w (ρ w (.bool (decide (l=m)))):=by
 have hlm:l.length<=9223372036854775807:=by obtain⟨_,_,e,h3,h4,_⟩:=h1;cases e;unfold maxLen at h4;omega
 have hmm:m.length<=9223372036854775807:=by obtain⟨_,_,e,h3,h4,_⟩:=h2;cases e;unfold maxLen at h4;omega
 by_cases hl:l.length=m.length
 ·have HH:=S (X h1 (X h2 hl));have i0:((l.length:Int) !=(m.length:Int))=false:=by simp;omega
  have i1:((l.length:Int)==(m.length:Int))=true:=by simp;omega
  clear h1 h2 hl;go_enter func27,ntmps27;go_wp2_with fail;go_loopg [5,13] l.length (λg v5 v13 wr=>∃k:Nat,k+g=l.length/\v13= .int .i64 k/\l.take k=m.take k/\w.grownBy wr none)
  case atStart=>exact⟨0,by omega,rfl,rfl,Aa _ _⟩
  case round=>
   obtain⟨k,hk,rfl,ht,hG⟩:=hrel;cases gk with
   | zero=>
     have hkl:k=l.length:=by omega
     have hj1:decide (k<l.length)=false:=by simp;omega
     have HE:=S (X (J0 HH.1.2.2 (by rw[<-hkl];exact ht)) hG);clear ht hG;subst hkl;go_wp2;go_ret;exact⟨by rw[decide_eq_true HE.1.1];rfl,HE.1.2⟩
   | succ gk=>
     have hkl:k<l.length:=by omega
     have hkm:k<m.length:=by have:=HH.1.2.2;omega
     have hj1:decide (k<l.length)=true:=by simp;omega
     obtain⟨x,hx⟩:∃x,l[k]? =some x:=⟨_,B4 hkl⟩;obtain⟨y,hy⟩:∃y,m[k]? =some y:=⟨_,B4 hkm⟩;obtain⟨ga,oa,rfl,_,_,ca⟩:=HH.1.1.int hx;obtain⟨gb,ob,rfl,_,_,cb⟩:=HH.1.2.1.int hy;have da:=Ae hG ca;have db:=Ae hG cb;clear ca cb;by_cases hxy:x=y
     ·subst hxy;have j1:(x==x)=true:=by simp
      have j2:(x !=x)=false:=by simp
      have HE:=S (X (IX ht hx hy) hG);clear ht hG hx hy;go_wp2_with fail;go_quiet(fail);go_wp2;go_roundg gk
      case measure=>omega
      case rel=>exact⟨k+1,by omega,by go_num,HE.1.1,Aj HE.1.2 _⟩
     ·have j1:(x==y)=false:=by simpa using hxy
      have j2:(x !=y)=true:=by simpa using hxy
      have HE:=S (X (FD hx hy hxy) hG);clear ht hG hx hy hxy;go_wp2_with fail;go_quiet(fail);go_wp2;go_ret;exact⟨by rw[decide_eq_false HE.1.1];rfl,Aj HE.1.2 _⟩
 ·have HE:=S (show l≠m by rintro rfl;exact hl rfl);have i0:((l.length:Int) !=(m.length:Int))=true:=by simp;omega
  have i1:((l.length:Int)==(m.length:Int))=false:=by simp;omega
  clear h1 h2;go_enter func27,ntmps27;go_wp2;go_ret;exact⟨by rw[decide_eq_false HE.1];rfl,Aa _ _⟩
end Go.Proofs.YtbjfaimkiclhgaaGreatDoor
