/-
  RxM PgM Lex Tame Size RsI RpB WrV WrD Code: its lines, the reference's.
-/
import Derived.Test.YtbjfaimkiclhgaaGreatDoorCt02
import Derived.Test.YtbjfaimkiclhgaaGreatDoorCt04
import Derived.Test.YtbjfaimkiclhgaaGreatDoorCt08
import Derived.Test.YtbjfaimkiclhgaaGreatDoorCt05
import Derived.Test.YtbjfaimkiclhgaaGreatDoorCt07
import Derived.Test.YtbjfaimkiclhgaaGreatDoorCt03
import Derived.Lib.ItoaMem
import Derived.Lib.AppendStr
set_option linter.all false
set_option maxRecDepth 100000
set_option maxHeartbeats 8000000
namespace Go.Proofs.YtbjfaimkiclhgaaGreatDoor
open Go.Proofs.Tryz
variable{l ts:List Tok}{w wr w1 w0 W:World}{B i j k u:Nat}{v:Value}{n:Int}{s:Bs}{line:Bool}{t:Tok}{ok:Nat->Prop}{ops:Array Oper}{o:Oper}{a:Act}{K:Act->World->Prop}{Q:Exit->Act->World->Prop}{E A:Prop}
abbrev RS:=Nat×Bool
def C4:Ex:=⟨hd0 0 [],.nil⟩
def Aj(l:List Tok):Prop:=∀i,(Ab l i).kind=0->Aw (Ab l i).text=decide ((Ab l i).text.length<=10)
abbrev DW:Bs:=[80,82,79,67,69,68,85,82,69]
abbrev C7:Bs:=[70,85,78,67,84,73,79,78]
abbrev Gj:Bs:=[76,79,67,65,76]
abbrev FU:Bs:=[80,82,73,86,65,84,69]
abbrev Gb:Bs:=[80,85,66,76,73,67]
abbrev Gc:Bs:=[83,84,65,84,73,67]
abbrev wIF:Bs:=[73,70]
abbrev Jc:Bs:=[69,76,83,69,73,70]
abbrev Jr:Bs:=[69,76,83,69]
abbrev Jm:Bs:=[69,78,68,73,70]
abbrev wDO:Bs:=[68,79]
abbrev ES:Bs:=[67,65,83,69]
abbrev JW:Bs:=[79,84,72,69,82,87,73,83,69]
abbrev KK:Bs:=[69,78,68,67,65,83,69]
abbrev DZ:Bs:=[87,72,73,76,69]
abbrev Ll:Bs:=[69,78,68,68,79]
abbrev CQ:Bs:=[70,79,82]
abbrev wTO:Bs:=[84,79]
abbrev Js:Bs:=[83,84,69,80]
abbrev BM:Bs:=[78,69,88,84]
abbrev EU:Bs:=[76,79,79,80]
abbrev ET:Bs:=[69,88,73,84]
abbrev D3:Bs:=[82,69,84,85,82,78]
abbrev GJ:Bs:=[87,73,84,72]
abbrev DG:Bs:=[66,82,69,65,75]
abbrev GC:Bs:=[66,69,71,73,78]
abbrev Nb:Bs:=[83,69,81,85,69,78,67,69]
abbrev Ha:Bs:=[82,69,67,79,86,69,82]
abbrev Jn:Bs:=[85,83,73,78,71]
abbrev Ig:Bs:=[69,78,68]
abbrev Ft:Bs:=[83,69,76,69,67,84]
abbrev FF:Bs:=[85,83,69]
abbrev Hv:Bs:=[65,76,73,65,83]
abbrev wGO:Bs:=[71,79]
abbrev FE:Bs:=[84,79,80]
abbrev Fp:Bs:=[66,79,84,84,79,77]
abbrev F8:Bs:=[83,75,73,80]
abbrev F4:Bs:=[83,69,69,75]
abbrev Fr:Bs:=[76,79,67,65,84,69]
abbrev EX:Bs:=[67,79,78,84,73,78,85,69]
abbrev Fh:Bs:=[82,69,80,76,65,67,69]
abbrev Fq:Bs:=[68,69,76,69,84,69]
abbrev Fs:Bs:=[82,69,67,65,76,76]
abbrev Fm:Bs:=[65,80,80,69,78,68]
abbrev Lk:Bs:=[66,76,65,78,75]
abbrev F3:Bs:=[80,65,67,75]
abbrev FG:Bs:=[90,65,80]
abbrev Fx:Bs:=[67,79,85,78,84]
abbrev FD:Bs:=[83,85,77]
abbrev Fy:Bs:=[73,78,68,69,88]
abbrev wON:Bs:=[79,78]
abbrev wTAG:Bs:=[84,65,71]
abbrev Hr:Bs:=[85,78,73,81,85,69]
abbrev GT:Bs:=[67,65,78,68,73,68,65,84,69]
abbrev CO:Bs:=[68,69,83,67,69,78,68,73,78,71]
abbrev Gp:Bs:=[83,69,84]
abbrev GD:Bs:=[79,82,68,69,82]
abbrev Hq:Bs:=[70,73,76,84,69,82]
abbrev GW:Bs:=[82,69,76,65,84,73,79,78]
abbrev Lq:Bs:=[73,78,84,79]
abbrev Lm:Bs:=[69,88,65,67,84]
abbrev KJ:Bs:=[68,69,76,69,84,69,68]
abbrev wOFF:Bs:=[79,70,70]
abbrev DN:Bs:=[65,76,76]
abbrev DL:Bs:=[82,69,83,84]
abbrev Cx:Bs:=[82,69,67,79,82,68]
def ER(W:List Bs)(s:Bs):Bs:=if W.contains s then s else if 4<=s.length then(W.find? λw=>s.isPrefixOf w).getD []else []
def Ar(l:List Tok)(W:List Bs)(i:Nat):Bs:=if(Ab l i).kind==0 then ER W (Ab l i).text else []
def Bv(l:List Tok)(W:List Bs)(i:Nat):Bs:=
 if Ah (Ab l (i+1)) [61]||Ah (Ab l (i+1)) [58,61]||Ah (Ab l (i+1)) [91]||Ah (Ab l (i+1)) [45,62]then []else Ar l W i
def endWords:List Bs:=[Jc,Jr,Jm,ES,JW,KK,Ll,BM,Ha,Ig,DW,C7]
structure Rd(l:List Tok)(α:Type) where
 f:Nat->Res α
namespace Rd
variable {α β:Type}
def pure(a:α):Rd l α:=⟨λi=> .ok a i⟩
def bind(p:Rd l α)(q:α->Rd l β):Rd l β:=⟨λi=>(p.f i).bind λx j=>(q x).f j⟩
def bad(_:α):Rd l α:=⟨λi=> .bad i⟩
def out(_:α):Rd l α:=⟨λ_=> .out⟩
def skip:Rd l Unit:=⟨λi=> .ok () (i+1)⟩
def want(s:Bs):Rd l Unit:=⟨AW l s⟩
def fin:Rd l Unit:=⟨B4 l⟩
def name(_:Aj l):Rd l Bs:=⟨AD l⟩
def ifs(s:Bs)(p q:Rd l α):Rd l α:=⟨λi=>if Ah (Ab l i) s then p.f (i+1)else q.f i⟩
def cond(c:Nat->Bool)(p q:Rd l α):Rd l α:=⟨λi=>if c i then p.f i else q.f i⟩
def condW(c:Nat->Bool)(p q:Rd l α):Rd l α:=⟨λi=>if c i then p.f i else q.f i⟩
def Hx(c:Nat->Bool)(p q:Rd l α):Rd l α:=⟨λi=>if c i then p.f i else q.f i⟩
def ifw(W:List Bs)(w:Bs)(p q:Rd l α):Rd l α:=Hx (λi=>Ar l W i==w) (skip.bind λ_=>p) q
def must(W:List Bs)(w:Bs):Rd l Unit:=ifw W w (pure ()) (bad ())
def here(W:List Bs):Rd l Bs:=⟨λi=> .ok (Ar l W i) i⟩
def moreS(s:Bs)(step:α->Rd l α):Nat->α->Rd l α
 | 0,a=>out a
 |n+1,a=>ifs s ((step a).bind (moreS s step n)) (pure a)
def moreW(W:List Bs)(w:Bs)(step:α->Rd l α):Nat->α->Rd l α
 | 0,a=>out a
 |n+1,a=>ifw W w ((step a).bind (moreW W w step n)) (pure a)
def atEnd(l:List Tok)(i:Nat):Bool:=(Ab l i).kind==5
end Rd
def sd0(op:Int)(s:Bs):Sd:=⟨op,s,[],[],.nil,0,.nil,.nil,.nil⟩
def Bl.app:Bl->Bl->Bl
 | .nil,g=>g
 | .st h b n,g=> .st h b (n.app g)
 | .bl b n,g=> .bl b (n.app g)
abbrev StB:=Sd×Bl
structure ScM where
 kind:Int
 n:Fo
 f:Fo
 w:Fo
def Ck:ScM:=⟨0,.nil,.nil,.nil⟩
def CU(s:Sd)(c:ScM):Sd:={s with kind:=c.kind,n:=c.n,f:=c.f,w:=c.w}
def Bd(w:Bs):Int:=if w=DN then 1 else if w=BM then 2 else if w=DL then 3 else if w=Cx then 4 else 0
section
open Rd
variable (hn:Aj l)(W:List Bs)(day:Bs->Int)(n:Nat)(block:Rd l Bl)
def B5(_:Aj l)(day:Bs->Int)(n:Nat):Rd l Ex:=⟨Ai l day n⟩
def GH(_:Aj l)(day:Bs->Int)(n:Nat):Rd l Fo:=⟨Dd l (Ai l day n) n⟩
def Ox(_:Aj l)(n:Nat):Rd l (List Bs):=⟨CF l n⟩
def Lh(_:Aj l)(day:Bs->Int)(n:Nat):Rd l Ex:=⟨DD l (Ai l day n)⟩
def Ic:Rd l Fo:=condW (atEnd l) (pure .nil) ((B5 hn day n).bind λx=>pure (.one x))
def FP(a:List Bs×Fo):Rd l (List Bs×Fo):=(name hn).bind λs=>(ifs [58,61] (B5 hn day n) (pure C4)).bind λx=>pure (a.1++[s],a.2.snoc x)
def D4(w:Bs):Rd l StB:=(FP hn day n ([],.nil)).bind λa=>(moreS [44] (FP hn day n) n a).bind λa=>fin.bind λ_=>pure ({sd0 2 w with p:=a.1,x:=a.2},.nil)
def Dy(a:Fo×Bl):Rd l (Fo×Bl):=(B5 hn day n).bind λx=>fin.bind λ_=>block.bind λb=>pure (a.1.snoc x,a.2.app (.bl b .nil))
def Em(more other last:Bs):Rd l StB:=
 (Dy hn day n block (.nil,.nil)).bind λa=>(moreW W more (Dy hn day n block) n a).bind λa=>
  (ifw W other (fin.bind λ_=>block.bind λb=>pure (a.2.app (.bl b .nil))) (pure a.2)).bind λbs=>
   (must W last).bind λ_=>fin.bind λ_=>pure ({sd0 3 []with x:=a.1},bs)
def doP:Rd l StB:=
 ifw W ES (fin.bind λ_=>(must W ES).bind λ_=>Em hn W day n block ES JW KK)
  (ifw W DZ ((Dy hn day n block (.nil,.nil)).bind λa=>(must W Ll).bind λ_=>fin.bind λ_=>pure ({sd0 4 []with x:=a.1},a.2))
   ((name hn).bind λs=>(ifw W GJ (GH hn day n) (pure .nil)).bind λf=>fin.bind λ_=>pure ({sd0 9 s with x:=f},.nil)))
def EM:Rd l StB:=
 (name hn).bind λs=>(want [61]).bind λ_=>(B5 hn day n).bind λx=>(must W wTO).bind λ_=>(B5 hn day n).bind λy=>
  (ifw W Js (B5 hn day n) (pure (A6 2 1 []))).bind λz=>fin.bind λ_=>block.bind λb=>(must W BM).bind λ_=>fin.bind λ_=>
   pure ({sd0 5 s with x:=((Fo.one x).snoc y).snoc z},.bl b .nil)
def EF:Rd l StB:=
 (must W Nb).bind λ_=>fin.bind λ_=>block.bind λb=>
  (ifw W Ha ((ifw W Jn (name hn) (pure [])).bind λs=>fin.bind λ_=>block.bind λc=>pure (s,Bl.bl b (.bl c .nil))) (pure ([],Bl.bl b .nil))).bind λr=>
   (must W Ig).bind λ_=>fin.bind λ_=>pure (sd0 11 r.1,r.2)
def Bz:Nat->ScM->Rd l ScM
 | 0,c=>out c
 |k+1,c=>condW (λ_=>false) (pure c) ((here W).bind λw=>
  if Bd w≠0/\c.kind=0 then skip.bind λ_=>if w=BM\/w=Cx then(B5 hn day n).bind λx=>Bz k {c with kind:=Bd w,n:= .one x}else Bz k {c with kind:=Bd w}
  else if w=CQ/\c.f.len=0 then skip.bind λ_=>(B5 hn day n).bind λx=>Bz k {c with f:= .one x}
  else if w=DZ/\c.w.len=0 then skip.bind λ_=>(B5 hn day n).bind λx=>Bz k {c with w:= .one x}
  else pure c)
def E8(a:List Bs×Fo):Rd l (List Bs×Fo):=(name hn).bind λs=>(must W GJ).bind λ_=>(B5 hn day n).bind λx=>pure (a.1++[s],a.2.snoc x)
def Fv(s:Sd):Rd l Sd:=
 (must W wON).bind λ_=>(B5 hn day n).bind λx=>(must W wTAG).bind λ_=>(name hn).bind λp=>
  (ifw W CQ ((B5 hn day n).bind λy=>pure (Fo.two x y)) (pure (Fo.one x))).bind λf=>
   (here W).bind λw=>(if w=Hr\/w=GT then skip.bind λ_=>pure w else pure []).bind λt=>
    (ifw W CO (pure [p,CO]) (pure [p])).bind λps=>pure {s with p:=ps,x:=f,t:=t}
def Fg(s:Sd):Rd l Sd:=
 (here W).bind λw=>
  if w=Lm\/w=KJ then skip.bind λ_=>(here W).bind λt=>if t=wON\/t=wOFF then skip.bind λ_=>pure {s with s:=w,t:=t}else bad {s with s:=w}
  else if w=GD\/w=Hq\/w=GW then skip.bind λ_=>(must W wTO).bind λ_=>cond (atEnd l) (pure {s with s:=w})
   (if w=GD then(name hn).bind λp=>pure {s with s:=w,p:=[p]}
    else if w=Hq then(B5 hn day n).bind λx=>pure {s with s:=w,x:= .one x}
    else(B5 hn day n).bind λx=>(must W Lq).bind λ_=>(name hn).bind λp=>pure {s with s:=w,x:= .one x,p:=[p]})
  else bad s
def goP(s:Sd):Rd l Sd:=(here W).bind λw=>cond (λi=>(w==FE||w==Fp)&&atEnd l (i+1)) (skip.bind λ_=>pure {s with t:=w}) ((B5 hn day n).bind λx=>pure {s with x:= .one x})
def B8(w:Bs):Rd l Sd:=
 if w=Ft then(name hn).bind λp=>pure {sd0 13 w with p:=[p]}
 else if w=FF then cond (atEnd l) (pure (sd0 13 w)) ((name hn).bind λp=>(ifw W Hv ((name hn).bind λq=>pure [p,q]) (pure [p])).bind λps=>pure {sd0 13 w with p:=ps})
 else if w=wGO then goP hn W day n (sd0 13 w)
 else if w=F8 then(Ic hn day n).bind λx=>pure {sd0 13 w with x:=x}
 else if w=F4 then(B5 hn day n).bind λx=>pure {sd0 13 w with x:= .one x}
 else if w=EX\/w=F3\/w=FG then pure (sd0 13 w)
 else if w=Fm then(must W Lk).bind λ_=>pure (sd0 13 w)
 else if w=Fr\/w=Fq\/w=Fs then(Bz hn W day n n Ck).bind λc=>pure (CU (sd0 13 w) c)
 else if w=Fh then(E8 hn W day n ([],.nil)).bind λa=>(moreS [44] (E8 hn W day n) n a).bind λa=>(Bz hn W day n n Ck).bind λc=>pure (CU {sd0 13 w with p:=a.1,x:=a.2} c)
 else if w=Fx then(must W wTO).bind λ_=>(name hn).bind λp=>(Bz hn W day n n Ck).bind λc=>pure (CU {sd0 13 w with p:=[p]} c)
 else if w=FD then(B5 hn day n).bind λx=>(must W wTO).bind λ_=>(name hn).bind λp=>(Bz hn W day n n Ck).bind λc=>pure (CU {sd0 13 w with p:=[p],x:= .one x} c)
 else if w=Fy then Fv hn W day n (sd0 13 w)
 else Fg hn W day n (sd0 13 w)
def cmdWords:List Bs:=[Ft,FF,wGO,F8,F4,EX,F3,FG,Fm,Fr,Fq,Fs,Fh,Fx,FD,Fy,Gp]
def By(w:Bs):Rd l StB:=
 if w=Gj\/w=FU\/w=Gb\/w=Gc then skip.bind λ_=>D4 hn day n w
 else if w=wIF then skip.bind λ_=>Em hn W day n block Jc Jr Jm
 else if w=wDO then skip.bind λ_=>doP hn W day n block
 else if w=CQ then skip.bind λ_=>EM hn W day n block
 else if w=EU then skip.bind λ_=>fin.bind λ_=>pure (sd0 6 [],.nil)
 else if w=ET then skip.bind λ_=>fin.bind λ_=>pure (sd0 7 [],.nil)
 else if w=D3 then skip.bind λ_=>(Ic hn day n).bind λx=>fin.bind λ_=>pure ({sd0 8 []with x:=x},.nil)
 else if w=DG then skip.bind λ_=>(Ic hn day n).bind λx=>fin.bind λ_=>pure ({sd0 12 []with x:=x},.nil)
 else if w=GC then skip.bind λ_=>EF hn W block
 else if cmdWords.contains w then skip.bind λ_=>(B8 hn W day n w).bind λs=>fin.bind λ_=>pure (s,.nil)
 else bad (sd0 13 w,.nil)
def Gn(t:Ex):Rd l StB:=(ifs [61] (pure ()) (want [58,61])).bind λ_=>(B5 hn day n).bind λx=>fin.bind λ_=>pure ({sd0 0 []with x:= .two t x},.nil)
def NO:Rd l Fo:=ifs [41] (pure .nil) ((GH hn day n).bind λf=>(want [41]).bind λ_=>pure f)
def Ia(s:Bs):Rd l StB:=
 ifs [40] ((NO hn day n).bind λf=>fin.bind λ_=>pure ({sd0 10 []with x:= .one ⟨hd0 3 s,f⟩},.nil))
  (ifs [91] ((B5 hn day n).bind λx=>(want [93]).bind λ_=>Gn hn day n (DY (AH s) x))
   (ifs [45,62] ((name hn).bind λt=>Gn hn day n ⟨hd0 2 s,.one (AH t)⟩) (Gn hn day n (AH s))))
def EH:Rd l StB:=
 ifs [63] ((cond (atEnd l) (pure .nil) (GH hn day n)).bind λx=>fin.bind λ_=>pure ({sd0 1 []with x:=x},.nil))
  (cond (λi=>Ah (Ab l i) [38]) ((Lh hn day n).bind λt=>Gn hn day n t) ((name hn).bind λs=>Ia hn day n s))
def keyP:Rd l Bs:=⟨λi=> .ok (Bv l W i) i⟩
def BL:Rd l StB:=(keyP W).bind λw=>if w=[]then EH hn day n else By hn W day n block w
end
section
open Rd
variable (hn:Aj l)(W:List Bs)(day:Bs->Int)
def Fi(l:List Tok)(W:List Bs)(i:Nat):Bool:=decide (i<l.length)&&!endWords.contains (Bv l W i)
def D8(st:Rd l StB):Nat->Bl->Rd l Bl
 | 0,a=>out a
 |k+1,a=>Hx (Fi l W) (st.bind λr=>D8 st k (a.app (.st r.1 r.2 .nil))) (pure a)
def Du:Nat->Rd l Bl
 | 0=>out .nil
 |n+1=>D8 W (BL hn W day n (Du n)) n .nil
def YM(n:Nat):Rd l (List Bs):=ifs [40] (ifs [41] (pure []) ((Ox hn n).bind λp=>(want [41]).bind λ_=>pure p)) (pure [])
end
abbrev Pq:=Bs×Bool×List Bs×Bl
section
open Rd
variable (hn:Aj l)(W:List Bs)(day:Bs->Int)
def Ec(n:Nat)(a:List Pq)(fn:Bool):Rd l (List Pq):=
 (name hn).bind λs=>(YM hn n).bind λp=>fin.bind λ_=>(Du hn W day n).bind λb=>pure (a++[(s,fn,p,b)])
def D6(n:Nat):Nat->List Pq->Rd l (List Pq)
 | 0,a=>out a
 |k+1,a=>Hx (λi=>decide (i<l.length)) ((here W).bind λw=>
  if w=DW\/w=C7 then skip.bind λ_=>(Ec hn W day n a (w==C7)).bind λa=>D6 n k a else bad a) (pure a)
def BW(n:Nat):Rd l (List Pq):=(Du hn W day n).bind λb=>D6 hn W day n n [([77,65,73,78],false,[],b)]
end
open Go.RowKit
def U6(s:Bs):∀n i line,i<=s.length->2*(s.length-i)+line.toNat<n->CB s n i line ≠ .out:=by
 intro n;induction n using Nat.strongRecOn with
 | ind n ih=>
   intro i line hi hn;rw[JY];have hf:=Ti s n i line hi hn;cases hq:Bk s n i line with
   | tok t j l m=>
     rw[hq]at hf;have:=ih m (NC s n i line t j l m hq) j l hf.1 hf.2;show(CB s m j l).cons t ≠ .out;cases hr:CB s m j l with
     |ok l=>simp[LexR.cons]
     |bad k=>simp[LexR.cons]
     |out=>exact absurd hr this
   |stop=>simp
   |bad k=>simp
   |out=>rw[hq]at hf;exact hf.elim
def Fw(s:Bs):LexR:=CB s (2*s.length+1) 0 false
def Jy(s:Bs):Fw s ≠ .out:=U6 s _ 0 false (nZ _) (by simp)
def Rf:∀(l:List Tok)(j:Nat),j<l.length->(CX l)[j*3]? =some (.int .i64 (Ab l j).kind)/\(CX l)[j*3+1]? =some (.int .i64 (Ab l j).pos)/\(CX l)[j*3+2]? =some (str (Ab l j).text):=by
 intro l;induction l with
 |nil=>intro j h;simp at h
 | cons t l ih=>
   intro j h;have e:CX (t::l)=FC t++CX l:=by simp[CX]
   rw[e];cases j with
   |zero=>exact⟨rfl,rfl,rfl⟩
   | succ j=>
     have h':=ih j (by simpa using h);have ht:Ab (t::l) (j+1)=Ab l j:=by simp[Ab]
     rw[ht];have hl:(FC t).length=3:=rfl;refine⟨?_,?_,?_⟩
     ·rw[List.getElem?_append_right (by rw[hl];omega),hl,show(j+1)*3-3=j*3 by omega];exact h'.1
     ·rw[List.getElem?_append_right (by rw[hl];omega),hl,show(j+1)*3+1-3=j*3+1 by omega];exact h'.2.1
     ·rw[List.getElem?_append_right (by rw[hl];omega),hl,show(j+1)*3+2-3=j*3+2 by omega];exact h'.2.2
def Qd(h:w.ownsRow B 250 3 v l.length (CX l)):TRow w v l (Al B):=by
 obtain⟨a,cap,e,h1,h2,h3,h4⟩:=Db h;refine⟨a,cap,e,h1,h2,λj hj=>?_⟩;obtain⟨c0,c1,c2⟩:=Rf l j hj;obtain⟨g,o,ea,hg,d0⟩:=h4 _ _ c0;obtain⟨g1,o1,ea1,_,d1⟩:=h4 _ _ c1;obtain⟨g2,o2,ea2,_,d2⟩:=h4 _ _ c2;rw[ea]at ea1 ea2;cases ea1;cases ea2;exact⟨g,o,ea,hg,d0,by rw[Nat.add_assoc];exact d1,by rw[Nat.add_assoc];exact d2⟩
def Yj(b:Nat)(w:World):Calls Tryz.prog 205 #[.pointer (some ⟨b,0,none⟩)] w λe w'=>e= .returned (.func (.func 233) #[] #[.pointer (some ⟨w.heap.size,0,none⟩)])/\w'=w.alloc (.cells #[.pointer (some ⟨b,0,none⟩)] 244 (0,0)):=by
 have hmf:∀(fn:Fn)(first cap:Array Value)(w:World),(Instr.makeFunc fn first cap).run Tryz.prog w= .ok (.func fn first cap) w:=λ_ _ _ _=>rfl;go_enter func205,ntmps205;go_wp2;go_ret;exact⟨rfl,rfl⟩
def QY{b cb n:Nat}{R:LexR}(hbc:b≠cb)(hcb:w.cell? ⟨cb,0,none⟩=some (.pointer (some ⟨b,0,none⟩)))(hs:Sc w b s i line line (-1))(ht:Tabs b w)
 (hR:R ≠ .out) (hl:CB s n i line=R) (hn:n<100000):
 Calls Tryz.prog 204 #[.func (.func 233) #[] #[.pointer (some ⟨cb,0,none⟩)]] w
  λe w'=>w.grownBy w' (some b)/\(∃v,e= .returned v/\Le b s (λl W=>W.ownsRow (w.heap.size+3) 250 3 v l.length (CX l)) R w'):=by
 have hA:=Pp hbc hcb hs ht hR hl hn;have HA:=S hA;clear hA hl hcb hs ht hR hn;go_enter func204,ntmps204;go_wp2_with fail;refine HA.1.mono ?_;rintro e w1 ⟨g,v,rfl,hE⟩;have HE:=S hE;clear hE;go_wp2;go_ret;exact⟨g,_,rfl,HE.1⟩
def VA:∀(cr:List Value)(k:Nat)(pre old post:List Value),old.length=cr.length->pre.length=2+k->
 (cr.zipIdx k).foldl (λcs x=>cs.setIfInBounds (2+x.2) x.1) (pre++old++post).toArray=(pre++cr++post).toArray:=by
 intro cr;induction cr with
 | nil=>
   intro k pre old post h _;have:old=[]:=List.eq_nil_of_length_eq_zero (by simpa using h);subst this;rfl
 | cons c cr ih=>
   intro k pre old post h hp;cases old with
   |nil=>simp at h
   | cons o old=>
     rw[List.zipIdx_cons,List.foldl_cons];have e:(pre++o::old++post).toArray.setIfInBounds (2+k) c=((pre++[c])++old++post).toArray:=by
      rw[<-hp];simp
     simp only[];rw[e,ih (k+1) (pre++[c]) old post (by simpa using h) (by simp;omega)];simp
def QM:Tryz.zeroCells247=([str [],Value.int .i64 0]++List.replicate 256 (Value.int .u8 0)++[Value.bool false,Value.bool false,Value.int .i64 0]).toArray:=by kernel_rfl
def set0(a v:Value)(l:List Value):(a::l).toArray.setIfInBounds 0 v=(v::l).toArray:=by simp
def PX(s:Bs)(cr:List Value)(hc:cr.length=256):
 List.foldl (λcs x=>cs.setIfInBounds (2+x.2) x.1) (Tryz.zeroCells247.setIfInBounds 0 (str s)) cr.zipIdx=([str s,Value.int .i64 0]++cr++[Value.bool false,Value.bool false,Value.int .i64 0]).toArray:=by
 rw[QM];have e:=set0 (str []) (str s) ([Value.int .i64 0]++List.replicate 256 (Value.int .u8 0)++[Value.bool false,Value.bool false,Value.int .i64 0]);have e2:([str [],Value.int .i64 0]++List.replicate 256 (Value.int .u8 0)++[Value.bool false,Value.bool false,Value.int .i64 0]).toArray.setIfInBounds 0 (str s)=([str s,Value.int .i64 0]++List.replicate 256 (Value.int .u8 0)++[Value.bool false,Value.bool false,Value.int .i64 0]).toArray:=e;rw[e2];exact VA cr 0 [str s,Value.int .i64 0] (List.replicate 256 (Value.int .u8 0)) _ (by rw[List.length_replicate,hc]) rfl
def Pm(s:Bs)(cr:List Value)(hc:cr.length=256):
 (([str s,Value.int .i64 0]++cr++[Value.bool false,Value.bool false,Value.int .i64 0]).toArray).setIfInBounds 260 (.int .i64 (-1))=(str s :: .int .i64 0::(cr++[.bool false,.bool false,.int .i64 (-1)])).toArray:=by
 rw[List.setIfInBounds_toArray];congr 1;rw[show(260:Nat)=258+1+1 from rfl];show str s::Value.int .i64 0::((cr++[Value.bool false,Value.bool false,Value.int .i64 0]).set 258 (.int .i64 (-1)))=_;rw[List.set_append_right _ _ (by omega),hc];rfl
def Tabs.mono{B':Nat}(h:Tabs B w)(hB:B<=B'):Tabs B' w:=by
 obtain⟨R,oR,cap,hR,hc⟩:=h.case;have:=h.low;exact⟨h.utf8,by omega,⟨R,oR,cap,by omega,hc⟩,h.glob⟩
def Yg(w:World)(s:Bs)(e:Ending)(w':World):Prop:=w.grownBy w' none/\
 if 4000<s.length then e= .returned (.tuple #[.slice none 0 0,.int .i64 0,.int .i64 3])
 else match Fw s with
  | .ok l=>if 1200<l.length then e= .returned (.tuple #[.slice none 0 0,.int .i64 0,.int .i64 3])else ∃v,e= .returned (.tuple #[v,.int .i64 l.length,.int .i64 0])/\TRow w' v l (Al w.heap.size)
  | .bad k=>e= .returned (.tuple #[.slice none 0 0,.int .i64 k,.int .i64 2])
  | .out=>False
def Ye(ht:Tabs w.heap.size w)(s:Bs)(hs:s.length<=1000000):Calls Tryz.prog 156 #[str s] w (Yg w s):=by
 by_cases hl:4000<s.length
 ·have HP:=S hl;have hl1:decide ((4000:Int)<s.length)=true:=by simp;omega
  go_enter func156,ntmps156;go_wp2;exact bZ (v:= .tuple #[.slice none 0 0,.int .i64 0,.int .i64 3]) (by simp[results,results156,go_sem]) rfl ⟨Aa _ _,by rw[if_pos HP.1]⟩
 ·have HP:=S hl;have hl1:decide ((4000:Int)<s.length)=false:=by simp;omega
  go_enter func156,ntmps156;go_wp2_with fail;refine mR (QW _) λw1 g1=>?_;have hcl:=Gv 256;have HF:=S (PX s (AG 256) hcl);have HC:=S (Pm s (AG 256) hcl);generalize hcr:AG 256=cr at*;have HR:=S hcr;clear hcr;go_wp2_with fail
  ·exfalso;rw[HF.1]at h;simp[hcl]at h
  rw[HF.1,HC.1];refine(Yj _ _).mono ?_;rintro e w2 ⟨rfl,rfl⟩;have g2:w1.grownBy ((w1.alloc (.cells (str s :: .int .i64 0::(cr++[.bool false,.bool false,.int .i64 (-1)])).toArray 247 (0,0))).alloc (.cells #[.pointer (some ⟨w1.heap.size,0,none⟩)] 244 (0,0))) none:=Ac (gZ w1 _ none) _;have hS:Sc ((w1.alloc (.cells (str s :: .int .i64 0::(cr++[.bool false,.bool false,.int .i64 (-1)])).toArray 247 (0,0))).alloc (.cells #[.pointer (some ⟨w1.heap.size,0,none⟩)] 244 (0,0))) w1.heap.size s 0 false false (-1):=by
   refine⟨((Blk.new w1 _ _).alloc _).of_eq rfl ?_,nZ _,by omega⟩;rw[<-HR.1];rfl
  have hcb:((w1.alloc (.cells (str s :: .int .i64 0::(cr++[.bool false,.bool false,.int .i64 (-1)])).toArray 247 (0,0))).alloc (.cells #[.pointer (some ⟨w1.heap.size,0,none⟩)] 244 (0,0))).cell? ⟨w1.heap.size+1,0,none⟩=some (.pointer (some ⟨w1.heap.size,0,none⟩)):=by
   simp
  have hsz:(w1.alloc (.cells (str s :: .int .i64 0::(cr++[.bool false,.bool false,.int .i64 (-1)])).toArray 247 (0,0))).heap.size=w1.heap.size+1:=by simp
  rw[hsz];have ht2:=(ht.gbN g1).gbN g2;have gA:=Z g1 g2;generalize((w1.alloc (.cells (str s :: .int .i64 0::(cr++[.bool false,.bool false,.int .i64 (-1)])).toArray 247 (0,0))).alloc (.cells #[.pointer (some ⟨w1.heap.size,0,none⟩)] 244 (0,0)))=W at*;generalize(str s :: .int .i64 0::(cr++[.bool false,.bool false,.int .i64 (-1)])).toArray=big at*;have hw1:=g1.size;have hC:=QY (n:=2*s.length+1) (by omega) hcb hS (ht2.mono hw1) (Jy s) rfl (by omega);have HW:=S hC;clear hC hcb hS ht2 HF HC HR hcl hsz;go_wp2_with fail;refine HW.1.mono ?_;rintro e w3 ⟨g3,v,rfl,hE⟩;have gB:=Ap gA g3 (.inr hw1);cases hq:Fw s with
  |out=>exact absurd hq (Jy s)
  | bad k=>
    rw[hq]at hE;obtain⟨_,j,l',hs3⟩:=hE;have HQ:=S hq;clear hq;have d260:=hs3.c260;have hlt:=hs3.lt;go_wp2;go_quiet(fail);go_wp2;exact bZ (v:= .tuple #[.slice none 0 0,.int .i64 k,.int .i64 2]) (by simp[results,results156,go_sem]) rfl ⟨An gB _,by rw[if_neg HP.1,HQ.1]⟩
  | ok l=>
    rw[hq]at hE;obtain⟨hO,j,l',hs3⟩:=hE;have HQ:=S hq;clear hq;have hT:=Qd hO;obtain⟨a,cap,rfl,_⟩:=id hT;have HT:=S hT;clear hT hO;have d260:=hs3.c260;have hlt:=hs3.lt;have hwA:=gA.size;by_cases hm:1200<l.length
    ·have HM:=S hm;have hm1:decide ((1200:Int)<l.length)=true:=by simp;omega
     clear hm;go_wp2;exact bZ (v:= .tuple #[.slice none 0 0,.int .i64 0,.int .i64 3]) (by simp[results,results156,go_sem]) rfl ⟨gB,by rw[if_neg HP.1,HQ.1];show ite _ _ _;rw[if_pos HM.1]⟩
    ·have HM:=S hm;have hm1:decide ((1200:Int)<l.length)=false:=by simp;omega
     clear hm;go_wp2;refine bZ (v:= .tuple #[.slice a l.length cap,.int .i64 l.length,.int .i64 0]) (by simp[results,results156,go_sem]) rfl ⟨gB,?_⟩;rw[if_neg HP.1,HQ.1];show ite _ _ _;rw[if_neg HM.1];exact⟨_,rfl,TRow.mono HT.1 λk hk _=>by simp at hk ⊢;omega⟩
structure As(t:Tok):Prop where
 short:t.text.length<=4000
 num:t.kind=1->1<=t.text.length/\t.text.length<=15/\t.text.all AO=true
 word:t.kind=0->(∃c r,t.text=c::r/\AO c=false)/\t.text.all DT=true
def XM(b:UInt8):cls 2 b=AO b:=by
 rw[Bool.eq_iff_iff];simp only[cls,AO,beq_iff_eq,Bool.and_eq_true,decide_eq_true_eq];rcases Jv b.toNat with⟨h2,h3⟩| ⟨h2,h3⟩| ⟨h2,h3⟩| ⟨h2,h3⟩| ⟨h2,h3⟩<;>rw[h2]<;>constructor<;>intro h<;>first|omega| (exfalso;omega)
def M3(b:UInt8)(h:Bm b=true):DT (Lib.upperB b)=true/\(cls 1 b=true->AO (Lib.upperB b)=false):=by
 have hall:∀n:Fin 256,Bm (UInt8.ofNat n.val)=true->DT (Lib.upperB (UInt8.ofNat n.val))=true/\(cls 1 (UInt8.ofNat n.val)=true->AO (Lib.upperB (UInt8.ofNat n.val))=false):=by decide+kernel
 have e:UInt8.ofNat b.toNat=b:=by simp
 have:=hall ⟨b.toNat,b.toNat_lt⟩;simp only[e]at this;exact this h
def Kg:(A5 s i j).length<=s.length:=by simp[A5];omega
def UO(hi:i<s.length)(hs:s.length<=4000){l:Bool}(h:BP s i= .tok t j l):As t:=by
 unfold BP at h;split at h
 ·rename_i h1;split at h
  ·cases h
  ·cases h;have hge:i+1<=Aq s Bm i:=by rw[Cy hi (by simp[Bm,h1])];exact BG _ _ _
   have hsl:A5 s i (Aq s Bm i)=bAt s i::A5 s (i+1) (Aq s Bm i):=LM (by omega) (CJ (by omega));refine⟨by simp only[Lib.toUpperA,List.length_map];exact nT Kg hs,by simp,λ_=>⟨⟨Lib.upperB (bAt s i),Lib.toUpperA (A5 s (i+1) (Aq s Bm i)),by simp[hsl,Lib.toUpperA],(M3 _ (by simp[Bm,h1])).2 h1⟩,?_⟩⟩;rw[List.all_eq_true];intro x hx;obtain⟨y,hy,rfl⟩:=List.mem_map.1 hx;exact(M3 y (Kh (by omega) y hy)).1
 ·split at h
  ·rename_i h1;split at h
   ·cases h
   ·cases h;have hge:i+1<=Aq s (cls 2) i:=by rw[Cy hi h1];exact BG _ _ _
    have hle:Aq s (cls 2) i<=s.length:=CJ (by omega);refine⟨nT Kg hs,λ_=>⟨?_,?_,?_⟩,by simp⟩
    ·simp only[EZ (by omega:i<=Aq s (cls 2) i) hle];omega
    ·simp only[EZ (by omega:i<=Aq s (cls 2) i) hle];omega
    ·rw[List.all_eq_true];intro x hx;rw[<-XM];exact Kh (by omega) x hx
  ·split at h
   ·unfold EJ at h;simp only[]at h;split at h
    ·split at h
     ·cases h
     ·cases h;exact⟨nT Kg hs,by simp,by simp⟩
    ·cases h
   ·cases hd:C0 (s.drop i)with
    | some p=>
      obtain⟨d,n⟩:=p;rw[hd]at h;cases h;refine⟨?_,by simp,by simp⟩;unfold C0 at hd;split at hd
      ·cases hd;simp
      ·split at hd
       ·split at hd
        ·cases hd;simp[El,A5];omega
        ·cases hd
       ·cases hd
    | none=>
      rw[hd]at h;cases hs2:EP s i with
      |none=>rw[hs2]at h;cases h
      | some w=>
        rw[hs2]at h;cases h;have:=JS (MS hs2).1;exact⟨by simp;omega,by simp,by simp⟩
def M6(i:Nat):As ⟨5,i,[]⟩:=⟨by simp,by simp,by simp⟩
def SR(hs:s.length<=4000){l:Bool}(h:Cw s i line= .tok t j l):As t:=by
 unfold Cw at h;split at h
 ·split at h
  ·cases h;exact M6 i
  ·cases h
 ·split at h
  ·split at h
   ·cases h;exact M6 i
   ·cases h
  ·split at h
   ·cases h
   ·split at h
    ·split at h<;>cases h
    ·split at h
     ·split at h
      ·split at h<;>cases h
      ·cases h
     ·exact UO (by omega) hs h
def Oh(hs:s.length<=4000):∀n i line ts,CB s n i line= .ok ts->∀t∈ts,As t:=by
 intro n;induction n with
 |zero=>intro i line ts h;cases h
 | succ n ih=>
   intro i line ts h;rw[CB]at h;cases hq:Cw s i line with
   | tok t j l=>
     rw[hq]at h;simp only at h;cases hr:CB s n j l with
     | ok ts'=>
       rw[hr]at h;cases h;intro t' ht';rcases List.mem_cons.1 ht' with rfl|ht'
       ·exact SR hs hq
       ·exact ih j l ts' hr t' ht'
     |bad k=>rw[hr]at h;cases h
     |out=>rw[hr]at h;cases h
   |again j l=>rw[hq]at h;exact ih j l ts h
   |stop=>rw[hq]at h;cases h;simp
   |bad k=>rw[hq]at h;cases h
def IN(h:∀t∈ts,As t)(i:Nat):As (Ab ts i):=by
 unfold Ab;cases hi:ts[i]? with
 |none=>exact⟨by simp,by simp,by simp⟩
 |some t=>exact h t (List.mem_of_getElem? hi)
def WE:∀(s:Bs)(a:Nat),s.all AO=true->∃n:Nat,Lib.decFrom a s=some n/\(n:Int)=s.foldl (λn b=>10*n+((b.toNat:Int)-48)) (a:Int):=by
 intro s;induction s with
 |nil=>intro a _;exact⟨a,rfl,rfl⟩
 | cons b r ih=>
   intro a h;simp only[List.all_cons,Bool.and_eq_true,AO,decide_eq_true_eq]at h;obtain⟨n,h1,h2⟩:=ih (a*10+(b.toNat-48)) h.2;refine⟨n,?_,?_⟩
   ·rw[Lib.decFrom,Lib.digitVal,if_pos h.1];exact h1
   ·rw[List.foldl_cons,h2];congr 1;omega
def Wl(s:Bs)(h1:1<=s.length)(hd:s.all AO=true):Lib.atoi s=some (AA s):=by
 cases s with
 |nil=>simp at h1
 | cons b r=>
   obtain⟨n,h2,h3⟩:=WE (b::r) 0 hd;simp only[List.all_cons,Bool.and_eq_true,AO,decide_eq_true_eq]at hd;have e45:(b==45)=false:=by simp;rintro rfl;simp at hd
   have e43:(b==43)=false:=by simp;rintro rfl;simp at hd
   have e:Lib.decNat (b::r)=some n:=h2;simp only[Lib.atoi,e45,e43,e,Bool.false_eq_true,if_false,Option.map_some];rw[h3];rfl
def AE(s:Bs):Int:=(C6 s).1
def SK(h:∀t∈ts,As t):Ee AE ts:=by
 refine⟨λi=>(IN h i).short,λi hi=>?_,λi _ w=>?_⟩
 ·have:=(IN h i).num hi;exact⟨by omega,Wl _ this.1 this.2.2⟩
 ·refine(LP (Ab ts i).text (by have:=(IN h i).short;omega) w).mono ?_;rintro e w' ⟨rfl,g⟩;exact⟨⟨_,rfl⟩,g⟩
def QB(hs:s.length<=4000)(h:Fw s= .ok ts):Ee AE ts:=SK (Oh hs _ _ _ _ h)
def Fo.nodes:Fo->Nat
 | .nil=>0
 | .cons _ kids next=>1+kids.nodes+next.nodes
def Fo.levels:Fo->Nat
 | .nil=>0
 | .cons _ kids next=>max (1+kids.levels) next.levels
def Ex.nodes(x:Ex):Nat:=1+x.kids.nodes
def Ex.levels(x:Ex):Nat:=1+x.kids.levels
def Fo.len_nodes:∀f:Fo,f.len<=f.nodes/\f.levels<=f.nodes:=by
 intro f;induction f with
 |nil=>simp[Fo.len,Fo.nodes,Fo.levels]
 |cons h kids next ih1 ih2=>simp only[Fo.len,Fo.nodes,Fo.levels];omega
abbrev szV(n m:Int):Value:= .agg #[.int .i64 n,.int .i64 m]
def JT(a b c d:Nat)(ha:a+c<=1000000000)(hb:b<=1000000000)(hd:d<=1000000000)(w:World):
 Calls Tryz.prog 167 #[szV a b,szV c d] w (ρ w (szV ((a+c:Nat):Int) ((max b (d+1):Nat):Int))):=by
 have e1:((a+c:Nat):Int)=(a:Int)+c:=by push_cast;rfl
 have e2:((max b (d+1):Nat):Int)=max (b:Int) ((d:Int)+1):=by omega
 rw[e1,e2];clear e1 e2;go_enter func167,ntmps167;go_wp2;exact bZ (v:=szV ((a:Int)+c) (max (b:Int) ((d:Int)+1))) (by simp[results,results167,go_sem]) rfl ⟨rfl,(Ac (Ac (Ac (Aa _ _) _) _) _)⟩
def Lw(a b c d:Nat)(ha:a+c<=1000000000)(hb:b<=1000000000)(hd:d<=1000000000)(w:World):
 Calls Tryz.prog 85 #[szV a b,szV c d] w (ρ w (szV ((a+c:Nat):Int) ((max b d:Nat):Int))):=by
 have e1:((a+c:Nat):Int)=(a:Int)+c:=by push_cast;rfl
 have e2:((max b d:Nat):Int)=max (b:Int) d:=by omega
 rw[e1,e2];clear e1 e2;go_enter func85,ntmps85;go_wp2;exact bZ (v:=szV ((a:Int)+c) (max (b:Int) d)) (by simp[results,results85,go_sem]) rfl ⟨rfl,(Ac (Ac (Ac (Aa _ _) _) _) _)⟩
def Cp(n m:Nat):Bool:=decide (400<n)||decide (14<m)
def Jx(n m:Nat)(w:World):
 Calls Tryz.prog 58 #[szV n m] w (ρ w (.bool (Cp n m))):=by
 cases h1:decide (400<n)with
 | true=>
   have HM:=S (show Cp n m=true by unfold Cp;rw[h1];rfl);have h2:decide ((400:Int)<n)=true:=by simp at h1 ⊢;omega
   clear h1;go_enter func58,ntmps58;go_wp2;go_ret;exact⟨by rw[HM.1];rfl,(Ac (Aa _ _) _)⟩
 | false=>
   have HM:=S (show Cp n m=decide ((14:Int)<m)by unfold Cp;rw[h1,Bool.false_or,decide_eq_decide];omega);have h2:decide ((400:Int)<n)=false:=by simp at h1 ⊢;omega
   clear h1;go_enter func58,ntmps58;go_wp2;go_ret;exact⟨by rw[HM.1];rfl,(Ac (Aa _ _) _)⟩
def Ix{fn:Func}{p:Tmp}(h:fn.results=#[.cell p 96])(tmps:Array Value){a b:Value}(hb:Blk w k [a,b] 96)
 (hp:tmps.getD p undef= .pointer (some ⟨k,0,none⟩)):(results fn tmps).run Tryz.prog w= .ok (.agg #[a,b]) w:=by
 have c0:=hb.cell' 0 rfl;have c1:=hb.cell' 1 rfl;have hp':tmps[p]?.getD undef= .pointer (some ⟨k,0,none⟩):=by simpa using hp
 simp[results,h,hp',go_sem,c0,c1]
def Blk.set2{a0 a1:Value}{t:TypeId}(h:Blk w k [a0,a1] t)(v0 v1:Value):Blk ((w.setCell ⟨k,0,none⟩ v0).setCell ⟨k,1,none⟩ v1) k [v0,v1] t:=
 ((h.set 0 v0).set 1 v1).of_eq rfl rfl
structure SzRel(ok:Nat->Prop)(w:World)(f rest:Fo)(cs:List Value)(k n m:Nat)(wr:World):Prop where
 len:f.len=k+rest.len
 row:RepF ok w rest (cs.drop (k*7))
 nodes:n+rest.nodes=1+f.nodes
 levels:max m (1+rest.levels)=1+f.levels
 pos:1<=m/\1<=n
 acc:Blk wr (w.heap.size+2) [.int .i64 n,.int .i64 m] 96
 res:Blk wr (w.heap.size+1) [.int .i64 0,.int .i64 0] 96
 g:w.grownBy wr none
def SzRel.next{f kids next:Fo}{h':Hd}{cs:List Value}{n m:Nat}(h:SzRel ok w f (.cons h' kids next) cs k n m wr)
 (hacc:Blk w1 (w.heap.size+2) [.int .i64 ((n+(1+kids.nodes):Nat):Int),.int .i64 ((max m (1+kids.levels+1):Nat):Int)] 96) (hres:Blk w1 (w.heap.size+1) [.int .i64 0,.int .i64 0] 96) (g:w.grownBy w1 none):
 SzRel ok w f next cs (k+1) (n+(1+kids.nodes)) (max m (1+kids.levels+1)) w1:=by
 have h1:=h.len;have h3:=h.nodes;have h4:=h.levels;have h5:=h.pos;simp only[Fo.len,Fo.nodes,Fo.levels]at h1 h3 h4;refine⟨by omega,?_,by omega,by omega,⟨by omega,by omega⟩,hacc,hres,g⟩;obtain⟨pv,lv,kcs,rcs,hcs,_,_,_,hn⟩:=h.row;have e:cs.drop ((k+1)*7)=rcs:=by
  rw[show(k+1)*7=k*7+7 by omega,<-List.drop_drop,hcs];exact List.drop_left' rfl
 rw[e];exact hn
def NE:∀(N:Nat)(f:Fo),f.nodes<N->f.nodes<=1000000->∀(ok:Nat->Prop)(h:Hd)(pa:Option Addr)(pn pc:Nat)(la:Option Addr)(lc:Nat)(w:World),RepL ok w (.slice la f.len lc) f->
 Calls Tryz.prog 158 #[exV h (.slice pa pn pc) (.slice la f.len lc)] w (ρ w (szV ((1+f.nodes:Nat):Int) ((1+f.levels:Nat):Int))):=by
 intro N;induction N with
 |zero=>intro f hN;omega
 | succ N ih=>
   intro f hN hn ok h pa pn pc la lc w hrep;obtain⟨cs,hcells,hrow⟩:=hrep;obtain⟨la',lc',e,h1,h2,h3,h4⟩:=hcells;cases e;have hfl:=f.len_nodes;have hA:SzRel ok w f f cs 0 1 1 (((w.alloc (.cells #[.int .i64 h.op,str h.s,.int .i64 h.vk,.int .i64 h.vn,str h.vs,.slice pa pn pc,.slice la f.len lc] 163 (0,0))).alloc (.cells #[.int .i64 0,.int .i64 0] 96 (0,0))).alloc (.cells #[.int .i64 1,.int .i64 1] 96 (0,0))):=
    ⟨by simp,by simpa using hrow,rfl,by omega,⟨nR _,nR _⟩,(Blk.new _ [.int .i64 1,.int .i64 1] _).of_eq (by simp) rfl,((Blk.new _ [.int .i64 0,.int .i64 0] _).of_eq (by simp) rfl).alloc _,Ac (Ac (gZ w _ none) _) _⟩
   have H4:=S (X h4 ih);clear h4 ih hrow;go_enter func158,ntmps158;go_wp2_with fail;go_loopg [10] f.len (λg v10 wr=>∃rest:Fo,∃k n m:Nat,rest.len=g/\v10= .int .i64 k/\SzRel ok w f rest cs k n m wr)
   case atStart=>exact⟨f,0,1,1,rfl,rfl,hA⟩
   case round=>
    obtain⟨rest,k,n,m,hg,rfl,hr⟩:=hrel;clear hA;have a0:=hr.acc.cell' 0 rfl;have a1:=hr.acc.cell' 1 rfl;have r0:=hr.res.cell' 0 rfl;have r1:=hr.res.cell' 1 rfl;have rf:=λk=>hr.res.frozen k;have af:=λk=>hr.acc.frozen k;have al:=hr.acc.lt;cases rest with
    | nil=>
      have hlen:=hr.len;have hkI:decide (k<f.len)=false:=by simp[Fo.len]at hlen;simp;omega
      have hnm:n=1+f.nodes/\m=1+f.levels:=by
       have h1:=hr.nodes;have h2:=hr.levels;have h3:=hr.pos;simp[Fo.nodes,Fo.levels]at h1 h2;omega
      have HN:=S hnm;clear hnm hlen hg;go_wp2;refine bZ (Ix rfl _ (hr.res.set2 _ _) rfl) rfl ⟨by rw[HN.1.1,HN.1.2],?_⟩;have g:=hr.g;exact(Af (Af (by assumption) _ _ (.inr (by simp<;>omega))) _ _ (.inr (by simp<;>omega)))
    | cons h' kids next=>
      simp only[Fo.len]at hg;subst hg;have hlen:=hr.len;simp only[Fo.len]at hlen;have hkI:decide (k<f.len)=true:=by simp;omega
      obtain⟨pv',lv',kcs,rcs,hcs,hp,hl,hkids,hnext⟩:=hr.row;obtain⟨pa',pc',rfl,_⟩:=hp;have hL:RepL ok w lv' kids:=⟨kcs,hl,hkids⟩;obtain⟨la2,lc2,rfl,_⟩:=hl;have hat:∀i u,(hdC h' (.slice pa' h'.p.length pc') (.slice la2 kids.len lc2))[i]? =some u->∃g o,la=some ⟨g,o,none⟩/\ok g/\w.cell? ⟨g,o+(k*7+i),none⟩=some u:=by
       intro i u hu;refine H4.1.1 (k*7+i) u ?_;have:cs[k*7+i]? =(cs.drop (k*7))[i]?:=by simp
       rw[this,hcs,List.getElem?_append_left (by have:=(List.getElem?_eq_some_iff.1 hu).1;exact this)];exact hu
      obtain⟨g,o,rfl,hok,y0⟩:=hat 0 _ rfl;obtain⟨_,_,e1,_,y1⟩:=hat 1 _ rfl;cases e1;obtain⟨_,_,e1,_,y2⟩:=hat 2 _ rfl;cases e1;obtain⟨_,_,e1,_,y3⟩:=hat 3 _ rfl;cases e1;obtain⟨_,_,e1,_,y4⟩:=hat 4 _ rfl;cases e1;obtain⟨_,_,e1,_,y5⟩:=hat 5 _ rfl;cases e1;obtain⟨_,_,e1,_,y6⟩:=hat 6 _ rfl;cases e1;have hgl:=bY w _ y0;have z0:=Ad hr.g y0;have z1:=Ad hr.g y1;have z2:=Ad hr.g y2;have z3:=Ad hr.g y3;have z4:=Ad hr.g y4;have z5:=Ad hr.g y5;have z6:=Ad hr.g y6;simp only[Nat.add_zero,<-Nat.add_assoc]at z0 z1 z2 z3 z4 z5 z6;clear y0 y1 y2 y3 y4 y5 y6 hat;have hno:=hr.nodes;simp only[Fo.nodes]at hno;have hmo:=hr.levels;simp only[Fo.levels]at hmo;have hkl:=kids.len_nodes;have hpo:=hr.pos;have hk0:kids.nodes<N:=by omega
      have HL:=S (fun(W:World)(gW:wr.grownBy W none)=>H4.1.2 kids hk0 (by omega) ok h' pa' h'.p.length pc' la2 lc2 W (hL.gb (Z hr.g gW) (by simp)));have HI:=S (fun(W:World)=>JT n m (1+kids.nodes) (1+kids.levels) (by omega) (by omega) (by omega) W);have HR:=S hr;have hkl2:k+1<=f.len:=by omega
      clear hL hnext hkids hcs hr hno hmo hlen hpo;have hy:=Blk.new wr (hdC h' (.slice pa' h'.p.length pc') (.slice la2 kids.len lc2)) 163;have hac:=HR.1.acc.alloc (.cells (hdC h' (.slice pa' h'.p.length pc') (.slice la2 kids.len lc2)).toArray 163 (0,0));have HY:=S (X hy hac);clear hy hac;have hws:=HR.1.g.size;go_wp2_with fail;go_region_with(first
       | (go_at_call 158;refine(HL.1 _ ?gg).mono ?_;(case gg=>exact(by repeat(first| (with_reducible exact Aa _ _)| (with_reducible refine Ac ?_ _)| (with_reducible refine Ae ?_))));rintro e w5 ⟨rfl,g5⟩;(have y5:=(HY.1.1.drewN 1).gb g5 (by simp));(have ac5:=(HY.1.2.drewN 1).gb g5 (by simp));(have b0:=y5.cell 0);(have b1:=y5.cell 1);(have b2:=y5.cell 2);(have b3:=y5.cell 3);(have b4:=y5.cell 4);(have b5:=y5.cell 5);(have b6:=y5.cell 6);(have d0:=ac5.cell 0);(have d1:=ac5.cell 1);(have df:=λk=>ac5.frozen k);(have dl:=ac5.lt);(simp only[hdC,List.getElem?_cons_zero,List.getElem?_cons_succ]at b0 b1 b2 b3 b4 b5 b6 d0 d1))
       | (go_at_call 167;refine mR (HI.1 _) λw6 g6=>?_;(have ac6:=ac5.gb g6 (by simp));(have m0:=ac6.cell' 0 rfl);(have m1:=ac6.cell' 1 rfl);(have mf:=λk=>ac6.frozen k);(have ml:=ac6.lt)))
      all_goals
       have hre:=((((HR.1.res.alloc (.cells (hdC h' (.slice pa' h'.p.length pc') (.slice la2 kids.len lc2)).toArray 163 (0,0))).drewN 1).gb g5 (by simp)).gb g6 (by simp));have gg:=Ag (Ag (Ae (Ac HR.1.g (.cells (hdC h' (.slice pa' h'.p.length pc') (.slice la2 kids.len lc2)).toArray 163 (0,0)))) g5) g6;have HX:=S (X ac6 (X hre gg));clear hre gg;go_wp2;go_roundg next.len
       case measure=>omega
       case rel=>
        refine⟨next,k+1,n+(1+kids.nodes),max m (1+kids.levels+1),rfl,by simp,HR.1.next ((HX.1.1.set2 _ _).of_eq (by omega) (by push_cast;rfl)) ((HX.1.2.1.set_other _ _ (by simp)).set_other _ _ (by simp)) (Af (Af HX.1.2.2 _ _ (.inr (by simp;omega))) _ _ (.inr (by simp;omega)))⟩
def Mu{x:Ex}(h:VE ok w v x)(hn:x.kids.nodes<=1000000):
 Calls Tryz.prog 158 #[v] w (ρ w (szV (x.nodes:Int) (x.levels:Int))):=by
 obtain⟨pa,pc,la,lc,rfl,_,hl⟩:=h;exact NE (x.kids.nodes+1) x.kids (by omega) hn ok x.h pa x.h.p.length pc la lc w hl
def Br(l:List Pd)(i:Nat):Bs:=((l[i]?).map Pd.name).getD []
def EK(l:List Pd):Bool:=(List.range l.length).any λi=>(List.range i).any λk=>Br l i==Br l k
def WZ{l:List Pd}(h:∀i,i<l.length->∀k,k<i->Br l i≠Br l k):EK l=false:=by
 rw[Bool.eq_false_iff];intro e;simp only[EK,List.any_eq_true,List.mem_range,beq_iff_eq]at e;obtain⟨i,hi,k,hk,e⟩:=e;exact h i hi k hk e
def UT{l:List Pd}(hi:i<l.length)(hk:k<i)(e:Br l i=Br l k):EK l=true:=by
 simp only[EK,List.any_eq_true,List.mem_range,beq_iff_eq];exact⟨i,hi,k,hk,e⟩
section
variable {d:Wd}
structure YB(d:Wd)(day:Bs->Int):Prop extends WdOk d day where
 fit:∀n:Int,0<=n->(d.num n).length<=15->n<=999999999999999
end
open Go.Lib
def Nj(s:Bs)(b:UInt8):AA (s++[b])=10*AA s+((b.toNat:Int)-48):=by
 unfold AA;rw[List.foldl_append];rfl
def Gz(h:k<10):(UInt8.ofNat (48+k)).toNat=48+k:=by
 rw[UInt8.toNat_ofNat'];omega
def IK(u:Nat):AA (decDigits u)=u:=by
 induction u using Nat.strongRecOn with
 | ind u ih=>
   rw[decDigits];split
   ·rename_i h;show AA ([]++[UInt8.ofNat (48+u)])=u;rw[Nj,Gz h];show 10*(0:Int)+_=_;omega
   ·rename_i h;rw[Nj,ih (u/10) (by omega),Gz (by omega)];omega
def Hf(u:Nat):(decDigits u).all AO=true:=by
 induction u using Nat.strongRecOn with
 | ind u ih=>
   rw[decDigits];split
   ·rename_i h;simp only[List.all_cons,List.all_nil,Bool.and_true,AO,Gz h,Bool.and_eq_true,decide_eq_true_eq];omega
   ·rename_i h;rw[List.all_append,ih (u/10) (by omega)];simp only[List.all_cons,List.all_nil,Bool.and_true,Bool.true_and,AO,Gz (show u%10<10 by omega),Bool.and_eq_true,decide_eq_true_eq];omega
def JJ:∀k,1<=k->u<10 ^ k->nDigits u<=k:=by
 induction u using Nat.strongRecOn with
 | ind u ih=>
   intro k h1 h2;by_cases h:u<10
   ·rw[nDigits_small h];omega
   ·rw[nDigits_big h];obtain⟨k,rfl⟩:∃q,k=q+1:=⟨k-1,by omega⟩;have hk:1<=k:=by
     rcases Nat.eq_zero_or_pos k with rfl|hp
     ·simp at h2;omega
     ·exact hp
    have:=ih (u/10) (by omega) k hk (by rw[Nat.pow_succ]at h2;omega);omega
def Mq(u:Nat):u<10 ^ nDigits u:=by
 induction u using Nat.strongRecOn with
 | ind u ih=>
   by_cases h:u<10
   ·rw[nDigits_small h];omega
   ·rw[nDigits_big h,Nat.pow_succ];have:=ih (u/10) (by omega);omega
def N7(n:Int)(h:0<=n):itoa n=decDigits n.toNat:=by
 unfold itoa;rw[if_neg (by omega)]
def BX(n:Int):Nat->Nat
 | 0=>1
 |k+1=>if Av ((k:Int)+2)<n then k+2 else BX n k
def Dn(y n:Int):Nat->Nat
 | 0=>1
 |k+1=>if Av y+Au y (k+1)<n then k+2 else Dn y n k
def Xd(n:Int)(h1:1<=n):∀k:Nat,k<=9998->n<=Av ((k:Int)+2)->1<=BX n k/\BX n k<=k+1/\Av (BX n k)<n/\n<=Av ((BX n k:Int)+1):=by
 intro k;induction k with
 | zero=>
   intro _ h2;refine⟨nR _,nR _,?_,?_⟩
   ·show Av 1<n;have:Av 1=0:=by decide
    omega
   ·exact h2
 | succ k ih=>
   intro hk h2;unfold BX;split
   ·rename_i h;refine⟨by omega,by omega,?_,?_⟩
    ·have e:((k+2:Nat):Int)=(k:Int)+2:=by omega
     rw[e];exact h
    ·have e:((k+2:Nat):Int)+1=((k+1:Nat):Int)+2:=by omega
     rw[e];exact h2
   ·rename_i h;obtain⟨a,b,c,d⟩:=ih (by omega) (by omega);exact⟨a,by omega,c,d⟩
def YF(y n:Int)(h1:Av y<n):∀k:Nat,k<=11->n<=Av y+Au y (k+1)->1<=Dn y n k/\Dn y n k<=k+1/\Av y+Au y (Dn y n k-1)<n/\n<=Av y+Au y (Dn y n k):=by
 intro k;induction k with
 | zero=>
   intro _ h2;exact⟨nR _,nR _,by show Av y+0<n;omega,h2⟩
 | succ k ih=>
   intro hk h2;unfold Dn;split
   ·rename_i h;exact⟨by omega,by omega,h,h2⟩
   ·rename_i h;obtain⟨a,b,c,d⟩:=ih (by omega) (by omega);exact⟨a,by omega,c,d⟩
def Xe(y:Int)(h0:1<=y):Au y 12=if Ew y then 366 else 365:=by
 simp only[Au,AT];cases Ew y<;>rfl
def JX(y:Int)(h0:1<=y):Av (y+1)=Av y+Au y 12:=by
 rw[Xe y h0];unfold Av Ew;rw[show y+1-1=y by omega];have e1:∀b:Int,0<b->y.tdiv b=y/b:=λb hb=>Int.tdiv_eq_ediv_of_nonneg (by omega);have e2:∀b:Int,0<b->(y-1).tdiv b=(y-1)/b:=λb hb=>Int.tdiv_eq_ediv_of_nonneg (by omega);have e3:∀b:Int,0<b->y.tmod b=y%b:=λb hb=>Int.tmod_eq_emod_of_nonneg (by omega);rw[e1 4 (by omega),e1 100 (by omega),e1 400 (by omega),e2 4 (by omega),e2 100 (by omega),e2 400 (by omega),e3 4 (by omega),e3 100 (by omega),e3 400 (by omega)];simp only[Bool.and_eq_true,Bool.or_eq_true,beq_iff_eq,bne_iff_ne,ne_eq];split<;>omega
def AU(k:Nat)(u:Nat):Bs:=List.replicate (k-(decDigits u).length) 48++decDigits u
def Kz(k u:Nat):AA (AU k u)=u:=by
 unfold AU;have h:∀(m:Nat)(s:Bs),AA (List.replicate m 48++s)=AA s:=by
  intro m s;induction m with
  |zero=>rfl
  | succ m ih=>
    rw[List.replicate_succ];exact ih
 rw[h,IK]
def ED(hk:1<=k)(h:u<10 ^ k):(AU k u).length=k:=by
 unfold AU;rw[lA,List.length_replicate,decDigits_length];have:=JJ k hk h;omega
def K2(k u:Nat):(AU k u).all AO=true:=by
 unfold AU;rw[List.all_append,Hf,Bool.and_true,List.all_eq_true];intro b hb;rw[List.eq_of_mem_replicate hb];decide
def Be(n:Int):Nat×Nat×Nat:=
 let y:=BX n 9998
 let m:=Dn y n 11
 (y,m,(n-Av y-Au y (m-1)).toNat)
def Ki(h0:0<n)(h1:n<=3652059):1<=(Be n).1/\(Be n).1<=9999/\1<=(Be n).2.1/\(Be n).2.1<=12/\1<=(Be n).2.2/\((Be n).2.2:Int)<=AT (Be n).1 (Be n).2.1/\
 Av (Be n).1+Au (Be n).1 ((Be n).2.1-1)+(Be n).2.2=n:=by
 have hY:n<=Av (((9998:Nat):Int)+2):=by
  have:Av (((9998:Nat):Int)+2)=3652059:=by decide
  omega
 obtain⟨a,b,c,d⟩:=Xd n (by omega) 9998 (nR _) hY;rw[JX _ (by omega)]at d;obtain⟨a2,b2,c2,d2⟩:=YF (BX n 9998) n c 11 (nR _) d;have e:Au (BX n 9998) (Dn (BX n 9998) n 11)=Au (BX n 9998) (Dn (BX n 9998) n 11-1)+AT (BX n 9998) (Dn (BX n 9998) n 11):=by
  obtain⟨m,hm⟩:∃q,Dn (BX n 9998) n 11=q+1:=⟨Dn (BX n 9998) n 11-1,by omega⟩;rw[hm];show Au _ m+AT _ ((m:Int)+1)=_;rw[show m+1-1=m by omega];congr 2
 have hs:Be n=(BX n 9998,Dn (BX n 9998) n 11,(n-Av (BX n 9998)-Au (BX n 9998) (Dn (BX n 9998) n 11-1)).toNat):=rfl;rw[hs];simp only;refine⟨a,b,a2,b2,by omega,?_,by omega⟩;omega
def Dv(n:Int):Bs:=AU 4 (Be n).1++AU 2 (Be n).2.1++AU 2 (Be n).2.2
def NB(y m:Int):AT y m<=31:=by
 unfold AT;split
 ·omega
 ·have h : ∀ k : Nat, ([31, 28, 31, 30, 31, 30, 31, 31, 30, 31, 30, 31] : List Int).getD k 0 <= 31 := by
   intro k;match k with
   | 0| 1| 2| 3| 4| 5| 6| 7| 8| 9| 10| 11=>decide
   |k+12=>simp
  exact h _
def Tw(h0:0<n)(h1:n<=3652059):AE (Dv n)=n:=by
 obtain⟨a,b,c,d,e,f,g⟩:=Ki h0 h1;have hm:=NB (Be n).1 (Be n).2.1;unfold Dv;generalize(Be n).1=y at*;generalize(Be n).2.1=m at*;generalize(Be n).2.2=q at*;have l1:=ED (k:=4) (u:=y) (by omega) (by omega);have l2:=ED (k:=2) (u:=m) (by omega) (by omega);have l3:=ED (k:=2) (u:=q) (by omega) (by omega);have e1:(AU 4 y++AU 2 m++AU 2 q).take 4=AU 4 y:=by
  rw[List.append_assoc,List.take_append_of_le_length (by omega),List.take_of_length_le (by omega)]
 have e2:((AU 4 y++AU 2 m++AU 2 q).drop 4).take 2=AU 2 m:=by
  rw[List.append_assoc,List.drop_left' l1,List.take_append_of_le_length (by omega),List.take_of_length_le (by omega)]
 have e3:(AU 4 y++AU 2 m++AU 2 q).drop 6=AU 2 q:=List.drop_left' (by rw[lA];omega);have hd:(AU 4 y++AU 2 m++AU 2 q).all AO=true:=by rw[List.all_append,List.all_append,K2,K2,K2];rfl
 have hl:(AU 4 y++AU 2 m++AU 2 q).length=8:=by rw[lA,lA];omega
 unfold AE C6;rw[if_neg (by intro h;rw[h]at hd;exact absurd hd (by decide)),if_neg (by rw[hl,hd];simp),e1,e2,e3,Kz,Kz,Kz];unfold BT;rw[if_neg (by simp[Fu];omega)];show Av (y:Int)+(q:Int)+Au (y:Int) ((m:Int)-1).toNat=n;rw[show((m:Int)-1).toNat=m-1 by omega];omega
def wdM:Wd:=⟨itoa,Dv⟩
def wdM_ok:YB wdM AE where
 nums n h0 h1:=by
  obtain⟨u,rfl⟩:∃u:Nat,n=u:=⟨n.toNat,by omega⟩;show(itoa (u:Int)).length<=15/\AA (itoa (u:Int))=u;rw[N7 _ h0,show(u:Int).toNat=u from rfl,decDigits_length,IK];exact⟨JJ 15 (by omega) (by omega),rfl⟩
 days n h0 h1:=Tw h0 h1;zero:=by decide
 fit n h0 hl:=by
  obtain⟨u,rfl⟩:∃u:Nat,n=u:=⟨n.toNat,by omega⟩;have hl':(itoa (u:Int)).length<=15:=hl;rw[N7 _ h0,show(u:Int).toNat=u from rfl,decDigits_length]at hl';have h1:=Mq u;have h2:(10:Nat) ^ nDigits u<=10 ^ 15:=Nat.pow_le_pow_right (by omega) hl';omega
section
variable {P:Program}
def O8(hgd:o.guard=none)(sl x:Operand)(t u:TypeId)
 (ho:o.op= .call {callee:= .builtin .append,args:=#[sl,x],argTypes:=#[t,u]})
 (base:Nat) (e:TypeId) (i:TypeInfo) (ht:P.underlying t=some (.slice e)) (hu:P.underlying u=some .string) (hi:P.info? e=some i) (hz:i.zero=some (.int .u8 0))
 (hsize:i.size=1) (hby:i.bytes=1)
 (v:Value) (n:Nat) (xs:List Value) (hs:a.eval sl=v) (hown:w.ownsRow base e 1 v n xs) (s:ByteArray) (hx:a.eval x= .string s)
 (h63:n+s.size<=maxLen) (hbytes:n+s.size<=140737488355328) (hbase:base<=w.heap.size)
 (h:∀v' w',w'.ownsRow base e 1 v' (n+s.size) (xs++Lib.strCells s)->w.grownBy w' v.ownBlock->K (a.put o.dst v') w'):
 if Region.wanted o (yielded ops a.tmps)=true then Oper.wp P o a w K Q else E:=by
 have hw:Region.wanted o (yielded ops a.tmps)=true:=by simp[Region.wanted,hgd]
 rw[if_pos hw];obtain⟨v',w',hr,h2,h3,_⟩:=Lib.run_append_own_string (P:=P) w base t u o.type e i ht hu hi hz hsize hby v n xs hown s h63 hbytes hbase;unfold Oper.wp execOp;simp only[ho,resolve,invoke,builtin,Sem.run_bind,Sem.run_pure,Result.andThen_ok,List.map_toArray,List.map_cons,List.map_nil,hs,hx,hr];exact h v' w' h2 h3
end
def OwnBs(w:World)(B:Nat)(v:Value)(l:Bs):Prop:=w.ownsRow B 5 1 v l.length (AC l)
def K0{l:Bs}(h:w.ownsRow B 5 1 v (l.length+(⟨s.toArray⟩:ByteArray).size) (AC l++Lib.strCells ⟨s.toArray⟩)):OwnBs w B v (l++s):=by
 have e1:(⟨s.toArray⟩:ByteArray).size=s.length:=by simp[ByteArray.size]
 have e2:Lib.strCells ⟨s.toArray⟩=AC s:=by simp[Lib.strCells,AC]
 rw[e1,e2]at h;unfold OwnBs;rw[lA,show AC (l++s)=AC l++AC s by simp[AC]];exact h
def NF(w:World)(B:Nat):OwnBs w B (.slice none 0 0) []:=EC _ _ _ _
def OwnBs.gb{l:Bs}(h:OwnBs w B v l)(g:w.grownBy w1 none):OwnBs w1 B v l:=Cr h g (by simp)
def OwnBs.fr{l:Bs}(h:OwnBs w w0.heap.size v l)(g0:w0.grownBy w none)(g:w.grownBy w1 v.ownBlock):w0.grownBy w1 none:=Dw g0 g λq hq=>(World.ownsRow.lt h q hq).1
def K1{l:Bs}(c:UInt8)(h:w.ownsRow B 5 1 v (l.length+1) (AC l++[.int .u8 c.toNat])):OwnBs w B v (l++[c]):=by
 unfold OwnBs;rw[lA,show AC (l++[c])=AC l++[.int .u8 c.toNat]by simp[AC]];exact h
def N5{W1:World}{H:Nat}{c:Cd}(h:(W.cell? ⟨H,0,none⟩=some (.int .i64 c.op)/\W.cell? ⟨H,1,none⟩=some (.int .i64 c.a)/\W.cell? ⟨H,2,none⟩=some (.int .i64 c.b)/\W.cell? ⟨H,3,none⟩=some (str c.s))/\w0.grownBy W none){r:Option Nat}(g:W.grownBy W1 r)(hr:some H≠r)(ho:∀k,r=some k->w0.heap.size<=k):
 (W1.cell? ⟨H,0,none⟩=some (.int .i64 c.op)/\W1.cell? ⟨H,1,none⟩=some (.int .i64 c.a)/\W1.cell? ⟨H,2,none⟩=some (.int .i64 c.b)/\W1.cell? ⟨H,3,none⟩=some (str c.s))/\w0.grownBy W1 none:=
 ⟨⟨B3 g h.1.1 hr,B3 g h.1.2.1 hr,B3 g h.1.2.2.1 hr,B3 g h.1.2.2.2 hr⟩,Dw h.2 g ho⟩
def JF(h:A/\w0.grownBy W none)(hp:Pow w0)(hn:Bb n):Calls Tryz.prog 32 #[.int .i64 n] W (ρ W (str (Lib.itoa n))):=FQ (hp.gb h.2) n hn.1 hn.2
def OG{L:Bs}(hgd:o.guard=none)(sl x:Operand)
 (ho:o.op= .call {callee:= .builtin .append,args:=#[sl,x],argTypes:=#[84,9]}) (hS:A/\w0.grownBy W none) (hO:OwnBs wr w0.heap.size v L) (gc:wr.grownBy W none)
 (hs:a.eval sl=v) (hx:a.eval x= .string ⟨s.toArray⟩) (hlen:L.length+s.length<=100000000000)
 (h:∀v' w',OwnBs w' w0.heap.size v' (L++s)->W.grownBy w' v.ownBlock->K (a.put o.dst v') w'):if Region.wanted o (yielded ops a.tmps)=true then Oper.wp Tryz.prog o a W K Q else E:=by
 obtain⟨i0,hi0,hz0,hz1,hz2⟩:=info_parts G7;have e1:(⟨s.toArray⟩:ByteArray).size=s.length:=by simp[ByteArray.size]
 exact O8 hgd sl x 84 9 ho w0.heap.size 5 i0 underlying84 underlying9 hi0 hz0 hz1 hz2 v L.length (AC L) hs (hO.gb gc) ⟨s.toArray⟩ hx (by rw[e1];unfold maxLen;omega) (by rw[e1];omega) hS.2.size λv' w' h1 h2=>h v' w' (K0 h1) h2
def S7{us:List Un}(h:VU ok w v us)(hb:AF us<=100000000)(hw:AN us)(hp:Pow w):
 Calls Tryz.prog 57 #[v] w (ρ w (str (AP us))):=by
 obtain⟨a,cap,rfl,hle,hmx,hat⟩:=h.open;have hlen:us.length<=100000000:=by unfold AF at hb;omega
 obtain⟨i0,HI⟩:=iPz G7;have HA:=S hat;have HP:=S (X hp (X hw hb));clear hat hle hmx h hw hb hp;go_enter func57,ntmps57;go_wp2_with fail;go_loopg [3,4,5,6,7] us.length (λg v3 v4 v5 v6 v7 wr=>∃k:Nat,k+g=us.length/\v4= .int .i64 k/\OwnBs wr w.heap.size v3 (A4 AZ us k)/\w.grownBy wr none)
 case atStart=>exact⟨0,by omega,rfl,NF _ _,Aa _ _⟩
 case round=>
  obtain⟨k,hk,rfl,hO,hG⟩:=hrel;cases gk with
  | zero=>
    have hkl:k=us.length:=by omega
    have hj1:decide (k<us.length)=false:=by simp;omega
    subst hkl;have HO:=S (X hO hG);rcases hO.2 with⟨h1,h2⟩| ⟨g1,cap1,cur1,h1,_⟩
    ·subst h1;have he:AP us=[]:=List.eq_nil_of_length_eq_zero h2;have hnil:(convert 84 9 (.slice none 0 0)).run Tryz.prog wr= .ok (str []) wr:=by
      rw[run_convert_bytes_string wr 84 9 5 none 0 0 underlying84 underlying5 underlying9];simp[Conv.bytesToString];rfl
     clear hO hG h2;go_wp2;go_ret;exact⟨by rw[he];rfl,HO.1.2⟩
    ·subst h1;have hback:=J3 cap1 hO;clear hO hG;go_wp2;go_ret;exact⟨rfl,HO.1.2⟩
  | succ gk=>
    have hkl:k<us.length:=by omega
    have hj1:decide (k<us.length)=true:=by simp;omega
    obtain⟨u,hu⟩:∃u,us[k]? =some u:=⟨_,AQ hkl⟩;obtain⟨g,o,ra,rc,ca,cc,rfl,_,hgl,c0,c1,c2,hrow,hcode⟩:=HA.1 k u hu;have d0:=Ad hG c0;have hL:=Ip HP.1.2.1 k (by omega);have hbb:=HP.1.2.2;have hwu:=HP.1.2.1 u (FJ hu);have huw:=O5 hu;have hwd:wtU u=u.name.length+u.row.length+pfx wtC u.code u.code.length:=rfl;have hnl:u.name.length<=100000000:=by omega
    have hrl:u.row.length<=100000000:=by omega
    have hql:=GA u.name;have hql2:(qtM u.name).length<=300000002:=by omega
    have hcl1:¬(9223372036854775807<5+(qtM u.name).length):=by omega
    have hcdl:u.code.length<=100000000:=by
     have h4:=CT wtC u.code (nR u.code.length);have h5:∀j,j<=u.code.length->j<=pfx wtC u.code j:=by
      intro j;induction j with
      |zero=>intro _;exact nZ _
      |succ j ih=>intro hj;rw[C5 (AQ hj)];have:=ih (by omega);have h6:wtC u.code[j]=3+u.code[j].s.length:=rfl;omega
     have:=h5 _ (nR _);omega
    have HL:=S (X hL (X hbb (X hwu (X huw hwd))));have HC:=S (X c1 c2);have HR:=S (X hrow hcode);have HX:=S (X hO hG);have HU:=S hu;have hgs:=hG.size;clear hL hbb hwu huw hwd hql c0 c1 c2 hrow hcode hO hG;go_wp2_with fail;refine mR (LK u.name (by omega) _) λw2 g2=>?_;have hgs2:=g2.size;have HY:=S (X (HX.1.1.gb g2) (Z HX.1.2 g2));clear g2;go_wp2_with (at_builtin;go_loud(refine Lib.wpList_append_own_string _ rfl _ _ 84 9 rfl w.heap.size 5 i0 underlying84 underlying9 HI.1.1 HI.1.2.1 HI.1.2.2.1 HI.1.2.2.2 u3 (A4 AZ us k).length (AC (A4 AZ us k)) rfl HY.1.1 ⟨(BK u).toArray⟩ rfl (by have:=HL.1.1;have:=HL.1.2.1;have:=DS u;simp[ByteArray.size];unfold maxLen;omega) (by have:=HL.1.1;have:=HL.1.2.1;have:=DS u;simp[ByteArray.size];omega) (by omega) ?_;intro v6 w6 hown hgrow hx6;(have HZ:=S (X (K0 hown) (HY.1.1.fr HY.1.2 hgrow)));clear hown hgrow hx6));have d1:=Ad HZ.1.2 HC.1.1;have hgs3:=HZ.1.2.size;go_wp2_with fail;go_loopg [3,5] u.row.length (λg v3 v5 w2=>∃j:Nat,j+g=u.row.length/\v5= .int .i64 j/\OwnBs w2 w.heap.size v3 (A4 AZ us k++BK u++A4 A1 u.row j)/\w.grownBy w2 none)
    case atStart=>exact⟨0,by omega,rfl,by simpa[A4]using HZ.1.1,HZ.1.2⟩
    case round=>
     obtain⟨j,hj,rfl,hO4,hG4⟩:=hrel;clear HY HZ HX d1 hgs3 hgs2 hgs d0;have d1:=Ad hG4 HC.1.1;have hgs4:=hG4.size;by_cases hjl:j<u.row.length
     ·have hjI:decide (j<u.row.length)=true:=by simpa using hjl
      obtain⟨x,hx⟩:∃x,u.row[j]? =some x:=⟨_,AQ hjl⟩;obtain⟨gr,orr,rfl,_,_,t0⟩:=HR.1.1.int hx;have f0:=Ad hG4 t0;have hx64:=HL.1.2.2.1.1 x (FJ hx);have hi21:=Dk hx64;have hcl2:¬(9223372036854775807<1+(Lib.itoa x).length):=by omega
      have HJ:=S (X hO4 (X hG4 (X hx64 (Gr (f:=A1) hx))));clear t0 hO4 hG4 hx64;go_wp2_with fail;refine mR (FQ (HP.1.1.gb HJ.1.2.1) x HJ.1.2.2.1.1 HJ.1.2.2.1.2) λw5 g5=>?_;have hgs5:=g5.size;have HK:=S (X (HJ.1.1.gb g5) (Z HJ.1.2.1 g5));clear g5;go_wp2_with (at_builtin;go_loud(refine Lib.wpList_append_own_string _ rfl _ _ 84 9 rfl w.heap.size 5 i0 underlying84 underlying9 HI.1.1 HI.1.2.1 HI.1.2.2.1 HI.1.2.2.2 _ (A4 AZ us k++BK u++A4 A1 u.row j).length (AC (A4 AZ us k++BK u++A4 A1 u.row j)) rfl HK.1.1 ⟨(A1 x).toArray⟩ rfl (by have h1:=HL.1.1;have h2:=HL.1.2.1;have h3:=E9 HL.1.2.2.1 j (by omega);have h4:=DS u;simp only[A1,ByteArray.size,List.size_toArray,lA,List.length_cons];unfold maxLen;omega) (by have h1:=HL.1.1;have h2:=HL.1.2.1;have h3:=E9 HL.1.2.2.1 j (by omega);have h4:=DS u;simp only[A1,ByteArray.size,List.size_toArray,lA,List.length_cons];omega) (by omega) ?_;intro v6 w6 hown hgrow hx6;(have HZ:=S (X (K0 hown) (HK.1.1.fr HK.1.2 hgrow)));clear hown hgrow hx6));go_roundg (u.row.length-(j+1))
      case measure=>omega
      case rel=>exact⟨j+1,by omega,by go_num,by rw[HJ.1.2.2.2,<-List.append_assoc];exact HZ.1.1,HZ.1.2⟩
     ·have hjI:decide (j<u.row.length)=false:=by simpa using hjl
      have hje:j=u.row.length:=by omega
      subst hje;have HJ:=S (X hO4 hG4);clear hO4 hG4;go_wp2_with (at_builtin;go_loud(refine wpList_append_lies _ rfl _ _ 84 rfl w.heap.size 5 i0 (.int .u8 0) 1 1 underlying84 HI.1.1 HI.1.2.1 HI.1.2.2.1 HI.1.2.2.2 rfl (by decide) _ (A4 AZ us k++BK u++A4 A1 u.row u.row.length).length (AC (A4 AZ us k++BK u++A4 A1 u.row u.row.length)) rfl (HJ.1.1.gb (gZ _ _ none)) ⟨wr.heap.size,0,none⟩ 1 1 [.int .u8 10] rfl rfl (AY _ _ _) (by simp[Value.oneCell']) (by decide) (by have h1:=HL.1.1;have h2:=HL.1.2.1;have h3:=E9 HL.1.2.2.1 u.row.length (nR _);have h4:=DS u;simp only[lA];unfold maxLen;omega) (by have h1:=HL.1.1;have h2:=HL.1.2.1;have h3:=E9 HL.1.2.2.1 u.row.length (nR _);have h4:=DS u;simp only[lA];omega) (by simp;omega) _ rfl ?_;intro g6 cap6 w6 hown hgrow hat6 hlt6;(have HZ:=S (X (K1 10 hown) ((HJ.1.1.gb (gZ _ _ none)).fr (Ac HJ.1.2 _) hgrow)));clear hown hgrow hat6));have d2:=Ad HZ.1.2 HC.1.2;go_wp2_with fail;go_loopg [3,6,7] u.code.length (λg v3 v6 v7 w3=>∃i:Nat,i+g=u.code.length/\v6= .int .i64 i/\OwnBs w3 w.heap.size v3 (A4 AZ us k++BK u++A4 A1 u.row u.row.length++[10]++A4 Bc u.code i)/\w.grownBy w3 none)
      case atStart=>exact⟨0,by omega,rfl,by simpa[A4]using HZ.1.1,HZ.1.2⟩
      case round=>
       obtain⟨i,hi,rfl,hO6,hG6⟩:=hrel;clear HZ HJ d2 d1;have d2:=Ad hG6 HC.1.2;have hgs6:=hG6.size;by_cases hil:i<u.code.length
       ·have hiI:decide (i<u.code.length)=true:=by simpa using hil
        obtain⟨c,hc⟩:∃c,u.code[i]? =some c:=⟨_,AQ hil⟩;obtain⟨gc,oc,rfl,_,_,t0,t1,t2,t3⟩:=HR.1.2.cd hc;have f0:=Ad hG6 t0;have f1:=Ad hG6 t1;have f2:=Ad hG6 t2;have f3:=Ad hG6 t3;clear t0 t1 t2 t3;have hwc:=HL.1.2.2.1.2 c (FJ hc);have ho1:=Dk hwc.1;have ho2:=Dk hwc.2.1;have ho3:=Dk hwc.2.2;have hcw:=O4 hc;have hcw2:wtC c=3+c.s.length:=rfl;have hsl:c.s.length<=100000000:=by have h1:=HL.1.2.1;have h2:=HL.1.2.2.2.1;omega
        have hq1:=GA c.s;have hcl2:¬(9223372036854775807<(Lib.itoa c.op).length+1):=by omega
        have hcl3:¬(9223372036854775807<(Lib.itoa c.op).length+1+(Lib.itoa c.a).length):=by omega
        have hcl4:¬(9223372036854775807<(Lib.itoa c.op).length+1+(Lib.itoa c.a).length+1):=by omega
        have hcl5:¬(9223372036854775807<(Lib.itoa c.op).length+1+(Lib.itoa c.a).length+1+(Lib.itoa c.b).length):=by omega
        have hcl6:¬(9223372036854775807<(Lib.itoa c.op).length+1+(Lib.itoa c.a).length+1+(Lib.itoa c.b).length+1):=by omega
        have hcl7:¬(9223372036854775807<(Lib.itoa c.op).length+1+(Lib.itoa c.a).length+1+(Lib.itoa c.b).length+1+(qtM c.s).length):=by omega
        have hcl8:¬(9223372036854775807<(Lib.itoa c.op).length+1+(Lib.itoa c.a).length+1+(Lib.itoa c.b).length+1+(qtM c.s).length+1):=by omega
        have HT:=S (show(A4 AZ us k++BK u++A4 A1 u.row u.row.length++[10]++A4 Bc u.code i).length+(Bc c).length<=100000000000 from by
         have h1:=HL.1.1;have h2:=HL.1.2.1;have h3:=E9 HL.1.2.2.1 u.row.length (nR _);have h4:=DS u;have h5:=Km HL.1.2.2.1 i (by omega);have h6:=Kl hwc;have h7:=HL.1.2.2.2.1;have h8:=HL.1.2.2.2.2;simp only[lA,List.length_cons,List.length_nil];omega)
        have b4:=Blk.new wr (cdC c) 61;have gA:wr.grownBy (wr.alloc (.cells (cdC c).toArray 61 (0,0))).drew none:=Ae (gZ _ _ none);have HX:=S (show(λW=>(W.cell? ⟨wr.heap.size,0,none⟩=some (.int .i64 c.op)/\W.cell? ⟨wr.heap.size,1,none⟩=some (.int .i64 c.a)/\W.cell? ⟨wr.heap.size,2,none⟩=some (.int .i64 c.b)/\W.cell? ⟨wr.heap.size,3,none⟩=some (str c.s))/\w.grownBy W none) (wr.alloc (.cells (cdC c).toArray 61 (0,0))).drew from⟨⟨b4.cell 0,b4.cell 1,b4.cell 2,b4.cell 3⟩,Z hG6 gA⟩);have HB:=S (X hO6 (X gA (X (Gr (f:=Bc) hc) (X (show some wr.heap.size≠u3.ownBlock from λe=>by have:=(World.ownsRow.lt hO6 _ e.symm).2;omega) (λq e=>(World.ownsRow.lt hO6 q e).1)))));have HW:=S hwc;clear hO6 hG6 b4 gA hwc ho1 ho2 ho3 hcw hcw2 hq1 hql2 hcl1;go_wp2_with fail;go_region_held3 (λW=>(W.cell? ⟨wr.heap.size,0,none⟩=some (.int .i64 c.op)/\W.cell? ⟨wr.heap.size,1,none⟩=some (.int .i64 c.a)/\W.cell? ⟨wr.heap.size,2,none⟩=some (.int .i64 c.b)/\W.cell? ⟨wr.heap.size,3,none⟩=some (str c.s))/\w.grownBy W none)
         (first|exact HX.1|exact N5 (by assumption) g5 (by simp) (by simp)|exact N5 (by assumption) hg5 HB.1.2.2.2.1 HB.1.2.2.2.2)
         (first| (go_at_call 32;refine(JF (by assumption) HP.1.1 HW.1.1).mono ?_;rintro e w5 ⟨rfl,g5⟩)| (go_at_call 32;refine(JF (by assumption) HP.1.1 HW.1.2.1).mono ?_;rintro e w5 ⟨rfl,g5⟩)| (go_at_call 32;refine(JF (by assumption) HP.1.1 HW.1.2.2).mono ?_;rintro e w5 ⟨rfl,g5⟩)| (go_at_call 50;refine(LK c.s (by omega) _).mono ?_;rintro e w5 ⟨rfl,g5⟩)| (refine OG (by rfl) _ _ (by rfl) (by assumption) HB.1.1 (by repeat(first|exact HB.1.2.1| (refine Z ?_ (by assumption)))) (by rfl) (by rfl) HT.1 ?_;intro v5 w5 hO5 hg5))
        rename_i hH;have HM:=S (X hO5 hH.2);clear hO5 hg5 hH;go_wp2;go_roundg (u.code.length-(i+1))
        case measure=>omega
        case rel=>exact⟨i+1,by omega,by go_num,by rw[HB.1.2.2.1,<-List.append_assoc];exact HM.1.1,HM.1.2⟩
       ·have hiI:decide (i<u.code.length)=false:=by simpa using hil
        have hie:i=u.code.length:=by omega
        subst hie;have HJ:=S (X hO6 hG6);clear hO6 hG6;go_wp2;go_roundg (us.length-(k+1))
        case measure=>omega
        case rel=>exact⟨k+1,by omega,by go_num,by rw[Gr HU.1];simpa[AZ,List.append_assoc]using HJ.1.1,HJ.1.2⟩
end Go.Proofs.YtbjfaimkiclhgaaGreatDoor
