/-
  Plain laws: the grammar of statements, written once for both readers: what the program's reader answers (f) and what the reference's reader answers (g), and that they agree. A reading's expression has
-/
import Derived.Test.YtmcajbhljbbglaaGreatDoorSpF
import Derived.Test.YtmcajbhljbbglaaGreatDoorSp05
import Derived.Test.YtmcajbhljbbglaaGreatDoorSp14
import Derived.Test.YtmcajbhljbbglaaGreatDoorSp25
import Derived.Test.YtmcajbhljbbglaaGreatDoorSp02
import Derived.Test.YtmcajbhljbbglaaGreatDoorSp18
set_option linter.all false
set_option maxRecDepth 100000
set_option maxHeartbeats 8000000
namespace Go.Proofs.YtmcajbhljbbglaaGreatDoor
open Tryz
abbrev Ee:Bs:=[80,82,79,67,69,68,85,82,69]
abbrev Ce:Bs:=[70,85,78,67,84,73,79,78]
abbrev Gh:Bs:=[76,79,67,65,76]
abbrev FW:Bs:=[80,82,73,86,65,84,69]
abbrev Gd:Bs:=[80,85,66,76,73,67]
abbrev Ge:Bs:=[83,84,65,84,73,67]
abbrev wIF:Bs:=[73,70]
abbrev F6:Bs:=[69,76,83,69,73,70]
abbrev H8:Bs:=[69,76,83,69]
abbrev Hw:Bs:=[69,78,68,73,70]
abbrev wDO:Bs:=[68,79]
abbrev CA:Bs:=[67,65,83,69]
abbrev K7:Bs:=[79,84,72,69,82,87,73,83,69]
abbrev KI:Bs:=[69,78,68,67,65,83,69]
abbrev CC:Bs:=[87,72,73,76,69]
abbrev M8:Bs:=[69,78,68,68,79]
abbrev BH:Bs:=[70,79,82]
abbrev wTO:Bs:=[84,79]
abbrev J8:Bs:=[83,84,69,80]
abbrev BL:Bs:=[78,69,88,84]
abbrev FE:Bs:=[76,79,79,80]
abbrev FD:Bs:=[69,88,73,84]
abbrev CD:Bs:=[82,69,84,85,82,78]
abbrev Gn:Bs:=[87,73,84,72]
abbrev CB:Bs:=[66,82,69,65,75]
abbrev Hy:Bs:=[66,69,71,73,78]
abbrev Py:Bs:=[83,69,81,85,69,78,67,69]
abbrev IE:Bs:=[82,69,67,79,86,69,82]
abbrev J2:Bs:=[85,83,73,78,71]
abbrev JC:Bs:=[69,78,68]
abbrev F9:Bs:=[83,69,76,69,67,84]
abbrev Fh:Bs:=[85,83,69]
abbrev Hv:Bs:=[65,76,73,65,83]
abbrev wGO:Bs:=[71,79]
abbrev El:Bs:=[84,79,80]
abbrev Er:Bs:=[66,79,84,84,79,77]
abbrev Fa:Bs:=[83,75,73,80]
abbrev EG:Bs:=[83,69,69,75]
abbrev Et:Bs:=[76,79,67,65,84,69]
abbrev F3:Bs:=[67,79,78,84,73,78,85,69]
abbrev Ea:Bs:=[82,69,80,76,65,67,69]
abbrev Es:Bs:=[68,69,76,69,84,69]
abbrev Eu:Bs:=[82,69,67,65,76,76]
abbrev F8:Bs:=[65,80,80,69,78,68]
abbrev KR:Bs:=[66,76,65,78,75]
abbrev FJ:Bs:=[80,65,67,75]
abbrev FN:Bs:=[90,65,80]
abbrev FA:Bs:=[67,79,85,78,84]
abbrev EH:Bs:=[83,85,77]
abbrev FB:Bs:=[73,78,68,69,88]
abbrev wON:Bs:=[79,78]
abbrev wTAG:Bs:=[84,65,71]
abbrev Hq:Bs:=[85,78,73,81,85,69]
abbrev I3:Bs:=[67,65,78,68,73,68,65,84,69]
abbrev Dt:Bs:=[68,69,83,67,69,78,68,73,78,71]
abbrev Gp:Bs:=[83,69,84]
abbrev Hx:Bs:=[79,82,68,69,82]
abbrev IK:Bs:=[70,73,76,84,69,82]
abbrev I7:Bs:=[82,69,76,65,84,73,79,78]
abbrev J7:Bs:=[73,78,84,79]
abbrev KQ:Bs:=[69,88,65,67,84]
abbrev KH:Bs:=[68,69,76,69,84,69,68]
abbrev JD:Bs:=[79,70,70]
abbrev Fj:Bs:=[65,76,76]
abbrev Fg:Bs:=[82,69,83,84]
abbrev Cc:Bs:=[82,69,67,79,82,68]
def Da(W:List Bs)(s:Bs):Bs:=if W.contains s then s else if 4≤s.length then(W.find? fun w=>s.isPrefixOf w).getD []else []
def Av(l:List Tok)(W:List Bs)(i:Nat):Bs:=if(Af l i).kind==0 then Da W (Af l i).text else []
def AR(l:List Tok)(W:List Bs)(i:Nat):Bs:=
 if Ak (Af l (i+1)) [61]||Ak (Af l (i+1)) [58,61]||Ak (Af l (i+1)) [91]||Ak (Af l (i+1)) [45,62]then []else Av l W i
def endWords:List Bs:=[F6,H8,Hw,CA,K7,KI,M8,BL,IE,JC,Ee,Ce]
structure Rd(l:List Tok)(α:Type) where
 f:Nat→Res α
 g:FR α
 sim:Sim f g
namespace Rd
variable {l:List Tok}{α β:Type}
def pure(a:α):Rd l α:=⟨fun i=> .ok a i,fun st=>some (a,st),Sim.pure a⟩
def bind(p:Rd l α)(q:α→Rd l β):Rd l β:=⟨fun i=>(p.f i).bind fun x j=>(q x).f j,fun st=>(p.g st).bind fun r=>(q r.1).g r.2,p.sim.bind fun x=>(q x).sim⟩
def bad(a:α):Rd l α:=⟨fun i=> .bad i,fun st=>some (a,(st.1,true)),⟨fun i=>⟨a,rfl⟩,fun i=>⟨a,rfl⟩⟩⟩
def out(a:α):Rd l α:=⟨fun _=> .out,fun st=>if st.2 then some (a,st)else none,⟨fun i=>trivial,fun i=>⟨a,rfl⟩⟩⟩
def skip:Rd l Unit:=⟨fun i=> .ok () (i+1),fun st=>some ((),BT st),⟨fun i=>rfl,fun i=>⟨(),rfl⟩⟩⟩
def want(s:Bs):Rd l Unit:=⟨Br l s,fun st=>some ((),AZ l s st),by
 constructor
 ·intro i
  unfold Br
  cases h:Ak (Af l i) s with
  |true=>rw[if_pos rfl,P6 h];rfl
  |false=>rw[if_neg Ae,PP h];exact⟨(),rfl⟩
 ·exact fun i=>⟨(),rfl⟩⟩
def fin:Rd l Unit:=⟨BP l,fun st=>some ((),Fi l st),by
 constructor
 ·intro i
  unfold BP Fi
  cases(Af l i).kind==5 with
  |true=>exact rfl
  |false=>exact⟨(),rfl⟩
 ·exact fun i=>⟨(),rfl⟩⟩
def name(hn:Al l):Rd l Bs:=⟨AW l,fun st=>some (Ax l st),by
 have h:=Sim.name hn (f:=fun s j=>Res.ok s j) (g:=fun s st=>some (s,st)) fun s=>Sim.pure s
 constructor
 ·intro i
  have h1:=h.go i
  cases hq:AW l i with
  |ok x j=>rw[hq]at h1;exact h1
  |bad k=>rw[hq]at h1;exact h1
  |out=>trivial
 ·exact fun i=>⟨[],rfl⟩⟩
def ifs(s:Bs)(p q:Rd l α):Rd l α:=⟨fun i=>if Ak (Af l i) s then p.f (i+1)else q.f i,fun st=>if A2 l s st then p.g (Aq l s st)else q.g (Aq l s st),Sim.ifs l s p.sim q.sim⟩
def cond(c:Nat→Bool)(p q:Rd l α):Rd l α:=⟨fun i=>if c i then p.f i else q.f i,fun st=>if c st.1 then p.g st else q.g st,by
 constructor
 ·intro i;cases h:c i with
  |true=>simp only[h,if_true];exact p.sim.go i
  |false=>simp only[h,Bool.false_eq_true,if_false];exact q.sim.go i
 ·intro i;cases h:c i with
  |true=>simp only[h,if_true];exact p.sim.stop i
  |false=>simp only[h,Bool.false_eq_true,if_false];exact q.sim.stop i⟩
def condW(c:Nat→Bool)(p q:Rd l α):Rd l α:=⟨fun i=>if c i then p.f i else q.f i,fun st=>if st.2||c st.1 then p.g st else q.g st,by
 constructor
 ·intro i;cases h:c i with
  |true=>simp only[h,Bool.or_true,if_true];exact p.sim.go i
  |false=>simp only[h,Bool.or_false,Bool.false_eq_true,if_false];exact q.sim.go i
 ·intro i;simp only[Bool.true_or,if_true];exact p.sim.stop i⟩
def KU(c:Nat→Bool)(p q:Rd l α):Rd l α:=⟨fun i=>if c i then p.f i else q.f i,fun st=>if !st.2&&c st.1 then p.g st else q.g st,by
 constructor
 ·intro i;cases h:c i with
  |true=>simp only[h,Bool.not_false,Bool.and_true,if_true];exact p.sim.go i
  |false=>simp only[h,Bool.and_false,Bool.false_eq_true,if_false];exact q.sim.go i
 ·intro i;simp only[Bool.not_true,Bool.false_and,Bool.false_eq_true,if_false];exact q.sim.stop i⟩
def ifw(W:List Bs)(w:Bs)(p q:Rd l α):Rd l α:=KU (fun i=>Av l W i==w) (skip.bind fun _=>p) q
def must(W:List Bs)(w:Bs):Rd l Unit:=ifw W w (pure ()) (bad ())
def here(W:List Bs):Rd l Bs:=⟨fun i=> .ok (Av l W i) i,fun st=>some (Av l W st.1,st),⟨fun i=>rfl,fun i=>⟨_,rfl⟩⟩⟩
def moreS(s:Bs)(step:α→Rd l α):Nat→α→Rd l α
 | 0,a=>out a
 |n+1,a=>ifs s ((step a).bind (moreS s step n)) (pure a)
def moreW(W:List Bs)(w:Bs)(step:α→Rd l α):Nat→α→Rd l α
 | 0,a=>out a
 |n+1,a=>ifw W w ((step a).bind (moreW W w step n)) (pure a)
def atEnd(l:List Tok)(i:Nat):Bool:=(Af l i).kind==5
end Rd
def sd0(op:Int)(s:Bs):Sd:=⟨op,s,[],[],.nil,0,.nil,.nil,.nil⟩
def Bl.app:Bl→Bl→Bl
 | .nil,g=>g
 | .st h b n,g=> .st h b (n.app g)
 | .bl b n,g=> .bl b (n.app g)
abbrev StB:=Sd×Bl
structure ScM where
 kind:Int
 n:Fo
 f:Fo
 w:Fo
def B7:ScM:=⟨0,.nil,.nil,.nil⟩
def Cb(s:Sd)(c:ScM):Sd:={s with kind:=c.kind,n:=c.n,f:=c.f,w:=c.w}
def AQ(w:Bs):Int:=if w=Fj then 1 else if w=BL then 2 else if w=Fg then 3 else if w=Cc then 4 else 0
section
open Rd
variable {l:List Tok}(hn:Al l)(W:List Bs)(day:Bs→Int)(n:Nat)(block:Rd l Bl)
def B2:Rd l Ex:=⟨Aw l day n,AN l day n,yU hn day n⟩
def J5:Rd l Fo:=⟨D1 l (Aw l day n) n,FG l (AN l day n) (n+1),P2 (B2 hn day n).sim n⟩
def Xp:Rd l (List Bs):=⟨Eh l n,IP l (n+1),Wg hn n⟩
def PU:Rd l Ex:=⟨EW l (Aw l day n),J1 l (AN l day n),Wf hn (B2 hn day n).sim⟩
def GO:Rd l Fo:=condW (atEnd l) (pure .nil) ((B2 hn day n).bind fun x=>pure (.one x))
def Ez(a:List Bs×Fo):Rd l (List Bs×Fo):=(name hn).bind fun s=>(ifs [58,61] (B2 hn day n) (pure Bi)).bind fun x=>pure (a.1++[s],a.2.snoc x)
def CH(w:Bs):Rd l StB:=(Ez hn day n ([],.nil)).bind fun a=>(moreS [44] (Ez hn day n) n a).bind fun a=>fin.bind fun _=>pure ({sd0 2 w with p:=a.1,x:=a.2},.nil)
def BS(a:Fo×Bl):Rd l (Fo×Bl):=(B2 hn day n).bind fun x=>fin.bind fun _=>block.bind fun b=>pure (a.1.snoc x,a.2.app (.bl b .nil))
def DY(more other last:Bs):Rd l StB:=
 (BS hn day n block (.nil,.nil)).bind fun a=>(moreW W more (BS hn day n block) n a).bind fun a=>
  (ifw W other (fin.bind fun _=>block.bind fun b=>pure (a.2.app (.bl b .nil))) (pure a.2)).bind fun bs=>
   (must W last).bind fun _=>fin.bind fun _=>pure ({sd0 3 []with x:=a.1},bs)
def doP:Rd l StB:=
 ifw W CA (fin.bind fun _=>(must W CA).bind fun _=>DY hn W day n block CA K7 KI)
  (ifw W CC ((BS hn day n block (.nil,.nil)).bind fun a=>(must W M8).bind fun _=>fin.bind fun _=>pure ({sd0 4 []with x:=a.1},a.2))
   ((name hn).bind fun s=>(ifw W Gn (J5 hn day n) (pure .nil)).bind fun f=>fin.bind fun _=>pure ({sd0 9 s with x:=f},.nil)))
def Fb:Rd l StB:=
 (name hn).bind fun s=>(want [61]).bind fun _=>(B2 hn day n).bind fun x=>(must W wTO).bind fun _=>(B2 hn day n).bind fun y=>
  (ifw W J8 (B2 hn day n) (pure (A1 2 1 []))).bind fun z=>fin.bind fun _=>block.bind fun b=>(must W BL).bind fun _=>fin.bind fun _=>
   pure ({sd0 5 s with x:=((Fo.one x).snoc y).snoc z},.bl b .nil)
def ET:Rd l StB:=
 (must W Py).bind fun _=>fin.bind fun _=>block.bind fun b=>
  (ifw W IE ((ifw W J2 (name hn) (pure [])).bind fun s=>fin.bind fun _=>block.bind fun c=>pure (s,Bl.bl b (.bl c .nil))) (pure ([],Bl.bl b .nil))).bind fun r=>
   (must W JC).bind fun _=>fin.bind fun _=>pure (sd0 11 r.1,r.2)
def Ba:Nat→ScM→Rd l ScM
 | 0,c=>out c
 |k+1,c=>condW (fun _=>false) (pure c) ((here W).bind fun w=>
  if AQ w≠0∧c.kind=0 then skip.bind fun _=>if w=BL∨w=Cc then(B2 hn day n).bind fun x=>Ba k {c with kind:=AQ w,n:= .one x}else Ba k {c with kind:=AQ w}
  else if w=BH∧c.f.len=0 then skip.bind fun _=>(B2 hn day n).bind fun x=>Ba k {c with f:= .one x}
  else if w=CC∧c.w.len=0 then skip.bind fun _=>(B2 hn day n).bind fun x=>Ba k {c with w:= .one x}
  else pure c)
def CX(a:List Bs×Fo):Rd l (List Bs×Fo):=(name hn).bind fun s=>(must W Gn).bind fun _=>(B2 hn day n).bind fun x=>pure (a.1++[s],a.2.snoc x)
def FC(s:Sd):Rd l Sd:=
 (must W wON).bind fun _=>(B2 hn day n).bind fun x=>(must W wTAG).bind fun _=>(name hn).bind fun p=>
  (ifw W BH ((B2 hn day n).bind fun y=>pure (Fo.two x y)) (pure (Fo.one x))).bind fun f=>
   (here W).bind fun w=>(if w=Hq∨w=I3 then skip.bind fun _=>pure w else pure []).bind fun t=>
    (ifw W Dt (pure [p,Dt]) (pure [p])).bind fun ps=>pure {s with p:=ps,x:=f,t:=t}
def F2(s:Sd):Rd l Sd:=
 (here W).bind fun w=>
  if w=KQ∨w=KH then skip.bind fun _=>(here W).bind fun t=>if t=wON∨t=JD then skip.bind fun _=>pure {s with s:=w,t:=t}else bad {s with s:=w}
  else if w=Hx∨w=IK∨w=I7 then skip.bind fun _=>(must W wTO).bind fun _=>cond (atEnd l) (pure {s with s:=w})
   (if w=Hx then(name hn).bind fun p=>pure {s with s:=w,p:=[p]}
    else if w=IK then(B2 hn day n).bind fun x=>pure {s with s:=w,x:= .one x}
    else(B2 hn day n).bind fun x=>(must W J7).bind fun _=>(name hn).bind fun p=>pure {s with s:=w,x:= .one x,p:=[p]})
  else bad s
def goP(s:Sd):Rd l Sd:=(here W).bind fun w=>cond (fun i=>(w==El||w==Er)&&atEnd l (i+1)) (skip.bind fun _=>pure {s with t:=w}) ((B2 hn day n).bind fun x=>pure {s with x:= .one x})
def BG(w:Bs):Rd l Sd:=
 if w=F9 then(name hn).bind fun p=>pure {sd0 13 w with p:=[p]}
 else if w=Fh then cond (atEnd l) (pure (sd0 13 w)) ((name hn).bind fun p=>(ifw W Hv ((name hn).bind fun q=>pure [p,q]) (pure [p])).bind fun ps=>pure {sd0 13 w with p:=ps})
 else if w=wGO then goP hn W day n (sd0 13 w)
 else if w=Fa then(GO hn day n).bind fun x=>pure {sd0 13 w with x:=x}
 else if w=EG then(B2 hn day n).bind fun x=>pure {sd0 13 w with x:= .one x}
 else if w=F3∨w=FJ∨w=FN then pure (sd0 13 w)
 else if w=F8 then(must W KR).bind fun _=>pure (sd0 13 w)
 else if w=Et∨w=Es∨w=Eu then(Ba hn W day n n B7).bind fun c=>pure (Cb (sd0 13 w) c)
 else if w=Ea then(CX hn W day n ([],.nil)).bind fun a=>(moreS [44] (CX hn W day n) n a).bind fun a=>(Ba hn W day n n B7).bind fun c=>pure (Cb {sd0 13 w with p:=a.1,x:=a.2} c)
 else if w=FA then(must W wTO).bind fun _=>(name hn).bind fun p=>(Ba hn W day n n B7).bind fun c=>pure (Cb {sd0 13 w with p:=[p]} c)
 else if w=EH then(B2 hn day n).bind fun x=>(must W wTO).bind fun _=>(name hn).bind fun p=>(Ba hn W day n n B7).bind fun c=>pure (Cb {sd0 13 w with p:=[p],x:= .one x} c)
 else if w=FB then FC hn W day n (sd0 13 w)
 else F2 hn W day n (sd0 13 w)
def cmdWords:List Bs:=[F9,Fh,wGO,Fa,EG,F3,FJ,FN,F8,Et,Es,Eu,Ea,FA,EH,FB,Gp]
def Bx(w:Bs):Rd l StB:=
 if w=Gh∨w=FW∨w=Gd∨w=Ge then skip.bind fun _=>CH hn day n w
 else if w=wIF then skip.bind fun _=>DY hn W day n block F6 H8 Hw
 else if w=wDO then skip.bind fun _=>doP hn W day n block
 else if w=BH then skip.bind fun _=>Fb hn W day n block
 else if w=FE then skip.bind fun _=>fin.bind fun _=>pure (sd0 6 [],.nil)
 else if w=FD then skip.bind fun _=>fin.bind fun _=>pure (sd0 7 [],.nil)
 else if w=CD then skip.bind fun _=>(GO hn day n).bind fun x=>fin.bind fun _=>pure ({sd0 8 []with x:=x},.nil)
 else if w=CB then skip.bind fun _=>(GO hn day n).bind fun x=>fin.bind fun _=>pure ({sd0 12 []with x:=x},.nil)
 else if w=Hy then skip.bind fun _=>ET hn W block
 else if cmdWords.contains w then skip.bind fun _=>(BG hn W day n w).bind fun s=>fin.bind fun _=>pure (s,.nil)
 else bad (sd0 13 w,.nil)
def setP(t:Ex):Rd l StB:=(ifs [61] (pure ()) (want [58,61])).bind fun _=>(B2 hn day n).bind fun x=>fin.bind fun _=>pure ({sd0 0 []with x:= .two t x},.nil)
def WX:Rd l Fo:=ifs [41] (pure .nil) ((J5 hn day n).bind fun f=>(want [41]).bind fun _=>pure f)
def JB(s:Bs):Rd l StB:=
 ifs [40] ((WX hn day n).bind fun f=>fin.bind fun _=>pure ({sd0 10 []with x:= .one ⟨hd0 3 s,f⟩},.nil))
  (ifs [91] ((B2 hn day n).bind fun x=>(want [93]).bind fun _=>setP hn day n (DN (AC s) x))
   (ifs [45,62] ((name hn).bind fun t=>setP hn day n ⟨hd0 2 s,.one (AC t)⟩) (setP hn day n (AC s))))
def Dy:Rd l StB:=
 ifs [63] ((cond (atEnd l) (pure .nil) (J5 hn day n)).bind fun x=>fin.bind fun _=>pure ({sd0 1 []with x:=x},.nil))
  (cond (fun i=>Ak (Af l i) [38]) ((PU hn day n).bind fun t=>setP hn day n t) ((name hn).bind fun s=>JB hn day n s))
def keyP:Rd l Bs:=⟨fun i=> .ok (AR l W i) i,fun st=>some (AR l W st.1,st),⟨fun i=>rfl,fun i=>⟨_,rfl⟩⟩⟩
def C7:Rd l StB:=(keyP W).bind fun w=>if w=[]then Dy hn day n else Bx hn W day n block w
end
section
open Rd
variable {l:List Tok}(hn:Al l)(W:List Bs)(day:Bs→Int)
def EB(l:List Tok)(W:List Bs)(i:Nat):Bool:=decide (i<l.length)&&!endWords.contains (AR l W i)
def CY(st:Rd l StB):Nat→Bl→Rd l Bl
 | 0,a=>out a
 |k+1,a=>KU (EB l W) (st.bind fun r=>CY st k (a.app (.st r.1 r.2 .nil))) (pure a)
def Dv:Nat→Rd l Bl
 | 0=>out .nil
 |n+1=>CY W (C7 hn W day n (Dv n)) n .nil
def M0(n:Nat):Rd l (List Bs):=ifs [40] (ifs [41] (pure []) ((Xp hn n).bind fun p=>(want [41]).bind fun _=>pure p)) (pure [])
end
abbrev Pq:=Bs×Bool×List Bs×Bl
section
open Rd
variable {l:List Tok}(hn:Al l)(W:List Bs)(day:Bs→Int)
def Fd(n:Nat)(a:List Pq)(fn:Bool):Rd l (List Pq):=
 (name hn).bind fun s=>(M0 hn n).bind fun p=>fin.bind fun _=>(Dv hn W day n).bind fun b=>pure (a++[(s,fn,p,b)])
def Dp(n:Nat):Nat→List Pq→Rd l (List Pq)
 | 0,a=>out a
 |k+1,a=>KU (fun i=>decide (i<l.length)) ((here W).bind fun w=>
  if w=Ee∨w=Ce then skip.bind fun _=>(Fd hn W day n a (w==Ce)).bind fun a=>Dp n k a else bad a) (pure a)
def BM(n:Nat):Rd l (List Pq):=(Dv hn W day n).bind fun b=>Dp hn W day n n [([77,65,73,78],false,[],b)]
end
def Big{α:Type}(m:α→Nat)(i:Nat):Res α→Prop
 | .ok a j=>m a+i≤j
 |_=>True
theorem Big.bind{α β:Type}{m:α→Nat}{m':β→Nat}{i i':Nat}{r:Res α}{f:α→Nat→Res β}(h:Big m i' r)(hf:∀a j,m a+i'≤j→Big m' i (f a j)):Big m' i (r.bind f):=by
 cases r with
 |ok a j=>exact hf a j h
 |bad k=>trivial
 |out=>trivial
theorem Fo.nodes_app(f g:Fo):(f.app g).nodes=f.nodes+g.nodes:=by
 induction f with
 |nil=>simp[Fo.app,Fo.nodes]
 |cons h k n _ ih=>simp[Fo.app,Fo.nodes,ih];omega
theorem Fo.nodes_snoc(f:Fo)(x:Ex):(f.snoc x).nodes=f.nodes+x.nodes:=by simp[Fo.snoc,Fo.nodes_app,Ex.fo,Fo.nodes,Ex.nodes]
theorem Fo.nodes_one(x:Ex):(Fo.one x).nodes=x.nodes:=by simp[Fo.one,Ex.fo,Fo.nodes,Ex.nodes]
theorem Fo.nodes_two(x y:Ex):(Fo.two x y).nodes=x.nodes+y.nodes:=by simp[Fo.two,Ex.fo,Fo.nodes,Ex.nodes]
abbrev Bv{α:Type}:α→Nat:=fun _=>1
section
variable {l:List Tok}{i:Nat}
theorem FX(s:Bs)(q:Nat):Big Bv q (Br l s q):=by
 unfold Br;split
 ·show 1+q≤q+1;omega
 ·trivial
theorem AaH(q:Nat):Big Bv q (BP l q):=by
 unfold BP;split
 ·show 1+q≤q+1;omega
 ·trivial
theorem Hm(q:Nat):Big Bv q (AW l q):=by
 unfold AW;split
 ·show 1+q≤q+1;omega
 ·trivial
theorem mQ{k:Nat}{opnd:Nat→Res Ex}(h:∀q,Big Ex.nodes q (opnd q)):∀n x j,x.nodes+i≤j→Big Ex.nodes i (E1 l k opnd n x j):=by
 intro n;induction n with
 |zero=>intro x j _;trivial
 | succ n ih=>
   intro x j h1;unfold E1;split
   ·exact h1
   ·refine Big.bind (h _) fun y q hq=>ih _ _ ?_;simp only[AH,Ex.nodes,Fo.nodes_two]at hq h1 ⊢;omega
theorem Mk{k n:Nat}{opnd:Nat→Res Ex}(h:∀q,Big Ex.nodes q (opnd q))(q:Nat):Big Ex.nodes q (B0 l k n opnd q):=
 Big.bind (h q) fun x j hj=>mQ h n x j hj
theorem xT{un:Nat→Res Ex}(h:∀q,Big Ex.nodes q (un q)):∀n q,Big Ex.nodes q (DS l un n q):=by
 intro n;induction n with
 |zero=>intro q;trivial
 | succ n ih=>
   intro q;unfold DS;refine Big.bind (h q) fun x j hj=>?_;split
   ·exact hj
   ·refine Big.bind (ih _) fun y k hk=>?_;simp only[Big,AH,Ex.nodes,Fo.nodes_two]at hj hk ⊢;omega
theorem zR{sum:Nat→Res Ex}(h:∀q,Big Ex.nodes q (sum q)):∀n q,Big Ex.nodes q (CQ l sum n q):=by
 intro n;induction n with
 |zero=>intro q;trivial
 | succ n ih=>
   intro q;unfold CQ;split
   ·refine Big.bind (ih _) fun y k hk=>?_;simp only[Big,unE,Ex.nodes,Fo.nodes_one]at hk ⊢;omega
   ·refine Big.bind (h q) fun x j hj=>?_;split
    ·exact hj
    ·refine Big.bind (h _) fun y k hk=>?_;simp only[Big,AH,Ex.nodes,Fo.nodes_two]at hj hk ⊢;omega
theorem nG{E:Nat→Res Ex}(h:∀q,Big Ex.nodes q (E q)):∀n x j,x.nodes+i≤j→Big Ex.nodes i (DF l E n x j):=by
 intro n;induction n with
 |zero=>intro x j _;trivial
 | succ n ih=>
   intro x j h1;unfold DF;split
   ·refine Big.bind (h _) fun y q hq=>Big.bind (FX _ _) fun _ k hk=>ih _ _ ?_;simp only[Bv,DN,Ex.nodes,Fo.nodes_two]at hq hk h1 ⊢;omega
   ·exact h1
theorem tM{E prim:Nat→Res Ex}(hE:∀q,Big Ex.nodes q (E q))(hP:∀q,Big Ex.nodes q (prim q)):∀n q,Big Ex.nodes q (DL l E prim n q):=by
 intro n;induction n with
 |zero=>intro q;trivial
 | succ n ih=>
   intro q;unfold DL;split
   ·refine Big.bind (ih _) fun y k hk=>?_;simp only[Big,unE,Ex.nodes,Fo.nodes_one]at hk ⊢;omega
   ·exact Big.bind (hP q) fun x j hj=>nG hE n x j hj
theorem mT{E:Nat→Res Ex}(h:∀q,Big Ex.nodes q (E q)):∀n f j,f.nodes+i≤j→Big Fo.nodes i (E3 l E n f j):=by
 intro n;induction n with
 |zero=>intro x j _;trivial
 | succ n ih=>
   intro x j h1;unfold E3;split
   ·refine Big.bind (h _) fun y q hq=>ih _ _ ?_;rw[Fo.nodes_snoc];omega
   ·exact h1
theorem Ph{E:Nat→Res Ex}{n:Nat}(h:∀q,Big Ex.nodes q (E q))(q:Nat):Big Fo.nodes q (D1 l E n q):=
 Big.bind (h q) fun x j hj=>mT h n _ j (by rw[Fo.nodes_one];exact hj)
theorem kU:∀n f j,1+i≤j→Big Bv i (E5 l n f j):=by
 intro n;induction n with
 |zero=>intro x j _;trivial
 | succ n ih=>
   intro x j h1;unfold E5;split
   ·exact Big.bind (Hm _) fun y q hq=>ih _ _ (by simp only[Bv]at hq;omega)
   ·exact h1
theorem Uo{n:Nat}(q:Nat):Big Bv q (Eh l n q):=
 Big.bind (Hm _) fun x j hj=>kU n _ j hj
theorem sO{E:Nat→Res Ex}{n:Nat}(hE:∀q,Big Ex.nodes q (E q))(q:Nat):Big Ex.nodes q (FK l E n q):=by
 unfold FK;refine Big.bind (Hm _) fun s j hj=>Big.bind (FX _ _) fun _ k hk=>?_;split
 ·simp only[Big,Bv,Ex.nodes,Fo.nodes]at hj hk ⊢;omega
 ·refine Big.bind (Ph hE _) fun f p hp=>Big.bind (FX _ _) fun _ r hr=>?_;simp only[Big,Bv,Ex.nodes,Fo.nodes]at hj hk hp hr ⊢;omega
theorem Vn{E:Nat→Res Ex}(hE:∀q,Big Ex.nodes q (E q))(q:Nat):Big Ex.nodes q (EW l E q):=by
 unfold EW;refine Big.bind (FX _ _) fun s j hj=>?_;split
 ·exact SX
 ·refine Big.bind (Hm _) fun s p hp=>?_;simp only[Big,Bv,Ex.nodes,Fo.nodes]at hj hp ⊢;split<;>omega
theorem m3{E:Nat→Res Ex}{n:Nat}(hE:∀q,Big Ex.nodes q (E q))(q:Nat):Big Ex.nodes q (Gi l E n q):=by
 unfold Gi;split
 ·have h1 : Big Bv (q + 1) (if Ak (Af l (q + 1)) [124] then (.ok [] (q + 2) : Res (List Bs)) else (Eh l n (q + 1)).bind fun p j => (Br l [124] j).bind fun _ j => .ok p j) := by
   split
   ·show 1+(q+1)≤q+2;omega
   ·refine Big.bind (Uo _) fun p j hj=>Big.bind (FX _ _) fun _ k hk=>?_;simp only[Big,Bv]at hj hk ⊢;omega
  refine Big.bind h1 fun p j hj=>Big.bind (hE _) fun f p hp=>Big.bind (FX _ _) fun _ k hk=>?_;simp only[Big,Bv,Ex.nodes,Fo.nodes_one]at hj hk hp ⊢;omega
 ·refine Big.bind (Ph hE _) fun f p hp=>Big.bind (FX _ _) fun _ k hk=>?_;simp only[Big,Bv,Ex.nodes]at hk hp ⊢;omega
theorem oT{E:Nat→Res Ex}{n:Nat}(hE:∀q,Big Ex.nodes q (E q))(q:Nat):Big Ex.nodes q (ES l E n q):=by
 unfold ES;split
 ·exact Vn hE q
 split
 ·simp only[Big,A1,Ex.nodes,Fo.nodes];omega
 split
 ·simp only[Big,A1,Ex.nodes,Fo.nodes];omega
 split
 ·simp only[Big,A1,Ex.nodes,Fo.nodes];omega
 split
 ·refine Big.bind (hE _) fun f p hp=>Big.bind (FX _ _) fun _ k hk=>?_;simp only[Big,Bv]at hk hp ⊢;omega
 split
 ·refine Big.bind (Hm _) fun s p hp=>?_;simp only[Big,Bv,Ex.nodes,Fo.nodes]at hp ⊢;omega
 split
 ·have h:=m3 (n:=n) hE (l:=l) (q+1);revert h;generalize Gi l E n (q+1)=r;intro h;cases r with
  |ok a j=>simp only[Big]at h ⊢;omega
  |bad k=>trivial
  |out=>trivial
 ·trivial
theorem sA{E:Nat→Res Ex}{n:Nat}(hE:∀q,Big Ex.nodes q (E q))(q:Nat):Big Ex.nodes q (Gl l E n q):=by
 unfold Gl;split
 ·exact sO hE q
 refine Big.bind (Hm _) fun s j hj=>?_;split
 ·split
  ·exact SX
  ·refine Big.bind (Hm _) fun s p hp=>?_;simp only[Big,Bv,AC,Ex.nodes,Fo.nodes_one,Fo.nodes]at hj hp ⊢;omega
 ·simp only[Big,Bv,AC,Ex.nodes,Fo.nodes]at hj ⊢;omega
theorem tY{day:Bs→Int}{E:Nat→Res Ex}{n:Nat}(hE:∀q,Big Ex.nodes q (E q))(q:Nat):Big Ex.nodes q (Fc l day E n q):=by
 have hc:∀a b c,Big Ex.nodes q (.ok (A1 a b c) (q+1)):=by
  intro a b c;simp only[Big,A1,Ex.nodes,Fo.nodes];omega
 unfold Fc;split
 ·exact hc _ _ _
 split
 ·split
  ·trivial
  ·exact hc _ _ _
 split
 ·exact hc _ _ _
 split
 ·exact sA hE q
 ·exact oT hE q
theorem Mi(day:Bs→Int):∀n q,Big Ex.nodes q (Aw l day n q):=by
 intro n;induction n with
 |zero=>intro q;trivial
 | succ n ih=>
   intro q;unfold Aw;exact Mk (Mk fun p=>zR (fun p=>Mk (Mk fun p=>xT (fun p=>tM ih (fun p=>tY ih p) n p) n p) p) n p) q
theorem vL(day:Bs→Int)(n:Nat){x:Ex}{j:Nat}(h:C8 l day n= .ok x j):x.nodes+1≤l.length:=by
 have h1:=Mi (l:=l) day n 0;unfold C8 at h;cases hr:Aw l day n 0 with
 | ok y i=>
   rw[hr,Res.bind_ok]at h;rw[hr]at h1;have h2:=WH (l:=l) (o:=True) i;cases he:BP l i with
   | ok u k=>
     rw[he,Res.bind_ok]at h;rw[he]at h2;cases h;have:=h2.2;have:=h2.1;simp only[Big]at h1;omega
   |bad k=>rw[he]at h;cases h
   |out=>rw[he]at h;cases h
 |bad k=>rw[hr]at h;cases h
 |out=>rw[hr]at h;cases h
theorem Pc(day:Bs→Int)(n:Nat)(hn:l.length+2≤n):C8 l day n ≠ .out:=by
 have h:=K5 (l:=l) day n 0;unfold C8;cases hr:Aw l day n 0 with
 | ok y i=>
   rw[Res.bind_ok];unfold BP;split<;>simp[Res.bind]
 |bad k=>simp[Res.bind]
 |out=>rw[hr]at h;exact absurd Ab h
end
open Go.RowKit
def Dx(s:Bs):Except (Int×Int) (List Tok):=
 if 4000<s.length then .error (0,3)else match EU s with
  | .ok l=>if 1200<l.length then .error (0,3)else .ok l
  | .bad k=> .error (k,2)
  | .out=> .error (0,2)
def pU(w:World)(s:Bs)(e:Ending)(w':World):Prop:=w.grownBy w' none∧
 match Dx s with
  | .ok l=>∃v,e= .returned (.tuple #[v,.int .i64 l.length,.int .i64 0])∧TRow w' v l (Ap w.heap.size)∧FO A8 l∧l.length≤1200
  | .error pc=>e= .returned (.tuple #[.slice none 0 0,.int .i64 pc.1,.int .i64 pc.2])∧(pc.2=2∨pc.2=3)
theorem Vi{w:World}(ht:Tabs w.heap.size w)(s:Bs)(hs:s.length≤1000000):Calls Tryz.prog 23 #[str s] w (pU w s):=by
 refine(Aax ht s hs).mono ?_;rintro e w1 ⟨g,h⟩;refine⟨g,?_⟩;unfold Dx;by_cases h4:4000<s.length
 ·rw[if_pos h4]at h ⊢;exact⟨h,.inr rfl⟩
 rw[if_neg h4]at h ⊢;cases hl:EU s with
 |out=>exact absurd hl (LZ s)
 |bad k=>rw[hl]at h;exact⟨h,.inl rfl⟩
 | ok l=>
   rw[hl]at h;replace h:ite _ _ _:=h;simp only[];by_cases hm:1200<l.length
   ·rw[if_pos hm]at h ⊢;exact⟨h,.inr rfl⟩
   ·rw[if_neg hm]at h ⊢;obtain⟨v,rfl,ht⟩:=h;exact⟨v,rfl,ht,nK Ab hl,by omega⟩
inductive PeR (α:Type) where
 |ok (x:α) (n:Nat)
 |no (p c:Int)
def PI(l:List Tok):Res Ex:=C8 l A8 (l.length+2)
def J4(l:List Tok):PeR Ex:=
 match PI l with
 | .ok x j=>if j<l.length then .no j 2 else if Bf x.nodes x.levels then .no 0 3 else .ok x l.length
 | .bad q=> .no q 2
 | .out=> .no 0 2
def peM(s:Bs):PeR Ex:=match Dx s with
 | .ok l=>J4 l
 | .error pc=> .no pc.1 pc.2
abbrev exV0:Value:= .agg zeroE.toArray
def Aai(w:World)(s:Bs)(e:Ending)(w':World):Prop:=w.grownBy w' none∧
 match peM s with
  | .ok x n=>∃v,e= .returned (.tuple #[v,.int .i64 n,.int .i64 0])∧VE (Ap w.heap.size) w' v x
  | .no p c=>e= .returned (.tuple #[exV0,.int .i64 p,.int .i64 c])
theorem Mp{fn:Func}{p i j:Tmp}(h:fn.results=#[.cell p 29,.tmp i,.tmp j])(tmps:Array Value){w:World}{k:Nat}{a0 a1 a2 a3 a4 a5 a6 u v:Value}(hb:Blk w k [a0,a1,a2,a3,a4,a5,a6] 29)
 (hp:tmps.getD p undef= .pointer (some ⟨k,0,none⟩)) (hi:tmps.getD i undef=u) (hj:tmps.getD j undef=v):(results fn tmps).run Tryz.prog w= .ok (.tuple #[.agg #[a0,a1,a2,a3,a4,a5,a6],u,v]) w:=by
 have c0:=hb.cell 0;have c1:=hb.cell 1;have c2:=hb.cell 2;have c3:=hb.cell 3;have c4:=hb.cell 4;have c5:=hb.cell 5;have c6:=hb.cell 6;have hp':tmps[p]?.getD undef= .pointer (some ⟨k,0,none⟩):=by simpa using hp
 have hi':tmps[i]?.getD undef=u:=Lg;have hj':tmps[j]?.getD undef=v:=Qz;simp only[List.getElem?_cons_zero,List.getElem?_cons_succ]at c0 c1 c2 c3 c4 c5 c6;simp[results,h,hp',hi',hj',go_sem,c0,c1,c2,c3,c4,c5,c6]
theorem xS{l:List Tok}{q:Nat}(hq:Ca l (C8 l A8 (l.length+2))=q):J4 l= .no q 2:=by
 have hex:=Pc (l:=l) A8 (l.length+2) (Nat.le_refl _);unfold J4 PI;cases hr:C8 l A8 (l.length+2)with
 | ok x j=>
   rw[hr]at hq;simp only[Ca]at hq ⊢;by_cases hj:j<l.length
   ·rw[if_pos hj]at hq ⊢;rw[hq]
   ·rw[if_neg hj]at hq;omega
 |bad k=>rw[hr]at hq;simp only[Ca]at hq ⊢;rw[hq]
 |out=>exact absurd hr hex
theorem mS{α:Type}(R:Res α)(l:List Tok):Ca l R= -1∨∃q:Nat,Ca l R=q:=by
 cases R with
 | ok x j=>
   simp only[Ca];split
   ·exact .inr ⟨j,rfl⟩
   ·exact .inl rfl
 |bad k=>exact .inr ⟨k,rfl⟩
 |out=>exact .inr ⟨0,rfl⟩
theorem tW{l:List Tok}(hq:Ca l (C8 l A8 (l.length+2))= -1):∃x j,C8 l A8 (l.length+2)= .ok x j∧J4 l=if Bf x.nodes x.levels then .no 0 3 else .ok x l.length:=by
 have hex:=Pc (l:=l) A8 (l.length+2) (Nat.le_refl _);unfold J4 PI;cases hr:C8 l A8 (l.length+2)with
 | ok x j=>
   rw[hr]at hq;refine⟨x,j,rfl,?_⟩;simp only[Ca]at hq ⊢;by_cases hj:j<l.length
   ·rw[if_pos hj]at hq;omega
   ·rw[if_neg hj]
 |bad k=>rw[hr]at hq;simp only[Ca]at hq;omega
 |out=>exact absurd hr hex
theorem kV{w:World}(ht:Tabs w.heap.size w)(s:Bs)(hs:s.length≤1000000):Calls Tryz.prog 9 #[str s] w (Aai w s):=by
 have g0:=World.grownBy_alloc w (.cells zeroE.toArray 29 (0,0)) none;have hB:=Blk.new w zeroE 29;have ht0:=(ht.gbN g0).mono g0.size;go_enter func9,ntmps9;go_wp2_with fail;refine(Vi ht0 s hs).mono ?_;rintro e w1 ⟨g1,h1⟩;have hB1:=hB.gb g1 Ae;have gA:=Z (Ah g0 g1);have HT0:=Z (ht0.gbN g1).glob;have hPM:∀l,Dx s= .ok l→peM s=J4 l:=fun l h=>by unfold peM;rw[h]
 have hlt:=hB1.lt;clear ht0 g0 hB ht hs g1;cases hq:Dx s with
 | error pc=>
   rw[hq]at h1;obtain⟨rfl,hc⟩:=h1;have HQ:=Z (show peM s= .no pc.1 pc.2 by unfold peM;rw[hq]);have hc1:decide (pc.2=0)=false:=Ag;clear hq hPM;obtain⟨cb_0,cb_1,cb_2,cb_3,cb_4,cb_5,cb_6,cb_f⟩:=(hB1).c7;have HB:=Z hB1;clear hB1;go_wp2;exact bodyPost_ret (Mp rfl _ (HB.out.set7 (.int .i64 0) (str []) (.int .i64 0) (.int .i64 0) (str []) (.slice none 0 0) (.slice none 0 0)) rfl rfl rfl) rfl ⟨A5 gA.out (AD w1 w.heap.size (.int .i64 0) (str []) (.int .i64 0) (.int .i64 0) (str []) (.slice none 0 0) (.slice none 0 0)) (.inr (Nat.le_refl _)),by rw[HQ.out];rfl⟩
 | ok l=>
   rw[hq]at h1;obtain⟨v,rfl,hT,hTame,hl⟩:=h1;have hex:=Pc (l:=l) A8 (l.length+2) (Nat.le_refl _);obtain⟨ta,tc,rfl,_⟩:=id hT;have HL:=zK HT0.out hTame (hT.mono fun _ _ _=>trivial) Ab (l.length+2) hex;have HQ:=Z (hPM l hq);have HB:=Z hB1;have HLL:=Z HL;clear hPM hq hTame hT HL hex hB1;go_wp2_with fail;refine HLL.out.mono ?_;rintro e w2 ⟨h,pa,pn,pc,la,ln,lc,rfl,g2,hV⟩;have hB2:=HB.out.gb g2 Ae;have gB:=Z (Ah gA.out g2);have hs2:=g2.size;have hlt2:w.heap.size<w2.heap.size:=Ab;have hno:=fun q=>xS (l:=l) (q:=q);have hgo:=tW (l:=l);have hyes:=mS (C8 l A8 (l.length+2)) l;clear HLL HT0;rcases hyes with hy| ⟨q,hy⟩
   ·obtain⟨x,j,hr,hP⟩:=hgo hy;have hX:=hV x j hr;have hxn:=vL A8 _ hr;rw[hy];clear hgo hno hV hr hy;have HX:=Z hX;obtain⟨pa',pc',la',lc',e1,rp,rl⟩:=hX;rw[e1]at HX ⊢;have HPP:=Z (hP ▸ HQ.out);have HR:=Z (Ac rp rl);clear rp rl e1 hP;have hc1:decide ((0:Int)≤-1)=false:=Ad;obtain⟨cb_0,cb_1,cb_2,cb_3,cb_4,cb_5,cb_6,cb_f⟩:=(hB2).c7;have HB2:=Z hB2;clear hB2;have gK:=World.grownBy_alloc w2 (.cells (hdC x.h (.slice pa' x.h.p.length pc') (.slice la' x.kids.len lc')).toArray 29 (0,0)) none;have hE:=Blk.new w2 (hdC x.h (.slice pa' x.h.p.length pc') (.slice la' x.kids.len lc')) 29;have HS:=Z (sC (HX.out.gb gK Ae) (by unfold Ex.nodes at hxn;omega));have HE:=Z (Ac gK hE);clear gK hE;go_wp2_with fail;refine HS.out.mono ?_;rintro e w3 ⟨rfl,g3⟩;go_wp2_with fail;refine(UE _ _ _).mono ?_;rintro e w4 ⟨rfl,g4⟩;have gM:=Ah (Ah HE.out.1 g3) g4;have hE4:=(HE.out.2.gb g3 Ae).gb g4 Ae;have hR4:=HB2.out.gb gM Ae;have hX4:=HX.out.gb gM Ae;have gT:=Z (Ac (Ah gB.out gM) hX4);have hlt4:=gM.size;clear cb_0 cb_1 cb_2 cb_3 cb_4 cb_5 cb_6 cb_f gM hX4;obtain⟨ce_0,ce_1,ce_2,ce_3,ce_4,ce_5,ce_6,ce_f⟩:=(hE4).c7;obtain⟨cb_0,cb_1,cb_2,cb_3,cb_4,cb_5,cb_6,cb_f⟩:=(hR4).c7;have HR4:=Z hR4;have hltE:=hE4.lt;clear hE4 hR4 g3 g4;cases hLL:Bf x.nodes x.levels with
    | true=>
      have HF:=Z (show peM s= .no 0 3 by rw[HPP.out];rw[hLL];rfl);clear hLL;go_wp2;exact bodyPost_ret (Mp rfl _ (HR4.out.set7 (.int .i64 0) (str []) (.int .i64 0) (.int .i64 0) (str []) (.slice none 0 0) (.slice none 0 0)) rfl rfl rfl) rfl ⟨A5 gT.out.1 (AD w4 w.heap.size (.int .i64 0) (str []) (.int .i64 0) (.int .i64 0) (str []) (.slice none 0 0) (.slice none 0 0)) (.inr (Nat.le_refl _)),by rw[HF.out];rfl⟩
    | false=>
      have HF:=Z (show peM s= .ok x l.length by rw[HPP.out];rw[hLL];rfl);clear hLL;go_wp2;have g7:=AD w4 w.heap.size (.int .i64 x.h.op) (str x.h.s) (.int .i64 x.h.vk) (.int .i64 x.h.vn) (str x.h.vs) (.slice pa' x.h.p.length pc') (.slice la' x.kids.len lc');refine bodyPost_ret (Mp rfl _ (HR4.out.set7 (.int .i64 x.h.op) (str x.h.s) (.int .i64 x.h.vk) (.int .i64 x.h.vn) (str x.h.vs) (.slice pa' x.h.p.length pc') (.slice la' x.kids.len lc')) rfl rfl rfl) rfl ⟨A5 gT.out.1 g7 (.inr (Nat.le_refl _)),?_⟩;rw[HF.out];exact⟨_,rfl,(gT.out.2.gb g7 (by intro q hq _ e;cases e;simp at hq;omega)).mono (by intro q hq _;simp at hq ⊢;omega)⟩
   ·rw[hy];have HQ2:=Z (show peM s= .no q 2 by rw[HQ.out,hno q hy]);clear hgo hno hV;have hc1:decide ((0:Int)≤(q:Int))=true:=Ae;obtain⟨cb_0,cb_1,cb_2,cb_3,cb_4,cb_5,cb_6,cb_f⟩:=(hB2).c7;have HB2:=Z hB2;clear hB2;go_wp2;have hBA:=(HB2.out.set7 (.int .i64 0) (str []) (.int .i64 0) (.int .i64 0) (str []) (.slice none 0 0) (.slice none 0 0)).alloc (.cells (hdC h (.slice pa pn pc) (.slice la ln lc)).toArray 29 (0,0));have gBA:=Ar (A5 gB.out (AD w2 w.heap.size (.int .i64 0) (str []) (.int .i64 0) (.int .i64 0) (str []) (.slice none 0 0) (.slice none 0 0)) (.inr (Nat.le_refl _))) (.cells (hdC h (.slice pa pn pc) (.slice la ln lc)).toArray 29 (0,0));exact bodyPost_ret (Mp rfl _ hBA rfl rfl rfl) rfl ⟨gBA,by rw[HQ2.out];rfl⟩
section
variable {b:Nat}{tv wv:Value}{l:List Tok}{wl:List Bs}
def IJ(l:List Tok)(expr:Nat→Res Ex)(i:Nat):Res Ex:=
 if Ak (Af l i) [38]then EW l expr i
 else(AW l i).bind fun s j=>
  if Ak (Af l j) [91]then(expr (j+1)).bind fun x k=>(Br l [93] k).bind fun _ k=> .ok (DN (AC s) x) k
  else if Ak (Af l j) [45,62]then(AW l (j+1)).bind fun t k=> .ok ⟨hd0 2 s,.one (AC t)⟩ k
  else .ok (AC s) j
theorem Ab3{b:Nat}{tv wv:Value}{l:List Tok}{wl:List Bs}{w w1 w2:World}{op:Int}{s t:Bs}{x:Ex}{pa la:Option Addr}{pc lc j:Nat}{r:Res Ex}{ok:Nat→Prop}(hb:b<w.heap.size)
 (hr:r= .ok ⟨hd0 op s,.two (AC t) x⟩ j) (gr:w.grownBy w1 (some b)) (rp:Cells w1 (.slice pa x.h.p.length pc) 1 x.h.p.length (x.h.p.map str) ok) (rl:RepL ok w1 (.slice la x.kids.len lc) x.kids) (hok:∀k,ok k→w.heap.size<k)
 (hp:Par w1 b tv wv l wl j) (g7:w1.grownBy w2 (some w.heap.size)) (hsz:w2.heap.size=w1.heap.size):
 PE b tv wv l wl w r (.returned (exV (hd0 op s) (.slice none 0 0) (.slice (some ⟨w1.heap.size,0,none⟩) 2 2))) (w2.alloc (.cells (hdC (AC t).h (.slice none 0 0) (.slice none 0 0)++hdC x.h (.slice pa x.h.p.length pc) (.slice la x.kids.len lc)).toArray 29 (0,0))):=by
 have hlt:=gr.size;have rp':=rp.gb g7 JN;have rl':=rl.gb g7 JN;have hV:VE (Ap w.heap.size) (w2.alloc (.cells (hdC (AC t).h (.slice none 0 0) (.slice none 0 0)++hdC x.h (.slice pa x.h.p.length pc) (.slice la x.kids.len lc)).toArray 29 (0,0))) (exV (hd0 op s) (.slice none 0 0) (.slice (some ⟨w1.heap.size,0,none⟩) 2 2)) ⟨hd0 op s,.two (AC t) x⟩:=
  VE.node (f:= .two (AC t) x) (RepL.two (ok:=Ap w.heap.size) (n:=w1.heap.size) hsz.symm X8 (Cells.nil _ _ _) (RepL.nil _ _) (rp'.mono JM) (rl'.mono JM))
 exact Post.ok (Ar (A5 gr g7 (.inr (Nat.le_refl _))) _) hr hV ((hp.gb g7 A6).alloc _)
theorem lH{E:Nat→Res Ex}(hE:CE 56 b tv wv l wl E)(hl:AF l):CE 182 b tv wv l wl (IJ l E):=by
 have Jf{P}(h:P:=by
 have H:=Z (Ac hE (Ac hl ho));generalize hR:IJ l E i=R at*;have HQ:=Z hR;rw[IJ]at HQ;clear hE hl ho hR;go_enter func182,ntmps182;go_wp2_with fail;refine(CI hp).mono ?_;rintro e w1 ⟨rfl,g⟩;have DB{P}(h:P:=by
 have hs0:=hz.lt;go_wp2_with fail;refine(Hg _ _ _ [38] _).mono ?_;have Rq{P}(h:P:=by
 cases hs:Ak (Af l i) [38]with
 | true=>
   have hs':((Af l i).kind==4&&(Af l i).text==[38])=true:=hs;rw[hs'];replace HQ:=HQr HQ EI;go_wp2_with fail;refine(VA H.out.1 H.out.2.1 _ _ hp (fun e=>H.out.2.2 Cg)).mono ?_;intro e w3 hq;exact JR
 |false=>
 have hs':((Af l i).kind==4&&(Af l i).text==[38])=false:=hs;rw[hs'];clear hs';replace HQ:=HQr HQ Cx;go_wp2_with fail;refine(C4 hp H.out.2.1).mono ?_;intro e w3 hq;have N5{P}(h:P:=by
 have BW{P}(h:P:=by
 replace hz:=hz.gb g Ag;clear g;go_wp2_with fail;cases hs:Ak (Af l j) [91]with
 | true=>
   refine(BC hp _ hs).mono ?_;rintro e w4 ⟨rfl,hp',g⟩;have Hb{P}(h:P:=by
   refine(H.out.1 _ _ hp (fun e=>H.out.2.2 B8)).mono ?_;intro e w6 hq;have R0{P}(h:P:=by
   have BW{P}(h:P:=by
   replace hz:=hz.gb g Ag;have hk:=Kept.new hb gr hz hp (rp.mono fun g hg _=>by have:w4.heap.size≤g:=hg;show w.heap.size<g;omega) (rl.mono fun g hg _=>by have:w4.heap.size≤g:=hg;show w.heap.size<g;omega) rfl;clear rp rl g hz;go_wp2_with fail;replace gr:=hk.gr;refine(Ec hk.par [93]).mono ?_;intro e w7 hq;obtain⟨g,⟨q,hr,rfl⟩| ⟨_,j3,v,hr,rfl,rfl,hp⟩⟩:=hq.split
   ·exact CV
   have BW{P}(h:P:=by have iL{P}(h:P:=by have Fx{P}(h:P:=by have RW{P}(h:P:=by have g7:=AD w7 w.heap.size (.int .i64 6) (str []) (.int .i64 0) (.int .i64 0) (str []) (.slice none 0 0) (.slice (some ⟨w7.heap.size,0,none⟩) 2 2);have hW:=hz.set7 (.int .i64 6) (str []) (.int .i64 0) (.int .i64 0) (str []) (.slice none 0 0) (.slice (some ⟨w7.heap.size,0,none⟩) 2 2);have hsz:(set7 w7 w.heap.size (.int .i64 6) (str []) (.int .i64 0) (.int .i64 0) (str []) (.slice none 0 0) (.slice (some ⟨w7.heap.size,0,none⟩) 2 2)).heap.size=w7.heap.size:=Ii;simp only[set7]at hW g7 hsz;generalize(((((((w7.setCell {block:=w.heap.size,off:=0} (.int .i64 6)).setCell {block:=w.heap.size,off:=1} (str [])).setCell {block:=w.heap.size,off:=2} (.int .i64 0)).setCell {block:=w.heap.size,off:=3} (.int .i64 0)).setCell {block:=w.heap.size,off:=4} (str [])).setCell {block:=w.heap.size,off:=5} (.slice none 0 0)).setCell {block:=w.heap.size,off:=6} (.slice (some ⟨w7.heap.size,0,none⟩) 2 2))=W' at*;exact bodyPost_ret (AX (hd:=hd0 6 []) (pv:= .slice none 0 0) (lv:= .slice (some ⟨w7.heap.size,0,none⟩) 2 2) rfl _ (Blk.alloc hW (.cells (hdC (AC s).h (.slice none 0 0) (.slice none 0 0)++hdC x.h (.slice pa x.h.p.length pc) (.slice la x.kids.len lc)).toArray 29 (0,0))) rfl) rfl (Ab3 (op:=6) (s:=[]) (t:=s) hb HQ.out.symm gr HV.out.1 HV.out.2 (fun k hk=>hk) hp g7 hsz)):=Aa h;exact Rb):=Aa h;exact Fq):=Aa h;exact ZS):=Aa h;exact BV):=Aa h;exact BV):=Aa h;exact O5):=Aa h;exact GX
 | false=>
   refine(B5 hp _ hs).mono ?_;rintro e w4 ⟨rfl,g⟩;have DB{P}(h:P:=by
   replace HQ:=HQr HQ Cx;go_wp2_with fail;cases hs:Ak (Af l j) [45,62]with
   | false=>
     refine(B5 hp _ hs).mono ?_;rintro e w5 ⟨rfl,g⟩;have DB{P}(h:P:=by exact Y7):=Aa h;exact D7
   |true=>
   refine(BC hp _ hs).mono ?_;rintro e w5 ⟨rfl,hp',g⟩;have Hb{P}(h:P:=by refine(C4 hp H.out.2.1).mono ?_;exact XM):=Aa h;exact GX):=Aa h;exact D7):=Aa h
 exact BV):=Aa h;exact LQ):=Aa h;exact Op):=Aa h;exact D7):=Aa h;exact Jb
end
section
variable {b:Nat}{tv wv:Value}{l:List Tok}{wl:List Bs}
def endsText:Bs:=[69,76,83,69,73,70,32,69,76,83,69,32,69,78,68,73,70,32,67,65,83,69,32,79,84,72,69,82,87,73,83,69,32,69,78,68,67,65,83,69,32,69,78,68,68,79,32,78,69,88,84,32,82,69,67,79,86,69,82,32,69,78,68,32,80,82,79,67,69,68,85,82,69,32,70,85,78,67,84,73,79,78]
theorem p8:endsText.all (fun b=>decide (b.toNat<128))=true:=En
def endsL:List Bs:=[[69,76,83,69,73,70],[69,76,83,69],[69,78,68,73,70],[67,65,83,69],[79,84,72,69,82,87,73,83,69],[69,78,68,67,65,83,69],[69,78,68,68,79],[78,69,88,84],[82,69,67,79,86,69,82],[69,78,68],[80,82,79,67,69,68,85,82,69],[70,85,78,67,84,73,79,78]]
theorem nA:Lib.fields endsText=endsL:=En
def Mj(s:Bs):Bool:=Lib.containsS (endsL.map fun x=>⟨x.toArray⟩) ⟨s.toArray⟩
theorem Ux(s:Bs){w:World}(hg:Glob w):Calls Tryz.prog 128 #[str s] w fun e w'=>e= .returned (.bool (Mj s))∧w.grownBy w' none:=by
 have HG:=Z hg;clear hg;go_enter func128,ntmps128;go_wp2_with fail;refine(strings_Fields ⟨endsText.toArray⟩ w En ?_ HG.out).mono ?_
 ·intro j b hb;have hb:endsText[j]? =some b:=hb;have h2:=List.all_eq_true.1 p8 b (List.mem_of_getElem? hb);simpa using h2
 rintro e w1 ⟨rfl,rfl⟩;rw[show(Lib.fields (ByteArray.mk endsText.toArray).data.toList)=endsL from nA];have hn:endsL.length=12:=rfl;have HN:=Z hn;clear hn;generalize hE:endsL=E at*;go_wp2_with fail;refine(slices_Contains_string w.heap.size 0 E.length E.length (E.map fun x=>⟨x.toArray⟩) ⟨s.toArray⟩ _ Ae Lf ?_).mono ?_
 ·intro j hj;simp at hj;simp[List.getD,hj]
 rintro e w2 ⟨rfl,rfl⟩;go_wp2;go_ret;exact⟨by rw[List.take_of_length_le Ae,Mj,hE];rfl,World.grownBy_alloc w _ none⟩
end
def set10(w:World)(k:Nat)(v0 v1 v2 v3 v4 v5 v6 v7 v8 v9:Value):World:=
 (((set7 w k v0 v1 v2 v3 v4 v5 v6).setCell ⟨k,7,none⟩ v7).setCell ⟨k,8,none⟩ v8).setCell ⟨k,9,none⟩ v9
theorem Blk.set10{w:World}{k:Nat}{a0 a1 a2 a3 a4 a5 a6 a7 a8 a9:Value}{t:TypeId}(h:Blk w k [a0,a1,a2,a3,a4,a5,a6,a7,a8,a9] t)(v0 v1 v2 v3 v4 v5 v6 v7 v8 v9:Value):Blk (set10 w k v0 v1 v2 v3 v4 v5 v6 v7 v8 v9) k [v0,v1,v2,v3,v4,v5,v6,v7,v8,v9] t:=
 ((((((((((h.set 0 v0).set 1 v1).set 2 v2).set 3 v3).set 4 v4).set 5 v5).set 6 v6).set 7 v7).set 8 v8).set 9 v9).of_eq rfl rfl
theorem FZ(w:World)(k:Nat)(v0 v1 v2 v3 v4 v5 v6 v7 v8 v9:Value):w.grownBy (set10 w k v0 v1 v2 v3 v4 v5 v6 v7 v8 v9) (some k):=
 As (As (As (AD w k v0 v1 v2 v3 v4 v5 v6) 7 v7) 8 v8) 9 v9
theorem vS:(match(Tryz.prog.underlying 50)with|some (.struct _)=>true|_=>false)=true:=Bk
theorem FL{fn:Func}{p:Tmp}(h:fn.results=#[.cell p 50])(tmps:Array Value){w:World}{k:Nat}{cs:List Value}(hb:Blk w k cs 50)(hn:cs.length=10)(hp:tmps.getD p undef= .pointer (some ⟨k,0,none⟩)):
 (results fn tmps).run Tryz.prog w= .ok (.agg cs.toArray) w:=by
 have hs:=vS;cases hu:Tryz.prog.underlying 50 with
 |none=>rw[hu]at hs;cases hs
 | some d=>
   rw[hu]at hs;exact results_cell_row h tmps w k 50 cs.toArray (0,0) d hp hb hu (by cases d<;>simp_all) (by rw[List.size_toArray,hn];show(Tryz.prog.info? 50).map (·.size)=some 10;kernel_rfl)
abbrev stC(op:Int)(xv:Value):List Value:=[.int .i64 op,str [],str [],.slice none 0 0,xv,.slice none 0 0,.int .i64 0,.slice none 0 0,.slice none 0 0,.slice none 0 0]
section
variable {b:Nat}{tv wv:Value}{l:List Tok}{wl:List Bs}
structure SetPre(b:Nat)(tv wv:Value)(l:List Tok)(wl:List Bs)(w:World)(t x:Ex)(pa la pa2 la2:Option Addr)(pc lc pc2 lc2 k:Nat)(ok:Nat→Prop)(W:World):Prop where
 par:Par W b tv wv l wl k
 tp:Cells W (.slice pa t.h.p.length pc) 1 t.h.p.length (t.h.p.map str) ok
 tl:RepL ok W (.slice la t.kids.len lc) t.kids
 xp:Cells W (.slice pa2 x.h.p.length pc2) 1 x.h.p.length (x.h.p.map str) ok
 xl:RepL ok W (.slice la2 x.kids.len lc2) x.kids
 gr:w.grownBy W (some b)
 zero:Blk W w.heap.size (stC 0 (.slice none 0 0)) 50
 lt:b<w.heap.size
 hok:∀q,ok q→w.heap.size<q
structure ME(b:Nat)(tv wv:Value)(l:List Tok)(wl:List Bs)(w:World)(t x:Ex)(k kS kR:Nat)(W:World):Prop where
 par:Par W b tv wv l wl k
 row:RepL (fun q=>w.heap.size<q) W (.slice (some ⟨kR,0,none⟩) 2 2) (.two t x)
 st:Blk W kS (stC 0 (.slice (some ⟨kR,0,none⟩) 2 2)) 50
 gr:w.grownBy W (some b)
 zero:Blk W w.heap.size (stC 0 (.slice none 0 0)) 50
 ne:w.heap.size<kS
 lt:b<w.heap.size
section
variable {w W:World}{t x:Ex}{pa la pa2 la2:Option Addr}{pc lc pc2 lc2 k:Nat}
abbrev rowO(t x:Ex)(pa la pa2 la2:Option Addr)(pc lc pc2 lc2:Nat):Obj:= .cells (hdC t.h (.slice pa t.h.p.length pc) (.slice la t.kids.len lc)++hdC x.h (.slice pa2 x.h.p.length pc2) (.slice la2 x.kids.len lc2)).toArray 29 (0,0)
abbrev stO(kR:Nat):Obj:= .cells (stC 0 (.slice (some ⟨kR,0,none⟩) 2 2)).toArray 50 (0,0)
theorem SetPre.A{ok:Nat→Prop}(h:SetPre b tv wv l wl w t x pa la pa2 la2 pc lc pc2 lc2 k ok W):ME b tv wv l wl w t x k (W.heap.size+1) W.heap.size ((W.alloc (rowO t x pa la pa2 la2 pc lc pc2 lc2)).alloc (stO W.heap.size)):=by
 have hs:=h.gr.size;have hz:=h.zero.lt;have ho:∀q,ok q→q<W.heap.size→w.heap.size<q:=fun q hq _=>h.hok q hq;have g2:=World.grownBy_alloc (W.alloc (rowO t x pa la pa2 la2 pc lc pc2 lc2)) (stO W.heap.size) none;exact⟨(h.par.alloc _).alloc _,(RepL.two (ok:=fun q=>w.heap.size<q) rfl hz (h.tp.mono ho) (h.tl.mono ho) (h.xp.mono ho) (h.xl.mono ho)).gb g2 Ae,(Blk.new _ _ _).of_eq Ae rfl,Ar (Ar h.gr _) _,(h.zero.alloc _).alloc _,by omega,h.lt⟩
theorem SetPre.B{ok:Nat→Prop}(h:SetPre b tv wv l wl w t x pa la pa2 la2 pc lc pc2 lc2 k ok W):ME b tv wv l wl w t x k W.heap.size (W.heap.size+1) ((W.alloc (stO (W.heap.size+1))).alloc (rowO t x pa la pa2 la2 pc lc pc2 lc2)):=by
 have hs:=h.gr.size;have hz:=h.zero.lt;have ho:∀q,ok q→q<W.heap.size→w.heap.size<q:=fun q hq _=>h.hok q hq;have g1:=World.grownBy_alloc W (stO (W.heap.size+1)) none;exact⟨(h.par.alloc _).alloc _,RepL.two (ok:=fun q=>w.heap.size<q) Ae (by show w.heap.size<_;omega) ((h.tp.mono ho).gb g1 Ae) ((h.tl.mono ho).gb g1 Ae) ((h.xp.mono ho).gb g1 Ae) ((h.xl.mono ho).gb g1 Ae),(Blk.new _ _ _).alloc _,Ar (Ar h.gr _) _,(h.zero.alloc _).alloc _,hz,h.lt⟩
theorem SetPre.C{ok:Nat→Prop}(h:SetPre b tv wv l wl w t x pa la pa2 la2 pc lc pc2 lc2 k ok W){kS:Nat}(hS:Blk W kS (stC 0 (.slice none 0 0)) 50)(h8:w.heap.size<kS)(hk:∀q,ok q→q≠kS):
 ME b tv wv l wl w t x k kS W.heap.size ((set10 W kS (.int .i64 0) (str []) (str []) (.slice none 0 0) (.slice (some ⟨W.heap.size,0,none⟩) 2 2) (.slice none 0 0) (.int .i64 0) (.slice none 0 0) (.slice none 0 0) (.slice none 0 0)).alloc (rowO t x pa la pa2 la2 pc lc pc2 lc2)):=by
 have hs:=h.gr.size;have hz:=h.zero.lt;have hb:=h.lt;have g1:=FZ W kS (.int .i64 0) (str []) (str []) (.slice none 0 0) (.slice (some ⟨W.heap.size,0,none⟩) 2 2) (.slice none 0 0) (.int .i64 0) (.slice none 0 0) (.slice none 0 0) (.slice none 0 0);have hsz:(set10 W kS (.int .i64 0) (str []) (str []) (.slice none 0 0) (.slice (some ⟨W.heap.size,0,none⟩) 2 2) (.slice none 0 0) (.int .i64 0) (.slice none 0 0) (.slice none 0 0) (.slice none 0 0)).heap.size=W.heap.size:=Q0;have ho:∀q,ok q→q<(set10 W kS (.int .i64 0) (str []) (str []) (.slice none 0 0) (.slice (some ⟨W.heap.size,0,none⟩) 2 2) (.slice none 0 0) (.int .i64 0) (.slice none 0 0) (.slice none 0 0) (.slice none 0 0)).heap.size→w.heap.size<q:=fun q hq _=>h.hok q hq;have hn:∀q,ok q→q<W.heap.size→some q≠some kS:=fun q hq _ e=>by cases e;exact hk _ hq rfl
 exact⟨(h.par.gb g1 A6).alloc _,RepL.two (ok:=fun q=>w.heap.size<q) hsz.symm (by show w.heap.size<_;omega) ((h.tp.gb g1 hn).mono ho) ((h.tl.gb g1 hn).mono ho) ((h.xp.gb g1 hn).mono ho) ((h.xl.gb g1 hn).mono ho),(hS.set10 _ _ _ _ _ _ _ _ _ _).alloc _,Ar (A5 h.gr g1 (.inr Ab)) _,(h.zero.gb g1 Ag).alloc _,h8,h.lt⟩
end
end
def CW:List (Bs×Value)→Nat→List MapEntry
 | [],_=>[]
 | (k,v)::l,n=>{key:=str k,val:=v,born:=n}::CW l (n+1)
def Bh(l:List (Bs×Value)):Obj:= .map (CW l 0).toArray l.length
theorem UH(l:List (Bs×Value))(k:Bs)(v:Value):∀n,CW (l++[(k,v)]) n=CW l n++[{key:=str k,val:=v,born:=n+l.length}]:=by
 induction l with
 |nil=>intro n;simp[CW]
 |cons x l ih=>intro n;obtain⟨a,b⟩:=x;simp[CW,ih,Nat.add_assoc,Nat.add_comm 1]
def CO(s:Bs):List (Bs×Value)→Nat→Option (Nat×Value)
 | [],_=>none
 | (k,v)::l,i=>if s==k then some (i,v)else CO s l (i+1)
theorem OC(s:Bs)(l:List (Bs×Value)):∀n i,Instr.findNow .string (str s) (CW l n) i=some (CO s l i):=by
 induction l with
 |nil=>intro n i;simp[CW,Instr.findNow,CO]
 | cons x l ih=>
   intro n i;obtain⟨a,b⟩:=x;simp only[CW,Instr.findNow,Instr.sameNow,Xi,CO];cases h:s==a
   ·simp[ih]
   ·simp
def Gk(k:Bs):List (Bs×Value)→Prop
 | []=>True
 |x::l=>k≠x.1∧Gk k l
theorem OA(k:Bs):Gk k []:=trivial
theorem Ob(k a:Bs)(b:Value)(l:List (Bs×Value)):Gk k ((a,b)::l)=(k≠a∧Gk k l):=rfl
theorem Vj(k:Bs)(l:List (Bs×Value))(hf:Gk k l):∀i,CO k l i=none:=by
 induction l with
 |nil=>intro i;rfl
 | cons x l ih=>
   intro i;simp only[CO];rw[if_neg (by simpa using hf.1)];exact ih hf.2 _
theorem wB{P:Program}{mty kt et:TypeId}(hm:P.underlying mty=some (.map kt et))(hk:P.underlying kt=some .string)(w:World)(l:List (Bs×Value))(r:Nat)(hr:r=w.heap.size)(k:Bs)(v:Value)(hf:Gk k l):
 (Instr.mapUpdate mty (.map (some r)) (str k) v).run P (w.alloc (Bh l))= .ok () (w.alloc (Bh (l++[(k,v)]))):=by
 subst hr;have hb:(w.alloc (Bh l)).heap[w.heap.size]? =some (.map (CW l 0).toArray l.length):=heap_alloc_new w _;have hf:Instr.findNow .string (str k) (CW l 0) 0=some none:=by rw[OC,Vj k l hf]
 have hc:(Instr.checkKey false 10000 kt (str k)).run P (w.alloc (Bh l))= .ok () (w.alloc (Bh l)):=MapKept.run_checkKey (k:=str k) hk Lj false 9999;simp[Instr.mapUpdate,run_underlying hm,MapKept.run_getObj_map hb,hc,MapKept.run_findKey hk hf,MapKept.run_setObj_map _ hb,Result.andThen];have e:=Ui w (Bh l) (Bh (l++[(k,v)]));have e2:(Obj.map (CW l 0++[({key:=str k,val:=v,born:=l.length}:MapEntry)]).toArray (l.length+1))=Bh (l++[(k,v)]):=by simp[Bh,UH]
 rw[e2];show({w with heap:=(w.heap.push (Bh l)).setIfInBounds w.heap.size (Bh (l++[(k,v)]))}:World)={w with heap:=w.heap.push (Bh (l++[(k,v)]))};rw[e]
theorem oN{P:Program}{mty kt et:TypeId}(hm:P.underlying mty=some (.map kt et))(hk:P.underlying kt=some .string)(w:World)(l:List (Bs×Value))(r:Nat)(hb:w.heap[r]? =some (Bh l))(k:Bs)(z:Value)(hz:(zeroValue et).run P w= .ok z w):
 (Instr.lookup mty (.map (some r)) (str k) false).run P w= .ok (match CO k l 0 with|some (_,v)=>v|none=>z) w:=by
 exact YJ
theorem nO{P:Program}{mty kt et:TypeId}(hm:P.underlying mty=some (.map kt et))(hk:P.underlying kt=some .string)(w:World)(l:List (Bs×Value))(r:Nat)(hb:w.heap[r]? =some (Bh l))(k:Bs)(z:Value)(hz:(zeroValue et).run P w= .ok z w):
 (Instr.lookup mty (.map (some r)) (str k) true).run P w= .ok (.tuple #[(match CO k l 0 with|some (_,v)=>v|none=>z),.bool (CO k l 0).isSome]) w:=by
 exact YJ
theorem Mq(w:World):(Instr.makeMap 181 none).run Tryz.prog w= .ok (.map (some w.heap.size)) (w.alloc (Bh [])):=run_makeMap_plain w _
theorem OQ(w:World)(l:List (Bs×Value))(r:Nat)(hr:r=w.heap.size)(k:Bs)(v:Int)(hf:Gk k l):
 (Instr.mapUpdate 181 (.map (some r)) (.string ⟨k.toArray⟩) (.int .i64 v)).run Tryz.prog (w.alloc (Bh l))= .ok () (w.alloc (Bh (l++[(k,.int .i64 v)]))):=
 wB underlying181 underlying9 w l r hr k _ hf
theorem Wu(w:World):(zeroValue 3).run Tryz.prog w= .ok (.int .i64 0) w:=Bk
theorem OF{w:World}{l:List (Bs×Value)}{r:Nat}(hb:w.heap[r]? =some (Bh l))(k:Bs):
 (Instr.lookup 181 (.map (some r)) (str k) false).run Tryz.prog w= .ok (match CO k l 0 with|some (_,v)=>v|none=> .int .i64 0) w:=
 oN underlying181 underlying9 w l r hb k _ (Wu w)
theorem r5{w:World}{l:List (Bs×Value)}{r:Nat}(hb:w.heap[r]? =some (Bh l))(k:Bs):
 (Instr.lookup 181 (.map (some r)) (str k) true).run Tryz.prog w= .ok (.tuple #[(match CO k l 0 with|some (_,v)=>v|none=> .int .i64 0),.bool (CO k l 0).isSome]) w:=
 nO underlying181 underlying9 w l r hb k _ (Wu w)
end Go.Proofs.YtmcajbhljbbglaaGreatDoor
