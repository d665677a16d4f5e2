/-
  Code: Validate, the program's: jumps, texts that are too long. KsC KgF KgI RrL KgC KgU KgV PgN SizeB PgO RpA VaA Code: two hexadecimal digits, as strconv.ParseUint reads them. Code: the reference's re
-/
import Derived.Test.YtbjfaimkiclhgaaGreatDoorCt07
import Derived.Test.YtbjfaimkiclhgaaGreatDoorCt03
import Derived.Test.YtbjfaimkiclhgaaGreatDoorCt11
import Derived.Test.YtbjfaimkiclhgaaGreatDoorCt09
import Derived.Test.YtbjfaimkiclhgaaGreatDoorCt02
import Derived.Test.YtbjfaimkiclhgaaGreatDoorCt04
import Derived.Deep.Cut
import Derived.Laws.AppendOwn
import Derived.Laws.OwnMore
import Derived.Test.YtbjfaimkiclhgaaGreatDoorCt05
import Derived.Test.YtbjfaimkiclhgaaGreatDoorCt10
import Derived.Test.YtbjfaimkiclhgaaGreatDoorCt08
import Derived.Lib.SplitLaws
import Derived.Test.YtbjfaimkiclhgaaGreatDoorRows
import Derived.OpenShut
import Derived.SliceStrings
set_option linter.all false
set_option maxRecDepth 100000
set_option maxHeartbeats 8000000
namespace Go.Proofs.YtbjfaimkiclhgaaGreatDoor
open Go.Proofs.Tryz
open Go.RowKit
variable{w w1:World}{v tv:Value}{l:List Tok}{ok ok':Nat->Prop}{m b pc lc k i n:Nat}{x:Ex}{pa la:Option Addr}{cs:List Value}{st:RS}{s:Bs}{W:List Bs}{P:Program}{L:Array Bool}{α β:Type}{c:Nat->Bool}{a:Addr}
def Gk(n:Int):Bool:=([6,8,9,11,14]:List Int).contains n
def Se(n:Int)(w:World):Calls Tryz.prog 79 #[.int .i64 n] w (ρ w (.bool (Gk n))):=by
 have gA:=gZ w (.cells #[.int .i64 6,.int .i64 8,.int .i64 9,.int .i64 11,.int .i64 14] 3 (0,0)) none;have hb:=Blk.new w [.int .i64 6,.int .i64 8,.int .i64 9,.int .i64 11,.int .i64 14] 3;have HC:=S ((slices_Contains_int w.heap.size 0 5 5 [6,8,9,11,14] n (w.alloc (.cells #[.int .i64 6,.int .i64 8,.int .i64 9,.int .i64 11,.int .i64 14] 3 (0,0))) (by decide) (by decide) (by
  intro j hj;rw[Nat.zero_add];have h:j=0\/j=1\/j=2\/j=3\/j=4:=by simp at hj;omega
  rcases h with rfl|rfl|rfl|rfl|rfl<;>exact hb.cell' _ rfl)).mono λe w' h=>(show e= .returned (.bool (Gk n))/\w'=_ from h))
 have HG:=S gA;clear gA hb;go_enter func79,ntmps79;go_wp2_with fail;refine HC.1.mono ?_;rintro e w1 ⟨rfl,rfl⟩;go_wp2;go_ret;exact⟨rfl,HG.1⟩
def DJ(c:Cd):Bool:=decide (4000<c.s.length)
def P1(c:Cd)(hc:c.s.length<=1000000000)(w:World):Calls Tryz.prog 52 #[.agg #[.int .i64 c.op,.int .i64 c.a,.int .i64 c.b,str c.s]] w (ρ w (.bool (DJ c))):=by
 have hq:decide ((4000:Int)<(c.s.length:Int))=DJ c:=by unfold DJ;rw[Bool.eq_iff_iff];simp;omega
 go_enter func52,ntmps52;go_wp2;go_ret;exact⟨rfl,gZ _ _ _⟩
def DC(l:List Cd)(k:Nat):Bool:=(l.take k).any DJ
def OP{l:List Cd}(h:Cells w v 4 l.length (A9 l) ok)(hl:∀c∈l,c.s.length<=1000000000):
 Calls Tryz.prog 77 #[v,.func (.func 52) #[] #[]] w λe w'=>∃i:Int,e= .returned (.int .i64 i)/\decide (0<=i)=l.any DJ/\w.grownBy w' none:=by
 obtain⟨a,cap,rfl,_,hmx,_⟩:=id h;have HC:=S (X h hl);have hln:l.length<=9223372036854775807:=by unfold maxLen at hmx;omega
 clear h hl;go_enter func77,ntmps77;go_wp2_with fail;go_loopg [5,8] l.length (λg v5 v8 wr=>∃k:Nat,k+g=l.length/\v8= .int .i64 k/\DC l k=false/\w.grownBy wr none)
 case atStart=>exact⟨0,by omega,rfl,rfl,Aa _ _⟩
 case round=>
  obtain⟨k,hk,rfl,hq,hg⟩:=hrel;cases gk with
  | zero=>
    have hk1:k=l.length:=by omega
    have hj1:decide (k<l.length)=false:=by simp;omega
    subst hk1;have HX:=S (X hg hq);clear hg hq;go_wp2;go_ret;exact⟨-1,rfl,by have h:=HX.1.2;rw[DC,List.take_length]at h;rw[h];rfl,HX.1.1⟩
  | succ gk=>
    have hkl:k<l.length:=by omega
    have hj1:decide (k<l.length)=true:=by simpa using hkl
    obtain⟨c,hc⟩:∃c,l[k]? =some c:=⟨_,AQ hkl⟩;obtain⟨g,o,rfl,_,hgl,c0,c1,c2,c3⟩:=HC.1.1.cd hc;have d0:=Ad hg c0;have d1:=Ad hg c1;have d2:=Ad hg c2;have d3:=Ad hg c3;have HX:=S (X hg (X hq hc));have HK:=S (λW=>P1 c (HC.1.2 c (List.mem_of_getElem? hc)) W);clear hg hq hc c0 c1 c2 c3;go_wp2_with fail;refine mR (HK.1 _) λw2 g2=>?_;have H2:=S (Z HX.1.1 g2);clear g2;cases hlc:DJ c with
    | true=>
      have HT:=S (show l.any DJ=true from List.any_eq_true.2 ⟨c,List.mem_of_getElem? HX.1.2.2,hlc⟩);go_wp2;go_ret;exact⟨_,rfl,by rw[HT.1];simp,H2.1⟩
    | false=>
      have HT:=S (show DC l (k+1)=false by
       rw[DC,List.take_add_one,HX.1.2.2,List.any_append];have h:=HX.1.2.1;rw[DC]at h;rw[h];simp[hlc])
      go_wp2;go_roundg gk
      case measure=>omega
      case rel=>exact⟨k+1,by omega,by go_num,HT.1,H2.1⟩
def OA{l:List Cd}(h:Cells w v 4 l.length (A9 l) ok)(hl:∀c∈l,c.s.length<=1000000000):
 Calls Tryz.prog 51 #[v,.func (.func 52) #[] #[]] w (ρ w (.bool (l.any DJ))):=by
 have HI:=S (OP h hl);clear h hl;go_enter func51,ntmps51;go_wp2_with fail;refine HI.1.mono ?_;rintro e w1 ⟨i,rfl,hi,g1⟩;go_wp2;go_ret;exact⟨rfl,g1⟩
def Gl(u:Un):Bool:=u.code.any DJ
def Qy{ra ca:Option Addr}{rn rc cn cc:Nat}{u:Un}(h:Cells w (.slice ca cn cc) 4 u.code.length (A9 u.code) ok)(hl:∀c∈u.code,c.s.length<=1000000000):
 Calls Tryz.prog 28 #[.agg #[str u.name,.slice ra rn rc,.slice ca cn cc]] w (ρ w (.bool (Gl u))):=by
 have gA:=gZ w (.cells #[str u.name,.slice ra rn rc,.slice ca cn cc] 58 (0,0)) none;have HC:=S ((OA (h.gb gA (by simp)) hl).mono λe w' k=>(show e= .returned (.bool (Gl u))/\w.grownBy w' none from⟨k.1,Z gA k.2⟩));clear h gA hl;go_enter func28,ntmps28;go_wp2_with fail;refine mR HC.1 λw1 g1=>?_;go_wp2;go_ret;exact⟨rfl,g1⟩
def GB:List (Bs×Value):=[(DN,.int .i64 1),(BM,.int .i64 2),(DL,.int .i64 3),(Cx,.int .i64 4)]
def Mo(s:Bs):(match Cg s GB 0 with|some (_,v)=>v|none=> .int .i64 0)=Value.int .i64 (Bd s)/\(Cg s GB 0).isSome= !(Bd s==0):=by
 unfold Bd GB;simp only[Cg];by_cases h1:s=DN
 ·subst h1;exact⟨rfl,rfl⟩
 ·have e1:(s==DN)=false:=by simpa using h1
  rw[if_neg h1,e1];by_cases h2:s=BM
  ·subst h2;exact⟨rfl,rfl⟩
  ·have e2:(s==BM)=false:=by simpa using h2
   rw[if_neg h2,e2];by_cases h3:s=DL
   ·subst h3;exact⟨rfl,rfl⟩
   ·have e3:(s==DL)=false:=by simpa using h3
    rw[if_neg h3,e3];by_cases h4:s=Cx
    ·subst h4;exact⟨rfl,rfl⟩
    ·have e4:(s==Cx)=false:=by simpa using h4
     rw[if_neg h4,e4];exact⟨rfl,rfl⟩
def PG(h:w.heap[m]? =some (AL GB))(s:Bs):
 (Instr.lookup 68 (.map (some m)) (str s) true).run Tryz.prog w= .ok (.tuple #[.int .i64 (Bd s),.bool (!(Bd s==0))]) w:=by
 rw[SY h s,(Mo s).2];exact congrArg (λv=>Result.ok (Value.tuple #[v,.bool (!(Bd s==0))]) w) (Mo s).1
abbrev scC(c:ScM)(nv fv wv:Value):List Value:=[.int .i64 c.kind,nv,fv,wv]
def ScV(ok:Nat->Prop)(w:World)(v:Value)(c:ScM):Prop:=∃na fa wa,∃nc fc wc,
 v= .agg #[.int .i64 c.kind,.slice na c.n.len nc,.slice fa c.f.len fc,.slice wa c.w.len wc]/\RepL ok w (.slice na c.n.len nc) c.n/\RepL ok w (.slice fa c.f.len fc) c.f/\RepL ok w (.slice wa c.w.len wc) c.w
abbrev VSc(w:World):World->Value->ScM->Prop:=λw' v c=>ScV (Al w.heap.size) w' v c
structure KC(b:Nat)(w:World)(L mp:Nat)(wr:World)(c:ScM)(na fa wa:Option Addr)(nc fc wc:Nat):Prop where
 blk:Blk wr L (scC c (.slice na c.n.len nc) (.slice fa c.f.len fc) (.slice wa c.w.len wc)) 132
 n:RepL (but w L) wr (.slice na c.n.len nc) c.n
 f:RepL (but w L) wr (.slice fa c.f.len fc) c.f
 wl:RepL (but w L) wr (.slice wa c.w.len wc) c.w
 gr:w.grownBy wr (some b)
 bw:b<w.heap.size
 wL:w.heap.size<L
 wm:w.heap.size<mp
 mL:mp≠L
 map:wr.heap[mp]? =some (AL GB)
 zero:Blk wr w.heap.size [.int .i64 0,.slice none 0 0,.slice none 0 0,.slice none 0 0] 132
section
variable {wr:World}{L mp:Nat}{c:ScM}{na fa wa:Option Addr}{nc fc wc:Nat}
def KC.lt(k:KC b w L mp wr c na fa wa nc fc wc):L<wr.heap.size:=k.blk.lt
def KC.gb(k:KC b w L mp wr c na fa wa nc fc wc)(gr:wr.grownBy w1 (some b)):KC b w L mp w1 c na fa wa nc fc wc:=by
 have hbw:=k.bw;have hwL:=k.wL;have hwm:=k.wm;have hne:∀q,but w L q->q<wr.heap.size->some q≠some b:=λq hq _ e=>by cases e;have:=hq.1;omega
 exact⟨k.blk.gb gr (by simp;omega),k.n.gb gr hne,k.f.gb gr hne,k.wl.gb gr hne,Z k.gr gr,hbw,hwL,hwm,k.mL,CK gr k.map (by simp;omega),k.zero.gb gr (by simp;omega)⟩
def KC.gbN(k:KC b w L mp wr c na fa wa nc fc wc)(gr:wr.grownBy w1 none):KC b w L mp w1 c na fa wa nc fc wc:=k.gb (A2 gr)
def KC.putK(k:KC b w L mp wr c na fa wa nc fc wc)(i:Int):KC b w L mp (wr.setCell ⟨L,0,none⟩ (.int .i64 i)) {c with kind:=i} na fa wa nc fc wc:=by
 have hwL:=k.wL;have g1:=Am (Aa wr (some L)) 0 (.int .i64 i);have hne:∀q,but w L q->q<wr.heap.size->some q≠some L:=λq hq _ e=>by cases e;exact hq.2 rfl
 exact⟨(k.blk.set 0 _).of_eq rfl rfl,k.n.gb g1 hne,k.f.gb g1 hne,k.wl.gb g1 hne,Ap k.gr g1 (.inr (by omega)),k.bw,hwL,k.wm,k.mL,CK g1 k.map (by intro e;exact k.mL (by cases e;rfl)),k.zero.gb g1 (by simp;omega)⟩
def KC.lay(k:KC b w L mp wr c na fa wa nc fc wc)(i:Nat)(rp:Cells wr (.slice pa x.h.p.length pc) 1 x.h.p.length (x.h.p.map str) (but w L))(rl:RepL (but w L) wr (.slice la x.kids.len lc) x.kids):
 ∃W,W=(wr.setCell ⟨L,i,none⟩ (.slice (some ⟨wr.heap.size,0,none⟩) 1 1)).alloc (.cells (hdC x.h (.slice pa x.h.p.length pc) (.slice la x.kids.len lc)).toArray 163 (0,0))/\
  wr.grownBy W (some L)/\RepL (but w L) W (.slice (some ⟨wr.heap.size,0,none⟩) 1 1) (.one x)/\RepL (but w L) W (.slice na c.n.len nc) c.n/\RepL (but w L) W (.slice fa c.f.len fc) c.f/\RepL (but w L) W (.slice wa c.w.len wc) c.w:=by
 have hwL:=k.wL;have hlt:=k.lt;have g1:=Am (Aa wr (some L)) i (.slice (some ⟨wr.heap.size,0,none⟩) 1 1);have hne:∀q,but w L q->q<wr.heap.size->some q≠some L:=λq hq _ e=>by cases e;exact hq.2 rfl
 have g2:=gZ (wr.setCell ⟨L,i,none⟩ (.slice (some ⟨wr.heap.size,0,none⟩) 1 1)) (.cells (hdC x.h (.slice pa x.h.p.length pc) (.slice la x.kids.len lc)).toArray 163 (0,0)) none;exact⟨_,rfl,Ag g1 g2,RepL.one (by simp) ⟨by omega,by omega⟩ (rp.gb g1 hne) (rl.gb g1 hne),(k.n.gb g1 hne).gb g2 (by simp),(k.f.gb g1 hne).gb g2 (by simp),(k.wl.gb g1 hne).gb g2 (by simp)⟩
def KC.layN(k:KC b w L mp wr c na fa wa nc fc wc)(rp:Cells wr (.slice pa x.h.p.length pc) 1 x.h.p.length (x.h.p.map str) (but w L))(rl:RepL (but w L) wr (.slice la x.kids.len lc) x.kids):
 KC b w L mp ((wr.setCell ⟨L,1,none⟩ (.slice (some ⟨wr.heap.size,0,none⟩) 1 1)).alloc (.cells (hdC x.h (.slice pa x.h.p.length pc) (.slice la x.kids.len lc)).toArray 163 (0,0))) {c with n:= .one x} (some ⟨wr.heap.size,0,none⟩) fa wa 1 fc wc:=by
 obtain⟨W,e,g,h0,h1,h2,h3⟩:=k.lay 1 rp rl;have hwL:=k.wL;have hb:Blk W L (scC {c with n:= .one x} (.slice (some ⟨wr.heap.size,0,none⟩) 1 1) (.slice fa c.f.len fc) (.slice wa c.w.len wc)) 132:=by subst e;exact((k.blk.set 1 _).of_eq rfl rfl).alloc _
 rw[<-e];exact⟨hb,h0,h2,h3,Ap k.gr g (.inr (by omega)),k.bw,hwL,k.wm,k.mL,CK g k.map (by intro e;exact k.mL (by cases e;rfl)),k.zero.gb g (by simp;omega)⟩
def KC.layF(k:KC b w L mp wr c na fa wa nc fc wc)(rp:Cells wr (.slice pa x.h.p.length pc) 1 x.h.p.length (x.h.p.map str) (but w L))(rl:RepL (but w L) wr (.slice la x.kids.len lc) x.kids):
 KC b w L mp ((wr.setCell ⟨L,2,none⟩ (.slice (some ⟨wr.heap.size,0,none⟩) 1 1)).alloc (.cells (hdC x.h (.slice pa x.h.p.length pc) (.slice la x.kids.len lc)).toArray 163 (0,0))) {c with f:= .one x} na (some ⟨wr.heap.size,0,none⟩) wa nc 1 wc:=by
 obtain⟨W,e,g,h0,h1,h2,h3⟩:=k.lay 2 rp rl;have hwL:=k.wL;have hb:Blk W L (scC {c with f:= .one x} (.slice na c.n.len nc) (.slice (some ⟨wr.heap.size,0,none⟩) 1 1) (.slice wa c.w.len wc)) 132:=by subst e;exact((k.blk.set 2 _).of_eq rfl rfl).alloc _
 rw[<-e];exact⟨hb,h1,h0,h3,Ap k.gr g (.inr (by omega)),k.bw,hwL,k.wm,k.mL,CK g k.map (by intro e;exact k.mL (by cases e;rfl)),k.zero.gb g (by simp;omega)⟩
def KC.layW(k:KC b w L mp wr c na fa wa nc fc wc)(rp:Cells wr (.slice pa x.h.p.length pc) 1 x.h.p.length (x.h.p.map str) (but w L))(rl:RepL (but w L) wr (.slice la x.kids.len lc) x.kids):
 KC b w L mp ((wr.setCell ⟨L,3,none⟩ (.slice (some ⟨wr.heap.size,0,none⟩) 1 1)).alloc (.cells (hdC x.h (.slice pa x.h.p.length pc) (.slice la x.kids.len lc)).toArray 163 (0,0))) {c with w:= .one x} na fa (some ⟨wr.heap.size,0,none⟩) nc fc 1:=by
 obtain⟨W,e,g,h0,h1,h2,h3⟩:=k.lay 3 rp rl;have hwL:=k.wL;have hb:Blk W L (scC {c with w:= .one x} (.slice na c.n.len nc) (.slice fa c.f.len fc) (.slice (some ⟨wr.heap.size,0,none⟩) 1 1)) 132:=by subst e;exact((k.blk.set 3 _).of_eq rfl rfl).alloc _
 rw[<-e];exact⟨hb,h1,h2,h0,Ap k.gr g (.inr (by omega)),k.bw,hwL,k.wm,k.mL,CK g k.map (by intro e;exact k.mL (by cases e;rfl)),k.zero.gb g (by simp;omega)⟩
abbrev GK(w:World)(k:Nat)(v0 v1 v2 v3:Value):World:=(((w.setCell ⟨k,0,none⟩ v0).setCell ⟨k,1,none⟩ v1).setCell ⟨k,2,none⟩ v2).setCell ⟨k,3,none⟩ v3
def XV(w:World)(k:Nat)(v0 v1 v2 v3:Value):w.grownBy (GK w k v0 v1 v2 v3) (some k):=Am (Am (Am (Am (Aa w (some k)) 0 v0) 1 v1) 2 v2) 3 v3
def KC.out(k:KC b w L mp wr c na fa wa nc fc wc):
 w.grownBy (GK wr w.heap.size (.int .i64 c.kind) (.slice na c.n.len nc) (.slice fa c.f.len fc) (.slice wa c.w.len wc)) (some b)/\
 wr.grownBy (GK wr w.heap.size (.int .i64 c.kind) (.slice na c.n.len nc) (.slice fa c.f.len fc) (.slice wa c.w.len wc)) (some w.heap.size)/\
 Blk (GK wr w.heap.size (.int .i64 c.kind) (.slice na c.n.len nc) (.slice fa c.f.len fc) (.slice wa c.w.len wc)) w.heap.size (scC c (.slice na c.n.len nc) (.slice fa c.f.len fc) (.slice wa c.w.len wc)) 132/\
 ScV (Al w.heap.size) (GK wr w.heap.size (.int .i64 c.kind) (.slice na c.n.len nc) (.slice fa c.f.len fc) (.slice wa c.w.len wc)) (.agg (scC c (.slice na c.n.len nc) (.slice fa c.f.len fc) (.slice wa c.w.len wc)).toArray) c:=by
 have g1:=XV wr w.heap.size (.int .i64 c.kind) (.slice na c.n.len nc) (.slice fa c.f.len fc) (.slice wa c.w.len wc);have hne:∀q,but w L q->q<wr.heap.size->some q≠some w.heap.size:=λq hq _ e=>by cases e;have:=hq.1;omega
 have hs:∀q,but w L q->q<(GK wr w.heap.size (.int .i64 c.kind) (.slice na c.n.len nc) (.slice fa c.f.len fc) (.slice wa c.w.len wc)).heap.size->Al w.heap.size q:=λq hq _=>by have:=hq.1;show w.heap.size<=q;omega
 exact⟨Ap k.gr g1 (.inr (nR _)),g1,((((k.zero.set 0 _).set 1 _).set 2 _).set 3 _).of_eq rfl rfl,na,fa,wa,nc,fc,wc,rfl,(k.n.gb g1 hne).mono hs,(k.f.gb g1 hne).mono hs,(k.wl.gb g1 hne).mono hs⟩
end
def Vu:(match(Tryz.prog.underlying 132)with|some (.struct _)=>true|_=>false)=true:=by kernel_rfl
def Iw{fn:Func}{p:Tmp}(h:fn.results=#[.cell p 132])(tmps:Array Value)(hb:Blk w k cs 132)(hn:cs.length=4)(hp:tmps.getD p undef= .pointer (some ⟨k,0,none⟩)):
 (results fn tmps).run Tryz.prog w= .ok (.agg cs.toArray) w:=by
 have hs:=Vu;cases hu:Tryz.prog.underlying 132 with
 |none=>rw[hu]at hs;cases hs
 | some d=>
   rw[hu]at hs;exact results_cell_row h tmps w k 132 cs.toArray (0,0) d hp hb hu (by cases d<;>simp_all) (by rw[List.size_toArray,hn];show(Tryz.prog.info? 132).map (·.size)=some 4;kernel_rfl)
def U4(h:Bd s≠0):s≠[]:=by rintro rfl;exact h (by decide)
def CV(h:Ar l W i≠[]):i<l.length:=by
 apply Fj;intro e;apply h;unfold Ar;rw[e];rfl
abbrev VSd(w:World):World->Value->Sd->Prop:=λw' v x=>StV (Al w.heap.size) w' v (x,.nil)
def Ax{s:Code}{Q:Exit->Act->World->Prop}{a:Act}(F:World->Prop)(hF:F w)(h:∀w',F w'->s.wp P Q a w'):s.wp P Q a w:=h w hF
def No{f:FuncId}{args:Array Value}{Q:Ending->World->Prop}(F:World->Prop)(hF:F w)(h:∀w',F w'->Calls P f args w' Q):Calls P f args w Q:=h w hF
section
variable {day:Bs->Int}
end
structure KE(ok:Nat->Prop)(w:World)(n:Nat)(x:Ex)(pa:Option Addr)(pc:Nat)(la:Option Addr)(lc:Nat):Prop where
 blk:Blk w n (hdC x.h (.slice pa x.h.p.length pc) (.slice la x.kids.len lc)) 163
 rp:Cells w (.slice pa x.h.p.length pc) 1 x.h.p.length (x.h.p.map str) ok
 rl:RepL ok w (.slice la x.kids.len lc) x.kids
section
variable {y z:Ex}{r:Option Nat}
def KE.gb(k:KE ok w n x pa pc la lc)(g:w.grownBy w1 r)(hn:some n≠r)(hk:∀q,ok q->q<w.heap.size->some q≠r):KE ok w1 n x pa pc la lc:=⟨k.blk.gb g hn,k.rp.gb g hk,k.rl.gb g hk⟩
def KE.gbN(k:KE ok w n x pa pc la lc)(g:w.grownBy w1 none):KE ok w1 n x pa pc la lc:=k.gb g (by simp) (by simp)
def KE.new(rp:Cells w (.slice pa x.h.p.length pc) 1 x.h.p.length (x.h.p.map str) ok')(rl:RepL ok' w (.slice la x.kids.len lc) x.kids)(hk:∀q,ok' q->q<w.heap.size->ok q):
 KE ok (w.alloc (.cells (hdC x.h (.slice pa x.h.p.length pc) (.slice la x.kids.len lc)).toArray 163 (0,0))) w.heap.size x pa pc la lc:=
 have g:=gZ w (.cells (hdC x.h (.slice pa x.h.p.length pc) (.slice la x.kids.len lc)).toArray 163 (0,0)) none
 ⟨Blk.new _ _ _,(rp.mono hk).gb g (by simp),(rl.mono hk).gb g (by simp)⟩
def KE.put(k:KE ok w n x pa pc la lc){pb lb:Option Addr}{pd ld:Nat}(rp:Cells w (.slice pb y.h.p.length pd) 1 y.h.p.length (y.h.p.map str) ok')(rl:RepL ok' w (.slice lb y.kids.len ld) y.kids)(hk:∀q,ok' q->q<w.heap.size->q≠n):
 KE ok' (set7 w n (.int .i64 y.h.op) (str y.h.s) (.int .i64 y.h.vk) (.int .i64 y.h.vn) (str y.h.vs) (.slice pb y.h.p.length pd) (.slice lb y.kids.len ld)) n y pb pd lb ld:=by
 have g7:=A0 w n (.int .i64 y.h.op) (str y.h.s) (.int .i64 y.h.vk) (.int .i64 y.h.vn) (str y.h.vs) (.slice pb y.h.p.length pd) (.slice lb y.kids.len ld);exact⟨(k.blk.set7 _ _ _ _ _ _ _).of_eq rfl rfl,rp.gb g7 (λq hq hl e=>by cases e;exact hk _ hq hl rfl),rl.gb g7 (λq hq hl e=>by cases e;exact hk _ hq hl rfl)⟩
def KE.mono(k:KE ok w n x pa pc la lc)(hk:∀q,ok q->q<w.heap.size->ok' q):KE ok' w n x pa pc la lc:=⟨k.blk,k.rp.mono hk,k.rl.mono hk⟩
end
def DE(W:World)(m:Nat)(l:List (Bs×Value)):World:={W with heap:=W.heap.setIfInBounds m (AL l)}
def GN(W:World)(m:Nat)(l:List (Bs×Value)):(DE W m l).heap.size=W.heap.size:=by simp[DE]
def LH{W:World}(hm:m<W.heap.size)(l:List (Bs×Value)):(DE W m l).heap[m]? =some (AL l):=by simp[DE,Array.getElem?_setIfInBounds,hm]
def Rq{W:World}(hk:k≠m)(l:List (Bs×Value)):(DE W m l).heap[k]? =W.heap[k]?:=by simp[DE,Array.getElem?_setIfInBounds,Ne.symm hk]
def M2{W:World}{l:List (Bs×Value)}(hb:W.heap[m]? =some (AL l))(k:Bs)(v:Int)(hf:Es k l):
 (Instr.mapUpdate 68 (.map (some m)) (str k) (.int .i64 v)).run Tryz.prog W= .ok () (DE W m (l++[(k,.int .i64 v)])):=by
 have hb:W.heap[m]? =some (.map (Cn l 0).toArray l.length):=hb;have hf:Instr.findNow .string (str k) (Cn l 0) 0=some none:=by rw[Ik,Mn k l hf]
 have hc:(Instr.checkKey false 10000 9 (str k)).run Tryz.prog W= .ok () W:=MapKept.run_checkKey (k:=str k) underlying9 (by simp[MapKept.IsKey]) false 9999;simp[Instr.mapUpdate,run_underlying underlying68,MapKept.run_getObj_map hb,hc,MapKept.run_findKey underlying9 hf,MapKept.run_setObj_map _ hb,Result.andThen];have e2:(Obj.map (Cn l 0++[({key:=str k,val:= .int .i64 v,born:=l.length}:MapEntry)]).toArray (l.length+1))=AL (l++[(k,.int .i64 v)]):=by simp[AL,LE]
 rw[e2];rfl
def Ea(e1 e2:Bs×Value):Bool->Bool->List (Bs×Value)->Prop
 |false,false,es=>es=[]
 |true,false,es=>es=[e1]
 |false,true,es=>es=[e2]
 |true,true,es=>es=[e1,e2]\/es=[e2,e1]
def Ak(L:Array Bool)(i:Nat):Bool:=L.getD i false
def GF(b:Nat)(R:Bool->World->Prop):Prop:=∀c W W' o,R c W->W.grownBy W' o->(∀q,o=some q->b<q)->R c W'
structure LitW(b:Nat)(R:Bool->World->Prop)(W0:World)(x:Fo)(e1 e2:Bs×Value)(row:Value->List Value)(L:Array Bool)(m s:Nat)(v:Value)(W:World):Prop where
 g:W0.grownBy W (some b)
 r:R (Ak L 7) W
 map:Ak L 0=true->W0.heap.size<=m/\m<W.heap.size/\∃es,W.heap[m]? =some (AL es)/\Ea e1 e2 (Ak L 1) (Ak L 2) es
 val:Ak L 7=true->RepL (λq=>W0.heap.size<=q/\(Ak L 0=true->q≠m)/\(Ak L 9=true->q≠s)) W v x
 new:Ak L 9=true->W0.heap.size<=s/\s<W.heap.size/\(Ak L 0=true->s≠m)/\Blk W s (if Ak L 10 then row v else stC 0 (.slice none 0 0)) 134
def EV(W:World)(m:Nat)(l:List (Bs×Value)):W.grownBy (DE W m l) (some m):=
 ⟨rfl,rfl,rfl,by rw[GN];exact nR _,λk hk hne=>Rq (λe=>hne (by rw[e])) l⟩
def Dt(hi:i<L.size)(j:Nat):Ak (L.setIfInBounds i true) j=if j=i then true else Ak L j:=by
 unfold Ak;by_cases h:j=i
 ·subst h;simp[Array.getD_eq_getD_getElem?,hi]
 ·have h':¬i=j:=λe=>h e.symm;simp[Array.getD_eq_getD_getElem?,h,h']
section
variable {R:Bool->World->Prop}{W0:World}{x:Fo}{e1 e2:Bs×Value}{row:Value->List Value}{s:Nat}{W:World}
def LitW.make(hS:GF b R)(h:LitW b R W0 x e1 e2 row L m s v W)(hL:L.size=11)(h0:Ak L 0=false)(h1:Ak L 1=false)(h2:Ak L 2=false):
 LitW b R W0 x e1 e2 row (L.setIfInBounds 0 true) W.heap.size s v (W.alloc (AL [])):=by
 have ht:=Dt (L:=L) (i:=0) (by omega);have hs:=h.g.size;refine⟨Ac h.g _,?_,λ_=>⟨hs,by simp,[],heap_alloc_new W _,?_⟩,λh7=>?_,λh9=>?_⟩
 ·have:=hS _ _ _ _ h.r (gZ W (AL []) none) (by simp);simpa[ht]using this
 ·simp[ht,h1,h2,Ea]
 ·simp only[ht]at h7 ⊢;have h7:Ak L 7=true:=by simpa using h7
  exact(h.val h7).mono (ok':=λq=>W0.heap.size<=q/\q<W.heap.size/\(Ak L 9=true->q≠s)) (λq hq hlt=>⟨hq.1,hlt,hq.2.2⟩)|>.gb (gZ W (AL []) none) (by simp)|>.mono (λq hq _=>⟨hq.1,λ_=>by omega,by simpa using hq.2.2⟩)
 ·simp only[ht]at h9 ⊢;have h9:Ak L 9=true:=by simpa using h9
  obtain⟨a1,a2,a3,a4⟩:=h.new h9;exact⟨a1,by simp;omega,λ_=>by omega,by simpa using a4.gb (gZ W (AL []) none) (by simp)⟩
def LitW.alloc(hS:GF b R)(h:LitW b R W0 x e1 e2 row L m s v W)(hL:L.size=11)(h9:Ak L 9=false)(h10:Ak L 10=false):
 LitW b R W0 x e1 e2 row (L.setIfInBounds 9 true) m W.heap.size v (W.alloc (.cells (stC 0 (.slice none 0 0)).toArray 134 (0,0))):=by
 have ht:=Dt (L:=L) (i:=9) (by omega);have hs:=h.g.size;refine⟨Ac h.g _,?_,λh0=>?_,λh7=>?_,λ_=>⟨hs,by simp,λh0=>?_,?_⟩⟩
 ·have:=hS _ _ _ _ h.r (gZ W (.cells (stC 0 (.slice none 0 0)).toArray 134 (0,0)) none) (by simp);simpa[ht]using this
 ·simp only[ht]at h0 ⊢;obtain⟨a1,a2,es,a3,a4⟩:=h.map (by simpa using h0);exact⟨a1,by simp;omega,es,CK (gZ W _ none) a3 (by simp),by simpa using a4⟩
 ·simp only[ht]at h7 ⊢;have h7:Ak L 7=true:=by simpa using h7
  exact(h.val h7).mono (ok':=λq=>W0.heap.size<=q/\q<W.heap.size/\(Ak L 0=true->q≠m)) (λq hq hlt=>⟨hq.1,hlt,hq.2.1⟩)|>.gb (gZ W _ none) (by simp)|>.mono (λq hq _=>⟨hq.1,by simpa using hq.2.2,λ_=>by omega⟩)
 ·simp only[ht]at h0;have:=(h.map (by simpa using h0)).2.1;omega
 ·have:=Blk.new W (stC 0 (.slice none 0 0)) 134;simpa[ht,h10]using this
def LitW.ins1(hS:GF b R)(h:LitW b R W0 x e1 e2 row L m s v W)(hL:L.size=11)(hb:b<W0.heap.size)(h0:Ak L 0=true)(hi:Ak L 1=false):
 ∃es,W.heap[m]? =some (AL es)/\Ea e1 e2 (Ak L 1) (Ak L 2) es/\LitW b R W0 x e1 e2 row (L.setIfInBounds 1 true) m s v (DE W m (es++[e1])):=by
 have ht:=Dt (L:=L) (i:=1) (by omega);obtain⟨a1,a2,es,a3,a4⟩:=h.map h0;refine⟨es,a3,a4,Ap h.g (EV W m _) (.inr a1),?_,λ_=>⟨a1,by rw[GN];exact a2,_,LH a2 _,?_⟩,λh7=>?_,λh9=>?_⟩
 ·have:=hS _ _ _ _ h.r (EV W m (es++[e1])) (by intro q e;cases e;omega);simpa[ht]using this
 ·rw[hi]at a4;cases h2:Ak L 2<;>simp[h2,Ea]at a4<;>subst a4<;>simp[ht,h2,Ea]
 ·simp only[ht]at h7 ⊢;have h7:Ak L 7=true:=by simpa using h7
  have:=(h.val h7).gb (EV W m (es++[e1])) (by intro q hq _ e;cases e;exact hq.2.1 h0 rfl);simpa using this
 ·simp only[ht]at h9 ⊢;have h9:Ak L 9=true:=by simpa using h9
  obtain⟨c1,c2,c3,c4⟩:=h.new h9;exact⟨c1,by rw[GN];exact c2,by simpa using c3,by simpa using c4.gb (EV W m (es++[e1])) (by intro e;cases e;exact c3 h0 rfl)⟩
def LitW.ins2(hS:GF b R)(h:LitW b R W0 x e1 e2 row L m s v W)(hL:L.size=11)(hb:b<W0.heap.size)(h0:Ak L 0=true)(hi:Ak L 2=false):
 ∃es,W.heap[m]? =some (AL es)/\Ea e1 e2 (Ak L 1) (Ak L 2) es/\LitW b R W0 x e1 e2 row (L.setIfInBounds 2 true) m s v (DE W m (es++[e2])):=by
 have ht:=Dt (L:=L) (i:=2) (by omega);obtain⟨a1,a2,es,a3,a4⟩:=h.map h0;refine⟨es,a3,a4,Ap h.g (EV W m _) (.inr a1),?_,λ_=>⟨a1,by rw[GN];exact a2,_,LH a2 _,?_⟩,λh7=>?_,λh9=>?_⟩
 ·have:=hS _ _ _ _ h.r (EV W m (es++[e2])) (by intro q e;cases e;omega);simpa[ht]using this
 ·rw[hi]at a4;cases h2:Ak L 1<;>simp[h2,Ea]at a4<;>subst a4<;>simp[ht,h2,Ea]
 ·simp only[ht]at h7 ⊢;have h7:Ak L 7=true:=by simpa using h7
  have:=(h.val h7).gb (EV W m (es++[e2])) (by intro q hq _ e;cases e;exact hq.2.1 h0 rfl);simpa using this
 ·simp only[ht]at h9 ⊢;have h9:Ak L 9=true:=by simpa using h9
  obtain⟨c1,c2,c3,c4⟩:=h.new h9;exact⟨c1,by rw[GN];exact c2,by simpa using c3,by simpa using c4.gb (EV W m (es++[e2])) (by intro e;cases e;exact c3 h0 rfl)⟩
def LitW.call(h:LitW b R W0 x e1 e2 row L m s v W)(hL:L.size=11)(hb:b<W0.heap.size)(h10:Ak L 10=false){W':World}{v':Value}(g:W.grownBy W' (some b))(hR:R true W')(hv:RepL (Al W.heap.size) W' v' x):
 LitW b R W0 x e1 e2 row (L.setIfInBounds 7 true) m s v' W':=by
 have ht:=Dt (L:=L) (i:=7) (by omega);have hs:=h.g.size;have hs2:=g.size;refine⟨Z h.g g,by simpa[ht]using hR,λh0=>?_,λ_=>?_,λh9=>?_⟩
 ·simp only[ht]at h0 ⊢;obtain⟨a1,a2,es,a3,a4⟩:=h.map (by simpa using h0);exact⟨a1,by omega,es,CK g a3 (by intro e;cases e;omega),by simpa using a4⟩
 ·refine hv.mono (λq hq _=>?_);have hq:W.heap.size<=q:=hq;refine⟨by omega,λh0=>?_,λh9=>?_⟩
  ·simp only[ht]at h0;have:=(h.map (by simpa using h0)).2.1;omega
  ·simp only[ht]at h9;have:=(h.new (by simpa using h9)).2.1;omega
 ·simp only[ht]at h9 ⊢;obtain⟨c1,c2,c3,c4⟩:=h.new (by simpa using h9);exact⟨c1,by omega,by simpa using c3,by simpa[h10]using c4.gb g (by intro e;cases e;omega)⟩
def LitW.quiet(h:LitW b R W0 x e1 e2 row L m s v W)(hL:L.size=11)(hi:i<11)(h0:i≠0)(h1:i≠1)(h2:i≠2)(h7:i≠7)(h9:i≠9)(h10:i≠10):
 LitW b R W0 x e1 e2 row (L.setIfInBounds i true) m s v W:=by
 have ht:=Dt (L:=L) (i:=i) (by omega);have t0:Ak (L.setIfInBounds i true) 0=Ak L 0:=by rw[ht,if_neg (Ne.symm h0)]
 have t1:Ak (L.setIfInBounds i true) 1=Ak L 1:=by rw[ht,if_neg (Ne.symm h1)]
 have t2:Ak (L.setIfInBounds i true) 2=Ak L 2:=by rw[ht,if_neg (Ne.symm h2)]
 have t7:Ak (L.setIfInBounds i true) 7=Ak L 7:=by rw[ht,if_neg (Ne.symm h7)]
 have t9:Ak (L.setIfInBounds i true) 9=Ak L 9:=by rw[ht,if_neg (Ne.symm h9)]
 have t10:Ak (L.setIfInBounds i true) 10=Ak L 10:=by rw[ht,if_neg (Ne.symm h10)]
 exact⟨h.g,by rw[t7];exact h.r,by rw[t0,t1,t2];exact h.map,by rw[t7,t0,t9];exact h.val,by rw[t9,t0,t10];exact h.new⟩
def Cj(op:Int)(v:Value):List Value:=[.int .i64 op,str [],str [],.slice none 0 0,v,.slice none 0 0,.int .i64 0,.slice none 0 0,.slice none 0 0,.slice none 0 0]
def LitW.store{op:Int}(hS:GF b R)(h:LitW b R W0 x e1 e2 (Cj op) L m s v W)(hL:L.size=11)(hb:b<W0.heap.size)(h0:Ak L 0=true)(h9:Ak L 9=true)(h10:Ak L 10=false):
 LitW b R W0 x e1 e2 (Cj op) (L.setIfInBounds 10 true) m s v (set10 W s (.int .i64 op) (str []) (str []) (.slice none 0 0) v (.slice none 0 0) (.int .i64 0) (.slice none 0 0) (.slice none 0 0) (.slice none 0 0)):=by
 have ht:=Dt (L:=L) (i:=10) (by omega);have hg:=DR W s (.int .i64 op) (str []) (str []) (.slice none 0 0) v (.slice none 0 0) (.int .i64 0) (.slice none 0 0) (.slice none 0 0) (.slice none 0 0);obtain⟨c1,c2,c3,c4⟩:=h.new h9;have hs:=hg.size;refine⟨Ap h.g hg (.inr c1),?_,λ_=>?_,λh7=>?_,λ_=>⟨c1,by omega,λ_=>c3 h0,?_⟩⟩
 ·have:=hS _ _ _ _ h.r hg (by intro q e;cases e;omega);simpa[ht]using this
 ·obtain⟨a1,a2,es,a3,a4⟩:=h.map h0;exact⟨a1,by omega,es,CK hg a3 (by intro e;cases e;exact c3 h0 rfl),by simpa[ht]using a4⟩
 ·simp only[ht]at h7 ⊢;have:=(h.val (by simpa using h7)).gb hg (by intro q hq _ e;cases e;exact hq.2.2 h9 rfl);simpa using this
 ·rw[h10]at c4;have:=Blk.set10 c4 (.int .i64 op) (str []) (str []) (.slice none 0 0) v (.slice none 0 0) (.int .i64 0) (.slice none 0 0) (.slice none 0 0) (.slice none 0 0);simpa[ht,Cj]using this
end
def Ge(l:List Tok)(E:Nat->Res Ex)(n i:Nat):Res StB:=
 if Ah (Ab l i) [63]then(if(Ab l (i+1)).kind==5 then .ok .nil (i+1)else Dd l E n (i+1)).bind λx j=>(B4 l j).bind λ_ j=> .ok ({sd0 1 []with x:=x},.nil) j
 else if(Ab l i).kind==0&&Ah (Ab l (i+1)) [40]then(DH l E n i).bind λx j=>(B4 l j).bind λ_ j=> .ok ({sd0 10 []with x:= .one x},.nil) j
 else(Ga l E i).bind λt j=>(if Ah (Ab l j) [61]then .ok () (j+1)else AW l [58,61] j).bind λ_ j=>(E j).bind λx j=>(B4 l j).bind λ_ j=> .ok ({sd0 0 []with x:= .two t x},.nil) j
def YS(hn:Aj l)(day:Bs->Int)(n i:Nat):(EH hn day n).f i=Ge l (Ai l day n) n i:=by
 unfold Ge;show(if Ah (Ab l i) [63]then _ else if Ah (Ab l i) [38]then _ else _)=_;cases h63:Ah (Ab l i) [63]with
 |true=>rfl
 | false=>
   simp only[Bool.false_eq_true,if_false];cases h38:Ah (Ab l i) [38]with
   | true=>
     have hk:((Ab l i).kind==0)=false:=by
      simp[Ah]at h38;simp[h38.1]
     rw[hk,if_pos rfl];simp only[Bool.false_and,Bool.false_eq_true,if_false];unfold Ga;rw[if_pos h38];rfl
   | false=>
     simp only[Bool.false_eq_true,if_false];have hT:Ga l (Ai l day n) i=(AD l i).bind λs j=>
      if Ah (Ab l j) [91]then(Ai l day n (j+1)).bind λx k=>(AW l [93] k).bind λ_ k=> .ok (DY (AH s) x) k
      else if Ah (Ab l j) [45,62]then(AD l (j+1)).bind λt k=> .ok ⟨hd0 2 s,.one (AH t)⟩ k
      else .ok (AH s) j:=by unfold Ga;rw[if_neg (by rw[h38];simp)]
     rw[hT];show(AD l i).bind (λs j=>(Ia hn day n s).f j)=_;unfold DH;unfold AD;cases hk:(Ab l i).kind==0&&Aw (Ab l i).text with
     | false=>
       simp only[Bool.false_eq_true,if_false,Res.bind_bad];split<;>rfl
     | true=>
       simp only[if_true,Res.bind_ok];have hk0:((Ab l i).kind==0)=true:=by simp only[Bool.and_eq_true]at hk;exact hk.1
       rw[hk0,Bool.true_and];show(if Ah (Ab l (i+1)) [40]then _ else if Ah (Ab l (i+1)) [91]then _ else if Ah (Ab l (i+1)) [45,62]then _ else _)=_;cases h40:Ah (Ab l (i+1)) [40]with
       | true=>
         simp only[if_true];rw[AW,h40,if_pos rfl,Res.bind_ok];show((if Ah (Ab l (i+1+1)) [41]then _ else _:Res Fo).bind _)=_;cases h41:Ah (Ab l (i+1+1)) [41]with
         |true=>rfl
         | false=>
           simp only[Bool.false_eq_true,if_false];show((((Dd l (Ai l day n) n (i+1+1)).bind _):Res Fo).bind _)=_;rw[Res.bind_assoc,Res.bind_assoc];congr 1;funext f k;show(((AW l [41] k).bind _:Res Fo).bind _)=_;rw[Res.bind_assoc,Res.bind_assoc];rfl
       | false=>
         simp only[Bool.false_eq_true,if_false];cases h91:Ah (Ab l (i+1)) [91]with
         | true=>
           simp only[if_true];rw[Res.bind_assoc];show(Ai l day n (i+1+1)).bind _=_;congr 1;funext x k;rw[Res.bind_assoc];rfl
         | false=>
           simp only[Bool.false_eq_true,if_false];cases h45:Ah (Ab l (i+1)) [45,62]with
           | true=>
             simp only[if_true];rw[Res.bind_assoc];rfl
           |false=>rfl
def Nx{α:Type}(l:List Tok)(i:Nat):Res α->Prop
 | .ok _ j=>i<=j/\j<=l.length
 | .bad _=>True
 | .out=>False
def NxS{α:Type}(l:List Tok)(i:Nat):Res α->Prop
 | .ok _ j=>i<j/\j<=l.length
 | .bad _=>True
 | .out=>False
def NxS.weak{r:Res α}(h:NxS l i r):Nx l i r:=by
 cases r with
 |ok a j=>exact⟨Nat.le_of_lt h.1,h.2⟩
 |bad k=>trivial
 |out=>exact h
def Ends{l:List Tok}{α:Type}(P:Rd l α)(n:Nat):Prop:=∀i,i<=l.length->l.length+2<=n+i->Nx l i (P.f i)
def EndsS{l:List Tok}{α:Type}(P:Rd l α)(n:Nat):Prop:=∀i,i<=l.length->l.length+2<=n+i->NxS l i (P.f i)
def EndsS.weak{P:Rd l α}(h:EndsS P n):Ends P n:=λi h1 h2=>(h i h1 h2).weak
def Ends.le{P:Rd l α}(h:Ends P m)(hn:n<=m):Ends P n:=λi h1 h2=>h i h1 (by omega)
def Ends.pure(a:α):Ends (Rd.pure a:Rd l α) n:=λi h1 _=>⟨nR _,h1⟩
def Ends.bad(a:α):EndsS (Rd.bad a:Rd l α) n:=λ_ _ _=>trivial
def Ends.bind{P:Rd l α}{Q:α->Rd l β}(hP:Ends P n)(hQ:∀x,Ends (Q x) n):Ends (P.bind Q) n:=by
 intro i h1 h2;have h:=hP i h1 h2;show Nx l i ((P.f i).bind _);cases hr:P.f i with
 | ok a j=>
   rw[hr]at h;have hq:=hQ a j h.2 (by have:=h.1;omega);show Nx l i ((Q a).f j);revert hq;cases(Q a).f j with
   |ok b k=>exactλhq=>⟨nT h.1 hq.1,hq.2⟩
   |bad k=>exactλ_=>trivial
   |out=>exact id
 |bad k=>trivial
 |out=>rw[hr]at h;exact h
def EndsS.bind{P:Rd l α}{Q:α->Rd l β}(hP:EndsS P n)(hQ:∀x,Ends (Q x) (n-1)):EndsS (P.bind Q) n:=by
 intro i h1 h2;have h:=hP i h1 h2;show NxS l i ((P.f i).bind _);cases hr:P.f i with
 | ok a j=>
   rw[hr]at h;have hq:=hQ a j h.2 (by have:=h.1;omega);show NxS l i ((Q a).f j);revert hq;cases(Q a).f j with
   |ok b k=>exactλhq=>⟨Nat.lt_of_lt_of_le h.1 hq.1,hq.2⟩
   |bad k=>exactλ_=>trivial
   |out=>exact id
 |bad k=>trivial
 |out=>rw[hr]at h;exact h
def Fine.nx{o:Prop}{r:Res α}(h:Fine o l.length i r)(ho:o):NxS l i r:=by
 cases r with
 |ok a j=>exact h
 |bad k=>trivial
 |out=>exact h ho
def GU(s:Bs):EndsS (Rd.want s:Rd l Unit) n:=λi _ _=>(DV (o:=True) s i).nx trivial
def ends_fin:EndsS (Rd.fin:Rd l Unit) n:=λi _ _=>(N4 (o:=True) i).nx trivial
def CN(hn:Aj l):EndsS (Rd.name hn:Rd l Bs) n:=λi _ _=>(EW (o:=True) i).nx trivial
def Fb{p q:Rd l α}(hp:Ends p (n-1))(hq:Ends q n):Ends (Rd.ifs s p q) n:=by
 intro i h1 h2;show Nx l i (if Ah (Ab l i) s then p.f (i+1)else q.f i);split
 ·rename_i hs;have hl:=BE hs;have h:=hp (i+1) hl (by omega);revert h;cases p.f (i+1)with
  |ok b k=>exactλh=>⟨by have:=h.1;omega,h.2⟩
  |bad k=>exact id
  |out=>exact id
 ·exact hq i h1 h2
def Tz{p q:Rd l α}(hp:Ends p (n-1))(hq:EndsS q n):EndsS (Rd.ifs s p q) n:=by
 intro i h1 h2;show NxS l i (if Ah (Ab l i) s then p.f (i+1)else q.f i);split
 ·rename_i hs;have hl:=BE hs;have h:=hp (i+1) hl (by omega);revert h;cases p.f (i+1)with
  |ok b k=>exactλh=>⟨by have:=h.1;omega,h.2⟩
  |bad k=>exact id
  |out=>exact id
 ·exact hq i h1 h2
def IF{p q:Rd l α}(hp:Ends p n)(hq:Ends q n):Ends (Rd.cond c p q) n:=by
 intro i h1 h2;show Nx l i (if c i then p.f i else q.f i);split
 ·exact hp i h1 h2
 ·exact hq i h1 h2
def RL{p q:Rd l α}(hp:EndsS p n)(hq:EndsS q n):EndsS (Rd.cond c p q) n:=by
 intro i h1 h2;show NxS l i (if c i then p.f i else q.f i);split
 ·exact hp i h1 h2
 ·exact hq i h1 h2
def RM{p q:Rd l α}(hp:Ends p n)(hq:Ends q n):Ends (Rd.condW c p q) n:=IF (c:=c) hp hq
def Zp(h:Bv l W i≠[]):i<l.length:=by
 apply CV (W:=W);intro e;apply h;unfold Bv;split
 ·rfl
 ·exact e
def Ds{q:Rd l α}(hq:Ends q (n-1))(hi:i<l.length)(h2:l.length+2<=n+i):NxS l i ((Rd.skip.bind λ_=>q).f i):=by
 have h:=hq (i+1) hi (by omega);show NxS l i (q.f (i+1));revert h;cases q.f (i+1)with
 |ok b k=>exactλh=>⟨by have:=h.1;omega,h.2⟩
 |bad k=>exact id
 |out=>exact id
def Ef{w:Bs}(hw:w≠[]){p q:Rd l α}(hp:Ends p (n-1))(hq:Ends q n):Ends (Rd.ifw W w p q) n:=by
 intro i h1 h2;show Nx l i (if Ar l W i==w then(Rd.skip.bind λ_=>p).f i else q.f i);split
 ·rename_i hs;simp only[beq_iff_eq]at hs;exact(Ds hp (CV (W:=W) (by rw[hs];exact hw)) h2).weak
 ·exact hq i h1 h2
def T0{w:Bs}(hw:w≠[]){p q:Rd l α}(hp:Ends p (n-1))(hq:EndsS q n):EndsS (Rd.ifw W w p q) n:=by
 intro i h1 h2;show NxS l i (if Ar l W i==w then(Rd.skip.bind λ_=>p).f i else q.f i);split
 ·rename_i hs;simp only[beq_iff_eq]at hs;exact Ds hp (CV (W:=W) (by rw[hs];exact hw)) h2
 ·exact hq i h1 h2
def CZ{w:Bs}(hw:w≠[]):EndsS (Rd.must W w:Rd l Unit) n:=T0 hw (Ends.pure _) (Ends.bad _)
def RQ{step:α->Rd l α}(h:∀a,Ends (step a) n):∀k a i,i<=l.length->l.length+1<=k+i->l.length+2<=n+i->Nx l i ((Rd.moreS s step k a).f i):=by
 intro k;induction k with
 |zero=>intro a i h1 h2;omega
 | succ k ih=>
   intro a i h1 h2 h3;show Nx l i (if Ah (Ab l i) s then((step a).f (i+1)).bind (λx j=>(Rd.moreS s step k x).f j)else .ok a i);split
   ·rename_i hs;have hl:=BE hs;have h0:=h a (i+1) hl (by omega);cases hr:(step a).f (i+1)with
    | ok b j=>
      rw[hr]at h0;have hq:=ih b j h0.2 (by have:=h0.1;omega) (by have:=h0.1;omega);rw[Res.bind_ok];revert hq;cases(Rd.moreS s step k b).f j with
      |ok b k=>exactλh=>⟨by have:=h.1;have:=h0.1;omega,h.2⟩
      |bad k=>exact id
      |out=>exact id
    |bad k=>trivial
    |out=>rw[hr]at h0;exact h0
   ·exact⟨nR _,h1⟩
def RR{w:Bs}(hw:w≠[]){step:α->Rd l α}(h:∀a,Ends (step a) (n-1)):∀k a i,i<=l.length->l.length+1<=k+i->l.length+2<=n+i->Nx l i ((Rd.moreW W w step k a).f i):=by
 intro k;induction k with
 |zero=>intro a i h1 h2;omega
 | succ k ih=>
   intro a i h1 h2 h3;show Nx l i (if Ar l W i==w then((step a).f (i+1)).bind (λx j=>(Rd.moreW W w step k x).f j)else .ok a i);split
   ·rename_i hs;simp only[beq_iff_eq]at hs;have hl:=CV (l:=l) (W:=W) (i:=i) (by rw[hs];exact hw);have h0:=h a (i+1) hl (by omega);cases hr:(step a).f (i+1)with
    | ok b j=>
      rw[hr]at h0;have hq:=ih b j h0.2 (by have:=h0.1;omega) (by have:=h0.1;omega);rw[Res.bind_ok];revert hq;cases(Rd.moreW W w step k b).f j with
      |ok b k=>exactλh=>⟨by have:=h.1;have:=h0.1;omega,h.2⟩
      |bad k=>exact id
      |out=>exact id
    |bad k=>trivial
    |out=>rw[hr]at h0;exact h0
   ·exact⟨nR _,h1⟩
def Zn(b:UInt8):(decide (48<=b)&&decide (b<=57))=AO b:=by
 unfold AO;rw[Bool.eq_iff_iff];simp only[Bool.and_eq_true,decide_eq_true_eq,UInt8.le_iff_toNat_le];exact Iff.rfl
def LG(h:∀i,As (Ab l i)):Aj l:=by
 intro i hk;obtain⟨⟨c,r,e,hc⟩,ha⟩:=(h i).word hk;rw[e]at ha ⊢;unfold Aw;simp only[Zn,hc,ha,List.isEmpty_cons,Bool.not_false,Bool.true_and,Bool.and_true]
def Ly(s:Bs)(w:World)(hs:s.length<=4000000):Calls Tryz.prog 61 #[str s] w (ρ w (.bool (Aw s))):=by
 go_enter func61,ntmps61;go_wp2_with fail;refine mR (Fa s w hs) λw1 hb=>?_;go_wp2;go_ret;exact⟨rfl,hb⟩
def Ms(s:Bs)(w:World)(hs:s.length<=4000000):Calls Tryz.prog 87 #[str s] w (ρ w (.bool (!Aw s))):=by
 go_enter func87,ntmps87;go_wp2_with fail;refine mR (Ly s w hs) λw1 hb=>?_;go_wp2;go_ret;exact⟨rfl,hb⟩
def NV{p:α->Bool}{l:List α}{d:α}(hk:k<l.length)(h:p (l.getD k d)=false):l.all p=false:=by
 rw[List.all_eq_false];refine⟨l.getD k d,?_,by intro e;rw[h]at e;cases e⟩;rw[List.getD_eq_getElem?_getD,List.getElem?_eq_getElem hk];exact List.getElem_mem hk
def NW{p:α->Bool}{l:List α}{d:α}(h:∀j,j<l.length->p (l.getD j d)=true):l.all p=true:=by
 rw[List.all_eq_true];intro x hx;obtain⟨j,hj,rfl⟩:=List.getElem_of_mem hx;have:=h j hj;rwa[List.getD_eq_getElem?_getD,List.getElem?_eq_getElem hj]at this
def OR{l:List Bs}(h1:Cells w (.slice pa l.length pc) 1 l.length (l.map str) ok)(hf:∀s∈l,s.length<=2000000):
 Calls Tryz.prog 112 #[.slice pa l.length pc,.func (.func 87) #[] #[]] w λe w'=>(∃n:Int,e= .returned (.int .i64 n)/\decide (0<=n)= !l.all Aw)/\w.grownBy w' none:=by
 have hc1:=h1.at1.2;have hl:l.length<=maxLen:=by obtain⟨_,_,e,h3,h4,_⟩:=h1;omega
 unfold maxLen at hl;clear h1;have HF:=S hf;have HC:=S hc1;clear hc1 hf;go_enter func112,ntmps112;go_wp2_with fail;go_loopg [8] l.length (λg v8 wr=>∃k:Nat,k+g=l.length/\v8= .int .i64 k/\(∀j,j<k->Aw (l.getD j [])=true)/\w.grownBy wr none)
 case atStart=>exact⟨0,by omega,rfl,λj hj=>by omega,Aa _ _⟩
 case round=>
  obtain⟨k,hg,rfl,hp,hgr⟩:=hrel;by_cases hk:k<l.length
  ·obtain⟨g1,o1,rfl,c1⟩:=HC.1 k hk;have d1:=Ad hgr c1;have hkI:decide (k<l.length)=true:=by simpa using hk
   have hmem:l.getD k []∈l:=by
    rw[List.getD_eq_getElem?_getD,List.getElem?_eq_getElem hk];exact List.getElem_mem hk
   have HL:=S (HF.1 _ hmem);have HP:=S hp;have HG:=S hgr;clear hp hgr c1 hmem;generalize hs1:l.getD k []=s at*;cases hb:Aw s with
   | true=>
     have HN:=S (X hb hs1);clear hb hs1;go_wp2_with fail;refine(Ms s _ (by have:=HL.1;omega)).mono ?_;rintro e w1 ⟨rfl,g1⟩;rw[HN.1.1];go_wp2;go_roundg (l.length-(k+1))
     case measure=>omega
     case rel=>exact⟨k+1,by omega,by go_num,λj hj=>by rcases Nat.lt_succ_iff_lt_or_eq.1 hj with h|rfl;exact HP.1 j h;rw[HN.1.2];exact HN.1.1,Z HG.1 (Z (Aa _ _) g1)⟩
   | false=>
     have HN:=S (X hb (NV (p:=Aw) (l:=l) (d:=[]) hk (by rw[hs1];exact hb)));clear hb hs1;go_wp2_with fail;refine(Ms s _ (by have:=HL.1;omega)).mono ?_;rintro e w1 ⟨rfl,g1⟩;rw[HN.1.1];go_wp2;go_ret;exact⟨⟨_,rfl,by rw[HN.1.2];simp⟩,Z HG.1 (Z (Aa _ _) g1)⟩
  ·have hkI:decide (k<l.length)=false:=by simpa using hk
   have HE:=S (NW (p:=Aw) (l:=l) (d:=[]) (λj hj=>hp j (by omega)));have HG:=S hgr;clear hp hgr;go_wp2;go_ret;exact⟨⟨_,rfl,by rw[HE.1];simp⟩,HG.1⟩
def OB{l:List Bs}(h1:Cells w (.slice pa l.length pc) 1 l.length (l.map str) ok)(hf:∀s∈l,s.length<=2000000):
 Calls Tryz.prog 80 #[.slice pa l.length pc,.func (.func 87) #[] #[]] w (ρ w (.bool (!l.all Aw))):=by
 have H:=S (OR h1 hf);clear h1 hf;go_enter func80,ntmps80;go_wp2_with fail;refine H.1.mono ?_;rintro e w1 ⟨⟨n,rfl,hn⟩,hb⟩;have HN:=S hn;clear hn;go_wp2;go_ret;exact⟨by rw[<-HN.1];rfl,hb⟩
def PH{l:List Bs}(h1:Cells w (.slice pa l.length pc) 1 l.length (l.map str) ok)(hf:∀s∈l,s.length<=2000000):
 Calls Tryz.prog 62 #[.slice pa l.length pc] w (ρ w (.bool (l.all Aw))):=by
 have H:=S (OB h1 hf);clear h1 hf;go_enter func62,ntmps62;go_wp2_with fail;refine mR H.1 λw1 hb=>?_;go_wp2;go_ret;exact⟨rfl,hb⟩
open Go.Lib
def Bh(c:Nat):Nat:=if 48<=c/\c<=57 then c-48 else if 97<=c ||| 32/\c ||| 32<=122 then(c ||| 32)-87 else 99
def BD(s:Bs)(k:Nat):Nat:=match k with
 | 0=>0
 | 1=>Bh (bAt s 0).toNat
 |_=>16*Bh (bAt s 0).toNat+Bh (bAt s 1).toNat
def Zr(c:UInt8):bits .or .u8 (c.toNat:Int) 32=((c.toNat ||| 32:Nat):Int):=by
 have h:∀n:Fin 256,bits .or .u8 ((n.val:Nat):Int) 32=((n.val ||| 32:Nat):Int):=by decide+kernel
 exact h ⟨c.toNat,c.toNat_lt⟩
def lowB(c:UInt8)(w:World):Calls Tryz.prog 194 #[.int .u8 (c.toNat:Int)] w λe w'=>e= .returned (.int .u8 ((c.toNat ||| 32:Nat):Int))/\w=w':=
 (internal_strconv_lower _ w).mono λe w' h=>⟨by rw[h.1,Zr],h.2.symm⟩
def Xz(s:Bs)(hs:s.length=2)(w:World):
 Calls Tryz.prog 145 #[str s,.int .i64 16,.int .i64 8] w λe w'=>w.grownBy w' none/\
  (((∀j,j<2->Bh (bAt s j).toNat<16)/\e= .returned (.tuple #[.int .u64 (BD s 2),.nilIface]))\/
   ((∃j,j<2/\¬Bh (bAt s j).toNat<16)/\e= .returned (.tuple #[.int .u64 0,.iface 139 (.int .i64 2)]))):=by
 have hconv:=run_bytes_of_string (P:=Tryz.prog) w 9 84 5 ⟨s.toArray⟩ underlying9 underlying84 underlying5;have hsz:(⟨s.toArray⟩:ByteArray).size=s.length:=by simp[ByteArray.size]
 have hne:List.isEmpty s=false:=by
  cases s with
  |nil=>simp at hs
  |cons=>rfl
 rw[hsz]at hconv;generalize hcap:grownCap w s.length 0 5=cap at*;have H0:=S (X (BytR.new w s cap) (Ac (Ae (Aa w none)) (.cells (bytesRow ⟨s.toArray⟩ cap) 5 ((bytesRow ⟨s.toArray⟩ cap).size,(bytesRow ⟨s.toArray⟩ cap).size+1))));clear hsz hcap;generalize(w.drew.alloc (.cells (bytesRow ⟨s.toArray⟩ cap) 5 ((bytesRow ⟨s.toArray⟩ cap).size,(bytesRow ⟨s.toArray⟩ cap).size+1)))=W at*;go_enter func145,ntmps145;go_wp2_with fail;go_loopg [12,13,15,16,17,101] 2 (λg v12 v13 v15 v16 v17 v101 wr=>∃k:Nat,k+g=2/\v12= .bool false/\v101= .int .i64 k/\v13= .int .u64 (BD s k)/\(∀j,j<k->Bh (bAt s j).toNat<16)/\W=wr)
 case atStart=>exact⟨0,by omega,rfl,rfl,rfl,λj h=>absurd h (by omega),rfl⟩
 case round=>
  obtain⟨k,hk,rfl,rfl,rfl,hd,rfl⟩:=hrel;clear hconv;have HD:=S hd;clear hd;cases gk with
  | zero=>
    have hkl:k=2:=by omega
    subst hkl;have hj1:decide (2<s.length)=false:=by simp;omega
    go_wp2;go_ret2;exact⟨H0.1.2,.inl ⟨HD.1,rfl⟩⟩
  | succ gk=>
    have hkl:k<s.length:=by omega
    have hj1:decide (k<s.length)=true:=by simp;omega
    have ck:=H0.1.1.cell k hkl;have hlt:=H0.1.1.lt;have hb:=(bAt s k).toNat_lt;by_cases hdig:48<=(bAt s k).toNat/\(bAt s k).toNat<=57
    ·have hx:=hdig.1;have hy:=hdig.2;clear hdig;have HS:=S hs;have HK:=S hk;have hk2:k<2:=by omega
     have HX:=S (show Bh (bAt s k).toNat=(bAt s k).toNat-48 by unfold Bh;rw[if_pos ⟨hx,hy⟩]);have HJ:=S (show ∀j,j=k->Bh (bAt s j).toNat<16 by intro j e;subst e;unfold Bh;rw[if_pos ⟨hx,hy⟩];omega);clear hs hk hne;have hn15:BD s k<=15:=by
      have hk1:k=0\/k=1:=by have:=HK.1;omega
      rcases hk1 with rfl|rfl
      ·simp[BD]
      ·have:=HD.1 0 (by omega);simp only[BD];omega
     have HN:=S (show BD s (k+1)=16*BD s k+Bh (bAt s k).toNat by
      have hk1:k=0\/k=1:=by have:=HK.1;omega
      rcases hk1 with rfl|rfl
      ·simp[BD]
      ·simp[BD])
     generalize hpn:BD s k=n at*;clear hpn;go_upto_region 38 with fail;generalize(bAt s k).toNat=c at*;go_upto_region 42 with fail;obtain⟨d,rfl⟩:∃d:Nat,c=48+d:=⟨c-48,by omega⟩;have hd9:d<=9:=by omega
     clear hx hy hb;have h1:decide ((48:Int)<=((48+d:Nat):Int))=true:=by simp;omega
     have h2:decide (((48+d:Nat):Int)<=57)=true:=by simp;omega
     have h3:IntKind.u8.wrap (((48+d:Nat):Int)-48)=(d:Int):=by
      rw[show((48+d:Nat):Int)-48=(d:Int)by omega];rw[IntKind.wrap_u8];omega
     go_upto_region 46 with fail;go_upto_region 48 with fail;have h4:decide ((1152921504606846976:Int)<=(n:Int))=false:=by rw[decide_eq_false_iff_not];omega
     have h5:¬(1152921504606846976:Int)<=(n:Int):=by omega
     go_upto_region 50 with fail;obtain⟨m,hm⟩:∃m:Nat,m=16*n:=⟨_,rfl⟩;have h6:IntKind.u64.wrap ((n:Int)*16)=(m:Int):=by rw[IntKind.wrap_u64];omega
     obtain⟨q,hq⟩:∃q:Nat,q=m+d:=⟨_,rfl⟩;have h7:IntKind.u64.wrap ((m:Int)+(48+(d:Int)-48))=(q:Int):=by rw[IntKind.wrap_u64];omega
     have h8:¬(q:Int)<(m:Int):=by omega
     have h9:¬(255:Int)<(q:Int):=by omega
     have HM:=S (X hm (X hn15 hq));clear hm hn15 hq h4 h5 h1 h2 h3;go_upto_region 52 with fail;go_wp2;go_roundg gk
     case measure=>omega
     case rel=>
      refine⟨k+1,by have:=HK.1;omega,rfl,by go_num,?_,?_,rfl⟩
      ·have e2:q=16*n+(48+d-48):=by have:=HM.1.1;have:=HM.1.2.2;omega
       rw[HN.1,HX.1,<-e2]
      ·intro j hj;rcases Nat.lt_or_ge j k with h' |h'
       ·exact HD.1 j h'
       ·exact HJ.1 j (by omega)
    ·have HLo:=S (λW=>lowB (bAt s k) W);have hk2:k<2:=by omega
     have hL:((bAt s k).toNat<48/\(((bAt s k).toNat:Int)==95)=false)\/(57<(bAt s k).toNat/\(((bAt s k).toNat:Int)==95)=false)\/(57<(bAt s k).toNat/\(((bAt s k).toNat:Int)==95)=true):=by
      rcases(show(bAt s k).toNat<48\/(57<(bAt s k).toNat/\(bAt s k).toNat≠95)\/(bAt s k).toNat=95 by omega)with h|h|h
      ·left;exact⟨h,by simp;omega⟩
      ·right;left;exact⟨h.1,by simp;omega⟩
      ·right;right;exact⟨by omega,by rw[h];rfl⟩
     have h99:¬(97<=(bAt s k).toNat ||| 32/\(bAt s k).toNat ||| 32<=122)->Bh (bAt s k).toNat=99:=λh=>by unfold Bh;rw[if_neg hdig,if_neg h]
     have h87:(97<=(bAt s k).toNat ||| 32/\(bAt s k).toNat ||| 32<=122)->Bh (bAt s k).toNat=((bAt s k).toNat ||| 32)-87:=λh=>by unfold Bh;rw[if_neg hdig,if_pos h]
     have hl256:(bAt s k).toNat ||| 32<256:=Nat.or_lt_two_pow (n:=8) (by omega) (by decide);have hJk:Bh (bAt s k).toNat<16\/∃j,j<2/\¬Bh (bAt s j).toNat<16:=by
      by_cases h:Bh (bAt s k).toNat<16
      ·exact .inl h
      ·exact .inr ⟨k,hk2,h⟩
     have hx:(((bAt s k).toNat ||| 32<97\/122<(bAt s k).toNat ||| 32)/\∃j,j<2/\¬Bh (bAt s j).toNat<16)\/(97<=(bAt s k).toNat ||| 32/\102<(bAt s k).toNat ||| 32/\(bAt s k).toNat ||| 32<=122/\∃j,j<2/\¬Bh (bAt s j).toNat<16)\/(97<=(bAt s k).toNat ||| 32/\(bAt s k).toNat ||| 32<=102):=by
      by_cases h1:97<=(bAt s k).toNat ||| 32/\(bAt s k).toNat ||| 32<=122
      ·have h2:=h87 h1;rcases Nat.lt_or_ge 102 ((bAt s k).toNat ||| 32)with h3|h3
       ·refine .inr (.inl ⟨h1.1,h3,h1.2,?_⟩);rcases hJk with h|h
        ·omega
        ·exact h
       ·exact .inr (.inr ⟨h1.1,h3⟩)
      ·have h2:=h99 h1;refine .inl ⟨by omega,?_⟩;rcases hJk with h|h
       ·omega
       ·exact h
     have HDG:=S h87;clear hdig h99 h87 hJk;go_upto_region 38 with fail;have HB0:=S hb;generalize hLe:(bAt s k).toNat ||| 32=L at*;generalize hce:(bAt s k).toNat=c at*;rcases hx with⟨hx,hbad⟩| ⟨hx1,hx2,hx3,hbad⟩| ⟨hx1,hx2⟩
     ·have HBad:=S hbad;clear hbad;rcases hL with⟨hL,h95⟩| ⟨hL,h95⟩| ⟨hL,h95⟩<;>rcases hx with hx|hx
      all_goals
       go_upto_region 44 with fail;go_wp2_with fail;refine(HLo.1 _).mono ?_;rintro e w5 ⟨rfl,rfl⟩;go_wp2_with fail;try(refine(HLo.1 _).mono ?_;rintro e w5 ⟨rfl,rfl⟩;go_wp2)
       go_ret2;exact⟨H0.1.2,.inr ⟨by simpa using HBad.1,rfl⟩⟩
     ·have HBad:=S hbad;clear hbad;obtain⟨f,rfl⟩:∃f:Nat,L=97+f:=⟨L-97,by omega⟩;have hf6:6<=f:=by omega
      have hf25:f<=25:=by omega
      rcases hL with⟨hL,h95⟩| ⟨hL,h95⟩| ⟨hL,h95⟩
      all_goals
       go_upto_region 44 with fail;go_wp2_with fail;refine(HLo.1 _).mono ?_;rintro e w5 ⟨rfl,rfl⟩;go_wp2_with fail;refine(HLo.1 _).mono ?_;rintro e w5 ⟨rfl,rfl⟩;go_wp2_with fail;refine(HLo.1 _).mono ?_;rintro e w5 ⟨rfl,rfl⟩;have hge:(16:Int)<=97+(f:Int)-97+10:=by omega
       go_wp2;go_ret2;exact⟨H0.1.2,.inr ⟨by simpa using HBad.1,rfl⟩⟩
     ·obtain⟨f,rfl⟩:∃f:Nat,L=97+f:=⟨L-97,by omega⟩;have hf5:f<=5:=by omega
      obtain⟨d,hdf⟩:∃d:Nat,d=f+10:=⟨_,rfl⟩;have HK:=S hk;have hn15:BD s k<=15:=by
       have hk1:k=0\/k=1:=by omega
       rcases hk1 with rfl|rfl
       ·simp[BD]
       ·have:=HD.1 0 (by omega);simp only[BD];omega
      have HN:=S (show BD s (k+1)=16*BD s k+Bh c by
       rw[<-hce];have hk1:k=0\/k=1:=by omega
       rcases hk1 with rfl|rfl
       ·simp[BD]
       ·simp[BD])
      have HX:=S (HDG.1 (by omega));have HJ:=S (show ∀j,j=k->Bh (bAt s j).toNat<16 by intro j e;subst e;rw[hce,HX.1];omega);generalize hpn:BD s k=n at*;clear hpn hs hk hne hce hLe;rcases hL with⟨hL,h95⟩| ⟨hL,h95⟩| ⟨hL,h95⟩
      all_goals
       go_upto_region 44 with fail;go_wp2_with fail;refine(HLo.1 _).mono ?_;rintro e w5 ⟨rfl,rfl⟩;go_wp2_with fail;refine(HLo.1 _).mono ?_;rintro e w5 ⟨rfl,rfl⟩;go_wp2_with fail;refine(HLo.1 _).mono ?_;rintro e w5 ⟨rfl,rfl⟩;go_upto_region 46 with fail;go_upto_region 48 with fail;have h4:decide ((1152921504606846976:Int)<=(n:Int))=false:=by rw[decide_eq_false_iff_not];omega
       have h5:¬(1152921504606846976:Int)<=(n:Int):=by omega
       go_upto_region 50 with fail;obtain⟨m,hm⟩:∃m:Nat,m=16*n:=⟨_,rfl⟩;have h6:IntKind.u64.wrap ((n:Int)*16)=(m:Int):=by rw[IntKind.wrap_u64];omega
       obtain⟨q,hq⟩:∃q:Nat,q=m+d:=⟨_,rfl⟩;have h7:IntKind.u64.wrap ((m:Int)+(97+(f:Int)-97+10))=(q:Int):=by rw[IntKind.wrap_u64];omega
       have h8:¬(q:Int)<(m:Int):=by omega
       have h9:¬(255:Int)<(q:Int):=by omega
       have HM:=S (X hm (X hn15 hq));clear hm hn15 hq h4 h5 hL;go_upto_region 52 with fail;go_wp2;go_roundg gk
       case measure=>omega
       case rel=>
        refine⟨k+1,by have:=HK.1;omega,rfl,by go_num,?_,?_,rfl⟩
        ·have e2:q=16*n+(97+f-87):=by have:=HM.1.1;have:=HM.1.2.2;omega
         rw[HN.1,HX.1,<-e2]
        ·intro j hj;rcases Nat.lt_or_ge j k with h' |h'
         ·exact HD.1 j h'
         ·exact HJ.1 j (by omega)
section
variable {l:Bs}{j:Nat}{ok:Bool}
def Hn(h:k<s.length):s.drop k=bAt s k::s.drop (k+1):=by rw[List.drop_eq_getElem_cons h,CC h]
def WG(hk:k<s.length)(h37:bAt s k≠37)(b:UInt8)(r:Bs)(h:s.drop k=qtB b++r):b=bAt s k/\s.drop (k+1)=r:=by
 rw[Hn hk]at h;unfold qtB at h;split at h
 ·simp at h;exact absurd h.1 h37
 ·simp at h;exact⟨h.1.symm,h.2⟩
def Ou(h:n<16):dgM (A3 n).toNat=n:=by
 rw[G1 h];unfold dgM;split<;>(try split)<;>(try split)<;>omega
def O1(hk:k<s.length)(h37:bAt s k=37){b:UInt8}{r:Bs}(h:s.drop k=qtB b++r):k+3<=s.length/\dgM (bAt s (k+1)).toNat=((b.toNat/16:Nat):Int)/\dgM (bAt s (k+2)).toNat=((b.toNat%16:Nat):Int)/\s.drop (k+3)=r:=by
 have hb:=BQ (b:=b);unfold qtB at h;split at h
 ·have hl:=congrArg List.length h;simp at hl;have h1:k+1<s.length:=by omega
  have h2:k+2<s.length:=by omega
  rw[Hn hk,Hn h1,Hn h2]at h;simp only[List.cons_append,List.nil_append,List.cons.injEq]at h;obtain⟨_,e1,e2,e3⟩:=h;rw[e1,e2,Ou hb.1,Ou hb.2];exact⟨by omega,rfl,rfl,e3⟩
 ·rename_i he;rw[Hn hk,h37]at h;simp at h;rw[<-h.1]at he;exact absurd (by decide) he
end
def Xi(w:World):(convert 84 9 (.slice none 0 0)).run Tryz.prog w= .ok (str []) w:=by
 rw[run_convert_bytes_string w 84 9 5 none 0 0 underlying84 underlying5 underlying9];simp[Conv.bytesToString];rfl
def Xm{B:Nat}{l:Bs}(h:OwnBs w B v l):(convert 84 9 v).run Tryz.prog w= .ok (str l) w:=by
 rcases id h.2 with⟨rfl,h2⟩| ⟨g1,cap1,cur1,rfl,_⟩
 ·have:l=[]:=List.eq_nil_of_length_eq_zero h2;subst this;exact Xi w
 ·exact J3 cap1 h
def Errs.gbN(h:Errs w)(g:w.grownBy w1 none):Errs w1:=h.gb g (λk e=>by cases e)
def Zz(s:Bs)(hs:s.length=2)(he:Errs w):
 Calls Tryz.prog 102 #[str s,.int .i64 16,.int .i64 8] w λe w'=>w.grownBy w' none/\
  (((∀j,j<2->Bh (bAt s j).toNat<16)/\e= .returned (.tuple #[.int .u64 (BD s 2),.nilIface]))\/
   ((∃j,j<2/\¬Bh (bAt s j).toNat<16)/\∃tp p,e= .returned (.tuple #[.int .u64 0,.iface tp p]))):=by
 have HP:=S (Xz s hs w);have HE:=S he;clear he;go_enter func102,ntmps102;go_wp2_with fail;refine HP.1.mono ?_;rintro e w1 ⟨g1,h1⟩;rcases h1 with⟨hd,rfl⟩| ⟨hd,rfl⟩
 ·have HD:=S (X hd g1);clear hd g1;go_wp2;go_ret2;exact⟨HD.1.2,.inl ⟨HD.1.1,rfl⟩⟩
 ·have HD:=S (X hd g1);have hE1:=HE.1.gbN g1;clear hd g1;obtain⟨⟨tp,p,hv⟩,_⟩:=hE1;have hv2:w1.cell? ⟨1,0,none⟩=some (.iface tp p):=by
   unfold World.var? at hv;simp only[Jo,Option.bind_some]at hv;unfold World.cell?;cases ho:w1.heap[1]? with
   |none=>rw[ho]at hv;cases hv
   | some o=>
     rw[ho]at hv;cases o with
     |cells cs t m=>simp at hv;subst hv;rfl
     |_=>simp at hv
  have HT:=S (strconv_toError_syntax ⟨#[80,97,114,115,101,85,105,110,116]⟩ ⟨s.toArray⟩ 16 8 _ w1 (by simp[ByteArray.size];omega) hv2 (.inr ⟨_,_,rfl⟩));clear hv hv2;go_wp2_with fail;refine HT.1.mono ?_;rintro e w2 ⟨N,rfl,_,_,hb⟩;go_wp2;go_ret2;exact⟨Z HD.1.2 (gbB hb none),.inr ⟨HD.1.1,_,_,rfl⟩⟩
def BC(s:Bs):Bs:=(s.drop 1).take (s.length-2)
def We(s:Bs)(h:2<=s.length):(BC s).length=s.length-2:=by simp[BC];omega
def Zs(m:Bs):BC (qtM m)=m.flatMap qtB:=by
 rw[BC,Eh];simp
def Jj{c x:Nat}(h:dgM c=x):Bh c=x:=by
 unfold dgM at h;unfold Bh;split at h
 ·rename_i h1;rw[if_pos h1];omega
 ·rename_i h1;split at h
  ·rename_i h2;rw[if_neg h1];have:c=97\/c=98\/c=99\/c=100\/c=101\/c=102:=by omega
   rcases this with rfl|rfl|rfl|rfl|rfl|rfl<;>simp at h ⊢ <;> omega
  ·omega
def UQ(s l:Bs)(k:Nat):Prop:=∀m,s=qtM m->∃q,m=l++q/\(BC s).drop k=q.flatMap qtB
def UQ.init(s:Bs):UQ s [] 0:=λm h=>⟨m,rfl,by rw[List.drop_zero,h,Zs]⟩
section
variable {l:Bs}
def UQ.plain(h:UQ s l k)(hk:k<(BC s).length)(h37:bAt (BC s) k≠37):UQ s (l++[bAt (BC s) k]) (k+1):=by
 intro m hm;obtain⟨q,rfl,h2⟩:=h m hm;cases q with
 | nil=>
   have:=congrArg List.length h2;simp at this;omega
 | cons b q=>
   rw[fC]at h2;obtain⟨rfl,h3⟩:=WG hk h37 _ _ h2;exact⟨q,by simp,h3⟩
def UQ.hex(h:UQ s l k)(hk:k<(BC s).length)(h37:bAt (BC s) k=37):UQ s (l++[UInt8.ofNat (16*Bh (bAt (BC s) (k+1)).toNat+Bh (bAt (BC s) (k+2)).toNat)]) (k+3):=by
 intro m hm;obtain⟨q,rfl,h2⟩:=h m hm;cases q with
 | nil=>
   have:=congrArg List.length h2;simp at this;omega
 | cons b q=>
   rw[fC]at h2;obtain⟨_,e1,e2,e3⟩:=O1 hk h37 h2;refine⟨q,?_,e3⟩;rw[Jj e1,Jj e2];have hb:=b.toNat_lt;have:UInt8.ofNat (16*(b.toNat/16)+b.toNat%16)=b:=by
    apply UInt8.toNat.inj;rw[UInt8.toNat_ofNat'];omega
   rw[this];simp
def UQ.no(h:UQ s l k)(hk:k<(BC s).length)(h37:bAt (BC s) k=37)(hx:¬k+3<=(BC s).length\/¬Bh (bAt (BC s) (k+1)).toNat<16\/¬Bh (bAt (BC s) (k+2)).toNat<16):∀m,s≠qtM m:=by
 intro m hm;obtain⟨q,rfl,h2⟩:=h m hm;cases q with
 | nil=>
   have:=congrArg List.length h2;simp at this;omega
 | cons b q=>
   rw[fC]at h2;obtain⟨e0,e1,e2,_⟩:=O1 hk h37 h2;have hb:=BQ (b:=b);rw[Jj e1,Jj e2]at hx;omega
def UQ.end(h:UQ s l k)(hk:(BC s).length<=k):∀m,s=qtM m->m=l:=by
 intro m hm;obtain⟨q,rfl,h2⟩:=h m hm;rw[List.drop_eq_nil_of_le hk]at h2;cases q with
 |nil=>simp
 | cons b q=>
   have h5:=Lb b;have:=congrArg List.length h2;simp at this;omega
end
def XX{w0 W W1:World}{C:World->Prop}(hC:∀W,w0.grownBy W none->C W)(h:C W/\w0.grownBy W none)(g:W.grownBy W1 none):C W1/\w0.grownBy W1 none:=⟨hC _ (Z h.2 g),Z h.2 g⟩
def UnqP(w:World)(s:Bs)(e:Ending)(w':World):Prop:=∃t b,e= .returned (.tuple #[str t,.bool b])/\w.grownBy w' none/\t.length<=s.length/\(∀m,s=qtM m->b=true/\t=m)
def Oj(s:Bs)(hs:s.length<=1048576)(he:Errs w):
 Calls Tryz.prog 73 #[str s] w λe w'=>UnqP w s e w':=by
 have HE:=S he;clear he;by_cases h2:s.length<2
 ·have hj1:decide (s.length<2)=true:=by simpa using h2
  have HN:=S (show ∀m,s=qtM m->False from λm e=>by rw[e,Eh]at h2;simp at h2;omega);go_enter func73,ntmps73;go_wp2;go_ret2;exact⟨[],false,rfl,Aa _ _,nZ _,λm e=>(HN.1 m e).elim⟩
 ·have hj1:decide (s.length<2)=false:=by simpa using h2
  have k0:0<s.length:=by omega
  have k1:s.length-1<s.length:=by omega
  obtain⟨p0,hp0⟩:∃p,p=s[0].toNat:=⟨_,rfl⟩;obtain⟨p1,hp1⟩:∃p,p=s[s.length-1].toNat:=⟨_,rfl⟩;have hg0:=λh=>(congrArg UInt8.toNat (Fz s 0 h k0)).trans hp0.symm;have hg1:=λh=>(congrArg UInt8.toNat (Fz s (s.length-1) h k1)).trans hp1.symm;have n1:((s.length:Int)-1).toNat=s.length-1:=by omega
  have n2:(0:Int)<=(s.length:Int)-1:=by omega
  have n3:(s.length:Int)-1<(s.length:Int):=by omega
  by_cases hq:p0=34/\p1=34
  ·obtain⟨rfl,rfl⟩:=hq;obtain⟨u,hu⟩:∃u,u=BC s:=⟨_,rfl⟩;have hul:u.length=s.length-2:=by rw[hu];exact We s (by omega)
   have hx:(⟨s.toArray⟩:ByteArray).extract 1 (s.length-1)=⟨u.toArray⟩:=by rw[hu,CY,BC];rfl
   have n4:(1:Int)<=(s.length:Int)-1:=by omega
   have n5:(s.length:Int)-1<=(s.length:Int):=by omega
   obtain⟨i0,HI⟩:=iPz G7;have HU:=S hu;clear hu hp0 hp1;go_enter func73,ntmps73;go_wp2_with fail;go_loopg [4,6,7,8] (u.length+1) (λg v4 v6 v7 v8 wr=>∃k l,u.length-k<g/\v6= .int .i64 (k:Nat)/\k<=u.length/\OwnBs wr w.heap.size v4 l/\l.length<=k/\UQ s l k/\w.grownBy wr none)
   case atStart=>exact⟨0,[],by omega,rfl,nZ _,NF _ _,nZ _,UQ.init s,Aa _ _⟩
   case round=>
    obtain⟨k,l,hk,rfl,hku,hO,hl,hX,hG⟩:=hrel;have hgs:=hG.size;have HB:=S (X hO (X hX hG));clear hO hX hG hg0 hg1;by_cases hkl:k<u.length
    ·have hj2:decide (k<u.length)=true:=by simpa using hkl
     obtain⟨c,hc⟩:∃c,c=u[k]:=⟨_,rfl⟩;have hgk:=λh=>(Fz u k h hkl).trans hc.symm;have hcb:bAt (BC s) k=c:=by rw[<-HU.1,CC hkl,hc]
     have hkm:k<(BC s).length:=by rw[<-HU.1];exact hkl
     have HCk:=S (X hcb hkm);clear hc hcb hkm;by_cases h37:c=37
     ·have i37:((c.toNat:Int)==37)=true:=by rw[h37];rfl
      by_cases h3:k+3<=u.length
      ·have hj3:decide (u.length<=k+2)=false:=by simp;omega
       obtain⟨t2,ht⟩:∃t,t=(u.drop (k+1)).take 2:=⟨_,rfl⟩;have hx2:(⟨u.toArray⟩:ByteArray).extract (k+1) (k+3)=⟨t2.toArray⟩:=by rw[ht,CY,show k+3-(k+1)=2 by omega]
       have htl:t2.length=2:=by rw[ht];simp;omega
       have hb0:bAt t2 0=bAt (BC s) (k+1):=by rw[<-HU.1,ht];simp[bAt]
       have hb1:bAt t2 1=bAt (BC s) (k+2):=by rw[<-HU.1,ht];simp[bAt]
       have m1:(0:Int)<=(k:Int)+1:=by omega
       have m2:(k:Int)+1<=(k:Int)+3:=by omega
       have m3:(k:Int)+3<=(u.length:Int):=by omega
       have m4:((k:Int)+1).toNat=k+1:=by omega
       have m5:((k:Int)+3).toNat=k+3:=by omega
       have HPu:=S (Zz t2 htl (HE.1.gbN HB.1.2.2));have HT:=S (X hb0 (X hb1 h37));clear ht hb0 hb1 h37;go_wp2_with fail;refine HPu.1.mono ?_;rintro e w5 ⟨g5,h5⟩;have HB5:=S (X (HB.1.1.gb g5) (Z HB.1.2.2 g5));have hg5:=g5.size;clear g5 HPu;rcases h5 with⟨hd,rfl⟩| ⟨⟨j,hj,hd⟩,tp,p,rfl⟩
       ·obtain⟨c2,hc2⟩:∃c:UInt8,c=UInt8.ofNat (BD t2 2):=⟨_,rfl⟩;have hd0:=hd 0 (by omega);have hd1:=hd 1 (by omega);have hpn:BD t2 2=16*Bh (bAt t2 0).toNat+Bh (bAt t2 1).toNat:=rfl;have hv:IntKind.u8.wrap ((BD t2 2:Nat):Int)=(c2.toNat:Int):=by rw[hc2,UInt8.toNat_ofNat',IntWalk.u8_in _ (by omega)];omega
        have HS:=S (show UQ s (l++[c2]) (k+3)from by have h:=HB.1.2.1.hex HCk.1.2 (HCk.1.1.trans HT.1.2.2);rw[<-HT.1.1,<-HT.1.2.1,<-hpn,<-hc2]at h;exact h);clear hc2 hd hd0 hd1 hpn;generalize BD t2 2=pn at*;go_wp2_with (at_builtin;go_loud(refine wpList_append_lies _ rfl _ _ 84 rfl w.heap.size 5 i0 (.int .u8 0) 1 1 underlying84 HI.1.1 HI.1.2.1 HI.1.2.2.1 HI.1.2.2.2 rfl (by decide) u4 l.length (AC l) rfl (HB5.1.1.gb (gZ _ _ none)) ⟨w5.heap.size,0,none⟩ 1 1 [.int .u8 c2.toNat] rfl rfl (AY _ _ _) (by simp[Value.oneCell']) (by decide) (by unfold maxLen;omega) (by omega) (by simp;omega) _ rfl ?_;intro g6 cap6 w6 hown hgrow hat6 hlt6;(have HZ:=S (X (K1 c2 hown) ((HB5.1.1.gb (gZ _ _ none)).fr (Ac HB5.1.2 _) hgrow)));clear hown hgrow hat6));go_wp2;go_roundg (u.length-(k+2))
        case measure=>omega
        case rel=>exact⟨k+3,_,by omega,by go_num,by omega,HZ.1.1,by simp;omega,HS.1,HZ.1.2⟩
       ·have HN := S (HB.1.2.1.no HCk.1.2 (HCk.1.1.trans HT.1.2.2) (by
         rcases(show j=0\/j=1 by omega)with rfl|rfl
         ·rw[HT.1.1]at hd;exact .inr (.inl hd)
         ·rw[HT.1.2.1]at hd;exact .inr (.inr hd)))
        clear hd;go_wp2;go_ret2;exact⟨[],false,rfl,HB5.1.2,nZ _,λm e=>(HN.1 m e).elim⟩
      ·have hj3:decide (u.length<=k+2)=true:=by simp;omega
       have HN:=S (HB.1.2.1.no HCk.1.2 (HCk.1.1.trans h37) (.inl (by rw[<-HU.1];exact h3)));clear h37;go_wp2;go_ret2;exact⟨[],false,rfl,HB.1.2.2,nZ _,λm e=>(HN.1 m e).elim⟩
     ·have i37 : ((c.toNat : Int) == 37) = false := by
       rw[beq_eq_false_iff_ne];intro e;exact h37 (UInt8.toNat_inj.1 (by show _=37;omega))
      have HS:=S (show UQ s (l++[c]) (k+1)from by have h:=HB.1.2.1.plain HCk.1.2 (by rw[HCk.1.1];exact h37);rwa[HCk.1.1]at h);clear h37;go_wp2_with (at_builtin;go_loud(refine wpList_append_lies _ rfl _ _ 84 rfl w.heap.size 5 i0 (.int .u8 0) 1 1 underlying84 HI.1.1 HI.1.2.1 HI.1.2.2.1 HI.1.2.2.2 rfl (by decide) u4 l.length (AC l) rfl (HB.1.1.gb (gZ _ _ none)) ⟨wr.heap.size,0,none⟩ 1 1 [.int .u8 c.toNat] rfl rfl (AY _ _ _) (by simp[Value.oneCell']) (by decide) (by unfold maxLen;omega) (by omega) (by simp;omega) _ rfl ?_;intro g6 cap6 w6 hown hgrow hat6 hlt6;(have HZ:=S (X (K1 c hown) ((HB.1.1.gb (gZ _ _ none)).fr (Ac HB.1.2.2 _) hgrow)));clear hown hgrow hat6));go_roundg (u.length-k)
      case measure=>omega
      case rel=>exact⟨k+1,_,by omega,by go_num,by omega,HZ.1.1,by simp;omega,HS.1,HZ.1.2⟩
    ·have hj2:decide (k<u.length)=false:=by simpa using hkl
     have HBk:=S (λW (g:wr.grownBy W none)=>Xm (HB.1.1.gb g));have HXS:=S (show(λW=>(convert 84 9 u4).run Tryz.prog W= .ok (str l) W/\wr.grownBy W none) wr.drew from⟨HBk.1 _ (Ae (Aa _ _)),Ae (Aa _ _)⟩);obtain⟨ql,hql⟩:∃q,q=qtM l:=⟨_,rfl⟩;have HQ:=S (λW=>by have h:=JQ l (by omega) W;rw[<-hql]at h;exact h);have HL:=S (show ∀m,s=qtM m->(ql==s)=true/\l=m from λm e=>by
      have h:=HB.1.2.1.end (by rw[<-HU.1];omega) m e;subst h;rw[hql,<-e];exact⟨by simp,rfl⟩)
     clear hql;go_wp2_with fail;go_region_held3 (λW=>(convert 84 9 u4).run Tryz.prog W= .ok (str l) W/\wr.grownBy W none)
      (first|exact HXS.1|exact XX HBk.1 (by assumption) g5)
      ((go_at_call 46;refine(HQ.1 _).mono ?_;rintro e w5 ⟨rfl,g5⟩))
     all_goals
      rename_i hH;have HZ:=S (Z HB.1.2.2 hH.2);clear hH;go_wp2;go_ret2;exact⟨l,ql==s,rfl,HZ.1,by omega,HL.1⟩
  ·have hj3 : (((p0 : Int) == 34) = false /\ ((p0 : Int) != 34) = true) \/ (((p0 : Int) != 34) = false /\ ((p1 : Int) != 34) = true) := by
    by_cases h:p0=34
    ·exact .inr ⟨by simp[h],by simp;omega⟩
    ·exact .inl ⟨by simp;omega,by simp;omega⟩
   have HN:=S (show ∀m,s=qtM m->False from λm e=>hq (by
    have h0:bAt s 0=34:=by rw[e,Eh];rfl
    have h1:bAt s (s.length-1)=34:=by
     rw[e,Eh];simp[bAt]
    rw[CC k0]at h0;rw[CC k1]at h1;rw[hp0,hp1,h0,h1];exact⟨rfl,rfl⟩))
   clear hq hp0 hp1;rcases hj3 with⟨hj3,hj4⟩| ⟨hj3,hj4⟩
   all_goals
    go_enter func73,ntmps73;go_wp2;go_ret2;exact⟨[],false,rfl,Aa _ _,nZ _,λm e=>(HN.1 m e).elim⟩
def Ks(c:UInt8)(a r:Bs)(h:c ∉ a):Lib.index (a++c::r) [c]=a.length:=by
 induction a with
 |nil=>simp[Lib.index,List.isPrefixOf]
 | cons x a ih=>
   have hx:c≠x:=λe=>h (by rw[e];simp);have ha:c ∉ a:=λe=>h (by simp[e]);rw[List.cons_append,Lib.index,if_neg (by simp[List.isPrefixOf,hx]),ih ha,if_neg (by simp)];simp
def KI(c:UInt8)(a:Bs)(h:c ∉ a):Lib.index a [c]= -1:=by
 induction a with
 |nil=>simp[Lib.index]
 | cons x a ih=>
   have hx:c≠x:=λe=>h (by rw[e];simp);have ha:c ∉ a:=λe=>h (by simp[e]);rw[Lib.index,if_neg (by simp[List.isPrefixOf,hx]),ih ha];rfl
def M0(c:UInt8)(a:Bs):c ∉ a\/∃b r,a=b++c::r/\c ∉ b:=by
 induction a with
 |nil=>left;simp
 | cons x a ih=>
   by_cases e:c=x
   ·subst e;right;exact⟨[],a,rfl,by simp⟩
   ·rcases ih with h| ⟨b,r,rfl,h⟩
    ·left;simp[e,h]
    ·right;exact⟨x::b,r,rfl,by simp[e,h]⟩
def I0(c:UInt8)(k:Nat)(a r:Bs)(h:c ∉ a):Lib.splitK [c] 0 (k+1) (a++c::r)=a::Lib.splitK [c] 0 k r:=by
 rw[Lib.splitK,Ks c a r h,if_neg (by simp)];simp
def GV(c:UInt8)(a r:Bs)(h:c ∉ a):Lib.split (a++c::r) [c]=a::Lib.split r [c]:=by
 have hc:Lib.count (a++c::r) [c]=1+Lib.count r [c]:=by
  rw[Lib.count_hit (i:=a.length) (by simp) (Ks c a r h)];simp
 rw[Lib.split,hc,Nat.add_comm,I0 c _ a r h];rfl
def F_S(c:UInt8)(a:Bs)(h:c ∉ a):Lib.split a [c]=[a]:=by
 rw[Lib.split,Lib.count_miss (KI c a h)];rfl
def I1(c:UInt8):∀(n:Nat)(s:Bs),s.length<=n->(Lib.split s [c]).flatMap (· ++[c])=s++[c]:=by
 intro n;induction n with
 | zero=>
   intro s hs;have:s=[]:=List.eq_nil_of_length_eq_zero (by omega);subst this;rw[F_S c [] (by simp)];simp
 | succ n ih=>
   intro s hs;rcases M0 c s with h| ⟨a,r,rfl,h⟩
   ·rw[F_S c s h];simp
   ·rw[GV c a r h,fC,ih r (by simp at hs;omega)];simp
def MD(c:UInt8)(ls:List Bs)(h:ls≠[]):∃q,ls.flatMap (· ++[c])=q++[c]:=by
 induction ls with
 |nil=>exact absurd rfl h
 | cons a ls ih=>
   cases ls with
   |nil=>exact⟨a,by simp⟩
   | cons b ls=>
     obtain⟨q,hq⟩:=ih (by simp);exact⟨a++c::q,by rw[fC,hq];simp⟩
def MV(c:UInt8):∀(n:Nat)(s:Bs),s.length<=n->(Lib.split s [c]).length=Lib.count s [c]+1:=by
 intro n;induction n with
 | zero=>
   intro s hs;have:s=[]:=List.eq_nil_of_length_eq_zero (by omega);subst this;rw[F_S c [] (by simp),Lib.count_miss (KI c [] (by simp))];rfl
 | succ n ih=>
   intro s hs;rcases M0 c s with h| ⟨a,r,rfl,h⟩
   ·rw[F_S c s h,Lib.count_miss (KI c s h)];rfl
   ·rw[GV c a r h,List.length_cons,ih r (by simp at hs;omega),Lib.count_hit (i:=a.length) (by simp) (Ks c a r h)];simp;omega
def Td(L:List ByteArray):L.map Value.string=(L.map (·.data.toList)).map str:=by
 rw[List.map_map];refine List.map_congr_left λx _=>?_;simp[str]
def SE(c:UInt8)(s:Bs):(Lib.splitB ⟨#[c]⟩ 0 (Lib.countB ⟨s.toArray⟩ ⟨#[c]⟩) ⟨s.toArray⟩).map Value.string=(Lib.split s [c]).map str/\Lib.countB ⟨s.toArray⟩ ⟨#[c]⟩+1=(Lib.split s [c]).length:=by
 have hc:Lib.countB ⟨s.toArray⟩ ⟨#[c]⟩=Lib.count s [c]:=by unfold Lib.countB;simp
 refine⟨?_,by rw[hc,MV c _ s (nR _)]⟩;rw[Td,Lib.splitB_data,hc];simp[Lib.split]
def Re(c:UInt8):∀(ls:List Bs)(s:Bs),ls≠[]->(∀l∈ls,c ∉ l)->s++[c]=ls.flatMap (· ++[c])->Lib.split s [c]=ls:=by
 intro ls;induction ls with
 |nil=>intro s h;exact absurd rfl h
 | cons a ls ih=>
   intro s _ hn he;rw[fC,List.append_assoc]at he;cases ls with
   | nil=>
     have:s=a:=by simpa using he
     subst this;exact F_S c s (hn s (by simp))
   | cons b ls=>
     have hs:∃r,s=a++c::r/\r++[c]=(b::ls).flatMap (· ++[c]):=by
      obtain⟨q,hq⟩:=MD c (b::ls) (by simp);refine⟨q,?_,hq.symm⟩;rw[hq]at he;have:s++[c]=(a++c::q)++[c]:=by rw[he];simp
      exact List.append_cancel_right this
     obtain⟨r,rfl,hr⟩:=hs;rw[GV c a r (hn a (by simp)),ih r (by simp) (λl hl=>hn l (by simp[hl])) hr]
open Go.ChangeShapes
def cwU:Tryz.prog.cellsOf 58=3:=by kernel_rfl
def cwC:Tryz.prog.cellsOf 61=4:=by kernel_rfl
def cwI:Tryz.prog.cellsOf 3=1:=by kernel_rfl
def cwS:Tryz.prog.cellsOf 9=1:=by kernel_rfl
def cwIs:Tryz.prog.cellsOf 55=1:=by kernel_rfl
def cwCs:Tryz.prog.cellsOf 56=1:=by kernel_rfl
def Oi(s:ByteArray):Value.string s=str s.data.toList:=by cases s;simp[str]
def Xo(f:α->Nat)(x:α)(r:List α)(k:Nat):pfx f (x::r) (k+1)=f x+pfx f r k:=by
 induction k with
 |zero=>simp[pfx]
 |succ k ih=>rw[pfx,ih,pfx];simp[Nat.add_assoc]
def Tn(l:List Cd):A9 l=l.flatMap cdC:=by
 induction l with
 |nil=>rfl
 |cons c r ih=>rw[A9,ih];rfl
def Ja{n:Int}(h:(Lit.int .i64 n).wf=true):Bb n:=by
 simp only[Lit.wf,Bool.and_eq_true,decide_eq_true_eq]at h;exact h
section
variable {H:Type}{enc:TypeId×Value->H}{W:World}{base:Nat}{sp:Nat->Bool}{held:Bool}
def JR{len cap size:Nat}(h1:len<=cap)(h2:cap<=maxLen)(hl:cs.length=len*size)(hc:∀j u,cs[j]? =some u->W.cell? (a.add j)=some u):
 Cells W (.slice (some a) len cap) size len cs (λ_=>True):=by
 refine⟨_,_,rfl,h1,h2,hl,λj u hj=>?_⟩;have h0:∃v,cs[0]? =some v:=by
  cases cs with
  |nil=>simp at hj
  |cons v r=>exact⟨v,rfl⟩
 obtain⟨v,hv⟩:=h0;have hs:=World.cell?_spot (hc 0 v hv);have ha:a.add 0=a:=by unfold Addr.add;simp
 rw[ha]at hs;obtain⟨g,o,spot⟩:=a;simp only at hs;subst hs;refine⟨g,o,rfl,trivial,?_⟩;have:=hc j u hj;rwa[Addr.add_lit]at this
def O2{sz:Nat}(toC:α->List Value)(hsz:∀x,(toC x).length=sz)(ok:α->Prop)(wt:α->Nat){e:TypeId}{elems:List (DataW H×List MemPlace)}
 (ih:∀(cs:List Value)(x:DataW H×List MemPlace),DataW.trod enc Tryz.prog W base sp held n e cs=some x->∃y:α,cs=toC y/\ok y/\wt y<=Rows.uptoBulk x.1)
 (he:∀i,i<elems.length->(W.cells? base (a.add (i*sz)) sz).bind (DataW.trod enc Tryz.prog W base sp held n e)=elems[i]?):
 ∀k j,j+k=elems.length->∃ys:List α,ys.length=k/\(ys.flatMap toC).length=k*sz/\(∀y∈ys,ok y)/\(∀i u,(ys.flatMap toC)[i]? =some u->W.cell? (a.add (j*sz+i))=some u)/\pfx wt ys ys.length<=Rows.uptoBulkAll ((elems.drop j).map (·.1)):=by
 intro k;induction k with
 |zero=>intro j _;exact⟨[],rfl,by simp,by simp,λi u h=>by simp at h,by simp[pfx]⟩
 | succ k ihk=>
   intro j hj;obtain⟨ys,hf,hds,hF,hc,hbk⟩:=ihk (j+1) (by omega);have hx:=he j (by omega);have hjl:j<elems.length:=by omega
   rw[List.getElem?_eq_getElem hjl]at hx;obtain⟨cs',h1,h2⟩:=Option.bind_eq_some_iff.1 hx;obtain⟨y,rfl,hy,hbb⟩:=ih cs' _ h2;obtain⟨_,_,hget⟩:=World.cells?_some h1;refine⟨y::ys,by simp[hf],?_,?_,?_,?_⟩
   ·rw[fC,lA,hsz,hds,Nat.add_mul,Nat.one_mul,Nat.add_comm]
   ·intro z hz;rcases List.mem_cons.1 hz with rfl|hz
    ·exact hy
    ·exact hF z hz
   ·intro i u hi;rw[fC]at hi;by_cases h7:i<sz
    ·rw[List.getElem?_append_left (by rw[hsz];exact h7)]at hi;have:=hget i h7;rw[Addr.add_add]at this;rw[this,hi]
    ·rw[List.getElem?_append_right (by rw[hsz];omega),hsz]at hi;have:=hc _ u hi;rw[show(j+1)*sz+(i-sz)=j*sz+i by rw[Nat.add_mul,Nat.one_mul];omega]at this;exact this
   ·rw[List.drop_eq_getElem_cons hjl];simp only[List.map_cons,Rows.uptoBulkAll,List.length_cons];rw[Xo];omega
def Kk{H:Type}(d:DataW H):1<=Rows.uptoBulk d:=by
 cases d with
 |lit l=>cases l<;>simp[Rows.uptoBulk]
 |nil=>simp[Rows.uptoBulk]
 |ptr d=>simp[Rows.uptoBulk]
 |slice a b=>simp[Rows.uptoBulk]
 |agg p=>simp[Rows.uptoBulk]
 |iface a d=>simp[Rows.uptoBulk]
 |map e=>simp[Rows.uptoBulk]
 |held h=>simp[Rows.uptoBulk]
def cd_of(cs:List Value)(x:DataW H×List MemPlace)(h:DataW.trod enc Tryz.prog W base sp held n 61 cs=some x):∃y:Cd,cs=cdC y/\Dl y/\wtC y<=Rows.uptoBulk x.1:=by
 obtain⟨xs,m,rfl,rfl,hl,hxl,hf⟩:=DataW.trod_struct underlying61 h;rw[cwC]at hl;match cs,hl with
 | [c0,c1,c2,c3],_=>
   match xs,hxl with
   | [y0,y1,y2,y3],_=>
   have f0:DataW.trod enc Tryz.prog W base sp held m 3 (([c0,c1,c2,c3].drop 0).take (Tryz.prog.cellsOf 3))=some y0:=hf 0 _ rfl;have f1:DataW.trod enc Tryz.prog W base sp held m 3 (([c0,c1,c2,c3].drop 1).take (Tryz.prog.cellsOf 3))=some y1:=hf 1 _ rfl;have f2:DataW.trod enc Tryz.prog W base sp held m 3 (([c0,c1,c2,c3].drop 2).take (Tryz.prog.cellsOf 3))=some y2:=hf 2 _ rfl;have f3:DataW.trod enc Tryz.prog W base sp held m 9 (([c0,c1,c2,c3].drop 3).take (Tryz.prog.cellsOf 9))=some y3:=hf 3 _ rfl;rw[cwI]at f0 f1 f2;rw[cwS]at f3;simp only[List.drop_zero,List.drop_succ_cons,List.take_succ_cons,List.take_zero]at f0 f1 f2 f3;obtain⟨op,h0,_,w0⟩:=DataW.trod_int underlying3 f0;obtain⟨pa,h1,_,w1⟩:=DataW.trod_int underlying3 f1;obtain⟨pb,h2,_,w2⟩:=DataW.trod_int underlying3 f2;obtain⟨s,h3,rfl,_⟩:=DataW.trod_string underlying9 f3;simp only[List.cons.injEq,and_true]at h0 h1 h2 h3;subst h0 h1 h2 h3;refine⟨⟨op,pa,pb,s.data.toList⟩,by simp[cdC,Oi],⟨Ja w0,Ja w1,Ja w2⟩,?_⟩;have b0:=Kk y0.1;have b1:=Kk y1.1;have b2:=Kk y2.1;simp only[List.map_cons,List.map_nil,Rows.uptoBulk,Rows.uptoBulkAll,wtC];omega
def Zi{x:DataW H×List MemPlace}(h:DataW.trod enc Tryz.prog W base sp held n 56 cs=some x):
 ∃cv,∃l:List Cd,cs=[cv]/\Cells W cv 4 l.length (A9 l) (λ_=>True)/\(∀c∈l,Dl c)/\pfx wtC l l.length+1<=Rows.uptoBulk x.1:=by
 rcases DataW.trod_slice underlying56 h with⟨rfl,rfl⟩| ⟨a,len,cap,elems,rest,m,rfl,rfl,rfl,_,h1,h2,hlen,hel,_⟩
 ·exact⟨_,[],rfl,Cells.nil _ _ _,by simp,by simp[pfx,Rows.uptoBulk]⟩
 ·rw[cwC]at hel;obtain⟨ys,hf,hds,hF,hc,hbk⟩:=O2 cdC (sz:=4) (λ_=>rfl) Dl wtC (a:=a) (elems:=elems) (λcs x=>cd_of cs x) (λi hi=>hel i (by omega)) len 0 (by omega);refine⟨_,ys,rfl,?_,hF,?_⟩
  ·subst hf;rw[Tn];exact JR h1 h2 hds (λj u hj=>by have:=hc j u hj;simpa using this)
  ·simp only[Rows.uptoBulk];rw[List.drop_zero]at hbk;omega
def TU(l:List Int):Rows.uptoBulkAll (lits (H:=H) .i64 l)=l.length:=by
 induction l with
 |nil=>rfl
 | cons a r ih=>
   have ih':Rows.uptoBulkAll (r.map λn=>DataW.lit (H:=H) (.int .i64 n))=r.length:=ih;show Rows.uptoBulkAll ((a::r).map λn=>DataW.lit (H:=H) (.int .i64 n))=_;simp only[List.map_cons,Rows.uptoBulkAll,Rows.uptoBulk,ih',List.length_cons];omega
def Yb{x:DataW H×List MemPlace}(h:DataW.trod enc Tryz.prog W base sp held n 55 cs=some x):
 ∃rv,∃l:List Int,cs=[rv]/\Cells W rv 1 l.length (Bt l) (λ_=>True)/\(∀z∈l,Bb z)/\l.length+1<=Rows.uptoBulk x.1:=by
 rcases open_ints underlying55 underlying3 cwI h with⟨rfl,rfl⟩| ⟨a,len,cap,zs,rfl,_,h1,h2,h3,rfl,hc,hw⟩
 ·exact⟨_,[],rfl,Cells.nil _ _ _,by simp,by simp[Rows.uptoBulk]⟩
 ·have hle:len<=zs.length:=by rw[h3];split<;>omega
  have hl:(zs.take len).length=len:=by simp;omega
  refine⟨_,zs.take len,rfl,?_,λz hz=>Ja (hw z (List.mem_of_mem_take hz)),?_⟩
  ·rw[hl];refine JR h1 h2 (by simp[Bt];omega) (λj u hj=>?_);simp only[Bt,List.getElem?_map,Option.map_eq_some_iff]at hj;obtain⟨z,hz,rfl⟩:=hj;have hjl:j<len:=by have:=(List.getElem?_eq_some_iff.1 hz).1;simp at this;omega
   have:=hc j (by omega);rw[this];rw[List.getElem?_take,if_pos hjl]at hz;simp[List.getD,hz]
  ·simp only[Rows.uptoBulk];rw[TU];omega
def un_of(cs:List Value)(x:DataW H×List MemPlace)(h:DataW.trod enc Tryz.prog W base sp held n 58 cs=some x):
 ∃y:Un×Value×Value,cs=[str y.1.name,y.2.1,y.2.2]/\(Cells W y.2.1 1 y.1.row.length (Bt y.1.row) (λ_=>True)/\Cells W y.2.2 4 y.1.code.length (A9 y.1.code) (λ_=>True)/\CP y.1)/\wtU y.1+1<=Rows.uptoBulk x.1:=by
 obtain⟨xs,m,rfl,rfl,hl,hxl,hf⟩:=DataW.trod_struct underlying58 h;rw[cwU]at hl;match cs,hl with
 | [c0,c1,c2],_=>
   match xs,hxl with
   | [y0,y1,y2],_=>
   have f0:DataW.trod enc Tryz.prog W base sp held m 9 (([c0,c1,c2].drop 0).take (Tryz.prog.cellsOf 9))=some y0:=hf 0 _ rfl;have f1:DataW.trod enc Tryz.prog W base sp held m 55 (([c0,c1,c2].drop 1).take (Tryz.prog.cellsOf 55))=some y1:=hf 1 _ rfl;have f2:DataW.trod enc Tryz.prog W base sp held m 56 (([c0,c1,c2].drop 2).take (Tryz.prog.cellsOf 56))=some y2:=hf 2 _ rfl;rw[cwS]at f0;rw[cwIs]at f1;rw[cwCs]at f2;simp only[List.drop_zero,List.drop_succ_cons,List.take_succ_cons,List.take_zero]at f0 f1 f2;obtain⟨s,h0,rfl,_⟩:=DataW.trod_string underlying9 f0;obtain⟨rv,row,h1,hr,hrw,hrb⟩:=Yb f1;obtain⟨cv,code,h2,hc,hcw,hcb⟩:=Zi f2;simp only[List.cons.injEq,and_true]at h0 h1 h2;subst h0 h1 h2;refine⟨⟨⟨s.data.toList,row,code⟩,c1,c2⟩,by simp[Oi],⟨hr,hc,hrw,hcw⟩,?_⟩;simp only[List.map_cons,List.map_nil,Rows.uptoBulk,Rows.uptoBulkAll,wtU];omega
def Yk{W:World}:∀ys:List (Un×Value×Value),(∀y∈ys,Cells W y.2.1 1 y.1.row.length (Bt y.1.row) (λ_=>True)/\Cells W y.2.2 4 y.1.code.length (A9 y.1.code) (λ_=>True)/\CP y.1)->RepU (λ_=>True) W (ys.map (·.1)) (ys.flatMap λy=>[str y.1.name,y.2.1,y.2.2]):=by
 intro ys;induction ys with
 |nil=>intro _;rfl
 | cons y r ih=>
   intro h;obtain⟨h1,h2,_⟩:=h y (List.mem_cons_self);exact⟨_,_,_,rfl,h1,h2,ih (λz hz=>h z (List.mem_cons_of_mem _ hz))⟩
def YP(g:α->β)(f:β->Nat)(l:List α)(k:Nat):pfx f (l.map g) k=pfx (λx=>f (g x)) l k:=by
 induction k with
 |zero=>rfl
 |succ k ih=>rw[pfx,pfx,ih,List.getElem?_map];cases l[k]? <;> rfl
def vu_of{r:Reach}{b0:Nat}{d:DataW H}{ps:List MemPlace}(hv:Value.okWide Tryz.prog W r b0 23 v)(h:DataW.Trod enc Tryz.prog W base sp held 23 v d ps):∃us:List Un,VU (λ_=>True) W v us/\AN us/\AF us<=Rows.uptoBulk d:=by
 obtain⟨fuel,hf⟩:=h;have key:∀(cs:List Value)(x:DataW H×List MemPlace),DataW.trod enc Tryz.prog W base sp held fuel 23 cs=some x->∃v,∃us:List Un,cs=[v]/\VU (λ_=>True) W v us/\AN us/\AF us<=Rows.uptoBulk x.1:=by
  intro cs x h;rcases DataW.trod_slice underlying23 h with⟨rfl,rfl⟩| ⟨a,len,cap,elems,rest,m,rfl,rfl,rfl,_,h1,h2,hlen,hel,_⟩
  ·exact⟨_,[],rfl,⟨[],Cells.nil _ _ _,rfl⟩,(show AN []from λu hu=>by cases hu),by simp[AF,pfx]⟩
  ·rw[cwU]at hel;obtain⟨ys,hf,hds,hF,hc,hbk⟩:=O2 (λy:Un×Value×Value=>[str y.1.name,y.2.1,y.2.2]) (sz:=3) (λ_=>rfl) (λy=>Cells W y.2.1 1 y.1.row.length (Bt y.1.row) (λ_=>True)/\Cells W y.2.2 4 y.1.code.length (A9 y.1.code) (λ_=>True)/\CP y.1) (λy=>wtU y.1+1) (a:=a) (elems:=elems) (λcs x=>un_of cs x) (λi hi=>hel i (by omega)) len 0 (by omega);refine⟨_,ys.map (·.1),rfl,⟨_,?_,Yk ys hF⟩,?_,?_⟩
   ·rw[List.length_map];subst hf;exact JR h1 h2 hds (λj u hj=>by have:=hc j u hj;simpa using this)
   ·intro u hu;obtain⟨y,hy,rfl⟩:=List.mem_map.1 hu;exact(hF y hy).2.2
   ·simp only[Rows.uptoBulk];rw[List.drop_zero]at hbk;unfold AF;rw[YP,List.length_map];rw[NG (λy:Un×Value×Value=>wtU y.1) ys ys.length (nR _)]at hbk;omega
 obtain⟨v',us,e,h1,h2,h3⟩:=key _ _ hf;unfold Value.okWide at hv;rw[underlying23]at hv;cases v with
 | agg cs=>
   exfalso;simp[Cell.okWide,Cell.ok,underlying23]at hv
 | _=>
   simp only[Value.cells,List.cons.injEq,and_true]at e;subst e;exact⟨us,h1,h2,h3⟩
end
end Go.Proofs.YtbjfaimkiclhgaaGreatDoor
