/-
  LexA LexD LexE LexF LexG CkC
-/
import Derived.Test.YtbjfaimkiclhgaaGreatDoorCr04
import Derived.Laws.Rows
import Derived.Test.YtbjfaimkiclhgaaGreatDoorCr05
import Derived.IntWalk
set_option linter.all false
set_option maxRecDepth 100000
set_option maxHeartbeats 8000000
namespace Go.Proofs.YtbjfaimkiclhgaaGreatDoor
open Go.Proofs.Tryz
open Go.RowKit
variable{w w1 wr:World}{r:Option Nat}{k g B i b n:Nat}{c x y z:Value}{t s:Bs}{fn:Func}{p:Tmp}{a:UInt8}
def LO(k:Nat)(hk:k<256):(AF k).set k (.int .u8 (Co k))=AF (k+1):=by
 apply List.ext_getElem?;intro j;by_cases hj:j<256
 ·rw[List.getElem?_set];rw[I1 _ _ hj];by_cases e:k=j
  ·subst e;simp[AF,hk]
  ·rw[if_neg e,I1 _ _ hj];have:(j<k+1)=(j<k):=by apply propext;omega
   simp[this]
 ·rw[List.getElem?_eq_none (by simp[AF];omega),List.getElem?_eq_none (by simp[AF];omega)]
def PD(k:Nat)(hk:k<256)(h0:Co k=0):AF k=AF (k+1):=by
 rw[<-LO k hk,h0];apply List.ext_getElem?;intro j;rw[List.getElem?_set];by_cases e:k=j
 ·subst e;simp[AF,hk]
 ·simp[e]
def PS:(Tryz.prog.info? 216).map (λi=>(i.size,i.bytes))=some (256,256):=by kernel_rfl
def UF(h:w.grownBy w1 r)(k:Nat)(cs:Array Value)(hk:w.heap.size<=k):w.grownBy (w1.setRow k cs) r:=by
 refine⟨h.os,h.tape,h.output,by simpa using h.size,λi hi hr=>?_⟩;rw[<-h.block i hi hr];have hne:k≠i:=by omega
 simp[World.setRow,Array.getElem?_modify,hne]
def Tw:∃n e,Tryz.prog.underlying 216=some (.array n e):=by
 have h:(match(Tryz.prog.underlying 216)with|some (.array _ _)=>true|_=>false)=true:=by kernel_rfl
 cases hu:Tryz.prog.underlying 216 with
 |none=>rw[hu]at h;cases h
 | some d=>
   rw[hu]at h;cases d with
   |array n e=>exact⟨n,e,rfl⟩
   |_=>cases h
def NA:(Tryz.prog.info? 216).map (·.size)=some (AF 256).toArray.size:=by
 have h1:=PS;cases hq:Tryz.prog.info? 216 with
 |none=>rw[hq]at h1;simp at h1
 |some i=>rw[hq]at h1;simp at h1;simp[AF,h1.1]
def JM(k:Nat):(Co k=3/\(k=9\/k=32))\/(Co k=1/\(k=95\/(97<=k/\k<=122)\/(65<=k/\k<=90)))\/(Co k=2/\48<=k/\k<=57)\/(Co k=4/\(k<9\/(10<k/\k<32)\/126<k))\/
 (Co k=0/\(k=10\/(32<k/\k<48)\/(57<k/\k<65)\/(90<k/\k<95)\/k=96\/(122<k/\k<=126))):=by
 unfold Co
 (repeat' split)<;>simp<;>omega
def Lw(w:World)(g:Nat)(v4:Value)(wr:World):Prop:=∃k:Nat,k+g=256/\v4= .int .i64 k/\Blk wr (w.heap.size+1) (AF k) 216/\Blk wr w.heap.size (AF 0) 216/\w.grownBy wr none
def IL{c:Int}(hk:k+(g+1)=256)(hc:Co k=c)(hL:Blk wr (w.heap.size+1) (AF k) 216)(hZ:Blk wr w.heap.size (AF 0) 216)(gr:w.grownBy wr none):
 Lw w g (.int .i64 ((k:Int)+1)) (wr.setCell ⟨w.heap.size+1,k,none⟩ (.int .u8 c)):=
 ⟨k+1,by omega,by simp,(hL.set k _).of_eq rfl (by rw[<-hc];exact LO k (by omega)),hZ.set_other _ _ (by simp),Af gr _ _ (.inr (by simp))⟩
def QD(hk:k+(g+1)=256)(hc:Co k=0)(hL:Blk wr (w.heap.size+1) (AF k) 216)(hZ:Blk wr w.heap.size (AF 0) 216)(gr:w.grownBy wr none):
 Lw w g (.int .i64 ((k:Int)+1)) wr:=
 ⟨k+1,by omega,by simp,hL.of_eq rfl (PD k (by omega) hc),hZ,gr⟩
def QC(w:World):Calls Tryz.prog 203 #[] w (ρ w (.agg (AF 256).toArray)):=by
 go_enter func203,ntmps203;go_wp2_with fail;have hz:zeroCells216=(AF 0).toArray:=by kernel_rfl
 have hA:Blk ((w.alloc (.cells (AF 0).toArray 216 (0,0))).alloc (.cells (AF 0).toArray 216 (0,0))) (w.heap.size+1) (AF 0) 216:=(Blk.new _ _ _).of_eq (by simp) rfl;have hB:Blk ((w.alloc (.cells (AF 0).toArray 216 (0,0))).alloc (.cells (AF 0).toArray 216 (0,0))) w.heap.size (AF 0) 216:=(Blk.new _ _ _).alloc _;have g0:w.grownBy ((w.alloc (.cells (AF 0).toArray 216 (0,0))).alloc (.cells (AF 0).toArray 216 (0,0))) none:=Ac (gZ _ _ _) _;rw[hz];go_loopg [2,3,4] 256 (λg v2 v3 v4 wr=>Lw w g v4 wr)
 case atStart=>exact⟨0,rfl,rfl,hA,hB,g0⟩
 case round=>
  obtain⟨k,hk,rfl,hL,hZ,gr⟩:=hrel;clear hA hB g0;cases gk with
  | zero=>
    have e:k=256:=by omega
    subst e;obtain⟨an,ae,H⟩:=Tw;have H:=S H;go_wp2_with fail;refine wp_load_row 216 (.tmp 1) rfl (w.heap.size+1) rfl 216 (AF 256).toArray (0,0) (.array an ae) hL H.1 rfl NA ?_;have HS:=S NA;have HL:=S (X hL hZ);have h1:((AF 256).toArray.all (·.oneCell'))=true:=by simp[AF,Value.oneCell']
    have HO:=S h1;have hzs:(AF 0).toArray.size=(AF 256).toArray.size:=by simp[AF]
    have HZ:=S hzs;have HR:=S (setRow_heap wr w.heap.size (AF 0).toArray (AF 256).toArray 216 (0,0) hZ);clear hL hZ h1 hzs;generalize hcc:(AF 256).toArray=cc at*;have HC:=S hcc;clear hcc;go_wp2_with (refine wpList_store_row rfl 216 (.tmp 0) (.tmp 62) rfl w.heap.size cc rfl rfl 216 (AF 0).toArray HL.1.2 HS.1 HZ.1 HO.1 ?_);refine bZ (v:=_) ?_ rfl ⟨rfl,UF gr _ _ (nR _)⟩
    (try rw[HC.1]);exact results_cell_row rfl _ _ w.heap.size 216 cc (0,0) (.array an ae) rfl HR.1 H.1 rfl HS.1
  | succ gk=>
    have ck:=(hL.cell k).trans (I1 k k (by omega));have fk:=hL.frozen k;have HL:=S (X hL (X hZ gr));have HK:=S hk;have hk2:k<256:=by omega
    have hwr:w.heap.size+1<wr.heap.size:=hL.lt;clear hL hZ gr hk;rcases JM k with⟨hc,h⟩| ⟨hc,h⟩| ⟨hc,h⟩| ⟨hc,h⟩| ⟨hc,h⟩
    ·have HR:=S (IL HK.1 hc HL.1.1 HL.1.2.1 HL.1.2.2);clear hc HK HL;rcases h with rfl|rfl
     all_goals
      go_wp2_with fail;go_roundg gk
      case measure=>omega
      case rel=>exact HR.1
    ·have HR:=S (IL HK.1 hc HL.1.1 HL.1.2.1 HL.1.2.2);clear hc HK HL;rcases h with rfl| ⟨h,h'⟩| ⟨h,h'⟩
     rotate_left 1;all_goals try
      have e9:((k:Int)==9)=false:=by simp;omega
      have e32:((k:Int)==32)=false:=by simp;omega
      have e95:((k:Int)==95)=false:=by simp;omega
      have i1:=Int.ofNat_le.2 h;have i2:=Int.ofNat_le.2 h';simp only[Int.cast_ofNat_Int]at i1 i2;clear h h'
     all_goals
      go_wp2_with fail;go_roundg gk
      case measure=>omega
      case rel=>exact HR.1
    ·have HR:=S (IL HK.1 hc HL.1.1 HL.1.2.1 HL.1.2.2);clear hc HK HL;obtain⟨h,h'⟩:=h;have e9:((k:Int)==9)=false:=by simp;omega
     have e32:((k:Int)==32)=false:=by simp;omega
     have e95:((k:Int)==95)=false:=by simp;omega
     have i1:=Int.ofNat_le.2 h;have i2:=Int.ofNat_le.2 h';simp only[Int.cast_ofNat_Int]at i1 i2;clear h h';go_wp2_with fail;go_roundg gk
     case measure=>omega
     case rel=>exact HR.1
    ·have HR:=S (IL HK.1 hc HL.1.1 HL.1.2.1 HL.1.2.2);clear hc HK HL;have e9:((k:Int)==9)=false:=by simp;omega
     have e32:((k:Int)==32)=false:=by simp;omega
     have e95:((k:Int)==95)=false:=by simp;omega
     have e10:((k:Int) !=10)=true:=by simp;omega
     rcases h with h| ⟨h,h'⟩|h
     all_goals
      have i1:=Int.ofNat_lt.2 h;try have i2:=Int.ofNat_lt.2 h'
      simp only[Int.cast_ofNat_Int]at i1;try simp only[Int.cast_ofNat_Int]at i2
      clear h;go_wp2_with fail;go_roundg gk
      case measure=>omega
      case rel=>exact HR.1
    ·have HR:=S (QD HK.1 hc HL.1.1 HL.1.2.1 HL.1.2.2);clear hc HK HL;rcases h with rfl| ⟨h,h'⟩| ⟨h,h'⟩| ⟨h,h'⟩|rfl| ⟨h,h'⟩
     all_goals try
      have e9:((k:Int)==9)=false:=by simp;omega
      have e32:((k:Int)==32)=false:=by simp;omega
      have e95:((k:Int)==95)=false:=by simp;omega
      have e10:((k:Int) !=10)=true:=by simp;omega
      have i1:=Int.ofNat_lt.2 h;have i2:(k:Int)<127/\(k:Int)<=126:=by omega
      obtain⟨i2,i3⟩:=i2;simp only[Int.cast_ofNat_Int]at i1
     all_goals
      go_wp2_with fail;go_roundg gk
      case measure=>omega
      case rel=>exact HR.1
structure Tabs(B:Nat)(w:World):Prop where
 utf8:Lib.Utf8Tabs 6 7 w
 low:11<=B
 case:∃R oR cap,R<B/\w.cell? ⟨10,0,none⟩=some (.slice (some ⟨R,oR,none⟩) Lib.caseA.size cap)/\Lib.CaseTab R oR Lib.caseA w
 glob:Glob w
def Tabs.gb(h:Tabs B w)(g:w.grownBy w1 r)(hr:∀k,r=some k->B<=k):Tabs B w1:=by
 have hlow:=h.low;have hne:∀k,k<B->some k≠r:=λk hk e=>by have:=hr k e.symm;omega
 refine⟨⟨λc hc=>B9 g (h.utf8.1 c hc) (hne _ (by omega)),λi hi=>⟨B9 g (h.utf8.2 i hi).1 (hne _ (by omega)),B9 g (h.utf8.2 i hi).2 (hne _ (by omega))⟩⟩,hlow,?_,h.glob.gb g (hne _ (by omega))⟩;obtain⟨R,oR,cap,hR,hc,ht⟩:=h.case;refine⟨R,oR,cap,hR,B9 g hc (hne _ (by omega)),λi hi=>?_⟩;have:=ht i hi;exact⟨B9 g this.1 (hne _ hR),B9 g this.2.1 (hne _ hR),B9 g this.2.2.1 (hne _ hR),B9 g this.2.2.2.1 (hne _ hR),B9 g this.2.2.2.2 (hne _ hR)⟩
def Tabs.gbN(h:Tabs B w)(g:w.grownBy w1 none):Tabs B w1:=h.gb g (by simp)
def Tabs.caseV(h:Tabs B w):Lib.CaseVar 10 Lib.caseA w:=by
 obtain⟨R,oR,cap,_,hc,ht⟩:=h.case;exact⟨R,oR,cap,hc,ht⟩
def Ww(h:Tabs B w)(s:Bs)(hs:s.length<=1000000):
 Calls Tryz.prog 291 #[.string ⟨s.toArray⟩] w (ρ w (str (Lib.toUpperD s))):=by
 refine(strings_ToUpper_any ⟨s.toArray⟩ w (by simp[ByteArray.size];omega) h.caseV h.utf8).mono ?_;rintro e w' ⟨rfl,hb⟩;exact⟨rfl,gbB hb none⟩
def JV(h:Tabs B w)(s:Bs)(i j:Nat)(hs:s.length<=4000):
 Calls Tryz.prog 291 #[.string ((⟨s.toArray⟩:ByteArray).extract i j)] w (ρ w (str (Lib.toUpperD (A6 s i j)))):=by
 rw[Cf];exact Ww h _ (by simp;omega)
def UV(w:World):Calls Tryz.prog 319 #[] w λe w'=>e= .returned (.slice (some ⟨w.heap.size,0,none⟩) 38 38)/\w'=w.alloc (.cells (signsL.map str).toArray 9 (0,0)):=by
 go_enter func319,ntmps319;go_wp2;go_ret;exact⟨rfl,rfl⟩
def TokPost(w:World)(b:Nat)(s:Bs)(r:St)(e:Ending)(w':World):Prop:=
 w.grownBy w' (some b)/\match r with
  | .tok t j l=>e= .returned (.tuple #[AR t,.bool true])/\Sc w' b s j l l (-1)
  | .bad k=>(∃t,e= .returned (.tuple #[AR t,.bool false]))/\∃j l,Sc w' b s j l l k
  |_=>False
def Blk.set3{a0 a1 a2:Value}{t:TypeId}(h:Blk w k [a0,a1,a2] t)(v0 v1 v2:Value):Blk (((w.setCell ⟨k,0,none⟩ v0).setCell ⟨k,1,none⟩ v1).setCell ⟨k,2,none⟩ v2) k [v0,v1,v2] t:=
 (((h.set 0 v0).set 1 v1).set 2 v2).of_eq rfl rfl
def Ce{q:Tmp}(h:fn.results=#[.cell p 250,.tmp q])(tmps:Array Value){t:Tok}{r:Bool}(hb:Blk w k [.int .i64 t.kind,.int .i64 t.pos,str t.text] 250)
 (hp:tmps.getD p undef= .pointer (some ⟨k,0,none⟩)) (hq:tmps.getD q undef= .bool r):(results fn tmps).run Tryz.prog w= .ok (.tuple #[AR t,.bool r]) w:=by
 have c0:=hb.cell' 0 rfl;have c1:=hb.cell' 1 rfl;have c2:=hb.cell' 2 rfl;have hp':tmps[p]?.getD undef= .pointer (some ⟨k,0,none⟩):=by simpa using hp
 have hq':tmps[q]?.getD undef= .bool r:=by simpa using hq
 simp[results,h,hp',hq',go_sem,c0,c1,c2]
def J2(s:Bs)(i:Nat):St:=match EY s i with
 |some x=> .tok ⟨4,i,x⟩ (i+x.length) true
 |none=> .bad i
def TF(h:∀j,(hj:j<signsL.length)->DE s i signsL[j]=false):EY s i=none:=by
 rw[EY,List.find?_eq_none];intro x hx;obtain⟨j,hj,rfl⟩:=List.mem_iff_getElem.1 hx;rw[h j hj];simp
def TG(hk:k<signsL.length)(h:∀j,(hj:j<k)->DE s i (signsL[j]'(by omega))=false)(hx:DE s i signsL[k]=true):EY s i=some signsL[k]:=by
 rw[EY,List.find?_eq_some_iff_getElem];exact⟨hx,k,hk,rfl,λj hj=>by rw[h j hj];simp⟩
def Qs{w:Bs}(h:w∈signsL):∀b∈w,b.toNat<128:=by
 have h0:signsL.all (λw=>w.all λb=>decide (b.toNat<128))=true:=by decide
 have h1:=List.all_eq_true.1 h0 w h;intro b hb;simpa using List.all_eq_true.1 h1 b hb
def LD(hk:k<signsL.length)(he:i+signsL[k].length<=s.length){r:Bool}(h:DE s i signsL[k]=r):(Lib.toUpperD (A6 s i (i+signsL[k].length))==signsL[k])=r:=by
 have h1:DE s i signsL[k]=(Lib.toUpperA (A6 s i (i+signsL[k].length))==signsL[k]):=by simp[DE,he]
 rw[TY _ _ (by rw[Fh (by omega) he];omega) (Qs (List.getElem_mem hk)),<-h1,h]
structure SignRel(w:World)(b:Nat)(s:Bs)(i:Nat)(k:Nat)(wr:World):Prop where
 sc:Sc wr b s i true true (-1)
 tok:Blk wr w.heap.size [.int .i64 4,.int .i64 i,str []] 250
 res:Blk wr (w.heap.size+1) [.int .i64 0,.int .i64 0,str []] 250
 row:Blk wr (w.heap.size+2) (signsL.map str) 9
 no:∀j,(hj:j<k)->(hl:j<signsL.length)->DE s i signsL[j]=false
 g:w.grownBy wr none
 tabs:Tabs b wr
def SignRel.go(h:SignRel w b s i k wr)(hk:k<signsL.length)(hx:DE s i signsL[k]=false)(g:wr.grownBy w1 none):SignRel w b s i (k+1) w1:=
 ⟨h.sc.gbN g,h.tok.gb g (by simp),h.res.gb g (by simp),h.row.gb g (by simp),λj hj hl=>by
  by_cases e:j=k
  ·subst e;exact hx
  ·exact h.no j (by omega) hl,Ag h.g g,h.tabs.gbN g⟩
def Xn(h:Sc w b s i true true (-1))(ht:Tabs b w):
 Calls Tryz.prog 295 #[.pointer (some ⟨b,0,none⟩),AR ⟨0,i,[]⟩] w (TokPost w b s (J2 s i)):=by
 have hb:=h.lt;have hA:SignRel w b s i 0 (((w.alloc (.cells #[.int .i64 4,.int .i64 i,str []] 250 (0,0))).alloc (.cells #[.int .i64 0,.int .i64 0,str []] 250 (0,0))).alloc (.cells (signsL.map str).toArray 9 (0,0))):=by
  have g:w.grownBy (((w.alloc (.cells #[.int .i64 4,.int .i64 i,str []] 250 (0,0))).alloc (.cells #[.int .i64 0,.int .i64 0,str []] 250 (0,0))).alloc (.cells (signsL.map str).toArray 9 (0,0))) none:=Ac (Ac (gZ w _ none) _) _;exact⟨h.gbN g,((Blk.new w _ _).alloc _).alloc _,((Blk.new _ [.int .i64 0,.int .i64 0,str []] _).of_eq (by simp) rfl).alloc _,(Blk.new _ (signsL.map str) _).of_eq (by simp) rfl,λj hj=>by omega,g,ht.gbN g⟩
 go_enter func295,ntmps295;go_wp2_with fail;refine(UV _).mono ?_;rintro e w1 ⟨rfl,rfl⟩;go_wp2_with fail;go_loopg [7,8,12] 38 (λg v7 v8 v12 wr=>∃k:Nat,k+g=38/\v12= .int .i64 k/\SignRel w b s i k wr)
 case atStart=>exact⟨0,rfl,rfl,hA⟩
 case round=>
  obtain⟨k,hk,rfl,hr⟩:=hrel;clear hA h ht;have hsc:=hr.sc;have c0:=hsc.c0;have c1:=hsc.c1;have hb1:=hsc.lt;have hf:=hsc.few;have hi:=hsc.le;have gwx:=hr.g.size;have hlt:=hr.row.lt;cases gk with
  | zero=>
    have e:k=38:=by omega
    subst e;have HM:=S (TF (s:=s) (i:=i) (λj hj=>hr.no j hj hj));have t0:=hr.tok.cell' 0 rfl;have t1:=hr.tok.cell' 1 rfl;have t2:=hr.tok.cell' 2 rfl;have r0:=hr.res.cell' 0 rfl;have r1:=hr.res.cell' 1 rfl;have r2:=hr.res.cell' 2 rfl;have rf:=λk=>hr.res.frozen k;have f260:=hsc.fr 260;have c260:=hsc.c260;have hs1:=hsc.setBad (i:Int);go_wp2;refine bZ (Ce (t:=⟨4,i,[]⟩) (r:=false) rfl _ ((hr.res.set_other _ _ (by simp;omega)).set3 _ _ _) rfl rfl) rfl ⟨?_,?_⟩
    ·have g:=Ao (r:=some b) hr.g;clear hs1;exact(by repeat(first| (with_reducible assumption)| ((with_reducible refine Af ?_ _ _ ?h2);case h2=>first|exact .inl rfl|exact .inr (by simp<;>omega))))
    ·unfold J2;rw[HM.1];exact⟨⟨_,rfl⟩,i,true,(by repeat(first| (with_reducible assumption)| (with_reducible apply Sc.set_other)| (simp<;>omega)))⟩
  | succ gk=>
    have hkl:k<signsL.length:=by show k<38;omega
    have ck:=(hr.row.cell k).trans (show(signsL.map str)[k]? =some (str signsL[k])by simp[hkl]);have hx6:=Kk (List.getElem_mem hkl);have hkI:decide ((k:Int)<38)=true:=by simp;omega
    have HN:=S (λhx=>hr.go hkl (w1:=wr) hx (Aa _ _));cases hh:DE s i signsL[k]with
    | false=>
      have HR:=S (λw1 g=>hr.go hkl (w1:=w1) hh g);by_cases hend:i+signsL[k].length<=s.length
      ·have hz:=LD hkl hend hh;have HU:=S (fun(W:World)(g:wr.grownBy W none)=>JV (hr.tabs.gbN g) s i (i+signsL[k].length) hf);clear hh;generalize Lib.toUpperD (A6 s i (i+signsL[k].length))=z at*;generalize signsL[k]=x at*;have he1:decide ((i:Int)+x.length<=s.length)=true:=by simp;omega
       have he2:decide ((i:Int)<=i+x.length)=true:=by simp;omega
       have hw1:IntKind.i64.wrap ((i:Int)+(x.length:Int))=(i:Int)+x.length:=IntWalk.i64_in _ (by omega);have hw2:(0:Int)<=(i:Int)+x.length:=by omega
       have hw3:(i:Int)+x.length<=s.length:=by omega
       have hw4:((i:Int)+x.length).toNat=i+x.length:=by omega
       have hw5:(i:Int)<=(i:Int)+x.length:=by omega
       clear hw1;go_wp2_with fail;go_region_held3 (λW=>W.cell? ⟨b,0,none⟩=some (str s)/\W.cell? ⟨b,1,none⟩=some (.int .i64 i)/\wr.grownBy W none) (first|exact⟨c0,c1,Ad (Aa wr none)⟩|exact⟨Ae g5 c0,Ae g5 c1,Ag (Ad (Aa wr none)) g5⟩) (first| (go_at_call 291;refine(HU.1 _ ?_).mono ?_;(simp[*]);rintro e w5 ⟨rfl,g5⟩));go_wp2;go_roundg gk
       case measure=>omega
       case rel=>exact⟨k+1,by omega,by simp,HR.1 w5 (Ag (Ad (Aa wr none)) g5)⟩
      ·clear hh;generalize signsL[k]=x at*;have he1:decide ((i:Int)+x.length<=s.length)=false:=by simp;omega
       go_wp2_with fail;go_quiet(fail);go_wp2;go_roundg gk
       case measure=>omega
       case rel=>exact⟨k+1,by omega,by simp,HR.1 _ (Aj (Aa wr none) _)⟩
    | true=>
      have hend:i+signsL[k].length<=s.length:=by simp[DE]at hh;exact hh.1
      have hz:=LD hkl hend hh;have HU:=S (fun(W:World)(g:wr.grownBy W none)=>JV (hr.tabs.gbN g) s i (i+signsL[k].length) hf);have HM:=S (TG hkl (λj hj=>hr.no j hj (by omega)) hh);clear hh;generalize Lib.toUpperD (A6 s i (i+signsL[k].length))=z at*;generalize signsL[k]=x at*;have he1:decide ((i:Int)+x.length<=s.length)=true:=by simp;omega
      have he2:decide ((i:Int)<=i+x.length)=true:=by simp;omega
      have hw1:IntKind.i64.wrap ((i:Int)+(x.length:Int))=(i:Int)+x.length:=IntWalk.i64_in _ (by omega);have hw2:(0:Int)<=(i:Int)+x.length:=by omega
      have hw3:(i:Int)+x.length<=s.length:=by omega
      have hw4:((i:Int)+x.length).toNat=i+x.length:=by omega
      have hw5:(i:Int)<=(i:Int)+x.length:=by omega
      clear hw1;go_wp2_with fail;go_region_held3 (λW=>W.cell? ⟨b,0,none⟩=some (str s)/\W.cell? ⟨b,1,none⟩=some (.int .i64 i)/\wr.grownBy W none) (first|exact⟨c0,c1,Ad (Aa wr none)⟩|exact⟨Ae g5 c0,Ae g5 c1,Ag (Ad (Aa wr none)) g5⟩) (first| (go_at_call 291;refine(HU.1 _ ?_).mono ?_;(simp[*]);rintro e w5 ⟨rfl,g5⟩));have gA:wr.grownBy w5 none:=Ag (Ad (Aa wr none)) g5;have hs5:=hsc.gbN gA;have ht5:=hr.tok.gb gA (by simp);have hr5:=hr.res.gb gA (by simp);have d1:=hs5.c1;have d0:=hs5.c0;have t0:=ht5.cell' 0 rfl;have t1:=ht5.cell' 1 rfl;have t2:=ht5.cell' 2 rfl;have tf:=λk=>ht5.frozen k;have r0:=hr5.cell' 0 rfl;have r1:=hr5.cell' 1 rfl;have r2:=hr5.cell' 2 rfl;have rf:=λk=>hr5.frozen k;have f1:=hs5.fr 1;have h5:=hr5.lt;go_wp2;refine bZ (Ce (t:=⟨4,i,x⟩) (r:=true) rfl _ (((hr5.set_other _ _ (by simp)).set_other _ _ (by simp;omega)).set3 _ _ _) rfl rfl) rfl ⟨?_,?_⟩
      ·have g:=Ao (r:=some b) (Ag hr.g gA);exact(by repeat(first| (with_reducible assumption)| ((with_reducible refine Af ?_ _ _ ?h2);case h2=>first|exact .inl rfl|exact .inr (nR _)|exact .inr (by simp<;>omega))))
      ·unfold J2;rw[HM.1];exact⟨rfl,(by repeat(first| (with_reducible assumption)| (with_reducible apply Sc.go)| (with_reducible apply Sc.set_other)|omega| (simp<;>omega)))⟩
def Mf{j e:Nat}(h:j<e)(he:e<=s.length):A6 s j e=bAt s j::A6 s (j+1) e:=by
 unfold A6;rw[IM (by omega),show e-j=(e-(j+1))+1 by omega,List.take_succ_cons]
def MA(s:Bs)(j:Nat):A6 s j j=[]:=by simp[A6]
def UI(s:Bs)(c:UInt8)(j:Nat)(hj:j<=s.length):Lib.indexByte (A6 s j (Au s j)) c=
 if Ar s (λb=>b !=10&&b !=c) j<s.length/\bAt s (Ar s (λb=>b !=10&&b !=c) j)≠10 then((Ar s (λb=>b !=10&&b !=c) j-j:Nat):Int)else -1:=by
 induction hn:s.length-j generalizing j with
 | zero=>
   have e:j=s.length:=by omega
   have h1:Au s j=j:=Er (by omega);rw[h1,MA,Er (by omega),if_neg (by omega)];rfl
 | succ n ih=>
   have hk:j<s.length:=by omega
   have hle:Au s (j+1)<=s.length:=CK (by omega);have hge:j+1<=Au s (j+1):=BJ _ _ _;by_cases h10:bAt s j=10
   ·have h1:Au s j=j:=DH hk (by simp[h10]);rw[h1,MA,DH hk (by simp[h10]),if_neg (by simp[h10])];rfl
   ·have h1:Au s j=Au s (j+1):=Cz hk (by simpa using h10);rw[h1,Mf (by omega) hle,Lib.indexByte];cases hb:(bAt s j==c)with
    | true=>
      rw[DH hk (by simp;intro _;simpa using hb)];simp[hk,h10]
    | false=>
      rw[Cz hk (by simp at hb;simp[h10,hb]),ih (j+1) (by omega) (by omega)];have h2:=BJ s (λb=>b !=10&&b !=c) (j+1);simp only[Bool.false_eq_true,if_false];by_cases h3:Ar s (λb=>b !=10&&b !=c) (j+1)<s.length/\bAt s (Ar s (λb=>b !=10&&b !=c) (j+1))≠10
      ·simp only[if_pos h3];rw[if_neg (by simp;try omega)];omega
      ·simp[h3]
def BC(s:Bs)(i:Nat):Nat:=Ar s (λb=>b !=10&&b !=bAt s i) (i+1)
def Im(t:Bs):Nat:=Ar t (λb=>!cls 4 b) 0
def UN(h:¬(BC s i<s.length/\bAt s (BC s i)≠10)):ER s i= .bad i:=if_neg h
def TC(h:BC s i<s.length/\bAt s (BC s i)≠10)(hb:Im (A6 s (i+1) (BC s i))<BC s i-(i+1)):ER s i= .bad (i+1+Im (A6 s (i+1) (BC s i))):=
 (if_pos h).trans (if_pos hb)
def UO(h:BC s i<s.length/\bAt s (BC s i)≠10)(hb:¬Im (A6 s (i+1) (BC s i))<BC s i-(i+1)):ER s i= .tok ⟨2,i,A6 s (i+1) (BC s i)⟩ (BC s i+1) true:=
 (if_pos h).trans (if_neg hb)
def Xg(s:Bs)(i:Nat):BC s i<=Au s (i+1):=Nl (by intro b hb;simp at hb ⊢;exact hb.1) _
def Yk(c:UInt8):((c.toNat:Int)).toNat.toUInt8=c:=by simp
def Mt(s:Bs)(i j:Nat)(c:UInt8){z:Int}(hz:Lib.indexByte (A6 s i j) c=z)(w:World):
 Calls Tryz.prog 230 #[.string ((⟨s.toArray⟩:ByteArray).extract i j),.int .u8 c.toNat] w λe w'=>e= .returned (.int .i64 z)/\w'=w:=by
 subst hz;refine(strings_IndexByte _ _ _).mono ?_;rintro e w' ⟨rfl,rfl⟩;rw[Cf,Yk];exact⟨rfl,rfl⟩
structure TextRel(w:World)(b:Nat)(s:Bs)(i:Nat)(t:Bs)(k:Nat)(wr:World):Prop where
 sc:Sc wr b s i true true (-1)
 tok:Blk wr w.heap.size [.int .i64 2,.int .i64 i,str t] 250
 res:Blk wr (w.heap.size+1) [.int .i64 0,.int .i64 0,str []] 250
 no:Im t=Ar t (λb=>!cls 4 b) k
 g:w.grownBy wr none
def TextRel.go(h:TextRel w b s i t k wr)(hk:k<t.length)(hx:cls 4 (bAt t k)=false)(g:wr.grownBy w1 none):TextRel w b s i t (k+1) w1:=
 ⟨h.sc.gbN g,h.tok.gb g (by simp),h.res.gb g (by simp),by rw[h.no];exact Cz hk (by simp[hx]),Ag h.g g⟩
def Yh(h:Sc w b s i true true (-1))(hi:i<s.length)(hq:bAt s i≠10):
 Calls Tryz.prog 293 #[.pointer (some ⟨b,0,none⟩),AR ⟨0,i,[]⟩] w (TokPost w b s (ER s i)):=by
 have hb:=h.lt;have hf:=h.few;have c0:=h.c0;have c1:=h.c1;have hz:=UI s (bAt s i) (i+1) (by omega);have hline:Au s i=Au s (i+1):=Cz hi (by simpa using hq);have hle:Au s i<=s.length:=CK (by omega);have hge:i+1<=Au s i:=by rw[hline];exact BJ _ _ _
 have hgQ:i+1<=BC s i:=BJ _ _ _;rw[<-hline]at hz;have hg:=λh=>GL s i h hi;change _=if BC s i<s.length/\bAt s (BC s i)≠10 then((BC s i-(i+1):Nat):Int)else -1 at hz;have HE:=S hline;clear hline;by_cases hq2:BC s i<s.length/\bAt s (BC s i)≠10
 ·rw[if_pos hq2]at hz;have hQl:=Xg s i;rw[<-HE.1]at hQl;have hQs:=hq2.1;have hO:=S (UO hq2);have hB:=S (TC hq2);have hTl:(A6 s (i+1) (BC s i)).length=BC s i-(i+1):=Fh hgQ (by omega);have hl:=JQ (h.alloc (.cells #[.int .i64 0,.int .i64 i,str []] 250 (0,0))|>.alloc (.cells #[.int .i64 0,.int .i64 0,str []] 250 (0,0))) i (by omega);obtain⟨d,hd⟩:∃d,BC s i=i+1+d:=⟨BC s i-(i+1),by omega⟩;rw[hd]at hO hB hTl hQl hz hQs;rw[show i+1+d-(i+1)=d by omega]at hO hB hTl hz;clear hd hq2 hgQ;generalize Au s i=e at*;have HI:=S (Mt s (i+1) e (bAt s i) hz);have HL:=S hl;clear hz hl;generalize bAt s i=q at*;have hx:({data:=s.toArray}:ByteArray).extract (i+1) (i+1+d)=⟨(A6 s (i+1) (i+1+d)).toArray⟩:=Cf _ _ _;have HX:=S hx;clear hx;have HT:=S hTl;have he2:decide ((i:Int)+1+d<=s.length)=true:=by simp;omega
  go_enter func293,ntmps293;go_wp2_with fail;refine HL.1.mono ?_;rintro e w1 ⟨rfl,rfl⟩;go_wp2_with fail;go_quiet((go_at_call 230;exact Calls.quiet_of_same (HI.1 _)));go_wp2_with fail;go_region;rw[HX.1];generalize hts:A6 s (i+1) (i+1+d)=t at*;have HS:=S hts;clear hts hTl;have g0:w.grownBy ((w.alloc (.cells #[.int .i64 0,.int .i64 i,str []] 250 (0,0))).alloc (.cells #[.int .i64 0,.int .i64 0,str []] 250 (0,0))) none:=Ac (gZ w _ none) _;have hA:TextRel w b s i t 0 (((((w.alloc (.cells #[.int .i64 0,.int .i64 i,str []] 250 (0,0))).alloc (.cells #[.int .i64 0,.int .i64 0,str []] 250 (0,0))).drewN (nq+1)).setCell ⟨w.heap.size,0,none⟩ (.int .i64 2)).setCell ⟨w.heap.size,2,none⟩ (str t)):=
   ⟨(by repeat(first| (with_reducible assumption)| (with_reducible apply Sc.alloc)| (with_reducible apply Sc.drewN)| (with_reducible apply Sc.set_other)| (simp<;>omega))),(((((Blk.new w [.int .i64 0,.int .i64 i,str []] 250).alloc _).drewN _).set 0 _).set 2 _).of_eq rfl rfl,(((((Blk.new (w.alloc _) [.int .i64 0,.int .i64 0,str []] 250).of_eq (by simp) rfl).drewN _).set_other _ _ (by simp)).set_other _ _ (by simp)),rfl,
    Af (Af (Aj g0 _) _ _ (.inr (nR _))) _ _ (.inr (nR _))⟩
  have t0:=hA.tok.cell' 2 rfl;generalize(((((w.alloc (.cells #[.int .i64 0,.int .i64 i,str []] 250 (0,0))).alloc (.cells #[.int .i64 0,.int .i64 0,str []] 250 (0,0))).drewN (nq+1)).setCell ⟨w.heap.size,0,none⟩ (.int .i64 2)).setCell ⟨w.heap.size,2,none⟩ (str t))=W at*;have HA:=S hA;clear hA g0 h c0 c1 hg;have hTl2:t.length<=4000:=by rw[HT.1];omega
  go_wp2_with fail;go_loopg [8,68] t.length (λg v8 v68 wr=>∃k:Nat,k+g=t.length/\v68= .int .i64 k/\TextRel w b s i t k wr)
  case atStart=>exact⟨0,by omega,rfl,HA.1⟩
  case round=>
   obtain⟨k,hk,rfl,hr⟩:=hrel;have hsc:=hr.sc;have d0:=hsc.c0;have d1:=hsc.c1;have hb1:=hsc.lt;have gwx:=hr.g.size;have hrl:=hr.res.lt;have u0:=hr.tok.cell' 0 rfl;have u1:=hr.tok.cell' 1 rfl;have u2:=hr.tok.cell' 2 rfl;have r0:=hr.res.cell' 0 rfl;have r1:=hr.res.cell' 1 rfl;have r2:=hr.res.cell' 2 rfl;have rf:=λk=>hr.res.frozen k;cases gk with
   | zero=>
     have hkt:k=t.length:=by omega
     have HQ:=S (hO.1 (by rw[hr.no,Er (by omega),HT.1]at*;omega));have f1:=hsc.fr 1;have hlt:decide (k<t.length)=false:=by simp;omega
     clear hk hkt;go_wp2;refine bZ (Ce (t:=⟨2,i,t⟩) (r:=true) rfl _ ((hr.res.set_other _ _ (by simp;omega)).set3 _ _ _) rfl rfl) rfl ⟨?_,?_⟩
     ·have g:=Ao (r:=some b) hr.g;exact(by repeat(first| (with_reducible assumption)| ((with_reducible refine Af ?_ _ _ ?h2);case h2=>first|exact .inl rfl|exact .inr (by simp<;>omega))))
     ·rw[HQ.1];exact⟨rfl,(by repeat(first| (with_reducible assumption)| (with_reducible apply Sc.go)| (with_reducible apply Sc.set_other)|omega| (simp<;>omega)))⟩
   | succ gk=>
     have hkl:k<t.length:=by omega
     have hlt:decide (k<t.length)=true:=by simp;omega
     have hcl:=hsc.cls (bAt t k);have hgt:=λh=>GL t k h hkl;have hx:=OL (bAt t k);cases hc:cls 4 (bAt t k)with
     | true=>
       have HC:=S hc;have hbi:Im t=k:=by rw[hr.no];exact DH hkl (by rw[hc];rfl)
       have HQ:=S (hB.1 (by rw[hbi];have:=HT.1;omega));have HK:=S hbi;have f260:=hsc.fr 260;have c260:=hsc.c260;clear hbi hk;change(Co (bAt t k).toNat==4)=true at hc;generalize bAt t k=x at*;go_wp2_with fail;go_quiet(fail);go_wp2;refine bZ (Ce (t:=⟨2,i,t⟩) (r:=false) rfl _ (((hr.res.drewN _).set_other _ _ (by simp;omega)).set3 _ _ _) rfl rfl) rfl ⟨?_,?_⟩
       ·have g:=Ao (r:=some b) hr.g;exact(by repeat(first| (with_reducible assumption)| (with_reducible refine Aj ?_ _)| ((with_reducible refine Af ?_ _ _ ?h2);case h2=>first|exact .inl rfl|exact .inr (by simp<;>omega))))
       ·rw[HQ.1,HK.1];exact⟨⟨_,rfl⟩,i,true,by push_cast;exact(by repeat(first| (with_reducible assumption)| (with_reducible apply Sc.drewN)| (with_reducible apply Sc.setBad)| (with_reducible apply Sc.set_other)| (simp<;>omega)))⟩
     | false=>
       have HR:=S (λw1 g=>hr.go hkl (w1:=w1) hc g);change(Co (bAt t k).toNat==4)=false at hc;generalize bAt t k=x at*;go_wp2_with fail;go_quiet(fail);go_wp2;go_roundg gk
       case measure=>omega
       case rel=>exact⟨k+1,by omega,by simp,HR.1 _ (Aj (Aa wr none) _)⟩
 ·rw[if_neg hq2]at hz;have HQ:=S (UN hq2);have hl:=JQ (h.alloc (.cells #[.int .i64 0,.int .i64 i,str []] 250 (0,0))|>.alloc (.cells #[.int .i64 0,.int .i64 0,str []] 250 (0,0))) i (by omega);generalize Au s i=e at*;have HI:=S (Mt s (i+1) e (bAt s i) hz);have HL:=S hl;clear hz hl;generalize bAt s i=q at*;have f260:=h.fr 260;have c260:=h.c260;go_enter func293,ntmps293;go_wp2_with fail;refine HL.1.mono ?_;rintro e w1 ⟨rfl,rfl⟩;go_wp2_with fail;go_quiet((go_at_call 230;exact Calls.quiet_of_same (HI.1 _)));go_wp2;refine bZ (Ce (t:=⟨0,i,[]⟩) (r:=false) rfl _ (((((Blk.new (w.alloc _) [.int .i64 0,.int .i64 0,str []] 250).of_eq (by simp) rfl).drewN nq).set_other _ _ (by simp;omega)).set3 _ _ _) rfl rfl) rfl ⟨(by repeat(first| (with_reducible exact Aa _ _)| (with_reducible refine Ac ?_ _)| (with_reducible refine Aj ?_ _)| ((with_reducible refine Af ?_ _ _ ?h2);case h2=>first|exact .inl rfl|exact .inr (by simp<;>omega)))),?_⟩;rw[HQ.1];exact⟨⟨_,rfl⟩,i,true,(by repeat(first| (with_reducible assumption)| (with_reducible apply Sc.alloc)| (with_reducible apply Sc.drewN)| (with_reducible apply Sc.setBad)| (with_reducible apply Sc.set_other)| (simp<;>omega)))⟩
def Hn(w:World)(t:Bs)(e:Ending)(w':World):Prop:=w.grownBy w' none/\match C2 t with
 |some (d,n)=>e= .returned (.tuple #[str d,.int .i64 n,.bool true])
 |none=>∃d n,e= .returned (.tuple #[str d,.int .i64 n,.bool false])
section
variable {w':World}{d:Bs}{m:Int}
def LI(h:C2 t=some (d,n))(g:w.grownBy w' none)(hm:m=n):Hn w t (.returned (.tuple #[str d,.int .i64 m,.bool true])) w':=by
 subst hm;unfold Hn;rw[h];exact⟨g,rfl⟩
def FW(h:C2 t=none)(g:w.grownBy w' none):Hn w t (.returned (.tuple #[str d,.int .i64 m,.bool false])) w':=by
 unfold Hn;rw[h];exact⟨g,d,m,rfl⟩
end
def PI(h:[123,125].isPrefixOf t=true):C2 t=some ([],2):=if_pos h
def GW(h:[123,125].isPrefixOf t=false)(hf:EE t=false):C2 t=none:=by
 unfold C2;rw[if_neg (by rw[h];simp),if_neg (by rw[hf];simp)]
def T8(h:[123,125].isPrefixOf t=false)(hf:EE t=true)(h1:(C8 (Eu t)).2=true)(h2:Eu t≠Ge):C2 t=some (Eu t,13):=by
 unfold C2;rw[if_neg (by rw[h];simp),if_pos hf,if_pos (by simp[h1,h2])]
def NV(h:[123,125].isPrefixOf t=false)(hf:EE t=true)(h1:(C8 (Eu t)).2=false\/Eu t=Ge):C2 t=none:=by
 unfold C2;rw[if_neg (by rw[h];simp),if_pos hf,if_neg (by rcases h1 with h1|h1<;>simp[h1])]
def FU(t p:Bs){r:Bool}(hr:p.isPrefixOf t=r)(w:World):
 Calls Tryz.prog 191 #[.string ⟨t.toArray⟩,.string ⟨p.toArray⟩] w λe w'=>e= .returned (.bool r)/\w=w':=by
 subst hr;refine(strings_HasPrefix _ _ _).mono ?_;rintro e w' ⟨rfl,rfl⟩;exact⟨rfl,rfl⟩
def Yi(h:13<=t.length):∃a0 a1 a2 a3 a4 a5 a6 a7 a8 a9 a10 a11 a12 r,t=a0::a1::a2::a3::a4::a5::a6::a7::a8::a9::a10::a11::a12::r:=by
 match t,h with
 |a0::a1::a2::a3::a4::a5::a6::a7::a8::a9::a10::a11::a12::r,_=>exact⟨_,_,_,_,_,_,_,_,_,_,_,_,_,_,rfl⟩
def JB{r:Bool}(h:((a.toNat:Int) !=45)=r):(a==45)= !r:=by
 subst h;by_cases e:a=45
 ·subst e;rfl
 ·have h1:a.toNat≠45:=λh=>e (UInt8.toNat_inj.1 h);have h2:((a.toNat:Int)==45)=false:=by simp;omega
  have h3:(a==45)=false:=by simpa using e
  simp[bne,h2,h3]
def OI{r:Bool}(h:((a.toNat:Int) !=125)=r):(a==125)= !r:=by
 subst h;by_cases e:a=125
 ·subst e;rfl
 ·have h1:a.toNat≠125:=λh=>e (UInt8.toNat_inj.1 h);have h2:((a.toNat:Int)==125)=false:=by simp;omega
  have h3:(a==125)=false:=by simpa using e
  simp[bne,h2,h3]
def Wa{line begun:Bool}{bad:Int}(h:Sc w b s i line begun bad):
 Calls Tryz.prog 294 #[.pointer (some ⟨b,0,none⟩)] w (Hn w (s.drop i)):=by
 have hb:=h.lt;have hf:=h.few;have hi:=h.le;have c0:=h.c0;have c1:=h.c1;have hx:=Hu s i;have HX:=S hx;have hle:decide ((i:Int)<=s.length)=true:=by simp;omega
 have htl:(s.drop i).length<=4000:=by simp;omega
 clear hx h;generalize hts:s.drop i=t at*;clear hts;cases hp:[123,125].isPrefixOf t with
 | true=>
   have HM:=S (PI hp);go_enter func294,ntmps294;go_wp2_with fail;go_quiet(fail);rw[HX.1];go_wp2_with fail;refine(FU t [123,125] hp _).mono ?_;rintro e w1 ⟨rfl,rfl⟩;go_wp2;exact bZ (v:= .tuple #[str [],.int .i64 2,.bool true]) (by simp[results,results294,go_sem]) rfl (LI HM.1 (Aj (Aa _ _) _) rfl)
 | false=>
   by_cases h13:13<=t.length
   ·obtain⟨a0,a1,a2,a3,a4,a5,a6,a7,a8,a9,a10,a11,a12,r,ht⟩:=Yi h13;have hx1:(⟨t.toArray⟩:ByteArray).extract 0 2=⟨[a0,a1].toArray⟩:=by rw[Cf,ht];rfl
    have hx2:(⟨t.toArray⟩:ByteArray).extract 2 6=⟨[a2,a3,a4,a5].toArray⟩:=by rw[Cf,ht];rfl
    have hx3:(⟨t.toArray⟩:ByteArray).extract 7 9=⟨[a7,a8].toArray⟩:=by rw[Cf,ht];rfl
    have hx4:(⟨t.toArray⟩:ByteArray).extract 10 12=⟨[a10,a11].toArray⟩:=by rw[Cf,ht];rfl
    have hg6:∀h,(⟨t.toArray⟩:ByteArray)[6]'h=a6:=by subst ht;intro h;rfl
    have hg9:∀h,(⟨t.toArray⟩:ByteArray)[9]'h=a9:=by subst ht;intro h;rfl
    have hg12:∀h,(⟨t.toArray⟩:ByteArray)[12]'h=a12:=by subst ht;intro h;rfl
    have hform:EE t=(([a0,a1]==[123,94])&&a6==45&&a9==45&&a12==125):=by rw[ht];simp[EE,bAt]
    have hdig:Eu t=[a2,a3,a4,a5,a7,a8,a10,a11]:=by rw[ht];rfl
    have hl:decide ((t.length:Int)<13)=false:=by simp;omega
    generalize [a0,a1]=p at*;have HF:=S (X hform hdig);clear hform hdig ht;cases e1:(p==[123,94])with
    | false=>
      have HM:=S (GW hp (by rw[HF.1.1,e1];rfl));go_enter func294,ntmps294;go_wp2_with fail;go_quiet(fail);rw[HX.1];go_wp2_with fail;refine(FU t [123,125] hp _).mono ?_;rintro e w1 ⟨rfl,rfl⟩;go_wp2;exact bZ (v:= .tuple #[str [],.int .i64 0,.bool false]) (by simp[results,results294,go_sem]) rfl (FW HM.1 (Aj (Aa _ _) _))
    | true=>
      cases e6:((a6.toNat:Int) !=45)with
      | true=>
        have HM:=S (GW hp (by rw[HF.1.1,JB e6];simp));go_enter func294,ntmps294;go_wp2_with fail;go_quiet(fail);rw[HX.1];go_wp2_with fail;refine(FU t [123,125] hp _).mono ?_;rintro e w1 ⟨rfl,rfl⟩;go_wp2;exact bZ (v:= .tuple #[str [],.int .i64 0,.bool false]) (by simp[results,results294,go_sem]) rfl (FW HM.1 (Aj (Aa _ _) _))
      | false=>
        cases e9:((a9.toNat:Int) !=45)with
        | true=>
          have HM:=S (GW hp (by rw[HF.1.1,JB e9];simp));go_enter func294,ntmps294;go_wp2_with fail;go_quiet(fail);rw[HX.1];go_wp2_with fail;refine(FU t [123,125] hp _).mono ?_;rintro e w1 ⟨rfl,rfl⟩;go_wp2;exact bZ (v:= .tuple #[str [],.int .i64 0,.bool false]) (by simp[results,results294,go_sem]) rfl (FW HM.1 (Aj (Aa _ _) _))
        | false=>
          cases e12:((a12.toNat:Int) !=125)with
          | true=>
            have HM:=S (GW hp (by rw[HF.1.1,OI e12];simp));go_enter func294,ntmps294;go_wp2_with fail;go_quiet(fail);rw[HX.1];go_wp2_with fail;refine(FU t [123,125] hp _).mono ?_;rintro e w1 ⟨rfl,rfl⟩;go_wp2;exact bZ (v:= .tuple #[str [],.int .i64 0,.bool false]) (by simp[results,results294,go_sem]) rfl (FW HM.1 (Aj (Aa _ _) _))
          | false=>
            have hfo:EE t=true:=by rw[HF.1.1,e1,JB e6,JB e9,OI e12];rfl
            have hdi:=HF.1.2;have HH:=S (X hfo hdi);clear hfo hdi HF;go_enter func294,ntmps294;go_wp2_with fail;go_quiet(fail);rw[HX.1];go_wp2_with fail;refine(FU t [123,125] hp _).mono ?_;rintro e w1 ⟨rfl,rfl⟩;go_wp2_with fail;go_quiet(fail);have hcat:(({data:=#[a2,a3,a4,a5]}:ByteArray)++{data:=#[a7,a8]}++{data:=#[a10,a11]})=⟨[a2,a3,a4,a5,a7,a8,a10,a11].toArray⟩:=rfl;rw[hcat];have hul:=MC [a2,a3,a4,a5,a7,a8,a10,a11] (by simp);clear hcat hx2 hx3 hx4;generalize [a2,a3,a4,a5,a7,a8,a10,a11]=D at*;have HU:=S hul;clear hul;go_wp2_with fail;refine mR (HU.1 _) λw1 g1=>?_;cases hok:(C8 D).2 with
            | false=>
              have HM:=S (NV hp HH.1.1 (.inl (by rw[HH.1.2,hok])));generalize(C8 D).1=v at*;go_wp2;exact bZ (v:= .tuple #[str D,.int .i64 13,.bool false]) (by simp[results,results294,go_sem]) rfl (FW HM.1 (Ag (Aj (Aa _ _) _) g1))
            | true=>
              cases hbl:(D==Ge)with
              | true=>
                have HM:=S (NV hp HH.1.1 (.inr (by rw[HH.1.2];simpa using hbl)));change(D==[32,32,32,32,32,32,32,32])=true at hbl;generalize(C8 D).1=v at*;go_wp2;exact bZ (v:= .tuple #[str D,.int .i64 13,.bool false]) (by simp[results,results294,go_sem]) rfl (FW HM.1 (Ag (Aj (Aa _ _) _) g1))
              | false=>
                have HM:=S (T8 hp HH.1.1 (by rw[HH.1.2,hok]) (by rw[HH.1.2];simpa using hbl));have HD:=S HH.1.2;change(D==[32,32,32,32,32,32,32,32])=false at hbl;generalize(C8 D).1=v at*;go_wp2;exact bZ (v:= .tuple #[str D,.int .i64 13,.bool true]) (by simp[results,results294,go_sem]) rfl (LI (HD.1 ▸ HM.1) (Ag (Aj (Aa _ _) _) g1) rfl)
   ·have HM:=S (GW hp (by simp[EE,h13]));have hl:decide ((t.length:Int)<13)=true:=by simp;omega
    go_enter func294,ntmps294;go_wp2_with fail;go_quiet(fail);rw[HX.1];go_wp2_with fail;refine(FU t [123,125] hp _).mono ?_;rintro e w1 ⟨rfl,rfl⟩;go_wp2;exact bZ (v:= .tuple #[str [],.int .i64 0,.bool false]) (by simp[results,results294,go_sem]) rfl (FW HM.1 (Aj (Aa _ _) _))
structure TkRel(w:World)(b:Nat)(s:Bs)(i k:Nat)(wr:World):Prop where
 sc:Sc wr b s k true true (-1)
 tok:Blk wr (w.heap.size+1) [.int .i64 0,.int .i64 i,str []] 250
 res:Blk wr w.heap.size [.int .i64 0,.int .i64 0,str []] 250
 g:w.grownBy wr (some b)
 tabs:Tabs b wr
def TkRel.gbN(h:TkRel w b s i k wr)(g:wr.grownBy w1 none):TkRel w b s i k w1:=
 ⟨h.sc.gbN g,h.tok.gb g (by simp),h.res.gb g (by simp),Ag h.g g,h.tabs.gbN g⟩
def TkRel.go(h:TkRel w b s i k wr)(hb:b<w.heap.size)(hk:k<s.length):TkRel w b s i (k+1) (wr.setCell ⟨b,1,none⟩ (.int .i64 ((k:Int)+1))):=
 ⟨h.sc.go _ _ (by simp) (by omega),h.tok.set_other _ _ (by simp;omega),h.res.set_other _ _ (by simp;omega),Af h.g _ _ (.inl rfl),h.tabs.gb (Af (Aa _ (some b)) _ _ (.inl rfl)) (by simp)⟩
def MN{c:Int}(hc:c=1\/c=2){b:UInt8}(h:cls c b=true):b.toNat<128:=by
 have h1:Co b.toNat=c:=by simpa[cls]using h
 rcases JM b.toNat with⟨h2,h3⟩| ⟨h2,h3⟩| ⟨h2,h3⟩| ⟨h2,h3⟩| ⟨h2,h3⟩<;>omega
def Tr{b:UInt8}(h:Bi b=true):b.toNat<128:=by
 simp[Bi]at h;rcases h with h|h
 ·exact MN (.inl rfl) h
 ·exact MN (.inr rfl) h
def KB{p:UInt8->Bool}(hi:i<=s.length):∀b∈A6 s i (Ar s p i),p b=true:=by
 intro b hb;obtain⟨k,hk,rfl⟩:=List.mem_iff_getElem.1 hb;rw[Fh (BJ _ _ _) (CK hi)]at hk;have h1:=Jh (p:=p) (s:=s) (i:=i) (j:=i+k) (by omega) (by omega);have h2:(A6 s i (Ar s p i))[k]? =s[i+k]?:=UY (by omega);rw[List.getElem?_eq_getElem (by rw[Fh (BJ _ _ _) (CK hi)];omega),List.getElem?_eq_getElem h1.1]at h2;rw[Option.some.inj h2,<-B0 h1.1];exact h1.2
def Wx(hi:i<=s.length):Lib.toUpperD (A6 s i (Ar s Bi i))=Lib.toUpperA (A6 s i (Ar s Bi i)):=
 Lib.toUpperD_ascii _ λb hb=>Tr (KB hi b hb)
structure TkEnd(w:World)(b:Nat)(s:Bs)(i k:Nat)(kind:Int)(t:Bs)(wr:World):Prop where
 sc:Sc wr b s k true true (-1)
 tok:Blk wr (w.heap.size+1) [.int .i64 kind,.int .i64 i,str t] 250
 res:Blk wr w.heap.size [.int .i64 0,.int .i64 0,str []] 250
 g:w.grownBy wr (some b)
def TkEnd.gbN{kind:Int}(h:TkEnd w b s i k kind t wr)(g:wr.grownBy w1 none):TkEnd w b s i k kind t w1:=
 ⟨h.sc.gbN g,h.tok.gb g (by simp),h.res.gb g (by simp),Ag h.g g⟩
def Ms{K:Act->World->Prop}{Q:Exit->Act->World->Prop}{e:Exit}{a:Act}(F:World->Prop)(hF:F w)(h:∀w',F w'->Exit.then K Q e a w'):Exit.then K Q e a w:=h w hF
def TS(h:Sc w b s i true true (-1))(ht:Tabs b w)(hi:i<s.length)(hc:cls 1 (bAt s i)=true):
 Calls Tryz.prog 266 #[.pointer (some ⟨b,0,none⟩)] w (TokPost w b s (BQ s i)):=by
 have hb:=h.lt;have hf:=h.few;have c1:=h.c1;have g0:w.grownBy ((w.alloc (.cells #[.int .i64 0,.int .i64 0,str []] 250 (0,0))).alloc (.cells #[.int .i64 0,.int .i64 i,str []] 250 (0,0))) none:=Ac (gZ w _ none) _;have hA:TkRel w b s i i ((w.alloc (.cells #[.int .i64 0,.int .i64 0,str []] 250 (0,0))).alloc (.cells #[.int .i64 0,.int .i64 i,str []] 250 (0,0))):=
  ⟨h.gbN g0,(Blk.new _ [.int .i64 0,.int .i64 i,str []] _).of_eq (by simp) rfl,(Blk.new _ [.int .i64 0,.int .i64 0,str []] _).alloc _,Ao g0,ht.gbN g0⟩
 clear h ht g0;have hr1:Ar s Bi i<=s.length:=CK (by omega);have hr2:i<=Ar s Bi i:=BJ _ _ _;have HT:=S (show BQ s i=if 24<Ar s Bi i-i then .bad i else .tok ⟨0,i,Lib.toUpperA (A6 s i (Ar s Bi i))⟩ (Ar s Bi i) true from if_pos hc);have HC:=S hc;clear hc;go_enter func266,ntmps266;go_wp2_with fail;refine mR (Cw hA.sc i 1 (r:=true) (by simp[hi,HC.1])) λw1 g1=>?_;have hA1:=hA.gbN g1;clear hA g1;go_wp2_with fail;go_loopg [] (Ar s Bi i-i) (λg wr=>∃k:Nat,k+g=Ar s Bi i/\i<=k/\TkRel w b s i k wr)
 case atStart=>exact⟨i,by omega,nR _,hA1⟩
 case round=>
  obtain⟨k,hk,hik,hr⟩:=hrel;clear hA1 c1;have c1:=hr.sc.c1;have hb1:=hr.sc.lt;cases gk with
  | zero=>
    have hke:k=Ar s Bi i:=by omega
    have hstop:(decide (k<s.length)&&cls 1 (bAt s k))=false/\(decide (k<s.length)&&cls 2 (bAt s k))=false:=by
     by_cases hkl:k<s.length
     ·have:=Lo (s:=s) (p:=Bi) (i:=i) (by omega);rw[<-hke]at this;simp[Bi]at this;simp[this.1,this.2]
     ·simp[hkl]
    have HS:=S hstop;have hup:=Wx (s:=s) (i:=i) (by omega);rw[<-hke]at hup HT;rw[<-hke]at hr1 hr2;have HUP:=S hup;have HL:=S (show(Lib.toUpperA (A6 s i k)).length=k-i by unfold Lib.toUpperA;rw[List.length_map,Fh hik (by omega)]);generalize Lib.toUpperA (A6 s i k)=T at*;clear hup hstop hke hk;go_wp2_with fail;refine mR (Cw hr.sc k 1 (r:=false) HS.1.1) λw2 g2=>?_;have hq2:=hr.gbN g2;have d1:=hq2.sc.c1;go_wp2_with fail;refine mR (Cw hq2.sc k 2 (r:=false) HS.1.2) λw3 g3=>?_;have hq3:=hq2.gbN g3;have g13:=Z g2 g3;have e0:=hq3.sc.c0;have e1:=hq3.sc.c1;have t0:=hq3.tok.cell' 0 rfl;have t1:=hq3.tok.cell' 1 rfl;have t2:=hq3.tok.cell' 2 rfl;have tf:=λk=>hq3.tok.frozen k;have tl:=hq3.tok.lt;have hkI:decide ((k:Int)<=s.length)=true:=by simp;omega
    have hkI2:decide (i<=k)=true:=by simp;omega
    go_wp2_with fail;have hs3:=hq3.sc;have hq:=S hq3;clear hq3 hs3 hq2 hr g2 g3 d1;have HU3:=S (fun(W:World)(g:w3.grownBy W (some (w.heap.size+1)))=>JV (hq.1.tabs.gb g (by intro k e;cases e;omega)) s i k hf);rw[HUP.1]at HU3;go_region_with(first| (go_at_call 291;refine(HU3.1 _ ?gg).mono ?_;(case gg=>exact(Ad (Aa _ _)));rintro e w5 ⟨rfl,g5⟩;(have hb5:Blk w5 (w.heap.size+1) [.int .i64 0,.int .i64 i,str []] 250:=(by first|exact(hq.1.tok.drew).gb g5 (by simp)|exact(((hq.1.tok.drew).set 0 (.int .i64 0)).of_eq rfl rfl).gb g5 (by simp)));(have s0:=hb5.cell' 0 rfl);(have s2:=hb5.cell' 2 rfl);(have s1:=hb5.cell' 1 rfl);(have sf:=λk=>hb5.frozen k);(have sl:=hb5.lt)));all_goals
     refine Ms (λW=>TkEnd w b s i k 0 T W) ?_ ?_
     ·first
      |exact⟨((hq.1.sc.drewN 1).gbN g5).set_other _ _ (by simp;omega)|>.set_other _ _ (by simp;omega),((hb5.set 0 (.int .i64 0)).set 2 (str T)).of_eq rfl rfl,(((hq.1.res.drewN 1).gb g5 (by simp)).set_other _ _ (by simp)).set_other _ _ (by simp),Af (Af (Ag (Ad hq.1.g) g5) _ _ (.inr (by simp))) _ _ (.inr (by simp))⟩
      |exact⟨(((hq.1.sc.drewN 1).set_other _ _ (by simp;omega)).gbN g5).set_other _ _ (by simp;omega),(hb5.set 2 (str T)).of_eq rfl rfl,(((hq.1.res.drewN 1).set_other _ _ (by simp)).gb g5 (by simp)).set_other _ _ (by simp),Af (Ag (Af (Ad hq.1.g) _ _ (.inr (by simp))) g5) _ _ (.inr (by simp))⟩
     clear hb5 g5 s0 s1 s2 sf sl;intro W hW;have a0:=hW.tok.cell' 0 rfl;have a1:=hW.tok.cell' 1 rfl;have a2:=hW.tok.cell' 2 rfl;have HW:=S hW;have HS:=S (fun(W':World)(g:W.grownBy W' none)=>Nm (hW.gbN g).sc ⟨0,i,T⟩ 24);have hWs:=hW.g.size;have hWl:=hW.tok.lt;clear hW;by_cases hm:24<T.length
     ·have HM:=S (show BQ s i= .bad i by rw[HT.1,<-HL.1,if_pos hm]);have HP:=S hm;clear hm;go_wp2_with fail;go_region_with(first| (go_at_call 292;refine(HS.1 _ ?gg).mono ?_;(case gg=>exact(Ad (Aa _ _)));intro e w8 hp8;obtain⟨g8,hp9⟩:=hp8;rw[if_pos HP.1]at hp9;obtain⟨rfl,h8⟩:=hp9;(have hr8:=(HW.1.res.drewN 1).gb g8 (by simp;omega));(have ht8:=(HW.1.tok.drewN 1).gb g8 (by simp;omega));(have r0:=hr8.cell' 0 rfl);(have r1:=hr8.cell' 1 rfl);(have r2:=hr8.cell' 2 rfl);(have rf:=λk=>hr8.frozen k);(have rl:=hr8.lt);(have b0:=ht8.cell' 0 rfl);(have b1:=ht8.cell' 1 rfl);(have b2:=ht8.cell' 2 rfl)));all_goals
       go_wp2;refine bZ (Ce (t:=⟨0,i,T⟩) (r:=false) rfl _ (hr8.set3 _ _ _) rfl rfl) rfl ⟨?_,?_⟩
       ·have g:=Z (Ad HW.1.g) g8;exact(Af (Af (Af (by assumption) _ _ (.inr (nR _))) _ _ (.inr (nR _))) _ _ (.inr (nR _)))
       ·rw[HM.1];exact⟨⟨_,rfl⟩,k,true,(by repeat(first| (with_reducible assumption)| (with_reducible apply Sc.set_other)| (simp<;>omega)))⟩
     ·have HM:=S (show BQ s i= .tok ⟨0,i,T⟩ k true by rw[HT.1,<-HL.1,if_neg hm]);have HP:=S hm;clear hm;go_wp2_with fail;go_region_with(first| (go_at_call 292;refine(HS.1 _ ?gg).mono ?_;(case gg=>exact(Ad (Aa _ _)));intro e w8 hp8;obtain⟨g8,hp9⟩:=hp8;rw[if_neg HP.1]at hp9;obtain⟨rfl,h8⟩:=hp9;(have hr8:=(HW.1.res.drewN 1).gb g8 (by simp;omega));(have ht8:=(HW.1.tok.drewN 1).gb g8 (by simp;omega));(have r0:=hr8.cell' 0 rfl);(have r1:=hr8.cell' 1 rfl);(have r2:=hr8.cell' 2 rfl);(have rf:=λk=>hr8.frozen k);(have rl:=hr8.lt);(have b0:=ht8.cell' 0 rfl);(have b1:=ht8.cell' 1 rfl);(have b2:=ht8.cell' 2 rfl)));all_goals
       go_wp2;refine bZ (Ce (t:=⟨0,i,T⟩) (r:=true) rfl _ (hr8.set3 _ _ _) rfl rfl) rfl ⟨?_,?_⟩
       ·have g:=Z (Ad HW.1.g) g8;exact(Af (Af (Af (by assumption) _ _ (.inr (nR _))) _ _ (.inr (nR _))) _ _ (.inr (nR _)))
       ·rw[HM.1];exact⟨rfl,(by repeat(first| (with_reducible assumption)| (with_reducible apply Sc.set_other)| (simp<;>omega)))⟩
  | succ gk=>
    have h10:=Jh hik (by omega:k<Ar s Bi i);have hkl:=h10.1;have HW:=S h10.2;clear h10;cases hc1:cls 1 (bAt s k)with
    | true=>
      have HC1:=S hc1;clear hc1;go_wp2_with fail;refine mR (Cw hr.sc k 1 (r:=true) (by simp[hkl,HC1.1])) λw2 g2=>?_;have hr2':=hr.gbN g2;have d1:=hr2'.sc.c1;have f1:=hr2'.sc.fr 1;go_wp2;go_roundg gk
      case measure=>omega
      case rel=>exact⟨k+1,by omega,by omega,hr2'.go hb hkl⟩
    | false=>
      have HC1:=S hc1;have HC2:=S (show cls 2 (bAt s k)=true by have:=HW.1;simpa[Bi,hc1]using this);clear hc1;go_wp2_with fail;refine mR (Cw hr.sc k 1 (r:=false) (by simp[hkl,HC1.1])) λw2 g2=>?_;have hr2':=hr.gbN g2;have d1:=hr2'.sc.c1;have f1:=hr2'.sc.fr 1;go_wp2_with fail;refine mR (Cw hr2'.sc k 2 (r:=true) (by simp[hkl,HC2.1])) λw3 g3=>?_;have hr3':=hr2'.gbN g3;have e1:=hr3'.sc.c1;have f1:=hr3'.sc.fr 1;go_wp2;go_roundg gk
      case measure=>omega
      case rel=>exact⟨k+1,by omega,by omega,hr3'.go hb hkl⟩
abbrev Cv:Cd:=⟨17,0,0,[]⟩
abbrev knU:Un:=⟨mainB,[0,0],[Cv]⟩
def YG(w:World)(b:Nat):
 Calls Tryz.prog 66 #[.pointer (some ⟨b,0,none⟩),.slice none 0 0] w λe w'=>e= .returned (.tuple #[])/\w'=w:=by
 go_enter func66,ntmps66;go_wp2_with fail;go_loopg [5,8] 0 (λg v5 v8 wr=>g=0/\v8= .int .i64 0/\wr=w)
 case atStart=>exact⟨rfl,rfl,rfl⟩
 case round=>
  obtain⟨rfl,rfl,rfl⟩:=hrel;go_wp2;go_end0;exact⟨rfl,rfl⟩
def put_k{x1 x2 x3:Value}(h:Blk w b [.slice none 0 0,x1,x2,x3] 106):
 Calls Tryz.prog 64 #[.pointer (some ⟨b,0,none⟩),.int .i64 17,.int .i64 0,.int .i64 0,str []] w λe w'=>e= .returned (.tuple #[])/\∃q cp,Blk w' b [.slice (some ⟨q,0,none⟩) 1 cp,x1,x2,x3] 106/\
  w'.ownsRow w.heap.size 61 4 (.slice (some ⟨q,0,none⟩) 1 cp) 1 (AC [Cv])/\w.grownBy w' (some b):=by
 obtain⟨j0,hj0,hy0,hy1,hy2⟩:=info_parts Lj;have HJ:=S (X hj0 (X hy0 (X hy1 hy2)));have c0:=h.cell' 0 rfl;have HB:=S h;have hlt:=h.lt;clear hj0 hy0 hy1 hy2 h;go_enter func64,ntmps64;go_wp2_with (at_builtin;go_loud(refine wpList_append_lies _ rfl _ _ 56 rfl w.heap.size 61 j0 (.agg #[.int .i64 0,.int .i64 0,.int .i64 0,str []]) 4 40 underlying56 HJ.1.1 HJ.1.2.1 HJ.1.2.2.1 HJ.1.2.2.2 rfl (by decide) (.slice none 0 0) 0 [] rfl (D7 _ _ _ _) ⟨w.heap.size,0,none⟩ 1 1 [.int .i64 17,.int .i64 0,.int .i64 0,str []] rfl rfl (AP _ _ _) (by simp[Value.oneCell']) (by decide) (by decide) (by decide) (by simp) _ rfl ?_;intro g6 cap6 w6 hown hgrow hat6 hlt6;(have g7:w.grownBy w6 none:=BB (gZ w _ none) hgrow (by simp[Value.ownBlock]));(have hb7:=HB.1.gb g7 (by simp));(have f0:=hb7.frozen 0);(have l7:=hb7.lt);(have d0:=hb7.cell' 0 rfl);(have HE:=S (X hown (X g7 hb7)));(have HQ:=S (show w.heap.size<=g6 from by rcases hat6 with h9|h9;(simp[Value.ownBlock]at h9);(rw[h9];simp)));clear hown hgrow hat6 g7 hb7));go_end0;refine⟨rfl,g6,cap6,(HE.1.2.2.set 0 _).of_eq rfl rfl,?_,Af (Ao HE.1.2.1) _ _ (.inl rfl)⟩;exact Cs (show w6.ownsRow w.heap.size 61 4 (.slice (some ⟨g6,0,none⟩) 1 cap6) 1 (AC [Cv])from by simpa[AC,cdC]using HE.1.1) (Af (Aa w6 (some b)) _ _ (.inl rfl)) (λk hk _ e=>by cases e;omega)
def sK{W W1:World}{P C:Nat}(h:W.cell? ⟨P,0,none⟩=some x/\W.cell? ⟨P,2,none⟩=some y/\W.cell? ⟨C,0,none⟩=some z)(g:W.grownBy W1 r)(hp:some P≠r)(hc:some C≠r):
 W1.cell? ⟨P,0,none⟩=some x/\W1.cell? ⟨P,2,none⟩=some y/\W1.cell? ⟨C,0,none⟩=some z:=⟨B9 g h.1 hp,B9 g h.2.1 hp,B9 g h.2.2 hc⟩
def Ru(h:fn.results=#[.cell p 58])(tmps:Array Value){a b:Value}(hb:Blk w k [a,b,c] 58)
 (hp:tmps.getD p undef= .pointer (some ⟨k,0,none⟩)):(results fn tmps).run Tryz.prog w= .ok (.agg #[a,b,c]) w:=by
 have c0:=hb.cell' 0 rfl;have c1:=hb.cell' 1 rfl;have c2:=hb.cell' 2 rfl;have hp':tmps[p]?.getD undef= .pointer (some ⟨k,0,none⟩):=by simpa using hp
 simp[results,h,hp',go_sem,c0,c1,c2]
def TW{w2:World}{a b:Value}(hb:Blk w2 k [a,b,c] 58):
 Blk (((((w2.setCell ⟨k,0,none⟩ x).setCell ⟨k,1,none⟩ y).setCell ⟨k,2,none⟩ z).alloc (.cells #[.int .i64 0,.int .i64 0] 3 (0,0))).drew) k [x,y,z] 58/\
 w2.grownBy (((((w2.setCell ⟨k,0,none⟩ x).setCell ⟨k,1,none⟩ y).setCell ⟨k,2,none⟩ z).alloc (.cells #[.int .i64 0,.int .i64 0] 3 (0,0))).drew) (some k)/\
 Blk (((((w2.setCell ⟨k,0,none⟩ x).setCell ⟨k,1,none⟩ y).setCell ⟨k,2,none⟩ z).alloc (.cells #[.int .i64 0,.int .i64 0] 3 (0,0))).drew) w2.heap.size [.int .i64 0,.int .i64 0] 3:=by
 have h3:Blk (((w2.setCell ⟨k,0,none⟩ x).setCell ⟨k,1,none⟩ y).setCell ⟨k,2,none⟩ z) k [x,y,z] 58:=((hb.set 0 x).set 1 y).set 2 z;have g3:w2.grownBy (((w2.setCell ⟨k,0,none⟩ x).setCell ⟨k,1,none⟩ y).setCell ⟨k,2,none⟩ z) (some k):=Af (Af (Af (Aa w2 (some k)) ⟨k,0,none⟩ x (.inl rfl)) ⟨k,1,none⟩ y (.inl rfl)) ⟨k,2,none⟩ z (.inl rfl);have hs:(((w2.setCell ⟨k,0,none⟩ x).setCell ⟨k,1,none⟩ y).setCell ⟨k,2,none⟩ z).heap.size=w2.heap.size:=by simp[World.setCell]
 generalize(((w2.setCell ⟨k,0,none⟩ x).setCell ⟨k,1,none⟩ y).setCell ⟨k,2,none⟩ z)=W at*;exact⟨(h3.alloc _).drew,Ad (Ac g3 _),((Blk.new W [.int .i64 0,.int .i64 0] 3).drew).of_eq hs rfl⟩
def K1{r:Nat}{cs:List Value}{t:TypeId}{ok:Nat->Prop}(h:Blk w r cs t)(hn:cs.length=n*k)(hm:n<=maxLen)(ho:ok r):Cells w (.slice (some ⟨r,0,none⟩) n n) k n cs ok:=
 ⟨_,_,rfl,nR _,hm,hn,λj u hj=>⟨r,0,rfl,ho,by rw[Nat.zero_add];exact h.cell' j hj⟩⟩
def ZD(w:World)(m:Nat):
 Calls Tryz.prog 36 #[.agg #[str mainB,.bool false,.slice none 0 0,.slice none 0 0],.map (some m)] w λe w'=>∃r q cp,e= .returned (.agg #[str mainB,.slice (some ⟨r,0,none⟩) 2 2,.slice (some ⟨q,0,none⟩) 1 cp])/\
  Cells w' (.slice (some ⟨r,0,none⟩) 2 2) 1 2 (Be [0,0]) (An w.heap.size)/\Cells w' (.slice (some ⟨q,0,none⟩) 1 cp) 4 1 (AC [Cv]) (An w.heap.size)/\w.grownBy w' none:=by
 go_enter func36,ntmps36;go_wp2_with fail;refine(YG _ _).mono ?_;rintro e w1 ⟨rfl,rfl⟩;have bP:=((Blk.new w mainC 40).alloc (.cells #[.string ⟨#[]⟩,.slice none 0 0,.slice none 0 0] 58 (0,0))).alloc (.cells #[.slice none 0 0,.slice none 0 0,.int .i64 0,.map (some m)] 106 (0,0));have bR:=((Blk.new (w.alloc (.cells mainC.toArray 40 (0,0))) [.string ⟨#[]⟩,.slice none 0 0,.slice none 0 0] 58).alloc (.cells #[.slice none 0 0,.slice none 0 0,.int .i64 0,.map (some m)] 106 (0,0))).of_eq (k':=w.heap.size+1) (by simp) rfl;have bC:=(Blk.new ((w.alloc (.cells mainC.toArray 40 (0,0))).alloc (.cells #[.string ⟨#[]⟩,.slice none 0 0,.slice none 0 0] 58 (0,0))) [.slice none 0 0,.slice none 0 0,.int .i64 0,.map (some m)] 106).of_eq (k':=w.heap.size+1+1) (by simp) rfl;have gW:w.grownBy (((w.alloc (.cells mainC.toArray 40 (0,0))).alloc (.cells #[.string ⟨#[]⟩,.slice none 0 0,.slice none 0 0] 58 (0,0))).alloc (.cells #[.slice none 0 0,.slice none 0 0,.int .i64 0,.map (some m)] 106 (0,0))) none:=Ac (Ac (gZ w _ none) _) _;change Blk (((w.alloc (.cells #[str mainB,.bool false,.slice none 0 0,.slice none 0 0] 40 (0,0))).alloc (.cells #[.string ⟨#[]⟩,.slice none 0 0,.slice none 0 0] 58 (0,0))).alloc (.cells #[.slice none 0 0,.slice none 0 0,.int .i64 0,.map (some m)] 106 (0,0))) _ _ _ at bP
 change Blk (((w.alloc (.cells #[str mainB,.bool false,.slice none 0 0,.slice none 0 0] 40 (0,0))).alloc (.cells #[.string ⟨#[]⟩,.slice none 0 0,.slice none 0 0] 58 (0,0))).alloc (.cells #[.slice none 0 0,.slice none 0 0,.int .i64 0,.map (some m)] 106 (0,0))) _ _ _ at bR;change Blk (((w.alloc (.cells #[str mainB,.bool false,.slice none 0 0,.slice none 0 0] 40 (0,0))).alloc (.cells #[.string ⟨#[]⟩,.slice none 0 0,.slice none 0 0] 58 (0,0))).alloc (.cells #[.slice none 0 0,.slice none 0 0,.int .i64 0,.map (some m)] 106 (0,0))) _ _ _ at bC;change w.grownBy (((w.alloc (.cells #[str mainB,.bool false,.slice none 0 0,.slice none 0 0] 40 (0,0))).alloc (.cells #[.string ⟨#[]⟩,.slice none 0 0,.slice none 0 0] 58 (0,0))).alloc (.cells #[.slice none 0 0,.slice none 0 0,.int .i64 0,.map (some m)] 106 (0,0))) none at gW;generalize(((w.alloc (.cells #[str mainB,.bool false,.slice none 0 0,.slice none 0 0] 40 (0,0))).alloc (.cells #[.string ⟨#[]⟩,.slice none 0 0,.slice none 0 0] 58 (0,0))).alloc (.cells #[.slice none 0 0,.slice none 0 0,.int .i64 0,.map (some m)] 106 (0,0)))=W at*;have H1:=S (X bP (X bR (X bC gW)));clear bP bR bC gW;go_wp2_with fail;refine(put_k H1.1.2.2.1).mono ?_;rintro e w2 ⟨rfl,q,cp,hC,hown,g2⟩;have bP:=H1.1.1.gb g2 (by simp;omega);have bR:=H1.1.2.1.gb g2 (by simp);have g3:w.grownBy w2 none:=Aq H1.1.2.2.2 g2 (.inr (by omega));have hWs:=H1.1.2.2.2.size;have hWl:=H1.1.2.2.1.lt;have a0:=bP.cell' 0 rfl;have a1:=bP.cell' 1 rfl;have a2:=bP.cell' 2 rfl
 have b0:=bR.cell' 0 rfl;have b1:=bR.cell' 1 rfl;have b2:=bR.cell' 2 rfl;have bf:=λk=>bR.frozen k;have bl:=bR.lt;have pl:=bP.lt;have cl:=hC.lt;have e0:=hC.cell' 0 rfl;have H2:=S (X bP (X bR (X hC (X hown (X g3 hWl)))));clear bP bR hC hown g2 g3 hWs hWl H1;go_wp2_with fail;have HX0:=S (show w2.cell? ⟨w.heap.size,0,none⟩=some (str mainB)/\w2.cell? ⟨w.heap.size,2,none⟩=some (.slice none 0 0)/\w2.cell? ⟨w.heap.size+1+1,0,none⟩=some (.slice (some ⟨q,0,none⟩) 1 cp)from⟨a0,a2,e0⟩);have HX:=S (show w2.drew.cell? ⟨w.heap.size,0,none⟩=some (str mainB)/\w2.drew.cell? ⟨w.heap.size,2,none⟩=some (.slice none 0 0)/\w2.drew.cell? ⟨w.heap.size+1+1,0,none⟩=some (.slice (some ⟨q,0,none⟩) 1 cp)from⟨a0,a2,e0⟩);go_region_held3 (λW=>W.cell? ⟨w.heap.size,0,none⟩=some (str mainB)/\W.cell? ⟨w.heap.size,2,none⟩=some (.slice none 0 0)/\W.cell? ⟨w.heap.size+1+1,0,none⟩=some (.slice (some ⟨q,0,none⟩) 1 cp))
  (first|exact HX.1|exact sK (by assumption) (gZ _ _ (some (w.heap.size+1))) (by simp) (by simp)|exact sK HX0.1 (Ad (Ac (Af (Af (Af (Aa w2 (some (w.heap.size+1))) _ _ (.inl rfl)) _ _ (.inl rfl)) _ _ (.inl rfl)) _)) (by simp) (by simp))
  (first|fail)
 rename_i hH;clear hH HX HX0;go_wp2;have hU:=TW (x:=str mainB) (y:= .slice (some ⟨w2.heap.size,0,none⟩) 2 2) (z:= .slice (some ⟨q,0,none⟩) 1 cp) H2.1.2.1;have hw2:=H2.1.2.2.2.2.1.size;have hWl:=H2.1.2.2.2.2.2;refine bZ (Ru rfl _ hU.1 rfl) rfl ⟨w2.heap.size,q,cp,rfl,K1 hU.2.2 rfl (by decide) hw2,?_,Aq H2.1.2.2.2.2.1 hU.2.1 (.inr (by omega))⟩;exact((C0 H2.1.2.2.2.1).gb hU.2.1 (λk hk _ e=>by have h1:_<=k:=hk;cases e;omega)).mono (λk hk _=>by have h1:_<=k:=hk;show w.heap.size<=k;omega)
end Go.Proofs.YtbjfaimkiclhgaaGreatDoor
