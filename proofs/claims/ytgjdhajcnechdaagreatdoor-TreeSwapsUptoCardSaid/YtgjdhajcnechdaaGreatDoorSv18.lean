/-
  The lexer: the tables that ToUpper reads; signs, sign. The lexer: texts between quotes. The lexer: dates.
-/
import Derived.IntWalk
import Derived.Test.YtgjdhajcnechdaaGreatDoorSv15
import Derived.Test.YtgjdhajcnechdaaGreatDoorSv16
import Derived.Test.YtgjdhajcnechdaaGreatDoorSv17
set_option linter.all false
set_option maxRecDepth 100000
set_option maxHeartbeats 8000000
namespace Go.Proofs.YtgjdhajcnechdaaGreatDoor
open Go.Proofs.Tryz
open Go.RowKit
structure Tabs(B:Nat)(w:World):Prop where
 utf8:Lib.Utf8Tabs 5 6 w
 low:11≤B
 case:∃R oR cap,R<B∧w.cell? ⟨4,0,none⟩=some (.slice (some ⟨R,oR,none⟩) Lib.caseA.size cap)∧Lib.CaseTab R oR Lib.caseA w
 glob:Glob w
theorem Tabs.gb{B:Nat}{w w1:World}{r:Option Nat}(h:Tabs B w)(g:w.grownBy w1 r)(hr:∀k,r=some k→B≤k):Tabs B w1:=by
 have hlow:=h.low;have hne:∀k,k<B→some k≠r:=fun k hk e=>by have:=hr k e.symm;omega
 refine⟨⟨fun c hc=>Bu g (h.utf8.1 c hc) (hne _ (by omega)),fun i hi=>⟨Bu g (h.utf8.2 i hi).1 (hne _ (by omega)),Bu g (h.utf8.2 i hi).2 (hne _ (by omega))⟩⟩,hlow,?_,h.glob.gb g (hne 0 (by omega))⟩;obtain⟨R,oR,cap,hR,hc,ht⟩:=h.case;refine⟨R,oR,cap,hR,Bu g hc (hne _ (by omega)),fun i hi=>?_⟩;have:=ht i hi;exact⟨Bu g this.1 (hne _ hR),Bu g this.2.1 (hne _ hR),Bu g this.2.2.1 (hne _ hR),Bu g this.2.2.2.1 (hne _ hR),Bu g this.2.2.2.2 (hne _ hR)⟩
theorem Tabs.gbN{B:Nat}{w w1:World}(h:Tabs B w)(g:w.grownBy w1 none):Tabs B w1:=h.gb g (by simp)
theorem Tabs.caseV{B:Nat}{w:World}(h:Tabs B w):Lib.CaseVar 4 Lib.caseA w:=by
 obtain⟨R,oR,cap,_,hc,ht⟩:=h.case;exact⟨R,oR,cap,hc,ht⟩
theorem OB{B:Nat}{w:World}(h:Tabs B w)(s:Bs)(hs:s.length≤1000000):
 Calls Tryz.prog 197 #[.string ⟨s.toArray⟩] w fun e w'=>e= .returned (str (Lib.toUpperD s))∧w.grownBy w' none:=by
 refine(strings_ToUpper_any ⟨s.toArray⟩ w (by simp[ByteArray.size];omega) h.caseV h.utf8).mono ?_;rintro e w' ⟨rfl,hb⟩;exact⟨rfl,gbB hb none⟩
theorem FE{B:Nat}{w:World}(h:Tabs B w)(s:Bs)(i j:Nat)(hs:s.length≤4000):
 Calls Tryz.prog 197 #[.string ((⟨s.toArray⟩:ByteArray).extract i j)] w fun e w'=>e= .returned (str (Lib.toUpperD (A9 s i j)))∧w.grownBy w' none:=by
 rw[CY];exact OB h _ (by simp;omega)
theorem OX(w:World):Calls Tryz.prog 242 #[] w fun e w'=>e= .returned (.slice (some ⟨w.heap.size,0,none⟩) 38 38)∧w'=w.alloc (.cells (signsL.map str).toArray 9 (0,0)):=by
 go_enter func242,ntmps242;go_wp2;go_ret;exact⟨rfl,rfl⟩
def TokPost(w:World)(b:Nat)(s:Bs)(r:St)(e:Ending)(w':World):Prop:=
 w.grownBy w' (some b)∧match r with
  | .tok t j l=>e= .returned (.tuple #[AY t,.bool true])∧Sc w' b s j l l (-1)
  | .bad k=>(∃t,e= .returned (.tuple #[AY t,.bool false]))∧∃j l,Sc w' b s j l l k
  |_=>False
theorem Blk.set3{w:World}{k:Nat}{a0 a1 a2:Value}{t:TypeId}(h:Blk w k [a0,a1,a2] t)(v0 v1 v2:Value):Blk (((w.setCell ⟨k,0,none⟩ v0).setCell ⟨k,1,none⟩ v1).setCell ⟨k,2,none⟩ v2) k [v0,v1,v2] t:=
 (((h.set 0 v0).set 1 v1).set 2 v2).of_eq rfl rfl
theorem Bn{fn:Func}{p q:Tmp}(h:fn.results=#[.cell p 105,.tmp q])(tmps:Array Value){w:World}{k:Nat}{t:Tok}{r:Bool}(hb:Blk w k [.int .i64 t.kind,.int .i64 t.pos,str t.text] 105)
 (hp:tmps.getD p undef= .pointer (some ⟨k,0,none⟩)) (hq:tmps.getD q undef= .bool r):(results fn tmps).run Tryz.prog w= .ok (.tuple #[AY t,.bool r]) w:=by
 have c0:=hb.cell 0;have c1:=hb.cell 1;have c2:=hb.cell 2;have hp':tmps[p]?.getD undef= .pointer (some ⟨k,0,none⟩):=by simpa using hp
 have hq':tmps[q]?.getD undef= .bool r:=by simpa using hq
 simp only[List.getElem?_cons_zero,List.getElem?_cons_succ]at c0 c1 c2;simp[results,h,hp',hq',go_sem,c0,c1,c2]
def F3(s:Bs)(i:Nat):St:=match De s i with
 |some x=> .tok ⟨4,i,x⟩ (i+x.length) true
 |none=> .bad i
theorem Nz{s:Bs}{i:Nat}(h:∀j,(hj:j<signsL.length)→Cw s i signsL[j]=false):De s i=none:=by
 rw[De,List.find?_eq_none];intro x hx;obtain⟨j,hj,rfl⟩:=List.mem_iff_getElem.1 hx;rw[h j hj];simp
theorem MB{s:Bs}{i k:Nat}(hk:k<signsL.length)(h:∀j,(hj:j<k)→Cw s i (signsL[j]'(by omega))=false)(hx:Cw s i signsL[k]=true):De s i=some signsL[k]:=by
 rw[De,List.find?_eq_some_iff_getElem];exact⟨hx,k,hk,rfl,fun j hj=>by rw[h j hj];simp⟩
theorem Ll{w:Bs}(h:w∈signsL):∀b∈w,b.toNat<128:=by
 have h0:signsL.all (fun w=>w.all fun b=>decide (b.toNat<128))=true:=by decide
 have h1:=List.all_eq_true.1 h0 w h;intro b hb;simpa using List.all_eq_true.1 h1 b hb
theorem Hi{s:Bs}{i k:Nat}(hk:k<signsL.length)(he:i+signsL[k].length≤s.length){r:Bool}(h:Cw s i signsL[k]=r):(Lib.toUpperD (A9 s i (i+signsL[k].length))==signsL[k])=r:=by
 have h1:Cw s i signsL[k]=(Lib.toUpperA (A9 s i (i+signsL[k].length))==signsL[k]):=by simp[Cw,he]
 rw[MR _ _ (by rw[Dv (by omega) he];omega) (Ll (List.getElem_mem hk)),←h1,h]
structure SignRel(w:World)(b:Nat)(s:Bs)(i:Nat)(k:Nat)(wr:World):Prop where
 sc:Sc wr b s i true true (-1)
 tok:Blk wr w.heap.size [.int .i64 4,.int .i64 i,str []] 105
 res:Blk wr (w.heap.size+1) [.int .i64 0,.int .i64 0,str []] 105
 row:Blk wr (w.heap.size+2) (signsL.map str) 9
 no:∀j,(hj:j<k)→(hl:j<signsL.length)→Cw s i signsL[j]=false
 g:w.grownBy wr none
 tabs:Tabs b wr
theorem SignRel.go{w:World}{b:Nat}{s:Bs}{i k:Nat}{wr w1:World}(h:SignRel w b s i k wr)(hk:k<signsL.length)(hx:Cw s i signsL[k]=false)(g:wr.grownBy w1 none):SignRel w b s i (k+1) w1:=
 ⟨h.sc.gbN g,h.tok.gb g (by simp),h.res.gb g (by simp),h.row.gb g (by simp),fun j hj hl=>by
  by_cases e:j=k
  ·subst e;exact hx
  ·exact h.no j (by omega) hl,Ah h.g g,h.tabs.gbN g⟩
theorem Qy{w:World}{b:Nat}{s:Bs}{i:Nat}(h:Sc w b s i true true (-1))(ht:Tabs b w):
 Calls Tryz.prog 201 #[.pointer (some ⟨b,0,none⟩),AY ⟨0,i,[]⟩] w (TokPost w b s (F3 s i)):=by
 have hb:=h.lt;have hA:SignRel w b s i 0 (((w.alloc (.cells #[.int .i64 4,.int .i64 i,str []] 105 (0,0))).alloc (.cells #[.int .i64 0,.int .i64 0,str []] 105 (0,0))).alloc (.cells (signsL.map str).toArray 9 (0,0))):=by
  have g:w.grownBy (((w.alloc (.cells #[.int .i64 4,.int .i64 i,str []] 105 (0,0))).alloc (.cells #[.int .i64 0,.int .i64 0,str []] 105 (0,0))).alloc (.cells (signsL.map str).toArray 9 (0,0))) none:=Ad (Ad (World.grownBy_alloc w _ none) _) _;exact⟨h.gbN g,((Blk.new w _ _).alloc _).alloc _,((Blk.new _ [.int .i64 0,.int .i64 0,str []] _).of_eq (by simp) rfl).alloc _,(Blk.new _ (signsL.map str) _).of_eq (by simp) rfl,fun j hj=>by omega,g,ht.gbN g⟩
 go_enter func201,ntmps201;go_wp2_with fail;refine(OX _).mono ?_;rintro e w1 ⟨rfl,rfl⟩;go_wp2_with fail;go_loopg [7,8,12] 38 (fun g v7 v8 v12 wr=>∃k:Nat,k+g=38∧v12= .int .i64 k∧SignRel w b s i k wr)
 case atStart=>exact⟨0,rfl,rfl,hA⟩
 case round=>
  obtain⟨k,hk,rfl,hr⟩:=hrel;clear hA h ht;have hsc:=hr.sc;have c0:=hsc.c0;have c1:=hsc.c1;have hb1:=hsc.lt;have hf:=hsc.few;have hi:=hsc.le;have gwx:=hr.g.size;have hlt:=hr.row.lt;cases gk with
  | zero=>
    have e:k=38:=by omega
    subst e;have HM:=O (Nz (s:=s) (i:=i) (fun j hj=>hr.no j hj hj));have t0:=hr.tok.cell 0;have t1:=hr.tok.cell 1;have t2:=hr.tok.cell 2;have r0:=hr.res.cell 0;have r1:=hr.res.cell 1;have r2:=hr.res.cell 2;have rf:=fun k=>hr.res.frozen k;have f260:=hsc.fr 260;have c260:=hsc.c260;simp only[List.getElem?_cons_zero,List.getElem?_cons_succ]at t0 t1 t2 r0 r1 r2;have hs1:=hsc.setBad (i:Int);go_wp2;refine bodyPost_ret (Bn (t:=⟨4,i,[]⟩) (r:=false) rfl _ ((hr.res.set_other _ _ (by simp;omega)).set3 _ _ _) rfl rfl) rfl ⟨?_,?_⟩
    ·have g:=AU (r:=some b) hr.g;clear hs1;exact (by repeat(first| (with_reducible exact Ac _ _)| (with_reducible assumption)| (with_reducible exact AU (by assumption))| (with_reducible refine Ad ?_ _)| (with_reducible refine Am ?_)| (with_reducible refine A3 ?_ _)| ((with_reducible refine Ay ?_ _ _ ?h2);case h2=>first|exact .inl rfl|exact .inr (Nat.le_refl _)|exact .inr (by simp<;>omega))| (with_reducible refine Ah ?_ (by assumption))| (with_reducible refine Aa ?_ (by assumption))))
    ·unfold F3;rw[HM.out];exact⟨⟨_,rfl⟩,i,true,(by repeat(first| (with_reducible assumption)| (with_reducible apply Sc.alloc)| (with_reducible apply Sc.drew)| (with_reducible apply Sc.drewN)| (with_reducible apply Sc.setLine)| (with_reducible apply Sc.setBegun)| (with_reducible apply Sc.setBad)| (with_reducible apply Sc.go)| (with_reducible apply Sc.set_other)|omega| (simp<;>omega)))⟩
  | succ gk=>
    have hkl:k<signsL.length:=by show k<38;omega
    have ck:=(hr.row.cell k).trans (show(signsL.map str)[k]? =some (str signsL[k])by simp[hkl]);have hx6:=Ge (List.getElem_mem hkl);have hkI:decide ((k:Int)<38)=true:=by simp;omega
    have HN:=O (fun hx=>hr.go hkl (w1:=wr) hx (Ac _ _));cases hh:Cw s i signsL[k]with
    | false=>
      have HR:=O (fun w1 g=>hr.go hkl (w1:=w1) hh g);by_cases hend:i+signsL[k].length≤s.length
      ·have hz:=Hi hkl hend hh;have HU:=O (fun(W:World)(g:wr.grownBy W none)=>FE (hr.tabs.gbN g) s i (i+signsL[k].length) hf);clear hh;generalize Lib.toUpperD (A9 s i (i+signsL[k].length))=z at*;generalize signsL[k]=x at*;have he1:decide ((i:Int)+x.length≤s.length)=true:=by simp;omega
       have he2:decide ((i:Int)≤i+x.length)=true:=by simp;omega
       have hw1:IntKind.i64.wrap ((i:Int)+(x.length:Int))=(i:Int)+x.length:=IntWalk.i64_in _ (by omega);have hw2:(0:Int)≤(i:Int)+x.length:=by omega
       have hw3:(i:Int)+x.length≤s.length:=by omega
       have hw4:((i:Int)+x.length).toNat=i+x.length:=by omega
       have hw5:(i:Int)≤(i:Int)+x.length:=by omega
       clear hw1;go_wp2_with fail;go_region_held3 (fun W=>W.cell? ⟨b,0,none⟩=some (str s)∧W.cell? ⟨b,1,none⟩=some (.int .i64 i)∧wr.grownBy W none) (first|exact⟨c0,c1,Am (Ac wr none)⟩|exact⟨Af g5 c0,Af g5 c1,Ah (Am (Ac wr none)) g5⟩) (first| (go_at_call 197;refine(HU.out _ ?_).mono ?_;(simp[*]);rintro e w5 ⟨rfl,g5⟩));go_wp2;go_roundg gk
       case measure=>omega
       case rel=>exact⟨k+1,by omega,by simp,HR.out w5 (Ah (Am (Ac wr none)) g5)⟩
      ·clear hh;generalize signsL[k]=x at*;have he1:decide ((i:Int)+x.length≤s.length)=false:=by simp;omega
       go_wp2_with fail;go_quiet(fail);go_wp2;go_roundg gk
       case measure=>omega
       case rel=>exact⟨k+1,by omega,by simp,HR.out _ (A3 (Ac wr none) _)⟩
    | true=>
      have hend:i+signsL[k].length≤s.length:=by simp[Cw]at hh;exact hh.1
      have hz:=Hi hkl hend hh;have HU:=O (fun(W:World)(g:wr.grownBy W none)=>FE (hr.tabs.gbN g) s i (i+signsL[k].length) hf);have HM:=O (MB hkl (fun j hj=>hr.no j hj (by omega)) hh);clear hh;generalize Lib.toUpperD (A9 s i (i+signsL[k].length))=z at*;generalize signsL[k]=x at*;have he1:decide ((i:Int)+x.length≤s.length)=true:=by simp;omega
      have he2:decide ((i:Int)≤i+x.length)=true:=by simp;omega
      have hw1:IntKind.i64.wrap ((i:Int)+(x.length:Int))=(i:Int)+x.length:=IntWalk.i64_in _ (by omega);have hw2:(0:Int)≤(i:Int)+x.length:=by omega
      have hw3:(i:Int)+x.length≤s.length:=by omega
      have hw4:((i:Int)+x.length).toNat=i+x.length:=by omega
      have hw5:(i:Int)≤(i:Int)+x.length:=by omega
      clear hw1;go_wp2_with fail;go_region_held3 (fun W=>W.cell? ⟨b,0,none⟩=some (str s)∧W.cell? ⟨b,1,none⟩=some (.int .i64 i)∧wr.grownBy W none) (first|exact⟨c0,c1,Am (Ac wr none)⟩|exact⟨Af g5 c0,Af g5 c1,Ah (Am (Ac wr none)) g5⟩) (first| (go_at_call 197;refine(HU.out _ ?_).mono ?_;(simp[*]);rintro e w5 ⟨rfl,g5⟩));have gA:wr.grownBy w5 none:=Ah (Am (Ac wr none)) g5;have hs5:=hsc.gbN gA;have ht5:=hr.tok.gb gA (by simp);have hr5:=hr.res.gb gA (by simp);have d1:=hs5.c1;have d0:=hs5.c0;have t0:=ht5.cell 0;have t1:=ht5.cell 1;have t2:=ht5.cell 2;have tf:=fun k=>ht5.frozen k;have r0:=hr5.cell 0;have r1:=hr5.cell 1;have r2:=hr5.cell 2;have rf:=fun k=>hr5.frozen k;have f1:=hs5.fr 1;have h5:=hr5.lt;simp only[List.getElem?_cons_zero,List.getElem?_cons_succ]at t0 t1 t2 r0 r1 r2;go_wp2;refine bodyPost_ret (Bn (t:=⟨4,i,x⟩) (r:=true) rfl _ (((hr5.set_other _ _ (by simp)).set_other _ _ (by simp;omega)).set3 _ _ _) rfl rfl) rfl ⟨?_,?_⟩
      ·have g:=AU (r:=some b) (Ah hr.g gA);exact (by repeat(first| (with_reducible exact Ac _ _)| (with_reducible assumption)| (with_reducible exact AU (by assumption))| (with_reducible refine Ad ?_ _)| (with_reducible refine Am ?_)| (with_reducible refine A3 ?_ _)| ((with_reducible refine Ay ?_ _ _ ?h2);case h2=>first|exact .inl rfl|exact .inr (Nat.le_refl _)|exact .inr (by simp<;>omega))| (with_reducible refine Ah ?_ (by assumption))| (with_reducible refine Aa ?_ (by assumption))))
      ·unfold F3;rw[HM.out];exact⟨rfl,(by repeat(first| (with_reducible assumption)| (with_reducible apply Sc.alloc)| (with_reducible apply Sc.drew)| (with_reducible apply Sc.drewN)| (with_reducible apply Sc.setLine)| (with_reducible apply Sc.setBegun)| (with_reducible apply Sc.setBad)| (with_reducible apply Sc.go)| (with_reducible apply Sc.set_other)|omega| (simp<;>omega)))⟩
theorem Io{s:Bs}{j e:Nat}(h:j<e)(he:e≤s.length):A9 s j e=bAt s j::A9 s (j+1) e:=by
 unfold A9;rw[Fa (by omega),show e-j=(e-(j+1))+1 by omega,List.take_succ_cons]
theorem Ip(s:Bs)(j:Nat):A9 s j j=[]:=by simp[A9]
theorem N4(s:Bs)(c:UInt8)(j:Nat)(hj:j≤s.length):Lib.indexByte (A9 s j (An s j)) c=
 if Ao s (fun b=>b !=10&&b !=c) j<s.length∧bAt s (Ao s (fun b=>b !=10&&b !=c) j)≠10 then((Ao s (fun b=>b !=10&&b !=c) j-j:Nat):Int)else -1:=by
 induction hn:s.length-j generalizing j with
 | zero=>
   have e:j=s.length:=by omega
   have h1:An s j=j:=CC (by omega);rw[h1,Ip,CC (by omega),if_neg (by omega)];rfl
 | succ n ih=>
   have hk:j<s.length:=by omega
   have hle:An s (j+1)≤s.length:=BV (by omega);have hge:j+1≤An s (j+1):=Bz _ _ _;by_cases h10:bAt s j=10
   ·have h1:An s j=j:=Cz hk (by simp[h10]);rw[h1,Ip,Cz hk (by simp[h10]),if_neg (by simp[h10])];rfl
   ·have h1:An s j=An s (j+1):=BO hk (by simpa using h10);rw[h1,Io (by omega) hle,Lib.indexByte];cases hb:(bAt s j==c)with
    | true=>
      rw[Cz hk (by simp;intro _;simpa using hb)];simp[hk,h10]
    | false=>
      rw[BO hk (by simp at hb;simp[h10,hb]),ih (j+1) (by omega) (by omega)];have h2:=Bz s (fun b=>b !=10&&b !=c) (j+1);simp only[Bool.false_eq_true,if_false];by_cases h3:Ao s (fun b=>b !=10&&b !=c) (j+1)<s.length∧bAt s (Ao s (fun b=>b !=10&&b !=c) (j+1))≠10
      ·simp only[if_pos h3];rw[if_neg (by simp;try omega)];omega
      ·simp[h3]
def Bq(s:Bs)(i:Nat):Nat:=Ao s (fun b=>b !=10&&b !=bAt s i) (i+1)
def EN(t:Bs):Nat:=Ao t (fun b=>!cls 4 b) 0
theorem NS{s:Bs}{i:Nat}(h:¬(Bq s i<s.length∧bAt s (Bq s i)≠10)):Db s i= .bad i:=if_neg h
theorem Nd{s:Bs}{i:Nat}(h:Bq s i<s.length∧bAt s (Bq s i)≠10)(hb:EN (A9 s (i+1) (Bq s i))<Bq s i-(i+1)):Db s i= .bad (i+1+EN (A9 s (i+1) (Bq s i))):=
 (if_pos h).trans (if_pos hb)
theorem NT{s:Bs}{i:Nat}(h:Bq s i<s.length∧bAt s (Bq s i)≠10)(hb:¬EN (A9 s (i+1) (Bq s i))<Bq s i-(i+1)):Db s i= .tok ⟨2,i,A9 s (i+1) (Bq s i)⟩ (Bq s i+1) true:=
 (if_pos h).trans (if_neg hb)
theorem P9(s:Bs)(i:Nat):Bq s i≤An s (i+1):=IE (by intro b hb;simp at hb ⊢;exact hb.1) _
theorem QH(c:UInt8):((c.toNat:Int)).toNat.toUInt8=c:=by simp
theorem H6(s:Bs)(i j:Nat)(c:UInt8){z:Int}(hz:Lib.indexByte (A9 s i j) c=z)(w:World):
 Calls Tryz.prog 237 #[.string ((⟨s.toArray⟩:ByteArray).extract i j),.int .u8 c.toNat] w fun e w'=>e= .returned (.int .i64 z)∧w'=w:=by
 subst hz;refine(strings_IndexByte _ _ _).mono ?_;rintro e w' ⟨rfl,rfl⟩;rw[CY,QH];exact⟨rfl,rfl⟩
structure TextRel(w:World)(b:Nat)(s:Bs)(i:Nat)(t:Bs)(k:Nat)(wr:World):Prop where
 sc:Sc wr b s i true true (-1)
 tok:Blk wr w.heap.size [.int .i64 2,.int .i64 i,str t] 105
 res:Blk wr (w.heap.size+1) [.int .i64 0,.int .i64 0,str []] 105
 no:EN t=Ao t (fun b=>!cls 4 b) k
 g:w.grownBy wr none
theorem TextRel.go{w:World}{b:Nat}{s:Bs}{i:Nat}{t:Bs}{k:Nat}{wr w1:World}(h:TextRel w b s i t k wr)(hk:k<t.length)(hx:cls 4 (bAt t k)=false)(g:wr.grownBy w1 none):TextRel w b s i t (k+1) w1:=
 ⟨h.sc.gbN g,h.tok.gb g (by simp),h.res.gb g (by simp),by rw[h.no];exact BO hk (by simp[hx]),Ah h.g g⟩
theorem QF{w:World}{b:Nat}{s:Bs}{i:Nat}(h:Sc w b s i true true (-1))(hi:i<s.length)(hq:bAt s i≠10):
 Calls Tryz.prog 199 #[.pointer (some ⟨b,0,none⟩),AY ⟨0,i,[]⟩] w (TokPost w b s (Db s i)):=by
 have hb:=h.lt;have hf:=h.few;have c0:=h.c0;have c1:=h.c1;have hz:=N4 s (bAt s i) (i+1) (by omega);have hline:An s i=An s (i+1):=BO hi (by simpa using hq);have hle:An s i≤s.length:=BV (by omega);have hge:i+1≤An s i:=by rw[hline];exact Bz _ _ _
 have hgQ:i+1≤Bq s i:=Bz _ _ _;rw[←hline]at hz;have hg:=fun h=>Cr s i h hi;change _=if Bq s i<s.length∧bAt s (Bq s i)≠10 then((Bq s i-(i+1):Nat):Int)else -1 at hz;have HE:=O hline;clear hline;by_cases hq2:Bq s i<s.length∧bAt s (Bq s i)≠10
 ·rw[if_pos hq2]at hz;have hQl:=P9 s i;rw[←HE.out]at hQl;have hQs:=hq2.1;have hO:=O (NT hq2);have hB:=O (Nd hq2);have hTl:(A9 s (i+1) (Bq s i)).length=Bq s i-(i+1):=Dv hgQ (by omega);have hl:=FL (h.alloc (.cells #[.int .i64 0,.int .i64 i,str []] 105 (0,0))|>.alloc (.cells #[.int .i64 0,.int .i64 0,str []] 105 (0,0))) i (by omega);obtain⟨d,hd⟩:∃d,Bq s i=i+1+d:=⟨Bq s i-(i+1),by omega⟩;rw[hd]at hO hB hTl hQl hz hQs;rw[show i+1+d-(i+1)=d by omega]at hO hB hTl hz;clear hd hq2 hgQ;generalize An s i=e at*;have HI:=O (H6 s (i+1) e (bAt s i) hz);have HL:=O hl;clear hz hl;generalize bAt s i=q at*;have hx:({data:=s.toArray}:ByteArray).extract (i+1) (i+1+d)=⟨(A9 s (i+1) (i+1+d)).toArray⟩:=CY _ _ _;have HX:=O hx;clear hx;have HT:=O hTl;have he2:decide ((i:Int)+1+d≤s.length)=true:=by simp;omega
  go_enter func199,ntmps199;go_wp2_with fail;refine HL.out.mono ?_;rintro e w1 ⟨rfl,rfl⟩;go_wp2_with fail;go_quiet((go_at_call 237;exact Calls.quiet_of_same (HI.out _)));go_wp2_with fail;go_region;rw[HX.out];generalize hts:A9 s (i+1) (i+1+d)=t at*;have HS:=O hts;clear hts hTl;have g0:w.grownBy ((w.alloc (.cells #[.int .i64 0,.int .i64 i,str []] 105 (0,0))).alloc (.cells #[.int .i64 0,.int .i64 0,str []] 105 (0,0))) none:=Ad (World.grownBy_alloc w _ none) _;have hA:TextRel w b s i t 0 (((((w.alloc (.cells #[.int .i64 0,.int .i64 i,str []] 105 (0,0))).alloc (.cells #[.int .i64 0,.int .i64 0,str []] 105 (0,0))).drewN (nq+1)).setCell ⟨w.heap.size,0,none⟩ (.int .i64 2)).setCell ⟨w.heap.size,2,none⟩ (str t)):=
   ⟨(by repeat(first| (with_reducible assumption)| (with_reducible apply Sc.alloc)| (with_reducible apply Sc.drew)| (with_reducible apply Sc.drewN)| (with_reducible apply Sc.setLine)| (with_reducible apply Sc.setBegun)| (with_reducible apply Sc.setBad)| (with_reducible apply Sc.go)| (with_reducible apply Sc.set_other)|omega| (simp<;>omega))),(((((Blk.new w [.int .i64 0,.int .i64 i,str []] 105).alloc _).drewN _).set 0 _).set 2 _).of_eq rfl rfl,(((((Blk.new (w.alloc _) [.int .i64 0,.int .i64 0,str []] 105).of_eq (by simp) rfl).drewN _).set_other _ _ (by simp)).set_other _ _ (by simp)),rfl,
    Ay (Ay (A3 g0 _) _ _ (.inr (Nat.le_refl _))) _ _ (.inr (Nat.le_refl _))⟩
  have t0:=hA.tok.cell 2;simp only[List.getElem?_cons_zero,List.getElem?_cons_succ]at t0;generalize(((((w.alloc (.cells #[.int .i64 0,.int .i64 i,str []] 105 (0,0))).alloc (.cells #[.int .i64 0,.int .i64 0,str []] 105 (0,0))).drewN (nq+1)).setCell ⟨w.heap.size,0,none⟩ (.int .i64 2)).setCell ⟨w.heap.size,2,none⟩ (str t))=W at*;have HA:=O hA;clear hA g0 h c0 c1 hg;have hTl2:t.length≤4000:=by rw[HT.out];omega
  go_wp2_with fail;go_loopg [8,68] t.length (fun g v8 v68 wr=>∃k:Nat,k+g=t.length∧v68= .int .i64 k∧TextRel w b s i t k wr)
  case atStart=>exact⟨0,by omega,rfl,HA.out⟩
  case round=>
   obtain⟨k,hk,rfl,hr⟩:=hrel;have hsc:=hr.sc;have d0:=hsc.c0;have d1:=hsc.c1;have hb1:=hsc.lt;have gwx:=hr.g.size;have hrl:=hr.res.lt;have u0:=hr.tok.cell 0;have u1:=hr.tok.cell 1;have u2:=hr.tok.cell 2;have r0:=hr.res.cell 0;have r1:=hr.res.cell 1;have r2:=hr.res.cell 2;have rf:=fun k=>hr.res.frozen k;simp only[List.getElem?_cons_zero,List.getElem?_cons_succ]at u0 u1 u2 r0 r1 r2;cases gk with
   | zero=>
     have hkt:k=t.length:=by omega
     have HQ:=O (hO.out (by rw[hr.no,CC (by omega),HT.out]at*;omega));have f1:=hsc.fr 1;have hlt:decide (k<t.length)=false:=by simp;omega
     clear hk hkt;go_wp2;refine bodyPost_ret (Bn (t:=⟨2,i,t⟩) (r:=true) rfl _ ((hr.res.set_other _ _ (by simp;omega)).set3 _ _ _) rfl rfl) rfl ⟨?_,?_⟩
     ·have g:=AU (r:=some b) hr.g;exact (by repeat(first| (with_reducible exact Ac _ _)| (with_reducible assumption)| (with_reducible exact AU (by assumption))| (with_reducible refine Ad ?_ _)| (with_reducible refine Am ?_)| (with_reducible refine A3 ?_ _)| ((with_reducible refine Ay ?_ _ _ ?h2);case h2=>first|exact .inl rfl|exact .inr (Nat.le_refl _)|exact .inr (by simp<;>omega))| (with_reducible refine Ah ?_ (by assumption))| (with_reducible refine Aa ?_ (by assumption))))
     ·rw[HQ.out];exact⟨rfl,(by repeat(first| (with_reducible assumption)| (with_reducible apply Sc.alloc)| (with_reducible apply Sc.drew)| (with_reducible apply Sc.drewN)| (with_reducible apply Sc.setLine)| (with_reducible apply Sc.setBegun)| (with_reducible apply Sc.setBad)| (with_reducible apply Sc.go)| (with_reducible apply Sc.set_other)|omega| (simp<;>omega)))⟩
   | succ gk=>
     have hkl:k<t.length:=by omega
     have hlt:decide (k<t.length)=true:=by simp;omega
     have hcl:=hsc.cls (bAt t k);have hgt:=fun h=>Cr t k h hkl;have hx:=J9 (bAt t k);cases hc:cls 4 (bAt t k)with
     | true=>
       have HC:=O hc;have hbi:EN t=k:=by rw[hr.no];exact Cz hkl (by rw[hc];rfl)
       have HQ:=O (hB.out (by rw[hbi];have:=HT.out;omega));have HK:=O hbi;have f260:=hsc.fr 260;have c260:=hsc.c260;clear hbi hk;change(BA (bAt t k).toNat==4)=true at hc;generalize bAt t k=x at*;go_wp2_with fail;go_quiet(fail);go_wp2;refine bodyPost_ret (Bn (t:=⟨2,i,t⟩) (r:=false) rfl _ (((hr.res.drewN _).set_other _ _ (by simp;omega)).set3 _ _ _) rfl rfl) rfl ⟨?_,?_⟩
       ·have g:=AU (r:=some b) hr.g;exact (by repeat(first| (with_reducible exact Ac _ _)| (with_reducible assumption)| (with_reducible exact AU (by assumption))| (with_reducible refine Ad ?_ _)| (with_reducible refine Am ?_)| (with_reducible refine A3 ?_ _)| ((with_reducible refine Ay ?_ _ _ ?h2);case h2=>first|exact .inl rfl|exact .inr (Nat.le_refl _)|exact .inr (by simp<;>omega))| (with_reducible refine Ah ?_ (by assumption))| (with_reducible refine Aa ?_ (by assumption))))
       ·rw[HQ.out,HK.out];exact⟨⟨_,rfl⟩,i,true,by push_cast;exact(by repeat(first| (with_reducible assumption)| (with_reducible apply Sc.alloc)| (with_reducible apply Sc.drew)| (with_reducible apply Sc.drewN)| (with_reducible apply Sc.setLine)| (with_reducible apply Sc.setBegun)| (with_reducible apply Sc.setBad)| (with_reducible apply Sc.go)| (with_reducible apply Sc.set_other)|omega| (simp<;>omega)))⟩
     | false=>
       have HR:=O (fun w1 g=>hr.go hkl (w1:=w1) hc g);change(BA (bAt t k).toNat==4)=false at hc;generalize bAt t k=x at*;go_wp2_with fail;go_quiet(fail);go_wp2;go_roundg gk
       case measure=>omega
       case rel=>exact⟨k+1,by omega,by simp,HR.out _ (A3 (Ac wr none) _)⟩
 ·rw[if_neg hq2]at hz;have HQ:=O (NS hq2);have hl:=FL (h.alloc (.cells #[.int .i64 0,.int .i64 i,str []] 105 (0,0))|>.alloc (.cells #[.int .i64 0,.int .i64 0,str []] 105 (0,0))) i (by omega);generalize An s i=e at*;have HI:=O (H6 s (i+1) e (bAt s i) hz);have HL:=O hl;clear hz hl;generalize bAt s i=q at*;have f260:=h.fr 260;have c260:=h.c260;go_enter func199,ntmps199;go_wp2_with fail;refine HL.out.mono ?_;rintro e w1 ⟨rfl,rfl⟩;go_wp2_with fail;go_quiet((go_at_call 237;exact Calls.quiet_of_same (HI.out _)));go_wp2;refine bodyPost_ret (Bn (t:=⟨0,i,[]⟩) (r:=false) rfl _ (((((Blk.new (w.alloc _) [.int .i64 0,.int .i64 0,str []] 105).of_eq (by simp) rfl).drewN nq).set_other _ _ (by simp;omega)).set3 _ _ _) rfl rfl) rfl ⟨(by repeat(first| (with_reducible exact Ac _ _)| (with_reducible assumption)| (with_reducible exact AU (by assumption))| (with_reducible refine Ad ?_ _)| (with_reducible refine Am ?_)| (with_reducible refine A3 ?_ _)| ((with_reducible refine Ay ?_ _ _ ?h2);case h2=>first|exact .inl rfl|exact .inr (Nat.le_refl _)|exact .inr (by simp<;>omega))| (with_reducible refine Ah ?_ (by assumption))| (with_reducible refine Aa ?_ (by assumption)))),?_⟩;rw[HQ.out];exact⟨⟨_,rfl⟩,i,true,(by repeat(first| (with_reducible assumption)| (with_reducible apply Sc.alloc)| (with_reducible apply Sc.drew)| (with_reducible apply Sc.drewN)| (with_reducible apply Sc.setLine)| (with_reducible apply Sc.setBegun)| (with_reducible apply Sc.setBad)| (with_reducible apply Sc.go)| (with_reducible apply Sc.set_other)|omega| (simp<;>omega)))⟩
def EB(w:World)(t:Bs)(e:Ending)(w':World):Prop:=w.grownBy w' none∧match BD t with
 |some (d,n)=>e= .returned (.tuple #[str d,.int .i64 n,.bool true])
 |none=>∃d n,e= .returned (.tuple #[str d,.int .i64 n,.bool false])
section
variable {w w':World}{t d:Bs}{n:Nat}{m:Int}
theorem Ha(h:BD t=some (d,n))(g:w.grownBy w' none)(hm:m=n):EB w t (.returned (.tuple #[str d,.int .i64 m,.bool true])) w':=by
 subst hm;unfold EB;rw[h];exact⟨g,rfl⟩
theorem DF(h:BD t=none)(g:w.grownBy w' none):EB w t (.returned (.tuple #[str d,.int .i64 m,.bool false])) w':=by
 unfold EB;rw[h];exact⟨g,d,m,rfl⟩
end
theorem Kt{t:Bs}(h:[123,125].isPrefixOf t=true):BD t=some ([],2):=if_pos h
theorem Ey{t:Bs}(h:[123,125].isPrefixOf t=false)(hf:CU t=false):BD t=none:=by
 unfold BD;rw[if_neg (by rw[h];simp),if_neg (by rw[hf];simp)]
theorem NZ{t:Bs}(h:[123,125].isPrefixOf t=false)(hf:CU t=true)(h1:(Bj (CJ t)).2=true)(h2:CJ t≠CT):BD t=some (CJ t,13):=by
 unfold BD;rw[if_neg (by rw[h];simp),if_pos hf,if_pos (by simp[h1,h2])]
theorem IX{t:Bs}(h:[123,125].isPrefixOf t=false)(hf:CU t=true)(h1:(Bj (CJ t)).2=false∨CJ t=CT):BD t=none:=by
 unfold BD;rw[if_neg (by rw[h];simp),if_pos hf,if_neg (by rcases h1 with h1|h1<;>simp[h1])]
theorem DC(t p:Bs){r:Bool}(hr:p.isPrefixOf t=r)(w:World):
 Calls Tryz.prog 154 #[.string ⟨t.toArray⟩,.string ⟨p.toArray⟩] w fun e w'=>e= .returned (.bool r)∧w=w':=by
 subst hr;refine(strings_HasPrefix _ _ _).mono ?_;rintro e w' ⟨rfl,rfl⟩;exact⟨rfl,rfl⟩
theorem QG{t:Bs}(h:13≤t.length):∃a0 a1 a2 a3 a4 a5 a6 a7 a8 a9 a10 a11 a12 r,t=a0::a1::a2::a3::a4::a5::a6::a7::a8::a9::a10::a11::a12::r:=by
 match t,h with
 |a0::a1::a2::a3::a4::a5::a6::a7::a8::a9::a10::a11::a12::r,_=>exact⟨_,_,_,_,_,_,_,_,_,_,_,_,_,_,rfl⟩
theorem F6{a:UInt8}{r:Bool}(h:((a.toNat:Int) !=45)=r):(a==45)= !r:=by
 subst h;by_cases e:a=45
 ·subst e;rfl
 ·have h1:a.toNat≠45:=fun h=>e (UInt8.toNat_inj.1 h);have h2:((a.toNat:Int)==45)=false:=by simp;omega
  have h3:(a==45)=false:=by simpa using e
  simp[bne,h2,h3]
theorem JI{a:UInt8}{r:Bool}(h:((a.toNat:Int) !=125)=r):(a==125)= !r:=by
 subst h;by_cases e:a=125
 ·subst e;rfl
 ·have h1:a.toNat≠125:=fun h=>e (UInt8.toNat_inj.1 h);have h2:((a.toNat:Int)==125)=false:=by simp;omega
  have h3:(a==125)=false:=by simpa using e
  simp[bne,h2,h3]
theorem PT{w:World}{b:Nat}{s:Bs}{i:Nat}{line begun:Bool}{bad:Int}(h:Sc w b s i line begun bad):
 Calls Tryz.prog 200 #[.pointer (some ⟨b,0,none⟩)] w (EB w (s.drop i)):=by
 have hb:=h.lt;have hf:=h.few;have hi:=h.le;have c0:=h.c0;have c1:=h.c1;have hx:=Fy s i;have HX:=O hx;have hle:decide ((i:Int)≤s.length)=true:=by simp;omega
 have htl:(s.drop i).length≤4000:=by simp;omega
 clear hx h;generalize hts:s.drop i=t at*;clear hts;cases hp:[123,125].isPrefixOf t with
 | true=>
   have HM:=O (Kt hp);go_enter func200,ntmps200;go_wp2_with fail;go_quiet(fail);rw[HX.out];go_wp2_with fail;refine(DC t [123,125] hp _).mono ?_;rintro e w1 ⟨rfl,rfl⟩;go_wp2;exact bodyPost_ret (v:= .tuple #[str [],.int .i64 2,.bool true]) (by simp[results,results200,go_sem]) rfl (Ha HM.out (by repeat(first| (with_reducible exact Ac _ _)| (with_reducible assumption)| (with_reducible exact AU (by assumption))| (with_reducible refine Ad ?_ _)| (with_reducible refine Am ?_)| (with_reducible refine A3 ?_ _)| ((with_reducible refine Ay ?_ _ _ ?h2);case h2=>first|exact .inl rfl|exact .inr (Nat.le_refl _)|exact .inr (by simp<;>omega))| (with_reducible refine Ah ?_ (by assumption))| (with_reducible refine Aa ?_ (by assumption)))) rfl)
 | false=>
   by_cases h13:13≤t.length
   ·obtain⟨a0,a1,a2,a3,a4,a5,a6,a7,a8,a9,a10,a11,a12,r,ht⟩:=QG h13;have hx1:(⟨t.toArray⟩:ByteArray).extract 0 2=⟨[a0,a1].toArray⟩:=by rw[CY,ht];rfl
    have hx2:(⟨t.toArray⟩:ByteArray).extract 2 6=⟨[a2,a3,a4,a5].toArray⟩:=by rw[CY,ht];rfl
    have hx3:(⟨t.toArray⟩:ByteArray).extract 7 9=⟨[a7,a8].toArray⟩:=by rw[CY,ht];rfl
    have hx4:(⟨t.toArray⟩:ByteArray).extract 10 12=⟨[a10,a11].toArray⟩:=by rw[CY,ht];rfl
    have hg6:∀h,(⟨t.toArray⟩:ByteArray)[6]'h=a6:=by subst ht;intro h;rfl
    have hg9:∀h,(⟨t.toArray⟩:ByteArray)[9]'h=a9:=by subst ht;intro h;rfl
    have hg12:∀h,(⟨t.toArray⟩:ByteArray)[12]'h=a12:=by subst ht;intro h;rfl
    have hform:CU t=(([a0,a1]==[123,94])&&a6==45&&a9==45&&a12==125):=by rw[ht];simp[CU,bAt]
    have hdig:CJ t=[a2,a3,a4,a5,a7,a8,a10,a11]:=by rw[ht];rfl
    have hl:decide ((t.length:Int)<13)=false:=by simp;omega
    generalize [a0,a1]=p at*;have HF:=O (Z hform hdig);clear hform hdig ht;cases e1:(p==[123,94])with
    | false=>
      have HM:=O (Ey hp (by rw[HF.out.1,e1];rfl));go_enter func200,ntmps200;go_wp2_with fail;go_quiet(fail);rw[HX.out];go_wp2_with fail;refine(DC t [123,125] hp _).mono ?_;rintro e w1 ⟨rfl,rfl⟩;go_wp2;exact bodyPost_ret (v:= .tuple #[str [],.int .i64 0,.bool false]) (by simp[results,results200,go_sem]) rfl (DF HM.out (by repeat(first| (with_reducible exact Ac _ _)| (with_reducible assumption)| (with_reducible exact AU (by assumption))| (with_reducible refine Ad ?_ _)| (with_reducible refine Am ?_)| (with_reducible refine A3 ?_ _)| ((with_reducible refine Ay ?_ _ _ ?h2);case h2=>first|exact .inl rfl|exact .inr (Nat.le_refl _)|exact .inr (by simp<;>omega))| (with_reducible refine Ah ?_ (by assumption))| (with_reducible refine Aa ?_ (by assumption)))))
    | true=>
      cases e6:((a6.toNat:Int) !=45)with
      | true=>
        have HM:=O (Ey hp (by rw[HF.out.1,F6 e6];simp));go_enter func200,ntmps200;go_wp2_with fail;go_quiet(fail);rw[HX.out];go_wp2_with fail;refine(DC t [123,125] hp _).mono ?_;rintro e w1 ⟨rfl,rfl⟩;go_wp2;exact bodyPost_ret (v:= .tuple #[str [],.int .i64 0,.bool false]) (by simp[results,results200,go_sem]) rfl (DF HM.out (by repeat(first| (with_reducible exact Ac _ _)| (with_reducible assumption)| (with_reducible exact AU (by assumption))| (with_reducible refine Ad ?_ _)| (with_reducible refine Am ?_)| (with_reducible refine A3 ?_ _)| ((with_reducible refine Ay ?_ _ _ ?h2);case h2=>first|exact .inl rfl|exact .inr (Nat.le_refl _)|exact .inr (by simp<;>omega))| (with_reducible refine Ah ?_ (by assumption))| (with_reducible refine Aa ?_ (by assumption)))))
      | false=>
        cases e9:((a9.toNat:Int) !=45)with
        | true=>
          have HM:=O (Ey hp (by rw[HF.out.1,F6 e9];simp));go_enter func200,ntmps200;go_wp2_with fail;go_quiet(fail);rw[HX.out];go_wp2_with fail;refine(DC t [123,125] hp _).mono ?_;rintro e w1 ⟨rfl,rfl⟩;go_wp2;exact bodyPost_ret (v:= .tuple #[str [],.int .i64 0,.bool false]) (by simp[results,results200,go_sem]) rfl (DF HM.out (by repeat(first| (with_reducible exact Ac _ _)| (with_reducible assumption)| (with_reducible exact AU (by assumption))| (with_reducible refine Ad ?_ _)| (with_reducible refine Am ?_)| (with_reducible refine A3 ?_ _)| ((with_reducible refine Ay ?_ _ _ ?h2);case h2=>first|exact .inl rfl|exact .inr (Nat.le_refl _)|exact .inr (by simp<;>omega))| (with_reducible refine Ah ?_ (by assumption))| (with_reducible refine Aa ?_ (by assumption)))))
        | false=>
          cases e12:((a12.toNat:Int) !=125)with
          | true=>
            have HM:=O (Ey hp (by rw[HF.out.1,JI e12];simp));go_enter func200,ntmps200;go_wp2_with fail;go_quiet(fail);rw[HX.out];go_wp2_with fail;refine(DC t [123,125] hp _).mono ?_;rintro e w1 ⟨rfl,rfl⟩;go_wp2;exact bodyPost_ret (v:= .tuple #[str [],.int .i64 0,.bool false]) (by simp[results,results200,go_sem]) rfl (DF HM.out (by repeat(first| (with_reducible exact Ac _ _)| (with_reducible assumption)| (with_reducible exact AU (by assumption))| (with_reducible refine Ad ?_ _)| (with_reducible refine Am ?_)| (with_reducible refine A3 ?_ _)| ((with_reducible refine Ay ?_ _ _ ?h2);case h2=>first|exact .inl rfl|exact .inr (Nat.le_refl _)|exact .inr (by simp<;>omega))| (with_reducible refine Ah ?_ (by assumption))| (with_reducible refine Aa ?_ (by assumption)))))
          | false=>
            have hfo:CU t=true:=by rw[HF.out.1,e1,F6 e6,F6 e9,JI e12];rfl
            have hdi:=HF.out.2;have HH:=O (Z hfo hdi);clear hfo hdi HF;go_enter func200,ntmps200;go_wp2_with fail;go_quiet(fail);rw[HX.out];go_wp2_with fail;refine(DC t [123,125] hp _).mono ?_;rintro e w1 ⟨rfl,rfl⟩;go_wp2_with fail;go_quiet(fail);have hcat:(({data:=#[a2,a3,a4,a5]}:ByteArray)++{data:=#[a7,a8]}++{data:=#[a10,a11]})=⟨[a2,a3,a4,a5,a7,a8,a10,a11].toArray⟩:=rfl;rw[hcat];have hul:=Iq [a2,a3,a4,a5,a7,a8,a10,a11] (by simp);clear hcat hx2 hx3 hx4;generalize [a2,a3,a4,a5,a7,a8,a10,a11]=D at*;have HU:=O hul;clear hul;go_wp2_with fail;refine(HU.out _).mono ?_;rintro e w1 ⟨rfl,g1⟩;cases hok:(Bj D).2 with
            | false=>
              have HM:=O (IX hp HH.out.1 (.inl (by rw[HH.out.2,hok])));generalize(Bj D).1=v at*;go_wp2;exact bodyPost_ret (v:= .tuple #[str D,.int .i64 13,.bool false]) (by simp[results,results200,go_sem]) rfl (DF HM.out (Ah (A3 (Ac _ _) _) g1))
            | true=>
              cases hbl:(D==CT)with
              | true=>
                have HM:=O (IX hp HH.out.1 (.inr (by rw[HH.out.2];simpa using hbl)));change(D==[32,32,32,32,32,32,32,32])=true at hbl;generalize(Bj D).1=v at*;go_wp2;exact bodyPost_ret (v:= .tuple #[str D,.int .i64 13,.bool false]) (by simp[results,results200,go_sem]) rfl (DF HM.out (Ah (A3 (Ac _ _) _) g1))
              | false=>
                have HM:=O (NZ hp HH.out.1 (by rw[HH.out.2,hok]) (by rw[HH.out.2];simpa using hbl));have HD:=O HH.out.2;change(D==[32,32,32,32,32,32,32,32])=false at hbl;generalize(Bj D).1=v at*;go_wp2;exact bodyPost_ret (v:= .tuple #[str D,.int .i64 13,.bool true]) (by simp[results,results200,go_sem]) rfl (Ha (HD.out ▸ HM.out) (Ah (A3 (Ac _ _) _) g1) rfl)
   ·have HM:=O (Ey hp (by simp[CU,h13]));have hl:decide ((t.length:Int)<13)=true:=by simp;omega
    go_enter func200,ntmps200;go_wp2_with fail;go_quiet(fail);rw[HX.out];go_wp2_with fail;refine(DC t [123,125] hp _).mono ?_;rintro e w1 ⟨rfl,rfl⟩;go_wp2;exact bodyPost_ret (v:= .tuple #[str [],.int .i64 0,.bool false]) (by simp[results,results200,go_sem]) rfl (DF HM.out (by repeat(first| (with_reducible exact Ac _ _)| (with_reducible assumption)| (with_reducible exact AU (by assumption))| (with_reducible refine Ad ?_ _)| (with_reducible refine Am ?_)| (with_reducible refine A3 ?_ _)| ((with_reducible refine Ay ?_ _ _ ?h2);case h2=>first|exact .inl rfl|exact .inr (Nat.le_refl _)|exact .inr (by simp<;>omega))| (with_reducible refine Ah ?_ (by assumption))| (with_reducible refine Aa ?_ (by assumption)))))
end Go.Proofs.YtgjdhajcnechdaaGreatDoor
