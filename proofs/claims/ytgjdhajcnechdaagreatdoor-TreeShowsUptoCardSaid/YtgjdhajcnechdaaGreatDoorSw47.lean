/-
  The reference's Names. The reference's Shown, ExprText. isTwice at a program of one procedure. tree.Parse at 'if = 1'; what tree.ParseExpr and tree.Parse give at the two texts of 'known'. overExpr: it
-/
import Derived.Test.YtgjdhajcnechdaaGreatDoorSw45
import Derived.Test.YtgjdhajcnechdaaGreatDoorSw41
import Derived.Test.YtgjdhajcnechdaaGreatDoorSw27
import Derived.Test.YtgjdhajcnechdaaGreatDoorSw36
import Derived.Maps.Own
import Derived.Test.YtgjdhajcnechdaaGreatDoorSw33
import Derived.Test.YtgjdhajcnechdaaGreatDoorRows
import Derived.Test.YtgjdhajcnechdaaGreatDoorSw10
import Derived.Test.YtgjdhajcnechdaaGreatDoorSw25
set_option linter.all false
set_option maxRecDepth 100000
set_option maxHeartbeats 8000000
namespace Go.Proofs.YtgjdhajcnechdaaGreatDoor
open Go.Proofs.Tryz
open Go.RowKit Go.Sort Go.Lib
def CT(x:Ex):List Bs:=if AL x=0 then Lib.compact (CF (DG x))else []
theorem Rb(x:Ex):(DG x).length≤1+x.kids.nodes:=GM _ _ _
theorem MX{w:World}{v:Value}{x:Ex}{ok:Nat→Prop}(hx:VE ok w v x)(h1:x.h.fit)(h2:x.kids.fit)(hn:x.kids.nodes≤1000000)(hf:x.few):
 Calls Tryz.prog 17 #[v] w fun e w'=>∃u,e= .returned (.tuple #[u,.int .i64 (AL x)])∧Cells w' u 1 (CT x).length ((CT x).map str) (A8 w.heap.size)∧w.grownBy w' none:=by
 have HV:=O (fun(W:World)(g:w.grownBy W none)=>FX (hx.gb g (by simp)) h1 h2 hn hf);have HX:=O hx;obtain⟨pa,pc,la,lc,rfl,_,_⟩:=hx;have hB:=Blk.new w (hdC x.h (.slice pa x.h.p.length pc) (.slice la x.kids.len lc)) 27;have hB1:=hB;obtain⟨x_0,x_1,x_2,x_3,x_4,x_5,x_6,x_f⟩:=(hB1).c7;have HB:=O hB;clear hB1 hB;by_cases hv:AL x=0
 ·have HM:=O (show CT x=Lib.compact (CF (DG x))from if_pos hv);have HT:=O (fun(W:World)(g:w.grownBy W none)=>Ln (HX.out.gb g (by simp)) hn (by have:=hf.1;omega));have hnl:=Rb x;have HN:=O (show(DG x).length≤1000001 by omega);rw[HM.out];rw[hv]at HV ⊢;clear hv h1 h2 hn HM hf hnl;generalize DG x=L at*;generalize hcz:Lib.compact (CF L)=cz;have HCZ:=O hcz;clear hcz;go_enter func17,ntmps17;go_wp2_with fail;refine(HV.out _ ?gg).mono ?_
  case gg=>exact (by repeat(first| (with_reducible exact Ac _ _)| (with_reducible assumption)| (with_reducible exact AX (by assumption))| (with_reducible refine Ad ?_ _)| (with_reducible refine Am ?_)| (with_reducible refine Ay ?_ _)| ((with_reducible refine Az ?_ _ _ ?h2);case h2=>first|exact .inl rfl|exact .inr (Nat.le_refl _)|exact .inr (by simp<;>omega))| (with_reducible refine Ag ?_ (by assumption))| (with_reducible refine Aa ?_ (by assumption))))
  rintro e w1 ⟨rfl,g1⟩;have hb1:=HB.out.gb g1 (by simp);have HG:=O (Aa (World.grownBy_alloc w (.cells (hdC x.h (.slice pa x.h.p.length pc) (.slice la x.kids.len lc)).toArray 27 (0,0)) none) g1);clear x_0 x_1 x_2 x_3 x_4 x_5 x_6 x_f g1;obtain⟨y_0,y_1,y_2,y_3,y_4,y_5,y_6,y_f⟩:=(hb1).c7;clear hb1;go_wp2_with fail;refine(HT.out _ HG.out).mono ?_;rintro e w2 ⟨u,rfl,hu,g2⟩;have hset:=SJ hu HN.out;rw[HCZ.out]at hset;have HS:=O hset;clear hset;have HG2:=O (Z (Aa HG.out g2) hu);obtain⟨ua,uc,rfl,_⟩:=AU hu;clear g2 hu y_0 y_1 y_2 y_3 y_4 y_5 y_6 y_f;go_wp2_with fail;refine HS.out.mono ?_;rintro e w3 ⟨v',rfl,h3,g3⟩;have HG3:=O (Z h3 (Dq HG2.out.2 HG2.out.1 g3 HG.out.size));have hsz:=HG2.out.1.size;obtain⟨va,vc,rfl,_⟩:=AU h3;clear h3 g3;go_wp2;exact bodyPost_ret (v:= .tuple #[.slice va cz.length vc,.int .i64 0]) (by simp[results,results17,go_sem]) rfl ⟨_,rfl,(AU HG3.out.1).mono (fun q hq _=>by have:w2.heap.size≤q:=hq;show w.heap.size≤q;omega),HG3.out.2⟩
 ·have HM:=O (show CT x=[]from if_neg hv);rw[HM.out];have hvI:(AL x==0)=false:=by simpa using hv
  have hvI2:(AL x !=0)=true:=by simpa using hv
  clear hv HX h1 h2 hn HM hf;generalize AL x=vm at*;go_enter func17,ntmps17;go_wp2_with fail;refine(HV.out _ ?gg).mono ?_
  case gg=>exact (by repeat(first| (with_reducible exact Ac _ _)| (with_reducible assumption)| (with_reducible exact AX (by assumption))| (with_reducible refine Ad ?_ _)| (with_reducible refine Am ?_)| (with_reducible refine Ay ?_ _)| ((with_reducible refine Az ?_ _ _ ?h2);case h2=>first|exact .inl rfl|exact .inr (Nat.le_refl _)|exact .inr (by simp<;>omega))| (with_reducible refine Ag ?_ (by assumption))| (with_reducible refine Aa ?_ (by assumption))))
  rintro e w1 ⟨rfl,g1⟩;have HG:=O (Aa (World.grownBy_alloc w (.cells (hdC x.h (.slice pa x.h.p.length pc) (.slice la x.kids.len lc)).toArray 27 (0,0)) none) g1);clear x_0 x_1 x_2 x_3 x_4 x_5 x_6 x_f g1;go_wp2;exact bodyPost_ret (v:= .tuple #[.slice none 0 0,.int .i64 vm]) (by simp[results,results17,go_sem]) rfl ⟨_,rfl,Cells.nil _ _ _,HG.out⟩
theorem OO{w:World}{v:Value}{x:Ex}{ok:Nat→Prop}(hx:VE ok w v x)(h1:x.h.fit)(h2:x.kids.fit)(hf:x.few)(ho:okX x=true):
 Calls Tryz.prog 40 #[v] w fun e w'=>e= .returned (str (Cj wdM x))∧w.grownBy w' none:=by
 obtain⟨t,ht⟩:=RY wdM_ok.toDv ho;obtain⟨pa,pc,la,lc,rfl,hp,hl⟩:=hx;have hb0:=Blk.new w (hdC x.h (.slice pa x.h.p.length pc) (.slice la x.kids.len lc)) 27;have ga:=World.grownBy_alloc w (.cells (hdC x.h (.slice pa x.h.p.length pc) (.slice la x.kids.len lc)).toArray 27 (0,0)) none;have gv9:=World.grownBy_alloc (w.alloc (.cells (hdC x.h (.slice pa x.h.p.length pc) (.slice la x.kids.len lc)).toArray 27 (0,0))) (.cells #[str [],.slice none 0 0,.bool false] 81 (0,0)) none;have hW:Ww ((w.alloc (.cells (hdC x.h (.slice pa x.h.p.length pc) (.slice la x.kids.len lc)).toArray 27 (0,0))).alloc (.cells #[str [],.slice none 0 0,.bool false] 81 (0,0))) (w.heap.size+1) [] [] false (.slice none 0 0):=
  ⟨(Blk.new (w.alloc (.cells (hdC x.h (.slice pa x.h.p.length pc) (.slice la x.kids.len lc)).toArray 27 (0,0))) [str [],.slice none 0 0,.bool false] _).of_eq (by simp) rfl,World.ownsRow_nil _ _ _ _⟩
 have gg:=Aa ga gv9;have HW:=O (Jw hW ((hp.mono (ok':=fun q=>q<w.heap.size+1) (fun q _ hq=>by omega)).gb gg (by simp)) ((hl.mono (ok':=fun q=>q<w.heap.size+1) (fun q _ hq=>by omega)).gb gg (by simp)) h1 h2 (by have:=hf.1;simp only[List.length_nil];omega) (by have:=hf.2;simp only[List.length_nil];omega));have HG:=O (Z ht gg);obtain⟨x_0,x_1,x_2,x_3,x_4,x_5,x_6,x_f⟩:=(hb0).c7;clear hp hl hb0 ga gv9 hW gg ht hf;go_enter func40,ntmps40;go_wp2_with fail;refine HW.out.mono ?_;rintro e w6 ⟨rfl,o1,p1,r1,v1,h6,k6,q6⟩;have G6:=O (k6.gb_of HG.out.2 (by omega) (fun k e=>by cases e));have hok6:=q6.ok;have e:AC wdM x.h (Ao wdM x.kids)=some (t,Cj wdM x):=HG.out.1;rw[e]at hok6;obtain⟨_,e2,_⟩:=hok6;simp only[List.nil_append]at e2;subst e2;have hd0:=h6.c0;have hlt6:=h6.lt;clear x_0 x_1 x_2 x_3 x_4 x_5 x_6 x_f HW k6 q6 h6 e;go_wp2;go_ret;exact⟨rfl,G6.out⟩
theorem KS{w:World}{v:Value}{x:Ex}{ok:Nat→Prop}(hx:VE ok w v x)(h1:x.h.fit)(h2:x.kids.fit)(hn:x.kids.nodes≤1000000)(hf:x.few):
 Calls Tryz.prog 15 #[v] w fun e w'=>e= .returned (.tuple #[str (BY x).1,.int .i64 (BY x).2])∧w.grownBy w' none:=by
 have HV:=O (fun(W:World)(g:w.grownBy W none)=>FX (hx.gb g (by simp)) h1 h2 hn hf);have HX:=hx;obtain⟨pa,pc,la,lc,rfl,_,_⟩:=hx;have hB:=Blk.new w (hdC x.h (.slice pa x.h.p.length pc) (.slice la x.kids.len lc)) 27;have hB1:=hB;obtain⟨x_0,x_1,x_2,x_3,x_4,x_5,x_6,x_f⟩:=(hB1).c7;have HB:=O hB;clear hB1 hB;by_cases hv:AL x=0
 ·have ho:=(G9 hv).1;have HT:=O (fun(W:World)(g:w.grownBy W none)=>OO (HX.gb g (by simp)) h1 h2 hf ho);have hm:BY x=if 4000<(Cj wdM x).length then([],3)else(Cj wdM x,0):=by
   unfold BY;rw[if_neg (by simpa using hv)]
  rw[hm];rw[hv]at HV;have hbl:=Ji h1 h2 hn ho;clear ho hv HX h1 h2 hn hm hf;generalize Cj wdM x=t at*;by_cases h4:4000<t.length
  ·have hI:decide ((4000:Int)<(t.length:Int))=true:=by simp;omega
   rw[if_pos h4];go_enter func15,ntmps15;go_wp2_with fail;refine(HV.out _ ?gg).mono ?_
   case gg=>exact (by repeat(first| (with_reducible exact Ac _ _)| (with_reducible assumption)| (with_reducible exact AX (by assumption))| (with_reducible refine Ad ?_ _)| (with_reducible refine Am ?_)| (with_reducible refine Ay ?_ _)| ((with_reducible refine Az ?_ _ _ ?h2);case h2=>first|exact .inl rfl|exact .inr (Nat.le_refl _)|exact .inr (by simp<;>omega))| (with_reducible refine Ag ?_ (by assumption))| (with_reducible refine Aa ?_ (by assumption))))
   rintro e w1 ⟨rfl,g1⟩;have hb1:=HB.out.gb g1 (by simp);have HG:=O (Aa (World.grownBy_alloc w (.cells (hdC x.h (.slice pa x.h.p.length pc) (.slice la x.kids.len lc)).toArray 27 (0,0)) none) g1);clear x_0 x_1 x_2 x_3 x_4 x_5 x_6 x_f g1;obtain⟨y_0,y_1,y_2,y_3,y_4,y_5,y_6,y_f⟩:=(hb1).c7;clear hb1;go_wp2_with fail;refine(HT.out _ HG.out).mono ?_;rintro e w2 ⟨rfl,g2⟩;have HG3:=O (Aa HG.out g2);clear g2;go_wp2;exact bodyPost_ret (v:= .tuple #[str [],.int .i64 3]) (by simp[results,results15,go_sem]) rfl ⟨rfl,HG3.out⟩
  ·have hI:decide ((4000:Int)<(t.length:Int))=false:=by simp;omega
   rw[if_neg h4];go_enter func15,ntmps15;go_wp2_with fail;refine(HV.out _ ?gg).mono ?_
   case gg=>exact (by repeat(first| (with_reducible exact Ac _ _)| (with_reducible assumption)| (with_reducible exact AX (by assumption))| (with_reducible refine Ad ?_ _)| (with_reducible refine Am ?_)| (with_reducible refine Ay ?_ _)| ((with_reducible refine Az ?_ _ _ ?h2);case h2=>first|exact .inl rfl|exact .inr (Nat.le_refl _)|exact .inr (by simp<;>omega))| (with_reducible refine Ag ?_ (by assumption))| (with_reducible refine Aa ?_ (by assumption))))
   rintro e w1 ⟨rfl,g1⟩;have hb1:=HB.out.gb g1 (by simp);have HG:=O (Aa (World.grownBy_alloc w (.cells (hdC x.h (.slice pa x.h.p.length pc) (.slice la x.kids.len lc)).toArray 27 (0,0)) none) g1);clear x_0 x_1 x_2 x_3 x_4 x_5 x_6 x_f g1;obtain⟨y_0,y_1,y_2,y_3,y_4,y_5,y_6,y_f⟩:=(hb1).c7;clear hb1;go_wp2_with fail;refine(HT.out _ HG.out).mono ?_;rintro e w2 ⟨rfl,g2⟩;have HG3:=O (Aa HG.out g2);clear g2;go_wp2;exact bodyPost_ret (v:= .tuple #[str t,.int .i64 0]) (by simp[results,results15,go_sem]) rfl ⟨rfl,HG3.out⟩
 ·have HM:=O (show BY x=([],AL x)by unfold BY;rw[if_pos hv]);rw[HM.out];have hvI:(AL x==0)=false:=by simpa using hv
  have hvI2:(AL x !=0)=true:=by simpa using hv
  clear hv HX h1 h2 hn HM hf;generalize AL x=vm at*;go_enter func15,ntmps15;go_wp2_with fail;refine(HV.out _ ?gg).mono ?_
  case gg=>exact (by repeat(first| (with_reducible exact Ac _ _)| (with_reducible assumption)| (with_reducible exact AX (by assumption))| (with_reducible refine Ad ?_ _)| (with_reducible refine Am ?_)| (with_reducible refine Ay ?_ _)| ((with_reducible refine Az ?_ _ _ ?h2);case h2=>first|exact .inl rfl|exact .inr (Nat.le_refl _)|exact .inr (by simp<;>omega))| (with_reducible refine Ag ?_ (by assumption))| (with_reducible refine Aa ?_ (by assumption))))
  rintro e w1 ⟨rfl,g1⟩;have HG:=O (Aa (World.grownBy_alloc w (.cells (hdC x.h (.slice pa x.h.p.length pc) (.slice la x.kids.len lc)).toArray 27 (0,0)) none) g1);clear x_0 x_1 x_2 x_3 x_4 x_5 x_6 x_f g1;go_wp2;exact bodyPost_ret (v:= .tuple #[str [],.int .i64 vm]) (by simp[results,results15,go_sem]) rfl ⟨rfl,HG.out⟩
open Go.Maps Go.WideMaps Go.ChangeMaps Go.MapKept
theorem lawS:Keyed Tryz.prog 9:=string_keyed underlying9
theorem zeroB(w:World):(zeroValue 4).run Tryz.prog w= .ok (.bool false) w:=by kernel_rfl
theorem MD{w:World}{b:Nat}{s:Bs}{R:Value→Option (DataW Unit×List MemPlace)}(hs:s.length≤maxLen)(h:w.ownsMap Tryz.prog 9 R b 0 (.map [])):
 (Instr.lookup 125 (.map (some b)) (str s) false).run Tryz.prog w= .ok (.bool false) w:=by
 obtain⟨es,clock,hb,F,hn,hD⟩:=h;have he:es=#[]:=Array.eq_empty_of_size_eq_zero (by omega);subst he;rcases Maps.fit_look false lawS underlying125 (zeroB w) hb F (keyOf_string_mk (s:=⟨s.toArray⟩) underlying9 hs)with⟨h,_,_⟩| ⟨e0,y,_,_,_,_,hat,_⟩
 ·exact h
 ·have:=hat .nil;have h2:=hat (.lit (.bool true));rw[←this]at h2;cases h2
theorem LQ{B:Nat}{w:World}{v:Value}{t x:Ex}(h:SetProg B w v t x):
 Calls Tryz.prog 50 #[v] w fun e w'=>e= .returned (.bool false)∧w.grownBy w' none:=by
 obtain⟨kP,bv,rfl,hB,hblk,hrow⟩:=h;obtain⟨G,cap,la,lc,e,_⟩:=hrow.open;subst e;have hmm:=@run_makeMap Tryz.prog;have HB:=O hblk;clear hblk hrow hB;go_enter func50,ntmps50;go_wp2_with fail;go_loopg [9] 1 (fun g v9 wr=>(g=1∧v9= .int .i64 0∧wr=w.alloc (.map #[] 0))∨(g=0∧v9= .int .i64 1∧w.grownBy wr none))
 case atStart=>exact .inl ⟨rfl,rfl,rfl⟩
 case round=>
  rcases hrel with⟨rfl,rfl,rfl⟩| ⟨rfl,rfl,hg⟩
  ·have g0:=World.grownBy_alloc w (.map #[] 0) none;have hbk:=HB.out.gb g0 (by simp);have z0:=hbk.cell 0;have z1:=hbk.cell 1;have z2:=hbk.cell 2;have z3:=hbk.cell 3;simp only[List.getElem?_cons_zero,List.getElem?_cons_succ]at z0 z1 z2 z3;have hgl:=hbk.lt;have HM:=O (World.ownsMap_made (H:=Unit) w Tryz.prog 9 (plainElem Tryz.prog 4));have hlk:=fun(W:World)(h:W.ownsMap Tryz.prog 9 (plainElem (H:=Unit) Tryz.prog 4) w.heap.size 0 (.map []))=>MD (s:=mainL) (by decide) h;have hl1:=hlk _ (HM.out.alloc (.cells #[str mainL,.bool false,.slice none 0 0,.slice (some ⟨G,0,none⟩) 1 cap] 51 (0,0)));clear hbk hlk;have hkey:keyOf Tryz.prog 9 (str mainL)=some _:=keyOf_string_mk (s:=⟨mainL.toArray⟩) underlying9 (by decide);go_wp2_with (at_mapUpdate;refine wpList_mapUpdate_own _ rfl _ _ _ 125 rfl 9 4 lawS underlying125 (plainElem (H:=Unit) Tryz.prog 4) w.heap.size 0 _ rfl (HM.out.alloc _) (by unfold maxLen;omega) _ _ _ rfl rfl hkey _ [] (plainElem_bool underlying4 true) ?_;intro w1 hown1 hgrow1);have gwx:w.grownBy w1 none:=A9 (Ad (World.grownBy_alloc w _ none) _) hgrow1 (.inr (Nat.le_refl _));clear hown1 hgrow1;go_roundg 0
   case measure=>omega
   case rel=>exact .inr ⟨rfl,rfl,gwx⟩
  ·have HG:=O hg;clear hg;go_wp2;go_ret;exact⟨rfl,HG.out⟩
def Fh:Bs:=[105,102,32,61,32,49]
def Hy:Bs:=[97,45,62,98,32,43,32,49]
def toksIf:List Tok:=[⟨0,0,[73,70]⟩,⟨4,3,[61]⟩,⟨1,5,[49]⟩,⟨5,6,[]⟩]
theorem Td:E5 Fh= .ok toksIf:=by kernel_rfl
def xAb:Ex:=Ax [43] ⟨hd0 2 [65],.one (A5 [66])⟩ (A0 2 1 [])
theorem pe_ab:peM Hy= .ok xAb 6:=by kernel_rfl
def Fk:Ex:=A0 2 1 []
theorem tg_if:DY toksIf (AB toksIf AO 10) 0= .ok (A5 [73,70]) 1:=by kernel_rfl
theorem ex_if:AB toksIf AO 10 2= .ok Fk 3:=by kernel_rfl
theorem SY:CH toksIf 3= .ok () 4:=by kernel_rfl
theorem MU{w:World}(hg:Glob w){tv:Value}(ht:TRow w tv toksIf (fun _=>True))(hl:Du AO toksIf):
 Calls Tryz.prog 49 #[tv] w fun e w'=>∃v,e= .returned (.tuple #[v,.int .i64 (-1)])∧SetProg w.heap.size w' v (A5 [73,70]) Fk∧w.grownBy w' none:=
 OB hg hl ht (by decide) 10 rfl (by decide) tg_if (by decide) ex_if SY rfl
theorem Ql{w:World}(ht:Tabs w.heap.size w):Calls Tryz.prog 23 #[str Fh] w fun e w'=>∃v,e= .returned (.tuple #[v,.int .i64 4,.int .i64 0])∧SetProg w.heap.size w' v (A5 [73,70]) Fk∧w.grownBy w' none:=by
 have HL:=O (IC ht Fh (by decide));have HT:=O ht;clear ht;generalize hsrc:Fh=src at*;go_enter func23,ntmps23;go_wp2_with fail;refine HL.out.mono ?_;rintro e w1 ⟨g1,h1⟩;rw[←hsrc,Td]at h1;clear HL hsrc;obtain⟨v,rfl,hT,hTame,_⟩:=h1;obtain⟨ta,tc,rfl⟩:∃ta tc,v= .slice ta 4 tc:=by
  obtain⟨a,cap,e,_⟩:=hT;exact⟨a,cap,e⟩
 have HP:=O (MU (HT.out.gbN g1).glob (hT.mono fun _ _ _=>trivial) hTame);have HG:=O g1;have e4:((toksIf.length:Nat):Int)=4:=rfl;rw[e4];clear hT hTame g1 e4;go_wp2_with fail;refine HP.out.mono ?_;rintro e w2 ⟨v,rfl,hS,g2⟩;have HS:=O (Z hS (Aa HG.out g2));have H1:=O (LQ hS);obtain⟨kP,bv,rfl,_⟩:=hS;clear g2;go_wp2_with fail;refine H1.out.mono ?_;rintro e w3 ⟨rfl,g3⟩;have H2:=O (Ma (HS.out.1.gb g3 (by simp)) (by decide));go_wp2_with fail;refine H2.out.mono ?_;rintro e w4 ⟨rfl,g4⟩;go_wp2_with fail;refine(Ga _ _ _).mono ?_;rintro e w5 ⟨rfl,g5⟩;have hf:AW (1+(Fo.two (A5 [73,70]) Fk).nodes) (1+(Fo.two (A5 [73,70]) Fk).levels)=false:=by decide
 rw[hf];have HF:=O (Z (SetProg.mono (((HS.out.1.gb g3 (by simp)).gb g4 (by simp)).gb g5 (by simp)) (by have h1:=HG.out.size;exact h1)) (Aa (Aa (Aa HS.out.2 g3) g4) g5));clear g3 g4 g5 hf;go_wp2;exact bodyPost_ret (v:= .tuple #[.slice (some ⟨kP,0,none⟩) 1 1,.int .i64 4,.int .i64 0]) (by simp[results,results23,go_sem]) rfl ⟨_,rfl,HF.out.1,HF.out.2⟩
theorem over1{w:World}{ok:Nat→Prop}{x:Ex}{pa la:Option Addr}{pc lc:Nat}(hp:Cells w (.slice pa x.h.p.length pc) 1 x.h.p.length (x.h.p.map str) ok)(hl:RepL ok w (.slice la x.kids.len lc) x.kids)(W:World)(g:w.grownBy W none)(n:Nat)(hn:n=W.heap.size):
 Calls Tryz.prog 21 #[.slice (some ⟨n,0,none⟩) 1 1] (W.alloc (.cells (hdC x.h (.slice pa x.h.p.length pc) (.slice la x.kids.len lc)).toArray 27 (0,0))) (Ku (W.alloc (.cells (hdC x.h (.slice pa x.h.p.length pc) (.slice la x.kids.len lc)).toArray 27 (0,0)))):=by
 subst hn;exact Rx ((Fo.one x).wt+1) (.one x) (Nat.lt_succ_self _) (fun _=>True) (some ⟨W.heap.size,0,none⟩) 1 _ (RepL.one rfl trivial ((hp.gb g (by simp)).mono (fun _ _ _=>trivial)) ((hl.gb g (by simp)).mono (fun _ _ _=>trivial)))
theorem Lk{w:World}{ok:Nat→Prop}{v:Value}{x:Ex}(hx:VE ok w v x):Calls Tryz.prog 6 #[v] w (SomeB w):=by
 obtain⟨pa,pc,la,lc,rfl,hp,hl⟩:=hx;have HR:=O (over1 hp hl (w.alloc (.cells (hdC x.h (.slice pa x.h.p.length pc) (.slice la x.kids.len lc)).toArray 27 (0,0))) (World.grownBy_alloc _ _ _) (w.heap.size+1) (by simp));clear hp hl;go_enter func6,ntmps6;go_wp2_with fail;refine HR.out.mono ?_;rintro e w1 ⟨n,rfl,g1⟩;have gwx:w.grownBy w1 none:=Aa (Ad (World.grownBy_alloc _ _ _) _) g1;clear g1;go_wp2;go_ret;exact⟨_,rfl,gwx⟩
theorem S8(n:Int)(w:World):Calls Tryz.prog 22 #[.int .i64 n] w fun e w'=>e= .returned (.agg #[.int .i64 2,.int .i64 n,str []])∧w.grownBy w' none:=by
 go_enter func22,ntmps22;go_wp2;exact bodyPost_ret (v:= .agg #[.int .i64 2,.int .i64 n,str []]) (by simp[results,results22,go_sem]) rfl ⟨rfl,(by repeat(first| (with_reducible exact Ac _ _)| (with_reducible assumption)| (with_reducible exact AX (by assumption))| (with_reducible refine Ad ?_ _)| (with_reducible refine Am ?_)| (with_reducible refine Ay ?_ _)| ((with_reducible refine Az ?_ _ _ ?h2);case h2=>first|exact .inl rfl|exact .inr (Nat.le_refl _)|exact .inr (by simp<;>omega))| (with_reducible refine Ag ?_ (by assumption))| (with_reducible refine Aa ?_ (by assumption))))⟩
abbrev Ek:Value:= .slice none 0 0
theorem RC{w1 w2:World}{o1:Obj}{n1:Nat}(hn1:n1=w1.heap.size+1) (g2:((w1.alloc o1).alloc (.cells (hdC (hd0 1 [66]) Ek Ek).toArray 27 (0,0))).grownBy w2 none) (o4:Obj):
 VE (fun _=>True) ((w2.alloc (.cells (hdC (hd0 2 [65]) Ek (.slice (some ⟨n1,0,none⟩) 1 1)++hdC (A0 2 1 []).h Ek Ek).toArray 27 (0,0))).alloc o4) (exV (hd0 5 [43]) Ek (.slice (some ⟨w2.heap.size,0,none⟩) 2 2)) xAb:=by
 have r1:RepL (fun _=>True) w2 (.slice (some ⟨n1,0,none⟩) 1 1) (.one (A5 [66])):=
  (RepL.one (x:=A5 [66]) (w:=w1.alloc o1) (by rw[hn1];simp) trivial (Cells.nil _ _ _) (RepL.nil _ _)).gb g2 (by simp)
 have r2:=RepL.two (x:=⟨hd0 2 [65],.one (A5 [66])⟩) (y:=A0 2 1 []) (w:=w2) (n:=w2.heap.size) (ok:=fun _=>True) rfl trivial (Cells.nil _ 1 _) r1 (Cells.nil _ 1 _) (RepL.nil _ _);exact VE.node (f:= .two ⟨hd0 2 [65],.one (A5 [66])⟩ (A0 2 1 [])) (r2.gb (World.grownBy_alloc _ o4 none) (by simp))
theorem Ph{w:World}(ht:Tabs w.heap.size w):Calls Tryz.prog 8 #[] w fun e w'=>e= .returned (.bool true)∧w.grownBy w' none:=by
 have HE:=O (KQ ht Hy (by decide));have HP:=O (fun(W:World)(g:w.grownBy W none)=>Ql ((ht.gbN g).mono g.size));clear ht;generalize hsrc:Hy=src at*;generalize hsrc2:Fh=src2 at*;go_enter func8,ntmps8;rw[show(Value.string {data:=#[97,45,62,98,32,43,32,49]})=str src by rw[←hsrc];rfl,show(Value.string {data:=#[105,102,32,61,32,49]})=str src2 by rw[←hsrc2];rfl];go_wp2_with fail;refine HE.out.mono ?_;rintro e w1 ⟨g1,h1⟩;rw[←hsrc,pe_ab]at h1;obtain⟨v,rfl,hV⟩:=h1;obtain⟨pa,pc,la,lc,rfl,hp,hl⟩:=hV;have HV:=O (Z hp (Z hl g1));clear hp hl g1 HE hsrc;go_wp2_with fail;refine(S8 1 _).mono ?_;rintro e w2 ⟨rfl,g2⟩;have HW:=O (RC (n1:=w1.heap.size+1) rfl g2);have hb1:=((Blk.new w1 (hdC xAb.h (.slice pa xAb.h.p.length pc) (.slice la xAb.kids.len lc)) 27).alloc _).gb g2 (by simp);have gw2:w1.grownBy w2 none:=Aa (Ad (World.grownBy_alloc _ _ _) _) g2;have HB1:=O (Z hb1 gw2);clear hb1 gw2 g2;go_wp2_with fail;refine(HP.out _ (Ad (Ad (Aa HV.out.2.2 HB1.out.2) _) _)).mono ?_;rintro e w3 ⟨v3,rfl,hS,g3⟩;obtain⟨kP,bv,rfl,hB,hblk,hrow⟩:=hS;obtain⟨G,cap,la',lc',e,_,_,hat⟩:=hrow.open;subst e;have gw3:w2.grownBy w3 none:=Aa (Ad (World.grownBy_alloc _ _ _) _) g3;have hx:VE (A8 w.heap.size) w3 (exV xAb.h (.slice pa xAb.h.p.length pc) (.slice la xAb.kids.len lc)) xAb:=⟨pa,pc,la,lc,rfl,(HV.out.1.gb HB1.out.2 (by simp)).gb gw3 (by simp),(HV.out.2.1.gb HB1.out.2 (by simp)).gb gw3 (by simp)⟩;have hy:=(HW.out _).gb g3 (by simp);have HS:=O (Ij hx hy);have b1:=HB1.out.1.gb gw3 (by simp)
 have b4:Blk w3 (w2.heap.size+1) (hdC (hd0 5 [43]) Ek (.slice (some ⟨w2.heap.size,0,none⟩) 2 2)) 27:=((Blk.new _ _ _).of_eq (by simp) rfl).gb g3 (by simp);have HN:=O (Z hblk (Z (hat 0 _ rfl) (Aa (Aa HV.out.2.2 HB1.out.2) gw3)));clear hx hy hblk hat hrow hB gw3 g3;obtain⟨x_0,x_1,x_2,x_3,x_4,x_5,x_6,x_f⟩:=(b1).c7;obtain⟨y_0,y_1,y_2,y_3,y_4,y_5,y_6,y_f⟩:=(b4).c7;clear b1 b4;rw[IL]at HS;go_wp2_with fail;refine HS.out.mono ?_;rintro e w4 ⟨rfl,g4⟩;have z0:=Af g4 (HN.out.1.cell' 0 rfl);have z1:=Af g4 (HN.out.1.cell' 1 rfl);have z2:=Af g4 (HN.out.1.cell' 2 rfl);have z3:=Af g4 (HN.out.1.cell' 3 rfl);have t0:=Af g4 HN.out.2.1;have HG:=O (Aa HN.out.2.2 g4);clear g4;go_wp2;go_ret;exact⟨rfl,HG.out⟩
open Go.ChangeShapes
def CP:List Bs→Nat
 | []=>0
 |s::r=>s.length+1+CP r
def hdB(h:Hd):Nat:=h.s.length+h.vs.length+CP h.p
def Fo.bulk:Fo→Nat
 | .nil=>0
 | .cons h k n=>9+hdB h+k.bulk+n.bulk
theorem Gz:∀(p:List Bs),p.length≤CP p∧∀s∈p,s.length≤CP p:=by
 intro p;induction p with
 |nil=>exact⟨Nat.zero_le _,fun s hs=>by cases hs⟩
 | cons a r ih=>
   simp only[CP,List.length_cons];refine⟨by omega,fun s hs=>?_⟩;rcases List.mem_cons.1 hs with rfl|hs
   ·omega
   ·have:=ih.2 s hs;omega
theorem Ir{h:Hd}(hb:hdB h≤2000000):h.fit:=by
 unfold hdB at hb;have:=Gz h.p;exact⟨by omega,by omega,by omega,fun s hs=>by have:=this.2 s hs;omega⟩
theorem Lf:∀{f:Fo},f.bulk≤2000000→f.fit∧2*f.nodes≤f.bulk:=by
 intro f;induction f with
 |nil=>intro _;exact⟨trivial,by simp[Fo.nodes,Fo.bulk]⟩
 | cons h k n ihk ihn=>
   intro hb;simp only[Fo.bulk]at hb;have h1:=ihk (by omega);have h2:=ihn (by omega);simp only[Fo.bulk,Fo.nodes];exact⟨⟨Ir (by omega),h1.1,h2.1⟩,by omega⟩
theorem GY{H:Type}(d:DataW H):1≤Rows.uptoBulk d:=by
 cases d with
 |lit l=>cases l<;>simp[Rows.uptoBulk]
 |nil=>simp[Rows.uptoBulk]
 |ptr d=>simp[Rows.uptoBulk]
 |slice a b=>simp[Rows.uptoBulk]
 |agg p=>simp[Rows.uptoBulk]
 |iface a d=>simp[Rows.uptoBulk]
 |map e=>simp[Rows.uptoBulk]
 |held h=>simp[Rows.uptoBulk]
section
variable {H:Type}{enc:TypeId×Value→H}{W:World}{base:Nat}{sp:Nat→Bool}{held:Bool}
theorem PZ(l:List ByteArray):Rows.uptoBulkAll (strs (H:=H) l)=CP (l.map fun s=>s.data.toList):=by
 induction l with
 |nil=>simp[strs,Rows.uptoBulkAll,CP]
 | cons a r ih=>
   have ih':Rows.uptoBulkAll (r.map fun s=>DataW.lit (H:=H) (.string s.data.toList))=CP (r.map fun s=>s.data.toList):=ih;show Rows.uptoBulkAll ((a::r).map fun s=>DataW.lit (H:=H) (.string s.data.toList))=_;simp only[List.map_cons,Rows.uptoBulkAll,Rows.uptoBulk,CP,ih']
theorem Qb{fuel:Nat}{cs:List Value}{x:DataW H×List MemPlace}(h:DataW.trod enc Tryz.prog W base sp held fuel 24 cs=some x):
 ∃pa pc,∃p:List Bs,cs=[.slice pa p.length pc]∧Cells W (.slice pa p.length pc) 1 p.length (p.map str) (fun _=>True)∧CP p+1≤Rows.uptoBulk x.1:=by
 rcases open_strings underlying24 underlying9 co9 h with⟨rfl,rfl⟩| ⟨a,len,cap,ss,rfl,_,h1,h2,h3,rfl,hc,_⟩
 ·exact⟨none,0,[],rfl,Cells.nil _ _ _,by simp[CP,Rows.uptoBulk]⟩
 ·have hle:len≤ss.length:=by rw[h3];split<;>omega
  have hpl:((ss.take len).map fun s=>s.data.toList).length=len:=by simp;omega
  refine⟨some a,cap,(ss.take len).map fun s=>s.data.toList,by rw[hpl],?_,?_⟩
  ·rw[hpl];refine IZ h1 h2 (by simp;omega) ?_;intro j u hj;simp only[List.map_map,List.getElem?_map,Option.map_eq_some_iff]at hj;obtain⟨s,hs,rfl⟩:=hj;have hjl:j<ss.length:=by
    have:=(List.getElem?_eq_some_iff.1 hs).1;simp at this;omega
   have:=hc j hjl;rw[this];have e:ss.getD j ByteArray.empty=s:=by
    have h5:=(List.getElem?_eq_some_iff.1 hs);simp only[List.getElem_take]at h5;obtain⟨_,h6⟩:=h5;simp[List.getD,List.getElem?_eq_getElem hjl,h6]
   rw[e,Kj];rfl
  ·simp only[Rows.uptoBulk];rw[PZ];omega
def Hf(W:World)(cs:List Value)(n:Nat):Prop:=∃(h:Hd)(pa la:Option Addr)(pc lc:Nat)(f:Fo),cs=hdC h (.slice pa h.p.length pc) (.slice la f.len lc)∧Cells W (.slice pa h.p.length pc) 1 h.p.length (h.p.map str) (fun _=>True)∧RepL (fun _=>True) W (.slice la f.len lc) f∧9+hdB h+f.bulk≤n
theorem Qu{n:Nat}(ih:∀(cs:List Value) (x:DataW H×List MemPlace),DataW.trod enc Tryz.prog W base sp held n 27 cs=some x→Hf W cs (Rows.uptoBulk x.1)){a:Addr}{elems:List (DataW H×List MemPlace)}
 (he:∀i,i<elems.length→(W.cells? base (a.add (i*7)) 7).bind (DataW.trod enc Tryz.prog W base sp held n 27)=elems[i]?):
 ∀k j,j+k=elems.length→∃(f:Fo)(cs:List Value),f.len=k∧cs.length=k*7∧RepF (fun _=>True) W f cs∧(∀i u,cs[i]? =some u→W.cell? (a.add (j*7+i))=some u)∧f.bulk≤Rows.uptoBulkAll ((elems.drop j).map (·.1)):=by
 intro k;induction k with
 |zero=>intro j _;exact⟨.nil,[],rfl,rfl,rfl,fun i u h=>by simp at h,by simp[Fo.bulk]⟩
 | succ k ihk=>
   intro j hj;obtain⟨f,ds,hf,hds,hF,hc,hbk⟩:=ihk (j+1) (by omega);have hx:=he j (by omega);have hjl:j<elems.length:=by omega
   rw[List.getElem?_eq_getElem hjl]at hx;obtain⟨cs',h1,h2⟩:=Option.bind_eq_some_iff.1 hx;obtain⟨h,pa,la,pc,lc,kids,rfl,hp,hl,hbb⟩:=ih cs' _ h2;obtain⟨_,_,hget⟩:=World.cells?_some h1;obtain⟨kcs,hk1,hk2⟩:=hl;refine⟨.cons h kids f,hdC h (.slice pa h.p.length pc) (.slice la kids.len lc)++ds,by simp[Fo.len,hf],by simp[hdC,hds];omega,⟨_,_,kcs,ds,rfl,hp,hk1,hk2,hF⟩,?_,?_⟩
   ·intro i u hi;by_cases h7:i<7
    ·rw[List.getElem?_append_left (by simp[hdC];omega)]at hi;have:=hget i h7;rw[Addr.add_add]at this;rw[this,hi]
    ·rw[List.getElem?_append_right (by simp[hdC];omega)]at hi;have:=hc _ u hi;rw[show(j+1)*7+(i-(hdC h (.slice pa h.p.length pc) (.slice la kids.len lc)).length)=j*7+i by simp[hdC];omega]at this;exact this
   ·rw[List.drop_eq_getElem_cons hjl];simp only[List.map_cons,Rows.uptoBulkAll,Fo.bulk];omega
theorem Oa{n:Nat}(ih:∀m,m<n→∀(cs:List Value) (x:DataW H×List MemPlace),DataW.trod enc Tryz.prog W base sp held m 27 cs=some x→Hf W cs (Rows.uptoBulk x.1)){cs:List Value}{x:DataW H×List MemPlace}
 (h:DataW.trod enc Tryz.prog W base sp held n 25 cs=some x):∃(la:Option Addr)(lc:Nat)(f:Fo),cs=[.slice la f.len lc]∧RepL (fun _=>True) W (.slice la f.len lc) f∧f.bulk+1≤Rows.uptoBulk x.1:=by
 rcases DataW.trod_slice underlying25 h with⟨rfl,rfl⟩| ⟨a,len,cap,elems,rest,m,rfl,rfl,rfl,_,h1,h2,hlen,hel,_⟩
 ·exact⟨none,0,.nil,rfl,RepL.nil _ _,by simp[Fo.bulk,Rows.uptoBulk]⟩
 ·rw[co29]at hel;obtain⟨f,ds,hf,hds,hF,hc,hbk⟩:=Qu (ih m (Nat.lt_succ_self _)) (a:=a) (elems:=elems) (fun i hi=>hel i (by omega)) len 0 (by omega);refine⟨some a,cap,f,by rw[hf],⟨ds,?_,hF⟩,?_⟩
  ·rw[hf];exact IZ h1 h2 hds (fun j u hj=>by have:=hc j u hj;simpa using this)
  ·simp only[Rows.uptoBulk];rw[List.drop_zero]at hbk;omega
theorem PI:∀(n:Nat)(cs:List Value)(x:DataW H×List MemPlace),DataW.trod enc Tryz.prog W base sp held n 27 cs=some x→Hf W cs (Rows.uptoBulk x.1):=by
 intro n;induction n using Nat.strongRecOn with
 | ind n ih=>
   intro cs x h;obtain⟨xs,m,rfl,rfl,hl,hxl,hf⟩:=DataW.trod_struct underlying27 h;rw[co29]at hl;match cs,hl with
   | [c0,c1,c2,c3,c4,c5,c6],_=>
     match xs,hxl with
     | [y0,y1,y2,y3,y4],_=>
     have f0:DataW.trod enc Tryz.prog W base sp held m 3 (([c0,c1,c2,c3,c4,c5,c6].drop 0).take (Tryz.prog.cellsOf 3))=some y0:=hf 0 _ rfl;have f1:DataW.trod enc Tryz.prog W base sp held m 9 (([c0,c1,c2,c3,c4,c5,c6].drop 1).take (Tryz.prog.cellsOf 9))=some y1:=hf 1 _ rfl;have f2:DataW.trod enc Tryz.prog W base sp held m 23 (([c0,c1,c2,c3,c4,c5,c6].drop 2).take (Tryz.prog.cellsOf 23))=some y2:=hf 2 _ rfl;have f3:DataW.trod enc Tryz.prog W base sp held m 24 (([c0,c1,c2,c3,c4,c5,c6].drop 5).take (Tryz.prog.cellsOf 24))=some y3:=hf 3 _ rfl;have f4:DataW.trod enc Tryz.prog W base sp held m 25 (([c0,c1,c2,c3,c4,c5,c6].drop 6).take (Tryz.prog.cellsOf 25))=some y4:=hf 4 _ rfl;rw[co3]at f0;rw[co9]at f1;rw[co25]at f2;rw[co26]at f3;rw[co27]at f4;simp only[List.drop_zero,List.drop_succ_cons,List.take_succ_cons,List.take_zero]at f0 f1 f2 f3 f4;obtain⟨op,h0,_⟩:=DataW.trod_int underlying3 f0;obtain⟨s,h1,rfl,_⟩:=DataW.trod_string underlying9 f1;obtain⟨zs,q,_,rfl,_,hzl,hg⟩:=DataW.trod_struct underlying23 f2;match zs,hzl with
     | [z0,z1,z2],_=>
     have g0:DataW.trod enc Tryz.prog W base sp held q 3 (([c2,c3,c4].drop 0).take (Tryz.prog.cellsOf 3))=some z0:=hg 0 _ rfl;have g1:DataW.trod enc Tryz.prog W base sp held q 3 (([c2,c3,c4].drop 1).take (Tryz.prog.cellsOf 3))=some z1:=hg 1 _ rfl;have g2:DataW.trod enc Tryz.prog W base sp held q 9 (([c2,c3,c4].drop 2).take (Tryz.prog.cellsOf 9))=some z2:=hg 2 _ rfl;rw[co3]at g0 g1;rw[co9]at g2;simp only[List.drop_zero,List.drop_succ_cons,List.take_succ_cons,List.take_zero]at g0 g1 g2;obtain⟨vk,h2,_⟩:=DataW.trod_int underlying3 g0;obtain⟨vn,h3,_⟩:=DataW.trod_int underlying3 g1;obtain⟨vs,h4,rfl,_⟩:=DataW.trod_string underlying9 g2;obtain⟨pa,pc,p,h5,hp,hpb⟩:=Qb f3;obtain⟨la,lc,f,h6,hl,hlb⟩:=Oa (fun k hk=>ih k (by omega)) f4;simp only[List.cons.injEq,and_true]at h0 h1 h2 h3 h4 h5 h6;subst h0 h1 h2 h3 h4 h5 h6;refine⟨⟨op,s.data.toList,vk,vn,vs.data.toList,p⟩,pa,la,pc,lc,f,by simp[hdC,Kj],hp,hl,?_⟩;have b1:=GY y0.1;have b2:=GY z0.1;have b3:=GY z1.1;simp only[List.map_cons,List.map_nil,Rows.uptoBulk,Rows.uptoBulkAll,hdB];omega
theorem Tq{r:Reach}{b0:Nat}{v:Value}{d:DataW H}{ps:List MemPlace}(hv:Value.okWide Tryz.prog W r b0 27 v)(h:DataW.Trod enc Tryz.prog W base sp held 27 v d ps):∃x:Ex,VE (fun _=>True) W v x∧9+hdB x.h+x.kids.bulk≤Rows.uptoBulk d:=by
 unfold Value.okWide at hv;rw[underlying27]at hv;obtain⟨cs,rfl,_⟩:=hv;obtain⟨fuel,hf⟩:=h;obtain⟨h,pa,la,pc,lc,f,e,hp,hl,hb⟩:=PI fuel _ _ hf;refine⟨⟨h,f⟩,⟨pa,pc,la,lc,?_,hp,hl⟩,hb⟩;cases cs;simp only[Value.cells]at e;subst e;rfl
theorem Ny{x:Ex}{n:Nat}(h:9+hdB x.h+x.kids.bulk≤n)(hn:n≤1048576):x.h.fit∧x.kids.fit∧x.kids.nodes≤1000000:=by
 have h1:=Lf (f:=x.kids) (by omega);exact⟨Ir (by omega),h1.1,by omega⟩
end
theorem KL:∀{f:Fo},f.nT≤2*f.bulk∧f.kT≤2000002*f.bulk:=by
 intro f;induction f with
 |nil=>simp[Fo.nT,Fo.bulk,Fo.kT]
 | cons h k n ihk ihn=>
   have:=Gz h.p;simp only[Fo.nT,Fo.bulk,Fo.kT,hdB];omega
theorem LE{x:Ex}{n:Nat}(h:9+hdB x.h+x.kids.bulk≤n)(hn:n≤1048576):x.few:=by
 have h1:=KL (f:=x.kids);have h2:=Gz x.h.p;unfold hdB at h;unfold Ex.few nX kX;omega
end Go.Proofs.YtgjdhajcnechdaaGreatDoor
