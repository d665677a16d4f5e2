/-
  Rows of names that are looked through: slices.IndexFunc, slices.ContainsFunc, areNames. Plain laws: strings.ToUpper against capitals byte by byte, where what comes out is to be a word of ASCII of the 
-/
import Derived.Test.YtgjdhajcnechdaaGreatDoorSv13
import Derived.Test.YtgjdhajcnechdaaGreatDoorSv06
import Derived.Test.YtgjdhajcnechdaaGreatDoorSv12
import Derived.Shelf.Strings.CaseAny
import Derived.Lib.MapLaws
import Derived.Test.YtgjdhajcnechdaaGreatDoorSv11
set_option linter.all false
set_option maxRecDepth 100000
set_option maxHeartbeats 8000000
namespace Go.Proofs.YtgjdhajcnechdaaGreatDoor
open Go.Proofs.Tryz
open Go.RowKit
theorem Hl(s:Bs)(w:World)(hs:s.length≤4000000):Calls Tryz.prog 75 #[str s] w fun e w'=>e= .returned (.bool (Al s))∧w.grownBy w' none:=by
 go_enter func75,ntmps75;go_wp2_with fail;refine(Hc s w hs).mono ?_;rintro e w1 ⟨rfl,hb⟩;go_wp2;go_ret;exact⟨rfl,hb⟩
theorem Ih(s:Bs)(w:World)(hs:s.length≤4000000):Calls Tryz.prog 129 #[str s] w fun e w'=>e= .returned (.bool (!Al s))∧w.grownBy w' none:=by
 go_enter func129,ntmps129;go_wp2_with fail;refine(Hl s w hs).mono ?_;rintro e w1 ⟨rfl,hb⟩;go_wp2;go_ret;exact⟨rfl,hb⟩
theorem Jx{α:Type}{p:α→Bool}{l:List α}{k:Nat}{d:α}(hk:k<l.length)(h:p (l.getD k d)=false):l.all p=false:=by
 rw[List.all_eq_false];refine⟨l.getD k d,?_,by intro e;rw[h]at e;cases e⟩;rw[List.getD_eq_getElem?_getD,List.getElem?_eq_getElem hk];exact List.getElem_mem hk
theorem G9{α:Type}{p:α→Bool}{l:List α}{d:α}(h:∀j,j<l.length→p (l.getD j d)=true):l.all p=true:=by
 rw[List.all_eq_true];intro x hx;obtain⟨j,hj,rfl⟩:=List.getElem_of_mem hx;have:=h j hj;rwa[List.getD_eq_getElem?_getD,List.getElem?_eq_getElem hj]at this
theorem Ki{w:World}{pa:Option Addr}{pc:Nat}{l:List Bs}{ok:Nat→Prop}(h1:Cells w (.slice pa l.length pc) 1 l.length (l.map str) ok)(hf:∀s∈l,s.length≤2000000):
 Calls Tryz.prog 172 #[.slice pa l.length pc,.func (.func 129) #[] #[]] w fun e w'=>(∃n:Int,e= .returned (.int .i64 n)∧decide (0≤n)= !l.all Al)∧w.grownBy w' none:=by
 have hc1:=h1.at1.2;have hl:l.length≤maxLen:=by obtain⟨_,_,e,h3,h4,_⟩:=h1;omega
 unfold maxLen at hl;clear h1;have HF:=O hf;have HC:=O hc1;clear hc1 hf;go_enter func172,ntmps172;go_wp2_with fail;go_loopg [8] l.length (fun g v8 wr=>∃k:Nat,k+g=l.length∧v8= .int .i64 k∧(∀j,j<k→Al (l.getD j [])=true)∧w.grownBy wr none)
 case atStart=>exact⟨0,by omega,rfl,fun j hj=>by omega,Ac _ _⟩
 case round=>
  obtain⟨k,hg,rfl,hp,hgr⟩:=hrel;by_cases hk:k<l.length
  ·obtain⟨g1,o1,rfl,c1⟩:=HC.out k hk;have d1:=Af hgr c1;have hkI:decide (k<l.length)=true:=by simpa using hk
   have hmem:l.getD k []∈l:=by
    rw[List.getD_eq_getElem?_getD,List.getElem?_eq_getElem hk];exact List.getElem_mem hk
   have HL:=O (HF.out _ hmem);have HP:=O hp;have HG:=O hgr;clear hp hgr c1 hmem;generalize hs1:l.getD k []=s at*;cases hb:Al s with
   | true=>
     have HN:=O (Z hb hs1);clear hb hs1;go_wp2_with fail;refine(Ih s _ (by have:=HL.out;omega)).mono ?_;rintro e w1 ⟨rfl,g1⟩;rw[HN.out.1];go_wp2;go_roundg (l.length-(k+1))
     case measure=>omega
     case rel=>exact⟨k+1,by omega,by go_num,fun j hj=>by rcases Nat.lt_succ_iff_lt_or_eq.1 hj with h|rfl;exact HP.out j h;rw[HN.out.2];exact HN.out.1,Aa HG.out (Aa (by repeat(first| (with_reducible exact Ac _ _)| (with_reducible assumption)| (with_reducible exact AU (by assumption))| (with_reducible refine Ad ?_ _)| (with_reducible refine Am ?_)| (with_reducible refine A3 ?_ _)| ((with_reducible refine Ay ?_ _ _ ?h2);case h2=>first|exact .inl rfl|exact .inr (Nat.le_refl _)|exact .inr (by simp<;>omega))| (with_reducible refine Ah ?_ (by assumption))| (with_reducible refine Aa ?_ (by assumption)))) g1)⟩
   | false=>
     have HN:=O (Z hb (Jx (p:=Al) (l:=l) (d:=[]) hk (by rw[hs1];exact hb)));clear hb hs1;go_wp2_with fail;refine(Ih s _ (by have:=HL.out;omega)).mono ?_;rintro e w1 ⟨rfl,g1⟩;rw[HN.out.1];go_wp2;go_ret;exact⟨⟨_,rfl,by rw[HN.out.2];simp⟩,Aa HG.out (Aa (by repeat(first| (with_reducible exact Ac _ _)| (with_reducible assumption)| (with_reducible exact AU (by assumption))| (with_reducible refine Ad ?_ _)| (with_reducible refine Am ?_)| (with_reducible refine A3 ?_ _)| ((with_reducible refine Ay ?_ _ _ ?h2);case h2=>first|exact .inl rfl|exact .inr (Nat.le_refl _)|exact .inr (by simp<;>omega))| (with_reducible refine Ah ?_ (by assumption))| (with_reducible refine Aa ?_ (by assumption)))) g1)⟩
  ·have hkI:decide (k<l.length)=false:=by simpa using hk
   have HE:=O (G9 (p:=Al) (l:=l) (d:=[]) (fun j hj=>hp j (by omega)));have HG:=O hgr;clear hp hgr;go_wp2;go_ret;exact⟨⟨_,rfl,by rw[HE.out];simp⟩,HG.out⟩
theorem JU{w:World}{pa:Option Addr}{pc:Nat}{l:List Bs}{ok:Nat→Prop}(h1:Cells w (.slice pa l.length pc) 1 l.length (l.map str) ok)(hf:∀s∈l,s.length≤2000000):
 Calls Tryz.prog 128 #[.slice pa l.length pc,.func (.func 129) #[] #[]] w fun e w'=>e= .returned (.bool (!l.all Al))∧w.grownBy w' none:=by
 have H:=O (Ki h1 hf);clear h1 hf;go_enter func128,ntmps128;go_wp2_with fail;refine H.out.mono ?_;rintro e w1 ⟨⟨n,rfl,hn⟩,hb⟩;have HN:=O hn;clear hn;go_wp2;go_ret;exact⟨by rw[←HN.out];rfl,hb⟩
theorem Kq{w:World}{pa:Option Addr}{pc:Nat}{l:List Bs}{ok:Nat→Prop}(h1:Cells w (.slice pa l.length pc) 1 l.length (l.map str) ok)(hf:∀s∈l,s.length≤2000000):
 Calls Tryz.prog 77 #[.slice pa l.length pc] w fun e w'=>e= .returned (.bool (l.all Al))∧w.grownBy w' none:=by
 have H:=O (JU h1 hf);clear h1 hf;go_enter func77,ntmps77;go_wp2_with fail;refine H.out.mono ?_;rintro e w1 ⟨rfl,hb⟩;go_wp2;go_ret;exact⟨rfl,hb⟩
open Go.Lib
theorem Od(x:Int)(h:∀b∈encodeRune x,b.toNat<128):(0≤x∧x≤127)∧encodeRune x=[x.toNat.toUInt8]:=by
 have hz:∀y∈encodeRuneZ x,y<128:=by
  intro y hy;have hb:=encodeRuneZ_byte x y hy;have:=h y.toNat.toUInt8 (List.mem_map.2 ⟨y,hy,rfl⟩);simp[UInt8.toNat_ofNat']at this;omega
 by_cases h0:0≤x∧x≤127
 ·exact⟨h0,by simp[encodeRune,encodeRuneZ_one h0.1 h0.2]⟩
 ·exfalso;by_cases h1:128≤x∧x≤2047
  ·have:=hz (192+x/64) (by rw[encodeRuneZ_two h1.1 h1.2];simp);omega
  ·by_cases h2:(2048≤x∧x<55296)∨(57343<x∧x≤65535)
   ·have:=hz (224+x/4096) (by rw[encodeRuneZ_three h2];simp);omega
   ·by_cases h3:65536≤x∧x≤1114111
    ·have:=hz (240+x/262144) (by rw[encodeRuneZ_four h3.1 h3.2];simp);omega
    ·have:=hz 239 (by rw[encodeRuneZ_bad (by omega)];simp);omega
theorem QX:toUpperU 65533=65533:=by decide+kernel
theorem Mc{l:List UInt8}(hne:l≠[])(h1:(decodeL l).2=1):(decodeL l).1=65533∨∀b∈l.take 1,b.toNat<128:=by
 by_cases hv:(decodeL l).1=65533
 ·exact .inl hv
 ·refine .inr ?_;have he:=encode_decode l hne (fun h=>hv h.1);rw[h1]at he;by_cases h0:((decodeL l).1:Int)≤127
  ·rw[←he];intro b hb;rw[encodeRune,encodeRuneZ_one (by omega) h0]at hb;simp at hb;subst hb;simp[UInt8.toNat_ofNat'];omega
  ·exfalso;have hlen:(encodeRune ((decodeL l).1:Int)).length≤1:=by rw[he];simp;omega
   generalize((decodeL l).1:Int)=x at*;unfold encodeRune at hlen;rw[List.length_map]at hlen;by_cases h1:128≤x∧x≤2047
   ·rw[encodeRuneZ_two h1.1 h1.2]at hlen;simp at hlen
   ·by_cases h2:(2048≤x∧x<55296)∨(57343<x∧x≤65535)
    ·rw[encodeRuneZ_three h2]at hlen;simp at hlen
    ·by_cases h3:65536≤x∧x≤1114111
     ·rw[encodeRuneZ_four h3.1 h3.2]at hlen;simp at hlen
     ·rw[encodeRuneZ_bad (by omega)]at hlen;simp at hlen
theorem Md(l:List UInt8):1≤(decodeL l).2:=by
 unfold decodeL Utf8.decode;simp only[];repeat' split
 all_goals simp
theorem OA:∀(n:Nat)(l:List UInt8),l.length≤n→(∀b∈toUpperD l,b.toNat<128)→(toUpperD l).length≤l.length∧((toUpperD l).length=l.length→∀b∈l,b.toNat<128):=by
 intro n;induction n with
 | zero=>
   intro l hl _;have:l=[]:=List.eq_nil_of_length_eq_zero (by omega);subst this;exact⟨Nat.le_refl _,by simp⟩
 | succ n ih=>
   intro l hl h;by_cases hne:l=[]
   ·subst hne;exact⟨Nat.le_refl _,by simp⟩
   ·have hp:=Md l;have hk:=decodeL_le l hne;have hlen:0<l.length:=List.length_pos_iff.2 hne;unfold toUpperD at h ⊢;rw[mapD_step _ _ hne]at h ⊢;have ih':=ih (l.drop (decodeL l).2) (by simp;omega);unfold toUpperD at ih';have h2:=ih' (fun b hb=>h b (List.mem_append.2 (.inr hb)));rw[List.length_drop]at h2;by_cases h0:0≤toUpperU (decodeL l).1
    ·rw[if_pos h0]at h ⊢;obtain⟨hx,he⟩:=Od _ (fun b hb=>h b (List.mem_append.2 (.inl hb)));rw[he];simp only[List.length_append,List.length_cons,List.length_nil];refine⟨by omega,fun e=>?_⟩;have hk1:(decodeL l).2=1:=by omega
     rcases Mc hne hk1 with h3|h3
     ·rw[h3]at hx;have:=QX;simp at hx;omega
     ·intro b hb;rw[hk1]at h2;rw[←List.take_append_drop 1 l]at hb;rcases List.mem_append.1 hb with hb|hb
      ·exact h3 b hb
      ·exact h2.2 (by rw[hk1]at e;omega) b hb
    ·rw[if_neg h0];simp only[List.nil_append];exact⟨by omega,fun e=>by omega⟩
theorem L9(b:UInt8)(h:128≤b.toNat):upperB b=b:=by
 unfold upperB isLowerB;split
 ·rename_i h1;simp[UInt8.le_iff_toNat_le]at h1;omega
 ·rfl
theorem MR(x w:List UInt8)(hl:x.length=w.length)(hw:∀b∈w,b.toNat<128):(toUpperD x==w)=(toUpperA x==w):=by
 by_cases ha:∀b∈x,b.toNat<128
 ·rw[toUpperD_ascii x ha]
 ·have h1 : toUpperA x ≠ w := by
   rintro rfl;apply ha;intro b hb;by_cases hh:b.toNat<128
   ·exact hh
   ·exact absurd (hw (upperB b) (List.mem_map.2 ⟨b,hb,rfl⟩)) (by rw[L9 b (by omega)];exact hh)
  have h2:toUpperD x≠w:=by
   intro e;apply ha;exact(OA x.length x (Nat.le_refl _) (by rw[e];exact hw)).2 (by rw[e,hl])
  rw[beq_eq_false_iff_ne.2 h1,beq_eq_false_iff_ne.2 h2]
theorem Dn(s:Bs)(x y:Ex){xv yv:Value}(w:World)(ok:Nat→Prop)(hok:∀k,w.heap.size≤k→ok k)(hx:VE ok w xv x)(hy:VE ok w yv y):
 Calls Tryz.prog 89 #[str s,xv,yv] w fun e w'=>∃v,e= .returned v∧VE ok w' v (Aw s x y)∧w.grownBy w' none:=by
 obtain⟨pxa,pxc,lxa,lxc,rfl,hx,hx'⟩:=hx;obtain⟨pya,pyc,lya,lyc,rfl,hy,hy'⟩:=hy;have H:=O (Z hok (Z hx (Z hx' (Z hy hy'))));clear hok hx hx' hy hy';go_enter func89,ntmps89;go_wp2;obtain⟨hok,hx,hx',hy,hy'⟩:=H.out;refine bodyPost_ret (v:=exV (hd0 5 s) (.slice none 0 0) (.slice (some ⟨w.heap.size+1+1+1,0,none⟩) 2 2)) ?_ rfl ⟨_,rfl,VE.node (f:= .two x y) ?_,?_⟩
 ·simp[results,results89,go_sem,hd0]
 ·have g:∀a b c,w.grownBy (((w.alloc a).alloc b).alloc c) none:=fun a b c=>(by repeat(first| (with_reducible exact Ac _ _)| (with_reducible assumption)| (with_reducible exact AU (by assumption))| (with_reducible refine Ad ?_ _)| (with_reducible refine Am ?_)| (with_reducible refine A3 ?_ _)| ((with_reducible refine Ay ?_ _ _ ?h2);case h2=>first|exact .inl rfl|exact .inr (Nat.le_refl _)|exact .inr (by simp<;>omega))| (with_reducible refine Ah ?_ (by assumption))| (with_reducible refine Aa ?_ (by assumption))));exact RepL.two (by simp) (hok _ (by omega)) (hx.gb (g _ _ _) (by simp)) (hx'.gb (g _ _ _) (by simp)) (hy.gb (g _ _ _) (by simp)) (hy'.gb (g _ _ _) (by simp))
 ·exact (by repeat(first| (with_reducible exact Ac _ _)| (with_reducible assumption)| (with_reducible exact AU (by assumption))| (with_reducible refine Ad ?_ _)| (with_reducible refine Am ?_)| (with_reducible refine A3 ?_ _)| ((with_reducible refine Ay ?_ _ _ ?h2);case h2=>first|exact .inl rfl|exact .inr (Nat.le_refl _)|exact .inr (by simp<;>omega))| (with_reducible refine Ah ?_ (by assumption))| (with_reducible refine Aa ?_ (by assumption))))
structure KpR(b:Nat)(tv:Value)(l:List Tok)(w:World)(L:Nat)(wr:World)(x:Ex)(pa:Option Addr)(pc:Nat)(la:Option Addr)(lc:Nat)(st:RS):Prop where
 rr:Rr wr b tv l st
 blk:Blk wr L (hdC x.h (.slice pa x.h.p.length pc) (.slice la x.kids.len lc)) 27
 rp:Cells wr (.slice pa x.h.p.length pc) 1 x.h.p.length (x.h.p.map str) (but w L)
 rl:RepL (but w L) wr (.slice la x.kids.len lc) x.kids
 gr:w.grownBy wr (some b)
 bL:b<L
 wL:w.heap.size<L
 zero:Blk wr w.heap.size zeroE 27
section
variable {b:Nat}{tv:Value}{l:List Tok}{w wr w1:World}{L:Nat}{x y z:Ex}{pa la ya ma:Option Addr}{pc lc yc mc:Nat}{st st':RS}
theorem KpR.gb(h:KpR b tv l w L wr x pa pc la lc st)(hb:b<w.heap.size)(g:wr.grownBy w1 (some b))(hp:Rr w1 b tv l st'):KpR b tv l w L w1 x pa pc la lc st':=
 ⟨hp,h.blk.gb g (by have:=h.bL;simp;omega),h.rp.gb g (by intro q hq _ e;cases e;have:=hq.1;omega),h.rl.gb g (by intro q hq _ e;cases e;have:=hq.1;omega),Aa h.gr g,h.bL,h.wL,h.zero.gb g (by simp;omega)⟩
theorem KpR.gbN(h:KpR b tv l w L wr x pa pc la lc st)(hb:b<w.heap.size)(g:wr.grownBy w1 none):KpR b tv l w L w1 x pa pc la lc st:=
 h.gb hb (AU g) (h.rr.gbN g)
theorem KpR.store(h:KpR b tv l w L wr x pa pc la lc st)(hb:b<w.heap.size)(zp:Cells wr (.slice ya z.h.p.length yc) 1 z.h.p.length (z.h.p.map str) (but w L))(zl:RepL (but w L) wr (.slice ma z.kids.len mc) z.kids):
 KpR b tv l w L (set7 wr L (.int .i64 z.h.op) (str z.h.s) (.int .i64 z.h.vk) (.int .i64 z.h.vn) (str z.h.vs) (.slice ya z.h.p.length yc) (.slice ma z.kids.len mc)) z ya yc ma mc st:=by
 have g7:=Ag wr L (.int .i64 z.h.op) (str z.h.s) (.int .i64 z.h.vk) (.int .i64 z.h.vn) (str z.h.vs) (.slice ya z.h.p.length yc) (.slice ma z.kids.len mc);have hbL:=h.bL;have hwL:=h.wL;have hk:∀q,but w L q→q<wr.heap.size→some q≠some L:=fun q hq _ e=>by cases e;exact hq.2 rfl
 exact⟨h.rr.gb g7 (by intro q e;cases e;exact hbL),(h.blk.set7 _ _ _ _ _ _ _).of_eq rfl rfl,zp.gb g7 hk,zl.gb g7 hk,Ar h.gr g7 (.inr (by omega)),hbL,hwL,h.zero.gb g7 (by simp;omega)⟩
theorem KpR.new{w0:World}(h0:b<w.heap.size)(hz:Blk w0 w.heap.size zeroE 27)(g0:w.grownBy w0 (some b))(hw0:w.heap.size<w0.heap.size)(g1:w0.grownBy w1 (some b))
 (rp:Cells w1 (.slice pa x.h.p.length pc) 1 x.h.p.length (x.h.p.map str) (AA w0.heap.size)) (rl:RepL (AA w0.heap.size) w1 (.slice la x.kids.len lc) x.kids) (h1:Rr w1 b tv l st):
 KpR b tv l w w1.heap.size (w1.alloc (.cells (hdC x.h (.slice pa x.h.p.length pc) (.slice la x.kids.len lc)).toArray 27 (0,0))) x pa pc la lc st:=by
 have hs1:=g1.size;have hb1:=h1.lt;have g:=World.grownBy_alloc w1 (.cells (hdC x.h (.slice pa x.h.p.length pc) (.slice la x.kids.len lc)).toArray 27 (0,0)) none;refine⟨h1.alloc _,Blk.new w1 _ _,(rp.mono ?_).gb g (by simp),(rl.mono ?_).gb g (by simp),Ad (Aa g0 g1) _,hb1,by omega,(hz.gb g1 (by simp;omega)).alloc _⟩;all_goals
  intro q hq hq2;have:w0.heap.size≤q:=hq;exact⟨by omega,by omega⟩
theorem KpR.two(h:KpR b tv l w L wr x pa pc la lc st)(hb:b<w.heap.size)(op:Int)(s:Bs)(zp:Cells wr (.slice ya z.h.p.length yc) 1 z.h.p.length (z.h.p.map str) (but w L))(zl:RepL (but w L) wr (.slice ma z.kids.len mc) z.kids):
 KpR b tv l w L ((set7 wr L (.int .i64 op) (str s) (.int .i64 0) (.int .i64 0) (str []) (.slice none 0 0) (.slice (some ⟨wr.heap.size,0,none⟩) 2 2)).alloc (.cells (hdC x.h (.slice pa x.h.p.length pc) (.slice la x.kids.len lc)++hdC z.h (.slice ya z.h.p.length yc) (.slice ma z.kids.len mc)).toArray 27 (0,0)))
  ⟨hd0 op s,.two x z⟩ none 0 (some ⟨wr.heap.size,0,none⟩) 2 st:=by
 have g7:=Ag wr L (.int .i64 op) (str s) (.int .i64 0) (.int .i64 0) (str []) (.slice none 0 0) (.slice (some ⟨wr.heap.size,0,none⟩) 2 2);have hsz:(set7 wr L (.int .i64 op) (str s) (.int .i64 0) (.int .i64 0) (str []) (.slice none 0 0) (.slice (some ⟨wr.heap.size,0,none⟩) 2 2)).heap.size=wr.heap.size:=by simp[set7]
 have hbL:=h.bL;have hwL:=h.wL;have hlt:=h.blk.lt;have hk:∀q,but w L q→q<wr.heap.size→some q≠some L:=fun q hq _ e=>by cases e;exact hq.2 rfl
 refine⟨(h.rr.gb g7 (by intro q e;cases e;exact hbL)).alloc _,((h.blk.set7 _ _ _ _ _ _ _).of_eq rfl rfl).alloc _,Cells.nil _ 1 _,?_,Ad (Ar h.gr g7 (.inr (by omega))) _,hbL,hwL,?_⟩
 ·exact RepL.two hsz.symm ⟨by omega,by omega⟩ (h.rp.gb g7 hk) (h.rl.gb g7 hk) (zp.gb g7 hk) (zl.gb g7 hk)
 ·exact(h.zero.gb g7 (by simp;omega)).alloc _
theorem KpR.ve(h:KpR b tv l w L wr x pa pc la lc st):VE (but w L) wr (exV x.h (.slice pa x.h.p.length pc) (.slice la x.kids.len lc)) x:=⟨_,_,_,_,rfl,h.rp,h.rl⟩
theorem Bf{w2:World}{ok:Nat→Prop}(h0:b<w.heap.size)(g:w.grownBy w1 (some b)){v:Value}(hv:VE ok w1 v x)(hok:∀k,ok k→w.heap.size<k)(hp:Rr w1 b tv l st)(g2:w1.grownBy w2 (some w.heap.size)):B5 b tv l w (VEx w) (x,st) (.returned v) w2:=
 ⟨Ar g g2 (.inr (Nat.le_refl _)),v,rfl,(hv.gb g2 (by intro q hq _ e;have:=hok q hq;cases e;omega)).mono (by intro q hq _;have:=hok q hq;show w.heap.size≤q;omega),hp.gb g2 (by intro q e;cases e;omega)⟩
theorem EG{W:World}{op:Int}{s:Bs}{ok:Nat→Prop}(h0:b<w.heap.size)(g:w.grownBy w1 (some b))
 (rp:Cells w1 (.slice pa x.h.p.length pc) 1 x.h.p.length (x.h.p.map str) ok) (rl:RepL ok w1 (.slice la x.kids.len lc) x.kids) (hok:∀k,ok k→w.heap.size<k) (hp:Rr w1 b tv l st) (g7:w1.grownBy W (some w.heap.size)) (hsz:W.heap.size=w1.heap.size):
 B5 b tv l w (VEx w) (⟨hd0 op s,.one x⟩,st) (.returned (exV (hd0 op s) (.slice none 0 0) (.slice (some ⟨w1.heap.size,0,none⟩) 1 1))) (W.alloc (Obj.cells #[Value.int IntKind.i64 x.h.op,str x.h.s,Value.int IntKind.i64 x.h.vk,Value.int IntKind.i64 x.h.vn,str x.h.vs,Value.slice pa x.h.p.length pc,Value.slice la x.kids.len lc] 27)):=by
 have hlt:=g.size;have rp':=rp.gb g7 (by intro q hq _ e;have:=hok q hq;cases e;omega);have rl':=rl.gb g7 (by intro q hq _ e;have:=hok q hq;cases e;omega);have hV:VE (AA w.heap.size) (W.alloc (Obj.cells #[Value.int IntKind.i64 x.h.op,str x.h.s,Value.int IntKind.i64 x.h.vk,Value.int IntKind.i64 x.h.vn,str x.h.vs,Value.slice pa x.h.p.length pc,Value.slice la x.kids.len lc] 27)) (exV (hd0 op s) (.slice none 0 0) (.slice (some ⟨w1.heap.size,0,none⟩) 1 1)) ⟨hd0 op s,.one x⟩:=
  VE.node (f:= .one x) (RepL.one (ok:=AA w.heap.size) (n:=w1.heap.size) hsz.symm (by show w.heap.size≤_;omega) (rp'.mono (by intro q hq _;have:=hok q hq;show w.heap.size≤q;omega)) (rl'.mono (by intro q hq _;have:=hok q hq;show w.heap.size≤q;omega)))
 exact⟨Ad (Ar g g7 (.inr (Nat.le_refl _))) _,_,rfl,hV,(hp.gb g7 (by intro q e;cases e;omega)).alloc _⟩
end
theorem MC(l:List Tok){s:Bs}(hs:s≠[])(st:RS):Au l [s] st=if A2 l s st then s else []:=by
 unfold Au A2;cases st.2 with
 |true=>simp
 | false=>
   simp only[Bool.false_eq_true,if_false,Bool.not_false,Bool.true_and,List.find?_cons,List.find?_nil];cases Ae (Ab l st.1) s<;>simp
theorem Ig{l:List Tok}{s:Bs}(hs:s≠[])(opnd:FR Ex)(n:Nat)(x:Ex)(st:RS):
 BE l [s] opnd (n+1) x st=if A2 l s st then(opnd (Aj l s st)).bind fun r=>BE l [s] opnd n (Aw s x r.1) r.2 else some (x,Aj l s st):=by
 rw[BE];unfold A7;rw[MC l hs];unfold Aj;cases A2 l s st with
 |true=>simp[hs,CV hs]
 |false=>simp[CH]
end Go.Proofs.YtgjdhajcnechdaaGreatDoor
