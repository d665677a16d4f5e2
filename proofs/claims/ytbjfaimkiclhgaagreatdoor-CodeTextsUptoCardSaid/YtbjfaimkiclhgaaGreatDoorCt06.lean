/-
  A strings.Builder of the call's own, with a frame that reaches above it: every block but its own two stands as it stood. Code: a text between quotes, the program's. SynI SynJ SynK SynL Expr Run Words
-/
import Derived.Test.YtbjfaimkiclhgaaGreatDoorCt04
import Derived.Test.YtbjfaimkiclhgaaGreatDoorPlain
import Derived.Lib.Builder
import Derived.Lib.AppendStr
import Derived.Laws.Externs
import Derived.Test.YtbjfaimkiclhgaaGreatDoorCt03
import Derived.Lib.SmallJoins
import Derived.Defers
import Derived.Recover
import Derived.Lib.ItoaMem
set_option linter.all false
set_option maxRecDepth 100000
set_option maxHeartbeats 8000000
namespace Go.Proofs.YtbjfaimkiclhgaaGreatDoor
open Go.Proofs.Tryz
open Go.RowKit
variable{w w1 w0:World}{b H k n:Nat}{p v tv wv:Value}{l:List Tok}{s:Bs}{wl:List Bs}{α:Type}{E:Nat->Res Ex}{day:Bs->Int}
def G7:(Tryz.prog.info? 5).map (λi=>(i.zero,i.size,i.bytes))=some (some (.int .u8 0),1,1):=by kernel_rfl
def AC(l:Bs):List Value:=l.map λb=> .int .u8 b.toNat
def N1(l:Bs):(AC l).length=l.length:=by simp[AC]
structure Bld(w:World)(b:Nat)(p v:Value)(l:Bs):Prop where
 blk:Blk w b [p,v] 86
 par:p= .pointer none\/p= .pointer (some ⟨b,0,none⟩)
 row:w.ownsRow (b+1) 5 1 v l.length (AC l)
structure FRb(w w':World)(b:Nat)(v:Value):Prop where
 os:w'.os=w.os
 tape:w'.tape=w.tape
 output:w'.output=w.output
 size:w.heap.size<=w'.heap.size
 block:∀k,k<w.heap.size->k≠b->v.ownBlock≠some k->w'.heap[k]? =w.heap[k]?
section
variable {w2:World}{v1:Value}{l:Bs}
def Bld.own(h:Bld w b p v l):∀k,v.ownBlock=some k->b<k/\k<w.heap.size:=λk e=>by have:=h.row.lt k e;omega
def Bld.lt(h:Bld w b p v l):b<w.heap.size:=h.blk.lt
def Bld.gbN(h:Bld w b p v l)(g:w.grownBy w1 none):Bld w1 b p v l:=
 ⟨h.blk.gb g (by simp),h.par,h.row.kept g (by cases v.ownBlock with|none=>exact .inl rfl|some _=>exact .inr (by simp))⟩
def Bld.new(w:World):Bld (w.alloc (.cells [.pointer none,.slice none 0 0].toArray 86 (0,0))) w.heap.size (.pointer none) (.slice none 0 0) []:=
 ⟨Blk.new _ _ _,.inl rfl,EC _ _ _ _⟩
def FRb.below(h:FRb w w1 b v)(hv:∀k,v.ownBlock=some k->b<k){B:Nat}(hB:B<=b)(h0:w0.heap.size=B)(g:w0.grownBy w none):w0.grownBy w1 none:=
 ⟨h.os.trans g.os,h.tape.trans g.tape,h.output.trans g.output,nT g.size h.size,λk hk hn=>(h.block k (Nat.lt_of_lt_of_le hk g.size) (by omega) (λe=>by have:=hv k e;omega)).trans (g.block k hk hn)⟩
def Bld.ne_bytes(h:Bld w b p v l){cs:Array Value}{t:TypeId}{m:Nat}(hH:w.heap[H]? =some (.cells cs t (m,m+1))):v.ownBlock≠some H:=by
 intro e;rcases h.row.2 with⟨rfl,_⟩| ⟨g,cap,cur,rfl,_,hg,_⟩
 ·simp[Value.ownBlock]at e
 ·simp only[Value.ownBlock,Option.some.injEq]at e;subst e;rw[hg]at hH;simp only[Option.some.injEq,Obj.cells.injEq,Prod.mk.injEq]at hH;omega
def NJ:(Tryz.prog.info? 86).map (·.size)=some 2:=by kernel_rfl
def VY:liesAt Tryz.prog Tryz.prog.depth 86 (2/Tryz.prog.cellsOf 86) 0 86 1=true:=by kernel_rfl
def OL(c0:w.cell? ⟨b,0,none⟩=some (.pointer none))(hsh:w.shape? b=some (86,2))(hfz:w.frozen? ⟨b,0,none⟩=false):
 Calls Tryz.prog 75 #[.pointer (some ⟨b,0,none⟩)] w λe w'=>e= .returned (.tuple #[])/\w'=w.setCell ⟨b,0,none⟩ (.pointer (some ⟨b,0,none⟩)):=by
 obtain⟨j,hj,hjs⟩:=Option.map_eq_some_iff.1 NJ;go_enter func75,ntmps75;go_wp2;rw[Lib.run_to_unsafe w ⟨b,0,none⟩ underlying83 underlying149 hj (by rw[hjs];decide) hsh (Nat.zero_lt_succ 1)];simp only[Result.andThen];rw[Oper.upon_value];go_wp2;rw[run_callFunc_extern func103 (by kernel_rfl) (by kernel_rfl) (by kernel_rfl) (e:=Extern.AbiNoEscape.same) (by kernel_rfl)];rw[Lib.run_noEscape];simp only[Result.andThen];rw[Oper.upon_value];go_wp2;rw[Lib.run_from_unsafe w ⟨b,0,none⟩ underlying149 underlying83 hj hsh VY];simp only[Result.andThen];rw[Oper.upon_value];go_wp2;go_end0;exact⟨rfl,rfl⟩
def Ps(c0:w.cell? ⟨b,0,none⟩=some (.pointer (some ⟨b,0,none⟩))):
 Calls Tryz.prog 75 #[.pointer (some ⟨b,0,none⟩)] w λe w'=>e= .returned (.tuple #[])/\w'=w:=by
 obtain⟨j,hj,hjs⟩:=Option.map_eq_some_iff.1 NJ;go_enter func75,ntmps75;go_wp2;rw[Lib.run_neq_ptr_same w _ underlying83 hj];go_wp2;go_end0;exact⟨rfl,rfl⟩
def L1(h:Bld w b p v l):Calls Tryz.prog 75 #[.pointer (some ⟨b,0,none⟩)] w λe w'=>e= .returned (.tuple #[])/\Bld w' b (.pointer (some ⟨b,0,none⟩)) v l/\w.grownBy w' (some b)/\w'.heap.size=w.heap.size:=by
 rcases h.par with e|e
 ·have c0:w.cell? ⟨b,0,none⟩=some (.pointer none):=by rw[h.blk.cell' 0 (v:=p) rfl,e]
  refine(OL c0 (by simp[World.shape?,show w.heap[b]? =_ from h.blk]) (h.blk.frozen 0)).mono ?_;rintro e w' ⟨rfl,rfl⟩;have gs:w.grownBy (w.setCell ⟨b,0,none⟩ (.pointer (some ⟨b,0,none⟩))) (some b):=Am (Aa _ _) 0 _;refine⟨rfl,⟨(h.blk.set 0 _).of_eq rfl rfl,.inr rfl,h.row.kept gs ?_⟩,gs,by simp[World.setCell]⟩;cases hv:v.ownBlock with
  |none=>exact .inl rfl
  |some q=>exact .inr (by have:=(h.own q hv).1;intro e;cases e;omega)
 ·subst e;have c0:w.cell? ⟨b,0,none⟩=some (.pointer (some ⟨b,0,none⟩)):=h.blk.cell' 0 rfl;refine(Ps c0).mono ?_;rintro e w' ⟨rfl,rfl⟩;exact⟨rfl,h,Aa _ _,rfl⟩
def FRb.of(g1:w.grownBy w1 (some b))(g2:w1.grownBy w2 v.ownBlock){w3:World}(g3:w2.grownBy w3 (some b)):FRb w w3 b v:=
 ⟨g3.os.trans (g2.os.trans g1.os),g3.tape.trans (g2.tape.trans g1.tape),g3.output.trans (g2.output.trans g1.output),nT g1.size (nT g2.size g3.size),
  λk hk h1 h2=>(g3.block k (Nat.lt_of_lt_of_le hk (nT g1.size g2.size)) (by simpa using h1)).trans ((g2.block k (Nat.lt_of_lt_of_le hk g1.size) (λe=>h2 e.symm)).trans (g1.block k hk (by simpa using h1)))⟩
def Bld.put{v2:Value}{l2:Bs}(hb:Blk w b [.pointer (some ⟨b,0,none⟩),v] 86)(ho:w.ownsRow (b+1) 5 1 v2 l2.length (AC l2)):Bld (w.setCell ⟨b,1,none⟩ v2) b (.pointer (some ⟨b,0,none⟩)) v2 l2:=by
 have gs:w.grownBy (w.setCell ⟨b,1,none⟩ v2) (some b):=Am (Aa _ _) 1 _;refine⟨(hb.set 1 _).of_eq rfl rfl,.inr rfl,ho.kept gs ?_⟩;cases hv:v2.ownBlock with
 |none=>exact .inl rfl
 |some q=>exact .inr (by have:=(ho.lt q hv).1;intro e;cases e;omega)
def Ij(h:Bld w b p v l)(hl:l.length<=100000000000)(c:UInt8):
 Calls Tryz.prog 47 #[.pointer (some ⟨b,0,none⟩),.int .u8 c.toNat] w λe w'=>e= .returned .nilIface/\∃p' v',Bld w' b p' v' (l++[c])/\FRb w w' b v:=by
 have HC:=S (L1 h);obtain⟨i0,HI⟩:=iPz G7;clear h;go_enter func47,ntmps47;go_wp2_with fail;refine HC.1.mono ?_;rintro e w1 ⟨rfl,h1,g1,hs1⟩;have c1:w1.cell? ⟨b,1,none⟩=some v:=h1.blk.cell' 1 rfl;have hlt:=h1.lt;have HH:=S (X h1 g1);have HO:=S h1.own;clear h1 g1 hs1 HC;go_wp2_with (at_builtin;go_loud(refine wpList_append_lies _ rfl _ _ 84 rfl (b+1) 5 i0 (.int .u8 0) 1 1 underlying84 HI.1.1 HI.1.2.1 HI.1.2.2.1 HI.1.2.2.2 rfl (by decide) v l.length (AC l) rfl (Cr HH.1.1.row (gZ _ _ none) (by simp)) ⟨w1.heap.size,0,none⟩ 1 1 [.int .u8 c.toNat] rfl rfl (AY _ _ _) (by simp[Value.oneCell']) (by decide) (by unfold maxLen;omega) (by omega) (by simp<;>omega) _ rfl ?_;intro g cap w6 hown hgrow hat hlt6;(have hb7:=(HH.1.1.blk.alloc (.cells [.int .u8 (c.toNat:Int)].toArray 5 (0,0))).gb hgrow (λe=>by have:=HO.1 _ e.symm;omega));(have d1:=hb7.cell 1);(have f1:=hb7.frozen 1);(have l7:=hb7.lt);(have HE:=S (X hown (X hgrow hb7)));clear hown hgrow hat hb7));go_ret;exact⟨rfl,_,_,Bld.put HE.1.2.2 (by simpa[AC]using HE.1.1),FRb.of HH.1.2 (Z (gZ _ _ _) HE.1.2.1) (Am (Aa _ _) 1 _)⟩
def Il(h:Bld w b p v l)(s:Bs)(hl:l.length+s.length<=100000000000):
 Calls Tryz.prog 45 #[.pointer (some ⟨b,0,none⟩),str s] w λe w'=>e= .returned (.tuple #[.int .i64 s.length,.nilIface])/\∃p' v',Bld w' b p' v' (l++s)/\FRb w w' b v:=by
 have HC:=S (L1 h);obtain⟨i0,HI⟩:=iPz G7;have hsz:(⟨s.toArray⟩:ByteArray).size=s.length:=by simp[ByteArray.size]
 have HS:=S (show Lib.strCells ⟨s.toArray⟩=AC s by simp[Lib.strCells,AC]);clear h;go_enter func45,ntmps45;go_wp2_with fail;refine HC.1.mono ?_;rintro e w1 ⟨rfl,h1,g1,hs1⟩;have c1:w1.cell? ⟨b,1,none⟩=some v:=h1.blk.cell' 1 rfl;have hlt:=h1.lt;have HH:=S (X h1 g1);have HO:=S h1.own;clear h1 g1 hs1 HC;go_wp2_with (at_builtin;go_loud(refine Lib.wpList_append_own_string _ rfl _ _ 84 9 rfl (b+1) 5 i0 underlying84 underlying9 HI.1.1 HI.1.2.1 HI.1.2.2.1 HI.1.2.2.2 v l.length (AC l) rfl HH.1.1.row ⟨s.toArray⟩ rfl (by rw[hsz];unfold maxLen;omega) (by rw[hsz];omega) (by omega) ?_;intro v6 w6 hown hgrow hx6;obtain⟨a6,n6,c6,rfl⟩:∃ao n' cap,v6= .slice ao n' cap:=(by rcases hown.2 with⟨hv,_⟩| ⟨g,cap,cur,hv,_⟩;exact⟨_,_,_,hv⟩;exact⟨_,_,_,hv⟩);(have hb7:=HH.1.1.blk.gb hgrow (λe=>by have:=HO.1 _ e.symm;omega));(have d1:=hb7.cell 1);(have f1:=hb7.frozen 1);(have l7:=hb7.lt);(have HE:=S (X hown (X hgrow hb7)));clear hown hgrow hx6 hb7));exact bZ (v:= .tuple #[.int .i64 s.length,.nilIface]) (by simp[results,results45,go_sem]) rfl ⟨rfl,_,_,Bld.put HE.1.2.2 (by have h9:=HE.1.1;rw[HS.1,hsz]at h9;simpa[AC]using h9),FRb.of HH.1.2 HE.1.2.1 (Am (Aa _ _) 1 _)⟩
def SJ(h:Bld w b p v l)(h0:l≠[]):
 Calls Tryz.prog 48 #[.pointer (some ⟨b,0,none⟩)] w λe w'=>e= .returned (str l)/\∀w0:World,w0.grownBy w none->w0.heap.size<=b->w0.grownBy w' none:=by
 have hb:Lib.IsBuilder 86 5 b b (Lib.byteCells l) w:=by
  have hr:w.ownsRow b 5 1 v (Lib.byteCells l).length (Lib.byteCells l):=by
   have e:Lib.byteCells l=AC l:=rfl;rw[e,N1];obtain⟨h1,h2⟩:=h.row;refine⟨h1,?_⟩;rcases h2 with h2| ⟨g,cap,cur,e1,hbg,hrest⟩
   ·exact .inl h2
   ·exact .inr ⟨g,cap,cur,e1,by omega,hrest⟩
  have hne:v.ownBlock≠some b:=λe=>by have:=(h.own b e).1;omega
  rcases h.par with e|e
  ·exact .inl ⟨nR _,v,by rw[<-e];exact h.blk,hr,hne⟩
  ·exact .inr ⟨nR _,v,by rw[<-e];exact h.blk,hr,hne⟩
 refine(Builder_String b b l w hb h0).mono ?_;rintro e w' ⟨rfl,k⟩;exact⟨rfl,λw0 g hb=>⟨k.os.trans g.os,k.tape.trans g.tape,k.output.trans g.output,nT g.size k.size,λi hi hn=>(k.block i (by omega)).trans (g.block i hi hn)⟩⟩
end
def A3(n:Nat):UInt8:=UInt8.ofNat (if n<10 then 48+n else 87+n)
def Ch(b:UInt8):Bool:=decide (b.toNat<32)||decide (126<b.toNat)||b.toNat==34||b.toNat==37
def qtB(b:UInt8):Bs:=if Ch b then [37,A3 (b.toNat/16),A3 (b.toNat%16)]else [b]
def Bi(s:Bs):Nat->Bs
 | 0=>[34]
 |k+1=>Bi s k++qtB (bAt s k)
def qtM(s:Bs):Bs:=Bi s s.length++[34]
def Lb(b:UInt8):1<=(qtB b).length/\(qtB b).length<=3:=by unfold qtB;split<;>simp
def K4(s:Bs)(k:Nat):(Bi s k).length<=3*k+1:=by
 induction k with
 |zero=>simp[Bi]
 | succ k ih=>
   have:=Lb (bAt s k);rw[Bi,lA];omega
def XY(n:Nat)(hn:n<16)(w:World):Calls Tryz.prog 76 #[.int .u8 n] w λe w'=>e= .returned (str [A3 n])/\w=w':=by
 have h:n=0\/n=1\/n=2\/n=3\/n=4\/n=5\/n=6\/n=7\/n=8\/n=9\/n=10\/n=11\/n=12\/n=13\/n=14\/n=15:=by omega
 rcases h with rfl|rfl|rfl|rfl|rfl|rfl|rfl|rfl|rfl|rfl|rfl|rfl|rfl|rfl|rfl|rfl
 all_goals
  go_enter func76,ntmps76;go_wp2;go_ret;exact⟨rfl,rfl⟩
def Fd(n:Nat)(hn:n<16)(i:Int)(hi:i=n)(w:World):Calls Tryz.prog 76 #[.int .u8 i] w λe w'=>e= .returned (str [A3 n])/\w=w':=by
 subst hi;exact XY n hn w
def BQ{b:UInt8}:b.toNat/16<16/\b.toNat%16<16:=by have:=b.toNat_lt;omega
structure Rng(w:World)(H:Nat)(s:Bs):Prop where
 byt:BytR s H w
 obj:∃cs t m,w.heap[H]? =some (.cells cs t (m,m+1))
def Rng.fr(h:Rng w H s)(f:FRb w w1 b v)(hb:H≠b)(hv:v.ownBlock≠some H):Rng w1 H s/\w1.heap[H]? =w.heap[H]?:=by
 have e:=f.block H h.byt.lt hb hv;have hsz:=Nat.lt_of_lt_of_le h.byt.lt f.size;refine⟨⟨⟨λj hj=>?_,λj hj=>?_,hsz⟩,?_⟩,e⟩
 ·rw[World.cell?_of_block e];exact h.byt.cell j hj
 ·rw[World.frozen?_of_block e];exact h.byt.fr j hj
 ·rw[e];exact h.obj
def Rng.step{l:Bs}(h:Rng w H s)(hB:Bld w b p v l)(f:FRb w w1 b v)(hb:H≠b)(g:w0.grownBy w none)(h0:w0.heap.size<=b):Rng w1 H s/\w0.grownBy w1 none:=by
 obtain⟨cs,t,m,ho⟩:=h.obj;exact⟨(h.fr f hb (hB.ne_bytes ho)).1,f.below (λk e=>(hB.own k e).1) h0 rfl g⟩
def JQ(s:Bs)(hs:s.length<=1000000000)(w:World):
 Calls Tryz.prog 46 #[str s] w (ρ w (str (qtM s))):=by
 have hsz:(⟨s.toArray⟩:ByteArray).size=s.length:=by simp[ByteArray.size]
 have HN:=S (Bld.new w);go_enter func46,ntmps46;go_wp2_with fail;refine(Ij HN.1 (by simp) 34).mono ?_;rintro e w1 ⟨rfl,p1,v1,hB1,hF1⟩;have hconv:=run_bytes_of_string (P:=Tryz.prog) w1 9 84 5 ⟨s.toArray⟩ underlying9 underlying84 underlying5;rw[hsz]at hconv;generalize hcap:grownCap w1 s.length 0 5=cap at*;have gW:w1.grownBy (w1.drew.alloc (.cells (bytesRow ⟨s.toArray⟩ cap) 5 ((bytesRow ⟨s.toArray⟩ cap).size,(bytesRow ⟨s.toArray⟩ cap).size+1))) none:=Ac (Ae (Aa _ _)) _;have g1:w.grownBy w1 none:=hF1.below (λk e=>by simp[Value.ownBlock]at e) (nR _) rfl (gZ _ _ _);have hH:w.heap.size<w1.heap.size:=hB1.lt;have H0:=S (X (hB1.gbN gW) (X (show Rng _ w1.heap.size s from⟨BytR.new w1 s cap,_,_,_,heap_alloc_new _ _⟩) (Z g1 gW)));clear hB1 hF1 gW g1 hcap;generalize(w1.drew.alloc (.cells (bytesRow ⟨s.toArray⟩ cap) 5 ((bytesRow ⟨s.toArray⟩ cap).size,(bytesRow ⟨s.toArray⟩ cap).size+1)))=W at*;generalize w1.heap.size=H at*;go_wp2_with fail;go_loopg [5,10] s.length (λg v5 v10 wr=>∃k:Nat,∃p v:Value,k+g=s.length/\v10= .int .i64 k/\Bld wr w.heap.size p v (Bi s k)/\Rng wr H s/\w.grownBy wr none)
 case atStart=>exact⟨0,_,_,by omega,rfl,H0.1.1,H0.1.2.1,H0.1.2.2⟩
 case round=>
  obtain⟨k,p,v,hk,rfl,hB,hR,hG⟩:=hrel;clear H0 hconv;have hql:=K4 s k;cases gk with
  | zero=>
    have hkl:k=s.length:=by omega
    have hj1:decide (k<s.length)=false:=by simp;omega
    have HB:=S (X hB hG);clear hB hR hG;subst hkl;go_wp2_with fail;refine(Ij HB.1.1 (by omega) 34).mono ?_;rintro e w2 ⟨rfl,p2,v2,hB2,hF2⟩;have g2:=hF2.below (λq e=>(HB.1.1.own q e).1) (nR _) rfl HB.1.2;have HC:=S (X hB2 g2);clear hB2 hF2 g2;go_wp2_with fail;refine mR (SJ HC.1.1 (by simp)) λw3 g3=>?_;have HD:=S (g3 _ HC.1.2 (nR _));clear g3;go_wp2;go_ret;exact⟨rfl,HD.1⟩
  | succ gk=>
    have hkl:k<s.length:=by omega
    have hj1:decide (k<s.length)=true:=by simp;omega
    have ck:=hR.byt.cell k hkl;have hlt:=hR.byt.lt;have hc256:=(bAt s k).toNat_lt;have HB:=S (X hB (X hR hG));have HW:=S (fun(c:UInt8)=>Ij hB (by omega) c);have HS:=S (fun(t:Bs)(ht:t.length<=3)=>Il hB t (by omega));clear hB hR hG;by_cases h1:(bAt s k).toNat<32
    ·have i1:((bAt s k).toNat:Int)<32:=by omega
     have HE:=S (show Ch (bAt s k)=true by simp[Ch,h1]);go_wp2_with fail;refine(Fd ((bAt s k).toNat/16) BQ.1 _ (by omega) _).mono ?_;rintro e w2 ⟨rfl,rfl⟩;go_wp2_with fail;refine(Fd ((bAt s k).toNat%16) BQ.2 _ (by omega) _).mono ?_;rintro e w2 ⟨rfl,rfl⟩;go_wp2_with fail;rw[show Value.string ({data:=#[37]}++{data:=#[A3 ((bAt s k).toNat/16)]}++{data:=#[A3 ((bAt s k).toNat%16)]})=str [37,A3 ((bAt s k).toNat/16),A3 ((bAt s k).toNat%16)]from rfl];refine(HS.1 [37,A3 ((bAt s k).toNat/16),A3 ((bAt s k).toNat%16)] (by simp)).mono ?_;rintro e w2 ⟨rfl,p2,v2,hB2,hF2⟩;obtain⟨hR2,hG2⟩:=HB.1.2.1.step HB.1.1 hF2 (by omega) HB.1.2.2 (nR _);have HC:=S (X hB2 (X hR2 hG2));clear hB2 hF2 hR2 hG2;go_wp2;go_roundg gk
     case measure=>omega
     case rel=>exact⟨k+1,p2,v2,by omega,by go_num,by rw[Bi,qtB,if_pos HE.1];exact HC.1.1,HC.1.2.1,HC.1.2.2⟩
    by_cases h2:126<(bAt s k).toNat
    ·have i1:¬((bAt s k).toNat:Int)<32:=by omega
     have i2:126<((bAt s k).toNat:Int):=by omega
     have HE:=S (show Ch (bAt s k)=true by simp[Ch,h2]);go_wp2_with fail;refine(Fd ((bAt s k).toNat/16) BQ.1 _ (by omega) _).mono ?_;rintro e w2 ⟨rfl,rfl⟩;go_wp2_with fail;refine(Fd ((bAt s k).toNat%16) BQ.2 _ (by omega) _).mono ?_;rintro e w2 ⟨rfl,rfl⟩;go_wp2_with fail;rw[show Value.string ({data:=#[37]}++{data:=#[A3 ((bAt s k).toNat/16)]}++{data:=#[A3 ((bAt s k).toNat%16)]})=str [37,A3 ((bAt s k).toNat/16),A3 ((bAt s k).toNat%16)]from rfl];refine(HS.1 [37,A3 ((bAt s k).toNat/16),A3 ((bAt s k).toNat%16)] (by simp)).mono ?_;rintro e w2 ⟨rfl,p2,v2,hB2,hF2⟩;obtain⟨hR2,hG2⟩:=HB.1.2.1.step HB.1.1 hF2 (by omega) HB.1.2.2 (nR _);have HC:=S (X hB2 (X hR2 hG2));clear hB2 hF2 hR2 hG2;go_wp2;go_roundg gk
     case measure=>omega
     case rel=>exact⟨k+1,p2,v2,by omega,by go_num,by rw[Bi,qtB,if_pos HE.1];exact HC.1.1,HC.1.2.1,HC.1.2.2⟩
    by_cases h3:(bAt s k).toNat=34
    ·have i1:¬((bAt s k).toNat:Int)<32:=by omega
     have i2:¬126<((bAt s k).toNat:Int):=by omega
     have i3:((bAt s k).toNat:Int)=34:=by omega
     have i4:(((bAt s k).toNat:Int)==34)=true:=by simpa using i3
     have HE:=S (show Ch (bAt s k)=true by simp[Ch,h3]);clear i3 h3;go_wp2_with fail;refine(Fd ((bAt s k).toNat/16) BQ.1 _ (by omega) _).mono ?_;rintro e w2 ⟨rfl,rfl⟩;go_wp2_with fail;refine(Fd ((bAt s k).toNat%16) BQ.2 _ (by omega) _).mono ?_;rintro e w2 ⟨rfl,rfl⟩;go_wp2_with fail;rw[show Value.string ({data:=#[37]}++{data:=#[A3 ((bAt s k).toNat/16)]}++{data:=#[A3 ((bAt s k).toNat%16)]})=str [37,A3 ((bAt s k).toNat/16),A3 ((bAt s k).toNat%16)]from rfl];refine(HS.1 [37,A3 ((bAt s k).toNat/16),A3 ((bAt s k).toNat%16)] (by simp)).mono ?_;rintro e w2 ⟨rfl,p2,v2,hB2,hF2⟩;obtain⟨hR2,hG2⟩:=HB.1.2.1.step HB.1.1 hF2 (by omega) HB.1.2.2 (nR _);have HC:=S (X hB2 (X hR2 hG2));clear hB2 hF2 hR2 hG2;go_wp2;go_roundg gk
     case measure=>omega
     case rel=>exact⟨k+1,p2,v2,by omega,by go_num,by rw[Bi,qtB,if_pos HE.1];exact HC.1.1,HC.1.2.1,HC.1.2.2⟩
    by_cases h4:(bAt s k).toNat=37
    ·have i1:¬((bAt s k).toNat:Int)<32:=by omega
     have i2:¬126<((bAt s k).toNat:Int):=by omega
     have i4:(((bAt s k).toNat:Int)==34)=false:=by simp;omega
     have i5:(((bAt s k).toNat:Int)==37)=true:=by simp;omega
     have HE:=S (show Ch (bAt s k)=true by simp[Ch,h4]);clear h4;go_wp2_with fail;refine(Fd ((bAt s k).toNat/16) BQ.1 _ (by omega) _).mono ?_;rintro e w2 ⟨rfl,rfl⟩;go_wp2_with fail;refine(Fd ((bAt s k).toNat%16) BQ.2 _ (by omega) _).mono ?_;rintro e w2 ⟨rfl,rfl⟩;go_wp2_with fail;rw[show Value.string ({data:=#[37]}++{data:=#[A3 ((bAt s k).toNat/16)]}++{data:=#[A3 ((bAt s k).toNat%16)]})=str [37,A3 ((bAt s k).toNat/16),A3 ((bAt s k).toNat%16)]from rfl];refine(HS.1 [37,A3 ((bAt s k).toNat/16),A3 ((bAt s k).toNat%16)] (by simp)).mono ?_;rintro e w2 ⟨rfl,p2,v2,hB2,hF2⟩;obtain⟨hR2,hG2⟩:=HB.1.2.1.step HB.1.1 hF2 (by omega) HB.1.2.2 (nR _);have HC:=S (X hB2 (X hR2 hG2));clear hB2 hF2 hR2 hG2;go_wp2;go_roundg gk
     case measure=>omega
     case rel=>exact⟨k+1,p2,v2,by omega,by go_num,by rw[Bi,qtB,if_pos HE.1];exact HC.1.1,HC.1.2.1,HC.1.2.2⟩
    have i1:¬((bAt s k).toNat:Int)<32:=by omega
    have i2:¬126<((bAt s k).toNat:Int):=by omega
    have i4:(((bAt s k).toNat:Int)==34)=false:=by simp;omega
    have i5:(((bAt s k).toNat:Int)==37)=false:=by simp;omega
    have HE:=S (show Ch (bAt s k)=false by simp[Ch,h1,h2,h3,h4]);go_wp2_with fail;refine(HW.1 (bAt s k)).mono ?_;rintro e w2 ⟨rfl,p2,v2,hB2,hF2⟩;obtain⟨hR2,hG2⟩:=HB.1.2.1.step HB.1.1 hF2 (by omega) HB.1.2.2 (nR _);have HC:=S (X hB2 (X hR2 hG2));clear hB2 hF2 hR2 hG2;go_wp2;go_roundg gk
    case measure=>omega
    case rel=>exact⟨k+1,p2,v2,by omega,by go_num,by rw[Bi,qtB,HE.1];exact HC.1.1,HC.1.2.1,HC.1.2.2⟩
section
def Post.split{w':World}{V:World->Value->α->Prop}{r:Res α}{e:Ending}(h:Post b tv wv l wl w V r e w'):
 w.grownBy w' (some b)/\((∃q,r= .bad q/\e= .panicked (GG q))\/∃x j v,r= .ok x j/\e= .returned v/\V w' v x/\Par w' b tv wv l wl j):=by
 obtain⟨g,h⟩:=h;cases r with
 |out=>exact h.elim
 |bad q=>exact⟨g,.inl ⟨q,rfl,h⟩⟩
 | ok x j=>
   obtain⟨v,h1,h2,h3⟩:=h;exact⟨g,.inr ⟨x,j,v,rfl,h1,h2,h3⟩⟩
variable {wr:World}{L j:Nat}{x y z:Ex}{pa la ya ma:Option Addr}{pc lc yc mc:Nat}
def Kept.new(hb:b<w.heap.size)(gr:w.grownBy wr (some b))(hz:Blk wr w.heap.size zeroE 163)(hp:Par wr b tv wv l wl j)
 (rp:Cells wr (.slice pa x.h.p.length pc) 1 x.h.p.length (x.h.p.map str) (λg=>w.heap.size<g)) (rl:RepL (λg=>w.heap.size<g) wr (.slice la x.kids.len lc) x.kids)  (hn:n=wr.heap.size):
 Kept b tv wv l wl w n (wr.alloc (.cells (hdC x.h (.slice pa x.h.p.length pc) (.slice la x.kids.len lc)).toArray 163 (0,0))) x pa pc la lc j:=by
 subst hn;have g:=gZ wr (.cells (hdC x.h (.slice pa x.h.p.length pc) (.slice la x.kids.len lc)).toArray 163 (0,0)) none;have hz1:=hz.lt;have hp1:=hp.lt;refine⟨hp.alloc _,Blk.new wr _ _,(rp.mono ?_).gb g (by simp),(rl.mono ?_).gb g (by simp),Ac gr _,hp1,hz1,hz.alloc _⟩;all_goals
  intro q hq hq2;exact⟨hq,by omega⟩
def Kept.leaf(hb:b<w.heap.size)(gr:w.grownBy wr (some b))(hz:Blk wr w.heap.size zeroE 163)(hp:Par wr b tv wv l wl j)(op:Int)(s:Bs)(hn:n=wr.heap.size):
 Kept b tv wv l wl w n (wr.alloc (.cells (hdC (hd0 op s) (.slice none 0 0) (.slice none 0 0)).toArray 163 (0,0))) ⟨hd0 op s,.nil⟩ none 0 none 0 j:=
 Kept.new (x:=⟨hd0 op s,.nil⟩) (pa:=none) (pc:=0) (la:=none) (lc:=0) hb gr hz hp (Cells.nil _ _ _) (RepL.nil _ _) hn
def Kept.one(hb:b<w.heap.size)(gr:w.grownBy wr (some b))(hz:Blk wr w.heap.size zeroE 163)(hp:Par wr b tv wv l wl j)(op:Int)(s:Bs)
 (zp:Cells wr (.slice ya z.h.p.length yc) 1 z.h.p.length (z.h.p.map str) (λg=>w.heap.size<g)) (zl:RepL (λg=>w.heap.size<g) wr (.slice ma z.kids.len mc) z.kids):
 Kept b tv wv l wl w (wr.heap.size+1) ((wr.alloc (.cells (hdC z.h (.slice ya z.h.p.length yc) (.slice ma z.kids.len mc)).toArray 163 (0,0))).alloc (.cells (hdC (hd0 op s) (.slice none 0 0) (.slice (some ⟨wr.heap.size,0,none⟩) 1 1)).toArray 163 (0,0)))
  ⟨hd0 op s,.one z⟩ none 0 (some ⟨wr.heap.size,0,none⟩) 1 j:=
 Kept.new (x:=⟨hd0 op s,.one z⟩) (pa:=none) (pc:=0) (lc:=1) hb (Ac gr _) (hz.alloc _) (hp.alloc _) (Cells.nil _ _ _) (RepL.one rfl (by have:=hz.lt;show w.heap.size<_;omega) zp zl) (by simp)
def Kept.kid1(h:Kept b tv wv l wl w L wr x pa pc la lc j)(hb:b<w.heap.size)(zp:Cells wr (.slice ya z.h.p.length yc) 1 z.h.p.length (z.h.p.map str) (but w L))(zl:RepL (but w L) wr (.slice ma z.kids.len mc) z.kids):
 Kept b tv wv l wl w L ((wr.setCell ⟨L,6,none⟩ (.slice (some ⟨wr.heap.size,0,none⟩) 1 1)).alloc (.cells (hdC z.h (.slice ya z.h.p.length yc) (.slice ma z.kids.len mc)).toArray 163 (0,0)))
  ⟨x.h,.one z⟩ pa pc (some ⟨wr.heap.size,0,none⟩) 1 j:=by
 have g7:wr.grownBy (wr.setCell ⟨L,6,none⟩ (.slice (some ⟨wr.heap.size,0,none⟩) 1 1)) (some L):=Af (Aa _ _) _ _ (.inl rfl);have hsz:(wr.setCell ⟨L,6,none⟩ (.slice (some ⟨wr.heap.size,0,none⟩) 1 1)).heap.size=wr.heap.size:=by simp
 have hbL:=h.bL;have hwL:=h.wL;have hlt:=h.blk.lt;have hk:∀q,but w L q->q<wr.heap.size->some q≠some L:=λq hq _ e=>by cases e;exact hq.2 rfl
 exact⟨(h.par.gb g7 (by intro q e;cases e;exact hbL)).alloc _,((h.blk.set 6 _).of_eq rfl rfl).alloc _,(h.rp.gb g7 hk).gb (gZ _ _ none) (by simp),RepL.one hsz.symm ⟨by omega,by omega⟩ (zp.gb g7 hk) (zl.gb g7 hk),Ac (Ap h.gr g7 (.inr (by omega))) _,hbL,hwL,(h.zero.gb g7 (by simp;omega)).alloc _⟩
def KO{L:Nat}(i:Nat)(v:Value):wr.grownBy (wr.setCell ⟨L,i,none⟩ v) (some L):=Af (Aa _ _) _ _ (.inl rfl)
def Kept.kids(h:Kept b tv wv l wl w L wr x pa pc la lc j)(hb:b<w.heap.size){f:Fo}(rl:RepL (but w L) wr (.slice ma f.len mc) f):
 Kept b tv wv l wl w L (wr.setCell ⟨L,6,none⟩ (.slice ma f.len mc)) ⟨x.h,f⟩ pa pc ma mc j:=by
 have g7:wr.grownBy (wr.setCell ⟨L,6,none⟩ (.slice ma f.len mc)) (some L):=KO 6 _;have hbL:=h.bL;have hwL:=h.wL;have hlt:=h.blk.lt;have hk:∀q,but w L q->q<wr.heap.size->some q≠some L:=λq hq _ e=>by cases e;exact hq.2 rfl
 exact⟨h.par.gb g7 (by intro q e;cases e;exact hbL),(h.blk.set 6 _).of_eq rfl rfl,h.rp.gb g7 hk,rl.gb g7 hk,Ap h.gr g7 (.inr (by omega)),hbL,hwL,h.zero.gb g7 (by simp;omega)⟩
def Kept.names(h:Kept b tv wv l wl w L wr x pa pc la lc j)(hb:b<w.heap.size){p:List Bs}(rp:Cells wr (.slice ma p.length mc) 1 p.length (p.map str) (but w L)):
 Kept b tv wv l wl w L (wr.setCell ⟨L,5,none⟩ (.slice ma p.length mc)) ⟨{x.h with p:=p},x.kids⟩ ma mc la lc j:=by
 have g7:wr.grownBy (wr.setCell ⟨L,5,none⟩ (.slice ma p.length mc)) (some L):=KO 5 _;have hbL:=h.bL;have hwL:=h.wL;have hlt:=h.blk.lt;have hk:∀q,but w L q->q<wr.heap.size->some q≠some L:=λq hq _ e=>by cases e;exact hq.2 rfl
 exact⟨h.par.gb g7 (by intro q e;cases e;exact hbL),(h.blk.set 5 _).of_eq rfl rfl,rp.gb g7 hk,h.rl.gb g7 hk,Ap h.gr g7 (.inr (by omega)),hbL,hwL,h.zero.gb g7 (by simp;omega)⟩
def Kept.op(h:Kept b tv wv l wl w L wr x pa pc la lc j)(hb:b<w.heap.size)(op:Int):
 Kept b tv wv l wl w L (wr.setCell ⟨L,0,none⟩ (.int .i64 op)) ⟨{x.h with op:=op},x.kids⟩ pa pc la lc j:=by
 have g7:wr.grownBy (wr.setCell ⟨L,0,none⟩ (.int .i64 op)) (some L):=KO 0 _;have hbL:=h.bL;have hwL:=h.wL;have hlt:=h.blk.lt;have hk:∀q,but w L q->q<wr.heap.size->some q≠some L:=λq hq _ e=>by cases e;exact hq.2 rfl
 exact⟨h.par.gb g7 (by intro q e;cases e;exact hbL),(h.blk.set 0 _).of_eq rfl rfl,h.rp.gb g7 hk,h.rl.gb g7 hk,Ap h.gr g7 (.inr (by omega)),hbL,hwL,h.zero.gb g7 (by simp;omega)⟩
def N2(hE:CE 208 b tv wv l wl E)(hgo:F9 E)(hl:Ay l)(n:Nat):CE 303 b tv wv l wl (DH l E n):=by
 intro w i hp ho;have hb:=hp.lt;have gr:w.grownBy (w.alloc (.cells zeroE.toArray 163 (0,0))) (some b):=Ac (Aa _ _) _;have hz:=Blk.new w zeroE 163;replace hp:=hp.alloc (.cells zeroE.toArray 163 (0,0));have H:=S (X hE (X hgo (X hl ho)));generalize hR:DH l E n i=R at*;have HQ:=S hR;rw[DH]at HQ;clear hE hgo hl ho hR;go_enter func303,ntmps303;go_wp2_with fail;refine(B6 hp H.1.2.2.1).mono ?_;intro e w1 hq;obtain⟨g,⟨q,hr,rfl⟩| ⟨s,j,v,hr,rfl,rfl,hp⟩⟩:=hq.split
 ·exact PBd gr g HQ hr
 replace gr:=Z gr g;replace HQ:=HQo HQ hr;clear hr;have hk:=Kept.leaf hb gr (hz.gb g (by simp;omega)) hp 3 s rfl;have HK:=S hk;have hs1:=hk.blk.lt;clear hk g hz;go_wp2_with fail;replace gr:=HK.1.gr;refine(CL HK.1.par [40]).mono ?_;intro e w2 hq;obtain⟨g,⟨q,hr,rfl⟩| ⟨_,j2,v,hr,rfl,rfl,hp⟩⟩:=hq.split
 ·exact PBd gr g HQ hr
 replace gr:=Z gr g;replace HQ:=HQo HQ hr;clear hr;have hk:=HK.1.gb hb g hp;cases hs:Ah (Ab l j2) [41]
 case' true=>
  rw[if_pos hs]at HQ;go_wp2_with fail;refine(Bp hp _ hs).mono ?_;rintro e w3 ⟨rfl,hp,g⟩;replace hk:=hk.gb hb g hp
 case' false=>
  rw[if_neg (nF hs)]at HQ;go_wp2_with fail;refine mR (Bf hp _ hs) λw3 g=>?_;replace hk:=hk.gbN hb g;replace hp:=hk.par;replace gr:=hk.gr;have hlt:=hk.blk.lt;have hwL:=hk.wL;go_wp2_with fail;refine(IJ H.1.1 H.1.2.1 hp n (λe=>H.1.2.2.2 (by rw[<-HQ.1,e];rfl))).mono ?_;intro e w4 hq;obtain⟨g,⟨q,hr,rfl⟩| ⟨f,j3,v,hr,rfl,⟨ma,mc,rfl,rl⟩,hp⟩⟩:=hq.split
  ·exact PBd gr g HQ hr
  replace gr:=Z gr g;replace HQ:=HQo HQ hr;clear hr;replace hk:=hk.gb hb g hp;have hk2:=hk.kids hb (rl.mono λg hg _=>(⟨by have:w3.heap.size<=g:=hg;omega,by have:w3.heap.size<=g:=hg;omega⟩:but w w1.heap.size g));have hL:=hk.blk;obtain⟨cl_0,cl_1,cl_2,cl_3,cl_4,cl_5,cl_6,cl_f⟩:=(hL).c7;clear hk rl;go_wp2_with fail;replace gr:=hk2.gr;refine(CL hk2.par [41]).mono ?_;intro e w5 hq;obtain⟨g,⟨q,hr,rfl⟩| ⟨_,j4,v,hr,rfl,rfl,hp⟩⟩:=hq.split
  ·exact PBd gr g HQ hr
  replace gr:=Z gr g;replace HQ:=HQo HQ hr;clear hr;have hk:=hk2.gb hb g hp;clear cl_0 cl_1 cl_2 cl_3 cl_4 cl_5 cl_6 cl_f hk2 hL g
 all_goals
  have hL:=hk.blk;have hZ:=hk.zero;have hwL:=hk.wL;have HK:=S hk;clear hk hp;obtain⟨cl_0,cl_1,cl_2,cl_3,cl_4,cl_5,cl_6,cl_f⟩:=(hL).c7;have cz_:=hZ.c7;go_wp2;have hk:=HK.1;exact bZ (AK rfl _ (hZ.set7 _ _ _ _ _ _ _) rfl) rfl (Bw hb HQ.1.symm hk.gr ⟨_,_,_,_,rfl,hk.rp,hk.rl⟩ (by intro k hk;exact hk.1) hk.par (A0 _ _ _ _ _ _ _ _ _))
def Nc(hE:CE 208 b tv wv l wl E)(hl:Ay l):CE 330 b tv wv l wl (DD l E):=by
 intro w i hp ho;have hb:=hp.lt;have gr:w.grownBy (w.alloc (.cells zeroE.toArray 163 (0,0))) (some b):=Ac (Aa _ _) _;have hz:=Blk.new w zeroE 163;replace hp:=hp.alloc (.cells zeroE.toArray 163 (0,0));have H:=S (X hE (X hl ho));generalize hR:DD l E i=R at*;have HQ:=S hR;rw[DD]at HQ;clear hE hl ho hR;go_enter func330,ntmps330;go_wp2_with fail;refine(CL hp [38]).mono ?_;intro e w1 hq;obtain⟨g,⟨q,hr,rfl⟩| ⟨_,j,v,hr,rfl,rfl,hp⟩⟩:=hq.split
 ·exact PBd gr g HQ hr
 replace gr:=Z gr g;replace HQ:=HQo HQ hr;clear hr;replace hz:=hz.gb g (by simp;omega);cases hs:Ah (Ab l j) [40]with
 | true=>
   rw[if_pos hs]at HQ;go_wp2_with fail;refine(Bp hp _ hs).mono ?_;rintro e w2 ⟨rfl,hp,g⟩;replace hz:=hz.gb g (by simp;omega);replace gr:=Z gr g;have hs2:=hz.lt;clear g;go_wp2_with fail;refine(H.1.1 _ _ hp (λe=>H.1.2.2 (by rw[<-HQ.1,e];rfl))).mono ?_;intro e w3 hq;obtain⟨g,⟨q,hr,rfl⟩| ⟨x,j2,v,hr,rfl,⟨pa,pc,la,lc,rfl,rp,rl⟩,hp⟩⟩:=hq.split
   ·exact PBd gr g HQ hr
   replace gr:=Z gr g;replace HQ:=HQo HQ hr;clear hr;replace hz:=hz.gb g (by simp;omega);have hk:=Kept.one hb gr hz hp 9 [] (rp.mono λg hg _=>by have:w2.heap.size<=g:=hg;show w.heap.size<g;omega) (rl.mono λg hg _=>by have:w2.heap.size<=g:=hg;show w.heap.size<g;omega);clear rp rl hz g;go_wp2_with fail;replace gr:=hk.gr;refine(CL hk.par [41]).mono ?_;intro e w4 hq;obtain⟨g,⟨q,hr,rfl⟩| ⟨_,j3,v,hr,rfl,rfl,hp⟩⟩:=hq.split
   ·exact PBd gr g HQ hr
   replace gr:=Z gr g;replace HQ:=HQo HQ hr;clear hr;replace hk:=hk.gb hb g hp;clear g;have hL:=hk.blk;have hZ:=hk.zero;have hwL:=hk.wL;have HK:=S hk;clear hk hp;have cl_:=hL.c7;have cz_:=hZ.c7;go_wp2;have hk:=HK.1;exact bZ (AK rfl _ (hZ.set7 _ _ _ _ _ _ _) rfl) rfl (Bw hb HQ.1.symm hk.gr ⟨_,_,_,_,rfl,hk.rp,hk.rl⟩ (by intro k hk;exact hk.1) hk.par (A0 _ _ _ _ _ _ _ _ _))
 | false=>
   rw[if_neg (nF hs)]at HQ;go_wp2_with fail;refine mR (Bf hp _ hs) λw2 g=>?_;replace hz:=hz.gb g (by simp);replace gr:=Ag gr g;replace hp:=hp.gbN g;clear g;go_wp2_with fail;refine(B6 hp H.1.2.1).mono ?_;intro e w3 hq;obtain⟨g,⟨q,hr,rfl⟩| ⟨s,j2,v,hr,rfl,rfl,hp⟩⟩:=hq.split
   ·exact PBd gr g HQ hr
   replace gr:=Z gr g;replace HQ:=HQo HQ hr;clear hr;replace hz:=hz.gb g (by simp;omega);have hk:=Kept.leaf hb gr hz hp 9 s rfl;clear hz g;have hs3:=hk.blk.lt;cases hs:Ah (Ab l j2) [46]
   case' true=>
    rw[if_pos hs]at HQ;go_wp2_with fail;refine(Bp hk.par _ hs).mono ?_;rintro e w4 ⟨rfl,hp,g⟩;replace hk:=hk.gb hb g hp
   case' false=>
    rw[if_neg (nF hs)]at HQ;go_wp2_with fail;refine mR (Bf hk.par _ hs) λw4 g=>?_;replace hk:=hk.gbN hb g
   all_goals
    have hL:=hk.blk;have hZ:=hk.zero;have hwL:=hk.wL;have HK:=S hk;clear hk hp;have cl_:=hL.c7;have cz_:=hZ.c7;go_wp2;have hk:=HK.1;exact bZ (AK rfl _ (hZ.set7 _ _ _ _ _ _ _) rfl) rfl (Bw hb HQ.1.symm hk.gr ⟨_,_,_,_,rfl,hk.rp,hk.rl⟩ (by intro k hk;exact hk.1) hk.par (A0 _ _ _ _ _ _ _ _ _))
end
def Res.bind_assoc{β γ:Type}(r:Res α)(f:α->Nat->Res β)(g:β->Nat->Res γ):(r.bind f).bind g=r.bind λa i=>(f a i).bind g:=by cases r<;>rfl
def RA(hE:CE 208 b tv wv l wl E)(hgo:F9 E)(hl:Ay l)(n:Nat):CE 368 b tv wv l wl (DO l E n):=by
 intro w i hp ho;have hb:=hp.lt;have gr:w.grownBy (w.alloc (.cells zeroE.toArray 163 (0,0))) (some b):=Ac (Aa _ _) _;have hz:=Blk.new w zeroE 163;replace hp:=hp.alloc (.cells zeroE.toArray 163 (0,0));have H:=S (X hE (X hgo (X hl ho)));generalize hR:DO l E n i=R at*;have HQ:=S hR;rw[DO]at HQ;have hk:=Kept.leaf (n:=w.heap.size+1) hb gr hz hp 7 [] (by simp);clear hE hgo hl ho hR hz gr;go_enter func368,ntmps368;go_wp2_with fail;cases hs:Ah (Ab l i) [124]with
 | true=>
   rw[if_pos hs]at HQ;refine(Bp hk.par _ hs).mono ?_;rintro e w1 ⟨rfl,hp,g⟩;replace hk:=hk.gb hb g hp;have hk8:=hk.op hb 8;have hL:=hk.blk;obtain⟨cl_0,cl_1,cl_2,cl_3,cl_4,cl_5,cl_6,cl_f⟩:=(hL).c7;have hlt:=hL.lt;clear hk g;cases hs:Ah (Ab l (i+1)) [124]
   case' true=>
    rw[if_pos hs,Res.bind_ok]at HQ;go_wp2_with fail;refine(Bp hk8.par _ hs).mono ?_;rintro e w2 ⟨rfl,hp,g⟩;have hk:=hk8.gb hb g hp;clear cl_0 cl_1 cl_2 cl_3 cl_4 cl_5 cl_6 cl_f hL hk8 g hp hlt
   case' false=>
    rw[if_neg (nF hs),Res.bind_assoc]at HQ;go_wp2_with fail;refine mR (Bf hk8.par _ hs) λw2 g=>?_;have hk:=hk8.gbN hb g;clear cl_0 cl_1 cl_2 cl_3 cl_4 cl_5 cl_6 cl_f hL hk8 g hp hlt;have hp:=hk.par;have gr:=hk.gr;have hltW:=hk.blk.lt;have hwL:=hk.wL;go_wp2_with fail;refine(Nh hp H.1.2.2.1 n (λe=>H.1.2.2.2 (by rw[<-HQ.1,e];rfl))).mono ?_;intro e w3 hq;obtain⟨g,⟨q,hr,rfl⟩| ⟨p,j3,v,hr,rfl,⟨ma,mc,rfl,rp⟩,hp⟩⟩:=hq.split
    ·exact PBd gr g HQ hr
    replace gr:=Z gr g;replace HQ:=HQo HQ hr;clear hr;replace hk:=hk.gb hb g hp;have hk2:=hk.names hb (rp.mono λg hg _=>(⟨by have:w2.heap.size<=g:=hg;omega,by have:w2.heap.size<=g:=hg;omega⟩:but w (w.heap.size+1) g));have hL:=hk.blk;obtain⟨cl_0,cl_1,cl_2,cl_3,cl_4,cl_5,cl_6,cl_f⟩:=(hL).c7;have hlt:=hL.lt;clear hk rp g;go_wp2_with fail;replace gr:=hk2.gr;rw[Res.bind_assoc]at HQ;refine(CL hk2.par [124]).mono ?_;intro e w4 hq;obtain⟨g,⟨q,hr,rfl⟩| ⟨_,j4,v,hr,rfl,rfl,hp⟩⟩:=hq.split
    ·exact PBd gr g HQ hr
    replace gr:=Z gr g;replace HQ:=HQo HQ hr;clear hr;rw[Res.bind_ok]at HQ;have hk:=hk2.gb hb g hp;clear cl_0 cl_1 cl_2 cl_3 cl_4 cl_5 cl_6 cl_f hL hk2 g hp gr hltW hwL hlt
   all_goals
    have hp:=hk.par;have gr:=hk.gr;have hltW:=hk.blk.lt;have hwL:=hk.wL;go_wp2_with fail;refine(H.1.1 _ _ hp (λe=>H.1.2.2.2 (by rw[<-HQ.1,e];rfl))).mono ?_;intro e wx hq;obtain⟨g,⟨q,hr,rfl⟩| ⟨x,jx,v,hr,rfl,⟨pa,pc,la,lc,rfl,rp,rl⟩,hp⟩⟩:=hq.split
    ·exact PBd gr g HQ hr
    replace gr:=Z gr g;replace HQ:=HQo HQ hr;clear hr;replace hk:=hk.gb hb g hp;have HK1:=S (hk.kid1 hb (rp.mono λg hg _=>(⟨by have:_<=g:=hg;omega,by have:_<=g:=hg;omega⟩:but w _ g)) (rl.mono λg hg _=>(⟨by have:_<=g:=hg;omega,by have:_<=g:=hg;omega⟩:but w _ g)));have hL:=hk.blk;obtain⟨cl_0,cl_1,cl_2,cl_3,cl_4,cl_5,cl_6,cl_f⟩:=(hL).c7;have hlt:=hL.lt;clear hk rp rl g;go_wp2_with fail;have hk:=HK1.1;replace gr:=hk.gr;refine(CL hk.par [125]).mono ?_;intro e wy hq;obtain⟨g,⟨q,hr,rfl⟩| ⟨_,jy,v,hr,rfl,rfl,hp⟩⟩:=hq.split
    ·exact PBd gr g HQ hr
    replace gr:=Z gr g;replace HQ:=HQo HQ hr;clear hr;replace hk:=hk.gb hb g hp;clear cl_0 cl_1 cl_2 cl_3 cl_4 cl_5 cl_6 cl_f hL g HK1 hlt;have hL:=hk.blk;have hZ:=hk.zero;have hwL:=hk.wL;have HK:=S hk;clear hk hp;obtain⟨cl_0,cl_1,cl_2,cl_3,cl_4,cl_5,cl_6,cl_f⟩:=(hL).c7;have cz_:=hZ.c7;go_wp2;have hk:=HK.1;exact bZ (AK rfl _ (hZ.set7 _ _ _ _ _ _ _) rfl) rfl (Bw hb HQ.1.symm hk.gr ⟨_,_,_,_,rfl,hk.rp,hk.rl⟩ (by intro k hk;exact hk.1) hk.par (A0 _ _ _ _ _ _ _ _ _))
 | false=>
   rw[if_neg (nF hs)]at HQ;refine mR (Bf hk.par _ hs) λw3 g=>?_;replace hk:=hk.gbN hb g;replace hp:=hk.par;have gr:=hk.gr;have hlt:=hk.blk.lt;have hwL:=hk.wL;go_wp2_with fail;refine(IJ H.1.1 H.1.2.1 hp n (λe=>H.1.2.2.2 (by rw[<-HQ.1,e];rfl))).mono ?_;intro e w4 hq;obtain⟨g,⟨q,hr,rfl⟩| ⟨f,j3,v,hr,rfl,⟨ma,mc,rfl,rl⟩,hp⟩⟩:=hq.split
   ·exact PBd gr g HQ hr
   replace gr:=Z gr g;replace HQ:=HQo HQ hr;clear hr;replace hk:=hk.gb hb g hp;have hk2:=hk.kids hb (rl.mono λg hg _=>(⟨by have:w3.heap.size<=g:=hg;omega,by have:w3.heap.size<=g:=hg;omega⟩:but w (w.heap.size+1) g));have hL:=hk.blk;obtain⟨cl_0,cl_1,cl_2,cl_3,cl_4,cl_5,cl_6,cl_f⟩:=(hL).c7;have hlt:=hL.lt;clear hk rl;go_wp2_with fail;replace gr:=hk2.gr;refine(CL hk2.par [125]).mono ?_;intro e w5 hq;obtain⟨g,⟨q,hr,rfl⟩| ⟨_,j4,v,hr,rfl,rfl,hp⟩⟩:=hq.split
   ·exact PBd gr g HQ hr
   replace gr:=Z gr g;replace HQ:=HQo HQ hr;clear hr;have hk:=hk2.gb hb g hp;clear cl_0 cl_1 cl_2 cl_3 cl_4 cl_5 cl_6 cl_f hL hk2 g;have hL:=hk.blk;have hZ:=hk.zero;have hwL:=hk.wL;have HK:=S hk;clear hk hp;obtain⟨cl_0,cl_1,cl_2,cl_3,cl_4,cl_5,cl_6,cl_f⟩:=(hL).c7;have cz_:=hZ.c7;go_wp2;have hk:=HK.1;exact bZ (AK rfl _ (hZ.set7 _ _ _ _ _ _ _) rfl) rfl (Bw hb HQ.1.symm hk.gr ⟨_,_,_,_,rfl,hk.rp,hk.rl⟩ (by intro k hk;exact hk.1) hk.par (A0 _ _ _ _ _ _ _ _ _))
def Mt(n:Int)(w:World):Calls Tryz.prog 359 #[.int .i64 n] w (ρ w (exV (A6 2 n []).h (.slice none 0 0) (.slice none 0 0))):=by
 go_enter func359,ntmps359;go_wp2;refine bZ (v:=exV (A6 2 n []).h (.slice none 0 0) (.slice none 0 0)) ?_ rfl ⟨rfl,(Ac (Aa _ _) _)⟩;simp[results,results359,go_sem,A6]
def Na(n:Int)(w:World):Calls Tryz.prog 367 #[.int .i64 n] w (ρ w (exV (A6 1 n []).h (.slice none 0 0) (.slice none 0 0))):=by
 go_enter func367,ntmps367;go_wp2;refine bZ (v:=exV (A6 1 n []).h (.slice none 0 0) (.slice none 0 0)) ?_ rfl ⟨rfl,(Ac (Aa _ _) _)⟩;simp[results,results367,go_sem,A6]
def SC(hE:CE 208 b tv wv l wl E)(hgo:F9 E)(hl:Ay l)(n:Nat):CE 361 b tv wv l wl (Ep l E n):=by
 intro w i hp ho;have hb:=hp.lt;have gr:w.grownBy (w.alloc (.cells zeroE.toArray 163 (0,0))) (some b):=Ac (Aa _ _) _;have hz:=Blk.new w zeroE 163;replace hp:=hp.alloc (.cells zeroE.toArray 163 (0,0));have H:=S (X hE (X hgo (X hl ho)));generalize hR:Ep l E n i=R at*;have HQ:=S hR;rw[Ep]at HQ;clear hE hgo hl ho hR;go_enter func361,ntmps361;go_wp2_with fail;refine mR (Bn hp) λw1 g=>?_;replace hz:=hz.gb g (by simp);replace gr:=Ag gr g;replace hp:=hp.gbN g;clear g;have hs0:=hz.lt;go_wp2_with fail;refine mR (EY _ _ _ [38] _) λw2 g=>?_;replace hz:=hz.gb g (by simp);replace gr:=Ag gr g;replace hp:=hp.gbN g;replace hs0:=hz.lt;clear g;cases hs:Ah (Ab l i) [38]with
 | true=>
   have hs':((Ab l i).kind==4&&(Ab l i).text==[38])=true:=hs;rw[hs'];rw[if_pos hs]at HQ;go_wp2_with fail;refine(Nc H.1.1 H.1.2.2.1 _ _ hp (λe=>H.1.2.2.2 (by rw[<-HQ.1,e]))).mono ?_;intro e w3 hq;obtain⟨g,⟨q,hr,rfl⟩| ⟨x,j,v,hr,rfl,⟨pa,pc,la,lc,rfl,rp,rl⟩,hp⟩⟩:=hq.split
   ·exact⟨rfl,Post.bad (Z gr g) (by rw[<-HQ.1,hr])⟩
   replace gr:=Z gr g;rw[hr]at HQ;clear hr;replace hz:=hz.gb g (by simp;omega);have cz_:=hz.c7;have HV:=S (X rp rl);clear rp rl g;go_wp2;exact bZ (AK rfl _ (hz.set7 _ _ _ _ _ _ _) rfl) rfl (Bw hb HQ.1.symm gr ⟨_,_,_,_,rfl,HV.1.1,HV.1.2⟩ (by intro k hk;have:_<=k:=hk;omega) hp (A0 _ _ _ _ _ _ _ _ _))
 |false=>
 have hs':((Ab l i).kind==4&&(Ab l i).text==[38])=false:=hs;rw[hs'];clear hs';rw[if_neg (nF hs)]at HQ;go_wp2_with fail;cases hs:Ah (Ab l i) [46,84,46]with
 | true=>
   refine(Bp hp _ hs).mono ?_;rintro e w3 ⟨rfl,hp',g⟩;replace hz:=hz.gb g (by simp;omega);replace gr:=Z gr g;replace hp:=hp';have hs0:=hz.lt;clear g;rw[if_pos hs]at HQ;go_wp2_with fail;refine mR (Na _ _) λw4 g=>?_;replace hz:=hz.gb g (by simp);replace gr:=Ag gr g;replace hp:=hp.gbN g;clear g;have cz_:=hz.c7;go_wp2;exact bZ (AK (hd:=(A6 1 1 []:Ex).h) (pv:= .slice none 0 0) (lv:= .slice none 0 0) rfl _ (hz.set7 _ _ _ _ _ _ _) rfl) rfl (Bw (ok:=λk=>w.heap.size<k) (x:=A6 1 1 []) hb HQ.1.symm gr ⟨none,0,none,0,rfl,Cells.nil _ _ _,RepL.nil _ _⟩ (λk hk=>hk) hp (A0 _ _ _ _ _ _ _ _ _))
 |false=>
 refine mR (Bf hp _ hs) λw3 g=>?_;replace hz:=hz.gb g (by simp);replace gr:=Ag gr g;replace hp:=hp.gbN g;clear g;rw[if_neg (nF hs)]at HQ;go_wp2_with fail;cases hs:Ah (Ab l i) [46,70,46]with
 | true=>
   refine(Bp hp _ hs).mono ?_;rintro e w4 ⟨rfl,hp',g⟩;replace hz:=hz.gb g (by simp;omega);replace gr:=Z gr g;replace hp:=hp';have hs0:=hz.lt;clear g;rw[if_pos hs]at HQ;go_wp2_with fail;refine mR (Na _ _) λw5 g=>?_;replace hz:=hz.gb g (by simp);replace gr:=Ag gr g;replace hp:=hp.gbN g;clear g;have cz_:=hz.c7;go_wp2;exact bZ (AK (hd:=(A6 1 0 []:Ex).h) (pv:= .slice none 0 0) (lv:= .slice none 0 0) rfl _ (hz.set7 _ _ _ _ _ _ _) rfl) rfl (Bw (ok:=λk=>w.heap.size<k) (x:=A6 1 0 []) hb HQ.1.symm gr ⟨none,0,none,0,rfl,Cells.nil _ _ _,RepL.nil _ _⟩ (λk hk=>hk) hp (A0 _ _ _ _ _ _ _ _ _))
 |false=>
 refine mR (Bf hp _ hs) λw4 g=>?_;replace hz:=hz.gb g (by simp);replace gr:=Ag gr g;replace hp:=hp.gbN g;clear g;rw[if_neg (nF hs)]at HQ;go_wp2_with fail;cases hs:Ah (Ab l i) [46,78,85,76,76,46]with
 | true=>
   refine(Bp hp _ hs).mono ?_;rintro e w5 ⟨rfl,hp',g⟩;replace hz:=hz.gb g (by simp;omega);replace gr:=Z gr g;replace hp:=hp';have hs0:=hz.lt;clear g;rw[if_pos hs]at HQ;have cz_:=hz.c7;go_wp2;exact bZ (AK (hd:=(A6 0 0 []:Ex).h) (pv:= .slice none 0 0) (lv:= .slice none 0 0) rfl _ (hz.set7 _ _ _ _ _ _ _) rfl) rfl (Bw (ok:=λk=>w.heap.size<k) (x:=A6 0 0 []) hb HQ.1.symm gr ⟨none,0,none,0,rfl,Cells.nil _ _ _,RepL.nil _ _⟩ (λk hk=>hk) hp (A0 _ _ _ _ _ _ _ _ _))
 |false=>
 refine mR (Bf hp _ hs) λw5 g=>?_;replace hz:=hz.gb g (by simp);replace gr:=Ag gr g;replace hp:=hp.gbN g;clear g;rw[if_neg (nF hs)]at HQ;go_wp2_with fail;cases hs:Ah (Ab l i) [40]with
 | true=>
   refine(Bp hp _ hs).mono ?_;rintro e w6 ⟨rfl,hp',g⟩;replace hz:=hz.gb g (by simp;omega);replace gr:=Z gr g;replace hp:=hp';have hs0:=hz.lt;clear g;rw[if_pos hs]at HQ;go_wp2_with fail;refine(H.1.1 _ _ hp (λe=>H.1.2.2.2 (by rw[<-HQ.1,e];rfl))).mono ?_;intro e w7 hq;obtain⟨g,⟨q,hr,rfl⟩| ⟨x,j,v,hr,rfl,⟨pa,pc,la,lc,rfl,rp,rl⟩,hp⟩⟩:=hq.split
   ·exact PBd gr g HQ hr
   replace gr:=Z gr g;replace HQ:=HQo HQ hr;clear hr;replace hz:=hz.gb g (by simp;omega);have hk:=Kept.new hb gr hz hp (rp.mono λg hg _=>by have:w6.heap.size<=g:=hg;show w.heap.size<g;omega) (rl.mono λg hg _=>by have:w6.heap.size<=g:=hg;show w.heap.size<g;omega) rfl;clear rp rl g hz;go_wp2_with fail;replace gr:=hk.gr;refine(CL hk.par [41]).mono ?_;intro e w8 hq;obtain⟨g,⟨q,hr,rfl⟩| ⟨_,j2,v,hr,rfl,rfl,hp⟩⟩:=hq.split
   ·exact PBd gr g HQ hr
   replace gr:=Z gr g;replace HQ:=HQo HQ hr;clear hr;replace hk:=hk.gb hb g hp;clear g;have hL:=hk.blk;have hZ:=hk.zero;have hwL:=hk.wL;have HK:=S hk;clear hk hp;have cl_:=hL.c7;have cz_:=hZ.c7;go_wp2;have hk:=HK.1;exact bZ (AK rfl _ (hZ.set7 _ _ _ _ _ _ _) rfl) rfl (Bw hb HQ.1.symm hk.gr ⟨_,_,_,_,rfl,hk.rp,hk.rl⟩ (by intro k hk;exact hk.1) hk.par (A0 _ _ _ _ _ _ _ _ _))
 |false=>
 refine mR (Bf hp _ hs) λw6 g=>?_;replace hz:=hz.gb g (by simp);replace gr:=Ag gr g;replace hp:=hp.gbN g;clear g;rw[if_neg (nF hs)]at HQ;go_wp2_with fail;cases hs:Ah (Ab l i) [64]with
 | true=>
   refine(Bp hp _ hs).mono ?_;rintro e w7 ⟨rfl,hp',g⟩;replace hz:=hz.gb g (by simp;omega);replace gr:=Z gr g;replace hp:=hp';have hs0:=hz.lt;clear g;rw[if_pos hs]at HQ;go_wp2_with fail;refine(B6 hp H.1.2.2.1).mono ?_;intro e w8 hq;obtain⟨g,⟨q,hr,rfl⟩| ⟨s,j,v,hr,rfl,rfl,hp⟩⟩:=hq.split
   ·exact PBd gr g HQ hr
   replace gr:=Z gr g;replace HQ:=HQo HQ hr;clear hr;replace hz:=hz.gb g (by simp;omega);clear g;have cz_:=hz.c7;go_wp2;exact bZ (AK (hd:=(⟨hd0 10 s,.nil⟩:Ex).h) (pv:= .slice none 0 0) (lv:= .slice none 0 0) rfl _ (hz.set7 _ _ _ _ _ _ _) rfl) rfl (Bw (ok:=λk=>w.heap.size<k) (x:=⟨hd0 10 s,.nil⟩) hb HQ.1.symm gr ⟨none,0,none,0,rfl,Cells.nil _ _ _,RepL.nil _ _⟩ (λk hk=>hk) hp (A0 _ _ _ _ _ _ _ _ _))
 |false=>
 refine mR (Bf hp _ hs) λw7 g=>?_;replace hz:=hz.gb g (by simp);replace gr:=Ag gr g;replace hp:=hp.gbN g;clear g;rw[if_neg (nF hs)]at HQ;go_wp2_with fail;cases hs:Ah (Ab l i) [123]with
 | true=>
   refine(Bp hp _ hs).mono ?_;rintro e w8 ⟨rfl,hp',g⟩;replace hz:=hz.gb g (by simp;omega);replace gr:=Z gr g;replace hp:=hp';have hs0:=hz.lt;clear g;rw[if_pos hs]at HQ;go_wp2_with fail;refine(RA H.1.1 H.1.2.1 H.1.2.2.1 n _ _ hp (λe=>H.1.2.2.2 (by rw[<-HQ.1,e]))).mono ?_;intro e w9 hq;obtain⟨g,⟨q,hr,rfl⟩| ⟨x,j,v,hr,rfl,⟨pa,pc,la,lc,rfl,rp,rl⟩,hp⟩⟩:=hq.split
   ·exact⟨rfl,Post.bad (Z gr g) (by rw[<-HQ.1,hr])⟩
   replace gr:=Z gr g;rw[hr]at HQ;clear hr;replace hz:=hz.gb g (by simp;omega);have cz_:=hz.c7;have HV:=S (X rp rl);clear rp rl g;go_wp2;exact bZ (AK rfl _ (hz.set7 _ _ _ _ _ _ _) rfl) rfl (Bw hb HQ.1.symm gr ⟨_,_,_,_,rfl,HV.1.1,HV.1.2⟩ (by intro k hk;have:_<=k:=hk;omega) hp (A0 _ _ _ _ _ _ _ _ _))
 |false=>
 refine mR (Bf hp _ hs) λw8 g=>?_;replace hz:=hz.gb g (by simp);replace gr:=Ag gr g;replace hp:=hp.gbN g;clear g;rw[if_neg (nF hs)]at HQ;go_wp2_with fail;refine(DQ hp.c1).mono ?_;rintro e w9 ⟨rfl,rfl⟩;exact⟨rfl,Post.bad gr HQ.1.symm⟩
def TZ(hE:CE 208 b tv wv l wl E)(hgo:F9 E)(hl:Ay l)(n:Nat):CE 360 b tv wv l wl (Et l E n):=by
 intro w i hp ho;have hb:=hp.lt;have gr:w.grownBy (w.alloc (.cells zeroE.toArray 163 (0,0))) (some b):=Ac (Aa _ _) _;have hz:=Blk.new w zeroE 163;replace hp:=hp.alloc (.cells zeroE.toArray 163 (0,0));have H:=S (X hE (X hgo (X hl ho)));generalize hR:Et l E n i=R at*;have HQ:=S hR;rw[Et]at HQ;clear hE hgo hl ho hR;go_enter func360,ntmps360;go_wp2_with fail;refine mR (Hs hp) λw1 g=>?_;replace hz:=hz.gb g (by simp);replace gr:=Ag gr g;replace hp:=hp.gbN g;clear g;have hs0:=hz.lt;go_wp2_with fail;refine mR (EY _ _ _ [40] _) λw2 g=>?_;replace hz:=hz.gb g (by simp);replace gr:=Ag gr g;replace hp:=hp.gbN g;replace hs0:=hz.lt;clear g;cases hs:Ah (Ab l (i+1)) [40]with
 | true=>
   have hs':((Ab l (i+1)).kind==4&&(Ab l (i+1)).text==[40])=true:=hs;rw[hs'];rw[if_pos hs]at HQ;go_wp2_with fail;refine(N2 H.1.1 H.1.2.1 H.1.2.2.1 n _ _ hp (λe=>H.1.2.2.2 (by rw[<-HQ.1,e]))).mono ?_;intro e w3 hq;obtain⟨g,⟨q,hr,rfl⟩| ⟨x,j,v,hr,rfl,⟨pa,pc,la,lc,rfl,rp,rl⟩,hp⟩⟩:=hq.split
   ·exact⟨rfl,Post.bad (Z gr g) (by rw[<-HQ.1,hr])⟩
   replace gr:=Z gr g;rw[hr]at HQ;clear hr;replace hz:=hz.gb g (by simp;omega);have cz_:=hz.c7;have HV:=S (X rp rl);clear rp rl g;go_wp2;exact bZ (AK rfl _ (hz.set7 _ _ _ _ _ _ _) rfl) rfl (Bw hb HQ.1.symm gr ⟨_,_,_,_,rfl,HV.1.1,HV.1.2⟩ (by intro k hk;have:_<=k:=hk;omega) hp (A0 _ _ _ _ _ _ _ _ _))
 |false=>
 have hs':((Ab l (i+1)).kind==4&&(Ab l (i+1)).text==[40])=false:=hs;rw[hs'];clear hs';rw[if_neg (nF hs)]at HQ;go_wp2_with fail;refine(LB hp H.1.2.2.1).mono ?_;intro e w3 hq;obtain⟨g,⟨q,hr,rfl⟩| ⟨s,j,v,hr,rfl,rfl,hp⟩⟩:=hq.split
 ·exact PBd gr g HQ hr
 replace gr:=Z gr g;replace HQ:=HQo HQ hr;clear hr;replace hz:=hz.gb g (by simp;omega);clear g;go_wp2_with fail;cases hs:Ah (Ab l j) [45,62]with
 | false=>
   refine mR (Bf hp _ hs) λw4 g=>?_;replace hz:=hz.gb g (by simp);replace gr:=Ag gr g;replace hp:=hp.gbN g;clear g;rw[if_neg (nF hs)]at HQ;have cz_:=hz.c7;go_wp2;exact bZ (AK (hd:=(AH s:Ex).h) (pv:= .slice none 0 0) (lv:= .slice none 0 0) rfl _ (hz.set7 _ _ _ _ _ _ _) rfl) rfl (Bw (ok:=λk=>w.heap.size<k) (x:=AH s) hb HQ.1.symm gr ⟨none,0,none,0,rfl,Cells.nil _ _ _,RepL.nil _ _⟩ (λk hk=>hk) hp (A0 _ _ _ _ _ _ _ _ _))
 |true=>
 refine(Bp hp _ hs).mono ?_;rintro e w4 ⟨rfl,hp',g⟩;replace hz:=hz.gb g (by simp;omega);replace gr:=Z gr g;replace hp:=hp';have hs0:=hz.lt;clear g;rw[if_pos hs]at HQ;go_wp2_with fail;cases hs:Ah (Ab l (j+1)) [40]with
 | true=>
   refine(Bp hp _ hs).mono ?_;rintro e w5 ⟨rfl,hp',g⟩;replace hz:=hz.gb g (by simp;omega);replace gr:=Z gr g;replace hp:=hp';have hs0:=hz.lt;clear g;rw[if_pos hs]at HQ;go_wp2_with fail;refine(H.1.1 _ _ hp (λe=>H.1.2.2.2 (by rw[<-HQ.1,e];rfl))).mono ?_;intro e w6 hq;obtain⟨g,⟨q,hr,rfl⟩| ⟨x,j2,v,hr,rfl,⟨pa,pc,la,lc,rfl,rp,rl⟩,hp⟩⟩:=hq.split
   ·exact PBd gr g HQ hr
   replace gr:=Z gr g;replace HQ:=HQo HQ hr;clear hr;replace hz:=hz.gb g (by simp;omega);have hk:=Kept.new hb gr hz hp (rp.mono λg hg _=>by have:w5.heap.size<=g:=hg;show w.heap.size<g;omega) (rl.mono λg hg _=>by have:w5.heap.size<=g:=hg;show w.heap.size<g;omega) rfl;clear rp rl g hz;go_wp2_with fail;replace gr:=hk.gr;refine(CL hk.par [41]).mono ?_;intro e w7 hq;obtain⟨g,⟨q,hr,rfl⟩| ⟨_,j3,v,hr,rfl,rfl,hp⟩⟩:=hq.split
   ·exact PBd gr g HQ hr
   replace gr:=Z gr g;replace HQ:=HQo HQ hr;clear hr;replace hk:=hk.gb hb g hp;clear g;have hz:=hk.zero;have hL:=hk.blk;have rp:=hk.rp.mono (ok':=λg=>w.heap.size<g) (λg hg _=>hg.1);have rl:=hk.rl.mono (ok':=λg=>w.heap.size<g) (λg hg _=>hg.1);have hwL:=hk.wL;have hltL:=hL.lt;clear hk;have cl_:=hL.c7;have HV:=S (X rp rl);clear rp rl;have cz_:=hz.c7;have hltz:=hz.lt;go_wp2;have g7:=A0 w7 w.heap.size (.int .i64 2) (str s) (.int .i64 0) (.int .i64 0) (str []) (.slice none 0 0) (.slice (some ⟨w7.heap.size,0,none⟩) 1 1);have hW:=hz.set7 (.int .i64 2) (str s) (.int .i64 0) (.int .i64 0) (str []) (.slice none 0 0) (.slice (some ⟨w7.heap.size,0,none⟩) 1 1);have hsz:(set7 w7 w.heap.size (.int .i64 2) (str s) (.int .i64 0) (.int .i64 0) (str []) (.slice none 0 0) (.slice (some ⟨w7.heap.size,0,none⟩) 1 1)).heap.size=w7.heap.size:=by simp[set7]
   simp only[set7]at hW g7 hsz;generalize(((((((w7.setCell {block:=w.heap.size,off:=0} (.int .i64 2)).setCell {block:=w.heap.size,off:=1} (str s)).setCell {block:=w.heap.size,off:=2} (.int .i64 0)).setCell {block:=w.heap.size,off:=3} (.int .i64 0)).setCell {block:=w.heap.size,off:=4} (str [])).setCell {block:=w.heap.size,off:=5} (.slice none 0 0)).setCell {block:=w.heap.size,off:=6} (.slice (some ⟨w7.heap.size,0,none⟩) 1 1))=W' at*;exact bZ (AK (hd:=hd0 2 s) (pv:= .slice none 0 0) (lv:= .slice (some ⟨w7.heap.size,0,none⟩) 1 1) rfl _ (Blk.alloc hW (Obj.cells #[Value.int IntKind.i64 x.h.op,str x.h.s,Value.int IntKind.i64 x.h.vk,Value.int IntKind.i64 x.h.vn,str x.h.vs,Value.slice pa x.h.p.length pc,Value.slice la x.kids.len lc] 163)) rfl) rfl (Hw (op:=2) (s:=s) hb HQ.1.symm gr HV.1.1 HV.1.2 (λk hk=>hk) hp g7 hsz)
 | false=>
   refine mR (Bf hp _ hs) λw5 g=>?_;replace hz:=hz.gb g (by simp);replace gr:=Ag gr g;replace hp:=hp.gbN g;clear g;rw[if_neg (nF hs)]at HQ;go_wp2_with fail;refine(LB hp H.1.2.2.1).mono ?_;intro e w6 hq;obtain⟨g,⟨q,hr,rfl⟩| ⟨t,j2,v,hr,rfl,rfl,hp⟩⟩:=hq.split
   ·exact PBd gr g HQ hr
   replace gr:=Z gr g;replace HQ:=HQo HQ hr;clear hr;replace hz:=hz.gb g (by simp;omega);clear g;have rp:=Cells.nil w6 1 (λg=>w.heap.size<g);have rl:=RepL.nil w6 (λg=>w.heap.size<g);have HV:=S (X rp rl);clear rp rl;have cz_:=hz.c7;have hltz:=hz.lt;go_wp2;have g7:=A0 w6 w.heap.size (.int .i64 2) (str s) (.int .i64 0) (.int .i64 0) (str []) (.slice none 0 0) (.slice (some ⟨w6.heap.size,0,none⟩) 1 1);have hW:=hz.set7 (.int .i64 2) (str s) (.int .i64 0) (.int .i64 0) (str []) (.slice none 0 0) (.slice (some ⟨w6.heap.size,0,none⟩) 1 1);have hsz:(set7 w6 w.heap.size (.int .i64 2) (str s) (.int .i64 0) (.int .i64 0) (str []) (.slice none 0 0) (.slice (some ⟨w6.heap.size,0,none⟩) 1 1)).heap.size=w6.heap.size:=by simp[set7]
   simp only[set7]at hW g7 hsz;generalize(((((((w6.setCell {block:=w.heap.size,off:=0} (.int .i64 2)).setCell {block:=w.heap.size,off:=1} (str s)).setCell {block:=w.heap.size,off:=2} (.int .i64 0)).setCell {block:=w.heap.size,off:=3} (.int .i64 0)).setCell {block:=w.heap.size,off:=4} (str [])).setCell {block:=w.heap.size,off:=5} (.slice none 0 0)).setCell {block:=w.heap.size,off:=6} (.slice (some ⟨w6.heap.size,0,none⟩) 1 1))=W' at*;exact bZ (AK (hd:=hd0 2 s) (pv:= .slice none 0 0) (lv:= .slice (some ⟨w6.heap.size,0,none⟩) 1 1) rfl _ (Blk.alloc hW (Obj.cells #[Value.int IntKind.i64 (AH t).h.op,str (AH t).h.s,Value.int IntKind.i64 (AH t).h.vk,Value.int IntKind.i64 (AH t).h.vn,str (AH t).h.vs,Value.slice none (AH t).h.p.length 0,Value.slice none (AH t).kids.len 0] 163)) rfl) rfl (Hw (op:=2) (s:=s) hb HQ.1.symm gr HV.1.1 HV.1.2 (λk hk=>hk) hp g7 hsz)
structure Ee(day:Bs->Int)(l:List Tok):Prop where
 short:Ay l
 num:∀i,(Ab l i).kind=1->(Ab l i).text.length<=18/\Lib.atoi (Ab l i).text=some (AA (Ab l i).text)
 date:∀i,(Ab l i).kind=3->∀w,Calls Tryz.prog 318 #[str (Ab l i).text] w λe w'=>(∃v,e= .returned (.tuple #[.int .i64 (day (Ab l i).text),v]))/\w.grownBy w' none
def Par.goA{i:Nat}(h:Par w b tv wv l wl i)(hi:i<l.length)(o:Obj):Par ((w.setCell ⟨b,1,none⟩ (.int .i64 (i+1))).alloc o) b tv wv l wl (i+1):=(h.goI _ _ (by omega) (by omega)).alloc o
def Xw(hE:CE 208 b tv wv l wl E)(hgo:F9 E)(hl:Ee day l)(n:Nat):CE 343 b tv wv l wl (DK l day E n):=by
 intro w i hp ho;have hb:=hp.lt;have gr:w.grownBy (w.alloc (.cells zeroE.toArray 163 (0,0))) (some b):=Ac (Aa _ _) _;have hz:=Blk.new w zeroE 163;replace hp:=hp.alloc (.cells zeroE.toArray 163 (0,0));have H:=S (X hE (X hgo (X hl ho)));generalize hR:DK l day E n i=R at*;have HQ:=S hR;rw[DK]at HQ;clear hE hgo ho hR;have hnum:=hl.num i;have hdate:=hl.date i;have hilt:=λh=>@GZ l i h;go_enter func343,ntmps343;go_wp2_with fail;refine mR (Bn hp) λw1 g=>?_;generalize Ab l i=t at*;obtain⟨kd,ps,tx⟩:=t;simp only at HQ hnum hdate hilt;replace hz:=hz.gb g (by simp);replace gr:=Ag gr g;replace hp:=hp.gbN g;clear g hl;have hs0:=hz.lt;have hb1:=hp.lt;have c1:=hp.c1;have f1:=hp.f1;have hf:=hp.few;by_cases h1:kd=1
 ·subst h1;have hi:=hilt (by decide);obtain⟨hn1,hn2⟩:=hnum rfl;have HN:=S hn2;clear hn2 hnum hdate hilt;simp only[BEq.rfl,if_true]at HQ;have HP:=S (hp.goA hi (.cells [.int .i64 1,.int .i64 ps,str tx].toArray 250 (0,0)));go_wp2_with fail;refine(strconv_Atoi ⟨tx.toArray⟩ (AA tx) hn1 HN.1 _).mono ?_;rintro e w2 ⟨rfl,t',e2⟩;have g2:=Qx (Go.Joins.below_bytesWorld _ ((w1.setCell ⟨b,1,none⟩ (.int .i64 (i+1))).alloc (.cells [.int .i64 1,.int .i64 ps,str tx].toArray 250 (0,0))) 5 t' (nR _));replace e2:w2=_:=e2;rw[<-e2]at g2;have g02:w1.grownBy w2 (some b):=Ag (Ac (Af (Aa _ _) _ _ (.inl rfl)) _) g2;replace gr:=Z gr g02;replace hz:=hz.gb g02 (by simp;omega);replace hp:=HP.1.gbN g2;have hs2:=g02.size;clear e2 g2 g02 HP c1 f1;go_wp2_with fail;refine mR (Mt _ _) λw3 g3=>?_;replace hz:=hz.gb g3 (by simp);replace gr:=Ag gr g3;replace hp:=hp.gbN g3;clear g3;have cz_:=hz.c7;go_wp2;exact bZ (AK (hd:=(A6 2 (AA tx) []:Ex).h) (pv:= .slice none 0 0) (lv:= .slice none 0 0) rfl _ (hz.set7 _ _ _ _ _ _ _) rfl) rfl (Bw (ok:=λk=>w.heap.size<k) (x:=A6 2 (AA tx) []) hb HQ.1.symm gr ⟨none,0,none,0,rfl,Cells.nil _ _ _,RepL.nil _ _⟩ (λk hk=>hk) hp (A0 _ _ _ _ _ _ _ _ _))
 by_cases h2:kd=2
 ·subst h2;have hi:=hilt (by decide);clear hnum hdate hilt h1;simp only[Int.reduceBEq,Bool.false_eq_true,if_false,if_true]at HQ;by_cases h3:tx.length>2048
  ·rw[if_pos h3]at HQ;replace hp:=hp.alloc (.cells [.int .i64 2,.int .i64 ps,str tx].toArray 250 (0,0));replace gr:=Ac gr (.cells [.int .i64 2,.int .i64 ps,str tx].toArray 250 (0,0));go_wp2_with fail;refine(DQ hp.c1).mono ?_;rintro e w9 ⟨rfl,rfl⟩;exact⟨rfl,Post.bad gr HQ.1.symm⟩
  ·rw[if_neg h3]at HQ;have gW:=Am (Aa w1 (some b)) 1 (.int .i64 (i+1));have hp1:=hp.goI (i+1) (i+1) rfl (by omega);have hz1:=hz.gb gW (by simp;omega);have cz_:=hz.c7;go_wp2;exact bZ (AK (hd:=(A6 4 0 tx).h) (pv:= .slice none 0 0) (lv:= .slice none 0 0) rfl _ ((hz1.set7 _ _ _ _ _ _ _).alloc _) rfl) rfl (Bw (ok:=λk=>w.heap.size<k) (x:=A6 4 0 tx) hb HQ.1.symm (Z gr gW) ⟨none,0,none,0,rfl,Cells.nil _ _ _,RepL.nil _ _⟩ (λk hk=>hk) hp1 (Ac (A0 _ _ _ _ _ _ _ _ _) _))
 by_cases h3:kd=3
 ·subst h3;have hi:=hilt (by decide);have HD:=S (hdate rfl);clear hnum hdate hilt h1 h2;simp only[Int.reduceBEq,Bool.false_eq_true,if_false,if_true]at HQ;have HP:=S (hp.goA hi (.cells [.int .i64 3,.int .i64 ps,str tx].toArray 250 (0,0)));have g02:w1.grownBy ((w1.setCell ⟨b,1,none⟩ (.int .i64 (i+1))).alloc (.cells [.int .i64 3,.int .i64 ps,str tx].toArray 250 (0,0))) (some b):=Ac (Af (Aa _ _) _ _ (.inl rfl)) _;go_wp2_with fail;refine(HD.1 _).mono ?_;rintro e w2 ⟨⟨v,rfl⟩,g2⟩;replace g02:=Ag g02 g2;replace gr:=Z gr g02;replace hz:=hz.gb g02 (by simp;omega);replace hp:=HP.1.gbN g2;clear g2 g02 HP c1 f1;have cz_:=hz.c7;go_wp2;exact bZ (AK (hd:=(A6 3 (day tx) []:Ex).h) (pv:= .slice none 0 0) (lv:= .slice none 0 0) rfl _ (hz.set7 _ _ _ _ _ _ _) rfl) rfl (Bw (ok:=λk=>w.heap.size<k) (x:=A6 3 (day tx) []) hb HQ.1.symm gr ⟨none,0,none,0,rfl,Cells.nil _ _ _,RepL.nil _ _⟩ (λk hk=>hk) hp (A0 _ _ _ _ _ _ _ _ _))
 have hd1:(kd==1)=false:=by simpa using h1
 have hd2:(kd==2)=false:=by simpa using h2
 have hd3:(kd==3)=false:=by simpa using h3
 simp only[hd1,hd2,hd3,Bool.false_eq_true,if_false]at HQ;replace hp:=hp.alloc (.cells [.int .i64 kd,.int .i64 ps,str tx].toArray 250 (0,0));replace gr:=Ac gr (.cells [.int .i64 kd,.int .i64 ps,str tx].toArray 250 (0,0));replace hz:=hz.alloc (.cells [.int .i64 kd,.int .i64 ps,str tx].toArray 250 (0,0));have hlz:=hz.lt;by_cases h0:kd=0
 ·subst h0;simp only[BEq.rfl,if_true]at HQ;clear hd1 hd2 hd3 h1 h2 h3 hnum hdate hilt;go_wp2_with fail;refine(TZ H.1.1 H.1.2.1 H.1.2.2.1.short n _ _ hp (λe=>H.1.2.2.2 (by rw[<-HQ.1,e]))).mono ?_;intro e w3 hq;obtain⟨g,⟨q,hr,rfl⟩| ⟨x,j,v,hr,rfl,⟨pa,pc,la,lc,rfl,rp,rl⟩,hp⟩⟩:=hq.split
  ·exact⟨rfl,Post.bad (Z gr g) (by rw[<-HQ.1,hr])⟩
  replace gr:=Z gr g;rw[hr]at HQ;clear hr;replace hz:=hz.gb g (by simp;omega);have cz_:=hz.c7;have HV:=S (X rp rl);clear rp rl g;go_wp2;exact bZ (AK rfl _ (hz.set7 _ _ _ _ _ _ _) rfl) rfl (Bw hb HQ.1.symm gr ⟨_,_,_,_,rfl,HV.1.1,HV.1.2⟩ (by intro k hk;have:_<=k:=hk;omega) hp (A0 _ _ _ _ _ _ _ _ _))
 have hd0:(kd==0)=false:=by simpa using h0
 simp only[hd0,Bool.false_eq_true,if_false]at HQ;clear hnum hdate hilt;go_wp2_with fail;refine(SC H.1.1 H.1.2.1 H.1.2.2.1.short n _ _ hp (λe=>H.1.2.2.2 (by rw[<-HQ.1,e]))).mono ?_;intro e w3 hq;obtain⟨g,⟨q,hr,rfl⟩| ⟨x,j,v,hr,rfl,⟨pa,pc,la,lc,rfl,rp,rl⟩,hp⟩⟩:=hq.split
 ·exact⟨rfl,Post.bad (Z gr g) (by rw[<-HQ.1,hr])⟩
 replace gr:=Z gr g;rw[hr]at HQ;clear hr;replace hz:=hz.gb g (by simp;omega);have cz_:=hz.c7;have HV:=S (X rp rl);clear rp rl g;go_wp2;exact bZ (AK rfl _ (hz.set7 _ _ _ _ _ _ _) rfl) rfl (Bw hb HQ.1.symm gr ⟨_,_,_,_,rfl,HV.1.1,HV.1.2⟩ (by intro k hk;have:_<=k:=hk;omega) hp (A0 _ _ _ _ _ _ _ _ _))
def MA(l:List Tok)(day:Bs->Int)(n:Nat):F9 (Ai l day n):=by
 intro i x j h;have:=GS (l:=l) day n i;rw[h]at this;exact this.1
def M8(hl:Ee day l):∀n,CE 208 b tv wv l wl (Ai l day n):=by
 intro n;induction n with
 |zero=>intro w i h ho;exact absurd rfl ho
 | succ n ih=>
   have hp:=Xw ih (MA l day n) hl n;have hu:=UU ih hp n;have hw:=YT hu n;exact zGaa.1 (YG (sumf:=sumM l n _) (zGaa.2 hw n) n) n
def Qk(i:Int)(w:World):(binOp .neq 20 (.iface 281 (.agg #[.int .i64 i])) .nilIface).run Tryz.prog w= .ok (.bool true) w:=by kernel_rfl
def Qj(w:World):(binOp .neq 20 .nilIface .nilIface).run Tryz.prog w= .ok (.bool false) w:=by kernel_rfl
def RE(p:Addr)(w:World):
 CallsD Tryz.prog 235 #[.pointer (some p)] .returning w λe u' w'=>e= .returned (.tuple #[])/\u'= .returning/\w'=w:=by
 have hnn:=Qj;refine callsD_of_wpS func235 rfl λc₀ cs hu=>?_;apply wpS_seq;apply wpS_region;simp[wpOpsS,go_sem,recoverD,hu,hnn,ntmps235,Exit.thenS];apply wpS_seq;apply wpS_region;simp[wpOpsS,go_sem,hnn,Exit.thenS];refine wpS_cond (t:=false) (by simp[Act.eval,Array.replicate]) ?_;simp only[Bool.false_eq_true,if_false];refine wpS_of_wp (wp_skip ?_);cases c₀;simp_all [bodyPostS,results,results235]
def QO(i:Int)(w:World):(Instr.typeAssert (.iface 281 (.agg #[.int .i64 i])) 20 281 true).run Tryz.prog w= .ok (.tuple #[.agg #[.int .i64 i],.bool true]) w:=by kernel_rfl
def Ma{i:Int}{x:Value}(hc:w.cell? ⟨k,0,none⟩=some x)(hz:w.frozen? ⟨k,0,none⟩=false):
 CallsD Tryz.prog 235 #[.pointer (some ⟨k,0,none⟩)] (.panicking [{v:= .iface 281 (.agg #[.int .i64 i]),recovered:=false}]) w λe u' w'=>
  e= .returned (.tuple #[])/\u'= .panicking [{v:= .iface 281 (.agg #[.int .i64 i]),recovered:=true}]/\w'=(w.setCell ⟨k,0,none⟩ (.int .i64 i)).alloc (.cells #[.int .i64 i] 281 (0,0)):=by
 have hnn:=Qk i;have hk:=bY w _ hc;refine callsD_of_wpS func235 rfl λc₀ cs hu=>?_;simp only[ntmps235,List.size_toArray,List.length_cons,List.length_nil,Nat.reduceAdd,Nat.reduceSub,Array.replicate_succ,Array.replicate_zero,List.push_toArray,List.append_toArray,List.nil_append,List.cons_append];apply wpS_seq;apply wpS_region;simp[wpOpsS,go_sem,recoverD,hu,hnn,ntmps235,Exit.thenS];apply wpS_seq;apply wpS_region;simp[wpOpsS,go_sem,hnn,Exit.thenS];refine wpS_cond (t:=true) (by simp[Act.eval,Array.replicate]) ?_;simp only[if_true];refine wpS_of_wp ?_;have hta:=QO i;go_wp2;exact⟨rfl,_,rfl,_,by simp[results,results235,go_sem],rfl,rfl,rfl⟩
open Go.Sort
def wordsText:Bs:=[80,82,79,67,69,68,85,82,69,32,70,85,78,67,84,73,79,78,32,76,79,67,65,76,32,80,82,73,86,65,84,69,32,80,85,66,76,73,67,32,83,84,65,84,73,67,32,73,70,32,69,76,83,69,73,70,32,69,76,83,69,32,69,78,68,73,70,32,68,79,32,67,65,83,69,32,79,84,72,69,82,87,73,83,69,32,69,78,68,67,65,83,69,32,87,72,73,76,69,32,69,78,68,68,79,32,70,79,82,32,84,79,32,83,84,69,80,32,78,69,88,84,32,76,79,79,80,32,69,88,73,84,32,82,69,84,85,82,78,32,87,73,84,72,32,66,82,69,65,75,32,66,69,71,73,78,32,83,69,81,85,69,78,67,69,32,82,69,67,79,86,69,82,32,85,83,73,78,71,32,69,78,68,32,83,69,76,69,67,84,32,85,83,69,32,65,76,73,65,83,32,71,79,32,84,79,80,32,66,79,84,84,79,77,32,83,75,73,80,32,83,69,69,75,32,76,79,67,65,84,69,32,67,79,78,84,73,78,85,69,32,82,69,80,76,65,67,69,32,68,69,76,69,84,69,32,82,69,67,65,76,76,32,65,80,80,69,78,68,32,66,76,65,78,75,32,80,65,67,75,32,90,65,80,32,67,79,85,78,84,32,83,85,77,32,73,78,68,69,88,32,79,78,32,84,65,71,32,85,78,73,81,85,69,32,67,65,78,68,73,68,65,84,69,32,68,69,83,67,69,78,68,73,78,71,32,83,69,84,32,79,82,68,69,82,32,70,73,76,84,69,82,32,82,69,76,65,84,73,79,78,32,73,78,84,79,32,69,88,65,67,84,32,68,69,76,69,84,69,68,32,79,70,70,32,65,76,76,32,82,69,83,84,32,82,69,67,79,82,68]
def wordsRaw:List Bs:=[[80,82,79,67,69,68,85,82,69],[70,85,78,67,84,73,79,78],[76,79,67,65,76],[80,82,73,86,65,84,69],[80,85,66,76,73,67],[83,84,65,84,73,67],[73,70],[69,76,83,69,73,70],[69,76,83,69],[69,78,68,73,70],[68,79],[67,65,83,69],[79,84,72,69,82,87,73,83,69],[69,78,68,67,65,83,69],[87,72,73,76,69],[69,78,68,68,79],[70,79,82],[84,79],[83,84,69,80],[78,69,88,84],[76,79,79,80],[69,88,73,84],[82,69,84,85,82,78],[87,73,84,72],[66,82,69,65,75],[66,69,71,73,78],[83,69,81,85,69,78,67,69],[82,69,67,79,86,69,82],[85,83,73,78,71],[69,78,68],[83,69,76,69,67,84],[85,83,69],[65,76,73,65,83],[71,79],[84,79,80],[66,79,84,84,79,77],[83,75,73,80],[83,69,69,75],[76,79,67,65,84,69],[67,79,78,84,73,78,85,69],[82,69,80,76,65,67,69],[68,69,76,69,84,69],[82,69,67,65,76,76],[65,80,80,69,78,68],[66,76,65,78,75],[80,65,67,75],[90,65,80],[67,79,85,78,84],[83,85,77],[73,78,68,69,88],[79,78],[84,65,71],[85,78,73,81,85,69],[67,65,78,68,73,68,65,84,69],[68,69,83,67,69,78,68,73,78,71],[83,69,84],[79,82,68,69,82],[70,73,76,84,69,82],[82,69,76,65,84,73,79,78],[73,78,84,79],[69,88,65,67,84],[68,69,76,69,84,69,68],[79,70,70],[65,76,76],[82,69,83,84],[82,69,67,79,82,68]]
def wordsL:List Bs:=[[65,76,73,65,83],[65,76,76],[65,80,80,69,78,68],[66,69,71,73,78],[66,76,65,78,75],[66,79,84,84,79,77],[66,82,69,65,75],[67,65,78,68,73,68,65,84,69],[67,65,83,69],[67,79,78,84,73,78,85,69],[67,79,85,78,84],[68,69,76,69,84,69],[68,69,76,69,84,69,68],[68,69,83,67,69,78,68,73,78,71],[68,79],[69,76,83,69],[69,76,83,69,73,70],[69,78,68],[69,78,68,67,65,83,69],[69,78,68,68,79],[69,78,68,73,70],[69,88,65,67,84],[69,88,73,84],[70,73,76,84,69,82],[70,79,82],[70,85,78,67,84,73,79,78],[71,79],[73,70],[73,78,68,69,88],[73,78,84,79],[76,79,67,65,76],[76,79,67,65,84,69],[76,79,79,80],[78,69,88,84],[79,70,70],[79,78],[79,82,68,69,82],[79,84,72,69,82,87,73,83,69],[80,65,67,75],[80,82,73,86,65,84,69],[80,82,79,67,69,68,85,82,69],[80,85,66,76,73,67],[82,69,67,65,76,76],[82,69,67,79,82,68],[82,69,67,79,86,69,82],[82,69,76,65,84,73,79,78],[82,69,80,76,65,67,69],[82,69,83,84],[82,69,84,85,82,78],[83,69,69,75],[83,69,76,69,67,84],[83,69,81,85,69,78,67,69],[83,69,84],[83,75,73,80],[83,84,65,84,73,67],[83,84,69,80],[83,85,77],[84,65,71],[84,79],[84,79,80],[85,78,73,81,85,69],[85,83,69],[85,83,73,78,71],[87,72,73,76,69],[87,73,84,72],[90,65,80]]
def QK:Lib.fields wordsText=wordsRaw:=by decide+kernel
def QL:(wordsRaw.mergeSort λx y=>decide (x<=y))=wordsL:=by
 refine List.Perm.eq_of_pairwise (le:=λx y=>decide (x<=y)=true) ?_ (List.pairwise_mergeSort ?_ ?_ _) ?_ ((List.mergeSort_perm _ _).trans ?_)
 ·intro a b _ _ h1 h2;exact List.le_antisymm (by simpa using h1) (by simpa using h2)
 ·intro a b c h1 h2;simp only[decide_eq_true_eq]at*;exact List.le_trans h1 h2
 ·intro a b;simp only[Bool.or_eq_true,decide_eq_true_eq];exact List.le_total a b
 ·decide+kernel
 ·exact List.isPerm_iff.1 (by decide+kernel)
def Rk:wordsText.all (λb=>decide (b.toNat<128))=true:=by decide+kernel
def Glob (w : World) : Prop := Lib.TabIs Tryz.prog w "strings.asciiSpace" .u8 Lib.asciiSpaceTab
def Hp: Tryz.prog.globalNamed "strings.asciiSpace" = some 4 := by kernel_rfl
def Glob.gb{r:Option Nat}(h:Glob w)(g:w.grownBy w1 r)(hr:some 4≠r):Glob w1:=by
 unfold Glob Lib.TabIs World.var? at*;simp only[Hp,Option.bind_some]at h ⊢;have hlt:4<w.heap.size:=by
  rcases Nat.lt_or_ge 4 w.heap.size with h' |h'
  ·exact h'
  ·rw[Array.getElem?_eq_none h']at h;simp at h
 rw[g.block _ hlt hr];exact h
def LT(w:World):Holds encStr (w.alloc (.cells (wordsRaw.map λl=>Value.string ⟨l.toArray⟩).toArray 9 (0,0))) w.heap.size 0 wordsRaw.toArray:=by
 intro j hj;have hB:=Blk.new w (wordsRaw.map λl=>Value.string ⟨l.toArray⟩) 9;refine⟨?_,hB.frozen _⟩;rw[hB.cell];simp at hj;simp[encStr,hj]
def Qz(w:World)(n:Nat):Holds encStr (Sort.ahead (w.alloc (.cells (wordsRaw.map fun(l:Bs)=>Value.string ⟨l.toArray⟩).toArray 9 (0,0))) n) w.heap.size 0 wordsRaw.toArray:=LT w
def V1{g:Nat}{os:Array Obj}(d:Array (List UInt8)):w.grownBy (grow (putRow encStr (Sort.ahead w n) g 0 d) os) (some g):=by
 refine⟨rfl,rfl,rfl,by simp,λk hk hne=>?_⟩;rw[heap_grow_old _ _ (by simpa using hk)];have:g≠k:=λe=>hne (by rw[e]);simp[putRow,mapBlock,Sort.ahead,Array.getElem?_modify,this]
def Vg(hg:Glob w):Calls Tryz.prog 223 #[] w λe w'=>∃wv,e= .returned wv/\SRow w' wv wordsL (Al w.heap.size)/\w.grownBy w' none:=by
 go_enter func223,ntmps223;go_wp2_with fail;refine(strings_Fields ⟨wordsText.toArray⟩ w (by decide+kernel) ?_ hg).mono ?_
 ·intro j b hb;have:=List.all_eq_true.1 Rk b (by
   have:wordsText[j]? =some b:=hb;exact List.mem_of_getElem? this)
  simpa using this
 rintro e w1 ⟨rfl,rfl⟩;rw[show(Lib.fields (ByteArray.mk wordsText.toArray).data.toList)=wordsRaw from QK];go_wp2_with fail;refine(slices_Sort_string w.heap.size 0 wordsRaw.length wordsRaw _ (LT w) (by simp) (by decide+kernel)).mono ?_;rintro e w2 ⟨rfl,n,os,rfl⟩;rw[QL];go_wp2;go_ret;have hA:=gZ w (.cells (wordsRaw.map λl=>Value.string ⟨l.toArray⟩).toArray 9 (0,0)) none;have hS:=V1 (os:=os) (n:=n) (w:=w.alloc (.cells (wordsRaw.map λl=>Value.string ⟨l.toArray⟩).toArray 9 (0,0))) (g:=w.heap.size) wordsL.toArray;refine⟨_,rfl,⟨_,_,rfl,nR _,by decide,λj hj=>⟨w.heap.size,0,rfl,nR _,?_⟩⟩,?_⟩
 ·have hc:=cell?_putRow encStr _ w.heap.size 0 wordsRaw.toArray wordsL.toArray (Qz w n) (by decide) j (by simpa using hj);have hlt:=bY _ _ hc;have hb:∀(W:World) os (k:Nat) a,k<W.heap.size->(grow W os).cell? ⟨k,a,none⟩=W.cell? ⟨k,a,none⟩:=λW os k a h=>by
   unfold World.cell?;rw[heap_grow_old _ _ h]
  rw[hb _ _ _ _ hlt,hc];simp[encStr,List.getD_eq_getElem?_getD,hj]
 ·refine⟨hS.os.trans hA.os,hS.tape.trans hA.tape,hS.output.trans hA.output,nT hA.size hS.size,λk hk _=>?_⟩;rw[hS.block k (by simp;omega) (by simp;omega)];exact hA.block k hk (by simp)
end Go.Proofs.YtbjfaimkiclhgaaGreatDoor
