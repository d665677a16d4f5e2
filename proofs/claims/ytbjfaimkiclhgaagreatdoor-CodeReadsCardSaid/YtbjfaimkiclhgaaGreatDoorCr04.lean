/-
  Bat Bytes of a text in a block of their own, that a loop may write. A strings.Builder of the call's own, with a frame that reaches above it: every block but its own two stands as it stood. Code: a tex
-/
import Derived.Test.YtbjfaimkiclhgaaGreatDoorCr02
import Derived.Test.YtbjfaimkiclhgaaGreatDoorCr03
import Derived.Laws.IdiomStrings
import Derived.Laws.AppendOwn
import Derived.Laws.OwnMore
import Derived.Deep.AppendLies
import Derived.Test.YtbjfaimkiclhgaaGreatDoorPlain
import Derived.Lib.Builder
import Derived.Lib.AppendStr
import Derived.Laws.Externs
import Derived.IntWalk
import Derived.Lib.SliceRun
import Derived.Lib.Case
import Derived.Shelf.Strings.CaseAny
import Derived.Lib.MapLaws
import Derived.Deep.DeepCutAuto
import Derived.Deep.RegionWith
set_option linter.all false
set_option maxRecDepth 100000
set_option maxHeartbeats 8000000
namespace Go.Proofs.YtbjfaimkiclhgaaGreatDoor
open Go.Proofs.Tryz
variable{s:Bs}{i b B H m n pc k j G c:Nat}{w w1 w0:World}{r:Option Nat}{p:UInt8->Bool}{v:Value}{l:List (Bs×Value)}{t:TypeId}{pa la:Option Addr}{ok:Nat->Prop}{cs rest a:List Value}{line begun:Bool}{bad:Int}
def bAt(s:Bs)(i:Nat):UInt8:=(s[i]?).getD 0
def B0(h:i<s.length):bAt s i=s[i]:=by simp[bAt,h]
def IM(h:i<s.length):s.drop i=bAt s i::s.drop (i+1):=by rw[B0 h];exact List.drop_eq_getElem_cons h
open Go.RowKit
def NY:(Tryz.prog.info? 3).map (λi=>(i.zero,i.size,i.bytes))=some (some (.int .i64 0),1,8):=by kernel_rfl
structure BytR(s:Bs)(H:Nat)(wr:World):Prop where
 cell:∀j,j<s.length->wr.cell? ⟨H,j,none⟩=some (.int .u8 (bAt s j).toNat)
 fr:∀j,j<s.length->wr.frozen? ⟨H,j,none⟩=false
 lt:H<wr.heap.size
def BytR.new(w:World)(s:Bs)(cap:Nat):BytR s w.heap.size (w.drew.alloc (.cells (bytesRow ⟨s.toArray⟩ cap) 5 ((bytesRow ⟨s.toArray⟩ cap).size,(bytesRow ⟨s.toArray⟩ cap).size+1))):=by
 refine⟨λj hj=>?_,λj hj=>?_,by simp⟩
 ·show(w.drew.alloc _).cell? ⟨w.drew.heap.size,j,none⟩=_;rw[World.cell?_alloc_mark,bytesRow_at _ _ _ (by simpa using hj)];simp[B0 hj]
 ·show(w.drew.alloc _).frozen? ⟨w.drew.heap.size,j,none⟩=_;rw[World.frozen?_alloc_mark];have:s.length<=(bytesRow ⟨s.toArray⟩ cap).size:=by simp[bytesRow]
  simp;omega
def BB{wr:World}{o:Option Nat}(h:w.grownBy wr r)(g:wr.grownBy w1 o)(ho:∀k,o=some k->w.heap.size<=k):w.grownBy w1 r:=by
 cases o with
 |none=>exact Ag h g
 |some k=>exact Aq h g (.inr (ho k rfl))
def D7(w:World)(B:Nat)(t:TypeId)(k:Nat):w.ownsRow B t k (.slice none 0 0) 0 []:=⟨by simp,.inl ⟨rfl,rfl⟩⟩
def GE:(Tryz.prog.info? 5).map (λi=>(i.zero,i.size,i.bytes))=some (some (.int .u8 0),1,1):=by kernel_rfl
def AQ(l:Bs):List Value:=l.map λb=> .int .u8 b.toNat
def NT(l:Bs):(AQ l).length=l.length:=by simp[AQ]
structure Bld(w:World)(b:Nat)(p v:Value)(l:Bs):Prop where
 blk:Blk w b [p,v] 86
 par:p= .pointer none\/p= .pointer (some ⟨b,0,none⟩)
 row:w.ownsRow (b+1) 5 1 v l.length (AQ l)
structure FRb(w w':World)(b:Nat)(v:Value):Prop where
 os:w'.os=w.os
 tape:w'.tape=w.tape
 output:w'.output=w.output
 size:w.heap.size<=w'.heap.size
 block:∀k,k<w.heap.size->k≠b->v.ownBlock≠some k->w'.heap[k]? =w.heap[k]?
section
variable {w2:World}{p v1:Value}{l:Bs}
def Bld.own(h:Bld w b p v l):∀k,v.ownBlock=some k->b<k/\k<w.heap.size:=λk e=>by have:=h.row.lt k e;omega
def Bld.lt(h:Bld w b p v l):b<w.heap.size:=h.blk.lt
def Bld.gbN(h:Bld w b p v l)(g:w.grownBy w1 none):Bld w1 b p v l:=
 ⟨h.blk.gb g (by simp),h.par,h.row.kept g (by cases v.ownBlock with|none=>exact .inl rfl|some _=>exact .inr (by simp))⟩
def Bld.new(w:World):Bld (w.alloc (.cells [.pointer none,.slice none 0 0].toArray 86 (0,0))) w.heap.size (.pointer none) (.slice none 0 0) []:=
 ⟨Blk.new _ _ _,.inl rfl,D7 _ _ _ _⟩
def FRb.below(h:FRb w w1 b v)(hv:∀k,v.ownBlock=some k->b<k)(hB:B<=b)(h0:w0.heap.size=B)(g:w0.grownBy w none):w0.grownBy w1 none:=
 ⟨h.os.trans g.os,h.tape.trans g.tape,h.output.trans g.output,nT g.size h.size,λk hk hn=>(h.block k (Nat.lt_of_lt_of_le hk g.size) (by omega) (λe=>by have:=hv k e;omega)).trans (g.block k hk hn)⟩
def Bld.ne_bytes(h:Bld w b p v l){cs:Array Value}(hH:w.heap[H]? =some (.cells cs t (m,m+1))):v.ownBlock≠some H:=by
 intro e;rcases h.row.2 with⟨rfl,_⟩| ⟨g,cap,cur,rfl,_,hg,_⟩
 ·simp[Value.ownBlock]at e
 ·simp only[Value.ownBlock,Option.some.injEq]at e;subst e;rw[hg]at hH;simp only[Option.some.injEq,Obj.cells.injEq,Prod.mk.injEq]at hH;omega
def NI:(Tryz.prog.info? 86).map (·.size)=some 2:=by kernel_rfl
def X5:liesAt Tryz.prog Tryz.prog.depth 86 (2/Tryz.prog.cellsOf 86) 0 86 1=true:=by kernel_rfl
def Pn(c0:w.cell? ⟨b,0,none⟩=some (.pointer none))(hsh:w.shape? b=some (86,2))(hfz:w.frozen? ⟨b,0,none⟩=false):
 Calls Tryz.prog 75 #[.pointer (some ⟨b,0,none⟩)] w λe w'=>e= .returned (.tuple #[])/\w'=w.setCell ⟨b,0,none⟩ (.pointer (some ⟨b,0,none⟩)):=by
 obtain⟨j,hj,hjs⟩:=Option.map_eq_some_iff.1 NI;go_enter func75,ntmps75;go_wp2;rw[Lib.run_to_unsafe w ⟨b,0,none⟩ underlying83 underlying149 hj (by rw[hjs];decide) hsh (Nat.zero_lt_succ 1)];simp only[Result.andThen];rw[Oper.upon_value];go_wp2;rw[run_callFunc_extern func103 (by kernel_rfl) (by kernel_rfl) (by kernel_rfl) (e:=Extern.AbiNoEscape.same) (by kernel_rfl)];rw[Lib.run_noEscape];simp only[Result.andThen];rw[Oper.upon_value];go_wp2;rw[Lib.run_from_unsafe w ⟨b,0,none⟩ underlying149 underlying83 hj hsh X5];simp only[Result.andThen];rw[Oper.upon_value];go_wp2;go_end0;exact⟨rfl,rfl⟩
def PC(c0:w.cell? ⟨b,0,none⟩=some (.pointer (some ⟨b,0,none⟩))):
 Calls Tryz.prog 75 #[.pointer (some ⟨b,0,none⟩)] w λe w'=>e= .returned (.tuple #[])/\w'=w:=by
 obtain⟨j,hj,hjs⟩:=Option.map_eq_some_iff.1 NI;go_enter func75,ntmps75;go_wp2;rw[Lib.run_neq_ptr_same w _ underlying83 hj];go_wp2;go_end0;exact⟨rfl,rfl⟩
def LH(h:Bld w b p v l):Calls Tryz.prog 75 #[.pointer (some ⟨b,0,none⟩)] w λe w'=>e= .returned (.tuple #[])/\Bld w' b (.pointer (some ⟨b,0,none⟩)) v l/\w.grownBy w' (some b)/\w'.heap.size=w.heap.size:=by
 rcases h.par with e|e
 ·have c0:w.cell? ⟨b,0,none⟩=some (.pointer none):=by rw[h.blk.cell' 0 (v:=p) rfl,e]
  refine(Pn c0 (by simp[World.shape?,show w.heap[b]? =_ from h.blk]) (h.blk.frozen 0)).mono ?_;rintro e w' ⟨rfl,rfl⟩;have gs:w.grownBy (w.setCell ⟨b,0,none⟩ (.pointer (some ⟨b,0,none⟩))) (some b):=Ai (Aa _ _) 0 _;refine⟨rfl,⟨(h.blk.set 0 _).of_eq rfl rfl,.inr rfl,h.row.kept gs ?_⟩,gs,by simp[World.setCell]⟩;cases hv:v.ownBlock with
  |none=>exact .inl rfl
  |some q=>exact .inr (by have:=(h.own q hv).1;intro e;cases e;omega)
 ·subst e;have c0:w.cell? ⟨b,0,none⟩=some (.pointer (some ⟨b,0,none⟩)):=h.blk.cell' 0 rfl;refine(PC c0).mono ?_;rintro e w' ⟨rfl,rfl⟩;exact⟨rfl,h,Aa _ _,rfl⟩
def FRb.of(g1:w.grownBy w1 (some b))(g2:w1.grownBy w2 v.ownBlock){w3:World}(g3:w2.grownBy w3 (some b)):FRb w w3 b v:=
 ⟨g3.os.trans (g2.os.trans g1.os),g3.tape.trans (g2.tape.trans g1.tape),g3.output.trans (g2.output.trans g1.output),nT g1.size (nT g2.size g3.size),
  λk hk h1 h2=>(g3.block k (Nat.lt_of_lt_of_le hk (nT g1.size g2.size)) (by simpa using h1)).trans ((g2.block k (Nat.lt_of_lt_of_le hk g1.size) (λe=>h2 e.symm)).trans (g1.block k hk (by simpa using h1)))⟩
def Bld.put{v2:Value}{l2:Bs}(hb:Blk w b [.pointer (some ⟨b,0,none⟩),v] 86)(ho:w.ownsRow (b+1) 5 1 v2 l2.length (AQ l2)):Bld (w.setCell ⟨b,1,none⟩ v2) b (.pointer (some ⟨b,0,none⟩)) v2 l2:=by
 have gs:w.grownBy (w.setCell ⟨b,1,none⟩ v2) (some b):=Ai (Aa _ _) 1 _;refine⟨(hb.set 1 _).of_eq rfl rfl,.inr rfl,ho.kept gs ?_⟩;cases hv:v2.ownBlock with
 |none=>exact .inl rfl
 |some q=>exact .inr (by have:=(ho.lt q hv).1;intro e;cases e;omega)
def Ix(h:Bld w b p v l)(hl:l.length<=100000000000)(c:UInt8):
 Calls Tryz.prog 47 #[.pointer (some ⟨b,0,none⟩),.int .u8 c.toNat] w λe w'=>e= .returned .nilIface/\∃p' v',Bld w' b p' v' (l++[c])/\FRb w w' b v:=by
 have HC:=S (LH h);obtain⟨i0,HI⟩:=iPz GE;clear h;go_enter func47,ntmps47;go_wp2_with fail;refine HC.1.mono ?_;rintro e w1 ⟨rfl,h1,g1,hs1⟩;have c1:w1.cell? ⟨b,1,none⟩=some v:=h1.blk.cell' 1 rfl;have hlt:=h1.lt;have HH:=S (X h1 g1);have HO:=S h1.own;clear h1 g1 hs1 HC;go_wp2_with (at_builtin;go_loud(refine wpList_append_lies _ rfl _ _ 84 rfl (b+1) 5 i0 (.int .u8 0) 1 1 underlying84 HI.1.1 HI.1.2.1 HI.1.2.2.1 HI.1.2.2.2 rfl (by decide) v l.length (AQ l) rfl (Cs HH.1.1.row (gZ _ _ none) (by simp)) ⟨w1.heap.size,0,none⟩ 1 1 [.int .u8 c.toNat] rfl rfl (AP _ _ _) (by simp[Value.oneCell']) (by decide) (by unfold maxLen;omega) (by omega) (by simp<;>omega) _ rfl ?_;intro g cap w6 hown hgrow hat hlt6;(have hb7:=(HH.1.1.blk.alloc (.cells [.int .u8 (c.toNat:Int)].toArray 5 (0,0))).gb hgrow (λe=>by have:=HO.1 _ e.symm;omega));(have d1:=hb7.cell 1);(have f1:=hb7.frozen 1);(have l7:=hb7.lt);(have HE:=S (X hown (X hgrow hb7)));clear hown hgrow hat hb7));go_ret;exact⟨rfl,_,_,Bld.put HE.1.2.2 (by simpa[AQ]using HE.1.1),FRb.of HH.1.2 (Z (gZ _ _ _) HE.1.2.1) (Ai (Aa _ _) 1 _)⟩
def Iz(h:Bld w b p v l)(s:Bs)(hl:l.length+s.length<=100000000000):
 Calls Tryz.prog 45 #[.pointer (some ⟨b,0,none⟩),str s] w λe w'=>e= .returned (.tuple #[.int .i64 s.length,.nilIface])/\∃p' v',Bld w' b p' v' (l++s)/\FRb w w' b v:=by
 have HC:=S (LH h);obtain⟨i0,HI⟩:=iPz GE;have hsz:(⟨s.toArray⟩:ByteArray).size=s.length:=by simp[ByteArray.size]
 have HS:=S (show Lib.strCells ⟨s.toArray⟩=AQ s by simp[Lib.strCells,AQ]);clear h;go_enter func45,ntmps45;go_wp2_with fail;refine HC.1.mono ?_;rintro e w1 ⟨rfl,h1,g1,hs1⟩;have c1:w1.cell? ⟨b,1,none⟩=some v:=h1.blk.cell' 1 rfl;have hlt:=h1.lt;have HH:=S (X h1 g1);have HO:=S h1.own;clear h1 g1 hs1 HC;go_wp2_with (at_builtin;go_loud(refine Lib.wpList_append_own_string _ rfl _ _ 84 9 rfl (b+1) 5 i0 underlying84 underlying9 HI.1.1 HI.1.2.1 HI.1.2.2.1 HI.1.2.2.2 v l.length (AQ l) rfl HH.1.1.row ⟨s.toArray⟩ rfl (by rw[hsz];unfold maxLen;omega) (by rw[hsz];omega) (by omega) ?_;intro v6 w6 hown hgrow hx6;obtain⟨a6,n6,c6,rfl⟩:∃ao n' cap,v6= .slice ao n' cap:=(by rcases hown.2 with⟨hv,_⟩| ⟨g,cap,cur,hv,_⟩;exact⟨_,_,_,hv⟩;exact⟨_,_,_,hv⟩);(have hb7:=HH.1.1.blk.gb hgrow (λe=>by have:=HO.1 _ e.symm;omega));(have d1:=hb7.cell 1);(have f1:=hb7.frozen 1);(have l7:=hb7.lt);(have HE:=S (X hown (X hgrow hb7)));clear hown hgrow hx6 hb7));exact bZ (v:= .tuple #[.int .i64 s.length,.nilIface]) (by simp[results,results45,go_sem]) rfl ⟨rfl,_,_,Bld.put HE.1.2.2 (by have h9:=HE.1.1;rw[HS.1,hsz]at h9;simpa[AQ]using h9),FRb.of HH.1.2 HE.1.2.1 (Ai (Aa _ _) 1 _)⟩
def TO(h:Bld w b p v l)(h0:l≠[]):
 Calls Tryz.prog 48 #[.pointer (some ⟨b,0,none⟩)] w λe w'=>e= .returned (str l)/\∀w0:World,w0.grownBy w none->w0.heap.size<=b->w0.grownBy w' none:=by
 have hb:Lib.IsBuilder 86 5 b b (Lib.byteCells l) w:=by
  have hr:w.ownsRow b 5 1 v (Lib.byteCells l).length (Lib.byteCells l):=by
   have e:Lib.byteCells l=AQ l:=rfl;rw[e,NT];obtain⟨h1,h2⟩:=h.row;refine⟨h1,?_⟩;rcases h2 with h2| ⟨g,cap,cur,e1,hbg,hrest⟩
   ·exact .inl h2
   ·exact .inr ⟨g,cap,cur,e1,by omega,hrest⟩
  have hne:v.ownBlock≠some b:=λe=>by have:=(h.own b e).1;omega
  rcases h.par with e|e
  ·exact .inl ⟨nR _,v,by rw[<-e];exact h.blk,hr,hne⟩
  ·exact .inr ⟨nR _,v,by rw[<-e];exact h.blk,hr,hne⟩
 refine(Builder_String b b l w hb h0).mono ?_;rintro e w' ⟨rfl,k⟩;exact⟨rfl,λw0 g hb=>⟨k.os.trans g.os,k.tape.trans g.tape,k.output.trans g.output,nT g.size k.size,λi hi hn=>(k.block i (by omega)).trans (g.block i hi hn)⟩⟩
end
def A4(n:Nat):UInt8:=UInt8.ofNat (if n<10 then 48+n else 87+n)
def Cj(b:UInt8):Bool:=decide (b.toNat<32)||decide (126<b.toNat)||b.toNat==34||b.toNat==37
def qtB(b:UInt8):Bs:=if Cj b then [37,A4 (b.toNat/16),A4 (b.toNat%16)]else [b]
def Bd(s:Bs):Nat->Bs
 | 0=>[34]
 |k+1=>Bd s k++qtB (bAt s k)
def qtM(s:Bs):Bs:=Bd s s.length++[34]
def Hs(b:UInt8):1<=(qtB b).length/\(qtB b).length<=3:=by unfold qtB;split<;>simp
def KO(s:Bs)(k:Nat):(Bd s k).length<=3*k+1:=by
 induction k with
 |zero=>simp[Bd]
 | succ k ih=>
   have:=Hs (bAt s k);rw[Bd,lA];omega
def Zc(n:Nat)(hn:n<16)(w:World):Calls Tryz.prog 76 #[.int .u8 n] w λe w'=>e= .returned (str [A4 n])/\w=w':=by
 have h:n=0\/n=1\/n=2\/n=3\/n=4\/n=5\/n=6\/n=7\/n=8\/n=9\/n=10\/n=11\/n=12\/n=13\/n=14\/n=15:=by omega
 rcases h with rfl|rfl|rfl|rfl|rfl|rfl|rfl|rfl|rfl|rfl|rfl|rfl|rfl|rfl|rfl|rfl
 all_goals
  go_enter func76,ntmps76;go_wp2;go_ret;exact⟨rfl,rfl⟩
def Fm(n:Nat)(hn:n<16)(i:Int)(hi:i=n)(w:World):Calls Tryz.prog 76 #[.int .u8 i] w λe w'=>e= .returned (str [A4 n])/\w=w':=by
 subst hi;exact Zc n hn w
def BR{b:UInt8}:b.toNat/16<16/\b.toNat%16<16:=by have:=b.toNat_lt;omega
structure Rng(w:World)(H:Nat)(s:Bs):Prop where
 byt:BytR s H w
 obj:∃cs t m,w.heap[H]? =some (.cells cs t (m,m+1))
def Rng.fr(h:Rng w H s)(f:FRb w w1 b v)(hb:H≠b)(hv:v.ownBlock≠some H):Rng w1 H s/\w1.heap[H]? =w.heap[H]?:=by
 have e:=f.block H h.byt.lt hb hv;have hsz:=Nat.lt_of_lt_of_le h.byt.lt f.size;refine⟨⟨⟨λj hj=>?_,λj hj=>?_,hsz⟩,?_⟩,e⟩
 ·rw[World.cell?_of_block e];exact h.byt.cell j hj
 ·rw[World.frozen?_of_block e];exact h.byt.fr j hj
 ·rw[e];exact h.obj
def Rng.step{l:Bs}{p:Value}(h:Rng w H s)(hB:Bld w b p v l)(f:FRb w w1 b v)(hb:H≠b)(g:w0.grownBy w none)(h0:w0.heap.size<=b):Rng w1 H s/\w0.grownBy w1 none:=by
 obtain⟨cs,t,m,ho⟩:=h.obj;exact⟨(h.fr f hb (hB.ne_bytes ho)).1,f.below (λk e=>(hB.own k e).1) h0 rfl g⟩
def Kj(s:Bs)(hs:s.length<=1000000000)(w:World):
 Calls Tryz.prog 46 #[str s] w (ρ w (str (qtM s))):=by
 have hsz:(⟨s.toArray⟩:ByteArray).size=s.length:=by simp[ByteArray.size]
 have HN:=S (Bld.new w);go_enter func46,ntmps46;go_wp2_with fail;refine(Ix HN.1 (by simp) 34).mono ?_;rintro e w1 ⟨rfl,p1,v1,hB1,hF1⟩;have hconv:=run_bytes_of_string (P:=Tryz.prog) w1 9 84 5 ⟨s.toArray⟩ underlying9 underlying84 underlying5;rw[hsz]at hconv;generalize hcap:grownCap w1 s.length 0 5=cap at*;have gW:w1.grownBy (w1.drew.alloc (.cells (bytesRow ⟨s.toArray⟩ cap) 5 ((bytesRow ⟨s.toArray⟩ cap).size,(bytesRow ⟨s.toArray⟩ cap).size+1))) none:=Ac (Ad (Aa _ _)) _;have g1:w.grownBy w1 none:=hF1.below (λk e=>by simp[Value.ownBlock]at e) (nR _) rfl (gZ _ _ _);have hH:w.heap.size<w1.heap.size:=hB1.lt;have H0:=S (X (hB1.gbN gW) (X (show Rng _ w1.heap.size s from⟨BytR.new w1 s cap,_,_,_,heap_alloc_new _ _⟩) (Z g1 gW)));clear hB1 hF1 gW g1 hcap;generalize(w1.drew.alloc (.cells (bytesRow ⟨s.toArray⟩ cap) 5 ((bytesRow ⟨s.toArray⟩ cap).size,(bytesRow ⟨s.toArray⟩ cap).size+1)))=W at*;generalize w1.heap.size=H at*;go_wp2_with fail;go_loopg [5,10] s.length (λg v5 v10 wr=>∃k:Nat,∃p v:Value,k+g=s.length/\v10= .int .i64 k/\Bld wr w.heap.size p v (Bd s k)/\Rng wr H s/\w.grownBy wr none)
 case atStart=>exact⟨0,_,_,by omega,rfl,H0.1.1,H0.1.2.1,H0.1.2.2⟩
 case round=>
  obtain⟨k,p,v,hk,rfl,hB,hR,hG⟩:=hrel;clear H0 hconv;have hql:=KO s k;cases gk with
  | zero=>
    have hkl:k=s.length:=by omega
    have hj1:decide (k<s.length)=false:=by simp;omega
    have HB:=S (X hB hG);clear hB hR hG;subst hkl;go_wp2_with fail;refine(Ix HB.1.1 (by omega) 34).mono ?_;rintro e w2 ⟨rfl,p2,v2,hB2,hF2⟩;have g2:=hF2.below (λq e=>(HB.1.1.own q e).1) (nR _) rfl HB.1.2;have HC:=S (X hB2 g2);clear hB2 hF2 g2;go_wp2_with fail;refine mR (TO HC.1.1 (by simp)) λw3 g3=>?_;have HD:=S (g3 _ HC.1.2 (nR _));clear g3;go_wp2;go_ret;exact⟨rfl,HD.1⟩
  | succ gk=>
    have hkl:k<s.length:=by omega
    have hj1:decide (k<s.length)=true:=by simp;omega
    have ck:=hR.byt.cell k hkl;have hlt:=hR.byt.lt;have hc256:=(bAt s k).toNat_lt;have HB:=S (X hB (X hR hG));have HW:=S (fun(c:UInt8)=>Ix hB (by omega) c);have HS:=S (fun(t:Bs)(ht:t.length<=3)=>Iz hB t (by omega));clear hB hR hG;by_cases h1:(bAt s k).toNat<32
    ·have i1:((bAt s k).toNat:Int)<32:=by omega
     have HE:=S (show Cj (bAt s k)=true by simp[Cj,h1]);go_wp2_with fail;refine(Fm ((bAt s k).toNat/16) BR.1 _ (by omega) _).mono ?_;rintro e w2 ⟨rfl,rfl⟩;go_wp2_with fail;refine(Fm ((bAt s k).toNat%16) BR.2 _ (by omega) _).mono ?_;rintro e w2 ⟨rfl,rfl⟩;go_wp2_with fail;rw[show Value.string ({data:=#[37]}++{data:=#[A4 ((bAt s k).toNat/16)]}++{data:=#[A4 ((bAt s k).toNat%16)]})=str [37,A4 ((bAt s k).toNat/16),A4 ((bAt s k).toNat%16)]from rfl];refine(HS.1 [37,A4 ((bAt s k).toNat/16),A4 ((bAt s k).toNat%16)] (by simp)).mono ?_;rintro e w2 ⟨rfl,p2,v2,hB2,hF2⟩;obtain⟨hR2,hG2⟩:=HB.1.2.1.step HB.1.1 hF2 (by omega) HB.1.2.2 (nR _);have HC:=S (X hB2 (X hR2 hG2));clear hB2 hF2 hR2 hG2;go_wp2;go_roundg gk
     case measure=>omega
     case rel=>exact⟨k+1,p2,v2,by omega,by go_num,by rw[Bd,qtB,if_pos HE.1];exact HC.1.1,HC.1.2.1,HC.1.2.2⟩
    by_cases h2:126<(bAt s k).toNat
    ·have i1:¬((bAt s k).toNat:Int)<32:=by omega
     have i2:126<((bAt s k).toNat:Int):=by omega
     have HE:=S (show Cj (bAt s k)=true by simp[Cj,h2]);go_wp2_with fail;refine(Fm ((bAt s k).toNat/16) BR.1 _ (by omega) _).mono ?_;rintro e w2 ⟨rfl,rfl⟩;go_wp2_with fail;refine(Fm ((bAt s k).toNat%16) BR.2 _ (by omega) _).mono ?_;rintro e w2 ⟨rfl,rfl⟩;go_wp2_with fail;rw[show Value.string ({data:=#[37]}++{data:=#[A4 ((bAt s k).toNat/16)]}++{data:=#[A4 ((bAt s k).toNat%16)]})=str [37,A4 ((bAt s k).toNat/16),A4 ((bAt s k).toNat%16)]from rfl];refine(HS.1 [37,A4 ((bAt s k).toNat/16),A4 ((bAt s k).toNat%16)] (by simp)).mono ?_;rintro e w2 ⟨rfl,p2,v2,hB2,hF2⟩;obtain⟨hR2,hG2⟩:=HB.1.2.1.step HB.1.1 hF2 (by omega) HB.1.2.2 (nR _);have HC:=S (X hB2 (X hR2 hG2));clear hB2 hF2 hR2 hG2;go_wp2;go_roundg gk
     case measure=>omega
     case rel=>exact⟨k+1,p2,v2,by omega,by go_num,by rw[Bd,qtB,if_pos HE.1];exact HC.1.1,HC.1.2.1,HC.1.2.2⟩
    by_cases h3:(bAt s k).toNat=34
    ·have i1:¬((bAt s k).toNat:Int)<32:=by omega
     have i2:¬126<((bAt s k).toNat:Int):=by omega
     have i3:((bAt s k).toNat:Int)=34:=by omega
     have i4:(((bAt s k).toNat:Int)==34)=true:=by simpa using i3
     have HE:=S (show Cj (bAt s k)=true by simp[Cj,h3]);clear i3 h3;go_wp2_with fail;refine(Fm ((bAt s k).toNat/16) BR.1 _ (by omega) _).mono ?_;rintro e w2 ⟨rfl,rfl⟩;go_wp2_with fail;refine(Fm ((bAt s k).toNat%16) BR.2 _ (by omega) _).mono ?_;rintro e w2 ⟨rfl,rfl⟩;go_wp2_with fail;rw[show Value.string ({data:=#[37]}++{data:=#[A4 ((bAt s k).toNat/16)]}++{data:=#[A4 ((bAt s k).toNat%16)]})=str [37,A4 ((bAt s k).toNat/16),A4 ((bAt s k).toNat%16)]from rfl];refine(HS.1 [37,A4 ((bAt s k).toNat/16),A4 ((bAt s k).toNat%16)] (by simp)).mono ?_;rintro e w2 ⟨rfl,p2,v2,hB2,hF2⟩;obtain⟨hR2,hG2⟩:=HB.1.2.1.step HB.1.1 hF2 (by omega) HB.1.2.2 (nR _);have HC:=S (X hB2 (X hR2 hG2));clear hB2 hF2 hR2 hG2;go_wp2;go_roundg gk
     case measure=>omega
     case rel=>exact⟨k+1,p2,v2,by omega,by go_num,by rw[Bd,qtB,if_pos HE.1];exact HC.1.1,HC.1.2.1,HC.1.2.2⟩
    by_cases h4:(bAt s k).toNat=37
    ·have i1:¬((bAt s k).toNat:Int)<32:=by omega
     have i2:¬126<((bAt s k).toNat:Int):=by omega
     have i4:(((bAt s k).toNat:Int)==34)=false:=by simp;omega
     have i5:(((bAt s k).toNat:Int)==37)=true:=by simp;omega
     have HE:=S (show Cj (bAt s k)=true by simp[Cj,h4]);clear h4;go_wp2_with fail;refine(Fm ((bAt s k).toNat/16) BR.1 _ (by omega) _).mono ?_;rintro e w2 ⟨rfl,rfl⟩;go_wp2_with fail;refine(Fm ((bAt s k).toNat%16) BR.2 _ (by omega) _).mono ?_;rintro e w2 ⟨rfl,rfl⟩;go_wp2_with fail;rw[show Value.string ({data:=#[37]}++{data:=#[A4 ((bAt s k).toNat/16)]}++{data:=#[A4 ((bAt s k).toNat%16)]})=str [37,A4 ((bAt s k).toNat/16),A4 ((bAt s k).toNat%16)]from rfl];refine(HS.1 [37,A4 ((bAt s k).toNat/16),A4 ((bAt s k).toNat%16)] (by simp)).mono ?_;rintro e w2 ⟨rfl,p2,v2,hB2,hF2⟩;obtain⟨hR2,hG2⟩:=HB.1.2.1.step HB.1.1 hF2 (by omega) HB.1.2.2 (nR _);have HC:=S (X hB2 (X hR2 hG2));clear hB2 hF2 hR2 hG2;go_wp2;go_roundg gk
     case measure=>omega
     case rel=>exact⟨k+1,p2,v2,by omega,by go_num,by rw[Bd,qtB,if_pos HE.1];exact HC.1.1,HC.1.2.1,HC.1.2.2⟩
    have i1:¬((bAt s k).toNat:Int)<32:=by omega
    have i2:¬126<((bAt s k).toNat:Int):=by omega
    have i4:(((bAt s k).toNat:Int)==34)=false:=by simp;omega
    have i5:(((bAt s k).toNat:Int)==37)=false:=by simp;omega
    have HE:=S (show Cj (bAt s k)=false by simp[Cj,h1,h2,h3,h4]);go_wp2_with fail;refine(HW.1 (bAt s k)).mono ?_;rintro e w2 ⟨rfl,p2,v2,hB2,hF2⟩;obtain⟨hR2,hG2⟩:=HB.1.2.1.step HB.1.1 hF2 (by omega) HB.1.2.2 (nR _);have HC:=S (X hB2 (X hR2 hG2));clear hB2 hF2 hR2 hG2;go_wp2;go_roundg gk
    case measure=>omega
    case rel=>exact⟨k+1,p2,v2,by omega,by go_num,by rw[Bd,qtB,HE.1];exact HC.1.1,HC.1.2.1,HC.1.2.2⟩
def AL(b:UInt8):Bool:=decide (48<=b.toNat)&&decide (b.toNat<=57)
def CT(s:Bs)(k:Nat)(h:k<(⟨s.toArray⟩:ByteArray).size)(h2:k<s.length):(⟨s.toArray⟩:ByteArray)[k]'h=s[k]:=rfl
def N2(s:Bs)(k:Nat)(h:k<s.length):AA (s.take (k+1))=10*AA (s.take k)+((s[k].toNat:Int)-48):=by
 unfold AA;rw[List.take_succ_eq_append_getElem h,List.foldl_append];rfl
def Jp(s:Bs)(hd:s.all AL=true):∀k,k<=s.length->0<=AA (s.take k)/\AA (s.take k)<10 ^ k:=by
 intro k;induction k with
 |zero=>intro _;simp[AA]
 | succ k ih=>
   intro hk;have h1:=ih (by omega);have h2:=List.all_eq_true.1 hd s[k] (List.getElem_mem _);simp[AL]at h2;rw[N2 s k (by omega),Int.pow_succ];omega
def Qv(s:Bs)(hd:s.all AL=true):Lib.trimLeftS s [32]=s:=by
 cases s with
 |nil=>rfl
 | cons c t=>
   simp[AL]at hd;have:c≠32:=by rintro rfl;simp at hd
   simp[Lib.trimLeftS,this]
def Lq(s:Bs)(hd:s.all AL=true)(h0:1<=s.length)(h8:s.length<=8)(w:World):
 Calls Tryz.prog 342 #[str s] w (ρ w (.int .i64 (AA s))):=by
 cases s with
 |nil=>simp at h0
 |cons c t=>
 have hc:=List.all_eq_true.1 hd c (by simp);have hg:=Ol c t;simp[AL]at hc;obtain⟨hc1,hc2⟩:=hc;have h45:((c.toNat:Int)==45)=false:=by simp;omega
 have h43:((c.toNat:Int)==43)=false:=by simp;omega
 have H:=S hd;have h8':t.length<=7:=by simpa using h8
 go_enter func342,ntmps342;go_wp2_with fail;refine mR (strings_TrimLeft ⟨(c::t).toArray⟩ ⟨#[32]⟩ _ (by decide) (ascii_of_all (by decide))) λw1 hb=>?_;have gr:=gbB hb none;rw[show Lib.trimLeftS (ByteArray.mk (c::t).toArray).data.toList (ByteArray.mk #[32]).data.toList=c::t from Qv _ H.1];clear hb;go_wp2_with fail;go_loopg [4,5,27] (c::t).length (λg v4 v5 v27 wr=>∃k:Nat,k+g=(c::t).length/\v4= .int .i64 (AA ((c::t).take k))/\v27= .int .i64 k/\w.grownBy wr none)
 case atStart=>exact⟨0,by omega,by simp[AA],rfl,gr⟩
 case round=>
  obtain⟨k,hk,rfl,rfl,g⟩:=hrel;have hnl:0<=AA ((c::t).take k)/\AA ((c::t).take k)<100000000:=by
   have h1:=Jp (c::t) H.1 k (by omega);have h2:(10:Int) ^ k<=10 ^ 8:=by exact_mod_cast Nat.pow_le_pow_right (n:=10) (by decide) (by simp only[List.length_cons]at hk;omega:k<=8)
   have h3:(10:Int) ^ 8=100000000:=by decide
   omega
  cases gk with
  | zero=>
    have hkM:k=t.length+1:=by simpa using hk
    rw[List.take_of_length_le (by simp;omega)]at*;generalize hzz:AA (c::t)=z at*;have HZ:=S hzz;clear hzz;have hnlt:((k:Int)<(t.length:Int)+1)=False:=by simp;omega
    clear hk hkM;go_wp2;go_ret;exact⟨by(try rw[HZ.1]);rfl,g⟩
  | succ gk=>
    have hlt:k<(c::t).length:=by omega
    have hx:=List.all_eq_true.1 H.1 (c::t)[k] (List.getElem_mem _);simp only[AL,Bool.and_eq_true,decide_eq_true_eq]at hx;obtain⟨hx1,hx2⟩:=hx;have hgk:=λh=>CT (c::t) k h hlt;have hn1:=N2 (c::t) k hlt;have hkl:(k:Int)<t.length+1:=by simp only[List.length_cons]at hlt;omega
    generalize hz:AA ((c::t).take k)=z at*;generalize hq:(c::t)[k]=q at*;go_wp2_with fail;go_roundg gk
    case measure=>omega
    case rel=>exact⟨k+1,by omega,by rw[hn1];congr 1;omega,by simp,g⟩
def Yw(w:World)(cs:List Value)(t:TypeId)(n:Nat)(hn:cs.length=n)(hm:n<=maxLen):(w.alloc (.cells cs.toArray t (0,0))).ownsRow w.heap.size t 1 (.slice (some ⟨w.heap.size,0,none⟩) n n) n cs:=
 ⟨by omega,.inr ⟨w.heap.size,n,cs.toArray,rfl,nR _,heap_alloc_new _ _,nR _,hm,by simp[hn],by simp[<-hn]⟩⟩
def FA(n:Nat)(hn:n<16)(h:n<(⟨#[48,49,50,51,52,53,54,55,56,57,97,98,99,100,101,102]⟩:ByteArray).size):(⟨#[48,49,50,51,52,53,54,55,56,57,97,98,99,100,101,102]⟩:ByteArray)[n]'h=A4 n:=by
 have hh:n=0\/n=1\/n=2\/n=3\/n=4\/n=5\/n=6\/n=7\/n=8\/n=9\/n=10\/n=11\/n=12\/n=13\/n=14\/n=15:=by omega
 rcases hh with rfl|rfl|rfl|rfl|rfl|rfl|rfl|rfl|rfl|rfl|rfl|rfl|rfl|rfl|rfl|rfl<;>rfl
def Mo{g:Nat}{l:Bs}(cap:Nat)(h:w.ownsRow B 5 1 (.slice (some ⟨g,0,none⟩) n cap) l.length (AQ l)):
 (convert 84 9 (.slice (some ⟨g,0,none⟩) n cap)).run Tryz.prog w= .ok (str l) w:=by
 have hn:n=l.length:=by
  rcases h.2 with⟨h1,_⟩| ⟨g',cap',cur,h1,_⟩
  ·cases h1
  ·cases h1;rfl
 subst hn;have hb:=run_convert_bytes_back (P:=Tryz.prog) w 84 9 5 ⟨g,0,none⟩ cap l underlying84 underlying5 underlying9 (by
  intro j hj;have:=h.cells (g:=g) rfl j (.int .u8 l[j].toNat) (by simp[AQ,hj]);exact this)
 exact hb
def Rv(s:Bs)(hs:s.length<=1000000000)(w:World):
 Calls Tryz.prog 50 #[str s] w (ρ w (str (qtM s))):=by
 have hsz:(⟨s.toArray⟩:ByteArray).size=s.length:=by simp[ByteArray.size]
 obtain⟨i0,hi0,hz0,hz1,hz2⟩:=info_parts GE;have HI:=S (X hi0 (X hz0 (X hz1 hz2)));have H0:=S (X (Yw w [.int .u8 34] 5 1 rfl (by decide)) (gZ w (.cells [.int .u8 34].toArray 5 (0,0)) none));clear hi0 hz0 hz1 hz2;go_enter func50,ntmps50;go_wp2_with fail;go_loopg [3,4,5] s.length (λg v3 v4 v5 wr=>∃k:Nat,k+g=s.length/\v4= .int .i64 k/\wr.ownsRow w.heap.size 5 1 v3 (Bd s k).length (AQ (Bd s k))/\w.grownBy wr none)
 case atStart=>exact⟨0,by omega,rfl,H0.1.1,H0.1.2⟩
 case round=>
  obtain⟨k,hk,rfl,hO,hG⟩:=hrel;clear H0;have hql:=KO s k;have hgs:=hG.size;cases gk with
  | zero=>
    have hkl:k=s.length:=by omega
    have hj1:decide (k<s.length)=false:=by simp;omega
    subst hkl;have HO:=S (X hO hG);clear hO hG;go_wp2_with (at_builtin;go_loud(refine wpList_append_lies _ rfl _ _ 84 rfl w.heap.size 5 i0 (.int .u8 0) 1 1 underlying84 HI.1.1 HI.1.2.1 HI.1.2.2.1 HI.1.2.2.2 rfl (by decide) u3 (Bd s s.length).length (AQ (Bd s s.length)) rfl (Cs HO.1.1 (gZ _ _ none) (by simp)) ⟨wr.heap.size,0,none⟩ 1 1 [.int .u8 34] rfl rfl (AP _ _ _) (by simp[Value.oneCell']) (by decide) (by unfold maxLen;omega) (by omega) (by simp<;>omega) _ rfl ?_;intro g cap w6 hown hgrow hat hlt;(have HX:=S (X hown hgrow));(have hback:=Mo cap (show w6.ownsRow w.heap.size 5 1 (.slice (some ⟨g,0,none⟩) ((Bd s s.length).length+1) cap) (qtM s).length (AQ (qtM s))by simpa[AQ,qtM]using hown));clear hown hgrow hat));go_ret;exact⟨rfl,BB (Z HO.1.2 (gZ _ _ _)) HX.1.2 (λx hx=>(HO.1.1.lt x hx).1)⟩
  | succ gk=>
    have hkl:k<s.length:=by omega
    have hj1:decide (k<s.length)=true:=by simp;omega
    have hgk:=λh=>CT s k h hkl;have hc256:=s[k].toNat_lt;have HO:=S (X hO hG);clear hO hG;have HQ:=S (show Bd s (k+1)=Bd s k++qtB s[k]by rw[Bd,B0 hkl]);generalize s[k]=c at*;by_cases h3:c.toNat=34
    ·have i4:((c.toNat:Int)==34)=true:=by simp;omega
     have HE:=S (show qtB c=[37,A4 (c.toNat/16),A4 (c.toNat%16)]by rw[qtB,if_pos (by simp[Cj,h3])]);clear h3;have hw1:IntKind.u8.wrap ((c.toNat:Int)/16)=((c.toNat/16:Nat):Int):=by
      rw[IntWalk.u8_in _ (by omega)];omega
     have hw2:((c.toNat:Int)).tmod 16=((c.toNat%16:Nat):Int):=by
      rw[Int.tmod_eq_emod_of_nonneg (by omega)];omega
     have hy1:c.toNat/16<16:=BR.1;have hy2:c.toNat%16<16:=BR.2;generalize c.toNat/16=q at*;generalize c.toNat%16=r at*;have hx1:=λh=>FA q hy1 h;have hx2:=λh=>FA r hy2 h;have hz1:(q:Int)<16:=by omega
     have hz2:(r:Int)<16:=by omega
     go_wp2_with fail;go_region_law((refine step_append_lies _ (by rfl) _ _ 84 (by rfl) w.heap.size 5 i0 (.int .u8 0) 1 1 underlying84 HI.1.1 HI.1.2.1 HI.1.2.2.1 HI.1.2.2.2 rfl (by decide) u3 (Bd s k).length (AQ (Bd s k)) (by rfl) (Cs HO.1.1 (Ac (Ad (Aa _ none)) _) (by simp)) ⟨wr.heap.size,0,none⟩ 3 3 [.int .u8 37,.int .u8 (A4 q).toNat,.int .u8 (A4 r).toNat] (by rfl) rfl (World.news_of_block (heap_alloc_new _ _)) (by simp[Value.oneCell']) (by decide) (by unfold maxLen;omega) (by omega) (by simp<;>omega) _ rfl ?_;intro g cap w6 hown hgrow hat hlt;(have HX:=S (X hown hgrow));clear hown hgrow hat));all_goals
      go_wp2;go_roundg gk
      case measure=>omega
      case rel=>exact⟨k+1,by omega,by go_num,by rw[HQ.1,HE.1,lA];simpa[AQ]using HX.1.1,BB (Z HO.1.2 (Ac (Ad (Aa _ _)) _)) HX.1.2 (λx hx=>(HO.1.1.lt x hx).1)⟩
    by_cases h4:c.toNat=37
    ·have i4:((c.toNat:Int)==34)=false:=by simp;omega
     have i5:((c.toNat:Int)==37)=true:=by simp;omega
     have HE:=S (show qtB c=[37,A4 (c.toNat/16),A4 (c.toNat%16)]by rw[qtB,if_pos (by simp[Cj,h4])]);clear h4;have hw1:IntKind.u8.wrap ((c.toNat:Int)/16)=((c.toNat/16:Nat):Int):=by
      rw[IntWalk.u8_in _ (by omega)];omega
     have hw2:((c.toNat:Int)).tmod 16=((c.toNat%16:Nat):Int):=by
      rw[Int.tmod_eq_emod_of_nonneg (by omega)];omega
     have hy1:c.toNat/16<16:=BR.1;have hy2:c.toNat%16<16:=BR.2;generalize c.toNat/16=q at*;generalize c.toNat%16=r at*;have hx1:=λh=>FA q hy1 h;have hx2:=λh=>FA r hy2 h;have hz1:(q:Int)<16:=by omega
     have hz2:(r:Int)<16:=by omega
     go_wp2_with fail;go_region_law((refine step_append_lies _ (by rfl) _ _ 84 (by rfl) w.heap.size 5 i0 (.int .u8 0) 1 1 underlying84 HI.1.1 HI.1.2.1 HI.1.2.2.1 HI.1.2.2.2 rfl (by decide) u3 (Bd s k).length (AQ (Bd s k)) (by rfl) (Cs HO.1.1 (Ac (Ad (Aa _ none)) _) (by simp)) ⟨wr.heap.size,0,none⟩ 3 3 [.int .u8 37,.int .u8 (A4 q).toNat,.int .u8 (A4 r).toNat] (by rfl) rfl (World.news_of_block (heap_alloc_new _ _)) (by simp[Value.oneCell']) (by decide) (by unfold maxLen;omega) (by omega) (by simp<;>omega) _ rfl ?_;intro g cap w6 hown hgrow hat hlt;(have HX:=S (X hown hgrow));clear hown hgrow hat));all_goals
      go_wp2;go_roundg gk
      case measure=>omega
      case rel=>exact⟨k+1,by omega,by go_num,by rw[HQ.1,HE.1,lA];simpa[AQ]using HX.1.1,BB (Z HO.1.2 (Ac (Ad (Aa _ _)) _)) HX.1.2 (λx hx=>(HO.1.1.lt x hx).1)⟩
    by_cases h1:c.toNat<32
    ·have i4:((c.toNat:Int)==34)=false:=by simp;omega
     have i5:((c.toNat:Int)==37)=false:=by simp;omega
     have i1:(c.toNat:Int)<32:=by omega
     have HE:=S (show qtB c=[37,A4 (c.toNat/16),A4 (c.toNat%16)]by rw[qtB,if_pos (by simp[Cj,h1])]);have hw1:IntKind.u8.wrap ((c.toNat:Int)/16)=((c.toNat/16:Nat):Int):=by
      rw[IntWalk.u8_in _ (by omega)];omega
     have hw2:((c.toNat:Int)).tmod 16=((c.toNat%16:Nat):Int):=by
      rw[Int.tmod_eq_emod_of_nonneg (by omega)];omega
     have hy1:c.toNat/16<16:=BR.1;have hy2:c.toNat%16<16:=BR.2;generalize c.toNat/16=q at*;generalize c.toNat%16=r at*;have hx1:=λh=>FA q hy1 h;have hx2:=λh=>FA r hy2 h;have hz1:(q:Int)<16:=by omega
     have hz2:(r:Int)<16:=by omega
     go_wp2_with fail;go_region_law((refine step_append_lies _ (by rfl) _ _ 84 (by rfl) w.heap.size 5 i0 (.int .u8 0) 1 1 underlying84 HI.1.1 HI.1.2.1 HI.1.2.2.1 HI.1.2.2.2 rfl (by decide) u3 (Bd s k).length (AQ (Bd s k)) (by rfl) (Cs HO.1.1 (Ac (Ad (Aa _ none)) _) (by simp)) ⟨wr.heap.size,0,none⟩ 3 3 [.int .u8 37,.int .u8 (A4 q).toNat,.int .u8 (A4 r).toNat] (by rfl) rfl (World.news_of_block (heap_alloc_new _ _)) (by simp[Value.oneCell']) (by decide) (by unfold maxLen;omega) (by omega) (by simp<;>omega) _ rfl ?_;intro g cap w6 hown hgrow hat hlt;(have HX:=S (X hown hgrow));clear hown hgrow hat));all_goals
      go_wp2;go_roundg gk
      case measure=>omega
      case rel=>exact⟨k+1,by omega,by go_num,by rw[HQ.1,HE.1,lA];simpa[AQ]using HX.1.1,BB (Z HO.1.2 (Ac (Ad (Aa _ _)) _)) HX.1.2 (λx hx=>(HO.1.1.lt x hx).1)⟩
    by_cases h2:126<c.toNat
    ·have i4:((c.toNat:Int)==34)=false:=by simp;omega
     have i5:((c.toNat:Int)==37)=false:=by simp;omega
     have i1:¬(c.toNat:Int)<32:=by omega
     have i2:126<(c.toNat:Int):=by omega
     have HE:=S (show qtB c=[37,A4 (c.toNat/16),A4 (c.toNat%16)]by rw[qtB,if_pos (by simp[Cj,h2])]);have hw1:IntKind.u8.wrap ((c.toNat:Int)/16)=((c.toNat/16:Nat):Int):=by
      rw[IntWalk.u8_in _ (by omega)];omega
     have hw2:((c.toNat:Int)).tmod 16=((c.toNat%16:Nat):Int):=by
      rw[Int.tmod_eq_emod_of_nonneg (by omega)];omega
     have hy1:c.toNat/16<16:=BR.1;have hy2:c.toNat%16<16:=BR.2;generalize c.toNat/16=q at*;generalize c.toNat%16=r at*;have hx1:=λh=>FA q hy1 h;have hx2:=λh=>FA r hy2 h;have hz1:(q:Int)<16:=by omega
     have hz2:(r:Int)<16:=by omega
     go_wp2_with fail;go_region_law((refine step_append_lies _ (by rfl) _ _ 84 (by rfl) w.heap.size 5 i0 (.int .u8 0) 1 1 underlying84 HI.1.1 HI.1.2.1 HI.1.2.2.1 HI.1.2.2.2 rfl (by decide) u3 (Bd s k).length (AQ (Bd s k)) (by rfl) (Cs HO.1.1 (Ac (Ad (Aa _ none)) _) (by simp)) ⟨wr.heap.size,0,none⟩ 3 3 [.int .u8 37,.int .u8 (A4 q).toNat,.int .u8 (A4 r).toNat] (by rfl) rfl (World.news_of_block (heap_alloc_new _ _)) (by simp[Value.oneCell']) (by decide) (by unfold maxLen;omega) (by omega) (by simp<;>omega) _ rfl ?_;intro g cap w6 hown hgrow hat hlt;(have HX:=S (X hown hgrow));clear hown hgrow hat));all_goals
      go_wp2;go_roundg gk
      case measure=>omega
      case rel=>exact⟨k+1,by omega,by go_num,by rw[HQ.1,HE.1,lA];simpa[AQ]using HX.1.1,BB (Z HO.1.2 (Ac (Ad (Aa _ _)) _)) HX.1.2 (λx hx=>(HO.1.1.lt x hx).1)⟩
    have i4:((c.toNat:Int)==34)=false:=by simp;omega
    have i5:((c.toNat:Int)==37)=false:=by simp;omega
    have i1:¬(c.toNat:Int)<32:=by omega
    have i2:¬126<(c.toNat:Int):=by omega
    have HE:=S (show qtB c=[c]by rw[qtB,if_neg (by simp[Cj,h1,h2,h3,h4])]);go_wp2_with (at_builtin;go_loud(refine wpList_append_lies _ rfl _ _ 84 rfl w.heap.size 5 i0 (.int .u8 0) 1 1 underlying84 HI.1.1 HI.1.2.1 HI.1.2.2.1 HI.1.2.2.2 rfl (by decide) u3 (Bd s k).length (AQ (Bd s k)) rfl (Cs HO.1.1 (gZ _ _ none) (by simp)) ⟨wr.heap.size,0,none⟩ 1 1 [.int .u8 c.toNat] rfl rfl (AP _ _ _) (by simp[Value.oneCell']) (by decide) (by unfold maxLen;omega) (by omega) (by simp<;>omega) _ rfl ?_;intro g cap w6 hown hgrow hat hlt;(have HX:=S (X hown hgrow));clear hown hgrow hat));go_roundg gk
    case measure=>omega
    case rel=>exact⟨k+1,by omega,by go_num,by rw[HQ.1,HE.1,lA];simpa[AQ]using HX.1.1,BB (Z HO.1.2 (gZ _ _ _)) HX.1.2 (λx hx=>(HO.1.1.lt x hx).1)⟩
def Lj:(Tryz.prog.info? 61).map (λi=>(i.zero,i.size,i.bytes))=some (some (.agg #[.int .i64 0,.int .i64 0,.int .i64 0,str []]),4,40):=by kernel_rfl
abbrev RS:=Nat×Bool
def C6:Ex:=⟨hd0 0 [],.nil⟩
def Al(l:List Tok):Prop:=∀i,(Ab l i).kind=0->Ay (Ab l i).text=decide ((Ab l i).text.length<=10)
def Cells.at1{l:List Bs}(h:Cells w (.slice pa n pc) 1 l.length (l.map str) ok):n=l.length/\∀k,k<l.length->∃g o,pa=some ⟨g,o,none⟩/\w.cell? ⟨g,o+k,none⟩=some (str (l.getD k [])):=by
 obtain⟨a,cap,e,_,_,_,h4⟩:=h;cases e;refine⟨rfl,λk hk=>?_⟩;obtain⟨g,o,e,_,hc⟩:=h4 k (str (l.getD k [])) (by simp[List.getD,List.getElem?_eq_getElem hk]);exact⟨g,o,e,hc⟩
def Fo.wt:Fo->Nat
 | .nil=>0
 | .cons _ kids next=>1+kids.wt+next.wt
def RepF.elem{n lc:Nat}{f:Fo}{h:Hd}{kids next:Fo}(hc:∀j u,cs[j]? =some u->∃g o,la=some ⟨g,o,none⟩/\ok g/\w.cell? ⟨g,o+j,none⟩=some u)
 (hr:RepF ok w (.cons h kids next) (cs.drop (k*7))):∃pa pc lb ld,Cells w (.slice pa h.p.length pc) 1 h.p.length (h.p.map str) ok/\RepL ok w (.slice lb kids.len ld) kids/\RepF ok w next (cs.drop ((k+1)*7))/\
  ∀i u,(hdC h (.slice pa h.p.length pc) (.slice lb kids.len ld))[i]? =some u->∃g o,la=some ⟨g,o,none⟩/\ok g/\w.cell? ⟨g,o+(k*7+i),none⟩=some u:=by
 obtain⟨pv,lv,kcs,rcs,hcs,hp,hl,hkids,hnext⟩:=hr;have hp':=hp;have hl':=hl;obtain⟨pa,pc,rfl,_⟩:=hp;obtain⟨lb,ld,rfl,_⟩:=hl;refine⟨pa,pc,lb,ld,hp',⟨kcs,hl',hkids⟩,?_,?_⟩
 ·have e : cs.drop ((k + 1) * 7) = rcs := by
   rw[show(k+1)*7=k*7+7 by omega,<-List.drop_drop,hcs];exact List.drop_left' rfl
  rw[e];exact hnext
 ·intro i u hu;refine hc (k*7+i) u ?_;have:cs[k*7+i]? =(cs.drop (k*7))[i]?:=by simp
  rw[this,hcs,List.getElem?_append_left (by have:=(List.getElem?_eq_some_iff.1 hu).1;exact this)];exact hu
structure Sd where
 op:Int
 s:Bs
 t:Bs
 p:List Bs
 x:Fo
 kind:Int
 n:Fo
 f:Fo
 w:Fo
variable{h:Sd}
inductive Bl where
 |nil
 |st (h:Sd) (b:Bl) (next:Bl)
 |bl (b:Bl) (next:Bl)
variable{next:Bl}
def Bl.len:Bl->Nat
 | .nil=>0
 | .st _ _ n=>n.len+1
 | .bl _ n=>n.len+1
def Bl.wt:Bl->Nat
 | .nil=>0
 | .st _ b n=>1+b.wt+n.wt
 | .bl b n=>1+b.wt+n.wt
def sdC(h:Sd)(pv xv bv nv fv wv:Value):List Value:=[.int .i64 h.op,str h.s,str h.t,pv,xv,bv,.int .i64 h.kind,nv,fv,wv]
structure SdRep(ok:Nat->Prop)(w:World)(h:Sd)(pa xa na fa wa:Option Addr)(pc xc nc fc wc:Nat):Prop where
 p:Cells w (.slice pa h.p.length pc) 1 h.p.length (h.p.map str) ok
 x:RepL ok w (.slice xa h.x.len xc) h.x
 n:RepL ok w (.slice na h.n.len nc) h.n
 f:RepL ok w (.slice fa h.f.len fc) h.f
 w:RepL ok w (.slice wa h.w.len wc) h.w
def SdRep.gb{xa na fa wa:Option Addr}{xc nc fc wc:Nat}(k:SdRep ok w h pa xa na fa wa pc xc nc fc wc)(g:w.grownBy w1 r)(hk:∀k,ok k->k<w.heap.size->some k≠r):SdRep ok w1 h pa xa na fa wa pc xc nc fc wc:=
 ⟨k.p.gb g hk,k.x.gb g hk,k.n.gb g hk,k.f.gb g hk,k.w.gb g hk⟩
def RepT(ok:Nat->Prop)(w:World):Bl->Bool->List Value->Prop
 | .nil,_,cs=>cs=[]
 | .st h b next,false,cs=>∃pa xa na fa wa ba,∃pc xc nc fc wc bc,∃kcs rest,cs=sdC h (.slice pa h.p.length pc) (.slice xa h.x.len xc) (.slice ba b.len bc) (.slice na h.n.len nc) (.slice fa h.f.len fc) (.slice wa h.w.len wc)++rest/\
  SdRep ok w h pa xa na fa wa pc xc nc fc wc/\Cells w (.slice ba b.len bc) 1 b.len kcs ok/\RepT ok w b true kcs/\RepT ok w next false rest
 | .bl b next,true,cs=>∃ba bc,∃kcs rest,cs= .slice ba b.len bc::rest/\Cells w (.slice ba b.len bc) 10 b.len kcs ok/\RepT ok w b false kcs/\RepT ok w next true rest
 |_,_,_=>False
abbrev szT(k:Bool):Nat:=if k then 1 else 10
def RepV(ok:Nat->Prop)(w:World)(k:Bool)(v:Value)(b:Bl):Prop:=∃cs,Cells w v (szT k) b.len cs ok/\RepT ok w b k cs
def RepT.gb(g:w.grownBy w1 r)(hk:∀k,ok k->k<w.heap.size->some k≠r):∀{b:Bl}{k:Bool}{cs:List Value},RepT ok w b k cs->RepT ok w1 b k cs:=by
 intro b;induction b with
 |nil=>intro k cs h;exact h
 | st h b n ih1 ih2=>
   intro k cs hr;cases k with
   |true=>exact hr
   | false=>
     obtain⟨pa,xa,na,fa,wa,ba,pc,xc,nc,fc,wc,bc,kcs,rest,e,h1,h2,h3,h4⟩:=hr;exact⟨pa,xa,na,fa,wa,ba,pc,xc,nc,fc,wc,bc,kcs,rest,e,h1.gb g hk,h2.gb g hk,ih1 h3,ih2 h4⟩
 | bl b n ih1 ih2=>
   intro k cs hr;cases k with
   |false=>exact hr
   | true=>
     obtain⟨ba,bc,kcs,rest,e,h2,h3,h4⟩:=hr;exact⟨ba,bc,kcs,rest,e,h2.gb g hk,ih1 h3,ih2 h4⟩
def RepV.gb{k:Bool}{b:Bl}(h:RepV ok w k v b)(g:w.grownBy w1 r)(hk:∀k,ok k->k<w.heap.size->some k≠r):RepV ok w1 k v b:=by
 obtain⟨cs,h1,h2⟩:=h;exact⟨cs,h1.gb g hk,h2.gb g hk⟩
def K2(hn:a.length=n)(h:cs.drop (k*n)=a++rest):cs.drop ((k+1)*n)=rest:=by
 rw[show(k+1)*n=k*n+n by rw[Nat.succ_mul],<-List.drop_drop,h];exact List.drop_left' hn
def KG(h:cs.drop m=a++rest){u:Value}(hu:a[i]? =some u):cs[m+i]? =some u:=by
 have:cs[m+i]? =(cs.drop m)[i]?:=by simp
 rw[this,h,List.getElem?_append_left (by have:=(List.getElem?_eq_some_iff.1 hu).1;exact this)];exact hu
def RepT.elem{b:Bl}(hc:∀j u,cs[j]? =some u->∃g o,la=some ⟨g,o,none⟩/\ok g/\w.cell? ⟨g,o+j,none⟩=some u)
 (hr:RepT ok w (.st h b next) false (cs.drop (k*10))):∃pa xa na fa wa ba,∃pc xc nc fc wc bc,SdRep ok w h pa xa na fa wa pc xc nc fc wc/\RepV ok w true (.slice ba b.len bc) b/\RepT ok w next false (cs.drop ((k+1)*10))/\
  ∀i u,(sdC h (.slice pa h.p.length pc) (.slice xa h.x.len xc) (.slice ba b.len bc) (.slice na h.n.len nc) (.slice fa h.f.len fc) (.slice wa h.w.len wc))[i]? =some u->∃g o,la=some ⟨g,o,none⟩/\ok g/\w.cell? ⟨g,o+(k*10+i),none⟩=some u:=by
 obtain⟨pa,xa,na,fa,wa,ba,pc,xc,nc,fc,wc,bc,kcs,rest,e,h1,h2,h3,h4⟩:=hr;exact⟨pa,xa,na,fa,wa,ba,pc,xc,nc,fc,wc,bc,h1,⟨kcs,h2,h3⟩,(K2 (n:=10) rfl e) ▸ h4,λi u hu=>hc _ u (KG e hu)⟩
def RepT.elemB{b:Bl}(hc:∀j u,cs[j]? =some u->∃g o,la=some ⟨g,o,none⟩/\ok g/\w.cell? ⟨g,o+j,none⟩=some u)
 (hr:RepT ok w (.bl b next) true (cs.drop k)):∃ba bc,RepV ok w false (.slice ba b.len bc) b/\RepT ok w next true (cs.drop (k+1))/\∃g o,la=some ⟨g,o,none⟩/\ok g/\w.cell? ⟨g,o+k,none⟩=some (.slice ba b.len bc):=by
 obtain⟨ba,bc,kcs,rest,e,h2,h3,h4⟩:=hr;refine⟨ba,bc,⟨kcs,h2,h3⟩,?_,?_⟩
 ·have:=K2 (k:=k) (n:=1) (a:=[.slice ba b.len bc]) rfl (by simpa using e);rw[Nat.mul_one]at this;rw[this];exact h4
 ·have:=hc _ _ (KG (m:=k) (a:=[.slice ba b.len bc]) (rest:=rest) (by simpa using e) (i:=0) rfl);simpa using this
def Ge:Bs:=[32,32,32,32,32,32,32,32]
def C8(s:Bs):Int×Bool:=
 if s=Ge then(0,true)
 else if s.length≠8\/s.all AL=false then(0,false)
 else((BV (AA (s.take 4)) (AA ((s.drop 4).take 2)) (AA (s.drop 6))).1,(BV (AA (s.take 4)) (AA ((s.drop 4).take 2)) (AA (s.drop 6))).2==0)
def digSet:Bs:=[48,49,50,51,52,53,54,55,56,57]
def TA(b:UInt8):digSet.contains b=AL b:=by
 rw[Bool.eq_iff_iff];constructor
 ·intro h;simp[digSet]at h;rcases h with h|h|h|h|h|h|h|h|h|h<;>subst h<;>decide
 ·intro h;simp[AL]at h;have:b.toNat=48\/b.toNat=49\/b.toNat=50\/b.toNat=51\/b.toNat=52\/b.toNat=53\/b.toNat=54\/b.toNat=55\/b.toNat=56\/b.toNat=57:=by omega
  rcases this with h|h|h|h|h|h|h|h|h|h<;>(have e:b=UInt8.ofNat b.toNat:=(by simp);rw[h]at e;rw[e];decide)
def NK(l:List UInt8):(Lib.trimS l digSet==[])=l.all AL:=by
 rw[N4];congr 1;funext b;exact TA b
def MC(s:Bs)(hs:s.length<=1000000)(w:World):
 Calls Tryz.prog 318 #[str s] w (ρ w (.tuple #[.int .i64 (C8 s).1,.bool (C8 s).2])):=by
 by_cases hb:s=Ge
 ·subst hb;go_enter func318,ntmps318;go_wp2;exact bZ (v:= .tuple #[.int .i64 0,.bool true]) (by simp[results,results318,go_sem]) rfl ⟨rfl,Aa _ _⟩
 have hb':(s==[32,32,32,32,32,32,32,32])=false:=by simpa[Ge]using hb
 by_cases h8:s.length=8
 ·have h8n:((s.length:Int)==8)=true:=by simp;omega
  have h8m:((s.length:Int) !=8)=false:=by simp;omega
  cases hd:s.all AL with
  | false=>
    have hm:C8 s=(0,false):=by simp only[C8,hb,if_false,hd];simp
    rw[hm];rw[<-NK]at hd;go_enter func318,ntmps318;go_wp2_with fail;refine(strings_Trim ⟨s.toArray⟩ ⟨digSet.toArray⟩ _ (by simp[ByteArray.size];omega) (by decide) (ascii_of_all (by decide))).mono ?_;rintro e w1 ⟨rfl,hbe⟩;have hgb:=gbB hbe none;change(Lib.trimS s digSet==[])=false at hd;rw[show Lib.trimS (ByteArray.mk s.toArray).data.toList (ByteArray.mk digSet.toArray).data.toList=Lib.trimS s digSet from rfl];generalize Lib.trimS s digSet=z at*;clear hbe;go_wp2;exact bZ (v:= .tuple #[.int .i64 0,.bool false]) (by simp[results,results318,go_sem]) rfl ⟨rfl,hgb⟩
  | true=>
    have hm:C8 s=((BV (AA (s.take 4)) (AA ((s.drop 4).take 2)) (AA (s.drop 6))).1,(BV (AA (s.take 4)) (AA ((s.drop 4).take 2)) (AA (s.drop 6))).2==0):=by
     simp only[C8,hb,if_false,hd,h8];simp
    rw[hm];clear hm;obtain⟨a0,a1,a2,a3,a4,a5,a6,a7,rfl⟩:∃a0 a1 a2 a3 a4 a5 a6 a7,s=[a0,a1,a2,a3,a4,a5,a6,a7]:=by
     match s,h8 with
     | [a0,a1,a2,a3,a4,a5,a6,a7],_=>exact⟨_,_,_,_,_,_,_,_,rfl⟩
    have hd4:[a0,a1,a2,a3].all AL=true/\[a4,a5].all AL=true/\[a6,a7].all AL=true:=by
     simp at hd ⊢;simp[hd]
    have HD:=S hd4;clear hd4;rw[<-NK]at hd;go_enter func318,ntmps318;go_wp2_with fail;refine mR (strings_Trim ⟨[a0,a1,a2,a3,a4,a5,a6,a7].toArray⟩ ⟨digSet.toArray⟩ _ (by simp[ByteArray.size]) (by decide) (ascii_of_all (by decide))) λw1 hbe=>?_;have hgb:=gbB hbe none;change(Lib.trimS [a0,a1,a2,a3,a4,a5,a6,a7] digSet==[])=true at hd;rw[show Lib.trimS (ByteArray.mk [a0,a1,a2,a3,a4,a5,a6,a7].toArray).data.toList (ByteArray.mk digSet.toArray).data.toList=Lib.trimS [a0,a1,a2,a3,a4,a5,a6,a7] digSet from rfl];generalize Lib.trimS [a0,a1,a2,a3,a4,a5,a6,a7] digSet=z at*;clear hbe;go_wp2_with fail;have hy:=Jp _ HD.1.1 4 (by simp);have hm:=Jp _ HD.1.2.1 2 (by simp);have hd':=Jp _ HD.1.2.2 2 (by simp);simp only[List.take_succ_cons,List.take_zero,List.drop_succ_cons,List.drop_zero,List.take_nil]at*;generalize hY:AA [a0,a1,a2,a3]=Y at*;generalize hMM:AA [a4,a5]=M at*;generalize hDD:AA [a6,a7]=D at*;have HN:=S (X hY (X hMM hDD));clear hY hMM hDD;have hx1:({data:=#[a0,a1,a2,a3,a4,a5,a6,a7]}:ByteArray).extract 0 4={data:=#[a0,a1,a2,a3]}:=rfl;have hx2:({data:=#[a0,a1,a2,a3,a4,a5,a6,a7]}:ByteArray).extract 4 6={data:=#[a4,a5]}:=rfl;have hx3:({data:=#[a0,a1,a2,a3,a4,a5,a6,a7]}:ByteArray).extract 6 8={data:=#[a6,a7]}:=rfl;have hda:=Wb Y M D (by omega) (by omega) (by omega) (by omega) (by omega) (by omega)
    have hv1:∀w,Calls Tryz.prog 342 #[.string ⟨#[a0,a1,a2,a3]⟩] w (ρ w (.int .i64 Y)):=λw=>by rw[<-HN.1.1];exact Lq [a0,a1,a2,a3] HD.1.1 (by simp) (by simp) w
    have hv2:∀w,Calls Tryz.prog 342 #[.string ⟨#[a4,a5]⟩] w (ρ w (.int .i64 M)):=λw=>by rw[<-HN.1.2.1];exact Lq [a4,a5] HD.1.2.1 (by simp) (by simp) w
    have hv3:∀w,Calls Tryz.prog 342 #[.string ⟨#[a6,a7]⟩] w (ρ w (.int .i64 D)):=λw=>by rw[<-HN.1.2.2];exact Lq [a6,a7] HD.1.2.2 (by simp) (by simp) w
    have HV:=S (X hda (X hv1 (X hv2 hv3)));clear hda hv1 hv2 hv3;go_region_with(first| (go_at_call 341;with_reducible refine(HV.1.1 _).mono ?_;rintro e w5 ⟨rfl,g5⟩)| (with_reducible refine(HV.1.2.1 _).mono ?_;rintro e w2 ⟨rfl,g2⟩)| (with_reducible refine(HV.1.2.2.1 _).mono ?_;rintro e w3 ⟨rfl,g3⟩)| (with_reducible refine(HV.1.2.2.2 _).mono ?_;rintro e w4 ⟨rfl,g4⟩));all_goals
     go_wp2;exact bZ (v:= .tuple #[.int .i64 (BV Y M D).1,.bool ((BV Y M D).2==0)]) (by simp[results,results318,go_sem]) rfl ⟨by rw[<-HN.1.1,<-HN.1.2.1,<-HN.1.2.2];(try rfl),Z (Z (Z (Z (Ad hgb) g2) g3) g4) g5⟩
 ·have hm:C8 s=(0,false):=by simp[C8,hb,h8]
  rw[hm];have h8n:((s.length:Int)==8)=false:=by simp;omega
  have h8m:((s.length:Int) !=8)=true:=by simp;omega
  go_enter func318,ntmps318;go_wp2;exact bZ (v:= .tuple #[.int .i64 0,.bool false]) (by simp[results,results318,go_sem]) rfl ⟨rfl,Aa _ _⟩
def Co(b:Nat):Int:=
 if b=9\/b=32 then 3 else if b=95\/(97<=b/\b<=122)\/(65<=b/\b<=90)then 1 else if 48<=b/\b<=57 then 2 else if b≠10/\(b<32\/126<b)then 4 else 0
def cls(c:Int)(b:UInt8):Bool:=Co b.toNat==c
def Bi(b:UInt8):Bool:=cls 1 b||cls 2 b
def Ar(s:Bs)(p:UInt8->Bool)(i:Nat):Nat:=i+((s.drop i).takeWhile p).length
def Er(h:s.length<=i):Ar s p i=i:=by simp[Ar,List.drop_eq_nil_of_le h]
def DH(h:i<s.length)(hp:p (bAt s i)=false):Ar s p i=i:=by
 simp[Ar,IM h,hp]
def Cz(h:i<s.length)(hp:p (bAt s i)=true):Ar s p i=Ar s p (i+1):=by
 simp[Ar,IM h,hp];omega
def BJ(s:Bs)(p:UInt8->Bool)(i:Nat):i<=Ar s p i:=Nat.le_add_right _ _
def CK(h:i<=s.length):Ar s p i<=s.length:=by
 have h1:((s.drop i).takeWhile p).length<=(s.drop i).length:=(List.takeWhile_sublist p).length_le;simp at h1;unfold Ar;omega
def Lo(h:Ar s p i<s.length):p (bAt s (Ar s p i))=false:=by
 induction hn:s.length-i generalizing i with
 |zero=>have:=BJ s p i;omega
 | succ n ih=>
   have hi:i<s.length:=by omega
   cases hp:p (bAt s i)with
   |false=>rw[DH hi hp];exact hp
   | true=>
     rw[Cz hi hp]at h ⊢;exact ih h (by omega)
def Jh(h1:i<=j)(h2:j<Ar s p i):j<s.length/\p (bAt s j)=true:=by
 induction hn:s.length-i generalizing i with
 |zero=>rw[Er (by omega)]at h2;omega
 | succ n ih=>
   have hi:i<s.length:=by omega
   cases hp:p (bAt s i)with
   |false=>rw[DH hi hp]at h2;omega
   | true=>
     by_cases e:i=j
     ·subst e;exact⟨hi,hp⟩
     ·rw[Cz hi hp]at h2;exact ih (by omega) h2 (by omega)
def Nl{q:UInt8->Bool}(h:∀b,p b=true->q b=true)(i:Nat):Ar s p i<=Ar s q i:=by
 induction hn:s.length-i generalizing i with
 |zero=>rw[Er (by omega),Er (by omega)];exact nR _
 | succ n ih=>
   have hi:i<s.length:=by omega
   cases hp:p (bAt s i)with
   |false=>rw[DH hi hp];exact BJ _ _ _
   | true=>
     rw[Cz hi hp,Cz hi (h _ hp)];exact ih _ (by omega)
def A6(s:Bs)(i j:Nat):Bs:=(s.drop i).take (j-i)
def Fh(h1:i<=j)(h2:j<=s.length):(A6 s i j).length=j-i:=by simp[A6];omega
def UY(h:k<j-i):(A6 s i j)[k]? =s[i+k]?:=by
 simp[A6,h]
def AV(s:Bs)(i:Nat):Nat:=Ar s (cls 3) i
def Au(s:Bs)(i:Nat):Nat:=Ar s (λb=>b !=10) i
def Gp(s:Bs)(i:Nat):Nat:=Ar s (λb=>b !=10&&!cls 4 b) i
def VV(s:Bs)(i:Nat):Gp s i<=Au s i:=Nl (by intro b hb;simp at hb ⊢;exact hb.1) i
def EX(s:Bs)(i:Nat):Bool:=[38,38].isPrefixOf (s.drop i)
def signsL:List Bs:=[[46,78,85,76,76,46],[46,65,78,68,46],[46,78,79,84,46],[46,79,82,46],[46,84,46],[46,70,46],[58,61],[61,61],[60,62],[33,61],[60,61],[62,61],[45,62],[40],[41],[91],[93],[123],[125],[44],[124],[58],[46],[61],[35],[60],[62],[43],[45],[42],[47],[37],[94],[36],[38],[63],[64],[33]]
def DE(s:Bs)(i:Nat)(w:Bs):Bool:=decide (i+w.length<=s.length)&&Lib.toUpperA (A6 s i (i+w.length))==w
def EY(s:Bs)(i:Nat):Option Bs:=signsL.find? (DE s i)
def Eu(t:Bs):Bs:=A6 t 2 6++A6 t 7 9++A6 t 10 12
def EE(t:Bs):Bool:=decide (13<=t.length)&&t.take 2==[123,94]&&bAt t 6==45&&bAt t 9==45&&bAt t 12==125
def C2(t:Bs):Option (Bs×Nat):=
 if [123,125].isPrefixOf t then some ([],2)
 else if EE t then(if(C8 (Eu t)).2&&Eu t !=Ge then some (Eu t,13)else none)
 else none
inductive St where
 |tok (t:Tok) (at':Nat) (line:Bool)
 |again (at':Nat) (line:Bool)
 |stop
 |bad (k:Nat)
def ER(s:Bs)(i:Nat):St:=
 let q:=Ar s (λb=>b !=10&&b !=bAt s i) (i+1)
 if q<s.length/\bAt s q≠10 then
  (if Ar (A6 s (i+1) q) (λb=>!cls 4 b) 0<q-(i+1)then .bad (i+1+Ar (A6 s (i+1) q) (λb=>!cls 4 b) 0)else .tok ⟨2,i,A6 s (i+1) q⟩ (q+1) true)
 else .bad i
def BQ(s:Bs)(i:Nat):St:=
 if cls 1 (bAt s i)then(if 24<Ar s Bi i-i then .bad i else .tok ⟨0,i,Lib.toUpperA (A6 s i (Ar s Bi i))⟩ (Ar s Bi i) true)
 else if cls 2 (bAt s i)then(if 15<Ar s (cls 2) i-i then .bad i else .tok ⟨1,i,A6 s i (Ar s (cls 2) i)⟩ (Ar s (cls 2) i) true)
 else if bAt s i=34\/bAt s i=39 then ER s i
 else match C2 (s.drop i)with
  |some (d,n)=> .tok ⟨3,i,d⟩ (i+n) true
  | none=>match EY s i with
    |some w=> .tok ⟨4,i,w⟩ (i+w.length) true
    |none=> .bad i
def BS(s:Bs)(i:Nat):Option Nat:=if Gp s i<Au s i then some (Gp s i)else none
def BT(s:Bs)(i:Nat):Nat:=if Au s i<s.length then Au s i+1 else Au s i
def CV(s:Bs)(k:Nat):Bool:=decide (s.length<=k)||bAt s k==10||EX s k
def Cx(s:Bs)(i:Nat)(line:Bool):St:=
 if s.length<=i then(if line then .tok ⟨5,i,[]⟩ i false else .stop)
 else if bAt s i=10 then(if line then .tok ⟨5,i,[]⟩ (i+1) false else .again (i+1) false)
 else if cls 3 (bAt s i)then .again (i+1) line
 else if(bAt s i==42&&!line)||EX s i then
  match BS s i with
  |some k=> .bad k
  |none=> .again (Au s i) line
 else if bAt s i=59 then
  (if CV s (AV s (i+1))then
   match BS s (AV s (i+1))with
   |some k=> .bad k
   |none=> .again (BT s (AV s (i+1))) line
  else .bad i)
 else BQ s i
inductive NR where
 |tok (t:Tok) (at':Nat) (line:Bool) (n:Nat)
 |stop
 |bad (k:Nat)
 |out
def Bh(s:Bs):Nat->Nat->Bool->NR
 | 0,_,_=> .out
 | n+1,i,line=>match Cx s i line with
   | .tok t j l=> .tok t j l n
   | .again j l=>Bh s n j l
   | .stop=> .stop
   | .bad k=> .bad k
inductive LexR where
 |ok (l:List Tok)
 |bad (k:Nat)
 |out
def LexR.cons(t:Tok):LexR->LexR
 | .ok l=> .ok (t::l)
 | .bad k=> .bad k
 | .out=> .out
def LexR.pre(p:List Tok):LexR->LexR
 | .ok l=> .ok (p++l)
 | .bad k=> .bad k
 | .out=> .out
def LexR.pre_nil(r:LexR):r.pre []=r:=by cases r<;>rfl
def LexR.pre_cons(p:List Tok)(t:Tok)(r:LexR):(r.cons t).pre p=r.pre (p++[t]):=by cases r<;>simp[LexR.cons,LexR.pre]
def CD(s:Bs):Nat->Nat->Bool->LexR
 | 0,_,_=> .out
 | n+1,i,line=>match Cx s i line with
   | .tok t j l=>(CD s n j l).cons t
   | .again j l=>CD s n j l
   | .stop=> .ok []
   | .bad k=> .bad k
def Kr(s:Bs):∀n i line,CD s n i line=match Bh s n i line with
 | .tok t j l m=>(CD s m j l).cons t
 | .stop=> .ok []
 | .bad k=> .bad k
 | .out=> .out:=by
 intro n;induction n with
 |zero=>intro i line;rfl
 | succ n ih=>
   intro i line;rw[CD,Bh];cases Cx s i line with
   |tok t j l=>rfl
   |again j l=>exact ih j l
   |stop=>rfl
   |bad k=>rfl
def MR{t:Bs}{d:Bs}(h:C2 t=some (d,n)):2<=n/\n<=t.length:=by
 unfold C2 at h;split at h
 ·rename_i h1;have:=(List.isPrefixOf_iff_prefix.1 h1).length_le;simp at h this;omega
 ·split at h
  ·rename_i h2;simp[EE]at h2;split at h
   ·simp at h;omega
   ·simp at h
  ·simp at h
def Kk{w:Bs}(h:w∈signsL):1<=w.length/\w.length<=6:=by
 have:signsL.all (λw=>decide (1<=w.length)&&decide (w.length<=6))=true:=by decide
 have:=List.all_eq_true.1 this w h;simpa using this
def Nn{w:Bs}(h:EY s i=some w):w∈signsL/\i+w.length<=s.length/\Lib.toUpperA (A6 s i (i+w.length))=w:=by
 have h1:=List.mem_of_find?_eq_some h;have h2:=List.find?_some h;simp[DE]at h2;exact⟨h1,h2.1,h2.2⟩
def Tn(h:i<s.length)(h10:bAt s i≠10):i<Au s i:=by
 unfold Au;rw[Cz h (by simpa using h10)];exact BJ _ _ _
def RI(s:Bs)(i:Nat):i<=BT s i:=by
 unfold BT;have:=BJ s (λb=>b !=10) i;change i<=Au s i at this;split<;>omega
def RJ(h:i<=s.length):BT s i<=s.length:=by
 unfold BT;have:Au s i<=s.length:=CK h;split<;>omega
def L5(s:Bs)(i:Nat)(line:Bool):St->Prop
 | .tok _ j l=>i<=j/\j<=s.length/\2*(s.length-j)+l.toNat<2*(s.length-i)+line.toNat
 | .again j l=>i<j/\j<=s.length/\2*(s.length-j)+l.toNat<2*(s.length-i)+line.toNat
 | .stop=>i=s.length/\line=false
 | .bad k=>k<s.length
def Rr(h:i<s.length):L5 s i line (ER s i):=by
 unfold ER;have h1:=BJ s (λb=>b !=10&&b !=bAt s i) (i+1);simp only[];split
 ·rename_i h2;split
  ·rename_i h3;show _<s.length;omega
  ·refine⟨by omega,by omega,?_⟩;simp only[Bool.toNat_true];omega
 ·exact h
def R2(h:i<s.length):L5 s i line (BQ s i):=by
 unfold BQ;split
 ·rename_i h1;have h2:=Cz (p:=Bi) h (by simp[Bi,h1]);have h3:=BJ s Bi (i+1);have h4:=CK (p:=Bi) (Nat.le_of_lt h);split
  ·exact h
  ·refine⟨by omega,by omega,?_⟩;simp only[Bool.toNat_true];omega
 ·split
  ·rename_i h1;have h2:=Cz (p:=cls 2) h h1;have h3:=BJ s (cls 2) (i+1);have h4:=CK (p:=cls 2) (Nat.le_of_lt h);split
   ·exact h
   ·refine⟨by omega,by omega,?_⟩;simp only[Bool.toNat_true];omega
  ·split
   ·exact Rr h
   ·cases hd:C2 (s.drop i)with
    | some p=>
      obtain⟨d,n⟩:=p;have:=MR hd;simp at this;refine⟨by omega,by omega,?_⟩;simp only[Bool.toNat_true];omega
    | none=>
      cases hs:EY s i with
      |none=>exact h
      | some w=>
        obtain⟨h1,h2,_⟩:=Nn hs;have:=Kk h1;refine⟨by omega,by omega,?_⟩;simp only[Bool.toNat_true];omega
def LP(h:i<=s.length)(hc:BS s i=some k):k<s.length:=by
 unfold BS at hc;have:Au s i<=s.length:=CK h;split at hc
 ·simp at hc;omega
 ·simp at hc
def Qw(s:Bs)(line:Bool)(h:i<=s.length):L5 s i line (Cx s i line):=by
 unfold Cx;split
 ·have e:i=s.length:=by omega
  cases line with
  |true=>exact⟨by omega,by omega,by simp⟩
  |false=>exact⟨e,rfl⟩
 ·rename_i hi;split
  ·cases line with
   |true=>exact⟨by omega,by omega,by simp;omega⟩
   |false=>exact⟨by omega,by omega,by simp;omega⟩
  ·rename_i h10;split
   ·exact⟨by omega,by omega,by omega⟩
   ·split
    ·cases hc:BS s i with
     |some k=>exact LP h hc
     | none=>
       have h1:=Tn (by omega) h10;have h2:Au s i<=s.length:=CK h;exact⟨by omega,by omega,by omega⟩
    ·split
     ·have h1:i+1<=AV s (i+1):=BJ _ _ _;have h2:AV s (i+1)<=s.length:=CK (by omega);split
      ·cases hc:BS s (AV s (i+1))with
       |some k=>exact LP h2 hc
       | none=>
         have h3:=RI s (AV s (i+1));have h4:=RJ h2;exact⟨by omega,by omega,by omega⟩
      ·show _<_;omega
     ·exact R2 (by omega)
def S9(s:Bs):∀n i line,i<=s.length->2*(s.length-i)+line.toNat<n->match Bh s n i line with
 | .tok _ j l m=>j<=s.length/\2*(s.length-j)+l.toNat<m
 | .stop=>True
 | .bad k=>k<s.length
 | .out=>False:=by
 intro n;induction n with
 |zero=>intro i line _ h;omega
 | succ n ih=>
   intro i line hi hn;have hg:=Qw s line hi;unfold Bh;cases hs:Cx s i line with
   |tok t j l=>rw[hs]at hg;exact⟨hg.2.1,by have:=hg.2.2;omega⟩
   |again j l=>rw[hs]at hg;exact ih j l hg.2.1 (by have:=hg.2.2;omega)
   |stop=>trivial
   |bad k=>rw[hs]at hg;exact hg
def AF(k:Nat):List Value:=(List.range 256).map λj=> .int .u8 (if j<k then Co j else 0)
def I1(k j:Nat)(hj:j<256):(AF k)[j]? =some (.int .u8 (if j<k then Co j else 0)):=by simp[AF,hj]
def G3(k:Nat):(AF k).length=256:=by simp[AF]
def EW(s:Bs)(i:Int)(line begun:Bool)(bad:Int):List Value:=str s :: .int .i64 i::(AF 256++[.bool line,.bool begun,.int .i64 bad])
def Rx(s:Bs)(i:Int)(line begun:Bool)(bad:Int)(j:Nat)(hj:j<256):(EW s i line begun bad)[2+j]? =some (.int .u8 (Co j)):=by
 rw[show 2+j=j+1+1 by omega];simp only[EW,List.getElem?_cons_succ];rw[List.getElem?_append_left (by rw[G3];exact hj),I1 _ _ hj];simp[hj]
def KW(s:Bs)(i:Int)(line begun:Bool)(bad:Int)(j:Nat):(EW s i line begun bad)[258+j]? =[.bool line,.bool begun,.int .i64 bad][j]?:=by
 rw[show 258+j=256+j+1+1 by omega];simp only[EW,List.getElem?_cons_succ];rw[List.getElem?_append_right (by rw[G3];omega),G3,show 256+j-256=j by omega]
def TE(s:Bs)(i j:Int)(line begun:Bool)(bad:Int):(EW s i line begun bad).set 1 (.int .i64 j)=EW s j line begun bad:=rfl
def JU(s:Bs)(i:Int)(line begun:Bool)(bad:Int)(j:Nat)(v:Value):(EW s i line begun bad).set (258+j) v=str s :: .int .i64 i::(AF 256++[.bool line,.bool begun,.int .i64 bad].set j v):=by
 rw[show 258+j=256+j+1+1 by omega];simp only[EW,List.set_cons_succ];rw[List.set_append_right _ _ (by rw[G3];omega),G3,show 256+j-256=j by omega]
structure Sc(w:World)(b:Nat)(s:Bs)(i:Nat)(line begun:Bool)(bad:Int):Prop where
 blk:Blk w b (EW s i line begun bad) 247
 le:i<=s.length
 few:s.length<=4000
def Sc.lt(h:Sc w b s i line begun bad):b<w.heap.size:=h.blk.lt
def Sc.c0(h:Sc w b s i line begun bad):w.cell? ⟨b,0,none⟩=some (str s):=h.blk.cell 0
def Sc.c1(h:Sc w b s i line begun bad):w.cell? ⟨b,1,none⟩=some (.int .i64 i):=h.blk.cell 1
def Sc.cls(h:Sc w b s i line begun bad)(x:UInt8):w.cell? ⟨b,2+x.toNat,none⟩=some (.int .u8 (Co x.toNat)):=(h.blk.cell _).trans (Rx _ _ _ _ _ _ x.toNat_lt)
def Sc.c258(h:Sc w b s i line begun bad):w.cell? ⟨b,258,none⟩=some (.bool line):=(h.blk.cell _).trans (KW _ _ _ _ _ 0)
def Sc.c259(h:Sc w b s i line begun bad):w.cell? ⟨b,259,none⟩=some (.bool begun):=(h.blk.cell _).trans (KW _ _ _ _ _ 1)
def Sc.c260(h:Sc w b s i line begun bad):w.cell? ⟨b,260,none⟩=some (.int .i64 bad):=(h.blk.cell _).trans (KW _ _ _ _ _ 2)
def Sc.fr(h:Sc w b s i line begun bad)(k:Nat):w.frozen? ⟨b,k,none⟩=false:=h.blk.frozen k
def Sc.gb(h:Sc w b s i line begun bad)(g:w.grownBy w1 r)(hr:some b≠r):Sc w1 b s i line begun bad:=⟨h.blk.gb g hr,h.le,h.few⟩
def Sc.gbN(h:Sc w b s i line begun bad)(g:w.grownBy w1 none):Sc w1 b s i line begun bad:=h.gb g (by simp)
def Sc.alloc(h:Sc w b s i line begun bad)(o:Obj):Sc (w.alloc o) b s i line begun bad:=h.gbN (gZ w o none)
def Sc.drewN(h:Sc w b s i line begun bad)(n:Nat):Sc (w.drewN n) b s i line begun bad:=h.gbN (Aj (Aa w none) n)
def Sc.go(h:Sc w b s i line begun bad)(z:Int)(j:Nat)(hz:z=j)(hj:j<=s.length):Sc (w.setCell ⟨b,1,none⟩ (.int .i64 z)) b s j line begun bad:=by
 subst hz;exact⟨(h.blk.set 1 _).of_eq rfl (TE _ _ _ _ _ _),hj,h.few⟩
def Sc.at_eq(h:Sc w b s i line begun bad)(e:i=j):Sc w b s j line begun bad:=e ▸ h
def Sc.setLine(h:Sc w b s i line begun bad)(l:Bool):Sc (w.setCell ⟨b,258,none⟩ (.bool l)) b s i l begun bad:=⟨(h.blk.set 258 _).of_eq rfl (JU _ _ _ _ _ 0 _),h.le,h.few⟩
def Sc.setBegun(h:Sc w b s i line begun bad)(l:Bool):Sc (w.setCell ⟨b,259,none⟩ (.bool l)) b s i line l bad:=⟨(h.blk.set 259 _).of_eq rfl (JU _ _ _ _ _ 1 _),h.le,h.few⟩
def Sc.setBad(h:Sc w b s i line begun bad)(k:Int):Sc (w.setCell ⟨b,260,none⟩ (.int .i64 k)) b s i line begun k:=⟨(h.blk.set 260 _).of_eq rfl (JU _ _ _ _ _ 2 _),h.le,h.few⟩
def Sc.set_other(h:Sc w b s i line begun bad)(a:Addr)(v:Value)(hne:b≠a.block):Sc (w.setCell a v) b s i line begun bad:=⟨h.blk.set_other a v hne,h.le,h.few⟩
def GL(s:Bs)(k:Nat)(h:k<(⟨s.toArray⟩:ByteArray).size)(h2:k<s.length):(⟨s.toArray⟩:ByteArray)[k]'h=bAt s k:=by rw[B0 h2];rfl
def OL(x:UInt8):x.toNat<256:=x.toNat_lt
def Zo(h:Sc w b s i line begun bad)(k:Nat)(c:Int):
 Calls Tryz.prog 289 #[.pointer (some ⟨b,0,none⟩),.int .i64 k,.int .u8 c] w (ρ w (.bool (decide (k<s.length)&&(Co (bAt s k).toNat==c)))):=by
 have c0:=h.c0;have hb:=h.lt;have hf:=h.few;by_cases hk:k<s.length
 ·have cc:=h.cls (bAt s k);have hg:=λh=>GL s k h hk;have hx:=OL (bAt s k);generalize bAt s k=x at*;have hk1:decide ((k:Int)<s.length)=true:=by simp;omega
  generalize hn:s.length=n at*;clear h;go_enter func289,ntmps289;go_wp2;go_quiet(fail);go_wp2;go_ret;exact⟨by simp[hk],(Aj (Aa _ _) _)⟩
 ·have hk1:decide ((k:Int)<s.length)=false:=by simp;omega
  generalize hn:s.length=n at*;clear h;go_enter func289,ntmps289;go_wp2;go_quiet(fail);go_wp2;go_ret;exact⟨by simp[hk],(Aj (Aa _ _) _)⟩
def Cw(h:Sc w b s i line begun bad)(k:Nat)(c:Int){r:Bool}(hr:(decide (k<s.length)&&cls c (bAt s k))=r):
 Calls Tryz.prog 289 #[.pointer (some ⟨b,0,none⟩),.int .i64 k,.int .u8 c] w (ρ w (.bool r)):=by
 subst hr;exact Zo h k c
def Xo(h:Sc w b s i line begun bad):
 Calls Tryz.prog 262 #[.pointer (some ⟨b,0,none⟩)] w λe w'=>e= .returned (.tuple #[])/\Sc w' b s (AV s i) line begun bad/\w.grownBy w' (some b):=by
 go_enter func262,ntmps262;go_wp2_with fail;have hi:=h.le;go_loopg [] (s.length-i) (λg wr=>∃k:Nat,k+g=s.length/\Sc wr b s k line begun bad/\AV s k=AV s i/\w.grownBy wr (some b))
 case atStart=>exact⟨i,by omega,h,rfl,Aa _ _⟩
 case round=>
  obtain⟨k,hk,hs,hq,g⟩:=hrel;have HQ:=S hq;clear hq h hi;have hc1:=hs.c1;have hb:=hs.lt;cases hc:(decide (k<s.length)&&cls 3 (bAt s k))with
  | true=>
    simp only[Bool.and_eq_true,decide_eq_true_eq]at hc;cases gk with
    |zero=>omega
    |succ gk=>
    have HC:=S hc.2;have hkl:=hc.1;clear hc;go_wp2_with fail;refine mR (Cw hs k 3 (r:=true) (by simp[hkl,HC.1])) λw1 g1=>?_;have hs1:=hs.gbN g1;have c1:=hs1.c1;have f1:=hs1.fr 1;have hf:=hs.few;go_wp2;go_roundg gk
    case measure=>omega
    case rel=>exact⟨k+1,by omega,hs1.go _ (k+1) (by omega) (by omega),by rw[<-HQ.1];exact(Cz hkl HC.1).symm,Af (Ag g g1) _ _ (.inl rfl)⟩
  | false=>
    have HC:=S hc;go_wp2_with fail;refine mR (Cw hs k 3 (r:=false) HC.1) λw1 g1=>?_;have hs1:=hs.gbN g1;have hk2:AV s k=k:=by
     have h2:=HC.1;by_cases hkl:k<s.length
     ·exact DH hkl (by simpa[hkl]using h2)
     ·exact Er (by omega)
    have HK:=S (hk2.symm.trans HQ.1);clear hk2;go_wp2;go_end0;exact⟨rfl,hs1.at_eq HK.1,Ag g g1⟩
def Cf(s:Bs)(i j:Nat):(⟨s.toArray⟩:ByteArray).extract i j=⟨((s.drop i).take (j-i)).toArray⟩:=by
 apply ByteArray.ext;apply Array.ext';rw[Lib.extract_data]
def Hu(s:Bs)(i:Nat):(⟨s.toArray⟩:ByteArray).extract i s.length=⟨(s.drop i).toArray⟩:=by
 rw[Cf,List.take_of_length_le (by simp)]
def Zd(s:Bs)(c:UInt8)(k:Nat):Lib.indexByte (s.drop k) c=if Ar s (λb=>b !=c) k<s.length then((Ar s (λb=>b !=c) k-k:Nat):Int)else -1:=by
 induction hn:s.length-k generalizing k with
 |zero=>rw[Er (by omega),List.drop_eq_nil_of_le (by omega),if_neg (by omega)];rfl
 | succ n ih=>
   have hk:k<s.length:=by omega
   rw[IM hk,Lib.indexByte];cases hc:(bAt s k==c)with
   | true=>
     rw[DH hk (by simpa using hc)];simp[hk]
   | false=>
     rw[Cz hk (by simpa using hc),ih (k+1) (by omega)];have h1:=BJ s (λb=>b !=c) (k+1);by_cases h2:Ar s (λb=>b !=c) (k+1)<s.length
     ·simp only[if_pos h2];simp only[Bool.false_eq_true,if_false];rw[if_neg (by simp;try omega)];omega
     ·simp[h2]
def JQ(h:Sc w b s i line begun bad)(k:Nat)(hk:k<=s.length):
 Calls Tryz.prog 290 #[.pointer (some ⟨b,0,none⟩),.int .i64 k] w λe w'=>e= .returned (.int .i64 (Au s k))/\w=w':=by
 have c0:=h.c0;have hb:=h.lt;have hf:=h.few;have H0:=Zd s 10 k;have hr:=BJ s (λb=>b !=10) k;have hr2:=CK (p:=λb=>b !=10) hk;have hkI:decide ((k:Int)<=s.length)=true:=by simp;omega
 rw[show Ar s (λb=>b !=10) k=Au s k from rfl]at*;by_cases hl:Au s k<s.length
 ·rw[if_pos hl]at H0;obtain⟨d,hd⟩:∃d,Au s k=k+d:=⟨Au s k-k,by omega⟩;rw[hd]at H0 ⊢;rw[show k+d-k=d by omega]at H0;rw[hd]at hl hr2;have H:=S H0;clear H0 hd;go_enter func290,ntmps290;go_wp2_with fail;refine(strings_IndexByte _ _ _).mono ?_;rintro e w1 ⟨rfl,rfl⟩;rw[Hu];rw[show Lib.indexByte (ByteArray.mk (List.drop k s).toArray).data.toList ((10:Int).toNat.toUInt8)=_ from H.1];go_wp2;go_ret;exact⟨by simp,rfl⟩
 ·have he:Au s k=s.length:=by omega
  rw[if_neg hl]at H0;rw[he];have H:=S H0;clear H0 he;go_enter func290,ntmps290;go_wp2_with fail;refine(strings_IndexByte _ _ _).mono ?_;rintro e w1 ⟨rfl,rfl⟩;rw[Hu];rw[show Lib.indexByte (ByteArray.mk (List.drop k s).toArray).data.toList ((10:Int).toNat.toUInt8)=_ from H.1];go_wp2;go_ret;exact⟨rfl,rfl⟩
def Ri(w:World)(b:Nat)(s:Bs)(i:Nat)(line begun:Bool)(bad:Int)(e:Ending)(w':World):Prop:=w.grownBy w' (some b)/\match BS s i with
 |some k=>e= .returned (.bool false)/\∃j,Sc w' b s j line begun k
 |none=>e= .returned (.bool true)/\Sc w' b s (Au s i) line begun bad
def I2(h:Sc w b s i line begun bad):
 Calls Tryz.prog 264 #[.pointer (some ⟨b,0,none⟩)] w (Ri w b s i line begun bad):=by
 have hi:=h.le;have c1:=h.c1;have hle:Au s i<=s.length:=CK hi;have hge:i<=Au s i:=BJ _ _ _;go_enter func264,ntmps264;go_wp2_with fail;refine(JQ h i hi).mono ?_;rintro e w1 ⟨rfl,rfl⟩;go_wp2_with fail;go_loopg [] (Au s i-i) (λg wr=>∃k:Nat,k+g=Au s i/\i<=k/\Sc wr b s k line begun bad/\Gp s k=Gp s i/\w.grownBy wr (some b))
 case atStart=>exact⟨i,by omega,nR _,h,rfl,Aa _ _⟩
 case round=>
  obtain⟨k,hk,hik,hs,hq,g⟩:=hrel;have HQ:=S hq;have HL:=S hle;clear hq h hi c1 hle;have c1:=hs.c1;have hf:=hs.few;have hb:=hs.lt;cases gk with
  | zero=>
    have HM:=S (show BS s i=none by unfold BS;rw[if_neg (by have h1:=VV s i;have h2:=BJ s (λb=>b !=10&&!cls 4 b) k;change k<=Gp s k at h2;rw[HQ.1]at h2;omega)]);have hs':=hs.at_eq (show k=Au s i by omega);have hkI:(k:Int)=Au s i:=by omega
    have hkI2:decide (k<Au s i)=false:=by simp;omega
    clear hk hkI;go_wp2;go_ret;exact⟨g,by rw[HM.1];exact⟨rfl,hs'⟩⟩
  | succ gk=>
    have hlt:k<Au s i:=by omega
    have h10:=Jh hik hlt;have HT:=S h10;have hkl:=h10.1;have hltI:decide ((k:Int)<Au s i)=true:=by simp;omega
    clear h10;cases hc:cls 4 (bAt s k)with
    | true=>
      have HC:=S hc;have HM:=S (show BS s i=some k by
       have h2:Gp s k=k:=DH hkl (by simp[HC.1]);rw[HQ.1]at h2;unfold BS;rw[h2,if_pos hlt])
      clear hc;go_wp2_with fail;refine mR (Cw hs k 4 (r:=true) (by simp[hkl,HC.1])) λw1 g1=>?_;have hs1:=hs.gbN g1;have d1:=hs1.c1;have f1:=hs1.fr 260;have c260:=hs1.c260;go_wp2;go_ret;exact⟨Af (Ag g g1) _ _ (.inl rfl),by rw[HM.1];exact⟨rfl,k,hs1.setBad k⟩⟩
    | false=>
      have HC:=S hc;clear hc;go_wp2_with fail;refine mR (Cw hs k 4 (r:=false) (by simp[hkl,HC.1])) λw1 g1=>?_;have hs1:=hs.gbN g1;have d1:=hs1.c1;have f1:=hs1.fr 1;go_wp2;go_roundg gk
      case measure=>omega
      case rel=>exact⟨k+1,by omega,by omega,hs1.go _ (k+1) (by omega) (by omega),by rw[<-HQ.1];exact(Cz hkl (by simp[HC.1];simpa using HT.1.2)).symm,Af (Ag g g1) _ _ (.inl rfl)⟩
abbrev tok0:Value:= .agg #[.int .i64 0,.int .i64 0,str []]
def Tt(w:World)(b:Nat)(s:Bs)(i:Nat)(line begun:Bool)(bad:Int)(t:Tok)(most:Nat)(e:Ending)(w':World):Prop:=
 w.grownBy w' (some b)/\if most<t.text.length then e= .returned (.bool false)/\Sc w' b s i line begun t.pos else e= .returned (.bool true)/\Sc w' b s i line begun bad
def Nm(h:Sc w b s i line begun bad)(t:Tok)(most:Nat):
 Calls Tryz.prog 292 #[.pointer (some ⟨b,0,none⟩),AR t,.int .i64 most] w (Tt w b s i line begun bad t most):=by
 have hb:=h.lt;have f1:=h.fr 260;have c260:=h.c260;by_cases hl:most<t.text.length
 ·have HP:=S hl;have hl1:decide (most<t.text.length)=true:=by simpa using hl
  clear hl;go_enter func292,ntmps292;go_wp2;go_ret;exact⟨(by repeat(first| (with_reducible exact Aa _ _)| (with_reducible refine Ac ?_ _)| ((with_reducible refine Af ?_ _ _ ?h2);case h2=>exact .inl rfl))),by rw[if_pos HP.1];exact⟨rfl,(h.setBad _).alloc _⟩⟩
 ·have HP:=S hl;have hl1:decide (most<t.text.length)=false:=by simpa using hl
  clear hl;go_enter func292,ntmps292;go_wp2;go_ret;exact⟨(Ac (Aa _ _) _),by rw[if_neg HP.1];exact⟨rfl,h.alloc _⟩⟩
def XJ(w:World)(b:Nat)(s:Bs)(i:Nat)(line:Bool)(bad:Int)(e:Ending)(w':World):Prop:=
 w.grownBy w' (some b)/\Sc w' b s (if i<s.length then i+1 else i) false false bad/\
  e= .returned (.tuple #[if line then AR ⟨5,i,[]⟩else tok0,.bool (line||!decide (i<s.length))])
def Mw(h:Sc w b s i line line bad):
 Calls Tryz.prog 263 #[.pointer (some ⟨b,0,none⟩)] w (XJ w b s i line bad):=by
 have hb:=h.lt;have hf:=h.few;have c0:=h.c0;have c1:=h.c1;have c258:=h.c258;have c259:=h.c259;have f1:=h.fr 1;have f258:=h.fr 258;have f259:=h.fr 259;by_cases hl:i<s.length
 ·have HP:=S hl;have hl1:((i:Int)==(s.length:Int))=false:=by simp;omega
  cases line
  case' true=>
   go_enter func263,ntmps263;go_wp2;go_quiet(fail);go_wp2;refine bZ (v:= .tuple #[AR ⟨5,i,[]⟩,.bool true]) (by simp[results,results263,go_sem]) rfl ⟨(by repeat(first| (with_reducible exact Aa _ _)| (with_reducible refine Ac ?_ _)| (with_reducible refine Aj ?_ _)| ((with_reducible refine Af ?_ _ _ ?h2);case h2=>first|exact .inl rfl|exact .inr (nR _)))),?_,by simp⟩
  case' false=>
   go_enter func263,ntmps263;go_wp2;go_quiet(fail);go_wp2;refine bZ (v:= .tuple #[tok0,.bool false]) (by simp[results,results263,go_sem]) rfl ⟨(by repeat(first| (with_reducible exact Aa _ _)| (with_reducible refine Ac ?_ _)| (with_reducible refine Aj ?_ _)| ((with_reducible refine Af ?_ _ _ ?h2);case h2=>first|exact .inl rfl|exact .inr (nR _)))),?_,by simp[HP.1]⟩
  all_goals
   rw[if_pos HP.1];exact(by repeat(first| (with_reducible assumption)| (with_reducible apply Sc.alloc)| (with_reducible apply Sc.drewN)| (with_reducible apply Sc.setLine)| (with_reducible apply Sc.setBegun)| (with_reducible apply Sc.go)| (with_reducible apply Sc.set_other)|omega| (simp<;>omega)))
 ·have HP:=S hl;have hl1:((i:Int)==(s.length:Int))=true:=by have:=h.le;simp;omega
  cases line
  case' true=>
   go_enter func263,ntmps263;go_wp2;go_quiet(fail);go_wp2;refine bZ (v:= .tuple #[AR ⟨5,i,[]⟩,.bool true]) (by simp[results,results263,go_sem]) rfl ⟨(by repeat(first| (with_reducible exact Aa _ _)| (with_reducible refine Ac ?_ _)| (with_reducible refine Aj ?_ _)| ((with_reducible refine Af ?_ _ _ ?h2);case h2=>first|exact .inl rfl|exact .inr (nR _)))),?_,by simp⟩
  case' false=>
   go_enter func263,ntmps263;go_wp2;go_quiet(fail);go_wp2;refine bZ (v:= .tuple #[tok0,.bool true]) (by simp[results,results263,go_sem]) rfl ⟨(by repeat(first| (with_reducible exact Aa _ _)| (with_reducible refine Ac ?_ _)| (with_reducible refine Aj ?_ _)| ((with_reducible refine Af ?_ _ _ ?h2);case h2=>first|exact .inl rfl|exact .inr (nR _)))),?_,by simp[HP.1]⟩
  all_goals
   rw[if_neg HP.1];exact(by repeat(first| (with_reducible assumption)| (with_reducible apply Sc.alloc)| (with_reducible apply Sc.drewN)| (with_reducible apply Sc.setLine)| (with_reducible apply Sc.setBegun)| (with_reducible apply Sc.set_other)| (simp<;>omega)))
def IY(w:World)(b:Nat)(s:Bs)(i:Nat)(line begun:Bool)(bad:Int)(e:Ending)(w':World):Prop:=
 w.grownBy w' (some b)/\if CV s (AV s (i+1))then(match BS s (AV s (i+1))with
  |some k=>e= .returned (.tuple #[.bool true,.bool false])/\∃j,Sc w' b s j line begun k
  |none=>e= .returned (.tuple #[.bool true,.bool true])/\Sc w' b s (BT s (AV s (i+1))) line begun bad)
  else e= .returned (.tuple #[.bool false,.bool true])/\Sc w' b s i line begun bad
def Kh(s:Bs)(k:Nat)(p:Bs){r:Bool}(hr:p.isPrefixOf (s.drop k)=r)(w:World):
 Calls Tryz.prog 191 #[.string ((⟨s.toArray⟩:ByteArray).extract k s.length),.string ⟨p.toArray⟩] w λe w'=>e= .returned (.bool r)/\w=w':=by
 subst hr;refine(strings_HasPrefix _ _ _).mono ?_;rintro e w' ⟨rfl,rfl⟩;rw[Hu];exact⟨rfl,rfl⟩
section
variable {w':World}{q:Nat}
def G0(hk:k=AV s (i+1))(hg:CV s k=true)(hc:BS s k=none)(hj:BT s k=j)(g:w.grownBy w' (some b))(hs:Sc w' b s j line begun bad):
 IY w b s i line begun bad (.returned (.tuple #[.bool true,.bool true])) w':=by
 subst hk hj;refine⟨g,?_⟩;rw[if_pos hg,hc];exact⟨rfl,hs⟩
def JH(hk:k=AV s (i+1))(hg:CV s k=true)(hc:BS s k=some q)(g:w.grownBy w' (some b))(hs:Sc w' b s j line begun q):
 IY w b s i line begun bad (.returned (.tuple #[.bool true,.bool false])) w':=by
 subst hk;refine⟨g,?_⟩;rw[if_pos hg,hc];exact⟨rfl,j,hs⟩
def QH(hk:k=AV s (i+1))(hg:CV s k=false)(g:w.grownBy w' (some b))(hs:Sc w' b s i line begun bad):
 IY w b s i line begun bad (.returned (.tuple #[.bool false,.bool true])) w':=by
 subst hk;refine⟨g,?_⟩;rw[if_neg (by rw[hg];simp)];exact⟨rfl,hs⟩
end
def Py(h:Sc w b s i line begun bad)(hi:i<s.length):
 Calls Tryz.prog 265 #[.pointer (some ⟨b,0,none⟩)] w (IY w b s i line begun bad):=by
 have c0:=h.c0;have c1:=h.c1;have hf:=h.few;have hb:=h.lt;go_enter func265,ntmps265;go_wp2_with fail;go_loopg [4] (s.length-(i+1)) (λg v4 wr=>∃k:Nat,k+g=s.length/\v4= .int .i64 k/\Sc wr b s i line begun bad/\AV s k=AV s (i+1)/\w.grownBy wr none)
 case atStart=>exact⟨i+1,by omega,by simp,h,rfl,Aa _ _⟩
 case round=>
  obtain⟨k,hk,rfl,hs,hq,g⟩:=hrel;have HQ:=S hq;clear hq c0 c1 hb;have hb:=hs.lt;cases hc:(decide (k<s.length)&&cls 3 (bAt s k))with
  | true=>
    simp only[Bool.and_eq_true,decide_eq_true_eq]at hc;cases gk with
    |zero=>omega
    |succ gk=>
    have HC:=S hc.2;have hkl:=hc.1;clear hc h;go_wp2_with fail;refine mR (Cw hs k 3 (r:=true) (by simp[hkl,HC.1])) λw1 g1=>?_;have hs1:=hs.gbN g1;go_wp2;go_roundg gk
    case measure=>omega
    case rel=>exact⟨k+1,by omega,by simp,hs1,by rw[<-HQ.1];exact(Cz hkl HC.1).symm,Ag g g1⟩
  | false=>
    have HC:=S hc;clear hc h;go_wp2_with fail;refine mR (Cw hs k 3 (r:=false) HC.1) λw1 g1=>?_;have hs1:=hs.gbN g1;have hk2:AV s k=k:=by
     have h2:=HC.1;by_cases hkl:k<s.length
     ·exact DH hkl (by simpa[hkl]using h2)
     ·exact Er (by omega)
    have HK:=S (hk2.symm.trans HQ.1);clear hk2;have c0:=hs1.c0;have c1:=hs1.c1;have f1:=hs1.fr 1;have hb1:=hs1.lt;by_cases hkl:k<s.length
    ·have hl1:((k:Int)==(s.length:Int))=false:=by simp;omega
     have hg:=λh=>GL s k h hkl;have hkl2:k<=s.length:=by omega
     cases h10:((bAt s k).toNat:Int)==10 with
     | true=>
       have HG:=S (show CV s k=true by
        have h2:bAt s k=10:=by simp at h10;apply UInt8.toNat_inj.1;simpa using(by omega:(bAt s k).toNat=10)
        simp[CV,h2])
       have hs2:=hs1.go (k:Int) k rfl hkl2;go_wp2_with fail;refine(I2 hs2).mono ?_;rintro e w2 ⟨g2,h2⟩;have g12:w1.grownBy w2 (some b):=Z (Af (Aa _ _) _ _ (.inl rfl)) g2;cases hcm:BS s k with
       | some j=>
         have HM:=S hcm;rw[hcm]at h2;clear hcm;obtain⟨rfl,j',hs3⟩:=h2;go_wp2;exact bZ (v:= .tuple #[.bool true,.bool false]) (by simp[results,results265,go_sem]) rfl (JH HK.1 HG.1 HM.1 (Z (Ao (Ag g g1)) g12) hs3)
       | none=>
         have HM:=S hcm;rw[hcm]at h2;clear hcm;obtain⟨rfl,hs3⟩:=h2;have d0:=hs3.c0;have d1:=hs3.c1;have e1:=hs3.fr 1;have hb3:=hs3.lt;by_cases hle:Au s k<s.length
         ·have hl3:decide (Au s k<s.length)=true:=by simpa using hle
          have HN:=S (show BT s k=Au s k+1 by unfold BT;rw[if_pos hle]);generalize Au s k=q at*;go_wp2;go_quiet(fail);go_wp2;exact bZ (v:= .tuple #[.bool true,.bool true]) (by simp[results,results265,go_sem]) rfl (G0 (j:=q+1) HK.1 HG.1 HM.1 HN.1 (Af (Aj (Z (Ao (Ag g g1)) g12) _) _ _ (.inl rfl)) (by repeat(first| (with_reducible assumption)| (with_reducible apply Sc.drewN)| (with_reducible apply Sc.go)|omega)))
         ·have hl3:decide (Au s k<s.length)=false:=by simpa using hle
          have HN:=S (show BT s k=Au s k by unfold BT;rw[if_neg hle]);generalize Au s k=q at*;go_wp2;go_quiet(fail);go_wp2;exact bZ (v:= .tuple #[.bool true,.bool true]) (by simp[results,results265,go_sem]) rfl (G0 (j:=q) HK.1 HG.1 HM.1 HN.1 (Aj (Z (Ao (Ag g g1)) g12) _) (by repeat(first| (with_reducible assumption)| (with_reducible apply Sc.drewN))))
     | false=>
       cases ha:EX s k with
       | true=>
         have HG:=S (show CV s k=true by simp[CV,ha]);have hkI:decide ((k:Int)<=s.length)=true:=by simp;omega
         go_wp2_with fail;refine(Kh s k [38,38] (r:=true) ha _).mono ?_;rintro e w0 ⟨rfl,rfl⟩;have hs2:=hs1.go (k:Int) k rfl hkl2;go_wp2_with fail;refine(I2 hs2).mono ?_;rintro e w2 ⟨g2,h2⟩;have g12:w1.grownBy w2 (some b):=Z (Af (Aa _ _) _ _ (.inl rfl)) g2;cases hcm:BS s k with
         | some j=>
           have HM:=S hcm;rw[hcm]at h2;clear hcm;obtain⟨rfl,j',hs3⟩:=h2;go_wp2;exact bZ (v:= .tuple #[.bool true,.bool false]) (by simp[results,results265,go_sem]) rfl (JH HK.1 HG.1 HM.1 (Z (Ao (Ag g g1)) g12) hs3)
         | none=>
           have HM:=S hcm;rw[hcm]at h2;clear hcm;obtain⟨rfl,hs3⟩:=h2;have d0:=hs3.c0;have d1:=hs3.c1;have e1:=hs3.fr 1;have hb3:=hs3.lt;by_cases hle:Au s k<s.length
           ·have hl3:decide (Au s k<s.length)=true:=by simpa using hle
            have HN:=S (show BT s k=Au s k+1 by unfold BT;rw[if_pos hle]);generalize Au s k=q at*;go_wp2;go_quiet(fail);go_wp2;exact bZ (v:= .tuple #[.bool true,.bool true]) (by simp[results,results265,go_sem]) rfl (G0 (j:=q+1) HK.1 HG.1 HM.1 HN.1 (Af (Aj (Z (Ao (Ag g g1)) g12) _) _ _ (.inl rfl)) (by repeat(first| (with_reducible assumption)| (with_reducible apply Sc.drewN)| (with_reducible apply Sc.go)|omega)))
           ·have hl3:decide (Au s k<s.length)=false:=by simpa using hle
            have HN:=S (show BT s k=Au s k by unfold BT;rw[if_neg hle]);generalize Au s k=q at*;go_wp2;go_quiet(fail);go_wp2;exact bZ (v:= .tuple #[.bool true,.bool true]) (by simp[results,results265,go_sem]) rfl (G0 (j:=q) HK.1 HG.1 HM.1 HN.1 (Aj (Z (Ao (Ag g g1)) g12) _) (by repeat(first| (with_reducible assumption)| (with_reducible apply Sc.drewN))))
       | false=>
         have HG:=S (show CV s k=false by
          have h2:bAt s k≠10:=by rintro e;rw[e]at h10;simp at h10
          simp[CV,ha,h2];omega)
         have hkI:decide ((k:Int)<=s.length)=true:=by simp;omega
         go_wp2_with fail;refine(Kh s k [38,38] (r:=false) ha _).mono ?_;rintro e w0 ⟨rfl,rfl⟩;go_wp2;exact bZ (v:= .tuple #[.bool false,.bool true]) (by simp[results,results265,go_sem]) rfl (QH HK.1 HG.1 (Ao (Ag g g1)) hs1)
    ·have hl1:((k:Int)==(s.length:Int))=true:=by simp;omega
     have hkl2:k<=s.length:=by omega
     have HG:=S (show CV s k=true by simp[CV];left;omega);have hs2:=hs1.go (k:Int) k rfl hkl2;go_wp2_with fail;refine(I2 hs2).mono ?_;rintro e w2 ⟨g2,h2⟩;have g12:w1.grownBy w2 (some b):=Z (Af (Aa _ _) _ _ (.inl rfl)) g2;cases hcm:BS s k with
     | some j=>
       have HM:=S hcm;rw[hcm]at h2;clear hcm;obtain⟨rfl,j',hs3⟩:=h2;go_wp2;exact bZ (v:= .tuple #[.bool true,.bool false]) (by simp[results,results265,go_sem]) rfl (JH HK.1 HG.1 HM.1 (Z (Ao (Ag g g1)) g12) hs3)
     | none=>
       have HM:=S hcm;rw[hcm]at h2;clear hcm;obtain⟨rfl,hs3⟩:=h2;have d0:=hs3.c0;have d1:=hs3.c1;have e1:=hs3.fr 1;have hb3:=hs3.lt;by_cases hle:Au s k<s.length
       ·have hl3:decide (Au s k<s.length)=true:=by simpa using hle
        have HN:=S (show BT s k=Au s k+1 by unfold BT;rw[if_pos hle]);generalize Au s k=q at*;go_wp2;go_quiet(fail);go_wp2;exact bZ (v:= .tuple #[.bool true,.bool true]) (by simp[results,results265,go_sem]) rfl (G0 (j:=q+1) HK.1 HG.1 HM.1 HN.1 (Af (Aj (Z (Ao (Ag g g1)) g12) _) _ _ (.inl rfl)) (by repeat(first| (with_reducible assumption)| (with_reducible apply Sc.drewN)| (with_reducible apply Sc.go)|omega)))
       ·have hl3:decide (Au s k<s.length)=false:=by simpa using hle
        have HN:=S (show BT s k=Au s k by unfold BT;rw[if_neg hle]);generalize Au s k=q at*;go_wp2;go_quiet(fail);go_wp2;exact bZ (v:= .tuple #[.bool true,.bool true]) (by simp[results,results265,go_sem]) rfl (G0 (j:=q) HK.1 HG.1 HM.1 HN.1 (Aj (Z (Ao (Ag g g1)) g12) _) (by repeat(first| (with_reducible assumption)| (with_reducible apply Sc.drewN))))
open Go.Lib
def U2(x:Int)(h:∀b∈encodeRune x,b.toNat<128):(0<=x/\x<=127)/\encodeRune x=[x.toNat.toUInt8]:=by
 have hz:∀y∈encodeRuneZ x,y<128:=by
  intro y hy;have hb:=encodeRuneZ_byte x y hy;have:=h y.toNat.toUInt8 (List.mem_map.2 ⟨y,hy,rfl⟩);simp[UInt8.toNat_ofNat']at this;omega
 by_cases h0:0<=x/\x<=127
 ·exact⟨h0,by simp[encodeRune,encodeRuneZ_one h0.1 h0.2]⟩
 ·exfalso;by_cases h1:128<=x/\x<=2047
  ·have:=hz (192+x/64) (by rw[encodeRuneZ_two h1.1 h1.2];simp);omega
  ·by_cases h2:(2048<=x/\x<55296)\/(57343<x/\x<=65535)
   ·have:=hz (224+x/4096) (by rw[encodeRuneZ_three h2];simp);omega
   ·by_cases h3:65536<=x/\x<=1114111
    ·have:=hz (240+x/262144) (by rw[encodeRuneZ_four h3.1 h3.2];simp);omega
    ·have:=hz 239 (by rw[encodeRuneZ_bad (by omega)];simp);omega
def ZN:toUpperU 65533=65533:=by decide+kernel
def So{l:List UInt8}(hne:l≠[])(h1:(decodeL l).2=1):(decodeL l).1=65533\/∀b∈l.take 1,b.toNat<128:=by
 by_cases hv:(decodeL l).1=65533
 ·exact .inl hv
 ·refine .inr ?_;have he:=encode_decode l hne (λh=>hv h.1);rw[h1]at he;by_cases h0:((decodeL l).1:Int)<=127
  ·rw[<-he];intro b hb;rw[encodeRune,encodeRuneZ_one (by omega) h0]at hb;simp at hb;subst hb;simp[UInt8.toNat_ofNat'];omega
  ·exfalso;have hlen:(encodeRune ((decodeL l).1:Int)).length<=1:=by rw[he];simp;omega
   generalize((decodeL l).1:Int)=x at*;unfold encodeRune at hlen;rw[List.length_map]at hlen;by_cases h1:128<=x/\x<=2047
   ·rw[encodeRuneZ_two h1.1 h1.2]at hlen;simp at hlen
   ·by_cases h2:(2048<=x/\x<55296)\/(57343<x/\x<=65535)
    ·rw[encodeRuneZ_three h2]at hlen;simp at hlen
    ·by_cases h3:65536<=x/\x<=1114111
     ·rw[encodeRuneZ_four h3.1 h3.2]at hlen;simp at hlen
     ·rw[encodeRuneZ_bad (by omega)]at hlen;simp at hlen
def Sp(l:List UInt8):1<=(decodeL l).2:=by
 unfold decodeL Utf8.decode;simp only[];repeat' split
 all_goals simp
def Wu:∀(n:Nat)(l:List UInt8),l.length<=n->(∀b∈toUpperD l,b.toNat<128)->(toUpperD l).length<=l.length/\((toUpperD l).length=l.length->∀b∈l,b.toNat<128):=by
 intro n;induction n with
 | zero=>
   intro l hl _;have:l=[]:=List.eq_nil_of_length_eq_zero (by omega);subst this;exact⟨nR _,by simp⟩
 | succ n ih=>
   intro l hl h;by_cases hne:l=[]
   ·subst hne;exact⟨nR _,by simp⟩
   ·have hp:=Sp l;have hk:=decodeL_le l hne;have hlen:0<l.length:=List.length_pos_iff.2 hne;unfold toUpperD at h ⊢;rw[mapD_step _ _ hne]at h ⊢;have ih':=ih (l.drop (decodeL l).2) (by simp;omega);unfold toUpperD at ih';have h2:=ih' (λb hb=>h b (List.mem_append.2 (.inr hb)));rw[List.length_drop]at h2;by_cases h0:0<=toUpperU (decodeL l).1
    ·rw[if_pos h0]at h ⊢;obtain⟨hx,he⟩:=U2 _ (λb hb=>h b (List.mem_append.2 (.inl hb)));rw[he];simp only[lA,List.length_cons,List.length_nil];refine⟨by omega,λe=>?_⟩;have hk1:(decodeL l).2=1:=by omega
     rcases So hne hk1 with h3|h3
     ·rw[h3]at hx;have:=ZN;simp at hx;omega
     ·intro b hb;rw[hk1]at h2;rw[<-List.take_append_drop 1 l]at hb;rcases List.mem_append.1 hb with hb|hb
      ·exact h3 b hb
      ·exact h2.2 (by rw[hk1]at e;omega) b hb
    ·rw[if_neg h0];simp only[List.nil_append];exact⟨by omega,λe=>by omega⟩
def R4(b:UInt8)(h:128<=b.toNat):upperB b=b:=by
 unfold upperB isLowerB;split
 ·rename_i h1;simp[UInt8.le_iff_toNat_le]at h1;omega
 ·rfl
def TY(x w:List UInt8)(hl:x.length=w.length)(hw:∀b∈w,b.toNat<128):(toUpperD x==w)=(toUpperA x==w):=by
 by_cases ha:∀b∈x,b.toNat<128
 ·rw[toUpperD_ascii x ha]
 ·have h1 : toUpperA x ≠ w := by
   rintro rfl;apply ha;intro b hb;by_cases hh:b.toNat<128
   ·exact hh
   ·exact absurd (hw (upperB b) (List.mem_map.2 ⟨b,hb,rfl⟩)) (by rw[R4 b (by omega)];exact hh)
  have h2:toUpperD x≠w:=by
   intro e;apply ha;exact(Wu x.length x (nR _) (by rw[e];exact hw)).2 (by rw[e,hl])
  rw[beq_eq_false_iff_ne.2 h1,beq_eq_false_iff_ne.2 h2]
def Cp:List (Bs×Value)->Nat->List MapEntry
 | [],_=>[]
 | (k,v)::l,n=>{key:=str k,val:=v,born:=n}::Cp l (n+1)
def AM(l:List (Bs×Value)):Obj:= .map (Cp l 0).toArray l.length
def LZ(l:List (Bs×Value))(k:Bs)(v:Value):∀n,Cp (l++[(k,v)]) n=Cp l n++[{key:=str k,val:=v,born:=n+l.length}]:=by
 induction l with
 |nil=>intro n;simp[Cp]
 |cons x l ih=>intro n;obtain⟨a,b⟩:=x;simp[Cp,ih,Nat.add_assoc,Nat.add_comm 1]
def Ci(s:Bs):List (Bs×Value)->Nat->Option (Nat×Value)
 | [],_=>none
 | (k,v)::l,i=>if s==k then some (i,v)else Ci s l (i+1)
def Iy(s:Bs)(l:List (Bs×Value)):∀n i,Instr.findNow .string (str s) (Cp l n) i=some (Ci s l i):=by
 induction l with
 |nil=>intro n i;simp[Cp,Instr.findNow,Ci]
 | cons x l ih=>
   intro n i;obtain⟨a,b⟩:=x;simp only[Cp,Instr.findNow,Instr.sameNow,OK,Ci];cases h:s==a
   ·simp[ih]
   ·simp
def E3(k:Bs):List (Bs×Value)->Prop
 | []=>True
 |x::l=>k≠x.1/\E3 k l
def JY(k:Bs):E3 k []:=trivial
def JN(k a:Bs)(b:Value)(l:List (Bs×Value)):E3 k ((a,b)::l)=(k≠a/\E3 k l):=rfl
def M2(k:Bs)(l:List (Bs×Value))(hf:E3 k l):∀i,Ci k l i=none:=by
 induction l with
 |nil=>intro i;rfl
 | cons x l ih=>
   intro i;simp only[Ci];rw[if_neg (by simpa using hf.1)];exact ih hf.2 _
def Wv{P:Program}{mty kt et:TypeId}(hm:P.underlying mty=some (.map kt et))(hk:P.underlying kt=some .string)(w:World)(l:List (Bs×Value))(r:Nat)(hr:r=w.heap.size)(k:Bs)(v:Value)(hf:E3 k l):
 (Instr.mapUpdate mty (.map (some r)) (str k) v).run P (w.alloc (AM l))= .ok () (w.alloc (AM (l++[(k,v)]))):=by
 subst hr;have hb:(w.alloc (AM l)).heap[w.heap.size]? =some (.map (Cp l 0).toArray l.length):=heap_alloc_new w _;have hf:Instr.findNow .string (str k) (Cp l 0) 0=some none:=by rw[Iy,M2 k l hf]
 have hc:(Instr.checkKey false 10000 kt (str k)).run P (w.alloc (AM l))= .ok () (w.alloc (AM l)):=MapKept.run_checkKey (k:=str k) hk (by simp[MapKept.IsKey]) false 9999;simp[Instr.mapUpdate,run_underlying hm,MapKept.run_getObj_map hb,hc,MapKept.run_findKey hk hf,MapKept.run_setObj_map _ hb,Result.andThen];have e:=LA w (AM l) (AM (l++[(k,v)]));have e2:(Obj.map (Cp l 0++[({key:=str k,val:=v,born:=l.length}:MapEntry)]).toArray (l.length+1))=AM (l++[(k,v)]):=by simp[AM,LZ]
 rw[e2];show({w with heap:=(w.heap.push (AM l)).setIfInBounds w.heap.size (AM (l++[(k,v)]))}:World)={w with heap:=w.heap.push (AM (l++[(k,v)]))};rw[e]
abbrev zGac(Ψ:∀(P:Program)(mty kt et:TypeId)(w:World)(l:List (Bs×Value))(r:Nat)(k:Bs)(z:Value),Prop):Prop:=∀{P:Program}{mty kt et:TypeId}(hm:P.underlying mty=some (.map kt et))(hk:P.underlying kt=some .string)(w:World)(l:List (Bs×Value))(r:Nat)(hb:w.heap[r]? =some (AM l))(k:Bs)(z:Value)(hz:(zeroValue et).run P w= .ok z w),Ψ P mty kt et w l r k z
def zGab:(zGac λP mty kt et w l r k z=>(Instr.lookup mty (.map (some r)) (str k) false).run P w= .ok (match Ci k l 0 with|some (_,v)=>v|none=>z) w)/\(zGac λP mty kt et w l r k z=>(Instr.lookup mty (.map (some r)) (str k) true).run P w= .ok (.tuple #[(match Ci k l 0 with|some (_,v)=>v|none=>z),.bool (Ci k l 0).isSome]) w):=by
 refine⟨?a,?b⟩
 all_goals
  intro P mty kt et hm hk w l r hb k z hz
 case' a=>
  skip
 case' b=>
  skip
 all_goals
  have hb':w.heap[r]? =some (.map (Cp l 0).toArray l.length):=hb;have hf:Instr.findNow .string (str k) (Cp l 0) 0=some (Ci k l 0):=by rw[Iy]
  have hc:∀e,(Instr.checkKey e 10000 kt (str k)).run P w= .ok () w:=λe=>MapKept.run_checkKey (k:=str k) hk (by simp[MapKept.IsKey]) e 9999
  cases h:Ci k l 0 with
  |none=>simp[Instr.lookup,run_underlying hm,MapKept.run_getObj_map hb',hc,MapKept.run_findKey hk hf,Result.andThen,h,hz]
  |some x=>simp[Instr.lookup,run_underlying hm,MapKept.run_getObj_map hb',hc,MapKept.run_findKey hk hf,Result.andThen,h]
def Jn(w:World):(Instr.makeMap 68 none).run Tryz.prog w= .ok (.map (some w.heap.size)) (w.alloc (AM [])):=run_makeMap_plain w _
def KZ(w:World)(l:List (Bs×Value))(r:Nat)(hr:r=w.heap.size)(k:Bs)(v:Int)(hf:E3 k l):
 (Instr.mapUpdate 68 (.map (some r)) (.string ⟨k.toArray⟩) (.int .i64 v)).run Tryz.prog (w.alloc (AM l))= .ok () (w.alloc (AM (l++[(k,.int .i64 v)]))):=
 Wv underlying68 underlying9 w l r hr k _ hf
def NO(w:World):(zeroValue 3).run Tryz.prog w= .ok (.int .i64 0) w:=by kernel_rfl
def Ku{r:Nat}(hb:w.heap[r]? =some (AM l))(k:Bs):
 (Instr.lookup 68 (.map (some r)) (str k) false).run Tryz.prog w= .ok (match Ci k l 0 with|some (_,v)=>v|none=> .int .i64 0) w:=
 zGab.1 underlying68 underlying9 w l r hb k _ (NO w)
def Sz{r:Nat}(hb:w.heap[r]? =some (AM l))(k:Bs):
 (Instr.lookup 68 (.map (some r)) (str k) true).run Tryz.prog w= .ok (.tuple #[(match Ci k l 0 with|some (_,v)=>v|none=> .int .i64 0),.bool (Ci k l 0).isSome]) w:=
 zGab.2 underlying68 underlying9 w l r hb k _ (NO w)
section
variable {day:Bs->Int}
end
def Rt{fn:Func}{p:Tmp}(h:fn.results=#[.cell p 96])(tmps:Array Value){a b:Value}(hb:Blk w k [a,b] 96)
 (hp:tmps.getD p undef= .pointer (some ⟨k,0,none⟩)):(results fn tmps).run Tryz.prog w= .ok (.agg #[a,b]) w:=by
 have c0:=hb.cell' 0 rfl;have c1:=hb.cell' 1 rfl;have hp':tmps[p]?.getD undef= .pointer (some ⟨k,0,none⟩):=by simpa using hp
 simp[results,h,hp',go_sem,c0,c1]
def Blk.set2K{a0 a1:Value}(h:Blk w k [a0,a1] t)(v0 v1:Value):Blk ((w.setCell ⟨k,0,none⟩ v0).setCell ⟨k,1,none⟩ v1) k [v0,v1] t:=
 ((h.set 0 v0).set 1 v1).of_eq rfl rfl
structure AccK(w wr:World):Prop where
 res:Blk wr w.heap.size [.int .i64 0,.int .i64 0] 96
 acc:Blk wr (w.heap.size+1) [.int .i64 0,.int .i64 0] 96
 g:w.grownBy wr none
def AccK.start(w:World):AccK w ((w.alloc (.cells #[.int .i64 0,.int .i64 0] 96 (0,0))).alloc (.cells #[.int .i64 0,.int .i64 0] 96 (0,0))):=
 ⟨(Blk.new w [.int .i64 0,.int .i64 0] _).alloc _,(Blk.new _ [.int .i64 0,.int .i64 0] _).of_eq (by simp) rfl,Ac (gZ w _ none) _⟩
def U0(h:Blk w G mainC 40):
 Calls Tryz.prog 59 #[.slice (some ⟨G,0,none⟩) 1 c] w (ρ w (szK 0 0)):=by
 have HB:=S h;have HA:=S (AccK.start w);clear h;go_enter func59,ntmps59;go_wp2_with fail;go_loopg [5,8] 1 (λg v5 v8 wr=>∃k:Nat,k+g=1/\v8= .int .i64 k/\AccK w wr)
 case atStart=>exact⟨0,rfl,rfl,HA.1⟩
 case round=>
  obtain⟨k,hk,rfl,hA⟩:=hrel;clear HA;have a0:=hA.acc.cell' 0 rfl;have a1:=hA.acc.cell' 1 rfl;have r0:=hA.res.cell' 0 rfl;have r1:=hA.res.cell' 1 rfl;have rf:=λk=>hA.res.frozen k;have rl:=hA.res.lt;have af:=λk=>hA.acc.frozen k;have al:=hA.acc.lt;cases gk with
  | zero=>
    have hk1:k=1:=by omega
    subst hk1;have HG:=S hA;clear hA;go_wp2;refine bZ (Rt rfl _ (HG.1.res.set2K _ _) rfl) rfl ⟨rfl,?_⟩;have g:=HG.1.g;exact(Af (Af (by assumption) _ _ (.inr (nR _))) _ _ (.inr (nR _)))
  | succ gk=>
    have hk0:k=0:=by omega
    subst hk0;have hb:=HB.1.gb hA.g (by simp);have z0:=hb.cell' 0 rfl;have z1:=hb.cell' 1 rfl;have z2:=hb.cell' 2 rfl;have z3:=hb.cell' 3 rfl;have hgl:=hb.lt;have hy:=Blk.new wr mainC 40;have hac:=hA.acc.alloc (.cells mainC.toArray 40 (0,0));have HG:=S hA;have HY:=S (X hy hac);have q0:=hy.cell' 0 rfl;have q1:=hy.cell' 1 rfl;have q2:=hy.cell' 2 rfl;have q3:=hy.cell' 3 rfl;have hyl:=hy.lt;clear hb hy hac hA;go_wp2_with fail;go_region_with(first
     | (go_at_call 86;refine mR (U1 _) λw5 g5=>?_;(have y5:=(HY.1.1.drewN 1).gb g5 (by simp));(have ac5:=(HY.1.2.drewN 1).gb g5 (by simp));(have b0:=y5.cell' 0 rfl);(have b1:=y5.cell' 1 rfl);(have b2:=y5.cell' 2 rfl);(have b3:=y5.cell' 3 rfl);(have d0:=ac5.cell' 0 rfl);(have d1:=ac5.cell' 1 rfl);(have df:=λk=>ac5.frozen k);(have dl:=ac5.lt))
     | (go_at_call 85;refine mR (VF _) λw6 g6=>?_;(have ac6:=ac5.gb g6 (by simp));(have m0:=ac6.cell' 0 rfl);(have m1:=ac6.cell' 1 rfl);(have mf:=λk=>ac6.frozen k);(have ml:=ac6.lt)))
    all_goals
     have hre:=((((HG.1.res.alloc (.cells mainC.toArray 40 (0,0))).drewN 1).gb g5 (by simp)).gb g6 (by simp));have gg:=Ag (Ag (Ad (Ac HG.1.g (.cells mainC.toArray 40 (0,0)))) g5) g6;have HX:=S (X ac6 (X hre gg));clear hre gg;go_wp2;go_roundg gk
     case measure=>omega
     case rel=>exact⟨1,by omega,rfl,(HX.1.2.1.set_other _ _ (by simp)).set_other _ _ (by simp),HX.1.1.set2K _ _,by have g:=HX.1.2.2;exact(Af (Af (by assumption) _ _ (.inr (by simp<;>omega))) _ _ (.inr (by simp<;>omega)))⟩
def Pl(h:Blk w G mainC 40):
 Calls Tryz.prog 35 #[.slice (some ⟨G,0,none⟩) 1 c] w (ρ w (.int .i64 0)):=by
 have HB:=S h;clear h;go_enter func35,ntmps35;go_wp2_with fail;refine mR (U0 HB.1) λw1 g1=>?_;go_wp2_with fail;refine mR (UK w1) λw2 g2=>?_;have hb:=HB.1.gb (Z g1 g2) (by simp);have HG:=S (X hb (Z g1 g2));have z0:=hb.cell' 0 rfl;have z1:=hb.cell' 1 rfl;have z2:=hb.cell' 2 rfl;have z3:=hb.cell' 3 rfl;clear hb g1 g2;go_wp2_with fail;refine mR (UL HG.1.1) λw3 g3=>?_;have H3:=S (X (HG.1.1.gb g3 (by simp)) (Z HG.1.2 g3));clear g3 z0 z1 z2 z3;go_wp2_with fail;go_loopg [4,38] 1 (λg v4 v38 wr=>∃k:Nat,k+g=1/\v38= .int .i64 k/\Blk wr G mainC 40/\w.grownBy wr none)
 case atStart=>exact⟨0,rfl,rfl,H3.1.1,H3.1.2⟩
 case round=>
  obtain⟨k,hk,rfl,hb,hg⟩:=hrel;clear H3;cases gk with
  | zero=>
    have hk1:k=1:=by omega
    subst hk1;have HX:=S hg;clear hg hb;go_wp2;go_ret;exact⟨rfl,HX.1⟩
  | succ gk=>
    have hk0:k=0:=by omega
    subst hk0;have z0:=hb.cell' 0 rfl;have z1:=hb.cell' 1 rfl;have z2:=hb.cell' 2 rfl;have z3:=hb.cell' 3 rfl;have hgl:=hb.lt;have gA:=gZ wr (.cells mainC.toArray 40 (0,0)) none;have HX:=S (X (hb.gb gA (by simp)) (X (Z hg gA) (Blk.new wr mainC 40)));clear hb hg gA;go_wp2_with fail;refine mR (Qu mainB _ (by decide)) λw4 g4=>?_;have hnm:Ay mainB=true:=by decide
    rw[hnm];have H4:=S (X (HX.1.1.gb g4 (by simp)) (X (Z HX.1.2.1 g4) (HX.1.2.2.gb g4 (by simp))));have q2:=H4.1.2.2.cell' 2 rfl;have q3:=H4.1.2.2.cell' 3 rfl;clear g4 hnm;go_wp2_with fail;refine mR (Sa _) λw5 g5=>?_;have H5:=S (X (H4.1.1.gb g5 (by simp)) (X (Z H4.1.2.1 g5) (H4.1.2.2.gb g5 (by simp))));have p3:=H5.1.2.2.cell' 3 rfl;clear g5;go_wp2_with fail;refine mR (Sb _) λw6 g6=>?_;have H6:=S (X (H5.1.1.gb g6 (by simp)) (Z H5.1.2.1 g6));clear g6;go_wp2;go_roundg gk
    case measure=>omega
    case rel=>exact⟨1,by omega,rfl,H6.1.1,H6.1.2⟩
def D3(s:Bs):Nat->Int
 | 0=>0
 |k+1=>(D3 s k*263+(bAt s k).toNat+1)%1000033
def csM(s:Bs):Int:=D3 s s.length
def Le(s:Bs)(k:Nat):0<=D3 s k/\D3 s k<1000033:=by
 induction k with
 |zero=>simp[D3]
 | succ k ih=>
   rw[D3];exact⟨Int.emod_nonneg _ (by decide),Int.emod_lt_of_pos _ (by decide)⟩
def Vg(s:Bs)(hs:s.length<=100000000000)(w:World):
 Calls Tryz.prog 20 #[str s] w (ρ w (.int .i64 (csM s))):=by
 have hconv:=run_bytes_of_string (P:=Tryz.prog) w 9 84 5 ⟨s.toArray⟩ underlying9 underlying84 underlying5;have hsz:(⟨s.toArray⟩:ByteArray).size=s.length:=by simp[ByteArray.size]
 rw[hsz]at hconv;generalize hcap:grownCap w s.length 0 5=cap at*;have H0:=S (X (BytR.new w s cap) (Ac (Ad (Aa w none)) (.cells (bytesRow ⟨s.toArray⟩ cap) 5 ((bytesRow ⟨s.toArray⟩ cap).size,(bytesRow ⟨s.toArray⟩ cap).size+1))));clear hsz hcap;generalize(w.drew.alloc (.cells (bytesRow ⟨s.toArray⟩ cap) 5 ((bytesRow ⟨s.toArray⟩ cap).size,(bytesRow ⟨s.toArray⟩ cap).size+1)))=W at*;go_enter func20,ntmps20;go_wp2_with fail;go_loopg [3,5,9] s.length (λg v3 v5 v9 wr=>∃k:Nat,∃n:Int,k+g=s.length/\v9= .int .i64 k/\v3= .int .i64 n/\n=D3 s k/\W=wr)
 case atStart=>exact⟨0,_,by omega,rfl,rfl,rfl,rfl⟩
 case round=>
  obtain⟨k,n,hk,rfl,rfl,hn,rfl⟩:=hrel;clear hconv;cases gk with
  | zero=>
    have hkl:k=s.length:=by omega
    have hj1:decide (k<s.length)=false:=by simp;omega
    subst hkl;have HN:=S hn;clear hn;go_wp2;go_ret;exact⟨by rw[HN.1];rfl,H0.1.2⟩
  | succ gk=>
    have hkl:k<s.length:=by omega
    have hj1:decide (k<s.length)=true:=by simp;omega
    have ck:=H0.1.1.cell k hkl;have hlt:=H0.1.1.lt;have hb:=(bAt s k).toNat_lt;have hr:=Le s k;rw[<-hn]at hr;obtain⟨r0,r1⟩:=hr;have HN:=S (show D3 s (k+1)=(n*263+(bAt s k).toNat+1)%1000033 by rw[hn,D3]);clear hn;go_wp2;go_roundg gk
    case measure=>omega
    case rel=>exact⟨k+1,_,by omega,by go_num,rfl,HN.1.symm,rfl⟩
def Xl(s:Bs)(hs:s.length<=100000000000)(w:World):
 Calls Tryz.prog 25 #[str s] w λe w'=>e= .returned (.int .i64 (csM s))/\w=w':=by
 have hsz:(⟨s.toArray⟩:ByteArray).size=s.length:=by simp[ByteArray.size]
 go_enter func25,ntmps25;go_wp2_with fail;go_loopg [3,4] s.length (λg v3 v4 wr=>∃k:Nat,∃n:Int,k+g=s.length/\v4= .int .i64 k/\v3= .int .i64 n/\n=D3 s k/\w=wr)
 case atStart=>exact⟨0,_,by omega,rfl,rfl,rfl,rfl⟩
 case round=>
  obtain⟨k,n,hk,rfl,rfl,hn,rfl⟩:=hrel;cases gk with
  | zero=>
    have hkl:k=s.length:=by omega
    have hj1:decide (k<s.length)=false:=by simp;omega
    subst hkl;have HN:=S hn;clear hn;go_wp2;go_ret;exact⟨by rw[HN.1];rfl,rfl⟩
  | succ gk=>
    have hkl:k<s.length:=by omega
    have hj1:decide (k<s.length)=true:=by simp;omega
    have hgk:=λh=>CT s k h hkl;have hb:=s[k].toNat_lt;have hr:=Le s k;rw[<-hn]at hr;obtain⟨r0,r1⟩:=hr;have HN:=S (show D3 s (k+1)=(n*263+s[k].toNat+1)%1000033 by rw[hn,D3,B0 hkl]);clear hn;go_wp2;go_roundg gk
    case measure=>omega
    case rel=>exact⟨k+1,_,by omega,by go_num,rfl,HN.1.symm,rfl⟩
end Go.Proofs.YtbjfaimkiclhgaaGreatDoor
