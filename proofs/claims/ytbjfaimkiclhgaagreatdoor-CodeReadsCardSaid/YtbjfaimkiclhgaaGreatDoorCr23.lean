/-
  Code: Validate, the program's: jumps, texts that are too long. QgT PtA PgR SizeE SizeF SizeG
-/
import Derived.Test.YtbjfaimkiclhgaaGreatDoorCr08
import Derived.Test.YtbjfaimkiclhgaaGreatDoorCr03
import Derived.Test.YtbjfaimkiclhgaaGreatDoorCr20
import Derived.Test.YtbjfaimkiclhgaaGreatDoorCr15
import Derived.Test.YtbjfaimkiclhgaaGreatDoorCr10
import Derived.Test.YtbjfaimkiclhgaaGreatDoorCr19
import Derived.Test.YtbjfaimkiclhgaaGreatDoorCr04
import Derived.Test.YtbjfaimkiclhgaaGreatDoorCr11
import Derived.Test.YtbjfaimkiclhgaaGreatDoorCr09
set_option linter.all false
set_option maxRecDepth 100000
set_option maxHeartbeats 8000000
namespace Go.Proofs.YtbjfaimkiclhgaaGreatDoor
open Go.Proofs.Tryz
open Go.RowKit
variable{w:World}{v tv:Value}{l:List Tok}{ok:Nat->Prop}{n i b k j:Nat}{a:List Pq}{sc:List Value}
def Gt(n:Int):Bool:=([6,8,9,11,14]:List Int).contains n
def Te(n:Int)(w:World):Calls Tryz.prog 79 #[.int .i64 n] w (ρ w (.bool (Gt n))):=by
 have gA:=gZ w (.cells #[.int .i64 6,.int .i64 8,.int .i64 9,.int .i64 11,.int .i64 14] 3 (0,0)) none;have hb:=Blk.new w [.int .i64 6,.int .i64 8,.int .i64 9,.int .i64 11,.int .i64 14] 3;have HC:=S ((slices_Contains_int w.heap.size 0 5 5 [6,8,9,11,14] n (w.alloc (.cells #[.int .i64 6,.int .i64 8,.int .i64 9,.int .i64 11,.int .i64 14] 3 (0,0))) (by decide) (by decide) (by
  intro j hj;rw[Nat.zero_add];have h:j=0\/j=1\/j=2\/j=3\/j=4:=by simp at hj;omega
  rcases h with rfl|rfl|rfl|rfl|rfl<;>exact hb.cell' _ rfl)).mono λe w' h=>(show e= .returned (.bool (Gt n))/\w'=_ from h))
 have HG:=S gA;clear gA hb;go_enter func79,ntmps79;go_wp2_with fail;refine HC.1.mono ?_;rintro e w1 ⟨rfl,rfl⟩;go_wp2;go_ret;exact⟨rfl,HG.1⟩
def Ej(c:Cd):Bool:=decide (4000<c.s.length)
def PN(c:Cd)(hc:c.s.length<=1000000000)(w:World):Calls Tryz.prog 52 #[.agg #[.int .i64 c.op,.int .i64 c.a,.int .i64 c.b,str c.s]] w (ρ w (.bool (Ej c))):=by
 have hq:decide ((4000:Int)<(c.s.length:Int))=Ej c:=by unfold Ej;rw[Bool.eq_iff_iff];simp;omega
 go_enter func52,ntmps52;go_wp2;go_ret;exact⟨rfl,gZ _ _ _⟩
def Ij(l:List Cd)(k:Nat):Bool:=(l.take k).any Ej
def Ps{l:List Cd}(h:Cells w v 4 l.length (AC l) ok)(hl:∀c∈l,c.s.length<=1000000000):
 Calls Tryz.prog 77 #[v,.func (.func 52) #[] #[]] w λe w'=>∃i:Int,e= .returned (.int .i64 i)/\decide (0<=i)=l.any Ej/\w.grownBy w' none:=by
 obtain⟨a,cap,rfl,_,hmx,_⟩:=id h;have HC:=S (X h hl);have hln:l.length<=9223372036854775807:=by unfold maxLen at hmx;omega
 clear h hl;go_enter func77,ntmps77;go_wp2_with fail;go_loopg [5,8] l.length (λg v5 v8 wr=>∃k:Nat,k+g=l.length/\v8= .int .i64 k/\Ij l k=false/\w.grownBy wr none)
 case atStart=>exact⟨0,by omega,rfl,rfl,Aa _ _⟩
 case round=>
  obtain⟨k,hk,rfl,hq,hg⟩:=hrel;cases gk with
  | zero=>
    have hk1:k=l.length:=by omega
    have hj1:decide (k<l.length)=false:=by simp;omega
    subst hk1;have HX:=S (X hg hq);clear hg hq;go_wp2;go_ret;exact⟨-1,rfl,by have h:=HX.1.2;rw[Ij,List.take_length]at h;rw[h];rfl,HX.1.1⟩
  | succ gk=>
    have hkl:k<l.length:=by omega
    have hj1:decide (k<l.length)=true:=by simpa using hkl
    obtain⟨c,hc⟩:∃c,l[k]? =some c:=⟨_,B4 hkl⟩;obtain⟨g,o,rfl,_,hgl,c0,c1,c2,c3⟩:=HC.1.1.cd hc;have d0:=Ae hg c0;have d1:=Ae hg c1;have d2:=Ae hg c2;have d3:=Ae hg c3;have HX:=S (X hg (X hq hc));have HK:=S (λW=>PN c (HC.1.2 c (List.mem_of_getElem? hc)) W);clear hg hq hc c0 c1 c2 c3;go_wp2_with fail;refine mR (HK.1 _) λw2 g2=>?_;have H2:=S (Z HX.1.1 g2);clear g2;cases hlc:Ej c with
    | true=>
      have HT:=S (show l.any Ej=true from List.any_eq_true.2 ⟨c,List.mem_of_getElem? HX.1.2.2,hlc⟩);go_wp2;go_ret;exact⟨_,rfl,by rw[HT.1];simp,H2.1⟩
    | false=>
      have HT:=S (show Ij l (k+1)=false by
       rw[Ij,List.take_add_one,HX.1.2.2,List.any_append];have h:=HX.1.2.1;rw[Ij]at h;rw[h];simp[hlc])
      go_wp2;go_roundg gk
      case measure=>omega
      case rel=>exact⟨k+1,by omega,by go_num,HT.1,H2.1⟩
def OU{l:List Cd}(h:Cells w v 4 l.length (AC l) ok)(hl:∀c∈l,c.s.length<=1000000000):
 Calls Tryz.prog 51 #[v,.func (.func 52) #[] #[]] w (ρ w (.bool (l.any Ej))):=by
 have HI:=S (Ps h hl);clear h hl;go_enter func51,ntmps51;go_wp2_with fail;refine HI.1.mono ?_;rintro e w1 ⟨i,rfl,hi,g1⟩;go_wp2;go_ret;exact⟨rfl,g1⟩
def GM(u:Un):Bool:=u.code.any Ej
def QP{ra ca:Option Addr}{rn rc cn cc:Nat}{u:Un}(h:Cells w (.slice ca cn cc) 4 u.code.length (AC u.code) ok)(hl:∀c∈u.code,c.s.length<=1000000000):
 Calls Tryz.prog 28 #[.agg #[str u.name,.slice ra rn rc,.slice ca cn cc]] w (ρ w (.bool (GM u))):=by
 have gA:=gZ w (.cells #[str u.name,.slice ra rn rc,.slice ca cn cc] 58 (0,0)) none;have HC:=S ((OU (h.gb gA (by simp)) hl).mono λe w' k=>(show e= .returned (.bool (GM u))/\w.grownBy w' none from⟨k.1,Z gA k.2⟩));clear h gA hl;go_enter func28,ntmps28;go_wp2_with fail;refine mR HC.1 λw1 g1=>?_;go_wp2;go_ret;exact⟨rfl,g1⟩
section
variable (hn:Al l){β:Type}{W:List Bs}{day:Bs->Int}{q:List Pq->Rd l β}
def L6{fn:Bool}:((El hn W day n a fn).bind q).f i=(AD l i).bind λs j=>(Gh l n j).bind λp j=>(B3 l j).bind λ_ j=>((Dx hn W day n).f j).bind λb j=>(q (a++[(s,fn,p,b)])).f j:=by
 have e:((El hn W day n a fn).bind q).f i=((AD l i).bind λs j=>(Gh l n j).bind λp j=>(B3 l j).bind λ_ j=>((Dx hn W day n).f j).bind λb j=> .ok (a++[(s,fn,p,b)]) j).bind λx j=>(q x).f j:=rfl;rw[e];simp only[Res.bind_assoc];rfl
def WV{x:β}(hw:(As l W i==C9)=false):
 (if As l W i=Ed\/As l W i=C9 then Rd.skip.bind λ_=>(El hn W day n a (As l W i==C9)).bind q else(Rd.bad x:Rd l β)).f i=(GN l W Ed i).bind λ_ j=>((El hn W day n a false).bind q).f j:=by
 have hw':As l W i≠C9:=by simpa using hw
 unfold GN;rw[hw];cases hP:As l W i==Ed with
 | true=>
   have hP':As l W i=Ed:=by simpa using hP
   rw[if_pos (.inl hP'),if_pos rfl];rfl
 | false=>
   have hP':As l W i≠Ed:=by simpa using hP
   rw[if_neg (by simp[hw',hP']),if_neg (by simp)];rfl
def V3{x:β}(hw:(As l W i==C9)=true):
 (if As l W i=Ed\/As l W i=C9 then Rd.skip.bind λ_=>(El hn W day n a (As l W i==C9)).bind q else(Rd.bad x:Rd l β)).f i=((El hn W day n a true).bind q).f (i+1):=by
 have hw':As l W i=C9:=by simpa using hw
 rw[hw,if_pos (.inr hw')];rfl
end
section
variable {wo:Value}
def ProgQ(hn:Al l)(m b:Nat)(tv wo:Value)(w:World)(R:Res (List Pq))(g:Nat)(v:Value)(wr:World):Prop:=
 ∃a j,OwnP wr w.heap.size v a/\Par wr b tv wo l wordsL j/\w.grownBy wr (some b)/\a.length+g<=m+1/\(DD hn wordsL AE m g a).f j=R
def Qi(hn:Al l)(hl:En AE l)(hok:∀i,At (Ab l i))(hgb:4<b)(hnn:n<=90000)(hg:Glob w)(h:Par w b tv wo l wordsL i)(ho:(BY hn wordsL AE n).f i ≠ .out):
 Calls Tryz.prog 213 #[.pointer (some ⟨b,0,none⟩)] w (Post b tv wo l wordsL w (VPr w) ((BY hn wordsL AE n).f i)):=by
 have hb:=h.lt;have HO:=S ho;generalize hR:(BY hn wordsL AE n).f i=R at*;replace hR:((Dx hn wordsL AE n).f i).bind (λx j=>(DD hn wordsL AE n n [([77,65,73,78],false,[],x)]).f j)=R:=hR;have HQ0:=S hR;have HTk:=S hok;have HSh:=S hl.short;have HGl:=S (X hg hgb);have HBk:=S (Y5 (b:=b) (tv:=tv) (wo:=wo) hn hl hok hgb n hnn);have HC:=S (HBk.1 w i hg h (λe=>HO.1 (by rw[<-HQ0.1,e];rfl)));clear hok hl hg hgb ho hR h;go_enter func213,ntmps213;go_wp2_with fail;refine HC.1.mono ?_;intro e w1 hq;obtain⟨g,⟨q,hr,rfl⟩| ⟨c,i1,v,hr,rfl,hv,hp1⟩⟩:=hq.split
 ·exact⟨rfl,Post.bad g (by rw[<-HQ0.1,hr];rfl)⟩
 obtain⟨ba,bc,rfl⟩:∃ba bc,v= .slice ba c.len bc:=by obtain⟨cs,⟨a9,c9,e9,_⟩,_⟩:=hv;exact⟨a9,c9,e9⟩
 have e0:=HQ0.1;rw[hr,Res.bind_ok]at e0;replace HQ0:=S e0;clear e0 hr HC hq;have hs1:=g.size;have HR0:=S (X (OwnP.one (q:=([77,65,73,78],false,[],c)) (pa:=none) (pc:=0) rfl hs1 (Cells.nil _ _ _) hv) (X (hp1.alloc (.cells (pdC (AB ([77,65,73,78],false,[],c)) (.slice none 0 0) (.slice ba c.len bc)).toArray 40 (0,0))) (Ac g (.cells (pdC (AB ([77,65,73,78],false,[],c)) (.slice none 0 0) (.slice ba c.len bc)).toArray 40 (0,0)))));clear g hv hp1;go_wp2_with fail;go_loopg [3] n (λg v3 wr=>ProgQ hn n b tv wo w R g v3 wr)
 case atStart=>exact⟨_,i1,HR0.1.1,HR0.1.2.1,HR0.1.2.2,by simp;omega,HQ0.1⟩
 case round=>
  obtain⟨a,j,hown,hp1,hgr,hlen,hq⟩:=hrel;clear HQ0 HR0;have hp:=hp1;obtain⟨ta,tc,rfl⟩:=hp.tv_eq;have c0:=hp.c0;have c1:=hp.c1;have hbr:=hp.lt;have hfew:=hp.few;have hsr:=hgr.size;have HFr:=S (λq (hq:wr.heap.size<=q)=>hown.fresh hsr q hq);have HZ:=S (X hown hgr);have HQ:=S hq;clear hown hgr hp1 hq;cases gk with
  |zero=>exact absurd HQ.1.symm HO.1
  |succ k=>
  have e0:=HQ.1;unfold DD at e0;rw[Rd.condN_f]at e0;replace HQ:=S e0;clear e0;by_cases hi:j<l.length
  ·have hd:decide ((j:Int)<(l.length:Int))=true:=by simp;omega
   rw[if_pos (show decide (j<l.length)=true by simpa using hi),Rd.here_f]at HQ;go_wp2_with fail;go_quiet(fail);have hZ1:=HZ.1.1.gb (Aj (Aa wr none) nq) (by simp);have hZ2:=Aj HZ.1.2 nq;have hp2:=hp.drewN nq;have hs2:wr.heap.size<=(wr.drewN nq).heap.size:=nR _;generalize wr.drewN nq=w2 at*;replace HZ:=S (X hZ1 hZ2);replace hp:=hp2;clear hZ1 hZ2 hp2 c0 c1 hbr hd;cases hw:As l wordsL j==C9 with
   | true=>
     rw[V3 hn hw,L6 hn]at HQ;go_wp2_with fail;refine(Dj hp HTk.1 C9 (by decide) hw).mono ?_;rintro e w3 ⟨rfl,hp9,g⟩;replace HZ:=S (X (HZ.1.1.gb g (by intros;simp;omega)) (Z HZ.1.2 g));replace hp:=hp9;have hs3:=nT hs2 g.size;clear hp9 g hw;go_wp2_with fail;refine(B7 hp HSh.1).mono ?_;intro e w4 hq;obtain⟨g,⟨q,hr,rfl⟩| ⟨s,i4,v,hr,rfl,rfl,hp9⟩⟩:=hq.split
     ·exact PBd HZ.1.2 g HQ hr
     replace HZ:=S (X (HZ.1.1.gb g (by intros;simp;omega)) (Z HZ.1.2 g));replace hp:=hp9;clear hp9;replace HQ:=HQo HQ hr;clear hr;have hs4:=g.size;have hs40:=HZ.1.2.size;clear g;go_wp2_with fail;refine(ME hp HSh.1 n (λe=>HO.1 (by rw[<-HQ.1,e];rfl))).mono ?_;intro e w5 hq;obtain⟨g,⟨q,hr,rfl⟩| ⟨p,i5,v,hr,rfl,⟨pa,pc,rfl,hV⟩,hp9⟩⟩:=hq.split
     ·exact PBd HZ.1.2 g HQ hr
     replace HZ:=S (X (HZ.1.1.gb g (by intros;simp;omega)) (Z HZ.1.2 g));replace hp:=hp9;clear hp9;replace HQ:=HQo HQ hr;clear hr;have hs5:=g.size;have hT:=Blk.new w5 [str s,.bool true,.slice pa p.length pc,.slice none 0 0] 40;have gN:=gZ w5 (.cells [str s,.bool true,.slice pa p.length pc,.slice none 0 0].toArray 40 (0,0)) none;have HX:=S (X ((HZ.1.1.x rfl).gb gN (by simp)) (Ag HZ.1.2 gN));have hV9:=S ((hV.mono (ok':=λq=>w4.heap.size<=q/\q<w5.heap.size) (λq h1 h2=>⟨h1,h2⟩)).gb gN (by simp));replace hp:=hp.gbN gN;clear HZ hV g;have HZ:=HX;clear HX gN;go_wp2_with fail;refine(AY hp).mono ?_;intro e w6 hq;obtain⟨g,⟨q,hr,rfl⟩| ⟨u,i6,v,hr,rfl,rfl,hp9⟩⟩:=hq.split
     ·exact PBd HZ.1.2 g HQ hr
     replace HZ:=S (X (HZ.1.1.gb g (by intros;simp;omega)) (Z HZ.1.2 g));replace hp:=hp9;clear hp9;replace HQ:=HQo HQ hr;clear hr;have hs6:w5.heap.size<w6.heap.size:=by have h9:=g.size;simp at h9;omega
     replace hT:=hT.gb g (by simp;omega);replace hV9:=S (hV9.1.gb g (by intro q hq _;simp;omega));have hTl:=hT.lt;clear g;go_wp2_with fail;refine(HBk.1 _ _ (BW HGl.1.1 HGl.1.2 HZ.1.2) hp (λe=>HO.1 (by rw[<-HQ.1,e];rfl))).mono ?_;intro e w7 hq;obtain⟨g,⟨q,hr,rfl⟩| ⟨c,i7,v,hr,rfl,hB,hp9⟩⟩:=hq.split
     ·exact PBd HZ.1.2 g HQ hr
     replace HZ:=S (X (HZ.1.1.gb g (by intros;simp;omega)) (Z HZ.1.2 g));replace hp:=hp9;clear hp9;replace HQ:=HQo HQ hr;clear hr;have hs7:=g.size;replace hT:=hT.gb g (by simp;omega);replace hV9:=S (hV9.1.gb g (by intro q hq _;simp;omega));replace hTl:=hT.lt;obtain⟨ba,bc,rfl⟩:∃ba bc,v= .slice ba c.len bc:=by obtain⟨cs,⟨a9,c9,e9,_⟩,_⟩:=hB;exact⟨a9,c9,e9⟩
     have t3:=hT.cell' 3 rfl;have tf:=hT.frozen 3;have gS:=Ai (Aa w7 (some w5.heap.size)) 3 (.slice ba c.len bc);have HG:=S (X ((hT.set 3 (.slice ba c.len bc)).of_eq (cs':=[str s,.bool true,.slice pa p.length pc,.slice ba c.len bc]) rfl rfl) (X (HZ.1.1.gb gS (by intros;simp;omega)).back (X (EM HZ.1.2 gS (by intro k hk;cases hk;omega)) (X (hp.gb gS (by intro q e;cases e;omega)) (X (hV9.1.gb gS (by intro q hq _;simp;omega)) (RepV.gb hB gS (by intro q hq _;have hq':w6.heap.size<=q:=hq;simp;omega)))))));clear g gS hT hV9 hB HZ hp;go_upto_region 9 with fail;refine Az (λW=>Blk W w5.heap.size [str s,.bool true,.slice pa p.length pc,.slice ba c.len bc] 40/\OwnP W w.heap.size u3 a/\w.grownBy W (some b)/\Par W b (.slice ta l.length tc) wo l wordsL i7/\Cells W (.slice pa p.length pc) 1 p.length (p.map str) (λq=>w4.heap.size<=q/\q<w5.heap.size)/\RepV (An w6.heap.size) W false (.slice ba c.len bc) c) HG.1 ?_;clear HG t3 tf hTl;rintro W ⟨hT,hO,gW,hp,hV,hB⟩;have hsW:=gW.size;have t0:=hT.cell' 0 rfl;have t1:=hT.cell' 1 rfl;have t2:=hT.cell' 2 rfl;have t3:=hT.cell' 3 rfl;have hTl:=hT.lt;have gN:=gZ W (.cells (pdC (AB (s,true,p,c)) (.slice pa p.length pc) (.slice ba c.len bc)).toArray 40 (0,0)) none;obtain⟨cs,ho1,ho2⟩:=hO.gb gN (by simp);obtain⟨i0,hi0,hz0,hz1,hz2⟩:=info_parts O3;have HI:=S (X hi0 (X hz0 (X hz1 hz2)))
     have HB:=S (X ho1 (X ho2 (X ((hV.mono (ok':=λq=>wr.heap.size<=q) (λq h1 _=>by omega)).gb gN (by simp)) (X (RepV.gb (RepV.mono' (ok':=λq=>wr.heap.size<=q) hB (λq h1 _=>by have h1':w6.heap.size<=q:=h1;omega)) gN (by simp)) (X (hp.gbN gN) (Ag gW gN))))));have hlen2:a.length<=200000:=by omega
     clear hi0 hz0 hz1 hz2 ho1 ho2 hV hB hp gW gN hT;go_wp2_with (at_builtin;go_loud(refine wpList_append_lies _ rfl _ _ 41 rfl w.heap.size 40 i0 _ 4 72 underlying41 HI.1.1 HI.1.2.1 HI.1.2.2.1 HI.1.2.2.2 rfl (by decide) _ _ cs rfl HB.1.1 ⟨W.heap.size,0,none⟩ 1 1 (pdC (AB (s,true,p,c)) (.slice pa p.length pc) (.slice ba c.len bc)) rfl rfl (AP _ _ _) (by simp[pdC,Value.oneCell']) (by decide) (by unfold maxLen;omega) (by omega) (by simp;omega) _ rfl ?_;intro j9 cap w9 hown hgrow hat hlt;(have HE:=S (X (OwnP.snoc (q:=(s,true,p,c)) HB.1.1 HB.1.2.1 HB.1.2.2.1 HB.1.2.2.2.1 (λq hq _=>HFr.1 q hq) hown hgrow hat) (X (HB.1.2.2.2.2.1.gb hgrow (λq hq=>by have:=(HB.1.1.lt q hq).1;omega)) (EM HB.1.2.2.2.2.2 hgrow (λq hq=>(HB.1.1.lt q hq).1)))));clear hown hgrow hat));go_roundg k
     case measure=>omega
     case rel=>exact⟨_,_,HE.1.1,HE.1.2.1,HE.1.2.2,by simp;omega,HQ.1⟩
   | false=>
     rw[WV hn hw]at HQ;go_wp2_with fail;refine mR (Dh hp HTk.1 C9 hw) λw20 g=>?_;replace HZ:=S (X (HZ.1.1.gb g (by simp)) (Ag HZ.1.2 g));replace hp:=hp.gbN g;have hs20:=g.size;clear g hw;go_wp2_with fail;refine(BK hp HTk.1 Ed (by decide)).mono ?_;intro e w3 hq;obtain⟨g,⟨q,hr,rfl⟩| ⟨u,i3,v,hr,rfl,rfl,hp9⟩⟩:=hq.split
     ·exact PBd HZ.1.2 g HQ hr
     replace HZ:=S (X (HZ.1.1.gb g (by intros;simp;omega)) (Z HZ.1.2 g));replace hp:=hp9;clear hp9;replace HQ:=HQo HQ hr;clear hr;have hs3:wr.heap.size<=w3.heap.size:=nT hs2 (nT hs20 g.size);clear g;rw[L6 hn]at HQ;go_wp2_with fail;refine(B7 hp HSh.1).mono ?_;intro e w4 hq;obtain⟨g,⟨q,hr,rfl⟩| ⟨s,i4,v,hr,rfl,rfl,hp9⟩⟩:=hq.split
     ·exact PBd HZ.1.2 g HQ hr
     replace HZ:=S (X (HZ.1.1.gb g (by intros;simp;omega)) (Z HZ.1.2 g));replace hp:=hp9;clear hp9;replace HQ:=HQo HQ hr;clear hr;have hs4:=g.size;have hs40:=HZ.1.2.size;clear g;go_wp2_with fail;refine(ME hp HSh.1 n (λe=>HO.1 (by rw[<-HQ.1,e];rfl))).mono ?_;intro e w5 hq;obtain⟨g,⟨q,hr,rfl⟩| ⟨p,i5,v,hr,rfl,⟨pa,pc,rfl,hV⟩,hp9⟩⟩:=hq.split
     ·exact PBd HZ.1.2 g HQ hr
     replace HZ:=S (X (HZ.1.1.gb g (by intros;simp;omega)) (Z HZ.1.2 g));replace hp:=hp9;clear hp9;replace HQ:=HQo HQ hr;clear hr;have hs5:=g.size;have hT:=Blk.new w5 [str s,.bool false,.slice pa p.length pc,.slice none 0 0] 40;have gN:=gZ w5 (.cells [str s,.bool false,.slice pa p.length pc,.slice none 0 0].toArray 40 (0,0)) none;have HX:=S (X ((HZ.1.1.x rfl).gb gN (by simp)) (Ag HZ.1.2 gN));have hV9:=S ((hV.mono (ok':=λq=>w4.heap.size<=q/\q<w5.heap.size) (λq h1 h2=>⟨h1,h2⟩)).gb gN (by simp));replace hp:=hp.gbN gN;clear HZ hV g;have HZ:=HX;clear HX gN;go_wp2_with fail;refine(AY hp).mono ?_;intro e w6 hq;obtain⟨g,⟨q,hr,rfl⟩| ⟨u,i6,v,hr,rfl,rfl,hp9⟩⟩:=hq.split
     ·exact PBd HZ.1.2 g HQ hr
     replace HZ:=S (X (HZ.1.1.gb g (by intros;simp;omega)) (Z HZ.1.2 g));replace hp:=hp9;clear hp9;replace HQ:=HQo HQ hr;clear hr;have hs6:w5.heap.size<w6.heap.size:=by have h9:=g.size;simp at h9;omega
     replace hT:=hT.gb g (by simp;omega);replace hV9:=S (hV9.1.gb g (by intro q hq _;simp;omega));have hTl:=hT.lt;clear g;go_wp2_with fail;refine(HBk.1 _ _ (BW HGl.1.1 HGl.1.2 HZ.1.2) hp (λe=>HO.1 (by rw[<-HQ.1,e];rfl))).mono ?_;intro e w7 hq;obtain⟨g,⟨q,hr,rfl⟩| ⟨c,i7,v,hr,rfl,hB,hp9⟩⟩:=hq.split
     ·exact PBd HZ.1.2 g HQ hr
     replace HZ:=S (X (HZ.1.1.gb g (by intros;simp;omega)) (Z HZ.1.2 g));replace hp:=hp9;clear hp9;replace HQ:=HQo HQ hr;clear hr;have hs7:=g.size;replace hT:=hT.gb g (by simp;omega);replace hV9:=S (hV9.1.gb g (by intro q hq _;simp;omega));replace hTl:=hT.lt;obtain⟨ba,bc,rfl⟩:∃ba bc,v= .slice ba c.len bc:=by obtain⟨cs,⟨a9,c9,e9,_⟩,_⟩:=hB;exact⟨a9,c9,e9⟩
     have t3:=hT.cell' 3 rfl;have tf:=hT.frozen 3;have gS:=Ai (Aa w7 (some w5.heap.size)) 3 (.slice ba c.len bc);have HG:=S (X ((hT.set 3 (.slice ba c.len bc)).of_eq (cs':=[str s,.bool false,.slice pa p.length pc,.slice ba c.len bc]) rfl rfl) (X (HZ.1.1.gb gS (by intros;simp;omega)).back (X (EM HZ.1.2 gS (by intro k hk;cases hk;omega)) (X (hp.gb gS (by intro q e;cases e;omega)) (X (hV9.1.gb gS (by intro q hq _;simp;omega)) (RepV.gb hB gS (by intro q hq _;have hq':w6.heap.size<=q:=hq;simp;omega)))))));clear g gS hT hV9 hB HZ hp;go_upto_region 9 with fail;refine Az (λW=>Blk W w5.heap.size [str s,.bool false,.slice pa p.length pc,.slice ba c.len bc] 40/\OwnP W w.heap.size u3 a/\w.grownBy W (some b)/\Par W b (.slice ta l.length tc) wo l wordsL i7/\Cells W (.slice pa p.length pc) 1 p.length (p.map str) (λq=>w4.heap.size<=q/\q<w5.heap.size)/\RepV (An w6.heap.size) W false (.slice ba c.len bc) c) HG.1 ?_;clear HG t3 tf hTl;rintro W ⟨hT,hO,gW,hp,hV,hB⟩;have hsW:=gW.size;have t0:=hT.cell' 0 rfl;have t1:=hT.cell' 1 rfl;have t2:=hT.cell' 2 rfl;have t3:=hT.cell' 3 rfl;have hTl:=hT.lt;have gN:=gZ W (.cells (pdC (AB (s,false,p,c)) (.slice pa p.length pc) (.slice ba c.len bc)).toArray 40 (0,0)) none;obtain⟨cs,ho1,ho2⟩:=hO.gb gN (by simp);obtain⟨i0,hi0,hz0,hz1,hz2⟩:=info_parts O3;have HI:=S (X hi0 (X hz0 (X hz1 hz2)))
     have HB:=S (X ho1 (X ho2 (X ((hV.mono (ok':=λq=>wr.heap.size<=q) (λq h1 _=>by omega)).gb gN (by simp)) (X (RepV.gb (RepV.mono' (ok':=λq=>wr.heap.size<=q) hB (λq h1 _=>by have h1':w6.heap.size<=q:=h1;omega)) gN (by simp)) (X (hp.gbN gN) (Ag gW gN))))));have hlen2:a.length<=200000:=by omega
     clear hi0 hz0 hz1 hz2 ho1 ho2 hV hB hp gW gN hT;go_wp2_with (at_builtin;go_loud(refine wpList_append_lies _ rfl _ _ 41 rfl w.heap.size 40 i0 _ 4 72 underlying41 HI.1.1 HI.1.2.1 HI.1.2.2.1 HI.1.2.2.2 rfl (by decide) _ _ cs rfl HB.1.1 ⟨W.heap.size,0,none⟩ 1 1 (pdC (AB (s,false,p,c)) (.slice pa p.length pc) (.slice ba c.len bc)) rfl rfl (AP _ _ _) (by simp[pdC,Value.oneCell']) (by decide) (by unfold maxLen;omega) (by omega) (by simp;omega) _ rfl ?_;intro j9 cap w9 hown hgrow hat hlt;(have HE:=S (X (OwnP.snoc (q:=(s,false,p,c)) HB.1.1 HB.1.2.1 HB.1.2.2.1 HB.1.2.2.2.1 (λq hq _=>HFr.1 q hq) hown hgrow hat) (X (HB.1.2.2.2.2.1.gb hgrow (λq hq=>by have:=(HB.1.1.lt q hq).1;omega)) (EM HB.1.2.2.2.2.2 hgrow (λq hq=>(HB.1.1.lt q hq).1)))));clear hown hgrow hat));go_roundg k
     case measure=>omega
     case rel=>exact⟨_,_,HE.1.1,HE.1.2.1,HE.1.2.2,by simp;omega,HQ.1⟩
  ·have hd:decide ((j:Int)<(l.length:Int))=false:=by simp;omega
   rw[if_neg (nF (show decide (j<l.length)=false by simpa using hi)),Rd.pure_f]at HQ;have HPp:=S hp;clear hp;go_wp2_with fail;go_quiet(fail);go_wp2;go_ret;refine Post.ok (Aj HZ.1.2 _) HQ.1.symm ?_ ?_
   ·exact(HZ.1.1.gb (Aj (Aa wr none) _) (by simp)).rep
   ·exact HPp.1.drewN _
end
def OJ(k B:Nat)(w:World)(a:List Pq):Prop:=∃la lc,Blk w k [.slice la a.length lc] 41/\RepQ (An B) w (.slice la a.length lc) (a.map AB)
def Qe{wv:Value}(hn:Al l)(hl:En AE l)(hok:∀i,At (Ab l i))(hgb:4<b)(hnn:n<=90000)(hg:Glob w)(hp:Par w b tv wv l wordsL 0)(hk:Blk w k [.slice none 0 0] 41)(hkb:k<b)
 (ho:(BY hn wordsL AE n).f 0 ≠ .out):
 Calls Tryz.prog 212 #[.pointer (some ⟨b,0,none⟩),.pointer (some ⟨k,0,none⟩)] w (KQ b k w (OR k) (OJ k) ((BY hn wordsL AE n).f 0)):=by
 have hb:=hp.lt;have HB:=S (Qi hn hl hok hgb hnn hg hp ho);clear hl hok hg ho;generalize(BY hn wordsL AE n).f 0=R at*;go_enter func212,ntmps212;go_wp2_with fail;refine HB.1.mono ?_;intro e w1 hq;obtain⟨g,⟨q,rfl,rfl⟩| ⟨a,j,v,rfl,rfl,hv,hpar⟩⟩:=hq.split
 ·exact⟨rfl,Grown2.of g (.inr (.inl rfl)),⟨none,0,0,hk.gb g (by simp;omega)⟩,rfl⟩
 obtain⟨la,lc,rfl⟩:∃la lc,v= .slice la a.length lc:=by
  obtain⟨cs,⟨a9,c9,e9,_⟩,_⟩:=hv;rw[List.length_map]at e9;exact⟨a9,c9,e9⟩
 have hk1:=hk.gb g (by simp;omega);have k0:=hk1.cell 0;have kf:=hk1.frozen 0;simp only[List.getElem?_cons_zero]at k0;have hs1:=g.size;have HF:=S (X hv (X hpar hk1));clear hv hpar hk1 hq;go_wp2;have gS:w1.grownBy (w1.setCell ⟨k,0,none⟩ (.slice la a.length lc)) (some k):=Af (Aa _ _) _ _ (.inl rfl);have hk2:=HF.1.2.2.set 0 (.slice la a.length lc);refine⟨rfl,.tuple #[],by simp[results,results212,go_sem],(Grown2.of g (.inr (.inl rfl))).trans (Grown2.of gS (.inr (.inr rfl))),⟨_,_,_,hk2⟩,rfl,⟨_,_,hk2,?_⟩,?_⟩
 ·exact HF.1.1.gb gS (by intro q hq _ e;have h9:w.heap.size<=q:=hq;cases e;omega)
 ·exact B9 gS HF.1.2.1.c1 (by simp;omega)
def V4(hg:Glob w)(hn:Al l)(hl:En AE l)(hok:∀i,At (Ab l i))(ht:TRow w tv l (λ_=>True))(hlen:l.length<=4001)(n:Nat)(hnn:n<=90000)(ho:(BY hn wordsL AE n).f 0 ≠ .out):
 Calls Tryz.prog 160 #[tv] w λe w'=>∃la ln lc,e= .returned (.tuple #[.slice la ln lc,.int .i64 (BP l ((BY hn wordsL AE n).f 0))])/\w.grownBy w' none/\
  ∀a j,(BY hn wordsL AE n).f 0= .ok a j->ln=a.length/\RepQ (An w.heap.size) w' (.slice la ln lc) (a.map AB):=by
 have hmf:∀(fn:Fn)(first cap:Array Value)(w:World),(Instr.makeFunc fn first cap).run Tryz.prog w= .ok (.func fn first cap) w:=λ_ _ _ _=>rfl;have hK:=Blk.new w [.slice none 0 0] 41;have g0:=gZ w (.cells [.slice none 0 0].toArray 41 (0,0)) none;have ht0:=(ht.mono (ok':=λg=>g<w.heap.size) (λk _ h=>h)).gb g0 (by simp);have hg0:=hg.gb g0 (by simp);have hK0:=hK.lt;have hw0:4<w.heap.size:=by
  unfold Glob Lib.TabIs World.var? at hg;simp only[Hz,Option.bind_some]at hg;rcases Nat.lt_or_ge 4 w.heap.size with h' |h'
  ·exact h'
  ·rw[Array.getElem?_eq_none h']at hg;simp at hg
 have H:=S (λw1 b wv (hg1:Glob w1) (hb1:w.heap.size+1<=b) (hp1:Par w1 b tv wv l wordsL 0) (hk1:Blk w1 w.heap.size [.slice none 0 0] 41)=>Qe (k:=w.heap.size) hn hl hok (by omega) hnn hg1 hp1 hk1 (by omega) ho);clear hl hg hok;generalize(BY hn wordsL AE n).f 0=R at*;go_enter func160,ntmps160;go_wp2_with fail;refine(O6 (k:=w.heap.size) hg0 (ht0.mono (λ_ _ _=>trivial)) hlen 212 #[.pointer (some ⟨w.heap.size,0,none⟩)] (VT _) R hK0 (OR w.heap.size) ?_ (OJ w.heap.size) ?_ ?_).mono ?_
 ·rintro w2 w3 r ⟨a,n,c,h⟩ g hr;exact⟨a,n,c,h.gb g (by simp at hr ⊢;omega)⟩
 ·rintro B w2 w3 a r ⟨la,lc,hb,hv⟩ g hr hB;exact⟨la,lc,hb.gb g (by simp at hr ⊢;omega),hv.gb g (by intro q hq _ e;have h9:B<=q:=hq;cases e;omega)⟩
 ·intro w1 b wv g1 hb1 hp hs;simp at hb1;exact H.1 _ _ _ (hg0.gb g1 (by simp)) (by omega) hp (hK.gb g1 (by simp))
 rintro e w1 ⟨rfl,g1,hU,hV⟩;obtain⟨la,ln,lc,hb⟩:=hU;have k0:=hb.cell 0;simp only[List.getElem?_cons_zero]at k0;have HF:=S (X (Aq g0 g1 (.inr (nR _))) (show ∀a j,R= .ok a j->ln=a.length/\RepQ (An w.heap.size) w1 (.slice la ln lc) (a.map AB)from λa j e=>by
  obtain⟨B,hB,la',lc',hb',hv⟩:=hV a j e;have e2:=hb'.cell 0;rw[hb.cell 0]at e2;cases e2;simp at hB;refine⟨rfl,?_⟩;obtain⟨cs,h1,h2⟩:=hv;exact⟨cs,h1.mono (λq hq _=>by have:B<=q:=hq;show w.heap.size<=q;omega),RepP.mono (λq hq _=>by have:B<=q:=hq;show w.heap.size<=q;omega) h2⟩))
 clear hV g1 hb;go_wp2;exact bZ (v:= .tuple #[.slice la ln lc,.int .i64 (BP l R)]) (by simp[results,results160,go_sem]) rfl ⟨_,_,_,rfl,HF.1.1,HF.1.2⟩
def Bl.sum:Bl->Nat
 | .nil=>0
 | .st h b n=>1+h.nodes+b.sum+n.sum
 | .bl b n=>1+b.sum+n.sum
def Bl.wt_le:∀b:Bl,b.wt<=b.sum:=by
 intro b;induction b with
 |nil=>exact nR _
 |st h b n ih1 ih2=>simp only[Bl.wt,Bl.sum];omega
 |bl b n ih1 ih2=>simp only[Bl.wt,Bl.sum];omega
def Bl.sum_app:∀a b:Bl,(a.app b).sum=a.sum+b.sum:=by
 intro a;induction a with
 |nil=>intro b;simp[Bl.app,Bl.sum]
 |st h k n _ ih=>intro b;simp[Bl.app,Bl.sum,ih];omega
 |bl k n _ ih=>intro b;simp[Bl.app,Bl.sum,ih];omega
abbrev sw(r:StB):Nat:=1+r.1.nodes+r.2.sum
abbrev pwB(a:Fo×Bl):Nat:=a.1.nodes+a.2.sum
section
open Rd
variable (hn:Al l)(W:List Bs)(day:Bs->Int){block:Rd l Bl}
def Sh(w:Bs):Bg (D9 hn day n w) sw 1:=
 Bg.bind (λp=>p.2.nodes) 0 1 ((I0 hn day ([],.nil)).le (by simp[Fo.nodes])) (λa=>Bg.bind (λp=>p.2.nodes) a.2.nodes 1 (KR (m:=λp:List Bs×Fo=>p.2.nodes) (I0 hn day) n a) (λa=>Ap AI (Bg.pure (by simp[sw,Sd.nodes,sd0,Fo.nodes,Bl.sum];omega))) (by omega)) (by omega)
def Ld(hb:Bg block Bl.sum 0)(a:Fo×Bl):Bg (D0 hn day n block a) pwB (pwB a):=
 BO hn day λx=>Ap AI (Bg.bind Bl.sum 0 (x.nodes+pwB a+1) hb (λb=>Bg.pure (by simp only[pwB,Fo.nodes_snoc,Bl.sum_app,Bl.sum];omega)) (by omega))
def MM(hb:Bg block Bl.sum 0)(more other last:Bs):Bg (Ew hn W day n block more other last) sw 1:=
 Bg.bind pwB 0 1 ((Ld hn day hb (.nil,.nil)).le (by simp[pwB,Fo.nodes,Bl.sum])) (λa=>Bg.bind pwB (pwB a) 1 (NP (m:=pwB) (Ld hn day hb) n a) (λa=>
  Bg.bind Bl.sum a.2.sum (a.1.nodes+1) (Cn (Ap AI (Bg.bind Bl.sum 0 (a.2.sum+1) hb (λb=>Bg.pure (by simp only[Bl.sum_app,Bl.sum];omega)) (by omega))) (Bg.pure (nR _)))
   (λb=>Ap BH (Ap AI (Bg.pure (by simp[sw,Sd.nodes,sd0,Fo.nodes];omega)))) (by simp only[pwB];omega)) (by omega)) (by omega)
def bw_do(hb:Bg block Bl.sum 0):Bg (doP hn W day n block) sw 1:=
 Cn (Ap AI (Ap BH ((MM hn W day hb _ _ _).le (by omega))))
  (Cn (Bg.bind pwB 0 1 ((Ld hn day hb (.nil,.nil)).le (by simp[pwB,Fo.nodes,Bl.sum])) (λa=>Ap BH (Ap AI (Bg.pure (by simp[sw,pwB,Sd.nodes,sd0,Fo.nodes];omega)))) (by omega))
   (Ch λs=>Bg.bind Fo.nodes 0 1 (Cn ((Hv hn day).le (by omega)) (Bg.pure (by simp[Fo.nodes]))) (λf=>Ap AI (Bg.pure (by simp[sw,Sd.nodes,sd0,Fo.nodes,Bl.sum];omega))) (by omega)))
def XW(hb:Bg block Bl.sum 0):Bg (EU hn W day n block) sw 1:=
 Ch λs=>Ap EI (BO hn day λx=>Ap BH (BO hn day λy=>Bg.bind Ex.nodes 1 (y.nodes+x.nodes+1) (Cn ((Ju hn day).le (by omega)) (Bg.pure (by simp[A7,Ex.nodes,Fo.nodes])))
  (λz=>Ap AI (Bg.bind Bl.sum 0 (z.nodes+y.nodes+x.nodes+2) hb (λb=>Ap BH (Ap AI (Bg.pure (by simp[sw,Sd.nodes,sd0,Fo.nodes,Bl.sum,Fo.nodes_snoc,Fo.nodes_one];omega)))) (by omega))) (by omega)))
def VM(hb:Bg block Bl.sum 0):Bg (EN hn W block) sw 1:=
 Ap BH (Ap AI (Bg.bind Bl.sum 0 2 hb (λb=>Bg.bind (λr=>r.2.sum) (b.sum+1) 1
  (Cn (Bg.bind (λ_=>0) 0 (b.sum+2) (Cn (NQ hn) (Bg.pure (nR _))) (λs=>Ap AI (Bg.bind Bl.sum 0 (b.sum+2) hb (λc=>Bg.pure (by simp[Bl.sum];omega)) (by omega))) (by omega))
   (Bg.pure (by simp only[Bl.sum];omega))) (λr=>Ap BH (Ap AI (Bg.pure (by simp[sw,Sd.nodes,sd0,Fo.nodes];omega)))) (by omega)) (by omega)))
def XZ(hb:Bg block Bl.sum 0)(w:Bs):Bg (Bw hn W day n block w) sw 0:=by
 unfold Bw;repeat' refine CU ?_ ?_
 ·exact Bk (Sh hn day w)
 ·exact Bk (MM hn W day hb _ _ _)
 ·exact Bk (bw_do hn W day hb)
 ·exact Bk (XW hn W day hb)
 ·exact Bk (Ap AI (Bg.pure (by simp[sw,Sd.nodes,sd0,Fo.nodes,Bl.sum])))
 ·exact Bk (Ap AI (Bg.pure (by simp[sw,Sd.nodes,sd0,Fo.nodes,Bl.sum])))
 ·exact Bk (Bg.bind Fo.nodes 0 1 (Hw hn day) (λx=>Ap AI (Bg.pure (by simp[sw,Sd.nodes,sd0,Fo.nodes,Bl.sum];omega))) (by omega))
 ·exact Bk (Bg.bind Fo.nodes 0 1 (Hw hn day) (λx=>Ap AI (Bg.pure (by simp[sw,Sd.nodes,sd0,Fo.nodes,Bl.sum];omega))) (by omega))
 ·exact Bk (VM hn W hb)
 ·exact Bk (Bg.bind Sd.nodes 0 1 (Mn hn W day w) (λs=>Ap AI (Bg.pure (by simp only[sw,Bl.sum];omega))) (by omega))
 ·exact Bg.bad
def J6(t:Ex):Bg (Gw hn day n t) sw t.nodes:=
 Bg.bind AJ 0 t.nodes (C5 (Bg.pure (by simp only[AJ];omega)) EI) (λ_=>BO hn day λx=>Ap AI (Bg.pure (by simp[sw,Sd.nodes,sd0,Fo.nodes,Bl.sum,Fo.nodes_two];omega))) (by omega)
def Yb(s:Bs):Bg (Ir hn day n s) sw 1:=
 C5 (Bg.bind Fo.nodes 0 2 (Nf hn day) (λf=>Ap AI (Bg.pure (by simp[sw,Sd.nodes,sd0,Fo.nodes,Bl.sum,Fo.nodes_one,Ex.nodes];omega))) (by omega))
  (C5 (BO hn day λx=>Ap EI ((J6 hn day _).le (by simp only[Eg,AH,Ex.nodes,Fo.nodes_two,Fo.nodes];omega)))
   (C5 (Ch λt=>(J6 hn day _).le (by simp only[AH,Ex.nodes,Fo.nodes_one,Fo.nodes];omega)) ((J6 hn day _).le (by simp only[AH,Ex.nodes,Fo.nodes];omega))))
def VN:Bg (EP hn day n) sw 0:=
 C5 (Bg.bind Fo.nodes 0 1 (EH (Bg.pure (by simp[Fo.nodes])) (Hv hn day)) (λx=>Ap AI (Bg.pure (by simp[sw,Sd.nodes,sd0,Fo.nodes,Bl.sum];omega))) (by omega))
  (EH (Bg.bind Ex.nodes 0 0 (NF hn day) (λt=>(J6 hn day t).le (by omega)) (by omega)) (Ch λs=>Yb hn day s))
def Ya(hb:Bg block Bl.sum 0):Bg (BL hn W day n block) sw 0:=λi a j e=>by
 have e':(if Bp l W i=[]then EP hn day n else Bw hn W day n block (Bp l W i)).f i= .ok a j:=e
 split at e'
 ·exact VN hn day i a j e'
 ·exact XZ hn W day hb _ i a j e'
end
section
open Rd
variable (hn:Al l)(W:List Bs)(day:Bs->Int)
def Cr(a:List Pq):Nat:=(a.map λp=>p.2.2.2.sum).sum
def P8(a:List Pq)(p:Pq):Cr (a++[p])=Cr a+p.2.2.2.sum:=by simp[Cr]
def Qb{st:Rd l StB}(h:Bg st sw 0):∀k a,Bg (DF W st k a) Bl.sum a.sum:=by
 intro k;induction k with
 |zero=>exactλa=>Bg.out
 |succ k ih=>exactλa=>Ho (Bg.bind sw 0 a.sum h (λr=>(ih _).le (by simp only[sw,Bl.sum_app,Bl.sum];omega)) (by omega)) (Bg.pure (nR _))
def NS:∀n,Bg (Dx hn W day n) Bl.sum 0:=by
 intro n;induction n with
 |zero=>exact Bg.out
 |succ n ih=>exact Qb W (Ya hn W day ih) n .nil
def XX(n:Nat)(a:List Pq)(fn:Bool):Bg (El hn W day n a fn) Cr (Cr a):=by
 refine Ch λs=>Bg.bind (λ_=>0) 0 (Cr a) ?_ (λp=>Ap AI (Bg.bind Bl.sum 0 (Cr a) (NS hn W day n) (λb=>Bg.pure (by rw[P8];show Cr a+b.sum<=b.sum+Cr a;omega)) (by omega))) (by omega);refine C5 (C5 (Bg.pure (nZ _)) (Bg.bind (λ_=>0) 0 0 ?_ (λp=>Ap EI (Bg.pure (nZ _))) (by omega))) (Bg.pure (nZ _));intro i p j e;have h:=Ke (l:=l) (n:=n) i;rw[show CG l n i= .ok p j from e]at h;simp only[Big,AJ]at h;show 0+i<=j+0;omega
def QA(n:Nat):∀k a,Bg (DD hn W day n k a) Cr (Cr a):=by
 intro k;induction k with
 |zero=>exactλa=>Bg.out
 |succ k ih=>exactλa=>Ho (Gd λw=>CU (Bk (Bg.bind Cr (Cr a) 0 (XX hn W day n a _) (λa=>ih a) (by omega))|> λh=>h.le (nR _)) Bg.bad) (Bg.pure (nR _))
def XY(n:Nat):Bg (BY hn W day n) Cr 0:=
 Bg.bind Bl.sum 0 0 (NS hn W day n) (λb=>(QA hn W day n n _).le (by simp[Cr])) (by omega)
def Qc:∀{a:List Pq}{p:Pq},p∈a->p.2.2.2.sum<=Cr a:=by
 intro a;induction a with
 |nil=>intro p h;cases h
 | cons q r ih=>
   intro p h;have e:Cr (q::r)=q.2.2.2.sum+Cr r:=by simp[Cr]
   rcases List.mem_cons.1 h with h|h
   ·subst h;omega
   ·have:=ih h;omega
def Y4(h:(BY hn W day n).f 0= .ok a j):∀p∈a,p.2.2.2.wt<=j:=by
 intro p hp;have h1:=XY hn W day n 0 a j h;have h2:=Qc hp;have h3:=p.2.2.2.wt_le;omega
def XD{s:Bs}(h:AD l i= .ok s j):s.length<=10:=by
 unfold AD at h;split at h
 ·rename_i hc;cases h;simp only[Ay,Bool.and_eq_true,decide_eq_true_eq]at hc;omega
 ·cases h
def Ph(n:Nat):∀k (a:List Pq) i r j,(∀p∈a,p.1.length<=10)->(DD hn W day n k a).f i= .ok r j->∀p∈r,p.1.length<=10:=by
 intro k;induction k with
 |zero=>intro a i r j _ h;cases h
 | succ k ih=>
   intro a i r j ha h;unfold DD at h;rw[condN_f]at h;split at h
   ·rw[here_f]at h;by_cases hw:As l W i=Ed\/As l W i=C9
    ·rw[if_pos hw,skip_f,L6]at h;cases h1:AD l (i+1)with
     |out=>rw[h1]at h;cases h
     |bad q=>rw[h1]at h;cases h
     | ok s i1=>
       rw[h1,Res.bind_ok]at h;have hs:=XD h1;cases h2:Gh l n i1 with
       |out=>rw[h2]at h;cases h
       |bad q=>rw[h2]at h;cases h
       | ok p i2=>
         rw[h2,Res.bind_ok]at h;cases h3:B3 l i2 with
         |out=>rw[h3]at h;cases h
         |bad q=>rw[h3]at h;cases h
         | ok u i3=>
           rw[h3,Res.bind_ok]at h;cases h4:(Dx hn W day n).f i3 with
           |out=>rw[h4]at h;cases h
           |bad q=>rw[h4]at h;cases h
           | ok b i4=>
             rw[h4,Res.bind_ok]at h;refine ih _ _ _ _ ?_ h;intro x hx;rcases List.mem_append.1 hx with hx|hx
             ·exact ha x hx
             ·rw[List.mem_singleton]at hx;subst hx;exact hs
    ·rw[if_neg hw]at h;cases h
   ·cases h;exact ha
def SF(h:(BY hn W day n).f 0= .ok a j):∀p∈a,p.1.length<=10:=by
 have e:(BY hn W day n).f 0=((Dx hn W day n).f 0).bind λb i=>(DD hn W day n n [([77,65,73,78],false,[],b)]).f i:=rfl;rw[e]at h;cases h1:(Dx hn W day n).f 0 with
 |out=>rw[h1]at h;cases h
 |bad q=>rw[h1]at h;cases h
 | ok b i=>
   rw[h1,Res.bind_ok]at h;exact Ph hn W day n n _ _ _ _ (by intro p hp;rw[List.mem_singleton]at hp;subst hp;simp) h
def WW(hn3:l.length+3<=n)(h:(BY hn wordsL day n).f 0= .ok a j):j<=l.length:=by
 have:=MU hn wordsL day n hn3;rw[h]at this;exact this.2
def Ng(hn3:l.length+3<=n):(BY hn wordsL day n).f 0 ≠ .out:=by
 intro e;have:=MU hn wordsL day n hn3;rw[e]at this;exact this
def Ki(a:List Pq):Nat:=(a.map λp=>p.2.2.2).foldr (λb n=>b.nodes+n) 0
def Qd:∀a:List Pq,Ki a=Cg a:=by
 intro a;induction a with
 |nil=>rfl
 | cons p r ih=>
   have e1:Ki (p::r)=p.2.2.2.nodes+Ki r:=rfl;have e2:Cg (p::r)=p.2.2.2.nodes+Cg r:=by simp[Cg]
   rw[e1,e2,ih]
end
def Fo.levels_app(f g:Fo):(f.app g).levels=max f.levels g.levels:=by
 induction f with
 |nil=>simp[Fo.app,Fo.levels]
 |cons h k n _ ih=>simp[Fo.app,Fo.levels,ih,Nat.max_assoc]
def Sd.levels_le(s:Sd):s.levels<=s.nodes:=by
 have h1:=s.x.len_nodes;have h2:=s.n.len_nodes;have h3:=s.f.len_nodes;have h4:=s.w.len_nodes;simp only[Sd.levels,Sd.nodes];omega
def Bl.levels_le:∀b:Bl,b.levels<=b.nodes:=by
 intro b;induction b with
 |nil=>exact nR _
 |st h b n ih1 ih2=>have:=h.levels_le;simp only[Bl.levels,Bl.nodes];omega
 |bl b n ih1 ih2=>simp only[Bl.levels,Bl.nodes];omega
def sel{α:Type}(a b c d:α):Nat->α
 | 0=>a
 | 1=>b
 | 2=>c
 |_=>d
def FC(s:Sd):Fo:=Ck (sel s.x s.n s.f s.w) 4
def Me(s:Sd):(FC s).nodes=s.nodes:=by
 simp only[FC,Ck,sel,Fo.nodes_app,Fo.nodes,Sd.nodes];omega
def Qn(s:Sd):(FC s).levels=s.levels:=by
 simp only[FC,Ck,sel,Fo.levels_app,Fo.levels,Sd.levels];omega
structure SzG(ok:Nat->Prop)(w v:World)(sc:List Value)(f rest:Fo)(cs:List Value)(k n m:Nat)(wr:World):Prop where
 len:f.len=k+rest.len
 row:RepF ok v rest (cs.drop (k*7))
 nodes:n+rest.nodes=1+f.nodes
 levels:max m (1+rest.levels)=1+f.levels
 pos:1<=m/\1<=n
 st:Blk wr w.heap.size sc 134
 acc:Blk wr (w.heap.size+2) [.int .i64 n,.int .i64 m] 96
 res:Blk wr (w.heap.size+1) [.int .i64 0,.int .i64 0] 96
 g:w.grownBy wr none
 gv:v.grownBy wr (some (w.heap.size+2))
def SzG.next{v:World}{f kids next:Fo}{h':Hd}{cs:List Value}{m:Nat}{wr w1:World}(h:SzG ok w v sc f (.cons h' kids next) cs k n m wr)
 (hst:Blk w1 w.heap.size sc 134) (hacc:Blk w1 (w.heap.size+2) [.int .i64 ((n+(1+kids.nodes):Nat):Int),.int .i64 ((max m (1+kids.levels+1):Nat):Int)] 96) (hres:Blk w1 (w.heap.size+1) [.int .i64 0,.int .i64 0] 96) (g:w.grownBy w1 none) (gv:v.grownBy w1 (some (w.heap.size+2))):
 SzG ok w v sc f next cs (k+1) (n+(1+kids.nodes)) (max m (1+kids.levels+1)) w1:=by
 have h1:=h.len;have h3:=h.nodes;have h4:=h.levels;have h5:=h.pos;simp only[Fo.len,Fo.nodes,Fo.levels]at h1 h3 h4;refine⟨by omega,?_,by omega,by omega,⟨by omega,by omega⟩,hst,hacc,hres,g,gv⟩;obtain⟨pv,lv,kcs,rcs,hcs,_,_,_,hn⟩:=h.row;have e:cs.drop ((k+1)*7)=rcs:=by
  rw[show(k+1)*7=k*7+7 by omega,<-List.drop_drop,hcs];exact List.drop_left' rfl
 rw[e];exact hn
abbrev stW(w:World)(sc:List Value)(a b c d:Value):World:=(((w.alloc (.cells sc.toArray 134 (0,0))).alloc (.cells #[.int .i64 0,.int .i64 0] 96 (0,0))).alloc (.cells #[.int .i64 1,.int .i64 1] 96 (0,0))).alloc (.cells #[a,b,c,d] 129 (0,0))
def stW_blk{a b c d:Value}:Blk (stW w sc a b c d) (w.heap.size+1+1+1) [a,b,c,d] 129:=
 (Blk.new _ [a,b,c,d] _).of_eq (by simp) rfl
def Z2(w:World)(sc:List Value)(a b c d:Value):w.grownBy (stW w sc a b c d) none:=Ac (Ac (Ac (gZ w _ none) _) _) _
def OfB(N:Nat):Prop:=∀f:Bl,f.wt<N->f.nodes<=1000000->∀(ok:Nat->Prop)(la:Option Addr)(lc:Nat)(w:World),RepV ok w false (.slice la f.len lc) f->
 Calls Tryz.prog 86 #[.slice la f.len lc] w (ρ w (szV (f.nodes:Int) (f.levels:Int)))
structure SzB(ok:Nat->Prop)(w:World)(s:Sd)(c rest:Bl)(ds:List Value)(k n m:Nat)(wr:World):Prop where
 len:c.len=k+rest.len
 row:RepT ok w rest true (ds.drop k)
 nodes:n+rest.nodes=1+s.nodes+c.nodes
 levels:max m (1+rest.levels)=1+max s.levels c.levels
 pos:1<=m/\1<=n
 wt:rest.wt<=c.wt
 acc:Blk wr (w.heap.size+2) [.int .i64 n,.int .i64 m] 96
 res:Blk wr (w.heap.size+1) [.int .i64 0,.int .i64 0] 96
 g:w.grownBy wr none
def SB{N:Nat}(hB:OfB N){s:Sd}{c:Bl}{pa xa na fa wa ba:Option Addr}{pc xc nc fc wc bc:Nat}(h1:SdRep ok w s pa xa na fa wa pc xc nc fc wc)(h2:RepV ok w true (.slice ba c.len bc) c)(hc:c.wt<N)(hn:s.nodes+c.nodes<=1000000):
 Calls Tryz.prog 120 #[.agg (sdC s (.slice pa s.p.length pc) (.slice xa s.x.len xc) (.slice ba c.len bc) (.slice na s.n.len nc) (.slice fa s.f.len fc) (.slice wa s.w.len wc)).toArray] w (ρ w (szV ((1+s.nodes+c.nodes:Nat):Int) ((1+max s.levels c.levels:Nat):Int))):=by
 have gW:=Z2 w (sdC s (.slice pa s.p.length pc) (.slice xa s.x.len xc) (.slice ba c.len bc) (.slice na s.n.len nc) (.slice fa s.f.len fc) (.slice wa s.w.len wc)) (.slice xa s.x.len xc) (.slice na s.n.len nc) (.slice fa s.f.len fc) (.slice wa s.w.len wc);have hfl:=(FC s).len_nodes;have hsl:=s.levels_le;have hcl:=c.levels_le;rw[Me]at hfl;have HC:=S (Sl (ok:=λq=>q<w.heap.size) (by intro q hq;have:=gW.size;omega) (w:=stW w (sdC s (.slice pa s.p.length pc) (.slice xa s.x.len xc) (.slice ba c.len bc) (.slice na s.n.len nc) (.slice fa s.f.len fc) (.slice wa s.w.len wc)) (.slice xa s.x.len xc) (.slice na s.n.len nc) (.slice fa s.f.len fc) (.slice wa s.w.len wc)) (R:=w.heap.size+1+1+1) (la:=sel xa na fa wa) (lc:=sel xc nc fc wc) (fs:=sel s.x s.n s.f s.w)
  (by
   intro k hk;rcases k with _ |_ |_ |_ |k
   ·exact stW_blk.cell 0
   ·exact stW_blk.cell 1
   ·exact stW_blk.cell 2
   ·exact stW_blk.cell 3
   ·omega)
  (by have e:(Ck (sel s.x s.n s.f s.w) 4).len=(FC s).len:=rfl;rw[e];omega)
  (by
   intro k hk;rcases k with _ |_ |_ |_ |k
   ·exact(h1.x.mono (λq _ h=>h)).gb gW (by simp)
   ·exact(h1.n.mono (λq _ h=>h)).gb gW (by simp)
   ·exact(h1.f.mono (λq _ h=>h)).gb gW (by simp)
   ·exact(h1.w.mono (λq _ h=>h)).gb gW (by simp)
   ·omega))
 have e4:Ck (sel s.x s.n s.f s.w) 4=FC s:=rfl;rw[e4]at HC;have hfn:=Me s;have hfv:=Qn s;generalize FC s=f at*;obtain⟨ds,hd1,hd2⟩:=h2;obtain⟨_,_,e,hcl1,hcl2,_,hdat⟩:=hd1;cases e;have hcm:c.len<=maxLen:=by omega
 unfold maxLen at hcm;clear hcl1 hcl2;have HR:=S (X gW (X hdat hd2));have HBB:=S hB;clear gW h1 hdat hd2 hB e4;have hs3:=((Blk.new w (sdC s (.slice pa s.p.length pc) (.slice xa s.x.len xc) (.slice ba c.len bc) (.slice na s.n.len nc) (.slice fa s.f.len fc) (.slice wa s.w.len wc)) 134).alloc (.cells #[.int .i64 0,.int .i64 0] 96 (0,0))).alloc (.cells #[.int .i64 1,.int .i64 1] 96 (0,0));have y4:=hs3.cell' 4 rfl;have y7:=hs3.cell' 7 rfl;have y8:=hs3.cell' 8 rfl;have y9:=hs3.cell' 9 rfl;clear hs3;go_enter func120,ntmps120;go_wp2_with fail;refine HC.1.mono ?_;rintro e w1 ⟨v,cs,rfl,hO,hF,g1⟩;have g0:w.grownBy w1 none:=Z HR.1.1 g1;have hA:SzG (λq=>q<w.heap.size) w w1 (sdC s (.slice pa s.p.length pc) (.slice xa s.x.len xc) (.slice ba c.len bc) (.slice na s.n.len nc) (.slice fa s.f.len fc) (.slice wa s.w.len wc)) f f cs 0 1 1 w1:=by
  refine⟨by simp,by simpa using hF,rfl,by omega,⟨nR _,nR _⟩,?_,?_,?_,g0,Aa _ _⟩
  ·exact((((Blk.new w (sdC s (.slice pa s.p.length pc) (.slice xa s.x.len xc) (.slice ba c.len bc) (.slice na s.n.len nc) (.slice fa s.f.len fc) (.slice wa s.w.len wc)) 134).alloc _).alloc _).alloc _).gb g1 (by simp)
  ·exact Blk.gb (((Blk.new _ [.int .i64 1,.int .i64 1] _).of_eq (by simp) rfl).alloc _) g1 (by simp)
  ·exact Blk.gb ((((Blk.new _ [.int .i64 0,.int .i64 0] _).of_eq (by simp) rfl).alloc _).alloc _) g1 (by simp)
 obtain⟨ra,rc,rfl,_,hmx,_,hat0⟩:=C0 hO;have hlm:f.len<=1000000:=by omega
 have HO:=S hat0;have HA:=S hA;clear hO hF g1 g0 hat0 hA hmx y4 y7 y8 y9;go_wp2_with fail;go_loopg [23] f.len (λg v23 wr=>∃rest:Fo,∃k n m:Nat,rest.len=g/\v23= .int .i64 k/\SzG (λq=>q<w.heap.size) w w1 (sdC s (.slice pa s.p.length pc) (.slice xa s.x.len xc) (.slice ba c.len bc) (.slice na s.n.len nc) (.slice fa s.f.len fc) (.slice wa s.w.len wc)) f rest cs k n m wr)
 case atStart=>exact⟨f,0,1,1,rfl,rfl,HA.1⟩
 case round=>
  obtain⟨rest,k,n,m,hg,rfl,hr⟩:=hrel;clear HA;have a0:=hr.acc.cell' 0 rfl;have a1:=hr.acc.cell' 1 rfl;have r0:=hr.res.cell' 0 rfl;have r1:=hr.res.cell' 1 rfl;have rf:=λk=>hr.res.frozen k;have af:=λk=>hr.acc.frozen k;have al:=hr.acc.lt;have s5:=hr.st.cell 5;simp only[sdC,List.getElem?_cons_zero,List.getElem?_cons_succ]at a0 a1 r0 r1 s5;cases rest with
  | nil=>
    have hlen:=hr.len;have hk:k=f.len:=by simp[Fo.len]at hlen;omega
    subst hk;have hS:SzB (λ_=>True) w s c c ds 0 n m wr:=by
     have h1:=hr.nodes;have h2:=hr.levels;have h3:=hr.pos;simp[Fo.nodes,Fo.levels]at h1 h2;exact⟨by simp,by simpa using RepT.monoE (ok':=λ_=>True) (λ_ _ _=>trivial) HR.1.2.2,by omega,by omega,h3,nR _,hr.acc,hr.res,hr.g⟩
    have HS:=S hS;have hkI:decide (f.len<f.len)=false:=by simp
    clear hlen hg hS hr a0 a1 r0 r1 rf af al;go_wp2_with fail;go_loopg [35] c.len (λg v35 w2=>∃rest:Bl,∃k n m:Nat,rest.len=g/\v35= .int .i64 k/\SzB (λ_=>True) w s c rest ds k n m w2)
    case atStart=>exact⟨c,0,n,m,rfl,rfl,HS.1⟩
    case round=>
     clear HS n m;obtain⟨rest,k,n,m,hg,rfl,hr⟩:=hrel;have a0:=hr.acc.cell' 0 rfl;have a1:=hr.acc.cell' 1 rfl;have r0:=hr.res.cell' 0 rfl;have r1:=hr.res.cell' 1 rfl;have rf:=λk=>hr.res.frozen k;have rl:=hr.res.lt;have af:=λk=>hr.acc.frozen k;have al:=hr.acc.lt;have hrow:=hr.row;have hlen:=hr.len;cases rest with
     |st _ _ _=>exact hrow.elim
     | nil=>
       have hkI:decide (k<c.len)=false:=by simp[Bl.len]at hlen;simp;omega
       have hnm:n=1+s.nodes+c.nodes/\m=1+max s.levels c.levels:=by
        have h1:=hr.nodes;have h2:=hr.levels;have h3:=hr.pos;simp[Bl.nodes,Bl.levels]at h1 h2;omega
       have HN:=S (X hnm (X hr.res hr.g));clear hnm hlen hg hrow hr;go_wp2;refine bZ (IF rfl _ (HN.1.2.1.set2 _ _) rfl) rfl ⟨by rw[HN.1.1.1,HN.1.1.2],?_⟩;have g:=HN.1.2.2;exact(Af (Af (by assumption) _ _ (.inr (by simp<;>omega))) _ _ (.inr (by simp<;>omega)))
     | bl b next=>
       simp only[Bl.len]at hg hlen;subst hg;have hkI:decide (k<c.len)=true:=by simp;omega
       obtain⟨ba2,bc2,hbv,hnx,g1,o1,e1,_,z1⟩:=RepT.elemB (ok:=λ_=>True) (la:=ba) (λj u hj=>by obtain⟨g,o,e,_,h⟩:=HR.1.2.1 j u hj;exact⟨g,o,e,trivial,h⟩) hrow;subst e1;have hno:=hr.nodes;have hlv:=hr.levels;have hwt:=hr.wt;have hpo:=hr.pos;have hbl:=b.levels_le;simp only[Bl.nodes,Bl.levels,Bl.wt]at hno hlv hwt;have HL:=S (fun(W:World)(gW:wr.grownBy W none)=>HBB.1 b (by omega) (by omega) _ ba2 bc2 W ((hbv.gb hr.g (by simp)).gb gW (by simp)));have HI:=S (fun(W:World)=>Kl n m b.nodes b.levels (by omega) (by omega) (by omega) W);have y1:=Ae hr.g z1;have hgl:=bY _ _ y1;have HK:=S (X hr hnx);have HN2:=S (show SzB (λ_=>True) w s c next ds (k+1) (n+b.nodes) (max m (b.levels+1)) wr->True from λ_=>trivial);have HX9:=S (show c.len=k+1+next.len/\n+b.nodes+next.nodes=1+s.nodes+c.nodes/\max (max m (b.levels+1)) (1+next.levels)=1+max s.levels c.levels/\(1<=max m (b.levels+1)/\1<=n+b.nodes)/\next.wt<=c.wt from⟨by omega,by omega,by omega,by omega,by omega⟩);have hkl:k+1<=c.len:=by omega
       have hws:=hr.g.size;clear hno hlv hwt hpo hbl hbv hnx hrow hr z1 HN2 hlen;go_wp2_with fail;go_region_with(first
        | (go_at_call 86;refine(HL.1 _ ?gg).mono ?_;(case gg=>exact(Ad (Aa _ _)));rintro e w5 ⟨rfl,g5⟩;(have ac5:=(HK.1.1.acc.drewN 1).gb g5 (by simp));(have d0:=ac5.cell' 0 rfl);(have d1:=ac5.cell' 1 rfl);(have df:=λk=>ac5.frozen k);(have dl:=ac5.lt))
        | (go_at_call 167;refine mR (HI.1 _) λw6 g6=>?_;(have ac6:=ac5.gb g6 (by simp));(have m0:=ac6.cell' 0 rfl);(have m1:=ac6.cell' 1 rfl);(have mf:=λk=>ac6.frozen k);(have ml:=ac6.lt)))
       all_goals
        have hre:=((HK.1.1.res.drewN 1).gb g5 (by simp)).gb g6 (by simp);have gg:=Ag (Ag (Ad HK.1.1.g) g5) g6;have HX:=S (X ac6 (X hre gg));clear hre gg;go_wp2;go_roundg next.len
        case measure=>omega
        case rel=>
         exact⟨next,k+1,n+b.nodes,max m (b.levels+1),rfl,by go_num,HX9.1.1,HK.1.2,HX9.1.2.1,HX9.1.2.2.1,HX9.1.2.2.2.1,HX9.1.2.2.2.2,(HX.1.1.set2 _ _),(HX.1.2.1.set_other _ _ (by simp)).set_other _ _ (by simp),Af (Af HX.1.2.2 _ _ (.inr (by simp<;>omega))) _ _ (.inr (by simp<;>omega))⟩
  | cons h' kids next=>
    simp only[Fo.len]at hg;subst hg;have hlen:=hr.len;simp only[Fo.len]at hlen;have hkI:decide (k<f.len)=true:=by simp;omega
    have i0:(0:Int)<=(k:Int):=by omega
    have i1:(k:Int)<(f.len:Int):=by omega
    have hkl2:k+1<=f.len:=by omega
    obtain⟨pv',lv',kcs,rcs,hcs,hp,hl,hkids,hnext⟩:=hr.row;obtain⟨pa',pc',rfl,_⟩:=hp;have hL:RepL (λq=>q<w.heap.size) w1 lv' kids:=⟨kcs,hl,hkids⟩;obtain⟨la2,lc2,rfl,_⟩:=hl;have hat:∀i u,(hdC h' (.slice pa' h'.p.length pc') (.slice la2 kids.len lc2))[i]? =some u->∃g o,ra=some ⟨g,o,none⟩/\wr.cell? ⟨g,o+k*7+i,none⟩=some u:=by
     intro i u hu;have:cs[k*7+i]? =(cs.drop (k*7))[i]?:=by simp
     obtain⟨g,o,e,hg1,hc1⟩:=HO.1 (k*7+i) u (by rw[this,hcs,List.getElem?_append_left (by have:=(List.getElem?_eq_some_iff.1 hu).1;exact this)];exact hu);have hg2:(stW w (sdC s (.slice pa s.p.length pc) (.slice xa s.x.len xc) (.slice ba c.len bc) (.slice na s.n.len nc) (.slice fa s.f.len fc) (.slice wa s.w.len wc)) (.slice xa s.x.len xc) (.slice na s.n.len nc) (.slice fa s.f.len fc) (.slice wa s.w.len wc)).heap.size<=g:=hg1;refine⟨g,o,e,?_⟩;rw[Nat.add_assoc];exact B9 hr.gv hc1 (by simp at hg2;simp;omega)
    obtain⟨G,O,rfl,z0⟩:=hat 0 _ rfl;obtain⟨_,_,e1,z1⟩:=hat 1 _ rfl;cases e1;obtain⟨_,_,e1,z2⟩:=hat 2 _ rfl;cases e1;obtain⟨_,_,e1,z3⟩:=hat 3 _ rfl;cases e1;obtain⟨_,_,e1,z4⟩:=hat 4 _ rfl;cases e1;obtain⟨_,_,e1,z5⟩:=hat 5 _ rfl;cases e1;obtain⟨_,_,e1,z6⟩:=hat 6 _ rfl;cases e1;simp only[Nat.add_zero]at z0;have hgl:=bY wr _ z0;clear hat;have hno:=hr.nodes;simp only[Fo.nodes]at hno;have hmo:=hr.levels;simp only[Fo.levels]at hmo;have hkl:=kids.len_nodes;have hpo:=hr.pos;have hfll:=f.len_nodes;have HL:=S (fun(W:World)(gW:wr.grownBy W none)=>Og (kids.nodes+1) kids (by omega) (by omega) (λq=>q<w.heap.size) h' pa' h'.p.length pc' la2 lc2 W ((hL.gb hr.gv (by intro q hq _ e;cases e;omega)).gb gW (by simp)));have HI:=S (fun(W:World)=>Kl n m (1+kids.nodes) (1+kids.levels) (by omega) (by omega) (by omega) W);have HK:=S hr;clear hL hnext hkids hcs hr hno hmo hlen hpo;have hy:=Blk.new wr (hdC h' (.slice pa' h'.p.length pc') (.slice la2 kids.len lc2)) 163;have hac:=HK.1.acc.alloc (.cells (hdC h' (.slice pa' h'.p.length pc') (.slice la2 kids.len lc2)).toArray 163 (0,0));have HY:=S (X hy hac);clear hy hac;have hws:=HK.1.g.size;go_wp2_with fail;go_region_with(first
     | (go_at_call 158;refine(HL.1 _ ?gg).mono ?_;(case gg=>exact(by repeat(first| (with_reducible exact Aa _ _)| (with_reducible refine Ac ?_ _)| (with_reducible refine Ad ?_))));rintro e w5 ⟨rfl,g5⟩;(have y5:=(HY.1.1.drewN 1).gb g5 (by simp));(have ac5:=(HY.1.2.drewN 1).gb g5 (by simp));(have b0:=y5.cell 0);(have b1:=y5.cell 1);(have b2:=y5.cell 2);(have b3:=y5.cell 3);(have b4:=y5.cell 4);(have b5:=y5.cell 5);(have b6:=y5.cell 6);(have d0:=ac5.cell' 0 rfl);(have d1:=ac5.cell' 1 rfl);(have df:=λk=>ac5.frozen k);(have dl:=ac5.lt);(simp only[hdC,List.getElem?_cons_zero,List.getElem?_cons_succ]at b0 b1 b2 b3 b4 b5 b6 d0 d1))
     | (go_at_call 167;refine mR (HI.1 _) λw6 g6=>?_;(have ac6:=ac5.gb g6 (by simp));(have m0:=ac6.cell' 0 rfl);(have m1:=ac6.cell' 1 rfl);(have mf:=λk=>ac6.frozen k);(have ml:=ac6.lt)))
    all_goals
     have hre:=((((HK.1.res.alloc (.cells (hdC h' (.slice pa' h'.p.length pc') (.slice la2 kids.len lc2)).toArray 163 (0,0))).drewN 1).gb g5 (by simp)).gb g6 (by simp));have gg:=Ag (Ag (Ad (Ac HK.1.g (.cells (hdC h' (.slice pa' h'.p.length pc') (.slice la2 kids.len lc2)).toArray 163 (0,0)))) g5) g6;have hst6:=(((HK.1.st.alloc (.cells (hdC h' (.slice pa' h'.p.length pc') (.slice la2 kids.len lc2)).toArray 163 (0,0))).drewN 1).gb g5 (by simp)).gb g6 (by simp);have gv6:=Ag (Ag (Ad (Ac HK.1.gv (.cells (hdC h' (.slice pa' h'.p.length pc') (.slice la2 kids.len lc2)).toArray 163 (0,0)))) g5) g6;have HX:=S (X ac6 (X hre (X gg (X hst6 gv6))));clear hre gg hst6 gv6;go_wp2;go_roundg next.len
     case measure=>omega
     case rel=>
      refine⟨next,k+1,n+(1+kids.nodes),max m (1+kids.levels+1),rfl,by go_num,HK.1.next ((HX.1.2.2.2.1.set_other _ _ (by simp<;>omega)).set_other _ _ (by simp<;>omega)) ((HX.1.1.set2 _ _).of_eq (by omega) (by push_cast;rfl)) ((HX.1.2.1.set_other _ _ (by simp)).set_other _ _ (by simp)) (Af (Af HX.1.2.2.1 _ _ (.inr (by simp;omega))) _ _ (.inr (by simp;omega))) (Af (Af HX.1.2.2.2.2 _ _ (.inl rfl)) _ _ (.inl rfl))⟩
def Zm:∀N,OfB N:=by
 intro N;induction N with
 |zero=>intro f h;omega
 | succ N ih=>
   intro f hw hn ok la lc w hf;obtain⟨cs,hc1,hr1⟩:=hf;obtain⟨_,_,e,hle,hmx,_,hc1⟩:=hc1;cases e;have hmax:f.len<=maxLen:=by omega
   unfold maxLen at hmax;clear hle hmx;have HC:=S hc1;have HR:=S hr1;have HI0:=S ih;have hfl:=f.levels_le;have HA:=S (Acc1.start w);clear hc1 hr1 ih;go_enter func86,ntmps86;go_wp2_with fail;go_loopg [8] f.len (λg v8 wr=>∃rest:Bl,∃k n m:Nat,rest.len=g/\f.len=k+rest.len/\v8= .int .i64 k/\n+rest.nodes=f.nodes/\max m rest.levels=f.levels/\rest.wt<=f.wt/\RepT ok w rest false (cs.drop (k*10))/\Acc1 w n m wr)
   case atStart=>exact⟨f,0,0,0,rfl,by simp,rfl,by omega,by omega,nR _,by simpa using HR.1,HA.1⟩
   case round=>
    obtain⟨rest,k,n,m,hg,hk,rfl,hno,hlv,hwt,hrow,hA⟩:=hrel;clear HR HA;have a0:=hA.acc.cell' 0 rfl;have a1:=hA.acc.cell' 1 rfl;have r0:=hA.res.cell' 0 rfl;have r1:=hA.res.cell' 1 rfl;have rf:=λk=>hA.res.frozen k;have rl:=hA.res.lt;have af:=λk=>hA.acc.frozen k;have al:=hA.acc.lt;cases rest with
    |bl _ _=>exact hrow.elim
    | nil=>
      have hkI:decide (k<f.len)=false:=by simp[Bl.len]at hk;simp;omega
      have HG:=S (X hA (show n=f.nodes/\m=f.levels by simp[Bl.nodes,Bl.levels]at hno hlv;omega));clear hA hk hg hrow hno hlv hwt;go_wp2;refine bZ (IF rfl _ (HG.1.1.res.set2 _ _) rfl) rfl ⟨by rw[HG.1.2.1,HG.1.2.2],?_⟩;have g:=HG.1.1.g;exact(Af (Af (by assumption) _ _ (.inr (nR _))) _ _ (.inr (nR _)))
    | st s c next=>
      simp only[Bl.len]at hg hk;subst hg;have hkI:decide (k<f.len)=true:=by simp;omega
      have i0:(0:Int)<=(k:Int):=by omega
      have i1:(k:Int)<(f.len:Int):=by omega
      have hkl:k+1<=f.len:=by omega
      obtain⟨pa,xa,na,fa,wa,ba,pc,xc,nc,fc,wc,bc,h1,h2,hnx,hat⟩:=RepT.elem (k:=k) HC.1 hrow;simp only[Bl.nodes,Bl.levels,Bl.wt]at hno hlv hwt;have hsl:=s.levels_le;have hcl:=c.levels_le;have HL:=S (fun(W:World)(gW:wr.grownBy W none)=>SB HI0.1 (h1.gb (Z hA.g gW) (by simp)) (h2.gb (Z hA.g gW) (by simp)) (by omega) (by omega));have HI:=S (fun(W:World)=>LE n m (1+s.nodes+c.nodes) (1+max s.levels c.levels) (by omega) (by omega) (by omega) W);have HN:=S (X hnx (show f.len=k+1+next.len/\n+(1+s.nodes+c.nodes)+next.nodes=f.nodes/\max (max m (1+max s.levels c.levels)) next.levels=f.levels/\next.wt<=f.wt from⟨by omega,by omega,by omega,by omega⟩));obtain⟨g1,o1,rfl,_,z0⟩:=hat 0 _ rfl;obtain⟨_,_,e1,_,z1⟩:=hat 1 _ rfl;cases e1;obtain⟨_,_,e1,_,z2⟩:=hat 2 _ rfl;cases e1;obtain⟨_,_,e1,_,z3⟩:=hat 3 _ rfl;cases e1;obtain⟨_,_,e1,_,z4⟩:=hat 4 _ rfl;cases e1;obtain⟨_,_,e1,_,z5⟩:=hat 5 _ rfl;cases e1;obtain⟨_,_,e1,_,z6⟩:=hat 6 _ rfl;cases e1;obtain⟨_,_,e1,_,z7⟩:=hat 7 _ rfl;cases e1;obtain⟨_,_,e1,_,z8⟩:=hat 8 _ rfl;cases e1;obtain⟨_,_,e1,_,z9⟩:=hat 9 _ rfl;cases e1;rw[<-Nat.add_assoc]at z0 z1 z2 z3 z4 z5 z6 z7 z8 z9;replace z0:=Ae hA.g z0;replace z1:=Ae hA.g z1;replace z2:=Ae hA.g z2;replace z3:=Ae hA.g z3;replace z4:=Ae hA.g z4;replace z5:=Ae hA.g z5;replace z6:=Ae hA.g z6;replace z7:=Ae hA.g z7;replace z8:=Ae hA.g z8;replace z9:=Ae hA.g z9;simp only[Nat.add_zero]at z0;have hgl:=bY wr _ z0;have HG:=S hA
      have hy:=Blk.new wr (sdC s (.slice pa s.p.length pc) (.slice xa s.x.len xc) (.slice ba c.len bc) (.slice na s.n.len nc) (.slice fa s.f.len fc) (.slice wa s.w.len wc)) 134;have hac:=HG.1.acc.alloc (.cells (sdC s (.slice pa s.p.length pc) (.slice xa s.x.len xc) (.slice ba c.len bc) (.slice na s.n.len nc) (.slice fa s.f.len fc) (.slice wa s.w.len wc)).toArray 134 (0,0));have HY:=S (X hy hac);have hws:=HG.1.g.size;have q_:=hy.c10;clear hat hy hac hA h1 h2 hnx hrow hk hno hlv hwt hsl hcl;simp only[sdC]at HY HL ⊢;go_wp2_with fail;go_region_with(first
       | (go_at_call 120;refine(HL.1 _ ?gg).mono ?_;(case gg=>exact(by repeat(first| (with_reducible exact Aa _ _)| (with_reducible refine Ac ?_ _)| (with_reducible refine Ad ?_))));rintro e w5 ⟨rfl,g5⟩;(have y5:=(HY.1.1.drewN 1).gb g5 (by simp));(have ac5:=(HY.1.2.drewN 1).gb g5 (by simp));have b_:=y5.c10;(have d0:=ac5.cell' 0 rfl);(have d1:=ac5.cell' 1 rfl);(have df:=λk=>ac5.frozen k);(have dl:=ac5.lt))
       | (go_at_call 85;refine mR (HI.1 _) λw6 g6=>?_;(have ac6:=ac5.gb g6 (by simp));(have m0:=ac6.cell' 0 rfl);(have m1:=ac6.cell' 1 rfl);(have mf:=λk=>ac6.frozen k);(have ml:=ac6.lt)))
      all_goals
       have hre:=((((HG.1.res.alloc (.cells (sdC s (.slice pa s.p.length pc) (.slice xa s.x.len xc) (.slice ba c.len bc) (.slice na s.n.len nc) (.slice fa s.f.len fc) (.slice wa s.w.len wc)).toArray 134 (0,0))).drewN 1).gb g5 (by simp)).gb g6 (by simp));have gg:=Ag (Ag (Ad (Ac HG.1.g (.cells (sdC s (.slice pa s.p.length pc) (.slice xa s.x.len xc) (.slice ba c.len bc) (.slice na s.n.len nc) (.slice fa s.f.len fc) (.slice wa s.w.len wc)).toArray 134 (0,0)))) g5) g6;have HX:=S (X ac6 (X hre gg));clear hre gg;go_wp2;go_roundg next.len
       case measure=>omega
       case rel=>exact⟨next,k+1,_,_,rfl,HN.1.2.1,by go_num,HN.1.2.2.1,HN.1.2.2.2.1,HN.1.2.2.2.2,HN.1.1,(HX.1.2.1.set_other _ _ (by simp)).set_other _ _ (by simp),HX.1.1.set2 _ _,Af (Af HX.1.2.2 _ _ (.inr (by simp<;>omega))) _ _ (.inr (by simp<;>omega))⟩
def R9:∀l:List Bl,DA l<=Jo l:=by
 intro l;induction l with
 |nil=>exact nR _
 | cons a r ih=>
   have:=a.levels_le;show max a.levels (DA r)<=a.nodes+Jo r;omega
def RK{la:Option Addr}{lc:Nat}{l:List Pd}(hf:RepQ ok w (.slice la l.length lc) l)(hn:Da l<=1000000):
 Calls Tryz.prog 59 #[.slice la l.length lc] w (ρ w (szV (Da l:Int) (DA (l.map Pd.body):Int))):=by
 obtain⟨cs,hc1,hr1⟩:=hf;obtain⟨_,_,e,hle,hmx,_,hc1⟩:=hc1;cases e;have hmax:l.length<=maxLen:=by omega
 unfold maxLen at hmax;clear hle hmx;have HC:=S hc1;have HR:=S hr1;have hfl:DA (l.map Pd.body)<=Da l:=R9 _;have HA:=S (Acc1.start w);clear hc1 hr1;generalize hNN:Da l=NN at*;generalize hLL:DA (l.map Pd.body)=LL at*;have HNL:=S (X hNN hLL);clear hNN hLL;go_enter func59,ntmps59;go_wp2_with fail;go_loopg [8] l.length (λg v8 wr=>∃rest:List Pd,∃k n m:Nat,rest.length=g/\l.length=k+rest.length/\v8= .int .i64 k/\n+Da rest=NN/\max m (DA (rest.map Pd.body))=LL/\RepP ok w rest (cs.drop (k*4))/\Acc1 w n m wr)
 case atStart=>exact⟨l,0,0,0,rfl,by simp,rfl,by rw[HNL.1.1];omega,by rw[HNL.1.2];omega,by simpa using HR.1,HA.1⟩
 case round=>
  obtain⟨rest,k,n,m,hg,hk,rfl,hno,hlv,hrow,hA⟩:=hrel;clear HR HA;have a0:=hA.acc.cell' 0 rfl;have a1:=hA.acc.cell' 1 rfl;have r0:=hA.res.cell' 0 rfl;have r1:=hA.res.cell' 1 rfl;have rf:=λk=>hA.res.frozen k;have rl:=hA.res.lt;have af:=λk=>hA.acc.frozen k;have al:=hA.acc.lt;cases rest with
  | nil=>
    have hkI:decide (k<l.length)=false:=by simp at hk;simp;omega
    have HG:=S (X hA (show n=NN/\m=LL by simp[Da,Jo,DA]at hno hlv;omega));clear hA hk hg hrow hno hlv;go_wp2;refine bZ (IF rfl _ (HG.1.1.res.set2 _ _) rfl) rfl ⟨by rw[HG.1.2.1,HG.1.2.2],?_⟩;have g:=HG.1.1.g;exact(Af (Af (by assumption) _ _ (.inr (nR _))) _ _ (.inr (nR _)))
  | cons p next=>
    simp only[List.length_cons]at hg hk;subst hg;have hkI:decide (k<l.length)=true:=by simp;omega
    have i0:(0:Int)<=(k:Int):=by omega
    have i1:(k:Int)<(l.length:Int):=by omega
    have hkl:k+1<=l.length:=by omega
    obtain⟨pa,ba,pc,bc,_,h2,hnx,hat⟩:=RepP.elem (k:=k) HC.1 hrow;rw[Pi]at hno;have hlv:max m (max p.body.levels (DA (next.map Pd.body)))=LL:=hlv;have hcl:=p.body.levels_le;have HL:=S (fun(W:World)(gW:wr.grownBy W none)=>Zm (p.body.wt+1) p.body (Nat.lt_succ_self _) (by omega) ok ba bc W (h2.gb (Z hA.g gW) (by simp)));have HI:=S (fun(W:World)=>LE n m p.body.nodes p.body.levels (by omega) (by omega) (by omega) W);have HN:=S (X hnx (show l.length=k+1+next.length/\n+p.body.nodes+Da next=NN/\max (max m p.body.levels) (DA (next.map Pd.body))=LL from⟨by omega,by omega,by omega⟩));obtain⟨g1,o1,rfl,_,z0⟩:=hat 0 _ rfl;obtain⟨_,_,e1,_,z1⟩:=hat 1 _ rfl;cases e1;obtain⟨_,_,e1,_,z2⟩:=hat 2 _ rfl;cases e1;obtain⟨_,_,e1,_,z3⟩:=hat 3 _ rfl;cases e1;rw[<-Nat.add_assoc]at z0 z1 z2 z3;replace z0:=Ae hA.g z0;replace z1:=Ae hA.g z1;replace z2:=Ae hA.g z2;replace z3:=Ae hA.g z3;simp only[Nat.add_zero]at z0;have hgl:=bY wr _ z0;have HG:=S hA;have hy:=Blk.new wr (pdC p (.slice pa p.p.length pc) (.slice ba p.body.len bc)) 40;have hac:=HG.1.acc.alloc (.cells (pdC p (.slice pa p.p.length pc) (.slice ba p.body.len bc)).toArray 40 (0,0));have HY:=S (X hy hac);have hws:=HG.1.g.size;have q0:=hy.cell' 0 rfl;have q1:=hy.cell' 1 rfl;have q2:=hy.cell' 2 rfl;have q3:=hy.cell' 3 rfl;have hyl:=hy.lt;clear hat hy hac hA h2 hnx hrow hk hno hlv hcl;simp only[pdC]at HY ⊢;go_wp2_with fail;go_region_with(first
     | (go_at_call 86;refine(HL.1 _ ?gg).mono ?_;(case gg=>exact(by repeat(first| (with_reducible exact Aa _ _)| (with_reducible refine Ac ?_ _)| (with_reducible refine Ad ?_))));rintro e w5 ⟨rfl,g5⟩;(have y5:=(HY.1.1.drewN 1).gb g5 (by simp));(have ac5:=(HY.1.2.drewN 1).gb g5 (by simp));(have b0:=y5.cell' 0 rfl);(have b1:=y5.cell' 1 rfl);(have b2:=y5.cell' 2 rfl);(have b3:=y5.cell' 3 rfl);(have d0:=ac5.cell' 0 rfl);(have d1:=ac5.cell' 1 rfl);(have df:=λk=>ac5.frozen k);(have dl:=ac5.lt))
     | (go_at_call 85;refine mR (HI.1 _) λw6 g6=>?_;(have ac6:=ac5.gb g6 (by simp));(have m0:=ac6.cell' 0 rfl);(have m1:=ac6.cell' 1 rfl);(have mf:=λk=>ac6.frozen k);(have ml:=ac6.lt)))
    all_goals
     have hre:=((((HG.1.res.alloc (.cells (pdC p (.slice pa p.p.length pc) (.slice ba p.body.len bc)).toArray 40 (0,0))).drewN 1).gb g5 (by simp)).gb g6 (by simp));have gg:=Ag (Ag (Ad (Ac HG.1.g (.cells (pdC p (.slice pa p.p.length pc) (.slice ba p.body.len bc)).toArray 40 (0,0)))) g5) g6;have HX:=S (X ac6 (X hre gg));clear hre gg;go_wp2;go_roundg next.length
     case measure=>omega
     case rel=>exact⟨next,k+1,_,_,rfl,HN.1.2.1,by go_num,HN.1.2.2.1,HN.1.2.2.2,HN.1.1,(HX.1.2.1.set_other _ _ (by simp)).set_other _ _ (by simp),HX.1.1.set2 _ _,Af (Af HX.1.2.2 _ _ (.inr (by simp<;>omega))) _ _ (.inr (by simp<;>omega))⟩
end Go.Proofs.YtbjfaimkiclhgaaGreatDoor
