/-
  QsB RsE KsA KsB KsD KgA StE PgQ StF StG Grow Conc RlH RsF RsH WrT TxM Code: what the reference's reader knows of a text at each of its steps.
-/
import Derived.Test.YtbjfaimkiclhgaaGreatDoorCt10
import Derived.Test.YtbjfaimkiclhgaaGreatDoorCt09
import Derived.Test.YtbjfaimkiclhgaaGreatDoorCt03
import Derived.Test.YtbjfaimkiclhgaaGreatDoorCt02
import Derived.Test.YtbjfaimkiclhgaaGreatDoorCt04
import Derived.Test.YtbjfaimkiclhgaaGreatDoorPlain
import Derived.Shelf.Spec.SlicesGrow
import Derived.Laws.AppendOwnNone
import Derived.Test.YtbjfaimkiclhgaaGreatDoorCt05
import Derived.Test.YtbjfaimkiclhgaaGreatDoorCt07
import Derived.Test.YtbjfaimkiclhgaaGreatDoorCt08
set_option linter.all false
set_option maxRecDepth 100000
set_option maxHeartbeats 8000000
namespace Go.Proofs.YtbjfaimkiclhgaaGreatDoor
open Go.Proofs.Tryz
open Go.RowKit
namespace Rd
variable {l:List Tok}{α β:Type}{q:α->Rd l β}{i:Nat}
def bind_f{p:Rd l α}:(p.bind q).f i=(p.f i).bind λx j=>(q x).f j:=rfl
def pure_f(a:α)(i:Nat):(pure a:Rd l α).f i= .ok a i:=rfl
def bad_f(a:α)(i:Nat):(bad a:Rd l α).f i= .bad i:=rfl
def skip_f{q:Unit->Rd l β}:(skip.bind q).f i=(q ()).f (i+1):=rfl
def fin_f{q:Unit->Rd l β}:(fin.bind q).f i=(B4 l i).bind λ_ j=>(q ()).f j:=rfl
def want_f{q:Unit->Rd l β}(s:Bs):((want s).bind q).f i=(AW l s i).bind λ_ j=>(q ()).f j:=rfl
def name_f(hn:Aj l){q:Bs->Rd l β}:((name hn).bind q).f i=(AD l i).bind λs j=>(q s).f j:=rfl
def name_f0(hn:Aj l):(name hn).f i=AD l i:=rfl
def ifs_f(s:Bs)(p q:Rd l α):(ifs s p q).f i=if Ah (Ab l i) s then p.f (i+1)else q.f i:=rfl
def ifw_f(W:List Bs)(s:Bs)(p q:Rd l α):(ifw W s p q).f i=if Ar l W i==s then p.f (i+1)else q.f i:=rfl
def here_f(W:List Bs){q:Bs->Rd l β}:((here W).bind q).f i=(q (Ar l W i)).f i:=rfl
def cond_f(c:Nat->Bool)(p q:Rd l α):(cond c p q).f i=if c i then p.f i else q.f i:=rfl
def condW_f(c:Nat->Bool)(p q:Rd l α):(condW c p q).f i=if c i then p.f i else q.f i:=rfl
def condN_f(c:Nat->Bool)(p q:Rd l α):(Hx c p q).f i=if c i then p.f i else q.f i:=rfl
def moreW_f{W:List Bs}{s:Bs}{step:β->Rd l β}{m:Nat}{a:β}:(moreW W s step (m+1) a).f i=if Ar l W i==s then((step a).bind (moreW W s step m)).f (i+1)else .ok a i:=rfl
def moreS_f{s:Bs}{step:β->Rd l β}{m:Nat}{a:β}:(moreS s step (m+1) a).f i=if Ah (Ab l i) s then((step a).bind (moreS s step m)).f (i+1)else .ok a i:=rfl
end Rd
variable{l:List Tok}{α β:Type}{i m b k L c cc B e size n pc lc j cap d:Nat}{W p wl:List Bs}{s y:Bs}{w wr w1:World}{tv wv v pv xv bv nv fv pv' xv' bv' nv' fv' wv' v' c4:Value}{ok ok' okx:Nat->Prop}{f:Fo}{st:RS}{cs xs ds z:List Value}{h:Hd}{g g':Bl}{o:Int}{h':Sd}{ca pa la:Option Addr}{t:Nat->Bool}{ks:List (Hd×Bs)}
def GI(l:List Tok)(W:List Bs)(s:Bs)(i:Nat):Res Unit:=if Ar l W i==s then .ok () (i+1)else .bad i
def Rd.must_f{q:Unit->Rd l β}(W:List Bs)(s:Bs):((must W s).bind q).f i=(GI l W s i).bind λ_ j=>(q ()).f j:=rfl
def Lu(s:Bs):I7 s=endWords.contains s:=by
 unfold I7;rw[LQ];rfl
def Fc(h:Par w b tv wv l wordsL i)(hok:∀i,As (Ab l i))(j:Nat):
 Calls Tryz.prog 276 #[.pointer (some ⟨b,0,none⟩),AR (Ab l j)] w (ρ w (str (Ar l wordsL j))):=by
 have hO:=hok j;unfold Ar;generalize Ab l j=t at*;by_cases hk:t.kind=0
 ·have hk':(t.kind==0)=true:=by simpa using hk
  have HU:=S (fun(W:World)(wv:Value)(ok:Nat->Prop)(hS:SRow W wv wordsL ok)=>QC hS t.text hO.short (Xb (hO.word hk).2) (by decide));rw[hk',if_pos rfl,AR,hk];have hp:=h.alloc (.cells #[.int .i64 0,.int .i64 t.pos,str t.text] 250 (0,0));have hT:=Blk.new w [.int .i64 0,.int .i64 t.pos,str t.text] 250;have t0:=hT.cell' 0 rfl;have t2:=hT.cell' 2 rfl;have tl:=hT.lt;have hb:=hp.lt;have c2:=hp.c2;have HS:=S hp.words;have gA:=S (gZ w (.cells #[.int .i64 0,.int .i64 t.pos,str t.text] 250 (0,0)) none);clear hO hk' hp hT h hok;generalize hwl:wordsL=L at*;clear hwl;go_enter func276,ntmps276;go_wp2_with fail;go_region_with(go_at_call 177;refine(HU.1 _ _ _ (HS.1.gb (Ae (Aa _ none)) (by simp))).mono ?_;rintro e w6 ⟨⟨f,rfl,hf⟩,g6⟩;(have HF:=S hf);clear hf);all_goals
   have HE:=S (Z (Ae gA.1) g6);clear g6;go_wp2;go_ret;exact⟨rfl,HE.1⟩
 ·have hk':(t.kind==0)=false:=by simpa using hk
  have hk1:(t.kind !=0)=true:=by simp[hk]
  have hT:=Blk.new w [.int .i64 t.kind,.int .i64 t.pos,str t.text] 250;have t0:=hT.cell' 0 rfl;have tl:=hT.lt;have gA:=S (gZ w (.cells #[.int .i64 t.kind,.int .i64 t.pos,str t.text] 250 (0,0)) none);rw[hk',if_neg (by simp),AR];clear hO hT h hok hk';go_enter func276,ntmps276;go_wp2;go_ret;exact⟨rfl,gA.1⟩
def TA(h:Ar l W i=s)(hs:s≠[]):i<l.length:=by
 apply Fj;intro e;apply hs;rw[<-h];unfold Ar;rw[e];rfl
def Di(h:Par w b tv wv l wordsL i)(hok:∀i,As (Ab l i))(s:Bs)(hs:s≠[])(hw:(Ar l wordsL i==s)=true):
 Calls Tryz.prog 245 #[.pointer (some ⟨b,0,none⟩),str s] w λe w'=>e= .returned (.bool true)/\Par w' b tv wv l wordsL (i+1)/\w.grownBy w' (some b):=by
 have hw':Ar l wordsL i=s:=by simpa using hw
 have hi:=TA hw' hs;have HK:=S hw';have hf:=h.few;have hb:(s !=s)=false:=by simp
 have HF:=S (fun(W:World)(g:w.grownBy W none)=>Fc (h.gbN g) hok i);clear hw hw';go_enter func245,ntmps245;go_wp2_with fail;refine mR (Bn h) λw1 g1=>?_;go_wp2_with fail;refine mR (HF.1 _ g1) λw2 g2=>?_;rw[HK.1];have h2:=(h.gbN g1).gbN g2;have c1:=h2.c1;have f1:=h2.f1;go_wp2;go_ret;exact⟨rfl,h2.goI _ _ (by omega) (by omega),(by repeat(first| (with_reducible exact A2 (by assumption))| ((with_reducible refine Af ?_ _ _ ?h2);case h2=>exact .inl rfl)| (with_reducible refine Ag ?_ (by assumption))))⟩
def Df(h:Par w b tv wv l wordsL i)(hok:∀i,As (Ab l i))(s:Bs)(hw:(Ar l wordsL i==s)=false):
 Calls Tryz.prog 245 #[.pointer (some ⟨b,0,none⟩),str s] w (ρ w (.bool false)):=by
 have hb:(Ar l wordsL i !=s)=true:=by simp[bne,hw]
 have HF:=S (fun(W:World)(g:w.grownBy W none)=>Fc (h.gbN g) hok i);go_enter func245,ntmps245;go_wp2_with fail;refine mR (Bn h) λw1 g1=>?_;go_wp2_with fail;refine mR (HF.1 _ g1) λw2 g2=>?_;go_wp2;go_ret;exact⟨rfl,Z g1 g2⟩
def BJ(h:Par w b tv wv l wordsL i)(hok:∀i,As (Ab l i))(s:Bs)(hs:s≠[]):
 Calls Tryz.prog 246 #[.pointer (some ⟨b,0,none⟩),str s] w (Post b tv wv l wordsL w (λ_ v _=>v= .tuple #[]) (GI l wordsL s i)):=by
 unfold GI;cases hw:Ar l wordsL i==s with
 | true=>
   rw[if_pos rfl];have HW:=S (Di h hok s hs hw);clear hw;go_enter func246,ntmps246;go_wp2_with fail;refine HW.1.mono ?_;rintro e w1 ⟨rfl,h1,g1⟩;go_wp2;go_end0;exact⟨g1,_,rfl,rfl,h1⟩
 | false=>
   rw[if_neg (by simp)];have HW:=S (Df h hok s hw);clear hw;go_enter func246,ntmps246;go_wp2_with fail;refine mR HW.1 λw1 g1=>?_;have c1:=(h.gbN g1).c1;go_wp2_with fail;refine(DQ c1).mono ?_;rintro e w2 ⟨rfl,rfl⟩;exact⟨rfl,A2 g1,rfl⟩
abbrev setSigns:List Bs:=[[61],[58,61],[91],[45,62]]
def Q9(l:List Tok)(W:List Bs)(i:Nat):Bv l W i=if setSigns.any (λs=>Ah (Ab l (i+1)) s)then []else Ar l W i:=by
 unfold Bv setSigns;simp only[List.any_cons,List.any_nil,Bool.or_false,Bool.or_assoc]
def FN(h:Par w b tv wv l wordsL i)(hok:∀i,As (Ab l i)):
 Calls Tryz.prog 274 #[.pointer (some ⟨b,0,none⟩)] w (ρ w (str (Bv l wordsL i))):=by
 have HF:=S (fun(W:World)(g:w.grownBy W none)=>Fc (h.gbN g) hok i);have HA:=S (fun(W:World)(g:w.grownBy W none)=>Bn (h.gbN g));rw[Q9];generalize hK:(if setSigns.any (λs=>Ah (Ab l (i+1)) s)then []else Ar l wordsL i)=K;have HK:=S hK;clear hK;go_enter func274,ntmps274;go_wp2_with fail;refine mR (Hs h) λw1 g=>?_;generalize htk:Ab l (i+1)=t at*;have hTk:=(Blk.new w1 [.int .i64 t.kind,.int .i64 t.pos,str t.text] 250).alloc (.cells (setSigns.map str).toArray 9 (0,0));have hSg:Blk ((w1.alloc (.cells #[.int .i64 t.kind,.int .i64 t.pos,str t.text] 250 (0,0))).alloc (.cells (setSigns.map str).toArray 9 (0,0))) (w1.heap.size+1) (setSigns.map str) 9:=(Blk.new (w1.alloc (.cells #[.int .i64 t.kind,.int .i64 t.pos,str t.text] 250 (0,0))) (setSigns.map str) 9).of_eq (by simp) rfl;have gA:=Ac (Ac g (.cells #[.int .i64 t.kind,.int .i64 t.pos,str t.text] 250 (0,0))) (.cells (setSigns.map str).toArray 9 (0,0));have HT:=S (X hTk (X hSg gA));clear hTk hSg gA g htk;go_wp2_with fail;go_loopg [10] 4 (λg v10 wr=>∃k:Nat,k+g=4/\v10= .int .i64 k/\w.grownBy wr none/\Blk wr w1.heap.size [.int .i64 t.kind,.int .i64 t.pos,str t.text] 250/\Blk wr (w1.heap.size+1) (setSigns.map str) 9/\Hid (∀j,j<k->Ah t (setSigns.getD j [])=false))
 case atStart=>exact⟨0,by omega,rfl,HT.1.2.2,HT.1.1,HT.1.2.1,S (λj hj=>absurd hj (Nat.not_lt_zero j))⟩
 case round=>
  obtain⟨k,hk,rfl,hgr,hTk,hSg,hno⟩:=hrel;clear HT;cases gk with
  | zero=>
    have hk4:k=4:=by omega
    subst hk4;have HN:=S (show K=Ar l wordsL i by
     rw[<-HK.1,if_neg];simp only[setSigns,List.any_cons,List.any_nil,Bool.or_false];rw[show Ah t [61]=false from hno.out 0 (by omega),show Ah t [58,61]=false from hno.out 1 (by omega),show Ah t [91]=false from hno.out 2 (by omega),show Ah t [45,62]=false from hno.out 3 (by omega)];simp)
    clear hno hTk hSg;go_wp2_with fail;refine mR (HA.1 _ hgr) λw2 g2=>?_;have gr2:=Z hgr g2;clear hgr g2;go_wp2_with fail;refine mR (HF.1 _ gr2) λw3 g3=>?_;have gr3:=Z gr2 g3;clear gr2 g3;go_wp2;go_ret;exact⟨by rw[HN.1];rfl,gr3⟩
  | succ gk=>
    have hk4:k<4:=by omega
    have hj1:decide (k<4)=true:=by simpa using hk4
    have i0:(0:Int)<=(k:Int):=by omega
    have i2:(k:Int)<4:=by omega
    have ck:wr.cell? ⟨w1.heap.size+1,k,none⟩=some (str (setSigns.getD k [])):=hSg.cell' k (by
     have:k=0\/k=1\/k=2\/k=3:=by omega
     rcases this with rfl|rfl|rfl|rfl<;>rfl)
    have t0:=hTk.cell' 0 rfl;have t1:=hTk.cell' 1 rfl;have t2:=hTk.cell' 2 rfl;have tl:=hTk.lt;have sl:=hSg.lt;have HB:=S (X hgr (X hTk hSg));generalize hsk:setSigns.getD k []=s at*;clear hgr hTk hSg;go_wp2_with fail;refine mR (EY _ _ _ s _) λw2 g2=>?_;have gr2:=Z HB.1.1 g2;cases hq:t.kind==4&&t.text==s with
    | true=>
      have HN:=S (show K=[]by
       rw[<-HK.1,if_pos];have hs:Ah t s=true:=hq;rw[List.any_eq_true];refine⟨s,?_,hs⟩;rw[<-hsk];have:k=0\/k=1\/k=2\/k=3:=by omega
       rcases this with rfl|rfl|rfl|rfl<;>simp[setSigns])
      clear hq hno hsk;go_wp2;go_ret;exact⟨by rw[HN.1];rfl,gr2⟩
    | false=>
      have HN:=S (show ∀j,j<k+1->Ah t (setSigns.getD j [])=false from λj hj=>by
       by_cases e:j=k
       ·subst e;rw[hsk];exact hq
       ·exact hno.out j (by omega))
      have HB2:=S (X gr2 (X (HB.1.2.1.gb g2 (by simp)) (HB.1.2.2.gb g2 (by simp))));clear hq hno hsk gr2 g2 HB;go_wp2;go_roundg gk
      case measure=>omega
      case rel=>exact⟨k+1,by omega,by go_num,HB2.1.1,HB2.1.2.1,HB2.1.2.2,HN⟩
def YJ(w:World):Calls Tryz.prog 348 #[] w (ρ w (exV (A6 2 1 []).h (.slice none 0 0) (.slice none 0 0))):=by
 have hz:=Blk.new w zeroE 163;have gz:=gZ w (.cells zeroE.toArray 163 (0,0)) none;go_enter func348,ntmps348;go_wp2_with fail;refine mR (Mt _ _) λw1 g1=>?_;have hz1:=hz.gb g1 (by simp);have hlt:=hz1.lt;have cz_:=hz1.c7;have HZ:=S (X hz1 (Z gz g1));clear hz gz g1 hz1;go_wp2;exact bZ (AK (hd:=(A6 2 1 []).h) (pv:= .slice none 0 0) (lv:= .slice none 0 0) rfl _ (HZ.1.1.set7 _ _ _ _ _ _ _) rfl) rfl ⟨rfl,Ap HZ.1.2 (A0 w1 w.heap.size _ _ _ _ _ _ _) (.inr (nR _))⟩
def D0(l:List Tok)(E:Nat->Res Ex)(i:Nat):Res Fo:=if Rd.atEnd l i then .ok .nil i else(E i).bind λx j=> .ok (.one x) j
def FH{E:Nat->Res Ex}(hE:CE 208 b tv wv l wordsL E)(h:Par w b tv wv l wordsL i)(ho:D0 l E i ≠ .out):
 Calls Tryz.prog 327 #[.pointer (some ⟨b,0,none⟩)] w (Post b tv wv l wordsL w (VL w.heap.size) (D0 l E i)):=by
 have hb:=h.lt;have HT:=S (Bn h);have H:=S (X hE ho);generalize hR:D0 l E i=R at*;unfold D0 at hR;have HQ:=S hR;clear hE ho hR;cases hk:(Ab l i).kind==5 with
 | true=>
   rw[if_pos (show Rd.atEnd l i=true from hk)]at HQ;have hk5:(Ab l i).kind=5:=by simpa using hk
   clear hk;go_enter func327,ntmps327;go_wp2_with fail;refine mR HT.1 λw1 g1=>?_;rw[AR,hk5];have HE:=S (X g1 (h.gbN g1));clear g1;go_wp2;go_ret;exact Post.ok (A2 HE.1.1) HQ.1.symm ⟨none,0,rfl,RepL.nil _ _⟩ HE.1.2
 | false=>
   rw[if_neg (nF (show Rd.atEnd l i=false from hk))]at HQ;have gr:=Aa w (some b);go_enter func327,ntmps327;go_wp2_with fail;refine mR HT.1 λw1 g1=>?_;rw[AR];have hp1:=h.gbN g1;have hs1:=g1.size;replace gr:=Ag gr g1;clear g1 HT;go_wp2_with fail;refine(H.1.1 _ _ hp1 (λe=>H.1.2 (by rw[<-HQ.1,e];rfl))).mono ?_;intro e w2 hq;obtain⟨g,⟨q,hr,rfl⟩| ⟨x,j,v,hr,rfl,⟨pa,pc,la,lc,rfl,rp,rl⟩,hp⟩⟩:=hq.split
   ·exact PBd gr g HQ hr
   replace gr:=Z gr g;replace HQ:=HQo HQ hr;clear hr;have hs2:=g.size;have HE:=S (X rp (X rl hp));clear g rp rl hp;go_wp2;go_ret;refine Post.ok (Ac gr _) HQ.1.symm ⟨_,_,rfl,?_⟩ (HE.1.2.2.alloc _);exact RepL.one (x:=x) rfl (by show w.heap.size<=w2.heap.size;omega) (HE.1.1.mono (λq hq _=>by have:w1.heap.size<=q:=hq;show w.heap.size<=q;omega)) (HE.1.2.1.mono (λq hq _=>by have:w1.heap.size<=q:=hq;show w.heap.size<=q;omega))
def FZ(l:List Tok)(n:Nat)(i:Nat):Res (List Bs):=if Ah (Ab l i) [40]then(if Ah (Ab l (i+1)) [41]then .ok [] (i+2)else(CF l n (i+1)).bind λp j=>(AW l [41] j).bind λ_ k=> .ok p k)else .ok [] i
def Mw(h:Par w b tv wv l wordsL i)(hl:Ay l)(n:Nat)(ho:FZ l n i ≠ .out):
 Calls Tryz.prog 248 #[.pointer (some ⟨b,0,none⟩)] w (Post b tv wv l wordsL w (VS w.heap.size) (FZ l n i)):=by
 have hb:=h.lt;have H:=S (X hl ho);generalize hR:FZ l n i=R at*;unfold FZ at hR;have HQ:=S hR;clear hl ho hR;have gr:=Aa w (some b);cases hs:Ah (Ab l i) [40]with
 | false=>
   rw[if_neg (nF hs)]at HQ;go_enter func248,ntmps248;go_wp2_with fail;refine mR (Bf h _ hs) λw1 g1=>?_;have HE:=S (X (Ag gr g1) (h.gbN g1));clear g1;go_wp2;go_ret;exact Post.ok HE.1.1 HQ.1.symm ⟨none,0,rfl,Cells.nil _ _ _⟩ HE.1.2
 | true=>
   rw[if_pos hs]at HQ;cases hs2:Ah (Ab l (i+1)) [41]with
   | true=>
     rw[if_pos hs2]at HQ;go_enter func248,ntmps248;go_wp2_with fail;refine(Bp h _ hs).mono ?_;rintro e w1 ⟨rfl,h1,g1⟩;go_wp2_with fail;refine(Bp h1 _ hs2).mono ?_;rintro e w2 ⟨rfl,h2,g2⟩;have HE:=S (X (Z g1 g2) h2);clear g1 g2;go_wp2;go_ret;exact Post.ok HE.1.1 HQ.1.symm ⟨none,0,rfl,Cells.nil _ _ _⟩ HE.1.2
   | false=>
     rw[if_neg (nF hs2)]at HQ;go_enter func248,ntmps248;go_wp2_with fail;refine(Bp h _ hs).mono ?_;rintro e w1 ⟨rfl,h1,g1⟩;have hs1:=g1.size;replace gr:=Z gr g1;clear g1;go_wp2_with fail;refine mR (Bf h1 _ hs2) λw2 g2=>?_;have hp2:=h1.gbN g2;have hs2:=g2.size;replace gr:=Ag gr g2;clear g2;go_wp2_with fail;refine(Nh hp2 H.1.1 n (λe=>H.1.2 (by rw[<-HQ.1,e];rfl))).mono ?_;intro e w3 hq;obtain⟨g,⟨q,hr,rfl⟩| ⟨x,j,v,hr,rfl,⟨a,c,rfl,hC⟩,hp⟩⟩:=hq.split
     ·exact PBd gr g HQ hr
     replace gr:=Z gr g;replace HQ:=HQo HQ hr;clear hr;have hs3:=g.size;have hp3:=hp;clear g hp;go_wp2_with fail;refine(CL hp3 [41]).mono ?_;intro e w4 hq;obtain⟨g,⟨q,hr,rfl⟩| ⟨u,j2,v,hr,rfl,rfl,hp⟩⟩:=hq.split
     ·exact PBd gr g HQ hr
     replace gr:=Z gr g;replace HQ:=HQo HQ hr;clear hr;have HE:=S (X (hC.gb g (by intro q hq _ e;cases e;have:w2.heap.size<=b:=hq;omega)) hp);clear g hp hC;go_wp2;go_ret;exact Post.ok gr HQ.1.symm ⟨_,_,rfl,HE.1.1.mono (λq hq _=>by have:w2.heap.size<=q:=hq;show w.heap.size<=q;omega)⟩ HE.1.2
def StV(ok:Nat->Prop)(w:World)(v:Value)(r:StB):Prop:=∃pa xa na fa wa ba,∃pc xc nc fc wc bc,
 v= .agg (sdC r.1 (.slice pa r.1.p.length pc) (.slice xa r.1.x.len xc) (.slice ba r.2.len bc) (.slice na r.1.n.len nc) (.slice fa r.1.f.len fc) (.slice wa r.1.w.len wc)).toArray/\
 SdRep ok w r.1 pa xa na fa wa pc xc nc fc wc/\RepV ok w true (.slice ba r.2.len bc) r.2
def RepV.nil(ok:Nat->Prop)(w:World)(k:Bool):RepV ok w k (.slice none 0 0) .nil:=⟨[],Cells.nil _ _ _,rfl⟩
def StV.x{op:Int}{xa:Option Addr}{xc:Nat}(h:RepL ok w (.slice xa f.len xc) f):
 StV ok w (.agg #[.int .i64 op,str s,str [],.slice none 0 0,.slice xa f.len xc,.slice none 0 0,.int .i64 0,.slice none 0 0,.slice none 0 0,.slice none 0 0]) ({sd0 op s with x:=f},.nil):=
 ⟨none,xa,none,none,none,none,0,xc,0,0,0,0,rfl,⟨Cells.nil _ _ _,h,RepL.nil _ _,RepL.nil _ _,RepL.nil _ _⟩,RepV.nil _ _ _⟩
def RepF.mono'(h:RepF ok w f cs)(hk:∀k,ok k->k<w.heap.size->ok' k):RepF ok' w f cs:=RepF.mono hk h
def RepT.mono(hk:∀k,ok k->k<w.heap.size->ok' k):∀{b:Bl}{k:Bool}{cs:List Value},RepT ok w b k cs->RepT ok' w b k cs:=by
 intro b;induction b with
 |nil=>intro k cs h;exact h
 | st h b n ih1 ih2=>
   intro k cs hr;cases k with
   |true=>exact hr
   | false=>
     obtain⟨pa,xa,na,fa,wa,ba,pc,xc,nc,fc,wc,bc,kcs,rest,e,h1,h2,h3,h4⟩:=hr;exact⟨pa,xa,na,fa,wa,ba,pc,xc,nc,fc,wc,bc,kcs,rest,e,⟨h1.p.mono hk,h1.x.mono hk,h1.n.mono hk,h1.f.mono hk,h1.w.mono hk⟩,h2.mono hk,ih1 h3,ih2 h4⟩
 | bl b n ih1 ih2=>
   intro k cs hr;cases k with
   |false=>exact hr
   | true=>
     obtain⟨ba,bc,kcs,rest,e,h2,h3,h4⟩:=hr;exact⟨ba,bc,kcs,rest,e,h2.mono hk,ih1 h3,ih2 h4⟩
def RepT.mono'{f:Bl}{k:Bool}(h:RepT ok w f k cs)(hk:∀k,ok k->k<w.heap.size->ok' k):RepT ok' w f k cs:=RepT.mono hk h
def RepV.mono'{k:Bool}{b:Bl}(h:RepV ok w k v b)(hk:∀k,ok k->k<w.heap.size->ok' k):RepV ok' w k v b:=by
 obtain⟨cs,h1,h2⟩:=h;exact⟨cs,h1.mono hk,RepT.mono hk h2⟩
def Bl.len_app(a c:Bl):(a.app c).len=a.len+c.len:=by
 induction a with
 |nil=>simp[Bl.app,Bl.len]
 |st h b n _ ih=>simp[Bl.app,Bl.len,ih];omega
 |bl b n _ ih=>simp[Bl.app,Bl.len,ih];omega
def RepT.app:∀{a c:Bl}{k:Bool}{cs ds:List Value},RepT ok w a k cs->RepT ok w c k ds->RepT ok w (a.app c) k (cs++ds):=by
 intro a;induction a with
 |nil=>intro c k cs ds h g;cases k<;>(have h:cs=[]:=h;subst h;exact g)
 | st h b n ih1 ih2=>
   intro c k cs ds hr g;cases k with
   |true=>exact hr.elim
   | false=>
     obtain⟨pa,xa,na,fa,wa,ba,pc,xc,nc,fc,wc,bc,kcs,rest,rfl,h1,h2,h3,h4⟩:=hr;exact⟨pa,xa,na,fa,wa,ba,pc,xc,nc,fc,wc,bc,kcs,rest++ds,by simp,h1,h2,h3,ih2 h4 g⟩
 | bl b n ih1 ih2=>
   intro c k cs ds hr g;cases k with
   |false=>exact hr.elim
   | true=>
     obtain⟨ba,bc,kcs,rest,rfl,h2,h3,h4⟩:=hr;exact⟨ba,bc,kcs,rest++ds,rfl,h2,h3,ih2 h4 g⟩
structure KS(b:Nat)(w:World)(L:Nat)(wr:World)(h:Sd)(g:Bl)(pv xv bv nv fv wv:Value):Prop where
 blk:Blk wr L (sdC h pv xv bv nv fv wv) 134
 p:Cells wr pv 1 h.p.length (h.p.map str) (but w L)
 x:RepL (but w L) wr xv h.x
 bb:RepV (but w L) wr true bv g
 n:RepL (but w L) wr nv h.n
 f:RepL (but w L) wr fv h.f
 wl:RepL (but w L) wr wv h.w
 gr:w.grownBy wr (some b)
 bw:b<w.heap.size
 wL:w.heap.size<L
 zero:Blk wr w.heap.size (stC 0 (.slice none 0 0)) 134
section
variable {h:Sd}
def KS.gb(k:KS b w L wr h g pv xv bv nv fv wv)(gr:wr.grownBy w1 (some b)):KS b w L w1 h g pv xv bv nv fv wv:=by
 have hbw:=k.bw;have hwL:=k.wL;have hne:∀q,but w L q->q<wr.heap.size->some q≠some b:=λq hq _ e=>by cases e;have:=hq.1;omega
 exact⟨k.blk.gb gr (by simp;omega),k.p.gb gr hne,k.x.gb gr hne,k.bb.gb gr hne,k.n.gb gr hne,k.f.gb gr hne,k.wl.gb gr hne,Z k.gr gr,hbw,hwL,k.zero.gb gr (by simp;omega)⟩
def KS.gbN(k:KS b w L wr h g pv xv bv nv fv wv)(gr:wr.grownBy w1 none):KS b w L w1 h g pv xv bv nv fv wv:=k.gb (A2 gr)
def KS.lt(k:KS b w L wr h g pv xv bv nv fv wv):L<wr.heap.size:=k.blk.lt
def KS.fresh(k:KS b w L wr h g pv xv bv nv fv wv)(q:Nat)(hq:wr.heap.size<=q):but w L q:=by
 have h1:=k.lt;have h2:=k.wL;exact⟨by omega,by omega⟩
def KS.start(hz:Blk wr w.heap.size (stC 0 (.slice none 0 0)) 134)(gr:w.grownBy wr (some b))(hb:b<w.heap.size)(hw:w.heap.size<wr.heap.size):
 KS b w wr.heap.size (wr.alloc (.cells #[.int .i64 o,str s,str [],.slice none 0 0,.slice none 0 0,.slice none 0 0,.int .i64 0,.slice none 0 0,.slice none 0 0,.slice none 0 0] 134 (0,0))) (sd0 o s) .nil (.slice none 0 0) (.slice none 0 0) (.slice none 0 0) (.slice none 0 0) (.slice none 0 0) (.slice none 0 0):=
 ⟨Blk.new _ _ _,Cells.nil _ _ _,RepL.nil _ _,RepV.nil _ _ _,RepL.nil _ _,RepL.nil _ _,RepL.nil _ _,Ac gr _,hb,hw,hz.alloc _⟩
def KS.put(k:KS b w L wr h g pv xv bv nv fv wv)(i:Nat)(v:Value)
 (e:(sdC h pv xv bv nv fv wv).set i v=sdC h' pv' xv' bv' nv' fv' wv')
 (p:Cells wr pv' 1 h'.p.length (h'.p.map str) (but w L)) (x:RepL (but w L) wr xv' h'.x) (bb:RepV (but w L) wr true bv' g') (n:RepL (but w L) wr nv' h'.n) (f:RepL (but w L) wr fv' h'.f) (w':RepL (but w L) wr wv' h'.w):
 KS b w L (wr.setCell ⟨L,i,none⟩ v) h' g' pv' xv' bv' nv' fv' wv':=by
 have hwL:=k.wL;have g1:=Am (Aa wr (some L)) i v;have hne:∀q,but w L q->q<wr.heap.size->some q≠some L:=λq hq _ e=>by cases e;exact hq.2 rfl
 exact⟨(k.blk.set i v).of_eq rfl e,p.gb g1 hne,x.gb g1 hne,bb.gb g1 hne,n.gb g1 hne,f.gb g1 hne,w'.gb g1 hne,Ap k.gr g1 (.inr (by omega)),k.bw,hwL,k.zero.gb g1 (by simp;omega)⟩
def KS.putS(k:KS b w L wr h g pv xv bv nv fv wv)(s:Bs):KS b w L (wr.setCell ⟨L,1,none⟩ (str s)) {h with s:=s} g pv xv bv nv fv wv:=k.put 1 _ rfl k.p k.x k.bb k.n k.f k.wl
def KS.putT(k:KS b w L wr h g pv xv bv nv fv wv)(s:Bs):KS b w L (wr.setCell ⟨L,2,none⟩ (str s)) {h with t:=s} g pv xv bv nv fv wv:=k.put 2 _ rfl k.p k.x k.bb k.n k.f k.wl
def KS.putX(k:KS b w L wr h g pv xv bv nv fv wv){x:Fo}(hx:RepL (but w L) wr v x):KS b w L (wr.setCell ⟨L,4,none⟩ v) {h with x:=x} g pv v bv nv fv wv:=k.put 4 _ rfl k.p hx k.bb k.n k.f k.wl
def KS.putC(k:KS b w L wr h g pv xv bv nv fv wv){c:ScM}(hn:RepL (but w L) wr nv' c.n)(hf:RepL (but w L) wr fv' c.f)(hw:RepL (but w L) wr wv' c.w)(w2:World)
 (e2:w2=(((wr.setCell ⟨L,6,none⟩ (.int .i64 c.kind)).setCell ⟨L,7,none⟩ nv').setCell ⟨L,8,none⟩ fv').setCell ⟨L,9,none⟩ wv'):KS b w L w2 (CU h c) g pv xv bv nv' fv' wv':=by
 subst e2;have hwL:=k.wL;have hne:∀q,but w L q->q<wr.heap.size->some q≠some L:=λq hq _ e=>by cases e;exact hq.2 rfl
 have g1:=Am (Am (Am (Am (Aa wr (some L)) 6 (.int .i64 c.kind)) 7 nv') 8 fv') 9 wv';exact⟨((((k.blk.set 6 _).set 7 _).set 8 _).set 9 _).of_eq rfl rfl,k.p.gb g1 hne,k.x.gb g1 hne,k.bb.gb g1 hne,hn.gb g1 hne,hf.gb g1 hne,hw.gb g1 hne,Ap k.gr g1 (.inr (by omega)),k.bw,hwL,k.zero.gb g1 (by simp;omega)⟩
def KS.shapes(k:KS b w L wr h g pv xv bv nv fv wv):∃pa xa ba na fa wa,∃pc xc bc nc fc wc,pv= .slice pa h.p.length pc/\xv= .slice xa h.x.len xc/\bv= .slice ba g.len bc/\nv= .slice na h.n.len nc/\fv= .slice fa h.f.len fc/\wv= .slice wa h.w.len wc:=by
 obtain⟨pa,pc,e1,_⟩:=k.p;obtain⟨_,⟨xa,xc,e2,_⟩,_⟩:=k.x;obtain⟨_,⟨ba,bc,e3,_⟩,_⟩:=k.bb;obtain⟨_,⟨na,nc,e4,_⟩,_⟩:=k.n;obtain⟨_,⟨fa,fc,e5,_⟩,_⟩:=k.f;obtain⟨_,⟨wa,wc,e6,_⟩,_⟩:=k.wl;exact⟨pa,xa,ba,na,fa,wa,pc,xc,bc,nc,fc,wc,e1,e2,e3,e4,e5,e6⟩
def KS.out(k:KS b w L wr h g pv xv bv nv fv wv):
 w.grownBy (set10 wr w.heap.size (.int .i64 h.op) (str h.s) (str h.t) pv xv bv (.int .i64 h.kind) nv fv wv) (some b)/\
 wr.grownBy (set10 wr w.heap.size (.int .i64 h.op) (str h.s) (str h.t) pv xv bv (.int .i64 h.kind) nv fv wv) (some w.heap.size)/\
 Blk (set10 wr w.heap.size (.int .i64 h.op) (str h.s) (str h.t) pv xv bv (.int .i64 h.kind) nv fv wv) w.heap.size (sdC h pv xv bv nv fv wv) 134/\
 StV (Al w.heap.size) (set10 wr w.heap.size (.int .i64 h.op) (str h.s) (str h.t) pv xv bv (.int .i64 h.kind) nv fv wv) (.agg (sdC h pv xv bv nv fv wv).toArray) (h,g):=by
 have hwL:=k.wL;have g1:=DR wr w.heap.size (.int .i64 h.op) (str h.s) (str h.t) pv xv bv (.int .i64 h.kind) nv fv wv;have hne:∀q,but w L q->q<wr.heap.size->some q≠some w.heap.size:=λq hq _ e=>by cases e;have:=hq.1;omega
 have hs:∀q,but w L q->q<(set10 wr w.heap.size (.int .i64 h.op) (str h.s) (str h.t) pv xv bv (.int .i64 h.kind) nv fv wv).heap.size->Al w.heap.size q:=λq hq _=>by have:=hq.1;show w.heap.size<=q;omega
 refine⟨Ap k.gr g1 (.inr (nR _)),g1,k.zero.set10 _ _ _ _ _ _ _ _ _ _,?_⟩;have hp:=(k.p.gb g1 hne).mono hs;have hx:=(k.x.gb g1 hne).mono hs;have hb:=RepV.mono' (k.bb.gb g1 hne) hs;have hn:=(k.n.gb g1 hne).mono hs;have hf:=(k.f.gb g1 hne).mono hs;have hw:=(k.wl.gb g1 hne).mono hs;obtain⟨pa,pc,rfl,_⟩:=id hp;obtain⟨_,⟨xa,xc,rfl,_⟩,_⟩:=id hx;obtain⟨_,⟨ba,bc,rfl,_⟩,_⟩:=id hb;obtain⟨_,⟨na,nc,rfl,_⟩,_⟩:=id hn;obtain⟨_,⟨fa,fc,rfl,_⟩,_⟩:=id hf;obtain⟨_,⟨wa,wc,rfl,_⟩,_⟩:=id hw;exact⟨pa,xa,na,fa,wa,ba,pc,xc,nc,fc,wc,bc,rfl,⟨hp,hx,hn,hf,hw⟩,hb⟩
end
section
variable {h:Sd}
def KS.lay(k:KS b w L wr h g pv xv bv nv fv wv)(i:Nat)(v:Value)(ob:Obj)
 (e:(sdC h pv xv bv nv fv wv).set i v=sdC h' pv' xv' bv' nv fv wv) (en:h'.n=h.n) (ef:h'.f=h.f) (ew:h'.w=h.w)
 (p:Cells ((wr.setCell ⟨L,i,none⟩ v).alloc ob) pv' 1 h'.p.length (h'.p.map str) (but w L)) (x:RepL (but w L) ((wr.setCell ⟨L,i,none⟩ v).alloc ob) xv' h'.x) (bb:RepV (but w L) ((wr.setCell ⟨L,i,none⟩ v).alloc ob) true bv' g'):
 KS b w L ((wr.setCell ⟨L,i,none⟩ v).alloc ob) h' g' pv' xv' bv' nv fv wv:=by
 have hwL:=k.wL;have g1:=Am (Aa wr (some L)) i v;have hne:∀q,but w L q->q<wr.heap.size->some q≠some L:=λq hq _ e=>by cases e;exact hq.2 rfl
 have g2:=gZ (wr.setCell ⟨L,i,none⟩ v) ob none;exact⟨((k.blk.set i v).of_eq rfl e).alloc _,p,x,bb,en ▸ (k.n.gb g1 hne).gb g2 (by simp),ef ▸ (k.f.gb g1 hne).gb g2 (by simp),ew ▸ (k.wl.gb g1 hne).gb g2 (by simp),Ac (Ap k.gr g1 (.inr (by omega))) _,k.bw,hwL,(k.zero.gb g1 (by simp;omega)).alloc _⟩
def KS.layX(k:KS b w L wr h g pv xv bv nv fv wv)(hl:f.len=m)(hm:m<=maxLen)(hr:RepF (but w L) wr f cs):
 KS b w L ((wr.setCell ⟨L,4,none⟩ (.slice (some ⟨wr.heap.size,0,none⟩) m m)).alloc (.cells cs.toArray 163 (0,0))) {h with x:=f} g pv (.slice (some ⟨wr.heap.size,0,none⟩) m m) bv nv fv wv:=by
 have hwL:=k.wL;have hlt:=k.lt;have g1:=Am (Aa wr (some L)) 4 (.slice (some ⟨wr.heap.size,0,none⟩) m m);have hne:∀q,but w L q->q<wr.heap.size->some q≠some L:=λq hq _ e=>by cases e;exact hq.2 rfl
 have g2:=gZ (wr.setCell ⟨L,4,none⟩ (.slice (some ⟨wr.heap.size,0,none⟩) m m)) (.cells cs.toArray 163 (0,0)) none;subst hl;exact k.lay 4 _ _ rfl rfl rfl rfl ((k.p.gb g1 hne).gb g2 (by simp)) ⟨cs,Cells.new' (size:=7) (by simp) hr.len hm ⟨by omega,by omega⟩,(hr.gb g1 hne).gb g2 (by simp)⟩ ((k.bb.gb g1 hne).gb g2 (by simp))
def KS.layB(k:KS b w L wr h g pv xv bv nv fv wv){c:Bl}(hr:RepV (but w L) wr false (.slice ca c.len cc) c):
 KS b w L ((wr.setCell ⟨L,5,none⟩ (.slice (some ⟨wr.heap.size,0,none⟩) 1 1)).alloc (.cells #[.slice ca c.len cc] 38 (0,0))) h (.bl c .nil) pv xv (.slice (some ⟨wr.heap.size,0,none⟩) 1 1) nv fv wv:=by
 have hwL:=k.wL;have hlt:=k.lt;have g1:=Am (Aa wr (some L)) 5 (.slice (some ⟨wr.heap.size,0,none⟩) 1 1);have hne:∀q,but w L q->q<wr.heap.size->some q≠some L:=λq hq _ e=>by cases e;exact hq.2 rfl
 have g2:=gZ (wr.setCell ⟨L,5,none⟩ (.slice (some ⟨wr.heap.size,0,none⟩) 1 1)) (.cells #[.slice ca c.len cc] 38 (0,0)) none;obtain⟨kcs,c1,c2⟩:=(hr.gb g1 hne).gb g2 (by simp);exact k.lay 5 _ _ rfl rfl rfl rfl ((k.p.gb g1 hne).gb g2 (by simp)) ((k.x.gb g1 hne).gb g2 (by simp)) ⟨[.slice ca c.len cc],Cells.new' (cs:=[.slice ca c.len cc]) (size:=1) (n:=1) (by simp) rfl (by decide) ⟨by omega,by omega⟩,ca,cc,kcs,[],rfl,c1,c2,rfl⟩
def KS.layP(k:KS b w L wr h g pv xv bv nv fv wv)(s:Bs):
 KS b w L ((wr.setCell ⟨L,3,none⟩ (.slice (some ⟨wr.heap.size,0,none⟩) 1 1)).alloc (.cells #[str s] 9 (0,0))) {h with p:=[s]} g (.slice (some ⟨wr.heap.size,0,none⟩) 1 1) xv bv nv fv wv:=by
 have hwL:=k.wL;have hlt:=k.lt;have g1:=Am (Aa wr (some L)) 3 (.slice (some ⟨wr.heap.size,0,none⟩) 1 1);have hne:∀q,but w L q->q<wr.heap.size->some q≠some L:=λq hq _ e=>by cases e;exact hq.2 rfl
 have g2:=gZ (wr.setCell ⟨L,3,none⟩ (.slice (some ⟨wr.heap.size,0,none⟩) 1 1)) (.cells #[str s] 9 (0,0)) none;exact k.lay 3 _ _ rfl rfl rfl rfl (Cells.new' (cs:=[str s]) (size:=1) (n:=1) (by simp) rfl (by decide) ⟨by omega,by omega⟩) ((k.x.gb g1 hne).gb g2 (by simp)) ((k.bb.gb g1 hne).gb g2 (by simp))
end
abbrev fre(w:World)(L:Nat)(pv xv bv:Value):Nat->Prop:=λq=>w.heap.size<q/\q≠L/\pv.ownBlock≠some q/\xv.ownBlock≠some q/\bv.ownBlock≠some q
structure KA(b:Nat)(w:World)(L:Nat)(wr:World)(o:Int)(s t:Bs)(p:List Bs)(f:Fo)(g:Bl)(pv xv bv:Value):Prop where
 blk:Blk wr L [.int .i64 o,str s,str t,pv,xv,bv,.int .i64 0,.slice none 0 0,.slice none 0 0,.slice none 0 0] 134
 p:wr.ownsRow (w.heap.size+1) 9 1 pv p.length (p.map str)
 x:∃cs,wr.ownsRow (w.heap.size+1) 163 7 xv f.len cs/\RepF (fre w L pv xv bv) wr f cs
 bb:∃cs,wr.ownsRow (w.heap.size+1) 38 1 bv g.len cs/\RepT (fre w L pv xv bv) wr g true cs
 gr:w.grownBy wr (some b)
 bw:b<w.heap.size
 wL:w.heap.size<L
 zero:Blk wr w.heap.size (stC 0 (.slice none 0 0)) 134
def J9(h:w.ownsRow B e size v n xs)(hk:v.ownBlock=some k):∃cur,w.heap[k]? =some (.cells cur e (0,0)):=by
 rcases h.2 with⟨rfl,rfl⟩| ⟨g,cap,cur,rfl,hb,hg,_⟩
 ·cases hk
 ·have:g=k:=by simpa[Value.ownBlock]using hk
  subst this;exact⟨cur,hg⟩
def EG{B' e' size' n':Nat}{xs':List Value}(h:w.ownsRow B e size v n xs)(h':w.ownsRow B' e' size' v' n' xs')(hne:e≠e')(k:Nat)(hk:v.ownBlock=some k):v'.ownBlock≠some k:=by
 intro hk';obtain⟨c,h1⟩:=J9 h hk;obtain⟨c',h2⟩:=J9 h' hk';rw[h1]at h2;cases h2;exact hne rfl
def BI(h:w.ownsRow B e size v n xs){t:TypeId}(hL:Blk w L cs t)(hne:e≠t):v.ownBlock≠some L:=by
 intro hk;obtain⟨c,h1⟩:=J9 h hk;have h2:w.heap[L]? =some (.cells cs.toArray t (0,0)):=hL;rw[h1]at h2;cases h2;exact hne rfl
section
variable {t:Bs}
def KA.lt(k:KA b w L wr o s t p f g pv xv bv):L<wr.heap.size:=k.blk.lt
def KA.gb(k:KA b w L wr o s t p f g pv xv bv)(gr:wr.grownBy w1 (some b)):KA b w L w1 o s t p f g pv xv bv:=by
 have hbw:=k.bw;have hwL:=k.wL;obtain⟨cs,h1,h2⟩:=k.x;obtain⟨ds,h3,h4⟩:=k.bb;have hn:∀q,w.heap.size+1<=q->q<wr.heap.size->some q≠some b:=λq hq _ e=>by cases e;omega
 have hne:∀q,fre w L pv xv bv q->q<wr.heap.size->some q≠some b:=λq hq _ e=>by cases e;have:=hq.1;omega
 exact⟨k.blk.gb gr (by simp;omega),Cr k.p gr hn,⟨cs,Cr h1 gr hn,h2.gb gr hne⟩,⟨ds,Cr h3 gr hn,h4.gb gr hne⟩,Z k.gr gr,hbw,hwL,k.zero.gb gr (by simp;omega)⟩
def KA.gbN(k:KA b w L wr o s t p f g pv xv bv)(gr:wr.grownBy w1 none):KA b w L w1 o s t p f g pv xv bv:=k.gb (A2 gr)
def KA.alloc(k:KA b w L wr o s t p f g pv xv bv)(ob:Obj):KA b w L (wr.alloc ob) o s t p f g pv xv bv:=k.gbN (gZ _ _ _)
def KA.start(hz:Blk wr w.heap.size (stC 0 (.slice none 0 0)) 134)(gr:w.grownBy wr (some b))(hb:b<w.heap.size)(hw:w.heap.size<wr.heap.size)(o:Int)(s:Bs):
 KA b w wr.heap.size (wr.alloc (.cells #[.int .i64 o,str s,str [],.slice none 0 0,.slice none 0 0,.slice none 0 0,.int .i64 0,.slice none 0 0,.slice none 0 0,.slice none 0 0] 134 (0,0))) o s [] [] .nil .nil (.slice none 0 0) (.slice none 0 0) (.slice none 0 0):=
 ⟨Blk.new _ _ _,World.ownsRow_nil _ _ _ _,⟨[],World.ownsRow_nil _ _ _ _,rfl⟩,⟨[],World.ownsRow_nil _ _ _ _,rfl⟩,Ac gr _,hb,hw,hz.alloc _⟩
def KA.fresh(k:KA b w L wr o s t p f g pv xv bv)(q:Nat)(hq:wr.heap.size<=q):fre w L pv xv bv q:=by
 have h1:=k.lt;have h2:=k.wL;obtain⟨cs,hx,_⟩:=k.x;obtain⟨ds,hb,_⟩:=k.bb;exact⟨by omega,by omega,λe=>by have:=(k.p.lt q e).2;omega,λe=>by have:=(hx.lt q e).2;omega,λe=>by have:=(hb.lt q e).2;omega⟩
def KA.toKS(k:KA b w L wr o s t p f g pv xv bv):KS b w L wr ⟨o,s,t,p,f,0,.nil,.nil,.nil⟩ g pv xv bv (.slice none 0 0) (.slice none 0 0) (.slice none 0 0):=by
 obtain⟨cs,hx,hx2⟩:=k.x;obtain⟨ds,hb,hb2⟩:=k.bb;have hfr:∀q,fre w L pv xv bv q->q<wr.heap.size->but w L q:=λq hq _=>⟨hq.1,hq.2.1⟩;have ow:∀{e size n:Nat}{v:Value}{xs:List Value},wr.ownsRow (w.heap.size+1) e size v n xs->e≠134->Cells wr v size n xs (but w L):=by
  intro e size n v xs h hne;have h1:=BI h k.blk hne;obtain⟨a,cap,e1,c1,c2,c3,c4⟩:=Db h;refine⟨a,cap,e1,c1,c2,c3,λj u hj=>?_⟩;obtain⟨gg,oo,ea,ho,hc⟩:=c4 j u hj;refine⟨gg,oo,ea,⟨by have:w.heap.size+1<=gg:=ho;omega,λe2=>h1 ?_⟩,hc⟩;subst e1 ea e2;rfl
 exact⟨k.blk,ow k.p (by decide),⟨cs,ow hx (by decide),hx2.mono hfr⟩,⟨ds,ow hb (by decide),hb2.mono hfr⟩,RepL.nil _ _,RepL.nil _ _,RepL.nil _ _,k.gr,k.bw,k.wL,k.zero⟩
def KA.putS(k:KA b w L wr o s t p f g pv xv bv)(s':Bs):KA b w L (wr.setCell ⟨L,1,none⟩ (str s')) o s' t p f g pv xv bv:=by
 have hwL:=k.wL;have g1:=Am (Aa wr (some L)) 1 (str s');obtain⟨cs,h1,h2⟩:=k.x;obtain⟨ds,h3,h4⟩:=k.bb;have keep:∀{e size n:Nat}{v:Value}{xs:List Value},wr.ownsRow (w.heap.size+1) e size v n xs->e≠134->(wr.setCell ⟨L,1,none⟩ (str s')).ownsRow (w.heap.size+1) e size v n xs:=by
  intro e size n v xs h hne;have h1:=BI h k.blk hne;refine h.kept g1 ?_;cases hv:v.ownBlock with
  |none=>exact .inl rfl
  |some q=>exact .inr λe=>by cases e;exact h1 hv
 have hne2:∀q,fre w L pv xv bv q->q<wr.heap.size->some q≠some L:=λq hq _ e=>by cases e;exact hq.2.1 rfl
 exact⟨(k.blk.set 1 _).of_eq rfl rfl,keep k.p (by decide),⟨cs,keep h1 (by decide),h2.gb g1 hne2⟩,⟨ds,keep h3 (by decide),h4.gb g1 hne2⟩,Ap k.gr g1 (.inr (by omega)),k.bw,hwL,k.zero.gb g1 (by simp;omega)⟩
def EE{r o:Option Nat}(h:w.grownBy wr r)(g:wr.grownBy w1 o)(ho:∀k,o=some k->w.heap.size<=k):w.grownBy w1 r:=by
 cases o with
 |none=>exact Ag h g
 |some k=>exact Ap h g (.inr (ho k rfl))
def KA.belowP(k:KA b w L wr o s t p f g pv xv bv)(q:Nat)(h:pv.ownBlock=some q):b<q/\w.heap.size<q:=by
 have:=(k.p.lt q h).1;have:=k.bw;exact⟨by omega,by omega⟩
def KA.belowX(k:KA b w L wr o s t p f g pv xv bv)(q:Nat)(h:xv.ownBlock=some q):b<q/\w.heap.size<q:=by
 obtain⟨cs,h1,_⟩:=k.x;have:=(h1.lt q h).1;have:=k.bw;exact⟨by omega,by omega⟩
def KA.belowB(k:KA b w L wr o s t p f g pv xv bv)(q:Nat)(h:bv.ownBlock=some q):b<q/\w.heap.size<q:=by
 obtain⟨cs,h1,_⟩:=k.bb;have:=(h1.lt q h).1;have:=k.bw;exact⟨by omega,by omega⟩
def KA.addX(k:KA b w L wr o s t p f g pv xv bv)(hx:wr.ownsRow (w.heap.size+1) 163 7 xv f.len cs)(hr:RepF (fre w L pv xv bv) wr f cs)
 {x:Ex}    (rp:Cells wr (.slice pa x.h.p.length pc) 1 x.h.p.length (x.h.p.map str) okx) (rl:RepL okx wr (.slice la x.kids.len lc) x.kids) (hok:∀q,okx q->fre w L pv xv bv q)
  (ho:w1.ownsRow (w.heap.size+1) 163 7 v' (f.len+1) (cs++hdC x.h (.slice pa x.h.p.length pc) (.slice la x.kids.len lc))) (hg:wr.grownBy w1 xv.ownBlock) (hnew:∀q,v'.ownBlock=some q->xv.ownBlock=some q\/wr.heap.size<=q):
 KA b w L (w1.setCell ⟨L,4,none⟩ v') o s t p (f.snoc x) g pv v' bv:=by
 have hwL:=k.wL;have hLt:=k.lt;have hbw:=k.bw;obtain⟨ds,h3,h4⟩:=k.bb;have nL:=BI hx k.blk (by decide);have nP:=EG k.p hx (by decide);have nB:=EG h3 hx (by decide);have nLp:=BI k.p k.blk (by decide);have nLb:=BI h3 k.blk (by decide);have nZ:xv.ownBlock≠some w.heap.size:=λe=>by have:=(k.belowX _ e).2;omega
 have nL':v'.ownBlock≠some L:=λe=>by(rcases hnew _ e with h|h;exact nL h;omega)
 have g1:=Am (Aa w1 (some L)) 4 v';have hs:=hg.size;have hfre:∀q,fre w L pv xv bv q->q<wr.heap.size->fre w L pv v' bv q/\xv.ownBlock≠some q:=λq hq hlt=>⟨⟨hq.1,hq.2.1,hq.2.2.1,λe=>by(rcases hnew _ e with h|h;exact hq.2.2.2.1 h;omega),hq.2.2.2.2⟩,hq.2.2.2.1⟩;have hne:∀q,(fre w L pv v' bv q/\xv.ownBlock≠some q)->q<wr.heap.size->some q≠xv.ownBlock:=λq hq _ e=>hq.2 e.symm;have hne2:∀q,(fre w L pv v' bv q/\xv.ownBlock≠some q)->q<w1.heap.size->some q≠some L:=λq hq _ e=>by cases e;exact hq.1.2.1 rfl
 have keep:∀{e size n:Nat}{v:Value}{xs:List Value},wr.ownsRow (w.heap.size+1) e size v n xs->(∀q,v.ownBlock=some q->xv.ownBlock≠some q)->v.ownBlock≠some L->(w1.setCell ⟨L,4,none⟩ v').ownsRow (w.heap.size+1) e size v n xs:=by
  intro e size n v xs h a1 a2;refine(h.kept hg ?_).kept g1 ?_
  ·cases hv:v.ownBlock with
   |none=>exact .inl rfl
   |some q=>exact .inr λe=>a1 q hv e.symm
  ·cases hv:v.ownBlock with
   |none=>exact .inl rfl
   |some q=>exact .inr λe=>by cases e;exact a2 hv
 refine⟨((k.blk.gb hg (λe=>nL e.symm)).set 4 v').of_eq rfl rfl,keep k.p nP nLp,⟨cs++hdC x.h (.slice pa x.h.p.length pc) (.slice la x.kids.len lc),?_,?_⟩,⟨ds,keep h3 nB nLb,?_⟩,Ap (EE k.gr hg λq hq=>by have:=(k.belowX q hq).2;omega) g1 (.inr (by omega)),hbw,hwL,(k.zero.gb hg (λe=>nZ e.symm)).gb g1 (by simp;omega)⟩
 ·rw[Fo.len_snoc];refine ho.kept g1 ?_;cases hv:v'.ownBlock with
  |none=>exact .inl rfl
  |some q=>exact .inr λe=>by cases e;exact nL' hv
 ·have h1:RepF (fre w L pv xv bv) wr (f.snoc x) _:=hr.app (VE.rep (rp.mono λq hq _=>hok q hq) (rl.mono λq hq _=>hok q hq));exact(((h1.mono' hfre).gb hg hne).gb g1 hne2).mono' λq hq _=>hq.1
 ·exact(((RepT.mono hfre h4).gb hg hne).gb g1 hne2).mono' λq hq _=>hq.1
def KA.addP(k:KA b w L wr o s t p f g pv xv bv)
  (ho:w1.ownsRow (w.heap.size+1) 9 1 v' (p.length+1) (p.map str++[str y])) (hg:wr.grownBy w1 pv.ownBlock) (hnew:∀q,v'.ownBlock=some q->pv.ownBlock=some q\/wr.heap.size<=q):
 KA b w L (w1.setCell ⟨L,3,none⟩ v') o s t (p++[y]) f g v' xv bv:=by
 have hwL:=k.wL;have hLt:=k.lt;have hbw:=k.bw;obtain⟨cs,hx,hr⟩:=k.x;obtain⟨ds,h3,h4⟩:=k.bb;have nL:=BI k.p k.blk (by decide);have nX:=EG hx k.p (by decide);have nB:=EG h3 k.p (by decide);have nLx:=BI hx k.blk (by decide);have nLb:=BI h3 k.blk (by decide);have nZ:pv.ownBlock≠some w.heap.size:=λe=>by have:=(k.belowP _ e).2;omega
 have nL':v'.ownBlock≠some L:=λe=>by(rcases hnew _ e with h|h;exact nL h;omega)
 have g1:=Am (Aa w1 (some L)) 3 v';have hs:=hg.size;have hfre:∀q,fre w L pv xv bv q->q<wr.heap.size->fre w L v' xv bv q/\pv.ownBlock≠some q:=λq hq hlt=>⟨⟨hq.1,hq.2.1,λe=>by(rcases hnew _ e with h|h;exact hq.2.2.1 h;omega),hq.2.2.2⟩,hq.2.2.1⟩;have hne:∀q,(fre w L v' xv bv q/\pv.ownBlock≠some q)->q<wr.heap.size->some q≠pv.ownBlock:=λq hq _ e=>hq.2 e.symm;have hne2:∀q,(fre w L v' xv bv q/\pv.ownBlock≠some q)->q<w1.heap.size->some q≠some L:=λq hq _ e=>by cases e;exact hq.1.2.1 rfl
 have keep:∀{e size n:Nat}{v:Value}{xs:List Value},wr.ownsRow (w.heap.size+1) e size v n xs->(∀q,v.ownBlock=some q->pv.ownBlock≠some q)->v.ownBlock≠some L->(w1.setCell ⟨L,3,none⟩ v').ownsRow (w.heap.size+1) e size v n xs:=by
  intro e size n v xs h a1 a2;refine(h.kept hg ?_).kept g1 ?_
  ·cases hv:v.ownBlock with
   |none=>exact .inl rfl
   |some q=>exact .inr λe=>a1 q hv e.symm
  ·cases hv:v.ownBlock with
   |none=>exact .inl rfl
   |some q=>exact .inr λe=>by cases e;exact a2 hv
 refine⟨((k.blk.gb hg (λe=>nL e.symm)).set 3 v').of_eq rfl rfl,?_,⟨cs,keep hx nX nLx,?_⟩,⟨ds,keep h3 nB nLb,?_⟩,Ap (EE k.gr hg λq hq=>by have:=(k.belowP q hq).2;omega) g1 (.inr (by omega)),hbw,hwL,(k.zero.gb hg (λe=>nZ e.symm)).gb g1 (by simp;omega)⟩
 ·rw[lA,List.map_append];refine World.ownsRow.kept ho g1 ?_;cases hv:v'.ownBlock with
  |none=>exact .inl rfl
  |some q=>exact .inr λe=>by cases e;exact nL' hv
 ·exact(((hr.mono' hfre).gb hg hne).gb g1 hne2).mono' λq hq _=>hq.1
 ·exact(((RepT.mono hfre h4).gb hg hne).gb g1 hne2).mono' λq hq _=>hq.1
def KA.addB(k:KA b w L wr o s t p f g pv xv bv)(hx:wr.ownsRow (w.heap.size+1) 38 1 bv g.len ds)(hr:RepT (fre w L pv xv bv) wr g true ds)
 {c:Bl}    (rc:RepV okx wr false (.slice ca c.len cc) c) (hok:∀q,okx q->fre w L pv xv bv q)
  (ho:w1.ownsRow (w.heap.size+1) 38 1 v' (g.len+1) (ds++[.slice ca c.len cc])) (hg:wr.grownBy w1 bv.ownBlock) (hnew:∀q,v'.ownBlock=some q->bv.ownBlock=some q\/wr.heap.size<=q):
 KA b w L (w1.setCell ⟨L,5,none⟩ v') o s t p f (g.app (.bl c .nil)) pv xv v':=by
 have hwL:=k.wL;have hLt:=k.lt;have hbw:=k.bw;obtain⟨cs,h3,h4⟩:=k.x;have nL:=BI hx k.blk (by decide);have nP:=EG k.p hx (by decide);have nX:=EG h3 hx (by decide);have nLp:=BI k.p k.blk (by decide);have nLx:=BI h3 k.blk (by decide);have nZ:bv.ownBlock≠some w.heap.size:=λe=>by have:=(k.belowB _ e).2;omega
 have nL':v'.ownBlock≠some L:=λe=>by(rcases hnew _ e with h|h;exact nL h;omega)
 have g1:=Am (Aa w1 (some L)) 5 v';have hs:=hg.size;have hfre:∀q,fre w L pv xv bv q->q<wr.heap.size->fre w L pv xv v' q/\bv.ownBlock≠some q:=λq hq hlt=>⟨⟨hq.1,hq.2.1,hq.2.2.1,hq.2.2.2.1,λe=>by(rcases hnew _ e with h|h;exact hq.2.2.2.2 h;omega)⟩,hq.2.2.2.2⟩;have hne:∀q,(fre w L pv xv v' q/\bv.ownBlock≠some q)->q<wr.heap.size->some q≠bv.ownBlock:=λq hq _ e=>hq.2 e.symm;have hne2:∀q,(fre w L pv xv v' q/\bv.ownBlock≠some q)->q<w1.heap.size->some q≠some L:=λq hq _ e=>by cases e;exact hq.1.2.1 rfl
 have keep:∀{e size n:Nat}{v:Value}{xs:List Value},wr.ownsRow (w.heap.size+1) e size v n xs->(∀q,v.ownBlock=some q->bv.ownBlock≠some q)->v.ownBlock≠some L->(w1.setCell ⟨L,5,none⟩ v').ownsRow (w.heap.size+1) e size v n xs:=by
  intro e size n v xs h a1 a2;refine(h.kept hg ?_).kept g1 ?_
  ·cases hv:v.ownBlock with
   |none=>exact .inl rfl
   |some q=>exact .inr λe=>a1 q hv e.symm
  ·cases hv:v.ownBlock with
   |none=>exact .inl rfl
   |some q=>exact .inr λe=>by cases e;exact a2 hv
 refine⟨((k.blk.gb hg (λe=>nL e.symm)).set 5 v').of_eq rfl rfl,keep k.p nP nLp,⟨cs,keep h3 nX nLx,?_⟩,⟨ds++[.slice ca c.len cc],?_,?_⟩,Ap (EE k.gr hg λq hq=>by have:=(k.belowB q hq).2;omega) g1 (.inr (by omega)),hbw,hwL,(k.zero.gb hg (λe=>nZ e.symm)).gb g1 (by simp;omega)⟩
 ·exact(((h4.mono' hfre).gb hg hne).gb g1 hne2).mono' λq hq _=>hq.1
 ·rw[Bl.len_app];refine World.ownsRow.kept ho g1 ?_;cases hv:v'.ownBlock with
  |none=>exact .inl rfl
  |some q=>exact .inr λe=>by cases e;exact nL' hv
 ·obtain⟨kcs,c1,c2⟩:=rc;have h1:RepT (fre w L pv xv bv) wr (g.app (.bl c .nil)) true (ds++[.slice ca c.len cc]):=hr.app ⟨ca,cc,kcs,[],rfl,c1.mono λq hq _=>hok q hq,RepT.mono (λq hq _=>hok q hq) c2,rfl⟩;exact(((RepT.mono hfre h1).gb hg hne).gb g1 hne2).mono' λq hq _=>hq.1
end
namespace Rd
variable {q:α->Rd l β}{r:β×RS}
end Rd
abbrev VBl(w:World):World->Value->Bl->Prop:=λw' v x=>RepV (Al w.heap.size) w' false v x
abbrev VSt(w:World):World->Value->StB->Prop:=λw' v x=>StV (Al w.heap.size) w' v x
section
variable {t:Bs}
def FI{q H:Nat}(hat:v.ownBlock=some k\/k=H)(h:(Value.slice (some ⟨k,0,none⟩) n c).ownBlock=some q):v.ownBlock=some q\/H<=q:=by
 have e:k=q:=by simpa[Value.ownBlock]using h
 subst e;rcases hat with h|h
 ·exact .inl h
 ·exact .inr (Nat.le_of_eq h.symm)
def KA.addX'(k:KA b w L wr o s t p f g pv xv bv)(hx:wr.ownsRow (w.heap.size+1) 163 7 xv f.len cs)(hr:RepF (fre w L pv xv bv) wr f cs)
 {x:Ex}    (rp:Cells wr (.slice pa x.h.p.length pc) 1 x.h.p.length (x.h.p.map str) okx) (rl:RepL okx wr (.slice la x.kids.len lc) x.kids) (hok:∀q,okx q->fre w L pv xv bv q)
  (ho:w1.ownsRow (w.heap.size+1) 163 7 (.slice (some ⟨j,0,none⟩) (f.len+1) c) (f.len+1) (cs++hdC x.h (.slice pa x.h.p.length pc) (.slice la x.kids.len lc))) (hg:wr.grownBy w1 xv.ownBlock) (hat:xv.ownBlock=some j\/j=wr.heap.size):
 KA b w L (w1.setCell ⟨L,4,none⟩ (.slice (some ⟨j,0,none⟩) (f.len+1) c)) o s t p (f.snoc x) g pv (.slice (some ⟨j,0,none⟩) (f.len+1) c) bv:=
 k.addX hx hr rp rl hok ho hg (λq hq=>FI hat hq)
def KA.addP'(k:KA b w L wr o s t p f g pv xv bv)
  (ho:w1.ownsRow (w.heap.size+1) 9 1 (.slice (some ⟨j,0,none⟩) (p.length+1) c) (p.length+1) (p.map str++[str y])) (hg:wr.grownBy w1 pv.ownBlock) (hat:pv.ownBlock=some j\/j=wr.heap.size):
 KA b w L (w1.setCell ⟨L,3,none⟩ (.slice (some ⟨j,0,none⟩) (p.length+1) c)) o s t (p++[y]) f g (.slice (some ⟨j,0,none⟩) (p.length+1) c) xv bv:=
 k.addP ho hg (λq hq=>FI hat hq)
def KA.addB'(k:KA b w L wr o s t p f g pv xv bv)(hx:wr.ownsRow (w.heap.size+1) 38 1 bv g.len ds)(hr:RepT (fre w L pv xv bv) wr g true ds)
 {c:Bl}    (rc:RepV okx wr false (.slice ca c.len cc) c) (hok:∀q,okx q->fre w L pv xv bv q)
  (ho:w1.ownsRow (w.heap.size+1) 38 1 (.slice (some ⟨j,0,none⟩) (g.len+1) n) (g.len+1) (ds++[.slice ca c.len cc])) (hg:wr.grownBy w1 bv.ownBlock) (hat:bv.ownBlock=some j\/j=wr.heap.size):
 KA b w L (w1.setCell ⟨L,5,none⟩ (.slice (some ⟨j,0,none⟩) (g.len+1) n)) o s t p f (g.app (.bl c .nil)) pv xv (.slice (some ⟨j,0,none⟩) (g.len+1) n):=
 k.addB hx hr rc hok ho hg (λq hq=>FI hat hq)
def KA.bL(k:KA b w L wr o s t p f g pv xv bv):b<L:=by have:=k.bw;have:=k.wL;omega
def KA.neX(k:KA b w L wr o s t p f g pv xv bv):some L≠xv.ownBlock:=by
 obtain⟨cs,h,_⟩:=k.x;exactλe=>BI h k.blk (by decide) e.symm
def KA.neP(k:KA b w L wr o s t p f g pv xv bv):some L≠pv.ownBlock:=λe=>BI k.p k.blk (by decide) e.symm
def KA.neB(k:KA b w L wr o s t p f g pv xv bv):some L≠bv.ownBlock:=by
 obtain⟨cs,h,_⟩:=k.bb;exactλe=>BI h k.blk (by decide) e.symm
def EN(w:World)(v:Value)(t:TypeId):∀j u,[v][j]? =some u->(w.alloc (.cells #[v] t (0,0))).cell? ((⟨w.heap.size,0,none⟩:Addr).add j)=some u:=AY w [v] t
end
def KG{g:Nat}{u:Value}(h:w.cell? ⟨g,i,none⟩=some u):w.cell? ((⟨g,0,none⟩:Addr).add i)=some u:=by
 have e:(⟨g,0,none⟩:Addr).add i=⟨g,i,none⟩:=by unfold Addr.add;split<;>simp_all
 rw[e];exact h
structure KX(b:Nat)(w:World)(L:Nat)(wr:World)(o:Int)(s t:Bs)(p:List Bs)(f:Fo)(g:Bl)(c4 pv xv bv:Value):Prop where
 blk:Blk wr L [.int .i64 o,str s,str t,pv,c4,bv,.int .i64 0,.slice none 0 0,.slice none 0 0,.slice none 0 0] 134
 p:wr.ownsRow (w.heap.size+1) 9 1 pv p.length (p.map str)
 x:∃cs,wr.ownsRow (w.heap.size+1) 163 7 xv f.len cs/\RepF (fre w L pv xv bv) wr f cs
 bb:∃cs,wr.ownsRow (w.heap.size+1) 38 1 bv g.len cs/\RepT (fre w L pv xv bv) wr g true cs
 gr:w.grownBy wr (some b)
 bw:b<w.heap.size
 wL:w.heap.size<L
 zero:Blk wr w.heap.size (stC 0 (.slice none 0 0)) 134
structure KP(b:Nat)(w:World)(L:Nat)(wr:World)(o:Int)(s t:Bs)(p:List Bs)(f:Fo)(g:Bl)(c4 pv:Value)(j cap:Nat)(bv:Value):Prop where
 blk:Blk wr L [.int .i64 o,str s,str t,pv,c4,bv,.int .i64 0,.slice none 0 0,.slice none 0 0,.slice none 0 0] 134
 p:wr.ownsRow (w.heap.size+1) 9 1 pv p.length (p.map str)
 x:∃cs z,z.length=7/\cs.length=f.len*7/\wr.ownsRow (w.heap.size+1) 163 7 (.slice (some ⟨j,0,none⟩) (f.len+1) cap) (f.len+1) (cs++z)/\RepF (fre w L pv (.slice (some ⟨j,0,none⟩) (f.len+1) cap) bv) wr f cs
 bb:∃cs,wr.ownsRow (w.heap.size+1) 38 1 bv g.len cs/\RepT (fre w L pv (.slice (some ⟨j,0,none⟩) (f.len+1) cap) bv) wr g true cs
 gr:w.grownBy wr (some b)
 bw:b<w.heap.size
 wL:w.heap.size<L
 zero:Blk wr w.heap.size (stC 0 (.slice none 0 0)) 134
section
variable {t:Bs}
def KP.lt(k:KP b w L wr o s t p f g c4 pv j cap bv):L<wr.heap.size:=k.blk.lt
def KP.bj(k:KP b w L wr o s t p f g c4 pv j cap bv):b<j/\w.heap.size<j/\j<wr.heap.size:=by
 obtain⟨cs,z,_,_,hx,_⟩:=k.x;have h:=hx.lt j (by simp[Value.ownBlock]);have:=k.bw;exact⟨by omega,by omega,h.2⟩
def KP.bL(k:KP b w L wr o s t p f g c4 pv j cap bv):b<L:=by have:=k.bw;have:=k.wL;omega
def KA.shapeX(k:KA b w L wr o s t p f g pv xv bv):∃xa xc,xv= .slice xa f.len xc:=by
 obtain⟨cs,h,_⟩:=k.x;obtain⟨a,c,e,_⟩:=Db h;exact⟨a,c,e⟩
def KA.pend(k:KA b w L wr o s t p f g pv xv bv)(hz:z.length=7)(hx:wr.ownsRow (w.heap.size+1) 163 7 xv f.len cs)(hr:RepF (fre w L pv xv bv) wr f cs)
 (ho:w1.ownsRow (w.heap.size+1) 163 7 (.slice (some ⟨j,0,none⟩) (f.len+1) cap) (f.len+1) (cs++z)) (hg:wr.grownBy w1 xv.ownBlock) (hat:xv.ownBlock=some j\/j=wr.heap.size):
 KP b w L w1 o s t p f g xv pv j cap bv:=by
 have hwL:=k.wL;have hLt:=k.lt;have hbw:=k.bw;have hnew:∀q,(Value.slice (some ⟨j,0,none⟩) (f.len+1) cap).ownBlock=some q->xv.ownBlock=some q\/wr.heap.size<=q:=λq hq=>FI hat hq;obtain⟨ds,h3,h4⟩:=k.bb;have nL:=BI hx k.blk (by decide);have nP:=EG k.p hx (by decide);have nB:=EG h3 hx (by decide);have nZ:xv.ownBlock≠some w.heap.size:=λe=>by have:=(k.belowX _ e).2;omega
 have hfre:∀q,fre w L pv xv bv q->q<wr.heap.size->fre w L pv (.slice (some ⟨j,0,none⟩) (f.len+1) cap) bv q/\xv.ownBlock≠some q:=λq hq hlt=>⟨⟨hq.1,hq.2.1,hq.2.2.1,λe=>by(rcases hnew _ e with h|h;exact hq.2.2.2.1 h;omega),hq.2.2.2.2⟩,hq.2.2.2.1⟩;have hne:∀q,(fre w L pv (.slice (some ⟨j,0,none⟩) (f.len+1) cap) bv q/\xv.ownBlock≠some q)->q<wr.heap.size->some q≠xv.ownBlock:=λq hq _ e=>hq.2 e.symm;have keep:∀{e size n:Nat}{v:Value}{xs:List Value},wr.ownsRow (w.heap.size+1) e size v n xs->(∀q,v.ownBlock=some q->xv.ownBlock≠some q)->w1.ownsRow (w.heap.size+1) e size v n xs:=by
  intro e size n v xs h a1;refine h.kept hg ?_;cases hv:v.ownBlock with
  |none=>exact .inl rfl
  |some q=>exact .inr λe=>a1 q hv e.symm
 exact⟨k.blk.gb hg (λe=>nL e.symm),keep k.p nP,⟨cs,z,hz,hr.len,ho,((hr.mono' hfre).gb hg hne).mono' λq hq _=>hq.1⟩,⟨ds,keep h3 nB,((RepT.mono hfre h4).gb hg hne).mono' λq hq _=>hq.1⟩,EE k.gr hg λq hq=>by(have:=(k.belowX q hq).2;omega),hbw,hwL,k.zero.gb hg (λe=>nZ e.symm)⟩
def KP.put4(k:KP b w L wr o s t p f g c4 pv j cap bv)(v:Value):KP b w L (wr.setCell ⟨L,4,none⟩ v) o s t p f g v pv j cap bv:=by
 have hwL:=k.wL;have g1:=Am (Aa wr (some L)) 4 v;obtain⟨cs,z,hz,hc,h1,h2⟩:=k.x;obtain⟨ds,h3,h4⟩:=k.bb;have keep:∀{e size n:Nat}{u:Value}{xs:List Value},wr.ownsRow (w.heap.size+1) e size u n xs->e≠134->(wr.setCell ⟨L,4,none⟩ v).ownsRow (w.heap.size+1) e size u n xs:=by
  intro e size n u xs h hne;have h1:=BI h k.blk hne;refine h.kept g1 ?_;cases hv:u.ownBlock with
  |none=>exact .inl rfl
  |some q=>exact .inr λe=>by cases e;exact h1 hv
 have hne2:∀q,fre w L pv (.slice (some ⟨j,0,none⟩) (f.len+1) cap) bv q->q<wr.heap.size->some q≠some L:=λq hq _ e=>by cases e;exact hq.2.1 rfl
 exact⟨(k.blk.set 4 _).of_eq rfl rfl,keep k.p (by decide),⟨cs,z,hz,hc,keep h1 (by decide),h2.gb g1 hne2⟩,⟨ds,keep h3 (by decide),h4.gb g1 hne2⟩,Ap k.gr g1 (.inr (by omega)),k.bw,hwL,k.zero.gb g1 (by simp;omega)⟩
def D1(w:World)(j n:Nat)(v0 v1 v2 v3 v4 v5 v6:Value):World:=
 ((((((w.setCell ⟨j,n,none⟩ v0).setCell ⟨j,n+1,none⟩ v1).setCell ⟨j,n+2,none⟩ v2).setCell ⟨j,n+3,none⟩ v3).setCell ⟨j,n+4,none⟩ v4).setCell ⟨j,n+5,none⟩ v5).setCell ⟨j,n+6,none⟩ v6
def KN(w:World)(j n:Nat)(v0 v1 v2 v3 v4 v5 v6:Value):w.grownBy (D1 w j n v0 v1 v2 v3 v4 v5 v6) (some j):=
 Am (Am (Am (Am (Am (Am (Am (Aa w (some j)) n v0) (n+1) v1) (n+2) v2) (n+3) v3) (n+4) v4) (n+5) v5) (n+6) v6
def WM(hn:cs.length=n)(hz:z.length=7)(v0 v1 v2 v3 v4 v5 v6:Value):
 (((((((cs++z).set n v0).set (n+1) v1).set (n+2) v2).set (n+3) v3).set (n+4) v4).set (n+5) v5).set (n+6) v6=cs++[v0,v1,v2,v3,v4,v5,v6]:=by
 subst hn;match z,hz with
 | [a0,a1,a2,a3,a4,a5,a6],_=>simp[List.set_append]
def Uj(h:wr.ownsRow B e 7 (.slice (some ⟨j,0,none⟩) m cap) m (cs++z))(hn:cs.length=n)(hz:z.length=7)(v0 v1 v2 v3 v4 v5 v6:Value):
 (D1 wr j n v0 v1 v2 v3 v4 v5 v6).ownsRow B e 7 (.slice (some ⟨j,0,none⟩) m cap) m (cs++[v0,v1,v2,v3,v4,v5,v6]):=by
 rw[<-WM hn hz];exact(((((((h.stored n v0).1.stored (n+1) v1).1.stored (n+2) v2).1.stored (n+3) v3).1.stored (n+4) v4).1.stored (n+5) v5).1.stored (n+6) v6).1
def KP.last(k:KP b w L wr o s t p f g c4 pv j cap bv){x:Ex}
 (rp:Cells wr (.slice pa x.h.p.length pc) 1 x.h.p.length (x.h.p.map str) (fre w L pv (.slice (some ⟨j,0,none⟩) (f.len+1) cap) bv)) (rl:RepL (fre w L pv (.slice (some ⟨j,0,none⟩) (f.len+1) cap) bv) wr (.slice la x.kids.len lc) x.kids):
 KX b w L (D1 wr j (f.len*7) (.int .i64 x.h.op) (str x.h.s) (.int .i64 x.h.vk) (.int .i64 x.h.vn) (str x.h.vs) (.slice pa x.h.p.length pc) (.slice la x.kids.len lc)) o s t p (f.snoc x) g c4 pv (.slice (some ⟨j,0,none⟩) (f.len+1) cap) bv:=by
 have hwL:=k.wL;have hbj:=k.bj;obtain⟨cs,z,hz,hc,h1,h2⟩:=k.x;obtain⟨ds,h3,h4⟩:=k.bb;have g1:=KN wr j (f.len*7) (.int .i64 x.h.op) (str x.h.s) (.int .i64 x.h.vk) (.int .i64 x.h.vn) (str x.h.vs) (.slice pa x.h.p.length pc) (.slice la x.kids.len lc);have hown:(Value.slice (some ⟨j,0,none⟩) (f.len+1) cap).ownBlock=some j:=by simp[Value.ownBlock]
 have nL:=BI h1 k.blk (by decide);have keep:∀{e size n:Nat}{u:Value}{xs:List Value},wr.ownsRow (w.heap.size+1) e size u n xs->e≠163->(D1 wr j (f.len*7) (.int .i64 x.h.op) (str x.h.s) (.int .i64 x.h.vk) (.int .i64 x.h.vn) (str x.h.vs) (.slice pa x.h.p.length pc) (.slice la x.kids.len lc)).ownsRow (w.heap.size+1) e size u n xs:=by
  intro e size n u xs h hne;have h5:=EG h h1 hne;refine h.kept g1 ?_;cases hv:u.ownBlock with
  |none=>exact .inl rfl
  |some q=>exact .inr λe=>by cases e;exact h5 _ hv hown
 have hne2:∀q,fre w L pv (.slice (some ⟨j,0,none⟩) (f.len+1) cap) bv q->q<wr.heap.size->some q≠some j:=λq hq _ e=>by cases e;exact hq.2.2.2.1 hown
 refine⟨k.blk.gb g1 (λe=>nL (by cases e;exact hown)),keep k.p (by decide),⟨cs++hdC x.h (.slice pa x.h.p.length pc) (.slice la x.kids.len lc),?_,?_⟩,⟨ds,keep h3 (by decide),h4.gb g1 hne2⟩,Ap k.gr g1 (.inr (by omega)),k.bw,hwL,k.zero.gb g1 (by simp;omega)⟩
 ·rw[Fo.len_snoc];exact Uj h1 hc hz _ _ _ _ _ _ _
 ·exact(h2.app (VE.rep rp rl)).gb g1 hne2
def KX.put4(k:KX b w L wr o s t p f g c4 pv xv bv):KA b w L (wr.setCell ⟨L,4,none⟩ xv) o s t p f g pv xv bv:=by
 have hwL:=k.wL;have g1:=Am (Aa wr (some L)) 4 xv;obtain⟨cs,h1,h2⟩:=k.x;obtain⟨ds,h3,h4⟩:=k.bb;have keep:∀{e size n:Nat}{u:Value}{xs:List Value},wr.ownsRow (w.heap.size+1) e size u n xs->e≠134->(wr.setCell ⟨L,4,none⟩ xv).ownsRow (w.heap.size+1) e size u n xs:=by
  intro e size n u xs h hne;have h1:=BI h k.blk hne;refine h.kept g1 ?_;cases hv:u.ownBlock with
  |none=>exact .inl rfl
  |some q=>exact .inr λe=>by cases e;exact h1 hv
 have hne2:∀q,fre w L pv xv bv q->q<wr.heap.size->some q≠some L:=λq hq _ e=>by cases e;exact hq.2.1 rfl
 exact⟨(k.blk.set 4 _).of_eq rfl rfl,keep k.p (by decide),⟨cs,keep h1 (by decide),h2.gb g1 hne2⟩,⟨ds,keep h3 (by decide),h4.gb g1 hne2⟩,Ap k.gr g1 (.inr (by omega)),k.bw,hwL,k.zero.gb g1 (by simp;omega)⟩
def KX.toKA(k:KX b w L wr o s t p f g xv pv xv bv):KA b w L wr o s t p f g pv xv bv:=⟨k.blk,k.p,k.x,k.bb,k.gr,k.bw,k.wL,k.zero⟩
def KA.freP(hB:∀q,B<=q->fre w L pv xv bv q)(hat:xv.ownBlock=some j\/j=wr.heap.size)(q:Nat)(hq:B<=q)(hl:q<wr.heap.size):fre w L pv (.slice (some ⟨j,0,none⟩) (f.len+1) cap) bv q:=by
 have h:=hB q hq;refine⟨h.1,h.2.1,h.2.2.1,λe=>?_,h.2.2.2.2⟩;rcases FI hat e with h1|h1
 ·exact h.2.2.2.1 h1
 ·omega
def KA.layX(k:KA b w L wr o s t p f g pv xv bv){x:Ex}(rp:Cells wr (.slice pa x.h.p.length pc) 1 x.h.p.length (x.h.p.map str) okx)(rl:RepL okx wr (.slice la x.kids.len lc) x.kids)(hok:∀q,okx q->fre w L pv xv bv q):
 KA b w L ((wr.setCell ⟨L,4,none⟩ (.slice (some ⟨wr.heap.size,0,none⟩) 1 1)).alloc (.cells (hdC x.h (.slice pa x.h.p.length pc) (.slice la x.kids.len lc)).toArray 163 (0,0))) o s t p (.one x) g pv (.slice (some ⟨wr.heap.size,0,none⟩) 1 1) bv:=by
 have hwL:=k.wL;have hLt:=k.lt;obtain⟨cs0,hx,hr⟩:=k.x;obtain⟨ds,h3,h4⟩:=k.bb;have g1:=Am (Aa wr (some L)) 4 (.slice (some ⟨wr.heap.size,0,none⟩) 1 1);have g2:=gZ (wr.setCell ⟨L,4,none⟩ (.slice (some ⟨wr.heap.size,0,none⟩) 1 1)) (.cells (hdC x.h (.slice pa x.h.p.length pc) (.slice la x.kids.len lc)).toArray 163 (0,0)) none;have keep:∀{e size n:Nat}{u:Value}{xs:List Value},wr.ownsRow (w.heap.size+1) e size u n xs->e≠134->((wr.setCell ⟨L,4,none⟩ (.slice (some ⟨wr.heap.size,0,none⟩) 1 1)).alloc (.cells (hdC x.h (.slice pa x.h.p.length pc) (.slice la x.kids.len lc)).toArray 163 (0,0))).ownsRow (w.heap.size+1) e size u n xs:=by
  intro e size n u xs h hne;have h1:=BI h k.blk hne;refine(h.kept g1 ?_).kept g2 ?_
  ·cases hv:u.ownBlock with
   |none=>exact .inl rfl
   |some q=>exact .inr λe=>by cases e;exact h1 hv
  ·cases hv:u.ownBlock with
   |none=>exact .inl rfl
   |some q=>exact .inr (by simp)
 have hfr:∀q,fre w L pv xv bv q->q<wr.heap.size->fre w L pv (.slice (some ⟨wr.heap.size,0,none⟩) 1 1) bv q/\some q≠some L:=λq hq hlt=>⟨⟨hq.1,hq.2.1,hq.2.2.1,by simp[Value.ownBlock];omega,hq.2.2.2.2⟩,λe=>by cases e;exact hq.2.1 rfl⟩;refine⟨((k.blk.set 4 _).of_eq rfl rfl).alloc _,keep k.p (by decide),⟨hdC x.h (.slice pa x.h.p.length pc) (.slice la x.kids.len lc),Gu (by simp) (by simp;omega) rfl (by decide),?_⟩,⟨ds,keep h3 (by decide),?_⟩,Ac (Ap k.gr g1 (.inr (by omega))) _,k.bw,hwL,(k.zero.gb g1 (by simp;omega)).alloc _⟩
 ·have h1:RepF okx wr (.one x) (hdC x.h (.slice pa x.h.p.length pc) (.slice la x.kids.len lc)):=VE.rep rp rl;exact(((h1.mono' (λq hq hl=>hfr q (hok q hq) hl)).gb g1 (λq hq _=>hq.2)).gb g2 (by simp)).mono' λq hq _=>hq.1
 ·exact((((RepT.mono hfr h4)).gb g1 (λq hq _=>hq.2)).gb g2 (by simp)).mono' λq hq _=>hq.1
def KA.layP(k:KA b w L wr o s t p f g pv xv bv)(y:Bs):
 KA b w L ((wr.setCell ⟨L,3,none⟩ (.slice (some ⟨wr.heap.size,0,none⟩) 1 1)).alloc (.cells #[str y] 9 (0,0))) o s t [y] f g (.slice (some ⟨wr.heap.size,0,none⟩) 1 1) xv bv:=by
 have hwL:=k.wL;have hLt:=k.lt;obtain⟨cs0,hx,hr⟩:=k.x;obtain⟨ds,h3,h4⟩:=k.bb;have g1:=Am (Aa wr (some L)) 3 (.slice (some ⟨wr.heap.size,0,none⟩) 1 1);have g2:=gZ (wr.setCell ⟨L,3,none⟩ (.slice (some ⟨wr.heap.size,0,none⟩) 1 1)) (.cells #[str y] 9 (0,0)) none;have keep:∀{e size n:Nat}{u:Value}{xs:List Value},wr.ownsRow (w.heap.size+1) e size u n xs->e≠134->((wr.setCell ⟨L,3,none⟩ (.slice (some ⟨wr.heap.size,0,none⟩) 1 1)).alloc (.cells #[str y] 9 (0,0))).ownsRow (w.heap.size+1) e size u n xs:=by
  intro e size n u xs h hne;have h1:=BI h k.blk hne;refine(h.kept g1 ?_).kept g2 ?_
  ·cases hv:u.ownBlock with
   |none=>exact .inl rfl
   |some q=>exact .inr λe=>by cases e;exact h1 hv
  ·cases hv:u.ownBlock with
   |none=>exact .inl rfl
   |some q=>exact .inr (by simp)
 have hfr:∀q,fre w L pv xv bv q->q<wr.heap.size->fre w L (.slice (some ⟨wr.heap.size,0,none⟩) 1 1) xv bv q/\some q≠some L:=λq hq hlt=>⟨⟨hq.1,hq.2.1,by simp[Value.ownBlock];omega,hq.2.2.2⟩,λe=>by cases e;exact hq.2.1 rfl⟩;have hO:((wr.setCell ⟨L,3,none⟩ (.slice (some ⟨wr.heap.size,0,none⟩) 1 1)).alloc (.cells [str y].toArray 9 (0,0))).ownsRow (w.heap.size+1) 9 1 (.slice (some ⟨wr.heap.size,0,none⟩) 1 1) 1 [str y]:=Gu (by simp) (by simp;omega) rfl (by decide);exact⟨((k.blk.set 3 _).of_eq rfl rfl).alloc _,hO,⟨cs0,keep hx (by decide),(((hr.mono' hfr).gb g1 (λq hq _=>hq.2)).gb g2 (by simp)).mono' λq hq _=>hq.1⟩,⟨ds,keep h3 (by decide),((((RepT.mono hfr h4)).gb g1 (λq hq _=>hq.2)).gb g2 (by simp)).mono' λq hq _=>hq.1⟩,Ac (Ap k.gr g1 (.inr (by omega))) _,k.bw,hwL,(k.zero.gb g1 (by simp;omega)).alloc _⟩
def KA.putT(k:KA b w L wr o s t p f g pv xv bv)(t':Bs):KA b w L (wr.setCell ⟨L,2,none⟩ (str t')) o s t' p f g pv xv bv:=by
 have hwL:=k.wL;have g1:=Am (Aa wr (some L)) 2 (str t');obtain⟨cs,h1,h2⟩:=k.x;obtain⟨ds,h3,h4⟩:=k.bb;have keep:∀{e size n:Nat}{v:Value}{xs:List Value},wr.ownsRow (w.heap.size+1) e size v n xs->e≠134->(wr.setCell ⟨L,2,none⟩ (str t')).ownsRow (w.heap.size+1) e size v n xs:=by
  intro e size n v xs h hne;have h1:=BI h k.blk hne;refine h.kept g1 ?_;cases hv:v.ownBlock with
  |none=>exact .inl rfl
  |some q=>exact .inr λe=>by cases e;exact h1 hv
 have hne2:∀q,fre w L pv xv bv q->q<wr.heap.size->some q≠some L:=λq hq _ e=>by cases e;exact hq.2.1 rfl
 exact⟨(k.blk.set 2 _).of_eq rfl rfl,keep k.p (by decide),⟨cs,keep h1 (by decide),h2.gb g1 hne2⟩,⟨ds,keep h3 (by decide),h4.gb g1 hne2⟩,Ap k.gr g1 (.inr (by omega)),k.bw,hwL,k.zero.gb g1 (by simp;omega)⟩
def KP.cellE(k:KP b w L wr o s t p f g c4 pv j cap bv)(i:Nat)(hi:i<7):∃u,wr.cell? ⟨j,f.len*7+i,none⟩=some u:=by
 obtain⟨cs,z,hz,hc,h1,_⟩:=k.x;have h:=h1.cellAt (f.len*7+i) (by omega);rw[h];have hl:f.len*7+i<(cs++z).length:=by rw[lA];omega
 exact⟨(cs++z)[f.len*7+i],by simp[hl]⟩
def KP.frozenE(k:KP b w L wr o s t p f g c4 pv j cap bv)(i:Nat):wr.frozen? ⟨j,i,none⟩=false:=by
 obtain⟨cs,z,hz,hc,h1,_⟩:=k.x;exact h1.frozenAt i
def KP.neL(k:KP b w L wr o s t p f g c4 pv j cap bv):j≠L:=by
 obtain⟨cs,z,hz,hc,h1,_⟩:=k.x;intro e;exact BI h1 k.blk (by decide) (by rw[e];simp[Value.ownBlock])
def KP.end1(k:KP b w L wr o s t p f g c4 pv j cap bv){x:Ex}
 (rp:Cells wr (.slice pa x.h.p.length pc) 1 x.h.p.length (x.h.p.map str) (fre w L pv (.slice (some ⟨j,0,none⟩) (f.len+1) cap) bv)) (rl:RepL (fre w L pv (.slice (some ⟨j,0,none⟩) (f.len+1) cap) bv) wr (.slice la x.kids.len lc) x.kids):
 KA b w L ((D1 wr j (f.len*7) (.int .i64 x.h.op) (str x.h.s) (.int .i64 x.h.vk) (.int .i64 x.h.vn) (str x.h.vs) (.slice pa x.h.p.length pc) (.slice la x.kids.len lc)).setCell ⟨L,4,none⟩ (.slice (some ⟨j,0,none⟩) (f.len+1) cap)) o s t p (f.snoc x) g pv (.slice (some ⟨j,0,none⟩) (f.len+1) cap) bv:=(k.last rp rl).put4
def KP.end2(k:KP b w L wr o s t p f g c4 pv j cap bv){x:Ex}
 (rp:Cells wr (.slice pa x.h.p.length pc) 1 x.h.p.length (x.h.p.map str) (fre w L pv (.slice (some ⟨j,0,none⟩) (f.len+1) cap) bv)) (rl:RepL (fre w L pv (.slice (some ⟨j,0,none⟩) (f.len+1) cap) bv) wr (.slice la x.kids.len lc) x.kids):
 KA b w L (D1 (wr.setCell ⟨L,4,none⟩ (.slice (some ⟨j,0,none⟩) (f.len+1) cap)) j (f.len*7) (.int .i64 x.h.op) (str x.h.s) (.int .i64 x.h.vk) (.int .i64 x.h.vn) (str x.h.vs) (.slice pa x.h.p.length pc) (.slice la x.kids.len lc)) o s t p (f.snoc x) g pv (.slice (some ⟨j,0,none⟩) (f.len+1) cap) bv:=by
 have g1:=Am (Aa wr (some L)) 4 (.slice (some ⟨j,0,none⟩) (f.len+1) cap);have hne:∀q,fre w L pv (.slice (some ⟨j,0,none⟩) (f.len+1) cap) bv q->q<wr.heap.size->some q≠some L:=λq hq _ e=>by cases e;exact hq.2.1 rfl
 exact((k.put4 _).last (rp.gb g1 hne) (rl.gb g1 hne)).toKA
def JA{x:Ex}(rp:Cells wr (.slice pa x.h.p.length pc) 1 x.h.p.length (x.h.p.map str) okx)(rl:RepL okx wr (.slice la x.kids.len lc) x.kids)(hB:∀q,okx q->q<wr.heap.size->B<=q)
 (hF:∀q,B<=q->fre w L pv xv bv q) (hg:wr.grownBy w1 xv.ownBlock) (hat:xv.ownBlock=some j\/j=wr.heap.size):
 Cells w1 (.slice pa x.h.p.length pc) 1 x.h.p.length (x.h.p.map str) (fre w L pv (.slice (some ⟨j,0,none⟩) (f.len+1) cap) bv)/\RepL (fre w L pv (.slice (some ⟨j,0,none⟩) (f.len+1) cap) bv) w1 (.slice la x.kids.len lc) x.kids:=by
 have hfr:∀q,okx q->q<wr.heap.size->fre w L pv (.slice (some ⟨j,0,none⟩) (f.len+1) cap) bv q/\some q≠xv.ownBlock:=λq hq hl=>⟨KA.freP hF hat q (hB q hq hl) hl,λe=>(hF q (hB q hq hl)).2.2.2.1 e.symm⟩;exact⟨((rp.mono hfr).gb hg (λq hq _=>hq.2)).mono λq hq _=>hq.1,((rl.mono hfr).gb hg (λq hq _=>hq.2)).mono λq hq _=>hq.1⟩
end
section
variable {t:Bs}
end
def Jb:(Tryz.prog.info? 38).map (λi=>(i.zero,i.size,i.bytes))=some (some (.slice none 0 0),1,24):=by kernel_rfl
def KA.startB(hz:Blk wr w.heap.size (stC 0 (.slice none 0 0)) 134)(gr:w.grownBy wr (some b))(hb:b<w.heap.size)(hw:w.heap.size<wr.heap.size)(o:Int)(s:Bs)
 {c:Bl}    (rc:RepV okx wr false (.slice ca c.len cc) c) (hok:∀q,okx q->q<wr.heap.size->w.heap.size<q):
 KA b w (wr.heap.size+1) ((wr.alloc (.cells #[.slice ca c.len cc] 38 (0,0))).alloc (.cells #[.int .i64 o,str s,str [],.slice none 0 0,.slice none 0 0,.slice (some ⟨wr.heap.size,0,none⟩) 1 1,.int .i64 0,.slice none 0 0,.slice none 0 0,.slice none 0 0] 134 (0,0))) o s [] [] .nil (.bl c .nil) (.slice none 0 0) (.slice none 0 0) (.slice (some ⟨wr.heap.size,0,none⟩) 1 1):=by
 have g1:=gZ wr (.cells #[.slice ca c.len cc] 38 (0,0)) none;have hO:(wr.alloc (.cells [Value.slice ca c.len cc].toArray 38 (0,0))).ownsRow (w.heap.size+1) 38 1 (.slice (some ⟨wr.heap.size,0,none⟩) 1 1) 1 [.slice ca c.len cc]:=Gu rfl (by omega) rfl (by decide);refine⟨(Blk.new _ _ _).of_eq (by simp) rfl,World.ownsRow_nil _ _ _ _,⟨[],World.ownsRow_nil _ _ _ _,rfl⟩,⟨_,hO.alloc _,?_⟩,Ac (Ac gr _) _,hb,by omega,(hz.alloc _).alloc _⟩;obtain⟨kcs,c1,c2⟩:=rc;have hfr:∀q,okx q->q<wr.heap.size->fre w (wr.heap.size+1) (.slice none 0 0) (.slice none 0 0) (.slice (some ⟨wr.heap.size,0,none⟩) 1 1) q:=λq hq hlt=>⟨hok q hq hlt,by omega,by simp[Value.ownBlock],by simp[Value.ownBlock],by simp[Value.ownBlock];omega⟩;have g2:=Ac g1 (.cells #[.int .i64 o,str s,str [],.slice none 0 0,.slice none 0 0,.slice (some ⟨wr.heap.size,0,none⟩) 1 1,.int .i64 0,.slice none 0 0,.slice none 0 0,.slice none 0 0] 134 (0,0));exact⟨ca,cc,kcs,[],rfl,(c1.mono hfr).gb g2 (by simp),(RepT.mono hfr c2).gb g2 (by simp),rfl⟩
def Ya:(Tryz.prog.info? 134).map (λi=>(i.zero,i.size,i.bytes))=some (some (.agg (stC 0 (.slice none 0 0)).toArray),10,192):=by kernel_rfl
def Sd.nodes(s:Sd):Nat:=s.x.nodes+s.n.nodes+s.f.nodes+s.w.nodes
def Sd.levels(s:Sd):Nat:=max (max s.x.levels s.n.levels) (max s.f.levels s.w.levels)
def Bl.nodes:Bl->Nat
 | .nil=>0
 | .st h b n=>1+h.nodes+b.nodes+n.nodes
 | .bl b n=>b.nodes+n.nodes
def Bl.levels:Bl->Nat
 | .nil=>0
 | .st h b n=>max (1+max h.levels b.levels) n.levels
 | .bl b n=>max b.levels n.levels
def Bl.nodes_app:∀a b:Bl,(a.app b).nodes=a.nodes+b.nodes:=by
 intro a;induction a with
 |nil=>intro b;simp[Bl.app,Bl.nodes]
 |st h k n _ ih=>intro b;simp[Bl.app,Bl.nodes,ih];omega
 |bl k n _ ih=>intro b;simp[Bl.app,Bl.nodes,ih];omega
abbrev sb(r:StB):Nat:=1+r.1.nodes+r.2.nodes
def Bg{l:List Tok}{α:Type}(P:Rd l α)(m:α->Nat)(c:Nat):Prop:=∀i a j,P.f i= .ok a j->m a+i<=j+c
open Rd
def Bg.le{P:Rd l α}{m:α->Nat}(h:Bg P m c)(hc:c<=d):Bg P m d:=λi a j e=>by have:=h i a j e;omega
def Bg.pure{a:α}{m:α->Nat}(h:m a<=c):Bg (pure a:Rd l α) m c:=λi b j e=>by
 have e':Res.ok a i=Res.ok b j:=e
 cases e';omega
def Bg.bad{a:α}{m:α->Nat}:Bg (bad a:Rd l α) m c:=λi b j e=>by
 have e':Res.bad i=Res.ok b j:=e
 cases e'
def Bg.out{a:α}{m:α->Nat}:Bg (out a:Rd l α) m c:=λi b j e=>by
 have e':Res.out=Res.ok b j:=e
 cases e'
def Bg.bind{P:Rd l α}{Q:α->Rd l β}{m:β->Nat}(m1:α->Nat)(c1 d:Nat)(h1:Bg P m1 c1)(h2:∀x,Bg (Q x) m (m1 x+d))(hc:c1+d<=c):Bg (P.bind Q) m c:=by
 intro i b k e;have e':(P.f i).bind (λx j=>(Q x).f j)= .ok b k:=e;cases hr:P.f i with
 | ok a j=>
   rw[hr,Res.bind_ok]at e';have:=h1 i a j hr;have:=h2 a j b k e';omega
 |bad q=>rw[hr]at e';cases e'
 |out=>rw[hr]at e';cases e'
def Bg.of{P:Rd l α}{m:α->Nat}(h:∀i,Big m i (P.f i)):Bg P m 0:=λi a j e=>by
 have:=h i
 rw[e]at this
 simp only[Big]at this
 omega
def EB:Bg (want s:Rd l Unit) AJ 0:=Bg.of λi=>DU s i
def AI:Bg (fin:Rd l Unit) AJ 0:=Bg.of λi=>XO i
def NY(hn:Aj l):Bg (name hn:Rd l Bs) AJ 0:=Bg.of λi=>Ff i
def Nz(hn:Aj l):Bg (name hn:Rd l Bs) (λ_=>0) c:=λi a j e=>by
 have:=NY hn i a j e
 simp only[AJ]at this
 show 0+i<=j+c
 omega
def XC:Bg (skip:Rd l Unit) AJ 0:=λi a j e=>by
 have e':Res.ok () (i+1)=Res.ok a j:=e
 cases e';simp only[AJ];omega
def C3{p q:Rd l α}{m:α->Nat}(hp:Bg p m (c+1))(hq:Bg q m c):Bg (ifs s p q) m c:=λi a j e=>by
 have e':(if Ah (Ab l i) s then p.f (i+1)else q.f i)= .ok a j:=e
 split at e'
 ·have:=hp _ _ _ e';omega
 ·exact hq _ _ _ e'
def EA{p q:Rd l α}{m:α->Nat}(hp:Bg p m c)(hq:Bg q m c):Bg (cond t p q) m c:=λi a j e=>by
 have e':(if t i then p.f i else q.f i)= .ok a j:=e
 split at e'
 ·exact hp _ _ _ e'
 ·exact hq _ _ _ e'
def Nv{p q:Rd l α}{m:α->Nat}(hp:Bg p m c)(hq:Bg q m c):Bg (condW t p q) m c:=EA (t:=t) hp hq
def Hc{p q:Rd l α}{m:α->Nat}(hp:Bg p m c)(hq:Bg q m c):Bg (Hx t p q) m c:=EA (t:=t) hp hq
def Bo{p:Rd l α}{m:α->Nat}(hp:Bg p m (c+1)):Bg (skip.bind λ_=>p) m c:=Bg.bind AJ 0 c XC (λ_=>hp.le (by simp only[AJ];omega)) (by omega)
def Cl{w:Bs}{p q:Rd l α}{m:α->Nat}(hp:Bg p m (c+1))(hq:Bg q m c):Bg (ifw W w p q) m c:=Hc (Bo hp) hq
def BH{w:Bs}:Bg (must W w:Rd l Unit) AJ 0:=Cl (Bg.pure (by simp only[AJ];omega)) Bg.bad
def X7:Bg (here W:Rd l Bs) (λ_=>0) 0:=λi a j e=>by
 have e':Res.ok (Ar l W i) i=Res.ok a j:=e
 cases e';exact Nat.le_of_eq (by simp)
def CR{c:Prop} [Decidable c] {p q:Rd l α} {m:α->Nat}  (hp:Bg p m d) (hq:Bg q m d):Bg (if c then p else q) m d:=by
 by_cases h:c
 ·rw[if_pos h];exact hp
 ·rw[if_neg h];exact hq
def Ao{P:Rd l Unit}{q:Rd l α}{m:α->Nat}(h:Bg P AJ 0)(hq:Bg q m (c+1)):Bg (P.bind λ_=>q) m c:=Bg.bind AJ 0 c h (λ_=>hq.le (by simp only[AJ];omega)) (by omega)
def Cf{hn:Aj l}{q:Bs->Rd l α}{m:α->Nat}(hq:∀s,Bg (q s) m (c+1)):Bg ((name hn).bind q) m c:=Bg.bind AJ 0 c (NY hn) (λs=>(hq s).le (by simp only[AJ];omega)) (by omega)
def FV{q:Bs->Rd l α}{m:α->Nat}(hq:∀s,Bg (q s) m c):Bg ((here W).bind q) m c:=Bg.bind (λ_=>0) 0 c X7 (λs=>(hq s).le (by omega)) (by omega)
def KB{step:α->Rd l α}{m:α->Nat}(h:∀a,Bg (step a) m (m a)):∀k a,Bg (moreS s step k a) m (m a):=by
 intro k;induction k with
 |zero=>exactλa=>Bg.out
 |succ k ih=>exactλa=>C3 (Bg.bind m (m a) 0 (h a) (λx=>ih x) (by omega)) (Bg.pure (nR _))
def Ny{w:Bs}{step:α->Rd l α}{m:α->Nat}(h:∀a,Bg (step a) m (m a)):∀k a,Bg (moreW W w step k a) m (m a):=by
 intro k;induction k with
 |zero=>exactλa=>Bg.out
 |succ k ih=>exactλa=>Cl (Bg.bind m (m a) 0 (h a) (λx=>ih x) (by omega)) (Bg.pure (nR _))
section
open Rd
variable (hn:Aj l)(W:List Bs)(day:Bs->Int){block:Rd l Bl}
def IW:Bg (B5 hn day n) Ex.nodes 0:=Bg.of λi=>I6 (l:=l) day n i
def Hh:Bg (GH hn day n) Fo.nodes 0:=Bg.of λi=>Ka (λq=>I6 (l:=l) day n q) i
def Nw:Bg (Lh hn day n) Ex.nodes 0:=Bg.of λi=>Mr (λq=>I6 (l:=l) day n q) i
def BN{q:Ex->Rd l α}{m:α->Nat}(hq:∀x,Bg (q x) m (x.nodes+c)):Bg ((B5 hn day n).bind q) m c:=Bg.bind Ex.nodes 0 c (IW hn day) hq (by omega)
def Hi:Bg (Ic hn day n) Fo.nodes 0:=Nv (Bg.pure (nR _)) (BN hn day λx=>Bg.pure (by rw[Fo.nodes_one];omega))
def Im(a:List Bs×Fo):Bg (FP hn day n a) (λp=>p.2.nodes) a.2.nodes:=
 Cf λs=>Bg.bind Ex.nodes 1 a.2.nodes (C3 ((IW hn day).le (by omega)) (Bg.pure (by simp[C4,Ex.nodes,Fo.nodes]))) (λx=>Bg.pure (by simp only[Fo.nodes_snoc];omega)) (by omega)
def R8(w:Bs):Bg (D4 hn day n w) sb 1:=
 Bg.bind (λp=>p.2.nodes) 0 1 ((Im hn day ([],.nil)).le (by simp[Fo.nodes])) (λa=>Bg.bind (λp=>p.2.nodes) a.2.nodes 1 (KB (m:=λp:List Bs×Fo=>p.2.nodes) (Im hn day) n a) (λa=>Ao AI (Bg.pure (by simp[sb,Sd.nodes,sd0,Fo.nodes,Bl.nodes];omega))) (by omega)) (by omega)
abbrev pb(a:Fo×Bl):Nat:=a.1.nodes+a.2.nodes
def KU(hb:Bg block Bl.nodes 0)(a:Fo×Bl):Bg (Dy hn day n block a) pb (pb a):=
 BN hn day λx=>Ao AI (Bg.bind Bl.nodes 0 (x.nodes+pb a) hb (λb=>Bg.pure (by simp only[pb,Fo.nodes_snoc,Bl.nodes_app,Bl.nodes];omega)) (by omega))
def MJ(hb:Bg block Bl.nodes 0)(more other last:Bs):Bg (Em hn W day n block more other last) sb 1:=
 Bg.bind pb 0 1 ((KU hn day hb (.nil,.nil)).le (by simp[pb,Fo.nodes,Bl.nodes])) (λa=>Bg.bind pb (pb a) 1 (Ny (m:=pb) (KU hn day hb) n a) (λa=>
  Bg.bind Bl.nodes a.2.nodes (a.1.nodes+1) (Cl (Ao AI (Bg.bind Bl.nodes 0 a.2.nodes hb (λb=>Bg.pure (by simp only[Bl.nodes_app,Bl.nodes];omega)) (by omega))) (Bg.pure (nR _)))
   (λb=>Ao BH (Ao AI (Bg.pure (by simp[sb,Sd.nodes,sd0,Fo.nodes];omega)))) (by simp only[pb];omega)) (by omega)) (by omega)
def bg_do(hb:Bg block Bl.nodes 0):Bg (doP hn W day n block) sb 1:=
 Cl (Ao AI (Ao BH ((MJ hn W day hb _ _ _).le (by omega))))
  (Cl (Bg.bind pb 0 1 ((KU hn day hb (.nil,.nil)).le (by simp[pb,Fo.nodes,Bl.nodes])) (λa=>Ao BH (Ao AI (Bg.pure (by simp[sb,pb,Sd.nodes,sd0,Fo.nodes];omega)))) (by omega))
   (Cf λs=>Bg.bind Fo.nodes 0 1 (Cl ((Hh hn day).le (by omega)) (Bg.pure (by simp[Fo.nodes]))) (λf=>Ao AI (Bg.pure (by simp[sb,Sd.nodes,sd0,Fo.nodes,Bl.nodes];omega))) (by omega)))
def X8(hb:Bg block Bl.nodes 0):Bg (EM hn W day n block) sb 1:=
 Cf λs=>Ao EB (BN hn day λx=>Ao BH (BN hn day λy=>Bg.bind Ex.nodes 1 (y.nodes+x.nodes+1) (Cl ((IW hn day).le (by omega)) (Bg.pure (by simp[A6,Ex.nodes,Fo.nodes])))
  (λz=>Ao AI (Bg.bind Bl.nodes 0 (z.nodes+y.nodes+x.nodes+1) hb (λb=>Ao BH (Ao AI (Bg.pure (by simp[sb,Sd.nodes,sd0,Fo.nodes,Bl.nodes,Fo.nodes_snoc,Fo.nodes_one];omega)))) (by omega))) (by omega)))
def Wn(hb:Bg block Bl.nodes 0):Bg (EF hn W block) sb 1:=
 Ao BH (Ao AI (Bg.bind Bl.nodes 0 1 hb (λb=>Bg.bind (λr=>r.2.nodes) b.nodes 1
  (Cl (Bg.bind (λ_=>0) 0 b.nodes (Cl (Nz hn) (Bg.pure (nR _))) (λs=>Ao AI (Bg.bind Bl.nodes 0 b.nodes hb (λc=>Bg.pure (by simp[Bl.nodes];omega)) (by omega))) (by omega))
   (Bg.pure (by simp[Bl.nodes]))) (λr=>Ao BH (Ao AI (Bg.pure (by simp[sb,Sd.nodes,sd0,Fo.nodes];omega)))) (by omega)) (by omega)))
def ScM.nodes(c:ScM):Nat:=c.n.nodes+c.f.nodes+c.w.nodes
def QJ(s:Sd)(c:ScM):(CU s c).nodes<=s.nodes+c.nodes:=by simp only[CU,Sd.nodes,ScM.nodes];omega
def Wq:∀k c,Bg (Bz hn W day n k c) ScM.nodes c.nodes:=by
 intro k;induction k with
 |zero=>exactλc=>Bg.out
 | succ k ih=>
   intro c;unfold Bz;refine Nv (Bg.pure (nR _)) (FV λw=>CR (Bo (CR (BN hn day λx=>(ih _).le ?_) ((ih _).le ?_))) (CR (Bo (BN hn day λx=>(ih _).le ?_)) (CR (Bo (BN hn day λx=>(ih _).le ?_)) (Bg.pure (nR _)))));all_goals(simp only[ScM.nodes,Fo.nodes_one];omega)
def TP:Bg (Bz hn W day n n Ck) ScM.nodes 0:=(Wq hn W day n Ck).le (by simp[Ck,ScM.nodes,Fo.nodes])
def Jp{s:Sd}(h:s.nodes<=c):Bg ((Bz hn W day n n Ck).bind λk=>pure (CU s k)) Sd.nodes c:=
 Bg.bind ScM.nodes 0 c (TP hn W day) (λk=>Bg.pure (by have:=QJ s k;omega)) (by omega)
def LC(a:List Bs×Fo):Bg (E8 hn W day n a) (λp=>p.2.nodes) a.2.nodes:=
 Cf λs=>Ao BH (BN hn day λx=>Bg.pure (by simp only[Fo.nodes_snoc];omega))
def Wo(s:Sd)(hs:s.nodes=0):Bg (Fv hn W day n s) Sd.nodes 0:=by
 have h0:s.n.nodes=0/\s.f.nodes=0/\s.w.nodes=0:=by simp only[Sd.nodes]at hs;omega
 refine Ao BH (BN hn day λx=>Ao BH (Cf λp=>Bg.bind Fo.nodes x.nodes 0 (Cl (BN hn day λy=>Bg.pure (by rw[Fo.nodes_two];omega)) (Bg.pure (by rw[Fo.nodes_one];omega))) (λf=>FV λw=>?_) (by omega)));refine Bg.bind (λ_=>0) 0 f.nodes (CR (Bo (Bg.pure (nZ _))) (Bg.pure (nZ _))) (λt=>?_) (by omega);refine Bg.bind (λ_=>0) 0 f.nodes (Cl (Bg.pure (nZ _)) (Bg.pure (nZ _))) (λps=>Bg.pure ?_) (by omega);simp only[Sd.nodes];omega
def R9(s:Sd)(hs:s.nodes=0):Bg (Fg hn W day n s) Sd.nodes 0:=by
 have h0:s.x.nodes=0/\s.n.nodes=0/\s.f.nodes=0/\s.w.nodes=0:=by simp only[Sd.nodes]at hs;omega
 refine FV λw=>CR (Bo (FV λt=>CR (Bo (Bg.pure ?_)) Bg.bad)) (CR (Bo (Ao BH (EA (Bg.pure ?_) (CR (Cf λp=>Bg.pure ?_) (CR (BN hn day λx=>Bg.pure ?_) (BN hn day λx=>Ao BH (Cf λp=>Bg.pure ?_))))))) Bg.bad);all_goals(simp only[Sd.nodes,Fo.nodes_one];omega)
def bg_go(s:Sd)(hs:s.nodes=0):Bg (goP hn W day n s) Sd.nodes 0:=by
 have h0:s.x.nodes=0/\s.n.nodes=0/\s.f.nodes=0/\s.w.nodes=0:=by simp only[Sd.nodes]at hs;omega
 refine FV λw=>EA (Bo (Bg.pure ?_)) (BN hn day λx=>Bg.pure ?_);all_goals(simp only[Sd.nodes,Fo.nodes_one];omega)
def Vv(k:Int)(w:Bs):(sd0 k w).nodes=0:=rfl
def LZ(w:Bs):Bg (B8 hn W day n w) Sd.nodes 0:=by
 unfold B8;have hz:=Vv 13 w;repeat' refine CR ?_ ?_
 ·exact Cf λp=>Bg.pure (by simp[Sd.nodes,sd0,Fo.nodes])
 ·exact EA (Bg.pure (by omega)) (Cf λp=>Bg.bind (λ_=>0) 1 0 (Cl (Cf λq=>Bg.pure (nZ _)) (Bg.pure (nZ _))) (λps=>Bg.pure (by simp[Sd.nodes,sd0,Fo.nodes])) (by omega))
 ·exact bg_go hn W day _ hz
 ·exact Bg.bind Fo.nodes 0 0 (Hi hn day) (λx=>Bg.pure (by simp[Sd.nodes,sd0,Fo.nodes])) (by omega)
 ·exact BN hn day λx=>Bg.pure (by simp[Sd.nodes,sd0,Fo.nodes,Fo.nodes_one])
 ·exact Bg.pure (by omega)
 ·exact Ao BH (Bg.pure (by omega))
 ·exact Jp hn W day (by omega)
 ·exact Bg.bind (λp=>p.2.nodes) 0 0 (LC hn W day ([],.nil)) (λa=>Bg.bind (λp=>p.2.nodes) a.2.nodes 0 (KB (m:=λp:List Bs×Fo=>p.2.nodes) (LC hn W day) n a) (λa=>Jp hn W day (by simp[Sd.nodes,sd0,Fo.nodes])) (by omega)) (by omega)
 ·exact Ao BH (Cf λp=>Jp hn W day (by simp[Sd.nodes,sd0,Fo.nodes]))
 ·exact BN hn day λx=>Ao BH (Cf λp=>Jp hn W day (by simp[Sd.nodes,sd0,Fo.nodes,Fo.nodes_one];omega))
 ·exact Wo hn W day _ hz
 ·exact R9 hn W day _ hz
def XB(hb:Bg block Bl.nodes 0)(w:Bs):Bg (By hn W day n block w) sb 0:=by
 unfold By;repeat' refine CR ?_ ?_
 ·exact Bo (R8 hn day w)
 ·exact Bo (MJ hn W day hb _ _ _)
 ·exact Bo (bg_do hn W day hb)
 ·exact Bo (X8 hn W day hb)
 ·exact Bo (Ao AI (Bg.pure (by simp[sb,Sd.nodes,sd0,Fo.nodes,Bl.nodes])))
 ·exact Bo (Ao AI (Bg.pure (by simp[sb,Sd.nodes,sd0,Fo.nodes,Bl.nodes])))
 ·exact Bo (Bg.bind Fo.nodes 0 1 (Hi hn day) (λx=>Ao AI (Bg.pure (by simp[sb,Sd.nodes,sd0,Fo.nodes,Bl.nodes];omega))) (by omega))
 ·exact Bo (Bg.bind Fo.nodes 0 1 (Hi hn day) (λx=>Ao AI (Bg.pure (by simp[sb,Sd.nodes,sd0,Fo.nodes,Bl.nodes];omega))) (by omega))
 ·exact Bo (Wn hn W hb)
 ·exact Bo (Bg.bind Sd.nodes 0 1 (LZ hn W day w) (λs=>Ao AI (Bg.pure (by simp only[sb,Bl.nodes];omega))) (by omega))
 ·exact Bg.bad
def Jg(t:Ex):Bg (Gn hn day n t) sb t.nodes:=
 Bg.bind AJ 0 t.nodes (C3 (Bg.pure (by simp only[AJ];omega)) EB) (λ_=>BN hn day λx=>Ao AI (Bg.pure (by simp[sb,Sd.nodes,sd0,Fo.nodes,Bl.nodes,Fo.nodes_two];omega))) (by omega)
def MK:Bg (NO hn day n) Fo.nodes 0:=
 C3 (Bg.pure (by simp[Fo.nodes])) (Bg.bind Fo.nodes 0 0 (Hh hn day) (λf=>Ao EB (Bg.pure (by omega))) (by omega))
def XE(s:Bs):Bg (Ia hn day n s) sb 1:=
 C3 (Bg.bind Fo.nodes 0 2 (MK hn day) (λf=>Ao AI (Bg.pure (by simp[sb,Sd.nodes,sd0,Fo.nodes,Bl.nodes,Fo.nodes_one,Ex.nodes];omega))) (by omega))
  (C3 (BN hn day λx=>Ao EB ((Jg hn day _).le (by simp only[DY,AH,Ex.nodes,Fo.nodes_two,Fo.nodes];omega)))
   (C3 (Cf λt=>(Jg hn day _).le (by simp only[AH,Ex.nodes,Fo.nodes_one,Fo.nodes];omega)) ((Jg hn day _).le (by simp only[AH,Ex.nodes,Fo.nodes];omega))))
def Wp:Bg (EH hn day n) sb 0:=
 C3 (Bg.bind Fo.nodes 0 1 (EA (Bg.pure (by simp[Fo.nodes])) (Hh hn day)) (λx=>Ao AI (Bg.pure (by simp[sb,Sd.nodes,sd0,Fo.nodes,Bl.nodes];omega))) (by omega))
  (EA (Bg.bind Ex.nodes 0 0 (Nw hn day) (λt=>(Jg hn day t).le (by omega)) (by omega)) (Cf λs=>XE hn day s))
def XD(hb:Bg block Bl.nodes 0):Bg (BL hn W day n block) sb 0:=λi a j e=>by
 have e':(if Bv l W i=[]then EH hn day n else By hn W day n block (Bv l W i)).f i= .ok a j:=e
 split at e'
 ·exact Wp hn day i a j e'
 ·exact XB hn W day hb _ i a j e'
end
section
open Rd
variable (hn:Aj l)(W:List Bs)(day:Bs->Int)
def PI{st:Rd l StB}(h:Bg st sb 0):∀k a,Bg (D8 W st k a) Bl.nodes a.nodes:=by
 intro k;induction k with
 |zero=>exactλa=>Bg.out
 |succ k ih=>exactλa=>Hc (Bg.bind sb 0 a.nodes h (λr=>(ih _).le (by simp only[sb,Bl.nodes_app,Bl.nodes];omega)) (by omega)) (Bg.pure (nR _))
def Nu:∀n,Bg (Du hn W day n) Bl.nodes 0:=by
 intro n;induction n with
 |zero=>exact Bg.out
 |succ n ih=>exact PI W (XD hn W day ih) n .nil
def Ce(a:List Pq):Nat:=(a.map λp=>p.2.2.2.nodes).sum
def OI(a:List Pq)(p:Pq):Ce (a++[p])=Ce a+p.2.2.2.nodes:=by simp[Ce]
def X9(n:Nat)(a:List Pq)(fn:Bool):Bg (Ec hn W day n a fn) Ce (Ce a):=by
 refine Cf λs=>Bg.bind (λ_=>0) 0 (Ce a) ?_ (λp=>Ao AI (Bg.bind Bl.nodes 0 (Ce a) (Nu hn W day n) (λb=>Bg.pure (by rw[OI];show Ce a+b.nodes<=b.nodes+Ce a;omega)) (by omega))) (by omega);refine C3 (C3 (Bg.pure (nZ _)) (Bg.bind (λ_=>0) 0 0 ?_ (λp=>Ao EB (Bg.pure (nZ _))) (by omega))) (Bg.pure (nZ _));intro i p j e;have h:=JK (l:=l) (n:=n) i;rw[show CF l n i= .ok p j from e]at h;simp only[Big,AJ]at h;show 0+i<=j+0;omega
def QQ(n:Nat):∀k a,Bg (D6 hn W day n k a) Ce (Ce a):=by
 intro k;induction k with
 |zero=>exactλa=>Bg.out
 |succ k ih=>exactλa=>Hc (FV λw=>CR (Bo (Bg.bind Ce (Ce a) 0 (X9 hn W day n a _) (λa=>ih a) (by omega))|> λh=>h.le (nR _)) Bg.bad) (Bg.pure (nR _))
def XA(n:Nat):Bg (BW hn W day n) Ce 0:=
 Bg.bind Bl.nodes 0 0 (Nu hn W day n) (λb=>(QQ hn W day n n _).le (by simp[Ce])) (by omega)
end
def O6(k:Nat)(w:World):Prop:=∃a n c,Blk w k [.slice a n c] 41
def Wy(k:Nat)(v:Value)(w:World):(callFunc 212 (#[v]++#[.pointer (some ⟨k,0,none⟩)])).run Tryz.prog w= .ok (.enter 212 (#[v]++#[.pointer (some ⟨k,0,none⟩)])) w:=by kernel_rfl
def VC(n:Nat)(h0:0<n)(hn:n<=1000000)(w:World):Calls Tryz.prog 216 #[.slice none 0 0,.int .i64 n] w λe w'=>∃v,e= .returned v/\w'.ownsRow w.heap.size 163 7 v 0 []/\w.grownBy w' none:=by
 obtain⟨i0,hi,hz0,hz1,hz2⟩:=info_parts CI;refine(Any8.slices_Grow_grow growExpr i0 _ hi hz0 (by rw[hz1];decide) none 0 0 n [] w (nR _) (by omega) (by rw[hz2];omega) (by omega) (by simp) (λ_=>rfl) (by simp)).mono ?_;rintro e w' ⟨rfl,rfl⟩;refine⟨_,rfl,?_,?_⟩
 ·refine⟨rfl,.inr ⟨w.heap.size,_,_,rfl,nR _,heap_alloc_new _ _,nZ _,?_,?_,?_⟩⟩
  ·exact grownCap_le_maxLen _ _ _ _ (by unfold maxLen;omega)
  ·have hge:=grownCap_ge w (0+n) 0 (Tryz.growExpr_ren.t 25);generalize grownCap w (0+n) 0 (Tryz.growExpr_ren.t 25)=c at*;rw[Array.size_append,Array.size_append,size_zeroCells,size_zeroCells];have e7:(Value.agg #[Value.int .i64 0,str [],Value.int .i64 0,Value.int .i64 0,str [],Value.slice none 0 0,Value.slice none 0 0]).cells.size=7:=rfl;rw[e7];simp;omega
  ·simp
 ·exact Ac (Ae (Aa _ _)) _
def RepF.one:∀{f:Fo}{cs:List Value},RepF ok w f cs->cs.length=f.len*7/\∀u∈cs,u.oneCell'=true:=by
 intro f;induction f with
 |nil=>rintro cs rfl;simp[Fo.len]
 | cons hd kids next ih1 ih2=>
   rintro cs ⟨pv,lv,kcs,rest,rfl,h1,h2,h3,h4⟩;obtain⟨pa,pc,rfl,_⟩:=h1;obtain⟨la,lc,rfl,_⟩:=h2;have:=ih2 h4;refine⟨by simp[hdC,Fo.len,this.1];omega,?_⟩;intro u hu;rcases List.mem_append.1 hu with h|h
   ·simp[hdC]at h;rcases h with rfl|rfl|rfl|rfl|rfl|rfl|rfl<;>rfl
   ·exact this.2 u h
section
variable {w':World}{pre pre':List Tok}{r:St}{t:Tok}{l:Bool}{ov:Value}
end
def D5(a:List Bl):Nat:=a.foldr (λb n=>max b.levels n) 0
def IQ(a:List Bl):Nat:=a.foldr (λb n=>b.nodes+n) 0
def Da(l:List Pd):Nat:=IQ (l.map Pd.body)
def OY(a:Pd)(r:List Pd):Da (a::r)=a.body.nodes+Da r:=rfl
def C9:List Bs->Bs
 | []=>[]
 |a::r=>a++(r.map λs=>[44,32]++s).flatten
def Ht(d:Wd)(h:Hd):Bs:=
 if h.vk=1 then(if h.vn=0 then [46,70,46]else [46,84,46])
 else if h.vk=2 then d.num h.vn
 else if h.vk=3 then(if h.vn=0 then [123,125]else IB (d.day h.vn))
 else if h.vk=4 then(if h.vs.contains 34 then [39]++h.vs++[39]else [34]++h.vs++[34])
 else [46,78,85,76,76,46]
def opT(x:Hd×Bs):Bs:=if x.1.op=4\/x.1.op=5 then [40]++x.2++[41]else x.2
def Cs(d:Wd)(h:Hd)(ks:List (Hd×Bs)):Bs:=
 if h.op=0 then Ht d h
 else if h.op=2 then(match ks with
  |x::_=>if x.1.op=1 then h.s++[45,62]++x.1.s else h.s++[45,62,40]++x.2++[41]
  | []=>[])
 else if h.op=3 then h.s++[40]++C9 (ks.map (·.2))++[41]
 else if h.op=4 then(match ks with
  |x::_=>if h.s=[45]then [45]++opT x else h.s++[32]++opT x
  | []=>[])
 else if h.op=5 then(match ks with
  |x::y::_=>opT x++[32]++h.s++[32]++opT y
  |_=>[])
 else if h.op=6 then(match ks with
  |x::y::_=>opT x++[91]++y.2++[93]
  |_=>[])
 else if h.op=7 then [123]++C9 (ks.map (·.2))++[125]
 else if h.op=8 then(match ks with
  |x::_=>[123,124]++C9 h.p++[124,32]++x.2++[125]
  | []=>[])
 else if h.op=9 then(if h.s≠[]then [38]++h.s++[46]else(match ks with
  |x::_=>[38,40]++x.2++[41]
  | []=>[]))
 else if h.op=10 then [64]++h.s
 else h.s
def AX(d:Wd):Fo->List (Hd×Bs)
 | .nil=>[]
 | .cons h k n=>(h,Cs d h (AX d k))::AX d n
def Ez(d:Wd)(x:Ex):Bs:=Cs d x.h (AX d x.kids)
section
variable {d:Wd}
end
open Go.Lib
def C2:List (Hd×Bs)->Nat
 | []=>0
 |x::r=>x.2.length+4+C2 r
def V9:∀l:List (Hd×Bs),(((l.map (·.2)).map λs=>[44,32]++s).flatten).length<=C2 l:=by
 intro l;induction l with
 |nil=>simp[C2]
 | cons x r ih=>
   simp only[List.map_cons,List.flatten_cons,lA,List.length_cons,List.length_nil,C2];omega
def Kv(l:List (Hd×Bs)):(C9 (l.map (·.2))).length<=C2 l:=by
 cases l with
 |nil=>simp[C9,C2]
 | cons x r=>
   have:=V9 r;simp only[List.map_cons,C9,lA,C2];omega
def LX(h:p.all Aw=true):(C9 p).length<=12*p.length:=by
 have hl:∀s∈p,s.length<=10:=by
  intro s hs;have:=List.all_eq_true.1 h s hs;unfold Aw at this;simp only[Bool.and_eq_true,decide_eq_true_eq]at this;exact this.1.1.2
 clear h;have hf:∀r:List Bs,(∀s∈r,s.length<=10)->((r.map λs=>[44,32]++s).flatten).length<=12*r.length:=by
  intro r;induction r with
  |nil=>intro _;simp
  | cons x r ih=>
    intro h;have h1:=ih (λs hs=>h s (List.mem_cons_of_mem _ hs));have h2:=h x (List.mem_cons_self);simp only[List.map_cons,List.flatten_cons,lA,List.length_cons,List.length_nil];omega
 cases p with
 |nil=>simp[C9]
 | cons x r=>
   have h1:=hf r (λs hs=>hl s (List.mem_cons_of_mem _ hs));have h2:=hl x (List.mem_cons_self);simp only[C9,lA,List.length_cons];omega
def MW{n:Int}(h0:0<n)(h1:n<=3652059):(Dv n).length=8:=by
 obtain⟨a,b,c,d,e,f,g⟩:=Ki h0 h1;have hm:=NB (Be n).1 (Be n).2.1;unfold Dv;have l1:=ED (k:=4) (u:=(Be n).1) (by omega) (by omega);have l2:=ED (k:=2) (u:=(Be n).2.1) (by omega) (by omega);have l3:=ED (k:=2) (u:=(Be n).2.2) (by omega) (by omega);rw[lA,lA,l1,l2,l3]
def RH(hf:h.fit)(hc:A8 h=true):(Ht wdM h).length<=2000010:=by
 have hv:=hf.2.1;unfold A8 at hc;unfold Ht;split
 ·split<;>simp
 split
 ·rename_i h1 h2;rw[if_neg (by omega),if_neg h1,if_pos h2]at hc;simp at hc;have:=(wdM_ok.nums h.vn hc.1.1 hc.1.2).1;omega
 split
 ·rename_i h1 h2 h3;rw[if_neg (by omega),if_neg h1,if_neg h2,if_pos h3]at hc;simp at hc;split
  ·simp
  ·rename_i h4;have:=MW (n:=h.vn) (by omega) (by omega);show(IB (Dv h.vn)).length<=_;unfold IB;simp only[lA,List.length_take,List.length_drop,List.length_cons,List.length_nil];omega
 split
 ·split
  ·simp only[lA,List.length_cons,List.length_nil];omega
  ·simp only[lA,List.length_cons,List.length_nil];omega
 ·simp
def Ub(hf:h.fit)(hp:h.op=8->h.p.all Aw=true)(hc:h.op=0->A8 h=true)(hk:∀x∈ks,x.1.s.length<=2000000):(Cs wdM h ks).length<=30000000+C2 ks:=by
 have hs:=hf.1;have hp2:=hf.2.2.1;have hj:=Kv ks;have ho:∀x:Hd×Bs,(opT x).length<=x.2.length+2:=by
  intro x;unfold opT;split<;>simp
 unfold Cs;split
 ·rename_i h0;have:=RH hf (hc h0);omega
 split
 ·cases ks with
  |nil=>simp
  | cons x r=>
    have:=hk x List.mem_cons_self;simp only[C2];split<;>simp only[lA,List.length_cons,List.length_nil]<;>omega
 split
 ·simp only[lA,List.length_cons,List.length_nil];omega
 split
 ·cases ks with
  |nil=>simp
  | cons x r=>
    have:=ho x;simp only[C2];split<;>simp only[lA,List.length_cons,List.length_nil]<;>omega
 split
 ·match ks with
  | []=>simp
  | [_]=>simp
  | x::y::r=>
    have:=ho x;have:=ho y;simp only[C2,lA,List.length_cons,List.length_nil];omega
 split
 ·match ks with
  | []=>simp
  | [_]=>simp
  | x::y::r=>
    have:=ho x;simp only[C2,lA,List.length_cons,List.length_nil];omega
 split
 ·simp only[lA,List.length_cons,List.length_nil];omega
 split
 ·rename_i h8;have:=LX (hp h8);cases ks with
  |nil=>simp
  | cons x r=>
    simp only[C2,lA,List.length_cons,List.length_nil];omega
 split
 ·split
  ·simp only[lA,List.length_cons,List.length_nil];omega
  ·cases ks with
   |nil=>simp
   | cons x r=>
     simp only[C2,lA,List.length_cons,List.length_nil];omega
 split
 ·simp only[lA,List.length_cons,List.length_nil];omega
 ·omega
def Ky(hf:h.fit)(ho:BY h n=true)(hk:∀x∈ks,x.1.s.length<=2000000):(Cs wdM h ks).length<=30000000+C2 ks:=by
 obtain⟨_,_,h3⟩:=Mv ho;unfold Az at h3;refine Ub hf (λh8=>?_) (λh0=>?_) hk
 ·rw[if_neg (by omega),if_neg (by omega),if_neg (by omega),if_neg (by omega),if_neg (by omega),if_neg (by omega),if_neg (by omega),if_neg (by omega),if_pos h8]at h3;simp only[Bool.and_eq_true]at h3;exact h3.2
 ·rw[if_pos h0]at h3;simp only[Bool.and_eq_true]at h3;exact h3.2
def IU:∀f:Fo,okF f=true->f.fit->C2 (AX wdM f)<=30000004*f.nodes/\∀x∈AX wdM f,x.1.s.length<=2000000:=by
 intro f;induction f with
 |nil=>intro _ _;simp[AX,C2]
 | cons h k n ihk ihn=>
   intro ho hf;simp only[okF,Bool.and_eq_true]at ho;obtain⟨k1,k2⟩:=ihk ho.1.2 hf.2.1;obtain⟨n1,n2⟩:=ihn ho.2 hf.2.2;have:=Ky hf.1 ho.1.1 k2;constructor
   ·simp only[AX,C2,Fo.nodes];omega
   ·intro x hx;simp only[AX,List.mem_cons]at hx;rcases hx with rfl|hx
    ·exact hf.1.1
    ·exact n2 x hx
def B7(n:Int):Bs:=[115,117,109,32]++itoa n++[10]
def FT(us:List Un)(n:Int):BA us n=AP us++B7 n:=rfl
def Ml:AP []=[]:=rfl
end Go.Proofs.YtbjfaimkiclhgaaGreatDoor
