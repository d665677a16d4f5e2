/-
  QgO QgP TwiceB PgP VaH TxC Code: the program's reader of texts: the units of lines.
-/
import Derived.Test.YtbjfaimkiclhgaaGreatDoorCt18
import Derived.Test.YtbjfaimkiclhgaaGreatDoorCt13
import Derived.Test.YtbjfaimkiclhgaaGreatDoorCt10
import Derived.Deep.Cut
import Derived.Test.YtbjfaimkiclhgaaGreatDoorCt14
import Derived.Test.YtbjfaimkiclhgaaGreatDoorCt09
import Derived.Maps.Views
import Derived.Test.YtbjfaimkiclhgaaGreatDoorCt19
import Derived.Test.YtbjfaimkiclhgaaGreatDoorCt11
set_option linter.all false
set_option maxRecDepth 100000
set_option maxHeartbeats 8000000
namespace Go.Proofs.YtbjfaimkiclhgaaGreatDoor
open Go.Proofs.Tryz
open Go.RowKit
variable{b n i lc m k:Nat}{tv wo v a c:Value}{l:List Tok}{day:Bs->Int}{w:World}{ok:Nat->Prop}{s:Bs}{la:Option Addr}{α:Type}{x:Ex}{cs:List Value}{us:List Un}{u:Un}
def StmtQ(b:Nat)(tv wo:Value)(l:List Tok)(hn:Aj l)(day:Bs->Int)(n:Nat)(block:Rd l Bl):Prop:=
 ∀(w:World)(i:Nat),Glob w->Par w b tv wo l wordsL i->i<l.length->(BL hn wordsL day n block).f i ≠ .out->Calls Tryz.prog 275 #[.pointer (some ⟨b,0,none⟩)] w (Post b tv wo l wordsL w (VSt w) ((BL hn wordsL day n block).f i))
def Hu{block:Rd l Bl}{hn:Aj l}:(BL hn wordsL day n block).f i=if Bv l wordsL i=[]then Ge l (Ai l day n) n i else(By hn wordsL day n block (Bv l wordsL i)).f i:=by
 show(if Bv l wordsL i=[]then EH hn day n else By hn wordsL day n block (Bv l wordsL i)).f i=_;split
 ·exact YS hn day n i
 ·rfl
def Rz{block:Rd l Bl}(hn:Aj l)(hE:CE 208 b tv wo l wordsL (Ai l day n))(hok:∀i,As (Ab l i))(hl:Ay l)(hgb:4<b)(hS:De b tv wo l hn day n block (Bv l wordsL i))(hk:Bv l wordsL i≠[])(hg:Glob w)(h:Par w b tv wo l wordsL i)(hi:i<l.length)(ho:(BL hn wordsL day n block).f i ≠ .out):
 Calls Tryz.prog 275 #[.pointer (some ⟨b,0,none⟩)] w (Post b tv wo l wordsL w (VSt w) ((BL hn wordsL day n block).f i)):=by
 have HGl:=S (X hg hgb);have HS:=S hS;have HKk:=S hk;clear hg hgb hS hk;have hb:=h.lt;have HO:=S ho;generalize hR:(BL hn wordsL day n block).f i=R at*;have HTk:=S hok;have HSh:=S hl;have HE:=S hE;have HZ:=S (X (Blk.new w (stC 0 (.slice none 0 0)) 134) (show w.grownBy (w.alloc (.cells (stC 0 (.slice none 0 0)).toArray 134 (0,0))) (some b)from Ac (Aa _ _) _));have hp:=h.alloc (.cells (stC 0 (.slice none 0 0)).toArray 134 (0,0));clear hok hl hE ho h;go_enter func275,ntmps275;go_wp2_with fail;refine mR (Bn hp) λw1 g=>?_;have gA:=Ac g (.cells #[.int .i64 (Ab l i).kind,.int .i64 (Ab l i).pos,str (Ab l i).text] 250 (0,0));have hT:=Blk.new w1 [.int .i64 (Ab l i).kind,.int .i64 (Ab l i).pos,str (Ab l i).text] 250;have hbs:=g.size;simp at hbs;replace HZ:=S (X (HZ.1.1.gb gA (by simp)) (Ag HZ.1.2 gA));replace hp:=hp.gbN gA;clear g gA;go_wp2_with fail;refine mR (FN hp HTk.1) λw2 g=>?_;replace HZ:=S (X (HZ.1.1.gb g (by simp)) (Ag HZ.1.2 g));replace hp:=hp.gbN g;replace hT:=hT.gb g (by simp);clear g;rw[Hu,if_neg HKk.1]at hR;have HQ:=S hR;clear hR;have HC:=S (HS.1 _ _ (BU HGl.1.1 HGl.1.2 HZ.1.2) hp hi (λe=>HO.1 (by rw[<-HQ.1,e])));have hs9:(Bv l wordsL i !=[])=true:=by simpa using HKk.1
 have hs0:(Bv l wordsL i==[])=false:=by simpa using HKk.1
 have hlz:=HZ.1.1.lt;generalize Bv l wordsL i=s at*;go_wp2_with fail;refine HC.1.mono ?_;intro e w4 hq;obtain⟨g,⟨q,hr,rfl⟩| ⟨s9,j9,v,hr,rfl,hv,hp9⟩⟩:=hq.split
 ·exact⟨rfl,Post.bad (Z HZ.1.2 g) (by rw[<-HQ.1,hr])⟩
 obtain⟨pa,xa,ba,na,fa,wa,pc,xc,bc,nc,fc,wc,rfl,hz9,hpp,hbk⟩:=Ek hb HZ.1.1 HZ.1.2 g hv hp9 (HQ.1.symm.trans hr);have HE9:=S (X hpp hbk);have hkl9:=hz9.lt;have cz_:=hz9.c10;clear g hv hp9 hz9 hpp hbk hr;go_wp2;refine bZ ?hr9 rfl HE9.1.1
 case hr9=>exact A7 rfl _ HE9.1.2 rfl rfl
def R0{block:Rd l Bl}(hn:Aj l)(hE:CE 208 b tv wo l wordsL (Ai l day n))(hok:∀i,As (Ab l i))(hl:Ay l)(hk:Bv l wordsL i=[])(h63:Ah (Ab l i) [63]=true)(h:Par w b tv wo l wordsL i)(ho:(BL hn wordsL day n block).f i ≠ .out):
 Calls Tryz.prog 275 #[.pointer (some ⟨b,0,none⟩)] w (Post b tv wo l wordsL w (VSt w) ((BL hn wordsL day n block).f i)):=by
 have HKk:=S (X hk h63);clear hk h63;have hb:=h.lt;have HO:=S ho;generalize hR:(BL hn wordsL day n block).f i=R at*;have HTk:=S hok;have HSh:=S hl;have HE:=S hE;have HZ:=S (X (Blk.new w (stC 0 (.slice none 0 0)) 134) (show w.grownBy (w.alloc (.cells (stC 0 (.slice none 0 0)).toArray 134 (0,0))) (some b)from Ac (Aa _ _) _));have hp:=h.alloc (.cells (stC 0 (.slice none 0 0)).toArray 134 (0,0));clear hok hl hE ho h;go_enter func275,ntmps275;go_wp2_with fail;refine mR (Bn hp) λw1 g=>?_;have gA:=Ac g (.cells #[.int .i64 (Ab l i).kind,.int .i64 (Ab l i).pos,str (Ab l i).text] 250 (0,0));have hT:=Blk.new w1 [.int .i64 (Ab l i).kind,.int .i64 (Ab l i).pos,str (Ab l i).text] 250;have hbs:=g.size;simp at hbs;replace HZ:=S (X (HZ.1.1.gb gA (by simp)) (Ag HZ.1.2 gA));replace hp:=hp.gbN gA;clear g gA;go_wp2_with fail;refine mR (FN hp HTk.1) λw2 g=>?_;replace HZ:=S (X (HZ.1.1.gb g (by simp)) (Ag HZ.1.2 g));replace hp:=hp.gbN g;replace hT:=hT.gb g (by simp);clear g;rw[Hu,if_pos HKk.1.1]at hR;unfold Ge at hR;rw[if_pos HKk.1.2]at hR;have HQ:=S hR;rw[HKk.1.1];clear hR hT;go_wp2_with fail;refine(Bp hp [63] HKk.1.2).mono ?_;rintro e w3 ⟨rfl,hp9,g⟩;replace HZ:=S (X (HZ.1.1.gb g (by simp;omega)) (Z HZ.1.2 g));have hs3:=g.size;have hlz:=HZ.1.1.lt;have HK:=S (KS.start (o:=1) (s:=[]) HZ.1.1 HZ.1.2 hb (by omega))
 have hp8:=hp9.alloc (.cells #[.int .i64 1,str [],str [],.slice none 0 0,.slice none 0 0,.slice none 0 0,.int .i64 0,.slice none 0 0,.slice none 0 0,.slice none 0 0] 134 (0,0));replace hp:=hp8;clear g hp9 hp8 HZ;have HA:=S (Bn hp);cases hk5:(Ab l (i+1)).kind==5
 case' true=>
  have hkk:(Ab l (i+1)).kind=5:=by simpa using hk5
  rw[if_pos hk5,Res.bind_ok]at HQ;clear hk5;go_wp2_with fail;refine mR HA.1 λw4 g4=>?_;rw[AR,hkk];replace HK:=S (HK.1.gbN g4);replace hp:=hp.gbN g4;clear g4 HA;go_wp2_with fail;refine(Ba hp).mono ?_;intro e w5 hq;obtain⟨g,⟨q,hr,rfl⟩| ⟨u,i5,v,hr,rfl,rfl,hp9⟩⟩:=hq.split
  ·exact PBd HK.1.gr g HQ hr
 case' false=>
  have hkk:((Ab l (i+1)).kind !=5)=true:=by simp only[bne,hk5];rfl
  rw[if_neg (nF hk5)]at HQ;clear hk5;go_wp2_with fail;refine mR HA.1 λw4 g4=>?_;rw[AR];replace HK:=S (HK.1.gbN g4);replace hp:=hp.gbN g4;clear g4 HA;have hkl:=HK.1.lt;have hwL:=HK.1.wL;have hbw:=HK.1.bw;go_wp2_with fail;refine(IJ HE.1 (J6 l day n) hp n (λe=>HO.1 (by rw[<-HQ.1,e];rfl))).mono ?_;intro e w5 hq;obtain⟨g,⟨q,hr,rfl⟩| ⟨f,i5,v,hr,rfl,⟨fa,fc,rfl,hF⟩,hp9⟩⟩:=hq.split
  ·exact PBd HK.1.gr g HQ hr
  replace HK:=S (HK.1.gb g);replace hp:=hp9;clear hp9;replace HQ:=HQo HQ hr;clear hr;have hkl5:=HK.1.lt;have hx4:=HK.1.blk.cell' 4 rfl;have hf4:=HK.1.blk.frozen 4;have hK6:=HK.1.putX (hF.mono (λq hq _=>by have h1:w4.heap.size<=q:=hq;exact⟨by omega,by omega⟩));have hp6:=hp.set (L:=w3.heap.size) (by omega) 4 (.slice fa f.len fc);replace HK:=S hK6;replace hp:=hp6;clear hK6 hp6 hF g;go_wp2_with fail;refine(Ba hp).mono ?_;intro e w7 hq;obtain⟨g,⟨q,hr,rfl⟩| ⟨u,i7,v,hr,rfl,rfl,hp9⟩⟩:=hq.split
  ·exact PBd HK.1.gr g HQ hr
 all_goals
  replace HK:=S (HK.1.gb g);replace hp:=hp9;clear hp9;replace HQ:=HQo HQ hr;clear hr g;obtain⟨pa9,xa9,ba9,na9,fa9,wa9,pc9,xc9,bc9,nc9,fc9,wc9,e91,e92,e93,e94,e95,e96⟩:=HK.1.shapes;(first|cases e91|clear e91);(first|cases e92|clear e92);(first|cases e93|clear e93);(first|cases e94|clear e94);(first|cases e95|clear e95);(first|cases e96|clear e96);have hkb:=HK.1.blk;have hkz:=HK.1.zero;have hkl:=hkb.lt;have hkl2:=hkz.lt;have ck_:=hkb.c10;have cz_:=hkz.c10;clear hkb hkz;go_wp2;have hres9:=Cz HK.1 hp HQ.1.symm;have hblk9:=HK.1.out.2.2.1;refine bZ ?hr9 rfl hres9
  case hr9=>exact A7 rfl _ hblk9 rfl rfl
def S3{block:Rd l Bl}(hn:Aj l)(hE:CE 208 b tv wo l wordsL (Ai l day n))(hok:∀i,As (Ab l i))(hl:Ay l)(hk:Bv l wordsL i=[])(h63:Ah (Ab l i) [63]=false)(hk0:(Ab l i).kind=0)(h40:Ah (Ab l (i+1)) [40]=true)(h:Par w b tv wo l wordsL i)(ho:(BL hn wordsL day n block).f i ≠ .out):
 Calls Tryz.prog 275 #[.pointer (some ⟨b,0,none⟩)] w (Post b tv wo l wordsL w (VSt w) ((BL hn wordsL day n block).f i)):=by
 have HKk:=S (X hk (X h63 (X hk0 h40)));clear hk h63 hk0 h40;have hb:=h.lt;have HO:=S ho;generalize hR:(BL hn wordsL day n block).f i=R at*;have HTk:=S hok;have HSh:=S hl;have HE:=S hE;have HZ:=S (X (Blk.new w (stC 0 (.slice none 0 0)) 134) (show w.grownBy (w.alloc (.cells (stC 0 (.slice none 0 0)).toArray 134 (0,0))) (some b)from Ac (Aa _ _) _));have hp:=h.alloc (.cells (stC 0 (.slice none 0 0)).toArray 134 (0,0));clear hok hl hE ho h;go_enter func275,ntmps275;go_wp2_with fail;refine mR (Bn hp) λw1 g=>?_;have gA:=Ac g (.cells #[.int .i64 (Ab l i).kind,.int .i64 (Ab l i).pos,str (Ab l i).text] 250 (0,0));have hT:=Blk.new w1 [.int .i64 (Ab l i).kind,.int .i64 (Ab l i).pos,str (Ab l i).text] 250;have hbs:=g.size;simp at hbs;replace HZ:=S (X (HZ.1.1.gb gA (by simp)) (Ag HZ.1.2 gA));replace hp:=hp.gbN gA;clear g gA;go_wp2_with fail;refine mR (FN hp HTk.1) λw2 g=>?_;replace HZ:=S (X (HZ.1.1.gb g (by simp)) (Ag HZ.1.2 g));replace hp:=hp.gbN g;replace hT:=hT.gb g (by simp);clear g;rw[Hu,if_pos HKk.1.1]at hR;unfold Ge at hR;rw[if_neg (by rw[HKk.1.2.1];simp),if_pos (by rw[HKk.1.2.2.1,HKk.1.2.2.2];rfl)]at hR;have HQ:=S hR;rw[HKk.1.1];clear hR;go_wp2_with fail;refine mR (Bf hp [63] HKk.1.2.1) λw3 g=>?_;replace HZ:=S (X (HZ.1.1.gb g (by simp)) (Ag HZ.1.2 g));replace hp:=hp.gbN g;replace hT:=hT.gb g (by simp);have t0:=hT.cell' 0 rfl;rw[HKk.1.2.2.1]at t0;have hTl:=hT.lt;clear g hT;go_wp2_with fail;refine mR (Hs hp) λw4 g=>?_;replace HZ:=S (X (HZ.1.1.gb g (by simp)) (Ag HZ.1.2 g));replace hp:=hp.gbN g;clear g;go_wp2_with fail;refine mR (EY _ _ _ [40] _) λw5 g=>?_;replace HZ:=S (X (HZ.1.1.gb g (by simp)) (Ag HZ.1.2 g));replace hp:=hp.gbN g;clear g t0 hTl;rw[show((Ab l (i+1)).kind==4&&(Ab l (i+1)).text==[40])=true from HKk.1.2.2.2];have hlz:=HZ.1.1.lt;go_wp2_with fail;refine(N2 HE.1 (J6 l day n) HSh.1 n _ _ hp (λe=>HO.1 (by rw[<-HQ.1,e];rfl))).mono ?_;intro e w6 hq;obtain⟨g,⟨q,hr,rfl⟩| ⟨x,i6,v,hr,rfl,⟨pa,pc,la,lc,rfl,rp,rl⟩,hp9⟩⟩:=hq.split
 ·exact PBd HZ.1.2 g HQ hr
 replace HZ:=S (X (HZ.1.1.gb g (by simp;omega)) (Z HZ.1.2 g));replace hp:=hp9;clear hp9;replace HQ:=HQo HQ hr;clear hr;have hs6:=g.size;have hl6:=HZ.1.1.lt;have hb6:=hp.lt;have gA:=gZ w6 (.cells (hdC x.h (.slice pa x.h.p.length pc) (.slice la x.kids.len lc)).toArray 163 (0,0)) none;have hsince:∀q,Al w5.heap.size q->q<w6.heap.size->but w (w6.heap.size+1) q:=λq hq _=>by have:w5.heap.size<=q:=hq;exact⟨by omega,by omega⟩
 have hRow:=RepL.one (n:=w6.heap.size) (x:=x) (ok:=but w (w6.heap.size+1)) rfl ⟨by omega,by omega⟩ (rp.mono hsince) (rl.mono hsince);have gB:=gZ (w6.alloc (.cells (hdC x.h (.slice pa x.h.p.length pc) (.slice la x.kids.len lc)).toArray 163 (0,0))) (.cells #[.int .i64 10,str [],str [],.slice none 0 0,.slice (some ⟨w6.heap.size,0,none⟩) 1 1,.slice none 0 0,.int .i64 0,.slice none 0 0,.slice none 0 0,.slice none 0 0] 134 (0,0)) none;have HK:=S (show KS b w (w6.heap.size+1) _ {sd0 10 []with x:= .one x} .nil (.slice none 0 0) (.slice (some ⟨w6.heap.size,0,none⟩) 1 1) (.slice none 0 0) (.slice none 0 0) (.slice none 0 0) (.slice none 0 0)from
  ⟨(Blk.new (w6.alloc (.cells (hdC x.h (.slice pa x.h.p.length pc) (.slice la x.kids.len lc)).toArray 163 (0,0))) [.int .i64 10,str [],str [],.slice none 0 0,.slice (some ⟨w6.heap.size,0,none⟩) 1 1,.slice none 0 0,.int .i64 0,.slice none 0 0,.slice none 0 0,.slice none 0 0] 134).of_eq (by simp) rfl,Cells.nil _ _ _,hRow.gb gB (by simp),RepV.nil _ _ _,RepL.nil _ _,RepL.nil _ _,RepL.nil _ _,Ag (Ag HZ.1.2 gA) gB,hb,by omega,(HZ.1.1.gb gA (by simp)).gb gB (by simp)⟩)
 have hp8:=(hp.gbN gA).gbN gB;replace hp:=hp8;clear g rp rl gA gB hRow hsince hp8 HZ;go_wp2_with fail;refine(Ba hp).mono ?_;intro e w7 hq;obtain⟨g,⟨q,hr,rfl⟩| ⟨u,i7,v,hr,rfl,rfl,hp9⟩⟩:=hq.split
 ·exact PBd HK.1.gr g HQ hr
 replace HK:=S (HK.1.gb g);replace hp:=hp9;clear hp9;replace HQ:=HQo HQ hr;clear hr g;obtain⟨pa9,xa9,ba9,na9,fa9,wa9,pc9,xc9,bc9,nc9,fc9,wc9,e91,e92,e93,e94,e95,e96⟩:=HK.1.shapes
 (first|cases e91|clear e91);(first|cases e92|clear e92);(first|cases e93|clear e93);(first|cases e94|clear e94);(first|cases e95|clear e95);(first|cases e96|clear e96);have hkb:=HK.1.blk;have hkz:=HK.1.zero;have hkl:=hkb.lt;have hkl2:=hkz.lt;have ck_:=hkb.c10;have cz_:=hkz.c10;clear hkb hkz;go_wp2;have hres9:=Cz HK.1 hp HQ.1.symm;have hblk9:=HK.1.out.2.2.1;refine bZ ?hr9 rfl hres9
 case hr9=>exact A7 rfl _ hblk9 rfl rfl
def MT(h:Par w b tv wo l wordsL i)(s:Bs):
 Calls Tryz.prog 269 #[.pointer (some ⟨b,0,none⟩),str s] w λe w'=>e= .returned (.bool (Ah (Ab l i) s))/\Par w' b tv wo l wordsL (if Ah (Ab l i) s then i+1 else i)/\w.grownBy w' (some b):=by
 cases hw:Ah (Ab l i) s with
 |true=>exact(Bp h s hw).mono λe w' ⟨h1,h2,h3⟩=>⟨h1,h2,h3⟩
 |false=>exact(Bf h s hw).mono λe w' ⟨h1,h2⟩=>⟨h1,h.gbN h2,A2 h2⟩
def S4{block:Rd l Bl}(hn:Aj l)(hE:CE 208 b tv wo l wordsL (Ai l day n))(hok:∀i,As (Ab l i))(hl:Ay l)(hk:Bv l wordsL i=[])(h63:Ah (Ab l i) [63]=false) (hc:((Ab l i).kind==0&&Ah (Ab l (i+1)) [40])=false) (hk0:((Ab l i).kind==0)=true) (h:Par w b tv wo l wordsL i) (ho:(BL hn wordsL day n block).f i ≠ .out):
 Calls Tryz.prog 275 #[.pointer (some ⟨b,0,none⟩)] w (Post b tv wo l wordsL w (VSt w) ((BL hn wordsL day n block).f i)):=by
 have HKk:=S (X hk (X h63 hc));clear hk h63 hc;have hb:=h.lt;have HO:=S ho;generalize hR:(BL hn wordsL day n block).f i=R at*;have HTk:=S hok;have HSh:=S hl;have HE:=S hE;have HZ:=S (X (Blk.new w (stC 0 (.slice none 0 0)) 134) (show w.grownBy (w.alloc (.cells (stC 0 (.slice none 0 0)).toArray 134 (0,0))) (some b)from Ac (Aa _ _) _));have hp:=h.alloc (.cells (stC 0 (.slice none 0 0)).toArray 134 (0,0));clear hok hl hE ho h;go_enter func275,ntmps275;go_wp2_with fail;refine mR (Bn hp) λw1 g=>?_;have gA:=Ac g (.cells #[.int .i64 (Ab l i).kind,.int .i64 (Ab l i).pos,str (Ab l i).text] 250 (0,0));have hT:=Blk.new w1 [.int .i64 (Ab l i).kind,.int .i64 (Ab l i).pos,str (Ab l i).text] 250;have hbs:=g.size;simp at hbs;replace HZ:=S (X (HZ.1.1.gb gA (by simp)) (Ag HZ.1.2 gA));replace hp:=hp.gbN gA;clear g gA;go_wp2_with fail;refine mR (FN hp HTk.1) λw2 g=>?_;replace HZ:=S (X (HZ.1.1.gb g (by simp)) (Ag HZ.1.2 g));replace hp:=hp.gbN g;replace hT:=hT.gb g (by simp);clear g;rw[Hu,if_pos HKk.1.1]at hR;unfold Ge at hR;rw[if_neg (by rw[HKk.1.2.1];simp),if_neg (by rw[HKk.1.2.2];simp)]at hR;have HQ:=S hR;rw[HKk.1.1];clear hR;go_wp2_with fail;refine mR (Bf hp [63] HKk.1.2.1) λw3 g=>?_;replace HZ:=S (X (HZ.1.1.gb g (by simp)) (Ag HZ.1.2 g));replace hp:=hp.gbN g;replace hT:=hT.gb g (by simp);have t0:=hT.cell' 0 rfl;have hTl:=hT.lt;clear g hT;have hkk:(Ab l i).kind=0:=by simpa using hk0
 have h40:Ah (Ab l (i+1)) [40]=false:=by have:=HKk.1.2.2;rw[hk0,Bool.true_and]at this;exact this
 rw[hkk]at t0;clear hk0;go_wp2_with fail;refine mR (Hs hp) λw4 g=>?_;replace HZ:=S (X (HZ.1.1.gb g (by simp)) (Ag HZ.1.2 g));replace hp:=hp.gbN g;clear g;go_wp2_with fail;refine mR (EY _ _ _ [40] _) λw5 g=>?_;replace HZ:=S (X (HZ.1.1.gb g (by simp)) (Ag HZ.1.2 g));replace hp:=hp.gbN g;clear g t0 hTl;rw[show((Ab l (i+1)).kind==4&&(Ab l (i+1)).text==[40])=false from h40];have hlz:=HZ.1.1.lt;have hs5:=HZ.1.2.size;go_wp2_with fail;refine(M1 HE.1 HSh.1 _ _ hp (λe=>HO.1 (by rw[<-HQ.1,e];rfl))).mono ?_;intro e w6 hq;obtain⟨g,⟨q,hr,rfl⟩| ⟨t,i6,v,hr,rfl,⟨pa,pc,la,lc,rfl,rp,rl⟩,hp9⟩⟩:=hq.split
 ·exact PBd HZ.1.2 g HQ hr
 replace HZ:=S (X (HZ.1.1.gb g (by simp;omega)) (Z HZ.1.2 g));replace hp:=hp9;clear hp9;replace HQ:=HQo HQ hr;clear hr;have hs6:=g.size;have hL:=Blk.new w6 (hdC t.h (.slice pa t.h.p.length pc) (.slice la t.kids.len lc)) 163;have hsince:∀q,Al (w5).heap.size q->q<w6.heap.size->w.heap.size<q:=λq hq _=>by have:(w5).heap.size<=q:=hq;omega
 have gN:=gZ w6 (.cells (hdC t.h (.slice pa t.h.p.length pc) (.slice la t.kids.len lc)).toArray 163 (0,0)) none;have HX:=S (X ((rp.mono (ok':=λq=>w.heap.size<q) hsince).gb gN (by simp)) ((rl.mono (ok':=λq=>w.heap.size<q) hsince).gb gN (by simp)));replace HZ:=S (X (HZ.1.1.gb gN (by simp)) (Ag HZ.1.2 gN));have hp7:=hp.gbN gN;replace hp:=hp7;have hb6:=hp.lt;clear g rp rl gN hsince hp7;have hlz:=HZ.1.1.lt;have hlL:=hL.lt;have hbLT:b<w6.heap.size/\w.heap.size<w6.heap.size:=by simp at hlz hlL;omega
 have HS:=S (MT hp [61]);clear hp;go_wp2_with fail;refine HS.1.mono ?_;rintro e w7 ⟨rfl,hp9,g⟩;replace hL:=hL.gb g (by simp;omega);replace HX:=S (X (HX.1.1.gb g (λq hq _ e=>by cases e;omega)) (HX.1.2.gb g (λq hq _ e=>by cases e;omega)));replace HZ:=S (X (HZ.1.1.gb g (by simp;omega)) (Z HZ.1.2 g));have hp:=hp9;clear g hp9 HS;generalize hsg:Ah (Ab l i6) [61]=ok at*;clear hsg;go_upto_if 52 with fail
 go_cut []from 9 (λwx=>∃j8,Par wx b tv wo l wordsL j8/\(Blk wx w.heap.size (stC 0 (.slice none 0 0)) 134/\w.grownBy wx (some b))/\Blk wx w6.heap.size (hdC t.h (.slice pa t.h.p.length pc) (.slice la t.kids.len lc)) 163/\(Cells wx (.slice pa t.h.p.length pc) 1 t.h.p.length (t.h.p.map str) (λq=>w.heap.size<q)/\RepL (λq=>w.heap.size<q) wx (.slice la t.kids.len lc) t.kids)/\((Ai l day n j8).bind λx j=>(B4 l j).bind λ_ j=>Res.ok ({sd0 0 []with x:= .two t x},Bl.nil) j)=R)
 case first=>
  cases ok with
  | true=>
    have hp1:Par w7 b tv wo l wordsL (i6+1):=hp;have e1:((Ai l day n (i6+1)).bind λx j=>(B4 l j).bind λ_ j=>Res.ok ({sd0 0 []with x:= .two t x},Bl.nil) j)=R:=HQ.1;have HQ1:=S e1;clear e1;go_wp2;go_meet
    case rel=>exact⟨_,hp1,HZ.1,hL,HX.1,HQ1.1⟩
  | false=>
    have hp1:Par w7 b tv wo l wordsL i6:=hp;replace hp:=hp1;clear hp1;have e1:Res.bind (AW l [58,61] i6) _=R:=HQ.1;replace HQ:=S e1;clear e1;have hlz:=HZ.1.1.lt;have hl7:=hL.lt;go_wp2_with fail;refine(CL hp [58,61]).mono ?_;intro e w8 hq;obtain⟨g,⟨q,hr,rfl⟩| ⟨u,i8,v,hr,rfl,rfl,hp9⟩⟩:=hq.split
    ·exact PBd HZ.1.2 g HQ hr
    replace HZ:=S (X (HZ.1.1.gb g (by simp;omega)) (Z HZ.1.2 g));replace hp:=hp9;clear hp9;replace HQ:=HQo HQ hr;clear hr;have hL8:=hL.gb g (by simp;omega);have HX8:=S (X (HX.1.1.gb g (λq hq _ e=>by cases e;omega)) (HX.1.2.gb g (λq hq _ e=>by cases e;omega)));clear g hL HX;go_wp2;go_meet
    case rel=>exact⟨_,hp,HZ.1,hL8,HX8.1,HQ.1⟩
 case rest=>
 obtain⟨j8,hp1,hz1,hL8,hX1,hq1⟩:=hcut;replace HZ:=S hz1;have HX8:=S hX1;replace HQ:=S hq1;replace hp:=hp1;clear hp1 hz1 hX1 hq1 hL HX;generalize hWW:wc=w8 at*;clear hWW;have hok:∀q,w.heap.size<q->some q≠some b:=λq hq e=>by cases e;omega
 have hzlt2:w.heap.size<w8.heap.size:=by have:=HZ.1.1.lt;omega
 have hLb:=hL8.lt;obtain⟨cl_0,cl_1,cl_2,cl_3,cl_4,cl_5,cl_6,cl_f⟩:=(hL8).c7;cases hr6:Ai l day n j8 with
 |out=>exact absurd (HQu HQ hr6) HO.1
 | bad q6=>
   go_wp2_with fail;go_region_with(first| (go_at_call 208;refine(HE.1 _ _ (hp.gbN (Ae (Aa w8 none))) (by rw[hr6];simp)).mono ?_;rintro e w9 h9;rw[hr6]at h9;obtain⟨g9,rfl⟩:=h9;refine Bx (P:=Tryz.prog) ⟨rfl,Post.bad (Z (Ae HZ.1.2) g9) (HQb HQ hr6)⟩ ⟨#[],[]⟩ w9 ?_)| (go_at_call 208;refine(HE.1 _ _ ((hp.alloc (.cells (stC 0 (.slice none 0 0)).toArray 134 (0,0))).gbN (Ae (Aa _ none))) (by rw[hr6];simp)).mono ?_;rintro e w9 h9;rw[hr6]at h9;obtain⟨g9,rfl⟩:=h9;refine Bx (P:=Tryz.prog) ⟨rfl,Post.bad (Z (Ae (Ac HZ.1.2 (.cells (stC 0 (.slice none 0 0)).toArray 134 (0,0)))) g9) (HQb HQ hr6)⟩ ⟨#[],[]⟩ w9 ?_));all_goals trivial
 |ok x i9=>
 replace HQ:=HQo HQ hr6;go_upto_region 18 with fail;go_cut [8]from 9 (λv8 wx=>∃kS kR,v8= .pointer (some ⟨kS,0,none⟩)/\Ie b tv wo l wordsL w t x i9 kS kR wx)
 case first=>
  go_region_with(first| (go_at_call 208;refine(HE.1 _ _ (hp.gbN (Ae (Aa w8 none))) (by rw[hr6];simp)).mono ?_;rintro e w9 ⟨g9,h9⟩;rw[hr6]at h9;obtain⟨v,rfl,⟨pa2,pc2,la2,lc2,rfl,rp2,rl2⟩,hp9⟩:=h9;have gD:=Z (Ae (Aa w8 (some b))) g9;have hL9:=hL8.gb gD (by simp;omega);have hL9t:=hL9.lt;have dl_:=hL9.c7;have HY:=S (X rp2 rl2);clear rp2 rl2)| (go_at_call 208;refine(HE.1 _ _ ((hp.alloc (.cells (stC 0 (.slice none 0 0)).toArray 134 (0,0))).gbN (Ae (Aa _ none))) (by rw[hr6];simp)).mono ?_;rintro e w9 ⟨g9,h9⟩;rw[hr6]at h9;obtain⟨v,rfl,⟨pa2,pc2,la2,lc2,rfl,rp2,rl2⟩,hp9⟩:=h9;have gD:=Z (Ae (Ac (Aa w8 (some b)) (.cells (stC 0 (.slice none 0 0)).toArray 134 (0,0)))) g9;have hL9:=hL8.gb gD (by simp;omega);have hL9t:=hL9.lt;have dl_:=hL9.c7;have HY:=S (X rp2 rl2);clear rp2 rl2;have hS9:=((Blk.new w8 (stC 0 (.slice none 0 0)) 134).drew).gb g9 (by have:=hp.lt;simp;omega);have sl_:=hS9.c10;have hS9t:=hS9.lt));all_goals
   have hzD:=HZ.1.1.gb gD (by simp;omega);have grD:=Z HZ.1.2 gD;have hs89:=gD.size;first
   | have hP:SetPre b tv wo l wordsL w t x pa la pa2 la2 pc lc pc2 lc2 i9 (λq=>w.heap.size<q/\q≠w8.heap.size) w9:=⟨hp9,(HX8.1.1.mono (ok':=λq=>w.heap.size<q/\q≠w8.heap.size) (λq hq h=>⟨hq,by omega⟩)).gb gD (by intro q hq _ e;cases e;have:=hq.1;omega),(HX8.1.2.mono (ok':=λq=>w.heap.size<q/\q≠w8.heap.size) (λq hq h=>⟨hq,by omega⟩)).gb gD (by intro q hq _ e;cases e;have:=hq.1;omega),HY.1.1.mono (λq hq _=>by simp at hq;exact⟨by omega,by omega⟩),HY.1.2.mono (λq hq _=>by simp at hq;exact⟨by omega,by omega⟩),grD,hzD,hb,λq hq=>hq.1⟩
     have hF:=hP.C hS9 hzlt2 (λq hq=>hq.2);go_wp2_with fail;go_meet
     case rel=>exact⟨_,_,rfl,hF⟩
   | have hP:SetPre b tv wo l wordsL w t x pa la pa2 la2 pc lc pc2 lc2 i9 (λq=>w.heap.size<q) w9:=⟨hp9,HX8.1.1.gb gD (λq hq _=>hok q hq),HX8.1.2.gb gD (λq hq _=>hok q hq),HY.1.1.mono (λq hq _=>by simp at hq;omega),HY.1.2.mono (λq hq _=>by simp at hq;omega),grD,hzD,hb,λq hq=>hq⟩
     go_wp2_with fail;go_meet
     case rel=>
      first
      |exact⟨_,_,rfl,hP.A⟩
      |exact⟨_,_,rfl,hP.B⟩
 case rest=>
 obtain⟨kS,kR,rfl,hW⟩:=hcut;generalize hWW:wc=W at*;clear hWW cl_0 cl_1 cl_2 cl_3 cl_4 cl_5 cl_6 cl_f hL8 HX8 HZ hp hr6;have hne:=hW.ne;go_wp2_with fail;refine(Ba hW.par).mono ?_;intro e w10 hq;obtain⟨g,⟨q,hr,rfl⟩| ⟨u,i10,v,hr,rfl,rfl,hp10⟩⟩:=hq.split
 ·exact PBd hW.gr g HQ hr
 replace HQ:=HQo HQ hr;clear hr;have hS:=hW.st.gb g (by simp;omega);have hZ:=hW.zero.gb g (by simp;omega);have HF:=S (X hp10 (X (Z hW.gr g) (hW.row.gb g (λq hq _=>hok q hq))));clear hp10 hW g;have sl_:=hS.c10;have zl_:=hZ.c10;have hSl:=hS.lt;have HZ9:=S hZ;clear hZ hS;go_wp2;refine bZ (A7 rfl _ (HZ9.1.set10 _ _ _ _ _ _ _ _ _ _) rfl rfl) rfl (Post.ok (Ap HF.1.2.1 (DR _ _ _ _ _ _ _ _ _ _ _ _) (.inr (nR _))) HQ.1.symm (StV.x (op:=0) (s:=[]) (f:= .two t x) ((HF.1.2.2.gb (DR _ _ _ _ _ _ _ _ _ _ _ _) (λq hq _ e=>by cases e;omega)).mono (λq hq _=>Nat.le_of_lt hq))) (HF.1.1.gb (DR _ _ _ _ _ _ _ _ _ _ _ _) (by intro q e;cases e;exact hb)))
open Go.Maps Go.WideMaps Go.ChangeMaps Go.MapKept
def RepP.four:∀{l:List Pd}{cs:List Value},RepP ok w l cs->∀i,i<l.length->∃fn pa pn pc ba bn bc,cs[i*4]? =some (str (Br l i))/\cs[i*4+1]? =some (.bool fn)/\cs[i*4+2]? =some (.slice pa pn pc)/\cs[i*4+3]? =some (.slice ba bn bc):=by
 intro l;induction l with
 |nil=>intro cs _ i hi;simp at hi
 | cons a r ih=>
   rintro cs ⟨pa,ba,pc,bc,rest,rfl,_,_,h3⟩ i hi;cases i with
   |zero=>exact⟨_,_,_,_,_,_,_,rfl,rfl,rfl,rfl⟩
   | succ i=>
     obtain⟨fn,pa',pn,pc',ba',bn,bc',e0,e1,e2,e3⟩:=ih h3 i (by simpa using hi);refine⟨fn,pa',pn,pc',ba',bn,bc',?_⟩;rw[show(i+1)*4=i*4+4 by omega];exact⟨by simpa[pdC,Br]using e0,by simpa[pdC,Br]using e1,by simpa[pdC,Br]using e2,by simpa[pdC,Br]using e3⟩
def Pj{z:DataW Unit×List MemPlace}(h:plainElem Tryz.prog 4 v=some z):∃x,v= .bool x/\z=(.lit (.bool x),[]):=by
 unfold plainElem at h;rw[underlying4]at h;cases v<;>simp at h;exact⟨_,rfl,h.symm⟩
def Ed(l:List Bs):DataW Unit:=l.foldl (λD s=>D.put (.string s) (.lit (.bool true))) (.map [])
def Iy(l:List Bs)(s:Bs):Ed (l++[s])=(Ed l).put (.string s) (.lit (.bool true)):=by simp[Ed]
def Uw{D:DataW Unit}(h:IsMap D)(k:Lit)(d:DataW Unit):IsMap (D.put k d):=by
 obtain⟨es,rfl⟩:=h;exact⟨_,rfl⟩
def Vw(s:Bs):∀(l:List Bs)(D:DataW Unit),IsMap D->(l.foldl (λD s=>D.put (.string s) (.lit (.bool true))) D).atKey (.string s) (.lit (.bool false))=if l.contains s then .lit (.bool true)else D.atKey (.string s) (.lit (.bool false)):=by
 intro l;induction l with
 |nil=>intro D _;rfl
 | cons a r ih=>
   intro D hD;rw[List.foldl_cons,ih _ (Uw hD _ _)];by_cases h:s=a
   ·subst h;rw[atKey_put_same hD (by first|exact trivial|decide|simp[WideAt.IsKeyLit])];simp
   ·rw[atKey_put_other (by simpa using h)];simp[List.contains_cons,h]
def Ym(l:List Bs)(s:Bs):(Ed l).atKey (.string s) (.lit (.bool false))= .lit (.bool (l.contains s)):=by
 unfold Ed;rw[Vw s l _ ⟨_,rfl⟩];cases l.contains s<;>rfl
def MH{W:World}{l:List Bs}(hs:s.length<=maxLen)(h:W.ownsMap Tryz.prog 9 (plainElem Tryz.prog 4) b n (Ed l)):
 (Instr.lookup 62 (.map (some b)) (str s) false).run Tryz.prog W= .ok (.bool (l.contains s)) W:=by
 have hkey:keyOf Tryz.prog 9 (str s)=some (.string s):=keyOf_string_mk (s:=⟨s.toArray⟩) underlying9 hs;obtain⟨v,ps,hrun,hv⟩:=h.lookup Ih underlying62 (zeroB W) (plainElem_bool underlying4 false) hkey;obtain⟨x,rfl,e⟩:=Pj hv;rw[Ym]at e;cases e;exact hrun
def Q7{l:List Pd}(hs:∀i,i<l.length->(Br l i).length<=maxLen)(hf:RepQ ok w (.slice la l.length lc) l):
 Calls Tryz.prog 60 #[.slice la l.length lc] w (ρ w (.bool (EK l))):=by
 obtain⟨cs,hc1,hr1⟩:=hf;obtain⟨_,_,e,hle,hmx,hcl,hc1⟩:=hc1;cases e;have hmax:l.length<=maxLen:=by omega
 unfold maxLen at hmax;clear hle hmx;have HC:=S (λi (hi:i<l.length)=>show ∃fn pa pn pc ba bn bc,∃g o,la=some ⟨g,o,none⟩/\w.cell? ⟨g,o+i*4,none⟩=some (str (Br l i))/\w.cell? ⟨g,o+i*4+1,none⟩=some (.bool fn)/\w.cell? ⟨g,o+i*4+2,none⟩=some (.slice pa pn pc)/\w.cell? ⟨g,o+i*4+3,none⟩=some (.slice ba bn bc)from by
  obtain⟨fn,pa,pn,pc,ba,bn,bc,h0,h1,h2,h3⟩:=hr1.four i hi;obtain⟨g,o,e,_,c0⟩:=hc1 (i*4) _ h0;obtain⟨_,_,e1,_,c1⟩:=hc1 (i*4+1) _ h1;obtain⟨_,_,e2,_,c2⟩:=hc1 (i*4+2) _ h2;obtain⟨_,_,e3,_,c3⟩:=hc1 (i*4+3) _ h3;rw[e]at e1 e2 e3;cases e1;cases e2;cases e3;rw[<-Nat.add_assoc]at c1 c2 c3;exact⟨_,_,_,_,_,_,_,g,o,e,c0,c1,c2,c3⟩)
 have HS:=S hs;clear hc1 hr1 hs;generalize hT:EK l=T;have HT:=S hT;clear hT;have hmm:=@run_makeMap Tryz.prog;have HM:=S (World.ownsMap_made (H:=Unit) w Tryz.prog 9 (plainElem Tryz.prog 4));go_enter func60,ntmps60;go_wp2_with fail;go_loopg [9] l.length (λg v9 wr=>∃i:Nat,i+g=l.length/\v9= .int .i64 i/\(∀j,j<i->∀k,k<j->Br l j≠Br l k)/\wr.ownsMap Tryz.prog 9 (plainElem Tryz.prog 4) w.heap.size i (Ed ((List.range i).map (Br l)))/\w.grownBy wr none)
 case atStart=>exact⟨0,by omega,rfl,λj hj=>by omega,HM.1,gZ w _ none⟩
 case round=>
  obtain⟨i,hk,rfl,hno,hown,hgr⟩:=hrel;clear HM;have HN:=S (X hno (X hown hgr));clear hno hown hgr;by_cases hi:i<l.length
  ·have hi1:decide (i<l.length)=true:=by simpa using hi
   have i0:(0:Int)<=(i:Int):=by omega
   have i1:(i:Int)<(l.length:Int):=by omega
   obtain⟨fn,pa,pn,pc,ba,bn,bc,gb,ob,rfl,c0,c1,c2,c3⟩:=HC.1 i hi;replace c0:=Ad HN.1.2.2 c0;replace c1:=Ad HN.1.2.2 c1;replace c2:=Ad HN.1.2.2 c2;replace c3:=Ad HN.1.2.2 c3;have hgl:=bY _ _ c0;have hlk:=MH (HS.1 i hi) (HN.1.2.1.alloc (.cells #[str (Br l i),.bool fn,.slice pa pn pc,.slice ba bn bc] 40 (0,0)));cases hE:((List.range i).map (Br l)).contains (Br l i)with
   | true=>
     have HF:=S (show T=true by
      rw[<-HT.1];have h:=hE;simp only[List.contains_eq_mem,List.mem_map,List.mem_range,decide_eq_true_eq]at h;obtain⟨k,hk,e⟩:=h;exact UT hi hk e.symm)
     rw[hE]at hlk;have HG:=S (Ac HN.1.2.2 (.cells #[str (Br l i),.bool fn,.slice pa pn pc,.slice ba bn bc] 40 (0,0)));clear hE;go_wp2;go_ret;exact⟨by rw[HF.1];rfl,HG.1⟩
   | false=>
     have HF:=S (show ∀j,j<i+1->∀k,k<j->Br l j≠Br l k from λj hj q hq=>by
      by_cases e:j=i
      ·subst e;intro e;have h:((List.range j).map (Br l)).contains (Br l j)=true:=by
        simp only[List.contains_eq_mem,List.mem_map,List.mem_range,decide_eq_true_eq];exact⟨q,hq,e.symm⟩
       rw[h]at hE;cases hE
      ·exact HN.1.1 j (by omega) q hq)
     rw[hE]at hlk;have hkey:keyOf Tryz.prog 9 (str (Br l i))=some (.string (Br l i)):=keyOf_string_mk (s:=⟨(Br l i).toArray⟩) underlying9 (HS.1 i hi);have HK:=S hkey;clear hE hkey;go_wp2_with (at_mapUpdate;refine wpList_mapUpdate_own _ rfl _ _ _ 62 rfl 9 4 Ih underlying62 (plainElem (H:=Unit) Tryz.prog 4) w.heap.size i _ rfl (HN.1.2.1.alloc _) (by unfold maxLen;omega) _ _ _ rfl rfl HK.1 _ [] (plainElem_bool underlying4 true) ?_;intro w1 hown1 hgrow1;(have HW:=S (X hown1 (Ap (Ac HN.1.2.2 (.cells #[str (Br l i),.bool fn,.slice pa pn pc,.slice ba bn bc] 40 (0,0))) hgrow1 (.inr (nR _)))));clear hown1 hgrow1);go_roundg (l.length-(i+1))
     case measure=>omega
     case rel=>exact⟨i+1,by omega,by go_num,HF.1,by rw[List.range_succ,List.map_append,List.map_singleton,Iy];exact HW.1.1,HW.1.2⟩
  ·have hi1:decide (i<l.length)=false:=by simpa using hi
   have HF:=S (show T=false by rw[<-HT.1];exact WZ (λj hj=>HN.1.1 j (by omega)));go_wp2;go_ret;exact⟨by rw[HF.1];rfl,HN.1.2.2⟩
section
open Rd
variable (hn:Aj l)(W:List Bs)(day:Bs->Int){block:Rd l Bl}
def CM:EndsS (B5 hn day n) n:=λi h1 h2=>(GS (l:=l) day n i).nx (by omega)
def Ko:EndsS (GH hn day n) n:=λi h1 h2=>(JI (o:=True) (n:=n) (λq hq=>(GS (l:=l) day n q).weak (λ_=>by omega)) (λ_=>by omega)).nx trivial
def RT:EndsS (Ox hn n) n:=λi h1 h2=>(LF (o:=True) (λ_=>by omega)).nx trivial
def RP:EndsS (Lh hn day n) n:=λi h1 h2=>(LD (o:=True) (λ_ q hq=>(GS (l:=l) day n q).weak (λ_=>by omega))).nx trivial
def Kq:Ends (Ic hn day n) n:=RM (Ends.pure _) ((CM hn day).weak.bind λ_=>Ends.pure _)
def LS{step:α->Rd l α}(h:∀a,Ends (step a) m)(hk:m<=k+1)(a:α):Ends (Rd.moreS s step k a) m:=λi h1 h2=>RQ h k a i h1 (by omega) h2
def Qu{w:Bs}(hw:w≠[]){step:α->Rd l α}(h:∀a,Ends (step a) (m-1))(hk:m<=k+1)(a:α):Ends (Rd.moreW W w step k a) m:=λi h1 h2=>RR hw h k a i h1 (by omega) h2
def L3(a:List Bs×Fo):Ends (FP hn day n a) n:=
 (CN hn).weak.bind λ_=>(Fb ((CM hn day).weak.le (by omega)) (Ends.pure _)).bind λ_=>Ends.pure _
def Py(w:Bs):Ends (D4 hn day n w) (n-1):=
 ((L3 hn day _).le (by omega)).bind λa=>(LS (λa=>(L3 hn day a).le (by omega)) (by omega) a).bind λ_=>ends_fin.weak.bind λ_=>Ends.pure _
def Kp(hb:Ends block (n-1))(a:Fo×Bl):Ends (Dy hn day n block a) (n-1):=
 ((CM hn day).weak.le (by omega)).bind λ_=>ends_fin.weak.bind λ_=>hb.bind λ_=>Ends.pure _
def LR(hb:Ends block (n-1)){more other last:Bs}(h1:more≠[])(h2:other≠[])(h3:last≠[]):Ends (Em hn W day n block more other last) (n-1):=
 (Kp hn day hb _).bind λa=>(Qu W h1 (λa=>(Kp hn day hb a).le (by omega)) (by omega) a).bind λa=>
  (Ef h2 (ends_fin.weak.bind λ_=>(hb.le (by omega)).bind λ_=>Ends.pure _) (Ends.pure _)).bind λ_=>(CZ h3).weak.bind λ_=>ends_fin.weak.bind λ_=>Ends.pure _
def XP(hb:Ends block (n-1)):Ends (doP hn W day n block) (n-1):=
 Ef (by decide) (ends_fin.weak.bind λ_=>(CZ (by decide)).weak.bind λ_=>(LR hn W day hb (by decide) (by decide) (by decide)).le (by omega))
  (Ef (by decide) (((Kp hn day hb _).le (by omega)).bind λa=>(CZ (by decide)).weak.bind λ_=>ends_fin.weak.bind λ_=>Ends.pure _)
   ((CN hn).weak.bind λs=>(Ef (by decide) ((Ko hn day).weak.le (by omega)) (Ends.pure _)).bind λ_=>ends_fin.weak.bind λ_=>Ends.pure _))
def T1(hb:Ends block (n-1)):Ends (EM hn W day n block) (n-1):=
 (CN hn).weak.bind λ_=>(GU _).weak.bind λ_=>((CM hn day).weak.le (by omega)).bind λ_=>(CZ (by decide)).weak.bind λ_=>((CM hn day).weak.le (by omega)).bind λ_=>
  (Ef (by decide) ((CM hn day).weak.le (by omega)) (Ends.pure _)).bind λ_=>ends_fin.weak.bind λ_=>hb.bind λ_=>(CZ (by decide)).weak.bind λ_=>ends_fin.weak.bind λ_=>Ends.pure _
def RN(hb:Ends block (n-1)):Ends (EF hn W block) (n-1):=
 (CZ (by decide)).weak.bind λ_=>ends_fin.weak.bind λ_=>hb.bind λ_=>
  (Ef (by decide) ((Ef (by decide) (CN hn).weak (Ends.pure _)).bind λ_=>ends_fin.weak.bind λ_=>(hb.le (by omega)).bind λ_=>Ends.pure _) (Ends.pure _)).bind λ_=>
   (CZ (by decide)).weak.bind λ_=>ends_fin.weak.bind λ_=>Ends.pure _
def KW{q:Rd l α}(hi:i<l.length)(hq:Nx l (i+1) (q.f (i+1))):NxS l i ((Rd.skip.bind λ_=>q).f i):=by
 show NxS l i (q.f (i+1));revert hq;cases q.f (i+1)with
 |ok b k=>exactλh=>⟨by have:=h.1;omega,h.2⟩
 |bad k=>exact id
 |out=>exact id
def IX{β:Type}{P:Rd l α}{Q:α->Rd l β}(hP:Nx l i (P.f i))(hQ:∀a j,i<=j->j<=l.length->Nx l j ((Q a).f j)):Nx l i ((P.bind Q).f i):=by
 show Nx l i ((P.f i).bind _);cases hr:P.f i with
 | ok a j=>
   rw[hr]at hP;have hq:=hQ a j hP.1 hP.2;show Nx l i ((Q a).f j);revert hq;cases(Q a).f j with
   |ok b k=>exactλhq=>⟨nT hP.1 hq.1,hq.2⟩
   |bad k=>exactλ_=>trivial
   |out=>exact id
 |bad k=>trivial
 |out=>rw[hr]at hP;exact hP
def Sj:Bd []=0:=by decide
def RV:∀k c i,i<=l.length->l.length+1<=k+i->l.length+2<=n+i->Nx l i ((Bz hn W day n k c).f i):=by
 intro k;induction k with
 |zero=>intro c i h1 h2;omega
 | succ k ih=>
   intro c i h1 h2 h3;have step:∀(hi:i<l.length)(F:Ex->ScM),Nx l i (((Rd.skip.bind λ_=>(B5 hn day n).bind λx=>Bz hn W day n k (F x)):Rd l ScM).f i):=λhi F=>
    (KW hi (IX ((CM hn day).weak (i+1) hi (by omega)) (λx j h4 h5=>ih (F x) j h5 (by omega) (by omega)))).weak
   unfold Bz;show Nx l i ((if Bd (Ar l W i)≠0/\c.kind=0 then _ else _:Rd l ScM).f i);generalize hw:Ar l W i=w at*;have hlt:w≠[]->i<l.length:=λh=>CV (W:=W) (by rw[hw];exact h);split
   ·rename_i h;have hi:=hlt (λe=>h.1 (by rw[e];exact Sj));split
    ·exact step hi _
    ·exact(KW hi (ih _ (i+1) hi (by omega) (by omega))).weak
   ·split
    ·rename_i h;exact step (hlt (by rw[h.1];decide)) _
    ·split
     ·rename_i h;exact step (hlt (by rw[h.1];decide)) _
     ·exact⟨nR _,h1⟩
def Qv(c:ScM):Ends (Bz hn W day n n c) (n-1):=λi h1 h2=>RV hn W day n c i h1 (by omega) (by omega)
def L4(a:List Bs×Fo):Ends (E8 hn W day n a) n:=
 (CN hn).weak.bind λ_=>(CZ (by decide)).weak.bind λ_=>(CM hn day).weak.bind λ_=>Ends.pure _
def IG{Q:Bs->Rd l α}(h:∀w i,Ar l W i=w->i<=l.length->l.length+2<=n+i->Nx l i ((Q w).f i)):Ends ((here W).bind Q) n:=λi h1 h2=>h _ i rfl h1 h2
def GM{q:Rd l α}(hq:Ends q n)(hi:i<l.length)(h2:l.length+2<=n+i):Nx l i ((Rd.skip.bind λ_=>q).f i):=(Ds (hq.le (by omega)) hi h2).weak
def RO(s:Sd):Ends (Fv hn W day n s) (n-1):=
 (CZ (by decide)).weak.bind λ_=>((CM hn day).weak.le (by omega)).bind λ_=>(CZ (by decide)).weak.bind λ_=>(CN hn).weak.bind λ_=>
  (Ef (by decide) (((CM hn day).weak.le (by omega)).bind λ_=>Ends.pure _) (Ends.pure _)).bind λ_=>
   IG W λw i hw h1 h2=>IX (by
    split
    ·rename_i h
     exact GM (n:=n-1) (Ends.pure _) (CV (W:=W) (by rw[hw];rcases h with h|h<;>rw[h]<;>decide)) h2
    ·exact⟨nR _,h1⟩) (λt j h4 h5=>Ends.bind (n:=n-1) (Ef (by decide) (Ends.pure _) (Ends.pure _)) (λ_=>Ends.pure _) j h5 (by omega))
def Pz(s:Sd):Ends (Fg hn W day n s) (n-1):=IG W λw i hw h1 h2=>by
 have hlt:w≠[]->i<l.length:=λh=>CV (W:=W) (by rw[hw];exact h)
 split
 ·rename_i h
  refine GM (n:=n-1) ?_ (hlt (by rcases h with h|h<;>rw[h]<;>decide)) h2
  refine IG W λt i ht h1 h2=>?_
  split
  ·rename_i h
   exact GM (n:=n-1) (Ends.pure _) (CV (W:=W) (by rw[ht];rcases h with h|h<;>rw[h]<;>decide)) h2
  ·exact trivial
 ·split
  ·rename_i h
   refine GM (n:=n-1) ?_ (hlt (by rcases h with h|h|h<;>rw[h]<;>decide)) h2
   refine(CZ (by decide)).weak.bind λ_=>IF (Ends.pure _) ?_
   split
   ·exact(CN hn).weak.bind λ_=>Ends.pure _
   ·split
    ·exact((CM hn day).weak.le (by omega)).bind λ_=>Ends.pure _
    ·exact((CM hn day).weak.le (by omega)).bind λ_=>(CZ (by decide)).weak.bind λ_=>(CN hn).weak.bind λ_=>Ends.pure _
  ·exact trivial
def XQ(s:Sd):Ends (goP hn W day n s) (n-1):=IG W λw i hw h1 h2=>by
 show Nx l i (if(w==FE||w==Fp)&&Rd.atEnd l (i+1)then(Rd.skip.bind λ_=>Rd.pure _:Rd l Sd).f i else _)
 split
 ·rename_i h
  simp only[Bool.and_eq_true,Bool.or_eq_true,beq_iff_eq]at h
  exact GM (n:=n-1) (Ends.pure _) (CV (W:=W) (by rw[hw];rcases h.1 with h|h<;>rw[h]<;>decide)) h2
 ·exact Ends.bind (n:=n-1) ((CM hn day).weak.le (by omega)) (λ_=>Ends.pure _) i h1 h2
def V4{c:Prop} [Decidable c] {p q:Rd l α} (hp:Ends p m) (hq:Ends q m):Ends (if c then p else q) m:=by
 by_cases h:c
 ·rw[if_pos h];exact hp
 ·rw[if_neg h];exact hq
def Px(w:Bs):Ends (B8 hn W day n w) (n-1):=by
 unfold B8;have hx:=(CM hn day (n:=n)).weak.le (n:=n-1) (by omega);have hs:=Qv hn W day (n:=n) Ck;repeat' refine V4 ?_ ?_
 ·exact(CN hn).weak.bind λ_=>Ends.pure _
 ·exact IF (Ends.pure _) ((CN hn).weak.bind λ_=>(Ef (by decide) ((CN hn).weak.bind λ_=>Ends.pure _) (Ends.pure _)).bind λ_=>Ends.pure _)
 ·exact XQ hn W day _
 ·exact((Kq hn day).le (by omega)).bind λ_=>Ends.pure _
 ·exact hx.bind λ_=>Ends.pure _
 ·exact Ends.pure _
 ·exact(CZ (by decide)).weak.bind λ_=>Ends.pure _
 ·exact hs.bind λ_=>Ends.pure _
 ·exact((L4 hn W day _).le (by omega)).bind λa=>(LS (λa=>(L4 hn W day a).le (by omega)) (by omega) a).bind λ_=>hs.bind λ_=>Ends.pure _
 ·exact(CZ (by decide)).weak.bind λ_=>(CN hn).weak.bind λ_=>hs.bind λ_=>Ends.pure _
 ·exact hx.bind λ_=>(CZ (by decide)).weak.bind λ_=>(CN hn).weak.bind λ_=>hs.bind λ_=>Ends.pure _
 ·exact RO hn W day _
 ·exact Pz hn W day _
def T3(hb:Ends block (n-1))(w:Bs)(hi:i<l.length)(h2:l.length+2<=n+i):NxS l i ((By hn W day n block w).f i):=by
 unfold By;have hf:Ends ((Rd.fin.bind λ_=>Rd.pure (sd0 6 [],Bl.nil)):Rd l StB) (n-1):=ends_fin.weak.bind λ_=>Ends.pure _;repeat' split
 ·exact Ds (Py hn day w) hi h2
 ·exact Ds (LR hn W day hb (by decide) (by decide) (by decide)) hi h2
 ·exact Ds (XP hn W day hb) hi h2
 ·exact Ds (T1 hn W day hb) hi h2
 ·exact Ds (ends_fin.weak.bind λ_=>Ends.pure _) hi h2
 ·exact Ds (ends_fin.weak.bind λ_=>Ends.pure _) hi h2
 ·exact Ds (((Kq hn day).le (by omega)).bind λ_=>ends_fin.weak.bind λ_=>Ends.pure _) hi h2
 ·exact Ds (((Kq hn day).le (by omega)).bind λ_=>ends_fin.weak.bind λ_=>Ends.pure _) hi h2
 ·exact Ds (RN hn W hb) hi h2
 ·exact Ds ((Px hn W day w).bind λ_=>ends_fin.weak.bind λ_=>Ends.pure _) hi h2
 ·exact trivial
def II(t:Ex):Ends (Gn hn day n t) n:=
 (Fb (Ends.pure _) (GU _).weak).bind λ_=>(CM hn day).weak.bind λ_=>ends_fin.weak.bind λ_=>Ends.pure _
def T5(s:Bs):Ends (Ia hn day n s) n:=
 Fb ((Fb (Ends.pure _) (((Ko hn day).weak.le (by omega)).bind λ_=>(GU _).weak.bind λ_=>Ends.pure _)).bind λ_=>ends_fin.weak.bind λ_=>Ends.pure _)
  (Fb (((CM hn day).weak.le (by omega)).bind λ_=>(GU _).weak.bind λ_=>(II hn day _).le (by omega))
   (Fb ((CN hn).weak.bind λ_=>(II hn day _).le (by omega)) (II hn day _)))
def RU:EndsS (EH hn day n) n:=
 Tz ((IF (Ends.pure _) ((Ko hn day).weak.le (by omega))).bind λ_=>ends_fin.weak.bind λ_=>Ends.pure _)
  (RL ((RP hn day).bind λt=>(II hn day t).le (by omega)) ((CN hn).bind λs=>(T5 hn day s).le (by omega)))
def T4(hb:Ends block (n-1)):EndsS (BL hn W day n block) n:=by
 intro i h1 h2;show NxS l i ((if Bv l W i=[]then EH hn day n else By hn W day n block (Bv l W i)).f i);split
 ·exact RU hn day i h1 h2
 ·rename_i h;exact T3 hn W day hb _ (Zp h) h2
end
section
open Rd
variable (hn:Aj l)(W:List Bs)(day:Bs->Int)
def OO{st:Rd l StB}(h:EndsS st n):∀k a i,i<=l.length->l.length+1<=k+i->l.length+2<=n+i->Nx l i ((D8 W st k a).f i):=by
 intro k;induction k with
 |zero=>intro a i h1 h2;omega
 | succ k ih=>
   intro a i h1 h2 h3;show Nx l i (if Fi l W i then(st.bind λr=>D8 W st k (a.app (.st r.1 r.2 .nil))).f i else .ok a i);split
   ·have h0:=h i h1 h3;show Nx l i ((st.f i).bind _);cases hr:st.f i with
    | ok b j=>
      rw[hr]at h0;have hq:=ih (a.app (.st b.1 b.2 .nil)) j h0.2 (by have:=h0.1;omega) (by have:=h0.1;omega);rw[Res.bind_ok];revert hq;cases(D8 W st k (a.app (.st b.1 b.2 .nil))).f j with
      |ok b k=>exactλh=>⟨by have:=h.1;have:=h0.1;omega,h.2⟩
      |bad k=>exact id
      |out=>exact id
    |bad k=>trivial
    |out=>rw[hr]at h0;exact h0
   ·exact⟨nR _,h1⟩
def Mc:∀m,Ends (Du hn W day m) (m-1):=by
 intro m;induction m with
 |zero=>intro i h1 h2;omega
 |succ n ih=>exactλi h1 h2=>OO W (T4 hn W day (n:=n) ih) n .nil i h1 (by omega) (by omega)
def T2(n:Nat)(a:List Pq)(fn:Bool):Ends (Ec hn W day n a fn) (n-1):=
 (CN hn).weak.bind λ_=>(Fb (Fb (Ends.pure _) (((RT hn (n:=n)).weak.le (by omega)).bind λ_=>(GU _).weak.bind λ_=>Ends.pure _)) (Ends.pure _)).bind λ_=>
  ends_fin.weak.bind λ_=>(Mc hn W day n).bind λ_=>Ends.pure _
def Pv(n:Nat):∀k a i,i<=l.length->l.length+1<=k+i->l.length+2<=(n-1)+i->Nx l i ((D6 hn W day n k a).f i):=by
 intro k;induction k with
 |zero=>intro a i h1 h2;omega
 | succ k ih=>
   intro a i h1 h2 h3;show Nx l i (if decide (i<l.length)then(if Ar l W i=DW\/Ar l W i=C7 then(Rd.skip.bind λ_=>(Ec hn W day n a (Ar l W i==C7)).bind λa=>D6 hn W day n k a)else Rd.bad a:Rd l (List Pq)).f i else .ok a i);split
   ·rename_i hi;simp only[decide_eq_true_eq]at hi;split
    ·exact(KW hi (IX (T2 hn W day n a _ (i+1) hi (by omega)) (λx j h4 h5=>ih x j h5 (by omega) (by omega)))).weak
    ·exact trivial
   ·exact⟨nR _,h1⟩
def M7(n:Nat)(h:l.length+3<=n):Nx l 0 ((BW hn W day n).f 0):=
 IX (Mc hn W day n 0 (nZ _) (by omega)) (λb j _ h5=>Pv hn W day n n _ j h5 (by omega) (by omega))
end
section
variable {vk vn:Int}{vs:Bs}
def Q3(hl:vs.length<=2000000):
 Calls Tryz.prog 218 #[.agg #[.int .i64 vk,.int .i64 vn,str vs]] w (ρ w (.bool (A8 (HdV vk vn vs)))):=by
 have hT:=S (λW=>Sg vs hl W);by_cases h0:vk=0
 ·subst h0;by_cases hn:vn=0
  ·subst hn;by_cases hs:vs=[]
   ·have HF:=S (show A8 (HdV 0 0 vs)=true by simp[A8,HdV,hs]);clear hl hT;have hsI:(vs==[])=true:=by simpa using hs
    go_enter func218,ntmps218;go_wp2;go_ret;exact⟨by rw[HF.1];rfl,(Ac (Aa _ _) _)⟩
   ·have HF:=S (show A8 (HdV 0 0 vs)=false by simp[A8,HdV,hs]);clear hl hT;have hsI:(vs==[])=false:=by simpa using hs
    go_enter func218,ntmps218;go_wp2;go_ret;exact⟨by rw[HF.1];rfl,(Ac (Aa _ _) _)⟩
  ·have HF:=S (show A8 (HdV 0 vn vs)=false by simp[A8,HdV,hn]);clear hl hT;have hnI:(vn==0)=false:=by simpa using hn
   go_enter func218,ntmps218;go_wp2;go_ret;exact⟨by rw[HF.1];rfl,(Ac (Aa _ _) _)⟩
 have c0:(vk==0)=false:=by simpa using h0
 by_cases h1:vk=1
 ·subst h1;by_cases hn0:vn=0
  ·subst hn0;clear h0;by_cases hs:vs=[]
   ·have HF:=S (show A8 (HdV 1 0 vs)=true by simp[A8,HdV,hs]);clear hl hT;have hsI:(vs==[])=true:=by simpa using hs
    go_enter func218,ntmps218;go_wp2;go_ret;exact⟨by rw[HF.1];rfl,(Ac (Aa _ _) _)⟩
   ·have HF:=S (show A8 (HdV 1 0 vs)=false by simp[A8,HdV,hs]);clear hl hT;have hsI:(vs==[])=false:=by simpa using hs
    go_enter func218,ntmps218;go_wp2;go_ret;exact⟨by rw[HF.1];rfl,(Ac (Aa _ _) _)⟩
  have hnI0:(vn==0)=false:=by simpa using hn0
  by_cases hn1:vn=1
  ·subst hn1;clear h0;by_cases hs:vs=[]
   ·have HF:=S (show A8 (HdV 1 1 vs)=true by simp[A8,HdV,hs]);clear hl hT;have hsI:(vs==[])=true:=by simpa using hs
    go_enter func218,ntmps218;go_wp2;go_ret;exact⟨by rw[HF.1];rfl,(Ac (Aa _ _) _)⟩
   ·have HF:=S (show A8 (HdV 1 1 vs)=false by simp[A8,HdV,hs]);clear hl hT;have hsI:(vs==[])=false:=by simpa using hs
    go_enter func218,ntmps218;go_wp2;go_ret;exact⟨by rw[HF.1];rfl,(Ac (Aa _ _) _)⟩
  have hnI1:(vn==1)=false:=by simpa using hn1
  have HF:=S (show A8 (HdV 1 vn vs)=false by simp[A8,HdV,hn0,hn1]);clear hl hT h0;go_enter func218,ntmps218;go_wp2;go_ret;exact⟨by rw[HF.1];rfl,(Ac (Aa _ _) _)⟩
 have c1:(vk==1)=false:=by simpa using h1
 by_cases h2:vk=2
 ·subst h2;by_cases ha:0<=vn
  ·by_cases hb:vn<=999999999999999
   ·by_cases hs:vs=[]
    ·have HF:=S (show A8 (HdV 2 vn vs)=true by simp[A8,HdV,ha,hb,hs]);clear hl hT;have hsI:(vs==[])=true:=by simpa using hs
     go_enter func218,ntmps218;go_wp2;go_ret;exact⟨by rw[HF.1];rfl,(Ac (Aa _ _) _)⟩
    ·have HF:=S (show A8 (HdV 2 vn vs)=false by simp[A8,HdV,ha,hb,hs]);clear hl hT;have hsI:(vs==[])=false:=by simpa using hs
     go_enter func218,ntmps218;go_wp2;go_ret;exact⟨by rw[HF.1];rfl,(Ac (Aa _ _) _)⟩
   ·have HF:=S (show A8 (HdV 2 vn vs)=false by simp[A8,HdV,hb]);clear hl hT;have hbI:decide (vn<=999999999999999)=false:=by simpa using hb
    go_enter func218,ntmps218;go_wp2;go_ret;exact⟨by rw[HF.1];rfl,(Ac (Aa _ _) _)⟩
  ·have HF:=S (show A8 (HdV 2 vn vs)=false by simp[A8,HdV,ha]);clear hl hT;have haI:decide ((0:Int)<=vn)=false:=by simpa using ha
   go_enter func218,ntmps218;go_wp2;go_ret;exact⟨by rw[HF.1];rfl,(Ac (Aa _ _) _)⟩
 have c2:(vk==2)=false:=by simpa using h2
 by_cases h3:vk=3
 ·subst h3;by_cases ha:0<=vn
  ·by_cases hb:vn<=3652059
   ·by_cases hs:vs=[]
    ·have HF:=S (show A8 (HdV 3 vn vs)=true by simp[A8,HdV,ha,hb,hs]);clear hl hT;have hsI:(vs==[])=true:=by simpa using hs
     go_enter func218,ntmps218;go_wp2;go_ret;exact⟨by rw[HF.1];rfl,(Ac (Aa _ _) _)⟩
    ·have HF:=S (show A8 (HdV 3 vn vs)=false by simp[A8,HdV,ha,hb,hs]);clear hl hT;have hsI:(vs==[])=false:=by simpa using hs
     go_enter func218,ntmps218;go_wp2;go_ret;exact⟨by rw[HF.1];rfl,(Ac (Aa _ _) _)⟩
   ·have HF:=S (show A8 (HdV 3 vn vs)=false by simp[A8,HdV,hb]);clear hl hT;have hbI:decide (vn<=3652059)=false:=by simpa using hb
    go_enter func218,ntmps218;go_wp2;go_ret;exact⟨by rw[HF.1];rfl,(Ac (Aa _ _) _)⟩
  ·have HF:=S (show A8 (HdV 3 vn vs)=false by simp[A8,HdV,ha]);clear hl hT;have haI:decide ((0:Int)<=vn)=false:=by simpa using ha
   go_enter func218,ntmps218;go_wp2;go_ret;exact⟨by rw[HF.1];rfl,(Ac (Aa _ _) _)⟩
 have c3:(vk==3)=false:=by simpa using h3
 by_cases h4:vk=4
 ·subst h4;by_cases hn:vn=0
  ·subst hn;have HF:=S (show A8 (HdV 4 0 vs)=En vs by simp[A8,HdV]);rw[HF.1];clear hl HF;generalize En vs=b at*;go_enter func218,ntmps218;go_wp2_with fail;refine mR (hT.1 _) λw1 g1=>?_;have HG:=S (Z (gZ w (.cells #[.int .i64 4,.int .i64 0,str vs] 161 (0,0)) none) g1);clear g1;go_wp2;go_ret;exact⟨rfl,HG.1⟩
  ·have HF:=S (show A8 (HdV 4 vn vs)=false by simp[A8,HdV,hn]);clear hl hT;have hnI:(vn==0)=false:=by simpa using hn
   go_enter func218,ntmps218;go_wp2;go_ret;exact⟨by rw[HF.1];rfl,(Ac (Aa _ _) _)⟩
 have c4:(vk==4)=false:=by simpa using h4
 have HF:=S (show A8 (HdV vk vn vs)=false by simp[A8,HdV,h0,h1,h2,h3,h4]);clear hl hT;go_enter func218,ntmps218;go_wp2;go_ret;exact⟨by rw[HF.1];rfl,(Ac (Aa _ _) _)⟩
end
def LU{h:Hd}{pa:Option Addr}{pc:Nat}{b:Bool}(hfit:h.fit)(hp:Cells w (.slice pa h.p.length pc) 1 h.p.length (h.p.map str) ok)
 (HL:∀W,w.grownBy W none->Calls Tryz.prog 122 #[.slice la n lc] W (ρ W (.bool b))):
 Calls Tryz.prog 170 #[exV h (.slice pa h.p.length pc) (.slice la n lc)] w (ρ w (.bool (BY h n&&b))):=by
 by_cases hv:h.op≠0/\¬(h.vk=0/\h.vn=0/\h.vs=[])
 ·rw[Uf hv.1 hv.2];exact Q4 hv.1 hv.2
 by_cases h8:h.op≠8/\h.p≠[]
 ·rw[Ug hv h8.1 h8.2];exact Q5 hv h8.1 h8.2
 cases b with
 | false=>
   rw[Bool.and_false];exact Q6 hv h8 HL
 | true=>
   rw[Bool.and_true,Uh hv h8];have H:VaH w h pa la pc n lc:=⟨HL,λW g=>Ly h.s W (by have:=hfit.1;omega),λW g=>Q3 hfit.2.1,λW g=>OT h.s W,λW g=>PH (hp.gb g (by simp)) hfit.2.2.2⟩;clear hp HL hfit;obtain⟨op,s,vk,vn,vs,p⟩:=h;simp only at hv h8;by_cases e0:op=0
   ·subst e0;obtain rfl:p=[]:=Classical.not_not.1 λe=>h8 ⟨by decide,e⟩;exact VH (S H)
   obtain⟨rfl,rfl,rfl⟩:vk=0/\vn=0/\vs=[]:=Classical.not_not.1 λe=>hv ⟨e0,e⟩;by_cases e8:op=8
   ·subst e8;exact VQ (S H)
   obtain rfl:p=[]:=Classical.not_not.1 λe=>h8 ⟨e8,e⟩;by_cases e1:op=1
   ·subst e1;exact VI (S H)
   by_cases e2:op=2
   ·subst e2;exact VJ (S H)
   by_cases e3:op=3
   ·subst e3;exact VK (S H)
   by_cases e4:op=4
   ·subst e4;exact VM (S H)
   by_cases e5:op=5
   ·subst e5;exact VN (S H)
   by_cases e6:op=6
   ·subst e6;exact VO (S H)
   by_cases e7:op=7
   ·subst e7;exact VP (S H)
   by_cases e9:op=9
   ·subst e9;exact VR (S H)
   by_cases e10:op=10
   ·subst e10;exact U1 (S H)
   have hF:Az ⟨op,s,0,0,[],[]⟩ n=false:=by
    unfold Az;simp only;rw[if_neg e0,if_neg (by omega),if_neg e2,if_neg e3,if_neg e4,if_neg e5,if_neg e6,if_neg e7,if_neg e8,if_neg e9]
   rw[hF];have c0:(op==0)=false:=by simpa using e0
   have c0':(op !=0)=true:=by simpa using e0
   have c1:(op==1)=false:=by simpa using e1
   have c2:(op==2)=false:=by simpa using e2
   have c3:(op==3)=false:=by simpa using e3
   have c4:(op==4)=false:=by simpa using e4
   have c5:(op==5)=false:=by simpa using e5
   have c6:(op==6)=false:=by simpa using e6
   have c7:(op==7)=false:=by simpa using e7
   have c8:(op==8)=false:=by simpa using e8
   have c8':(op !=8)=true:=by simpa using e8
   have c9:(op==9)=false:=by simpa using e9
   have c10:(op==10)=false:=by simpa using e10
   clear e0 e1 e2 e3 e4 e5 e6 e7 e8 e9 e10 hv h8 hF;replace H:=S H;go_enter func170,ntmps170;go_wp2_with fail;refine(H.1.1 _ ?gg).mono ?_
   case gg=>exact(Ac (Ac (Aa _ _) _) _)
   rintro e w5 ⟨rfl,g5⟩;have hb5:=((Blk.new w (hdC ⟨op,s,0,0,[],[]⟩ (.slice pa ([]:List Bs).length pc) (.slice la n lc)) 163).alloc (.cells #[.int .i64 0,.int .i64 0,.string ⟨#[]⟩] 161 (0,0))).gb g5 (by simp);have x_:=hb5.c7;simp only at x_;have HB:=S hb5;have HG:=S (Z (Ac (gZ w (.cells (hdC ⟨op,s,0,0,[],[]⟩ (.slice pa ([]:List Bs).length pc) (.slice la n lc)).toArray 163 (0,0)) none) (.cells #[.int .i64 0,.int .i64 0,.string ⟨#[]⟩] 161 (0,0))) g5);clear g5 hb5;go_wp2;go_ret;exact⟨rfl,HG.1⟩
def Sn:∀(N:Nat)(f:Fo),f.wt<N->f.fit->∀(ok:Nat->Prop)(la:Option Addr)(lc:Nat)(w:World),RepL ok w (.slice la f.len lc) f->
 Calls Tryz.prog 122 #[.slice la f.len lc] w (ρ w (.bool (okF f))):=by
 intro N;induction N with
 |zero=>intro f hN;omega
 | succ N ih=>
   intro f hN hfit ok la lc w hf;exact Pr f ok la lc w hf hfit (λh k pa lb pc ld W h1 h2 h3 h4 h5=>LU h2 h4 (λW2 g=>ih k (by omega) h3 _ lb ld W2 (h5.gb g (by simp))))
def Sb(hx:VE ok w v x)(h1:x.h.fit)(h2:x.kids.fit):
 Calls Tryz.prog 170 #[v] w (ρ w (.bool (okX x))):=by
 obtain⟨pa,pc,la,lc,rfl,hp,hl⟩:=hx;exact LU h1 hp (λW g=>Sn _ x.kids (Nat.lt_succ_self _) h2 _ la lc W (hl.gb g (by simp)))
def DF(x:Ex):Int:=if Cp x.nodes x.levels then 3 else if okX x then 0 else 1
def Qf(hx:VE ok w v x)(h1:x.h.fit)(h2:x.kids.fit)(hn:x.kids.nodes<=1000000):
 Calls Tryz.prog 210 #[v] w (ρ w (.int .i64 (DF x))):=by
 have HS:=S (fun(W:World)(g:w.grownBy W none)=>Mu (hx.gb g (by simp)) hn);have HL:=S (fun(W:World)=>Jx x.nodes x.levels W);have HE:=S (fun(W:World)(g:w.grownBy W none)=>Sb (hx.gb g (by simp)) h1 h2);have HV:=S (show DF x=if Cp x.nodes x.levels then 3 else if okX x then 0 else 1 from rfl);obtain⟨pa,pc,la,lc,rfl,_,_⟩:=hx;generalize Cp x.nodes x.levels=lb at*;generalize okX x=ob at*;generalize DF x=vm at*;have hB:=Blk.new w (hdC x.h (.slice pa x.h.p.length pc) (.slice la x.kids.len lc)) 163;have hB1:=hB;obtain⟨x_0,x_1,x_2,x_3,x_4,x_5,x_6,x_f⟩:=(hB1).c7;clear h1 h2 hB1;have HB:=S hB;clear hB;cases lb with
 | true=>
   go_enter func210,ntmps210;go_wp2_with fail;refine(HS.1 _ ?gg).mono ?_
   case gg=>exact(Ac (Aa _ _) _)
   rintro e w1 ⟨rfl,g1⟩;go_wp2_with fail;refine mR (HL.1 _) λw2 g2=>?_;go_wp2;go_ret;exact⟨by rw[HV.1];rfl,Z (Z (gZ w _ none) g1) g2⟩
 | false=>
   go_enter func210,ntmps210;go_wp2_with fail;refine(HS.1 _ ?gg).mono ?_
   case gg=>exact(Ac (Aa _ _) _)
   rintro e w1 ⟨rfl,g1⟩;go_wp2_with fail;refine mR (HL.1 _) λw2 g2=>?_;have hb2:=(HB.1.gb g1 (by simp)).gb g2 (by simp);have HG:=S (Z (Z (gZ w (.cells (hdC x.h (.slice pa x.h.p.length pc) (.slice la x.kids.len lc)).toArray 163 (0,0)) none) g1) g2);clear x_0 x_1 x_2 x_3 x_4 x_5 x_6 x_f g1 g2;have y_:=hb2.c7;clear hb2;go_wp2_with fail;refine mR (HE.1 _ HG.1) λw3 g3=>?_;cases ob with
   | true=>
     go_wp2;go_ret;exact⟨by rw[HV.1];rfl,Z HG.1 g3⟩
   | false=>
     go_wp2;go_ret;exact⟨by rw[HV.1];rfl,Z HG.1 g3⟩
def Oe(l:List Bs):Lib.join l [44,32]=C9 l:=by
 cases l with
 |nil=>rfl
 |cons a r=>exact Lib.join_cons a r [44,32]
def N8{xs:List Bs}(h:Cells w v 1 n (xs.map str) ok)(hn:n=xs.length)(hN:xs.length<=100000000)(hl:(C9 xs).length<=140737488355328):
 Calls Tryz.prog 65 #[v,str [44,32]] w (ρ w (str (C9 xs))):=by
 subst hn;obtain⟨a,cap,rfl,h1,h2,_,hc⟩:=h;cases xs with
 | nil=>
   refine(strings_Join_none a cap ⟨[44,32].toArray⟩ w).mono ?_;rintro e w' ⟨rfl,rfl⟩;exact⟨rfl,Aa _ _⟩
 | cons x r=>
   obtain⟨g,o,rfl,_,c0⟩:=hc 0 (str x) rfl;have hlt:=bY _ _ c0;have e1:((x::r).map λs=>(⟨s.toArray⟩:ByteArray)).map (·.data.toList)=x::r:=by
    rw[List.map_map];exact(List.map_congr_left (λs _=>rfl)).trans (List.map_id _)
   have H:=strings_Join g o cap ((x::r).map λs=>(⟨s.toArray⟩:ByteArray)) ⟨[44,32].toArray⟩ w (λj b hb=>by
    rw[List.getElem?_map]at hb;obtain⟨s,hs,rfl⟩:=Option.map_eq_some_iff.1 hb;obtain⟨g',o',e,_,hc'⟩:=hc j (str s) (by rw[List.getElem?_map,hs];rfl);cases e;exact hc') hlt (by rw[List.length_map];omega) (by simpa using h1) (by rw[e1];show(Lib.join _ [44,32]).length<=_;rw[Oe];exact hl)
   rw[List.length_map,e1]at H;refine H.mono ?_;rintro e w' ⟨rfl,hb⟩;refine⟨?_,gbB hb none⟩;show Ending.returned (Value.string ⟨(Lib.join (x::r) [44,32]).toArray⟩)=_;rw[Oe]
def UB(f:Fo)(ok:Nat->Prop)(la:Option Addr)(lc:Nat)(w:World)(hf:RepL ok w (.slice la f.len lc) f)(hfit:f.fit)(hok:okF f=true)(hn:f.nodes<=1000000)
 (hE:∀(h:Hd)(k:Fo)(pa lb:Option Addr)(pc ld:Nat)(W:World),w.grownBy W none->k.wt<f.wt->h.fit->k.fit->k.nodes<=1000000->BY h k.len=true->okF k=true->Cells W (.slice pa h.p.length pc) 1 h.p.length (h.p.map str) (λ_=>True)->RepL (λ_=>True) W (.slice lb k.len ld) k->
  Calls Tryz.prog 211 #[exV h (.slice pa h.p.length pc) (.slice lb k.len ld)] W (ρ W (str (Cs wdM h (AX wdM k))))):
 Calls Tryz.prog 242 #[.slice la f.len lc] w (ρ w (str (C9 ((AX wdM f).map (·.2))))):=by
 have hjl:(C9 ((AX wdM f).map (·.2))).length<=140737488355328:=by
  have h1:=Kv (AX wdM f);have h2:=(IU f hok hfit).1;omega
 have hfl:=f.len_nodes;replace hf:=hf.mono (ok':=λ_=>True) (λ_ _ _=>trivial);obtain⟨cs,hc1,hr1⟩:=hf;obtain⟨_,_,e,hle,hmx,_,hc1⟩:=hc1;cases e;have HC:=S (X hc1 (X hE (X hjl hn)));have HR:=S (X hr1 (X hfit hok));have hlen:f.len<=1000000:=by omega
 clear hc1 hE hr1 hfit hok hle hmx hjl hn hfl;go_enter func242,ntmps242;go_wp2_with fail;go_loopg [3,8] f.len (λn v3 v8 wr=>∃(rf:Fo)(xs:List Bs)(k:Nat),rf.len=n/\k+n=f.len/\v8= .int .i64 k/\wr.ownsRow w.heap.size 9 1 v3 xs.length (xs.map str)/\xs.length=k/\xs++(AX wdM rf).map (·.2)=(AX wdM f).map (·.2)/\rf.wt<=f.wt/\rf.nodes<=f.nodes/\rf.fit/\okF rf=true/\RepF (λ_=>True) w rf (cs.drop (k*7))/\w.grownBy wr none)
 case atStart=>exact⟨f,[],0,rfl,by omega,rfl,World.ownsRow_nil _ _ _ _,rfl,rfl,nR _,nR _,HR.1.2.1,HR.1.2.2,by simpa using HR.1.1,Aa _ _⟩
 case round=>
  obtain⟨rf,xs,k,hn,hk,rfl,hown,hxl,hxs,hwt,hnd,hft,hok,hrf,hgr⟩:=hrel;clear HR;cases rf with
  | nil=>
    have hkI:decide (k<f.len)=false:=by simp[Fo.len]at hn;simp;omega
    have hxs':xs=(AX wdM f).map (·.2):=by simpa[AX]using hxs
    have HG:=S (X hgr (N8 (Db hown) rfl (by omega) (by rw[hxs'];exact HC.1.2.2.1)));rw[hxs']at HG;clear hgr hn hrf hft hok hown hxs;go_wp2_with fail;refine mR HG.1.2 λw1 g1=>?_;go_wp2;go_ret;exact⟨rfl,Z HG.1.1 g1⟩
  | cons h1 k1 n1=>
    simp only[Fo.len]at hn;simp only[Fo.wt]at hwt;simp only[Fo.nodes]at hnd;simp only[okF,Bool.and_eq_true]at hok;subst hn;have hkn:=HC.1.2.2.2;obtain⟨pa1,pc1,lb1,ld1,hp1,hl1,hx1,ha1⟩:=RepF.elem (n:=f.len) (lc:=lc) (f:=f) HC.1.1 hrf;have hkI:decide (k<f.len)=true:=by simp;omega
    have hkf:k+1<=f.len:=by omega
    have HE:=S (fun(W:World)(gW:wr.grownBy W none)=>HC.1.2.1 h1 k1 pa1 lb1 pc1 ld1 W (Z hgr gW) (by omega) hft.1 hft.2.1 (by omega) hok.1.1 hok.1.2 (hp1.gb (Z hgr gW) (by simp)) (hl1.gb (Z hgr gW) (by simp)));have hxs2:(xs++[Cs wdM h1 (AX wdM k1)])++(AX wdM n1).map (·.2)=(AX wdM f).map (·.2):=by
     rw[<-hxs];simp[AX]
    generalize Cs wdM h1 (AX wdM k1)=s at*;have HN:=S (X (show n1.wt<=f.wt by omega) (X (show n1.nodes<=f.nodes by omega) (X hft.2.2 (X hok.2 (X hx1 (X hgr (X hown hxs2)))))));clear hxs hwt hnd hrf hp1 hl1 hx1 hft hok hown hxs2 hkn;obtain⟨g1,o1,rfl,hokz,y0⟩:=ha1 0 _ rfl;obtain⟨_,_,e1,_,y1⟩:=ha1 1 _ rfl;cases e1;obtain⟨_,_,e1,_,y2⟩:=ha1 2 _ rfl;cases e1;obtain⟨_,_,e1,_,y3⟩:=ha1 3 _ rfl;cases e1;obtain⟨_,_,e1,_,y4⟩:=ha1 4 _ rfl;cases e1;obtain⟨_,_,e1,_,y5⟩:=ha1 5 _ rfl;cases e1;obtain⟨_,_,e1,_,y6⟩:=ha1 6 _ rfl;cases e1;have hglz:=bY w _ y0;have z0:=Ad hgr y0;have z1:=Ad hgr y1;have z2:=Ad hgr y2;have z3:=Ad hgr y3;have z4:=Ad hgr y4;have z5:=Ad hgr y5;have z6:=Ad hgr y6;simp only[Nat.add_zero,<-Nat.add_assoc]at z0 z1 z2 z3 z4 z5 z6;clear y0 y1 y2 y3 y4 y5 y6 ha1 hgr;have hws:=HN.1.2.2.2.2.2.1.size;have hq1:g1<wr.heap.size:=Nat.lt_of_lt_of_le hglz hws;go_wp2_with fail;refine(HE.1 _ ?gg).mono ?_
    case gg=>exact(Ac (Aa _ _) _)
    rintro e w5 ⟨rfl,g5⟩;have g6:wr.grownBy w5 none:=Z (Ac (Aa _ _) _) g5;have gA:=Ac (Z HN.1.2.2.2.2.2.1 g6) (.cells [str s].toArray 9 (0,0));have hown4:=(HN.1.2.2.2.2.2.2.1.kept g6 (by cases u3.ownBlock with|none=>exact .inl rfl|some _=>exact .inr (by simp))).alloc (.cells [str s].toArray 9 (0,0));have hbs:=gA.size;obtain⟨i0,hi0,hz0,hz1,hz2⟩:=info_parts Fe;have hnc:=AY w5 [str s] 9;have hml:xs.length+1<=maxLen:=by unfold maxLen;omega
    have hyb:(xs.length+1)*16<=140737488355328:=by omega
    have HZ:=S (X hi0 (X hz0 (X hz1 (X hz2 (X hnc (X hml hown4))))));have HW:=S (X gA g6.size);clear hi0 hz0 hz1 hz2 hnc hml hown4 gA g6 g5;go_wp2_with (at_builtin;obtain⟨hi0,hz0,hz1,hz2,hnc,hml,hown4⟩:=HZ.1;refine GQ rfl _ _ 37 rfl w.heap.size 9 i0 (str []) 1 16 underlying37 hi0 hz0 hz1 hz2 rfl (by decide) _ _ _ rfl hown4 ⟨w5.heap.size,0,none⟩ 1 1 [str s] rfl rfl hnc (by simp[Value.oneCell']) hml hyb hbs ?_;intro v' w6 hown5 g7 hnb;clear hi0 hz0 hz1 hz2 hnc hml hown4);have HO5:=S (X hown5 g7);clear hown5 g7 hnb;go_roundg n1.len
    case measure=>omega
    case rel=>
     have g5':World.grownBy (w5.alloc _) w6 u3.ownBlock:=HO5.1.2;refine⟨n1,xs++[s],k+1,rfl,by omega,by go_num,by simpa using HO5.1.1,by simp;omega,HN.1.2.2.2.2.2.2.2,HN.1.1,HN.1.2.1,HN.1.2.2.1,HN.1.2.2.2.1,HN.1.2.2.2.2.1,?_⟩;cases hv:u3.ownBlock with
     |none=>rw[hv]at g5';exact Ag HW.1.1 g5'
     |some q=>rw[hv]at g5';exact Ap HW.1.1 g5' (.inr (HN.1.2.2.2.2.2.2.1.lt q hv).1)
open Go.Lib
def RrP(w:World)(s:Bs)(e:Ending)(w':World):Prop:=∃us v b,e= .returned (.tuple #[v,.bool b])/\w.grownBy w' none/\(b=false->v= .slice none 0 0)/\(b=true->VU (Al w.heap.size) w' v us/\AN us/\AF us<=3*(s.length+1))/\(∀vs,vs≠[]->AN vs->s++[10]=AP vs->b=true/\us=vs)
def RrP.no{w':World}{L:List Bs}(hL:L=Lib.split s [10])(g:w.grownBy w' none)(h:∀vs,AN vs->L≠B0 vs):RrP w s (.returned (.tuple #[.slice none 0 0,.bool false])) w':=
 ⟨[],_,false,rfl,g,λ_=>rfl,(λe=>by cases e),λvs h0 hw he=>absurd (hL.trans (NK h0 he)) (h vs hw)⟩
def VD(p:Bs):Lib.hasPrefix (⟨p.toArray⟩:ByteArray).data.toList (⟨#[117,110,105,116,32]⟩:ByteArray).data.toList=Dm p:=by simp[Dm]
def XN(p:Bs)(w:World):Calls Tryz.prog 42 #[str p,.string ⟨#[117,110,105,116,32]⟩] w λe w'=>e= .returned (.tuple #[str (Lib.trimPrefix p [117,110,105,116,32]),.bool (Dm p)])/\w=w':=by
 refine(strings_CutPrefix ⟨p.toArray⟩ ⟨#[117,110,105,116,32]⟩ w).mono ?_;rintro e w' ⟨rfl,rfl⟩;exact⟨by rw[VD],rfl⟩
def Of(n:Nat):n*3+2<(n+1)*3:=by omega
def Zl{b:Value}(h:(cs++[a,b,c]).length=(n+1)*3):cs.length=n*3:=by
 simp at h;omega
def VB{b:Value}(h:cs.length=n*3):(cs++[a,b,c])[n*3+2]? =some c:=by
 rw[List.getElem?_append_right (by omega),h,show n*3+2-n*3=2 by omega];rfl
def WB(h:n<=3*(200000+1)):n+1<=maxLen:=by unfold maxLen;omega
def W4(h:n<=3*(200000+1)):(n+1)*40<=140737488355328:=by omega
def Zq(n:Nat):((n:Int)+1==0)=false:=by simp;omega
def Vd{c:Cd}(h:AN (us++[u]))(hc:Dl c):AN (us++[⟨u.name,u.row,u.code++[c]⟩]):=by
 intro x hx;rcases List.mem_append.1 hx with h1|h1
 ·exact h x (List.mem_append_left _ h1)
 ·simp at h1;subst h1;have hu:=h u (by simp);refine⟨hu.1,λd hd=>?_⟩;rcases List.mem_append.1 hd with h2|h2
  ·exact hu.2 d h2
  ·simp at h2;subst h2;exact hc
def Y5{c:Cd}{a:Nat}(h1:b=a+(n+1))(h2:AF (us++[u])<=3*a)(h3:c.s.length<=n):AF (us++[⟨u.name,u.row,u.code++[c]⟩])<=3*b:=by
 rw[Y4];omega
def KL(h:n<=200001):wrap64 (n:Int)=(n:Int):=by unfold wrap64;omega
def Xp(l:List α)(k:Nat)(h:k<=l.length):pfx (λ_=>1) l k=k:=by
 induction k with
 |zero=>rfl
 |succ k ih=>rw[C5 (AQ h),ih (by omega)]
def WA(h:AF (us++[u])<=m):u.code.length<=m:=by
 have h1:=Jd us u;have h2:wtU u=u.name.length+u.row.length+pfx wtC u.code u.code.length:=rfl;have h4:=La (λ_:Cd=>1) wtC 1 (λc=>by unfold wtC;omega) u.code u.code.length;have h5:=Xp u.code u.code.length (nR _);omega
def Ve(h:AN us)(hu:CP u):AN (us++[u]):=by
 intro x hx;rcases List.mem_append.1 hx with h1|h1
 ·exact h x h1
 ·simp at h1;subst h1;exact hu
def Ur(s:Bs)(hs:s.length<=200000)(hp:Pow w)(he:Errs w)(hm:Mx w):
 Calls Tryz.prog 18 #[str s] w λe w'=>RrP w s e w':=by
 have HF:=S (X hp (X he hm));obtain⟨L,hL⟩:∃L,L=Lib.split s [10]:=⟨_,rfl⟩;have HSp:=S (Iz s (by omega) 10 hm);have hLl:L.length<=s.length+1:=by rw[hL];exact MU 10 s
 have hLs:∀l∈L,l.length<=s.length:=λl h=>LO 10 s (by rw[<-hL];exact h);have hLn:DI L=s.length+1:=by rw[hL];exact QE s
 rw[<-hL]at HSp;obtain⟨i1,hi0',hz0',hz1',hz2'⟩:=info_parts Ob;have HJ:=S (X hi0' (X hz0' (X hz1' hz2')));obtain⟨i2,hi0'',hz0'',hz1'',hz2''⟩:=info_parts Od;have HK:=S (X hi0'' (X hz0'' (X hz1'' hz2'')));have HLs:=S (X hLs (X hL hLn));clear hi0' hz0' hz1' hz2' hi0'' hz0'' hz1'' hz2'' hp he hm hLs hL hLn;have hP:=Blk.new w (L.map str) 9;have gP:=gZ w (.cells (L.map str).toArray 9 (0,0)) none;have HA:=S (X hP gP);clear hP gP;go_enter func18,ntmps18;go_wp2_with fail;refine HSp.1.mono ?_;rintro e w3 ⟨rfl,rfl⟩;generalize w.alloc (.cells (L.map str).toArray 9 (0,0))=W3 at*;go_wp2_with fail;go_loopg [4,6,7,8,9,10,11,12,13,17] L.length (λg v4 v6 v7 v8 v9 v10 v11 v12 v13 v17 wr=>∃k us,k+g=L.length/\v17= .int .i64 (k:Nat)/\Blk wr w.heap.size (L.map str) 9/\OwnPr wr (w.heap.size+1) v4 us/\RdI L us k/\AN us/\AF us<=3*DI (L.take k)/\us.length<=k/\w.grownBy wr none)
 case atStart=>exact⟨0,[],by omega,rfl,HA.1.1,.inl ⟨rfl,rfl⟩,RdI.init L,(λu h=>by cases h),nZ _,nZ _,HA.1.2⟩
 case round=>
  obtain⟨k,us,hk,rfl,hP,hO,hX,hW,hwt,hul,hG⟩:=hrel;clear HA HSp;have hgs:=hG.size;cases gk with
  | zero=>
    have hkl:k=L.length:=by omega
    have hj1:decide (k<L.length)=false:=by simp;omega
    subst hkl;have HZ:=S (X hO (X hX (X hW (X hwt hG))));clear hP hO hX hW hwt hG;go_wp2;go_ret2;refine⟨us,u4,true,rfl,HZ.1.2.2.2.2,(λe=>by cases e),λ_=>⟨HZ.1.1.vu.mono (λk hk _=>by have:w.heap.size+1<=k:=hk;show w.heap.size<=k;omega),HZ.1.2.2.1,?_⟩,λvs h0 hw he=>⟨rfl,?_⟩⟩
    ·have h1:=HZ.1.2.2.2.1;rw[List.take_length,HLs.1.2.2]at h1;exact h1
    ·have h1:L=B0 vs:=HLs.1.2.1.trans (NK h0 he);have h2:=HZ.1.2.1 vs hw h1;rw[List.take_length,h1]at h2;exact UA h2
  | succ gk=>
    have hkl:k<L.length:=by omega
    have hj1:decide (k<L.length)=true:=by simpa using hkl
    obtain⟨p,hp⟩:∃p,p=L[k]:=⟨_,rfl⟩;have hpl:p.length<=s.length:=by rw[hp];exact HLs.1.1 _ (List.getElem_mem hkl)
    have q0:=hP.cell' k (v:=str p) (by rw[List.getElem?_map,List.getElem?_eq_getElem hkl,hp];rfl);have hlt4:=hP.lt;have hn:=SX hkl;have hle:=NA L (k+1);rw[<-hp]at hn;rw[HLs.1.2.2]at hle;have HZ:=S (X hP (X hO (X hX (X hW hG))));have HPe:=S hp;clear hP hO hX hW hG hp;go_wp2_with fail;refine(XN p _).mono ?_;rintro e w5 ⟨rfl,rfl⟩;have hhp:Dm L[k]=Dm p:=by rw[HPe.1]
    cases hh:Dm p with
    | true=>
      rw[hh]at hhp;have htr:(Lib.trimPrefix p [117,110,105,116,32]).length<=p.length:=by
       unfold Lib.trimPrefix;split<;>simp
      have HRu:=S (PS (Lib.trimPrefix p [117,110,105,116,32]) (by omega) (HF.1.1.gb HZ.1.2.2.2.2) (HF.1.2.1.gbN HZ.1.2.2.2.2) (HF.1.2.2.gb HZ.1.2.2.2.2));have HTr:=S (show Lib.trimPrefix p [117,110,105,116,32]=Lib.trimPrefix L[k] [117,110,105,116,32]by rw[HPe.1]);generalize Lib.trimPrefix p [117,110,105,116,32]=r at*;go_wp2_with fail;refine HRu.1.mono ?_;rintro e w6 ⟨nm,l,rv,b,rfl,g6,ho6,hln,h64,hfu⟩;obtain⟨ra,rc,rfl⟩:=JM ho6;have hun:=HZ.1.2.2.1.unit hkl hhp (nm:=nm) (l:=l) (b:=b) (λu hw h=>hfu u hw (HTr.1.trans h));have HU:=S (X hun (X h64 ho6));have G6:=Z HZ.1.2.2.2.2 g6;have HG6:=S (X g6 G6);have hgs6:=g6.size;clear hfu hun h64 ho6 g6 G6 HRu;cases b with
      | false=>
        go_wp2;go_ret2;exact RrP.no HLs.1.2.1 (Ac HG6.1.2 _) (HU.1.1.2 (by first|rfl|trivial))
      | true=>
        go_upto_region 8 with fail;have hN:=Blk.new w6 [str nm,.slice ra l.length rc,.slice none 0 0] 58;have gN:=gZ w6 (.cells [str nm,.slice ra l.length rc,.slice none 0 0].toArray 58 (0,0)) none;have e0:w6.alloc (.cells [str nm,.slice ra l.length rc,.slice none 0 0].toArray 58 (0,0))=w6.alloc (.cells #[.string ⟨nm.toArray⟩,.slice ra l.length rc,.slice none 0 0] 58 (0,0)):=rfl;rw[e0]at hN gN;clear e0;generalize w6.alloc (.cells #[.string ⟨nm.toArray⟩,.slice ra l.length rc,.slice none 0 0] 58 (0,0))=W7 at*;have a0:=hN.cell' 0 rfl;have a1:=hN.cell' 1 rfl;have a2:=hN.cell' 2 rfl;have hl7:=hN.lt;have hs7:=gN.size;obtain⟨cs,hrow,hrep⟩:=(HZ.1.2.1.gbN (Z HG6.1.1 gN)).all;have hvl:∀q,u4.ownBlock=some q->w.heap.size+1<=q/\q<wr.heap.size:=by
         obtain⟨_,h,_⟩:=HZ.1.2.1.all;exactλq e=>h.lt q e
        have HN:=S (X hN (X gN (X hrow (X hrep hvl))));clear hN gN hrow hrep hvl;go_wp2_with (at_builtin;go_loud(refine wpList_append_lies _ rfl _ _ 23 rfl (w.heap.size+1) 58 i2 (.agg #[str [],.slice none 0 0,.slice none 0 0]) 3 64 underlying23 HK.1.1 HK.1.2.1 HK.1.2.2.1 HK.1.2.2.2 rfl (by decide) u4 us.length cs rfl (BF HN.1.2.2.1 (gZ _ _ none) (by simp)) ⟨W7.heap.size,0,none⟩ 1 1 [str nm,.slice ra l.length rc,.slice none 0 0] rfl rfl (AY _ _ _) (by simp[Value.oneCell']) (by decide) (by unfold maxLen;omega) (by omega) (by simp;omega) _ rfl ?_;intro g8 cap8 w8 hown8 hgrow8 hat8 hlt8;(have H8:=S (X hown8 (X hgrow8 hat8)));clear hown8 hgrow8 hat8));have gA:=gZ W7 (.cells [str nm,.slice ra l.length rc,.slice none 0 0].toArray 58 (0,0)) none;have hOU:=OwnPr.unit (u:=⟨nm,l,[]⟩) (BF HN.1.2.2.1 gA (by simp)) ((HN.1.2.2.2.1.gb gA (by simp)).mono (λk hk _=>⟨hk.1,hk.2.1,by have:=hk.2.2;simp;omega⟩)) (BF (BF HU.1.2.2 HN.1.2.1 (by simp)) gA (by simp)) rfl (by omega) (λq e=>(HN.1.2.2.2.2 q e).2) H8.1.1 H8.1.2.1 (λk e=>by
         simp only[Value.ownBlock,Option.some.injEq]at e;rw[<-e];rcases H8.1.2.2 with h9|h9
         ·exact .inl h9
         ·exact .inr (by rw[h9];exact nR _)) (by simp;omega)
        have hP8:=(((HZ.1.1.gb HG6.1.1 (by simp)).gb HN.1.2.1 (by simp)).gb gA (by simp)).gb H8.1.2.1 (λe=>by have:=(HN.1.2.2.2.2 _ e.symm).1;omega);have hG8:=Dw (Z (Z HG6.1.2 HN.1.2.1) gA) H8.1.2.1 (λq e=>by have:=(HN.1.2.2.2.2 q e).1;omega);have HY:=S (X hOU (X hP8 hG8));have hwn:=Zg us nm l;clear gA hOU hP8 hG8;go_roundg gk
        case measure=>omega
        case rel=>exact⟨k+1,us++[⟨nm,l,[]⟩],by omega,by go_num,HY.1.2.1,HY.1.1,HU.1.1.1,Ve HZ.1.2.2.2.1 ⟨HU.1.2.1 (by first|rfl|trivial),λc h=>by cases h⟩,by rw[hwn,hn];omega,by simp;omega,HY.1.2.2⟩
    | false=>
      rw[hh]at hhp;have HRc:=S (PR p (by omega) (HF.1.1.gb HZ.1.2.2.2.2) (HF.1.2.1.gbN HZ.1.2.2.2.2) (HF.1.2.2.gb HZ.1.2.2.2.2));go_wp2_with fail;refine HRc.1.mono ?_;rintro e w6 ⟨c,b,rfl,g6,hcl,hwc,hfc⟩;have hco:=HZ.1.2.2.1.code hkl hhp (c:=c) (b:=b) (λd hd h=>hfc d hd (by rw[HPe.1];exact h));have G6:=Z HZ.1.2.2.2.2 g6;have HU:=S (X hco (X hwc (X g6 G6)));have hgs6:=g6.size;clear hfc hco hwc g6 G6 HRc;cases b with
      | false=>
        go_wp2;go_ret2;exact RrP.no HLs.1.2.1 (Ac HU.1.2.2.2 _) (HU.1.1.2 (by first|exact .inl rfl|exact .inl trivial|trivial))
      | true=>
        rcases HZ.1.2.1 with⟨rfl,rfl⟩| ⟨init,u,cs,rv,cv,M,rfl,hL⟩
        ·go_wp2;go_ret2;exact RrP.no HLs.1.2.1 (Ac HU.1.2.2.2 _) (HU.1.1.2 (by first|exact .inr rfl|exact .inr trivial|trivial))
        ·obtain ⟨g, cap, rfl⟩ : ∃ g cap, u4 = .slice (some ⟨g, 0, none⟩) (init.length + 1) cap := by
          rcases hL.row.2 with⟨_,h⟩| ⟨g,cap,_,h,_⟩
          ·omega
          ·exact⟨g,cap,h⟩
         obtain⟨ca,cc,rfl⟩:=JM hL.cod;have hcs:cs.length=init.length*3:=Zl hL.row.1;have hil:init.length<=200001:=nT (Nat.le_of_succ_le (by rw[lA]at hul;exact hul)) (nT (Nat.le_of_lt hkl) (nT hLl (Nat.succ_le_succ hs)));have hlk:=NA L k;rw[HLs.1.2.2]at hlk;have hcdl:u.code.length<=3*(200000+1):=WA (nT hwt (Nat.mul_le_mul_left 3 (nT hlk (Nat.succ_le_succ hs))));have HNm:=S (X hn (X hle (X hwt (X hul (X hcs (X hgs (X hcl (X hpl (X hlt4 hgs6)))))))));have hm1:=WB hcdl;have hm2:=W4 hcdl;have n1:wrap64 (init.length:Int)=(init.length:Int):=KL hil;have n2:(0:Int)<=(init.length:Int):=Int.natCast_nonneg _;have n3:(init.length:Int)<(init.length:Int)+1:=Int.lt_succ _;have n4:((init.length:Int)+1==0)=false:=Zq _;have HCd:=S (X hm1 hm2);clear hn hle hwt hul hgs hcl hlk hcdl hil hm1 hm2;go_upto_region 12 with fail;have hN:=Blk.new w6 [.int .i64 c.op,.int .i64 c.a,.int .i64 c.b,str c.s] 61;have gN:=gZ w6 (.cells [.int .i64 c.op,.int .i64 c.a,.int .i64 c.b,str c.s].toArray 61 (0,0)) none;have e0:w6.alloc (.cells [.int .i64 c.op,.int .i64 c.a,.int .i64 c.b,str c.s].toArray 61 (0,0))=w6.alloc (.cells #[.int .i64 c.op,.int .i64 c.a,.int .i64 c.b,.string ⟨c.s.toArray⟩] 61 (0,0)):=rfl;rw[e0]at hN gN;clear e0;generalize w6.alloc (.cells #[.int .i64 c.op,.int .i64 c.a,.int .i64 c.b,.string ⟨c.s.toArray⟩] 61 (0,0))=W7 at*;have a0:=hN.cell' 0 rfl;have a1:=hN.cell' 1 rfl;have a2:=hN.cell' 2 rfl;have a3:=hN.cell' 3 rfl
         have hl7:=hN.lt;have hL7:=hL.gbN (Z HU.1.2.2.1 gN);have hget:(cs++[str u.name,rv,.slice ca u.code.length cc])[init.length*3+2]? =some (.slice ca u.code.length cc):=VB hcs;have q1:=(hL7.row.cellAt (init.length*3+2) (Of init.length)).trans hget;have q2:=hL7.row.frozenAt (init.length*3+2);have q3:=(hL7.row.lt g rfl).2;have HL:=S (X hL7 (X hget (X hL gN)));have HM3:=S (fun(o:Obj)=>nT hL7.ml (Ac (Ae (Aa W7 none)) o).size);clear hN gN hL7 hget hL hcs hlt4 hpl hgs6;go_upto_region 15 with fail
         go_region_law(go_loud(refine step_append_lies _ (by rfl) _ _ 56 (by rfl) M 61 i1 (.agg #[.int .i64 0,.int .i64 0,.int .i64 0,str []]) 4 40 underlying56 HJ.1.1 HJ.1.2.1 HJ.1.2.2.1 HJ.1.2.2.2 rfl (by decide) (.slice ca u.code.length cc) u.code.length (A9 u.code) (by rfl) (BF HL.1.1.cod (Ac (Ae (Aa _ none)) _) (by simp)) ⟨W7.heap.size,0,none⟩ 1 1 [.int .i64 c.op,.int .i64 c.a,.int .i64 c.b,str c.s] (by rfl) rfl (World.news_of_block (heap_alloc_new _ _)) (by simp[Value.oneCell']) (by decide) HCd.1.1 HCd.1.2 (HM3.1 _) _ rfl ?_;intro g8 cap8 w8 hown8 hgrow8 hat8 hlt8;(have hrow7:=BF HL.1.1.row (Ac (Ae (Aa W7 none)) (.cells #[.int .i64 c.op,.int .i64 c.a,.int .i64 c.b,str c.s] 61 (0,0))) (by simp));(have hcod7:=BF HL.1.1.cod (Ac (Ae (Aa W7 none)) (.cells #[.int .i64 c.op,.int .i64 c.a,.int .i64 c.b,str c.s] 61 (0,0))) (by simp));(have hrow8:=BF hrow7 hgrow8 (Hl hrow7 hcod7 (by decide)));(have r1:=(hrow8.cellAt (init.length*3+2) (Of init.length)).trans HL.1.2.1);(have r2:=hrow8.frozenAt (init.length*3+2));(have r3:=(hrow8.lt g rfl).2);(have H8:=S (X hown8 hgrow8));clear hown8 hgrow8 hat8 hrow8 hrow7 hcod7));all_goals
          have gA:=Ac (Ae (Aa W7 none)) (.cells #[.int .i64 c.op,.int .i64 c.a,.int .i64 c.b,str c.s] 61 (0,0));have hOP:=OwnL.code (c:=c) (HL.1.1.gbN gA) H8.1.1 H8.1.2;have hcod7:=BF HL.1.1.cod gA (by simp);have hrow8:=BF (BF HL.1.1.row gA (by simp)) H8.1.2 (Hl (BF HL.1.1.row gA (by simp)) hcod7 (by decide));have gS:=Am (Aa w8 (some g)) (init.length*3+2) (.slice (some ⟨g8,0,none⟩) (u.code.length+1) cap8);have hP7:=((HZ.1.1.gb HU.1.2.2.1 (by simp)).gb HL.1.2.2.2 (by simp)).gb gA (by simp);have hP8:=hP7.gb H8.1.2 (λe=>IS hcod7 hP7 (by decide) e.symm);have hP9:=hP8.gb gS (λe=>IS hrow8 hP8 (by decide) e.symm);have hMg:=Fk HL.1.1.cod;have hMB:=HL.1.1.le;have hgB:=Fk HL.1.1.row g rfl;have hG8:=Af (Dw (Z (Z HU.1.2.2.2 HL.1.2.2.2) gA) H8.1.2 (λq e=>nT (Nat.le_of_succ_le hMB) (hMg q e))) ⟨g,init.length*3+2,none⟩ (.slice (some ⟨g8,0,none⟩) (u.code.length+1) cap8) (.inr (Nat.le_of_succ_le hgB));have HY:=S (X hOP (X hP9 hG8));clear gA hOP hcod7 hrow8 gS hP7 hP8 hP9 hMg hMB hgB hG8;go_wp2;go_roundg gk
          case measure=>exact Nat.lt_succ_self _
          case rel=>exact⟨k+1,init++[⟨u.name,u.row,u.code++[c]⟩],by rw[<-hk,Nat.add_assoc,Nat.add_comm 1 gk],by go_num,HY.1.2.1,HY.1.1,HU.1.1.1 init u rfl,Vd HZ.1.2.2.2.1 (HU.1.2.1 (by first|rfl|trivial)),Y5 HNm.1.1 HNm.1.2.2.1 HNm.1.2.2.2.2.2.2.1,by rw[lA];exact Nat.le_succ_of_le (by have h:=HNm.1.2.2.2.1;rw[lA]at h;exact h),HY.1.2.2⟩
end Go.Proofs.YtbjfaimkiclhgaaGreatDoor
