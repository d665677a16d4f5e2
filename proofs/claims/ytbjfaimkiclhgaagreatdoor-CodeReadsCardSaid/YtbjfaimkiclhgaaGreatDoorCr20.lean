/-
  QgO QgP QgQ QgR QgS CatA
-/
import Derived.Test.YtbjfaimkiclhgaaGreatDoorCr18
import Derived.Test.YtbjfaimkiclhgaaGreatDoorCr10
import Derived.Test.YtbjfaimkiclhgaaGreatDoorCr09
import Derived.Deep.Cut
import Derived.Test.YtbjfaimkiclhgaaGreatDoorCr12
import Derived.Test.YtbjfaimkiclhgaaGreatDoorCr11
set_option linter.all false
set_option maxRecDepth 100000
set_option maxHeartbeats 8000000
namespace Go.Proofs.YtbjfaimkiclhgaaGreatDoor
open Go.Proofs.Tryz
open Go.RowKit
variable{b n i:Nat}{tv wo:Value}{l:List Tok}{day:Bs->Int}{w:World}{P:Program}
def StmtQ(b:Nat)(tv wo:Value)(l:List Tok)(hn:Al l)(day:Bs->Int)(n:Nat)(block:Rd l Bl):Prop:=
 ∀(w:World)(i:Nat),Glob w->Par w b tv wo l wordsL i->i<l.length->(BL hn wordsL day n block).f i ≠ .out->Calls Tryz.prog 275 #[.pointer (some ⟨b,0,none⟩)] w (Post b tv wo l wordsL w (VSt w) ((BL hn wordsL day n block).f i))
def Ii{block:Rd l Bl}{hn:Al l}:(BL hn wordsL day n block).f i=if Bp l wordsL i=[]then Gn l (Ak l day n) n i else(Bw hn wordsL day n block (Bp l wordsL i)).f i:=by
 show(if Bp l wordsL i=[]then EP hn day n else Bw hn wordsL day n block (Bp l wordsL i)).f i=_;split
 ·exact Y2 hn day n i
 ·rfl
def Rp{block:Rd l Bl}(hn:Al l)(hE:CE 208 b tv wo l wordsL (Ak l day n))(hok:∀i,At (Ab l i))(hl:A0 l)(hgb:4<b)(hS:De b tv wo l hn day n block (Bp l wordsL i))(hk:Bp l wordsL i≠[])(hg:Glob w)(h:Par w b tv wo l wordsL i)(hi:i<l.length)(ho:(BL hn wordsL day n block).f i ≠ .out):
 Calls Tryz.prog 275 #[.pointer (some ⟨b,0,none⟩)] w (Post b tv wo l wordsL w (VSt w) ((BL hn wordsL day n block).f i)):=by
 have HGl:=S (X hg hgb);have HS:=S hS;have HKk:=S hk;clear hg hgb hS hk;have hb:=h.lt;have HO:=S ho;generalize hR:(BL hn wordsL day n block).f i=R at*;have HTk:=S hok;have HSh:=S hl;have HE:=S hE;have HZ:=S (X (Blk.new w (stC 0 (.slice none 0 0)) 134) (show w.grownBy (w.alloc (.cells (stC 0 (.slice none 0 0)).toArray 134 (0,0))) (some b)from Ac (Aa _ _) _));have hp:=h.alloc (.cells (stC 0 (.slice none 0 0)).toArray 134 (0,0));clear hok hl hE ho h;go_enter func275,ntmps275;go_wp2_with fail;refine mR (Bj hp) λw1 g=>?_;have gA:=Ac g (.cells #[.int .i64 (Ab l i).kind,.int .i64 (Ab l i).pos,str (Ab l i).text] 250 (0,0));have hT:=Blk.new w1 [.int .i64 (Ab l i).kind,.int .i64 (Ab l i).pos,str (Ab l i).text] 250;have hbs:=g.size;simp at hbs;replace HZ:=S (X (HZ.1.1.gb gA (by simp)) (Ag HZ.1.2 gA));replace hp:=hp.gbN gA;clear g gA;go_wp2_with fail;refine mR (FV hp HTk.1) λw2 g=>?_;replace HZ:=S (X (HZ.1.1.gb g (by simp)) (Ag HZ.1.2 g));replace hp:=hp.gbN g;replace hT:=hT.gb g (by simp);clear g;rw[Ii,if_neg HKk.1]at hR;have HQ:=S hR;clear hR;have HC:=S (HS.1 _ _ (BW HGl.1.1 HGl.1.2 HZ.1.2) hp hi (λe=>HO.1 (by rw[<-HQ.1,e])));have hs9:(Bp l wordsL i !=[])=true:=by simpa using HKk.1
 have hs0:(Bp l wordsL i==[])=false:=by simpa using HKk.1
 have hlz:=HZ.1.1.lt;generalize Bp l wordsL i=s at*;go_wp2_with fail;refine HC.1.mono ?_;intro e w4 hq;obtain⟨g,⟨q,hr,rfl⟩| ⟨s9,j9,v,hr,rfl,hv,hp9⟩⟩:=hq.split
 ·exact⟨rfl,Post.bad (Z HZ.1.2 g) (by rw[<-HQ.1,hr])⟩
 obtain⟨pa,xa,ba,na,fa,wa,pc,xc,bc,nc,fc,wc,rfl,hz9,hpp,hbk⟩:=Et hb HZ.1.1 HZ.1.2 g hv hp9 (HQ.1.symm.trans hr);have HE9:=S (X hpp hbk);have hkl9:=hz9.lt;have cz_:=hz9.c10;clear g hv hp9 hz9 hpp hbk hr;go_wp2;refine bZ ?hr9 rfl HE9.1.1
 case hr9=>exact A8 rfl _ HE9.1.2 rfl rfl
def Rq{block:Rd l Bl}(hn:Al l)(hE:CE 208 b tv wo l wordsL (Ak l day n))(hok:∀i,At (Ab l i))(hl:A0 l)(hk:Bp l wordsL i=[])(h63:Ah (Ab l i) [63]=true)(h:Par w b tv wo l wordsL i)(ho:(BL hn wordsL day n block).f i ≠ .out):
 Calls Tryz.prog 275 #[.pointer (some ⟨b,0,none⟩)] w (Post b tv wo l wordsL w (VSt w) ((BL hn wordsL day n block).f i)):=by
 have HKk:=S (X hk h63);clear hk h63;have hb:=h.lt;have HO:=S ho;generalize hR:(BL hn wordsL day n block).f i=R at*;have HTk:=S hok;have HSh:=S hl;have HE:=S hE;have HZ:=S (X (Blk.new w (stC 0 (.slice none 0 0)) 134) (show w.grownBy (w.alloc (.cells (stC 0 (.slice none 0 0)).toArray 134 (0,0))) (some b)from Ac (Aa _ _) _));have hp:=h.alloc (.cells (stC 0 (.slice none 0 0)).toArray 134 (0,0));clear hok hl hE ho h;go_enter func275,ntmps275;go_wp2_with fail;refine mR (Bj hp) λw1 g=>?_;have gA:=Ac g (.cells #[.int .i64 (Ab l i).kind,.int .i64 (Ab l i).pos,str (Ab l i).text] 250 (0,0));have hT:=Blk.new w1 [.int .i64 (Ab l i).kind,.int .i64 (Ab l i).pos,str (Ab l i).text] 250;have hbs:=g.size;simp at hbs;replace HZ:=S (X (HZ.1.1.gb gA (by simp)) (Ag HZ.1.2 gA));replace hp:=hp.gbN gA;clear g gA;go_wp2_with fail;refine mR (FV hp HTk.1) λw2 g=>?_;replace HZ:=S (X (HZ.1.1.gb g (by simp)) (Ag HZ.1.2 g));replace hp:=hp.gbN g;replace hT:=hT.gb g (by simp);clear g;rw[Ii,if_pos HKk.1.1]at hR;unfold Gn at hR;rw[if_pos HKk.1.2]at hR;have HQ:=S hR;rw[HKk.1.1];clear hR hT;go_wp2_with fail;refine(Bm hp [63] HKk.1.2).mono ?_;rintro e w3 ⟨rfl,hp9,g⟩;replace HZ:=S (X (HZ.1.1.gb g (by simp;omega)) (Z HZ.1.2 g));have hs3:=g.size;have hlz:=HZ.1.1.lt;have HK:=S (KS.start (o:=1) (s:=[]) HZ.1.1 HZ.1.2 hb (by omega))
 have hp8:=hp9.alloc (.cells #[.int .i64 1,str [],str [],.slice none 0 0,.slice none 0 0,.slice none 0 0,.int .i64 0,.slice none 0 0,.slice none 0 0,.slice none 0 0] 134 (0,0));replace hp:=hp8;clear g hp9 hp8 HZ;have HA:=S (Bj hp);cases hk5:(Ab l (i+1)).kind==5
 case' true=>
  have hkk:(Ab l (i+1)).kind=5:=by simpa using hk5
  rw[if_pos hk5,Res.bind_ok]at HQ;clear hk5;go_wp2_with fail;refine mR HA.1 λw4 g4=>?_;rw[AR,hkk];replace HK:=S (HK.1.gbN g4);replace hp:=hp.gbN g4;clear g4 HA;go_wp2_with fail;refine(AY hp).mono ?_;intro e w5 hq;obtain⟨g,⟨q,hr,rfl⟩| ⟨u,i5,v,hr,rfl,rfl,hp9⟩⟩:=hq.split
  ·exact PBd HK.1.gr g HQ hr
 case' false=>
  have hkk:((Ab l (i+1)).kind !=5)=true:=by simp only[bne,hk5];rfl
  rw[if_neg (nF hk5)]at HQ;clear hk5;go_wp2_with fail;refine mR HA.1 λw4 g4=>?_;rw[AR];replace HK:=S (HK.1.gbN g4);replace hp:=hp.gbN g4;clear g4 HA;have hkl:=HK.1.lt;have hwL:=HK.1.wL;have hbw:=HK.1.bw;go_wp2_with fail;refine(Jc HE.1 (JZ l day n) hp n (λe=>HO.1 (by rw[<-HQ.1,e];rfl))).mono ?_;intro e w5 hq;obtain⟨g,⟨q,hr,rfl⟩| ⟨f,i5,v,hr,rfl,⟨fa,fc,rfl,hF⟩,hp9⟩⟩:=hq.split
  ·exact PBd HK.1.gr g HQ hr
  replace HK:=S (HK.1.gb g);replace hp:=hp9;clear hp9;replace HQ:=HQo HQ hr;clear hr;have hkl5:=HK.1.lt;have hx4:=HK.1.blk.cell' 4 rfl;have hf4:=HK.1.blk.frozen 4;have hK6:=HK.1.putX (hF.mono (λq hq _=>by have h1:w4.heap.size<=q:=hq;exact⟨by omega,by omega⟩));have hp6:=hp.set (L:=w3.heap.size) (by omega) 4 (.slice fa f.len fc);replace HK:=S hK6;replace hp:=hp6;clear hK6 hp6 hF g;go_wp2_with fail;refine(AY hp).mono ?_;intro e w7 hq;obtain⟨g,⟨q,hr,rfl⟩| ⟨u,i7,v,hr,rfl,rfl,hp9⟩⟩:=hq.split
  ·exact PBd HK.1.gr g HQ hr
 all_goals
  replace HK:=S (HK.1.gb g);replace hp:=hp9;clear hp9;replace HQ:=HQo HQ hr;clear hr g;obtain⟨pa9,xa9,ba9,na9,fa9,wa9,pc9,xc9,bc9,nc9,fc9,wc9,e91,e92,e93,e94,e95,e96⟩:=HK.1.shapes;(first|cases e91|clear e91);(first|cases e92|clear e92);(first|cases e93|clear e93);(first|cases e94|clear e94);(first|cases e95|clear e95);(first|cases e96|clear e96);have hkb:=HK.1.blk;have hkz:=HK.1.zero;have hkl:=hkb.lt;have hkl2:=hkz.lt;have ck_:=hkb.c10;have cz_:=hkz.c10;clear hkb hkz;go_wp2;have hres9:=C1 HK.1 hp HQ.1.symm;have hblk9:=HK.1.out.2.2.1;refine bZ ?hr9 rfl hres9
  case hr9=>exact A8 rfl _ hblk9 rfl rfl
def SQ{block:Rd l Bl}(hn:Al l)(hE:CE 208 b tv wo l wordsL (Ak l day n))(hok:∀i,At (Ab l i))(hl:A0 l)(hk:Bp l wordsL i=[])(h63:Ah (Ab l i) [63]=false)(hk0:(Ab l i).kind=0)(h40:Ah (Ab l (i+1)) [40]=true)(h:Par w b tv wo l wordsL i)(ho:(BL hn wordsL day n block).f i ≠ .out):
 Calls Tryz.prog 275 #[.pointer (some ⟨b,0,none⟩)] w (Post b tv wo l wordsL w (VSt w) ((BL hn wordsL day n block).f i)):=by
 have HKk:=S (X hk (X h63 (X hk0 h40)));clear hk h63 hk0 h40;have hb:=h.lt;have HO:=S ho;generalize hR:(BL hn wordsL day n block).f i=R at*;have HTk:=S hok;have HSh:=S hl;have HE:=S hE;have HZ:=S (X (Blk.new w (stC 0 (.slice none 0 0)) 134) (show w.grownBy (w.alloc (.cells (stC 0 (.slice none 0 0)).toArray 134 (0,0))) (some b)from Ac (Aa _ _) _));have hp:=h.alloc (.cells (stC 0 (.slice none 0 0)).toArray 134 (0,0));clear hok hl hE ho h;go_enter func275,ntmps275;go_wp2_with fail;refine mR (Bj hp) λw1 g=>?_;have gA:=Ac g (.cells #[.int .i64 (Ab l i).kind,.int .i64 (Ab l i).pos,str (Ab l i).text] 250 (0,0));have hT:=Blk.new w1 [.int .i64 (Ab l i).kind,.int .i64 (Ab l i).pos,str (Ab l i).text] 250;have hbs:=g.size;simp at hbs;replace HZ:=S (X (HZ.1.1.gb gA (by simp)) (Ag HZ.1.2 gA));replace hp:=hp.gbN gA;clear g gA;go_wp2_with fail;refine mR (FV hp HTk.1) λw2 g=>?_;replace HZ:=S (X (HZ.1.1.gb g (by simp)) (Ag HZ.1.2 g));replace hp:=hp.gbN g;replace hT:=hT.gb g (by simp);clear g;rw[Ii,if_pos HKk.1.1]at hR;unfold Gn at hR;rw[if_neg (by rw[HKk.1.2.1];simp),if_pos (by rw[HKk.1.2.2.1,HKk.1.2.2.2];rfl)]at hR;have HQ:=S hR;rw[HKk.1.1];clear hR;go_wp2_with fail;refine mR (Bb hp [63] HKk.1.2.1) λw3 g=>?_;replace HZ:=S (X (HZ.1.1.gb g (by simp)) (Ag HZ.1.2 g));replace hp:=hp.gbN g;replace hT:=hT.gb g (by simp);have t0:=hT.cell' 0 rfl;rw[HKk.1.2.2.1]at t0;have hTl:=hT.lt;clear g hT;go_wp2_with fail;refine mR (Ig hp) λw4 g=>?_;replace HZ:=S (X (HZ.1.1.gb g (by simp)) (Ag HZ.1.2 g));replace hp:=hp.gbN g;clear g;go_wp2_with fail;refine mR (Fg _ _ _ [40] _) λw5 g=>?_;replace HZ:=S (X (HZ.1.1.gb g (by simp)) (Ag HZ.1.2 g));replace hp:=hp.gbN g;clear g t0 hTl;rw[show((Ab l (i+1)).kind==4&&(Ab l (i+1)).text==[40])=true from HKk.1.2.2.2];have hlz:=HZ.1.1.lt;go_wp2_with fail;refine(NU HE.1 (JZ l day n) HSh.1 n _ _ hp (λe=>HO.1 (by rw[<-HQ.1,e];rfl))).mono ?_;intro e w6 hq;obtain⟨g,⟨q,hr,rfl⟩| ⟨x,i6,v,hr,rfl,⟨pa,pc,la,lc,rfl,rp,rl⟩,hp9⟩⟩:=hq.split
 ·exact PBd HZ.1.2 g HQ hr
 replace HZ:=S (X (HZ.1.1.gb g (by simp;omega)) (Z HZ.1.2 g));replace hp:=hp9;clear hp9;replace HQ:=HQo HQ hr;clear hr;have hs6:=g.size;have hl6:=HZ.1.1.lt;have hb6:=hp.lt;have gA:=gZ w6 (.cells (hdC x.h (.slice pa x.h.p.length pc) (.slice la x.kids.len lc)).toArray 163 (0,0)) none;have hsince:∀q,An w5.heap.size q->q<w6.heap.size->but w (w6.heap.size+1) q:=λq hq _=>by have:w5.heap.size<=q:=hq;exact⟨by omega,by omega⟩
 have hRow:=RepL.one (n:=w6.heap.size) (x:=x) (ok:=but w (w6.heap.size+1)) rfl ⟨by omega,by omega⟩ (rp.mono hsince) (rl.mono hsince);have gB:=gZ (w6.alloc (.cells (hdC x.h (.slice pa x.h.p.length pc) (.slice la x.kids.len lc)).toArray 163 (0,0))) (.cells #[.int .i64 10,str [],str [],.slice none 0 0,.slice (some ⟨w6.heap.size,0,none⟩) 1 1,.slice none 0 0,.int .i64 0,.slice none 0 0,.slice none 0 0,.slice none 0 0] 134 (0,0)) none;have HK:=S (show KS b w (w6.heap.size+1) _ {sd0 10 []with x:= .one x} .nil (.slice none 0 0) (.slice (some ⟨w6.heap.size,0,none⟩) 1 1) (.slice none 0 0) (.slice none 0 0) (.slice none 0 0) (.slice none 0 0)from
  ⟨(Blk.new (w6.alloc (.cells (hdC x.h (.slice pa x.h.p.length pc) (.slice la x.kids.len lc)).toArray 163 (0,0))) [.int .i64 10,str [],str [],.slice none 0 0,.slice (some ⟨w6.heap.size,0,none⟩) 1 1,.slice none 0 0,.int .i64 0,.slice none 0 0,.slice none 0 0,.slice none 0 0] 134).of_eq (by simp) rfl,Cells.nil _ _ _,hRow.gb gB (by simp),RepV.nil _ _ _,RepL.nil _ _,RepL.nil _ _,RepL.nil _ _,Ag (Ag HZ.1.2 gA) gB,hb,by omega,(HZ.1.1.gb gA (by simp)).gb gB (by simp)⟩)
 have hp8:=(hp.gbN gA).gbN gB;replace hp:=hp8;clear g rp rl gA gB hRow hsince hp8 HZ;go_wp2_with fail;refine(AY hp).mono ?_;intro e w7 hq;obtain⟨g,⟨q,hr,rfl⟩| ⟨u,i7,v,hr,rfl,rfl,hp9⟩⟩:=hq.split
 ·exact PBd HK.1.gr g HQ hr
 replace HK:=S (HK.1.gb g);replace hp:=hp9;clear hp9;replace HQ:=HQo HQ hr;clear hr g;obtain⟨pa9,xa9,ba9,na9,fa9,wa9,pc9,xc9,bc9,nc9,fc9,wc9,e91,e92,e93,e94,e95,e96⟩:=HK.1.shapes
 (first|cases e91|clear e91);(first|cases e92|clear e92);(first|cases e93|clear e93);(first|cases e94|clear e94);(first|cases e95|clear e95);(first|cases e96|clear e96);have hkb:=HK.1.blk;have hkz:=HK.1.zero;have hkl:=hkb.lt;have hkl2:=hkz.lt;have ck_:=hkb.c10;have cz_:=hkz.c10;clear hkb hkz;go_wp2;have hres9:=C1 HK.1 hp HQ.1.symm;have hblk9:=HK.1.out.2.2.1;refine bZ ?hr9 rfl hres9
 case hr9=>exact A8 rfl _ hblk9 rfl rfl
def No(h:Par w b tv wo l wordsL i)(s:Bs):
 Calls Tryz.prog 269 #[.pointer (some ⟨b,0,none⟩),str s] w λe w'=>e= .returned (.bool (Ah (Ab l i) s))/\Par w' b tv wo l wordsL (if Ah (Ab l i) s then i+1 else i)/\w.grownBy w' (some b):=by
 cases hw:Ah (Ab l i) s with
 |true=>exact(Bm h s hw).mono λe w' ⟨h1,h2,h3⟩=>⟨h1,h2,h3⟩
 |false=>exact(Bb h s hw).mono λe w' ⟨h1,h2⟩=>⟨h1,h.gbN h2,Ao h2⟩
def zGam:(∀{b:Nat}{tv wo:Value}{l:List Tok}{day:Bs->Int}{n:Nat}{w:World}{i:Nat}{block:Rd l Bl}(hn:Al l)(hE:CE 208 b tv wo l wordsL (Ak l day n))(hok:∀i,At (Ab l i))(hl:A0 l)(hk:Bp l wordsL i=[])(h63:Ah (Ab l i) [63]=false)(hc:((Ab l i).kind==0&&Ah (Ab l (i+1)) [40])=false)(hk0:((Ab l i).kind==0)=true)(h:Par w b tv wo l wordsL i)(ho:(BL hn wordsL day n block).f i ≠ .out),Calls Tryz.prog 275 #[.pointer (some ⟨b,0,none⟩)] w (Post b tv wo l wordsL w (VSt w) ((BL hn wordsL day n block).f i)))/\(∀{b:Nat}{tv wo:Value}{l:List Tok}{day:Bs->Int}{n:Nat}{w:World}{i:Nat}{block:Rd l Bl}(hn:Al l)(hE:CE 208 b tv wo l wordsL (Ak l day n))(hok:∀i,At (Ab l i))(hl:A0 l)(hk:Bp l wordsL i=[])(h63:Ah (Ab l i) [63]=false)(hc:((Ab l i).kind==0&&Ah (Ab l (i+1)) [40])=false)(hk0:((Ab l i).kind==0)=false)(h:Par w b tv wo l wordsL i)(ho:(BL hn wordsL day n block).f i ≠ .out),Calls Tryz.prog 275 #[.pointer (some ⟨b,0,none⟩)] w (Post b tv wo l wordsL w (VSt w) ((BL hn wordsL day n block).f i))):=by
 refine⟨?a,?b⟩
 all_goals
  intro b tv wo l day n w i block hn hE hok hl hk h63 hc hk0 h ho;have HKk:=S (X hk (X h63 hc));clear hk h63 hc;have hb:=h.lt;have HO:=S ho;generalize hR:(BL hn wordsL day n block).f i=R at*;have HTk:=S hok;have HSh:=S hl;have HE:=S hE;have HZ:=S (X (Blk.new w (stC 0 (.slice none 0 0)) 134) (show w.grownBy (w.alloc (.cells (stC 0 (.slice none 0 0)).toArray 134 (0,0))) (some b)from Ac (Aa _ _) _));have hp:=h.alloc (.cells (stC 0 (.slice none 0 0)).toArray 134 (0,0));clear hok hl hE ho h
 case' a=>
  go_enter func275,ntmps275;go_wp2_with fail;refine mR (Bj hp) λw1 g=>?_;have gA:=Ac g (.cells #[.int .i64 (Ab l i).kind,.int .i64 (Ab l i).pos,str (Ab l i).text] 250 (0,0));have hT:=Blk.new w1 [.int .i64 (Ab l i).kind,.int .i64 (Ab l i).pos,str (Ab l i).text] 250;have hbs:=g.size;simp at hbs;replace HZ:=S (X (HZ.1.1.gb gA (by simp)) (Ag HZ.1.2 gA));replace hp:=hp.gbN gA;clear g gA;go_wp2_with fail;refine mR (FV hp HTk.1) λw2 g=>?_;replace HZ:=S (X (HZ.1.1.gb g (by simp)) (Ag HZ.1.2 g));replace hp:=hp.gbN g;replace hT:=hT.gb g (by simp);clear g;rw[Ii,if_pos HKk.1.1]at hR;unfold Gn at hR;rw[if_neg (by rw[HKk.1.2.1];simp),if_neg (by rw[HKk.1.2.2];simp)]at hR;have HQ:=S hR;rw[HKk.1.1];clear hR;go_wp2_with fail;refine mR (Bb hp [63] HKk.1.2.1) λw3 g=>?_;replace HZ:=S (X (HZ.1.1.gb g (by simp)) (Ag HZ.1.2 g));replace hp:=hp.gbN g;replace hT:=hT.gb g (by simp);have t0:=hT.cell' 0 rfl;have hTl:=hT.lt;clear g hT;have hkk:(Ab l i).kind=0:=by simpa using hk0
  have h40:Ah (Ab l (i+1)) [40]=false:=by have:=HKk.1.2.2;rw[hk0,Bool.true_and]at this;exact this
  rw[hkk]at t0;clear hk0;go_wp2_with fail;refine mR (Ig hp) λw4 g=>?_;replace HZ:=S (X (HZ.1.1.gb g (by simp)) (Ag HZ.1.2 g));replace hp:=hp.gbN g;clear g;go_wp2_with fail;refine mR (Fg _ _ _ [40] _) λw5 g=>?_;replace HZ:=S (X (HZ.1.1.gb g (by simp)) (Ag HZ.1.2 g));replace hp:=hp.gbN g;clear g t0 hTl;rw[show((Ab l (i+1)).kind==4&&(Ab l (i+1)).text==[40])=false from h40];have hlz:=HZ.1.1.lt;have hs5:=HZ.1.2.size;go_wp2_with fail;refine(MJ HE.1 HSh.1 _ _ hp (λe=>HO.1 (by rw[<-HQ.1,e];rfl))).mono ?_;intro e w6 hq;obtain⟨g,⟨q,hr,rfl⟩| ⟨t,i6,v,hr,rfl,⟨pa,pc,la,lc,rfl,rp,rl⟩,hp9⟩⟩:=hq.split
  ·exact PBd HZ.1.2 g HQ hr
  replace HZ:=S (X (HZ.1.1.gb g (by simp;omega)) (Z HZ.1.2 g));replace hp:=hp9;clear hp9;replace HQ:=HQo HQ hr;clear hr;have hs6:=g.size;have hL:=Blk.new w6 (hdC t.h (.slice pa t.h.p.length pc) (.slice la t.kids.len lc)) 163;have hsince:∀q,An (w5).heap.size q->q<w6.heap.size->w.heap.size<q:=λq hq _=>by have:(w5).heap.size<=q:=hq;omega
 case' b=>
  go_enter func275,ntmps275;go_wp2_with fail;refine mR (Bj hp) λw1 g=>?_;have gA:=Ac g (.cells #[.int .i64 (Ab l i).kind,.int .i64 (Ab l i).pos,str (Ab l i).text] 250 (0,0));have hT:=Blk.new w1 [.int .i64 (Ab l i).kind,.int .i64 (Ab l i).pos,str (Ab l i).text] 250;have hbs:=g.size;simp at hbs;replace HZ:=S (X (HZ.1.1.gb gA (by simp)) (Ag HZ.1.2 gA));replace hp:=hp.gbN gA;clear g gA;go_wp2_with fail;refine mR (FV hp HTk.1) λw2 g=>?_;replace HZ:=S (X (HZ.1.1.gb g (by simp)) (Ag HZ.1.2 g));replace hp:=hp.gbN g;replace hT:=hT.gb g (by simp);clear g;rw[Ii,if_pos HKk.1.1]at hR;unfold Gn at hR;rw[if_neg (by rw[HKk.1.2.1];simp),if_neg (by rw[HKk.1.2.2];simp)]at hR;have HQ:=S hR;rw[HKk.1.1];clear hR;go_wp2_with fail;refine mR (Bb hp [63] HKk.1.2.1) λw3 g=>?_;replace HZ:=S (X (HZ.1.1.gb g (by simp)) (Ag HZ.1.2 g));replace hp:=hp.gbN g;replace hT:=hT.gb g (by simp);have t0:=hT.cell' 0 rfl;have hTl:=hT.lt;clear g hT;have hlz:=HZ.1.1.lt;have hs5:=HZ.1.2.size;go_wp2_with fail;refine(MJ HE.1 HSh.1 _ _ hp (λe=>HO.1 (by rw[<-HQ.1,e];rfl))).mono ?_;intro e w6 hq;obtain⟨g,⟨q,hr,rfl⟩| ⟨t,i6,v,hr,rfl,⟨pa,pc,la,lc,rfl,rp,rl⟩,hp9⟩⟩:=hq.split
  ·exact PBd HZ.1.2 g HQ hr
  replace HZ:=S (X (HZ.1.1.gb g (by simp;omega)) (Z HZ.1.2 g));replace hp:=hp9;clear hp9;replace HQ:=HQo HQ hr;clear hr;have hs6:=g.size;have hL:=Blk.new w6 (hdC t.h (.slice pa t.h.p.length pc) (.slice la t.kids.len lc)) 163;have hsince:∀q,An (w3).heap.size q->q<w6.heap.size->w.heap.size<q:=λq hq _=>by have:(w3).heap.size<=q:=hq;omega
 all_goals
  have gN:=gZ w6 (.cells (hdC t.h (.slice pa t.h.p.length pc) (.slice la t.kids.len lc)).toArray 163 (0,0)) none;have HX:=S (X ((rp.mono (ok':=λq=>w.heap.size<q) hsince).gb gN (by simp)) ((rl.mono (ok':=λq=>w.heap.size<q) hsince).gb gN (by simp)));replace HZ:=S (X (HZ.1.1.gb gN (by simp)) (Ag HZ.1.2 gN));have hp7:=hp.gbN gN;replace hp:=hp7;have hb6:=hp.lt;clear g rp rl gN hsince hp7;have hlz:=HZ.1.1.lt;have hlL:=hL.lt;have hbLT:b<w6.heap.size/\w.heap.size<w6.heap.size:=by simp at hlz hlL;omega
  have HS:=S (No hp [61]);clear hp;go_wp2_with fail;refine HS.1.mono ?_;rintro e w7 ⟨rfl,hp9,g⟩;replace hL:=hL.gb g (by simp;omega);replace HX:=S (X (HX.1.1.gb g (λq hq _ e=>by cases e;omega)) (HX.1.2.gb g (λq hq _ e=>by cases e;omega)));replace HZ:=S (X (HZ.1.1.gb g (by simp;omega)) (Z HZ.1.2 g));have hp:=hp9;clear g hp9 HS;generalize hsg:Ah (Ab l i6) [61]=ok at*;clear hsg;go_upto_if 52 with fail;go_cut []from 9 (λwx=>∃j8,Par wx b tv wo l wordsL j8/\(Blk wx w.heap.size (stC 0 (.slice none 0 0)) 134/\w.grownBy wx (some b))/\Blk wx w6.heap.size (hdC t.h (.slice pa t.h.p.length pc) (.slice la t.kids.len lc)) 163/\(Cells wx (.slice pa t.h.p.length pc) 1 t.h.p.length (t.h.p.map str) (λq=>w.heap.size<q)/\RepL (λq=>w.heap.size<q) wx (.slice la t.kids.len lc) t.kids)/\((Ak l day n j8).bind λx j=>(B3 l j).bind λ_ j=>Res.ok ({sd0 0 []with x:= .two t x},Bl.nil) j)=R)
  case first=>
   cases ok with
   | true=>
     have hp1:Par w7 b tv wo l wordsL (i6+1):=hp;have e1:((Ak l day n (i6+1)).bind λx j=>(B3 l j).bind λ_ j=>Res.ok ({sd0 0 []with x:= .two t x},Bl.nil) j)=R:=HQ.1;have HQ1:=S e1;clear e1;go_wp2;go_meet
     case rel=>exact⟨_,hp1,HZ.1,hL,HX.1,HQ1.1⟩
   | false=>
     have hp1:Par w7 b tv wo l wordsL i6:=hp;replace hp:=hp1;clear hp1;have e1:Res.bind (AW l [58,61] i6) _=R:=HQ.1;replace HQ:=S e1;clear e1;have hlz:=HZ.1.1.lt;have hl7:=hL.lt;go_wp2_with fail;refine(CM hp [58,61]).mono ?_;intro e w8 hq;obtain⟨g,⟨q,hr,rfl⟩| ⟨u,i8,v,hr,rfl,rfl,hp9⟩⟩:=hq.split
     ·exact PBd HZ.1.2 g HQ hr
     replace HZ:=S (X (HZ.1.1.gb g (by simp;omega)) (Z HZ.1.2 g));replace hp:=hp9;clear hp9;replace HQ:=HQo HQ hr;clear hr;have hL8:=hL.gb g (by simp;omega);have HX8:=S (X (HX.1.1.gb g (λq hq _ e=>by cases e;omega)) (HX.1.2.gb g (λq hq _ e=>by cases e;omega)));clear g hL HX;go_wp2;go_meet
     case rel=>exact⟨_,hp,HZ.1,hL8,HX8.1,HQ.1⟩
  case rest=>
  obtain⟨j8,hp1,hz1,hL8,hX1,hq1⟩:=hcut;replace HZ:=S hz1;have HX8:=S hX1;replace HQ:=S hq1;replace hp:=hp1;clear hp1 hz1 hX1 hq1 hL HX;generalize hWW:wc=w8 at*;clear hWW;have hok:∀q,w.heap.size<q->some q≠some b:=λq hq e=>by cases e;omega
  have hzlt2:w.heap.size<w8.heap.size:=by have:=HZ.1.1.lt;omega
  have hLb:=hL8.lt;obtain⟨cl_0,cl_1,cl_2,cl_3,cl_4,cl_5,cl_6,cl_f⟩:=(hL8).c7
  cases hr6:Ak l day n j8 with
  |out=>exact absurd (HQu HQ hr6) HO.1
  | bad q6=>
    go_wp2_with fail;go_region_with(first| (go_at_call 208;refine(HE.1 _ _ (hp.gbN (Ad (Aa w8 none))) (by rw[hr6];simp)).mono ?_;rintro e w9 h9;rw[hr6]at h9;obtain⟨g9,rfl⟩:=h9;refine Bt (P:=Tryz.prog) ⟨rfl,Post.bad (Z (Ad HZ.1.2) g9) (HQb HQ hr6)⟩ ⟨#[],[]⟩ w9 ?_)| (go_at_call 208;refine(HE.1 _ _ ((hp.alloc (.cells (stC 0 (.slice none 0 0)).toArray 134 (0,0))).gbN (Ad (Aa _ none))) (by rw[hr6];simp)).mono ?_;rintro e w9 h9;rw[hr6]at h9;obtain⟨g9,rfl⟩:=h9;refine Bt (P:=Tryz.prog) ⟨rfl,Post.bad (Z (Ad (Ac HZ.1.2 (.cells (stC 0 (.slice none 0 0)).toArray 134 (0,0)))) g9) (HQb HQ hr6)⟩ ⟨#[],[]⟩ w9 ?_));all_goals trivial
  |ok x i9=>
  replace HQ:=HQo HQ hr6;go_upto_region 18 with fail;go_cut [8]from 9 (λv8 wx=>∃kS kR,v8= .pointer (some ⟨kS,0,none⟩)/\Iv b tv wo l wordsL w t x i9 kS kR wx)
  case first=>
   go_region_with(first| (go_at_call 208;refine(HE.1 _ _ (hp.gbN (Ad (Aa w8 none))) (by rw[hr6];simp)).mono ?_;rintro e w9 ⟨g9,h9⟩;rw[hr6]at h9;obtain⟨v,rfl,⟨pa2,pc2,la2,lc2,rfl,rp2,rl2⟩,hp9⟩:=h9;have gD:=Z (Ad (Aa w8 (some b))) g9;have hL9:=hL8.gb gD (by simp;omega);have hL9t:=hL9.lt;have dl_:=hL9.c7;have HY:=S (X rp2 rl2);clear rp2 rl2)| (go_at_call 208;refine(HE.1 _ _ ((hp.alloc (.cells (stC 0 (.slice none 0 0)).toArray 134 (0,0))).gbN (Ad (Aa _ none))) (by rw[hr6];simp)).mono ?_;rintro e w9 ⟨g9,h9⟩;rw[hr6]at h9;obtain⟨v,rfl,⟨pa2,pc2,la2,lc2,rfl,rp2,rl2⟩,hp9⟩:=h9;have gD:=Z (Ad (Ac (Aa w8 (some b)) (.cells (stC 0 (.slice none 0 0)).toArray 134 (0,0)))) g9;have hL9:=hL8.gb gD (by simp;omega);have hL9t:=hL9.lt;have dl_:=hL9.c7;have HY:=S (X rp2 rl2);clear rp2 rl2;have hS9:=((Blk.new w8 (stC 0 (.slice none 0 0)) 134).drew).gb g9 (by have:=hp.lt;simp;omega);have sl_:=hS9.c10;have hS9t:=hS9.lt));all_goals
    have hzD:=HZ.1.1.gb gD (by simp;omega);have grD:=Z HZ.1.2 gD;have hs89:=gD.size;first
    | have hP:SetPre b tv wo l wordsL w t x pa la pa2 la2 pc lc pc2 lc2 i9 (λq=>w.heap.size<q/\q≠w8.heap.size) w9:=⟨hp9,(HX8.1.1.mono (ok':=λq=>w.heap.size<q/\q≠w8.heap.size) (λq hq h=>⟨hq,by omega⟩)).gb gD (by intro q hq _ e;cases e;have:=hq.1;omega),(HX8.1.2.mono (ok':=λq=>w.heap.size<q/\q≠w8.heap.size) (λq hq h=>⟨hq,by omega⟩)).gb gD (by intro q hq _ e;cases e;have:=hq.1;omega),HY.1.1.mono (λq hq _=>by simp at hq;exact⟨by omega,by omega⟩),HY.1.2.mono (λq hq _=>by simp at hq;exact⟨by omega,by omega⟩),grD,hzD,hb,λq hq=>hq.1⟩
      have hF:=hP.C hS9 hzlt2 (λq hq=>hq.2);go_wp2_with fail;go_meet
      case rel=>exact⟨_,_,rfl,hF⟩
    | have hP:SetPre b tv wo l wordsL w t x pa la pa2 la2 pc lc pc2 lc2 i9 (λq=>w.heap.size<q) w9:=⟨hp9,HX8.1.1.gb gD (λq hq _=>hok q hq),HX8.1.2.gb gD (λq hq _=>hok q hq),HY.1.1.mono (λq hq _=>by simp at hq;omega),HY.1.2.mono (λq hq _=>by simp at hq;omega),grD,hzD,hb,λq hq=>hq⟩
      go_wp2_with fail;go_meet
      case rel=>
       first
       |exact⟨_,_,rfl,hP.A⟩
       |exact⟨_,_,rfl,hP.B⟩
  case rest=>
  obtain⟨kS,kR,rfl,hW⟩:=hcut;generalize hWW:wc=W at*;clear hWW cl_0 cl_1 cl_2 cl_3 cl_4 cl_5 cl_6 cl_f hL8 HX8 HZ hp hr6;have hne:=hW.ne;go_wp2_with fail;refine(AY hW.par).mono ?_;intro e w10 hq;obtain⟨g,⟨q,hr,rfl⟩| ⟨u,i10,v,hr,rfl,rfl,hp10⟩⟩:=hq.split
  ·exact PBd hW.gr g HQ hr
  replace HQ:=HQo HQ hr;clear hr;have hS:=hW.st.gb g (by simp;omega);have hZ:=hW.zero.gb g (by simp;omega);have HF:=S (X hp10 (X (Z hW.gr g) (hW.row.gb g (λq hq _=>hok q hq))));clear hp10 hW g;have sl_:=hS.c10;have zl_:=hZ.c10;have hSl:=hS.lt;have HZ9:=S hZ;clear hZ hS;go_wp2;refine bZ (A8 rfl _ (HZ9.1.set10 _ _ _ _ _ _ _ _ _ _) rfl rfl) rfl (Post.ok (Aq HF.1.2.1 (DW _ _ _ _ _ _ _ _ _ _ _ _) (.inr (nR _))) HQ.1.symm (StV.x (op:=0) (s:=[]) (f:= .two t x) ((HF.1.2.2.gb (DW _ _ _ _ _ _ _ _ _ _ _ _) (λq hq _ e=>by cases e;omega)).mono (λq hq _=>Nat.le_of_lt hq))) (HF.1.1.gb (DW _ _ _ _ _ _ _ _ _ _ _ _) (by intro q e;cases e;exact hb)))
def VD{block:Rd l Bl}(hn:Al l)(hnn:n<=90000)(hB:CQB b tv wo l block.f)(hE:CE 208 b tv wo l wordsL (Ak l day n))(hok:∀i,At (Ab l i))(hl:A0 l)(hgb:4<b):StmtQ b tv wo l hn day n block:=by
 intro w i hg h hi ho;by_cases hk:Bp l wordsL i=[]
 ·cases h63:Ah (Ab l i) [63]with
  |true=>exact Rq hn hE hok hl hk h63 h ho
  | false=>
    cases hk0:(Ab l i).kind==0 with
    |false=>exact zGam.2 hn hE hok hl hk h63 (by rw[hk0];rfl) hk0 h ho
    | true=>
      cases h40:Ah (Ab l (i+1)) [40]with
      |true=>exact SQ hn hE hok hl hk h63 (by simpa using hk0) h40 h ho
      |false=>exact zGam.1 hn hE hok hl hk h63 (by rw[hk0,h40];rfl) hk0 h ho
 ·exact Rp hn hE hok hl hgb (SP hn hnn hB hE hok hl hgb _) hk hg h hi ho
def ZS(stp:Rd l StB)(b:Nat)(tv wo:Value)(w:World)(n:Nat)(R:Res Bl)(g:Nat)(v:Value)(wr:World):Prop:=
 ∃a j,OwnB wr w.heap.size v a/\Par wr b tv wo l wordsL j/\w.grownBy wr (some b)/\a.len+g<=n/\(DF wordsL stp g a).f j=R
def SG{stp:Rd l StB}(hnn:n<=100000)(hok:∀i,At (Ab l i))(hgb:4<b)
 (hS:∀w i,Glob w->Par w b tv wo l wordsL i->i<l.length->stp.f i ≠ .out->Calls Tryz.prog 275 #[.pointer (some ⟨b,0,none⟩)] w (Post b tv wo l wordsL w (VSt w) (stp.f i)))
 (hg:Glob w) (h:Par w b tv wo l wordsL i) (ho:(DF wordsL stp n .nil).f i ≠ .out):
 Calls Tryz.prog 244 #[.pointer (some ⟨b,0,none⟩)] w (Post b tv wo l wordsL w (VBl w) ((DF wordsL stp n .nil).f i)):=by
 have hb:=h.lt;have HO:=S ho;generalize hR:(DF wordsL stp n .nil).f i=R at*;have HQ0:=S (X h hR);have HTk:=S hok;have HSt:=S hS;have HGl:=S (X hg hgb);clear hok hS hg h ho hR;go_enter func244,ntmps244;go_wp2_with fail;go_loopg [3] n (λg v3 wr=>ZS stp b tv wo w n R g v3 wr)
 case atStart=>exact⟨.nil,i,⟨[],World.ownsRow_nil _ _ _ _,rfl⟩,HQ0.1.1,Aa _ _,by simp[Bl.len],HQ0.1.2⟩
 case round=>
  obtain⟨a,j,hown,hp1,hgr,hlen,hq⟩:=hrel;clear HQ0;have hp:=hp1;obtain⟨ta,tc,rfl⟩:=hp.tv_eq;have c0:=hp.c0;have c1:=hp.c1;have hbr:=hp.lt;have hfew:=hp.few;have HW:=S (X hown hgr);have HQ:=S hq;clear hown hgr hp1 hq;cases gk with
  |zero=>exact absurd HQ.1.symm HO.1
  |succ k=>
  have e0:=HQ.1;unfold DF at e0;rw[Rd.condN_f]at e0;replace HQ:=S e0;clear e0;by_cases hi:j<l.length
  ·have hd:decide ((j:Int)<(l.length:Int))=true:=by simp;omega
   have hD:=Ad (Aa wr none);have HG9:=S (fun(W:World)(g:wr.grownBy W none)=>BW HGl.1.1 HGl.1.2 (Ag HW.1.2 g));have HPp:=S hp;clear hp;cases hK:endWords.contains (Bp l wordsL j)with
   | true=>
     have HKW:=S ((LC (Bp l wordsL j)).trans hK);replace HQ:=HQr HQ (by rw[if_neg (nF (show Ft l wordsL j=false by unfold Ft;rw[hK];simp))]);rw[Rd.pure_f]at HQ;clear hK;go_wp2_with fail;go_region_held3 (λW=>W.cell? ⟨b,0,none⟩=some (.slice ta l.length tc)/\W.cell? ⟨b,1,none⟩=some (.int .i64 j)/\wr.grownBy W none) (first|exact⟨c0,c1,hD⟩|exact⟨Ae gA c0,Ae gA c1,gA⟩|exact⟨Ae gF c0,Ae gF c1,gF⟩) (first| (go_at_call 274;refine mR (FV (HPp.1.gbN hD) HTk.1) λw1 g1=>?_;(have gF:=Z hD g1);clear g1)| (go_at_call 273;refine mR (LQ _ (HG9.1 _ gF)) λw2 g2=>?_;rw[HKW.1];(have gA:=Z gF g2);clear g2));all_goals
      have HF:=S (X (Ag HW.1.2 gA) (X (HW.1.1.gb gA (by simp)) (HPp.1.gbN gA)));clear gA;go_wp2;go_ret;exact Post.ok HF.1.1 HQ.1.symm HF.1.2.1.rep HF.1.2.2
   | false=>
     have HKW:=S ((LC (Bp l wordsL j)).trans hK);replace HQ:=HQr HQ (by rw[if_pos (show Ft l wordsL j=true by unfold Ft;rw[hK];simpa using hi)]);rw[Rd.bind_f]at HQ;clear hK;go_wp2_with fail;go_region_held3 (λW=>W.cell? ⟨b,0,none⟩=some (.slice ta l.length tc)/\W.cell? ⟨b,1,none⟩=some (.int .i64 j)/\wr.grownBy W none) (first|exact⟨c0,c1,hD⟩|exact⟨Ae gA c0,Ae gA c1,gA⟩|exact⟨Ae gF c0,Ae gF c1,gF⟩) (first| (go_at_call 274;refine mR (FV (HPp.1.gbN hD) HTk.1) λw1 g1=>?_;(have gF:=Z hD g1);clear g1)| (go_at_call 273;refine mR (LQ _ (HG9.1 _ gF)) λw2 g2=>?_;rw[HKW.1];(have gA:=Z gF g2);clear g2));all_goals
      have hs2:=gA.size;have HA:=S (X (HW.1.1.gb gA (by simp)) (X (HPp.1.gbN gA) (Ag HW.1.2 gA)));clear gA;go_wp2_with fail;refine(HSt.1 _ _ (BW HGl.1.1 HGl.1.2 HA.1.2.2) HA.1.2.1 hi (λe=>HO.1 (by rw[<-HQ.1,e];rfl))).mono ?_;intro e w3 hq;obtain⟨g3,⟨q,hr,rfl⟩| ⟨⟨s1,c1'⟩,j3,v,hr,rfl,⟨pa,xa,na,fa,wa,ba,pc,xc,nc,fc,wc,bc,rfl,k1,k2⟩,h3⟩⟩:=hq.split
      ·exact PBd HA.1.2.2 g3 HQ hr
      replace HQ:=HQo HQ hr;clear hr;simp only at k1 k2 HQ;have hs3:=g3.size;have hs4:=HA.1.2.2.size;have gN:=gZ w3 (.cells (sdC s1 (.slice pa s1.p.length pc) (.slice xa s1.x.len xc) (.slice ba c1'.len bc) (.slice na s1.n.len nc) (.slice fa s1.f.len fc) (.slice wa s1.w.len wc)).toArray 134 (0,0)) none;have HFr:=S (λq hq=>HA.1.1.fresh (by omega) q hq);have hown:=(HA.1.1.gb g3 (by intro q hq _ e;cases e;omega)).gb gN (by simp);obtain⟨cs,ho1,ho2⟩:=hown;obtain⟨i0,HI⟩:=iPz Ze;have k1':=k1.gb gN (by simp);have k2':=k2.gb gN (by simp);have HB:=S (X ho1 (X ho2 (X k1' (X k2' (X (h3.gbN gN) (Ag (Z HA.1.2.2 g3) gN))))));have hlen2:a.len<=200000:=by omega
      clear ho1 ho2 k1 k2 k1' k2' g3 gN h3;simp only[sdC];go_wp2_with (at_builtin;go_loud(refine wpList_append_lies _ rfl _ _ 38 rfl w.heap.size 134 i0 _ 10 192 underlying38 HI.1.1 HI.1.2.1 HI.1.2.2.1 HI.1.2.2.2 rfl (by decide) _ _ cs rfl HB.1.1 ⟨w3.heap.size,0,none⟩ 1 1 (sdC s1 (.slice pa s1.p.length pc) (.slice xa s1.x.len xc) (.slice ba c1'.len bc) (.slice na s1.n.len nc) (.slice fa s1.f.len fc) (.slice wa s1.w.len wc)) rfl rfl (AP _ _ _) (by simp[sdC,Value.oneCell']) (by decide) (by unfold maxLen;omega) (by omega) (by simp<;>omega) _ rfl ?_;intro j9 cap w7 hown hgrow hat hlt;(have HE:=S (X (OwnB.snoc HB.1.1 HB.1.2.1 HB.1.2.2.1 HB.1.2.2.2.1 (λq hq _=>HFr.1 q hq) hown hgrow hat) (X (HB.1.2.2.2.2.1.gb hgrow (λq hq=>by have:=(HB.1.1.lt q hq).1;omega)) (EM HB.1.2.2.2.2.2 hgrow (λq hq=>(HB.1.1.lt q hq).1)))));clear hown hgrow hat));go_roundg k
      case measure=>omega
      case rel=>exact⟨_,_,HE.1.1,HE.1.2.1,HE.1.2.2,by rw[Bl.len_app];simp only[Bl.len];omega,HQ.1⟩
  ·have hd:decide ((j:Int)<(l.length:Int))=false:=by simp;omega
   replace HQ:=HQr HQ (by rw[if_neg (nF (show Ft l wordsL j=false by unfold Ft;rw[show decide (j<l.length)=false by simpa using hi];rfl))]);rw[Rd.pure_f]at HQ;have HPp:=S hp;clear hp;go_wp2_with fail;go_quiet(fail);go_wp2;go_ret;refine Post.ok (Aj HW.1.2 _) HQ.1.symm ?_ ?_
   ·exact(HW.1.1.gb (Aj (Aa wr none) _) (by simp)).rep
   ·exact HPp.1.drewN _
def Y5(hn:Al l)(hl:En AE l)(hok:∀i,At (Ab l i))(hgb:4<b):∀n,n<=90000->CQB b tv wo l (Dx hn wordsL AE n).f:=by
 intro n;induction n with
 |zero=>intro _ w i _ _ ho;exact absurd rfl ho
 | succ n ih=>
   intro hnn w i hg h ho;have hB:=ih (by omega);have hE:=MV (b:=b) (tv:=tv) (wv:=wo) (wl:=wordsL) hl n;exact SG (n:=n) (by omega) hok hgb (VD hn (by omega) hB hE hok hl.short hgb) hg h ho
def Ck(fs:Nat->Fo):Nat->Fo
 | 0=> .nil
 |k+1=>(Ck fs k).app (fs k)
def Hk(fs:Nat->Fo)(k:Nat):(Ck fs (k+1)).len=(Ck fs k).len+(fs k).len:=Fo.len_app _ _
def O8(fs:Nat->Fo):∀m k,k<=m->(Ck fs k).len<=(Ck fs m).len:=by
 intro m;induction m with
 | zero => intro k hk; have : k = 0 := by omega
           subst this;exact nR _
 | succ m ih=>
   intro k hk;by_cases h:k=m+1
   ·subst h;exact nR _
   ·have:=ih k (by omega);rw[Hk];omega
def UG(w:World):Calls Tryz.prog 216 #[.slice none 0 0,.int .i64 0] w (ρ w (.slice none 0 0)):=by
 go_enter func216,ntmps216;go_wp2;go_ret;exact⟨rfl,(Aa _ _)⟩
def Za(n:Nat)(hn:n<=1000000)(w:World):Calls Tryz.prog 216 #[.slice none 0 0,.int .i64 n] w λe w'=>∃v,e= .returned v/\w'.ownsRow w.heap.size 163 7 v 0 []/\w.grownBy w' none:=by
 by_cases h:0<n
 ·exact Wm n h hn w
 ·have e:n=0:=by omega
  subst e;refine(UG w).mono ?_;rintro e w' ⟨rfl,g⟩;exact⟨_,rfl,World.ownsRow_nil _ _ _ _,g⟩
def OY(base:Nat)(t ty e:TypeId)(i:TypeInfo)(size c:Nat)(ht:P.underlying t=some (.slice e))(hi:P.info? e=some i)
 (v:Value) (n:Nat) (xs:List Value) (hown:w.ownsRow base e size v n xs):(Builtin.append_ #[t,t] ty #[v,.slice none 0 c]).run P w= .ok v w:=by
 rcases hown.2 with⟨rfl,rfl⟩| ⟨g,cap,cur,rfl,_,_,hnc,_⟩
 ·simp[Builtin.append_,run_underlying ht,sizeOf,typeInfo,hi,Builtin.lenOf,Builtin.firstCells]
 ·simp[Builtin.append_,run_underlying ht,sizeOf,typeInfo,hi,Builtin.lenOf,Builtin.firstCells,hnc,storeCells]
def OV{ops:Array Oper}{rest:List Oper}{o:Oper}{a:Act}{Q:Exit->Act->World->Prop}(hgd:o.guard=none)(s x:Operand)(t:TypeId)
 (ho:o.op= .call {callee:= .builtin .append,args:=#[s,x],argTypes:=#[t,t]})
 (base:Nat) (e:TypeId) (i:TypeInfo) (size c:Nat) (ht:P.underlying t=some (.slice e)) (hi:P.info? e=some i)
 (v:Value) (n:Nat) (xs:List Value) (hs:a.eval s=v) (hown:w.ownsRow base e size v n xs) (hx:a.eval x= .slice none 0 c)
 (h:wpList P ops Q rest (a.put o.dst v) w):wpList P ops Q (o::rest) a w:=by
 refine wpList_plain hgd λK hK=>?_;have hrun:=OY (P:=P) (w:=w) base t o.type e i size c ht hi v n xs hown;unfold Oper.wp;simp[execOp,ho,resolve,invoke,builtin,hs,hx,hrun,Result.andThen];exact hK _ _ h
def Sl{ok:Nat->Prop}(hok:∀q,ok q->q<w.heap.size){R:Nat}{la:Nat->Option Addr}{lc:Nat->Nat}{fs:Nat->Fo}(hc:∀k,k<4->w.cell? ⟨R,k,none⟩=some (.slice (la k) (fs k).len (lc k)))
 (hn:(Ck fs 4).len<=1000000) (hrep:∀k,k<4->RepL ok w (.slice (la k) (fs k).len (lc k)) (fs k)):
 Calls Tryz.prog 166 #[.slice (some ⟨R,0,none⟩) 4 4] w λe w'=>∃v cs,e= .returned v/\w'.ownsRow w.heap.size 163 7 v (Ck fs 4).len cs/\RepF ok w' (Ck fs 4) cs/\w.grownBy w' none:=by
 have HC:=S hc;have HR:=S hrep;have HOK:=S hok;clear hc hrep hok;go_enter func166,ntmps166;go_wp2_with fail;go_loopg [3,11] 4 (λg v3 v11 wr=>∃k:Nat,k+g=4/\v11= .int .i64 k/\v3= .int .i64 (Ck fs k).len/\wr=w)
 case atStart=>exact⟨0,rfl,rfl,rfl,rfl⟩
 case round=>
  obtain⟨k,hg,rfl,rfl,hw⟩:=hrel;have hw':=hw.symm;clear hw;subst hw';by_cases hk:k<4
  ·have c0:=HC.1 k hk;have k0:(0:Int)<=(k:Int):=by omega
   have k1:(k:Int)<4:=by omega
   have hk1:decide (k<4)=true:=by simpa using hk
   have hle:=O8 fs 4 (k+1) (by omega);rw[Hk]at hle;have hw1:IntKind.i64.wrap (((Ck fs k).len:Int)+((fs k).len:Int))=((Ck fs k).len:Int)+((fs k).len:Int):=IntWalk.i64_in _ (by omega);have hneg:decide (((Ck fs k).len:Int)+((fs k).len:Int)<0)=false:=by simp;omega
   have HN:=S (Hk fs k);go_wp2_with fail;go_roundg (3-k)
   case measure=>omega
   case rel=>exact⟨k+1,by omega,by go_num,by rw[HN.1];push_cast;rfl,rfl⟩
  ·have e4:k=4:=by omega
   subst e4;have HGr:=S (fun(W:World)=>Za (Ck fs 4).len hn W);go_wp2_with fail;refine(HGr.1 _).mono ?_;rintro e w1 ⟨v,rfl,hO,g1⟩;have hs1:=g1.size;have HO:=S (X hO g1);clear hO g1 HGr;go_wp2_with fail;go_loopg [6,27] 4 (λg v6 v27 w2=>∃k:Nat,k+g=4/\v27= .int .i64 k/\∃cs,w2.ownsRow w.heap.size 163 7 v6 (Ck fs k).len cs/\RepF ok w2 (Ck fs k) cs/\w.grownBy w2 none)
   case atStart=>exact⟨0,rfl,rfl,[],HO.1.1,rfl,HO.1.2⟩
   case round=>
    obtain⟨k,hg2,rfl,cs,hO,hF,hgr⟩:=hrel;by_cases hk:k<4
    ·have c0:=Ae hgr (HC.1 k hk);have k0:(0:Int)<=(k:Int):=by omega
     have k1:(k:Int)<4:=by omega
     have hk1:decide (k<4)=true:=by simpa using hk
     have hle:=O8 fs 4 (k+1) (by omega);rw[Hk]at hle;have hs2:=hgr.size;obtain⟨ds,hcs,hds⟩:=HR.1 k hk;have hlen:=hds.one;obtain⟨_,_,e,_,_,_,hat⟩:=hcs;cases e;have HD:=S (X hO (X hF (X hgr (X hds (X hlen hat)))));have HP:=S (Hk fs k);clear hO hF hgr hds hlen hat;generalize hla:la k=a at*;cases a with
     | none=>
       have hd0:ds=[]:=by
        cases ds with
        |nil=>rfl
        | cons u r=>
          obtain⟨_,_,e,_⟩:=HD.1.2.2.2.2.2 0 u rfl;cases e
       have hf0:(fs k).len=0:=by have:=HD.1.2.2.2.2.1.1;rw[hd0]at this;simp at this;omega
       have HZ:=S (X hd0 hf0);rw[hf0]at c0;clear hd0 hf0;obtain⟨i0,hi0,hz0,hz1,hz2⟩:=info_parts CJ;have HI:=S hi0;clear hi0 hz0 hz1 hz2;go_wp2_with (at_builtin;have hi0:=HI.1;have hown:=HD.1.1;refine OV rfl _ _ 129 rfl w.heap.size 163 i0 7 _ underlying129 hi0 _ _ _ rfl hown rfl ?_;clear hi0 hown);go_roundg (3-k)
       case measure=>omega
       case rel=>exact⟨k+1,by omega,by go_num,cs,by rw[HP.1,HZ.1.2];exact HD.1.1,by have:=RepF.app HD.1.2.1 (RepF.gb HD.1.2.2.1 (by simp) HD.1.2.2.2.1);rw[HZ.1.1,List.append_nil]at this;exact this,HD.1.2.2.1⟩
     | some a=>
       obtain⟨i0,hi0,hz0,hz1,hz2⟩:=info_parts CJ;have HI:=S (X hi0 (X hz0 (X hz1 hz2)));clear hi0 hz0 hz1 hz2;have hat1:∀j u,ds[j]? =some u->wr.cell? (a.add j)=some u:=by
        intro j u hj;obtain⟨g,o,e,_,hc⟩:=HD.1.2.2.2.2.2 j u hj;cases e;have e:(⟨g,o,none⟩:Addr).add j=⟨g,o+j,none⟩:=by unfold Addr.add;split<;>simp_all
        rw[e];exact Ae HD.1.2.2.1 hc
       have HA:=S hat1;clear hat1;go_wp2_with (at_builtin;obtain⟨hi0,hz0,hz1,hz2⟩:=HI.1;have hown:=HD.1.1;refine GV rfl _ _ 129 rfl w.heap.size 163 i0 _ 7 104 underlying129 hi0 hz0 hz1 hz2 rfl (by decide) _ _ _ rfl hown a (fs k).len (lc k) ds rfl HD.1.2.2.2.2.1.1 HA.1 HD.1.2.2.2.2.1.2 (by unfold maxLen;omega) (by omega) hs2 ?_;intro v' w5 hown5 g5 hn5;clear hi0 hz0 hz1 hz2 hown);have g5':World.grownBy wr w5 u6.ownBlock:=g5;have gW:w.grownBy w5 none:=by
        have hlt:=HD.1.1.lt;have g6:=g5';cases hv:u6.ownBlock with
        |none=>rw[hv]at g6;exact Z HD.1.2.2.1 g6
        |some q=>rw[hv]at g6;exact Aq HD.1.2.2.1 g6 (.inr (hlt q hv).1)
       have HO5:=S (X hown5 (X (RepF.app (RepF.gb g5' (λq hq _ e=>by have:=(HD.1.1.lt q e.symm).1;have h8:=HOK.1 q hq;omega) HD.1.2.1) (RepF.gb gW (by simp) HD.1.2.2.2.1)) gW));clear hown5 gW;go_roundg (3-k)
       case measure=>omega
       case rel=>exact⟨k+1,by omega,by go_num,_,by rw[HP.1];exact HO5.1.1,HO5.1.2.1,HO5.1.2.2⟩
    ·have e4:k=4:=by omega
     subst e4;have HE:=S (X hO (X hF hgr));clear hO hF hgr;go_wp2;go_ret;exact⟨_,cs,rfl,HE.1.1,HE.1.2.1,HE.1.2.2⟩
end Go.Proofs.YtbjfaimkiclhgaaGreatDoor
