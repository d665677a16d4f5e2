/-
  QgF KgO KgS SizeC Twice WrU TxB Code: the program's reader of texts: the line of a unit. Code: Validate, the program's: are the names of parameters names? Code: its lines, the program's: the walk. Cod
-/
import Derived.Test.YtbjfaimkiclhgaaGreatDoorCt12
import Derived.Test.YtbjfaimkiclhgaaGreatDoorCt13
import Derived.Test.YtbjfaimkiclhgaaGreatDoorCt11
import Derived.Lib.MapLaws
import Derived.Maps.Own
import Derived.Test.YtbjfaimkiclhgaaGreatDoorCt09
import Derived.Test.YtbjfaimkiclhgaaGreatDoorCt10
import Derived.Test.YtbjfaimkiclhgaaGreatDoorCt06
import Derived.Test.YtbjfaimkiclhgaaGreatDoorCt04
import Derived.Lib.ItoaMem
import Derived.Test.YtbjfaimkiclhgaaGreatDoorCt07
import Derived.Test.YtbjfaimkiclhgaaGreatDoorCt03
set_option linter.all false
set_option maxRecDepth 100000
set_option maxHeartbeats 8000000
namespace Go.Proofs.YtbjfaimkiclhgaaGreatDoor
open Go.Proofs.Tryz
open Go.RowKit
variable{l:List Tok}{day:Bs->Int}{n i b pc xc nc fc wc bc B cap m k H:Nat}{w w0 w1 W W1:World}{tv v a0 a1 a2 a3:Value}{s nm:Bs}{pa xa na fa wa ba a:Option Addr}{r:Option Nat}{t:TypeId}{xs:List Value}{ok:Nat->Prop}{c:Cd}{fn:Func}{p q:Tmp}{L:List Bs}
def Rd.list_f0(hn:Aj l):(GH hn day n).f i=Dd l (Ai l day n) n i:=rfl
def J6(l:List Tok)(day:Bs->Int)(n:Nat):F9 (Ai l day n):=MA l day n
section
variable {wo:Value}
def Ek{s:StB}{r:Res StB}(hb:b<w.heap.size)(hz:Blk w0 w.heap.size (stC 0 (.slice none 0 0)) 134)(g0:w.grownBy w0 (some b))(g:w0.grownBy w1 (some b))(hv:StV (Al w0.heap.size) w1 v s)(hp:Par w1 b tv wo l wordsL i)(hr:r= .ok s i):
 ∃pa xa ba na fa wa,∃pc xc bc nc fc wc,v= .agg #[.int .i64 s.1.op,str s.1.s,str s.1.t,.slice pa s.1.p.length pc,.slice xa s.1.x.len xc,.slice ba s.2.len bc,.int .i64 s.1.kind,.slice na s.1.n.len nc,.slice fa s.1.f.len fc,.slice wa s.1.w.len wc]/\
  Blk w1 w.heap.size (stC 0 (.slice none 0 0)) 134/\
  Post b tv wo l wordsL w (VSt w) r (.returned v) (set10 w1 w.heap.size (.int .i64 s.1.op) (str s.1.s) (str s.1.t) (.slice pa s.1.p.length pc) (.slice xa s.1.x.len xc) (.slice ba s.2.len bc) (.int .i64 s.1.kind) (.slice na s.1.n.len nc) (.slice fa s.1.f.len fc) (.slice wa s.1.w.len wc))/\
  Blk (set10 w1 w.heap.size (.int .i64 s.1.op) (str s.1.s) (str s.1.t) (.slice pa s.1.p.length pc) (.slice xa s.1.x.len xc) (.slice ba s.2.len bc) (.int .i64 s.1.kind) (.slice na s.1.n.len nc) (.slice fa s.1.f.len fc) (.slice wa s.1.w.len wc)) w.heap.size
   (sdC s.1 (.slice pa s.1.p.length pc) (.slice xa s.1.x.len xc) (.slice ba s.2.len bc) (.slice na s.1.n.len nc) (.slice fa s.1.f.len fc) (.slice wa s.1.w.len wc)) 134:=by
 obtain⟨pa,xa,na,fa,wa,ba,pc,xc,nc,fc,wc,bc,rfl,h1,h2⟩:=hv;have hz1:=hz.gb g (by simp;omega);have hlt:=hz.lt;have g10:=DR w1 w.heap.size (.int .i64 s.1.op) (str s.1.s) (str s.1.t) (.slice pa s.1.p.length pc) (.slice xa s.1.x.len xc) (.slice ba s.2.len bc) (.int .i64 s.1.kind) (.slice na s.1.n.len nc) (.slice fa s.1.f.len fc) (.slice wa s.1.w.len wc);have hne:∀q,Al w0.heap.size q->q<w1.heap.size->some q≠some w.heap.size:=λq hq _ e=>by cases e;have:w0.heap.size<=w.heap.size:=hq;omega
 have hm:∀q,Al w0.heap.size q->Al w.heap.size q:=λq hq=>by have:w0.heap.size<=q:=hq;show w.heap.size<=q;omega
 have h3:=h1.gb g10 hne;refine⟨pa,xa,ba,na,fa,wa,pc,xc,bc,nc,fc,wc,rfl,hz1,Post.ok (Ap (Z g0 g) g10 (.inr (nR _))) hr ?_ (hp.gb g10 (by intro q e;cases e;omega)),hz1.set10 _ _ _ _ _ _ _ _ _ _⟩;exact⟨pa,xa,na,fa,wa,ba,pc,xc,nc,fc,wc,bc,rfl,⟨h3.p.mono λq hq _=>hm q hq,h3.x.mono λq hq _=>hm q hq,h3.n.mono λq hq _=>hm q hq,h3.f.mono λq hq _=>hm q hq,h3.w.mono λq hq _=>hm q hq⟩,RepV.mono' (h2.gb g10 hne) λq hq _=>hm q hq⟩
def YX{block:Rd l Bl}(hn:Aj l)(hnn:n<=100000)(hB:CQB b tv wo l block.f)(hE:CE 208 b tv wo l wordsL (Ai l day n))(hok:∀i,As (Ab l i))(hl:Ay l)(hg:Glob w)(hgb:4<b)(h:Par w b tv wo l wordsL i)(ho:(doP hn wordsL day n block).f i ≠ .out):
 Calls Tryz.prog 325 #[.pointer (some ⟨b,0,none⟩)] w (Post b tv wo l wordsL w (VSt w) ((doP hn wordsL day n block).f i)):=by
 have hb:=h.lt;have HO:=S ho;generalize hR:(doP hn wordsL day n block).f i=R at*;unfold doP at hR;rw[Rd.ifw_f]at hR;have HQ:=S hR;have HBk:=S hB;have HE:=S hE;have HTk:=S hok;have HSh:=S hl;have HGl:=S (X hg hgb);have HZ:=S (X (Blk.new w (stC 0 (.slice none 0 0)) 134) (show w.grownBy (w.alloc (.cells (stC 0 (.slice none 0 0)).toArray 134 (0,0))) (some b)from Ac (Aa _ _) _));have hp:=h.alloc (.cells (stC 0 (.slice none 0 0)).toArray 134 (0,0));clear hB hE hok hl hg hgb h ho hR;go_enter func325,ntmps325;cases hw:Ar l wordsL i==ES with
 | true=>
   go_wp2_with fail;refine(Di hp HTk.1 ES (by decide) hw).mono ?_;rintro e w1 ⟨rfl,hp9,g⟩;replace HZ:=S (X (HZ.1.1.gb g (by simp;omega)) (Z HZ.1.2 g));replace hp:=hp9;clear g hp9;rw[if_pos hw]at HQ;clear hw;rw[Rd.fin_f]at HQ;go_wp2_with fail;refine(Ba hp).mono ?_;intro e w2 hq;obtain⟨g,⟨q,hr,rfl⟩| ⟨u,i2,v,hr,rfl,rfl,hp9⟩⟩:=hq.split
   ·exact⟨rfl,Post.bad (Z HZ.1.2 g) (by rw[<-HQ.1,hr];rfl)⟩
   replace HZ:=S (X (HZ.1.1.gb g (by simp;omega)) (Z HZ.1.2 g));replace hp:=hp9;clear hp9;rw[hr,Res.bind_ok]at HQ;clear hr g;rw[Rd.must_f]at HQ;go_wp2_with fail;refine(BJ hp HTk.1 ES (by decide)).mono ?_;intro e w3 hq;obtain⟨g,⟨q,hr,rfl⟩| ⟨u,i3,v,hr,rfl,rfl,hp9⟩⟩:=hq.split
   ·exact⟨rfl,Post.bad (Z HZ.1.2 g) (by rw[<-HQ.1,hr];rfl)⟩
   replace HZ:=S (X (HZ.1.1.gb g (by simp;omega)) (Z HZ.1.2 g));replace hp:=hp9;clear hp9;rw[hr,Res.bind_ok]at HQ;clear hr g;have hl3:=HZ.1.1.lt;have HC:=S (LI (more:=ES) (other:=JW) (last:=KK) hn hnn HBk.1 HE.1 HTk.1 (BU HGl.1.1 HGl.1.2 HZ.1.2) HGl.1.2 (by decide) (by decide) (by decide) hp (λe=>HO.1 (by rw[<-HQ.1,e])));go_wp2_with fail;refine HC.1.mono ?_;intro e w4 hq;obtain⟨g,⟨q,hr,rfl⟩| ⟨s9,j9,v,hr,rfl,hv,hp9⟩⟩:=hq.split
   ·exact⟨rfl,Post.bad (Z HZ.1.2 g) (by rw[<-HQ.1,hr])⟩
   obtain⟨pa,xa,ba,na,fa,wa,pc,xc,bc,nc,fc,wc,rfl,hz9,hpp,hbk⟩:=Ek hb HZ.1.1 HZ.1.2 g hv hp9 (HQ.1.symm.trans hr);have HE9:=S (X hpp hbk);have hkl9:=hz9.lt;have cz_:=hz9.c10;clear g hv hp9 hz9 hpp hbk hr;go_wp2;refine bZ ?hr9 rfl HE9.1.1
   case hr9=>exact A7 rfl _ HE9.1.2 rfl rfl
 | false=>
   go_wp2_with fail;refine mR (Df hp HTk.1 ES hw) λw1 g=>?_;replace HZ:=S (X (HZ.1.1.gb g (by simp)) (Ag HZ.1.2 g));replace hp:=hp.gbN g;clear g;rw[if_neg (nF hw)]at HQ;clear hw;rw[Rd.ifw_f]at HQ;cases hw:Ar l wordsL i==DZ with
   | true=>
     go_wp2_with fail;refine(Di hp HTk.1 DZ (by decide) hw).mono ?_;rintro e w2 ⟨rfl,hp9,g⟩;replace HZ:=S (X (HZ.1.1.gb g (by simp;omega)) (Z HZ.1.2 g));replace hp:=hp9;clear g hp9;rw[if_pos hw]at HQ;clear hw;rw[Rd.bind_f]at HQ;have hl2:=HZ.1.1.lt;have hs2:=HZ.1.2.size;have HK:=S (KA.start (o:=4) HZ.1.1 HZ.1.2 hb (by omega) []);have hp3:=hp.alloc (.cells #[.int .i64 4,str [],str [],.slice none 0 0,.slice none 0 0,.slice none 0 0,.int .i64 0,.slice none 0 0,.slice none 0 0,.slice none 0 0] 134 (0,0));replace hp:=hp3;clear hp3 HZ;go_wp2_with fail;refine(Kf (a:=(.nil,.nil)) hn HBk.1 HE.1 HGl.1.1 HGl.1.2 HK.1 (by simp[Fo.len]) (by simp[Bl.len]) hp (λe=>HO.1 (by rw[<-HQ.1,e];rfl))).mono ?_;intro e w3 hq;obtain⟨g,⟨q,hr,rfl⟩| ⟨a,i3,v,hr,rfl,⟨rfl,pv9,xv9,bv9,hK9⟩,hp9⟩⟩:=hq.split
     ·exact⟨rfl,Post.bad g (by rw[<-HQ.1,hr];rfl)⟩
     replace HK:=S hK9;replace hp:=hp9;have HA:=S (K3 hr);rw[hr,Res.bind_ok]at HQ;clear hr hK9 hp9 g;rw[Rd.must_f]at HQ;go_wp2_with fail;refine(BJ hp HTk.1 Ll (by decide)).mono ?_;intro e w4 hq;obtain⟨g,⟨q,hr,rfl⟩| ⟨u,i4,v,hr,rfl,rfl,hp9⟩⟩:=hq.split
     ·exact⟨rfl,Post.bad (Z HK.1.gr g) (by rw[<-HQ.1,hr];rfl)⟩
     replace HK:=S (HK.1.gb g);replace hp:=hp9;clear hp9;rw[hr,Res.bind_ok]at HQ;clear hr g;rw[Rd.fin_f]at HQ;go_wp2_with fail;refine(Ba hp).mono ?_;intro e w5 hq;obtain⟨g,⟨q,hr,rfl⟩| ⟨u,i5,v,hr,rfl,rfl,hp9⟩⟩:=hq.split
     ·exact⟨rfl,Post.bad (Z HK.1.gr g) (by rw[<-HQ.1,hr];rfl)⟩
     replace HK:=S (HK.1.gb g);replace hp:=hp9;clear hp9;rw[hr,Res.bind_ok]at HQ;clear hr g;rw[Rd.pure_f]at HQ;replace HK:=S HK.1.toKS;obtain⟨pa9,xa9,ba9,na9,fa9,wa9,pc9,xc9,bc9,nc9,fc9,wc9,e91,e92,e93,e94,e95,e96⟩:=HK.1.shapes
     (first|cases e91|clear e91);(first|cases e92|clear e92);(first|cases e93|clear e93);(first|cases e94|clear e94);(first|cases e95|clear e95);(first|cases e96|clear e96);have hkb:=HK.1.blk;have hkz:=HK.1.zero;have hkl:=hkb.lt;have hkl2:=hkz.lt;have ck_:=hkb.c10;have cz_:=hkz.c10;clear hkb hkz;go_wp2;have hres9:=Cz HK.1 hp HQ.1.symm;have hblk9:=HK.1.out.2.2.1;refine bZ ?hr9 rfl hres9
     case hr9=>exact A7 rfl _ hblk9 rfl rfl
   | false=>
     go_wp2_with fail;refine mR (Df hp HTk.1 DZ hw) λw2 g=>?_;replace HZ:=S (X (HZ.1.1.gb g (by simp)) (Ag HZ.1.2 g));replace hp:=hp.gbN g;clear g;rw[if_neg (nF hw)]at HQ;clear hw;rw[Rd.name_f]at HQ;go_wp2_with fail;refine(B6 hp HSh.1).mono ?_;intro e w3 hq;obtain⟨g,⟨q,hr,rfl⟩| ⟨s,i3,v,hr,rfl,rfl,hp9⟩⟩:=hq.split
     ·exact⟨rfl,Post.bad (Z HZ.1.2 g) (by rw[<-HQ.1,hr];rfl)⟩
     replace HZ:=S (X (HZ.1.1.gb g (by simp;omega)) (Z HZ.1.2 g));replace hp:=hp9;clear hp9;rw[hr,Res.bind_ok]at HQ;clear hr;have hs3:=g.size;have hl3:=HZ.1.1.lt;have HK:=S (KA.start (o:=9) HZ.1.1 HZ.1.2 hb (by omega) s).toKS;have hp3:=hp.alloc (.cells #[.int .i64 9,str s,str [],.slice none 0 0,.slice none 0 0,.slice none 0 0,.int .i64 0,.slice none 0 0,.slice none 0 0,.slice none 0 0] 134 (0,0));replace hp:=hp3;clear g hp3 HZ;rw[Rd.bind_f,Rd.ifw_f]at HQ;have hkl:=HK.1.lt;cases hw:Ar l wordsL i3==GJ
     case' false=>
      go_wp2_with fail;refine mR (Df hp HTk.1 GJ hw) λw4 g=>?_;replace HK:=S (HK.1.gbN g);replace hp:=hp.gbN g;clear g;rw[if_neg (nF hw)]at HQ;clear hw;rw[Rd.pure_f,Res.bind_ok,Rd.fin_f]at HQ;go_wp2_with fail;refine(Ba hp).mono ?_;intro e w5 hq;obtain⟨g,⟨q,hr,rfl⟩| ⟨u,i5,v,hr,rfl,rfl,hp9⟩⟩:=hq.split
      ·exact⟨rfl,Post.bad (Z HK.1.gr g) (by rw[<-HQ.1,hr];rfl)⟩
     case' true=>
      go_wp2_with fail;refine(Di hp HTk.1 GJ (by decide) hw).mono ?_;rintro e w4 ⟨rfl,hp9,g⟩;replace HK:=S (HK.1.gb g);replace hp:=hp9;clear g hp9;rw[if_pos hw]at HQ;clear hw;have hkl:=HK.1.lt;rw[Rd.list_f0]at HQ;go_wp2_with fail;refine(IJ HE.1 (J6 l day n) hp n (λe=>HO.1 (by rw[<-HQ.1,e];rfl))).mono ?_;intro e w5 hq;obtain⟨g,⟨q,hr,rfl⟩| ⟨f,i5,v,hr,rfl,⟨fa,fc,rfl,hF⟩,hp9⟩⟩:=hq.split
      ·exact⟨rfl,Post.bad (Z HK.1.gr g) (by rw[<-HQ.1,hr];rfl)⟩
      replace HK:=S (HK.1.gb g);replace hp:=hp9;clear hp9;rw[hr,Res.bind_ok]at HQ;clear hr;have hkl5:=HK.1.lt;have hwL:=HK.1.wL;have hbw:=HK.1.bw;have hx4:=HK.1.blk.cell' 4 rfl;have hf4:=HK.1.blk.frozen 4;have hK6:=HK.1.putX (hF.mono (λq hq _=>by have h1:w4.heap.size<=q:=hq;exact⟨by omega,by omega⟩));have hp6:=hp.set (L:=w3.heap.size) (by omega) 4 (.slice fa f.len fc);replace HK:=S hK6;replace hp:=hp6;clear hK6 hp6 hF g;rw[Rd.fin_f]at HQ;go_wp2_with fail;refine(Ba hp).mono ?_;intro e w7 hq;obtain⟨g,⟨q,hr,rfl⟩| ⟨u,i7,v,hr,rfl,rfl,hp9⟩⟩:=hq.split
      ·exact⟨rfl,Post.bad (Z HK.1.gr g) (by rw[<-HQ.1,hr];rfl)⟩
     all_goals
      replace HK:=S (HK.1.gb g);replace hp:=hp9;clear hp9;rw[hr,Res.bind_ok]at HQ;clear hr g;rw[Rd.pure_f]at HQ;obtain⟨pa9,xa9,ba9,na9,fa9,wa9,pc9,xc9,bc9,nc9,fc9,wc9,e91,e92,e93,e94,e95,e96⟩:=HK.1.shapes;(first|cases e91|clear e91);(first|cases e92|clear e92);(first|cases e93|clear e93);(first|cases e94|clear e94);(first|cases e95|clear e95);(first|cases e96|clear e96);have hkb:=HK.1.blk;have hkz:=HK.1.zero;have hkl:=hkb.lt;have hkl2:=hkz.lt;have ck_:=hkb.c10;have cz_:=hkz.c10;clear hkb hkz;go_wp2;have hres9:=Cz HK.1 hp HQ.1.symm;have hblk9:=HK.1.out.2.2.1;refine bZ ?hr9 rfl hres9
      case hr9=>exact A7 rfl _ hblk9 rfl rfl
end
def KS.ofV{wr:World}{s:Sd}(hz:Blk wr w.heap.size (stC 0 (.slice none 0 0)) 134)(gr:w.grownBy wr (some b))(hb:b<w.heap.size)(hw0:w.heap.size<w0.heap.size)
 (h1:SdRep (Al w0.heap.size) wr s pa xa na fa wa pc xc nc fc wc) (h2:RepV (Al w0.heap.size) wr true (.slice ba (Bl.nil).len bc) .nil):
 KS b w wr.heap.size (wr.alloc (.cells (sdC s (.slice pa s.p.length pc) (.slice xa s.x.len xc) (.slice ba (Bl.nil).len bc) (.slice na s.n.len nc) (.slice fa s.f.len fc) (.slice wa s.w.len wc)).toArray 134 (0,0))) s .nil (.slice pa s.p.length pc) (.slice xa s.x.len xc) (.slice ba (Bl.nil).len bc) (.slice na s.n.len nc) (.slice fa s.f.len fc) (.slice wa s.w.len wc):=by
 have hlt:=hz.lt;have g1:=gZ wr (.cells (sdC s (.slice pa s.p.length pc) (.slice xa s.x.len xc) (.slice ba (Bl.nil).len bc) (.slice na s.n.len nc) (.slice fa s.f.len fc) (.slice wa s.w.len wc)).toArray 134 (0,0)) none;have hm:∀q,Al w0.heap.size q->q<wr.heap.size->but w wr.heap.size q:=λq hq hl=>by have:w0.heap.size<=q:=hq;exact⟨by omega,by omega⟩
 exact⟨Blk.new _ _ _,(h1.p.mono hm).gb g1 (by simp),(h1.x.mono hm).gb g1 (by simp),(RepV.mono' h2 hm).gb g1 (by simp),(h1.n.mono hm).gb g1 (by simp),(h1.f.mono hm).gb g1 (by simp),(h1.w.mono hm).gb g1 (by simp),Ac gr _,hb,hlt,hz.alloc _⟩
abbrev saidWords:List Bs:=[Gj,FU,Gb,Gc,wIF,wDO,CQ,EU,ET,D3,DG,GC]
def OwnB(w:World)(B:Nat)(v:Value)(a:Bl):Prop:=∃cs,w.ownsRow B 134 10 v a.len cs/\RepT (λq=>B<=q/\v.ownBlock≠some q) w a false cs
def OwnB.gb{a:Bl}(h:OwnB w B v a)(g:w.grownBy w1 r)(hk:∀k,B<=k->k<w.heap.size->some k≠r):OwnB w1 B v a:=by
 obtain⟨cs,h1,h2⟩:=h;exact⟨cs,Cr h1 g hk,h2.gb g λk hk1 hk2=>hk k hk1.1 hk2⟩
def OwnB.rep{a:Bl}(h:OwnB w B v a):RepV (Al B) w false v a:=by
 obtain⟨cs,h1,h2⟩:=h;exact⟨cs,Db h1,h2.mono' λk hk _=>hk.1⟩
def OwnB.fresh{a:Bl}(h:OwnB w B v a)(hB:B<=w.heap.size)(q:Nat)(hq:w.heap.size<=q):B<=q/\v.ownBlock≠some q:=by
 obtain⟨cs,h1,_⟩:=h;exact⟨by omega,λe=>by have:=(h1.lt q e).2;omega⟩
def OwnB.snoc{j:Nat}{a:Bl}{cs:List Value}(h1:w.ownsRow B 134 10 v a.len cs)(h2:RepT (λq=>B<=q/\v.ownBlock≠some q) w a false cs)
 {s:Sd} {c:Bl}   {okx:Nat->Prop} (k1:SdRep okx w s pa xa na fa wa pc xc nc fc wc) (k2:RepV okx w true (.slice ba c.len bc) c) (hok:∀q,okx q->q<w.heap.size->B<=q/\v.ownBlock≠some q)
 (ho:w1.ownsRow B 134 10 (.slice (some ⟨j,0,none⟩) (a.len+1) cap) (a.len+1) (cs++sdC s (.slice pa s.p.length pc) (.slice xa s.x.len xc) (.slice ba c.len bc) (.slice na s.n.len nc) (.slice fa s.f.len fc) (.slice wa s.w.len wc))) (hg:w.grownBy w1 v.ownBlock) (hat:v.ownBlock=some j\/j=w.heap.size):
 OwnB w1 B (.slice (some ⟨j,0,none⟩) (a.len+1) cap) (a.app (.st s c .nil)):=by
 have hlen:(a.app (.st s c .nil)).len=a.len+1:=by rw[Bl.len_app];rfl
 have hfr:∀q,(B<=q/\v.ownBlock≠some q)->q<w.heap.size->(B<=q/\(Value.slice (some ⟨j,0,none⟩) (a.len+1) cap).ownBlock≠some q)/\some q≠v.ownBlock:=λq hq hl=>⟨⟨hq.1,λe=>by(rcases FI hat e with h|h;exact hq.2 h;omega)⟩,λe=>hq.2 e.symm⟩;obtain⟨kcs,c1,c2⟩:=k2;have hT:RepT (λq=>B<=q/\v.ownBlock≠some q) w (a.app (.st s c .nil)) false (cs++sdC s (.slice pa s.p.length pc) (.slice xa s.x.len xc) (.slice ba c.len bc) (.slice na s.n.len nc) (.slice fa s.f.len fc) (.slice wa s.w.len wc)):=
  h2.app ⟨pa,xa,na,fa,wa,ba,pc,xc,nc,fc,wc,bc,kcs,[],by simp,⟨k1.p.mono hok,k1.x.mono hok,k1.n.mono hok,k1.f.mono hok,k1.w.mono hok⟩,c1.mono hok,RepT.mono hok c2,rfl⟩
 exact⟨_,by rw[hlen];exact ho,((RepT.mono hfr hT).gb hg (λq hq _=>hq.2)).mono' λq hq _=>hq.1⟩
section
variable {st:RS}
end
structure Acc1(w:World)(n m:Int)(wr:World):Prop where
 res:Blk wr w.heap.size [.int .i64 0,.int .i64 0] 96
 acc:Blk wr (w.heap.size+1) [.int .i64 n,.int .i64 m] 96
 g:w.grownBy wr none
def Acc1.start(w:World):Acc1 w 0 0 ((w.alloc (.cells #[.int .i64 0,.int .i64 0] 96 (0,0))).alloc (.cells #[.int .i64 0,.int .i64 0] 96 (0,0))):=
 ⟨(Blk.new w [.int .i64 0,.int .i64 0] _).alloc _,(Blk.new _ [.int .i64 0,.int .i64 0] _).of_eq (by simp) rfl,Ac (gZ w _ none) _⟩
open Go.Maps Go.WideMaps Go.ChangeMaps Go.MapKept
def Ih:Keyed Tryz.prog 9:=string_keyed underlying9
def zeroB(w:World):(zeroValue 4).run Tryz.prog w= .ok (.bool false) w:=by kernel_rfl
open Go.Lib
def TX(y m:Int)(h1:1<=m)(h2:m<=12):28<=AT y m:=by
 unfold AT;split
 ·omega
 ·have hm:m=1\/m=2\/m=3\/m=4\/m=5\/m=6\/m=7\/m=8\/m=9\/m=10\/m=11\/m=12:=by omega
  rcases hm with rfl|rfl|rfl|rfl|rfl|rfl|rfl|rfl|rfl|rfl|rfl|rfl<;>decide
def GL(y:Int){a:Nat}(h:a<=b)(hb:b<=12):Au y a<=Au y b:=by
 obtain⟨k,rfl⟩:∃k,b=a+k:=⟨b-a,by omega⟩;clear h;induction k with
 |zero=>exact Int.le_refl _
 | succ k ih=>
   have:=ih (by omega);have h2:=TX y ((a+k:Nat)+1) (by omega) (by omega);show Au y a<=Au y (a+k)+AT y ((a+k:Nat)+1);omega
def I2{a:Int}(h1:1<=a):∀k:Nat,Av a<=Av (a+k):=by
 intro k;induction k with
 |zero=>simp
 | succ k ih=>
   have h2:=JX (a+k) (by omega);have h3:=GL (a+k) (a:=0) (b:=12) (by omega) (by omega);have h4:Au (a+k) 0=0:=rfl;rw[show a+((k+1:Nat):Int)=a+k+1 by omega];omega
def Xf{a b n:Int}(ha:1<=a)(hb:1<=b)(h1:Av a<n)(h2:n<=Av (a+1))(h3:Av b<n)(h4:n<=Av (b+1)):a=b:=by
 by_cases h:a<b
 ·have:=I2 (a:=a+1) (by omega) (b-(a+1)).toNat;rw[show a+1+((b-(a+1)).toNat:Int)=b by omega]at this;omega
 by_cases h':b<a
 ·have:=I2 (a:=b+1) (by omega) (a-(b+1)).toNat;rw[show b+1+((a-(b+1)).toNat:Int)=a by omega]at this;omega
 omega
def TW{y n:Int}{a:Nat}(ha:1<=a)(ha2:a<=12)(hb:1<=b)(hb2:b<=12)(h1:Au y (a-1)<n)(h2:n<=Au y a)(h3:Au y (b-1)<n)(h4:n<=Au y b):a=b:=by
 by_cases h:a<b
 ·have:=GL y (a:=a) (b:=b-1) (by omega) (by omega);omega
 by_cases h':b<a
 ·have:=GL y (a:=b) (b:=a-1) (by omega) (by omega);omega
 omega
def Ju(y:Int)(h:1<=m):Au y m=Au y (m-1)+AT y m:=by
 obtain⟨k,rfl⟩:∃q,m=q+1:=⟨m-1,by omega⟩;show Au y k+AT y ((k:Int)+1)=_;rw[show k+1-1=k by omega];congr 2
def V3{n:Int}{y q:Nat}(hy:1<=y)(hy2:y<=9999)(hm:1<=m)(hm2:m<=12)(hq:1<=q)(hq2:(q:Int)<=AT y m)(h:Av y+Au y (m-1)+q=n):Be n=(y,m,q):=by
 have hb:∀{y m:Nat}{q:Int},1<=y->1<=m->m<=12->1<=q->q<=AT y m->Av y<Av y+Au y (m-1)+q/\Av y+Au y (m-1)+q<=Av ((y:Int)+1):=by
  intro y m q h1 h2 h3 h4 h5;have a1:=GL y (a:=0) (b:=m-1) (by omega) (by omega);have a2:=GL y (a:=m) (b:=12) (by omega) (by omega);have a3:=Ju y h2;have a4:=JX (y:Int) (by omega);have a5:Au (y:Int) 0=0:=rfl;omega
 have h0:=hb hy hm hm2 (show(1:Int)<=(q:Int)by omega) hq2;rw[h]at h0;have hn1:0<n:=by
  have:=I2 (a:=1) (by omega) (y-1);rw[show(1:Int)+((y-1:Nat):Int)=y by omega]at this;have e:Av 1=0:=by decide
  omega
 have hn2:n<=3652059:=by
  have:=I2 (a:=(y:Int)+1) (by omega) (9999-y);rw[show(y:Int)+1+((9999-y:Nat):Int)=10000 by omega]at this;have e:Av 10000=3652059:=by decide
  omega
 obtain⟨a,b,c,d,e,f,g⟩:=Ki hn1 hn2;have h1:=hb a c d (show(1:Int)<=((Be n).2.2:Int)by omega) f;rw[g]at h1;have e1:((Be n).1:Int)=y:=Xf (by omega) (by omega) h1.1 h1.2 h0.1 h0.2;have s1:(Be n).1=y:=by omega
 rw[s1]at g f;have a3:=Ju y hm;have a4:=Ju y c;have e2:(Be n).2.1=m:=TW (y:=y) (n:=n-Av y) c d hm hm2 (by omega) (by omega) (by omega) (by omega);rw[e2]at g;have e3:(Be n).2.2=q:=by omega
 rw[<-s1,<-e2,<-e3]
def wl:OW->Nat
 |none=>0
 |some p=>p.1.length
open Go.Sort
def SH(n:Int)(h0:0<n)(h1:n<=3652059)(w:World):Calls Tryz.prog 300 #[.int .i64 n] w (ρ w (str (Dv n))):=by
 have H:=S (V2 n h0 h1 w);clear h0 h1;go_enter func300,ntmps300;go_wp2_with fail;refine H.1.mono ?_;rintro e w1 ⟨⟨y,m,q,rfl,a1,a2,a3,a4,a5,a6,a7⟩,g1⟩;have hq31:=(Ng (y:=y) (m:=m) (by omega) (by omega)).2;have HD:=S (show Dv n=AU 4 y++AU 2 m++AU 2 q by unfold Dv;rw[V3 a1 a2 a3 a4 a5 a6 a7]);have hn:∀k u:Nat,1<=k->u<10 ^ k->(decDigits u).length<=k:=λk u hk hu=>by rw[decDigits_length];exact JJ k hk hu
 have l1:=ED (k:=4) (u:=y) (by omega) (by omega);have l2:=ED (k:=2) (u:=m) (by omega) (by omega);have l3:=ED (k:=2) (u:=q) (by omega) (by omega);have H1:=S (λW=>JN y 4 (by omega) (hn 4 y (by omega) (by omega)) (by omega) W);have H2:=S (λW=>JN m 2 (by omega) (hn 2 m (by omega) (by omega)) (by omega) W);have H3:=S (λW=>JN q 2 (by omega) (hn 2 q (by omega) (by omega)) (by omega) W);change Hid (∀W,Calls _ _ _ W (ρ W (str (AU 4 y))))at H1;change Hid (∀W,Calls _ _ _ W (ρ W (str (AU 2 m))))at H2;change Hid (∀W,Calls _ _ _ W (ρ W (str (AU 2 q))))at H3;generalize AU 4 y=s1 at*;generalize AU 2 m=s2 at*;generalize AU 2 q=s3 at*;have hc1:¬(9223372036854775807<s1.length+s2.length):=by omega
 have hc2:¬(9223372036854775807<s1.length+s2.length+s3.length):=by omega
 have hc3:¬(9223372036854775807<(s1++s2).length+s3.length):=by rw[lA];omega
 clear a1 a2 a3 a4 a5 a6 a7 hn hq31;go_wp2_with fail;refine mR (H1.1 _) λw2 g2=>?_;go_wp2_with fail;refine mR (H2.1 _) λw3 g3=>?_;go_wp2_with fail;refine mR (H3.1 _) λw4 g4=>?_;have HG:=S (Z (Z (Z g1 g2) g3) g4);clear g1 g2 g3 g4;go_wp2;go_ret;refine⟨?_,HG.1⟩;rw[HD.1,<-Hm,<-ByteArray.mk_append_mk];rfl
def UJ(n:Int)(h0:0<n)(h1:n<=3652059)(w:World):Calls Tryz.prog 271 #[.int .i64 n] w (ρ w (.tuple #[str (Dv n),.int .i64 0])):=by
 have H:=S (λW=>SH n h0 h1 W);have HD:=S (MC n h0 h1 w);have hz:(n==0)=false:=by simp;omega
 go_enter func271,ntmps271;go_wp2_with fail;refine HD.1.mono ?_;rintro e w1 ⟨rfl,rfl⟩;go_wp2_with fail;refine mR (H.1 _) λw2 g2=>?_;go_wp2;exact bZ (v:= .tuple #[str (Dv n),.int .i64 0]) (by simp[results,results271,go_sem]) rfl ⟨rfl,g2⟩
def Kr(s:Bs)(c:UInt8):decide (0<=Lib.indexByte s c)=s.contains c:=by
 induction s with
 |nil=>rfl
 | cons b s ih=>
   rw[List.contains_cons,<-ih];have:=indexByte_ge s c;show decide (0<=(if b==c then(0:Int)else if Lib.indexByte s c == -1 then -1 else Lib.indexByte s c+1))=_;by_cases h:b=c
   ·subst h;simp
   ·rw[if_neg (by simpa using h),show(c==b)=false by simpa using λe=>h e.symm,Bool.false_or,decide_eq_decide];split
    ·rename_i h2;have h3:Lib.indexByte s c= -1:=by simpa using h2
     rw[h3]
    ·rename_i h2;have h3:Lib.indexByte s c ≠ -1:=by simpa using h2
     omega
def Co{b:ByteArray}(h:b.data.toList=s):Value.string b=str s:=by subst h;rfl
section
variable {vk vn:Int}{vs:Bs}
def HdV(vk vn:Int)(vs:Bs):Hd:=⟨0,[],vk,vn,vs,[]⟩
def PM(hp:Pow w)(hc:A8 (HdV vk vn vs)=true)(hl:vs.length<=2000000):
 Calls Tryz.prog 241 #[.agg #[.int .i64 vk,.int .i64 vn,str vs]] w (ρ w (str (Ht wdM (HdV vk vn vs)))):=by
 unfold A8 HdV at hc;unfold Ht HdV;simp only at hc ⊢;by_cases h1:vk=1
 ·subst h1;rw[if_neg (by omega),if_pos rfl]at hc;rw[if_pos rfl];simp at hc;rcases hc.1 with rfl|rfl
  ·rw[if_pos rfl];clear hc;go_enter func241,ntmps241;go_wp2;go_ret;exact⟨rfl,(Ac (Ac (Aa _ _) _) _)⟩
  ·rw[if_neg (by omega)];clear hc;go_enter func241,ntmps241;go_wp2;go_ret;exact⟨rfl,(Ac (Ac (Aa _ _) _) _)⟩
 have c1:(vk==1)=false:=by simpa using h1
 rw[if_neg h1];by_cases h2:vk=2
 ·subst h2;rw[if_neg (by omega),if_neg h1,if_pos rfl]at hc;rw[if_pos rfl];simp at hc;have H:=S (fun(W:World)(g:w.grownBy W none)=>strconv_Itoa vn (by omega) (by omega) W (hp.gb g));show Calls _ _ _ _ λe w'=>e= .returned (str (itoa vn))/\_;clear hc hp h1;go_enter func241,ntmps241;go_wp2_with fail;refine(H.1 _ ?gg).mono ?_
  case gg=>exact(Ac (Aa _ _) _)
  rintro e w1 ⟨rfl,k,os,hw1⟩;have g1:=NT (w.alloc (.cells #[.int .i64 2,.int .i64 vn,str vs] 161 (0,0))) k os;rw[<-hw1]at g1;have HG:=S (Z (gZ w (.cells #[.int .i64 2,.int .i64 vn,str vs] 161 (0,0)) none) g1);clear hw1 g1;go_wp2;go_ret;exact⟨rfl,HG.1⟩
 have c2:(vk==2)=false:=by simpa using h2
 rw[if_neg h2];by_cases h3:vk=3
 ·subst h3;rw[if_neg (by omega),if_neg h1,if_neg h2,if_pos rfl]at hc;rw[if_pos rfl];simp at hc;by_cases hz:vn=0
  ·subst hz;rw[if_pos rfl];clear hc h1 h2;go_enter func241,ntmps241;go_wp2;go_ret;exact⟨rfl,(Ac (Aa _ _) _)⟩
  ·rw[if_neg hz];have hzI:(vn==0)=false:=by simpa using hz
   have H:=S (λW=>UJ vn (by omega) (by omega) W);have hl8:=MW (n:=vn) (by omega) (by omega);show Calls _ _ _ _ λe w'=>e= .returned (str (IB (Dv vn)))/\_;generalize Dv vn=s at*;match s,hl8 with
   | [a0,a1,a2,a3,a4,a5,a6,a7],_=>
     clear hc hz h1 h2 hp;go_enter func241,ntmps241;go_wp2_with fail;refine mR (H.1 _) λw1 g1=>?_;have HG:=S (Z (gZ w (.cells #[.int .i64 3,.int .i64 vn,str vs] 161 (0,0)) none) g1);clear g1;go_wp2_with fail;go_quiet(fail);go_wp2;go_ret;exact⟨congrArg Ending.returned (Co (by rfl)),An HG.1 _⟩
 have c3:(vk==3)=false:=by simpa using h3
 rw[if_neg h3];by_cases h4:vk=4
 ·subst h4;rw[if_pos rfl];have H:=S (λW=>strings_Contains_one ⟨vs.toArray⟩ 34 W);have hix:=Kr vs 34;have hcl1:¬(9223372036854775807<1+vs.length):=by omega
  have hcl2:¬(9223372036854775807<1+vs.length+1):=by omega
  clear hc h1 h2 h3 hp;cases hb:vs.contains 34
  case' true=>
   rw[if_pos rfl]
  case' false=>
   rw[if_neg (by simp)]
  all_goals
   have HB:=S (hix.trans hb);clear hix hb;go_enter func241,ntmps241;go_wp2_with fail;refine(H.1 _).mono ?_;rintro e w1 ⟨rfl,rfl⟩;rw[HB.1];go_wp2;go_ret;exact⟨congrArg Ending.returned (Co (by simp[ByteArray.data_append])),(Ac (Aa _ _) _)⟩
 have c4:(vk==4)=false:=by simpa using h4
 rw[if_neg h4];clear hc h1 h2 h3 h4 hp;go_enter func241,ntmps241;go_wp2;go_ret;exact⟨rfl,(Ac (Aa _ _) _)⟩
end
def VX(s:Bs)(c:UInt8):(Lib.lastIndexByte ⟨s.toArray⟩ c.toNat= -1/\∀j,j<s.length->bAt s j≠c)\/
 (∃i:Nat,i<s.length/\Lib.lastIndexByte ⟨s.toArray⟩ c.toNat=i/\bAt s i=c/\∀j,i<j->j<s.length->bAt s j≠c):=by
 have hz:(⟨s.toArray⟩:ByteArray).size=s.length:=by simp[ByteArray.size]
 have he:∀j,j<s.length->(⟨s.toArray⟩:ByteArray).data[j]! =bAt s j:=by
  intro j hj;rw[CC hj];simp[hj]
 rcases Lib.lastIndexByte_spec ⟨s.toArray⟩ c.toNat with⟨h1,h2⟩| ⟨i,h1,h2,h3,h4⟩
 ·left;rw[hz]at h2;refine⟨h1,λj hj e=>h2 j hj ?_⟩;rw[he j hj,e]
 ·right;rw[hz]at h1 h4;rw[he i h1]at h3;refine⟨i,h1,h2,UInt8.toNat_inj.1 (by omega),λj hj hl e=>h4 j hj hl ?_⟩;rw[he j hl,e]
def WJ(l:List Int):∀x∈l.flatMap A1,x≠34:=by
 intro x hx;obtain⟨n,_,hn⟩:=List.mem_flatMap.1 hx;rw[A1]at hn;rcases List.mem_cons.1 hn with h|h
 ·rw[h];decide
 ·have:=E7 n;rw[List.all_eq_true]at this;have:=this x h;intro e;rw[e]at this;exact absurd this (by decide)
def WF(m:Bs):∃q,qtM m=q++[34]:=⟨34::m.flatMap qtB,by rw[Eh];simp⟩
def Wg{r m:Bs}(h:s=qtM m++r)(hr:∀x∈r,x≠34)(hi:i<s.length)(h1:bAt s i=34)(h2:∀j,i<j->j<s.length->bAt s j≠34):s.take (i+1)=qtM m/\s.drop (i+1)=r:=by
 obtain⟨q,hq⟩:=WF m;have hl:(qtM m).length=q.length+1:=by rw[hq];simp
 have hq34:bAt s q.length=34:=by
  rw[h,hq];simp[bAt]
 have hlen:s.length=q.length+1+r.length:=by rw[h,lA,hl]
 have e:i=q.length:=by
  rcases Nat.lt_trichotomy i q.length with h3|h3|h3
  ·exact absurd hq34 (h2 _ h3 (by omega))
  ·exact h3
  ·exfalso;have h4:bAt s i=bAt r (i-(q.length+1)):=by
    unfold bAt;rw[h,List.getElem?_append_right (by omega),hl]
   have h5:i-(q.length+1)<r.length:=by omega
   rw[h4,CC h5]at h1;exact hr _ (List.getElem_mem h5) h1
 subst e;rw[h];have:q.length+1=(qtM m).length:=hl.symm;rw[this];simp
def TY{r m:Bs}(h:s=qtM m++r):¬∀j,j<s.length->bAt s j≠34:=by
 intro hn;refine hn 0 ?_ ?_
 ·rw[h,Eh];simp
 ·rw[h,Eh];rfl
def S8(l:List Int):Lib.split (l.flatMap A1) [32]=[]::l.map itoa:=by
 have hn:∀n:Int,(32:UInt8) ∉ itoa n:=by
  intro n h;have:=E7 n;rw[List.all_eq_true]at this;exact absurd (this _ h) (by decide)
 have hg:∀(l:List Int)(n:Int),Lib.split (itoa n++l.flatMap A1) [32]=itoa n::l.map itoa:=by
  intro l;induction l with
  |nil=>intro n;rw[List.flatMap_nil,List.append_nil,F_S _ _ (hn n)];rfl
  | cons m l ih=>
    intro n;rw[fC,A1,List.cons_append,GV _ _ _ (hn n),ih m];rfl
 cases l with
 |nil=>rw[List.flatMap_nil,F_S _ _ (by simp)];rfl
 | cons n l=>
   rw[fC,A1,List.cons_append];have:=GV 32 [] (itoa n++l.flatMap A1) (by simp);rw[List.nil_append]at this;rw[this,hg l n];rfl
def MU(c:UInt8)(s:Bs):(Lib.split s [c]).length<=s.length+1:=by
 have h:=congrArg List.length (I1 c _ s (nR _));have:∀L:List Bs,L.length<=(L.flatMap (· ++[c])).length:=by
  intro L;induction L with
  |nil=>simp
  |cons a L ih=>rw[fC];simp only[lA,List.length_cons,List.length_nil];omega
 have h2:=this (Lib.split s [c]);rw[h]at h2;simpa using h2
def LO(c:UInt8)(s:Bs){l:Bs}(h:l∈Lib.split s [c]):l.length<=s.length:=by
 have h1:=congrArg List.length (I1 c _ s (nR _));have:∀L:List Bs,l∈L->l.length+1<=(L.flatMap (· ++[c])).length:=by
  intro L;induction L with
  |nil=>intro h;cases h
  | cons a L ih=>
    intro h;rw[fC,lA,lA];rcases List.mem_cons.1 h with rfl|h
    ·simp
    ·have:=ih h;omega
 have h2:=this _ h;rw[h1]at h2;simp at h2;omega
def Mx(w:World):Prop:=∃m,w.cell? ⟨0,0,none⟩=some (.int .i64 m)
def Mx.gb(h:Mx w)(g:w.grownBy w1 none):Mx w1:=by
 obtain⟨m,h⟩:=h;exact⟨m,Ad g h⟩
def Iz(s:Bs)(hs:s.length<=1048576)(c:UInt8)(hm:Mx w):
 Calls Tryz.prog 41 #[str s,str [c]] w λe w'=>e= .returned (.slice (some ⟨w.heap.size,0,none⟩) (Lib.split s [c]).length (Lib.split s [c]).length)/\w'=w.alloc (.cells ((Lib.split s [c]).map str).toArray 9 (0,0)):=by
 obtain⟨m,hm⟩:=hm;obtain⟨h1,h2⟩:=SE c s;refine(strings_Split ⟨s.toArray⟩ ⟨#[c]⟩ m w (by simp[ByteArray.size];omega) hm (by simp[ByteArray.size])).mono ?_;rintro e w' ⟨rfl,rfl⟩;rw[h1,h2];exact⟨rfl,rfl⟩
def IS{g:Nat}{t2:TypeId}{o:Array Value}(h:w.ownsRow B t k v n xs)(hg:w.heap[g]? =some (.cells o t2 (0,0)))(ht:t≠t2):v.ownBlock≠some g:=by
 intro e;rcases h.2 with⟨rfl,_⟩| ⟨q,cap,cur,rfl,_,hq,_⟩
 ·simp[Value.ownBlock]at e
 ·simp only[Value.ownBlock,Option.some.injEq]at e;subst e;rw[hq]at hg;simp only[Option.some.injEq,Obj.cells.injEq]at hg;exact ht hg.2.1
def Ui{B':Nat}(h:w.ownsRow B t k v n xs)(hb:B'<=B):w.ownsRow B' t k v n xs:=by
 refine⟨h.1,?_⟩;rcases h.2 with h2| ⟨q,cap,cur,e,hq,hrest⟩
 ·exact .inl h2
 ·exact .inr ⟨q,cap,cur,e,nT hb hq,hrest⟩
def BF(h:w.ownsRow B t k v n xs)(g:w.grownBy w1 r)(hr:∀q,r=some q->v.ownBlock≠some q):w1.ownsRow B t k v n xs:=by
 refine h.kept g ?_;cases hv:v.ownBlock with
 |none=>exact .inl rfl
 |some q=>exact .inr (λe=>hr q e.symm hv)
def Fk(h:w.ownsRow B t k v n xs):∀q,v.ownBlock=some q->B<=q:=λq e=>(h.lt q e).1
theorem NS{c:UInt8}{x:Bs}:∀{l:List Bs},x∈l->x.length+1<=(l.flatMap (· ++[c])).length
 | y::r,h=>by
   rw[fC,lA]
   rcases List.mem_cons.1 h with rfl|h
   ·simp
   ·have:=NS (c:=c) h;omega
def Xq{c:UInt8}{x:Bs}(h:x∈Lib.split s [c]):x.length<=s.length:=by
 have h1:=NS (c:=c) h;rw[I1 c s.length s (nR _)]at h1;simp at h1;exact h1
def F6(s:Bs):Bool:= !Aw s
def Ua(s:Bs)(hs:s.length<=4000000)(w:World):Calls Tryz.prog 81 #[str s] w (ρ w (.bool (F6 s))):=by
 have HN:=S (Fa s w hs);clear hs;go_enter func81,ntmps81;go_wp2_with fail;refine mR HN.1 λw1 g1=>?_;go_wp2;go_ret;exact⟨rfl,g1⟩
def Hk(l:List Bs)(k:Nat):Bool:=(l.take k).any F6
def Pw{l:List Bs}(h:Cells w (.slice a l.length cap) 1 l.length (l.map str) ok)(hl:∀s∈l,s.length<=4000000):
 Calls Tryz.prog 112 #[.slice a l.length cap,.func (.func 81) #[] #[]] w λe w'=>∃i:Int,e= .returned (.int .i64 i)/\decide (0<=i)=l.any F6/\w.grownBy w' none:=by
 have hln:l.length<=9223372036854775807:=by obtain⟨_,_,e,h3,h4,_⟩:=h;cases e;unfold maxLen at h4;omega
 have HC:=S (X h hl);clear h hl;go_enter func112,ntmps112;go_wp2_with fail;go_loopg [5,8] l.length (λg v5 v8 wr=>∃k:Nat,k+g=l.length/\v8= .int .i64 k/\Hk l k=false/\w.grownBy wr none)
 case atStart=>exact⟨0,by omega,rfl,rfl,Aa _ _⟩
 case round=>
  obtain⟨k,hk,rfl,hq,hg⟩:=hrel;cases gk with
  | zero=>
    have hk1:k=l.length:=by omega
    have hj1:decide (k<l.length)=false:=by simp;omega
    subst hk1;have HX:=S (X hg hq);clear hg hq;go_wp2;go_ret;exact⟨-1,rfl,by have h:=HX.1.2;rw[Hk,List.take_length]at h;rw[h];rfl,HX.1.1⟩
  | succ gk=>
    have hkl:k<l.length:=by omega
    have hj1:decide (k<l.length)=true:=by simpa using hkl
    obtain⟨c,hc⟩:∃c,l[k]? =some c:=⟨_,AQ hkl⟩;obtain⟨g,o,rfl,c0⟩:=(Cells.at1 HC.1.1).2 k hkl;have hcd:l.getD k []=c:=by rw[List.getD_eq_getElem?_getD,hc];rfl
    rw[hcd]at c0;have d0:=Ad hg c0;have HX:=S (X hg (X hq hc));have HK:=S (λW=>Ua c (HC.1.2 c (List.mem_of_getElem? hc)) W);clear hg hq hc c0 hcd;go_wp2_with fail;refine mR (HK.1 _) λw2 g2=>?_;have H2:=S (Z HX.1.1 g2);clear g2;cases hlc:F6 c with
    | true=>
      have HT:=S (show l.any F6=true from List.any_eq_true.2 ⟨c,List.mem_of_getElem? HX.1.2.2,hlc⟩);go_wp2;go_ret;exact⟨_,rfl,by rw[HT.1];simp,H2.1⟩
    | false=>
      have HT:=S (show Hk l (k+1)=false by
       rw[Hk,List.take_add_one,HX.1.2.2,List.any_append];have h:=HX.1.2.1;rw[Hk]at h;rw[h];simp[hlc])
      go_wp2;go_roundg gk
      case measure=>omega
      case rel=>exact⟨k+1,by omega,by go_num,HT.1,H2.1⟩
def OE{l:List Bs}(h:Cells w (.slice a l.length cap) 1 l.length (l.map str) ok)(hl:∀s∈l,s.length<=4000000):
 Calls Tryz.prog 80 #[.slice a l.length cap,.func (.func 81) #[] #[]] w (ρ w (.bool (l.any F6))):=by
 have HI:=S (Pw h hl);clear h hl;go_enter func80,ntmps80;go_wp2_with fail;refine HI.1.mono ?_;rintro e w1 ⟨i,rfl,hi,g1⟩;go_wp2;go_ret;exact⟨rfl,g1⟩
def KT:58≠5:=by decide
def XT(h:(W.cell? ⟨H,0,none⟩=some (.int .i64 c.op)/\W.cell? ⟨H,1,none⟩=some (.int .i64 c.a)/\W.cell? ⟨H,2,none⟩=some (.int .i64 c.b)/\W.cell? ⟨H,3,none⟩=some (str c.s))/\w0.grownBy W none)(g:W.grownBy W1 none):
 (W1.cell? ⟨H,0,none⟩=some (.int .i64 c.op)/\W1.cell? ⟨H,1,none⟩=some (.int .i64 c.a)/\W1.cell? ⟨H,2,none⟩=some (.int .i64 c.b)/\W1.cell? ⟨H,3,none⟩=some (str c.s))/\w0.grownBy W1 none:=
 ⟨⟨Ad g h.1.1,Ad g h.1.2.1,Ad g h.1.2.2.1,Ad g h.1.2.2.2⟩,Z h.2 g⟩
def IZ{x:Value}(f:FRb W W1 b v)(c:W.cell? ⟨H,i,none⟩=some x)(hb:H≠b)(hv:v.ownBlock≠some H):W1.cell? ⟨H,i,none⟩=some x:=
 (World.cell?_of_block (f.block H (bY W _ c) hb hv)).trans c
def XS(h:(W.cell? ⟨H,0,none⟩=some (.int .i64 c.op)/\W.cell? ⟨H,1,none⟩=some (.int .i64 c.a)/\W.cell? ⟨H,2,none⟩=some (.int .i64 c.b)/\W.cell? ⟨H,3,none⟩=some (str c.s))/\w0.grownBy W none)(f:FRb W W1 b v)(hb:H≠b)(hv:v.ownBlock≠some H)(ho:∀k,v.ownBlock=some k->b<k)(h0:w0.heap.size<=b):
 (W1.cell? ⟨H,0,none⟩=some (.int .i64 c.op)/\W1.cell? ⟨H,1,none⟩=some (.int .i64 c.a)/\W1.cell? ⟨H,2,none⟩=some (.int .i64 c.b)/\W1.cell? ⟨H,3,none⟩=some (str c.s))/\w0.grownBy W1 none:=
 ⟨⟨IZ f h.1.1 hb hv,IZ f h.1.2.1 hb hv,IZ f h.1.2.2.1 hb hv,IZ f h.1.2.2.2 hb hv⟩,f.below ho h0 rfl h.2⟩
def Kt{A:Prop}{n:Int}(h:A/\w0.grownBy W none)(hp:Pow w0)(hn:Bb n):Calls Tryz.prog 32 #[.int .i64 n] W (ρ W (str (Lib.itoa n))):=FQ (hp.gb h.2) n hn.1 hn.2
def MF{us:List Un}(h:VU ok w v us)(hb:AF us<=100000000)(hw:AN us)(hp:Pow w):
 Calls Tryz.prog 19 #[v] w (ρ w (str (AP us))):=by
 obtain⟨a,cap,rfl,hle,hmx,hat⟩:=h.open;have hlen:us.length<=100000000:=by unfold AF at hb;omega
 have HA:=S hat;have HP:=S (X hp (X hw hb));have H0:=S (X (Bld.new w) (gZ w (.cells [.pointer none,.slice none 0 0].toArray 86 (0,0)) none));clear hat hle hmx h hw hb hp;go_enter func19,ntmps19;go_wp2_with fail;go_loopg [5,7,9,12] us.length (λg v5 v7 v9 v12 wr=>∃k:Nat,∃p v:Value,k+g=us.length/\v12= .int .i64 k/\Bld wr w.heap.size p v (A4 AZ us k)/\w.grownBy wr none)
 case atStart=>exact⟨0,_,_,by omega,rfl,H0.1.1,H0.1.2⟩
 case round=>
  obtain⟨k,p,v,hk,rfl,hB,hG⟩:=hrel;clear H0;cases gk with
  | zero=>
    have hkl:k=us.length:=by omega
    have hj1:decide (k<us.length)=false:=by simp;omega
    subst hkl;have HB:=S (X hB hG);clear hB hG;go_wp2_with fail;refine mR (SI HB.1.1) λw3 g3=>?_;have HD:=S (g3 _ HB.1.2 (nR _));clear g3;go_wp2;go_ret;exact⟨rfl,HD.1⟩
  | succ gk=>
    have hkl:k<us.length:=by omega
    have hj1:decide (k<us.length)=true:=by simp;omega
    obtain⟨u,hu⟩:∃u,us[k]? =some u:=⟨_,AQ hkl⟩;obtain⟨g,o,ra,rc,ca,cc,rfl,_,hgl,c0,c1,c2,hrow,hcode⟩:=HA.1 k u hu;have d0:=Ad hG c0;have d1:=Ad hG c1;have d2:=Ad hG c2;have hL:=Ip HP.1.2.1 k (by omega);have hbb:=HP.1.2.2;have hwu:=HP.1.2.1 u (FJ hu);have huw:=O5 hu;have hwd:wtU u=u.name.length+u.row.length+pfx wtC u.code u.code.length:=rfl;have hnl:u.name.length<=100000000:=by omega
    have hrl:u.row.length<=100000000:=by omega
    have hql:=GA u.name;have hql2:(qtM u.name).length<=300000002:=by omega
    have hcl1:¬(9223372036854775807<5+(qtM u.name).length):=by omega
    have hcdl:u.code.length<=100000000:=by
     have h4:=CT wtC u.code (nR u.code.length);have h5:∀j,j<=u.code.length->j<=pfx wtC u.code j:=by
      intro j;induction j with
      |zero=>intro _;exact nZ _
      |succ j ih=>intro hj;rw[C5 (AQ hj)];have:=ih (by omega);have h6:wtC u.code[j]=3+u.code[j].s.length:=rfl;omega
     have:=h5 _ (nR _);omega
    have HL:=S (X hL (X hbb (X hwu (X huw hwd))));clear hL hbb hwu huw hwd hql c0 c1 c2;have gA:w.grownBy (wr.alloc (.cells [str u.name,.slice ra u.row.length rc,.slice ca u.code.length cc].toArray 58 (0,0))) none:=Ac hG _;have HX:=S (X (Blk.new wr [str u.name,.slice ra u.row.length rc,.slice ca u.code.length cc] 58) (X gA (X (hB.gbN (gZ wr (.cells [str u.name,.slice ra u.row.length rc,.slice ca u.code.length cc].toArray 58 (0,0)) none)) (X hrow hcode))));have hgs:=hB.lt;have HU:=S hu;clear hB hG gA hrow hcode;go_wp2_with fail;refine mR (JQ u.name (by omega) _) λw2 g2=>?_;have HY:=S (X (HX.1.1.gb g2 (by simp)) (X (Z HX.1.2.1 g2) (HX.1.2.2.1.gbN g2)));clear g2;go_wp2_with fail;refine(Il HY.1.2.2 (BK u) ?_).mono ?_
    ·have:=HL.1.1;have:=HL.1.2.1;simp only[BK,lA,List.length_cons,List.length_nil];omega
    rintro e w3 ⟨rfl,p3,v3,hB3,hF3⟩;obtain⟨hX3,hG3⟩:=HY.1.2.2.stepB hF3 HY.1.1 KT (by omega) HY.1.2.1 (nR _);have e1:=hX3.cell' 1 rfl;have HZ:=S (X hB3 (X hX3 hG3));clear hB3 hF3 hX3 hG3;have HR:=S (X HX.1.2.2.2.1 HX.1.2.2.2.2);go_wp2_with fail;go_loopg [7,24] u.row.length (λg v7 v24 w2=>∃j:Nat,∃p v:Value,j+g=u.row.length/\v24= .int .i64 j/\Bld w2 w.heap.size p v (A4 AZ us k++BK u++A4 A1 u.row j)/\Blk w2 wr.heap.size [str u.name,.slice ra u.row.length rc,.slice ca u.code.length cc] 58/\w.grownBy w2 none)
    case atStart=>exact⟨0,_,_,by omega,rfl,by simpa[A4]using HZ.1.1,HZ.1.2.1,HZ.1.2.2⟩
    case round=>
     obtain⟨j,p4,v4,hj,rfl,hB4,hX4,hG4⟩:=hrel;clear HY HZ HX;by_cases hjl:j<u.row.length
     ·have hjI:decide (j<u.row.length)=true:=by simpa using hjl
      obtain⟨x,hx⟩:∃x,u.row[j]? =some x:=⟨_,AQ hjl⟩;obtain⟨gr,orr,rfl,_,_,t0⟩:=HR.1.1.int hx;have f0:=Ad hG4 t0;have hx64:=HL.1.2.2.1.1 x (FJ hx);have hi21:=Dk hx64;have hcl2:¬(9223372036854775807<1+(Lib.itoa x).length):=by omega
      have HJ:=S (X hB4 (X hX4 (X hG4 (X hx64 (Gr (f:=A1) hx)))));clear t0 hB4 hX4 hG4 hx64;go_wp2_with fail;refine mR (FQ (HP.1.1.gb HJ.1.2.2.1) x HJ.1.2.2.2.1.1 HJ.1.2.2.2.1.2) λw5 g5=>?_;have HK:=S (X (HJ.1.1.gbN g5) (X (HJ.1.2.1.gb g5 (by simp)) (Z HJ.1.2.2.1 g5)));clear g5;go_wp2_with fail;refine(Il HK.1.1 (A1 x) ?_).mono ?_
      ·have h1:=HL.1.1;have h2:=HL.1.2.1;have h3:=E9 HL.1.2.2.1 j (by omega);have h4:=DS u;simp only[A1,lA,List.length_cons];omega
      rintro e w6 ⟨rfl,p6,v6,hB6,hF6⟩;obtain⟨hX6,hG6⟩:=HK.1.1.stepB hF6 HK.1.2.1 KT (by omega) HK.1.2.2 (nR _);have HM:=S (X hB6 (X hX6 hG6));clear hB6 hF6 hX6 hG6;go_wp2;go_roundg (u.row.length-(j+1))
      case measure=>omega
      case rel=>exact⟨j+1,p6,v6,by omega,by go_num,by rw[HJ.1.2.2.2.2,<-List.append_assoc];exact HM.1.1,HM.1.2.1,HM.1.2.2⟩
     ·have hjI:decide (j<u.row.length)=false:=by simpa using hjl
      have hje:j=u.row.length:=by omega
      subst hje;have HJ:=S (X hB4 (X hX4 hG4));clear hB4 hX4 hG4;go_wp2_with fail;refine(Ij HJ.1.1 ?_ 10).mono ?_
      ·have h1:=HL.1.1;have h2:=HL.1.2.1;have h3:=E9 HL.1.2.2.1 u.row.length (nR _);have h4:=DS u;simp only[lA];omega
      rintro e w5 ⟨rfl,p5,v5,hB5,hF5⟩;obtain⟨hX5,hG5⟩:=HJ.1.1.stepB hF5 HJ.1.2.1 KT (by omega) HJ.1.2.2 (nR _);have e2:=hX5.cell' 2 rfl;have HK:=S (X hB5 hG5);clear hB5 hF5 hX5 hG5;go_wp2_with fail;go_loopg [9,37] u.code.length (λg v9 v37 w3=>∃i:Nat,∃p v:Value,i+g=u.code.length/\v37= .int .i64 i/\Bld w3 w.heap.size p v (A4 AZ us k++BK u++A4 A1 u.row u.row.length++[10]++A4 Bc u.code i)/\w.grownBy w3 none)
      case atStart=>exact⟨0,_,_,by omega,rfl,by simpa[A4]using HK.1.1,HK.1.2⟩
      case round=>
       obtain⟨i,p6,v6,hi,rfl,hB6,hG6⟩:=hrel;clear HK HJ;by_cases hil:i<u.code.length
       ·have hiI:decide (i<u.code.length)=true:=by simpa using hil
        obtain⟨c,hc⟩:∃c,u.code[i]? =some c:=⟨_,AQ hil⟩;obtain⟨gc,oc,rfl,_,_,t0,t1,t2,t3⟩:=HR.1.2.cd hc;have f0:=Ad hG6 t0;have f1:=Ad hG6 t1;have f2:=Ad hG6 t2;have f3:=Ad hG6 t3;have hwc:=HL.1.2.2.1.2 c (FJ hc);have ho1:=Dk hwc.1;have ho2:=Dk hwc.2.1;have ho3:=Dk hwc.2.2;have hcw:=O4 hc;have hcw2:wtC c=3+c.s.length:=rfl;have hsl:c.s.length<=100000000:=by have h1:=HL.1.2.1;have h2:=HL.1.2.2.2.1;omega
        have hq1:=GA c.s;have hcl2:¬(9223372036854775807<(Lib.itoa c.op).length+1):=by omega
        have hcl3:¬(9223372036854775807<(Lib.itoa c.op).length+1+(Lib.itoa c.a).length):=by omega
        have hcl4:¬(9223372036854775807<(Lib.itoa c.op).length+1+(Lib.itoa c.a).length+1):=by omega
        have hcl5:¬(9223372036854775807<(Lib.itoa c.op).length+1+(Lib.itoa c.a).length+1+(Lib.itoa c.b).length):=by omega
        have hcl6:¬(9223372036854775807<(Lib.itoa c.op).length+1+(Lib.itoa c.a).length+1+(Lib.itoa c.b).length+1):=by omega
        have hcl7:¬(9223372036854775807<(Lib.itoa c.op).length+1+(Lib.itoa c.a).length+1+(Lib.itoa c.b).length+1+(qtM c.s).length):=by omega
        have hcl8:¬(9223372036854775807<(Lib.itoa c.op).length+1+(Lib.itoa c.a).length+1+(Lib.itoa c.b).length+1+(qtM c.s).length+1):=by omega
        have HT:=S (show(A4 AZ us k++BK u++A4 A1 u.row u.row.length++[10]++A4 Bc u.code i).length+(Bc c).length<=100000000000 from by
         have h1:=HL.1.1;have h2:=HL.1.2.1;have h3:=E9 HL.1.2.2.1 u.row.length (nR _);have h4:=DS u;have h5:=Km HL.1.2.2.1 i (by omega);have h6:=Kl hwc;have h7:=HL.1.2.2.2.1;have h8:=HL.1.2.2.2.2;simp only[lA,List.length_cons,List.length_nil];omega)
        have hlt:=hB6.lt;have b4:=Blk.new wr (cdC c) 61;have gA:wr.grownBy (wr.alloc (.cells (cdC c).toArray 61 (0,0))).drew none:=Ae (gZ _ _ none);have HX:=S (show(λW=>(W.cell? ⟨wr.heap.size,0,none⟩=some (.int .i64 c.op)/\W.cell? ⟨wr.heap.size,1,none⟩=some (.int .i64 c.a)/\W.cell? ⟨wr.heap.size,2,none⟩=some (.int .i64 c.b)/\W.cell? ⟨wr.heap.size,3,none⟩=some (str c.s))/\w.grownBy W none) (wr.alloc (.cells (cdC c).toArray 61 (0,0))).drew from⟨⟨b4.cell 0,b4.cell 1,b4.cell 2,b4.cell 3⟩,Z hG6 gA⟩);have HB:=S (X hB6 (X gA (X (Gr (f:=Bc) hc) (show v6.ownBlock≠some wr.heap.size from λe=>by have:=(hB6.own _ e).2;omega))));have HW:=S hwc;clear hB6 hG6 b4 gA hwc ho1 ho2 ho3 hcw hcw2 hq1 hql2 hcl1;go_wp2_with fail;go_region_held3 (λW=>(W.cell? ⟨wr.heap.size,0,none⟩=some (.int .i64 c.op)/\W.cell? ⟨wr.heap.size,1,none⟩=some (.int .i64 c.a)/\W.cell? ⟨wr.heap.size,2,none⟩=some (.int .i64 c.b)/\W.cell? ⟨wr.heap.size,3,none⟩=some (str c.s))/\w.grownBy W none)
         (first|exact HX.1|exact XT (by assumption) g5|exact XS (by assumption) hF5 (by omega) HB.1.2.2.2 (λq e=>(HB.1.1.own q e).1) (nR _))
         (first| (go_at_call 32;refine(Kt (by assumption) HP.1.1 HW.1.1).mono ?_;rintro e w5 ⟨rfl,g5⟩)| (go_at_call 32;refine(Kt (by assumption) HP.1.1 HW.1.2.1).mono ?_;rintro e w5 ⟨rfl,g5⟩)| (go_at_call 32;refine(Kt (by assumption) HP.1.1 HW.1.2.2).mono ?_;rintro e w5 ⟨rfl,g5⟩)| (go_at_call 46;refine(JQ c.s (by omega) _).mono ?_;rintro e w5 ⟨rfl,g5⟩)| (go_at_call 45;refine(Il (HB.1.1.gbN (by repeat(first|exact HB.1.2.1| (refine Z ?_ (by assumption))))) (Bc c) HT.1).mono ?_;rintro e w5 ⟨rfl,p5,v5,hB5,hF5⟩))
        rename_i hH;have HM:=S (X hB5 hH.2);clear hB5 hF5 hH;go_wp2;go_roundg (u.code.length-(i+1))
        case measure=>omega
        case rel=>exact⟨i+1,p5,v5,by omega,by go_num,by rw[HB.1.2.2.1,<-List.append_assoc];exact HM.1.1,HM.1.2⟩
       ·have hiI:decide (i<u.code.length)=false:=by simpa using hil
        have hie:i=u.code.length:=by omega
        subst hie;have HJ:=S (X hB6 hG6);clear hB6 hG6;go_wp2;go_roundg (us.length-(k+1))
        case measure=>omega
        case rel=>exact⟨k+1,_,_,by omega,by go_num,by rw[Gr HU.1];simpa[AZ,List.append_assoc]using HJ.1.1,HJ.1.2⟩
def J1(h:fn.results=#[.cell p 58,.tmp q])(tmps:Array Value){r:Bool}(hb:Blk w k [a0,a1,a2] 58)
 (hp:tmps.getD p undef= .pointer (some ⟨k,0,none⟩)) (hq:tmps.getD q undef= .bool r):(results fn tmps).run Tryz.prog w= .ok (.tuple #[.agg #[a0,a1,a2],.bool r]) w:=by
 have c0:=hb.cell' 0 rfl;have c1:=hb.cell' 1 rfl;have c2:=hb.cell' 2 rfl;have hp':tmps[p]?.getD undef= .pointer (some ⟨k,0,none⟩):=by simpa using hp
 have hq':tmps[q]?.getD undef= .bool r:=by simpa using hq
 simp[results,h,hp',hq',go_sem,c0,c1,c2]
def RuP(w:World)(s:Bs)(e:Ending)(w':World):Prop:=∃nm l rv b,e= .returned (.tuple #[.agg #[str nm,rv,.slice none 0 0],.bool b])/\w.grownBy w' none/\w'.ownsRow w.heap.size 3 1 rv l.length (Bt l)/\nm.length+l.length<=2*s.length+1/\(b=true->∀x∈l,Bb x)/\(∀u,CP u->s=qtM u.name++u.row.flatMap A1->b=true/\nm=u.name/\l=u.row)
def RuI(s nm:Bs)(L:List Bs)(l:List Int)(k:Nat)(b:Bool):Prop:=∀u,CP u->s=qtM u.name++u.row.flatMap A1->b=true/\nm=u.name/\L=[]::u.row.map itoa/\(k=0/\l=[]\/∃j,k=j+1/\l=u.row.take j)
def RuI.skip{l:List Int}{b:Bool}(h:RuI s nm L l 0 b):RuI s nm L l 1 b:=by
 intro u hw hs;obtain⟨h1,h2,h3,h4⟩:=h u hw hs;refine⟨h1,h2,h3,.inr ⟨0,rfl,?_⟩⟩;rcases h4 with⟨_,h5⟩| ⟨j,h5,_⟩
 ·rw[h5];rfl
 ·omega
def RuI.num{l:List Int}{b c:Bool}{n:Int}(h:RuI s nm L l k b)(hk:k<L.length)(hne:k=0->L[k]≠[])(hc:∀m,Bb m->L[k]=itoa m->c=true/\n=m):RuI s nm L (l++[n]) (k+1) (b&&c&&decide (0<k)):=by
 intro u hw hs;obtain⟨h1,h2,h3,h4⟩:=h u hw hs;subst h3;rcases h4 with⟨h5,_⟩| ⟨j,h5,h6⟩
 ·subst h5;exact absurd rfl (hne rfl)
 ·subst h5;have hj:j<u.row.length:=by simpa using hk
  have hp:([]::u.row.map itoa)[j+1]=itoa u.row[j]:=by simp
  obtain⟨e1,e2⟩:=hc _ (hw.1 _ (List.getElem_mem hj)) hp;refine⟨by rw[h1,e1];simp,h2,rfl,.inr ⟨j+1,rfl,?_⟩⟩;rw[h6,e2,List.take_add_one,List.getElem?_eq_getElem hj];rfl
def RuI.done{r:Bs}{l:List Int}{b:Bool}(h:RuI s nm L l L.length b)(hr:∀u:Un,s=qtM u.name++u.row.flatMap A1->r=u.row.flatMap A1)(h0:r≠[]):∀u,CP u->s=qtM u.name++u.row.flatMap A1->(b&&(r !=[32]))=true/\nm=u.name/\l=u.row:=by
 intro u hw hs;obtain⟨h1,h2,h3,h4⟩:=h u hw hs;have h5:=hr u hs;have hl:L.length=u.row.length+1:=by rw[h3];simp
 have h6:r≠[32]:=by
  intro e;rw[e]at h5;cases hu:u.row with
  |nil=>rw[hu]at h5;simp at h5
  | cons x l=>
    rw[hu,fC,A1]at h5;have:=KR x;cases hi:itoa x with
    |nil=>exact this hi
    |cons y z=>rw[hi]at h5;simp at h5
 refine⟨by rw[h1];simpa using h6,h2,?_⟩;rcases h4 with⟨h7,_⟩| ⟨j,h7,h8⟩
 ·omega
 ·rw[h8,show j=u.row.length by omega,List.take_length]
def PS(s:Bs)(hs:s.length<=1048576)(hp:Pow w)(he:Errs w)(hm:Mx w):
 Calls Tryz.prog 43 #[str s] w λe w'=>RuP w s e w':=by
 have hz:(⟨s.toArray⟩:ByteArray).size=s.length:=by simp[ByteArray.size]
 have HF:=S (X hp (X he hm));have hA:=gZ w (.cells [str [],.slice none 0 0,.slice none 0 0].toArray 58 (0,0)) none;have hR0:=Blk.new w [str [],.slice none 0 0,.slice none 0 0] 58;have HA:=S (X hR0 hA);have HL:=S (λW=>strings_LastIndexByte ⟨s.toArray⟩ 34 (by rw[hz];omega) W);have hsp:=VX s 34;clear hp he hm hA hR0;go_enter func43,ntmps43;go_wp2_with fail;refine(HL.1 _).mono ?_;rintro e w1 ⟨rfl,rfl⟩;rcases hsp with⟨hi,hn⟩| ⟨i,hil,hi,h34,hn⟩
 ·have hi':Lib.lastIndexByte ⟨s.toArray⟩ 34= -1:=hi;rw[hi'];have HN:=S (show ∀u:Un,CP u->s=qtM u.name++u.row.flatMap A1->False from λu _ h=>TY h hn);have d0:=HA.1.1.cell 0;clear hn hi hi';have f0:=HA.1.1.frozen 0;have f1:=HA.1.1.frozen 1;have f2:=HA.1.1.frozen 2;go_wp2
  (try simp only[Exit.inBlock,Exit.then]);refine bZ (J1 rfl _ HA.1.1 rfl rfl) rfl ?_;exact⟨[],[],.slice none 0 0,false,rfl,HA.1.2,EC _ _ _ _,by simp,(λe=>by cases e),λu hw h=>(HN.1 u hw h).elim⟩
 ·have hi':Lib.lastIndexByte ⟨s.toArray⟩ 34=(i:Int):=hi;rw[hi'];obtain⟨t1,ht1⟩:∃t,t=s.take (i+1):=⟨_,rfl⟩;obtain⟨r,hr⟩:∃r,r=s.drop (i+1):=⟨_,rfl⟩;have hx1:(⟨s.toArray⟩:ByteArray).extract 0 (i+1)=⟨t1.toArray⟩:=by rw[ht1,CY];simp
  have hx2:(⟨s.toArray⟩:ByteArray).extract (i+1) s.length=⟨r.toArray⟩:=by rw[hr,Hg]
  have hNm:∀u:Un,s=qtM u.name++u.row.flatMap A1->t1=qtM u.name/\r=u.row.flatMap A1:=λu h=>by
   rw[ht1,hr];exact Wg h (WJ u.row) hil h34 hn
  have hrl:r.length<=s.length:=by rw[hr];simp<;>omega
  have htl:t1.length<=s.length:=by rw[ht1];simp<;>omega
  have HNm:=S hNm;have n1:(0:Int)<=(i:Int)+1:=by omega
  have n2:(i:Int)+1<=(s.length:Int):=by omega
  have n3:((i:Int)+1).toNat=i+1:=by omega
  have n4:decide ((i:Int)<0)=false:=by simp
  have HQ:=S (Oj t1 (by omega) (HF.1.2.1.gbN HA.1.2));clear hi hi' hn h34 ht1 hr hNm;go_wp2_with fail;refine HQ.1.mono ?_;rintro e w2 ⟨nm,b,rfl,g2,hnl,hq⟩;have g2':w.grownBy w2 none:=Z HA.1.2 g2;have hR2:=HA.1.1.gb g2 (by simp);have hgs2:=g2'.size;have hlt2:=hR2.lt;have hX:=Blk.new w2 [str nm,.slice none 0 0,.slice none 0 0] 58;have gX:=gZ w2 (.cells [str nm,.slice none 0 0,.slice none 0 0].toArray 58 (0,0)) none;have HB:=S (X (hR2.gb gX (by simp)) (X hX (Z g2' gX)));have HV:=S hq;have hfull:∀u,CP u->s=qtM u.name++u.row.flatMap A1->b=true/\nm=u.name:=λu _ h=>hq _ (HNm.1 u h).1;have HFl:=S hfull;clear hR2 hX gX g2 g2' hq hfull HQ;go_upto_region 6 with fail;have e0:w2.alloc (.cells [str nm,.slice none 0 0,.slice none 0 0].toArray 58 (0,0))=w2.alloc (.cells #[.string ⟨nm.toArray⟩,.slice none 0 0,.slice none 0 0] 58 (0,0)):=rfl;rw[e0]at HB;clear e0;generalize w2.alloc (.cells #[.string ⟨nm.toArray⟩,.slice none 0 0,.slice none 0 0] 58 (0,0))=W2 at*;have b0:=HB.1.1.cell' 0 rfl;have b1:=HB.1.1.cell' 1 rfl;have b2:=HB.1.1.cell' 2 rfl;have f0:=HB.1.1.frozen 0;have f1:=HB.1.1.frozen 1;have f2:=HB.1.1.frozen 2;have hlt3:=HB.1.1.lt;have hMR:w.heap.size≠w2.heap.size:=by omega
  by_cases hr0:r=[]
  ·subst hr0;have HE:=S (show ∀u,CP u->s=qtM u.name++u.row.flatMap A1->b=true/\nm=u.name/\[]=u.row from λu hw h=>by
    obtain⟨e1,e2⟩:=HFl.1 u hw h;have e3:=(HNm.1 u h).2;refine⟨e1,e2,?_⟩;cases hu:u.row with
    |nil=>rfl
    |cons x l=>rw[hu,fC,A1]at e3;simp at e3)
   have a0:=HB.1.2.1.cell' 0 rfl;have a1:=HB.1.2.1.cell' 1 rfl;have a2:=HB.1.2.1.cell' 2 rfl;go_wp2
   (try simp only[Exit.inBlock,Exit.then]);refine bZ (J1 rfl _ (HB.1.1.set3 (str nm) (.slice none 0 0) (.slice none 0 0)) rfl rfl) rfl ?_;exact⟨nm,[],.slice none 0 0,b,rfl,Af (Af (Af HB.1.2.2 _ _ (.inr (nR _))) _ _ (.inr (nR _))) _ _ (.inr (nR _)),EC _ _ _ _,by simp;omega,(λ_ x h=>by cases h),HE.1⟩
  ·have hre : List.isEmpty r = false := by
    cases r with
    |nil=>exact absurd rfl hr0
    |cons=>rfl
   obtain⟨L,hL⟩:∃L,L=Lib.split r [32]:=⟨_,rfl⟩;have HSp:=S (Iz r (by omega) 32 (HF.1.2.2.gb HB.1.2.2));have hLl:L.length<=r.length+1:=by rw[hL];exact MU 32 r
   have hLs:∀l∈L,l.length<=r.length:=λl h=>LO 32 r (by rw[<-hL];exact h);rw[<-hL]at HSp;obtain⟨i0,HI⟩:=iPz VF;have HLs:=S (X hLs hL);clear hLs hL;go_wp2_with fail;refine HSp.1.mono ?_;rintro e w3 ⟨rfl,rfl⟩;have hP:=Blk.new W2 (L.map str) 9;have gP:=gZ W2 (.cells (L.map str).toArray 9 (0,0)) none;have hMl:=HB.1.2.1.lt;have HC:=S (X (HB.1.1.gb gP (by simp)) (X (HB.1.2.1.gb gP (by simp)) (X hP (Z HB.1.2.2 gP))));clear hP gP;generalize W2.alloc (.cells (L.map str).toArray 9 (0,0))=W3 at*;generalize W2.heap.size=P at*;clear b0 b1 b2 f0 f1 f2;go_wp2_with fail;go_loopg [6,9,10,11,12,37] L.length (λg v6 v9 v10 v11 v12 v37 wr=>∃k l rv is,k+g=L.length/\v37= .int .i64 (k:Nat)/\v6= .bool is/\Blk wr w.heap.size [str [],.slice none 0 0,.slice none 0 0] 58/\Blk wr w2.heap.size [str nm,rv,.slice none 0 0] 58/\Blk wr P (L.map str) 9/\wr.ownsRow (w2.heap.size+1) 3 1 rv l.length (Bt l)/\RuI s nm L l k is/\(is=true->∀x∈l,Bb x)/\l.length<=k/\w.grownBy wr none)
   case atStart=>exact⟨0,[],.slice none 0 0,b,by omega,rfl,rfl,HC.1.1,HC.1.2.1,HC.1.2.2.1,EC _ _ _ _,(λu hw h=>⟨(HFl.1 u hw h).1,(HFl.1 u hw h).2,by rw[HLs.1.2,(HNm.1 u h).2,S8],.inl ⟨rfl,rfl⟩⟩),(λ_ x h=>by cases h),nZ _,HC.1.2.2.2⟩
   case round=>
    obtain⟨k,l,rv,is,hk,rfl,rfl,hR,hM,hPk,hO,hX,h64,hlk,hG⟩:=hrel;obtain⟨ra,rc,rfl⟩:=JM hO;clear HC HB;cases gk with
    | zero=>
      have hkl:k=L.length:=by omega
      have hj1:decide (k<L.length)=false:=by simp;omega
      have a0:=hM.cell' 0 rfl;have a1:=hM.cell' 1 rfl;have a2:=hM.cell' 2 rfl;have b0:=hR.cell' 0 rfl;have b1:=hR.cell' 1 rfl;have b2:=hR.cell' 2 rfl;have f0:=hR.frozen 0;have f1:=hR.frozen 1;have f2:=hR.frozen 2;have hlt4:=hR.lt;subst hkl;have HE:=S (hX.done (λu h=>(HNm.1 u h).2) hr0);have HZ:=S (X hR (X hO (X h64 (Af (Af (Af hG ⟨w.heap.size,0,none⟩ (str nm) (.inr (nR _))) ⟨w.heap.size,1,none⟩ (.slice ra l.length rc) (.inr (nR _))) ⟨w.heap.size,2,none⟩ (.slice none 0 0) (.inr (nR _))))));clear hM hPk hX h64 hG hR hO;obtain⟨q,hq⟩:∃q,q=(r==[32]):=⟨_,rfl⟩;have hq1:(r==[32])=q:=hq.symm;have HQq:=S (show(r !=[32])= !q by rw[hq];rfl);clear hq;cases is<;>cases q;all_goals
       go_wp2
       (try simp only[Exit.inBlock,Exit.then]);refine bZ (J1 rfl _ (HZ.1.1.set3 (str nm) (.slice ra l.length rc) (.slice none 0 0)) rfl rfl) rfl ?_;have h9:=HE.1;rw[HQq.1]at h9;refine⟨nm,l,.slice ra l.length rc,_,rfl,HZ.1.2.2.2,BF (BF (BF (Ui HZ.1.2.1 (by omega)) (Am (Aa _ (some w.heap.size)) 0 _) ?_) (Am (Aa _ (some w.heap.size)) 1 _) ?_) (Am (Aa _ (some w.heap.size)) 2 _) ?_,by omega,?_,h9⟩
       ·exactλq e e'=>by cases e;have:=Fk HZ.1.2.1 _ e';omega
       ·exactλq e e'=>by cases e;have:=Fk HZ.1.2.1 _ e';omega
       ·exactλq e e'=>by cases e;have:=Fk HZ.1.2.1 _ e';omega
       ·intro e;first|exact HZ.1.2.2.1 trivial|exact HZ.1.2.2.1 e|cases e
    | succ gk=>
      have hkl:k<L.length:=by omega
      have hj1:decide (k<L.length)=true:=by simpa using hkl
      obtain⟨p,hp⟩:∃p,p=L[k]:=⟨_,rfl⟩;have hpl:p.length<=r.length:=by rw[hp];exact HLs.1.1 _ (List.getElem_mem hkl)
      have q0:=hPk.cell' k (v:=str p) (by rw[List.getElem?_map,List.getElem?_eq_getElem hkl,hp];rfl);have hlt4:=hPk.lt;have HNu:=S (He p (by omega) (HF.1.1.gb hG) (HF.1.2.1.gbN hG));have HZ:=S (X hR (X hM (X hPk (X hO (X hX (X h64 hG))))));have HPe:=S hp;clear hR hM hPk hO hX h64 hG hp;go_wp2_with fail;refine HNu.1.mono ?_;rintro e w5 ⟨n,c,rfl,hc1,hc2,g5⟩;have HY:=S (X (HZ.1.1.gb g5 (by simp)) (X (HZ.1.2.1.gb g5 (by simp)) (X (HZ.1.2.2.1.gb g5 (by simp)) (X (BF HZ.1.2.2.2.1 g5 (by simp)) (Z HZ.1.2.2.2.2.2.2 g5)))));have HX:=S (X HZ.1.2.2.2.2.1 HZ.1.2.2.2.2.2.1);have HCn:=S (X hc1 hc2);have hgs5:=g5.size;clear g5 hc1 hc2 HNu HZ;by_cases hk0:k=0/\p=[]
      ·obtain⟨rfl,rfl⟩:=hk0;go_wp2;go_roundg gk
       case measure=>omega
       case rel=>exact⟨1,l,.slice ra l.length rc,is,by omega,rfl,rfl,HY.1.1,HY.1.2.1,HY.1.2.2.1,HY.1.2.2.2.1,HX.1.1.skip,HX.1.2,by omega,HY.1.2.2.2.2⟩
      ·have a1:=HY.1.2.1.cell' 1 rfl;have e1:=HY.1.2.1.frozen 1;have hml:=HY.1.2.1.lt;obtain⟨k2,hk2e⟩:∃x,x=k+1:=⟨_,rfl⟩;have HS:=S (show RuI s nm L (l++[n]) k2 (is&&c&&decide (0<k))by rw[hk2e];exact HX.1.1.num hkl (λe h=>hk0 ⟨e,by rw[HPe.1];exact h⟩) (λm hm e=>HCn.1.2 m hm (by rw[HPe.1];exact e)));have hcase:(((k:Int)==0)=false/\decide (0<k)=true)\/(k=0/\List.isEmpty p=false):=by
        rcases Nat.eq_zero_or_pos k with h|h
        ·right;refine⟨h,?_⟩;cases p with
         |nil=>exact absurd ⟨h,rfl⟩ hk0
         |cons=>rfl
        ·left;exact⟨by simp;omega,by simpa using h⟩
       clear hk0;have H64:=S (show(is&&c&&decide (0<k))=true->∀x∈l++[n],Bb x from λe x hx=>by
        simp only[Bool.and_eq_true]at e;rcases List.mem_append.1 hx with h|h
        ·exact HX.1.2 e.1.1 x h
        ·simp at h;subst h;exact(HCn.1.1 e.1.2).2)
       rcases hcase with⟨hk1,hk2⟩| ⟨rfl,hk2⟩<;>cases is<;>cases c
       all_goals
        go_wp2_with (at_builtin;go_loud(refine wpList_append_lies _ rfl _ _ 55 rfl (w2.heap.size+1) 3 i0 (.int .i64 0) 1 8 underlying55 HI.1.1 HI.1.2.1 HI.1.2.2.1 HI.1.2.2.2 rfl (by decide) (.slice ra l.length rc) l.length (Bt l) rfl (BF HY.1.2.2.2.1 (gZ _ _ none) (by simp)) ⟨w5.heap.size,0,none⟩ 1 1 [.int .i64 n] rfl rfl (AY _ _ _) (by simp[Value.oneCell']) (by decide) (by unfold maxLen;omega) (by omega) (by simp;omega) _ rfl ?_;intro g9 cap9 w9 hown9 hgrow9 hat9 hlt9;(have hob9:=Fk HY.1.2.2.2.1);(have gB:=gZ w5 (.cells [.int .i64 n].toArray 3 (0,0)) none);(have hX9:=(HY.1.2.1.gb gB (by simp)).gb hgrow9 (λe=>by have:=hob9 _ e.symm;omega));(have a1:=hX9.frozen 1);(have a2:=hX9.lt);(have a3:=hX9.cell' 1 rfl);(have H9:=S (X hX9 (X hown9 (X hgrow9 (X hob9 gB)))));clear hX9 hown9 hgrow9 hat9 hob9 gB));have gS:=Am (Aa w9 (some w2.heap.size)) 1 (.slice (some ⟨g9,0,none⟩) (l.length+1) cap9);have hR9:=((HY.1.1.gb H9.1.2.2.2.2 (by simp)).gb H9.1.2.2.1 (λe=>by have:=H9.1.2.2.2.1 _ e.symm;omega)).gb gS (λe=>hMR (Option.some.inj e));have hP9:=((HY.1.2.2.1.gb H9.1.2.2.2.2 (by simp)).gb H9.1.2.2.1 (λe=>IS (BF HY.1.2.2.2.1 H9.1.2.2.2.2 (by simp)) (HY.1.2.2.1.gb H9.1.2.2.2.2 (by simp)) (by decide) e.symm)).gb gS (λe=>by have:=Option.some.inj e;omega);have hO9:=BF H9.1.2.1 gS (λq e e'=>by cases e;have:=Fk H9.1.2.1 _ e';omega)
        have hG9:=Af (Dw (Z HY.1.2.2.2.2 H9.1.2.2.2.2) H9.1.2.2.1 (λq e=>by have:=H9.1.2.2.2.1 _ e;omega)) ⟨w2.heap.size,1,none⟩ (.slice (some ⟨g9,0,none⟩) (l.length+1) cap9) (.inr (by show w.heap.size<=w2.heap.size;omega));have HW:=S (X hR9 (X hP9 (X hO9 hG9)));clear gS hR9 hP9 hO9 hG9;go_wp2;go_roundg gk
        case measure=>omega
        case rel=>
         have h1:=HS.1;have h2:=H64.1;try rw[hk2]at h1 h2
         refine⟨k2,l++[n],.slice (some ⟨g9,0,none⟩) (l.length+1) cap9,_,?_,?_,rfl,HW.1.1,(H9.1.1.set 1 (.slice (some ⟨g9,0,none⟩) (l.length+1) cap9)).of_eq rfl rfl,HW.1.2.1,?_,h1,h2,by simp;omega,HW.1.2.2.2⟩
         ·omega
         ·rw[hk2e];go_num
         ·rw[lA,show Bt (l++[n])=Bt l++[.int .i64 n]by simp[Bt]];exact HW.1.2.2.1
def Dc(s:Bs):List Bs:=Lib.splitK [32] 0 (min 4 (s.length+1)-1) s
def SF(c:List UInt8)(k:Nat):∀s:Bs,(Lib.splitK c 0 k s).length<=k+1:=by
 induction k with
 |zero=>intro s;simp[Lib.splitK]
 | succ k ih=>
   intro s;rw[Lib.splitK];split
   ·simp
   ·have:=ih (s.drop ((Lib.index s c).toNat+c.length));simp;omega
def XU{a b c:Bs}{r:Bs}(ha:(32:UInt8) ∉ a)(hb:(32:UInt8) ∉ b)(hc:(32:UInt8) ∉ c):Dc (a++32::(b++32::(c++32::r)))=[a,b,c,r]:=by
 unfold Dc;rw[show min 4 ((a++32::(b++32::(c++32::r))).length+1)-1=3 by simp;omega,I0 _ _ _ _ ha,I0 _ _ _ _ hb,I0 _ _ _ _ hc];rfl
def Ku(n:Int):(32:UInt8) ∉ itoa n:=by
 intro h;have:=E7 n;rw[List.all_eq_true]at this;exact absurd (this _ h) (by decide)
def MN{d:Cd}(h:s++[10]=Bc d):Dc s=[itoa d.op,itoa d.a,itoa d.b,qtM d.s]:=by
 have:s=itoa d.op++32::(itoa d.a++32::(itoa d.b++32::qtM d.s)):=by
  refine List.append_cancel_right (bs:=[10]) ?_;rw[h,Bc];simp
 rw[this];exact XU (Ku _) (Ku _) (Ku _)
def I4{l:Bs}(h:l∈Dc s):l.length<=s.length:=by
 have:∀(k:Nat)(s l:Bs),l∈Lib.splitK [32] 0 k s->l.length<=s.length:=by
  intro k;induction k with
  |zero=>intro s l h;simp[Lib.splitK]at h;subst h;exact nR _
  | succ k ih=>
    intro s l h;rw[Lib.splitK]at h;split at h
    ·simp at h;subst h;exact nR _
    ·rcases List.mem_cons.1 h with h|h
     ·subst h;simp;omega
     ·have:=ih _ _ h;simp at this;omega
 exact this _ _ _ h
def SG(s:Bs)(hs:s.length<=1048576)(hm:Mx w):
 Calls Tryz.prog 74 #[str s,str [32],.int .i64 4] w λe w'=>∃(cs:List Value)(cap:Nat),e= .returned (.slice (some ⟨w.heap.size,0,none⟩) (Dc s).length cap)/\w'=w.alloc (.cells cs.toArray 9 (0,0))/\∀(j:Nat)(p:Bs),(Dc s)[j]? =some p->cs[j]? =some (str p):=by
 obtain⟨m,hm⟩:=hm;have hz:(⟨s.toArray⟩:ByteArray).size=s.length:=by simp[ByteArray.size]
 refine(strings_SplitN ⟨s.toArray⟩ ⟨#[32]⟩ 4 m w (by rw[hz];omega) hm (by simp[ByteArray.size]) (by decide) (by decide)).mono ?_;rintro e w' ⟨rfl,rfl⟩;have h1:=Lib.splitB_data ⟨#[32]⟩ 0 (min 4 (s.length+1)-1) ⟨s.toArray⟩;rw[hz];have h2:(Lib.splitB ⟨#[32]⟩ 0 (min 4 (s.length+1)-1) ⟨s.toArray⟩).length=(Dc s).length:=by
  have:=congrArg List.length h1;simpa[Dc]using this
 refine⟨_,_,by rw[h2],rfl,λj p hj=>?_⟩;have h3:(Lib.splitB ⟨#[32]⟩ 0 (min 4 (s.length+1)-1) ⟨s.toArray⟩).map (·.data.toList)=Dc s:=by
  rw[h1];rfl
 rw[<-h3,List.getElem?_map]at hj;obtain⟨b,hb,rfl⟩:=Option.map_eq_some_iff.1 hj;have hlt:j<((Lib.splitB ⟨#[32]⟩ 0 (min 4 (s.length+1)-1) ⟨s.toArray⟩).map Value.string).length:=by
  rw[List.length_map];exact(List.getElem?_eq_some_iff.1 hb).1
 rw[List.getElem?_append_left hlt,List.getElem?_map,hb];simp[str]
def L9(h:fn.results=#[.cell p 61,.tmp q])(tmps:Array Value){r:Bool}(hb:Blk w k [a0,a1,a2,a3] 61)
 (hp:tmps.getD p undef= .pointer (some ⟨k,0,none⟩)) (hq:tmps.getD q undef= .bool r):(results fn tmps).run Tryz.prog w= .ok (.tuple #[.agg #[a0,a1,a2,a3],.bool r]) w:=by
 have c0:=hb.cell' 0 rfl;have c1:=hb.cell' 1 rfl;have c2:=hb.cell' 2 rfl;have c3:=hb.cell' 3 rfl;have hp':tmps[p]?.getD undef= .pointer (some ⟨k,0,none⟩):=by simpa using hp
 have hq':tmps[q]?.getD undef= .bool r:=by simpa using hq
 simp[results,h,hp',hq',go_sem,c0,c1,c2,c3]
def RdP(w:World)(s:Bs)(e:Ending)(w':World):Prop:=∃c b,e= .returned (.tuple #[.agg #[.int .i64 c.op,.int .i64 c.a,.int .i64 c.b,str c.s],.bool b])/\w.grownBy w' none/\c.s.length<=s.length/\(b=true->Dl c)/\(∀d,Dl d->s++[10]=Bc d->b=true/\c=d)
def RdF(s:Bs)(c0 c1 c2 c3:Bool)(c:Cd):Prop:=(∀d,Dl d->s++[10]=Bc d->(c0=true/\c1=true/\c2=true/\c3=true)/\c=d)/\(c0=true->c1=true->c2=true->Dl c)
def Blk.set4C(h:Blk w k [a0,a1,a2,a3] t)(v0 v1 v2 v3:Value):Blk ((((w.setCell ⟨k,0,none⟩ v0).setCell ⟨k,1,none⟩ v1).setCell ⟨k,2,none⟩ v2).setCell ⟨k,3,none⟩ v3) k [v0,v1,v2,v3] t:=
 ((((h.set 0 v0).set 1 v1).set 2 v2).set 3 v3).of_eq rfl rfl
def PR(s:Bs)(hs:s.length<=1048576)(hp:Pow w)(he:Errs w)(hm:Mx w):
 Calls Tryz.prog 44 #[str s] w λe w'=>RdP w s e w':=by
 have HF:=S (X hp (X he hm));have hA:=gZ w (.cells [.int .i64 0,.int .i64 0,.int .i64 0,str []].toArray 61 (0,0)) none;have hR0:=Blk.new w [.int .i64 0,.int .i64 0,.int .i64 0,str []] 61;have HA:=S (X hR0 hA);clear hp he hm hA hR0;go_enter func44,ntmps44;go_upto_region 1 with fail;have e0:w.alloc (.cells [.int .i64 0,.int .i64 0,.int .i64 0,str []].toArray 61 (0,0))=w.alloc (.cells #[.int .i64 0,.int .i64 0,.int .i64 0,.string ⟨#[]⟩] 61 (0,0)):=rfl;rw[e0]at HA;clear e0;generalize w.alloc (.cells #[.int .i64 0,.int .i64 0,.int .i64 0,.string ⟨#[]⟩] 61 (0,0))=W1 at*;have HSp:=S (SG s hs (HF.1.2.2.gb HA.1.2));have hlt1:=HA.1.1.lt;go_wp2_with fail;refine HSp.1.mono ?_;rintro e w2 ⟨cs,cap,rfl,rfl,hcs⟩;have gP:=gZ W1 (.cells cs.toArray 9 (0,0)) none;have hR2:=HA.1.1.gb gP (by simp);have hPb:=Blk.new W1 cs 9;have hG2:=Z HA.1.2 gP;clear gP;generalize W1.alloc (.cells cs.toArray 9 (0,0))=W2 at*;generalize W1.heap.size=P at*;have hcl:(Dc s).length<=4:=nT (SF _ _ _) (by omega);by_cases hf:(Dc s).length<4
 ·have hj1:decide (((Dc s).length:Int)<4)=true:=by simp;omega
  have HN:=S (show ∀d,Dl d->s++[10]=Bc d->False from λd _ h=>by rw[MN h]at hf;simp at hf);have b0:=hR2.cell' 0 rfl;have b1:=hR2.cell' 1 rfl;have b2:=hR2.cell' 2 rfl;have b3:=hR2.cell' 3 rfl;have f0:=hR2.frozen 0;have f1:=hR2.frozen 1;have f2:=hR2.frozen 2;have f3:=hR2.frozen 3;have hlt2:=hR2.lt;have HB:=S (X hR2 hG2);clear hf hcs hR2 hG2 hPb;go_wp2
  (try simp only[Exit.inBlock,Exit.then]);refine bZ (L9 rfl _ (HB.1.1.set4C (.int .i64 0) (.int .i64 0) (.int .i64 0) (str [])) rfl rfl) rfl ?_;exact⟨⟨0,0,0,[]⟩,false,rfl,Af (Af (Af (Af HB.1.2 _ _ (.inr (nR _))) _ _ (.inr (nR _))) _ _ (.inr (nR _))) _ _ (.inr (nR _)),nZ _,(λe=>by cases e),λd hw h=>(HN.1 d hw h).elim⟩
 ·obtain ⟨p0, p1, p2, p3, hP4⟩ : ∃ p0 p1 p2 p3, Dc s = [p0, p1, p2, p3] := by
   cases h:Dc s with
   |nil=>rw[h]at hf;simp at hf
   | cons a l=>
     cases l with
     |nil=>rw[h]at hf;simp at hf
     | cons b l=>
       cases l with
       |nil=>rw[h]at hf;simp at hf
       | cons c l=>
         cases l with
         |nil=>rw[h]at hf;simp at hf
         | cons d l=>
           cases l with
           |nil=>exact⟨a,b,c,d,rfl⟩
           |cons e l=>rw[h]at hcl;simp at hcl
  have hs0:p0.length<=s.length:=I4 (by rw[hP4];simp);have hs1:p1.length<=s.length:=I4 (by rw[hP4];simp);have hs2:p2.length<=s.length:=I4 (by rw[hP4];simp);have hs3:p3.length<=s.length:=I4 (by rw[hP4];simp);have q0:=hPb.cell' 0 (hcs 0 p0 (by rw[hP4];rfl));have HQ:=S (X (hPb.cell' 1 (hcs 1 p1 (by rw[hP4];rfl))) (X (hPb.cell' 2 (hcs 2 p2 (by rw[hP4];rfl))) (hPb.cell' 3 (hcs 3 p3 (by rw[hP4];rfl)))));have HD:=S (show ∀d,Dl d->s++[10]=Bc d->p0=itoa d.op/\p1=itoa d.a/\p2=itoa d.b/\p3=qtM d.s from λd _ h=>by
   have h1:=MN h;rw[hP4]at h1;simpa using h1)
  have HB:=S (X hR2 hG2);have hlen:(Dc s).length=4:=by rw[hP4];rfl
  rw[hlen];clear hf hcs hPb hP4 hcl hR2 hG2;go_wp2_with fail;refine(He p0 (by omega) (HF.1.1.gb HB.1.2) (HF.1.2.1.gbN HB.1.2)).mono ?_;rintro e w3 ⟨n0,c0,rfl,x0,y0,g3⟩;have q1:=Ad g3 HQ.1.1;have H3:=S (X g3 (X (Z HB.1.2 g3) (X x0 y0)));clear g3 x0 y0 q0;go_wp2_with fail;refine(He p1 (by omega) (HF.1.1.gb H3.1.2.1) (HF.1.2.1.gbN H3.1.2.1)).mono ?_;rintro e w4 ⟨n1,c1,rfl,x1,y1,g4⟩;have q2:=Ad (Z H3.1.1 g4) HQ.1.2.1;have H4:=S (X (Z H3.1.1 g4) (X (Z H3.1.2.1 g4) (X x1 y1)));clear g4 x1 y1 q1;go_wp2_with fail;refine(He p2 (by omega) (HF.1.1.gb H4.1.2.1) (HF.1.2.1.gbN H4.1.2.1)).mono ?_;rintro e w5 ⟨n2,c2,rfl,x2,y2,g5⟩;have q3:=Ad (Z H4.1.1 g5) HQ.1.2.2;have H5:=S (X (Z H4.1.1 g5) (X (Z H4.1.2.1 g5) (X x2 y2)));clear g5 x2 y2 q2;go_wp2_with fail;refine(Oj p3 (by omega) (HF.1.2.1.gbN H5.1.2.1)).mono ?_;rintro e w6 ⟨t,c3,rfl,g6,htl,y3⟩;have hR6:=HB.1.1.gb (Z H5.1.1 g6) (by simp);have b0:=hR6.cell' 0 rfl;have b1:=hR6.cell' 1 rfl;have b2:=hR6.cell' 2 rfl;have b3:=hR6.cell' 3 rfl;have f0:=hR6.frozen 0;have f1:=hR6.frozen 1;have f2:=hR6.frozen 2;have f3:=hR6.frozen 3;have hlt6:=hR6.lt;have HE:=S (X hR6 (Z H5.1.2.1 g6));have HFu:=S (show RdF s c0 c1 c2 c3 ⟨n0,n1,n2,t⟩from⟨λd hw h=>by
   obtain⟨e0,e1,e2,e3⟩:=HD.1 d hw h;obtain⟨a0,a1⟩:=H3.1.2.2.2 d.op hw.1 e0;obtain⟨a2,a3⟩:=H4.1.2.2.2 d.a hw.2.1 e1;obtain⟨a4,a5⟩:=H5.1.2.2.2 d.b hw.2.2 e2;obtain⟨a6,a7⟩:=y3 d.s e3;exact⟨⟨a0,a2,a4,a6⟩,by rw[a1,a3,a5,a7]⟩,λe0 e1 e2=>⟨(H3.1.2.2.1 e0).2,(H4.1.2.2.1 e1).2,(H5.1.2.2.1 e2).2⟩⟩)
  clear hR6 g6 y3 q3 H3 H4 H5;have hb:c0=false\/(c0=true/\c1=false)\/(c0=true/\c1=true/\c2=false)\/(c0=true/\c1=true/\c2=true):=by
   cases c0<;>cases c1<;>cases c2<;>simp
  rcases hb with rfl| ⟨rfl,rfl⟩| ⟨rfl,rfl,rfl⟩| ⟨rfl,rfl,rfl⟩
  all_goals
   go_wp2
   (try simp only[Exit.inBlock,Exit.then]);refine bZ (L9 rfl _ (HE.1.1.set4C (.int .i64 n0) (.int .i64 n1) (.int .i64 n2) (str t)) rfl rfl) rfl ?_;refine⟨⟨n0,n1,n2,t⟩,_,rfl,Af (Af (Af (Af HE.1.2 _ _ (.inr (nR _))) _ _ (.inr (nR _))) _ _ (.inr (nR _))) _ _ (.inr (nR _)),nT htl hs3,λe=>?_,λd hw h=>?_⟩
   ·first|exact HFu.1.2 rfl rfl rfl|cases e
   ·obtain⟨h1,h2⟩:=HFu.1.1 d hw h;refine⟨?_,h2⟩;first| (have h3:=h1.1;cases h3;done)| (have h3:=h1.2.1;cases h3;done)| (have h3:=h1.2.2.1;cases h3;done)|exact h1.2.2.2
end Go.Proofs.YtbjfaimkiclhgaaGreatDoor
