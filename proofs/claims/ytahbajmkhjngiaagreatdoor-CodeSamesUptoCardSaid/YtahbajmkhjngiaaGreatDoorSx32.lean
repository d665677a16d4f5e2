/-
  Code: Copy, the program's: its rows are the copy's own.
-/
import Derived.Test.YtahbajmkhjngiaaGreatDoorSx31
set_option linter.all false
set_option maxRecDepth 100000
set_option maxHeartbeats 8000000
namespace Go.Proofs.YtahbajmkhjngiaaGreatDoor
open Go.Proofs.Tryz
open Go.RowKit
def RepO(B:Nat)(w:World):List Un→List Value→Prop
 | [],cs=>cs=[]
 |u::r,cs=>∃rv cv rest,cs=str u.name::rv::cv::rest∧w.ownsRow B 3 1 rv u.row.length (V u.row)∧w.ownsRow B 35 4 cv u.code.length (O u.code)∧RepO B w r rest
def OwnU2(w:World)(B:Nat)(v:Value)(us:List Un):Prop:=∃cs,w.ownsRow B 33 3 v us.length cs∧RepO B w us cs
theorem Bw{w:World}{B k n g:Nat}{t t2:TypeId}{v:Value}{xs:List Value}{o:Array Value}(h:w.ownsRow B t k v n xs)(hg:w.heap[g]? =some (.cells o t2 (0,0)))(ht:t≠t2):v.ownBlock≠some g:=by
 intro e;rcases h.2 with⟨rfl,_⟩| ⟨q,cap,cur,rfl,_,hq,_⟩
 ·simp[Value.ownBlock]at e
 ·simp only[Value.ownBlock,Option.some.injEq]at e;subst e;rw[hq]at hg;simp only[Option.some.injEq,Obj.cells.injEq]at hg;exact ht hg.2.1
theorem BA{w:World}{B B' k n:Nat}{t:TypeId}{v:Value}{xs:List Value}(h:w.ownsRow B t k v n xs)(hb:B'≤B):w.ownsRow B' t k v n xs:=by
 refine⟨h.1,?_⟩;rcases h.2 with h2| ⟨q,cap,cur,e,hq,hrest⟩
 ·exact .inl h2
 ·exact .inr ⟨q,cap,cur,e,Nat.le_trans hb hq,hrest⟩
theorem A7{w w1:World}{B k n:Nat}{t:TypeId}{v:Value}{xs:List Value}{r:Option Nat}(h:w.ownsRow B t k v n xs)(g:w.grownBy w1 r)(hr:∀q,r=some q→v.ownBlock≠some q):w1.ownsRow B t k v n xs:=by
 refine h.kept g ?_;cases hv:v.ownBlock with
 |none=>exact .inl rfl
 |some q=>exact .inr (fun e=>hr q e.symm hv)
def BQ(w:World)(r:Option Nat):Prop:=∀q,r=some q→∃o,w.heap[q]? =some (.cells o 33 (0,0))
theorem Cu{w:World}{B k n:Nat}{v:Value}{xs:List Value}(h:w.ownsRow B 33 k v n xs):BQ w v.ownBlock:=by
 intro q e;rcases h.2 with⟨rfl,_⟩| ⟨g,cap,cur,rfl,_,hq,_⟩
 ·simp[Value.ownBlock]at e
 ·simp only[Value.ownBlock,Option.some.injEq]at e;subst e;exact⟨_,hq⟩
theorem RepO.gb{w w1:World}{B:Nat}{r:Option Nat}(g:w.grownBy w1 r)(hr:BQ w r):∀{us:List Un}{cs:List Value},RepO B w us cs→RepO B w1 us cs:=by
 intro us;induction us with
 |nil=>intro cs h;exact h
 | cons u r ih=>
   rintro cs ⟨rv,cv,rest,e,h1,h2,h3⟩;exact⟨rv,cv,rest,e,A7 h1 g (fun q e=>by obtain⟨o,ho⟩:=hr q e;exact Bw h1 ho (by decide)),A7 h2 g (fun q e=>by obtain⟨o,ho⟩:=hr q e;exact Bw h2 ho (by decide)),ih h3⟩
theorem RepO.app{w:World}{B:Nat}:∀{us vs:List Un}{cs ds:List Value},RepO B w us cs→RepO B w vs ds→RepO B w (us++vs) (cs++ds):=by
 intro us;induction us with
 |nil=>intro vs cs ds h k;subst h;exact k
 | cons u r ih=>
   rintro vs cs ds ⟨rv,cv,rest,rfl,h1,h2,h3⟩ k;exact⟨rv,cv,rest++ds,by simp,h1,h2,ih h3 k⟩
theorem OwnU2.snoc{w w1:World}{B n:Nat}{v v':Value}{us:List Un}{u:Un}{cs cs':List Value}{rv cv:Value}
 (hf:RepO B w us cs) (h1:w.ownsRow B 3 1 rv u.row.length (V u.row)) (h2:w.ownsRow B 35 4 cv u.code.length (O u.code)) (hv:w.ownsRow B 33 3 v n cs')
 (ho:w1.ownsRow B 33 3 v' (us.length+1) (cs++[str u.name,rv,cv])) (hg:w.grownBy w1 v.ownBlock):OwnU2 w1 B v' (us++[u]):=
 ⟨_,by rw[List.length_append];exact ho,(hf.app (show RepO B w [u] [str u.name,rv,cv]from⟨rv,cv,[],rfl,h1,h2,rfl⟩)).gb hg (Cu hv)⟩
theorem RepO.repU{w:World}{B:Nat}:∀{us:List Un}{cs:List Value},RepO B w us cs→RepU (Al B) w us cs:=by
 intro us;induction us with
 |nil=>intro cs h;exact h
 | cons u r ih=>
   rintro cs ⟨rv,cv,rest,e,h1,h2,h3⟩;exact⟨rv,cv,rest,e,Av h1,Av h2,ih h3⟩
theorem OwnU2.vu{w:World}{B:Nat}{v:Value}{us:List Un}(h:OwnU2 w B v us):VU (Al B) w v us:=by
 obtain⟨cs,h1,h2⟩:=h;exact⟨cs,Av h1,h2.repU⟩
theorem OwnU2.gbN{w w1:World}{B:Nat}{v:Value}{us:List Un}(h:OwnU2 w B v us)(g:w.grownBy w1 none):OwnU2 w1 B v us:=by
 obtain⟨cs,h1,h2⟩:=h;exact⟨cs,A7 h1 g (by simp),h2.gb g (by intro q e;cases e)⟩
theorem Cl{w:World}{v:Value}{us:List Un}{ok:Nat→Prop}(h:VU ok w v us)(hb:Z us≤100000000):
 Calls Tryz.prog 6 #[v] w fun e w'=>∃r,e= .returned r∧OwnU2 w' w.heap.size r us∧w.grownBy w' none:=by
 obtain⟨a,cap,rfl,hle,hmx,hat⟩:=h.open;obtain⟨n0,hn0,hv0,hv1,hv2⟩:=info_parts AS;have HU:=D (I hn0 (I hv0 (I hv1 hv2)));clear hn0 hv0 hv1 hv2;have hlen:us.length≤100000000:=by unfold Z at hb;omega
 have HA:=D hat;have HBb:=D hb;clear hat hle hmx h hb;go_enter func6,ntmps6;go_wp2_with fail;go_loopg [3,5,8] us.length (fun g v3 v5 v8 wr=>∃k:Nat,k+g=us.length∧v8= .int .i64 k∧OwnU2 wr w.heap.size v3 (us.take k)∧w.grownBy wr none)
 case atStart=>exact⟨0,by omega,rfl,⟨[],At _ _ _ _,rfl⟩,N _ _⟩
 case round=>
  obtain⟨k,hk,rfl,hO,hG⟩:=hrel;cases gk with
  | zero=>
    have hkl:k=us.length:=by omega
    have hj1:decide (k<us.length)=false:=by simp;omega
    subst hkl;have HO:=D (I (show OwnU2 wr w.heap.size u3 us by rw[List.take_of_length_le (Nat.le_refl _)]at hO;exact hO) hG);clear hO hG;go_wp2;go_ret;exact⟨_,rfl,HO.out.1,HO.out.2⟩
  | succ gk=>
    have hkl:k<us.length:=by omega
    have hj1:decide (k<us.length)=true:=by simp;omega
    obtain⟨u,hu⟩:∃u,us[k]? =some u:=⟨_,X hkl⟩;obtain⟨g,o,ra,rc,ca,cc,rfl,_,hgl,c0,c1,c2,hrow,hcode⟩:=HA.out k u hu;have d0:=J hG c0;have d1:=J hG c1;have d2:=J hG c2;have hgs:=hG.size;have hrl:u.row.length≤100000000:=by
     have h1:=An wtU us (show k+1≤us.length from hkl);rw[Aj hu]at h1;have h2:wtU u=u.name.length+u.row.length+pfx wtC u.code u.code.length:=rfl;have h3:us.length+pfx wtU us us.length≤100000000:=HBb.out;omega
    have hcl:u.code.length≤100000000:=by
     have h1:=An wtU us (show k+1≤us.length from hkl);rw[Aj hu]at h1;have h2:wtU u=u.name.length+u.row.length+pfx wtC u.code u.code.length:=rfl;have h3:us.length+pfx wtU us us.length≤100000000:=HBb.out;have h4:=AK (fun _:Cd=>1) wtC 1 (fun c=>by unfold wtC;omega) u.code u.code.length;have h5:=AT u.code u.code.length (Nat.le_refl _);omega
    have bx:=Blk.new wr [str u.name,.slice ra u.row.length rc,.slice ca u.code.length cc] 33;have gA:wr.grownBy (wr.alloc (.cells [str u.name,.slice ra u.row.length rc,.slice ca u.code.length cc].toArray 33 (0,0))).drew none:=Ae (World.grownBy_alloc _ _ _);have HX:=D (show(fun W=>(W.cell? ⟨wr.heap.size,0,none⟩=some (str u.name)∧W.cell? ⟨wr.heap.size,1,none⟩=some (.slice ra u.row.length rc)∧W.cell? ⟨wr.heap.size,2,none⟩=some (.slice ca u.code.length cc))∧w.grownBy W none) (wr.alloc (.cells [str u.name,.slice ra u.row.length rc,.slice ca u.code.length cc].toArray 33 (0,0))).drew from⟨⟨bx.cell 0,bx.cell 1,bx.cell 2⟩,M hG gA⟩);obtain⟨cs,hown,hrep⟩:=hO;have htk:(us.take k).length=k:=by simp;omega
    rw[htk]at hown;have hlt3:=hown.lt;have HO:=D (I (I hown hrep) (I hG (I gA (show some wr.heap.size≠u3.ownBlock from fun e=>by have:=(hlt3 _ e.symm).2;omega))));have HR:=D (I hrow hcode);have HL3:=D hlt3;have HT:=D (show us.take (k+1)=us.take k++[u]by rw[List.take_add_one,hu];rfl);clear hown hrep htk bx gA hrow hcode hG c0 c1 c2 hlt3;go_wp2_with fail;go_region_held3 (fun W=>(W.cell? ⟨wr.heap.size,0,none⟩=some (str u.name)∧W.cell? ⟨wr.heap.size,1,none⟩=some (.slice ra u.row.length rc)∧W.cell? ⟨wr.heap.size,2,none⟩=some (.slice ca u.code.length cc))∧w.grownBy W none)
     (first|exact HX.out|exact AU (by assumption) g6 (by simp) (by simp)|exact AU (by assumption) g5 (by simp) (by simp)|exact AU (by assumption) hg7 HO.out.2.2.2 (fun q e=>(HL3.out q e).1)|exact AU (by assumption) (World.grownBy_alloc _ _ none) (by simp) (by simp))
     (first| (go_at_call 19;refine(CQ (by assumption) HR.out.1 hrl).mono ?_;rintro e w5 ⟨a5,c5,rfl,hown5,g5⟩)| (go_at_call 20;refine(Dg (by assumption) HR.out.2 hcl).mono ?_;rintro e w6 ⟨a6,c6,rfl,hown6,g6⟩)| (refine Dj (by rfl) _ _ (by rfl) (by assumption) HO.out.1.1 (by repeat(first|exact HO.out.2.2.1| (refine M ?_ (by assumption)))) (by rfl) (by rfl) ⟨rfl,rfl⟩ (by omega) ?_;intro g10 cap10 w7 hown7 hg7 hat7))
    rename_i hH;have gc:wr.grownBy w6 none:=by repeat(first|exact HO.out.2.2.1| (refine M ?_ (by assumption)))
    have hgw:=gc.size;have hgs5:=g5.size;have r5:=A7 (A7 (BA hown5 (show w.heap.size≤_ by simp;omega)) g6 (by simp)) (World.grownBy_alloc w6 (.cells #[str u.name,.slice a5 u.row.length c5,.slice a6 u.code.length c6] 33 (0,0)) none) (by simp);have r6:=A7 (BA hown6 (show w.heap.size≤_ by simp at hgs5;omega)) (World.grownBy_alloc w6 (.cells #[str u.name,.slice a5 u.row.length c5,.slice a6 u.code.length c6] 33 (0,0)) none) (by simp);have HE:=D (I gc (I r5 (I r6 (I hown7 (I hg7 hat7)))));clear gc r5 r6 hgs5 hown5 hown6 hown7 g5 g6 hg7 hat7 hH;have htk:(us.take k).length=k:=by simp;omega
    go_wp2;go_roundg gk
    case measure=>omega
    case rel=>
     refine⟨k+1,by omega,by go_num,?_,?_⟩
     ·rw[HT.out];exact OwnU2.snoc (HO.out.1.2.gb (Y HE.out.1 _) (by intro q e;cases e)) HE.out.2.1 HE.out.2.2.1 (A7 HO.out.1.1 (Y HE.out.1 _) (by simp)) (by rw[htk];exact HE.out.2.2.2.1) HE.out.2.2.2.2.1
     ·exact Ad (M HO.out.2.1 (Y HE.out.1 _)) HE.out.2.2.2.2.1 (fun q e=>(HL3.out q e).1)
end Go.Proofs.YtahbajmkhjngiaaGreatDoor
