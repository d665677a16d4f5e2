/-
  Code: Copy, the reference's.
-/
import Derived.Test.YtahbajmkhjngiaaGreatDoorSx23
import Derived.Test.YtahbajmkhjngiaaGreatDoorSx10
import Derived.Test.YtahbajmkhjngiaaGreatDoorSx20
set_option linter.all false
set_option maxRecDepth 100000
set_option maxHeartbeats 8000000
namespace Go.Proofs.YtahbajmkhjngiaaGreatDoor
open Go.Proofs.Tryz
open Go.RowKit
theorem AS:(Tryz.prog.info? 33).map (fun i=>(i.zero,i.size,i.bytes))=some (some (.agg #[str [],.slice none 0 0,.slice none 0 0]),3,64):=by kernel_rfl
theorem Cm(l:List Int):∀u∈V l,u.oneCell'=true:=by
 intro u hu;simp[V]at hu;obtain⟨z,_,rfl⟩:=hu;rfl
def OwnU(w:World)(B:Nat)(v:Value)(us:List Un):Prop:=∃cs,w.ownsRow B 33 3 v us.length cs∧RepU (fun g=>B≤g∧v.ownBlock≠some g) w us cs
theorem AF{w:World}{B:Nat}{t:TypeId}{k n:Nat}{v:Value}{xs:List Value}(h:w.ownsRow B t k v n xs):∃a c,v= .slice a n c:=by
 rcases h.2 with⟨rfl,rfl⟩| ⟨g,cap,cur,rfl,_⟩
 ·exact⟨_,_,rfl⟩
 ·exact⟨_,_,rfl⟩
theorem OwnU.snoc{w w1:World}{B:Nat}{v v':Value}{us:List Un}{u:Un}{cs:List Value}{rv cv:Value}{okx:Nat→Prop}
 (hf:RepU (fun g=>B≤g∧v.ownBlock≠some g) w us cs) (h1:Cells w rv 1 u.row.length (V u.row) okx) (h2:Cells w cv 4 u.code.length (O u.code) okx) (hokx:∀k,okx k→k<w.heap.size→B≤k∧v.ownBlock≠some k)
 (ho:w1.ownsRow B 33 3 v' (us.length+1) (cs++[str u.name,rv,cv])) (hg:w.grownBy w1 v.ownBlock) (hnew:∀k,v'.ownBlock=some k→v.ownBlock=some k∨w.heap.size≤k):OwnU w1 B v' (us++[u]):=by
 refine⟨_,by rw[List.length_append];exact ho,?_⟩;have a1:=hf.app (RepU.one (u:=u) (h1.mono hokx) (h2.mono hokx));have a2:=RepU.mono (ok':=fun g=>B≤g∧v.ownBlock≠some g∧v'.ownBlock≠some g) (fun k hk hlt=>⟨hk.1,hk.2,fun e=>by
  rcases hnew k e with h|h
  ·exact hk.2 h
  ·omega⟩) a1
 exact(a2.gb hg fun k hk _ e=>hk.2.1 e.symm).mono fun k hk _=>⟨hk.1,hk.2.2⟩
theorem AT{α:Type}(l:List α)(k:Nat)(h:k≤l.length):pfx (fun _=>1) l k=k:=by
 induction k with
 |zero=>rfl
 |succ k ih=>rw[Aj (X h),ih (by omega)]
theorem Cv{w:World}{v:Value}{us:List Un}{ok:Nat→Prop}(h:VU ok w v us)(hb:Z us≤100000000):
 Calls Tryz.prog 16 #[v] w fun e w'=>∃r,e= .returned r∧OwnU w' w.heap.size r us∧w.grownBy w' none:=by
 obtain⟨a,cap,rfl,hle,hmx,hat⟩:=h.open;obtain⟨i0,hi0,hz0,hz1,hz2⟩:=info_parts B6;have HI:=D (I hi0 (I hz0 (I hz1 hz2)));obtain⟨j0,hj0,hy0,hy1,hy2⟩:=info_parts Be;have HJ:=D (I hj0 (I hy0 (I hy1 hy2)));clear hj0 hy0 hy1 hy2;obtain⟨n0,hn0,hv0,hv1,hv2⟩:=info_parts AS;have HU:=D (I hn0 (I hv0 (I hv1 hv2)));clear hn0 hv0 hv1 hv2;have hlen:us.length≤100000000:=by unfold Z at hb;omega
 have HA:=D hat;clear hat hle hmx h hi0 hz0 hz1 hz2;go_enter func16,ntmps16;go_wp2_with fail;go_loopg [3,4,5] us.length (fun g v3 v4 v5 wr=>∃k:Nat,k+g=us.length∧v4= .int .i64 k∧OwnU wr w.heap.size v3 (us.take k)∧w.grownBy wr none)
 case atStart=>exact⟨0,by omega,rfl,⟨[],At _ _ _ _,rfl⟩,N _ _⟩
 case round=>
  obtain⟨k,hk,rfl,hO,hG⟩:=hrel;cases gk with
  | zero=>
    have hkl:k=us.length:=by omega
    have hj1:decide (k<us.length)=false:=by simp;omega
    subst hkl;have HO:=D (I (show OwnU wr w.heap.size u3 us by rw[List.take_of_length_le (Nat.le_refl _)]at hO;exact hO) hG);clear hO hG;go_wp2;go_ret;exact⟨_,rfl,HO.out.1,HO.out.2⟩
  | succ gk=>
    have hkl:k<us.length:=by omega
    have hj1:decide (k<us.length)=true:=by simp;omega
    obtain⟨u,hu⟩:∃u,us[k]? =some u:=⟨_,X hkl⟩;obtain⟨g,o,ra,rc,ca,cc,rfl,_,hgl,c0,c1,c2,hrow,hcode⟩:=HA.out k u hu;have d0:=J hG c0;have d1:=J hG c1;have d2:=J hG c2;have hgs:=hG.size;have hrl:u.row.length≤100000000:=by
     have h1:=An wtU us (show k+1≤us.length from hkl);rw[Aj hu]at h1;have h2:wtU u=u.name.length+u.row.length+pfx wtC u.code u.code.length:=rfl;have h3:us.length+pfx wtU us us.length≤100000000:=hb;omega
    have hcl:u.code.length≤100000000:=by
     have h1:=An wtU us (show k+1≤us.length from hkl);rw[Aj hu]at h1;have h2:wtU u=u.name.length+u.row.length+pfx wtC u.code u.code.length:=rfl;have h3:us.length+pfx wtU us us.length≤100000000:=hb;have h4:=AK (fun _:Cd=>1) wtC 1 (fun c=>by unfold wtC;omega) u.code u.code.length;have h5:=AT u.code u.code.length (Nat.le_refl _);omega
    have bx:=Blk.new wr [str u.name,.slice ra u.row.length rc,.slice ca u.code.length cc] 33;have gA:w.grownBy (wr.alloc (.cells [str u.name,.slice ra u.row.length rc,.slice ca u.code.length cc].toArray 33 (0,0))) none:=Y hG _;have HX:=D (I bx (I gA (I (hrow.gb gA (by simp)) hcode)));obtain⟨cs,hown,hrep⟩:=hO;have htk:(us.take k).length=k:=by simp;omega
    rw[htk]at hown;have HO:=D (I (I hown hrep) (I hG hu));have HT:=D (show us.take (k+1)=us.take k++[u]by rw[List.take_add_one,hu];rfl);clear hown hrep htk bx gA hrow hcode hG c0 c1 c2
    go_wp2_with (at_builtin;(first| ((refine AY rfl _ _ 30 rfl (wr.heap.size+1) 3 i0 (.int .i64 0) 1 8 underlying30 HI.out.1 HI.out.2.1 HI.out.2.2.1 HI.out.2.2.2 rfl (by decide) (.slice none 0 0) 0 [] rfl (At _ _ _ _) _ u.row.length (V u.row) ok rfl HX.out.2.2.1 (Cm _) (by unfold maxLen;omega) (by omega) (by simp) ?_;intro v6 w6 hown6 hgrow6;obtain⟨a6,c6,rfl⟩:=AF hown6;(have b6:=HX.out.1.gb hgrow6 (by simp[Value.ownBlock]));(have x1:=b6.cell 1);(have x2:=b6.cell 2);(have f6:=b6.frozen 1);(have l6:=b6.lt);(have H6:=D (I hown6 (I hgrow6 b6)));(have g70:wr.grownBy (w6.setCell ⟨wr.heap.size,1,none⟩ (.slice a6 u.row.length c6)) none:=Ad (M (World.grownBy_alloc wr _ none) hgrow6) (A2 (N w6 (some wr.heap.size)) 1 _) (fun q hq=>by cases hq;exact Nat.le_refl _));(have g7:=M HO.out.2.1 g70);(have r7:Cells (w6.setCell ⟨wr.heap.size,1,none⟩ (.slice a6 u.row.length c6)) (.slice a6 u.row.length c6) 1 u.row.length (V u.row) (Al (wr.heap.size+1)):=(Av (by simpa using hown6)).gb (A2 (N w6 (some wr.heap.size)) 1 _) (fun q hq _ e=>by have:wr.heap.size+1≤q:=hq;cases e;omega));(have H7:=D (I g7 (I (HX.out.2.2.2.gb g7 (by simp)) (show Blk (w6.setCell ⟨wr.heap.size,1,none⟩ (.slice a6 u.row.length c6)) wr.heap.size [str u.name,.slice a6 u.row.length c6,.slice ca u.code.length cc] 33 from(b6.set 1 _).of_eq rfl rfl))));(have HR7:=D (I g70 r7));clear hown6 hgrow6 b6 g7 g70 r7))| ((refine AY rfl _ _ 31 rfl (wr.heap.size+1) 35 j0 (.agg #[.int .i64 0,.int .i64 0,.int .i64 0,str []]) 4 40 underlying31 HJ.out.1 HJ.out.2.1 HJ.out.2.2.1 HJ.out.2.2.2 rfl (by decide) (.slice none 0 0) 0 [] rfl (At _ _ _ _) _ u.code.length (O u.code) ok rfl H7.out.2.1 (B4 _) (by unfold maxLen;omega) (by omega) (by have:=HR7.out.1.size;have:=H7.out.2.2.lt;omega) ?_;intro v8 w8 hown8 hgrow8;obtain⟨a8,c8,rfl⟩:=AF hown8;(have b8:=H7.out.2.2.gb hgrow8 (by simp[Value.ownBlock]));(have y0:=b8.cell 0);(have y1:=b8.cell 1);(have y2:=b8.cell 2);(have f8:=b8.frozen 2);(have l8:=b8.lt);(have g8:wr.grownBy (w8.setCell ⟨wr.heap.size,2,none⟩ (.slice a8 u.code.length c8)) none:=Ad (M HR7.out.1 hgrow8) (A2 (N w8 (some wr.heap.size)) 2 _) (fun q hq=>by cases hq;exact Nat.le_refl _));(have H8:=D (I g8 (I ((HR7.out.2.gb hgrow8 (by simp[Value.ownBlock])).gb (A2 (N w8 (some wr.heap.size)) 2 (.slice a8 u.code.length c8)) (fun q hq _ e=>by have:wr.heap.size+1≤q:=hq;cases e;omega)) ((Av (by simpa using hown8)).gb (A2 (N w8 (some wr.heap.size)) 2 (.slice a8 u.code.length c8)) (fun q hq _ e=>by have:wr.heap.size+1≤q:=hq;cases e;omega):Cells (w8.setCell ⟨wr.heap.size,2,none⟩ (.slice a8 u.code.length c8)) (.slice a8 u.code.length c8) 4 u.code.length (O u.code) (Al (wr.heap.size+1))))));clear hown8 hgrow8 b8 g8))| (go_loud(refine wpList_append_lies _ rfl _ _ 22 rfl w.heap.size 33 n0 (.agg #[str [],.slice none 0 0,.slice none 0 0]) 3 64 underlying22 HU.out.1 HU.out.2.1 HU.out.2.2.1 HU.out.2.2.2 rfl (by decide) _ k cs rfl (Ap HO.out.1.1 (Y H8.out.1 _) (by simp)) ⟨w8.heap.size,0,none⟩ 1 1 [str u.name,.slice a6 u.row.length c6,.slice a8 u.code.length c8] rfl rfl (by have h9:=Az (w8.setCell ⟨wr.heap.size,2,none⟩ (.slice a8 u.code.length c8)) [str u.name,.slice a6 u.row.length c6,.slice a8 u.code.length c8] 33;simpa[World.setCell]using h9) (by simp[Value.oneCell']) (by decide) (by unfold maxLen;omega) (by omega) (by have:=H8.out.1.size;simp[World.setCell]at this;simp[World.setCell];omega) _ rfl ?_;intro g10 cap10 w10 hown hgrow hat10 hlt10;(have HE:=D (I hown (I hgrow hat10)));clear hown hgrow hat10))))
    have hlt3:=HO.out.1.1.lt;have htk:(us.take k).length=k:=by simp;omega
    go_roundg gk
    case measure=>omega
    case rel=>
     refine⟨k+1,by omega,by go_num,?_,?_⟩
     ·rw[HT.out];refine OwnU.snoc (okx:=Al (wr.heap.size+1)) (HO.out.1.2.gb (Y H8.out.1 _) (by simp)) (H8.out.2.1.gb (World.grownBy_alloc _ _ none) (by simp)) (H8.out.2.2.gb (World.grownBy_alloc _ _ none) (by simp)) (fun q hq _=>⟨by have:wr.heap.size+1≤q:=hq;omega,fun e=>by have:wr.heap.size+1≤q:=hq;have:=(hlt3 q e).2;omega⟩) (by rw[htk];exact HE.out.1) HE.out.2.1 (fun q e=>?_);simp only[Value.ownBlock,Option.some.injEq]at e;rw[←e];rcases HE.out.2.2 with h9|h9
      ·exact .inl h9
      ·exact .inr (Nat.le_of_eq h9.symm)
     ·exact Ad (M HO.out.2.1 (Y H8.out.1 _)) HE.out.2.1 (fun q e=>(hlt3 q e).1)
end Go.Proofs.YtahbajmkhjngiaaGreatDoor
