/-
  Code: a text between quotes, the reference's. CdJ Code: its lines, as a text. CdK RlM Up LexD LexE LexF LexG LexH LexI MapI Inv StmC StmE ProA WrO WrS Code: its lines, the program's.
-/
import Derived.Test.YtbjfaimkiclhgaaGreatDoorCt06
import Derived.Test.YtbjfaimkiclhgaaGreatDoorCt04
import Derived.IntWalk
import Derived.Test.YtbjfaimkiclhgaaGreatDoorCt03
import Derived.Lib.SliceRun
import Derived.Laws.AppendOwn
import Derived.Laws.OwnMore
import Derived.Test.YtbjfaimkiclhgaaGreatDoorCt05
import Derived.Shelf.Strings.CaseAny
import Derived.Lib.MapLaws
import Derived.Test.YtbjfaimkiclhgaaGreatDoorCt02
import Derived.Lib.ItoaLen
set_option linter.all false
set_option maxRecDepth 100000
set_option maxHeartbeats 8000000
namespace Go.Proofs.YtbjfaimkiclhgaaGreatDoor
open Go.Proofs.Tryz
open Go.RowKit
variable{w w1 wr w':World}{B n k i b H:Nat}{l:List (Bs×Value)}{α:Type}{t s:Bs}{v:Value}{r:Bool}{a:UInt8}{Q:Exit->Act->World->Prop}{ok:Nat->Prop}{P:Program}{listed:Array Bool}{cs:List Value}{day:Bs->Int}{E:Nat->Res Ex}{c:Cd}{u:Un}{us:List Un}
def YL(w:World)(cs:List Value)(t:TypeId)(n:Nat)(hn:cs.length=n)(hm:n<=maxLen):(w.alloc (.cells cs.toArray t (0,0))).ownsRow w.heap.size t 1 (.slice (some ⟨w.heap.size,0,none⟩) n n) n cs:=
 ⟨by omega,.inr ⟨w.heap.size,n,cs.toArray,rfl,nR _,heap_alloc_new _ _,nR _,hm,by simp[hn],by simp[<-hn]⟩⟩
def F0(n:Nat)(hn:n<16)(h:n<(⟨#[48,49,50,51,52,53,54,55,56,57,97,98,99,100,101,102]⟩:ByteArray).size):(⟨#[48,49,50,51,52,53,54,55,56,57,97,98,99,100,101,102]⟩:ByteArray)[n]'h=A3 n:=by
 have hh:n=0\/n=1\/n=2\/n=3\/n=4\/n=5\/n=6\/n=7\/n=8\/n=9\/n=10\/n=11\/n=12\/n=13\/n=14\/n=15:=by omega
 rcases hh with rfl|rfl|rfl|rfl|rfl|rfl|rfl|rfl|rfl|rfl|rfl|rfl|rfl|rfl|rfl|rfl<;>rfl
def J3{g:Nat}{l:Bs}(cap:Nat)(h:w.ownsRow B 5 1 (.slice (some ⟨g,0,none⟩) n cap) l.length (AC l)):
 (convert 84 9 (.slice (some ⟨g,0,none⟩) n cap)).run Tryz.prog w= .ok (str l) w:=by
 have hn:n=l.length:=by
  rcases h.2 with⟨h1,_⟩| ⟨g',cap',cur,h1,_⟩
  ·cases h1
  ·cases h1;rfl
 subst hn;have hb:=run_convert_bytes_back (P:=Tryz.prog) w 84 9 5 ⟨g,0,none⟩ cap l underlying84 underlying5 underlying9 (by
  intro j hj;have:=h.cells (g:=g) rfl j (.int .u8 l[j].toNat) (by simp[AC,hj]);exact this)
 exact hb
def LK(s:Bs)(hs:s.length<=1000000000)(w:World):
 Calls Tryz.prog 50 #[str s] w (ρ w (str (qtM s))):=by
 have hsz:(⟨s.toArray⟩:ByteArray).size=s.length:=by simp[ByteArray.size]
 obtain⟨i0,hi0,hz0,hz1,hz2⟩:=info_parts G7;have HI:=S (X hi0 (X hz0 (X hz1 hz2)));have H0:=S (X (YL w [.int .u8 34] 5 1 rfl (by decide)) (gZ w (.cells [.int .u8 34].toArray 5 (0,0)) none));clear hi0 hz0 hz1 hz2;go_enter func50,ntmps50;go_wp2_with fail;go_loopg [3,4,5] s.length (λg v3 v4 v5 wr=>∃k:Nat,k+g=s.length/\v4= .int .i64 k/\wr.ownsRow w.heap.size 5 1 v3 (Bi s k).length (AC (Bi s k))/\w.grownBy wr none)
 case atStart=>exact⟨0,by omega,rfl,H0.1.1,H0.1.2⟩
 case round=>
  obtain⟨k,hk,rfl,hO,hG⟩:=hrel;clear H0;have hql:=K4 s k;have hgs:=hG.size;cases gk with
  | zero=>
    have hkl:k=s.length:=by omega
    have hj1:decide (k<s.length)=false:=by simp;omega
    subst hkl;have HO:=S (X hO hG);clear hO hG;go_wp2_with (at_builtin;go_loud(refine wpList_append_lies _ rfl _ _ 84 rfl w.heap.size 5 i0 (.int .u8 0) 1 1 underlying84 HI.1.1 HI.1.2.1 HI.1.2.2.1 HI.1.2.2.2 rfl (by decide) u3 (Bi s s.length).length (AC (Bi s s.length)) rfl (Cr HO.1.1 (gZ _ _ none) (by simp)) ⟨wr.heap.size,0,none⟩ 1 1 [.int .u8 34] rfl rfl (AY _ _ _) (by simp[Value.oneCell']) (by decide) (by unfold maxLen;omega) (by omega) (by simp<;>omega) _ rfl ?_;intro g cap w6 hown hgrow hat hlt;(have HX:=S (X hown hgrow));(have hback:=J3 cap (show w6.ownsRow w.heap.size 5 1 (.slice (some ⟨g,0,none⟩) ((Bi s s.length).length+1) cap) (qtM s).length (AC (qtM s))by simpa[AC,qtM]using hown));clear hown hgrow hat));go_ret;exact⟨rfl,Dw (Z HO.1.2 (gZ _ _ _)) HX.1.2 (λx hx=>(HO.1.1.lt x hx).1)⟩
  | succ gk=>
    have hkl:k<s.length:=by omega
    have hj1:decide (k<s.length)=true:=by simp;omega
    have hgk:=λh=>Fz s k h hkl;have hc256:=s[k].toNat_lt;have HO:=S (X hO hG);clear hO hG;have HQ:=S (show Bi s (k+1)=Bi s k++qtB s[k]by rw[Bi,CC hkl]);generalize s[k]=c at*;by_cases h3:c.toNat=34
    ·have i4:((c.toNat:Int)==34)=true:=by simp;omega
     have HE:=S (show qtB c=[37,A3 (c.toNat/16),A3 (c.toNat%16)]by rw[qtB,if_pos (by simp[Ch,h3])]);clear h3;have hw1:IntKind.u8.wrap ((c.toNat:Int)/16)=((c.toNat/16:Nat):Int):=by
      rw[IntWalk.u8_in _ (by omega)];omega
     have hw2:((c.toNat:Int)).tmod 16=((c.toNat%16:Nat):Int):=by
      rw[Int.tmod_eq_emod_of_nonneg (by omega)];omega
     have hy1:c.toNat/16<16:=BQ.1;have hy2:c.toNat%16<16:=BQ.2;generalize c.toNat/16=q at*;generalize c.toNat%16=r at*;have hx1:=λh=>F0 q hy1 h;have hx2:=λh=>F0 r hy2 h;have hz1:(q:Int)<16:=by omega
     have hz2:(r:Int)<16:=by omega
     go_wp2_with fail;go_region_law((refine step_append_lies _ (by rfl) _ _ 84 (by rfl) w.heap.size 5 i0 (.int .u8 0) 1 1 underlying84 HI.1.1 HI.1.2.1 HI.1.2.2.1 HI.1.2.2.2 rfl (by decide) u3 (Bi s k).length (AC (Bi s k)) (by rfl) (Cr HO.1.1 (Ac (Ae (Aa _ none)) _) (by simp)) ⟨wr.heap.size,0,none⟩ 3 3 [.int .u8 37,.int .u8 (A3 q).toNat,.int .u8 (A3 r).toNat] (by rfl) rfl (World.news_of_block (heap_alloc_new _ _)) (by simp[Value.oneCell']) (by decide) (by unfold maxLen;omega) (by omega) (by simp<;>omega) _ rfl ?_;intro g cap w6 hown hgrow hat hlt;(have HX:=S (X hown hgrow));clear hown hgrow hat));all_goals
      go_wp2;go_roundg gk
      case measure=>omega
      case rel=>exact⟨k+1,by omega,by go_num,by rw[HQ.1,HE.1,lA];simpa[AC]using HX.1.1,Dw (Z HO.1.2 (Ac (Ae (Aa _ _)) _)) HX.1.2 (λx hx=>(HO.1.1.lt x hx).1)⟩
    by_cases h4:c.toNat=37
    ·have i4:((c.toNat:Int)==34)=false:=by simp;omega
     have i5:((c.toNat:Int)==37)=true:=by simp;omega
     have HE:=S (show qtB c=[37,A3 (c.toNat/16),A3 (c.toNat%16)]by rw[qtB,if_pos (by simp[Ch,h4])]);clear h4;have hw1:IntKind.u8.wrap ((c.toNat:Int)/16)=((c.toNat/16:Nat):Int):=by
      rw[IntWalk.u8_in _ (by omega)];omega
     have hw2:((c.toNat:Int)).tmod 16=((c.toNat%16:Nat):Int):=by
      rw[Int.tmod_eq_emod_of_nonneg (by omega)];omega
     have hy1:c.toNat/16<16:=BQ.1;have hy2:c.toNat%16<16:=BQ.2;generalize c.toNat/16=q at*;generalize c.toNat%16=r at*;have hx1:=λh=>F0 q hy1 h;have hx2:=λh=>F0 r hy2 h;have hz1:(q:Int)<16:=by omega
     have hz2:(r:Int)<16:=by omega
     go_wp2_with fail;go_region_law((refine step_append_lies _ (by rfl) _ _ 84 (by rfl) w.heap.size 5 i0 (.int .u8 0) 1 1 underlying84 HI.1.1 HI.1.2.1 HI.1.2.2.1 HI.1.2.2.2 rfl (by decide) u3 (Bi s k).length (AC (Bi s k)) (by rfl) (Cr HO.1.1 (Ac (Ae (Aa _ none)) _) (by simp)) ⟨wr.heap.size,0,none⟩ 3 3 [.int .u8 37,.int .u8 (A3 q).toNat,.int .u8 (A3 r).toNat] (by rfl) rfl (World.news_of_block (heap_alloc_new _ _)) (by simp[Value.oneCell']) (by decide) (by unfold maxLen;omega) (by omega) (by simp<;>omega) _ rfl ?_;intro g cap w6 hown hgrow hat hlt;(have HX:=S (X hown hgrow));clear hown hgrow hat));all_goals
      go_wp2;go_roundg gk
      case measure=>omega
      case rel=>exact⟨k+1,by omega,by go_num,by rw[HQ.1,HE.1,lA];simpa[AC]using HX.1.1,Dw (Z HO.1.2 (Ac (Ae (Aa _ _)) _)) HX.1.2 (λx hx=>(HO.1.1.lt x hx).1)⟩
    by_cases h1:c.toNat<32
    ·have i4:((c.toNat:Int)==34)=false:=by simp;omega
     have i5:((c.toNat:Int)==37)=false:=by simp;omega
     have i1:(c.toNat:Int)<32:=by omega
     have HE:=S (show qtB c=[37,A3 (c.toNat/16),A3 (c.toNat%16)]by rw[qtB,if_pos (by simp[Ch,h1])]);have hw1:IntKind.u8.wrap ((c.toNat:Int)/16)=((c.toNat/16:Nat):Int):=by
      rw[IntWalk.u8_in _ (by omega)];omega
     have hw2:((c.toNat:Int)).tmod 16=((c.toNat%16:Nat):Int):=by
      rw[Int.tmod_eq_emod_of_nonneg (by omega)];omega
     have hy1:c.toNat/16<16:=BQ.1;have hy2:c.toNat%16<16:=BQ.2;generalize c.toNat/16=q at*;generalize c.toNat%16=r at*;have hx1:=λh=>F0 q hy1 h;have hx2:=λh=>F0 r hy2 h;have hz1:(q:Int)<16:=by omega
     have hz2:(r:Int)<16:=by omega
     go_wp2_with fail;go_region_law((refine step_append_lies _ (by rfl) _ _ 84 (by rfl) w.heap.size 5 i0 (.int .u8 0) 1 1 underlying84 HI.1.1 HI.1.2.1 HI.1.2.2.1 HI.1.2.2.2 rfl (by decide) u3 (Bi s k).length (AC (Bi s k)) (by rfl) (Cr HO.1.1 (Ac (Ae (Aa _ none)) _) (by simp)) ⟨wr.heap.size,0,none⟩ 3 3 [.int .u8 37,.int .u8 (A3 q).toNat,.int .u8 (A3 r).toNat] (by rfl) rfl (World.news_of_block (heap_alloc_new _ _)) (by simp[Value.oneCell']) (by decide) (by unfold maxLen;omega) (by omega) (by simp<;>omega) _ rfl ?_;intro g cap w6 hown hgrow hat hlt;(have HX:=S (X hown hgrow));clear hown hgrow hat));all_goals
      go_wp2;go_roundg gk
      case measure=>omega
      case rel=>exact⟨k+1,by omega,by go_num,by rw[HQ.1,HE.1,lA];simpa[AC]using HX.1.1,Dw (Z HO.1.2 (Ac (Ae (Aa _ _)) _)) HX.1.2 (λx hx=>(HO.1.1.lt x hx).1)⟩
    by_cases h2:126<c.toNat
    ·have i4:((c.toNat:Int)==34)=false:=by simp;omega
     have i5:((c.toNat:Int)==37)=false:=by simp;omega
     have i1:¬(c.toNat:Int)<32:=by omega
     have i2:126<(c.toNat:Int):=by omega
     have HE:=S (show qtB c=[37,A3 (c.toNat/16),A3 (c.toNat%16)]by rw[qtB,if_pos (by simp[Ch,h2])]);have hw1:IntKind.u8.wrap ((c.toNat:Int)/16)=((c.toNat/16:Nat):Int):=by
      rw[IntWalk.u8_in _ (by omega)];omega
     have hw2:((c.toNat:Int)).tmod 16=((c.toNat%16:Nat):Int):=by
      rw[Int.tmod_eq_emod_of_nonneg (by omega)];omega
     have hy1:c.toNat/16<16:=BQ.1;have hy2:c.toNat%16<16:=BQ.2;generalize c.toNat/16=q at*;generalize c.toNat%16=r at*;have hx1:=λh=>F0 q hy1 h;have hx2:=λh=>F0 r hy2 h;have hz1:(q:Int)<16:=by omega
     have hz2:(r:Int)<16:=by omega
     go_wp2_with fail;go_region_law((refine step_append_lies _ (by rfl) _ _ 84 (by rfl) w.heap.size 5 i0 (.int .u8 0) 1 1 underlying84 HI.1.1 HI.1.2.1 HI.1.2.2.1 HI.1.2.2.2 rfl (by decide) u3 (Bi s k).length (AC (Bi s k)) (by rfl) (Cr HO.1.1 (Ac (Ae (Aa _ none)) _) (by simp)) ⟨wr.heap.size,0,none⟩ 3 3 [.int .u8 37,.int .u8 (A3 q).toNat,.int .u8 (A3 r).toNat] (by rfl) rfl (World.news_of_block (heap_alloc_new _ _)) (by simp[Value.oneCell']) (by decide) (by unfold maxLen;omega) (by omega) (by simp<;>omega) _ rfl ?_;intro g cap w6 hown hgrow hat hlt;(have HX:=S (X hown hgrow));clear hown hgrow hat));all_goals
      go_wp2;go_roundg gk
      case measure=>omega
      case rel=>exact⟨k+1,by omega,by go_num,by rw[HQ.1,HE.1,lA];simpa[AC]using HX.1.1,Dw (Z HO.1.2 (Ac (Ae (Aa _ _)) _)) HX.1.2 (λx hx=>(HO.1.1.lt x hx).1)⟩
    have i4:((c.toNat:Int)==34)=false:=by simp;omega
    have i5:((c.toNat:Int)==37)=false:=by simp;omega
    have i1:¬(c.toNat:Int)<32:=by omega
    have i2:¬126<(c.toNat:Int):=by omega
    have HE:=S (show qtB c=[c]by rw[qtB,if_neg (by simp[Ch,h1,h2,h3,h4])]);go_wp2_with (at_builtin;go_loud(refine wpList_append_lies _ rfl _ _ 84 rfl w.heap.size 5 i0 (.int .u8 0) 1 1 underlying84 HI.1.1 HI.1.2.1 HI.1.2.2.1 HI.1.2.2.2 rfl (by decide) u3 (Bi s k).length (AC (Bi s k)) rfl (Cr HO.1.1 (gZ _ _ none) (by simp)) ⟨wr.heap.size,0,none⟩ 1 1 [.int .u8 c.toNat] rfl rfl (AY _ _ _) (by simp[Value.oneCell']) (by decide) (by unfold maxLen;omega) (by omega) (by simp<;>omega) _ rfl ?_;intro g cap w6 hown hgrow hat hlt;(have HX:=S (X hown hgrow));clear hown hgrow hat));go_roundg gk
    case measure=>omega
    case rel=>exact⟨k+1,by omega,by go_num,by rw[HQ.1,HE.1,lA];simpa[AC]using HX.1.1,Dw (Z HO.1.2 (gZ _ _ _)) HX.1.2 (λx hx=>(HO.1.1.lt x hx).1)⟩
def Ob:(Tryz.prog.info? 61).map (λi=>(i.zero,i.size,i.bytes))=some (some (.agg #[.int .i64 0,.int .i64 0,.int .i64 0,str []]),4,40):=by kernel_rfl
def A4{α:Type}(f:α->Bs)(l:List α):Nat->Bs
 | 0=>[]
 |k+1=>A4 f l k++(match l[k]? with|some x=>f x|none=>[])
def Gr{f:α->Bs}{l:List α}{x:α}(h:l[k]? =some x):A4 f l (k+1)=A4 f l k++f x:=by simp[A4,h]
def La(f g:α->Nat)(c:Nat)(h:∀x,f x<=c*g x)(l:List α)(k:Nat):pfx f l k<=c*pfx g l k:=by
 induction k with
 |zero=>simp[pfx]
 | succ k ih=>
   rw[pfx,pfx,Nat.mul_add];cases l[k]? with
   |none=>simpa using ih
   |some x=>have:=h x;simp only;omega
def A1(n:Int):Bs:=32::Lib.itoa n
def Bc(c:Cd):Bs:=Lib.itoa c.op++[32]++Lib.itoa c.a++[32]++Lib.itoa c.b++[32]++qtM c.s++[10]
def BK(u:Un):Bs:=[117,110,105,116,32]++qtM u.name
def AZ(u:Un):Bs:=BK u++A4 A1 u.row u.row.length++[10]++A4 Bc u.code u.code.length
def AP(us:List Un):Bs:=A4 AZ us us.length
def GA(s:Bs):(qtM s).length<=3*s.length+2:=by
 have:=K4 s s.length;rw[qtM,lA];simp;omega
def Od:(Tryz.prog.info? 58).map (λi=>(i.zero,i.size,i.bytes))=some (some (.agg #[str [],.slice none 0 0,.slice none 0 0]),3,64):=by kernel_rfl
def JM{t:TypeId}{xs:List Value}(h:w.ownsRow B t k v n xs):∃a c,v= .slice a n c:=by
 rcases h.2 with⟨rfl,rfl⟩| ⟨g,cap,cur,rfl,_⟩
 ·exact⟨_,_,rfl⟩
 ·exact⟨_,_,rfl⟩
def YQ(l:List α)(k:Nat)(h:k<=l.length):pfx (λ_=>1) l k=k:=by
 induction k with
 |zero=>rfl
 |succ k ih=>rw[C5 (AQ h),ih (by omega)]
open Go.Lib
def Ty(x:Int)(h:∀b∈encodeRune x,b.toNat<128):(0<=x/\x<=127)/\encodeRune x=[x.toNat.toUInt8]:=by
 have hz:∀y∈encodeRuneZ x,y<128:=by
  intro y hy;have hb:=encodeRuneZ_byte x y hy;have:=h y.toNat.toUInt8 (List.mem_map.2 ⟨y,hy,rfl⟩);simp[UInt8.toNat_ofNat']at this;omega
 by_cases h0:0<=x/\x<=127
 ·exact⟨h0,by simp[encodeRune,encodeRuneZ_one h0.1 h0.2]⟩
 ·exfalso;by_cases h1:128<=x/\x<=2047
  ·have:=hz (192+x/64) (by rw[encodeRuneZ_two h1.1 h1.2];simp);omega
  ·by_cases h2:(2048<=x/\x<55296)\/(57343<x/\x<=65535)
   ·have:=hz (224+x/4096) (by rw[encodeRuneZ_three h2];simp);omega
   ·by_cases h3:65536<=x/\x<=1114111
    ·have:=hz (240+x/262144) (by rw[encodeRuneZ_four h3.1 h3.2];simp);omega
    ·have:=hz 239 (by rw[encodeRuneZ_bad (by omega)];simp);omega
def Y1:toUpperU 65533=65533:=by decide+kernel
def RI{l:List UInt8}(hne:l≠[])(h1:(decodeL l).2=1):(decodeL l).1=65533\/∀b∈l.take 1,b.toNat<128:=by
 by_cases hv:(decodeL l).1=65533
 ·exact .inl hv
 ·refine .inr ?_;have he:=encode_decode l hne (λh=>hv h.1);rw[h1]at he;by_cases h0:((decodeL l).1:Int)<=127
  ·rw[<-he];intro b hb;rw[encodeRune,encodeRuneZ_one (by omega) h0]at hb;simp at hb;subst hb;simp[UInt8.toNat_ofNat'];omega
  ·exfalso;have hlen:(encodeRune ((decodeL l).1:Int)).length<=1:=by rw[he];simp;omega
   generalize((decodeL l).1:Int)=x at*;unfold encodeRune at hlen;rw[List.length_map]at hlen;by_cases h1:128<=x/\x<=2047
   ·rw[encodeRuneZ_two h1.1 h1.2]at hlen;simp at hlen
   ·by_cases h2:(2048<=x/\x<55296)\/(57343<x/\x<=65535)
    ·rw[encodeRuneZ_three h2]at hlen;simp at hlen
    ·by_cases h3:65536<=x/\x<=1114111
     ·rw[encodeRuneZ_four h3.1 h3.2]at hlen;simp at hlen
     ·rw[encodeRuneZ_bad (by omega)]at hlen;simp at hlen
def RJ(l:List UInt8):1<=(decodeL l).2:=by
 unfold decodeL Utf8.decode;simp only[];repeat' split
 all_goals simp
def UX:∀(n:Nat)(l:List UInt8),l.length<=n->(∀b∈toUpperD l,b.toNat<128)->(toUpperD l).length<=l.length/\((toUpperD l).length=l.length->∀b∈l,b.toNat<128):=by
 intro n;induction n with
 | zero=>
   intro l hl _;have:l=[]:=List.eq_nil_of_length_eq_zero (by omega);subst this;exact⟨nR _,by simp⟩
 | succ n ih=>
   intro l hl h;by_cases hne:l=[]
   ·subst hne;exact⟨nR _,by simp⟩
   ·have hp:=RJ l;have hk:=decodeL_le l hne;have hlen:0<l.length:=List.length_pos_iff.2 hne;unfold toUpperD at h ⊢;rw[mapD_step _ _ hne]at h ⊢;have ih':=ih (l.drop (decodeL l).2) (by simp;omega);unfold toUpperD at ih';have h2:=ih' (λb hb=>h b (List.mem_append.2 (.inr hb)));rw[List.length_drop]at h2;by_cases h0:0<=toUpperU (decodeL l).1
    ·rw[if_pos h0]at h ⊢;obtain⟨hx,he⟩:=Ty _ (λb hb=>h b (List.mem_append.2 (.inl hb)));rw[he];simp only[lA,List.length_cons,List.length_nil];refine⟨by omega,λe=>?_⟩;have hk1:(decodeL l).2=1:=by omega
     rcases RI hne hk1 with h3|h3
     ·rw[h3]at hx;have:=Y1;simp at hx;omega
     ·intro b hb;rw[hk1]at h2;rw[<-List.take_append_drop 1 l]at hb;rcases List.mem_append.1 hb with hb|hb
      ·exact h3 b hb
      ·exact h2.2 (by rw[hk1]at e;omega) b hb
    ·rw[if_neg h0];simp only[List.nil_append];exact⟨by omega,λe=>by omega⟩
def Ri(b:UInt8)(h:128<=b.toNat):upperB b=b:=by
 unfold upperB isLowerB;split
 ·rename_i h1;simp[UInt8.le_iff_toNat_le]at h1;omega
 ·rfl
def TH(x w:List UInt8)(hl:x.length=w.length)(hw:∀b∈w,b.toNat<128):(toUpperD x==w)=(toUpperA x==w):=by
 by_cases ha:∀b∈x,b.toNat<128
 ·rw[toUpperD_ascii x ha]
 ·have h1 : toUpperA x ≠ w := by
   rintro rfl;apply ha;intro b hb;by_cases hh:b.toNat<128
   ·exact hh
   ·exact absurd (hw (upperB b) (List.mem_map.2 ⟨b,hb,rfl⟩)) (by rw[Ri b (by omega)];exact hh)
  have h2:toUpperD x≠w:=by
   intro e;apply ha;exact(UX x.length x (nR _) (by rw[e];exact hw)).2 (by rw[e,hl])
  rw[beq_eq_false_iff_ne.2 h1,beq_eq_false_iff_ne.2 h2]
structure Tabs(B:Nat)(w:World):Prop where
 utf8:Lib.Utf8Tabs 6 7 w
 low:11<=B
 case:∃R oR cap,R<B/\w.cell? ⟨10,0,none⟩=some (.slice (some ⟨R,oR,none⟩) Lib.caseA.size cap)/\Lib.CaseTab R oR Lib.caseA w
 glob:Glob w
def Tabs.gb{r:Option Nat}(h:Tabs B w)(g:w.grownBy w1 r)(hr:∀k,r=some k->B<=k):Tabs B w1:=by
 have hlow:=h.low;have hne:∀k,k<B->some k≠r:=λk hk e=>by have:=hr k e.symm;omega
 refine⟨⟨λc hc=>B3 g (h.utf8.1 c hc) (hne _ (by omega)),λi hi=>⟨B3 g (h.utf8.2 i hi).1 (hne _ (by omega)),B3 g (h.utf8.2 i hi).2 (hne _ (by omega))⟩⟩,hlow,?_,h.glob.gb g (hne _ (by omega))⟩;obtain⟨R,oR,cap,hR,hc,ht⟩:=h.case;refine⟨R,oR,cap,hR,B3 g hc (hne _ (by omega)),λi hi=>?_⟩;have:=ht i hi;exact⟨B3 g this.1 (hne _ hR),B3 g this.2.1 (hne _ hR),B3 g this.2.2.1 (hne _ hR),B3 g this.2.2.2.1 (hne _ hR),B3 g this.2.2.2.2 (hne _ hR)⟩
def Tabs.gbN(h:Tabs B w)(g:w.grownBy w1 none):Tabs B w1:=h.gb g (by simp)
def Tabs.caseV(h:Tabs B w):Lib.CaseVar 10 Lib.caseA w:=by
 obtain⟨R,oR,cap,_,hc,ht⟩:=h.case;exact⟨R,oR,cap,hc,ht⟩
def UZ(h:Tabs B w)(s:Bs)(hs:s.length<=1000000):
 Calls Tryz.prog 291 #[.string ⟨s.toArray⟩] w (ρ w (str (Lib.toUpperD s))):=by
 refine(strings_ToUpper_any ⟨s.toArray⟩ w (by simp[ByteArray.size];omega) h.caseV h.utf8).mono ?_;rintro e w' ⟨rfl,hb⟩;exact⟨rfl,gbB hb none⟩
def JC(h:Tabs B w)(s:Bs)(i j:Nat)(hs:s.length<=4000):
 Calls Tryz.prog 291 #[.string ((⟨s.toArray⟩:ByteArray).extract i j)] w (ρ w (str (Lib.toUpperD (A5 s i j)))):=by
 rw[CY];exact UZ h _ (by simp;omega)
def Vx(w:World):Calls Tryz.prog 319 #[] w λe w'=>e= .returned (.slice (some ⟨w.heap.size,0,none⟩) 38 38)/\w'=w.alloc (.cells (signsL.map str).toArray 9 (0,0)):=by
 go_enter func319,ntmps319;go_wp2;go_ret;exact⟨rfl,rfl⟩
def TokPost(w:World)(b:Nat)(s:Bs)(r:St)(e:Ending)(w':World):Prop:=
 w.grownBy w' (some b)/\match r with
  | .tok t j l=>e= .returned (.tuple #[AR t,.bool true])/\Sc w' b s j l l (-1)
  | .bad k=>(∃t,e= .returned (.tuple #[AR t,.bool false]))/\∃j l,Sc w' b s j l l k
  |_=>False
def Blk.set3{a0 a1 a2:Value}{t:TypeId}(h:Blk w k [a0,a1,a2] t)(v0 v1 v2:Value):Blk (((w.setCell ⟨k,0,none⟩ v0).setCell ⟨k,1,none⟩ v1).setCell ⟨k,2,none⟩ v2) k [v0,v1,v2] t:=
 (((h.set 0 v0).set 1 v1).set 2 v2).of_eq rfl rfl
def Cc{fn:Func}{p q:Tmp}(h:fn.results=#[.cell p 250,.tmp q])(tmps:Array Value){t:Tok}(hb:Blk w k [.int .i64 t.kind,.int .i64 t.pos,str t.text] 250)
 (hp:tmps.getD p undef= .pointer (some ⟨k,0,none⟩)) (hq:tmps.getD q undef= .bool r):(results fn tmps).run Tryz.prog w= .ok (.tuple #[AR t,.bool r]) w:=by
 have c0:=hb.cell' 0 rfl;have c1:=hb.cell' 1 rfl;have c2:=hb.cell' 2 rfl;have hp':tmps[p]?.getD undef= .pointer (some ⟨k,0,none⟩):=by simpa using hp
 have hq':tmps[q]?.getD undef= .bool r:=by simpa using hq
 simp[results,h,hp',hq',go_sem,c0,c1,c2]
def Jl(s:Bs)(i:Nat):St:=match EP s i with
 |some x=> .tok ⟨4,i,x⟩ (i+x.length) true
 |none=> .bad i
def SA(h:∀j,(hj:j<signsL.length)->D7 s i signsL[j]=false):EP s i=none:=by
 rw[EP,List.find?_eq_none];intro x hx;obtain⟨j,hj,rfl⟩:=List.mem_iff_getElem.1 hx;rw[h j hj];simp
def SB(hk:k<signsL.length)(h:∀j,(hj:j<k)->D7 s i (signsL[j]'(by omega))=false)(hx:D7 s i signsL[k]=true):EP s i=some signsL[k]:=by
 rw[EP,List.find?_eq_some_iff_getElem];exact⟨hx,k,hk,rfl,λj hj=>by rw[h j hj];simp⟩
def PZ{w:Bs}(h:w∈signsL):∀b∈w,b.toNat<128:=by
 have h0:signsL.all (λw=>w.all λb=>decide (b.toNat<128))=true:=by decide
 have h1:=List.all_eq_true.1 h0 w h;intro b hb;simpa using List.all_eq_true.1 h1 b hb
def Lv(hk:k<signsL.length)(he:i+signsL[k].length<=s.length)(h:D7 s i signsL[k]=r):(Lib.toUpperD (A5 s i (i+signsL[k].length))==signsL[k])=r:=by
 have h1:D7 s i signsL[k]=(Lib.toUpperA (A5 s i (i+signsL[k].length))==signsL[k]):=by simp[D7,he]
 rw[TH _ _ (by rw[EZ (by omega) he];omega) (PZ (List.getElem_mem hk)),<-h1,h]
structure SignRel(w:World)(b:Nat)(s:Bs)(i:Nat)(k:Nat)(wr:World):Prop where
 sc:Sc wr b s i true true (-1)
 tok:Blk wr w.heap.size [.int .i64 4,.int .i64 i,str []] 250
 res:Blk wr (w.heap.size+1) [.int .i64 0,.int .i64 0,str []] 250
 row:Blk wr (w.heap.size+2) (signsL.map str) 9
 no:∀j,(hj:j<k)->(hl:j<signsL.length)->D7 s i signsL[j]=false
 g:w.grownBy wr none
 tabs:Tabs b wr
def SignRel.go(h:SignRel w b s i k wr)(hk:k<signsL.length)(hx:D7 s i signsL[k]=false)(g:wr.grownBy w1 none):SignRel w b s i (k+1) w1:=
 ⟨h.sc.gbN g,h.tok.gb g (by simp),h.res.gb g (by simp),h.row.gb g (by simp),λj hj hl=>by
  by_cases e:j=k
  ·subst e;exact hx
  ·exact h.no j (by omega) hl,Ag h.g g,h.tabs.gbN g⟩
def WN(h:Sc w b s i true true (-1))(ht:Tabs b w):
 Calls Tryz.prog 295 #[.pointer (some ⟨b,0,none⟩),AR ⟨0,i,[]⟩] w (TokPost w b s (Jl s i)):=by
 have hb:=h.lt;have hA:SignRel w b s i 0 (((w.alloc (.cells #[.int .i64 4,.int .i64 i,str []] 250 (0,0))).alloc (.cells #[.int .i64 0,.int .i64 0,str []] 250 (0,0))).alloc (.cells (signsL.map str).toArray 9 (0,0))):=by
  have g:w.grownBy (((w.alloc (.cells #[.int .i64 4,.int .i64 i,str []] 250 (0,0))).alloc (.cells #[.int .i64 0,.int .i64 0,str []] 250 (0,0))).alloc (.cells (signsL.map str).toArray 9 (0,0))) none:=Ac (Ac (gZ w _ none) _) _;exact⟨h.gbN g,((Blk.new w _ _).alloc _).alloc _,((Blk.new _ [.int .i64 0,.int .i64 0,str []] _).of_eq (by simp) rfl).alloc _,(Blk.new _ (signsL.map str) _).of_eq (by simp) rfl,λj hj=>by omega,g,ht.gbN g⟩
 go_enter func295,ntmps295;go_wp2_with fail;refine(Vx _).mono ?_;rintro e w1 ⟨rfl,rfl⟩;go_wp2_with fail;go_loopg [7,8,12] 38 (λg v7 v8 v12 wr=>∃k:Nat,k+g=38/\v12= .int .i64 k/\SignRel w b s i k wr)
 case atStart=>exact⟨0,rfl,rfl,hA⟩
 case round=>
  obtain⟨k,hk,rfl,hr⟩:=hrel;clear hA h ht;have hsc:=hr.sc;have c0:=hsc.c0;have c1:=hsc.c1;have hb1:=hsc.lt;have hf:=hsc.few;have hi:=hsc.le;have gwx:=hr.g.size;have hlt:=hr.row.lt;cases gk with
  | zero=>
    have e:k=38:=by omega
    subst e;have HM:=S (SA (s:=s) (i:=i) (λj hj=>hr.no j hj hj));have t0:=hr.tok.cell' 0 rfl;have t1:=hr.tok.cell' 1 rfl;have t2:=hr.tok.cell' 2 rfl;have r0:=hr.res.cell' 0 rfl;have r1:=hr.res.cell' 1 rfl;have r2:=hr.res.cell' 2 rfl;have rf:=λk=>hr.res.frozen k;have f260:=hsc.fr 260;have c260:=hsc.c260;have hs1:=hsc.setBad (i:Int);go_wp2;refine bZ (Cc (t:=⟨4,i,[]⟩) (r:=false) rfl _ ((hr.res.set_other _ _ (by simp;omega)).set3 _ _ _) rfl rfl) rfl ⟨?_,?_⟩
    ·have g:=A2 (r:=some b) hr.g;clear hs1;exact(by repeat(first| (with_reducible assumption)| ((with_reducible refine Af ?_ _ _ ?h2);case h2=>first|exact .inl rfl|exact .inr (by simp<;>omega))))
    ·unfold Jl;rw[HM.1];exact⟨⟨_,rfl⟩,i,true,(by repeat(first| (with_reducible assumption)| (with_reducible apply Sc.set_other)| (simp<;>omega)))⟩
  | succ gk=>
    have hkl:k<signsL.length:=by show k<38;omega
    have ck:=(hr.row.cell k).trans (show(signsL.map str)[k]? =some (str signsL[k])by simp[hkl]);have hx6:=JS (List.getElem_mem hkl);have hkI:decide ((k:Int)<38)=true:=by simp;omega
    have HN:=S (λhx=>hr.go hkl (w1:=wr) hx (Aa _ _));cases hh:D7 s i signsL[k]with
    | false=>
      have HR:=S (λw1 g=>hr.go hkl (w1:=w1) hh g);by_cases hend:i+signsL[k].length<=s.length
      ·have hz:=Lv hkl hend hh;have HU:=S (fun(W:World)(g:wr.grownBy W none)=>JC (hr.tabs.gbN g) s i (i+signsL[k].length) hf);clear hh;generalize Lib.toUpperD (A5 s i (i+signsL[k].length))=z at*;generalize signsL[k]=x at*;have he1:decide ((i:Int)+x.length<=s.length)=true:=by simp;omega
       have he2:decide ((i:Int)<=i+x.length)=true:=by simp;omega
       have hw1:IntKind.i64.wrap ((i:Int)+(x.length:Int))=(i:Int)+x.length:=IntWalk.i64_in _ (by omega);have hw2:(0:Int)<=(i:Int)+x.length:=by omega
       have hw3:(i:Int)+x.length<=s.length:=by omega
       have hw4:((i:Int)+x.length).toNat=i+x.length:=by omega
       have hw5:(i:Int)<=(i:Int)+x.length:=by omega
       clear hw1;go_wp2_with fail;go_region_held3 (λW=>W.cell? ⟨b,0,none⟩=some (str s)/\W.cell? ⟨b,1,none⟩=some (.int .i64 i)/\wr.grownBy W none) (first|exact⟨c0,c1,Ae (Aa wr none)⟩|exact⟨Ad g5 c0,Ad g5 c1,Ag (Ae (Aa wr none)) g5⟩) (first| (go_at_call 291;refine(HU.1 _ ?_).mono ?_;(simp[*]);rintro e w5 ⟨rfl,g5⟩));go_wp2;go_roundg gk
       case measure=>omega
       case rel=>exact⟨k+1,by omega,by simp,HR.1 w5 (Ag (Ae (Aa wr none)) g5)⟩
      ·clear hh;generalize signsL[k]=x at*;have he1:decide ((i:Int)+x.length<=s.length)=false:=by simp;omega
       go_wp2_with fail;go_quiet(fail);go_wp2;go_roundg gk
       case measure=>omega
       case rel=>exact⟨k+1,by omega,by simp,HR.1 _ (An (Aa wr none) _)⟩
    | true=>
      have hend:i+signsL[k].length<=s.length:=by simp[D7]at hh;exact hh.1
      have hz:=Lv hkl hend hh;have HU:=S (fun(W:World)(g:wr.grownBy W none)=>JC (hr.tabs.gbN g) s i (i+signsL[k].length) hf);have HM:=S (SB hkl (λj hj=>hr.no j hj (by omega)) hh);clear hh;generalize Lib.toUpperD (A5 s i (i+signsL[k].length))=z at*;generalize signsL[k]=x at*;have he1:decide ((i:Int)+x.length<=s.length)=true:=by simp;omega
      have he2:decide ((i:Int)<=i+x.length)=true:=by simp;omega
      have hw1:IntKind.i64.wrap ((i:Int)+(x.length:Int))=(i:Int)+x.length:=IntWalk.i64_in _ (by omega);have hw2:(0:Int)<=(i:Int)+x.length:=by omega
      have hw3:(i:Int)+x.length<=s.length:=by omega
      have hw4:((i:Int)+x.length).toNat=i+x.length:=by omega
      have hw5:(i:Int)<=(i:Int)+x.length:=by omega
      clear hw1;go_wp2_with fail;go_region_held3 (λW=>W.cell? ⟨b,0,none⟩=some (str s)/\W.cell? ⟨b,1,none⟩=some (.int .i64 i)/\wr.grownBy W none) (first|exact⟨c0,c1,Ae (Aa wr none)⟩|exact⟨Ad g5 c0,Ad g5 c1,Ag (Ae (Aa wr none)) g5⟩) (first| (go_at_call 291;refine(HU.1 _ ?_).mono ?_;(simp[*]);rintro e w5 ⟨rfl,g5⟩));have gA:wr.grownBy w5 none:=Ag (Ae (Aa wr none)) g5;have hs5:=hsc.gbN gA;have ht5:=hr.tok.gb gA (by simp);have hr5:=hr.res.gb gA (by simp);have d1:=hs5.c1;have d0:=hs5.c0;have t0:=ht5.cell' 0 rfl;have t1:=ht5.cell' 1 rfl;have t2:=ht5.cell' 2 rfl;have tf:=λk=>ht5.frozen k;have r0:=hr5.cell' 0 rfl;have r1:=hr5.cell' 1 rfl;have r2:=hr5.cell' 2 rfl;have rf:=λk=>hr5.frozen k;have f1:=hs5.fr 1;have h5:=hr5.lt;go_wp2;refine bZ (Cc (t:=⟨4,i,x⟩) (r:=true) rfl _ (((hr5.set_other _ _ (by simp)).set_other _ _ (by simp;omega)).set3 _ _ _) rfl rfl) rfl ⟨?_,?_⟩
      ·have g:=A2 (r:=some b) (Ag hr.g gA);exact(by repeat(first| (with_reducible assumption)| ((with_reducible refine Af ?_ _ _ ?h2);case h2=>first|exact .inl rfl|exact .inr (nR _)|exact .inr (by simp<;>omega))))
      ·unfold Jl;rw[HM.1];exact⟨rfl,(by repeat(first| (with_reducible assumption)| (with_reducible apply Sc.go)| (with_reducible apply Sc.set_other)|omega| (simp<;>omega)))⟩
def LM{j e:Nat}(h:j<e)(he:e<=s.length):A5 s j e=bAt s j::A5 s (j+1) e:=by
 unfold A5;rw[IE (by omega),show e-j=(e-(j+1))+1 by omega,List.take_succ_cons]
def LN(s:Bs)(j:Nat):A5 s j j=[]:=by simp[A5]
def U0(s:Bs)(c:UInt8)(j:Nat)(hj:j<=s.length):Lib.indexByte (A5 s j (At s j)) c=
 if Aq s (λb=>b !=10&&b !=c) j<s.length/\bAt s (Aq s (λb=>b !=10&&b !=c) j)≠10 then((Aq s (λb=>b !=10&&b !=c) j-j:Nat):Int)else -1:=by
 induction hn:s.length-j generalizing j with
 | zero=>
   have e:j=s.length:=by omega
   have h1:At s j=j:=Ei (by omega);rw[h1,LN,Ei (by omega),if_neg (by omega)];rfl
 | succ n ih=>
   have hk:j<s.length:=by omega
   have hle:At s (j+1)<=s.length:=CJ (by omega);have hge:j+1<=At s (j+1):=BG _ _ _;by_cases h10:bAt s j=10
   ·have h1:At s j=j:=DA hk (by simp[h10]);rw[h1,LN,DA hk (by simp[h10]),if_neg (by simp[h10])];rfl
   ·have h1:At s j=At s (j+1):=Cy hk (by simpa using h10);rw[h1,LM (by omega) hle,Lib.indexByte];cases hb:(bAt s j==c)with
    | true=>
      rw[DA hk (by simp;intro _;simpa using hb)];simp[hk,h10]
    | false=>
      rw[Cy hk (by simp at hb;simp[h10,hb]),ih (j+1) (by omega) (by omega)];have h2:=BG s (λb=>b !=10&&b !=c) (j+1);simp only[Bool.false_eq_true,if_false];by_cases h3:Aq s (λb=>b !=10&&b !=c) (j+1)<s.length/\bAt s (Aq s (λb=>b !=10&&b !=c) (j+1))≠10
      ·simp only[if_pos h3];rw[if_neg (by simp;try omega)];omega
      ·simp[h3]
def BB(s:Bs)(i:Nat):Nat:=Aq s (λb=>b !=10&&b !=bAt s i) (i+1)
def Hy(t:Bs):Nat:=Aq t (λb=>!cls 4 b) 0
def Vp(h:¬(BB s i<s.length/\bAt s (BB s i)≠10)):EJ s i= .bad i:=if_neg h
def S6(h:BB s i<s.length/\bAt s (BB s i)≠10)(hb:Hy (A5 s (i+1) (BB s i))<BB s i-(i+1)):EJ s i= .bad (i+1+Hy (A5 s (i+1) (BB s i))):=
 (if_pos h).trans (if_pos hb)
def Vq(h:BB s i<s.length/\bAt s (BB s i)≠10)(hb:¬Hy (A5 s (i+1) (BB s i))<BB s i-(i+1)):EJ s i= .tok ⟨2,i,A5 s (i+1) (BB s i)⟩ (BB s i+1) true:=
 (if_pos h).trans (if_neg hb)
def WH(s:Bs)(i:Nat):BB s i<=At s (i+1):=MQ (by intro b hb;simp at hb ⊢;exact hb.1) _
def WY(c:UInt8):((c.toNat:Int)).toNat.toUInt8=c:=by simp
def Me(s:Bs)(i j:Nat)(c:UInt8){z:Int}(hz:Lib.indexByte (A5 s i j) c=z)(w:World):
 Calls Tryz.prog 230 #[.string ((⟨s.toArray⟩:ByteArray).extract i j),.int .u8 c.toNat] w λe w'=>e= .returned (.int .i64 z)/\w'=w:=by
 subst hz;refine(strings_IndexByte _ _ _).mono ?_;rintro e w' ⟨rfl,rfl⟩;rw[CY,WY];exact⟨rfl,rfl⟩
structure TextRel(w:World)(b:Nat)(s:Bs)(i:Nat)(t:Bs)(k:Nat)(wr:World):Prop where
 sc:Sc wr b s i true true (-1)
 tok:Blk wr w.heap.size [.int .i64 2,.int .i64 i,str t] 250
 res:Blk wr (w.heap.size+1) [.int .i64 0,.int .i64 0,str []] 250
 no:Hy t=Aq t (λb=>!cls 4 b) k
 g:w.grownBy wr none
def TextRel.go(h:TextRel w b s i t k wr)(hk:k<t.length)(hx:cls 4 (bAt t k)=false)(g:wr.grownBy w1 none):TextRel w b s i t (k+1) w1:=
 ⟨h.sc.gbN g,h.tok.gb g (by simp),h.res.gb g (by simp),by rw[h.no];exact Cy hk (by simp[hx]),Ag h.g g⟩
def WV(h:Sc w b s i true true (-1))(hi:i<s.length)(hq:bAt s i≠10):
 Calls Tryz.prog 293 #[.pointer (some ⟨b,0,none⟩),AR ⟨0,i,[]⟩] w (TokPost w b s (EJ s i)):=by
 have hb:=h.lt;have hf:=h.few;have c0:=h.c0;have c1:=h.c1;have hz:=U0 s (bAt s i) (i+1) (by omega);have hline:At s i=At s (i+1):=Cy hi (by simpa using hq);have hle:At s i<=s.length:=CJ (by omega);have hge:i+1<=At s i:=by rw[hline];exact BG _ _ _
 have hgQ:i+1<=BB s i:=BG _ _ _;rw[<-hline]at hz;have hg:=λh=>GE s i h hi;change _=if BB s i<s.length/\bAt s (BB s i)≠10 then((BB s i-(i+1):Nat):Int)else -1 at hz;have HE:=S hline;clear hline;by_cases hq2:BB s i<s.length/\bAt s (BB s i)≠10
 ·rw[if_pos hq2]at hz;have hQl:=WH s i;rw[<-HE.1]at hQl;have hQs:=hq2.1;have hO:=S (Vq hq2);have hB:=S (S6 hq2);have hTl:(A5 s (i+1) (BB s i)).length=BB s i-(i+1):=EZ hgQ (by omega);have hl:=Jz (h.alloc (.cells #[.int .i64 0,.int .i64 i,str []] 250 (0,0))|>.alloc (.cells #[.int .i64 0,.int .i64 0,str []] 250 (0,0))) i (by omega);obtain⟨d,hd⟩:∃d,BB s i=i+1+d:=⟨BB s i-(i+1),by omega⟩;rw[hd]at hO hB hTl hQl hz hQs;rw[show i+1+d-(i+1)=d by omega]at hO hB hTl hz;clear hd hq2 hgQ;generalize At s i=e at*;have HI:=S (Me s (i+1) e (bAt s i) hz);have HL:=S hl;clear hz hl;generalize bAt s i=q at*;have hx:({data:=s.toArray}:ByteArray).extract (i+1) (i+1+d)=⟨(A5 s (i+1) (i+1+d)).toArray⟩:=CY _ _ _;have HX:=S hx;clear hx;have HT:=S hTl;have he2:decide ((i:Int)+1+d<=s.length)=true:=by simp;omega
  go_enter func293,ntmps293;go_wp2_with fail;refine HL.1.mono ?_;rintro e w1 ⟨rfl,rfl⟩;go_wp2_with fail;go_quiet((go_at_call 230;exact Calls.quiet_of_same (HI.1 _)));go_wp2_with fail;go_region;rw[HX.1];generalize hts:A5 s (i+1) (i+1+d)=t at*;have HS:=S hts;clear hts hTl;have g0:w.grownBy ((w.alloc (.cells #[.int .i64 0,.int .i64 i,str []] 250 (0,0))).alloc (.cells #[.int .i64 0,.int .i64 0,str []] 250 (0,0))) none:=Ac (gZ w _ none) _;have hA:TextRel w b s i t 0 (((((w.alloc (.cells #[.int .i64 0,.int .i64 i,str []] 250 (0,0))).alloc (.cells #[.int .i64 0,.int .i64 0,str []] 250 (0,0))).drewN (nq+1)).setCell ⟨w.heap.size,0,none⟩ (.int .i64 2)).setCell ⟨w.heap.size,2,none⟩ (str t)):=
   ⟨(by repeat(first| (with_reducible assumption)| (with_reducible apply Sc.alloc)| (with_reducible apply Sc.drewN)| (with_reducible apply Sc.set_other)| (simp<;>omega))),(((((Blk.new w [.int .i64 0,.int .i64 i,str []] 250).alloc _).drewN _).set 0 _).set 2 _).of_eq rfl rfl,(((((Blk.new (w.alloc _) [.int .i64 0,.int .i64 0,str []] 250).of_eq (by simp) rfl).drewN _).set_other _ _ (by simp)).set_other _ _ (by simp)),rfl,
    Af (Af (An g0 _) _ _ (.inr (nR _))) _ _ (.inr (nR _))⟩
  have t0:=hA.tok.cell' 2 rfl;generalize(((((w.alloc (.cells #[.int .i64 0,.int .i64 i,str []] 250 (0,0))).alloc (.cells #[.int .i64 0,.int .i64 0,str []] 250 (0,0))).drewN (nq+1)).setCell ⟨w.heap.size,0,none⟩ (.int .i64 2)).setCell ⟨w.heap.size,2,none⟩ (str t))=W at*;have HA:=S hA;clear hA g0 h c0 c1 hg;have hTl2:t.length<=4000:=by rw[HT.1];omega
  go_wp2_with fail;go_loopg [8,68] t.length (λg v8 v68 wr=>∃k:Nat,k+g=t.length/\v68= .int .i64 k/\TextRel w b s i t k wr)
  case atStart=>exact⟨0,by omega,rfl,HA.1⟩
  case round=>
   obtain⟨k,hk,rfl,hr⟩:=hrel;have hsc:=hr.sc;have d0:=hsc.c0;have d1:=hsc.c1;have hb1:=hsc.lt;have gwx:=hr.g.size;have hrl:=hr.res.lt;have u0:=hr.tok.cell' 0 rfl;have u1:=hr.tok.cell' 1 rfl;have u2:=hr.tok.cell' 2 rfl;have r0:=hr.res.cell' 0 rfl;have r1:=hr.res.cell' 1 rfl;have r2:=hr.res.cell' 2 rfl;have rf:=λk=>hr.res.frozen k;cases gk with
   | zero=>
     have hkt:k=t.length:=by omega
     have HQ:=S (hO.1 (by rw[hr.no,Ei (by omega),HT.1]at*;omega));have f1:=hsc.fr 1;have hlt:decide (k<t.length)=false:=by simp;omega
     clear hk hkt;go_wp2;refine bZ (Cc (t:=⟨2,i,t⟩) (r:=true) rfl _ ((hr.res.set_other _ _ (by simp;omega)).set3 _ _ _) rfl rfl) rfl ⟨?_,?_⟩
     ·have g:=A2 (r:=some b) hr.g;exact(by repeat(first| (with_reducible assumption)| ((with_reducible refine Af ?_ _ _ ?h2);case h2=>first|exact .inl rfl|exact .inr (by simp<;>omega))))
     ·rw[HQ.1];exact⟨rfl,(by repeat(first| (with_reducible assumption)| (with_reducible apply Sc.go)| (with_reducible apply Sc.set_other)|omega| (simp<;>omega)))⟩
   | succ gk=>
     have hkl:k<t.length:=by omega
     have hlt:decide (k<t.length)=true:=by simp;omega
     have hcl:=hsc.cls (bAt t k);have hgt:=λh=>GE t k h hkl;have hx:=Oq (bAt t k);cases hc:cls 4 (bAt t k)with
     | true=>
       have HC:=S hc;have hbi:Hy t=k:=by rw[hr.no];exact DA hkl (by rw[hc];rfl)
       have HQ:=S (hB.1 (by rw[hbi];have:=HT.1;omega));have HK:=S hbi;have f260:=hsc.fr 260;have c260:=hsc.c260;clear hbi hk;change(Cm (bAt t k).toNat==4)=true at hc;generalize bAt t k=x at*;go_wp2_with fail;go_quiet(fail);go_wp2;refine bZ (Cc (t:=⟨2,i,t⟩) (r:=false) rfl _ (((hr.res.drewN _).set_other _ _ (by simp;omega)).set3 _ _ _) rfl rfl) rfl ⟨?_,?_⟩
       ·have g:=A2 (r:=some b) hr.g;exact(by repeat(first| (with_reducible assumption)| (with_reducible refine An ?_ _)| ((with_reducible refine Af ?_ _ _ ?h2);case h2=>first|exact .inl rfl|exact .inr (by simp<;>omega))))
       ·rw[HQ.1,HK.1];exact⟨⟨_,rfl⟩,i,true,by push_cast;exact(by repeat(first| (with_reducible assumption)| (with_reducible apply Sc.drewN)| (with_reducible apply Sc.setBad)| (with_reducible apply Sc.set_other)| (simp<;>omega)))⟩
     | false=>
       have HR:=S (λw1 g=>hr.go hkl (w1:=w1) hc g);change(Cm (bAt t k).toNat==4)=false at hc;generalize bAt t k=x at*;go_wp2_with fail;go_quiet(fail);go_wp2;go_roundg gk
       case measure=>omega
       case rel=>exact⟨k+1,by omega,by simp,HR.1 _ (An (Aa wr none) _)⟩
 ·rw[if_neg hq2]at hz;have HQ:=S (Vp hq2);have hl:=Jz (h.alloc (.cells #[.int .i64 0,.int .i64 i,str []] 250 (0,0))|>.alloc (.cells #[.int .i64 0,.int .i64 0,str []] 250 (0,0))) i (by omega);generalize At s i=e at*;have HI:=S (Me s (i+1) e (bAt s i) hz);have HL:=S hl;clear hz hl;generalize bAt s i=q at*;have f260:=h.fr 260;have c260:=h.c260;go_enter func293,ntmps293;go_wp2_with fail;refine HL.1.mono ?_;rintro e w1 ⟨rfl,rfl⟩;go_wp2_with fail;go_quiet((go_at_call 230;exact Calls.quiet_of_same (HI.1 _)));go_wp2;refine bZ (Cc (t:=⟨0,i,[]⟩) (r:=false) rfl _ (((((Blk.new (w.alloc _) [.int .i64 0,.int .i64 0,str []] 250).of_eq (by simp) rfl).drewN nq).set_other _ _ (by simp;omega)).set3 _ _ _) rfl rfl) rfl ⟨(by repeat(first| (with_reducible exact Aa _ _)| (with_reducible refine Ac ?_ _)| (with_reducible refine An ?_ _)| ((with_reducible refine Af ?_ _ _ ?h2);case h2=>first|exact .inl rfl|exact .inr (by simp<;>omega)))),?_⟩;rw[HQ.1];exact⟨⟨_,rfl⟩,i,true,(by repeat(first| (with_reducible assumption)| (with_reducible apply Sc.alloc)| (with_reducible apply Sc.drewN)| (with_reducible apply Sc.setBad)| (with_reducible apply Sc.set_other)| (simp<;>omega)))⟩
def Hb(w:World)(t:Bs)(e:Ending)(w':World):Prop:=w.grownBy w' none/\match C0 t with
 |some (d,n)=>e= .returned (.tuple #[str d,.int .i64 n,.bool true])
 |none=>∃d n,e= .returned (.tuple #[str d,.int .i64 n,.bool false])
section
variable {d:Bs}{m:Int}
def L2(h:C0 t=some (d,n))(g:w.grownBy w' none)(hm:m=n):Hb w t (.returned (.tuple #[str d,.int .i64 m,.bool true])) w':=by
 subst hm;unfold Hb;rw[h];exact⟨g,rfl⟩
def FO(h:C0 t=none)(g:w.grownBy w' none):Hb w t (.returned (.tuple #[str d,.int .i64 m,.bool false])) w':=by
 unfold Hb;rw[h];exact⟨g,d,m,rfl⟩
end
def PO(h:[123,125].isPrefixOf t=true):C0 t=some ([],2):=if_pos h
def GR(h:[123,125].isPrefixOf t=false)(hf:E5 t=false):C0 t=none:=by
 unfold C0;rw[if_neg (by rw[h];simp),if_neg (by rw[hf];simp)]
def Tv(h:[123,125].isPrefixOf t=false)(hf:E5 t=true)(h1:(C6 (El t)).2=true)(h2:El t≠FW):C0 t=some (El t,13):=by
 unfold C0;rw[if_neg (by rw[h];simp),if_pos hf,if_pos (by simp[h1,h2])]
def N3(h:[123,125].isPrefixOf t=false)(hf:E5 t=true)(h1:(C6 (El t)).2=false\/El t=FW):C0 t=none:=by
 unfold C0;rw[if_neg (by rw[h];simp),if_pos hf,if_neg (by rcases h1 with h1|h1<;>simp[h1])]
def FL(t p:Bs)(hr:p.isPrefixOf t=r)(w:World):
 Calls Tryz.prog 191 #[.string ⟨t.toArray⟩,.string ⟨p.toArray⟩] w λe w'=>e= .returned (.bool r)/\w=w':=by
 subst hr;refine(strings_HasPrefix _ _ _).mono ?_;rintro e w' ⟨rfl,rfl⟩;exact⟨rfl,rfl⟩
def WW(h:13<=t.length):∃a0 a1 a2 a3 a4 a5 a6 a7 a8 a9 a10 a11 a12 r,t=a0::a1::a2::a3::a4::a5::a6::a7::a8::a9::a10::a11::a12::r:=by
 match t,h with
 |a0::a1::a2::a3::a4::a5::a6::a7::a8::a9::a10::a11::a12::r,_=>exact⟨_,_,_,_,_,_,_,_,_,_,_,_,_,_,rfl⟩
def Jq(h:((a.toNat:Int) !=45)=r):(a==45)= !r:=by
 subst h;by_cases e:a=45
 ·subst e;rfl
 ·have h1:a.toNat≠45:=λh=>e (UInt8.toNat_inj.1 h);have h2:((a.toNat:Int)==45)=false:=by simp;omega
  have h3:(a==45)=false:=by simpa using e
  simp[bne,h2,h3]
def O3(h:((a.toNat:Int) !=125)=r):(a==125)= !r:=by
 subst h;by_cases e:a=125
 ·subst e;rfl
 ·have h1:a.toNat≠125:=λh=>e (UInt8.toNat_inj.1 h);have h2:((a.toNat:Int)==125)=false:=by simp;omega
  have h3:(a==125)=false:=by simpa using e
  simp[bne,h2,h3]
def WC{line begun:Bool}{bad:Int}(h:Sc w b s i line begun bad):
 Calls Tryz.prog 294 #[.pointer (some ⟨b,0,none⟩)] w (Hb w (s.drop i)):=by
 have hb:=h.lt;have hf:=h.few;have hi:=h.le;have c0:=h.c0;have c1:=h.c1;have hx:=Hg s i;have HX:=S hx;have hle:decide ((i:Int)<=s.length)=true:=by simp;omega
 have htl:(s.drop i).length<=4000:=by simp;omega
 clear hx h;generalize hts:s.drop i=t at*;clear hts;cases hp:[123,125].isPrefixOf t with
 | true=>
   have HM:=S (PO hp);go_enter func294,ntmps294;go_wp2_with fail;go_quiet(fail);rw[HX.1];go_wp2_with fail;refine(FL t [123,125] hp _).mono ?_;rintro e w1 ⟨rfl,rfl⟩;go_wp2;exact bZ (v:= .tuple #[str [],.int .i64 2,.bool true]) (by simp[results,results294,go_sem]) rfl (L2 HM.1 (An (Aa _ _) _) rfl)
 | false=>
   by_cases h13:13<=t.length
   ·obtain⟨a0,a1,a2,a3,a4,a5,a6,a7,a8,a9,a10,a11,a12,r,ht⟩:=WW h13;have hx1:(⟨t.toArray⟩:ByteArray).extract 0 2=⟨[a0,a1].toArray⟩:=by rw[CY,ht];rfl
    have hx2:(⟨t.toArray⟩:ByteArray).extract 2 6=⟨[a2,a3,a4,a5].toArray⟩:=by rw[CY,ht];rfl
    have hx3:(⟨t.toArray⟩:ByteArray).extract 7 9=⟨[a7,a8].toArray⟩:=by rw[CY,ht];rfl
    have hx4:(⟨t.toArray⟩:ByteArray).extract 10 12=⟨[a10,a11].toArray⟩:=by rw[CY,ht];rfl
    have hg6:∀h,(⟨t.toArray⟩:ByteArray)[6]'h=a6:=by subst ht;intro h;rfl
    have hg9:∀h,(⟨t.toArray⟩:ByteArray)[9]'h=a9:=by subst ht;intro h;rfl
    have hg12:∀h,(⟨t.toArray⟩:ByteArray)[12]'h=a12:=by subst ht;intro h;rfl
    have hform:E5 t=(([a0,a1]==[123,94])&&a6==45&&a9==45&&a12==125):=by rw[ht];simp[E5,bAt]
    have hdig:El t=[a2,a3,a4,a5,a7,a8,a10,a11]:=by rw[ht];rfl
    have hl:decide ((t.length:Int)<13)=false:=by simp;omega
    generalize [a0,a1]=p at*;have HF:=S (X hform hdig);clear hform hdig ht;cases e1:(p==[123,94])with
    | false=>
      have HM:=S (GR hp (by rw[HF.1.1,e1];rfl));go_enter func294,ntmps294;go_wp2_with fail;go_quiet(fail);rw[HX.1];go_wp2_with fail;refine(FL t [123,125] hp _).mono ?_;rintro e w1 ⟨rfl,rfl⟩;go_wp2;exact bZ (v:= .tuple #[str [],.int .i64 0,.bool false]) (by simp[results,results294,go_sem]) rfl (FO HM.1 (An (Aa _ _) _))
    | true=>
      cases e6:((a6.toNat:Int) !=45)with
      | true=>
        have HM:=S (GR hp (by rw[HF.1.1,Jq e6];simp));go_enter func294,ntmps294;go_wp2_with fail;go_quiet(fail);rw[HX.1];go_wp2_with fail;refine(FL t [123,125] hp _).mono ?_;rintro e w1 ⟨rfl,rfl⟩;go_wp2;exact bZ (v:= .tuple #[str [],.int .i64 0,.bool false]) (by simp[results,results294,go_sem]) rfl (FO HM.1 (An (Aa _ _) _))
      | false=>
        cases e9:((a9.toNat:Int) !=45)with
        | true=>
          have HM:=S (GR hp (by rw[HF.1.1,Jq e9];simp));go_enter func294,ntmps294;go_wp2_with fail;go_quiet(fail);rw[HX.1];go_wp2_with fail;refine(FL t [123,125] hp _).mono ?_;rintro e w1 ⟨rfl,rfl⟩;go_wp2;exact bZ (v:= .tuple #[str [],.int .i64 0,.bool false]) (by simp[results,results294,go_sem]) rfl (FO HM.1 (An (Aa _ _) _))
        | false=>
          cases e12:((a12.toNat:Int) !=125)with
          | true=>
            have HM:=S (GR hp (by rw[HF.1.1,O3 e12];simp));go_enter func294,ntmps294;go_wp2_with fail;go_quiet(fail);rw[HX.1];go_wp2_with fail;refine(FL t [123,125] hp _).mono ?_;rintro e w1 ⟨rfl,rfl⟩;go_wp2;exact bZ (v:= .tuple #[str [],.int .i64 0,.bool false]) (by simp[results,results294,go_sem]) rfl (FO HM.1 (An (Aa _ _) _))
          | false=>
            have hfo:E5 t=true:=by rw[HF.1.1,e1,Jq e6,Jq e9,O3 e12];rfl
            have hdi:=HF.1.2;have HH:=S (X hfo hdi);clear hfo hdi HF;go_enter func294,ntmps294;go_wp2_with fail;go_quiet(fail);rw[HX.1];go_wp2_with fail;refine(FL t [123,125] hp _).mono ?_;rintro e w1 ⟨rfl,rfl⟩;go_wp2_with fail;go_quiet(fail);have hcat:(({data:=#[a2,a3,a4,a5]}:ByteArray)++{data:=#[a7,a8]}++{data:=#[a10,a11]})=⟨[a2,a3,a4,a5,a7,a8,a10,a11].toArray⟩:=rfl;rw[hcat];have hul:=LP [a2,a3,a4,a5,a7,a8,a10,a11] (by simp);clear hcat hx2 hx3 hx4;generalize [a2,a3,a4,a5,a7,a8,a10,a11]=D at*;have HU:=S hul;clear hul;go_wp2_with fail;refine mR (HU.1 _) λw1 g1=>?_;cases hok:(C6 D).2 with
            | false=>
              have HM:=S (N3 hp HH.1.1 (.inl (by rw[HH.1.2,hok])));generalize(C6 D).1=v at*;go_wp2;exact bZ (v:= .tuple #[str D,.int .i64 13,.bool false]) (by simp[results,results294,go_sem]) rfl (FO HM.1 (Ag (An (Aa _ _) _) g1))
            | true=>
              cases hbl:(D==FW)with
              | true=>
                have HM:=S (N3 hp HH.1.1 (.inr (by rw[HH.1.2];simpa using hbl)));change(D==[32,32,32,32,32,32,32,32])=true at hbl;generalize(C6 D).1=v at*;go_wp2;exact bZ (v:= .tuple #[str D,.int .i64 13,.bool false]) (by simp[results,results294,go_sem]) rfl (FO HM.1 (Ag (An (Aa _ _) _) g1))
              | false=>
                have HM:=S (Tv hp HH.1.1 (by rw[HH.1.2,hok]) (by rw[HH.1.2];simpa using hbl));have HD:=S HH.1.2;change(D==[32,32,32,32,32,32,32,32])=false at hbl;generalize(C6 D).1=v at*;go_wp2;exact bZ (v:= .tuple #[str D,.int .i64 13,.bool true]) (by simp[results,results294,go_sem]) rfl (L2 (HD.1 ▸ HM.1) (Ag (An (Aa _ _) _) g1) rfl)
   ·have HM:=S (GR hp (by simp[E5,h13]));have hl:decide ((t.length:Int)<13)=true:=by simp;omega
    go_enter func294,ntmps294;go_wp2_with fail;go_quiet(fail);rw[HX.1];go_wp2_with fail;refine(FL t [123,125] hp _).mono ?_;rintro e w1 ⟨rfl,rfl⟩;go_wp2;exact bZ (v:= .tuple #[str [],.int .i64 0,.bool false]) (by simp[results,results294,go_sem]) rfl (FO HM.1 (An (Aa _ _) _))
structure TkRel(w:World)(b:Nat)(s:Bs)(i k:Nat)(wr:World):Prop where
 sc:Sc wr b s k true true (-1)
 tok:Blk wr (w.heap.size+1) [.int .i64 0,.int .i64 i,str []] 250
 res:Blk wr w.heap.size [.int .i64 0,.int .i64 0,str []] 250
 g:w.grownBy wr (some b)
 tabs:Tabs b wr
def TkRel.gbN(h:TkRel w b s i k wr)(g:wr.grownBy w1 none):TkRel w b s i k w1:=
 ⟨h.sc.gbN g,h.tok.gb g (by simp),h.res.gb g (by simp),Ag h.g g,h.tabs.gbN g⟩
def TkRel.go(h:TkRel w b s i k wr)(hb:b<w.heap.size)(hk:k<s.length):TkRel w b s i (k+1) (wr.setCell ⟨b,1,none⟩ (.int .i64 ((k:Int)+1))):=
 ⟨h.sc.go _ _ (by simp) (by omega),h.tok.set_other _ _ (by simp;omega),h.res.set_other _ _ (by simp;omega),Af h.g _ _ (.inl rfl),h.tabs.gb (Af (Aa _ (some b)) _ _ (.inl rfl)) (by simp)⟩
def MM{c:Int}(hc:c=1\/c=2){b:UInt8}(h:cls c b=true):b.toNat<128:=by
 have h1:Cm b.toNat=c:=by simpa[cls]using h
 rcases Jv b.toNat with⟨h2,h3⟩| ⟨h2,h3⟩| ⟨h2,h3⟩| ⟨h2,h3⟩| ⟨h2,h3⟩<;>omega
def TJ{b:UInt8}(h:Bm b=true):b.toNat<128:=by
 simp[Bm]at h;rcases h with h|h
 ·exact MM (.inl rfl) h
 ·exact MM (.inr rfl) h
def Kh{p:UInt8->Bool}(hi:i<=s.length):∀b∈A5 s i (Aq s p i),p b=true:=by
 intro b hb;obtain⟨k,hk,rfl⟩:=List.mem_iff_getElem.1 hb;rw[EZ (BG _ _ _) (CJ hi)]at hk;have h1:=IL (p:=p) (s:=s) (i:=i) (j:=i+k) (by omega) (by omega);have h2:(A5 s i (Aq s p i))[k]? =s[i+k]?:=V0 (by omega);rw[List.getElem?_eq_getElem (by rw[EZ (BG _ _ _) (CJ hi)];omega),List.getElem?_eq_getElem h1.1]at h2;rw[Option.some.inj h2,<-CC h1.1];exact h1.2
def Va(hi:i<=s.length):Lib.toUpperD (A5 s i (Aq s Bm i))=Lib.toUpperA (A5 s i (Aq s Bm i)):=
 Lib.toUpperD_ascii _ λb hb=>TJ (Kh hi b hb)
structure TkEnd(w:World)(b:Nat)(s:Bs)(i k:Nat)(kind:Int)(t:Bs)(wr:World):Prop where
 sc:Sc wr b s k true true (-1)
 tok:Blk wr (w.heap.size+1) [.int .i64 kind,.int .i64 i,str t] 250
 res:Blk wr w.heap.size [.int .i64 0,.int .i64 0,str []] 250
 g:w.grownBy wr (some b)
def TkEnd.gbN{kind:Int}(h:TkEnd w b s i k kind t wr)(g:wr.grownBy w1 none):TkEnd w b s i k kind t w1:=
 ⟨h.sc.gbN g,h.tok.gb g (by simp),h.res.gb g (by simp),Ag h.g g⟩
def Md{K:Act->World->Prop}{e:Exit}{a:Act}(F:World->Prop)(hF:F w)(h:∀w',F w'->Exit.then K Q e a w'):Exit.then K Q e a w:=h w hF
def SN(h:Sc w b s i true true (-1))(ht:Tabs b w)(hi:i<s.length)(hc:cls 1 (bAt s i)=true):
 Calls Tryz.prog 266 #[.pointer (some ⟨b,0,none⟩)] w (TokPost w b s (BP s i)):=by
 have hb:=h.lt;have hf:=h.few;have c1:=h.c1;have g0:w.grownBy ((w.alloc (.cells #[.int .i64 0,.int .i64 0,str []] 250 (0,0))).alloc (.cells #[.int .i64 0,.int .i64 i,str []] 250 (0,0))) none:=Ac (gZ w _ none) _;have hA:TkRel w b s i i ((w.alloc (.cells #[.int .i64 0,.int .i64 0,str []] 250 (0,0))).alloc (.cells #[.int .i64 0,.int .i64 i,str []] 250 (0,0))):=
  ⟨h.gbN g0,(Blk.new _ [.int .i64 0,.int .i64 i,str []] _).of_eq (by simp) rfl,(Blk.new _ [.int .i64 0,.int .i64 0,str []] _).alloc _,A2 g0,ht.gbN g0⟩
 clear h ht g0;have hr1:Aq s Bm i<=s.length:=CJ (by omega);have hr2:i<=Aq s Bm i:=BG _ _ _;have HT:=S (show BP s i=if 24<Aq s Bm i-i then .bad i else .tok ⟨0,i,Lib.toUpperA (A5 s i (Aq s Bm i))⟩ (Aq s Bm i) true from if_pos hc);have HC:=S hc;clear hc;go_enter func266,ntmps266;go_wp2_with fail;refine mR (Cv hA.sc i 1 (r:=true) (by simp[hi,HC.1])) λw1 g1=>?_;have hA1:=hA.gbN g1;clear hA g1;go_wp2_with fail;go_loopg [] (Aq s Bm i-i) (λg wr=>∃k:Nat,k+g=Aq s Bm i/\i<=k/\TkRel w b s i k wr)
 case atStart=>exact⟨i,by omega,nR _,hA1⟩
 case round=>
  obtain⟨k,hk,hik,hr⟩:=hrel;clear hA1 c1;have c1:=hr.sc.c1;have hb1:=hr.sc.lt;cases gk with
  | zero=>
    have hke:k=Aq s Bm i:=by omega
    have hstop:(decide (k<s.length)&&cls 1 (bAt s k))=false/\(decide (k<s.length)&&cls 2 (bAt s k))=false:=by
     by_cases hkl:k<s.length
     ·have:=Lc (s:=s) (p:=Bm) (i:=i) (by omega);rw[<-hke]at this;simp[Bm]at this;simp[this.1,this.2]
     ·simp[hkl]
    have HS:=S hstop;have hup:=Va (s:=s) (i:=i) (by omega);rw[<-hke]at hup HT;rw[<-hke]at hr1 hr2;have HUP:=S hup;have HL:=S (show(Lib.toUpperA (A5 s i k)).length=k-i by unfold Lib.toUpperA;rw[List.length_map,EZ hik (by omega)]);generalize Lib.toUpperA (A5 s i k)=T at*;clear hup hstop hke hk;go_wp2_with fail;refine mR (Cv hr.sc k 1 (r:=false) HS.1.1) λw2 g2=>?_;have hq2:=hr.gbN g2;have d1:=hq2.sc.c1;go_wp2_with fail;refine mR (Cv hq2.sc k 2 (r:=false) HS.1.2) λw3 g3=>?_;have hq3:=hq2.gbN g3;have g13:=Z g2 g3;have e0:=hq3.sc.c0;have e1:=hq3.sc.c1;have t0:=hq3.tok.cell' 0 rfl;have t1:=hq3.tok.cell' 1 rfl;have t2:=hq3.tok.cell' 2 rfl;have tf:=λk=>hq3.tok.frozen k;have tl:=hq3.tok.lt;have hkI:decide ((k:Int)<=s.length)=true:=by simp;omega
    have hkI2:decide (i<=k)=true:=by simp;omega
    go_wp2_with fail;have hs3:=hq3.sc;have hq:=S hq3;clear hq3 hs3 hq2 hr g2 g3 d1;have HU3:=S (fun(W:World)(g:w3.grownBy W (some (w.heap.size+1)))=>JC (hq.1.tabs.gb g (by intro k e;cases e;omega)) s i k hf);rw[HUP.1]at HU3;go_region_with(first| (go_at_call 291;refine(HU3.1 _ ?gg).mono ?_;(case gg=>exact(Ae (Aa _ _)));rintro e w5 ⟨rfl,g5⟩;(have hb5:Blk w5 (w.heap.size+1) [.int .i64 0,.int .i64 i,str []] 250:=(by first|exact(hq.1.tok.drew).gb g5 (by simp)|exact(((hq.1.tok.drew).set 0 (.int .i64 0)).of_eq rfl rfl).gb g5 (by simp)));(have s0:=hb5.cell' 0 rfl);(have s2:=hb5.cell' 2 rfl);(have s1:=hb5.cell' 1 rfl);(have sf:=λk=>hb5.frozen k);(have sl:=hb5.lt)));all_goals
     refine Md (λW=>TkEnd w b s i k 0 T W) ?_ ?_
     ·first
      |exact⟨((hq.1.sc.drewN 1).gbN g5).set_other _ _ (by simp;omega)|>.set_other _ _ (by simp;omega),((hb5.set 0 (.int .i64 0)).set 2 (str T)).of_eq rfl rfl,(((hq.1.res.drewN 1).gb g5 (by simp)).set_other _ _ (by simp)).set_other _ _ (by simp),Af (Af (Ag (Ae hq.1.g) g5) _ _ (.inr (by simp))) _ _ (.inr (by simp))⟩
      |exact⟨(((hq.1.sc.drewN 1).set_other _ _ (by simp;omega)).gbN g5).set_other _ _ (by simp;omega),(hb5.set 2 (str T)).of_eq rfl rfl,(((hq.1.res.drewN 1).set_other _ _ (by simp)).gb g5 (by simp)).set_other _ _ (by simp),Af (Ag (Af (Ae hq.1.g) _ _ (.inr (by simp))) g5) _ _ (.inr (by simp))⟩
     clear hb5 g5 s0 s1 s2 sf sl;intro W hW;have a0:=hW.tok.cell' 0 rfl;have a1:=hW.tok.cell' 1 rfl;have a2:=hW.tok.cell' 2 rfl;have HW:=S hW;have HS:=S (fun(W':World)(g:W.grownBy W' none)=>MR (hW.gbN g).sc ⟨0,i,T⟩ 24);have hWs:=hW.g.size;have hWl:=hW.tok.lt;clear hW;by_cases hm:24<T.length
     ·have HM:=S (show BP s i= .bad i by rw[HT.1,<-HL.1,if_pos hm]);have HP:=S hm;clear hm;go_wp2_with fail;go_region_with(first| (go_at_call 292;refine(HS.1 _ ?gg).mono ?_;(case gg=>exact(Ae (Aa _ _)));intro e w8 hp8;obtain⟨g8,hp9⟩:=hp8;rw[if_pos HP.1]at hp9;obtain⟨rfl,h8⟩:=hp9;(have hr8:=(HW.1.res.drewN 1).gb g8 (by simp;omega));(have ht8:=(HW.1.tok.drewN 1).gb g8 (by simp;omega));(have r0:=hr8.cell' 0 rfl);(have r1:=hr8.cell' 1 rfl);(have r2:=hr8.cell' 2 rfl);(have rf:=λk=>hr8.frozen k);(have rl:=hr8.lt);(have b0:=ht8.cell' 0 rfl);(have b1:=ht8.cell' 1 rfl);(have b2:=ht8.cell' 2 rfl)));all_goals
       go_wp2;refine bZ (Cc (t:=⟨0,i,T⟩) (r:=false) rfl _ (hr8.set3 _ _ _) rfl rfl) rfl ⟨?_,?_⟩
       ·have g:=Z (Ae HW.1.g) g8;exact(Af (Af (Af (by assumption) _ _ (.inr (nR _))) _ _ (.inr (nR _))) _ _ (.inr (nR _)))
       ·rw[HM.1];exact⟨⟨_,rfl⟩,k,true,(by repeat(first| (with_reducible assumption)| (with_reducible apply Sc.set_other)| (simp<;>omega)))⟩
     ·have HM:=S (show BP s i= .tok ⟨0,i,T⟩ k true by rw[HT.1,<-HL.1,if_neg hm]);have HP:=S hm;clear hm;go_wp2_with fail;go_region_with(first| (go_at_call 292;refine(HS.1 _ ?gg).mono ?_;(case gg=>exact(Ae (Aa _ _)));intro e w8 hp8;obtain⟨g8,hp9⟩:=hp8;rw[if_neg HP.1]at hp9;obtain⟨rfl,h8⟩:=hp9;(have hr8:=(HW.1.res.drewN 1).gb g8 (by simp;omega));(have ht8:=(HW.1.tok.drewN 1).gb g8 (by simp;omega));(have r0:=hr8.cell' 0 rfl);(have r1:=hr8.cell' 1 rfl);(have r2:=hr8.cell' 2 rfl);(have rf:=λk=>hr8.frozen k);(have rl:=hr8.lt);(have b0:=ht8.cell' 0 rfl);(have b1:=ht8.cell' 1 rfl);(have b2:=ht8.cell' 2 rfl)));all_goals
       go_wp2;refine bZ (Cc (t:=⟨0,i,T⟩) (r:=true) rfl _ (hr8.set3 _ _ _) rfl rfl) rfl ⟨?_,?_⟩
       ·have g:=Z (Ae HW.1.g) g8;exact(Af (Af (Af (by assumption) _ _ (.inr (nR _))) _ _ (.inr (nR _))) _ _ (.inr (nR _)))
       ·rw[HM.1];exact⟨rfl,(by repeat(first| (with_reducible assumption)| (with_reducible apply Sc.set_other)| (simp<;>omega)))⟩
  | succ gk=>
    have h10:=IL hik (by omega:k<Aq s Bm i);have hkl:=h10.1;have HW:=S h10.2;clear h10;cases hc1:cls 1 (bAt s k)with
    | true=>
      have HC1:=S hc1;clear hc1;go_wp2_with fail;refine mR (Cv hr.sc k 1 (r:=true) (by simp[hkl,HC1.1])) λw2 g2=>?_;have hr2':=hr.gbN g2;have d1:=hr2'.sc.c1;have f1:=hr2'.sc.fr 1;go_wp2;go_roundg gk
      case measure=>omega
      case rel=>exact⟨k+1,by omega,by omega,hr2'.go hb hkl⟩
    | false=>
      have HC1:=S hc1;have HC2:=S (show cls 2 (bAt s k)=true by have:=HW.1;simpa[Bm,hc1]using this);clear hc1;go_wp2_with fail;refine mR (Cv hr.sc k 1 (r:=false) (by simp[hkl,HC1.1])) λw2 g2=>?_;have hr2':=hr.gbN g2;have d1:=hr2'.sc.c1;have f1:=hr2'.sc.fr 1;go_wp2_with fail;refine mR (Cv hr2'.sc k 2 (r:=true) (by simp[hkl,HC2.1])) λw3 g3=>?_;have hr3':=hr2'.gbN g3;have e1:=hr3'.sc.c1;have f1:=hr3'.sc.fr 1;go_wp2;go_roundg gk
      case measure=>omega
      case rel=>exact⟨k+1,by omega,by omega,hr3'.go hb hkl⟩
def UR(h:Sc w b s i true true (-1))(ht:Tabs b w)(hi:i<s.length)(hn1:cls 1 (bAt s i)=false)(hc:cls 2 (bAt s i)=true):
 Calls Tryz.prog 266 #[.pointer (some ⟨b,0,none⟩)] w (TokPost w b s (BP s i)):=by
 have hb:=h.lt;have hf:=h.few;have c1:=h.c1;have g0:w.grownBy ((w.alloc (.cells #[.int .i64 0,.int .i64 0,str []] 250 (0,0))).alloc (.cells #[.int .i64 0,.int .i64 i,str []] 250 (0,0))) none:=Ac (gZ w _ none) _;have hA:TkRel w b s i i ((w.alloc (.cells #[.int .i64 0,.int .i64 0,str []] 250 (0,0))).alloc (.cells #[.int .i64 0,.int .i64 i,str []] 250 (0,0))):=
  ⟨h.gbN g0,(Blk.new _ [.int .i64 0,.int .i64 i,str []] _).of_eq (by simp) rfl,(Blk.new _ [.int .i64 0,.int .i64 0,str []] _).alloc _,A2 g0,ht.gbN g0⟩
 clear h ht g0;have hr1:Aq s (cls 2) i<=s.length:=CJ (by omega);have hr2:i<=Aq s (cls 2) i:=BG _ _ _;have HT:=S (show BP s i=if 15<Aq s (cls 2) i-i then .bad i else .tok ⟨1,i,A5 s i (Aq s (cls 2) i)⟩ (Aq s (cls 2) i) true from(if_neg (by rw[hn1];simp)).trans (if_pos hc));have HC:=S (X hn1 hc);clear hc hn1;go_enter func266,ntmps266;go_wp2_with fail;refine mR (Cv hA.sc i 1 (r:=false) (by simp[HC.1.1])) λw1 g1=>?_;have hA1:=hA.gbN g1;clear hA g1;go_wp2_with fail;refine(Cv hA1.sc i 2 (r:=true) (by simp[hi,HC.1.2])).mono ?_;rintro e w1' ⟨rfl,g1⟩;have hA2:=hA1.gbN g1;clear hA1 g1;go_wp2_with fail;go_loopg [] (Aq s (cls 2) i-i) (λg wr=>∃k:Nat,k+g=Aq s (cls 2) i/\i<=k/\TkRel w b s i k wr)
 case atStart=>exact⟨i,by omega,nR _,hA2⟩
 case round=>
  obtain⟨k,hk,hik,hr⟩:=hrel;clear hA2 c1;have c1:=hr.sc.c1;have hb1:=hr.sc.lt;cases gk with
  | zero=>
    have hke:k=Aq s (cls 2) i:=by omega
    have hstop:(decide (k<s.length)&&cls 2 (bAt s k))=false:=by
     by_cases hkl:k<s.length
     ·have:=Lc (s:=s) (p:=cls 2) (i:=i) (by omega);rw[<-hke]at this;simp[this]
     ·simp[hkl]
    have HS:=S hstop;rw[<-hke]at HT hr1 hr2;have hx:=CY s i k;rw[show(s.drop i).take (k-i)=A5 s i k from rfl]at hx;have HX:=S hx;have HL:=S (show(A5 s i k).length=k-i from EZ hik (by omega));generalize A5 s i k=T at*;clear hx hstop hke hk;go_wp2_with fail;refine mR (Cv hr.sc k 2 (r:=false) HS.1) λw3 g3=>?_;have hq3:=hr.gbN g3;have e0:=hq3.sc.c0;have e1:=hq3.sc.c1;have t0:=hq3.tok.cell' 0 rfl;have t1:=hq3.tok.cell' 1 rfl;have t2:=hq3.tok.cell' 2 rfl;have tf:=λk=>hq3.tok.frozen k;have tl:=hq3.tok.lt;have hkI:decide ((k:Int)<=s.length)=true:=by simp;omega
    have hkI2:decide (i<=k)=true:=by simp;omega
    have hq:=S hq3;clear hq3 hr g3;go_wp2_with fail;go_region;rw[HX.1];all_goals
     refine Md (λW=>TkEnd w b s i k 1 T W) ?_ ?_
     ·exact⟨((hq.1.sc.drewN 1).set_other _ _ (by simp;omega)).set_other _ _ (by simp;omega),(((hq.1.tok.drewN 1).set 0 (.int .i64 1)).set 2 (str T)).of_eq rfl rfl,((hq.1.res.drewN 1).set_other _ _ (by simp)).set_other _ _ (by simp),Af (Af (Ae hq.1.g) _ _ (.inr (by simp))) _ _ (.inr (by simp))⟩
     intro W hW;have a0:=hW.tok.cell' 0 rfl;have a1:=hW.tok.cell' 1 rfl;have a2:=hW.tok.cell' 2 rfl;have HW:=S hW;have HS:=S (fun(W':World)(g:W.grownBy W' none)=>MR (hW.gbN g).sc ⟨1,i,T⟩ 15);have hWs:=hW.g.size;have hWl:=hW.tok.lt;clear hW;by_cases hm:15<T.length
     ·have HM:=S (show BP s i= .bad i by rw[HT.1,<-HL.1,if_pos hm]);have HP:=S hm;clear hm;go_wp2_with fail;go_region_with(first| (go_at_call 292;refine(HS.1 _ ?gg).mono ?_;(case gg=>exact(Ae (Aa _ _)));intro e w8 hp8;obtain⟨g8,hp9⟩:=hp8;rw[if_pos HP.1]at hp9;obtain⟨rfl,h8⟩:=hp9;(have hr8:=(HW.1.res.drewN 1).gb g8 (by simp;omega));(have ht8:=(HW.1.tok.drewN 1).gb g8 (by simp;omega));(have r0:=hr8.cell' 0 rfl);(have r1:=hr8.cell' 1 rfl);(have r2:=hr8.cell' 2 rfl);(have rf:=λk=>hr8.frozen k);(have rl:=hr8.lt);(have b0:=ht8.cell' 0 rfl);(have b1:=ht8.cell' 1 rfl);(have b2:=ht8.cell' 2 rfl)));all_goals
       go_wp2;refine bZ (Cc (t:=⟨1,i,T⟩) (r:=false) rfl _ (hr8.set3 _ _ _) rfl rfl) rfl ⟨?_,?_⟩
       ·have g:=Z (Ae HW.1.g) g8;exact(Af (Af (Af (by assumption) _ _ (.inr (nR _))) _ _ (.inr (nR _))) _ _ (.inr (nR _)))
       ·rw[HM.1];exact⟨⟨_,rfl⟩,k,true,(by repeat(first| (with_reducible assumption)| (with_reducible apply Sc.set_other)| (simp<;>omega)))⟩
     ·have HM:=S (show BP s i= .tok ⟨1,i,T⟩ k true by rw[HT.1,<-HL.1,if_neg hm]);have HP:=S hm;clear hm;go_wp2_with fail;go_region_with(first| (go_at_call 292;refine(HS.1 _ ?gg).mono ?_;(case gg=>exact(Ae (Aa _ _)));intro e w8 hp8;obtain⟨g8,hp9⟩:=hp8;rw[if_neg HP.1]at hp9;obtain⟨rfl,h8⟩:=hp9;(have hr8:=(HW.1.res.drewN 1).gb g8 (by simp;omega));(have ht8:=(HW.1.tok.drewN 1).gb g8 (by simp;omega));(have r0:=hr8.cell' 0 rfl);(have r1:=hr8.cell' 1 rfl);(have r2:=hr8.cell' 2 rfl);(have rf:=λk=>hr8.frozen k);(have rl:=hr8.lt);(have b0:=ht8.cell' 0 rfl);(have b1:=ht8.cell' 1 rfl);(have b2:=ht8.cell' 2 rfl)));all_goals
       go_wp2;refine bZ (Cc (t:=⟨1,i,T⟩) (r:=true) rfl _ (hr8.set3 _ _ _) rfl rfl) rfl ⟨?_,?_⟩
       ·have g:=Z (Ae HW.1.g) g8;exact(Af (Af (Af (by assumption) _ _ (.inr (nR _))) _ _ (.inr (nR _))) _ _ (.inr (nR _)))
       ·rw[HM.1];exact⟨rfl,(by repeat(first| (with_reducible assumption)| (with_reducible apply Sc.set_other)| (simp<;>omega)))⟩
  | succ gk=>
    have h10:=IL hik (by omega:k<Aq s (cls 2) i);have hkl:=h10.1;have HW:=S h10.2;clear h10;go_wp2_with fail;refine mR (Cv hr.sc k 2 (r:=true) (by simp[hkl,HW.1])) λw2 g2=>?_;have hr2':=hr.gbN g2;have d1:=hr2'.sc.c1;have f1:=hr2'.sc.fr 1;go_wp2;go_roundg gk
    case measure=>omega
    case rel=>exact⟨k+1,by omega,by omega,hr2'.go hb hkl⟩
def TokFin(b:Nat)(s:Bs)(r:St)(t:Tok)(ok:Bool)(w:World):Prop:=match r with
 | .tok t' j l=>t=t'/\ok=true/\Sc w b s j l l (-1)
 | .bad k=>ok=false/\∃j l,Sc w b s j l l k
 |_=>False
def TokPost.fin{r:St}{e:Ending}(h:TokPost w b s r e w'):w.grownBy w' (some b)/\∃t ok,e= .returned (.tuple #[AR t,.bool ok])/\TokFin b s r t ok w':=by
 obtain⟨g,h⟩:=h;refine⟨g,?_⟩;cases r with
 |tok t j l=>exact⟨t,true,h.1,rfl,rfl,h.2⟩
 |bad k=>obtain⟨⟨t,e⟩,hs⟩:=h;exact⟨t,false,e,rfl,hs⟩
 |again j l=>exact h.elim
 |stop=>exact h.elim
def TokFin.post{r:St}{t:Tok}{ok:Bool}(h:TokFin b s r t ok w')(g:w.grownBy w' (some b)):TokPost w b s r (.returned (.tuple #[AR t,.bool ok])) w':=by
 refine⟨g,?_⟩;cases r with
 |tok t' j l=>obtain⟨rfl,rfl,hs⟩:=h;exact⟨rfl,hs⟩
 |bad k=>obtain⟨rfl,hs⟩:=h;exact⟨⟨t,rfl⟩,hs⟩
 |again j l=>exact h.elim
 |stop=>exact h.elim
def TokFin.set_other{r:St}{t:Tok}{ok:Bool}(h:TokFin b s r t ok w)(a:Addr)(v:Value)(hne:b≠a.block):TokFin b s r t ok (w.setCell a v):=by
 cases r with
 |tok t' j l=>obtain⟨h1,h2,hs⟩:=h;exact⟨h1,h2,hs.set_other a v hne⟩
 |bad k=>obtain⟨h1,j,l,hs⟩:=h;exact⟨h1,j,l,hs.set_other a v hne⟩
 |again j l=>exact h.elim
 |stop=>exact h.elim
def Eu(hn:n<256)(h:(a==UInt8.ofNat n)=r):((a.toNat:Int)==(n:Int))=r:=by
 subst h;rw[Bool.eq_iff_iff];simp only[beq_iff_eq];constructor
 ·intro h;have h1:a.toNat=n:=by omega
  apply UInt8.toNat_inj.1;rw[h1];simp[UInt8.toNat_ofNat',Nat.mod_eq_of_lt hn]
 ·rintro rfl;simp[UInt8.toNat_ofNat',Nat.mod_eq_of_lt hn]
def SM(h:Sc w b s i true true (-1))(ht:Tabs b w)(hi:i<s.length)(hn1:cls 1 (bAt s i)=false)(hn2:cls 2 (bAt s i)=false)(h10:bAt s i≠10):
 Calls Tryz.prog 266 #[.pointer (some ⟨b,0,none⟩)] w (TokPost w b s (BP s i)):=by
 have hb:=h.lt;have hf:=h.few;have c1:=h.c1;have g0:w.grownBy ((w.alloc (.cells #[.int .i64 0,.int .i64 0,str []] 250 (0,0))).alloc (.cells #[.int .i64 0,.int .i64 i,str []] 250 (0,0))) none:=Ac (gZ w _ none) _;have hA:TkRel w b s i i ((w.alloc (.cells #[.int .i64 0,.int .i64 0,str []] 250 (0,0))).alloc (.cells #[.int .i64 0,.int .i64 i,str []] 250 (0,0))):=
  ⟨h.gbN g0,(Blk.new _ [.int .i64 0,.int .i64 i,str []] _).of_eq (by simp) rfl,(Blk.new _ [.int .i64 0,.int .i64 0,str []] _).alloc _,A2 g0,ht.gbN g0⟩
 clear h ht g0;have HC:=S (X hn1 hn2);have HB:=S h10;clear hn1 hn2 h10;go_enter func266,ntmps266;go_wp2_with fail;refine mR (Cv hA.sc i 1 (r:=false) (by simp[HC.1.1])) λw1 g1=>?_;have hA1:=hA.gbN g1;clear hA g1;go_wp2_with fail;refine mR (Cv hA1.sc i 2 (r:=false) (by simp[HC.1.2])) λw2 g1=>?_;have hA2:=hA1.gbN g1;clear hA1 g1 c1;have c0:=hA2.sc.c0;have c1:=hA2.sc.c1;have hg:=λh=>GE s i h hi;have gs:=hA2.g.size;have hbl:=hA2.sc.lt;have t0:=hA2.tok.cell' 0 rfl;have t1:=hA2.tok.cell' 1 rfl;have t2:=hA2.tok.cell' 2 rfl;cases hq:(bAt s i==34||bAt s i==39)with
 | true=>
   have HT:=S (show BP s i=EJ s i from(if_neg (by rw[HC.1.1];simp)).trans ((if_neg (by rw[HC.1.2];simp)).trans (if_pos (by simpa using hq))));have hX:=WV hA2.sc hi HB.1;have HX:=S hX;clear hX;cases h34:bAt s i==34
   case' true=>
    have e34:=Eu (n:=34) (by decide) h34;clear hq h34;simp only[Int.cast_ofNat_Int]at e34
   case' false=>
    have e34:=Eu (n:=34) (by decide) h34;have e39:=Eu (n:=39) (r:=true) (by decide) (by simpa[h34]using hq);clear hq h34;simp only[Int.cast_ofNat_Int]at e34 e39
   all_goals
    generalize bAt s i=q at*;go_wp2_with fail;refine HX.1.mono ?_;intro e w3 hp;obtain⟨g3,t,ok,rfl,hF⟩:=hp.fin;have hr3:=hA2.res.gb g3 (by simp;omega);have r0:=hr3.cell' 0 rfl;have r1:=hr3.cell' 1 rfl;have r2:=hr3.cell' 2 rfl;have rf:=λk=>hr3.frozen k;have rl:=hr3.lt;go_wp2;refine bZ (Cc (t:=t) (r:=ok) rfl _ (hr3.set3 _ _ _) rfl rfl) rfl ?_;rw[HT.1];have g:=Z hA2.g g3;exact(((hF.set_other _ _ (by simp;omega)).set_other _ _ (by simp;omega)).set_other _ _ (by simp;omega)).post (Af (Af (Af (by assumption) _ _ (.inr (nR _))) _ _ (.inr (nR _))) _ _ (.inr (nR _)))
 | false=>
   have h34:(bAt s i==34)=false/\(bAt s i==39)=false:=by simpa using hq
   have HT0:=S (show BP s i=(match C0 (s.drop i)with|some (d,n)=>St.tok ⟨3,i,d⟩ (i+n) true|none=>Jl s i)from(if_neg (by rw[HC.1.1];simp)).trans ((if_neg (by rw[HC.1.2];simp)).trans (if_neg (by simpa using h34))));have e34:=Eu (n:=34) (by decide) h34.1;have e39:=Eu (n:=39) (by decide) h34.2;have hX:=WC hA2.sc;have HX0:=S hX;clear hq h34 hX;simp only[Int.cast_ofNat_Int]at e34 e39;generalize bAt s i=q at*;go_wp2_with fail;refine HX0.1.mono ?_;rintro e w4 ⟨g4,hp⟩;have hA4:=hA2.gbN g4;have gs4:=hA4.g.size;have hb4:=hA4.sc.lt;cases hd:C0 (s.drop i)with
   | some p=>
     obtain⟨d,n⟩:=p;have hlen:=M4 hd;simp only[List.length_drop]at hlen;rw[hd]at hp HT0;have HT:=S HT0.1;subst hp;clear hd HT0;have q1:=hA4.sc.c1;have f1:=hA4.sc.fr 1;have r0:=hA4.res.cell' 0 rfl;have r1:=hA4.res.cell' 1 rfl;have r2:=hA4.res.cell' 2 rfl;have rf:=λk=>hA4.res.frozen k;have rl:=hA4.res.lt;go_wp2;refine bZ (Cc (t:=⟨3,i,d⟩) (r:=true) rfl _ ((hA4.res.set_other _ _ (by simp;omega)).set3 _ _ _) rfl rfl) rfl ⟨?_,?_⟩
     ·have g:=hA4.g;exact(by repeat(first| (with_reducible assumption)| ((with_reducible refine Af ?_ _ _ ?h2);case h2=>first|exact .inl rfl|exact .inr (nR _))))
     ·rw[HT.1];have hs4:=hA4.sc;exact⟨rfl,(by repeat(first| (with_reducible assumption)| (with_reducible apply Sc.go)| (with_reducible apply Sc.set_other)|omega| (simp<;>omega)))⟩
   | none=>
     rw[hd]at hp HT0;have HT:=S HT0.1;obtain⟨d,n,rfl⟩:=hp;clear hd HT0;have hX:=WN hA4.sc hA4.tabs;have HX:=S hX;clear hX;have u0:=hA4.tok.cell' 0 rfl;have u1:=hA4.tok.cell' 1 rfl;have u2:=hA4.tok.cell' 2 rfl;go_wp2_with fail;refine HX.1.mono ?_;intro e w3 hp;obtain⟨g3,t,ok,rfl,hF⟩:=hp.fin;have hr3:=hA4.res.gb g3 (by simp;omega);have r0:=hr3.cell' 0 rfl;have r1:=hr3.cell' 1 rfl;have r2:=hr3.cell' 2 rfl;have rf:=λk=>hr3.frozen k;have rl:=hr3.lt;go_wp2;refine bZ (Cc (t:=t) (r:=ok) rfl _ (hr3.set3 _ _ _) rfl rfl) rfl ?_;rw[HT.1];have g:=Z hA4.g g3;exact(((hF.set_other _ _ (by simp;omega)).set_other _ _ (by simp;omega)).set_other _ _ (by simp;omega)).post (Af (Af (Af (by assumption) _ _ (.inr (nR _))) _ _ (.inr (nR _))) _ _ (.inr (nR _)))
def UP(h:Sc w b s i true true (-1))(ht:Tabs b w)(hi:i<s.length)(h10:bAt s i≠10):
 Calls Tryz.prog 266 #[.pointer (some ⟨b,0,none⟩)] w (TokPost w b s (BP s i)):=by
 cases h1:cls 1 (bAt s i)with
 |true=>exact SN h ht hi h1
 | false=>
   cases h2:cls 2 (bAt s i)with
   |true=>exact UR h ht hi h1 h2
   |false=>exact SM h ht hi h1 h2 h10
def Cn:List (Bs×Value)->Nat->List MapEntry
 | [],_=>[]
 | (k,v)::l,n=>{key:=str k,val:=v,born:=n}::Cn l (n+1)
def AL(l:List (Bs×Value)):Obj:= .map (Cn l 0).toArray l.length
def LE(l:List (Bs×Value))(k:Bs)(v:Value):∀n,Cn (l++[(k,v)]) n=Cn l n++[{key:=str k,val:=v,born:=n+l.length}]:=by
 induction l with
 |nil=>intro n;simp[Cn]
 |cons x l ih=>intro n;obtain⟨a,b⟩:=x;simp[Cn,ih,Nat.add_assoc,Nat.add_comm 1]
def Cg(s:Bs):List (Bs×Value)->Nat->Option (Nat×Value)
 | [],_=>none
 | (k,v)::l,i=>if s==k then some (i,v)else Cg s l (i+1)
def Ik(s:Bs)(l:List (Bs×Value)):∀n i,Instr.findNow .string (str s) (Cn l n) i=some (Cg s l i):=by
 induction l with
 |nil=>intro n i;simp[Cn,Instr.findNow,Cg]
 | cons x l ih=>
   intro n i;obtain⟨a,b⟩:=x;simp only[Cn,Instr.findNow,Instr.sameNow,Oo,Cg];cases h:s==a
   ·simp[ih]
   ·simp
def Es(k:Bs):List (Bs×Value)->Prop
 | []=>True
 |x::l=>k≠x.1/\Es k l
def J5(k:Bs):Es k []:=trivial
def Jw(k a:Bs)(b:Value)(l:List (Bs×Value)):Es k ((a,b)::l)=(k≠a/\Es k l):=rfl
def Mn(k:Bs)(l:List (Bs×Value))(hf:Es k l):∀i,Cg k l i=none:=by
 induction l with
 |nil=>intro i;rfl
 | cons x l ih=>
   intro i;simp only[Cg];rw[if_neg (by simpa using hf.1)];exact ih hf.2 _
def UY{mty kt et:TypeId}(hm:P.underlying mty=some (.map kt et))(hk:P.underlying kt=some .string)(w:World)(l:List (Bs×Value))(r:Nat)(hr:r=w.heap.size)(k:Bs)(v:Value)(hf:Es k l):
 (Instr.mapUpdate mty (.map (some r)) (str k) v).run P (w.alloc (AL l))= .ok () (w.alloc (AL (l++[(k,v)]))):=by
 subst hr;have hb:(w.alloc (AL l)).heap[w.heap.size]? =some (.map (Cn l 0).toArray l.length):=heap_alloc_new w _;have hf:Instr.findNow .string (str k) (Cn l 0) 0=some none:=by rw[Ik,Mn k l hf]
 have hc:(Instr.checkKey false 10000 kt (str k)).run P (w.alloc (AL l))= .ok () (w.alloc (AL l)):=MapKept.run_checkKey (k:=str k) hk (by simp[MapKept.IsKey]) false 9999;simp[Instr.mapUpdate,run_underlying hm,MapKept.run_getObj_map hb,hc,MapKept.run_findKey hk hf,MapKept.run_setObj_map _ hb,Result.andThen];have e:=Ls w (AL l) (AL (l++[(k,v)]));have e2:(Obj.map (Cn l 0++[({key:=str k,val:=v,born:=l.length}:MapEntry)]).toArray (l.length+1))=AL (l++[(k,v)]):=by simp[AL,LE]
 rw[e2];show({w with heap:=(w.heap.push (AL l)).setIfInBounds w.heap.size (AL (l++[(k,v)]))}:World)={w with heap:=w.heap.push (AL (l++[(k,v)]))};rw[e]
abbrev zGac(Ψ:∀(P:Program)(mty kt et:TypeId)(w:World)(l:List (Bs×Value))(r:Nat)(k:Bs)(z:Value),Prop):Prop:=∀{P:Program}{mty kt et:TypeId}(hm:P.underlying mty=some (.map kt et))(hk:P.underlying kt=some .string)(w:World)(l:List (Bs×Value))(r:Nat)(hb:w.heap[r]? =some (AL l))(k:Bs)(z:Value)(hz:(zeroValue et).run P w= .ok z w),Ψ P mty kt et w l r k z
def zGab:(zGac λP mty kt et w l r k z=>(Instr.lookup mty (.map (some r)) (str k) false).run P w= .ok (match Cg k l 0 with|some (_,v)=>v|none=>z) w)/\(zGac λP mty kt et w l r k z=>(Instr.lookup mty (.map (some r)) (str k) true).run P w= .ok (.tuple #[(match Cg k l 0 with|some (_,v)=>v|none=>z),.bool (Cg k l 0).isSome]) w):=by
 refine⟨?a,?b⟩
 all_goals
  intro P mty kt et hm hk w l r hb k z hz
 case' a=>
  skip
 case' b=>
  skip
 all_goals
  have hb':w.heap[r]? =some (.map (Cn l 0).toArray l.length):=hb;have hf:Instr.findNow .string (str k) (Cn l 0) 0=some (Cg k l 0):=by rw[Ik]
  have hc:∀e,(Instr.checkKey e 10000 kt (str k)).run P w= .ok () w:=λe=>MapKept.run_checkKey (k:=str k) hk (by simp[MapKept.IsKey]) e 9999
  cases h:Cg k l 0 with
  |none=>simp[Instr.lookup,run_underlying hm,MapKept.run_getObj_map hb',hc,MapKept.run_findKey hk hf,Result.andThen,h,hz]
  |some x=>simp[Instr.lookup,run_underlying hm,MapKept.run_getObj_map hb',hc,MapKept.run_findKey hk hf,Result.andThen,h]
def IP(w:World):(Instr.makeMap 68 none).run Tryz.prog w= .ok (.map (some w.heap.size)) (w.alloc (AL [])):=run_makeMap_plain w _
def K6(w:World)(l:List (Bs×Value))(r:Nat)(hr:r=w.heap.size)(k:Bs)(v:Int)(hf:Es k l):
 (Instr.mapUpdate 68 (.map (some r)) (.string ⟨k.toArray⟩) (.int .i64 v)).run Tryz.prog (w.alloc (AL l))= .ok () (w.alloc (AL (l++[(k,.int .i64 v)]))):=
 UY underlying68 underlying9 w l r hr k _ hf
def NM(w:World):(zeroValue 3).run Tryz.prog w= .ok (.int .i64 0) w:=by kernel_rfl
def Kb{r:Nat}(hb:w.heap[r]? =some (AL l))(k:Bs):
 (Instr.lookup 68 (.map (some r)) (str k) false).run Tryz.prog w= .ok (match Cg k l 0 with|some (_,v)=>v|none=> .int .i64 0) w:=
 zGab.1 underlying68 underlying9 w l r hb k _ (NM w)
def SY{r:Nat}(hb:w.heap[r]? =some (AL l))(k:Bs):
 (Instr.lookup 68 (.map (some r)) (str k) true).run Tryz.prog w= .ok (.tuple #[(match Cg k l 0 with|some (_,v)=>v|none=> .int .i64 0),.bool (Cg k l 0).isSome]) w:=
 zGab.2 underlying68 underlying9 w l r hb k _ (NM w)
section
variable {md:Region.Mode}{ops:Array Oper}
def DP(ops:Array Oper)(listed:Array Bool):List Nat:=(List.range ops.size).filter λi=>!listed.getD i true
def Qe(hs:listed.size=ops.size)(hi:i∈DP ops listed):(DP ops (listed.setIfInBounds i true)).length<(DP ops listed).length:=by
 have hlt:i<listed.size:=by
  have:=(List.mem_filter.1 hi).1;rw[List.mem_range]at this;omega
 have e:DP ops (listed.setIfInBounds i true)=(DP ops listed).filter λj=>decide (j≠i):=by
  unfold DP;rw[List.filter_filter];apply List.filter_congr;intro j hj;rw[List.mem_range]at hj;by_cases h:j=i
  ·subst h;simp[Array.getD_eq_getD_getElem?,hlt]
  ·have h':¬i=j:=λe=>h e.symm;simp[Array.getD_eq_getD_getElem?,Array.getElem?_setIfInBounds,h,h']
 rw[e];exact List.length_filter_lt_length_iff_exists.2 ⟨i,hi,by simp⟩
def L0(hi:i∈Region.ready md ops listed):i∈DP ops listed:=by
 unfold Region.ready at hi;obtain⟨h1,h2⟩:=List.mem_filter.1 hi;exact List.mem_filter.2 ⟨h1,by simp only[Bool.and_eq_true]at h2;exact h2.1⟩
def Vh{I:Array Bool->Act->World->Prop}
 (hstep:∀listed a w,listed.size=ops.size->I listed a w->∀i∈Region.ready md ops listed,wpOp P ops Q i (I (listed.setIfInBounds i true)) a w)
 (hend:∀listed a w,listed.size=ops.size->I listed a w->Region.ready md ops listed=[]->Q .normal a w):
 ∀fuel listed a w,listed.size=ops.size->(DP ops listed).length<=fuel->I listed a w->wpAny P md ops Q fuel listed a w:=by
 intro fuel;induction fuel with
 | zero=>
   intro listed a w hs hf h;have hr:Region.ready md ops listed=[]:=by
    cases hc:Region.ready md ops listed with
    |nil=>rfl
    | cons i rs=>
      have hm:i∈DP ops listed:=L0 (md:=md) (by rw[hc];exact List.mem_cons_self);have:=List.length_pos_of_mem hm;omega
   exact⟨hr,hend listed a w hs h hr⟩
 | succ fuel ih=>
   intro listed a w hs hf h;refine⟨λhr=>hend listed a w hs h hr,λi hi=>?_⟩;have hl:=Qe hs (L0 hi);exact wpOp_mono (λa' w' h'=>ih _ a' w' (by simpa using hs) (by omega) h') (hstep listed a w hs h i hi)
def Ot(md:Region.Mode)(o:Oper):List Nat:=(o.after.toList.filter (Region.binds md)).map (·.on)
def Mz(hi:i∈Region.ready md ops listed):i<ops.size/\listed.getD i true=false/\∀o,ops[i]? =some o->∀d∈Ot md o,listed.getD d false=true:=by
 unfold Region.ready at hi;obtain⟨h1,h2⟩:=List.mem_filter.1 hi;rw[List.mem_range]at h1;simp only[Bool.and_eq_true,Bool.not_eq_true']at h2;refine⟨h1,h2.1,λo ho d hd=>?_⟩;have h3:=h2.2;rw[ho]at h3;simp only[Option.map_some,Option.getD_some,Array.all_eq_true_iff_forall_mem]at h3;unfold Ot at hd;obtain⟨e,he,rfl⟩:=List.mem_map.1 hd;obtain⟨he,hb⟩:=List.mem_filter.1 he;have:=h3 e (by simpa using he);rw[hb]at this;simpa using this
end
def RepT.monoE{ok':Nat->Prop}(hk:∀k,ok k->k<w.heap.size->ok' k):∀{b:Bl}{k:Bool}{cs:List Value},RepT ok w b k cs->RepT ok' w b k cs:=by
 intro b;induction b with
 |nil=>intro k cs h;exact h
 | st h b n ih1 ih2=>
   intro k cs hr;cases k with
   |true=>exact hr
   | false=>
     obtain⟨pa,xa,na,fa,wa,ba,pc,xc,nc,fc,wc,bc,kcs,rest,e,h1,h2,h3,h4⟩:=hr;exact⟨pa,xa,na,fa,wa,ba,pc,xc,nc,fc,wc,bc,kcs,rest,e,⟨h1.p.mono hk,h1.x.mono hk,h1.n.mono hk,h1.f.mono hk,h1.w.mono hk⟩,h2.mono hk,ih1 h3,ih2 h4⟩
 | bl b n ih1 ih2=>
   intro k cs hr;cases k with
   |false=>exact hr
   | true=>
     obtain⟨ba,bc,kcs,rest,e,h2,h3,h4⟩:=hr;exact⟨ba,bc,kcs,rest,e,h2.mono hk,ih1 h3,ih2 h4⟩
structure Pd where
 name:Bs
 fn:Bool
 p:List Bs
 body:Bl
def pdC(h:Pd)(pv bv:Value):List Value:=[str h.name,.bool h.fn,pv,bv]
def RepP(ok:Nat->Prop)(w:World):List Pd->List Value->Prop
 | [],cs=>cs=[]
 |h::r,cs=>∃pa ba,∃pc bc,∃rest,cs=pdC h (.slice pa h.p.length pc) (.slice ba h.body.len bc)++rest/\Cells w (.slice pa h.p.length pc) 1 h.p.length (h.p.map str) ok/\RepV ok w false (.slice ba h.body.len bc) h.body/\RepP ok w r rest
def RepQ(ok:Nat->Prop)(w:World)(v:Value)(l:List Pd):Prop:=∃cs,Cells w v 4 l.length cs ok/\RepP ok w l cs
def RepP.gb{r:Option Nat}(g:w.grownBy w1 r)(hk:∀k,ok k->k<w.heap.size->some k≠r):∀{l:List Pd}{cs:List Value},RepP ok w l cs->RepP ok w1 l cs:=by
 intro l;induction l with
 |nil=>intro cs h;exact h
 | cons a s ih=>
   rintro cs ⟨pa,ba,pc,bc,rest,e,h1,h2,h3⟩;exact⟨pa,ba,pc,bc,rest,e,h1.gb g hk,h2.gb g hk,ih h3⟩
def RepQ.gb{r:Option Nat}{l:List Pd}(h:RepQ ok w v l)(g:w.grownBy w1 r)(hk:∀k,ok k->k<w.heap.size->some k≠r):RepQ ok w1 v l:=by
 obtain⟨cs,h1,h2⟩:=h;exact⟨cs,h1.gb g hk,h2.gb g hk⟩
def RepP.elem{la:Option Addr}{h:Pd}{r:List Pd}(hc:∀j u,cs[j]? =some u->∃g o,la=some ⟨g,o,none⟩/\ok g/\w.cell? ⟨g,o+j,none⟩=some u)
 (hr:RepP ok w (h::r) (cs.drop (k*4))):∃pa ba,∃pc bc,Cells w (.slice pa h.p.length pc) 1 h.p.length (h.p.map str) ok/\RepV ok w false (.slice ba h.body.len bc) h.body/\RepP ok w r (cs.drop ((k+1)*4))/\
  ∀i u,(pdC h (.slice pa h.p.length pc) (.slice ba h.body.len bc))[i]? =some u->∃g o,la=some ⟨g,o,none⟩/\ok g/\w.cell? ⟨g,o+(k*4+i),none⟩=some u:=by
 obtain⟨pa,ba,pc,bc,rest,e,h1,h2,h3⟩:=hr;exact⟨pa,ba,pc,bc,h1,h2,(Kn (n:=4) rfl e) ▸ h3,λi u hu=>hc _ u (KH e hu)⟩
structure WdOk(d:Wd)(day:Bs->Int):Prop where
 nums:∀n:Int,0<=n->n<=999999999999999->(d.num n).length<=15/\AA (d.num n)=n
 days:∀n:Int,0<n->n<=3652059->day (d.day n)=n
 zero:day []=0
def Yd{k:Fo}(h:k.len=0):k= .nil:=by
 cases k with
 |nil=>rfl
 |cons a b c=>simp[Fo.len]at h
def Hj{k:Fo}(h:k.len=1):∃a b,k= .cons a b .nil:=by
 cases k with
 |nil=>simp[Fo.len]at h
 |cons a b c=>exact⟨a,b,by rw[Yd (k:=c) (by simpa[Fo.len]using h)]⟩
def Og{k:Fo}(h:k.len=2):∃a b a' b',k= .cons a b (.cons a' b' .nil):=by
 cases k with
 |nil=>simp[Fo.len]at h
 | cons a b c=>
   obtain⟨a',b',rfl⟩:=Hj (k:=c) (by simpa[Fo.len]using h);exact⟨a,b,a',b',rfl⟩
section
variable {d:Wd}{l:List Tok}{N:Nat}
end
def okX(x:Ex):Bool:=BY x.h x.kids.len&&okF x.kids
section
variable {l:List Tok}
end
def Bb(x:Int):Prop:= -9223372036854775808<=x/\x<=9223372036854775807
def Dl(c:Cd):Prop:=Bb c.op/\Bb c.a/\Bb c.b
def CP(u:Un):Prop:=(∀x∈u.row,Bb x)/\∀c∈u.code,Dl c
def AN(us:List Un):Prop:=∀u∈us,CP u
def FJ{l:List α}{x:α}(h:l[k]? =some x):x∈l:=List.mem_of_getElem? h
def Dk{x:Int}(h:Bb x):(Lib.itoa x).length<=21:=Lib.itoa_length_le x h.1 h.2
def KF{f:α->Bs}{g:α->Nat}{l:List α}(hf:∀x∈l,(f x).length<=30*g x)(k:Nat):(A4 f l k).length<=30*pfx g l k:=by
 induction k with
 |zero=>simp[A4,pfx]
 | succ k ih=>
   rw[A4,lA,pfx,Nat.mul_add];cases h:l[k]? with
   |none=>simpa using ih
   |some x=>have:=hf x (FJ h);simp only;omega
def Kl(h:Dl c):(Bc c).length<=30*wtC c:=by
 have h1:=Dk h.1;have h2:=Dk h.2.1;have h3:=Dk h.2.2;have h4:=GA c.s;simp only[Bc,wtC,lA,List.length_cons,List.length_nil];omega
def E9(h:CP u)(j:Nat)(hj:j<=u.row.length):(A4 A1 u.row j).length<=30*u.row.length:=by
 have h1:=KF (f:=A1) (g:=λ_=>1) (l:=u.row) (λx hx=>by have:=Dk (h.1 x hx);simp[A1];omega) j;have h2:pfx (λ_:Int=>1) u.row j<=pfx (λ_=>1) u.row u.row.length:=CT _ _ hj;have h3:∀k,k<=u.row.length->pfx (λ_:Int=>1) u.row k=k:=by
  intro k;induction k with
  |zero=>intro _;rfl
  |succ k ih=>intro hk;rw[C5 (AQ (show k<u.row.length by omega)),ih (by omega)]
 rw[h3 _ (nR _)]at h2;omega
def Km(h:CP u)(j:Nat)(hj:j<=u.code.length):(A4 Bc u.code j).length<=30*pfx wtC u.code u.code.length:=by
 have h1:=KF (f:=Bc) (g:=wtC) (l:=u.code) (λx hx=>Kl (h.2 x hx)) j;have h2:=CT wtC u.code hj;omega
def DS(u:Un):(BK u).length<=3*u.name.length+7:=by
 have:=GA u.name;simp only[BK,lA,List.length_cons,List.length_nil];omega
def UW(h:CP u):(AZ u).length<=30*(wtU u+1):=by
 have h1:=E9 h u.row.length (nR _);have h2:=Km h u.code.length (nR _);have h3:=DS u;have h4:wtU u=u.name.length+u.row.length+pfx wtC u.code u.code.length:=rfl;simp only[AZ,lA,List.length_cons,List.length_nil];omega
def NG(f:α->Nat)(l:List α)(k:Nat)(hk:k<=l.length):pfx (λx=>f x+1) l k=pfx f l k+k:=by
 induction k with
 |zero=>rfl
 |succ k ih=>rw[C5 (AQ hk),C5 (AQ hk),ih (by omega)];omega
def Ip(h:AN us)(k:Nat)(hk:k<=us.length):(A4 AZ us k).length<=30*AF us:=by
 have h1:=KF (f:=AZ) (g:=λu=>wtU u+1) (l:=us) (λu hu=>UW (h u hu)) k;have h2:=CT (λu=>wtU u+1) us hk;rw[NG wtU us us.length (nR _)]at h2;unfold AF;omega
def O5(h:us[k]? =some u):wtU u<=AF us:=by
 have hk:=(List.getElem?_eq_some_iff.1 h).1;have h1:=CT wtU us (show k+1<=us.length from hk);rw[C5 h]at h1;unfold AF;omega
def O4(h:u.code[k]? =some c):wtC c<=wtU u:=by
 have hk:=(List.getElem?_eq_some_iff.1 h).1;have h1:=CT wtC u.code (show k+1<=u.code.length from hk);rw[C5 h]at h1;unfold wtU;omega
section
variable {w0:World}{p:Value}{l:Bs}
def SI(h:Bld w b p v l):
 Calls Tryz.prog 48 #[.pointer (some ⟨b,0,none⟩)] w λe w'=>e= .returned (str l)/\∀w0:World,w0.grownBy w none->w0.heap.size<=b->w0.grownBy w' none:=by
 have hb:Lib.IsBuilder 86 5 b b (Lib.byteCells l) w:=by
  have hr:w.ownsRow b 5 1 v (Lib.byteCells l).length (Lib.byteCells l):=by
   have e:Lib.byteCells l=AC l:=rfl;rw[e,N1];obtain⟨h1,h2⟩:=h.row;refine⟨h1,?_⟩;rcases h2 with h2| ⟨g,cap,cur,e1,hbg,hrest⟩
   ·exact .inl h2
   ·exact .inr ⟨g,cap,cur,e1,by omega,hrest⟩
  have hne:v.ownBlock≠some b:=λe=>by have:=(h.own b e).1;omega
  rcases h.par with e|e
  ·exact .inl ⟨nR _,v,by rw[<-e];exact h.blk,hr,hne⟩
  ·exact .inr ⟨nR _,v,by rw[<-e];exact h.blk,hr,hne⟩
 refine(Builder_String_any b b l w hb (Nat.le_of_lt h.lt)).mono ?_;rintro e w' ⟨rfl,k⟩;exact⟨rfl,λw0 g hb=>⟨k.os.trans g.os,k.tape.trans g.tape,k.output.trans g.output,nT g.size k.size,λi hi hn=>(k.block i (by omega)).trans (g.block i hi hn)⟩⟩
def Bld.ne_blk(h:Bld w b p v l){t:TypeId}(hH:Blk w H cs t)(ht:t≠5):v.ownBlock≠some H:=by
 intro e;rcases h.row.2 with⟨rfl,_⟩| ⟨g,cap,cur,rfl,_,hg,_⟩
 ·simp[Value.ownBlock]at e
 ·simp only[Value.ownBlock,Option.some.injEq]at e;subst e;have hH':w.heap[g]? =some (.cells cs.toArray t (0,0)):=hH;rw[hg]at hH';simp only[Option.some.injEq,Obj.cells.injEq]at hH';exact ht hH'.2.1.symm
def Bld.stepB(h:Bld w b p v l)(f:FRb w w1 b v){t:TypeId}(hX:Blk w H cs t)(ht:t≠5)(hb:H≠b)(g:w0.grownBy w none)(h0:w0.heap.size<=b):Blk w1 H cs t/\w0.grownBy w1 none:=
 ⟨(f.block H hX.lt hb (h.ne_blk hX ht)).trans hX,f.below (λk e=>(h.own k e).1) h0 rfl g⟩
end
end Go.Proofs.YtbjfaimkiclhgaaGreatDoor
