/-
  Bat Bytes of a text in a block of their own, that a loop may write. Date DateB DateC Code: how much there is of it: Size on both sides, Weight. The table that Itoa reads; Itoa. SameA SameC StmA SynF S
-/
import Derived.Test.YtbjfaimkiclhgaaGreatDoorCt02
import Derived.Test.YtbjfaimkiclhgaaGreatDoorCt03
import Derived.Laws.IdiomStrings
import Derived.Laws.AppendOwn
import Derived.Laws.OwnMore
import Derived.Deep.AppendLies
import Derived.Deep.LoopGhost
import Derived.Test.YtbjfaimkiclhgaaGreatDoorPlain
import Derived.Lib.ItoaMem
import Derived.Deep.DeepCutAuto
set_option linter.all false
set_option maxRecDepth 100000
set_option maxHeartbeats 8000000
namespace Go.Proofs.YtbjfaimkiclhgaaGreatDoor
open Go.Proofs.Tryz
variable{s:Bs}{i k m n pc lc b B j:Nat}{w wr w1:World}{r:Option Nat}{α:Type}{v tv wv:Value}{us:List Un}{ok:Nat->Prop}{pa la:Option Addr}{cs rest a:List Value}{f:Fo}{h:Hd}{l:List Tok}{wl:List Bs}{E:Nat->Res Ex}{x y:Ex}
def bAt(s:Bs)(i:Nat):UInt8:=(s[i]?).getD 0
def CC(h:i<s.length):bAt s i=s[i]:=by simp[bAt,h]
def IE(h:i<s.length):s.drop i=bAt s i::s.drop (i+1):=by rw[CC h];exact List.drop_eq_getElem_cons h
open Go.RowKit
def VF:(Tryz.prog.info? 3).map (λi=>(i.zero,i.size,i.bytes))=some (some (.int .i64 0),1,8):=by kernel_rfl
structure BytR(s:Bs)(H:Nat)(wr:World):Prop where
 cell:∀j,j<s.length->wr.cell? ⟨H,j,none⟩=some (.int .u8 (bAt s j).toNat)
 fr:∀j,j<s.length->wr.frozen? ⟨H,j,none⟩=false
 lt:H<wr.heap.size
def BytR.new(w:World)(s:Bs)(cap:Nat):BytR s w.heap.size (w.drew.alloc (.cells (bytesRow ⟨s.toArray⟩ cap) 5 ((bytesRow ⟨s.toArray⟩ cap).size,(bytesRow ⟨s.toArray⟩ cap).size+1))):=by
 refine⟨λj hj=>?_,λj hj=>?_,by simp⟩
 ·show(w.drew.alloc _).cell? ⟨w.drew.heap.size,j,none⟩=_;rw[World.cell?_alloc_mark,bytesRow_at _ _ _ (by simpa using hj)];simp[CC hj]
 ·show(w.drew.alloc _).frozen? ⟨w.drew.heap.size,j,none⟩=_;rw[World.frozen?_alloc_mark];have:s.length<=(bytesRow ⟨s.toArray⟩ cap).size:=by simp[bytesRow]
  simp;omega
def Dw{o:Option Nat}(h:w.grownBy wr r)(g:wr.grownBy w1 o)(ho:∀k,o=some k->w.heap.size<=k):w.grownBy w1 r:=by
 cases o with
 |none=>exact Ag h g
 |some k=>exact Ap h g (.inr (ho k rfl))
def EC(w:World)(B:Nat)(t:TypeId)(k:Nat):w.ownsRow B t k (.slice none 0 0) 0 []:=⟨by simp,.inl ⟨rfl,rfl⟩⟩
def Ew(y:Int):Bool:=(y.tmod 4==0)&&((y.tmod 100 !=0)||(y.tmod 400==0))
def AT(y m:Int):Int:=if m==2&&Ew y then 29 else([31,28,31,30,31,30,31,31,30,31,30,31]:List Int).getD (m-1).toNat 0
def Av(y:Int):Int:=365*(y-1)+(y-1).tdiv 4-(y-1).tdiv 100+(y-1).tdiv 400
def Sf(y:Int)(h0:0<=y)(h1:y<=100000)(w:World):Calls Tryz.prog 362 #[.int .i64 y] w λe w'=>e= .returned (.bool (Ew y))/\w'=w:=by
 have b4:=Int.tmod_lt_of_pos y (b:=4) (by decide);have b100:=Int.tmod_lt_of_pos y (b:=100) (by decide);have b400:=Int.tmod_lt_of_pos y (b:=400) (by decide);have c4:=Int.tmod_nonneg (a:=y) 4 h0;have c100:=Int.tmod_nonneg (a:=y) 100 h0;have c400:=Int.tmod_nonneg (a:=y) 400 h0;unfold Ew;generalize e4:y.tmod 4=a at*;generalize e100:y.tmod 100=b at*;generalize e400:y.tmod 400=c at*;by_cases h4:a=0
 ·by_cases h100:b=0
  ·go_enter func362,ntmps362;go_wp2;go_ret;exact⟨by simp[h4,h100],rfl⟩
  ·go_enter func362,ntmps362;go_wp2;go_ret;exact⟨by simp[h4,h100],rfl⟩
 ·go_enter func362,ntmps362;go_wp2;go_ret;exact⟨by simp[h4],rfl⟩
def Jt(y:Int)(h0:0<=y)(h1:y<=100000)(w:World):Calls Tryz.prog 344 #[.int .i64 y] w λe w'=>e= .returned (.int .i64 (Av y))/\w'=w:=by
 have hb4: -100000<=(y-1).tdiv 4/\(y-1).tdiv 4<=100000:=by
  rcases Int.lt_or_le y 1 with h|h
  ·have:y=0:=by omega
   subst this;decide
  ·rw[Int.tdiv_eq_ediv_of_nonneg (by omega)];omega
 have hb100: -100000<=(y-1).tdiv 100/\(y-1).tdiv 100<=100000:=by
  rcases Int.lt_or_le y 1 with h|h
  ·have:y=0:=by omega
   subst this;decide
  ·rw[Int.tdiv_eq_ediv_of_nonneg (by omega)];omega
 have hb400: -100000<=(y-1).tdiv 400/\(y-1).tdiv 400<=100000:=by
  rcases Int.lt_or_le y 1 with h|h
  ·have:y=0:=by omega
   subst this;decide
  ·rw[Int.tdiv_eq_ediv_of_nonneg (by omega)];omega
 unfold Av;generalize e4:(y-1).tdiv 4=a at*;generalize e100:(y-1).tdiv 100=b at*;generalize e400:(y-1).tdiv 400=c at*;go_enter func344,ntmps344;go_wp2;go_ret;exact⟨rfl,rfl⟩
def Ii(y m:Int)(h0:0<=y)(h1:y<=100000)(hm0:1<=m)(hm1:m<=12)(w:World):Calls Tryz.prog 345 #[.int .i64 y,.int .i64 m] w (ρ w (.int .i64 (AT y m))):=by
 have hm:m=1\/m=2\/m=3\/m=4\/m=5\/m=6\/m=7\/m=8\/m=9\/m=10\/m=11\/m=12:=by omega
 rcases hm with rfl|rfl|rfl|rfl|rfl|rfl|rfl|rfl|rfl|rfl|rfl|rfl
 case inr.inl=>
  go_enter func345,ntmps345;go_wp2_with fail;refine(Sf y h0 h1 _).mono ?_;rintro e w1 ⟨rfl,rfl⟩;cases hl:Ew y with
  | true=>
    go_wp2;go_ret;exact⟨by simp[AT,hl],(Ac (Aa _ _) _)⟩
  | false=>
    go_wp2;go_ret;exact⟨by simp[AT,hl],(Ac (Aa _ _) _)⟩
 all_goals
  go_enter func345,ntmps345;go_wp2;go_ret;exact⟨rfl,(Ac (Aa _ _) _)⟩
def Kd(y m:Int)(hm0:1<=m)(hm1:m<=12):0<=AT y m/\AT y m<=31:=by
 have hm:m=1\/m=2\/m=3\/m=4\/m=5\/m=6\/m=7\/m=8\/m=9\/m=10\/m=11\/m=12:=by omega
 unfold AT;rcases hm with rfl|rfl|rfl|rfl|rfl|rfl|rfl|rfl|rfl|rfl|rfl|rfl<;>(try split)<;>decide
def Au(y:Int):Nat->Int
 | 0=>0
 |k+1=>Au y k+AT y (k+1)
def LY(y:Int):∀k:Nat,k<=12->0<=Au y k/\Au y k<=31*k:=by
 intro k;induction k with
 |zero=>intro _;simp[Au]
 | succ k ih=>
   intro hk;have h1:=ih (by omega);have h2:=Kd y (k+1) (by omega) (by omega);unfold Au;omega
def Fu(y m d:Int):Bool:=decide (y<1)||decide (9999<y)||decide (m<1)||decide (12<m)||decide (d<1)||decide (AT y m<d)
def BT(y m d:Int):Int×Int:=if Fu y m d then(0,1)else(Av y+d+Au y (m-1).toNat,0)
def WD(y m d:Int)(hy0:0<=y)(hy1:y<=9999)(hm0:0<=m)(hm1:m<=99)(hd0:0<=d)(hd1:d<=99)(w:World):
 Calls Tryz.prog 341 #[.int .i64 y,.int .i64 m,.int .i64 d] w (ρ w (.tuple #[.int .i64 (BT y m d).1,.int .i64 (BT y m d).2])):=by
 by_cases h1:y<1
 ·have hB:BT y m d=(0,1):=by simp[BT,Fu,h1]
  rw[hB];go_enter func341,ntmps341;go_wp2;exact bZ (v:= .tuple #[_,_]) (by simp[results,results341,go_sem];try(congr 1;omega)) rfl ⟨rfl,Aa _ _⟩
 by_cases h2:m<1
 ·have hB:BT y m d=(0,1):=by simp[BT,Fu,h2]
  rw[hB];go_enter func341,ntmps341;go_wp2;exact bZ (v:= .tuple #[_,_]) (by simp[results,results341,go_sem];try(congr 1;omega)) rfl ⟨rfl,Aa _ _⟩
 by_cases h3:12<m
 ·have hB:BT y m d=(0,1):=by simp[BT,Fu,h3]
  rw[hB];go_enter func341,ntmps341;go_wp2;exact bZ (v:= .tuple #[_,_]) (by simp[results,results341,go_sem];try(congr 1;omega)) rfl ⟨rfl,Aa _ _⟩
 by_cases h4:d<1
 ·have hB:BT y m d=(0,1):=by simp[BT,Fu,h4]
  rw[hB];go_enter func341,ntmps341;go_wp2;exact bZ (v:= .tuple #[_,_]) (by simp[results,results341,go_sem];try(congr 1;omega)) rfl ⟨rfl,Aa _ _⟩
 have hml:=Kd y m (by omega) (by omega);have hyl:0<=Av y/\Av y<=4000000:=by
  unfold Av;rw[Int.tdiv_eq_ediv_of_nonneg (by omega),Int.tdiv_eq_ediv_of_nonneg (by omega),Int.tdiv_eq_ediv_of_nonneg (by omega)];omega
 by_cases h5:AT y m<d
 ·have hB:BT y m d=(0,1):=by simp[BT,Fu,h5]
  rw[hB];go_enter func341,ntmps341;go_wp2_with fail;refine mR (Ii y m (by omega) (by omega) (by omega) (by omega) _) λw1 g1=>?_;go_wp2;exact bZ (v:= .tuple #[_,_]) (by simp[results,results341,go_sem];try(congr 1;omega)) rfl ⟨rfl,g1⟩
 have hB:BT y m d=(Av y+d+Au y (m-1).toNat,0):=by simp[BT,Fu,h1,h2,h3,h4,h5];omega
 rw[hB];clear hB;go_enter func341,ntmps341;go_wp2_with fail;refine mR (Ii y m (by omega) (by omega) (by omega) (by omega) _) λw1 g1=>?_;go_wp2_with fail;refine(Jt y (by omega) (by omega) _).mono ?_;rintro e w2 ⟨rfl,rfl⟩;go_wp2_with fail;generalize hM:(m-1).toNat=M at*;go_loopg [8,9,41] M (λg v8 v9 v41 wr=>∃k:Nat,k+g=M/\v8= .int .i64 (Av y+d+Au y k)/\v41= .int .i64 k/\w.grownBy wr none)
 case atStart=>exact⟨0,by omega,by simp[Au],rfl,g1⟩
 case round=>
  obtain⟨k,hk,rfl,rfl,gr⟩:=hrel;have hbl:=LY y k (by omega);cases gk with
  | zero=>
    have hkM:k=M:=by omega
    subst hkM;go_wp2;exact bZ (v:= .tuple #[_,_]) (by simp[results,results341,go_sem];try(congr 1;omega)) rfl ⟨rfl,gr⟩
  | succ gk=>
    go_wp2_with fail;refine mR (Ii y (k+1) (by omega) (by omega) (by omega) (by omega) _) λw3 g3=>?_;have hm2:=Kd y (k+1) (by omega) (by omega);go_wp2_with fail;go_roundg gk
    case measure=>omega
    case rel=>exact⟨k+1,by omega,by simp[Au];omega,by simp,Z gr g3⟩
def AO(b:UInt8):Bool:=decide (48<=b.toNat)&&decide (b.toNat<=57)
def Fz(s:Bs)(k:Nat)(h:k<(⟨s.toArray⟩:ByteArray).size)(h2:k<s.length):(⟨s.toArray⟩:ByteArray)[k]'h=s[k]:=rfl
def Nk(s:Bs)(k:Nat)(h:k<s.length):AA (s.take (k+1))=10*AA (s.take k)+((s[k].toNat:Int)-48):=by
 unfold AA;rw[List.take_succ_eq_append_getElem h,List.foldl_append];rfl
def IR(s:Bs)(hd:s.all AO=true):∀k,k<=s.length->0<=AA (s.take k)/\AA (s.take k)<10 ^ k:=by
 intro k;induction k with
 |zero=>intro _;simp[AA]
 | succ k ih=>
   intro hk;have h1:=ih (by omega);have h2:=List.all_eq_true.1 hd s[k] (List.getElem_mem _);simp[AO]at h2;rw[Nk s k (by omega),Int.pow_succ];omega
def Qc(s:Bs)(hd:s.all AO=true):Lib.trimLeftS s [32]=s:=by
 cases s with
 |nil=>rfl
 | cons c t=>
   simp[AO]at hd;have:c≠32:=by rintro rfl;simp at hd
   simp[Lib.trimLeftS,this]
def KY(s:Bs)(hd:s.all AO=true)(h0:1<=s.length)(h8:s.length<=8)(w:World):
 Calls Tryz.prog 342 #[str s] w (ρ w (.int .i64 (AA s))):=by
 cases s with
 |nil=>simp at h0
 |cons c t=>
 have hc:=List.all_eq_true.1 hd c (by simp);have hg:=NX c t;simp[AO]at hc;obtain⟨hc1,hc2⟩:=hc;have h45:((c.toNat:Int)==45)=false:=by simp;omega
 have h43:((c.toNat:Int)==43)=false:=by simp;omega
 have H:=S hd;have h8':t.length<=7:=by simpa using h8
 go_enter func342,ntmps342;go_wp2_with fail;refine mR (strings_TrimLeft ⟨(c::t).toArray⟩ ⟨#[32]⟩ _ (by decide) (ascii_of_all (by decide))) λw1 hb=>?_;have gr:=gbB hb none;rw[show Lib.trimLeftS (ByteArray.mk (c::t).toArray).data.toList (ByteArray.mk #[32]).data.toList=c::t from Qc _ H.1];clear hb;go_wp2_with fail;go_loopg [4,5,27] (c::t).length (λg v4 v5 v27 wr=>∃k:Nat,k+g=(c::t).length/\v4= .int .i64 (AA ((c::t).take k))/\v27= .int .i64 k/\w.grownBy wr none)
 case atStart=>exact⟨0,by omega,by simp[AA],rfl,gr⟩
 case round=>
  obtain⟨k,hk,rfl,rfl,g⟩:=hrel;have hnl:0<=AA ((c::t).take k)/\AA ((c::t).take k)<100000000:=by
   have h1:=IR (c::t) H.1 k (by omega);have h2:(10:Int) ^ k<=10 ^ 8:=by exact_mod_cast Nat.pow_le_pow_right (n:=10) (by decide) (by simp only[List.length_cons]at hk;omega:k<=8)
   have h3:(10:Int) ^ 8=100000000:=by decide
   omega
  cases gk with
  | zero=>
    have hkM:k=t.length+1:=by simpa using hk
    rw[List.take_of_length_le (by simp;omega)]at*;generalize hzz:AA (c::t)=z at*;have HZ:=S hzz;clear hzz;have hnlt:((k:Int)<(t.length:Int)+1)=False:=by simp;omega
    clear hk hkM;go_wp2;go_ret;exact⟨by(try rw[HZ.1]);rfl,g⟩
  | succ gk=>
    have hlt:k<(c::t).length:=by omega
    have hx:=List.all_eq_true.1 H.1 (c::t)[k] (List.getElem_mem _);simp only[AO,Bool.and_eq_true,decide_eq_true_eq]at hx;obtain⟨hx1,hx2⟩:=hx;have hgk:=λh=>Fz (c::t) k h hlt;have hn1:=Nk (c::t) k hlt;have hkl:(k:Int)<t.length+1:=by simp only[List.length_cons]at hlt;omega
    generalize hz:AA ((c::t).take k)=z at*;generalize hq:(c::t)[k]=q at*;go_wp2_with fail;go_roundg gk
    case measure=>omega
    case rel=>exact⟨k+1,by omega,by rw[hn1];congr 1;omega,by simp,g⟩
def pfx{α:Type}(f:α->Nat)(l:List α):Nat->Nat
 | 0=>0
 |k+1=>pfx f l k+(match l[k]? with|some u=>f u|none=>0)
def C5{f:α->Nat}{l:List α}{u:α}(h:l[k]? =some u):pfx f l (k+1)=pfx f l k+f u:=by simp[pfx,h]
def CT(f:α->Nat)(l:List α)(h:k<=m):pfx f l k<=pfx f l m:=by
 induction m with
 | zero => have : k = 0 := by omega
           subst this;exact nR _
 | succ m ih=>
   by_cases e:k=m+1
   ·subst e;exact nR _
   ·have:=ih (by omega);rw[pfx];omega
def szU(us:List Un):Nat:=pfx (λu=>u.code.length) us us.length
def wtC(c:Cd):Nat:=3+c.s.length
def wtU(u:Un):Nat:=u.name.length+u.row.length+pfx wtC u.code u.code.length
def AF(us:List Un):Nat:=us.length+pfx wtU us us.length
def AQ{l:List α}(h:k<l.length):l[k]? =some l[k]:=List.getElem?_eq_getElem h
def NI(h:VU ok w v us)(hb:szU us<=100000000):
 Calls Tryz.prog 26 #[v] w (ρ w (.int .i64 (szU us))):=by
 obtain⟨a,cap,rfl,hle,hmx,hat⟩:=h.open;have hlen:us.length<=9223372036854775807:=by unfold maxLen at hmx;omega
 have HA:=S hat;clear hat hle hmx h;go_enter func26,ntmps26;go_wp2_with fail;go_loopg [3,5,8] us.length (λg v3 v5 v8 wr=>∃k:Nat,k+g=us.length/\v8= .int .i64 k/\v3= .int .i64 (pfx (λu=>u.code.length) us k:Nat)/\w.grownBy wr none)
 case atStart=>exact⟨0,by omega,rfl,rfl,Aa _ _⟩
 case round=>
  obtain⟨k,hk,rfl,rfl,hG⟩:=hrel;cases gk with
  | zero=>
    have hkl:k=us.length:=by omega
    have hj1:decide (k<us.length)=false:=by simp;omega
    subst hkl;go_wp2;go_ret;exact⟨rfl,hG⟩
  | succ gk=>
    have hkl:k<us.length:=by omega
    have hj1:decide (k<us.length)=true:=by simp;omega
    obtain⟨g,o,ra,rc,ca,cc,rfl,_,_,c0,c1,c2,_,_⟩:=HA.1 k _ (AQ hkl);have d0:=Ad hG c0;have d1:=Ad hG c1;have d2:=Ad hG c2;have hs:=C5 (f:=λu:Un=>u.code.length) (AQ hkl);have hm:=CT (λu:Un=>u.code.length) us (show k+1<=us.length from hkl);have hm1:pfx (λu:Un=>u.code.length) us (k+1)<=100000000:=nT hm hb;rw[hs]at hm1;have HS:=S hs;have HG:=S (Ac hG (.cells #[str us[k].name,.slice ra us[k].row.length rc,.slice ca us[k].code.length cc] 58 (0,0)));clear c0 c1 c2 hs hm hG;go_wp2;go_roundg gk
    case measure=>omega
    case rel=>exact⟨k+1,by omega,by go_num,by rw[HS.1];go_num,HG.1⟩
def Vt(h:VU ok w v us)(hb:szU us<=100000000):
 Calls Tryz.prog 33 #[v] w λe w'=>e= .returned (.int .i64 (szU us))/\w=w':=by
 obtain⟨a,cap,rfl,hle,hmx,hat⟩:=h.open;have hlen:us.length<=9223372036854775807:=by unfold maxLen at hmx;omega
 have HA:=S hat;clear hat hle hmx h;go_enter func33,ntmps33;go_wp2_with fail;go_loopg [3,4] us.length (λg v3 v4 wr=>∃k:Nat,k+g=us.length/\v4= .int .i64 k/\v3= .int .i64 (pfx (λu=>u.code.length) us k:Nat)/\w=wr)
 case atStart=>exact⟨0,by omega,rfl,rfl,rfl⟩
 case round=>
  obtain⟨k,hk,rfl,rfl,rfl⟩:=hrel;cases gk with
  | zero=>
    have hkl:k=us.length:=by omega
    have hj1:decide (k<us.length)=false:=by simp;omega
    subst hkl;go_wp2;go_ret;exact⟨rfl,rfl⟩
  | succ gk=>
    have hkl:k<us.length:=by omega
    have hj1:decide (k<us.length)=true:=by simp;omega
    obtain⟨g,o,ra,rc,ca,cc,rfl,_,_,c0,c1,c2,_,_⟩:=HA.1 k _ (AQ hkl);have hs:=C5 (f:=λu:Un=>u.code.length) (AQ hkl);have hm:=CT (λu:Un=>u.code.length) us (show k+1<=us.length from hkl);have hm1:pfx (λu:Un=>u.code.length) us (k+1)<=100000000:=nT hm hb;rw[hs]at hm1;have HS:=S hs;clear hs hm;go_wp2;go_roundg gk
    case measure=>omega
    case rel=>exact⟨k+1,by omega,by go_num,by rw[HS.1];go_num,rfl⟩
def TI(h:VU ok w v us)(hb:AF us<=100000000):
 Calls Tryz.prog 10 #[v] w (ρ w (.int .i64 (AF us))):=by
 obtain⟨a,cap,rfl,hle,hmx,hat⟩:=h.open;have hlen:us.length<=9223372036854775807:=by unfold maxLen at hmx;omega
 have HA:=S hat;have HB:=S hb;clear hat hle hmx h hb;go_enter func10,ntmps10;go_wp2_with fail;go_loopg [3,4,5] us.length (λg v3 v4 v5 wr=>∃k:Nat,∃n:Int,k+g=us.length/\v4= .int .i64 k/\v3= .int .i64 n/\n=((us.length+pfx wtU us k:Nat):Int)/\w.grownBy wr none)
 case atStart=>exact⟨0,_,by omega,rfl,rfl,by simp[pfx],Aa _ _⟩
 case round=>
  obtain⟨k,n,hk,rfl,rfl,hn,hG⟩:=hrel;cases gk with
  | zero=>
    have hkl:k=us.length:=by omega
    have hj1:decide (k<us.length)=false:=by simp;omega
    subst hkl;have HN:=S (X (show n=((AF us:Nat):Int)from hn) hG);clear hn hG;go_wp2;go_ret;exact⟨by rw[<-HN.1.1];rfl,HN.1.2⟩
  | succ gk=>
    have hkl:k<us.length:=by omega
    have hj1:decide (k<us.length)=true:=by simp;omega
    obtain⟨u,hu⟩:∃u,us[k]? =some u:=⟨_,AQ hkl⟩;obtain⟨g,o,ra,rc,ca,cc,rfl,_,_,c0,c1,c2,_,hcd⟩:=HA.1 k u hu;have d0:=Ad hG c0;have d1:=Ad hG c1;have d2:=Ad hG c2;have hs:=C5 (f:=wtU) hu;have hm:=CT wtU us (show k+1<=us.length from hkl);have hb1:us.length+pfx wtU us us.length<=100000000:=HB.1;have hw:wtU u=u.name.length+u.row.length+pfx wtC u.code u.code.length:=rfl;have i0:(0:Int)<=n:=by omega
    have i1:n+((u.name.length:Int)+(u.row.length:Int))<=100000000:=by omega
    have i2:u.name.length<=100000000:=by omega
    have i3:u.row.length<=100000000:=by omega
    have hcl:u.code.length<=maxLen:=by obtain⟨_,_,e,h3,h4,_⟩:=hcd;cases e;omega
    unfold maxLen at hcl;have HC:=S (X hcd hG);have HS:=S (X hs (X hm (X hb1 (X hw hn))));clear c0 c1 c2 hs hm hb1 hw hn hcd hG;go_wp2_with fail;go_quiet(fail);have gq:wr.grownBy (wr.drewN nq) none:=An (Aa _ _) _;have HQ:=S gq;clear gq;go_wp2_with fail;go_loopg [3,5] u.code.length (λg v3 v5 w2=>∃j:Nat,∃m:Int,j+g=u.code.length/\v5= .int .i64 j/\v3= .int .i64 m/\m=n+((u.name.length:Int)+(u.row.length:Int))+((pfx wtC u.code j:Nat):Int)/\wr.grownBy w2 none)
    case atStart=>exact⟨0,_,by omega,rfl,rfl,by simp[pfx],HQ.1⟩
    case round=>
     obtain⟨j,m,hj,rfl,rfl,hm,hg2⟩:=hrel;have e2:=Ad hg2 d2;by_cases hjl:j<u.code.length
     ·have hjI:decide (j<u.code.length)=true:=by simpa using hjl
      obtain⟨c,hc⟩:∃c,u.code[j]? =some c:=⟨_,AQ hjl⟩;obtain⟨gc,oc,rfl,_,_,_,_,_,t3⟩:=HC.1.1.cd hc;have f3:=Ad (Z HC.1.2 hg2) t3;have hs:=C5 (f:=wtC) hc;have hp:=CT wtC u.code (show j+1<=u.code.length from hjl);have hbd:=HS.1;have hwc:wtC c=3+c.s.length:=rfl;have j0:(0:Int)<=m:=by omega
      have j1:m+(3+(c.s.length:Int))<=100000000:=by omega
      have j2:c.s.length<=100000000:=by omega
      have HX:=S (X hs (X hm (X hwc hg2)));clear t3 hs hp hbd hwc hm hg2;go_wp2;go_roundg (u.code.length-(j+1))
      case measure=>omega
      case rel=>exact⟨j+1,_,by omega,by go_num,rfl,by have:=HX.1.1;have:=HX.1.2.1;have:=HX.1.2.2.1;omega,HX.1.2.2.2⟩
     ·have hjI:decide (j<u.code.length)=false:=by simpa using hjl
      have hje:j=u.code.length:=by omega
      subst hje;have HX:=S (X hm (Z HC.1.2 hg2));clear hm hg2;go_wp2;go_roundg (us.length-(k+1))
      case measure=>omega
      case rel=>exact⟨k+1,_,by omega,by go_num,rfl,by have:=HS.1;have:=HX.1.1;omega,HX.1.2⟩
open Go.Lib Go.Sort
def Pow (w : World) : Prop := Lib.TabIs Tryz.prog w "internal/strconv.uint64pow10" .u64 Lib.pow10Tab
def Oy: Tryz.prog.globalNamed "internal/strconv.uint64pow10" = some 3 := by kernel_rfl
def Pow.gb(h:Pow w)(g:w.grownBy w1 none):Pow w1:=by
 unfold Pow Lib.TabIs World.var? at*;simp only[Oy,Option.bind_some]at h ⊢;have hlt:3<w.heap.size:=by
  rcases Nat.lt_or_ge 3 w.heap.size with h' |h'
  ·exact h'
  ·rw[Array.getElem?_eq_none h']at h;simp at h
 rw[g.block _ hlt (by simp)];exact h
def NT(w:World)(k:Nat)(os:Array Obj):w.grownBy (grow (w.drewN k) os) none:=by
 refine⟨rfl,rfl,rfl,by simp,λi hi _=>?_⟩;rw[heap_grow_old _ _ (by simpa using hi)];rfl
def FQ(hp:Pow w)(n:Int)(h0: -9223372036854775808<=n)(h1:n<=9223372036854775807):
 Calls Tryz.prog 32 #[.int .i64 n] w (ρ w (str (Lib.itoa n))):=by
 refine(strconv_Itoa n h0 h1 w hp).mono ?_;rintro e w' ⟨rfl,k,os,rfl⟩;exact⟨rfl,NT _ _ _⟩
def Cells.at1{l:List Bs}(h:Cells w (.slice pa n pc) 1 l.length (l.map str) ok):n=l.length/\∀k,k<l.length->∃g o,pa=some ⟨g,o,none⟩/\w.cell? ⟨g,o+k,none⟩=some (str (l.getD k [])):=by
 obtain⟨a,cap,e,_,_,_,h4⟩:=h;cases e;refine⟨rfl,λk hk=>?_⟩;obtain⟨g,o,e,_,hc⟩:=h4 k (str (l.getD k [])) (by simp[List.getD,List.getElem?_eq_getElem hk]);exact⟨g,o,e,hc⟩
def Fo.wt:Fo->Nat
 | .nil=>0
 | .cons _ kids next=>1+kids.wt+next.wt
def RepF.elem{n lc:Nat}{f:Fo}{kids next:Fo}(hc:∀j u,cs[j]? =some u->∃g o,la=some ⟨g,o,none⟩/\ok g/\w.cell? ⟨g,o+j,none⟩=some u)
 (hr:RepF ok w (.cons h kids next) (cs.drop (k*7))):∃pa pc lb ld,Cells w (.slice pa h.p.length pc) 1 h.p.length (h.p.map str) ok/\RepL ok w (.slice lb kids.len ld) kids/\RepF ok w next (cs.drop ((k+1)*7))/\
  ∀i u,(hdC h (.slice pa h.p.length pc) (.slice lb kids.len ld))[i]? =some u->∃g o,la=some ⟨g,o,none⟩/\ok g/\w.cell? ⟨g,o+(k*7+i),none⟩=some u:=by
 obtain⟨pv,lv,kcs,rcs,hcs,hp,hl,hkids,hnext⟩:=hr;have hp':=hp;have hl':=hl;obtain⟨pa,pc,rfl,_⟩:=hp;obtain⟨lb,ld,rfl,_⟩:=hl;refine⟨pa,pc,lb,ld,hp',⟨kcs,hl',hkids⟩,?_,?_⟩
 ·have e : cs.drop ((k + 1) * 7) = rcs := by
   rw[show(k+1)*7=k*7+7 by omega,<-List.drop_drop,hcs];exact List.drop_left' rfl
  rw[e];exact hnext
 ·intro i u hu;refine hc (k*7+i) u ?_;have:cs[k*7+i]? =(cs.drop (k*7))[i]?:=by simp
  rw[this,hcs,List.getElem?_append_left (by have:=(List.getElem?_eq_some_iff.1 hu).1;exact this)];exact hu
structure Sd where
 op:Int
 s:Bs
 t:Bs
 p:List Bs
 x:Fo
 kind:Int
 n:Fo
 f:Fo
 w:Fo
inductive Bl where
 |nil
 |st (h:Sd) (b:Bl) (next:Bl)
 |bl (b:Bl) (next:Bl)
variable{next:Bl}
def Bl.len:Bl->Nat
 | .nil=>0
 | .st _ _ n=>n.len+1
 | .bl _ n=>n.len+1
def Bl.wt:Bl->Nat
 | .nil=>0
 | .st _ b n=>1+b.wt+n.wt
 | .bl b n=>1+b.wt+n.wt
def sdC(h:Sd)(pv xv bv nv fv wv:Value):List Value:=[.int .i64 h.op,str h.s,str h.t,pv,xv,bv,.int .i64 h.kind,nv,fv,wv]
structure SdRep(ok:Nat->Prop)(w:World)(h:Sd)(pa xa na fa wa:Option Addr)(pc xc nc fc wc:Nat):Prop where
 p:Cells w (.slice pa h.p.length pc) 1 h.p.length (h.p.map str) ok
 x:RepL ok w (.slice xa h.x.len xc) h.x
 n:RepL ok w (.slice na h.n.len nc) h.n
 f:RepL ok w (.slice fa h.f.len fc) h.f
 w:RepL ok w (.slice wa h.w.len wc) h.w
def SdRep.gb{h:Sd}{xa na fa wa:Option Addr}{xc nc fc wc:Nat}(k:SdRep ok w h pa xa na fa wa pc xc nc fc wc)(g:w.grownBy w1 r)(hk:∀k,ok k->k<w.heap.size->some k≠r):SdRep ok w1 h pa xa na fa wa pc xc nc fc wc:=
 ⟨k.p.gb g hk,k.x.gb g hk,k.n.gb g hk,k.f.gb g hk,k.w.gb g hk⟩
def RepT(ok:Nat->Prop)(w:World):Bl->Bool->List Value->Prop
 | .nil,_,cs=>cs=[]
 | .st h b next,false,cs=>∃pa xa na fa wa ba,∃pc xc nc fc wc bc,∃kcs rest,cs=sdC h (.slice pa h.p.length pc) (.slice xa h.x.len xc) (.slice ba b.len bc) (.slice na h.n.len nc) (.slice fa h.f.len fc) (.slice wa h.w.len wc)++rest/\
  SdRep ok w h pa xa na fa wa pc xc nc fc wc/\Cells w (.slice ba b.len bc) 1 b.len kcs ok/\RepT ok w b true kcs/\RepT ok w next false rest
 | .bl b next,true,cs=>∃ba bc,∃kcs rest,cs= .slice ba b.len bc::rest/\Cells w (.slice ba b.len bc) 10 b.len kcs ok/\RepT ok w b false kcs/\RepT ok w next true rest
 |_,_,_=>False
abbrev szT(k:Bool):Nat:=if k then 1 else 10
def RepV(ok:Nat->Prop)(w:World)(k:Bool)(v:Value)(b:Bl):Prop:=∃cs,Cells w v (szT k) b.len cs ok/\RepT ok w b k cs
def RepT.gb(g:w.grownBy w1 r)(hk:∀k,ok k->k<w.heap.size->some k≠r):∀{b:Bl}{k:Bool}{cs:List Value},RepT ok w b k cs->RepT ok w1 b k cs:=by
 intro b;induction b with
 |nil=>intro k cs h;exact h
 | st h b n ih1 ih2=>
   intro k cs hr;cases k with
   |true=>exact hr
   | false=>
     obtain⟨pa,xa,na,fa,wa,ba,pc,xc,nc,fc,wc,bc,kcs,rest,e,h1,h2,h3,h4⟩:=hr;exact⟨pa,xa,na,fa,wa,ba,pc,xc,nc,fc,wc,bc,kcs,rest,e,h1.gb g hk,h2.gb g hk,ih1 h3,ih2 h4⟩
 | bl b n ih1 ih2=>
   intro k cs hr;cases k with
   |false=>exact hr
   | true=>
     obtain⟨ba,bc,kcs,rest,e,h2,h3,h4⟩:=hr;exact⟨ba,bc,kcs,rest,e,h2.gb g hk,ih1 h3,ih2 h4⟩
def RepV.gb{k:Bool}{b:Bl}(h:RepV ok w k v b)(g:w.grownBy w1 r)(hk:∀k,ok k->k<w.heap.size->some k≠r):RepV ok w1 k v b:=by
 obtain⟨cs,h1,h2⟩:=h;exact⟨cs,h1.gb g hk,h2.gb g hk⟩
def Kn(hn:a.length=n)(h:cs.drop (k*n)=a++rest):cs.drop ((k+1)*n)=rest:=by
 rw[show(k+1)*n=k*n+n by rw[Nat.succ_mul],<-List.drop_drop,h];exact List.drop_left' hn
def KH(h:cs.drop m=a++rest){u:Value}(hu:a[i]? =some u):cs[m+i]? =some u:=by
 have:cs[m+i]? =(cs.drop m)[i]?:=by simp
 rw[this,h,List.getElem?_append_left (by have:=(List.getElem?_eq_some_iff.1 hu).1;exact this)];exact hu
def RepT.elem{h:Sd}{b:Bl}(hc:∀j u,cs[j]? =some u->∃g o,la=some ⟨g,o,none⟩/\ok g/\w.cell? ⟨g,o+j,none⟩=some u)
 (hr:RepT ok w (.st h b next) false (cs.drop (k*10))):∃pa xa na fa wa ba,∃pc xc nc fc wc bc,SdRep ok w h pa xa na fa wa pc xc nc fc wc/\RepV ok w true (.slice ba b.len bc) b/\RepT ok w next false (cs.drop ((k+1)*10))/\
  ∀i u,(sdC h (.slice pa h.p.length pc) (.slice xa h.x.len xc) (.slice ba b.len bc) (.slice na h.n.len nc) (.slice fa h.f.len fc) (.slice wa h.w.len wc))[i]? =some u->∃g o,la=some ⟨g,o,none⟩/\ok g/\w.cell? ⟨g,o+(k*10+i),none⟩=some u:=by
 obtain⟨pa,xa,na,fa,wa,ba,pc,xc,nc,fc,wc,bc,kcs,rest,e,h1,h2,h3,h4⟩:=hr;exact⟨pa,xa,na,fa,wa,ba,pc,xc,nc,fc,wc,bc,h1,⟨kcs,h2,h3⟩,(Kn (n:=10) rfl e) ▸ h4,λi u hu=>hc _ u (KH e hu)⟩
def RepT.elemB{b:Bl}(hc:∀j u,cs[j]? =some u->∃g o,la=some ⟨g,o,none⟩/\ok g/\w.cell? ⟨g,o+j,none⟩=some u)
 (hr:RepT ok w (.bl b next) true (cs.drop k)):∃ba bc,RepV ok w false (.slice ba b.len bc) b/\RepT ok w next true (cs.drop (k+1))/\∃g o,la=some ⟨g,o,none⟩/\ok g/\w.cell? ⟨g,o+k,none⟩=some (.slice ba b.len bc):=by
 obtain⟨ba,bc,kcs,rest,e,h2,h3,h4⟩:=hr;refine⟨ba,bc,⟨kcs,h2,h3⟩,?_,?_⟩
 ·have:=Kn (k:=k) (n:=1) (a:=[.slice ba b.len bc]) rfl (by simpa using e);rw[Nat.mul_one]at this;rw[this];exact h4
 ·have:=hc _ _ (KH (m:=k) (a:=[.slice ba b.len bc]) (rest:=rest) (by simpa using e) (i:=0) rfl);simpa using this
def LB(h:Par w b tv wv l wl i)(hl:Ay l):
 Calls Tryz.prog 366 #[.pointer (some ⟨b,0,none⟩)] w (Post b tv wv l wl w (λ_ v x=>v=str x) (AD l i)):=by
 have hb:=h.lt;have c3:=h.c3;have HL:=S hl;clear hl;go_enter func366,ntmps366;go_wp2_with fail;go_region_with(first| (go_at_call 240;refine(Bn (h.gbN (Ae (Aa _ _)))).mono ?_;rintro e w1 ⟨rfl,g1⟩;have h1:=h.gbN (Z (Ae (Aa _ _)) g1);have d3:=h1.c3)| (go_at_call 128;refine(slices_Contains_string_empty _ _ _ _).mono ?_;rintro e w2 ⟨rfl,rfl⟩));all_goals
  have gA:=Z (Ae (Aa w none)) g1;go_wp2_with fail;refine(B6 h1 HL.1).mono ?_;rintro e w2 ⟨g2,h2⟩;cases hr:AD l i with
  |out=>rw[hr]at h2;exact h2.elim
  | bad q=>
    rw[hr]at h2;subst h2;exact⟨rfl,Post.bad (Z (A2 gA) g2) hr⟩
  | ok x j=>
    rw[hr]at h2;obtain⟨v,rfl,rfl,h2⟩:=h2;have HR:=S hr;clear hr;go_wp2;go_ret;exact Post.ok (Z (A2 gA) g2) HR.1 rfl h2
def Gu{base e size:Nat}(hm:m=w.heap.size)(hb:base<=w.heap.size)(h:cs.length=n*size)(hn:n<=maxLen):(w.alloc (.cells cs.toArray e (0,0))).ownsRow base e size (.slice (some ⟨m,0,none⟩) n n) n cs:=by
 subst hm;exact⟨h,.inr ⟨_,_,cs.toArray,rfl,hb,heap_alloc_new w _,nR _,hn,by simpa using h,by simp[<-h]⟩⟩
def VS(B:Nat)(w:World)(v:Value)(p:List Bs):Prop:=∃pa pc,v= .slice pa p.length pc/\Cells w v 1 p.length (p.map str) (Al B)
def VS.of_owns{p:List Bs}(h:w.ownsRow B 9 1 v p.length (p.map str)):VS B w v p:=by
 have hc:=Db h;obtain⟨a,cap,e,_⟩:=id hc;exact⟨a,cap,e,hc⟩
def Y8(l:List Tok)(wl:List Bs)(b:Nat)(tv wv:Value)(w:World)(r:Res (List Bs))(m:Nat)(v:Value)(wr:World):Prop:=
 ∃acc j,wr.ownsRow w.heap.size 9 1 v acc.length (acc.map str)/\Par wr b tv wv l wl j/\Dj l m acc j=r/\w.grownBy wr (some b)/\acc.length<=j/\acc≠[]
def Nh(h:Par w b tv wv l wl i)(hl:Ay l)(n:Nat)(ho:CF l n i ≠ .out):
 Calls Tryz.prog 278 #[.pointer (some ⟨b,0,none⟩)] w (Post b tv wv l wl w (VS w.heap.size) (CF l n i)):=by
 have hb:=h.lt;have hf:=h.few;generalize hR:CF l n i=R at*;have H:=S (X hl (X ho hR));clear hl ho hR;go_enter func278,ntmps278;go_wp2_with fail;refine(B6 h H.1.1).mono ?_;rintro e w1 ⟨g1,h1⟩;cases hr:AD l i with
 |out=>rw[hr]at h1;exact h1.elim
 | bad q=>
   rw[hr]at h1;subst h1;exact⟨rfl,Post.bad g1 (by rw[<-H.1.2.2,CF,hr];rfl)⟩
 | ok x j=>
   rw[hr]at h1;obtain⟨v,rfl,rfl,h1⟩:=h1;have HR:=S (show Dj l n [x] j=R by rw[<-H.1.2.2,CF,hr];rfl);have hj:1<=j:=by
    unfold AD at hr;split at hr
    ·cases hr;omega
    ·cases hr
   have hs1:=g1.size;have ho1:(w1.alloc (.cells [str x].toArray 9 (0,0))).ownsRow w.heap.size 9 1 (.slice (some ⟨w1.heap.size,0,none⟩) 1 1) 1 [str x]:=Gu rfl hs1 rfl (by decide);have h1':=h1.alloc (.cells [str x].toArray 9 (0,0));have g1':=Ac g1 (.cells [str x].toArray 9 (0,0));clear hr;go_wp2_with fail;go_loopg [3] n (λm v wr=>Y8 l wl b tv wv w R m v wr)
   case atStart=>exact⟨[x],j,ho1,h1',HR.1,g1',hj,by simp⟩
   case round=>
    obtain⟨acc,q,hown,hp,hloop,gr,hlen,hne⟩:=hrel;clear ho1 h1' g1' h1 g1;have hj2:=hp.le;cases gk with
    |zero=>exact absurd hloop.symm H.1.2.1
    |succ m=>
    cases hs:Ah (Ab l q) [44]with
    | false=>
      have HQ:=S (show R= .ok acc q by rw[<-hloop];simp[Dj,hs]);have HO:=S hown;have HS:=S hs;clear hloop hs hown;go_wp2_with fail;refine mR (Bf hp _ HS.1) λw2 g2=>?_;have h2:=hp.gbN g2;go_wp2;go_ret;exact Post.ok (Ag gr g2) HQ.1 (VS.of_owns (Cr HO.1 g2 (by simp))) h2
    | true=>
      have HQ:=S (show(AD l (q+1)).bind (λy j=>Dj l m (acc++[y]) j)=R by rw[<-hloop];simp[Dj,hs]);have HO:=S hown;have HS:=S hs;clear hloop hs hown;go_wp2_with fail;refine(Bp hp _ HS.1).mono ?_;rintro e w2 ⟨rfl,h2,g2⟩;go_wp2_with fail;refine(B6 h2 H.1.1).mono ?_;rintro e w3 ⟨g3,h3⟩;cases hr2:AD l (q+1)with
      |out=>rw[hr2]at h3;exact h3.elim
      | bad z=>
        rw[hr2]at h3;subst h3;exact⟨rfl,Post.bad (Z (Z gr g2) g3) (HQb HQ hr2)⟩
      | ok y z=>
        rw[hr2]at h3;obtain⟨v',rfl,rfl,h3⟩:=h3;have hz:q+2<=z:=by
         unfold AD at hr2;split at hr2
         ·cases hr2;omega
         ·cases hr2
        have HQ2:=S (show Dj l m (acc++[y]) z=R by rw[<-HQ.1,hr2];rfl);have g23:=Z g2 g3;have hown3:=Cr HO.1 g23 (by intro k hk _ e;cases e;omega);have hown4:=hown3.alloc (.cells [str y].toArray 9 (0,0));have hlen2:=h3.le;have gA:=Ac (Z gr g23) (.cells [str y].toArray 9 (0,0));have hA:=h3.alloc (.cells [str y].toArray 9 (0,0));have hbs:=gA.size;obtain⟨i0,hi,hz0,hz1,hz2⟩:=info_parts Fe;have hnc:=AY w3 [str y] 9;have hml:acc.length+1<=maxLen:=by unfold maxLen;omega
        clear hr2 hown3;have HX:=S (X hi (X hz0 (X hz1 (X hz2 (X hnc (X hml hown4))))));clear hi hz0 hz1 hz2 hnc hml hown4;go_wp2_with (at_builtin;obtain⟨hi,hz0,hz1,hz2,hnc,hml,hown4⟩:=HX.1;refine GQ rfl _ _ 37 rfl w.heap.size 9 i0 (str []) 1 16 underlying37 hi hz0 hz1 hz2 rfl (by decide) _ _ _ rfl hown4 ⟨w3.heap.size,0,none⟩ 1 1 [str y] rfl rfl hnc (by simp[Value.oneCell']) hml (by omega) hbs ?_;intro v' w5 hown5 g5 _;clear hi hz0 hz1 hz2 hnc hml hown4);have HO5:=S hown5;clear hown5;go_roundg m
        case measure=>omega
        case rel=>
         have hob:∀k,u3.ownBlock=some k->b<k:=λk hk=>by have:=(HO.1.lt k hk).1;omega
         have hob2:∀k,u3.ownBlock=some k->w.heap.size<=k:=λk hk=>(HO.1.lt k hk).1;refine⟨acc++[y],z,by simpa using HO5.1,hA.gb g5 hob,HQ2.1,?_,by simp;omega,by simp⟩;have g5':World.grownBy (w3.alloc _) w5 u3.ownBlock:=g5;cases hv:u3.ownBlock with
         |none=>rw[hv]at g5';exact Ag gA g5'
         |some k=>rw[hv]at g5';exact Ap gA g5' (.inr (hob2 k hv))
def VL(B:Nat)(w:World)(v:Value)(f:Fo):Prop:=∃la lc,v= .slice la f.len lc/\RepL (Al B) w v f
def VL.of_owns(h:OwnF w B v f):VL B w v f:=by
 obtain⟨cs,h1,h2⟩:=id h;obtain⟨a,cap,e,_⟩:=Db h1;exact⟨a,cap,e,h.rep⟩
def ListR(l:List Tok)(wl:List Bs)(E:Nat->Res Ex)(b:Nat)(tv wv:Value)(w:World)(r:Res Fo)(m:Nat)(v:Value)(wr:World):Prop:=
 ∃acc j,OwnF wr w.heap.size v acc/\Par wr b tv wv l wl j/\Dh l E m acc j=r/\w.grownBy wr (some b)/\acc.len<=j
def F9(E:Nat->Res Ex):Prop:=∀i x j,E i= .ok x j->i<j
def IJ(hE:CE 208 b tv wv l wl E)(hgo:F9 E)(h:Par w b tv wv l wl i)(n:Nat)(ho:Dd l E n i ≠ .out):
 Calls Tryz.prog 302 #[.pointer (some ⟨b,0,none⟩)] w (Post b tv wv l wl w (VL w.heap.size) (Dd l E n i)):=by
 have hb:=h.lt;have hf:=h.few;generalize hR:Dd l E n i=R at*;have H:=S (X hE (X ho (X hR hgo)));clear hE ho hR hgo;go_enter func302,ntmps302;go_wp2_with fail;refine(H.1.1 _ _ h (λe=>H.1.2.1 (by rw[<-H.1.2.2.1,Dd,e];rfl))).mono ?_;rintro e w1 ⟨g1,h1⟩;cases hr:E i with
 |out=>rw[hr]at h1;exact h1.elim
 | bad q=>
   rw[hr]at h1;subst h1;exact⟨rfl,Post.bad g1 (by rw[<-H.1.2.2.1,Dd,hr];rfl)⟩
 | ok x j=>
   rw[hr]at h1;obtain⟨v,rfl,⟨pa,pc,la,lc,rfl,rp,rl⟩,h1⟩:=h1;have HR:=S (show Dh l E n (.one x) j=R by rw[<-H.1.2.2.1,Dd,hr];rfl);have hj:1<=j:=by have:=H.1.2.2.2 _ _ _ hr;omega
   have hs1:=g1.size;have hlt:=h1.lt;have ho1:OwnF (w1.alloc (.cells (hdC x.h (.slice pa x.h.p.length pc) (.slice la x.kids.len lc)).toArray 163 (0,0))) w.heap.size (.slice (some ⟨w1.heap.size,0,none⟩) 1 1) (.one x):=by
    have g:=gZ w1 (.cells (hdC x.h (.slice pa x.h.p.length pc) (.slice la x.kids.len lc)).toArray 163 (0,0)) none;refine⟨_,Gu rfl hs1 rfl (by decide),RepF.gb g (by simp) (RepF.mono (ok:=Al w.heap.size) ?_ (VE.rep rp rl))⟩;intro k hk hk2;exact⟨hk,by simp[Value.ownBlock];omega⟩
   have HO:=S ho1;have h1':=h1.alloc (.cells (hdC x.h (.slice pa x.h.p.length pc) (.slice la x.kids.len lc)).toArray 163 (0,0));have g1':=Ac g1 (.cells (hdC x.h (.slice pa x.h.p.length pc) (.slice la x.kids.len lc)).toArray 163 (0,0));clear hr ho1 rp rl;go_wp2_with fail;go_loopg [3] n (λm v wr=>ListR l wl E b tv wv w R m v wr)
   case atStart=>exact⟨.one x,j,HO.1,h1',HR.1,g1',hj⟩
   case round=>
    obtain⟨acc,q,hown,hp,hloop,gr,hlen⟩:=hrel;clear HO h1' g1' h1 g1;have hj2:=hp.le;cases gk with
    |zero=>exact absurd hloop.symm H.1.2.1
    |succ m=>
    cases hs:Ah (Ab l q) [44]with
    | false=>
      have HQ:=S (show R= .ok acc q by rw[<-hloop];simp[Dh,hs]);have HO:=S hown;have HS:=S hs;clear hloop hs hown;go_wp2_with fail;refine mR (Bf hp _ HS.1) λw2 g2=>?_;have h2:=hp.gbN g2;go_wp2;go_ret;exact Post.ok (Ag gr g2) HQ.1 (VL.of_owns (HO.1.gb g2 (by simp))) h2
    | true=>
      have HQ:=S (show(E (q+1)).bind (λy j=>Dh l E m (acc.snoc y) j)=R by rw[<-hloop];simp[Dh,hs]);have HO:=S hown;have HS:=S hs;clear hloop hs hown;go_wp2_with fail;refine(Bp hp _ HS.1).mono ?_;rintro e w2 ⟨rfl,h2,g2⟩;go_wp2_with fail;refine(H.1.1 _ _ h2 (λe=>H.1.2.1 (by rw[<-HQ.1,e];rfl))).mono ?_;rintro e w3 ⟨g3,h3⟩;cases hr2:E (q+1)with
      |out=>rw[hr2]at h3;exact h3.elim
      | bad z=>
        rw[hr2]at h3;subst h3;exact⟨rfl,Post.bad (Z (Z gr g2) g3) (HQb HQ hr2)⟩
      | ok y z=>
        rw[hr2]at h3;obtain⟨v',rfl,⟨ya,yc,ma,mc,rfl,ry,rm⟩,h3⟩:=h3;have hz:q+1<z:=H.1.2.2.2 _ _ _ hr2;have HQ2:=S (show Dh l E m (acc.snoc y) z=R by rw[<-HQ.1,hr2];rfl);have g23:=Z g2 g3;obtain⟨cs,hown3,hrep3⟩:=HO.1.gb g23 (by intro k hk _ e;cases e;omega);have hown4:=hown3.alloc (.cells (hdC y.h (.slice ya y.h.p.length yc) (.slice ma y.kids.len mc)).toArray 163 (0,0));have hlen2:=h3.le;have gB:=gZ w3 (.cells (hdC y.h (.slice ya y.h.p.length yc) (.slice ma y.kids.len mc)).toArray 163 (0,0)) none;have gA:=Ac (Z gr g23) (.cells (hdC y.h (.slice ya y.h.p.length yc) (.slice ma y.kids.len mc)).toArray 163 (0,0));have hA:=h3.alloc (.cells (hdC y.h (.slice ya y.h.p.length yc) (.slice ma y.kids.len mc)).toArray 163 (0,0));have hbs:=gA.size;have hs23:=g2.size;have hsr:=gr.size;have hol:∀k,u3.ownBlock=some k->w.heap.size<=k/\k<wr.heap.size:=λk hk=>by
         obtain⟨cs0,ho0,_⟩:=HO.1;exact ho0.lt k hk
        obtain⟨i0,hi,hz0,hz1,hz2⟩:=info_parts CI;have hnc:=AY w3 (hdC y.h (.slice ya y.h.p.length yc) (.slice ma y.kids.len mc)) 163;have hml:acc.len+1<=maxLen:=by unfold maxLen;omega
        have HY:=S (X (hrep3.gb gB (by simp)) (X (ry.gb gB (by simp)) (rm.gb gB (by simp))));have HX:=S (X hi (X hz0 (X hz1 (X hz2 (X hnc (X hml (X hown4 hol)))))));clear hr2 hown3 hrep3 ry rm hi hz0 hz1 hz2 hnc hml hown4 hol;go_wp2_with (at_builtin;obtain⟨hi,hz0,hz1,hz2,hnc,hml,hown4,hol⟩:=HX.1;refine GQ rfl _ _ 129 rfl w.heap.size 163 i0 _ 7 104 underlying129 hi hz0 hz1 hz2 rfl (by decide) _ _ _ rfl hown4 ⟨w3.heap.size,0,none⟩ 1 1 (hdC y.h (.slice ya y.h.p.length yc) (.slice ma y.kids.len mc)) rfl rfl hnc (by simp[hdC,Value.oneCell']) hml (by omega) hbs ?_;intro v' w5 hown5 g5 hn5;clear hi hz0 hz1 hz2 hnc hml hown4 hol);have HO5:=S (X hown5 hn5);clear hown5 hn5;go_roundg m
        case measure=>omega
        case rel=>
         have hol:=HX.1.2.2.2.2.2.2.2;have g5':World.grownBy (w3.alloc _) w5 u3.ownBlock:=g5;refine⟨acc.snoc y,z,?_,hA.gb g5' (λk hk=>by have:=(hol k hk).1;omega),HQ2.1,?_,by rw[Fo.len_snoc];omega⟩
         ·exact OwnF.snoc (v:=u3) (okx:=Al w2.heap.size) HY.1.1 rfl HY.1.2.1 HY.1.2.2 (by intro k hk;have hk:w2.heap.size<=k:=hk;exact⟨by omega,λe=>by have:=(hol k e).2;omega⟩) HO5.1.1 g5' HO5.1.2
         ·cases hv:u3.ownBlock with
          |none=>rw[hv]at g5';exact Ag gA g5'
          |some k=>rw[hv]at g5';exact Ap gA g5' (.inr (hol k hv).1)
section
abbrev but(w:World)(L:Nat):Nat->Prop:=λg=>w.heap.size<g/\g≠L
structure Kept(b:Nat)(tv wv:Value)(l:List Tok)(wl:List Bs)(w:World)(L:Nat)(wr:World)(x:Ex)(pa:Option Addr)(pc:Nat)(la:Option Addr)(lc:Nat)(j:Nat):Prop where
 par:Par wr b tv wv l wl j
 blk:Blk wr L (hdC x.h (.slice pa x.h.p.length pc) (.slice la x.kids.len lc)) 163
 rp:Cells wr (.slice pa x.h.p.length pc) 1 x.h.p.length (x.h.p.map str) (but w L)
 rl:RepL (but w L) wr (.slice la x.kids.len lc) x.kids
 gr:w.grownBy wr (some b)
 bL:b<L
 wL:w.heap.size<L
 zero:Blk wr w.heap.size zeroE 163
variable {L:Nat}{z:Ex}{ya ma:Option Addr}{yc mc:Nat}
def Kept.gb(h:Kept b tv wv l wl w L wr x pa pc la lc j)(hb:b<w.heap.size)(g:wr.grownBy w1 (some b))(hp:Par w1 b tv wv l wl k):Kept b tv wv l wl w L w1 x pa pc la lc k:=
 ⟨hp,h.blk.gb g (by have:=h.bL;simp;omega),h.rp.gb g (by intro q hq _ e;cases e;have:=hq.1;omega),h.rl.gb g (by intro q hq _ e;cases e;have:=hq.1;omega),Z h.gr g,h.bL,h.wL,h.zero.gb g (by simp;omega)⟩
def Kept.gbN(h:Kept b tv wv l wl w L wr x pa pc la lc j)(hb:b<w.heap.size)(g:wr.grownBy w1 none):Kept b tv wv l wl w L w1 x pa pc la lc j:=
 h.gb hb (A2 g) (h.par.gbN g)
def Kept.two(h:Kept b tv wv l wl w L wr x pa pc la lc j)(hb:b<w.heap.size)(op:Int)(s:Bs)(zp:Cells wr (.slice ya z.h.p.length yc) 1 z.h.p.length (z.h.p.map str) (but w L))(zl:RepL (but w L) wr (.slice ma z.kids.len mc) z.kids):
 Kept b tv wv l wl w L ((set7 wr L (.int .i64 op) (str s) (.int .i64 0) (.int .i64 0) (str []) (.slice none 0 0) (.slice (some ⟨wr.heap.size,0,none⟩) 2 2)).alloc (.cells (hdC x.h (.slice pa x.h.p.length pc) (.slice la x.kids.len lc)++hdC z.h (.slice ya z.h.p.length yc) (.slice ma z.kids.len mc)).toArray 163 (0,0)))
  ⟨hd0 op s,.two x z⟩ none 0 (some ⟨wr.heap.size,0,none⟩) 2 j:=by
 have g7:=A0 wr L (.int .i64 op) (str s) (.int .i64 0) (.int .i64 0) (str []) (.slice none 0 0) (.slice (some ⟨wr.heap.size,0,none⟩) 2 2);have hsz:(set7 wr L (.int .i64 op) (str s) (.int .i64 0) (.int .i64 0) (str []) (.slice none 0 0) (.slice (some ⟨wr.heap.size,0,none⟩) 2 2)).heap.size=wr.heap.size:=by simp[set7]
 have hbL:=h.bL;have hwL:=h.wL;have hlt:=h.blk.lt;have hk:∀q,but w L q->q<wr.heap.size->some q≠some L:=λq hq _ e=>by cases e;exact hq.2 rfl
 refine⟨(h.par.gb g7 (by intro q e;cases e;exact hbL)).alloc _,((h.blk.set7 _ _ _ _ _ _ _).of_eq rfl rfl).alloc _,Cells.nil _ 1 _,?_,Ac (Ap h.gr g7 (.inr (by omega))) _,hbL,hwL,?_⟩
 ·exact RepL.two hsz.symm ⟨by omega,by omega⟩ (h.rp.gb g7 hk) (h.rl.gb g7 hk) (zp.gb g7 hk) (zl.gb g7 hk)
 ·exact(h.zero.gb g7 (by simp;omega)).alloc _
def IdxR(l:List Tok)(wl:List Bs)(E:Nat->Res Ex)(b:Nat)(tv wv:Value)(w:World)(L:Nat)(r:Res Ex)(m:Nat)(wr:World):Prop:=
 ∃x pa pc la lc j,Kept b tv wv l wl w L wr x pa pc la lc j/\CH l E m x j=r
def UU{prim:Nat->Res Ex}(hE:CE 208 b tv wv l wl E)(hP:CE 343 b tv wv l wl prim):∀m,CE 320 b tv wv l wl (CG l E prim m):=by
 intro m;induction m with
 |zero=>intro w i h ho;exact absurd rfl ho
 |succ m ih=>
 intro w i h ho;have hb:=h.lt;have gz:w.grownBy (w.alloc (.cells zeroE.toArray 163 (0,0))) (some b):=Ac (Aa _ _) _;have hz:=Blk.new w zeroE 163;have hp:=h.alloc (.cells zeroE.toArray 163 (0,0));by_cases hn1:Ah (Ab l i) [45]=true
 ·have H:=S (X ih ho);have HN:=S (X True.intro hn1);generalize hR:CG l E prim (m+1) i=R at*;have hR':(CG l E prim m (i+1)).bind (λx j=> .ok (unE [45] x) j)=R:=by rw[<-hR];simp[CG,hn1]
  have HR:=S hR';clear hR hR' hn1 hE hP ih ho;go_enter func320,ntmps320;go_wp2_with fail;refine(Bp hp _ HN.1.2).mono ?_;rintro e wb ⟨rfl,h0,gb⟩;have g0:w.grownBy wb (some b):=Z gz gb;have hB:=Blk.gb hz gb (by simp;omega);have hw0:w.heap.size<wb.heap.size:=by have:=gb.size;simp at*;omega
  clear hz hp gb gz;go_wp2_with fail;refine(H.1.1 _ _ h0 (λe=>H.1.2 (by rw[<-HR.1,e];rfl))).mono ?_;rintro e w1 ⟨g1,h1⟩;cases ho:CG l E prim m (i+1)with
  |out=>rw[ho]at h1;exact h1.elim
  | bad q=>
    rw[ho]at h1;subst h1;exact⟨rfl,Post.bad (Z g0 g1) (by rw[<-HR.1,ho];rfl)⟩
  | ok x j=>
    rw[ho]at h1;obtain⟨v,rfl,⟨pa,pc,la,lc,rfl,rp,rl⟩,h1⟩:=h1;have hs1:=g1.size;have hb1:=h1.lt;have hlt1:w.heap.size<w1.heap.size:=by omega
    have hZ:=hB.gb g1 (by simp;omega);have hQ:R= .ok (unE [45] x) j:=by rw[<-HR.1,ho];rfl
    have H2:=S (X rp (X rl hQ));clear rp rl hQ hB h0;have cz_:=hZ.c7;go_wp2;obtain⟨rp,rl,hQ⟩:=H2.1;have g7:=A0 w1 w.heap.size (.int .i64 4) (str [45]) (.int .i64 0) (.int .i64 0) (str []) (.slice none 0 0) (.slice (some ⟨w1.heap.size,0,none⟩) 1 1);have hW:=hZ.set7 (.int .i64 4) (str [45]) (.int .i64 0) (.int .i64 0) (str []) (.slice none 0 0) (.slice (some ⟨w1.heap.size,0,none⟩) 1 1);have hsz:(set7 w1 w.heap.size (.int .i64 4) (str [45]) (.int .i64 0) (.int .i64 0) (str []) (.slice none 0 0) (.slice (some ⟨w1.heap.size,0,none⟩) 1 1)).heap.size=w1.heap.size:=by simp[set7]
    simp only[set7]at hW g7 hsz;generalize(((((((w1.setCell {block:=w.heap.size,off:=0} (.int .i64 4)).setCell {block:=w.heap.size,off:=1} (str [45])).setCell {block:=w.heap.size,off:=2} (.int .i64 0)).setCell {block:=w.heap.size,off:=3} (.int .i64 0)).setCell {block:=w.heap.size,off:=4} (str [])).setCell {block:=w.heap.size,off:=5} (.slice none 0 0)).setCell {block:=w.heap.size,off:=6} (.slice (some ⟨w1.heap.size,0,none⟩) 1 1))=W at*;exact bZ (AK (hd:=hd0 4 [45]) (pv:= .slice none 0 0) (lv:= .slice (some ⟨w1.heap.size,0,none⟩) 1 1) rfl _ (Blk.alloc hW (Obj.cells #[Value.int IntKind.i64 x.h.op,str x.h.s,Value.int IntKind.i64 x.h.vk,Value.int IntKind.i64 x.h.vn,str x.h.vs,Value.slice pa x.h.p.length pc,Value.slice la x.kids.len lc] 163)) rfl) rfl (Hw (op:=4) (s:=[45]) hb hQ (Z g0 g1) rp rl (by intro q hq;have:(wb).heap.size<=q:=hq;omega) h1 g7 hsz)
 have hn1':Ah (Ab l i) [45]=false:=by simpa using hn1
 have H:=S (X hE (X hP ho));have HN:=S hn1';generalize hR:CG l E prim (m+1) i=R at*;have hR':(prim i).bind (λx j=>CH l E m x j)=R:=by rw[<-hR];simp[CG,hn1']
 have HR:=S hR';clear hR hR' hn1 hn1' hE hP ih ho;go_enter func320,ntmps320;go_wp2_with fail;refine mR (Bf hp _ HN.1) λwb gb=>?_;have h0:=hp.gbN gb;have g0:w.grownBy wb (some b):=Ag gz gb;have hB:=Blk.gb hz gb (by simp);have hw0:w.heap.size<wb.heap.size:=by have:=gb.size;simp at*;omega
 clear hz hp gb gz;go_wp2_with fail;refine(H.1.2.1 _ _ h0 (λe=>H.1.2.2 (by rw[<-HR.1,e];rfl))).mono ?_;rintro e w1 ⟨g1,h1⟩;cases ho:prim i with
 |out=>rw[ho]at h1;exact h1.elim
 | bad q=>
   rw[ho]at h1;subst h1;exact⟨rfl,Post.bad (Z g0 g1) (by rw[<-HR.1,ho];rfl)⟩
 | ok x j=>
   rw[ho]at h1;obtain⟨v,rfl,⟨pa,pc,la,lc,rfl,rp,rl⟩,h1⟩:=h1;have hs1:=g1.size;have hb1:=h1.lt;have HQ:=S (show CH l E m x j=R by rw[<-HR.1,ho];rfl);have hK:Kept b tv wv l wl w w1.heap.size (w1.alloc (.cells (hdC x.h (.slice pa x.h.p.length pc) (.slice la x.kids.len lc)).toArray 163 (0,0))) x pa pc la lc j:=by
    have g:=gZ w1 (.cells (hdC x.h (.slice pa x.h.p.length pc) (.slice la x.kids.len lc)).toArray 163 (0,0)) none;refine⟨h1.alloc _,Blk.new w1 _ _,(rp.mono ?_).gb g (by simp),(rl.mono ?_).gb g (by simp),Ac (Z g0 g1) _,hb1,by omega,((hB.gb g1 (by simp;omega))).alloc _⟩;all_goals
     intro q hq hq2;have:wb.heap.size<=q:=hq;exact⟨by omega,by omega⟩
   have HK:=S hK;clear hK rp rl ho HR h1 hB g1 g0 h0;go_wp2_with fail;go_loopg [] m (λn wr=>IdxR l wl E b tv wv w w1.heap.size R n wr)
   case atStart=>exact⟨x,pa,pc,la,lc,j,HK.1,HQ.1⟩
   case round=>
    obtain⟨y,ya,yc,ma,mc,q,hk,hloop⟩:=hrel;clear HQ HK;have hp:=hk.par;cases gk with
    |zero=>exact absurd hloop.symm H.1.2.2
    |succ n=>
    cases hs:Ah (Ab l q) [91]with
    | false=>
      have HQ:=S (show R= .ok y q by rw[<-hloop];simp[CH,hs]);have HS:=S hs;have HK:=S hk;clear hloop hs hk;go_wp2_with fail;refine mR (Bf hp _ HS.1) λw2 g2=>?_;have hk:=HK.1.gbN hb g2;have hL:=hk.blk;have hZ:=hk.zero;have hwL:=hk.wL;have HK2:=S hk;clear HK hk hp g2;obtain⟨cl_0,cl_1,cl_2,cl_3,cl_4,cl_5,cl_6,cl_f⟩:=(hL).c7;have cz_:=hZ.c7;go_wp2;have hk:=HK2.1;have g7:=A0 w2 w.heap.size (.int .i64 y.h.op) (str y.h.s) (.int .i64 y.h.vk) (.int .i64 y.h.vn) (str y.h.vs) (.slice ya y.h.p.length yc) (.slice ma y.kids.len mc);exact bZ (AK rfl _ (hZ.set7 _ _ _ _ _ _ _) rfl) rfl (Bw hb HQ.1 hk.gr ⟨_,_,_,_,rfl,hk.rp,hk.rl⟩ (by intro k hk;exact hk.1) hk.par g7)
    | true=>
      have HQ:=S (show(E (q+1)).bind (λz j=>(AW l [93] j).bind λ_ k=>CH l E n (DY y z) k)=R by rw[<-hloop];simp[CH,hs]);have HS:=S hs;have HK:=S hk;clear hloop hs hk;go_wp2_with fail;refine(Bp hp _ HS.1).mono ?_;rintro e w2 ⟨rfl,h2,g2⟩;have hk:=HK.1.gb hb g2 h2;have hL:=hk.blk;have hwL:=hk.wL;have hbL:=hk.bL;have HK2:=S hk;clear HK hk hp g2;obtain⟨cl_0,cl_1,cl_2,cl_3,cl_4,cl_5,cl_6,cl_f⟩:=(hL).c7;have hLb:=hL.lt;cases ho2:E (q+1)with
      |out=>exact absurd (show R= .out by rw[<-HQ.1,ho2];rfl) H.1.2.2
      | bad z=>
        go_wp2_with fail;go_region_with(go_at_call 208;refine(H.1.1 _ _ (h2.gbN (Ae (Aa _ _))) (by rw[ho2];simp)).mono ?_;rintro e w4 ⟨g4,h4⟩;rw[ho2]at h4;subst h4;refine Bx (P:=Tryz.prog) ⟨rfl,Post.bad (Z (Ae HK2.1.gr) g4) (by rw[<-HQ.1,ho2];rfl)⟩ ⟨#[],[]⟩ w4 ?_);all_goals trivial
      | ok z p=>
        go_wp2_with fail;go_region_with(go_at_call 208;refine(H.1.1 _ _ (h2.gbN (Ae (Aa _ _))) (by rw[ho2];simp)).mono ?_;rintro e w4 ⟨g4,h4⟩;rw[ho2]at h4;obtain⟨v,rfl,⟨za,zc,na,nc,rfl,zp,zl⟩,h4⟩:=h4;have hk4:=HK2.1.gb hb (Z (Ae (Aa _ _)) g4) h4;have hL4:=hk4.blk;have hlt4:=hL4.lt;have HZ:=S (X hk4 (X zp zl));clear hk4 zp zl;obtain⟨dl_0,dl_1,dl_2,dl_3,dl_4,dl_5,dl_6,dl_f⟩:=(hL4).c7);all_goals
         have hin:∀g,w2.heap.size<=g->but w w1.heap.size g:=λg hg=>⟨by omega,by omega⟩;have hK5:=HZ.1.1.two hb 6 [] (z:=z) (HZ.1.2.1.mono λg hg _=>hin g hg) (HZ.1.2.2.mono λg hg _=>hin g hg);have HQ2:=S (show(AW l [93] p).bind (λ_ k=>CH l E n (DY y z) k)=R by rw[<-HQ.1,ho2];rfl);clear HZ HK2 cl_0 cl_1 cl_2 cl_3 cl_4 cl_5 cl_6 cl_f dl_0 dl_1 dl_2 dl_3 dl_4 dl_5 dl_6 dl_f hL hL4 HQ ho2 h4 h2;go_wp2_with fail;refine(CL hK5.par [93]).mono ?_;rintro e w6 ⟨g6,h6⟩;cases hw:AW l [93] p with
         |out=>rw[hw]at h6;exact h6.elim
         | bad f=>
           rw[hw]at h6;subst h6;exact⟨rfl,Post.bad (Z hK5.gr g6) (by rw[<-HQ2.1,hw];rfl)⟩
         | ok _ f=>
           rw[hw]at h6;obtain⟨v,rfl,rfl,h6⟩:=h6;have HQ3:=S (show CH l E n (DY y z) f=R by rw[<-HQ2.1,hw];rfl);clear HQ2 hw;go_wp2_with fail;go_roundg n
           case measure=>omega
           case rel=>exact⟨DY y z,none,0,_,2,f,hK5.gb hb g6 h6,HQ3.1⟩
end
section
variable {a b t:List Tok}{c:Tok}
end
def wd(s:Bs):Tok:=⟨0,0,s⟩
def opsL:List Bs:=[[46,79,82,46],[46,65,78,68,46],[61],[61,61],[60,62],[60],[62],[60,61],[62,61],[36],[43],[45],[42],[47],[37],[94]]
def EI(b:UInt8):Bool:=b==9||(32<=b&&b<=126)
def En(s:Bs):Bool:=s.all EI&&decide (s.length<=2048)&&!(s.contains 34&&s.contains 39)
def A8(h:Hd):Bool:=
 if h.vk=0 then h.vn==0&&h.vs.isEmpty
 else if h.vk=1 then(h.vn==0||h.vn==1)&&h.vs.isEmpty
 else if h.vk=2 then decide (0<=h.vn)&&decide (h.vn<=999999999999999)&&h.vs.isEmpty
 else if h.vk=3 then decide (0<=h.vn)&&decide (h.vn<=3652059)&&h.vs.isEmpty
 else if h.vk=4 then h.vn==0&&En h.vs
 else false
def Az(h:Hd)(n:Nat):Bool:=
 if h.op=0 then h.s.isEmpty&&n==0&&A8 h
 else if h.op=1\/h.op=10 then Aw h.s&&n==0
 else if h.op=2 then Aw h.s&&n==1
 else if h.op=3 then Aw h.s
 else if h.op=4 then(h.s==[45]||h.s==[46,78,79,84,46])&&n==1
 else if h.op=5 then opsL.contains h.s&&n==2
 else if h.op=6 then h.s.isEmpty&&n==2
 else if h.op=7 then h.s.isEmpty&&decide (1<=n)
 else if h.op=8 then h.s.isEmpty&&n==1&&h.p.all Aw
 else if h.op=9 then(Aw h.s&&n==0)||(h.s.isEmpty&&n==1)
 else false
def BY(h:Hd)(n:Nat):Bool:=
 if h.op≠0/\¬(h.vk=0/\h.vn=0/\h.vs=[])then false
 else if h.op≠8/\h.p≠[]then false
 else Az h n
def Mv(hok:BY h n=true):(h.op≠0->h.vk=0/\h.vn=0/\h.vs=[])/\(h.op≠8->h.p=[])/\Az h n=true:=by
 unfold BY at hok;by_cases h1:h.op≠0/\¬(h.vk=0/\h.vn=0/\h.vs=[])
 ·rw[if_pos h1]at hok;cases hok
 rw[if_neg h1]at hok;by_cases h2:h.op≠8/\h.p≠[]
 ·rw[if_pos h2]at hok;cases hok
 rw[if_neg h2]at hok;exact⟨λe=>Classical.not_not.1 λc=>h1 ⟨e,c⟩,λe=>Classical.not_not.1 λc=>h2 ⟨e,c⟩,hok⟩
def okF:Fo->Bool
 | .nil=>true
 | .cons h k n=>BY h k.len&&okF k&&okF n
abbrev OW:=Option (List Tok×Bs)
def IB(s:Bs):Bs:=[123,94]++s.take 4++[45]++(s.drop 4).take 2++[45]++s.drop 6++[125]
structure Wd where
 num:Int->Bs
 day:Int->Bs
section
variable {un:Nat->Res Ex}
end
section
variable {day:Bs->Int}
end
end Go.Proofs.YtbjfaimkiclhgaaGreatDoor
