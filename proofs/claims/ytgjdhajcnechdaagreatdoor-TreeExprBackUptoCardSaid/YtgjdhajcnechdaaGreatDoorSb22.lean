/-
  Plain laws: how a token that stands in a text is lexed. Plain laws: the text of an expression that is right is lexed as the tokens that are written. Plain laws: the text of an expression that is right
-/
import Derived.Test.YtgjdhajcnechdaaGreatDoorSb16
import Derived.Test.YtgjdhajcnechdaaGreatDoorSb11
import Derived.Test.YtgjdhajcnechdaaGreatDoorSb17
set_option linter.all false
set_option maxRecDepth 100000
set_option maxHeartbeats 8000000
namespace Go.Proofs.YtgjdhajcnechdaaGreatDoor
open Go.Proofs.Tryz
theorem C8(P:UInt8→Bool)(h:(List.range 256).all (fun n=>P (UInt8.ofNat n))=true)(b:UInt8):P b=true:=by
 have h1:=List.all_eq_true.1 h b.toNat (by rw[List.mem_range];exact b.toNat_lt);rwa[UInt8.ofNat_toNat]at h1
def Bx(s:Bs)(i:Nat)(u:Bs):Prop:=∃r,s.drop i=u++r
def Nxt(s:Bs)(j:Nat)(p:UInt8→Bool):Prop:=∀c,s[j]? =some c→p c=false
section
variable {s:Bs}{i:Nat}{a b u:Bs}{c:UInt8}
theorem Bx.lt(h:Bx s i (c::u)):i<s.length:=by
 obtain⟨r,h⟩:=h;have:=congrArg List.length h;simp at this;omega
theorem Bx.len(h:Bx s i u)(h0:u≠[]):i+u.length≤s.length:=by
 obtain⟨r,h⟩:=h;have h1:=congrArg List.length h;have h2:=List.length_pos_iff.2 h0;simp at h1;omega
theorem Bx.head(h:Bx s i (c::u)):bAt s i=c:=by
 obtain⟨r,h⟩:=h;have h0:(s.drop i)[0]? =some c:=by rw[h];rfl
 have h1:s[i]? =some c:=by simpa using h0
 simp[bAt,h1]
theorem Bx.tail(h:Bx s i (c::u)):Bx s (i+1) u:=by
 obtain⟨r,h⟩:=h;refine⟨r,?_⟩;have h1:(s.drop i).drop 1=u++r:=by rw[h];rfl
 rwa[List.drop_drop]at h1
theorem Bx.left(h:Bx s i (a++b)):Bx s i a:=by
 obtain⟨r,h⟩:=h;exact⟨b++r,by rw[h,List.append_assoc]⟩
theorem Bx.right(h:Bx s i (a++b)):Bx s (i+a.length) b:=by
 obtain⟨r,h⟩:=h;refine⟨r,?_⟩;rw[←List.drop_drop,h,List.append_assoc,List.drop_left]
theorem Bx.slice(h:Bx s i u):Aq s i (i+u.length)=u:=by
 obtain⟨r,h⟩:=h;unfold Aq;rw[h,show i+u.length-i=u.length by omega,List.take_left]
theorem Bx.next(h:Bx s i (c::u)){p:UInt8→Bool}(hp:p c=false):Nxt s i p:=by
 intro d hd;have h1:=h.head;unfold bAt at h1;rw[hd]at h1;simp only[Option.getD_some]at h1;rw[h1];exact hp
theorem Bx.run(h:Bx s i u){p:UInt8→Bool}(hu:u.all p=true)(hn:Nxt s (i+u.length) p):Ag s p i=i+u.length:=by
 obtain⟨r,h⟩:=h;unfold Ag;have hr:s.drop (i+u.length)=r:=by rw[←List.drop_drop,h,List.drop_left]
 have hw:r.takeWhile p=[]:=by
  cases r with
  |nil=>rfl
  | cons c q=>
    have h1:s[i+u.length]? =some c:=by
     have:(s.drop (i+u.length))[0]? =some c:=by rw[hr];rfl
     simpa using this
    rw[List.takeWhile_cons,hn c h1];rfl
 rw[h,List.takeWhile_append_of_pos (List.all_eq_true.1 hu),hw,List.append_nil]
theorem Bx.amp(h:Bx s i (c::u))(hc:c≠38):B2 s i=false:=by
 obtain⟨r,h⟩:=h;unfold B2;rw[h];simp[List.isPrefixOf];intro e;exact absurd e.symm hc
theorem Bx.amp2(h:Bx s i (c::u))(hn:Nxt s (i+1) (· ==38)):B2 s i=false:=by
 obtain⟨r,h⟩:=h;unfold B2;rw[h];have h1:s.drop (i+1)=u++r:=by
  have:(s.drop i).drop 1=u++r:=by rw[h];rfl
  rwa[List.drop_drop]at this
 cases hq:u++r with
 | nil=>
   show List.isPrefixOf [38,38] (c::(u++r))=false;rw[hq];simp[List.isPrefixOf]
 | cons d q=>
   show List.isPrefixOf [38,38] (c::(u++r))=false;rw[hq];have h2:s[i+1]? =some d:=by
    have:(s.drop (i+1))[0]? =some d:=by rw[h1,hq];rfl
    simpa using this
   have h3:=hn d h2;simp only[beq_eq_false_iff_ne]at h3;simp[List.isPrefixOf];intro _ e;exact absurd e.symm h3
theorem Dr{line:Bool}(h:Bx s i (c::u))(h10:c≠10)(h3:cls 3 c=false)(h42:c≠42)(ha:B2 s i=false)(h59:c≠59):A5 s i line=AP s i:=by
 unfold A5;rw[if_neg (by have:=h.lt;omega),h.head,if_neg h10,if_neg (by rw[h3];simp),if_neg (by rw[ha];simp[h42]),if_neg h59]
theorem Kz{line:Bool}(h:Bx s i (32::u)):A5 s i line= .again (i+1) line:=by
 unfold A5;rw[if_neg (by have:=h.lt;omega),h.head,if_neg (by decide),if_pos (by decide)]
theorem FV(b:UInt8)(h:BX b=true):Lib.upperB b=b∧Au b=true:=by
 have:=C8 (fun b=>!BX b||(Lib.upperB b==b&&Au b)) (by decide+kernel) b;rw[h]at this;simpa using this
theorem FO(b:UInt8)(h:BX b=true)(h2:(48≤b&&b≤57)=false):cls 1 b=true∧b≠10∧cls 3 b=false∧b≠42∧b≠38∧b≠59:=by
 have:=C8 (fun b=>!BX b||(48≤b&&b≤57)||(cls 1 b&&b !=10&&!cls 3 b&&b !=42&&b !=38&&b !=59)) (by decide+kernel) b;rw[h,h2]at this;simp at this;exact⟨this.1.1.1.1.1,this.1.1.1.1.2,this.1.1.1.2,this.1.1.2,this.1.2,this.2⟩
theorem L6{line:Bool}{w:Bs}(hw:Ak w=true)(h:Bx s i w)(hn:Nxt s (i+w.length) Au):A5 s i line= .tok ⟨0,i,w⟩ (i+w.length) true:=by
 cases w with
 |nil=>exact absurd hw (by decide)
 | cons c r=>
   unfold Ak at hw;simp only[Bool.and_eq_true,decide_eq_true_eq,Bool.not_eq_true']at hw;obtain⟨⟨⟨_,hl⟩,hd⟩,ha⟩:=hw;have hc:BX c=true:=List.all_eq_true.1 ha c (by simp);obtain⟨k1,k2,k3,k4,k5,k6⟩:=FO c hc hd;have hall:(c::r).all Au=true:=List.all_eq_true.2 fun b hb=>(FV b (List.all_eq_true.1 ha b hb)).2;have hup:Lib.toUpperA (c::r)=c::r:=by
    unfold Lib.toUpperA;rw[List.map_congr_left (g:=id) (fun b hb=>(FV b (List.all_eq_true.1 ha b hb)).1),List.map_id]
   rw[Dr h k2 k3 k4 (h.amp k5) k6];unfold AP;rw[h.head,if_pos k1,h.run hall hn,if_neg (by omega),h.slice,hup]
theorem Ey(b:UInt8)(h:AF b=true):cls 2 b=true∧cls 1 b=false∧b≠10∧cls 3 b=false∧b≠42∧b≠38∧b≠59:=by
 have:=C8 (fun b=>!AF b||(cls 2 b&&!cls 1 b&&b !=10&&!cls 3 b&&b !=42&&b !=38&&b !=59)) (by decide+kernel) b;rw[h]at this;simp at this;exact⟨this.1.1.1.1.1.1,this.1.1.1.1.1.2,this.1.1.1.1.2,this.1.1.1.2,this.1.1.2,this.1.2,this.2⟩
theorem MD{line:Bool}{w:Bs}(h0:w≠[])(hd:w.all AF=true)(hl:w.length≤15)(h:Bx s i w)(hn:Nxt s (i+w.length) (cls 2)):A5 s i line= .tok ⟨1,i,w⟩ (i+w.length) true:=by
 cases w with
 |nil=>exact absurd rfl h0
 | cons c r=>
   obtain⟨k0,k1,k2,k3,k4,k5,k6⟩:=Ey c (List.all_eq_true.1 hd c (by simp));have hall:(c::r).all (cls 2)=true:=List.all_eq_true.2 fun b hb=>(Ey b (List.all_eq_true.1 hd b hb)).1;rw[Dr h k2 k3 k4 (h.amp k5) k6];unfold AP;rw[h.head,if_neg (by rw[k1];simp),if_pos k0,h.run hall hn,if_neg (by omega),h.slice]
theorem F6(b:UInt8)(h:B8 b=true):cls 4 b=false∧b≠10:=by
 have:=C8 (fun b=>!B8 b||(!cls 4 b&&b !=10)) (by decide+kernel) b;rw[h]at this;simpa using this
theorem L5{line:Bool}{t:Bs}{q:UInt8}(hq:q=34∨q=39)(ht:t.all (fun b=>B8 b&&b !=q)=true)(h:Bx s i (q::(t++[q]))):A5 s i line= .tok ⟨2,i,t⟩ (i+(t.length+2)) true:=by
 have hp:∀b∈t,B8 b=true∧b≠q:=fun b hb=>by
  have:=List.all_eq_true.1 ht b hb;simpa using this
 have hf:q≠10∧cls 3 q=false∧q≠42∧q≠38∧q≠59∧cls 1 q=false∧cls 2 q=false:=by rcases hq with rfl|rfl<;>decide
 obtain⟨k2,k3,k4,k5,k6,k7,k8⟩:=hf;rw[Dr h k2 k3 k4 (h.amp k5) k6];unfold AP;rw[h.head,if_neg (by rw[k7];simp),if_neg (by rw[k8];simp),if_pos hq];have hr:Ag s (fun b=>b !=10&&b !=bAt s i) (i+1)=i+1+t.length:=by
  refine h.tail.left.run ?_ ?_
  ·rw[List.all_eq_true];intro b hb;rw[h.head];have:=hp b hb;have h2:=(F6 b this.1).2;simp[this.2,h2]
  ·refine h.tail.right.next ?_;rw[h.head];simp
 have hl:=h.len (by simp);simp only[List.length_cons,List.length_append,List.length_nil]at hl;have hb:bAt s (i+1+t.length)=q:=h.tail.right.head;unfold Cn;simp only;rw[hr,if_pos ⟨by omega,by rw[hb];exact k2⟩,h.tail.left.slice];have hc:Ag t (fun b=>!cls 4 b) 0=t.length:=by
  have h1:Bx t 0 t:=⟨[],by simp⟩;rw[h1.run (List.all_eq_true.2 fun b hb=>by rw[(F6 b (hp b hb).1).1];rfl) (by intro c hc;simp at hc)];omega
 rw[hc,if_neg (by omega)];congr 1;omega
def headNe(u:Bs)(c:UInt8):Bool:=match u with| []=>true|d::_=>d !=c
def BI(w:Bs):List UInt8:=(signsL.filter fun v=>w.isPrefixOf v&&decide (w.length<v.length)).map fun v=>bAt v w.length
theorem IK:∀w∈signsL,∀v∈signsL.takeWhile (· !=w),v.isPrefixOf w=false:=by decide+kernel
theorem Jv{α:Type} [BEq α] [LawfulBEq α] {L:List α} {w:α} {p:α→Bool} (hm:w∈L) (hp:p w=true) (hb:∀v∈L.takeWhile (· !=w),p v=false):L.find? p=some w:=by
 induction L with
 |nil=>cases hm
 | cons a r ih=>
   rw[List.find?_cons];by_cases e:a=w
   ·subst e;rw[hp]
   ·have hne:(a !=w)=true:=by simpa using e
    rw[hb a (by rw[List.takeWhile_cons,hne];simp)];refine ih ?_ fun v hv=>hb v (by rw[List.takeWhile_cons,hne];simp[hv]);rcases List.mem_cons.1 hm with h|h
    ·exact absurd h.symm e
    ·exact h
theorem MO{w:Bs}(hw:w∈signsL)(hu:Lib.toUpperA w=w)(h:Bx s i w)(hn:Nxt s (i+w.length) (fun c=>(BI w).contains (Lib.upperB c))):Ck s i=some w:=by
 have hl:=DI hw;have hlen:=h.len (by intro e;rw[e]at hl;simp at hl);unfold Ck;refine Jv hw ?_ fun v hv=>?_
 ·unfold BR;rw[h.slice,hu];simp[hlen]
 ·have hvm:v∈signsL:=(List.takeWhile_sublist _).subset hv;have hno:=IK w hw v hv;unfold BR;rw[Bool.and_eq_false_iff];by_cases hv1:i+v.length≤s.length
  ·right;rw[beq_eq_false_iff_ne];intro e;obtain⟨r,hr⟩:=h;have hs:Aq s i (i+v.length)=(w++r).take v.length:=by unfold Aq;rw[hr,show i+v.length-i=v.length by omega]
   rw[hs]at e;by_cases hle:v.length≤w.length
   ·have e2:(w++r).take v.length=w.take v.length:=List.take_append_of_le_length hle;rw[e2]at e;have e3:Lib.toUpperA (w.take v.length)=w.take v.length:=by
     have:=congrArg (List.take v.length) hu;unfold Lib.toUpperA at this ⊢;rwa[←List.map_take]at this
    rw[e3]at e;have e5:=List.take_append_drop v.length w;rw[e]at e5;have:v.isPrefixOf w=true:=by rw[List.isPrefixOf_iff_prefix];exact⟨w.drop v.length,e5⟩
    rw[this]at hno;cases hno
   ·have hlt:w.length<v.length:=by omega
    have hpre:w.isPrefixOf v=true:=by
     rw[List.isPrefixOf_iff_prefix];have e4:v.take w.length=w:=by
      rw[←e];unfold Lib.toUpperA;rw[←List.map_take,List.take_take,Nat.min_eq_left (by omega),List.take_left];exact hu
     have e5:=List.take_append_drop w.length v;rw[e4]at e5;exact⟨v.drop w.length,e5⟩
    have hg:∃c,s[i+w.length]? =some c∧Lib.upperB c=bAt v w.length:=by
     have h1:(Lib.toUpperA ((w++r).take v.length))[w.length]? =v[w.length]?:=by rw[e]
     have h2:v[w.length]? =some (bAt v w.length):=by
      rw[D0 hlt];exact List.getElem?_eq_getElem hlt
     rw[h2]at h1;unfold Lib.toUpperA at h1;rw[List.getElem?_map,List.getElem?_take_of_lt hlt,List.getElem?_append_right (Nat.le_refl _),Nat.sub_self]at h1;cases hr0:r[0]? with
     |none=>rw[hr0]at h1;cases h1
     | some c=>
       rw[hr0]at h1;refine⟨c,?_,by simpa using h1⟩;have:(s.drop i)[w.length]? =r[0]?:=by rw[hr,List.getElem?_append_right (Nat.le_refl _),Nat.sub_self]
       rw[List.getElem?_drop,hr0]at this;exact this
    obtain⟨c,hc,hc2⟩:=hg;have this:(BI w).contains (Lib.upperB c)=false:=hn c hc;have hin:(BI w).contains (Lib.upperB c)=true:=by
     rw[hc2,List.contains_iff_mem];unfold BI;exact List.mem_map.2 ⟨v,List.mem_filter.2 ⟨hvm,by rw[hpre];simp[hlt]⟩,rfl⟩
    rw[hin]at this;cases this
  ·left;simpa using hv1
theorem EF{line:Bool}{w:Bs}(hw:w∈signsL)(hu:Lib.toUpperA w=w)(h:Bx s i w)(hn:Nxt s (i+w.length) (fun c=>(BI w).contains (Lib.upperB c)))
 (h42:w≠[42]∨line=true) (ha:B2 s i=false) (hd:AV (s.drop i)=none):A5 s i line= .tok ⟨4,i,w⟩ (i+w.length) true:=by
 have hf:signsL.all (fun w=>match w with| []=>false|c::_=>c !=10&&!cls 3 c&&c !=59&&!cls 1 c&&!cls 2 c&&c !=34&&c !=39&&(c !=42||w==[42]))=true:=by decide+kernel
 have hf:=List.all_eq_true.1 hf w hw;cases w with
 |nil=>cases hf
 | cons c r=>
   simp only[Bool.and_eq_true,bne_iff_ne,ne_eq,Bool.not_eq_true',Bool.or_eq_true,beq_iff_eq]at hf;obtain⟨⟨⟨⟨⟨⟨⟨k1,k2⟩,k3⟩,k4⟩,k5⟩,k6⟩,k7⟩,k8⟩:=hf;have e1:A5 s i line=AP s i:=by
    unfold A5;rw[if_neg (by have:=h.lt;omega),h.head,if_neg k1,if_neg (by rw[k2];simp),if_neg ?_,if_neg k3];rw[ha];simp only[Bool.or_false,Bool.and_eq_true,beq_iff_eq,Bool.not_eq_true',not_and,Bool.not_eq_false];intro e;rcases h42 with h1|h1
    ·rcases k8 with h2|h2
     ·exact absurd e h2
     ·exact absurd h2 h1
    ·exact h1
   rw[e1];unfold AP;rw[h.head,if_neg (by rw[k4];simp),if_neg (by rw[k5];simp),if_neg (by rintro(e|e);exact k6 e;exact k7 e),hd,MO hw hu h hn]
theorem GB(h:Bx s i (c::u))(hc:c≠123):AV (s.drop i)=none:=by
 obtain⟨r,h⟩:=h;rw[h];unfold AV;rw[if_neg (by simp[List.isPrefixOf];intro e;exact absurd e.symm hc),if_neg (by simp[BW];intro _ e;exact absurd e hc)]
theorem Mg(h:Bx s i (123::u))(hn:Nxt s (i+1) (fun c=>c==125||c==94)):AV (s.drop i)=none:=by
 obtain⟨r,h⟩:=h;have h1:s.drop (i+1)=u++r:=by
  have:(s.drop i).drop 1=u++r:=by rw[h];rfl
  rwa[List.drop_drop]at this
 rw[h];show AV (123::(u++r))=none;cases hq:u++r with
 |nil=>rfl
 | cons e q=>
   have h2:s[i+1]? =some e:=by
    have:(s.drop (i+1))[0]? =some e:=by rw[h1,hq];rfl
    simpa using this
   have h3:=hn e h2;simp only[Bool.or_eq_false_iff,beq_eq_false_iff_ne]at h3;unfold AV;rw[if_neg (by simp[List.isPrefixOf];intro e;exact absurd e.symm h3.1),if_neg (by simp[BW];intro _ e;exact absurd e h3.2)]
end
def D2(a b:List Tok):Prop:=a.map (fun t=>(t.kind,t.text))=b.map (fun t=>(t.kind,t.text))
def Lx(s:Bs)(i j:Nat)(t:List Tok):Prop:=∃k t',k≤j-i∧D2 t' t∧∀n,AO s (n+k) i true=(AO s n j true).pre t'
theorem MN(a b:List Tok)(r:LexR):(r.pre b).pre a=r.pre (a++b):=by cases r<;>simp[LexR.pre]
theorem Lx.trans{s:Bs}{i j k:Nat}{a b:List Tok}(hij:i≤j)(hjk:j≤k)(h1:Lx s i j a)(h2:Lx s j k b):Lx s i k (a++b):=by
 obtain⟨m,a',hm,ea,ha⟩:=h1;obtain⟨q,b',hq,eb,hb⟩:=h2;refine⟨q+m,a'++b',by omega,?_,fun n=>?_⟩
 ·unfold D2 at*;rw[List.map_append,List.map_append,ea,eb]
 ·rw[←Nat.add_assoc,ha,hb,MN]
theorem Lx.one{s:Bs}{i j:Nat}{c:Tok}{p:Nat}(hj:i<j)(h:A5 s i true= .tok ⟨c.kind,p,c.text⟩ j true):Lx s i j [c]:=by
 refine⟨1,[⟨c.kind,p,c.text⟩],by omega,rfl,fun n=>?_⟩;rw[AO,h];show(AO s n j true).cons _=_;cases AO s n j true<;>rfl
theorem Lx.blank{s:Bs}{i:Nat}(h:A5 s i true= .again (i+1) true):Lx s i (i+1) []:=by
 refine⟨1,[],by omega,rfl,fun n=>?_⟩;rw[AO,h,LexR.pre_nil]
def LP(t:List Tok)(u:Bs)(c:UInt8)(p:UInt8→Bool):Prop:=(∃r,u=c::r)∧∀s i,Bx s i u→Nxt s (i+u.length) p→Lx s i (i+u.length) t
theorem LP.cat{a b:List Tok}{u v:Bs}{c d:UInt8}{p q:UInt8→Bool}(h1:LP a u c p)(h2:LP b v d q)(hd:p d=false):LP (a++b) (u++v) c q:=by
 obtain⟨⟨r,rfl⟩,f1⟩:=h1;obtain⟨⟨r2,rfl⟩,f2⟩:=h2;refine⟨⟨r++(d::r2),rfl⟩,fun s i hb hn=>?_⟩;have e:=f1 s i hb.left (hb.right.next hd);have e2:=f2 s _ hb.right (by rw[List.length_append]at hn;rwa[Nat.add_assoc]);rw[List.length_append,←Nat.add_assoc];exact Lx.trans (by omega) (by omega) e e2
theorem LP.weak{t:List Tok}{u:Bs}{c:UInt8}{p q:UInt8→Bool}(h:LP t u c p)(hp:∀b,p b=true→q b=true):LP t u c q:=by
 refine⟨h.1,fun s i hb hn=>h.2 s i hb fun d hd=>?_⟩;have:=hn d hd;cases e:p d with
 |false=>rfl
 |true=>rw[hp d e]at this;cases this
abbrev Bf:UInt8→Bool:=fun _=>false
theorem LP.blank:LP [] [32] 32 Bf:=⟨⟨[],rfl⟩,fun _ _ hb _=>Lx.blank (Kz hb)⟩
theorem LP.word{w:Bs}(h:Ak w=true):∃c,cls 1 c=true∧LP [wd w] w c Au:=by
 cases w with
 |nil=>exact absurd h (by decide)
 | cons c r=>
   have h':=h;unfold Ak at h';simp only[Bool.and_eq_true,decide_eq_true_eq,Bool.not_eq_true']at h';exact⟨c,(FO c (List.all_eq_true.1 h'.2 c (by simp)) h'.1.2).1,⟨r,rfl⟩,fun s i hb hn=>Lx.one (c:=wd (c::r)) (by simp) (L6 h hb hn)⟩
theorem LP.num{w:Bs}(h0:w≠[])(hd:w.all AF=true)(hl:w.length≤15):∃c,cls 2 c=true∧LP [⟨1,0,w⟩] w c (cls 2):=by
 cases w with
 |nil=>exact absurd rfl h0
 |cons c r=>exact⟨c,(Ey c (List.all_eq_true.1 hd c (by simp))).1,⟨r,rfl⟩,fun s i hb hn=>Lx.one (c:=⟨1,0,c::r⟩) (by simp) (MD h0 hd hl hb hn)⟩
theorem LP.text{t:Bs}{q:UInt8}(hq:q=34∨q=39)(ht:t.all (fun b=>B8 b&&b !=q)=true):LP [⟨2,0,t⟩] (q::t++[q]) q Bf:=by
 refine⟨⟨t++[q],rfl⟩,fun s i hb _=>?_⟩;have hb':Bx s i (q::(t++[q])):=hb;have:=L5 (line:=true) hq ht hb';have e:(q::t++[q]).length=t.length+2:=by simp
 rw[e];exact Lx.one (c:=⟨2,0,t⟩) (by omega) this
theorem LP.sign{c:UInt8}{r:Bs}(hw:(c::r)∈signsL)(hu:Lib.toUpperA (c::r)=c::r)(h1:c≠38)(h2:c≠123):LP [sg (c::r)] (c::r) c (fun b=>(BI (c::r)).contains (Lib.upperB b)):=
 ⟨⟨r,rfl⟩,fun s i hb hn=>Lx.one (c:=sg (c::r)) (by simp) (EF hw hu hb hn (.inr rfl) (hb.amp h1) (GB hb h2))⟩
theorem LP.amp:LP [sg [38]] [38] 38 (· ==38):=
 ⟨⟨[],rfl⟩,fun s i hb hn=>Lx.one (c:=sg [38]) (by simp) (EF (by decide) (by decide) hb (by intro d hd;show(BI [38]).contains _=false;rw[show BI [38]=[]by decide+kernel];rfl) (.inr rfl) (hb.amp2 hn) (GB hb (by decide)))⟩
theorem LP.brace:LP [sg [123]] [123] 123 (fun b=>b==125||b==94):=
 ⟨⟨[],rfl⟩,fun s i hb hn=>Lx.one (c:=sg [123]) (by simp) (EF (by decide) (by decide) hb (by intro d hd;show(BI [123]).contains _=false;rw[show BI [123]=[]by decide+kernel];rfl) (.inr rfl) (hb.amp (by decide)) (Mg hb hn))⟩
open Go.Lib
def Cf(c:UInt8):Bool:=Au c||[34,39,46,123,40,38,64,45].contains c
theorem GN(c:UInt8)(h:Cf c=true):c≠62∧c≠125∧c≠94∧c≠42∧c≠10∧c≠32∧c≠9∧c≠59:=by
 have:=C8 (fun c=>!Cf c||(c !=62&&c !=125&&c !=94&&c !=42&&c !=10&&c !=32&&c !=9&&c !=59)) (by decide+kernel) c;rw[h]at this;simp at this;obtain⟨⟨⟨⟨⟨⟨⟨a,b⟩,c⟩,d⟩,e⟩,f⟩,g⟩,k⟩:=this;exact⟨a,b,c,d,e,f,g,k⟩
theorem Dn{c:UInt8}(h:cls 1 c=true):Cf c=true:=by unfold Cf Au;rw[h];rfl
theorem M5{c:UInt8}(h:cls 2 c=true):Cf c=true:=by unfold Cf Au;rw[h];simp
def AS(u:Bs):Prop:=∀v q,u++v≠38::38::q
theorem AS.ne{c:UInt8}{r:Bs}(h:c≠38):AS (c::r):=by
 intro v q e;injection e with e1 _
 exact h e1
def LE(w:OW):Prop:=∃t u c,w=some (t,u)∧Cf c=true∧AS u∧LP t u c Au
theorem LP.le{w:OW}{t:List Tok}{u:Bs}{c:UInt8}(e:w=some (t,u))(hc:Cf c=true)(h38:c≠38)(h:LP t u c Au):LE w:=by
 obtain⟨r,hr⟩:=h.1;exact⟨t,u,c,e,hc,by rw[hr];exact AS.ne h38,h⟩
theorem Mj(b:UInt8)(h:cls 2 b=true):Au b=true:=by unfold Au;rw[h];simp
theorem LP.free{c:UInt8}{r:Bs}(hw:(c::r)∈signsL)(hu:Lib.toUpperA (c::r)=c::r)(h1:c≠38)(h2:c≠123)(hb:BI (c::r)=[]):LP [sg (c::r)] (c::r) c Bf:=
 (LP.sign hw hu h1 h2).weak fun b hb'=>by rw[hb]at hb';cases hb'
theorem LP.any{t:List Tok}{u:Bs}{c:UInt8}{q:UInt8→Bool}(h:LP t u c Bf):LP t u c q:=h.weak fun _ e=>by cases e
theorem LP.op{s:Bs}(h:s∈opsL):∃c p,LP [sg s] s c p∧c≠32∧p 32=false:=by
 have h1:opsL.all (fun s=>match s with| []=>false|c::r=>signsL.contains s&&Lib.toUpperA s==s&&c !=38&&c !=123&&c !=32&&!(BI s).contains (Lib.upperB 32))=true:=by decide+kernel
 have h2:=List.all_eq_true.1 h1 s h;cases s with
 |nil=>cases h2
 | cons c r=>
   simp only[Bool.and_eq_true,bne_iff_ne,ne_eq,Bool.not_eq_true',beq_iff_eq,List.contains_iff_mem]at h2;obtain⟨⟨⟨⟨⟨a,b⟩,c1⟩,d⟩,e⟩,f⟩:=h2;exact⟨c,_,LP.sign a b c1 d,e,f⟩
theorem GV{s:Bs}(h:s.length=8):∃b0 b1 b2 b3 b4 b5 b6 b7,s=[b0,b1,b2,b3,b4,b5,b6,b7]:=by
 match s,h with
 | [b0,b1,b2,b3,b4,b5,b6,b7],_=>exact⟨b0,b1,b2,b3,b4,b5,b6,b7,rfl⟩
theorem F9(n:Int):(AX n).all AF=true:=by
 unfold AX;rw[List.all_append,List.all_append,CZ,CZ,CZ];rfl
theorem K8{n:Int}(h0:0<n)(h1:n≤3652059):(Bq (AX n)).2=true∧AX n≠Co:=by
 have hne:AX n≠Co:=by
  intro h;have:=F9 n;rw[h]at this;exact absurd this (by decide)
 refine⟨?_,hne⟩;have hday:=Gk h0 h1;unfold Bn Bq at hday;unfold Bq;rw[if_neg hne,if_neg (by rw[Dt h0 h1,F9];simp)]at hday ⊢;simp only at hday ⊢;generalize Ay ((AX n).take 4)=y at*;generalize Ay (((AX n).drop 4).take 2)=m at*;generalize Ay ((AX n).drop 6)=q at*;unfold Bk at hday ⊢;split at hday
 ·simp only at hday;omega
 ·rename_i hb;rw[if_neg hb];rfl
theorem L4{line:Bool}{s b:Bs}{i:Nat}(hl:b.length=8)(hd:(Bq b).2=true)(hne:b≠Co)(h:Bx s i (Cz b)):A5 s i line= .tok ⟨3,i,b⟩ (i+13) true:=by
 obtain⟨b0,b1,b2,b3,b4,b5,b6,b7,rfl⟩:=GV hl;have h':Bx s i (123::94::b0::b1::b2::b3::45::b4::b5::45::b6::b7::125::[]):=h;rw[Dr h' (by decide) (by decide) (by decide) (h'.amp (by decide)) (by decide)];have hD:AV (s.drop i)=some ([b0,b1,b2,b3,b4,b5,b6,b7],13):=by
  obtain⟨r,hr⟩:=h';rw[hr];have e1:Ci ([123,94,b0,b1,b2,b3,45,b4,b5,45,b6,b7,125]++r)=[b0,b1,b2,b3,b4,b5,b6,b7]:=rfl;have e2:BW ([123,94,b0,b1,b2,b3,45,b4,b5,45,b6,b7,125]++r)=true:=by
   unfold BW;have h1:bAt ([123,94,b0,b1,b2,b3,45,b4,b5,45,b6,b7,125]++r) 6=45:=rfl;have h2:bAt ([123,94,b0,b1,b2,b3,45,b4,b5,45,b6,b7,125]++r) 9=45:=rfl;have h3:bAt ([123,94,b0,b1,b2,b3,45,b4,b5,45,b6,b7,125]++r) 12=125:=rfl;have h4:([123,94,b0,b1,b2,b3,45,b4,b5,45,b6,b7,125]++r).take 2=[123,94]:=rfl;rw[h1,h2,h3,h4];simp
  have e3:List.isPrefixOf [123,125] ([123,94,b0,b1,b2,b3,45,b4,b5,45,b6,b7,125]++r)=false:=rfl;unfold AV;rw[e3,if_neg (by simp),e2,if_pos rfl,e1,hd];rw[if_pos (by simpa using hne)]
 unfold AP;rw[h'.head,if_neg (by decide),if_neg (by decide),if_neg (by decide),hD]
theorem Li{line:Bool}{s:Bs}{i:Nat}(h:Bx s i [123,125]):A5 s i line= .tok ⟨3,i,[]⟩ (i+2) true:=by
 rw[Dr h (by decide) (by decide) (by decide) (h.amp (by decide)) (by decide)];have hD:AV (s.drop i)=some ([],2):=by
  obtain⟨r,hr⟩:=h;rw[hr];rfl
 unfold AP;rw[h.head,if_neg (by decide),if_neg (by decide),if_neg (by decide),hD]
theorem LP.date{n:Int}(h0:0<n)(h1:n≤3652059):LP [⟨3,0,AX n⟩] (Cz (AX n)) 123 Bf:=by
 refine⟨⟨_,rfl⟩,fun s i hb _=>?_⟩;have hl:=Dt h0 h1;have e:(Cz (AX n)).length=13:=by
  obtain⟨b0,b1,b2,b3,b4,b5,b6,b7,e⟩:=GV hl;rw[e];rfl
 rw[e];obtain⟨u1,u2⟩:=K8 h0 h1;exact Lx.one (c:=⟨3,0,AX n⟩) (by omega) (L4 hl u1 u2 hb)
theorem LP.date0:LP [⟨3,0,[]⟩] [123,125] 123 Bf:=⟨⟨_,rfl⟩,fun s i hb _=>Lx.one (c:=⟨3,0,[]⟩) (by simp) (Li hb)⟩
theorem N4(u:Nat):decDigits u≠[]:=by
 intro h;have:=decDigits_length u;rw[h]at this;have h2:1≤nDigits u:=by
  by_cases h:u<10
  ·rw[nDigits_small h];omega
  ·rw[nDigits_big h];omega
 simp at this;omega
theorem L3{h:Hd}(hc:Ao h=true):LE (Cg wdM h):=by
 unfold Ao at hc;unfold Cg;by_cases k0:h.vk=0
 ·rw[if_pos k0]at hc;simp at hc;rw[if_neg (by simp[BP,k0,hc.1,hc.2]),if_pos k0];exact LP.le rfl (c:=46) (by decide) (by decide) (LP.free (by decide) (by decide) (by decide) (by decide) (by decide+kernel)).any
 rw[if_neg k0]at hc;by_cases k1:h.vk=1
 ·rw[if_pos k1]at hc;simp at hc;rw[if_neg (by simp[BP,k1,hc.2];omega),if_neg k0,if_pos k1];split
  ·exact LP.le rfl (c:=46) (by decide) (by decide) (LP.free (by decide) (by decide) (by decide) (by decide) (by decide+kernel)).any
  ·exact LP.le rfl (c:=46) (by decide) (by decide) (LP.free (by decide) (by decide) (by decide) (by decide) (by decide+kernel)).any
 rw[if_neg k1]at hc;by_cases k2:h.vk=2
 ·rw[if_pos k2]at hc;simp at hc;have hw:=wdM_ok.nums h.vn hc.1.1 hc.1.2;rw[if_neg (by simp[BP,k2,hc.2];omega),if_neg k0,if_neg k1,if_pos k2,if_neg (by omega)];have e:wdM.num h.vn=decDigits h.vn.toNat:=EE _ hc.1.1;rw[e]at hw ⊢;obtain⟨c,hc1,hl⟩:=LP.num (N4 h.vn.toNat) (Gw _) hw.1;exact LP.le rfl (M5 hc1) (by rintro rfl;exact absurd hc1 (by decide)) (hl.weak Mj)
 rw[if_neg k2]at hc;by_cases k3:h.vk=3
 ·rw[if_pos k3]at hc;simp at hc;rw[if_neg (by simp[BP,k3,hc.2];omega),if_neg k0,if_neg k1,if_neg k2,if_pos k3];split
  ·exact LP.le rfl (c:=123) (by decide) (by decide) LP.date0.any
  ·exact LP.le rfl (c:=123) (by decide) (by decide) (LP.date (by omega) hc.1.2).any
 rw[if_neg k3]at hc;by_cases k4:h.vk=4
 ·rw[if_pos k4]at hc;simp only[Bool.and_eq_true,beq_iff_eq]at hc;obtain⟨hn,ht⟩:=hc;unfold BV at ht;simp only[Bool.and_eq_true,decide_eq_true_eq,Bool.not_eq_true',Bool.and_eq_false_iff]at ht;obtain⟨⟨h1,h2⟩,h3⟩:=ht;rw[if_neg (by simp[BP,k4,hn];omega),if_neg k0,if_neg k1,if_neg k2,if_neg k3];have hall:(h.vs.all fun b=>B8 b&&b !=BM h.vs)=true:=by
   rw[List.all_eq_true]at h1 ⊢;intro b hb;rw[Bool.and_eq_true];refine⟨h1 b hb,?_⟩;unfold BM;rcases h3 with h3|h3
   ·rw[h3];simp only[Bool.false_eq_true,if_false,bne_iff_ne,ne_eq];rintro rfl;simp[List.contains_eq_mem]at h3;exact h3 hb
   ·split
    ·simp only[bne_iff_ne,ne_eq];rintro rfl;simp[List.contains_eq_mem]at h3;exact h3 hb
    ·rename_i h34;simp only[bne_iff_ne,ne_eq];rintro rfl;simp[List.contains_eq_mem]at h34;exact h34 hb
  unfold txtW;rw[if_pos hall];have hq:BM h.vs=34∨BM h.vs=39:=by unfold BM;split<;>simp
  refine LP.le rfl (c:=BM h.vs) ?_ ?_ (LP.text hq hall).any
  ·rcases hq with e|e<;>rw[e]<;>decide
  ·rcases hq with e|e<;>rw[e]<;>decide
 rw[if_neg k4]at hc;cases hc
def LRow(ks:List (Hd×OW)):Prop:=∀x∈ks,LE x.2
abbrev LQ(w:OW)(c:UInt8)(p:UInt8→Bool):Prop:=∃t u,w=some (t,u)∧LP t u c p
theorem LQ.cat{a b:OW}{c e:UInt8}{p q:UInt8→Bool}(h1:LQ a c p)(h2:LQ b e q)(hd:p e=false):LQ (A9 a b) c q:=by
 obtain⟨t,u,rfl,h1⟩:=h1;obtain⟨t2,u2,rfl,h2⟩:=h2;exact⟨_,_,rfl,h1.cat h2 hd⟩
theorem LQ.last{a:OW}{c:UInt8}{p:UInt8→Bool}(h:LQ a c p):LQ (A9 a (Af [])) c p:=by
 obtain⟨t,u,rfl,h⟩:=h;exact⟨t,u,by simp[A9,Af],h⟩
theorem LQ.last2{a:OW}{c:UInt8}{p:UInt8→Bool}(h:LQ a c p):LQ (A9 a (A9 (some ([],[])) (Af []))) c p:=by
 obtain⟨t,u,rfl,h⟩:=h;exact⟨t,u,by simp[A9,Af],h⟩
theorem LQ.nil{a:OW}{c:UInt8}{p:UInt8→Bool}{s:Bs}(h:LQ a c p)(hs:s=[]):LQ (A9 (some ([],s)) a) c p:=by
 subst hs;obtain⟨t,u,rfl,h⟩:=h;exact⟨t,u,by simp[A9],h⟩
theorem LQ.free{c:UInt8}{r:Bs}(hw:(c::r)∈signsL)(hu:Lib.toUpperA (c::r)=c::r)(h1:c≠38)(h2:c≠123)(hb:BI (c::r)=[]):LQ (sgn (c::r)) c Bf:=⟨_,_,rfl,LP.free hw hu h1 h2 hb⟩
theorem LQ.bl:LQ AY 32 Bf:=⟨_,_,rfl,LP.blank⟩
theorem LQ.nm{s:Bs}(h:Ak s=true):∃c,cls 1 c=true∧LQ (nmW s) c Au:=by
 obtain⟨c,hc,hl⟩:=LP.word h;exact⟨c,hc,_,_,by unfold nmW;rw[if_pos h],hl⟩
theorem LQ.any{w:OW}{c:UInt8}{p:UInt8→Bool}(h:LQ w c Bf):LQ w c p:=by
 obtain⟨t,u,e,h⟩:=h;exact⟨t,u,e,h.any⟩
theorem LE.q{w:OW}(h:LE w):∃c,Cf c=true∧LQ w c Au:=by
 obtain⟨t,u,c,e,hc,_,h⟩:=h;exact⟨c,hc,t,u,e,h⟩
theorem LQ.e{w:OW}{c:UInt8}(hc:Cf c=true)(h38:c≠38)(h:LQ w c Au):LE w:=by
 obtain⟨t,u,e,h⟩:=h;exact LP.le e hc h38 h
theorem LE.on{a b:OW}{c:UInt8}(ha:LE a)(hc:Cf c=true)(h:LQ (A9 a b) c Au):LE (A9 a b):=by
 obtain⟨t,u,e,h⟩:=h;obtain⟨t1,u1,_,rfl,_,has,_⟩:=ha;refine⟨t,u,c,e,hc,?_,h⟩;cases b with
 |none=>cases e
 | some q=>
   cases e;intro v r;show u1++q.2++v≠_;rw[List.append_assoc];exact has _ _
theorem D1{c:UInt8}(h:cls 1 c=true):c≠38:=by
 rintro rfl;exact absurd h (by decide)
theorem LQ.par:LQ (sgn [40]) 40 Bf:=LQ.free (by decide) (by decide) (by decide) (by decide) (by decide+kernel)
theorem LQ.rap:LQ (sgn [41]) 41 Bf:=LQ.free (by decide) (by decide) (by decide) (by decide) (by decide+kernel)
theorem LQ.com:LQ (sgn [44]) 44 Bf:=LQ.free (by decide) (by decide) (by decide) (by decide) (by decide+kernel)
theorem LQ.rbr:LQ (sgn [125]) 125 Bf:=LQ.free (by decide) (by decide) (by decide) (by decide) (by decide+kernel)
theorem LQ.bar:LQ (sgn [124]) 124 Bf:=LQ.free (by decide) (by decide) (by decide) (by decide) (by decide+kernel)
theorem LQ.lsq:LQ (sgn [91]) 91 Bf:=LQ.free (by decide) (by decide) (by decide) (by decide) (by decide+kernel)
theorem LQ.rsq:LQ (sgn [93]) 93 Bf:=LQ.free (by decide) (by decide) (by decide) (by decide) (by decide+kernel)
theorem LQ.arr:LQ (sgn [45,62]) 45 Bf:=LQ.free (by decide) (by decide) (by decide) (by decide) (by decide+kernel)
theorem LQ.at:LQ (sgn [64]) 64 Bf:=LQ.free (by decide) (by decide) (by decide) (by decide) (by decide+kernel)
theorem LQ.dot:LQ (sgn [46]) 46 Au:=by
 refine⟨_,_,rfl,(LP.sign (c:=46) (r:=[]) (by decide) (by decide) (by decide) (by decide)).weak fun b hb=>?_⟩;have h1:=C8 (fun b=>!(BI [46]).contains (Lib.upperB b)||Au b) (by decide+kernel) b;rw[hb]at h1;simpa using h1
theorem LQ.minus:LQ (sgn [45]) 45 (· ==62):=by
 refine⟨_,_,rfl,(LP.sign (c:=45) (r:=[]) (by decide) (by decide) (by decide) (by decide)).weak fun b hb=>?_⟩;have h1:=C8 (fun b=>!(BI [45]).contains (Lib.upperB b)||b==62) (by decide+kernel) b;rw[hb]at h1;simpa using h1
theorem LQ.not:LQ (sgn [46,78,79,84,46]) 46 Bf:=LQ.free (by decide) (by decide) (by decide) (by decide) (by decide+kernel)
theorem LE.closed{w:OW}(h:LE w):LQ (BU w) 40 Bf:=by
 obtain⟨c,_,hq⟩:=h.q;exact LQ.par.cat (hq.cat LQ.rap.last (by decide)) rfl
theorem LE.opd{h:Hd}{w:OW}(k:LE w):LE (Bo (h,w)):=by
 unfold Bo;split
 ·exact k
 ·exact LQ.e (by decide) (by decide) k.closed.any
theorem ME:∀{L:List OW},(∀w∈L,LE w)→L≠[]→LQ (Cl L) 44 Au:=by
 intro L;induction L with
 |nil=>intro _ h;exact absurd rfl h
 | cons a r ih=>
   intro h _;obtain⟨c,_,hq⟩:=(h a (by simp)).q;by_cases hr:r=[]
   ·subst hr;exact LQ.com.cat (LQ.bl.cat hq.last2 (by show Bf c=false;rfl)) rfl
   ·exact LQ.com.cat (LQ.bl.cat (hq.cat (ih (fun w hw=>h w (by simp[hw])) hr).last (by decide)) rfl) rfl
theorem EL{L:List OW}(h:∀w∈L,LE w)(hn:L≠[]):LE (Bi L):=by
 cases L with
 |nil=>exact absurd rfl hn
 | cons a r=>
   obtain⟨c,hc,hq⟩:=(h a (by simp)).q;by_cases hr:r=[]
   ·subst hr;obtain⟨t,u,e,hl⟩:=hq;exact LE.on (h a (by simp)) hc ⟨t,u,by show A9 a (Cl [])=_;rw[e];simp[A9,Cl],hl⟩
   ·exact LE.on (h a (by simp)) hc (hq.cat (ME (fun w hw=>h w (by simp[hw])) hr) (by decide))
theorem GF{s:Bs}(h:Ak s=true):LE (nmW s):=by
 obtain⟨c,hc,hq⟩:=LQ.nm h;exact LQ.e (Dn hc) (D1 hc) hq
theorem Gp{c:UInt8}(h:Cf c=true):(c==62)=false∧(c==125||c==94)=false:=by
 obtain⟨h1,h2,h3,_⟩:=GN c h;simp[h1,h2,h3]
theorem GG{h:Hd}{k:Fo}(ho:Ba h k.len=true)(hk:okF k=true)(g:LRow (Ai wdM k)):LE (A6 wdM h (Ai wdM k)):=by
 obtain⟨p1,p2,p3⟩:=CB ho;unfold An at p3;unfold A6;have hm:∀w∈(Ai wdM k).map (·.2),LE w:=by
  intro w hw;obtain⟨x,hx,rfl⟩:=List.mem_map.1 hw;exact g x hx
 by_cases e0:h.op=0
 ·rw[if_pos e0]at p3;rw[if_pos e0];simp only[Bool.and_eq_true]at p3;exact L3 p3.2
 rw[if_neg e0]at p3;rw[if_neg e0];by_cases e1:h.op=1
 ·rw[if_pos (.inl e1)]at p3;rw[if_pos e1];simp only[Bool.and_eq_true]at p3;exact GF p3.1
 rw[if_neg e1];by_cases e10:h.op=10
 ·rw[if_pos (.inr e10)]at p3;rw[if_neg (by omega),if_neg (by omega),if_neg (by omega),if_neg (by omega),if_neg (by omega),if_neg (by omega),if_neg (by omega),if_neg (by omega),if_pos e10];simp only[Bool.and_eq_true]at p3;obtain⟨c,hc,hq⟩:=LQ.nm p3.1;exact LQ.e (by decide) (by decide) (LQ.at.cat hq.last rfl)
 rw[if_neg (by omega)]at p3;by_cases e2:h.op=2
 ·rw[if_pos e2]at p3;rw[if_pos e2];simp only[Bool.and_eq_true,beq_iff_eq]at p3;obtain⟨a,b,rfl⟩:=B9 p3.2;simp only[okF,Bool.and_eq_true]at hk;have hw:Ai wdM (.cons a b .nil)=[(a,A6 wdM a (Ai wdM b))]:=rfl;rw[hw]at g ⊢;simp only;obtain⟨c,hc,hq⟩:=LQ.nm p3.1;by_cases ea:a.op=1
  ·rw[if_pos ea];have hn:Ak a.s=true:=by
    obtain⟨_,_,q3⟩:=CB hk.1.1;unfold An at q3;rw[if_neg (by omega),if_pos (.inl ea)]at q3;simp only[Bool.and_eq_true]at q3;exact q3.1
   obtain⟨c2,_,hq2⟩:=LQ.nm hn;exact LQ.e (Dn hc) (D1 hc) (hq.cat (LQ.arr.cat hq2.last rfl) (by decide))
  ·rw[if_neg ea];have h1:=(g (a,A6 wdM a (Ai wdM b)) (by simp)).closed;exact LQ.e (Dn hc) (D1 hc) (hq.cat (LQ.arr.cat h1.last.any rfl) (by decide))
 rw[if_neg e2]at p3;rw[if_neg e2];by_cases e3:h.op=3
 ·rw[if_pos e3]at p3;rw[if_pos e3];obtain⟨c,hc,hq⟩:=LQ.nm p3;by_cases hn:(Ai wdM k).map (·.2)=[]
  ·rw[hn];have h1:LQ (Af [Bi [],sgn [41]]) 41 Bf:=LQ.nil (s:=[]) LQ.rap.last rfl;exact LQ.e (Dn hc) (D1 hc) (hq.cat (LQ.par.cat h1 rfl).any (by decide))
  ·obtain⟨c2,_,hq2⟩:=(EL hm hn).q;exact LQ.e (Dn hc) (D1 hc) (hq.cat (LQ.par.cat (hq2.cat LQ.rap.last (by decide)) rfl).any (by decide))
 rw[if_neg e3]at p3;rw[if_neg e3];by_cases e4:h.op=4
 ·rw[if_pos e4]at p3;rw[if_pos e4];simp only[Bool.and_eq_true,Bool.or_eq_true,beq_iff_eq]at p3;obtain⟨a,b,rfl⟩:=B9 p3.2;have hw:Ai wdM (.cons a b .nil)=[(a,A6 wdM a (Ai wdM b))]:=rfl;rw[hw]at g ⊢;simp only;obtain⟨c,hc,hq⟩:=(LE.opd (h:=a) (g (a,A6 wdM a (Ai wdM b)) (by simp))).q;rcases p3.1 with hs|hs
  ·rw[hs,if_neg (by decide)];have h1:LQ (Af [some ([],[]),Bo (a,A6 wdM a (Ai wdM b))]) c Au:=LQ.nil (s:=[]) hq.last rfl;exact LQ.e (by decide) (by decide) (LQ.minus.cat h1 (Gp hc).1)
  ·rw[hs,if_pos rfl];exact LQ.e (by decide) (by decide) (LQ.not.cat (LQ.bl.cat hq.last rfl) rfl)
 rw[if_neg e4]at p3;rw[if_neg e4];by_cases e5:h.op=5
 ·rw[if_pos e5]at p3;rw[if_pos e5];simp only[Bool.and_eq_true,beq_iff_eq,List.contains_iff_mem]at p3;obtain⟨a,b,a',b',rfl⟩:=C6 p3.2;have hw:Ai wdM (.cons a b (.cons a' b' .nil))=[(a,A6 wdM a (Ai wdM b)),(a',A6 wdM a' (Ai wdM b'))]:=rfl;rw[hw]at g ⊢;simp only;obtain⟨c,hc,hq⟩:=(LE.opd (h:=a) (g (a,A6 wdM a (Ai wdM b)) (by simp))).q;obtain⟨c2,hc2,hq2⟩:=(LE.opd (h:=a') (g (a',A6 wdM a' (Ai wdM b')) (by simp))).q;obtain⟨c3,p,hl,_,hp⟩:=LP.op p3.1;have ho:LQ (sgn h.s) c3 p:=⟨_,_,rfl,hl⟩;exact LE.on (LE.opd (h:=a) (g (a,A6 wdM a (Ai wdM b)) (by simp))) hc (hq.cat (LQ.bl.cat (ho.cat (LQ.bl.cat hq2.last rfl) hp) rfl) (by decide))
 rw[if_neg e5]at p3;rw[if_neg e5];by_cases e6:h.op=6
 ·rw[if_pos e6]at p3;rw[if_pos e6];simp only[Bool.and_eq_true,beq_iff_eq]at p3;obtain⟨a,b,a',b',rfl⟩:=C6 p3.2;have hw:Ai wdM (.cons a b (.cons a' b' .nil))=[(a,A6 wdM a (Ai wdM b)),(a',A6 wdM a' (Ai wdM b'))]:=rfl;rw[hw]at g ⊢;simp only;obtain⟨c,hc,hq⟩:=(LE.opd (h:=a) (g (a,A6 wdM a (Ai wdM b)) (by simp))).q;obtain⟨c2,hc2,hq2⟩:=(g (a',A6 wdM a' (Ai wdM b')) (by simp)).q;exact LE.on (LE.opd (h:=a) (g (a,A6 wdM a (Ai wdM b)) (by simp))) hc (hq.cat (LQ.lsq.cat (hq2.cat LQ.rsq.last (by decide)) rfl).any (by decide))
 rw[if_neg e6]at p3;rw[if_neg e6];have brace:∀{w:OW}{c:UInt8}{p:UInt8→Bool},LQ w c p→(c==125||c==94)=false→LQ (A9 (sgn [123]) w) 123 p:=fun h hc=>LQ.cat (p:=fun b=>b==125||b==94) ⟨_,_,rfl,LP.brace⟩ h hc;by_cases e7:h.op=7
 ·rw[if_pos e7]at p3;rw[if_pos e7];simp only[Bool.and_eq_true,decide_eq_true_eq]at p3;have hn:(Ai wdM k).map (·.2)≠[]:=by
   intro e;have:=congrArg List.length e;rw[List.length_map,LK]at this;simp at this;omega
  obtain⟨c2,hc2,hq2⟩:=(EL hm hn).q;exact LQ.e (by decide) (by decide) (brace (hq2.cat LQ.rbr.last (by decide)) (Gp hc2).2).any
 rw[if_neg e7]at p3;rw[if_neg e7];by_cases e8:h.op=8
 ·rw[if_pos e8]at p3;rw[if_pos e8];simp only[Bool.and_eq_true,beq_iff_eq]at p3;obtain⟨a,b,rfl⟩:=B9 p3.1.2;have hw:Ai wdM (.cons a b .nil)=[(a,A6 wdM a (Ai wdM b))]:=rfl;rw[hw]at g ⊢;simp only;obtain⟨c,hc,hq⟩:=(g (a,A6 wdM a (Ai wdM b)) (by simp)).q;have h1:LQ (Af [sgn [124],AY,A6 wdM a (Ai wdM b),sgn [125]]) 124 Bf:=LQ.bar.cat (LQ.bl.cat (hq.cat LQ.rbr.last (by decide)) rfl) rfl;by_cases hp:h.p=[]
  ·rw[hp];have h2:LQ (Af [Bi (([]:List Bs).map nmW),sgn [124],AY,A6 wdM a (Ai wdM b),sgn [125]]) 124 Bf:=LQ.nil (s:=[]) h1 rfl;exact LQ.e (by decide) (by decide) (brace (LQ.bar.cat h2 rfl) (by decide)).any
  ·have h2 : LE (Bi (h.p.map nmW)) := EL (fun w hw => by
    obtain⟨x,hx,rfl⟩:=List.mem_map.1 hw;exact GF (List.all_eq_true.1 p3.2 x hx)) (by simpa using hp)
   obtain⟨c2,hc2,hq2⟩:=h2.q;exact LQ.e (by decide) (by decide) (brace (LQ.bar.cat (hq2.cat h1 (by decide)) rfl) (by decide)).any
 rw[if_neg e8]at p3;rw[if_neg e8];have amp:∀{w:OW}{c:UInt8},LQ w c Au→(c==38)=false→LE (A9 (sgn [38]) w):=fun{w}{c} h hc=>by
  obtain⟨t,u,e,hl⟩:=LQ.cat (p:=(· ==38)) ⟨_,_,rfl,LP.amp⟩ h hc;obtain⟨t2,u2,rfl,⟨r,hr⟩,_⟩:=h;cases e;refine⟨_,_,38,rfl,by decide,?_,hl⟩;rw[hr];intro v q e;simp at e;simp[e.1]at hc
 by_cases e9:h.op=9
 ·rw[if_pos e9]at p3;rw[if_pos e9];simp only[Bool.and_eq_true,Bool.or_eq_true,beq_iff_eq,List.isEmpty_iff]at p3;rcases p3 with⟨hs,hn⟩| ⟨hs,hn⟩
  ·rw[C5 hn];have hw:Ai wdM .nil=[]:=rfl;rw[hw];simp only;obtain⟨c,hc,hq⟩:=LQ.nm hs;have h38:(c==38)=false:=by
    rw[beq_eq_false_iff_ne];rintro rfl;exact absurd hc (by decide)
   exact amp (hq.cat LQ.dot.last (by decide)) h38
  ·obtain⟨a,b,rfl⟩:=B9 hn;have hw:Ai wdM (.cons a b .nil)=[(a,A6 wdM a (Ai wdM b))]:=rfl;rw[hw]at g ⊢;simp only;have h1:=(g (a,A6 wdM a (Ai wdM b)) (by simp)).closed;exact amp h1.last.any (by decide)
 rw[if_neg e9]at p3;cases p3
theorem N7:∀f:Fo,okF f=true→LRow (Ai wdM f):=by
 intro f;induction f with
 |nil=>intro _ x hx;cases hx
 | cons h k n ihk ihn=>
   intro ho x hx;simp only[okF,Bool.and_eq_true]at ho;rcases List.mem_cons.1 hx with rfl|hx
   ·exact GG ho.1.1 ho.1.2 (ihk ho.1.2)
   ·exact ihn ho.2 x hx
theorem I4{x:Ex}(ho:okX x=true):∃t l,exW wdM x=some (t,Aw wdM x)∧Cw (Aw wdM x)= .ok l∧D2 l (t++[⟨5,0,[]⟩]):=by
 have ho':=ho;unfold okX at ho;rw[Bool.and_eq_true]at ho;obtain⟨t,e⟩:=MZ wdM_ok.toC3 ho';obtain⟨t',u,c,e',hc,has,⟨r,hr⟩,hl⟩:=GG ho.1 ho.2 (N7 _ ho.2);have e2:some (t,Aw wdM x)=some (t',u):=e.symm.trans e';cases e2;obtain⟨k,ts,hk,hts,hlex⟩:=hl (Aw wdM x) 0 ⟨[],by simp⟩ (by intro d hd;simp at hd);rw[Nat.zero_add]at hlex hk;have hb:Bx (Aw wdM x) 0 (c::r):=⟨[],by rw[←hr];simp⟩;obtain⟨_,_,_,n42,n10,n32,n9,n59⟩:=GN c hc;have h3:cls 3 c=false:=by
  have:=C8 (fun c=>!cls 3 c||c==32||c==9) (by decide+kernel) c;cases e3:cls 3 c with
  |false=>rfl
  |true=>rw[e3]at this;simp at this;rcases this with h|h;exact absurd h n32;exact absurd h n9
 refine⟨t,ts++[⟨5,(Aw wdM x).length,[]⟩],e,?_,?_⟩
 ·have hlen:0<(Aw wdM x).length:=hb.lt;have hst:A5 (Aw wdM x) 0 false=A5 (Aw wdM x) 0 true:=by
   have e1:∀line,A5 (Aw wdM x) 0 line=if B2 (Aw wdM x) 0=true then(match Bc (Aw wdM x) 0 with
    |some k=> .bad k
    |none=> .again (Ah (Aw wdM x) 0) line)else AP (Aw wdM x) 0:=by
    intro line;unfold A5;rw[if_neg (by omega),hb.head,if_neg n10,if_neg (by rw[h3];simp)];have h42:(c==42)=false:=by simpa using n42
    rw[h42,Bool.false_and,Bool.false_or];split<;>first|rfl| (rw[if_neg n59])
   have ha:B2 (Aw wdM x) 0=false:=by
    cases e2:B2 (Aw wdM x) 0 with
    |false=>rfl
    | true=>
      exfalso;unfold B2 at e2;rw[List.drop_zero,List.isPrefixOf_iff_prefix]at e2;obtain⟨q,hq⟩:=e2;exact has [] q (by rw[List.append_nil,←hq];rfl)
   rw[e1,e1,ha];rfl
  unfold Cw;have hfirst:AO (Aw wdM x) (2*(Aw wdM x).length+1) 0 false=AO (Aw wdM x) (2*(Aw wdM x).length+1) 0 true:=by
   rw[AO,AO,hst]
  rw[hfirst,show 2*(Aw wdM x).length+1=(2*(Aw wdM x).length-1-k+2)+k by omega,hlex];have hend:∀n,AO (Aw wdM x) (n+2) (Aw wdM x).length true= .ok [⟨5,(Aw wdM x).length,[]⟩]:=by
   intro n;have s1:A5 (Aw wdM x) (Aw wdM x).length true= .tok ⟨5,(Aw wdM x).length,[]⟩ (Aw wdM x).length false:=by
    unfold A5;rw[if_pos (Nat.le_refl _)];rfl
   have s2:A5 (Aw wdM x) (Aw wdM x).length false= .stop:=by
    unfold A5;rw[if_pos (Nat.le_refl _)];rfl
   rw[AO,s1];show(AO _ (n+1) _ false).cons _=_;rw[AO,s2];rfl
  rw[hend];rfl
 ·unfold D2 at*;rw[List.map_append,List.map_append,hts];rfl
end Go.Proofs.YtgjdhajcnechdaaGreatDoor
