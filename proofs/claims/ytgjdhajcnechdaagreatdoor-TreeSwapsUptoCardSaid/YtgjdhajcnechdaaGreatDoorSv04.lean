/-
  Contracts of the parser: levels, operator, binary. Plain laws of a map of texts that a literal writes. Plain laws of the grammar: a reading goes on, stays within the tokens, and its fuel suffices.
-/
import Derived.Test.YtgjdhajcnechdaaGreatDoorSv02
import Derived.MapKept
import Derived.WideMake
set_option linter.all false
set_option maxRecDepth 100000
set_option maxHeartbeats 8000000
namespace Go.Proofs.YtgjdhajcnechdaaGreatDoor
open Go.Proofs.Tryz
open Go.RowKit
theorem Rk(a b:Bs):((⟨a.toArray⟩:ByteArray)==⟨b.toArray⟩)=(a==b):=by
 rw[Bool.eq_iff_iff];show((⟨a.toArray⟩:ByteArray).data==(⟨b.toArray⟩:ByteArray).data)=true↔_;simp
def AS:List (Bs×Bs)→Nat→List MapEntry
 | [],_=>[]
 | (k,v)::l,n=>{key:=str k,val:=str v,born:=n}::AS l (n+1)
def B7(l:List (Bs×Bs)):Obj:= .map (AS l 0).toArray l.length
theorem Mz(l:List (Bs×Bs))(k v:Bs):∀n,AS (l++[(k,v)]) n=AS l n++[{key:=str k,val:=str v,born:=n+l.length}]:=by
 induction l with
 |nil=>intro n;simp[AS]
 |cons x l ih=>intro n;obtain⟨a,b⟩:=x;simp[AS,ih,Nat.add_assoc,Nat.add_comm 1]
def C9(s:Bs):List (Bs×Bs)→Nat→Option (Nat×Value)
 | [],_=>none
 | (k,v)::l,i=>if s==k then some (i,str v)else C9 s l (i+1)
theorem Hb(s:Bs)(l:List (Bs×Bs)):∀n i,Instr.findNow .string (str s) (AS l n) i=some (C9 s l i):=by
 induction l with
 |nil=>intro n i;simp[AS,Instr.findNow,C9]
 | cons x l ih=>
   intro n i;obtain⟨a,b⟩:=x;simp only[AS,Instr.findNow,Instr.sameNow,Rk,C9];cases h:s==a
   ·simp[ih]
   ·simp
def DL(k:Bs):List (Bs×Bs)→Prop
 | []=>True
 |x::l=>k≠x.1∧DL k l
theorem Mg(k:Bs):DL k []:=trivial
theorem La(k a b:Bs)(l:List (Bs×Bs)):DL k ((a,b)::l)=(k≠a∧DL k l):=rfl
theorem Mu(k:Bs)(l:List (Bs×Bs))(hf:DL k l):∀i,C9 k l i=none:=by
 induction l with
 |nil=>intro i;rfl
 | cons x l ih=>
   intro i;simp only[C9];rw[if_neg (by simpa using hf.1)];exact ih hf.2 _
theorem K4(l:List (Bs×Bs)):∀n,(AS l n).length=l.length:=by
 induction l with
 |nil=>intro n;rfl
 |cons x l ih=>intro n;obtain⟨a,b⟩:=x;simp[AS,ih]
theorem Kf(w:World)(o o':Obj):(w.heap.push o).setIfInBounds w.heap.size o'=w.heap.push o':=by
 have h:∀(l:List Obj)(o o':Obj),(l++[o]).set l.length o'=l++[o']:=by
  intro l;induction l with
  |nil=>intro o o';rfl
  |cons x l ih=>intro o o';simp[ih]
 apply Array.toList_inj.1;have:=h w.heap.toList o o';simpa using this
theorem QI{P:Program}{mty kt et:TypeId}(hm:P.underlying mty=some (.map kt et))(hk:P.underlying kt=some .string)(w:World)(l:List (Bs×Bs))(r:Nat)(hr:r=w.heap.size)(k v:Bs)(hf:DL k l):
 (Instr.mapUpdate mty (.map (some r)) (str k) (str v)).run P (w.alloc (B7 l))= .ok () (w.alloc (B7 (l++[(k,v)]))):=by
 subst hr;have hb:(w.alloc (B7 l)).heap[w.heap.size]? =some (.map (AS l 0).toArray l.length):=heap_alloc_new w _;have hf:Instr.findNow .string (str k) (AS l 0) 0=some none:=by rw[Hb,Mu k l hf]
 have hc:(Instr.checkKey false 10000 kt (str k)).run P (w.alloc (B7 l))= .ok () (w.alloc (B7 l)):=MapKept.run_checkKey (k:=str k) hk (by simp[MapKept.IsKey]) false 9999;simp[Instr.mapUpdate,run_underlying hm,MapKept.run_getObj_map hb,hc,MapKept.run_findKey hk hf,MapKept.run_setObj_map _ hb,Result.andThen];have e:=Kf w (B7 l) (B7 (l++[(k,v)]));have e2:(Obj.map (AS l 0++[({key:=str k,val:=str v,born:=l.length}:MapEntry)]).toArray (l.length+1))=B7 (l++[(k,v)]):=by simp[B7,Mz]
 rw[e2];show({w with heap:=(w.heap.push (B7 l)).setIfInBounds w.heap.size (B7 (l++[(k,v)]))}:World)={w with heap:=w.heap.push (B7 (l++[(k,v)]))};rw[e]
theorem Km{P:Program}{mty kt et:TypeId}(hm:P.underlying mty=some (.map kt et))(hk:P.underlying kt=some .string)(w:World)(l:List (Bs×Bs))(r:Nat)(hb:w.heap[r]? =some (B7 l))(k:Bs)(z:Value)(hz:(zeroValue et).run P w= .ok z w):
 (Instr.lookup mty (.map (some r)) (str k) false).run P w= .ok (match C9 k l 0 with|some (_,v)=>v|none=>z) w:=by
 have hb':w.heap[r]? =some (.map (AS l 0).toArray l.length):=hb;have hf:Instr.findNow .string (str k) (AS l 0) 0=some (C9 k l 0):=by rw[Hb]
 have hc:∀e,(Instr.checkKey e 10000 kt (str k)).run P w= .ok () w:=fun e=>MapKept.run_checkKey (k:=str k) hk (by simp[MapKept.IsKey]) e 9999;cases h:C9 k l 0 with
 |none=>simp[Instr.lookup,run_underlying hm,MapKept.run_getObj_map hb',hc,MapKept.run_findKey hk hf,Result.andThen,h,hz]
 |some x=>simp[Instr.lookup,run_underlying hm,MapKept.run_getObj_map hb',hc,MapKept.run_findKey hk hf,Result.andThen,h]
theorem RT(w:World):(Instr.makeMap 187 none).run Tryz.prog w= .ok (.map (some w.heap.size)) (w.alloc (B7 [])):=run_makeMap_plain w _
theorem QY(w:World)(l:List (Bs×Bs))(r:Nat)(hr:r=w.heap.size)(k v:Bs)(hf:DL k l):
 (Instr.mapUpdate 187 (.map (some r)) (.string ⟨k.toArray⟩) (.string ⟨v.toArray⟩)).run Tryz.prog (w.alloc (B7 l))= .ok () (w.alloc (B7 (l++[(k,v)]))):=
 QI underlying187 underlying9 w l r hr k v hf
theorem D3(w:World)(o:Obj)(n:Nat)(h:n=w.heap.size):(w.alloc o).heap[n]? =some o:=by subst h;exact heap_alloc_new w o
theorem Eg(w:World)(o o':Obj)(n:Nat)(h:w.heap[n]? =some o'):(w.alloc o).heap[n]? =some o':=(Below.heap_alloc w o n (Array.getElem?_eq_some_iff.1 h).1).trans h
def Lvls(w:World)(m:Nat):Prop:=∀k,k<6→w.heap[m+k]? =some (B7 (lvl k))
theorem FX(w:World):Calls Tryz.prog 171 #[] w fun e w'=>∃m,e= .returned (.agg #[.map (some m),.map (some (m+1)),.map (some (m+2)),.map (some (m+3)),.map (some (m+4)),.map (some (m+5))])∧Lvls w' m∧w.grownBy w' none:=by
 have hmm:=RT;have hup:=QY;have hfn:=Mg;have hfc:=La;go_enter func171,ntmps171;go_wp2;clear hmm hup hfn hfc;refine bodyPost_ret (v:= .agg #[.map (some (w.heap.size+1)),.map (some (w.heap.size+1+1)),.map (some (w.heap.size+1+1+1)),.map (some (w.heap.size+1+1+1+1)),.map (some (w.heap.size+1+1+1+1+1)),.map (some (w.heap.size+1+1+1+1+1+1))]) ?_ rfl ⟨w.heap.size+1,rfl,?_,?_⟩
 ·simp[results,results171,go_sem]
 ·intro k hk;match k,hk with
  | 0, _ => iterate 5 refine Eg _ _ _ _ ?_
            exact D3 _ _ _ (by simp)
  | 1, _ => iterate 4 refine Eg _ _ _ _ ?_
            exact D3 _ _ _ (by simp)
  | 2, _ => iterate 3 refine Eg _ _ _ _ ?_
            exact D3 _ _ _ (by simp)
  | 3, _ => iterate 2 refine Eg _ _ _ _ ?_
            exact D3 _ _ _ (by simp)
  | 4, _ => iterate 1 refine Eg _ _ _ _ ?_
            exact D3 _ _ _ (by simp)
  | 5,_=>exact D3 _ _ _ (by simp)
 ·exact (by repeat(first| (with_reducible exact Ac _ _)| (with_reducible assumption)| (with_reducible exact AU (by assumption))| (with_reducible refine Ad ?_ _)| (with_reducible refine Am ?_)| (with_reducible refine A3 ?_ _)| ((with_reducible refine Ay ?_ _ _ ?h2);case h2=>first|exact .inl rfl|exact .inr (Nat.le_refl _)|exact .inr (by simp<;>omega))| (with_reducible refine Ah ?_ (by assumption))| (with_reducible refine Aa ?_ (by assumption))))
theorem Qo(w:World):(zeroValue 9).run Tryz.prog w= .ok (str []) w:=by kernel_rfl
theorem K3(s:Bs)(l:List (Bs×Bs)):∀i,(match C9 s l i with|some (_,v)=>v|none=>str [])=str ((l.lookup s).getD []):=by
 induction l with
 |nil=>intro i;rfl
 | cons x l ih=>
   intro i;obtain⟨a,b⟩:=x;simp only[C9,List.lookup_cons];cases s==a
   ·simpa using ih (i+1)
   ·rfl
theorem If{w:World}{m:Nat}(h:Lvls w m)(k:Nat)(hk:k<6)(s:Bs):(Instr.lookup 187 (.map (some (m+k))) (str s) false).run Tryz.prog w= .ok (str (Cj k s)) w:=by
 rw[Km underlying187 underlying9 w (lvl k) (m+k) (h k hk) s (str []) (Qo w),K3];rfl
theorem Js(m k:Nat)(hk:k<6)(w:World):(Instr.index 188 (.agg #[.map (some m),.map (some (m+1)),.map (some (m+2)),.map (some (m+3)),.map (some (m+4)),.map (some (m+5))]) (.int .i64 k)).run Tryz.prog w= .ok (.map (some (m+k))) w:=by
 have h6:k=0∨k=1∨k=2∨k=3∨k=4∨k=5:=by omega
 rcases h6 with rfl|rfl|rfl|rfl|rfl|rfl<;>(show _=_;kernel_rfl)
theorem P3{l:List Tok}{k i:Nat}(h:Av l k i≠[]):i<l.length:=by
 apply D6;intro e;apply h;simp[Av,e]
theorem EW{w:World}{b:Nat}{tv wv:Value}{l:List Tok}{wl:List Bs}{i:Nat}(h:Par w b tv wv l wl i)(k:Nat)(hk:k<6):
 Calls Tryz.prog 159 #[.pointer (some ⟨b,0,none⟩),.int .i64 k] w fun e w'=>e= .returned (str (Av l k i))∧w.grownBy w' (some b)∧Par w' b tv wv l wl (Er (Av l k i) i):=by
 by_cases hs:(Ab l i).kind=4
 ·have ho:Av l k i=Cj k (Ab l i).text:=by simp[Av,hs]
  have hl:Cj k (Ab l i).text≠[]→i<l.length:=fun e=>P3 (by rw[ho];exact e);rw[ho];have H:=O hs;clear ho hs;have HL:=O hl;clear hl;have hix:=fun m=>Js m k hk;have hf:=h.few;generalize hO:Cj k (Ab l i).text=o at*;have HO:=O hO;clear hO;cases o with
  | nil=>
    go_enter func159,ntmps159;go_wp2_with fail;refine(BZ h).mono ?_;rintro e w1 ⟨rfl,g1⟩;rw[AY,H.out];have h1:=h.gbN g1;go_wp2_with fail;go_region_with(go_at_call 171;refine(FX _).mono ?_;rintro e w2 ⟨m,rfl,hm,g2⟩;have hlk:=If hm k hk (Ab l i).text;rw[HO.out]at hlk;have ct:w2.cell? ⟨w1.heap.size,2,none⟩=some (str (Ab l i).text):=Af g2 (by simp));all_goals
     go_wp2;go_ret;refine⟨rfl,(by repeat(first| (with_reducible exact Ac _ _)| (with_reducible assumption)| (with_reducible exact AU (by assumption))| (with_reducible refine Ad ?_ _)| (with_reducible refine Am ?_)| (with_reducible refine A3 ?_ _)| ((with_reducible refine Ay ?_ _ _ ?h2);case h2=>first|exact .inl rfl|exact .inr (Nat.le_refl _)|exact .inr (by simp<;>omega))| (with_reducible refine Ah ?_ (by assumption))| (with_reducible refine Aa ?_ (by assumption)))),?_⟩;rw[CH];exact h.gbN (by repeat(first| (with_reducible exact Ac _ _)| (with_reducible assumption)| (with_reducible exact AU (by assumption))| (with_reducible refine Ad ?_ _)| (with_reducible refine Am ?_)| (with_reducible refine A3 ?_ _)| ((with_reducible refine Ay ?_ _ _ ?h2);case h2=>first|exact .inl rfl|exact .inr (Nat.le_refl _)|exact .inr (by simp<;>omega))| (with_reducible refine Ah ?_ (by assumption))| (with_reducible refine Aa ?_ (by assumption))))
  | cons c o=>
    have hi:i<l.length:=HL.out (by simp);go_enter func159,ntmps159;go_wp2_with fail;refine(BZ h).mono ?_;rintro e w1 ⟨rfl,g1⟩;rw[AY,H.out];have h1:=h.gbN g1;go_wp2_with fail;go_region_with(go_at_call 171;refine(FX _).mono ?_;rintro e w2 ⟨m,rfl,hm,g2⟩;have hlk:=If hm k hk (Ab l i).text;rw[HO.out]at hlk;have ct:w2.cell? ⟨w1.heap.size,2,none⟩=some (str (Ab l i).text):=Af g2 (by simp);have h2:Par w2 b tv wv l wl i:=h.gbN (by repeat(first| (with_reducible exact Ac _ _)| (with_reducible assumption)| (with_reducible exact AU (by assumption))| (with_reducible refine Ad ?_ _)| (with_reducible refine Am ?_)| (with_reducible refine A3 ?_ _)| ((with_reducible refine Ay ?_ _ _ ?h2);case h2=>first|exact .inl rfl|exact .inr (Nat.le_refl _)|exact .inr (by simp<;>omega))| (with_reducible refine Ah ?_ (by assumption))| (with_reducible refine Aa ?_ (by assumption))));have c1:=h2.c1;have f1:=h2.f1);all_goals
     go_wp2;go_ret;refine⟨rfl,(by repeat(first| (with_reducible exact Ac _ _)| (with_reducible assumption)| (with_reducible exact AU (by assumption))| (with_reducible refine Ad ?_ _)| (with_reducible refine Am ?_)| (with_reducible refine A3 ?_ _)| ((with_reducible refine Ay ?_ _ _ ?h2);case h2=>first|exact .inl rfl|exact .inr (Nat.le_refl _)|exact .inr (by simp<;>omega))| (with_reducible refine Ah ?_ (by assumption))| (with_reducible refine Aa ?_ (by assumption)))),?_⟩;rw[CV (by simp)];exact h2.goI _ _ (by omega) (by omega)
 ·have hs':((Ab l i).kind==4)=false:=by simpa using hs
  have ho:Av l k i=[]:=by simp[Av,hs]
  rw[ho];clear ho hs;go_enter func159,ntmps159;go_wp2_with fail;refine(BZ h).mono ?_;rintro e w1 ⟨rfl,g1⟩;go_wp2;go_ret;refine⟨rfl,(by repeat(first| (with_reducible exact Ac _ _)| (with_reducible assumption)| (with_reducible exact AU (by assumption))| (with_reducible refine Ad ?_ _)| (with_reducible refine Am ?_)| (with_reducible refine A3 ?_ _)| ((with_reducible refine Ay ?_ _ _ ?h2);case h2=>first|exact .inl rfl|exact .inr (Nat.le_refl _)|exact .inr (by simp<;>omega))| (with_reducible refine Ah ?_ (by assumption))| (with_reducible refine Aa ?_ (by assumption)))),?_⟩;show Par _ b tv wv l wl i;exact h.gbN (by repeat(first| (with_reducible exact Ac _ _)| (with_reducible assumption)| (with_reducible exact AU (by assumption))| (with_reducible refine Ad ?_ _)| (with_reducible refine Am ?_)| (with_reducible refine A3 ?_ _)| ((with_reducible refine Ay ?_ _ _ ?h2);case h2=>first|exact .inl rfl|exact .inr (Nat.le_refl _)|exact .inr (by simp<;>omega))| (with_reducible refine Ah ?_ (by assumption))| (with_reducible refine Aa ?_ (by assumption))))
def Fine{α:Type}(o:Prop)(L i:Nat):Res α→Prop
 | .ok _ j=>i<j∧j≤L
 | .bad _=>True
 | .out=>¬o
theorem Fine.bind{α β:Type}{o:Prop}{L i:Nat}{r:Res α}{f:α→Nat→Res β}(h:Fine o L i r)(hf:∀a j,r= .ok a j→i<j→j≤L→Fine o L i (f a j)):Fine o L i (r.bind f):=by
 cases r with
 |ok a j=>exact hf a j rfl h.1 h.2
 |bad k=>trivial
 |out=>exact h
theorem Fine.mono{α:Type}{o:Prop}{L i i':Nat}{r:Res α}(h:Fine o L i' r)(hi:i≤i'):Fine o L i r:=by
 cases r with
 |ok a j=>exact⟨by have:=h.1;omega,h.2⟩
 |bad k=>trivial
 |out=>exact h
theorem Fine.weak{α:Type}{o o':Prop}{L i:Nat}{r:Res α}(h:Fine o' L i r)(ho:o→o'):Fine o L i r:=by
 cases r with
 |ok a j=>exact h
 |bad k=>trivial
 |out=>exact fun k=>h (ho k)
theorem Fine.bind'{α β:Type}{o:Prop}{L i i':Nat}{r:Res α}{f:α→Nat→Res β}(hi:i≤i')(h:Fine o L i' r)(hf:∀a j,r= .ok a j→i'<j→j≤L→Fine o L i (f a j)):Fine o L i (r.bind f):=by
 cases r with
 |ok a j=>exact hf a j rfl h.1 h.2
 |bad k=>trivial
 |out=>exact h
section
variable {l:List Tok}{o:Prop}{i:Nat}
theorem EE{j:Nat}(h:(Ab l j).kind ≠ -1):j<l.length:=by
 by_cases hi:j<l.length
 ·exact hi
 ·exact absurd (by simp[Ab,List.getElem?_eq_none (Nat.le_of_not_lt hi)]) h
theorem B6{j:Nat}{s:Bs}(h:Ae (Ab l j) s=true):j<l.length:=by
 apply EE;simp[Ae]at h;omega
theorem GI{j k:Nat}(h:(Av l k j).isEmpty≠true):j<l.length:=by
 apply EE;intro e;apply h;simp[Av,e]
theorem CI(s:Bs)(q:Nat):Fine o l.length q (Ba l s q):=by
 unfold Ba;split
 ·rename_i h;exact⟨by omega,B6 h⟩
 ·trivial
theorem PW(q:Nat):Fine o l.length q (C2 l q):=by
 unfold C2;split
 ·rename_i h;exact⟨by omega,EE (by simp at h;omega)⟩
 ·trivial
theorem D9(q:Nat):Fine o l.length q (AT l q):=by
 unfold AT;split
 ·rename_i h;exact⟨by omega,EE (by simp at h;omega)⟩
 ·trivial
theorem K6{k:Nat}{opnd:Nat→Res Ex}(h:∀q,i≤q→Fine o l.length q (opnd q)):∀n x j,i<j→j≤l.length→(o→l.length-j+1≤n)→Fine o l.length i (BJ l k opnd n x j):=by
 intro n;induction n with
 |zero=>intro x j h1 h2 h3 ho;have:=h3 ho;omega
 | succ n ih=>
   intro x j h1 h2 h3;unfold BJ;split
   ·exact⟨h1,h2⟩
   ·rename_i he;have:=GI he;refine Fine.bind' (i':=j+1) (by omega) (h _ (by omega)) fun y q _ hq hl=>ih _ _ (by omega) hl fun ho=>by have:=h3 ho;omega
theorem Fg{k n:Nat}{opnd:Nat→Res Ex}(h:∀q,i≤q→Fine o l.length q (opnd q))(hn:o→l.length-i≤n):∀q,i≤q→Fine o l.length q (AK l k n opnd q):=by
 intro q hq;exact Fine.bind (h q hq) fun x j _ hj hl=>(K6 (i:=q) (fun p hp=>h p (by omega)) n x j hj hl fun ho=>by have:=hn ho;omega)
theorem Ov{n:Nat}{pow:Nat→Res Ex}(h:∀q,i≤q→Fine o l.length q (pow q))(hn:o→l.length-i≤n):∀q,i≤q→Fine o l.length q (C4 l n pow q):=
 Fg (Fg h hn) hn
theorem NO{un:Nat→Res Ex}(h:∀q,i≤q→Fine o l.length q (un q)):∀n q,i≤q→(o→l.length-q+1≤n)→Fine o l.length q (AV l un n q):=by
 intro n;induction n with
 |zero=>intro q hq hn ho;have:=hn ho;omega
 | succ n ih=>
   intro q hq hn;unfold AV;refine Fine.bind (h q hq) fun x j _ hj hl=>?_;split
   ·exact⟨hj,hl⟩
   ·rename_i he;have:=GI he;exact Fine.bind' (i':=j+1) (by omega) (ih _ (by omega) fun ho=>by have:=hn ho;omega) fun y k _ hk hl=>⟨by omega,hl⟩
theorem NE{sum:Nat→Res Ex}(h:∀q,i≤q→Fine o l.length q (sum q)):∀n q,i≤q→(o→l.length-q+1≤n)→Fine o l.length q (Bd l sum n q):=by
 intro n;induction n with
 |zero=>intro q hq hn ho;have:=hn ho;omega
 | succ n ih=>
   intro q hq hn;unfold Bd;split
   ·rename_i hs;have hlt:q<l.length:=by
     rw[Bool.or_eq_true]at hs;rcases hs with h|h
     ·exact B6 h
     ·exact B6 h
    exact Fine.bind' (i':=q+1) (by omega) (ih _ (by omega) fun ho=>by have:=hn ho;omega) fun y k _ hk hl=>⟨by omega,hl⟩
   ·refine Fine.bind (h q hq) fun x j _ hj hl=>?_;split
    ·exact⟨hj,hl⟩
    ·rename_i he;have:=GI he;exact Fine.bind' (i':=j+1) (by omega) (h _ (by omega)) fun y k _ hk hl=>⟨by omega,hl⟩
theorem Ku{E:Nat→Res Ex}(h:i<l.length→∀q,i<q→Fine o l.length q (E q)):∀n x j,i<j→j≤l.length→(o→l.length-j+1≤n)→Fine o l.length i (B4 l E n x j):=by
 intro n;induction n with
 |zero=>intro x j h1 h2 h3 ho;have:=h3 ho;omega
 | succ n ih=>
   intro x j h1 h2 h3;unfold B4;split
   ·rename_i hs;have:=B6 hs;refine Fine.bind' (i':=j+1) (by omega) (h (by omega) _ (by omega)) fun y q _ hq hl=>?_;refine Fine.bind' (i':=q) (by omega) (CI _ _) fun _ k _ hk hl=>ih _ _ (by omega) hl fun ho=>by have:=h3 ho;omega
   ·exact⟨h1,h2⟩
theorem L8{E prim:Nat→Res Ex}(hE:i<l.length→∀q,i<q→Fine o l.length q (E q))(hP:∀q,i≤q→Fine o l.length q (prim q)):∀n q,i≤q→(o→l.length-q+1≤n)→Fine o l.length q (Bi l E prim n q):=by
 intro n;induction n with
 |zero=>intro q hq hn ho;have:=hn ho;omega
 | succ n ih=>
   intro q hq hn;unfold Bi;split
   ·rename_i hs;have:=B6 hs;exact Fine.bind' (i':=q+1) (by omega) (ih _ (by omega) fun ho=>by have:=hn ho;omega) fun y k _ hk hl=>⟨by omega,hl⟩
   ·refine Fine.bind (hP q hq) fun x j _ hj hl=>?_;exact Ku (i:=q) (fun _ p hp=>hE (by omega) p (by omega)) n x j hj hl fun ho=>by have:=hn ho;omega
theorem K7{E:Nat→Res Ex}(h:∀q,i<q→Fine o l.length q (E q)):∀n f j,i<j→j≤l.length→(o→l.length-j+1≤n)→Fine o l.length i (BK l E n f j):=by
 intro n;induction n with
 |zero=>intro x j h1 h2 h3 ho;have:=h3 ho;omega
 | succ n ih=>
   intro x j h1 h2 h3;unfold BK;split
   ·rename_i hs;have:=B6 hs;refine Fine.bind' (i':=j+1) (by omega) (h _ (by omega)) fun y q _ hq hl=>ih _ _ (by omega) hl fun ho=>by have:=h3 ho;omega
   ·exact⟨h1,h2⟩
theorem Ic{E:Nat→Res Ex}{n:Nat}(h:∀q,i≤q→Fine o l.length q (E q))(hn:o→l.length-i≤n):Fine o l.length i (Ch l E n i):=by
 refine Fine.bind (h i (Nat.le_refl _)) fun x j _ hj hl=>K7 (fun q hq=>h q (by omega)) n _ j hj hl fun ho=>by have:=hn ho;omega
theorem Kk:∀n f j,i<j→j≤l.length→(o→l.length-j+1≤n)→Fine o l.length i (BN l n f j):=by
 intro n;induction n with
 |zero=>intro x j h1 h2 h3 ho;have:=h3 ho;omega
 | succ n ih=>
   intro x j h1 h2 h3;unfold BN;split
   ·rename_i hs;have:=B6 hs;refine Fine.bind' (i':=j+1) (by omega) (D9 _) fun y q _ hq hl=>ih _ _ (by omega) hl fun ho=>by have:=h3 ho;omega
   ·exact⟨h1,h2⟩
theorem LQ{n:Nat}(hn:o→l.length-i≤n):Fine o l.length i (Ck l n i):=
 Fine.bind (D9 _) fun x j _ hj hl=>Kk n _ j hj hl fun ho=>by have:=hn ho;omega
theorem LZ{E:Nat→Res Ex}{n:Nat}(hE:i<l.length→∀q,i<q→Fine o l.length q (E q))(hn:o→l.length-i≤n):Fine o l.length i (Cs l E n i):=by
 unfold Cs;refine Fine.bind (D9 _) fun s j _ hj hl=>Fine.bind' (i':=j) (by omega) (CI _ _) fun _ k _ hk hl2=>?_;split
 ·rename_i hs;have:=B6 hs;exact⟨by omega,this⟩
 ·refine Fine.bind' (i':=k) (by omega) (Ic (fun q hq=>hE (by omega) q (by omega)) fun ho=>by have:=hn ho;omega) fun f p _ hp hl3=>?_;exact Fine.bind' (i':=p) (by omega) (CI _ _) fun _ k _ hk hl2=>⟨by omega,hl2⟩
theorem LO{E:Nat→Res Ex}(hE:i<l.length→∀q,i<q→Fine o l.length q (E q)):Fine o l.length i (Cb l E i):=by
 unfold Cb;refine Fine.bind (CI _ _) fun s j _ hj hl=>?_;split
 ·rename_i hs;have:=B6 hs;refine Fine.bind' (i':=j+1) (by omega) (hE (by omega) _ (by omega)) fun f p _ hp hl3=>?_;exact Fine.bind' (i':=p) (by omega) (CI _ _) fun _ k _ hk hl2=>⟨by omega,hl2⟩
 ·refine Fine.bind' (i':=j) (by omega) (D9 _) fun s p _ hp hl3=>?_;split
  ·rename_i hs;have:=B6 hs;exact⟨by omega,this⟩
  ·exact⟨by omega,hl3⟩
theorem Kr{E:Nat→Res Ex}{n:Nat}(hE:∀q,i≤q→Fine o l.length q (E q))(hn:o→l.length-i≤n):Fine o l.length i (Cc l E n i):=by
 unfold Cc;split
 ·rename_i hs;have hi:=B6 hs;have h1:Fine o l.length (i+1) (if Ae (Ab l (i+1)) [124]then(.ok [] (i+2):Res (List Bs))else(Ck l n (i+1)).bind fun p j=>(Ba l [124] j).bind fun _ j=> .ok p j):=by
   split
   ·rename_i hs2;have:=B6 hs2;exact⟨by omega,this⟩
   ·refine Fine.bind (LQ fun ho=>by have:=hn ho;omega) fun p j _ hj hl=>?_;exact Fine.bind' (i':=j) (by omega) (CI _ _) fun _ k _ hk hl2=>⟨by omega,hl2⟩
  refine Fine.bind' (i':=i+1) (by omega) h1 fun p j _ hj hl=>?_;refine Fine.bind' (i':=j) (by omega) (hE _ (by omega)) fun f p _ hp hl3=>?_;exact Fine.bind' (i':=p) (by omega) (CI _ _) fun _ k _ hk hl2=>⟨by omega,hl2⟩
 ·refine Fine.bind (Ic hE hn) fun f p _ hp hl3=>?_;exact Fine.bind' (i':=p) (by omega) (CI _ _) fun _ k _ hk hl2=>⟨by omega,hl2⟩
theorem Lk{E:Nat→Res Ex}{n:Nat}(hE:i<l.length→∀q,i<q→Fine o l.length q (E q))(hn:o→l.length-i≤n):Fine o l.length i (Bv l E n i):=by
 unfold Bv;split
 ·exact LO hE
 split
 ·rename_i hs;have:=B6 hs;exact⟨by omega,this⟩
 split
 ·rename_i hs;have:=B6 hs;exact⟨by omega,this⟩
 split
 ·rename_i hs;have:=B6 hs;exact⟨by omega,this⟩
 split
 ·rename_i hs;have:=B6 hs;refine Fine.bind' (i':=i+1) (by omega) (hE (by omega) _ (by omega)) fun f p _ hp hl3=>?_;exact Fine.bind' (i':=p) (by omega) (CI _ _) fun _ k _ hk hl2=>⟨by omega,hl2⟩
 split
 ·rename_i hs;have:=B6 hs;exact Fine.bind' (i':=i+1) (by omega) (D9 _) fun s p _ hp hl3=>⟨by omega,hl3⟩
 split
 ·rename_i hs;have:=B6 hs;exact(Kr (i:=i+1) (fun q hq=>hE (by omega) q (by omega)) fun ho=>by have:=hn ho;omega).mono (by omega)
 ·trivial
theorem LP{E:Nat→Res Ex}{n:Nat}(hE:i<l.length→∀q,i<q→Fine o l.length q (E q))(hn:o→l.length-i≤n):Fine o l.length i (BH l E n i):=by
 unfold BH;split
 ·exact LZ hE hn
 refine Fine.bind (D9 _) fun s j _ hj hl=>?_;split
 ·rename_i hs;have:=B6 hs;split
  ·rename_i hs;have:=B6 hs;refine Fine.bind' (i':=j+2) (by omega) (hE (by omega) _ (by omega)) fun f p _ hp hl3=>?_;exact Fine.bind' (i':=p) (by omega) (CI _ _) fun _ k _ hk hl2=>⟨by omega,hl2⟩
  ·exact Fine.bind' (i':=j+1) (by omega) (D9 _) fun s p _ hp hl3=>⟨by omega,hl3⟩
 ·exact⟨hj,hl⟩
theorem Nb{day:Bs→Int}{E:Nat→Res Ex}{n:Nat}(hE:i<l.length→∀q,i<q→Fine o l.length q (E q))(hn:o→l.length-i≤n):Fine o l.length i (AZ l day E n i):=by
 unfold AZ;have hk:∀k:Int,((Ab l i).kind==k)=true→k ≠ -1→i<l.length:=fun k h1 h2=>EE (by simp at h1;omega);split
 ·rename_i h;exact⟨by omega,hk 1 h (by decide)⟩
 split
 ·rename_i h;split
  ·trivial
  ·exact⟨by omega,hk 2 h (by decide)⟩
 split
 ·rename_i h;exact⟨by omega,hk 3 h (by decide)⟩
 split
 ·exact LP hE hn
 ·exact Lk hE hn
theorem FV(day:Bs→Int):∀n q,Fine (l.length-q+2≤n) l.length q (A8 l day n q):=by
 intro n;induction n with
 |zero=>intro q ho;omega
 | succ n ih=>
   intro q;have hE:q<l.length→∀p,q<p→Fine (l.length-q+2≤n+1) l.length p (A8 l day n p):=fun hq p hp=>(ih p).weak fun ho=>by omega
   have hn:(l.length-q+2≤n+1)→l.length-q≤n:=fun h=>by omega
   have h1:∀p,q≤p→Fine (l.length-q+2≤n+1) l.length p (AZ l day (A8 l day n) n p):=fun p hp=>Nb (fun h r hr=>hE (by omega) r (by omega)) fun ho=>by have:=hn ho;omega
   have h2:∀p,q≤p→Fine (l.length-q+2≤n+1) l.length p (Bi l (A8 l day n) (AZ l day (A8 l day n) n) n p):=fun p hp=>L8 hE h1 n p hp fun ho=>by omega
   have h3:=fun p (hp:q≤p)=>NO h2 n p hp fun ho=>by omega
   have h4:=Ov (n:=n) h3 hn;have h5:=fun p (hp:q≤p)=>NE h4 n p hp fun ho=>by omega
   unfold A8;exact Fg (Fg h5 hn) hn q (Nat.le_refl _)
end
end Go.Proofs.YtgjdhajcnechdaaGreatDoor
