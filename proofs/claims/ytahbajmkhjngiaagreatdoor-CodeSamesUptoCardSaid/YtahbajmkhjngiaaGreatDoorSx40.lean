/-
  It is proved that the law CodeSames answers true for all codes whose bulk is at most 1048576 and leaves them as they were, where the listed variables of Go's library hold what the program's text lays; and the tied card.
-/
import Derived.Test.YtahbajmkhjngiaaGreatDoorSx39
import Derived.Test.YtahbajmkhjngiaaGreatDoorSx25
import Derived.Test.YtahbajmkhjngiaaGreatDoorSx03
import Derived.Test.YtahbajmkhjngiaaGreatDoorCards
import Derived.Test.YtahbajmkhjngiaaGreatDoorTie
import Derived.Lib.LaidTab
import Derived.Lib.LaidU8
import Derived.ProofKit
import Derived.OpenShut
import Derived.Carry
import Derived.Lay
import Derived.LaidOnce
import Derived.SevenTiedAt
import Derived.Deep.DeepHandedRow
set_option linter.all false
namespace Go.Proofs.YtahbajmkhjngiaaGreatDoor
open Go.Proofs.Tryz
open Go.ChangeShapes Go.WideShapes Go.ChangeAt Go.RowKit Go.Lib
theorem tabIs_of_reads{P:Program}{W:World}{name:String}{k:IntKind}{zs:List Int}{g:Nat}{t e:TypeId}{n:Nat}
 (hg:P.globalNamed name=some g) (hty:(P.globals[g]?).map (·.type)=some t) (ht:P.underlying t=some (.array n e)) (he:P.underlying e=some (.int k)) (hce:P.cellsOf e=1) (hct:P.cellsOf t=n)
 (h:VarReads P W name (tabData k zs)):TabIs P W name k zs:=by
 obtain⟨g',t',cs,fuel,p,hg',ht',hvar,hd⟩:=h
 obtain rfl:=Option.some.inj (hg.symm.trans hg')
 obtain rfl:=Option.some.inj (hty.symm.trans ht')
 unfold TabIs
 rw[hvar,←cells_of_tab ht he hce hct hd]
theorem own:ownKnob Tryz.prog.godebug=none:=by kernel_rfl
theorem laidOut:laidOutB Tryz.prog=true:=by kernel_rfl
theorem pow_of_row{W:World}(h:laidMet Tryz.prog Rows.codeSamesUptoRow.laid W):Pow W:=by
 have e5:Rows.laid_internal_strconv_uint64pow10 (H:=Unit)=Lib.tabData .u64 Lib.pow10Tab:=by kernel_rfl
 refine tabIs_of_reads Bx (t:=208) (e:=154) (n:=20) (by kernel_rfl) underlying208 underlying154 (by kernel_rfl) (by kernel_rfl) (laidMet.reads h (e5 ▸ ?_))
 exact .tail _ (.tail _ (.head _))
set_option maxRecDepth 100000 in
theorem same_contract(H:Type)(enc:TypeId×Value→H)(W:World)(base:Nat)(args:Array Value)(ds gs:List (DataW H))(before:List MemPlace)
 (hval0:∀(j:Nat) t v,Tryz.f3.params[j]? =some t→args[j]? =some v→Value.okWide Tryz.prog W .any base t v)
 (hW:DataW.Whole enc Tryz.prog Tryz.f3.params.toList Rows.codeSamesSpec.vars false W args.toList ds gs before) (hk:Rows.uptoSmall H (ds++gs)=true) (hL:laidMetH Tryz.prog Rows.codeSamesUptoRow.laid W):
 Calls Tryz.prog 3 args W fun e W'=>∃v,e= .returned v∧Rows.codeSamesSpec.post enc Tryz.prog Tryz.f3 false true false false W args v W':=by
 have hlt:∀p∈before,p.block<W.heap.size:=fun p hp=>hW.lt p hp
 have hW':=hW
 obtain⟨p,q,hA0,hV,rfl,_,_⟩:=hW
 have hA:DataW.TrodAll enc Tryz.prog W 0 (fun _=>true) true Tryz.f3.params.toList args.toList ds p:=hA0
 rw[Tryz.params3]at hA hval0
 obtain⟨v0,vs0,d0,ds0,p0,q0,hargs,rfl,rfl,h0,r0⟩:=trodAll_cons hA
 obtain⟨v1,vs1,d1,ds1,p1,q1,rfl,rfl,rfl,h1,r1⟩:=trodAll_cons r0
 obtain⟨rfl,rfl,rfl⟩:=trodAll_nil r1
 obtain rfl:args=#[v0,v1]:=by cases args;simp_all
 obtain⟨rfl,rfl⟩:=trodVars_none hV
 rw[MakeChecks.laidMetH_plain _ _ _ (by kernel_rfl)]at hL
 obtain⟨us,hx,hwx,hb⟩:=BR (hval0 0 22 v0 rfl rfl) h0
 obtain⟨vs,hy,hwy,hby⟩:=BR (hval0 1 22 v1 rfl rfl) h1
 have hbd:Rows.uptoBulkAll ([d0,d1]++[])≤1048576:=of_decide_eq_true hk
 simp only[List.append_nil,Rows.uptoBulkAll]at hbd
 simp only[List.append_nil]at hW' hlt
 refine(CY hx hy (by omega) (by omega) hwx (pow_of_row hL)).mono fun e W' ⟨he,hg⟩=>?_
 subst he
 have hb:Below W.heap.size W W':=BT hg
 have hl0:∀z∈p0,z.block<W.heap.size:=fun z hz=>hlt z (by simp[hz])
 have hl1:∀z∈p1,z.block<W.heap.size:=fun z hz=>hlt z (by simp[hz])
 exact⟨_,rfl,_,_,_,[],_,[],hW',trodAll_mk1 (shut_bool underlying4 _),
  trodAll_cons_mk (Below.trod laidOut (by kernel_rfl) (of_decide_eq_true (by kernel_rfl)) h0 hb hl0) (trodAll_cons_mk (Below.trod laidOut (by kernel_rfl) (of_decide_eq_true (by kernel_rfl)) h1 hb hl1) trodAll_mk0),rfl,hb.frame _,fun h=>by cases h⟩
abbrev wit0:Value:= .slice none 0 0
theorem same_reads(os:Os){H:Type}(enc:TypeId×Value→H):∃places,DataW.whole enc Tryz.prog ((World.laidAll Tryz.prog os Rows.codeSamesUptoRow.laid).forCall (fun _ _=>0) ⟨#[],#[wit0,wit0],[]⟩).memory Tryz.f3.params.toList Rows.codeSamesSpec.vars false #[wit0,wit0].toList 8=some ([.nil,.nil],[],places):=
 ⟨[],by kernel_rfl⟩
theorem witness_of_row{H:Type}{enc:TypeId×Value→H}{C:Checked}{os:Os}{f:FuncId}{fn:Func}{s:OpenSpec}{conds:List PathCond}{apart:Bool}{laid:List (String×DataW Unit)}(w0:World)(args:Array Value)(hos:w0.os=os)
 (hsh:(w0.forCall (fun _ _=>0) ⟨#[],args,[]⟩).Shaped C.prog) (hok:Input.okWideB C.prog (w0.forCall (fun _ _=>0) ⟨#[],args,[]⟩) f ⟨#[],args,[]⟩=true)
 (hrow:s.preRow enc C.prog fn conds apart laid (w0.forCall (fun _ _=>0) ⟨#[],args,[]⟩).memory args):
 ∃(w:World)(tape:Tape)(i:Input),w.os=os∧(w.forCall tape i).Shaped C.prog∧i.vars=[]∧Input.okWide C.prog (w.forCall tape i) .any w.heap.size f i∧
  s.preRow enc C.prog fn conds apart laid (w.forCall tape i).memory i.args∧({}:Assume).holds C.prog (lone (Frame.enter C.prog f i.args .normal) [] (w.forCall tape i)):=
 ⟨w0,fun _ _=>0,⟨#[],args,[]⟩,hos,hsh,(Input.okWide_of_okWideB (base:=0) hok).1,(Input.okWide_of_okWideB hok).2,hrow,by simp[Assume.holds]⟩
set_option maxRecDepth 100000 in
theorem same_lifted(os:Os)(started:os.Started)(H:Type)(enc:TypeId×Value→H)(F:Stop.Interp):
 ReturnsInHanded {} Tryz.checked os 3 .any ((Rows.OpenSpec.upto Rows.codeSamesSpec).preRow enc Tryz.prog Tryz.f3 Rows.codeSamesUptoRow.domain false Rows.codeSamesUptoRow.laid) (((Rows.OpenSpec.upto Rows.codeSamesSpec).at F).post enc Tryz.prog Tryz.f3 false true false false):=by
 obtain⟨places,hx⟩:=same_reads os enc
 refine returnsInHanded_of_row (C:=Tryz.checked) (s:=Rows.OpenSpec.upto Rows.codeSamesSpec) own started (by kernel_rfl) Tryz.func3
  (witness_of_row (World.laidAll Tryz.prog os Rows.codeSamesUptoRow.laid) #[wit0,wit0] (World.laidAll_os _ _ _) (World.shaped_of_ZipB (by kernel_rfl) (by kernel_rfl)) (by kernel_rfl)
   (OpenSpec.preRow_of_cond 8 hx (by kernel_rfl) (fun k hk=>by cases hk;kernel_rfl) (by kernel_rfl) (by rw[MakeChecks.laidMetH_plain _ _ _ (by kernel_rfl)];exact laidMet_laidAll _ (by kernel_rfl) (by kernel_rfl)))) ?_
 intro W base args ds gs before hval hW _ hcond _ hL _ _
 exact same_contract H enc W base args ds gs before hval hW (hcond _ rfl) hL
theorem same_said:Rows.CodeSamesUptoSaid:=
 OpenClaim.holds_of_cond 3 Tryz.f3 rfl rfl rfl rfl rfl rfl rfl ⟨rfl,rfl,rfl,rfl,rfl⟩ rfl rfl rfl rfl rfl (by kernel_rfl) Tryz.func3 CB
  (of_decide_eq_true (by kernel_rfl)) (by unfold Func.isWrapper;first| (rw[if_pos (by decide+kernel)];kernel_rfl)| (rw[if_neg (by decide+kernel)];exact⟨rfl,rfl⟩))
  (fun os started H enc _ F=>by rw[OpenClaim.pre_eq_preRow];exact same_lifted os started H enc F)
theorem same_plain (f : FuncId) (fn : Func) (hf : Tryz.pinned.checked.prog.funcNamed "cabinetry/cabinetrylaw22.CodeSames" = some f) (hfn : Tryz.pinned.checked.prog.funcs[f]? = some fn) :
 true=Tryz.pinned.checked.prog.looks []∧∀(j:Nat) t,fn.params[j]? =some t→Tryz.pinned.checked.prog.wantsStandIn t=false:=by
 obtain rfl : f = 3 := Option.some.inj ((show Tryz.prog.funcNamed "cabinetry/cabinetrylaw22.CodeSames" = some 3 by kernel_rfl).symm.trans hf) |>.symm
 obtain rfl:fn=Tryz.f3:=(Option.some.inj (Tryz.func3.symm.trans hfn)).symm
 refine⟨by kernel_rfl,fun j t ht=>?_⟩
 rw[Tryz.params3]at ht
 have hm:t∈[22,22]:=by simpa using Array.mem_of_getElem? ht
 have hall:([22,22].all fun u=>!Tryz.prog.wantsStandIn u)=true:=by kernel_rfl
 exact(show Tryz.prog.wantsStandIn t=false by simpa using List.all_eq_true.1 hall t hm)
theorem codeSames_card:Rows.CodeSamesUptoCardSaid:=
 Claim7.holds_tied_plain_at .later [] _ _ _ _ same_said (fun _ h=>by cases h) (by kernel_rfl) (fun _ h=>by cases h) codeSamesUpto_row_tie rfl ⟨rfl,rfl⟩ (by kernel_rfl) rfl same_plain (by kernel_rfl)
#print axioms codeSames_card
end Go.Proofs.YtahbajmkhjngiaaGreatDoor
