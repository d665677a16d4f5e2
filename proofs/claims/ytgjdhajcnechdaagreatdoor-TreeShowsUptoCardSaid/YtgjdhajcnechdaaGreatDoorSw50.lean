/-
  It is proved that the law TreeShows answers true for all values whose bulk is at most 1048576 and leaves them as they were, where the listed variables of Go's library hold what the program's text lays; and the tied card.
-/
import Derived.Test.YtgjdhajcnechdaaGreatDoorSw49
import Derived.Test.YtgjdhajcnechdaaGreatDoorSw22
import Derived.Test.YtgjdhajcnechdaaGreatDoorSw47
import Derived.Test.YtgjdhajcnechdaaGreatDoorSw01
import Derived.Test.YtgjdhajcnechdaaGreatDoorCards
import Derived.Test.YtgjdhajcnechdaaGreatDoorTie
import Derived.ProofKit
import Derived.OpenShut
import Derived.Carry
import Derived.Lay
import Derived.LaidOnce
import Derived.SevenTiedAt
import Derived.Deep.DeepHandedRow
set_option linter.all false
namespace Go.Proofs.YtgjdhajcnechdaaGreatDoor
open Go.Proofs.Tryz
open Go.ChangeShapes Go.WideShapes Go.ChangeAt Go.RowKit Go.Lib
theorem own:ownKnob Tryz.prog.godebug=none:=by kernel_rfl
theorem laidOut:laidOutB Tryz.prog=true:=by kernel_rfl
theorem tabs_of_row{W:World}(h:laidMet Tryz.prog Rows.treeShowsUptoRow.laid W):Tabs W.heap.size W∧Pow W:=by
 have e1:Rows.laid_unicode_utf8_first=firstData:=Pinned.utf8First_eq
 have e2:Rows.laid_unicode_utf8_acceptRanges (H:=Unit)=acceptData:=by kernel_rfl
 have e3:Rows.laid_unicode_CaseRanges=caseData:=Pinned.caseRanges_eq
 have e4:Rows.laid_strings_asciiSpace (H:=Unit)=Lib.tabData .u8 Lib.asciiSpaceTab:=by kernel_rfl
 have e5:Rows.laid_internal_strconv_uint64pow10 (H:=Unit)=Lib.tabData .u64 Lib.pow10Tab:=by kernel_rfl
 refine⟨Lu h (d:=Rows.laid_strconv_ErrRange) (e1 ▸ ?_) (e2 ▸ ?_) (e3 ▸ ?_) (e4 ▸ ?_) ?_,?_⟩
 ·exact .tail _ (.tail _ (.tail _ (.tail _ (.tail _ (.tail _ (.tail _ (.tail _ (.tail _ (.head _)))))))))
 ·exact .tail _ (.tail _ (.tail _ (.head _)))
 ·exact .tail _ (.tail _ (.tail _ (.tail _ (.tail _ (.tail _ (.tail _ (.tail _ (.head _))))))))
 ·exact .tail _ (.tail _ (.tail _ (.tail _ (.tail _ (.tail _ (.tail _ (.head _)))))))
 ·exact .tail _ (.tail _ (.tail _ (.tail _ (.head _))))
 ·refine Ia Ki (t:=254) (e:=166) (n:=20) (by kernel_rfl) underlying254 underlying166 (by kernel_rfl) (by kernel_rfl) (laidMet.reads h (e5 ▸ ?_))
  exact .tail _ (.tail _ (.head _))
set_option maxRecDepth 100000 in
theorem shows_contract(H:Type)(enc:TypeId×Value→H)(W:World)(base:Nat)(args:Array Value)(ds gs:List (DataW H))(before:List MemPlace)
 (hval0:∀(j:Nat) t v,Tryz.f5.params[j]? =some t→args[j]? =some v→Value.okWide Tryz.prog W .any base t v)
 (hW:DataW.Whole enc Tryz.prog Tryz.f5.params.toList Rows.treeShowsSpec.vars false W args.toList ds gs before) (hk:Rows.uptoSmall H (ds++gs)=true) (hL:laidMetH Tryz.prog Rows.treeShowsUptoRow.laid W):
 Calls Tryz.prog 5 args W fun e W'=>∃v,e= .returned v∧Rows.treeShowsSpec.post enc Tryz.prog Tryz.f5 false true false false W args v W':=by
 have hlt:∀p∈before,p.block<W.heap.size:=fun p hp=>hW.lt p hp
 have hW':=hW
 obtain⟨p,q,hA0,hV,rfl,_,_⟩:=hW
 have hA:DataW.TrodAll enc Tryz.prog W 0 (fun _=>true) true Tryz.f5.params.toList args.toList ds p:=hA0
 rw[Tryz.params5]at hA hval0
 obtain⟨v0,vs0,d0,ds0,p0,q0,hargs,rfl,rfl,h0,r0⟩:=trodAll_cons hA
 obtain⟨rfl,rfl,rfl⟩:=trodAll_nil r0
 obtain rfl:args=#[v0]:=by cases args;simp_all
 obtain⟨rfl,rfl⟩:=trodVars_none hV
 rw[MakeChecks.laidMetH_plain _ _ _ (by kernel_rfl)]at hL
 obtain⟨x,hx,hb⟩:=Tq (hval0 0 27 v0 rfl rfl) h0
 have hbd:Rows.uptoBulkAll ([d0]++[])≤1048576:=of_decide_eq_true hk
 simp only[List.append_nil,Rows.uptoBulkAll]at hbd
 obtain⟨f1,f2,f3⟩:=Ny hb (by omega)
 simp only[List.append_nil]at hW' hlt
 obtain⟨ht,hp⟩:=tabs_of_row hL
 refine(KJ ht hp hx f1 f2 f3 (LE hb (by omega))).mono fun e W' ⟨he,hg⟩=>?_
 subst he
 have hb:Below W.heap.size W W':=JA hg
 exact⟨_,rfl,_,_,_,[],_,[],hW',trodAll_mk1 (shut_bool underlying4 _),
  trodAll_cons_mk (Below.trod laidOut (by kernel_rfl) (of_decide_eq_true (by kernel_rfl)) h0 hb hlt) trodAll_mk0,rfl,hb.frame _,fun h=>by cases h⟩
abbrev wit0:Value:= .agg #[.int .i64 0,.string ⟨#[]⟩,.int .i64 0,.int .i64 0,.string ⟨#[]⟩,.slice none 0 0,.slice none 0 0]
theorem shows_reads(os:Os){H:Type}(enc:TypeId×Value→H):∃places,DataW.whole enc Tryz.prog ((World.laidAll Tryz.prog os Rows.treeShowsUptoRow.laid).forCall (fun _ _=>0) ⟨#[],#[wit0],[]⟩).memory Tryz.f5.params.toList Rows.treeShowsSpec.vars false #[wit0].toList 8=some ([.agg [.lit (.int .i64 0),.lit (.string []),.agg [.lit (.int .i64 0),.lit (.int .i64 0),.lit (.string [])],.nil,.nil]],[],places):=
 ⟨[],by kernel_rfl⟩
theorem witness_of_row{H:Type}{enc:TypeId×Value→H}{C:Checked}{os:Os}{f:FuncId}{fn:Func}{s:OpenSpec}{conds:List PathCond}{apart:Bool}{laid:List (String×DataW Unit)}(w0:World)(args:Array Value)(hos:w0.os=os)
 (hsh:(w0.forCall (fun _ _=>0) ⟨#[],args,[]⟩).Shaped C.prog) (hok:Input.okWideB C.prog (w0.forCall (fun _ _=>0) ⟨#[],args,[]⟩) f ⟨#[],args,[]⟩=true)
 (hrow:s.preRow enc C.prog fn conds apart laid (w0.forCall (fun _ _=>0) ⟨#[],args,[]⟩).memory args):
 ∃(w:World)(tape:Tape)(i:Input),w.os=os∧(w.forCall tape i).Shaped C.prog∧i.vars=[]∧Input.okWide C.prog (w.forCall tape i) .any w.heap.size f i∧
  s.preRow enc C.prog fn conds apart laid (w.forCall tape i).memory i.args∧({}:Assume).holds C.prog (lone (Frame.enter C.prog f i.args .normal) [] (w.forCall tape i)):=
 ⟨w0,fun _ _=>0,⟨#[],args,[]⟩,hos,hsh,(Input.okWide_of_okWideB (base:=0) hok).1,(Input.okWide_of_okWideB hok).2,hrow,by simp[Assume.holds]⟩
set_option maxRecDepth 100000 in
theorem shows_lifted(os:Os)(started:os.Started)(H:Type)(enc:TypeId×Value→H)(F:Stop.Interp):
 ReturnsInHanded {} Tryz.checked os 5 .any ((Rows.OpenSpec.upto Rows.treeShowsSpec).preRow enc Tryz.prog Tryz.f5 Rows.treeShowsUptoRow.domain false Rows.treeShowsUptoRow.laid) (((Rows.OpenSpec.upto Rows.treeShowsSpec).at F).post enc Tryz.prog Tryz.f5 false true false false):=by
 obtain⟨places,hx⟩:=shows_reads os enc
 refine returnsInHanded_of_row (C:=Tryz.checked) (s:=Rows.OpenSpec.upto Rows.treeShowsSpec) own started (by kernel_rfl) Tryz.func5
  (witness_of_row (World.laidAll Tryz.prog os Rows.treeShowsUptoRow.laid) #[wit0] (World.laidAll_os _ _ _) (World.shaped_of_ZipB (by kernel_rfl) (by kernel_rfl)) (by kernel_rfl)
   (OpenSpec.preRow_of_cond 8 hx (by kernel_rfl) (fun k hk=>by cases hk;kernel_rfl) (by kernel_rfl) (by rw[MakeChecks.laidMetH_plain _ _ _ (by kernel_rfl)];exact laidMet_laidAll _ (by kernel_rfl) (by kernel_rfl)))) ?_
 intro W base args ds gs before hval hW _ hcond _ hL _ _
 exact shows_contract H enc W base args ds gs before hval hW (hcond _ rfl) hL
theorem shows_said:Rows.TreeShowsUptoSaid:=
 OpenClaim.holds_of_cond 5 Tryz.f5 rfl rfl rfl rfl rfl rfl rfl ⟨rfl,rfl,rfl,rfl,rfl⟩ rfl rfl rfl rfl rfl (by kernel_rfl) Tryz.func5 M1
  (of_decide_eq_true (by kernel_rfl)) (by unfold Func.isWrapper;first| (rw[if_pos (by decide+kernel)];kernel_rfl)| (rw[if_neg (by decide+kernel)];exact⟨rfl,rfl⟩))
  (fun os started H enc _ F=>by rw[OpenClaim.pre_eq_preRow];exact shows_lifted os started H enc F)
theorem shows_plain (f : FuncId) (fn : Func) (hf : Tryz.pinned.checked.prog.funcNamed "cabinetry/cabinetrylaw06.TreeShows" = some f) (hfn : Tryz.pinned.checked.prog.funcs[f]? = some fn) :
 true=Tryz.pinned.checked.prog.looks []∧∀(j:Nat) t,fn.params[j]? =some t→Tryz.pinned.checked.prog.wantsStandIn t=false:=by
 obtain rfl : f = 5 := Option.some.inj ((show Tryz.prog.funcNamed "cabinetry/cabinetrylaw06.TreeShows" = some 5 by kernel_rfl).symm.trans hf) |>.symm
 obtain rfl:fn=Tryz.f5:=(Option.some.inj (Tryz.func5.symm.trans hfn)).symm
 refine⟨by kernel_rfl,fun j t ht=>?_⟩
 rw[Tryz.params5]at ht
 have hm:t∈[27]:=by simpa using Array.mem_of_getElem? ht
 have hall:([27].all fun u=>!Tryz.prog.wantsStandIn u)=true:=by kernel_rfl
 exact(show Tryz.prog.wantsStandIn t=false by simpa using List.all_eq_true.1 hall t hm)
theorem treeShows_card:Rows.TreeShowsUptoCardSaid:=
 Claim7.holds_tied_plain_at .later [] _ _ _ _ shows_said (fun _ h=>by cases h) (by kernel_rfl) (fun _ h=>by cases h) treeShowsUpto_row_tie rfl ⟨rfl,rfl⟩ (by kernel_rfl) rfl shows_plain (by kernel_rfl)
#print axioms treeShows_card
end Go.Proofs.YtgjdhajcnechdaaGreatDoor
