/-
  It is proved that the law TreeParses answers true for all values and leaves them as they were, where the listed variables of Go's library hold what the program's text lays; and the tied card.
-/
import Derived.Test.YtmcajbhljbbglaaGreatDoorSpF
import Derived.Test.YtmcajbhljbbglaaGreatDoorSp47
import Derived.Test.YtmcajbhljbbglaaGreatDoorSp44
import Derived.Test.YtmcajbhljbbglaaGreatDoorSp01
import Derived.Test.YtmcajbhljbbglaaGreatDoorCards
import Derived.Test.YtmcajbhljbbglaaGreatDoorTie
import Derived.ProofKit
import Derived.OpenShut
import Derived.Carry
import Derived.Lay
import Derived.LaidOnce
import Derived.SevenTiedAt
set_option linter.all false
namespace Go.Proofs.YtmcajbhljbbglaaGreatDoor
open Go.Proofs.Tryz
open Go.ChangeShapes Go.WideShapes Go.ChangeAt Go.RowKit Go.Lib
open Go.ChangeMaps (open_string shut_string)
theorem own:ownKnob Tryz.prog.godebug=none:=by kernel_rfl
theorem laidOut:laidOutB Tryz.prog=true:=by kernel_rfl
theorem tabs_of_row{W:World}(h:laidMet Tryz.prog Rows.treeParsesRow.laid W):Tabs W.heap.size W:=by
 have e1:Rows.laid_unicode_utf8_first=firstData:=Pinned.utf8First_eq
 have e2:Rows.laid_unicode_utf8_acceptRanges (H:=Unit)=acceptData:=by kernel_rfl
 have e3:Rows.laid_unicode_CaseRanges=caseData:=Pinned.caseRanges_eq
 have e4:Rows.laid_strings_asciiSpace (H:=Unit)=Lib.tabData .u8 Lib.asciiSpaceTab:=by kernel_rfl
 refine nW h (d:=Rows.laid_math_bits_deBruijn64tab) (e1 ▸ ?_) (e2 ▸ ?_) (e3 ▸ ?_) (e4 ▸ ?_) ?_
 ·exact .tail _ (.tail _ (.tail _ (.tail _ (.tail _ (.tail _ (.tail _ (.tail _ (.tail _ (.head _)))))))))
 ·exact .tail _ (.tail _ (.tail _ (.head _)))
 ·exact .tail _ (.tail _ (.tail _ (.tail _ (.tail _ (.tail _ (.tail _ (.tail _ (.head _))))))))
 ·exact .tail _ (.tail _ (.tail _ (.tail _ (.tail _ (.tail _ (.tail _ (.head _)))))))
 ·exact .tail _ (.head _)
set_option maxRecDepth 100000 in
theorem parses_contract(H:Type)(enc:TypeId×Value→H)(W:World)(base:Nat)(args:Array Value)(ds gs:List (DataW H))(before:List MemPlace)
 (hval0:∀(j:Nat) t v,Tryz.f4.params[j]? =some t→args[j]? =some v→Value.okWide Tryz.prog W .any base t v)
 (hW:DataW.Whole enc Tryz.prog Tryz.f4.params.toList Rows.treeParsesSpec.vars false W args.toList ds gs before) (hL:laidMetH Tryz.prog Rows.treeParsesRow.laid W):
 Calls Tryz.prog 4 args W fun e W'=>∃v,e= .returned v∧Rows.treeParsesSpec.post enc Tryz.prog Tryz.f4 false true false false W args v W':=by
 have hlt:∀p∈before,p.block<W.heap.size:=fun p hp=>hW.lt p hp
 have hW':=hW
 obtain⟨p,q,hA0,hV,rfl,_,_⟩:=hW
 have hA:DataW.TrodAll enc Tryz.prog W 0 (fun _=>true) true Tryz.f4.params.toList args.toList ds p:=hA0
 rw[Tryz.params4]at hA hval0
 obtain⟨v0,d0,rfl,rfl,h0⟩:=trodAll_one hA
 obtain⟨rfl,rfl⟩:=trodVars_none hV
 rw[MakeChecks.laidMetH_plain _ _ _ (by kernel_rfl)]at hL
 obtain⟨s,rfl,rfl,rfl,hs⟩:=open_string underlying9 (hval0 0 9 v0 rfl rfl) h0
 clear hA0 hval0
 simp only[List.append_nil]at hW' hlt
 obtain⟨⟨l⟩⟩:=s
 refine(kJ (tabs_of_row hL) l).mono fun e W' ⟨he,hg⟩=>?_
 subst he
 have hb:Below W.heap.size W W':=PB hg
 exact⟨_,rfl,_,_,_,[],_,[],hW',trodAll_mk1 (shut_bool underlying4 _),trodAll_mk1 (shut_string underlying9 hs),rfl,hb.frame _,fun h=>by cases h⟩
set_option maxRecDepth 100000 in
theorem parses_lifted(os:Os)(started:os.Started)(H:Type)(enc:TypeId×Value→H):
 ReturnsInHanded {} Tryz.checked os 4 .any (fun w args=>(Rows.treeParsesSpec.pre enc Tryz.prog Tryz.f4 [] false w args∧laidMetH Tryz.prog Rows.treeParsesRow.laid w)∧sizedMet enc Tryz.prog Tryz.f4 (OpenSpec.ofChange Rows.treeParsesSpec) false w args)
  (Rows.treeParsesSpec.post enc Tryz.prog Tryz.f4 false true false false):=by
 refine returnsInHanded_of_change_and (C:=Tryz.checked) (X:=fun w _=>laidMetH Tryz.prog Rows.treeParsesRow.laid w) (fun _ _ _ hh h=>h.of_heap hh) own started (by kernel_rfl) Tryz.func4
  (ChangeSpec.witness_shaped (enc:=enc) (C:=Tryz.checked) (os:=os) (X:=fun w _=>laidMetH Tryz.prog Rows.treeParsesRow.laid w) false (World.laidAll Tryz.prog os Rows.treeParsesRow.laid) #[.string ⟨#[]⟩] 8 (World.laidAll_os _ _ _)
   (World.shaped_of_ZipB (by kernel_rfl) (by kernel_rfl)) (by kernel_rfl) (by kernel_rfl) (by kernel_rfl)
   (by rw[MakeChecks.laidMetH_plain _ _ _ (by kernel_rfl)];exact laidMet_laidAll _ (by kernel_rfl) (by kernel_rfl))) ?_
 intro W base args ds gs before hval0 hW _ _ hL _
 exact parses_contract H enc W base args ds gs before hval0 hW hL
theorem parses_said:Rows.TreeParsesSaid:=
 OpenClaim.holds_of_wide 4 Tryz.f4 rfl rfl rfl rfl rfl rfl rfl ⟨rfl,rfl,rfl,rfl,rfl⟩ rfl rfl rfl rfl rfl (by kernel_rfl) Tryz.func4 lS
  (of_decide_eq_true (by kernel_rfl)) (by unfold Func.isWrapper;first| (rw[if_pos (by decide+kernel)];kernel_rfl)| (rw[if_neg (by decide+kernel)];exact⟨rfl,rfl⟩))
  (fun os started H enc _=>parses_lifted os started H enc)
theorem parses_plain (f : FuncId) (fn : Func) (hf : Tryz.pinned.checked.prog.funcNamed "cabinetry/cabinetrylaw06.TreeParses" = some f) (hfn : Tryz.pinned.checked.prog.funcs[f]? = some fn) :
 true=Tryz.pinned.checked.prog.looks []∧∀(j:Nat) t,fn.params[j]? =some t→Tryz.pinned.checked.prog.wantsStandIn t=false:=by
 obtain rfl : f = 4 := Option.some.inj ((show Tryz.prog.funcNamed "cabinetry/cabinetrylaw06.TreeParses" = some 4 by kernel_rfl).symm.trans hf) |>.symm
 obtain rfl:fn=Tryz.f4:=(Option.some.inj (Tryz.func4.symm.trans hfn)).symm
 refine⟨by kernel_rfl,fun j t ht=>?_⟩
 rw[Tryz.params4]at ht
 have hm:t∈[9]:=by simpa using Array.mem_of_getElem? ht
 have hall:([9].all fun u=>!Tryz.prog.wantsStandIn u)=true:=by kernel_rfl
 exact(show Tryz.prog.wantsStandIn t=false by simpa using List.all_eq_true.1 hall t hm)
theorem treeParses_card:Rows.TreeParsesCardSaid:=
 Claim7.holds_tied_plain_at .later [] _ _ _ _ parses_said (fun _ h=>by cases h) (by kernel_rfl) (fun _ h=>by cases h) treeParses_row_tie rfl ⟨rfl,rfl⟩ (by kernel_rfl) rfl parses_plain (by kernel_rfl)
#print axioms treeParses_card
end Go.Proofs.YtmcajbhljbbglaaGreatDoor
