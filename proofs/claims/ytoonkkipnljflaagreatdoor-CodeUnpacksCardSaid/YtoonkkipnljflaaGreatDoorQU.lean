/- The statement on CodeUnpacks: the row and its card. Conditions: none. -/
import Derived.Test.YtoonkkipnljflaaGreatDoorA5
import Derived.Test.YtoonkkipnljflaaGreatDoorQL
import Derived.Test.YtoonkkipnljflaaGreatDoorRows
import Derived.Test.YtoonkkipnljflaaGreatDoorCards
import Derived.Test.YtoonkkipnljflaaGreatDoorTie
import Derived.WalkKit
import Derived.ProofKit
import Derived.OpenShut
import Derived.ShutString
import Derived.ChangeMaps5
import Derived.ChangeOld
import Derived.Below
import Derived.SizedLaws
import Derived.MakeChecks
import Derived.Lay
import Derived.LaidOnce
import Derived.LaidSub
import Derived.LaidMore
import Derived.SevenTiedAt
import Derived.Deep.DeepHandedRow
import Derived.Lib.LaidTab
import Derived.Shelf.Vars
namespace Go.Proofs.YtoonkkipnljflaaGreatDoor.CJ
open Go.RowKit Go.MapKept Go.ChangeShapes Go.WideShapes Go.ChangeAt Go.WideMaps Go.WideElems Go.Proofs.YtoonkkipnljflaaGreatDoor.MPerm
set_option maxRecDepth 100000
theorem rwU_of{W:World}(h:laidMetH Tryz.prog Rows.codeUnpacksRow.laid W)(hs:W.ShapedOpen Tryz.prog):RW W∧LR W:=
 ⟨⟨⟨ops_of h (by kernel_rfl),qJ0 h (by kernel_rfl),pure_of h (by kernel_rfl),qK9 h (by kernel_rfl)⟩,tens_of h (by kernel_rfl),max_of hs,err_of (n := "strconv.ErrSyntax") (text:=[105,110,118,97,108,105,100,32,115,121,110,116,97,120]) h (by kernel_rfl) (by kernel_rfl) (by kernel_rfl),err_of (n := "strconv.ErrRange") (text:=[118,97,108,117,101,32,111,117,116,32,111,102,32,114,97,110,103,101]) h (by kernel_rfl) (by kernel_rfl) (by kernel_rfl)⟩,lr_of h (by kernel_rfl) (by kernel_rfl)⟩
end Go.Proofs.YtoonkkipnljflaaGreatDoor.CJ
namespace Go.Proofs.YtoonkkipnljflaaGreatDoor.Unpacks
open Go.ChangeShapes Go.WideShapes Go.ChangeAt Go.RowKit
set_option linter.unusedVariables false
set_option maxRecDepth 100000
theorem own:ownKnob Tryz.prog.godebug=none:=by kernel_rfl
abbrev laid:List (String×DataW Unit):=Rows.codeUnpacksRow.laid
abbrev nilA:Array Value:=#[.string ⟨#[]⟩]
noncomputable abbrev d0 (os:Os):World:=World.doorLaid Tryz.prog 419 os
abbrev grt:List String:=["unicode/utf8.first"]
noncomputable abbrev w0 (os:Os):World:=(d0 os).layVars Tryz.prog (laid.filter fun x=>grt.contains x.1)
noncomputable abbrev B0 (os:Os):List Nat:=(List.range (d0 os).heap.size).filter (fun k=>some k != Tryz.prog.globalNamed "unicode/utf8.first")
theorem met(os:Os):laidMetH Tryz.prog laid ((w0 os).forCall (fun _ _=>0) ⟨#[],nilA,[]⟩).memory:=by
 rw [MakeChecks.laidMetH_plain _ _ _ (by kernel_rfl)];exact laidMet_layVars (w0:=d0 os) grt (B0 os) (by kernel_rfl) (by kernel_rfl) (by kernel_rfl) (LaidIn.of_run (l:=laid.filter fun x => !grt.contains x.1) (B0 os) 8 (by kernel_rfl) (by kernel_rfl) (by kernel_rfl) (by kernel_rfl))
theorem reads(os:Os){H:Type}(enc:TypeId×Value→H):DataW.whole enc Tryz.prog ((w0 os).forCall (fun _ _=>0) ⟨#[],nilA,[]⟩).memory Tryz.f3.params.toList Rows.codeUnpacksSpec.vars false nilA.toList 8=some ([.lit (.string [])],[],[]):=by kernel_rfl
theorem witness(os:Os)(H:Type)(enc:TypeId×Value→H):∃(w:World) (tape:Tape) (i:Input),w.os=os∧(w.forCall tape i).Shaped Tryz.checked.prog∧i.vars=[]∧Input.okWide Tryz.checked.prog (w.forCall tape i) .any w.heap.size 3 i ∧
 (OpenSpec.ofChange Rows.codeUnpacksSpec).preRow enc Tryz.prog Tryz.f3 Rows.codeUnpacksRow.domain false laid (w.forCall tape i).memory i.args∧({}:Assume).holds Tryz.checked.prog (lone (Frame.enter Tryz.checked.prog 3 i.args .normal) [] (w.forCall tape i)):=by
 have hok:Input.okWideB Tryz.checked.prog ((w0 os).forCall (fun _ _=>0) ⟨#[],nilA,[]⟩) 3 ⟨#[],nilA,[]⟩=true:=by kernel_rfl
 refine ⟨w0 os,fun _ _=>0,⟨#[],nilA,[]⟩,World.layVars_os _ _ _,World.shaped_of_ZipB (by kernel_rfl) (by kernel_rfl),(Input.okWide_of_okWideB (base:=0) hok).1,(Input.okWide_of_okWideB hok).2,
  OpenSpec.preRow_of_cond 8 (reads os enc) (by kernel_rfl) (fun k hk=>by cases hk) (by kernel_rfl) (met os),?_⟩
 simp only [Assume.holds];exact ⟨by simp,by simp,fun _=>Modest.zero,by simp,by simp⟩
theorem lifted(os:Os)(started:os.Started)(H:Type)(enc:TypeId×Value→H)(F:Stop.Interp):
 ReturnsInHanded {} Tryz.checked os 3 .any ((OpenSpec.ofChange Rows.codeUnpacksSpec).preRow enc Tryz.prog Tryz.f3 Rows.codeUnpacksRow.domain false laid) (((OpenSpec.ofChange Rows.codeUnpacksSpec).at F).post enc Tryz.prog Tryz.f3 false true false false):=by
 refine returnsInHanded_of_row (C:=Tryz.checked) (s:=OpenSpec.ofChange Rows.codeUnpacksSpec) own started (by kernel_rfl) Tryz.func3 (witness os H enc) ?_;intro W base args ds gs before hval0 hW hcnd hcond hsz0 hL hSh _;have hval:∀(j:Nat) t v,Tryz.f3.params[j]? = some t→args[j]? = some v→Value.okWide Tryz.prog W .any base t v:=hval0;have hW':=hW;obtain ⟨p,q,hA0,hV,rfl,hfz,hnd⟩:=hW;have hA:DataW.TrodAll enc Tryz.prog W 0 (fun _=>true) true Tryz.f3.params.toList args.toList ds p:=hA0;rw [Tryz.params3] at hA hval;obtain ⟨v0,vs0,d0,ds0,p0,q0,hargs,rfl,rfl,h0,r0⟩:=trodAll_cons hA;obtain ⟨rfl,rfl,rfl⟩:=trodAll_nil r0;obtain rfl:args=#[v0]:=by cases args; simp_all
 obtain ⟨rfl,rfl⟩:=trodVars_none hV;obtain ⟨s,rfl,rfl,rfl,hs⟩:=Go.ChangeMaps.open_string Tryz.underlying9 (hval 0 9 v0 rfl rfl) h0;obtain ⟨hR,hr⟩:=CJ.rwU_of hL hSh;have hmx:maxLen≤9223372036854775807:=by decide
 have hln:s.data.toList.length≤9223372036854775807:=by rw [Array.length_toList]; exact Nat.le_trans hs hmx
 have hcall:=CJ.lawUnpacks_calls W s.data.toList hln hR hr;clear hA0 hval0 hsz0 hcnd hcond hL hSh;refine hcall.mono fun e W' ⟨he,bel⟩=>?_
 subst he;exact ⟨_,rfl,_,_,_,[],_,[],hW',trodAll_mk1 (shut_bool Tryz.underlying4 _),(trodAll_cons_mk (Go.ChangeMaps.shut_string Tryz.underlying9 hs) trodAll_mk0),rfl,bel.frame _,fun h=>by cases h⟩
theorem said:Rows.CodeUnpacksSaid:=
 OpenClaim.holds_of_cond 3 Tryz.f3 rfl rfl rfl rfl rfl rfl rfl ⟨rfl,rfl,rfl,rfl,rfl⟩ rfl rfl rfl rfl rfl (by kernel_rfl) Tryz.func3 (by kernel_rfl)
  (of_decide_eq_true (by kernel_rfl)) (by unfold Func.isWrapper; first|(rw [if_pos (by decide +kernel)]; kernel_rfl)|(rw [if_neg (by decide +kernel)]; exact ⟨rfl,rfl⟩))
  (fun os started H enc _ F=>by rw [OpenClaim.pre_eq_preRow]; exact lifted os started H enc F)
theorem plain(f:FuncId)(fn:Func)(hf:Tryz.pinned.checked.prog.funcNamed "damask/damasklaw21.CodeUnpacks" = some f)(hfn:Tryz.pinned.checked.prog.funcs[f]? = some fn):
 true=Tryz.pinned.checked.prog.looks []∧∀(j:Nat) t,fn.params[j]? = some t→Tryz.pinned.checked.prog.wantsStandIn t=false:=by
 obtain rfl:f=3:=Option.some.inj ((show Tryz.prog.funcNamed "damask/damasklaw21.CodeUnpacks" = some 3 by kernel_rfl).symm.trans hf) |>.symm
 obtain rfl:fn=Tryz.f3:=(Option.some.inj (Tryz.func3.symm.trans hfn)).symm;refine ⟨by kernel_rfl,fun j t ht=>?_⟩;rw [Tryz.params3] at ht;have hm:t∈[9]:=by simpa using Array.mem_of_getElem? ht
 have hall:([9].all fun u => !Tryz.prog.wantsStandIn u)=true:=by kernel_rfl
 exact (show Tryz.prog.wantsStandIn t=false by simpa using List.all_eq_true.1 hall t hm)
end Go.Proofs.YtoonkkipnljflaaGreatDoor.Unpacks
namespace Go.Proofs.YtoonkkipnljflaaGreatDoor
theorem codeUnpacks_card_holds:Rows.CodeUnpacksCardSaid:=
 Claim7.holds_tied_plain_at .later [] _ _ _ _ Unpacks.said (fun _ h=>by cases h) (by kernel_rfl) (fun _ h=>by cases h) codeUnpacks_row_tie rfl ⟨rfl,rfl⟩ (by kernel_rfl) rfl Unpacks.plain (by kernel_rfl)
#print axioms codeUnpacks_card_holds
end Go.Proofs.YtoonkkipnljflaaGreatDoor
