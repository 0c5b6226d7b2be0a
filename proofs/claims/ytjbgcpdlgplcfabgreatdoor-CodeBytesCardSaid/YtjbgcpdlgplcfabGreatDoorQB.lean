/- The statement on CodeBytes: the row and its card. Conditions: none. -/
import Derived.Test.YtjbgcpdlgplcfabGreatDoorA4
import Derived.Test.YtjbgcpdlgplcfabGreatDoorQL
import Derived.Test.YtjbgcpdlgplcfabGreatDoorQC
import Derived.Test.YtjbgcpdlgplcfabGreatDoorRows
import Derived.Test.YtjbgcpdlgplcfabGreatDoorCards
import Derived.Test.YtjbgcpdlgplcfabGreatDoorTie
import Derived.WalkKit
import Derived.ProofKit
import Derived.OpenShut
import Derived.ShutString
import Derived.ChangeOld
import Derived.Below
import Derived.SizedLaws
import Derived.MakeChecks
import Derived.Lay
import Derived.LaidOnce
import Derived.LaidSub
import Derived.LaidMore
import Derived.SevenTiedAt
import Derived.Deep.DeepHandedRow
import Derived.Lib.LaidTab
import Derived.Shelf.Vars
namespace Go.Proofs.YtjbgcpdlgplcfabGreatDoor.CJ
open Go.RowKit Go.MapKept Go.ChangeShapes Go.WideShapes Go.ChangeAt Go.WideMaps Go.WideElems Go.Proofs.YtjbgcpdlgplcfabGreatDoor.MPerm
set_option maxRecDepth 100000
theorem rwB_of{W:World}(h:laidMetH Tryz.prog Rows.codeBytesRow.laid W)(hs:W.ShapedOpen Tryz.prog):RW W∧LR W:=
 ⟨⟨⟨ops_of h (by kernel_rfl),arities_of h (by kernel_rfl),pure_of h (by kernel_rfl),shapes_of h (by kernel_rfl)⟩,tens_of h (by kernel_rfl),max_of hs,err_of (n := "strconv.ErrSyntax") (text:=[105,110,118,97,108,105,100,32,115,121,110,116,97,120]) h (by kernel_rfl) (by kernel_rfl) (by kernel_rfl),err_of (n := "strconv.ErrRange") (text:=[118,97,108,117,101,32,111,117,116,32,111,102,32,114,97,110,103,101]) h (by kernel_rfl) (by kernel_rfl) (by kernel_rfl)⟩,lr_of h (by kernel_rfl) (by kernel_rfl)⟩
end Go.Proofs.YtjbgcpdlgplcfabGreatDoor.CJ
namespace Go.Proofs.YtjbgcpdlgplcfabGreatDoor.Bytes
open Go.ChangeShapes Go.WideShapes Go.ChangeAt Go.RowKit
set_option linter.unusedVariables false
set_option maxRecDepth 100000
theorem own:ownKnob Tryz.prog.godebug=none:=by kernel_rfl
theorem laidOut:laidOutB Tryz.prog=true:=by kernel_rfl
abbrev laid:List (String×DataW Unit):=Rows.codeBytesRow.laid
abbrev nilC:Value:=.agg #[.slice none 0 0,.slice none 0 0]
abbrev nilA:Array Value:=#[nilC,.int .i64 0,.int .i64 0]
noncomputable abbrev d0 (os:Os):World:=World.doorLaid Tryz.prog 419 os
abbrev grt:List String:=["unicode/utf8.first"]
noncomputable abbrev w0 (os:Os):World:=(d0 os).layVars Tryz.prog (laid.filter fun x=>grt.contains x.1)
noncomputable abbrev B0 (os:Os):List Nat:=(List.range (d0 os).heap.size).filter (fun k=>some k != Tryz.prog.globalNamed "unicode/utf8.first")
theorem met(os:Os):laidMetH Tryz.prog laid ((w0 os).forCall (fun _ _=>0) ⟨#[],nilA,[]⟩).memory:=by
 rw [MakeChecks.laidMetH_plain _ _ _ (by kernel_rfl)];exact laidMet_layVars (w0:=d0 os) grt (B0 os) (by kernel_rfl) (by kernel_rfl) (by kernel_rfl) (LaidIn.of_run (l:=laid.filter fun x => !grt.contains x.1) (B0 os) 8 (by kernel_rfl) (by kernel_rfl) (by kernel_rfl) (by kernel_rfl))
theorem reads(os:Os){H:Type}(enc:TypeId×Value→H):DataW.whole enc Tryz.prog ((w0 os).forCall (fun _ _=>0) ⟨#[],nilA,[]⟩).memory Tryz.f3.params.toList Rows.codeBytesSpec.vars false nilA.toList 8=some ([.agg [.nil,.nil],.lit (.int .i64 0),.lit (.int .i64 0)],[],[]):=by kernel_rfl
theorem witness(os:Os)(H:Type)(enc:TypeId×Value→H):∃(w:World) (tape:Tape) (i:Input),w.os=os∧(w.forCall tape i).Shaped Tryz.checked.prog∧i.vars=[]∧Input.okWide Tryz.checked.prog (w.forCall tape i) .any w.heap.size 3 i ∧
 (OpenSpec.ofChange Rows.codeBytesSpec).preRow enc Tryz.prog Tryz.f3 Rows.codeBytesRow.domain false laid (w.forCall tape i).memory i.args∧({}:Assume).holds Tryz.checked.prog (lone (Frame.enter Tryz.checked.prog 3 i.args .normal) [] (w.forCall tape i)):=by
 have hok:Input.okWideB Tryz.checked.prog ((w0 os).forCall (fun _ _=>0) ⟨#[],nilA,[]⟩) 3 ⟨#[],nilA,[]⟩=true:=by kernel_rfl
 refine ⟨w0 os,fun _ _=>0,⟨#[],nilA,[]⟩,World.layVars_os _ _ _,World.shaped_of_ZipB (by kernel_rfl) (by kernel_rfl),(Input.okWide_of_okWideB (base:=0) hok).1,(Input.okWide_of_okWideB hok).2,
  OpenSpec.preRow_of_cond 8 (reads os enc) (by kernel_rfl) (fun k hk=>by cases hk) (by kernel_rfl) (met os),?_⟩
 simp only [Assume.holds];exact ⟨by simp,by simp,fun _=>Modest.zero,by simp,by simp⟩
theorem lifted(os:Os)(started:os.Started)(H:Type)(enc:TypeId×Value→H)(F:Stop.Interp):
 ReturnsInHanded {} Tryz.checked os 3 .any ((OpenSpec.ofChange Rows.codeBytesSpec).preRow enc Tryz.prog Tryz.f3 Rows.codeBytesRow.domain false laid) (((OpenSpec.ofChange Rows.codeBytesSpec).at F).post enc Tryz.prog Tryz.f3 false true false false):=by
 refine returnsInHanded_of_row (C:=Tryz.checked) (s:=OpenSpec.ofChange Rows.codeBytesSpec) own started (by kernel_rfl) Tryz.func3 (witness os H enc) ?_;intro W base args ds gs before hval0 hW hcnd hcond hsz0 hL hSh _;have hval:∀(j:Nat) t v,Tryz.f3.params[j]? = some t→args[j]? = some v→Value.okWide Tryz.prog W .any base t v:=hval0;have hW':=hW;obtain ⟨p,q,hA0,hV,rfl,hfz,hnd⟩:=hW;have hA:DataW.TrodAll enc Tryz.prog W 0 (fun _=>true) true Tryz.f3.params.toList args.toList ds p:=hA0;rw [Tryz.params3] at hA hval;obtain ⟨v0,vs0,d0,ds0,p0,q0,hargs,rfl,rfl,h0,r0⟩:=trodAll_cons hA;obtain ⟨v1,vs1,d1,ds1,p1,q1,rfl,rfl,rfl,h1,r1⟩:=trodAll_cons r0;obtain ⟨v2,vs2,d2,ds2,p2,q2,rfl,rfl,rfl,h2,r2⟩:=trodAll_cons r1;obtain ⟨rfl,rfl,rfl⟩:=trodAll_nil r2;obtain rfl:args=#[v0,v1,v2]:=by cases args; simp_all
 obtain ⟨rfl,rfl⟩:=trodVars_none hV;have lt0:∀x∈p0,x.block<W.heap.size:=by obtain ⟨m,hm⟩:=h0; exact DataW.trod_lt m _ _ _ hm
 obtain ⟨A,ca,A2,cb,bs,gl,e0,c0,dc⟩:=CJ.open_code (hval 0 25 v0 rfl rfl) h0;obtain ⟨n1,rfl,rfl,rfl,w1⟩:=open_int Tryz.underlying3 (hval 1 3 v1 rfl rfl) h1;obtain ⟨n2,rfl,rfl,rfl,w2⟩:=open_int Tryz.underlying3 (hval 2 3 v2 rfl rfl) h2;obtain ⟨hR,hr⟩:=CJ.rwB_of hL hSh;have hcall:=CJ.lawBytes_calls W A A2 ca cb bs gl n1 n2 c0 hR hr dc.sized dc.wf;rw [←e0] at hcall;clear hA0 hval0 hsz0 hcnd hcond hL hSh;refine hcall.mono fun e W' ⟨he,bel⟩=>?_
 subst he;exact ⟨_,rfl,_,_,_,[],_,[],hW',trodAll_mk1 (shut_bool Tryz.underlying4 _),(trodAll_cons_mk (Below.trod laidOut (by kernel_rfl) (of_decide_eq_true (by kernel_rfl)) h0 bel lt0) (trodAll_cons_mk (shut_int Tryz.underlying3 w1) (trodAll_cons_mk (shut_int Tryz.underlying3 w2) trodAll_mk0))),rfl,bel.frame _,fun h=>by cases h⟩
theorem said:Rows.CodeBytesSaid:=
 OpenClaim.holds_of_cond 3 Tryz.f3 rfl rfl rfl rfl rfl rfl rfl ⟨rfl,rfl,rfl,rfl,rfl⟩ rfl rfl rfl rfl rfl (by kernel_rfl) Tryz.func3 (by kernel_rfl)
  (of_decide_eq_true (by kernel_rfl)) (by unfold Func.isWrapper; first|(rw [if_pos (by decide +kernel)]; kernel_rfl)|(rw [if_neg (by decide +kernel)]; exact ⟨rfl,rfl⟩))
  (fun os started H enc _ F=>by rw [OpenClaim.pre_eq_preRow]; exact lifted os started H enc F)
theorem plain(f:FuncId)(fn:Func)(hf:Tryz.pinned.checked.prog.funcNamed "damask/damasklaw21.CodeBytes" = some f)(hfn:Tryz.pinned.checked.prog.funcs[f]? = some fn):
 true=Tryz.pinned.checked.prog.looks []∧∀(j:Nat) t,fn.params[j]? = some t→Tryz.pinned.checked.prog.wantsStandIn t=false:=by
 obtain rfl:f=3:=Option.some.inj ((show Tryz.prog.funcNamed "damask/damasklaw21.CodeBytes" = some 3 by kernel_rfl).symm.trans hf) |>.symm
 obtain rfl:fn=Tryz.f3:=(Option.some.inj (Tryz.func3.symm.trans hfn)).symm;refine ⟨by kernel_rfl,fun j t ht=>?_⟩;rw [Tryz.params3] at ht;have hm:t∈[25,3,3]:=by simpa using Array.mem_of_getElem? ht
 have hall:([25,3,3].all fun u => !Tryz.prog.wantsStandIn u)=true:=by kernel_rfl
 exact (show Tryz.prog.wantsStandIn t=false by simpa using List.all_eq_true.1 hall t hm)
end Go.Proofs.YtjbgcpdlgplcfabGreatDoor.Bytes
namespace Go.Proofs.YtjbgcpdlgplcfabGreatDoor
theorem codeBytes_card_holds:Rows.CodeBytesCardSaid:=
 Claim7.holds_tied_plain_at .later [] _ _ _ _ Bytes.said (fun _ h=>by cases h) (by kernel_rfl) (fun _ h=>by cases h) codeBytes_row_tie rfl ⟨rfl,rfl⟩ (by kernel_rfl) rfl Bytes.plain (by kernel_rfl)
#print axioms codeBytes_card_holds
end Go.Proofs.YtjbgcpdlgplcfabGreatDoor
