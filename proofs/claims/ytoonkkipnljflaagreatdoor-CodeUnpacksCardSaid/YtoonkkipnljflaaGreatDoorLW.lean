/- What the listed variables hold, as plain functions: instructions' fields, arities, shapes. Conditions: the variables are laid. -/
import Derived.Test.YtoonkkipnljflaaGreatDoorCF
import Derived.Test.YtoonkkipnljflaaGreatDoorIMM
namespace Go.Proofs.YtoonkkipnljflaaGreatDoor.CJ
open Go.RowKit Go.Proofs.YtoonkkipnljflaaGreatDoorW.PrintWords Go.Proofs.YtoonkkipnljflaaGreatDoor.PT Go.Proofs.YtoonkkipnljflaaGreatDoor.IMaps
set_option linter.unusedVariables false
set_option linter.unusedSimpArgs false
def qAK:List (List UInt8):=[[99,101,108,108,115],[116,104,117,110,107],[102,117,110],[99,111,110],[110,117,109],[97,99,116],[103,108,111,98],[112,117,115,104],[101,110,116,101,114],[103,105,118,101],[115,119,105,116,99,104],[112,114,105,109],[116,104,114,111,119]]
def isOp(n:Int):Bool:=decide (1≤n)&&decide (n≤13)
def qg(n:Int):List UInt8:=if isOp n then qAK.getD (n.toNat - 1) [] else []
def QD(n:Int):Value:=.agg #[.string ⟨(qg n).toArray⟩,.bool (qv n),.bool (qq n),.bool (qr n),.bool (qs n),.bool (qt n),.bool (qu n)]
def qDe:Value:=.agg #[.string ⟨#[]⟩,.bool false,.bool false,.bool false,.bool false,.bool false,.bool false]
def opV(n:Int):Option Value:=if isOp n then some (QD n) else none
def arL(s:List UInt8):Option Int:=(QC.find? (fun p=>p.1==s)).map (·.2)
def qBV(s:List UInt8):Bool:=match Qu s with|some k=>decide (k<10)|none=>false
def qGy(n:Int):Option Value:=
 if n=8 then some (.agg #[.int .i64 1,.int .i64 1,.bool false,.bool false,.bool true])
 else if n=3 then some (.agg #[.int .i64 0,.int .i64 0,.bool true,.bool false,.bool false]) else none
structure LW(w:World):Prop where
 ops:∃b l,w.cell? ⟨0,0,none⟩=some (.map (some b))∧IM w b l∧∀n,lk n l=opV n
 arities:∃b l,w.cell? ⟨4,0,none⟩=some (.map (some b))∧SMaps.SM w b l∧∀s:ByteArray,SMaps.lk s l=(arL s.data.toList).map (Value.int .i64)
 pure:∃b l,w.cell? ⟨5,0,none⟩=some (.map (some b))∧SMaps.SM w b l∧∀s:ByteArray,SMaps.lk s l=if qBV s.data.toList then some (.bool true) else none
 shapes:∃b l,w.cell? ⟨7,0,none⟩=some (.map (some b))∧IM w b l∧∀n,n=3∨n=8→lk n l=qGy n
theorem LW.below{w w':World}(h:LW w)(hb:Below w.heap.size w w'):LW w':=by
 have key:∀ {a:Addr} {v:Value},w.cell? a=some v→w'.cell? a=some v:=fun hc=>qA hb hc
 obtain ⟨⟨b1,l1,c1,i1,e1⟩,⟨b2,l2,c2,i2,e2⟩,⟨b3,l3,c3,i3,e3⟩,⟨b4,l4,c4,i4,e4⟩⟩:=h;exact ⟨⟨b1,l1,key c1,i1.below hb,e1⟩,⟨b2,l2,key c2,i2.below hb,e2⟩,⟨b3,l3,key c3,i3.below hb,e3⟩,⟨b4,l4,key c4,i4.below hb,e4⟩⟩
theorem LW.op{w:World}(h:LW w):∃b,w.cell? ⟨0,0,none⟩=some (.map (some b))∧∀W,Below w.heap.size w W→W.cell? ⟨0,0,none⟩=some (.map (some b))∧∀n,
 (Instr.lookup 127 (.map (some b)) (.int .i64 n) true).run Tryz.prog W=.ok (.tuple #[(opV n).getD qDe,.bool (isOp n)]) W∧(Instr.lookup 127 (.map (some b)) (.int .i64 n) false).run Tryz.prog W=.ok ((opV n).getD qDe) W:=by
 obtain ⟨b,l,c,i,e⟩:=h.ops;refine ⟨b,c,fun W hW=>⟨qA hW c,fun n=>?_⟩⟩;have hu:Tryz.prog.underlying 127=some (.map 3 126):=by kernel_rfl
 have hz:∀W,(zeroValue 126).run Tryz.prog W=.ok qDe W:=fun _=>by kernel_rfl
 have e2:(opV n).isSome=isOp n:=by unfold opV; cases isOp n<;>rfl
 rw [run_lookup (i.below hW) hu Tryz.underlying3 (hz W) n true,run_lookup (i.below hW) hu Tryz.underlying3 (hz W) n false,e n,e2];exact ⟨rfl,rfl⟩
theorem LW.arity{w:World}(h:LW w):∃b,w.cell? ⟨4,0,none⟩=some (.map (some b))∧∀W,Below w.heap.size w W→W.cell? ⟨4,0,none⟩=some (.map (some b))∧∀s:ByteArray,
 (Instr.lookup 171 (.map (some b)) (.string s) true).run Tryz.prog W=.ok (.tuple #[.int .i64 ((arL s.data.toList).getD 0),.bool (arL s.data.toList).isSome]) W:=by
 obtain ⟨b,l,c,i,e⟩:=h.arities;refine ⟨b,c,fun W hW=>⟨qA hW c,fun s=>?_⟩⟩;have hu:Tryz.prog.underlying 171=some (.map 9 3):=by kernel_rfl
 have hz:∀W,(zeroValue 3).run Tryz.prog W=.ok (.int .i64 0) W:=fun _=>by kernel_rfl
 rw [SMaps.run_lookup (i.below hW) hu Tryz.underlying9 (hz W) s true,e s];cases arL s.data.toList<;>rfl
theorem LW.pur{w:World}(h:LW w):∃b,w.cell? ⟨5,0,none⟩=some (.map (some b))∧∀W,Below w.heap.size w W→W.cell? ⟨5,0,none⟩=some (.map (some b))∧∀s:ByteArray,
 (Instr.lookup 112 (.map (some b)) (.string s) false).run Tryz.prog W=.ok (.bool (qBV s.data.toList)) W:=by
 obtain ⟨b,l,c,i,e⟩:=h.pure;refine ⟨b,c,fun W hW=>⟨qA hW c,fun s=>?_⟩⟩;have hu:Tryz.prog.underlying 112=some (.map 9 4):=by kernel_rfl
 have hz:∀W,(zeroValue 4).run Tryz.prog W=.ok (.bool false) W:=fun _=>by kernel_rfl
 rw [SMaps.run_lookup (i.below hW) hu Tryz.underlying9 (hz W) s false,e s];cases qBV s.data.toList<;>rfl
theorem LW.shape{w:World}(h:LW w):∃b,w.cell? ⟨7,0,none⟩=some (.map (some b))∧∀W,Below w.heap.size w W→W.cell? ⟨7,0,none⟩=some (.map (some b)) ∧
 (Instr.lookup 205 (.map (some b)) (.int .i64 8) true).run Tryz.prog W=.ok (.tuple #[.agg #[.int .i64 1,.int .i64 1,.bool false,.bool false,.bool true],.bool true]) W ∧
 (Instr.lookup 205 (.map (some b)) (.int .i64 3) true).run Tryz.prog W=.ok (.tuple #[.agg #[.int .i64 0,.int .i64 0,.bool true,.bool false,.bool false],.bool true]) W:=by
 obtain ⟨b,l,c,i,e⟩:=h.shapes;refine ⟨b,c,fun W hW=>⟨qA hW c,?_⟩⟩;have hu:Tryz.prog.underlying 205=some (.map 3 203):=by kernel_rfl
 have hz:∀W,(zeroValue 203).run Tryz.prog W=.ok (.agg #[.int .i64 0,.int .i64 0,.bool false,.bool false,.bool false]) W:=fun _=>by kernel_rfl
 rw [run_lookup (i.below hW) hu Tryz.underlying3 (hz W) 8 true,run_lookup (i.below hW) hu Tryz.underlying3 (hz W) 3 true,e 8 (.inr rfl),e 3 (.inl rfl)];exact ⟨rfl,rfl⟩
end Go.Proofs.YtoonkkipnljflaaGreatDoor.CJ
