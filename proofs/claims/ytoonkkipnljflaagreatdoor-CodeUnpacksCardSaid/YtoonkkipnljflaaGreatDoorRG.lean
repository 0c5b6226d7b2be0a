/- Steps of the walk of a region that draws its order, in a shorter form. Conditions: as each states. -/
import Derived.Test.YtoonkkipnljflaaGreatDoorWW
namespace Go.Proofs.YtoonkkipnljflaaGreatDoorW.PrintLast
open Go.RowKit
set_option linter.unusedVariables false
/-- A row of truth values by a number's bits. -/
def mA(n m:Nat):Array Bool:=((List.range n).map fun i=>m.testBit i).toArray
section
variable {P:Program} {ops:Array Oper} {Q:Exit→Act→World→Prop} {md:Region.Mode} {S:World→Prop} {ds:List Nat}
theorem pu_(n m i:Nat)(N:Option Tmp){oi:Oper}{v:Value}{fuel:Nat}{l:Array Bool}{a:Act}{w:World}(hi:ops[i]? = some oi)(hN:oi.dst=N)(hc:anyB md ops l (mA n m) i=true)
 (hQ:∀c a w,Q (.panic c) (a.put oi.dst v) w→Q (.panic c) a w) (hy:Yields P ops oi v a) {a':Act} (ha:a.put N v=a')
 (h:qP P md ops Q S ds fuel (mA n m) a' w):qP P md ops Q S ds (fuel+1) l a w:=pure_ _ hi hN hc hQ hy ha h
theorem ta_(n m i:Nat)(N:Option Tmp){oi:Oper}{v:Value}{fuel:Nat}{l:Array Bool}{a:Act}{w:World}(hi:ops[i]? = some oi)(hN:oi.dst=N)(hc:takeB md ops ds l (mA n m) i=true)
 (hQ:∀c a w,Q (.panic c) (a.put oi.dst v) w→Q (.panic c) a w) (hy:YieldsIf P ops S oi v a) (hS:S w) {a':Act} (ha:a.put N v=a')
 (h:qP P md ops Q S ds fuel (mA n m) a' w):qP P md ops Q S ds (fuel+1) l a w:=take_ _ hi hN hc hQ hy hS ha h
theorem on_(n m i:Nat)(N:Option Tmp){oi:Oper}{fuel:Nat}{l:Array Bool}{a:Act}{w:World}(hi:ops[i]? = some oi)(hN:oi.dst=N)(hc:qCT md ops l (mA n m) i=true)(hd:i∉ds)
 (h:∀K:Act→World→Prop,Shut (∀a' w',S w'→(S w'→qP P md ops Q S ds fuel (mA n m) a' w')→K a' w')→if Region.wanted oi (yielded ops a.tmps)=true then Oper.wp P oi a w K Q else K (a.put N undef) w):
 qP P md ops Q S ds (fuel+1) l a w:=one_ _ hi hN hc hd h
theorem la_(n m i:Nat)(N:Option Tmp){oi:Oper}{fuel:Nat}{l:Array Bool}{a:Act}{w:World}(hi:ops[i]? = some oi)(hN:oi.dst=N)(hc:qCT md ops l (mA n m) i=true)(hd:i∈ds)
 (h:∀K:Act→World→Prop,Shut (∀a' w',qP P md ops Q S ds fuel (mA n m) a' w'→K a' w')→if Region.wanted oi (yielded ops a.tmps)=true then Oper.wp P oi a w K Q else K (a.put N undef) w):
 qP P md ops Q S ds (fuel+1) l a w:=last_ _ hi hN hc hd h
theorem pa_(n m i:Nat)(N:Option Tmp){oi:Oper}{v:Value}{fuel:Nat}{l:Array Bool}{a a':Act}{w:World}(hr:∀w,(execOp a.eval oi).run P w=.ok (.value v) w)(ha:a.put N v=a')(h:qP P md ops Q S ds fuel (mA n m) a' w)
 (hi:ops[i]? = some oi:=by rfl) (hN:oi.dst=N:=by rfl) (hc:anyB md ops l (mA n m) i=true:=by kernel_rfl) (hQ:∀c a w,Q (.panic c) (a.put oi.dst v) w→Q (.panic c) a w:=by exact fun _ _ _ h=>h) (hw:Region.wanted oi (yielded ops a.tmps)=true:=by rfl):qP P md ops Q S ds (fuel+1) l a w:=pure_ _ hi hN hc hQ (Or.inl ⟨hw,hr⟩) ha h
theorem pf_(n m i:Nat)(N:Option Tmp){oi:Oper}{fuel:Nat}{l:Array Bool}{a a':Act}{w:World}(ha:a.put N undef=a')(h:qP P md ops Q S ds fuel (mA n m) a' w)
 (hi:ops[i]? = some oi:=by rfl) (hN:oi.dst=N:=by rfl) (hc:anyB md ops l (mA n m) i=true:=by kernel_rfl) (hQ:∀c a w,Q (.panic c) (a.put oi.dst undef) w→Q (.panic c) a w:=by exact fun _ _ _ h=>h) (hw:Region.wanted oi (yielded ops a.tmps)=false:=by rfl):qP P md ops Q S ds (fuel+1) l a w:=pure_ _ hi hN hc hQ (Or.inr ⟨hw,rfl⟩) ha h
theorem tb_(n m i:Nat)(N:Option Tmp){oi:Oper}{v:Value}{fuel:Nat}{l:Array Bool}{a a':Act}{w:World}(hS:S w)(hr:∀w,S w→(execOp a.eval oi).run P w=.ok (.value v) w)(ha:a.put N v=a')(h:qP P md ops Q S ds fuel (mA n m) a' w)
 (hi:ops[i]? = some oi:=by rfl) (hN:oi.dst=N:=by rfl) (hc:takeB md ops ds l (mA n m) i=true:=by kernel_rfl) (hQ:∀c a w,Q (.panic c) (a.put oi.dst v) w→Q (.panic c) a w:=by exact fun _ _ _ h=>h) (hw:Region.wanted oi (yielded ops a.tmps)=true:=by rfl):qP P md ops Q S ds (fuel+1) l a w:=take_ _ hi hN hc hQ (Or.inl ⟨hw,hr⟩) hS ha h
theorem oo_(n m i:Nat)(N:Option Tmp){oi:Oper}{fuel:Nat}{l:Array Bool}{a:Act}{w:World}(h:∀K:Act→World→Prop,Shut (∀a' w',S w'→(S w'→qP P md ops Q S ds fuel (mA n m) a' w')→K a' w')→if Region.wanted oi (yielded ops a.tmps)=true then Oper.wp P oi a w K Q else K (a.put N undef) w)
 (hi:ops[i]? = some oi:=by rfl) (hN:oi.dst=N:=by rfl) (hc:qCT md ops l (mA n m) i=true:=by kernel_rfl) (hd:i∉ds:=by decide):qP P md ops Q S ds (fuel+1) l a w:=one_ _ hi hN hc hd h
end
theorem pn:(∀(t:Array Value) (d:_) (n:Nat) (v:Value),Act.put ⟨t,d⟩ (some n) v=⟨t.setIfInBounds n v,d⟩)∧(∀(l:List Value) (i:Nat) (v:Value),(l.toArray).setIfInBounds i v=(l.set i v).toArray)∧(∀(a:Value) (l:List Value) (v:Value),(a::l).set 0 v=v::l)∧(∀(a:Value) (l:List Value) (n:Nat) (v:Value),(a::l).set (n+1) v=a::l.set n v)∧(∀n:Int,IntKind.i64.wrap n=Go.RowKit.wrap64 n)∧(∀n:Int,IntKind.i32.wrap n=Go.RowKit.wrap32 n):=
 ⟨fun _ _ _ _=>rfl,fun _ _ _=>by simp,fun _ _ _=>rfl,fun _ _ _ _=>rfl,qEn,qEo⟩
end Go.Proofs.YtoonkkipnljflaaGreatDoorW.PrintLast
