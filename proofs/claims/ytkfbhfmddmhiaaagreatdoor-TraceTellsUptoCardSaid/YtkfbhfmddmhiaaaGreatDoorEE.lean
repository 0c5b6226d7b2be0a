/- The equality of two shown values, of two accesses, and of two lists of them. Conditions: the values lie in memory. The equality of two events. Conditions: the events lie in memory. The equality of two traces: the Go function trace.Same answers as a plain function. Conditions: the traces lie in memory. -/
import Derived.Test.YtkfbhfmddmhiaaaGreatDoorJJ
import Derived.Test.YtkfbhfmddmhiaaaGreatDoorPTx
import Derived.ChangeKeysEq
import Derived.Laws.StructEq
namespace Go.Proofs.YtkfbhfmddmhiaaaGreatDoor.TJ
open Go.RowKit Go.Proofs.YtkfbhfmddmhiaaaGreatDoorW.PrintWords Go.Proofs.YtkfbhfmddmhiaaaGreatDoor.PT Go.Proofs.YtkfbhfmddmhiaaaGreatDoor.IMaps
set_option linter.unusedVariables false

mutual
def sameV : Vl → Vl → Bool
  | ⟨k, n, s, l⟩, b => k == b.f0 && (n == b.f1 && (s.toList == b.f2.toList && sameVs l b.f3))
def sameVs : List Vl → List Vl → Bool
  | [], [] => true
  | x :: r, y :: q => sameV x y && sameVs r q
  | _, _ => false
end

theorem sameVs_step (l1 l2 : List Vl) (j : Nat) (h1 : j < l1.length) (h2 : j < l2.length) : sameVs (l1.drop j) (l2.drop j) = (sameV (rd_T49 l1 (j : Int)) (rd_T49 l2 (j : Int)) && sameVs (l1.drop (j + 1)) (l2.drop (j + 1))) := by
  have e1 : rd_T49 l1 (j : Int) = l1[j] := by simp [rd_T49, List.getD_eq_getElem?_getD, List.getElem?_eq_getElem h1]
  have e2 : rd_T49 l2 (j : Int) = l2[j] := by simp [rd_T49, List.getD_eq_getElem?_getD, List.getElem?_eq_getElem h2]
  rw [e1, e2, List.drop_eq_getElem_cons h1, List.drop_eq_getElem_cons h2]
  rfl

theorem sameVs_len : ∀ (l1 l2 : List Vl), l1.length ≠ l2.length → sameVs l1 l2 = false
  | [], [], h => absurd rfl h
  | [], _ :: _, _ => rfl
  | _ :: _, [], _ => rfl
  | _ :: r, _ :: q, h => by simp only [sameVs]; rw [sameVs_len r q (fun e => h (by simp [e]))]; simp

theorem sameV_eq (x y : Vl) : sameV x y = (x.f0 == y.f0 && (x.f1 == y.f1 && (x.f2.toList == y.f2.toList && sameVs x.f3 y.f3))) := by
  cases x; rfl

def sameA (x y : Ac) : Bool := x.f0 == y.f0 && sameV x.f1 y.f1
def eqL {α : Type} (f : α → α → Bool) : List α → List α → Bool
  | [], [] => true
  | x :: r, y :: q => f x y && eqL f r q
  | _, _ => false

theorem eqL_len {α : Type} (f : α → α → Bool) : ∀ (l1 l2 : List α), l1.length ≠ l2.length → eqL f l1 l2 = false
  | [], [], h => absurd rfl h
  | [], _ :: _, _ => rfl
  | _ :: _, [], _ => rfl
  | _ :: r, _ :: q, h => by simp only [eqL]; rw [eqL_len f r q (fun e => h (by simp [e]))]; simp

theorem eqL_step {α : Type} (f : α → α → Bool) (l1 l2 : List α) (j : Nat) (h1 : j < l1.length) (h2 : j < l2.length) : eqL f (l1.drop j) (l2.drop j) = (f l1[j] l2[j] && eqL f (l1.drop (j + 1)) (l2.drop (j + 1))) := by
  rw [List.drop_eq_getElem_cons h1, List.drop_eq_getElem_cons h2]
  rfl

theorem rdA (l : List Ac) (j : Nat) (h : j < l.length) : rd_T51 l (j : Int) = l[j] := by simp [rd_T51, List.getD_eq_getElem?_getD, List.getElem?_eq_getElem h]
end Go.Proofs.YtkfbhfmddmhiaaaGreatDoor.TJ
namespace Go.Proofs.YtkfbhfmddmhiaaaGreatDoor.TJ
open Go.RowKit Go.Proofs.YtkfbhfmddmhiaaaGreatDoorW.PrintWords Go.Proofs.YtkfbhfmddmhiaaaGreatDoorW.PrintLast Go.Proofs.YtkfbhfmddmhiaaaGreatDoor.PT Go.Proofs.YtkfbhfmddmhiaaaGreatDoor.IMaps
set_option linter.unusedVariables false
set_option linter.unusedSimpArgs false

def headsB (x y : Ev) : Bool := x.f0 == y.f0 && (x.f1 == y.f1 && (x.f2 == y.f2 && (x.f3 == y.f3 && x.f4 == y.f4)))
def sameE (x y : Ev) : Bool := headsB x y && (eqL sameA x.f5 y.f5 && eqL sameA x.f6 y.f6)

end Go.Proofs.YtkfbhfmddmhiaaaGreatDoor.TJ
namespace Go.Proofs.YtkfbhfmddmhiaaaGreatDoor.TJ
open Go.RowKit Go.Proofs.YtkfbhfmddmhiaaaGreatDoorW.PrintWords Go.Proofs.YtkfbhfmddmhiaaaGreatDoor.PT Go.Proofs.YtkfbhfmddmhiaaaGreatDoor.IMaps
set_option linter.unusedVariables false

theorem rdE (l : List Ev) (j : Nat) (h : j < l.length) : rd_T44 l (j : Int) = l[j] := by simp [rd_T44, List.getD_eq_getElem?_getD, List.getElem?_eq_getElem h]
end Go.Proofs.YtkfbhfmddmhiaaaGreatDoor.TJ
