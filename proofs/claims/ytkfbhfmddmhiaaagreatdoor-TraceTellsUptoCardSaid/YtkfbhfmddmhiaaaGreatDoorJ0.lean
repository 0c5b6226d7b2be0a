/- What the judge of a trace is, as plain data and in memory; the rules as plain functions. Conditions: none. -/
import Derived.Test.YtkfbhfmddmhiaaaGreatDoorPTx0
import Derived.Test.YtkfbhfmddmhiaaaGreatDoorIM
namespace Go.Proofs.YtkfbhfmddmhiaaaGreatDoor.TJ
open Go.RowKit Go.Proofs.YtkfbhfmddmhiaaaGreatDoorW.PrintWords Go.Proofs.YtkfbhfmddmhiaaaGreatDoor.PT Go.Proofs.YtkfbhfmddmhiaaaGreatDoor.IMaps
set_option linter.unusedVariables false

abbrev Ev := S44
abbrev Ac := S51
abbrev Vl := S49
abbrev kEv : Kd Ev := k44
abbrev kAc : Kd Ac := k51
abbrev kVl : Kd Vl := k49

structure JS where
  lt : Int
  lth : Int
  begun : Bool
  threads : Int
  ended : Int → Bool
  over : Int
  pend : Int → List Int
  vars : Int → Option Vl

def js0 : JS := ⟨0, 0, false, 1, fun _ => false, 0, fun _ => [], fun _ => none⟩

mutual
def agreeV : Vl → Vl → Bool
  | ⟨k, n, s, l⟩, b => k == 6 || (b.f0 == 6 || (k == b.f0 && (n == b.f1 && (s.toList == b.f2.toList && agreeVs l b.f3))))
def agreeVs : List Vl → List Vl → Bool
  | [], [] => true
  | x :: r, y :: q => agreeV x y && agreeVs r q
  | _, _ => false
end
mutual
def vdepth : Vl → Nat
  | ⟨_, _, _, l⟩ => vdepths l + 1
def vdepths : List Vl → Nat
  | [] => 0
  | v :: r => max (vdepth v) (vdepths r)
end

def turnsB (j : JS) (x : Ev) : Bool := decide (1 ≤ x.f0) && decide (x.f0 ≤ 6000) && (!j.begun || decide (j.lt < x.f0) || (x.f0 == j.lt && x.f1 == j.lth))
def numbersB (j : JS) (x : Ev) : Bool := decide (0 ≤ x.f1) && decide (x.f1 < j.threads) && (x.f2 != 3 || x.f3 == j.threads)
def endsB (j : JS) (x : Ev) : Bool := !j.ended x.f1 && (j.over == 0 || decide (x.f0 ≤ j.over))
def hitsB (j : JS) (x : Ev) : Bool := x.f2 != 5 || (match j.pend x.f1 with | [] => false | a :: _ => a == x.f3)
def ascP : Option Int → List Ac → Bool
  | _, [] => true
  | p, a :: r => decide (0 ≤ a.f0) && decide (a.f0 < 64) && (match p with | none => true | some q => decide (q < a.f0)) && ascP (some a.f0) r
def ascB (l : List Ac) : Bool := ascP none l
def hasN (k : Int) : Bool := k == 1 || k == 2 || k == 3 || k == 4 || k == 5 || k == 6 || k == 11
def fieldsB (x : Ev) : Bool := decide (1 ≤ x.f2) && decide (x.f2 ≤ 12) && (hasN x.f2 || x.f3 == 0) && (x.f2 == 4 || x.f4 == 0) && (x.f2 == 7 || (x.f5.isEmpty && x.f6.isEmpty)) && ascB x.f5 && ascB x.f6
def clashB (j : JS) (a : Ac) : Bool := match j.vars a.f0 with | some v => !agreeV v a.f1 | none => false
def commitsB (j : JS) (x : Ev) : Bool := !(x.f5.any (clashB j))

def setF {α : Type} (f : Int → α) (n : Int) (v : α) : Int → α := fun m => if n = m then v else f m

def learnJ (j : JS) (x : Ev) : JS :=
  let j1 : JS := if x.f2 = 3 then { j with threads := j.threads + 1 }
    else if x.f2 = 4 then { j with pend := setF j.pend x.f3 (j.pend x.f3 ++ [x.f4]) }
    else if x.f2 = 5 then { j with pend := setF j.pend x.f1 (j.pend x.f1).tail }
    else if x.f2 = 10 ∨ x.f2 = 11 ∨ x.f2 = 12 then { j with ended := setF j.ended x.f1 true, over := if x.f1 = 0 then x.f0 else j.over }
    else j
  { j1 with vars := x.f6.foldl (fun f a => setF f a.f0 (some a.f1)) j1.vars, lt := x.f0, lth := x.f1, begun := true }

def badJ (j : JS) (x : Ev) : Option Nat :=
  if turnsB j x = false then some 1 else if numbersB j x = false then some 2 else if endsB j x = false then some 3 else if hitsB j x = false then some 4 else if fieldsB x = false then some 5 else if commitsB j x = false then some 6 else none

def runJ : JS → Nat → List Ev → Option (Nat × Nat)
  | _, _, [] => none
  | j, i, x :: r => match badJ j x with
    | some k => some (i, k)
    | none => runJ (learnJ j x) (i + 1) r

def PV (w : World) (b : Nat) : Option Value → List Int → Prop
  | none, l => l = []
  | some v, l => l ≠ [] ∧ (Kd.int .i64).Q 3 w (b + 4) (fun _ => True) v l

def VV (w : World) : Option Value → Option Vl → Prop
  | none, none => True
  | some v, some x => ∃ A c, v = .agg #[.int .i64 x.f0, .int .i64 x.f1, .string x.f2, .slice A x.f3.length c] ∧ x.f3.length ≤ c ∧ kVl.C w A x.f3.length x.f3
  | _, _ => False

structure JW (w0 w : World) (b : Nat) (j : JS) : Prop where
  cells : ∃ x2 x3 x4 x5 x6, w.heap[b + 3]? = some (.cells #[.int .i64 j.lt, .int .i64 j.lth, x2, x3, x4, x5, x6, .bool j.begun, .int .i64 j.threads, .map (some b), .int .i64 j.over, .map (some (b + 1)), .map (some (b + 2))] 76 (0, 0))
  ended : ∃ le, IM w b le ∧ (∀ p ∈ le, p.2 = .bool true) ∧ ∀ n, j.ended n = (lk n le).isSome
  pend : ∃ lp, IM w (b + 1) lp ∧ (∀ n, PV w b (lk n lp) (j.pend n)) ∧ ∀ n m u v k, lk n lp = some u → lk m lp = some v → u.ownBlock = some k → v.ownBlock = some k → n = m
  vars : ∃ lv, IM w (b + 2) lv ∧ ∀ n, VV w0 (lk n lv) (j.vars n)

theorem JW.lt {w0 w : World} {b : Nat} {j : JS} (h : JW w0 w b j) : b + 3 < w.heap.size := by
  obtain ⟨_, _, _, _, _, hc⟩ := h.cells
  exact (Array.getElem?_eq_some_iff.1 hc).1

theorem JW.below {w0 w w' : World} {b : Nat} {j : JS} (h : JW w0 w b j) (hb : Below w.heap.size w w') : JW w0 w' b j := by
  have hl := h.lt
  obtain ⟨⟨x2, x3, x4, x5, x6, hc⟩, ⟨le, e1, e2, e3⟩, ⟨lp, p1, p2, p3⟩, ⟨lv, v1, v2⟩⟩ := h
  refine ⟨⟨x2, x3, x4, x5, x6, (hb.block _ hl).trans hc⟩, ⟨le, e1.below hb, e2, e3⟩, ⟨lp, p1.below hb, fun n => ?_, p3⟩, ⟨lv, v1.below hb, v2⟩⟩
  have := p2 n
  cases hk : lk n lp with
  | none => rw [hk] at this; exact this
  | some v => rw [hk] at this; exact ⟨this.1, Kd.Q_below this.2 hb⟩

theorem JW.alloc {w0 w : World} {b : Nat} {j : JS} (h : JW w0 w b j) (o : Obj) : JW w0 (w.alloc o) b j := h.below (below_alloc (Below.refl _ _) o)
theorem JW.drewN {w0 w : World} {b : Nat} {j : JS} (h : JW w0 w b j) (n : Nat) : JW w0 (w.drewN n) b j := h.below (pw_below_drewN (Below.refl _ _) n)

theorem cellH {w : World} {g : Nat} {cs : Array Value} {t : TypeId} {f : Nat × Nat} (h : w.heap[g]? = some (.cells cs t f)) {i : Nat} {v : Value} (hv : cs[i]? = some v) : w.cell? ⟨g, i, none⟩ = some v := by
  simp [World.cell?, h, hv]
theorem cellA {w : World} {g : Nat} {cs : Array Value} {t : TypeId} {f : Nat × Nat} (h : w.heap[g]? = some (.cells cs t f)) {i : Nat} {v : Value} (hv : cs[i]? = some v) : ∀ o, (w.alloc o).cell? ⟨g, i, none⟩ = some v := fun o =>
  cellH ((Below.heap_alloc w o g (Array.getElem?_eq_some_iff.1 h).1).trans h) hv

theorem JW.facts {w0 w : World} {b : Nat} {j : JS} (h : JW w0 w b j) :
    w.cell? ⟨b + 3, 0, none⟩ = some (.int .i64 j.lt) ∧ w.cell? ⟨b + 3, 1, none⟩ = some (.int .i64 j.lth) ∧ w.cell? ⟨b + 3, 7, none⟩ = some (.bool j.begun) ∧ w.cell? ⟨b + 3, 8, none⟩ = some (.int .i64 j.threads) ∧
    w.cell? ⟨b + 3, 9, none⟩ = some (.map (some b)) ∧ w.cell? ⟨b + 3, 10, none⟩ = some (.int .i64 j.over) ∧ w.cell? ⟨b + 3, 11, none⟩ = some (.map (some (b + 1))) ∧ w.cell? ⟨b + 3, 12, none⟩ = some (.map (some (b + 2))) := by
  obtain ⟨_, _, _, _, _, hc⟩ := h.cells
  exact ⟨cellH hc rfl, cellH hc rfl, cellH hc rfl, cellH hc rfl, cellH hc rfl, cellH hc rfl, cellH hc rfl, cellH hc rfl⟩

theorem zeroBool (w : World) : (zeroValue 4).run Tryz.prog w = .ok (.bool false) w := by kernel_rfl
theorem zeroInts (w : World) : (zeroValue 29).run Tryz.prog w = .ok (.slice none 0 0) w := by kernel_rfl
theorem zeroVal (w : World) : (zeroValue 49).run Tryz.prog w = .ok (.agg #[.int .i64 0, .int .i64 0, .string ⟨#[]⟩, .slice none 0 0]) w := by kernel_rfl

theorem JW.ended_run {w0 w : World} {b : Nat} {j : JS} (h : JW w0 w b j) (n : Int) : (Instr.lookup 72 (.map (some b)) (.int .i64 n) false).run Tryz.prog w = .ok (.bool (j.ended n)) w := by
  obtain ⟨le, e1, e2, e3⟩ := h.ended
  have := run_lookup e1 Tryz.underlying72 Tryz.underlying3 (zeroBool w) n false
  rw [this, e3]
  have key : ∀ l : List (Int × Value), (∀ p ∈ l, p.2 = .bool true) → (lk n l).getD (.bool false) = .bool (lk n l).isSome := by
    intro l
    induction l with
    | nil => intro _; rfl
    | cons p r ih =>
      intro hp
      by_cases hn : p.1 = n
      · simp [lk, hn, hp p (.head _)]
      · simp only [lk, hn, if_false]
        exact ih (fun q hq => hp q (.tail _ hq))
  simp [key le e2]

end Go.Proofs.YtkfbhfmddmhiaaaGreatDoor.TJ
