/- The text of a trace: the Go function Text answers as the plain function textT. Conditions: numbers' and accesses' texts as given; the text takes at most 2^47 bytes. -/
import Derived.Test.YtkfbhfmddmhiaaaGreatDoorJ0
import Derived.Test.YtkfbhfmddmhiaaaGreatDoorB
import Derived.Test.YtkfbhfmddmhiaaaGreatDoorShh
import Derived.BigQuiet
import Derived.Lib.Hide
import Derived.Lib.AppendIntMem
namespace Go.Proofs.YtkfbhfmddmhiaaaGreatDoor.TJ
open Go.RowKit Go.Proofs.YtkfbhfmddmhiaaaGreatDoorW.PrintWords Go.Proofs.YtkfbhfmddmhiaaaGreatDoorW.PrintLast Go.Proofs.YtkfbhfmddmhiaaaGreatDoor.PT Go.Proofs.YtkfbhfmddmhiaaaGreatDoor.IMaps
set_option linter.unusedVariables false
set_option linter.unusedSimpArgs false

def headT (x : Ev) : List UInt8 := Lib.join [Lib.itoa x.f0, Lib.itoa x.f1, Lib.itoa x.f2, Lib.itoa x.f3, Lib.itoa x.f4] [32]
def evT (acc : UInt8 → Ac → List UInt8) (x : Ev) : List UInt8 := headT x ++ ((x.f5.map (acc 114)).flatten ++ ((x.f6.map (acc 119)).flatten ++ [10]))
def textT (acc : UInt8 → Ac → List UInt8) (l : List Ev) : List UInt8 := (l.map (evT acc)).flatten

structure ItoaAt (w : World) (n : Int) : Prop where
  len : (Lib.itoa n).length ≤ 100
  calls : ∀ W, Below w.heap.size w W → Calls Tryz.prog 31 #[.int .i64 n] W fun e w' => e = .returned (.string ⟨(Lib.itoa n).toArray⟩) ∧ Below W.heap.size W w'
def AccAt (w : World) (acc : UInt8 → Ac → List UInt8) (a : Ac) : Prop := ∀ (W : World) (m : UInt8) (A : Option Addr) (c : Nat), m = 114 ∨ m = 119 → Below w.heap.size w W → a.f1.f3.length ≤ c → kVl.C W A a.f1.f3.length a.f1.f3 →
  Calls Tryz.prog 32 #[.string ⟨#[m]⟩, .agg #[.int .i64 a.f0, .int .i64 a.f1.f0, .int .i64 a.f1.f1, .string a.f1.f2, .slice A a.f1.f3.length c]] W fun e w' => e = .returned (.string ⟨(acc m a).toArray⟩) ∧ Below W.heap.size W w'

structure TB (w w' : World) (g : Nat) (cs : Array Value) (bs : List UInt8) : Prop where
  bld : Lib.IsBuilder 58 5 w.heap.size w.heap.size (Lib.byteCells bs) w'
  below : Below w.heap.size w w'
  box : w'.heap[g]? = some (.cells cs 44 (0, 0))
  ne : g ≠ w.heap.size

theorem TB.step {w w1 w2 : World} {g : Nat} {cs : Array Value} {bs : List UInt8} (h : TB w w1 g cs bs) (hb : Below w1.heap.size w1 w2) : TB w w2 g cs bs :=
  ⟨isBuilder_below h.bld hb, below_step h.below hb, (hb.block _ (Array.getElem?_eq_some_iff.1 h.box).1).trans h.box, h.ne⟩

theorem TB.write {w w1 : World} {g : Nat} {cs : Array Value} {bs : List UInt8} (h : TB w w1 g cs bs) (s : List UInt8) (hlen : bs.length + s.length ≤ 140737488355328) :
    Calls Tryz.prog 29 #[.pointer (some ⟨w.heap.size, 0, none⟩), .string ⟨s.toArray⟩] w1 fun e w' => e = .returned (.tuple #[.int .i64 s.length, .nilIface]) ∧ TB w w' g cs (bs ++ s) := by
  refine (writeString_calls w.heap.size w.heap.size (Lib.byteCells bs) ⟨s.toArray⟩ w1 h.bld (by rw [Lib.byteCells_length]; exact hlen) h.below.size).mono ?_
  rintro e w2 ⟨rfl, hB, hb, hk⟩
  refine ⟨rfl, ⟨.inr ?_, ?_, (hk g cs _ _ h.ne h.box (by decide)).trans h.box, h.ne⟩⟩
  · rw [Lib.byteCells_append]; exact hB
  · exact h.below.trans hb

theorem joined_five (u : World) (a b c d e : List UInt8) (ha : a.length ≤ 100) (hb : b.length ≤ 100) (hc : c.length ≤ 100) (hd : d.length ≤ 100) (he : e.length ≤ 100) :
    Calls Tryz.prog 30 #[.slice (some ⟨u.heap.size, 0, none⟩) 5 5] (u.alloc (.cells #[.string ⟨a.toArray⟩, .string ⟨b.toArray⟩, .string ⟨c.toArray⟩, .string ⟨d.toArray⟩, .string ⟨e.toArray⟩] 9)) fun e' w' =>
      e' = .returned (.string ⟨(Lib.join [a, b, c, d, e] [32]).toArray⟩) ∧ Below (u.alloc (.cells #[.string ⟨a.toArray⟩, .string ⟨b.toArray⟩, .string ⟨c.toArray⟩, .string ⟨d.toArray⟩, .string ⟨e.toArray⟩] 9)).heap.size (u.alloc (.cells #[.string ⟨a.toArray⟩, .string ⟨b.toArray⟩, .string ⟨c.toArray⟩, .string ⟨d.toArray⟩, .string ⟨e.toArray⟩] 9)) w' := by
  have hcell : (u.alloc (.cells #[.string ⟨a.toArray⟩, .string ⟨b.toArray⟩, .string ⟨c.toArray⟩, .string ⟨d.toArray⟩, .string ⟨e.toArray⟩] 9)).heap[u.heap.size]? = some (.cells #[.string ⟨a.toArray⟩, .string ⟨b.toArray⟩, .string ⟨c.toArray⟩, .string ⟨d.toArray⟩, .string ⟨e.toArray⟩] 9 (0, 0)) := (MapKept.heap_alloc u _).1
  have HJ := Lib.hid (Tryz.strings_Join u.heap.size 0 5 [⟨a.toArray⟩, ⟨b.toArray⟩, ⟨c.toArray⟩, ⟨d.toArray⟩, ⟨e.toArray⟩] ⟨#[32]⟩ (u.alloc (.cells #[.string ⟨a.toArray⟩, .string ⟨b.toArray⟩, .string ⟨c.toArray⟩, .string ⟨d.toArray⟩, .string ⟨e.toArray⟩] 9)) (by
    intro j x hx
    match j, hx with
    | 0, hx => simp at hx; subst hx; exact cellH hcell rfl
    | 1, hx => simp at hx; subst hx; exact cellH hcell rfl
    | 2, hx => simp at hx; subst hx; exact cellH hcell rfl
    | 3, hx => simp at hx; subst hx; exact cellH hcell rfl
    | 4, hx => simp at hx; subst hx; exact cellH hcell rfl
    | j + 5, hx => simp at hx) (by simp) (by simp) (by simp) (by
      simp only [List.map_cons, List.map_nil, Lib.join_cons, Lib.joinTail, List.flatten_cons, List.flatten_nil, List.length_append, List.length_nil, List.length_cons]
      omega))
  clear hcell
  go_enter Tryz.func30, Tryz.ntmps30
  go_wp2_with fail
  refine HJ.out.mono ?_
  rintro e' w1 ⟨rfl, hb1⟩
  have HB := Aside0.mk hb1
  clear hb1
  go_wp2
  go_ret
  exact ⟨rfl, HB.out⟩
end Go.Proofs.YtkfbhfmddmhiaaaGreatDoor.TJ
