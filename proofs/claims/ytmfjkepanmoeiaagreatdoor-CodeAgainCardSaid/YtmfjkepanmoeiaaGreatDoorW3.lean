/- The text of a code: bounds; where the writer stands. Conditions: the code is small. -/
import Derived.Test.YtmfjkepanmoeiaaGreatDoorY3
import Derived.Test.YtmfjkepanmoeiaaGreatDoorB
import Derived.Test.YtmfjkepanmoeiaaGreatDoorSh
namespace Go.Proofs.YtmfjkepanmoeiaaGreatDoor.CJ
open Go.RowKit Go.Proofs.YtmfjkepanmoeiaaGreatDoorW.PrintWords Go.Proofs.YtmfjkepanmoeiaaGreatDoorW.PrintLast Go.Proofs.YtmfjkepanmoeiaaGreatDoor.PT Go.Proofs.YtmfjkepanmoeiaaGreatDoor.IMaps Go.Proofs.YtmfjkepanmoeiaaGreatDoor.TJ
set_option linter.unusedVariables false
set_option linter.unusedSimpArgs false
def textR (bs : List GBk) (gl : List GGl) : Ending := if allK bs gl then .returned (.tuple #[.string ⟨(textB bs gl).toArray⟩, .int .i64 0]) else .returned (.tuple #[.string ⟨#[]⟩, .int .i64 41])
def opNl (g : GOp) : List UInt8 := opLineB g ++ [10]
theorem opNl_eq : opNl = fun g => opLineB g ++ [10] := rfl
structure TxO (g : GOp) : Prop where
 ol : OLk g
 l6 : g.f6.length ≤ 40
structure TxB (b : GBk) : Prop where
 n0 : Ok64 b.f0
 n1 : Ok64 b.f1
 l2 : b.f2.length ≤ 60
 ops : ∀ g ∈ b.f2, TxO g
structure TxC (bs : List GBk) (gl : List GGl) : Prop where
 nb : bs.length ≤ 1500
 ng : gl.length ≤ 400
 blocks : ∀ b ∈ bs, TxB b
 globs : ∀ g ∈ gl, g.f0.data.toList.length ≤ 60 ∧ Ok64 g.f1
theorem text_ok {bs : List GBk} {gl : List GGl} (h : SmC bs gl) (hw : WfC bs) : TxC bs gl := by
 have hnb := h.nb
 refine ⟨hnb.2, h.ng, fun b hb => ?_, fun g hg => ?_⟩
 ·have h1 := h.blocks b hb
  refine ⟨⟨by have := h1.n0; omega, by have := h1.n0; omega⟩, ⟨by have := h1.n1; omega, by have := h1.n1; omega⟩, h1.l2.2, fun g hg => ?_⟩
  have h2 := h1.ops g hg
  have h3 := hw b hb g hg
  refine ⟨⟨⟨⟨by have := h2.n1; omega, by have := h2.n1; omega⟩, ⟨by have := h2.n2; omega, by have := h2.n2; omega⟩, h3.1⟩, ?_, ⟨by have := h2.l5.1; omega, fun n hn => ?_⟩, by have := h2.l6.1; omega, fun a ha => ?_⟩, h2.l6.1⟩
  ·have := h2.s4
   simp only [Array.length_toList] at this
   show g.f4.data.size ≤ _
   omega
  ·have := h2.l5.2 n hn
   exact ⟨by omega, by omega⟩
  ·have h4 := h2.l6.2 a ha
   refine ⟨⟨by have := h4.n0; omega, by have := h4.n0; omega⟩, ?_, h3.2 a ha, ⟨by have := h4.n3; omega, by have := h4.n3; omega⟩⟩
   have := h4.s1
   simp only [Array.length_toList] at this
   show a.f1.data.size ≤ _
   omega
 ·have h1 := h.globs g hg
  exact ⟨h1.1, by omega, by omega⟩
theorem take_len {α β : Type} (f : α → List β) (m : Nat) (l : List α) (i : Nat) (h : ∀ a ∈ l, (f a).length ≤ m) : ((l.take i).flatMap f).length ≤ i * m := by
 have h1 := flat_len f m (l.take i) (fun a ha => h a (List.mem_of_mem_take ha))
 have h2 : (l.take i).length * m ≤ i * m := Nat.mul_le_mul_right m (List.length_take_le _ _)
 omega
theorem altLine_len (a : GAl) (h : Ok64 a.f0 ∧ a.f1.size ≤ 1000000 ∧ Ok64 a.f2 ∧ Ok64 a.f3) : (altLineB a).length ≤ 4000101 := by
 have := altJoin_len a h
 unfold altLineB
 rw [List.length_append, List.length_cons, List.length_nil]
 omega
theorem opLine_len {g : GOp} (h : TxO g) : (opLineB g).length ≤ 180090000 := by
 have h1 := opHead_len g h.ol
 have h2 := flat_len altLineB 4000101 g.f6 (fun a ha => altLine_len a (h.ol.alts.2 a ha))
 have h3 := h.l6
 unfold opLineB
 rw [List.length_append]
 omega
theorem opNl_len {g : GOp} (h : TxO g) : (opNl g).length ≤ 180100000 := by
 have := opLine_len h
 unfold opNl
 rw [List.length_append, List.length_cons, List.length_nil]
 omega
theorem head_len {b : GBk} (h : TxB b) : (blockHead b).length ≤ 100 := by
 have a1 := Lib.itoa_length_le b.f0 h.n0.1 h.n0.2
 have a2 := Lib.itoa_length_le b.f1 h.n1.1 h.n1.2
 have := join_le [32] (by decide) 21 [[98, 108, 111, 99, 107], Lib.itoa b.f0, Lib.itoa b.f1] (fun x hx => by
  simp only [List.mem_cons, List.not_mem_nil, or_false] at hx
  rcases hx with rfl | rfl | rfl
  ·decide
  ·exact a1
  ·exact a2)
 simp only [List.length_cons, List.length_nil] at this
 unfold blockHead
 omega
theorem globLine_len {g : GGl} (h : g.f0.data.toList.length ≤ 60 ∧ Ok64 g.f1) : (globLine g).length ≤ 190 := by
 have a2 := Lib.itoa_length_le g.f1 h.2.1 h.2.2
 have := join_le [32] (by decide) 60 [[103, 108, 111, 98, 97, 108], g.f0.data.toList, Lib.itoa g.f1] (fun x hx => by
  simp only [List.mem_cons, List.not_mem_nil, or_false] at hx
  rcases hx with rfl | rfl | rfl
  ·decide
  ·exact h.1
  ·omega)
 simp only [List.length_cons, List.length_nil] at this
 unfold globLine
 omega
theorem globText_len {g : GGl} (h : g.f0.data.toList.length ≤ 60 ∧ Ok64 g.f1) : (globTextB g).length ≤ 200 := by
 have := globLine_len h
 have e : globTextB g = globLine g ++ [10] := rfl
 rw [e, List.length_append, List.length_cons, List.length_nil]
 omega
theorem blockText_len {b : GBk} (h : TxB b) : (blockTextB b).length ≤ 11000000000 := by
 have h1 := head_len h
 have h2 := flat_len opNl 180100000 b.f2 (fun g hg => opNl_len (h.ops g hg))
 have h3 := h.l2
 have e : blockTextB b = (blockHead b ++ [10]) ++ b.f2.flatMap opNl := rfl
 rw [e, List.length_append, List.length_append, List.length_cons, List.length_nil]
 omega
structure TX (w wr : World) (b0 : Nat) (cc : Array Value) (acc : List UInt8) : Prop where
 bld : Lib.IsBuilder 97 5 w.heap.size b0 (Lib.byteCells acc) wr
 low : Below w.heap.size w wr
 box : wr.heap[w.heap.size]? = some (.cells cc 25 (0, 0))
 ne : w.heap.size < b0
theorem TX.lt {w wr : World} {b0 : Nat} {cc : Array Value} {acc : List UInt8} (h : TX w wr b0 cc acc) : b0 < wr.heap.size := by
 rcases h.bld with h | h
 ·exact h.lt
 ·exact h.lt
theorem TX.below {w wr w2 : World} {b0 : Nat} {cc : Array Value} {acc : List UInt8} (h : TX w wr b0 cc acc) (hb : Below wr.heap.size wr w2) : TX w w2 b0 cc acc :=
 ⟨isBuilder_below h.bld hb, below_step h.low hb, blk_below h.box hb, h.ne⟩
theorem TX.write {w wr : World} {b0 : Nat} {cc : Array Value} {acc : List UInt8} (h : TX w wr b0 cc acc) (s : List UInt8) (hlen : acc.length + s.length ≤ 140737488355328) :
 Calls Tryz.prog 59 #[.pointer (some ⟨b0, 0, none⟩), .string ⟨s.toArray⟩] wr fun e w' => ∃ n : Int, e = .returned (.tuple #[.int .i64 n, .nilIface]) ∧ TX w w' b0 cc (acc ++ s) ∧ KeepB b0 wr w' := by
 refine (writeString_calls w.heap.size b0 (Lib.byteCells acc) ⟨s.toArray⟩ wr h.bld (by rw [Lib.byteCells_length]; exact hlen) h.low.size).mono ?_
 rintro e w2 ⟨rfl, hB, hb, hk⟩
 refine ⟨_, rfl, ⟨.inr ?_, ?_, (hk w.heap.size cc _ _ (by have := h.ne; omega) h.box (by decide)).trans h.box, h.ne⟩, hk⟩
 ·rw [Lib.byteCells_append]; exact hB
 ·exact h.low.trans hb
end Go.Proofs.YtmfjkepanmoeiaaGreatDoor.CJ
