/- The checker of a code in memory, and its method block. Conditions: the checker lies in memory. -/
import Derived.Test.YtmfjkepanmoeiaaGreatDoorC4
namespace Go.Proofs.YtmfjkepanmoeiaaGreatDoor.CJ
open Go.RowKit Go.Proofs.YtmfjkepanmoeiaaGreatDoorW.PrintWords Go.Proofs.YtmfjkepanmoeiaaGreatDoor.PT Go.Proofs.YtmfjkepanmoeiaaGreatDoor.IMaps
set_option linter.unusedVariables false
set_option linter.unusedSimpArgs false
abbrev kOp : Kd GOp := k75
abbrev kAl : Kd GAl := k83
abbrev kBk : Kd GBk := k71
abbrev kGl : Kd GGl := k52
structure CM (w : World) (A : Option Addr) (ca : Nat) (A2 : Option Addr) (cb : Nat) (bs : List GBk) (gl : List GGl) : Prop where
 la : bs.length ≤ ca
 lb : gl.length ≤ cb
 ma : kBk.C w A bs.length bs
 mb : kGl.C w A2 gl.length gl
theorem CM.below {w w' : World} {A : Option Addr} {ca : Nat} {A2 : Option Addr} {cb : Nat} {bs : List GBk} {gl : List GGl} (h : CM w A ca A2 cb bs gl) (hb : Below w.heap.size w w') : CM w' A ca A2 cb bs gl :=
 ⟨h.la, h.lb, Kd.C_below h.ma hb, Kd.C_below h.mb hb⟩
structure CK (w : World) (p m : Nat) (A : Option Addr) (ca : Nat) (A2 : Option Addr) (cb : Nat) (bs : List GBk) (gl : List GGl) : Prop where
 box : w.heap[p]? = some (.cells #[.slice A bs.length ca, .slice A2 gl.length cb, .map (some m)] 108 (0, 0))
 cm : CM w A ca A2 cb bs gl
theorem CK.lt {w : World} {p m : Nat} {A : Option Addr} {ca : Nat} {A2 : Option Addr} {cb : Nat} {bs : List GBk} {gl : List GGl} (h : CK w p m A ca A2 cb bs gl) : p < w.heap.size := (Array.getElem?_eq_some_iff.1 h.box).1
theorem CK.below {w w' : World} {p m : Nat} {A : Option Addr} {ca : Nat} {A2 : Option Addr} {cb : Nat} {bs : List GBk} {gl : List GGl} (h : CK w p m A ca A2 cb bs gl) (hb : Below w.heap.size w w') : CK w' p m A ca A2 cb bs gl :=
 ⟨(hb.block _ h.lt).trans h.box, h.cm.below hb⟩
def BlkPost (w : World) : Option GBk → Ending → World → Prop
 | some b, e, w' => ∃ A c, e = .returned (.agg #[.int .i64 b.f0, .int .i64 b.f1, .slice A b.f2.length c]) ∧ b.f2.length ≤ c ∧ kOp.C w' A b.f2.length b.f2 ∧ Below w.heap.size w w'
 | none, e, w' => e = .panicked trouble ∧ Below w.heap.size w w'
theorem blk_in (bs : List GBk) (n : Int) (k : Int) (hk : k = bs.length) : inB n 0 (k - 1) = (blkC bs n).isSome := by
 unfold inB blkC
 by_cases h0 : 0 ≤ n
 ·simp only [h0, decide_true, Bool.true_and, if_true]
  by_cases h1 : n ≤ k - 1
  ·have : n.toNat < bs.length := by omega
   simp [h1, this]
  ·have : bs[n.toNat]? = none := List.getElem?_eq_none (by omega)
   simp [h1, this]
 ·simp [h0]
set_option maxHeartbeats 2000000 in
set_option maxRecDepth 100000 in
theorem block_calls (w : World) (p m : Nat) (A : Option Addr) (ca : Nat) (A2 : Option Addr) (cb : Nat) (bs : List GBk) (gl : List GGl) (n : Int) (h : CK w p m A ca A2 cb bs gl) :
 Calls Tryz.prog 115 #[.pointer (some ⟨p, 0, none⟩), .int .i64 n] w (BlkPost w (blkC bs n)) := by
 have c0 := cellH h.box (i := 0) rfl
 have hm : bs.length ≤ 9223372036854775807 := h.cm.ma.2.1
 have hp := h.lt
 have HW := Lib.hid (fun W => within_calls n 0 ((bs.length : Int) - 1) W)
 rw [blk_in bs n _ rfl] at HW
 cases hb : blkC bs n with
 | none =>
  rw [hb] at HW
  clear h hb
  go_enter Tryz.func115, Tryz.ntmps115
  go_wp2_with fail
  refine (HW.out _).mono ?_
  rintro e w1 ⟨rfl, rfl⟩
  go_wp2_with fail
  refine (demand_false _).mono ?_
  rintro e w1 ⟨rfl, rfl⟩
  go_wp2
  exact ⟨rfl, rfl, below_alloc (Below.refl _ _) _⟩
 | some b =>
  rw [hb] at HW
  have h0 : 0 ≤ n ∧ bs[n.toNat]? = some b := by
   unfold blkC at hb
   split at hb
   ·exact ⟨by assumption, hb⟩
   ·cases hb
  obtain ⟨hn0, hget⟩ := h0
  have hlt : n.toNat < bs.length := (List.getElem?_eq_some_iff.1 hget).1
  obtain ⟨ad, A1, c1, rfl, g0, g1, g2, l1, C1⟩ := at_T71 h.cm.ma n hn0 (by omega)
  have hrd : rd_T71 bs n = b := by simp [rd_T71, List.getD_eq_getElem?_getD, hget]
  rw [hrd] at g0 g1 g2 l1 C1
  have q0 := fun o => pw_cell_below (below_alloc (Below.refl w.heap.size w) o) g0
  have q1 := fun o => pw_cell_below (below_alloc (Below.refl w.heap.size w) o) g1
  have q2 := fun o => pw_cell_below (below_alloc (Below.refl w.heap.size w) o) g2
  have H := Lib.hid (And.intro l1 C1)
  clear h hb hrd hget l1 C1 g0 g1 g2
  go_enter Tryz.func115, Tryz.ntmps115
  go_wp2_with fail
  refine (HW.out _).mono ?_
  rintro e w1 ⟨rfl, rfl⟩
  go_wp2_with fail
  refine (demand_true _).mono ?_
  rintro e w1 ⟨rfl, rfl⟩
  go_wp2
  refine bodyPost_ret (v := .agg #[.int .i64 b.f0, .int .i64 b.f1, .slice A1 b.f2.length c1]) (by simp [results, Tryz.results115, go_sem]) rfl ?_
  have hb := (below_alloc (Below.refl w.heap.size w) (.cells #[.int .i64 b.f0, .int .i64 b.f1, .slice A1 b.f2.length c1] 71))
  exact ⟨A1, c1, rfl, H.out.1, Kd.C_below H.out.2 hb, hb⟩
end Go.Proofs.YtmfjkepanmoeiaaGreatDoor.CJ
