/- What the checker's method all goes by: its maps, as plain data. Conditions: none beyond the blocks' being such maps. -/
import Derived.Test.YtmfjkepanmoeiaaGreatDoorC9
namespace Go.Proofs.YtmfjkepanmoeiaaGreatDoor.CJ
open Go.RowKit Go.Proofs.YtmfjkepanmoeiaaGreatDoorW.PrintWords Go.Proofs.YtmfjkepanmoeiaaGreatDoorW.PrintLast Go.Proofs.YtmfjkepanmoeiaaGreatDoor.PT Go.Proofs.YtmfjkepanmoeiaaGreatDoor.IMaps
set_option linter.unusedVariables false
set_option linter.unusedSimpArgs false
def hasG (bef : List GGl) (s : ByteArray) : Bool := bef.any fun b => b.f0.data.toList == s.data.toList
structure NM (wr : World) (N : Nat) (bef : List GGl) : Prop where
 names : ∃ l, SMaps.SM wr N l ∧ ∀ s : ByteArray, SMaps.lk s l = if hasG bef s then some (.bool true) else none
theorem NM.below {w w' : World} {N : Nat} {bef : List GGl} (h : NM w N bef) (hb : Below w.heap.size w w') : NM w' N bef := by
 obtain ⟨l, h1, h2⟩ := h.names
 exact ⟨l, h1.below hb, h2⟩
theorem NM.made (w : World) : NM (w.alloc (.map #[] 0)) w.heap.size [] := ⟨[], SMaps.SM.made w, fun _ => rfl⟩
theorem NM.lookup {w : World} {N : Nat} {bef : List GGl} (h : NM w N bef) (s : ByteArray) : (Instr.lookup 156 (.map (some N)) (.string s) false).run Tryz.prog w = .ok (.bool (hasG bef s)) w := by
 obtain ⟨l, i1, e1⟩ := h.names
 rw [SMaps.run_lookup i1 Tryz.underlying156 Tryz.underlying9 (z := .bool false) (by kernel_rfl) s false, e1]
 cases hasG bef s <;> rfl
theorem NM.put {w : World} {N : Nat} {bef : List GGl} (h : NM w N bef) (g : GGl) : ∃ w2, (Instr.mapUpdate 156 (.map (some N)) (.string g.f0) (.bool true)).run Tryz.prog w = .ok () w2 ∧ NM w2 N (bef ++ [g]) ∧ w.grownBy w2 (some N) := by
 obtain ⟨l, i1, e1⟩ := h.names
 obtain ⟨w2, hrun, hI, hg, _⟩ := SMaps.run_mapUpdate (P := Tryz.prog) i1 Tryz.underlying156 Tryz.underlying9 g.f0 (.bool true)
 refine ⟨w2, hrun, ⟨_, hI, fun s => ?_⟩, hg⟩
 rw [SMaps.lk_put, e1]
 unfold hasG
 rw [List.any_append]
 by_cases hs : g.f0 = s
 ·subst hs; simp
 ·have : (g.f0.data.toList == s.data.toList) = false := beq_eq_false_iff_ne.2 (fun e => hs (Go.WideShapes.bytes_inj e))
  rw [if_neg hs]
  simp only [List.any_cons, List.any_nil, this, Bool.or_false]
structure SN (wr : World) (m : Nat) (seen : List Int) : Prop where
 alts : ∃ l, IM wr m l ∧ ∀ n, lk n l = if seen.contains n then some (.bool true) else none
theorem SN.below {w w' : World} {m : Nat} {seen : List Int} (h : SN w m seen) (hb : Below w.heap.size w w') : SN w' m seen := by
 obtain ⟨l, h1, h2⟩ := h.alts
 exact ⟨l, h1.below hb, h2⟩
theorem SN.of_block {w w' : World} {m : Nat} {seen : List Int} (h : SN w m seen) (hb : w'.heap[m]? = w.heap[m]?) : SN w' m seen := by
 obtain ⟨l, h1, h2⟩ := h.alts
 exact ⟨l, h1.of_block hb, h2⟩
theorem SN.lt {w : World} {m : Nat} {seen : List Int} (h : SN w m seen) : m < w.heap.size := by obtain ⟨l, h1, _⟩ := h.alts; exact h1.lt
theorem SN.lookup {w : World} {m : Nat} {seen : List Int} (h : SN w m seen) (n : Int) : (Instr.lookup 106 (.map (some m)) (.int .i64 n) false).run Tryz.prog w = .ok (.bool (seen.contains n)) w := by
 obtain ⟨l, i1, e1⟩ := h.alts
 rw [run_lookup i1 Tryz.underlying106 Tryz.underlying3 (z := .bool false) (by kernel_rfl) n false, e1]
 cases seen.contains n <;> rfl
theorem SN.put {w : World} {m : Nat} {seen : List Int} (h : SN w m seen) (k : Int) : ∃ w2, (Instr.mapUpdate 106 (.map (some m)) (.int .i64 k) (.bool true)).run Tryz.prog w = .ok () w2 ∧ SN w2 m (seen ++ [k]) ∧ w.grownBy w2 (some m) := by
 obtain ⟨l, i1, e1⟩ := h.alts
 obtain ⟨w2, hrun, hI, hg, _⟩ := run_mapUpdate (P := Tryz.prog) i1 Tryz.underlying106 Tryz.underlying3 k (.bool true)
 refine ⟨w2, hrun, ⟨_, hI, fun n => ?_⟩, hg⟩
 rw [lk_put, e1]
 by_cases hn : k = n
 ·subst hn; simp
 ·have : ¬ n = k := fun e => hn e.symm
  rw [if_neg hn]
  simp [List.contains_eq_any_beq, List.any_append, this]
def altsOf (l : List GOp) : List Int := l.flatMap fun g => g.f6.map (·.f3)
def altsAll (bs : List GBk) : List Int := bs.flatMap fun b => altsOf b.f2
theorem chosen_eq (bs : List GBk) (n : Int) : (altsAll bs).contains n = chosenB bs n := by
 unfold altsAll altsOf chosenB
 rw [Bool.eq_iff_iff]
 simp only [List.contains_iff_mem, List.mem_flatMap, List.mem_map, List.any_eq_true, beq_iff_eq]
theorem take_flat {α β : Type} (f : α → List β) (l : List α) (i : Nat) (hi : i < l.length) : (l.take (i + 1)).flatMap f = (l.take i).flatMap f ++ f l[i] := by
 rw [List.take_succ_eq_append_getElem hi, List.flatMap_append]; simp
def LK (w0 ws : World) (m : Nat) (w : World) : Prop := Below w0.heap.size w0 w ∧ KeepQ m ws w
theorem LK.step {w0 ws w w' : World} {m : Nat} (h : LK w0 ws m w) (hm : m ≤ w.heap.size) (hb : Below w.heap.size w w') : LK w0 ws m w' := ⟨below_step h.1 hb, h.2.trans (KeepQ.of_below hb hm)⟩
structure CA (w0 ws wr : World) (p m : Nat) (A : Option Addr) (ca : Nat) (A2 : Option Addr) (cb : Nat) (bs : List GBk) (gl : List GGl) (seen : List Int) : Prop where
 box : wr.heap[p]? = some (.cells #[.slice A bs.length ca, .slice A2 gl.length cb, .map (some m)] 108 (0, 0))
 low : Below w0.heap.size w0 wr
 cm : CM w0 A ca A2 cb bs gl
 sn : SN wr m seen
 hm : w0.heap.size ≤ m
 ne : p ≠ m
 keep : KeepQ m ws wr
section
variable {w0 ws w w' : World} {p m : Nat} {A : Option Addr} {ca : Nat} {A2 : Option Addr} {cb : Nat} {bs : List GBk} {gl : List GGl} {seen : List Int}
theorem CA.ck (h : CA w0 ws w p m A ca A2 cb bs gl seen) : CK w p m A ca A2 cb bs gl := ⟨h.box, h.cm.below h.low⟩
theorem CA.lk (h : CA w0 ws w p m A ca A2 cb bs gl seen) : LK w0 ws m w := ⟨h.low, h.keep⟩
theorem CA.lt (h : CA w0 ws w p m A ca A2 cb bs gl seen) : p < w.heap.size := (Array.getElem?_eq_some_iff.1 h.box).1
theorem CA.below (h : CA w0 ws w p m A ca A2 cb bs gl seen) (hb : Below w.heap.size w w') : CA w0 ws w' p m A ca A2 cb bs gl seen :=
 ⟨(hb.block _ h.lt).trans h.box, below_step h.low hb, h.cm, h.sn.below hb, h.hm, h.ne, h.keep.trans (KeepQ.of_below hb (Nat.le_of_lt h.sn.lt))⟩
theorem CA.grown (h : CA w0 ws w p m A ca A2 cb bs gl seen) {N : Nat} (hg : w.grownBy w' (some N)) (h1 : w0.heap.size ≤ N) (h2 : N ≠ p) (h3 : N ≠ m) (h4 : ws.heap.size ≤ N) (h5 : m < N) : CA w0 ws w' p m A ca A2 cb bs gl seen :=
 ⟨(hg.block _ h.lt (fun e => by injection e with e; exact h2 e.symm)).trans h.box, h.low.grown hg h.low.size (fun k hk => by injection hk with hk; omega), h.cm, h.sn.of_block (hg.block _ h.sn.lt (fun e => by injection e with e; exact h3 e.symm)), h.hm, h.ne,
   ⟨h.keep.below.grown hg (Nat.le_of_lt h.sn.lt) (fun k hk => by injection hk with hk; omega), fun b hb hl => (hg.block b (Nat.lt_of_lt_of_le hl h.keep.below.size) (fun e => by injection e with e; omega)).trans (h.keep.rest b hb hl)⟩⟩
theorem CA.put (h : CA w0 ws w p m A ca A2 cb bs gl seen) (k : Int) : ∃ w2, (Instr.mapUpdate 106 (.map (some m)) (.int .i64 k) (.bool true)).run Tryz.prog w = .ok () w2 ∧ CA w0 ws w2 p m A ca A2 cb bs gl (seen ++ [k]) ∧ w.grownBy w2 (some m) := by
 obtain ⟨w2, hrun, hS, hg⟩ := h.sn.put k
 exact ⟨w2, hrun, ⟨(hg.block _ h.lt (fun e => by injection e with e; exact h.ne e)).trans h.box, h.low.grown hg h.low.size (fun k hk => by injection hk with hk; have := h.hm; omega), h.cm, hS, h.hm, h.ne,
  ⟨h.keep.below.grown hg (Nat.le_of_lt h.sn.lt) (fun k hk => by injection hk with hk; omega), fun b hb hl => (hg.block b (Nat.lt_of_lt_of_le hl h.keep.below.size) (fun e => by injection e with e; exact hb e)).trans (h.keep.rest b hb hl)⟩⟩, hg⟩
end
end Go.Proofs.YtmfjkepanmoeiaaGreatDoor.CJ
