/- A code that grows, in memory: blocks, instructions and globals are added. Conditions: the code lies in memory. -/
import Derived.Test.YtmfjkepanmoeiaaGreatDoorN4
namespace Go.Proofs.YtmfjkepanmoeiaaGreatDoor.CJ
open Go.RowKit Go.Proofs.YtmfjkepanmoeiaaGreatDoorW.PrintWords Go.Proofs.YtmfjkepanmoeiaaGreatDoorW.PrintLast Go.Proofs.YtmfjkepanmoeiaaGreatDoor.PT Go.Proofs.YtmfjkepanmoeiaaGreatDoor.IMaps Go.Proofs.YtmfjkepanmoeiaaGreatDoor.TJ
set_option linter.unusedVariables false
set_option linter.unusedSimpArgs false
def KeepG (p : Nat) (w w' : World) : Prop := ∀ (k : Nat) (cs : Array Value) (T : Nat), k ≠ p → w.heap[k]? = some (.cells cs T (0, 0)) → T ≠ 71 → T ≠ 75 → T ≠ 52 → w'.heap[k]? = w.heap[k]?
theorem KeepG.below {p : Nat} {w w' : World} (h : Below w.heap.size w w') : KeepG p w w' := fun k _ _ _ hk _ _ _ => h.block k (blk_lt hk)
theorem KeepG.trans {p : Nat} {w w1 w2 : World} (h : KeepG p w w1) (h2 : KeepG p w1 w2) : KeepG p w w2 := fun k cs T hk hc h3 h4 h5 => by
 have e := h k cs T hk hc h3 h4 h5
 exact (h2 k cs T hk (e.trans hc) h3 h4 h5).trans e
structure GL (W : World) (B p : Nat) (vA vB : Value) (bs : List GBk) (gl : List GGl) : Prop where
 box : W.heap[p]? = some (.cells #[vA, vB] 25 (0, 0))
 hB : B ≤ p
 rA : Kd.S kBk 71 W B (fun _ => True) vA bs
 rB : kGl.R 52 W B (fun _ => True) vB gl
def GC (W : World) (B p : Nat) (bs : List GBk) (gl : List GGl) : Prop := ∃ vA vB, GL W B p vA vB bs gl
theorem GL.size {W : World} {B p : Nat} {vA vB : Value} {bs : List GBk} {gl : List GGl} (h : GL W B p vA vB bs gl) : B ≤ W.heap.size := by
 have := blk_lt h.box
 have := h.hB
 omega
theorem GL.below {W W' : World} {B p : Nat} {vA vB : Value} {bs : List GBk} {gl : List GGl} (h : GL W B p vA vB bs gl) (hb : Below W.heap.size W W') : GL W' B p vA vB bs gl :=
 ⟨blk_below h.box hb, h.hB, Kd.S_below h.rA hb, Kd.R_below h.rB hb⟩
def AdPost (w : World) (B p : Nat) : Option St → Ending → World → Prop
 | some c, e, w' => e = .returned (.tuple #[]) ∧ GC w' B p c.1 c.2 ∧ Below B w w' ∧ KeepG p w w'
 | none, e, w' => e = .panicked trouble ∧ Below B w w' ∧ KeepG p w w'
theorem GL.pushB {W w1 : World} {B p : Nat} {vA vB v1 : Value} {bs : List GBk} {gl : List GGl} {b : GBk} (h : GL W B p vA vB bs gl) (h1 : Kd.S kBk 71 w1 B (fun _ => True) v1 (bs ++ [b])) (hg : W.grownBy w1 vA.ownBlock) :
 GL (w1.setCell ⟨p, 0, none⟩ v1) B p v1 vB (bs ++ [b]) gl ∧ Below B W (w1.setCell ⟨p, 0, none⟩ v1) ∧ KeepG p W (w1.setCell ⟨p, 0, none⟩ v1) := by
 have hx1 := blk_grown h.box hg (Kd.S_ne h.rA h.box (by decide))
 have hb1 : Below B W w1 := (Below.refl B W).grown hg h.size (fun k hk => Kd.S_base h.rA k hk)
 have hR1 : kGl.R 52 w1 B (fun _ => True) vB gl := Kd.R_over' h.rB (Kd.S_typed h.rA) (by decide) hg
 refine ⟨⟨blk_set hx1 0 v1, h.hB, Kd.S_set h1 hx1 (by decide) 0 v1, Kd.R_set hR1 hx1 (by decide) 0 v1⟩, hb1.setCell (p := ⟨p, 0, none⟩) h.hB v1, fun k cs T hk hc n1 n2 n3 => ?_⟩
 exact (Below.heap_setCell _ _ _ _ hk).trans (hg.block k (blk_lt hc) (Kd.S_ne h.rA hc (Ne.symm n1)))
theorem GL.pushG {W w1 : World} {B p : Nat} {vA vB v1 : Value} {bs : List GBk} {gl : List GGl} {g : GGl} (h : GL W B p vA vB bs gl) (h1 : kGl.R 52 w1 B (fun _ => True) v1 (gl ++ [g])) (hg : W.grownBy w1 vB.ownBlock) :
 GL (w1.setCell ⟨p, 1, none⟩ v1) B p vA v1 bs (gl ++ [g]) ∧ Below B W (w1.setCell ⟨p, 1, none⟩ v1) ∧ KeepG p W (w1.setCell ⟨p, 1, none⟩ v1) := by
 have hx1 := blk_grown h.box hg (Kd.R_ne h.rB h.box (by decide))
 have hb1 : Below B W w1 := (Below.refl B W).grown hg h.size (fun k hk => Kd.R_base h.rB k hk)
 have hS1 : Kd.S kBk 71 w1 B (fun _ => True) vA bs := Kd.S_over' h.rA (Kd.R_typed h.rB) (by decide) hg
 refine ⟨⟨blk_set hx1 1 v1, h.hB, Kd.S_set hS1 hx1 (by decide) 1 v1, Kd.R_set h1 hx1 (by decide) 1 v1⟩, hb1.setCell (p := ⟨p, 1, none⟩) h.hB v1, fun k cs T hk hc n1 n2 n3 => ?_⟩
 exact (Below.heap_setCell _ _ _ _ hk).trans (hg.block k (blk_lt hc) (Kd.R_ne h.rB hc (Ne.symm n3)))
structure GO (W : World) (B p B0 : Nat) (g cap m : Nat) (v2 vB : Value) (pre : List GBk) (b : GBk) (gl : List GGl) (oki : Nat → Prop) : Prop where
 box : W.heap[p]? = some (.cells #[.slice (some ⟨g, 0, none⟩) (m + 1) cap, vB] 25 (0, 0))
 hB : B ≤ p
 hm : m = pre.length
 low : B ≤ B0 ∧ B0 ≤ W.heap.size
 cell : W.cell? ⟨g, m * 3 + 2, none⟩ = some v2
 free : W.frozen? ⟨g, m * 3 + 2, none⟩ = false
 typed : ∃ cells, W.heap[g]? = some (.cells cells 71 (0, 0))
 ops : kOp.R 75 W B (fun k => oki k ∨ B0 ≤ k) v2 b.f2
 own : ∀ k, v2.ownBlock = some k → oki k
 sub : ∀ k, oki k → k < B0 ∧ k ≠ g
 hH : Kd.H kBk 71 W B (fun k => True ∧ ¬ B0 ≤ k) (.slice (some ⟨g, 0, none⟩) (m + 1) cap) (pre ++ [b]) (m : Int) oki [.int .i64 b.f0, .int .i64 b.f1, v2]
 gB : B ≤ g ∧ g < B0
 rB : kGl.R 52 W B (fun _ => True) vB gl
theorem GL.lend {W0 W : World} {B p : Nat} {vA vB : Value} {pre : List GBk} {b : GBk} {gl : List GGl} (h : GL W0 B p vA vB (pre ++ [b]) gl) (hb : Below W0.heap.size W0 W) :
 ∃ g cap m v2 oki, vA = .slice (some ⟨g, 0, none⟩) (m + 1) cap ∧ GO W B p W0.heap.size g cap m v2 vB pre b gl oki := by
 obtain ⟨g, cap, hv, hg1, hg2, cells, hgc⟩ := Kd.S_form h.rA (by simp)
 subst hv
 have hS : Kd.S kBk 71 W B (fun k => True ∧ ¬ W0.heap.size ≤ k) (.slice (some ⟨g, 0, none⟩) (pre ++ [b]).length cap) (pre ++ [b]) :=
  Kd.S_mono (Kd.S_step (Kd.S_bound h.rA) (fun k hk hlt => hb.block k hk.2.2.1)) (fun k hk => ⟨trivial, by have := hk.2.2.1; omega⟩)
 obtain ⟨oki, c, hcl, hM, hcc, hfr, hoki, hH⟩ := Kd.S_elem hS z71 (pre.length : Int) (by omega) (by simp; omega)
 have hget : (pre ++ [b]).getD ((pre.length : Int)).toNat z71 = b := by simp
 rw [hget] at hM
 obtain ⟨v2, rfl, hR2⟩ := k71_openM hM
 have hlen : (pre ++ [b]).length = pre.length + 1 := by simp
 rw [hlen] at hH
 have hc2 := hcc 2 v2 rfl
 have hf2 := hfr 2
 have hsz3 : kBk.sz = 3 := rfl
 rw [hsz3, Int.toNat_natCast] at hc2 hf2
 have hbx := blk_below h.box hb
 rw [hlen] at hbx
 refine ⟨g, cap, pre.length, v2, oki, by rw [hlen], hbx, h.hB, rfl, ⟨h.size, hb.size⟩, hc2, hf2, ⟨cells, blk_below hgc hb⟩, Kd.R_mono hR2 (fun _ hk => .inl hk), fun k hk => hR2.1 k hk, fun k hk => ⟨by have := (hoki k hk).1; omega, (hoki k hk).2⟩, hH, ⟨hg1, hg2⟩, Kd.R_below h.rB hb⟩
theorem GO.below {W W' : World} {B p B0 g cap m : Nat} {v2 vB : Value} {pre : List GBk} {b : GBk} {gl : List GGl} {oki : Nat → Prop} (h : GO W B p B0 g cap m v2 vB pre b gl oki) (hb : Below W.heap.size W W') : GO W' B p B0 g cap m v2 vB pre b gl oki := by
 obtain ⟨cells, hgc⟩ := h.typed
 refine ⟨blk_below h.box hb, h.hB, h.hm, ⟨h.low.1, Nat.le_trans h.low.2 hb.size⟩, pw_cell_below hb h.cell, (hb.frozen (p := ⟨g, m * 3 + 2, none⟩) (blk_lt hgc)).trans h.free, ⟨cells, blk_below hgc hb⟩, Kd.R_below h.ops hb, h.own, h.sub, Kd.H_below h.hH hb, h.gB, Kd.R_below h.rB hb⟩
theorem GO.back {W w1 : World} {B p B0 g cap m : Nat} {v2 v1 vB : Value} {pre : List GBk} {b : GBk} {gl : List GGl} {oki : Nat → Prop} {x : GOp} (h : GO W B p B0 g cap m v2 vB pre b gl oki) (h1 : kOp.R 75 w1 B (fun k => oki k ∨ B0 ≤ k) v1 (b.f2 ++ [x])) (hg : W.grownBy w1 v2.ownBlock) :
 w1.cell? ⟨g, m * 3 + 2, none⟩ = some v2 ∧ w1.frozen? ⟨g, m * 3 + 2, none⟩ = false ∧ GL (w1.setCell ⟨g, m * 3 + 2, none⟩ v1) B p (.slice (some ⟨g, 0, none⟩) (m + 1) cap) vB (pre ++ [⟨b.f0, b.f1, b.f2 ++ [x]⟩]) gl ∧ Below B W (w1.setCell ⟨g, m * 3 + 2, none⟩ v1) ∧ KeepG p W (w1.setCell ⟨g, m * 3 + 2, none⟩ v1) := by
 obtain ⟨cells, hgc⟩ := h.typed
 have hgne : some g ≠ v2.ownBlock := fun e => (h.sub g (h.own g e.symm)).2 rfl
 have hgb := hg.block g (blk_lt hgc) hgne
 have hx1 := blk_grown h.box hg (Kd.R_ne h.ops h.box (by decide))
 have hpg : p ≠ g := blk_ne h.box hgc (by decide)
 have hH1 := Kd.H_grown h.hH hg (fun k hk => h.own k hk)
 have hM : kBk.M w1 B (fun k => oki k ∨ B0 ≤ k) (⟨b.f0, b.f1, b.f2 ++ [x]⟩ : GBk) [.int .i64 b.f0, .int .i64 b.f1, v1] := k71_mkM w1 B _ ⟨b.f0, b.f1, b.f2 ++ [x]⟩ h1
 have hone : v1.oneCell' = true := (Kd.R_val h1).2
 obtain ⟨hS2, hg2⟩ := Kd.S_seg (okg := fun k => B0 ≤ k) hH1 (Int.natCast_nonneg m) (by omega) (seg := [v1]) (j := 2) (show 2 + 1 ≤ 3 from Nat.le_refl 3) (x' := ⟨b.f0, b.f1, b.f2 ++ [x]⟩) hM (fun k hk => hk) (fun k hk => ⟨trivial, by have := h.gB.2; omega⟩)
 have hset : (pre ++ [b]).set ((m : Int)).toNat (⟨b.f0, b.f1, b.f2 ++ [x]⟩ : GBk) = pre ++ [⟨b.f0, b.f1, b.f2 ++ [x]⟩] := by
  rw [Int.toNat_natCast, h.hm, List.set_append_right _ _ (Nat.le_refl _), Nat.sub_self]; rfl
 rw [hset, Int.toNat_natCast] at hS2
 rw [Int.toNat_natCast] at hg2
 have hsz3 : kBk.sz = 3 := rfl
 rw [hsz3] at hS2 hg2
 have hR1 : kGl.R 52 w1 B (fun _ => True) vB gl := Kd.R_over' h.rB (Kd.R_typed h.ops) (by decide) hg
 have hb1 : Below B W w1 := (Below.refl B W).grown hg (Nat.le_trans h.low.1 h.low.2) (fun k hk => Kd.R_base h.ops k hk)
 have hgc1 := hgb.trans hgc
 refine ⟨?_, ?_, ⟨blk_far hx1 hpg v1, h.hB, hS2, Kd.R_set hR1 hgc1 (by decide) _ v1⟩, hb1.setCell (p := ⟨g, m * 3 + 2, none⟩) h.gB.1 v1, fun k cs T hk hc n1 n2 n3 => ?_⟩
 ·have := h.cell
  unfold World.cell? at this ⊢
  rw [hgb]; exact this
 ·have := h.free
  unfold World.frozen? at this ⊢
  rw [hgb]; exact this
 ·have hkg : k ≠ g := fun e => by
   rw [e, hgc] at hc
   injection hc with hc
   injection hc with _ hT
   exact n1 hT.symm
  exact (Below.heap_setCell _ _ _ _ hkg).trans (hg.block k (blk_lt hc) (Kd.R_ne h.ops hc (Ne.symm n2)))
end Go.Proofs.YtmfjkepanmoeiaaGreatDoor.CJ
