/- The text of a trace: the Go function Text answers as the plain function textT. Conditions: numbers' and accesses' texts as given; the text takes at most 2^47 bytes. -/
import Derived.Test.YtkfbhfmddmhiaaaGreatDoorT0
namespace Go.Proofs.YtkfbhfmddmhiaaaGreatDoor.TJ
open Go.RowKit Go.Proofs.YtkfbhfmddmhiaaaGreatDoorW.PrintWords Go.Proofs.YtkfbhfmddmhiaaaGreatDoorW.PrintLast Go.Proofs.YtkfbhfmddmhiaaaGreatDoor.PT Go.Proofs.YtkfbhfmddmhiaaaGreatDoor.IMaps
set_option linter.unusedVariables false
set_option linter.unusedSimpArgs false

def textF (acc : UInt8 → Ac → List UInt8) (l : List Ev) (i : Nat) : List UInt8 := textT acc (l.take i)

theorem textT_take (acc : UInt8 → Ac → List UInt8) (l : List Ev) (i : Nat) (h : i < l.length) : textT acc (l.take (i + 1)) = textT acc (l.take i) ++ evT acc (rd_T44 l (i : Int)) := by
  have e2 : rd_T44 l (i : Int) = l[i] := by simp [rd_T44, List.getD_eq_getElem?_getD, List.getElem?_eq_getElem h]
  rw [e2, List.take_succ_eq_append_getElem h]
  unfold textT
  rw [List.map_append, List.flatten_append, List.map_singleton, List.flatten_singleton]

theorem textT_le (acc : UInt8 → Ac → List UInt8) (l : List Ev) (i : Nat) : (textT acc (l.take i)).length ≤ (textT acc l).length := by
  have h : textT acc l = textT acc (l.take i) ++ textT acc (l.drop i) := by
    conv => lhs; rw [← List.take_append_drop i l]
    unfold textT
    rw [List.map_append, List.flatten_append]
  rw [h, List.length_append]
  omega

theorem part_len (l : List Ac) (f : Ac → List UInt8) (n : Nat) : ((l.take (n + 1)).map f).flatten.length ≤ (l.map f).flatten.length := by
  have h : (l.map f).flatten = ((l.take (n + 1)).map f).flatten ++ ((l.drop (n + 1)).map f).flatten := by
    rw [← List.flatten_append, ← List.map_append, List.take_append_drop]
  rw [h, List.length_append]
  omega

set_option maxRecDepth 100000 in
set_option maxHeartbeats 8000000 in
theorem text_calls (acc : UInt8 → Ac → List UInt8) (l : List Ev) (hl : l.length ≤ 140737488355328) (w : World) (A : Option Addr) (c : Nat) (hc : l.length ≤ c) (C1 : kEv.C w A l.length l)
    (hI : ∀ x ∈ l, ItoaAt w x.f0 ∧ ItoaAt w x.f1 ∧ ItoaAt w x.f2 ∧ ItoaAt w x.f3 ∧ ItoaAt w x.f4) (hA : ∀ x ∈ l, (∀ a ∈ x.f5, AccAt w acc a) ∧ ∀ a ∈ x.f6, AccAt w acc a) (hlen : (textT acc l).length ≤ 140737488355328) :
    Calls Tryz.prog 8 #[.slice A l.length c] w fun e w' => e = .returned (.string ⟨(textT acc l).toArray⟩) ∧ Below w.heap.size w w' := by
  have K1 := Aside0.mk C1
  have KI := Lib.hid hI
  have KA := Lib.hid hA
  have KL := Lib.hid hlen
  clear C1 hI hA hlen
  go_enter Tryz.func8, Tryz.ntmps8
  go_wp2
  go_loopw [12] (fun v wr => ∃ i : Nat, i ≤ l.length ∧ v = .int .i64 i ∧ Aside0 (Lib.IsBuilder 58 5 w.heap.size w.heap.size (Lib.byteCells (textF acc l i)) wr ∧ Below w.heap.size w wr)) (fun v _ => l.length - (intOf v).toNat)
  case atStart =>
    refine ⟨0, by omega, rfl, ⟨.inl ⟨Nat.le_refl _, .slice none 0 0, (MapKept.heap_alloc w _).1, own_nil _ _ _ _, by simp [Value.ownBlock]⟩, below_alloc (Below.refl _ _) _⟩⟩
  case round =>
    obtain ⟨i, hi, rfl, HB⟩ := hrel
    by_cases hlt : i < l.length
    · obtain ⟨ad, A5, c5, A6, c6, e3, hx0, hx1, hx2, hx3, hx4, hx5, hx6, g5, C5, g6, C6⟩ := at_T44 K1.out (i : Int) (by omega) (by omega)
      have hmem : rd_T44 l (i : Int) ∈ l := by
        have e2 : rd_T44 l (i : Int) = l[i] := by simp [rd_T44, List.getD_eq_getElem?_getD, List.getElem?_eq_getElem hlt]
        rw [e2]; exact List.getElem_mem _
      have HI := Lib.hid (KI.out _ hmem)
      have HA := Lib.hid (KA.out _ hmem)
      have hstep : textF acc l (i + 1) = textF acc l i ++ evT acc (rd_T44 l (i : Int)) := textT_take acc l i hlt
      have hle : (textF acc l (i + 1)).length ≤ 140737488355328 := Nat.le_trans (textT_le acc l (i + 1)) KL.out
      generalize hX : rd_T44 l (i : Int) = x at *
      clear hX hmem
      cases e3
      simp only [Int.toNat_natCast] at hx0 hx1 hx2 hx3 hx4 hx5 hx6
      have HBw := HB.out.2
      replace hx0 := (HBw.cell (World.block_lt_of_cell? w _ hx0)).trans hx0
      replace hx1 := (HBw.cell (World.block_lt_of_cell? w _ hx1)).trans hx1
      replace hx2 := (HBw.cell (World.block_lt_of_cell? w _ hx2)).trans hx2
      replace hx3 := (HBw.cell (World.block_lt_of_cell? w _ hx3)).trans hx3
      replace hx4 := (HBw.cell (World.block_lt_of_cell? w _ hx4)).trans hx4
      replace hx5 := (HBw.cell (World.block_lt_of_cell? w _ hx5)).trans hx5
      replace hx6 := (HBw.cell (World.block_lt_of_cell? w _ hx6)).trans hx6
      have KC := Lib.hid (And.intro (And.intro g5 C5) (And.intro g6 C6))
      have hm5 : x.f5.length ≤ 9223372036854775807 := C5.2.1
      have hm6 : x.f6.length ≤ 9223372036854775807 := C6.2.1
      generalize hbs : textF acc l i = bs at *
      have HST := Lib.hid (And.intro hstep hle)
      have HL1 : Hid (bs.length + (headT x).length ≤ 140737488355328) := by
        have h1 := hle
        rw [hstep] at h1
        simp only [evT, List.length_append] at h1
        exact Lib.hid (by omega)
      have hev : (wr.alloc (.cells #[.int .i64 x.f0, .int .i64 x.f1, .int .i64 x.f2, .int .i64 x.f3, .int .i64 x.f4, .slice A5 x.f5.length c5, .slice A6 x.f6.length c6] 44)).heap[wr.heap.size]? = some (.cells #[.int .i64 x.f0, .int .i64 x.f1, .int .i64 x.f2, .int .i64 x.f3, .int .i64 x.f4, .slice A5 x.f5.length c5, .slice A6 x.f6.length c6] 44 (0, 0)) := (MapKept.heap_alloc wr _).1
      have HT : Aside0 (TB w (wr.alloc (.cells #[.int .i64 x.f0, .int .i64 x.f1, .int .i64 x.f2, .int .i64 x.f3, .int .i64 x.f4, .slice A5 x.f5.length c5, .slice A6 x.f6.length c6] 44)).drew wr.heap.size #[.int .i64 x.f0, .int .i64 x.f1, .int .i64 x.f2, .int .i64 x.f3, .int .i64 x.f4, .slice A5 x.f5.length c5, .slice A6 x.f6.length c6] bs) := by
        have hsz := HBw.size
        have hlt2 : w.heap.size < wr.heap.size := by
          rcases HB.out.1 with h | h
          · exact h.lt
          · exact h.lt
        exact ⟨⟨isBuilder_below HB.out.1 (below_drew (below_alloc (Below.refl _ _) _)), below_drew (below_alloc HBw _), hev, by omega⟩⟩
      have f0 : (wr.alloc (.cells #[.int .i64 x.f0, .int .i64 x.f1, .int .i64 x.f2, .int .i64 x.f3, .int .i64 x.f4, .slice A5 x.f5.length c5, .slice A6 x.f6.length c6] 44)).drew.cell? ⟨wr.heap.size, 0, none⟩ = some (.int .i64 x.f0) := cellH hev rfl
      have f1 : (wr.alloc (.cells #[.int .i64 x.f0, .int .i64 x.f1, .int .i64 x.f2, .int .i64 x.f3, .int .i64 x.f4, .slice A5 x.f5.length c5, .slice A6 x.f6.length c6] 44)).drew.cell? ⟨wr.heap.size, 1, none⟩ = some (.int .i64 x.f1) := cellH hev rfl
      have f2 : (wr.alloc (.cells #[.int .i64 x.f0, .int .i64 x.f1, .int .i64 x.f2, .int .i64 x.f3, .int .i64 x.f4, .slice A5 x.f5.length c5, .slice A6 x.f6.length c6] 44)).drew.cell? ⟨wr.heap.size, 2, none⟩ = some (.int .i64 x.f2) := cellH hev rfl
      have f3 : (wr.alloc (.cells #[.int .i64 x.f0, .int .i64 x.f1, .int .i64 x.f2, .int .i64 x.f3, .int .i64 x.f4, .slice A5 x.f5.length c5, .slice A6 x.f6.length c6] 44)).drew.cell? ⟨wr.heap.size, 3, none⟩ = some (.int .i64 x.f3) := cellH hev rfl
      have f4 : (wr.alloc (.cells #[.int .i64 x.f0, .int .i64 x.f1, .int .i64 x.f2, .int .i64 x.f3, .int .i64 x.f4, .slice A5 x.f5.length c5, .slice A6 x.f6.length c6] 44)).drew.cell? ⟨wr.heap.size, 4, none⟩ = some (.int .i64 x.f4) := cellH hev rfl
      clear HBw g5 C5 g6 C6 hstep hle hbs hev
      go_wp2
      refine start_ (n := 18) (S := fun w' => w'.cell? ⟨wr.heap.size, 0, none⟩ = some (.int .i64 x.f0) ∧ w'.cell? ⟨wr.heap.size, 1, none⟩ = some (.int .i64 x.f1) ∧ w'.cell? ⟨wr.heap.size, 2, none⟩ = some (.int .i64 x.f2) ∧ w'.cell? ⟨wr.heap.size, 3, none⟩ = some (.int .i64 x.f3) ∧ w'.cell? ⟨wr.heap.size, 4, none⟩ = some (.int .i64 x.f4) ∧ Aside0 (TB w w' wr.heap.size #[.int .i64 x.f0, .int .i64 x.f1, .int .i64 x.f2, .int .i64 x.f3, .int .i64 x.f4, .slice A5 x.f5.length c5, .slice A6 x.f6.length c6] bs)) (ds := [17]) #[false, false, false, false, false, false, false, false, false, false, false, false, false, false, false, false, false, false] (by kernel_rfl) rfl rfl ⟨f0, f1, f2, f3, f4, HT⟩ (fun hHeld => ?_)
      refine pure_ (i := 0) (N := some 16) (v := ?_) (a' := ?_) #[true, false, false, false, false, false, false, false, false, false, false, false, false, false, false, false, false, false] rfl rfl (by kernel_rfl) (fun _ _ _ h => h) (Or.inl ⟨by rfl, ?_⟩) ?_ ?_
      rotate_left
      · intro w'
        go_simp
        with_reducible rfl
      rotate_left
      · simp only [Act.put, List.setIfInBounds_toArray, List.set_cons_zero, List.set_cons_succ, i64_w, i32_w]
        rfl
      refine pure_ (i := 3) (N := some 19) (v := ?_) (a' := ?_) #[true, false, false, true, false, false, false, false, false, false, false, false, false, false, false, false, false, false] rfl rfl (by kernel_rfl) (fun _ _ _ h => h) (Or.inl ⟨by rfl, ?_⟩) ?_ ?_
      rotate_left
      · intro w'
        go_simp
        with_reducible rfl
      rotate_left
      · simp only [Act.put, List.setIfInBounds_toArray, List.set_cons_zero, List.set_cons_succ, i64_w, i32_w]
        rfl
      refine pure_ (i := 6) (N := some 22) (v := ?_) (a' := ?_) #[true, false, false, true, false, false, true, false, false, false, false, false, false, false, false, false, false, false] rfl rfl (by kernel_rfl) (fun _ _ _ h => h) (Or.inl ⟨by rfl, ?_⟩) ?_ ?_
      rotate_left
      · intro w'
        go_simp
        with_reducible rfl
      rotate_left
      · simp only [Act.put, List.setIfInBounds_toArray, List.set_cons_zero, List.set_cons_succ, i64_w, i32_w]
        rfl
      refine pure_ (i := 9) (N := some 25) (v := ?_) (a' := ?_) #[true, false, false, true, false, false, true, false, false, true, false, false, false, false, false, false, false, false] rfl rfl (by kernel_rfl) (fun _ _ _ h => h) (Or.inl ⟨by rfl, ?_⟩) ?_ ?_
      rotate_left
      · intro w'
        go_simp
        with_reducible rfl
      rotate_left
      · simp only [Act.put, List.setIfInBounds_toArray, List.set_cons_zero, List.set_cons_succ, i64_w, i32_w]
        rfl
      refine pure_ (i := 12) (N := some 28) (v := ?_) (a' := ?_) #[true, false, false, true, false, false, true, false, false, true, false, false, true, false, false, false, false, false] rfl rfl (by kernel_rfl) (fun _ _ _ h => h) (Or.inl ⟨by rfl, ?_⟩) ?_ ?_
      rotate_left
      · intro w'
        go_simp
        with_reducible rfl
      rotate_left
      · simp only [Act.put, List.setIfInBounds_toArray, List.set_cons_zero, List.set_cons_succ, i64_w, i32_w]
        rfl
      refine take_ (i := 1) (N := some 17) (v := ?_) (a' := ?_) #[true, true, false, true, false, false, true, false, false, true, false, false, true, false, false, false, false, false] rfl rfl (by kernel_rfl) (fun _ _ _ h => h) (Or.inl ⟨by rfl, ?_⟩) hHeld ?_ ?_
      rotate_left
      · rintro w' ⟨s0, s1, s2, s3, s4, s5⟩
        go_simp
        with_reducible rfl
      rotate_left
      · simp only [Act.put, List.setIfInBounds_toArray, List.set_cons_zero, List.set_cons_succ, i64_w, i32_w]
        rfl
      refine take_ (i := 4) (N := some 20) (v := ?_) (a' := ?_) #[true, true, false, true, true, false, true, false, false, true, false, false, true, false, false, false, false, false] rfl rfl (by kernel_rfl) (fun _ _ _ h => h) (Or.inl ⟨by rfl, ?_⟩) hHeld ?_ ?_
      rotate_left
      · rintro w' ⟨s0, s1, s2, s3, s4, s5⟩
        go_simp
        with_reducible rfl
      rotate_left
      · simp only [Act.put, List.setIfInBounds_toArray, List.set_cons_zero, List.set_cons_succ, i64_w, i32_w]
        rfl
      refine take_ (i := 7) (N := some 23) (v := ?_) (a' := ?_) #[true, true, false, true, true, false, true, true, false, true, false, false, true, false, false, false, false, false] rfl rfl (by kernel_rfl) (fun _ _ _ h => h) (Or.inl ⟨by rfl, ?_⟩) hHeld ?_ ?_
      rotate_left
      · rintro w' ⟨s0, s1, s2, s3, s4, s5⟩
        go_simp
        with_reducible rfl
      rotate_left
      · simp only [Act.put, List.setIfInBounds_toArray, List.set_cons_zero, List.set_cons_succ, i64_w, i32_w]
        rfl
      refine take_ (i := 10) (N := some 26) (v := ?_) (a' := ?_) #[true, true, false, true, true, false, true, true, false, true, true, false, true, false, false, false, false, false] rfl rfl (by kernel_rfl) (fun _ _ _ h => h) (Or.inl ⟨by rfl, ?_⟩) hHeld ?_ ?_
      rotate_left
      · rintro w' ⟨s0, s1, s2, s3, s4, s5⟩
        go_simp
        with_reducible rfl
      rotate_left
      · simp only [Act.put, List.setIfInBounds_toArray, List.set_cons_zero, List.set_cons_succ, i64_w, i32_w]
        rfl
      refine take_ (i := 13) (N := some 29) (v := ?_) (a' := ?_) #[true, true, false, true, true, false, true, true, false, true, true, false, true, true, false, false, false, false] rfl rfl (by kernel_rfl) (fun _ _ _ h => h) (Or.inl ⟨by rfl, ?_⟩) hHeld ?_ ?_
      rotate_left
      · rintro w' ⟨s0, s1, s2, s3, s4, s5⟩
        go_simp
        with_reducible rfl
      rotate_left
      · simp only [Act.put, List.setIfInBounds_toArray, List.set_cons_zero, List.set_cons_succ, i64_w, i32_w]
        rfl
      refine one_ (i := 2) (N := some 18) #[true, true, true, true, true, false, true, true, false, true, true, false, true, true, false, false, false, false] rfl rfl (by kernel_rfl) (by decide) (fun K hK => ?_)
      refine goes_ Tryz.func31 (by kernel_rfl) rfl #[.int .i64 x.f0] (by rfl) rfl rfl (by simp only [List.map_toArray, List.map_cons, List.map_nil]; rfl) ?_
      with_reducible refine (HI.out.1.2 _ hHeld.2.2.2.2.2.out.below).mono ?_
      rintro e u1 ⟨rfl, hb1⟩
      refine ⟨_, rfl, ?_⟩
      refine hK.out _ _ ⟨pw_cell_below hb1 hHeld.1, pw_cell_below hb1 hHeld.2.1, pw_cell_below hb1 hHeld.2.2.1, pw_cell_below hb1 hHeld.2.2.2.1, pw_cell_below hb1 hHeld.2.2.2.2.1, ⟨hHeld.2.2.2.2.2.out.step hb1⟩⟩ (fun hHeld => ?_)
      clear hK K
      refine norm_ (a' := ?_) ?_ ?_
      rotate_left
      · show Act.put _ (some 18) _ = _
        simp only [Act.put, List.setIfInBounds_toArray, List.set_cons_zero, List.set_cons_succ, i64_w, i32_w]
        rfl
      refine one_ (i := 5) (N := some 21) #[true, true, true, true, true, true, true, true, false, true, true, false, true, true, false, false, false, false] rfl rfl (by kernel_rfl) (by decide) (fun K hK => ?_)
      refine goes_ Tryz.func31 (by kernel_rfl) rfl #[.int .i64 x.f1] (by rfl) rfl rfl (by simp only [List.map_toArray, List.map_cons, List.map_nil]; rfl) ?_
      with_reducible refine (HI.out.2.1.2 _ hHeld.2.2.2.2.2.out.below).mono ?_
      rintro e u2 ⟨rfl, hb2⟩
      refine ⟨_, rfl, ?_⟩
      refine hK.out _ _ ⟨pw_cell_below hb2 hHeld.1, pw_cell_below hb2 hHeld.2.1, pw_cell_below hb2 hHeld.2.2.1, pw_cell_below hb2 hHeld.2.2.2.1, pw_cell_below hb2 hHeld.2.2.2.2.1, ⟨hHeld.2.2.2.2.2.out.step hb2⟩⟩ (fun hHeld => ?_)
      clear hK K
      refine norm_ (a' := ?_) ?_ ?_
      rotate_left
      · show Act.put _ (some 21) _ = _
        simp only [Act.put, List.setIfInBounds_toArray, List.set_cons_zero, List.set_cons_succ, i64_w, i32_w]
        rfl
      refine one_ (i := 8) (N := some 24) #[true, true, true, true, true, true, true, true, true, true, true, false, true, true, false, false, false, false] rfl rfl (by kernel_rfl) (by decide) (fun K hK => ?_)
      refine goes_ Tryz.func31 (by kernel_rfl) rfl #[.int .i64 x.f2] (by rfl) rfl rfl (by simp only [List.map_toArray, List.map_cons, List.map_nil]; rfl) ?_
      with_reducible refine (HI.out.2.2.1.2 _ hHeld.2.2.2.2.2.out.below).mono ?_
      rintro e u3 ⟨rfl, hb3⟩
      refine ⟨_, rfl, ?_⟩
      refine hK.out _ _ ⟨pw_cell_below hb3 hHeld.1, pw_cell_below hb3 hHeld.2.1, pw_cell_below hb3 hHeld.2.2.1, pw_cell_below hb3 hHeld.2.2.2.1, pw_cell_below hb3 hHeld.2.2.2.2.1, ⟨hHeld.2.2.2.2.2.out.step hb3⟩⟩ (fun hHeld => ?_)
      clear hK K
      refine norm_ (a' := ?_) ?_ ?_
      rotate_left
      · show Act.put _ (some 24) _ = _
        simp only [Act.put, List.setIfInBounds_toArray, List.set_cons_zero, List.set_cons_succ, i64_w, i32_w]
        rfl
      refine one_ (i := 11) (N := some 27) #[true, true, true, true, true, true, true, true, true, true, true, true, true, true, false, false, false, false] rfl rfl (by kernel_rfl) (by decide) (fun K hK => ?_)
      refine goes_ Tryz.func31 (by kernel_rfl) rfl #[.int .i64 x.f3] (by rfl) rfl rfl (by simp only [List.map_toArray, List.map_cons, List.map_nil]; rfl) ?_
      with_reducible refine (HI.out.2.2.2.1.2 _ hHeld.2.2.2.2.2.out.below).mono ?_
      rintro e u4 ⟨rfl, hb4⟩
      refine ⟨_, rfl, ?_⟩
      refine hK.out _ _ ⟨pw_cell_below hb4 hHeld.1, pw_cell_below hb4 hHeld.2.1, pw_cell_below hb4 hHeld.2.2.1, pw_cell_below hb4 hHeld.2.2.2.1, pw_cell_below hb4 hHeld.2.2.2.2.1, ⟨hHeld.2.2.2.2.2.out.step hb4⟩⟩ (fun hHeld => ?_)
      clear hK K
      refine norm_ (a' := ?_) ?_ ?_
      rotate_left
      · show Act.put _ (some 27) _ = _
        simp only [Act.put, List.setIfInBounds_toArray, List.set_cons_zero, List.set_cons_succ, i64_w, i32_w]
        rfl
      refine one_ (i := 14) (N := some 30) #[true, true, true, true, true, true, true, true, true, true, true, true, true, true, true, false, false, false] rfl rfl (by kernel_rfl) (by decide) (fun K hK => ?_)
      refine goes_ Tryz.func31 (by kernel_rfl) rfl #[.int .i64 x.f4] (by rfl) rfl rfl (by simp only [List.map_toArray, List.map_cons, List.map_nil]; rfl) ?_
      with_reducible refine (HI.out.2.2.2.2.2 _ hHeld.2.2.2.2.2.out.below).mono ?_
      rintro e u5 ⟨rfl, hb5⟩
      refine ⟨_, rfl, ?_⟩
      refine hK.out _ _ ⟨pw_cell_below hb5 hHeld.1, pw_cell_below hb5 hHeld.2.1, pw_cell_below hb5 hHeld.2.2.1, pw_cell_below hb5 hHeld.2.2.2.1, pw_cell_below hb5 hHeld.2.2.2.2.1, ⟨hHeld.2.2.2.2.2.out.step hb5⟩⟩ (fun hHeld => ?_)
      clear hK K
      refine norm_ (a' := ?_) ?_ ?_
      rotate_left
      · show Act.put _ (some 30) _ = _
        simp only [Act.put, List.setIfInBounds_toArray, List.set_cons_zero, List.set_cons_succ, i64_w, i32_w]
        rfl
      refine one_ (i := 15) (N := some 31) #[true, true, true, true, true, true, true, true, true, true, true, true, true, true, true, true, false, false] rfl rfl (by kernel_rfl) (by decide) (fun K hK => ?_)
      refine value_ (w1 := ?_) (v := ?_) (by rfl) rfl ?_ ?_
      rotate_left 2
      · go_simp
        constructor
        · rfl
        · rfl
      refine hK.out _ _ ⟨pw_cell_below (below_alloc (Below.refl _ _) _) hHeld.1, pw_cell_below (below_alloc (Below.refl _ _) _) hHeld.2.1, pw_cell_below (below_alloc (Below.refl _ _) _) hHeld.2.2.1, pw_cell_below (below_alloc (Below.refl _ _) _) hHeld.2.2.2.1, pw_cell_below (below_alloc (Below.refl _ _) _) hHeld.2.2.2.2.1, ⟨hHeld.2.2.2.2.2.out.step (below_alloc (Below.refl _ _) _)⟩⟩ (fun hHeld => ?_)
      clear hK K
      refine norm_ (a' := ?_) ?_ ?_
      rotate_left
      · show Act.put _ (some 31) _ = _
        simp only [Act.put, List.setIfInBounds_toArray, List.set_cons_zero, List.set_cons_succ, i64_w, i32_w]
        rfl
      refine one_ (i := 16) (N := some 32) #[true, true, true, true, true, true, true, true, true, true, true, true, true, true, true, true, true, false] rfl rfl (by kernel_rfl) (by decide) (fun K hK => ?_)
      refine goes_ Tryz.func30 (by kernel_rfl) rfl #[.slice (some ⟨u5.heap.size, 0, none⟩) 5 5] (by rfl) rfl rfl (by simp only [List.map_toArray, List.map_cons, List.map_nil]; rfl) ?_
      with_reducible refine (joined_five u5 _ _ _ _ _ HI.out.1.1 HI.out.2.1.1 HI.out.2.2.1.1 HI.out.2.2.2.1.1 HI.out.2.2.2.2.1).mono ?_
      rintro e u6 ⟨rfl, hb6⟩
      refine ⟨_, rfl, ?_⟩
      refine hK.out _ _ ⟨pw_cell_below hb6 hHeld.1, pw_cell_below hb6 hHeld.2.1, pw_cell_below hb6 hHeld.2.2.1, pw_cell_below hb6 hHeld.2.2.2.1, pw_cell_below hb6 hHeld.2.2.2.2.1, ⟨hHeld.2.2.2.2.2.out.step hb6⟩⟩ (fun hHeld => ?_)
      clear hK K
      refine norm_ (a' := ?_) ?_ ?_
      rotate_left
      · show Act.put _ (some 32) _ = _
        simp only [Act.put, List.setIfInBounds_toArray, List.set_cons_zero, List.set_cons_succ, i64_w, i32_w]
        rfl
      refine last_ (i := 17) (N := some 33) #[true, true, true, true, true, true, true, true, true, true, true, true, true, true, true, true, true, true] rfl rfl (by kernel_rfl) (by decide) (fun K hK => ?_)
      refine goes_ Tryz.func29 (by kernel_rfl) rfl #[.pointer (some ⟨w.heap.size, 0, none⟩), .string ⟨(headT x).toArray⟩] (by rfl) rfl rfl (by simp only [List.map_toArray, List.map_cons, List.map_nil]; rfl) ?_
      with_reducible refine (TB.write hHeld.2.2.2.2.2.out _ HL1.out).mono ?_
      rintro e u7 ⟨rfl, HT7⟩
      refine ⟨_, rfl, ?_⟩
      refine hK.out _ _ ?_
      clear hK K
      refine norm_ (a' := ?_) ?_ ?_
      rotate_left
      · show Act.put _ (some 33) _ = _
        simp only [Act.put, List.setIfInBounds_toArray, List.set_cons_zero, List.set_cons_succ, i64_w, i32_w]
        rfl
      refine done_ (by kernel_rfl) ?_

      have HT7' := Aside0.mk HT7
      clear HT7
      obtain ⟨wo, rfl⟩ : ∃ wo : World, wo = wr := ⟨_, rfl⟩
      have hb5 := HT7'.out.box
      have e5 : u7.cell? ⟨wo.heap.size, 5, none⟩ = some (.slice A5 x.f5.length c5) := cellH hb5 rfl
      clear hb5
      go_wp2
      go_loopw [37] (fun v wr => ∃ n : Nat, n ≤ x.f5.length ∧ v = .int .i64 n ∧ Aside0 (TB w wr wo.heap.size #[.int .i64 x.f0, .int .i64 x.f1, .int .i64 x.f2, .int .i64 x.f3, .int .i64 x.f4, .slice A5 x.f5.length c5, .slice A6 x.f6.length c6] (bs ++ headT x ++ ((x.f5.take n).map (acc 114)).flatten))) (fun v _ => x.f5.length - (intOf v).toNat)
      case atStart => exact ⟨0, by omega, rfl, ⟨by simpa using HT7'.out⟩⟩
      case round =>
        clear e5
        obtain ⟨n, hn, rfl, HN⟩ := hrel
        by_cases hnl : n < x.f5.length
        · obtain ⟨ad2, A3, c3, e3, hy0, hy1, hy2, hy3, hy4, hyl, hyC⟩ := at_T51 KC.out.1.2 (n : Int) (by omega) (by omega)
          have hmem : rd_T51 x.f5 (n : Int) ∈ x.f5 := by
            have e2 : rd_T51 x.f5 (n : Int) = x.f5[n] := by simp [rd_T51, List.getD_eq_getElem?_getD, List.getElem?_eq_getElem hnl]
            rw [e2]; exact List.getElem_mem _
          have hst : ((x.f5.take (n + 1)).map (acc 114)).flatten = ((x.f5.take n).map (acc 114)).flatten ++ acc 114 (rd_T51 x.f5 (n : Int)) := by
            have e2 : rd_T51 x.f5 (n : Int) = x.f5[n] := by simp [rd_T51, List.getD_eq_getElem?_getD, List.getElem?_eq_getElem hnl]
            rw [e2, List.take_succ_eq_append_getElem hnl, List.map_append, List.flatten_append, List.map_singleton, List.flatten_singleton]
          have hAC := Lib.hid (HA.out.1 _ hmem)
          have hpl := part_len (x.f5) (acc 114) n
          generalize hX : rd_T51 x.f5 (n : Int) = y at *
          clear hX hmem
          cases e3
          simp only [Int.toNat_natCast] at hy0 hy1 hy2 hy3 hy4
          have HBw := HN.out.below
          replace hy0 := (HBw.cell (World.block_lt_of_cell? w _ hy0)).trans hy0
          replace hy1 := (HBw.cell (World.block_lt_of_cell? w _ hy1)).trans hy1
          replace hy2 := (HBw.cell (World.block_lt_of_cell? w _ hy2)).trans hy2
          replace hy3 := (HBw.cell (World.block_lt_of_cell? w _ hy3)).trans hy3
          replace hy4 := (HBw.cell (World.block_lt_of_cell? w _ hy4)).trans hy4
          have hlen2 : (bs ++ headT x ++ ((x.f5.take n).map (acc 114)).flatten).length + (acc 114 y).length ≤ 140737488355328 := by
            have h1 := HST.out.2
            rw [HST.out.1] at h1
            simp only [evT, List.length_append] at h1
            have h2 := hpl
            rw [hst] at h2
            simp only [List.length_append] at h2 ⊢
            omega
          have HLn := Lib.hid (And.intro hst hlen2)
          have hyC' := Kd.C_below hyC HBw
          have HC2 := Lib.hid (And.intro hyl hyC')
          clear HBw hst hlen2 hpl hyC hyl hyC'
          go_wp2_with fail
          refine (hAC.out _ 114 A3 c3 (by simp) (below_alloc HN.out.below _) HC2.out.1 (Kd.C_below HC2.out.2 (below_alloc (Below.refl _ _) _))).mono ?_
          rintro e v1 ⟨rfl, hb1⟩
          have HN1 := Aside0.mk (HN.out.step (below_step (below_alloc (Below.refl _ _) _) hb1))
          clear hb1
          go_wp2_with fail
          refine (TB.write HN1.out _ HLn.out.2).mono ?_
          rintro e v2 ⟨rfl, HN2⟩
          have HN3 := Aside0.mk HN2
          clear HN2
          go_wp2
          go_roundw
          case rel => exact ⟨n + 1, by omega, by go_num, ⟨by rw [HLn.out.1, ← List.append_assoc]; exact HN3.out⟩⟩
          case measure => simp [intOf]; omega
        · have hne : n = x.f5.length := by omega
          subst hne
          have HN' := HN.out
          rw [List.take_of_length_le (Nat.le_refl _)] at HN'
          have HTa := Aside0.mk HN'
          clear HN HN'
          have hb6 := HTa.out.box
          have e6 : wr.cell? ⟨wo.heap.size, 6, none⟩ = some (.slice A6 x.f6.length c6) := cellH hb6 rfl
          clear hb6
          go_wp2
          go_loopw [48] (fun v wr => ∃ n : Nat, n ≤ x.f6.length ∧ v = .int .i64 n ∧ Aside0 (TB w wr wo.heap.size #[.int .i64 x.f0, .int .i64 x.f1, .int .i64 x.f2, .int .i64 x.f3, .int .i64 x.f4, .slice A5 x.f5.length c5, .slice A6 x.f6.length c6] ((bs ++ headT x ++ (x.f5.map (acc 114)).flatten) ++ ((x.f6.take n).map (acc 119)).flatten))) (fun v _ => x.f6.length - (intOf v).toNat)
          case atStart => exact ⟨0, by omega, rfl, ⟨by simpa using HTa.out⟩⟩
          case round =>
            clear e6
            obtain ⟨n, hn, rfl, HN⟩ := hrel
            by_cases hnl : n < x.f6.length
            · obtain ⟨ad2, A3, c3, e3, hy0, hy1, hy2, hy3, hy4, hyl, hyC⟩ := at_T51 KC.out.2.2 (n : Int) (by omega) (by omega)
              have hmem : rd_T51 x.f6 (n : Int) ∈ x.f6 := by
                have e2 : rd_T51 x.f6 (n : Int) = x.f6[n] := by simp [rd_T51, List.getD_eq_getElem?_getD, List.getElem?_eq_getElem hnl]
                rw [e2]; exact List.getElem_mem _
              have hst : ((x.f6.take (n + 1)).map (acc 119)).flatten = ((x.f6.take n).map (acc 119)).flatten ++ acc 119 (rd_T51 x.f6 (n : Int)) := by
                have e2 : rd_T51 x.f6 (n : Int) = x.f6[n] := by simp [rd_T51, List.getD_eq_getElem?_getD, List.getElem?_eq_getElem hnl]
                rw [e2, List.take_succ_eq_append_getElem hnl, List.map_append, List.flatten_append, List.map_singleton, List.flatten_singleton]
              have hAC := Lib.hid (HA.out.2 _ hmem)
              have hpl := part_len (x.f6) (acc 119) n
              generalize hX : rd_T51 x.f6 (n : Int) = y at *
              clear hX hmem
              cases e3
              simp only [Int.toNat_natCast] at hy0 hy1 hy2 hy3 hy4
              have HBw := HN.out.below
              replace hy0 := (HBw.cell (World.block_lt_of_cell? w _ hy0)).trans hy0
              replace hy1 := (HBw.cell (World.block_lt_of_cell? w _ hy1)).trans hy1
              replace hy2 := (HBw.cell (World.block_lt_of_cell? w _ hy2)).trans hy2
              replace hy3 := (HBw.cell (World.block_lt_of_cell? w _ hy3)).trans hy3
              replace hy4 := (HBw.cell (World.block_lt_of_cell? w _ hy4)).trans hy4
              have hlen2 : ((bs ++ headT x ++ (x.f5.map (acc 114)).flatten) ++ ((x.f6.take n).map (acc 119)).flatten).length + (acc 119 y).length ≤ 140737488355328 := by
                have h1 := HST.out.2
                rw [HST.out.1] at h1
                simp only [evT, List.length_append] at h1
                have h2 := hpl
                rw [hst] at h2
                simp only [List.length_append] at h2 ⊢
                omega
              have HLn := Lib.hid (And.intro hst hlen2)
              have hyC' := Kd.C_below hyC HBw
              have HC2 := Lib.hid (And.intro hyl hyC')
              clear HBw hst hlen2 hpl hyC hyl hyC'
              go_wp2_with fail
              refine (hAC.out _ 119 A3 c3 (by simp) (below_alloc HN.out.below _) HC2.out.1 (Kd.C_below HC2.out.2 (below_alloc (Below.refl _ _) _))).mono ?_
              rintro e v1 ⟨rfl, hb1⟩
              have HN1 := Aside0.mk (HN.out.step (below_step (below_alloc (Below.refl _ _) _) hb1))
              clear hb1
              go_wp2_with fail
              refine (TB.write HN1.out _ HLn.out.2).mono ?_
              rintro e v2 ⟨rfl, HN2⟩
              have HN3 := Aside0.mk HN2
              clear HN2
              go_wp2
              go_roundw
              case rel => exact ⟨n + 1, by omega, by go_num, ⟨by rw [HLn.out.1, ← List.append_assoc]; exact HN3.out⟩⟩
              case measure => simp [intOf]; omega
            · have hne : n = x.f6.length := by omega
              subst hne
              have HN' := HN.out
              rw [List.take_of_length_le (Nat.le_refl _)] at HN'
              have HTb := Aside0.mk HN'
              clear HN HN'
              have HLz : Hid ((bs ++ headT x ++ (x.f5.map (acc 114)).flatten ++ (x.f6.map (acc 119)).flatten).length + [(10 : UInt8)].length ≤ 140737488355328) := by
                have h1 := HST.out.2
                rw [HST.out.1] at h1
                simp only [evT, List.length_append, List.length_cons, List.length_nil] at h1
                simp only [List.length_append, List.length_cons, List.length_nil]
                exact Lib.hid (by omega)
              go_wp2_with fail
              refine (TB.write HTb.out [10] HLz.out).mono ?_
              rintro e v3 ⟨rfl, HN3⟩
              have HZ : Aside0 (Lib.IsBuilder 58 5 w.heap.size w.heap.size (Lib.byteCells (textF acc l (i + 1))) v3 ∧ Below w.heap.size w v3) := by
                rw [HST.out.1]
                have h1 := HN3.bld
                simp only [List.append_assoc] at h1
                exact ⟨⟨h1, HN3.below⟩⟩
              clear HN3
              go_wp2
              go_roundw
              case rel => exact ⟨i + 1, by omega, by go_num, HZ⟩
              case measure => simp [intOf]; omega
    · have hje : i = l.length := by omega
      subst hje
      have HE : Aside0 (Lib.IsBuilder 58 5 w.heap.size w.heap.size (Lib.byteCells (textT acc l)) wr ∧ Below w.heap.size w wr) := by
        have := HB.out
        unfold textF at this
        rw [List.take_of_length_le (Nat.le_refl _)] at this
        exact ⟨this⟩
      go_wp2_with fail
      refine (Tryz.Builder_String_any w.heap.size w.heap.size (textT acc l) wr HE.out.1 HE.out.2.size).mono ?_
      rintro e v4 ⟨rfl, hb4⟩
      have HE4 := Aside0.mk (HE.out.2.trans hb4)
      clear hb4
      go_wp2
      go_ret
      exact ⟨rfl, HE4.out⟩
end Go.Proofs.YtkfbhfmddmhiaaaGreatDoor.TJ
