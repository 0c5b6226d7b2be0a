/- The reference's small functions for a trace, as plain functions: how many threads were made, which exception is due, whether variables ascend, whether two values are near, what is put out; and the two sums of bytes are one. Conditions: what is read is not too long. -/
import Derived.Test.YtkfbhfmddmhiaaaGreatDoorRBL
import Derived.Test.YtkfbhfmddmhiaaaGreatDoorJJ
import Derived.Test.YtkfbhfmddmhiaaaGreatDoorPP
namespace Go.Proofs.YtkfbhfmddmhiaaaGreatDoor.TJ
open Go.RowKit Go.Proofs.YtkfbhfmddmhiaaaGreatDoorW.PrintWords Go.Proofs.YtkfbhfmddmhiaaaGreatDoorW.PrintLast Go.Proofs.YtkfbhfmddmhiaaaGreatDoor.PT Go.Proofs.YtkfbhfmddmhiaaaGreatDoor.IMaps
set_option linter.unusedVariables false
set_option linter.unusedSimpArgs false

theorem up1 (i n : Nat) (h : i < n) (hn : n ≤ 4000000) : wrap64 ((i : Int) + 1) = ((i + 1 : Nat) : Int) := by rw [IntWalk.wrap64_in _ (by omega)]; rfl
theorem up1b (i n : Nat) (h : i < n) (hn : n ≤ 9223372036854775807) : wrap64 ((i : Int) + 1) = ((i + 1 : Nat) : Int) := by rw [IntWalk.wrap64_in _ (by omega)]; rfl

theorem sum_loop (s : ByteArray) (hs : s.size ≤ 9223372036854775807) : ∀ (m i : Nat), s.size - i ≤ m → i ≤ s.size → ∀ a b : Int, ∃ r, Go.Proofs.YtkfbhfmddmhiaaaGreatDoorW.PrintWords.Ev (fun k => code_Sum.l0 k s a b (s.size : Int) (i : Int)) r ∧ Go.Proofs.YtkfbhfmddmhiaaaGreatDoorW.PrintWords.Ev (fun k => damaskref21_Sum.l0 k s a b (i : Int)) r := by
  have done : ∀ i : Nat, ¬ i < s.size → ∀ a b : Int, ∃ r, Go.Proofs.YtkfbhfmddmhiaaaGreatDoorW.PrintWords.Ev (fun k => code_Sum.l0 k s a b (s.size : Int) (i : Int)) r ∧ Go.Proofs.YtkfbhfmddmhiaaaGreatDoorW.PrintWords.Ev (fun k => damaskref21_Sum.l0 k s a b (i : Int)) r := by
    intro i hi a b
    refine ⟨wrap64 ((wrap64 (b * 65536)) + a), Ev.step (fun k => by simp only [code_Sum.l0]; rw [if_neg (by omega)]) (Ev.now _), Ev.step (fun k => by simp only [damaskref21_Sum.l0]; rw [if_neg (by omega), Int.mul_comm]) (Ev.now _)⟩
  intro m
  induction m with
  | zero => intro i hm hi; exact done i (by omega)
  | succ m ih =>
    intro i hm hi a b
    by_cases h : i < s.size
    · have e2 := up1b i s.size h hs
      obtain ⟨r, h1, h2⟩ := ih (i + 1) (by omega) (by omega) (Int.tmod (wrap64 (a + (wrap64 (bt s (i : Int))))) 65521) (Int.tmod (wrap64 (b + (Int.tmod (wrap64 (a + (wrap64 (bt s (i : Int))))) 65521))) 65521)
      exact ⟨r, Ev.step (fun k => by simp only [code_Sum.l0]; rw [if_pos (by omega), if_pos (by omega), if_pos (by omega), e2]) h1, Ev.step (fun k => by simp only [damaskref21_Sum.l0]; rw [if_pos (by omega), if_pos (by omega), e2]) h2⟩
    · exact done i h a b
theorem sum_ok (s : ByteArray) (hs : s.size ≤ 9223372036854775807) : ∃ r k j, code_Sum.f k s = some r ∧ damaskref21_Sum.f j s = some r := by
  obtain ⟨r, h1, h2⟩ := sum_loop s hs s.size 0 (by omega) (by omega) 1 0
  obtain ⟨k, hk⟩ := Ev.rounds h1
  obtain ⟨j, hj⟩ := Ev.rounds h2
  exact ⟨r, k, j, hk, hj⟩

theorem takeS (l : List Ev) (i : Nat) (h : i < l.length) : l.take (i + 1) = l.take i ++ [l[i]] := List.take_succ_eq_append_getElem h
theorem madeN_le (p : List Ev) : madeN p ≤ p.length := List.length_filter_le _ _
theorem made_loop (l : List Ev) (at_ : Nat) (hat : at_ ≤ l.length) (hl : l.length ≤ 4000000) : ∀ (m i : Nat), at_ - i ≤ m → i ≤ at_ → Go.Proofs.YtkfbhfmddmhiaaaGreatDoorW.PrintWords.Ev (fun k => damaskref27_made.l0 k l (at_ : Int) (madeN (l.take i) : Int) (i : Int)) (madeN (l.take at_) : Int) := by
  have done : ∀ i : Nat, i ≤ at_ → ¬ i < at_ → Go.Proofs.YtkfbhfmddmhiaaaGreatDoorW.PrintWords.Ev (fun k => damaskref27_made.l0 k l (at_ : Int) (madeN (l.take i) : Int) (i : Int)) (madeN (l.take at_) : Int) := by
    intro i h1 h2
    have : i = at_ := by omega
    subst this
    exact Ev.step (fun k => by simp only [damaskref27_made.l0]; rw [if_neg (by omega)]) (Ev.now _)
  intro m
  induction m with
  | zero => intro i hm hi; exact done i hi (by omega)
  | succ m ih =>
    intro i hm hi
    by_cases h : i < at_
    · have e2 := up1 i l.length (by omega) hl
      have := ih (i + 1) (by omega) (by omega)
      rw [takeS l i (by omega), madeN_snoc] at this
      have hle := madeN_le (l.take i)
      rw [List.length_take] at hle
      have e3 : wrap64 ((madeN (l.take i) : Int) + 1) = ((madeN (l.take i) + 1 : Nat) : Int) := up1 _ 4000000 (by omega) (by omega)
      refine Ev.step (fun k => by simp only [damaskref27_made.l0]; rw [if_pos (by omega), if_pos (by omega), if_pos (by omega), rdE2 _ _ (by omega), e2, e3]) ?_
      by_cases h3 : l[i].f2 = 3
      · simp only [if_pos h3] at this ⊢; exact this
      · simp only [if_neg h3, Nat.add_zero] at this ⊢; exact this
    · exact done i hi h
theorem made_ok (l : List Ev) (at_ : Nat) (hat : at_ ≤ l.length) (hl : l.length ≤ 4000000) : ∃ k, damaskref27_made.f k l (at_ : Int) = some (madeN (l.take at_) : Int) :=
  Ev.rounds (made_loop l at_ hat hl at_ 0 (by omega) (by omega))

def dueR : Option Int → Int × Bool
  | some a => (a, true)
  | none => (0, false)
theorem sentN_le (p : List Ev) (n : Int) : (sentN p n).length ≤ p.length := by unfold sentN; rw [List.length_map]; exact List.length_filter_le _ _
theorem takenN_le (p : List Ev) (n : Int) : takenN p n ≤ p.length := List.length_filter_le _ _
theorem due_loop (l : List Ev) (at_ : Nat) (hat : at_ ≤ l.length) (hl : l.length ≤ 4000000) (th : Int) : ∀ (m i : Nat), at_ - i ≤ m → i ≤ at_ → Go.Proofs.YtkfbhfmddmhiaaaGreatDoorW.PrintWords.Ev (fun k => damaskref27_due.l0 k l (at_ : Int) th (sentN (l.take i) th) (takenN (l.take i) th : Int) (i : Int)) (dueR (dueN (l.take at_) th)) := by
  have done : ∀ i : Nat, i ≤ at_ → ¬ i < at_ → Go.Proofs.YtkfbhfmddmhiaaaGreatDoorW.PrintWords.Ev (fun k => damaskref27_due.l0 k l (at_ : Int) th (sentN (l.take i) th) (takenN (l.take i) th : Int) (i : Int)) (dueR (dueN (l.take at_) th)) := by
    intro i h1 h2
    have : i = at_ := by omega
    subst this
    refine Ev.step (f := fun _ => some (dueR (dueN (l.take i) th))) (fun k => ?_) (Ev.now _)
    simp only [damaskref27_due.l0]
    rw [if_neg (by omega)]
    unfold dueN
    by_cases hg : (sentN (l.take i) th).length ≤ takenN (l.take i) th
    · rw [if_pos (by omega), List.getElem?_eq_none hg]; rfl
    · rw [if_neg (by omega), if_pos (by omega), if_pos (by omega), List.getElem?_eq_getElem (by omega)]
      simp [dueR, rd, List.getD_eq_getElem?_getD, List.getElem?_eq_getElem (show takenN (l.take i) th < (sentN (l.take i) th).length by omega)]
  intro m
  induction m with
  | zero => intro i hm hi; exact done i hi (by omega)
  | succ m ih =>
    intro i hm hi
    by_cases h : i < at_
    · have e2 := up1 i l.length (by omega) hl
      have := ih (i + 1) (by omega) (by omega)
      rw [takeS l i (by omega), sentN_snoc, takenN_snoc] at this
      have hle := takenN_le (l.take i) th
      have hle2 := sentN_le (l.take i) th
      rw [List.length_take] at hle hle2
      have e3 : wrap64 ((takenN (l.take i) th : Int) + 1) = ((takenN (l.take i) th + 1 : Nat) : Int) := up1 _ 4000000 (by omega) (by omega)
      by_cases h4 : l[i].f2 = 4
      · have h5 : ¬ l[i].f2 = 5 := by omega
        have h5' : ¬ (l[i].f2 = 5 ∧ l[i].f1 = th) := fun e => h5 e.1
        rw [if_neg h5', Nat.add_zero] at this
        refine Ev.step (fun k => by simp only [damaskref27_due.l0]; rw [if_pos (by omega), if_pos (by omega), if_pos (by omega), rdE2 _ _ (by omega), if_pos h4]) ?_
        by_cases h3 : l[i].f3 = th
        · rw [if_pos ⟨h4, h3⟩] at this
          refine Ev.step (fun k => by simp only [damaskref27_due.j1]; rw [if_pos (by simpa using h3), if_pos (by omega), if_pos (by omega), if_pos (by omega), Option.bind_some, rdE2 _ _ (by omega), if_neg h5, e2]) ?_
          exact this
        · rw [if_neg (fun e => h3 e.2), List.append_nil] at this
          refine Ev.step (fun k => by simp only [damaskref27_due.j1]; rw [if_neg (by simpa using h3), if_pos (by omega), if_pos (by omega), rdE2 _ _ (by omega), if_neg h5, e2]) ?_
          exact this
      · rw [if_neg (fun e : l[i].f2 = 4 ∧ l[i].f3 = th => h4 e.1), List.append_nil] at this
        refine Ev.step (fun k => by simp only [damaskref27_due.l0]; rw [if_pos (by omega), if_pos (by omega), if_pos (by omega), rdE2 _ _ (by omega), if_neg h4]) ?_
        refine Ev.step (fun k => by simp only [damaskref27_due.j1]; rw [if_neg (by decide), if_pos (by omega), if_pos (by omega), rdE2 _ _ (by omega), e2, e3]) ?_
        by_cases h5 : l[i].f2 = 5
        · by_cases h1 : l[i].f1 = th
          · rw [if_pos ⟨h5, h1⟩] at this
            simp only [if_pos h5, if_pos h1]; exact this
          · rw [if_neg (fun e => h1 e.2), Nat.add_zero] at this
            simp only [if_pos h5, if_neg h1]; exact this
        · rw [if_neg (fun e => h5 e.1), Nat.add_zero] at this
          simp only [if_neg h5]; exact this
    · exact done i hi h
theorem due_ok (l : List Ev) (at_ : Nat) (hat : at_ ≤ l.length) (hl : l.length ≤ 4000000) (th : Int) : ∃ k, damaskref27_due.f k l (at_ : Int) th = some (dueR (dueN (l.take at_) th)) :=
  Ev.rounds (due_loop l at_ hat hl th at_ 0 (by omega) (by omega))

def before (l : List Ac) : Nat → Option Int
  | 0 => none
  | i + 1 => some (rd_T51 l (i : Int)).f0
theorem ascP_drop (l : List Ac) (i : Nat) (h : i < l.length) : ascP (before l i) (l.drop i) = (decide (0 ≤ (rd_T51 l (i : Int)).f0) && decide ((rd_T51 l (i : Int)).f0 < 64) && (match before l i with | none => true | some q => decide (q < (rd_T51 l (i : Int)).f0)) && ascP (before l (i + 1)) (l.drop (i + 1))) := by
  rw [List.drop_eq_getElem_cons h, ← rdA2 l i h]
  cases hb : before l i <;> simp only [ascP, before]
theorem asc_loop (l : List Ac) (hl : l.length ≤ 4000000) : ∀ (m i : Nat), l.length - i ≤ m → i ≤ l.length → Go.Proofs.YtkfbhfmddmhiaaaGreatDoorW.PrintWords.Ev (fun k => damaskref27_ascend.l0 k l (i : Int)) (ascP (before l i) (l.drop i)) := by
  have done : ∀ i : Nat, ¬ i < l.length → Go.Proofs.YtkfbhfmddmhiaaaGreatDoorW.PrintWords.Ev (fun k => damaskref27_ascend.l0 k l (i : Int)) (ascP (before l i) (l.drop i)) := by
    intro i hi
    rw [List.drop_eq_nil_of_le (by omega)]
    refine Ev.step (f := fun _ => some true) (fun k => ?_) ?_
    · simp only [damaskref27_ascend.l0]; rw [if_neg (by omega)]
    · unfold ascP; exact Ev.now _
  intro m
  induction m with
  | zero => intro i hm hi; exact done i (by omega)
  | succ m ih =>
    intro i hm hi
    by_cases h : i < l.length
    · rw [ascP_drop l i h]
      have e2 := up1 i l.length h hl
      have hih := ih (i + 1) (by omega) (by omega)
      by_cases h0 : (rd_T51 l (i : Int)).f0 < 0
      · refine Ev.step (f := fun _ => some false) (fun k => by simp only [damaskref27_ascend.l0]; rw [if_pos (by omega), if_pos (by omega), if_pos h0]) ?_
        have : decide (0 ≤ (rd_T51 l (i : Int)).f0) = false := by simpa using h0
        rw [this]; exact Ev.now _
      have d0 : decide (0 ≤ (rd_T51 l (i : Int)).f0) = true := by simpa using h0
      by_cases h6 : (rd_T51 l (i : Int)).f0 ≥ 64
      · refine Ev.step (f := fun _ => some false) (fun k => by simp only [damaskref27_ascend.l0]; rw [if_pos (by omega), if_pos (by omega), if_neg h0, if_pos h6]) ?_
        have : decide ((rd_T51 l (i : Int)).f0 < 64) = false := by simpa using h6
        rw [d0, this]; exact Ev.now _
      have d6 : decide ((rd_T51 l (i : Int)).f0 < 64) = true := by simpa using h6
      rw [d0, d6]
      cases i with
      | zero =>
        refine Ev.step (fun k => by simp only [damaskref27_ascend.l0]; rw [if_pos (by omega), if_pos (by omega), if_neg h0, if_neg h6, if_neg (by omega), e2]) ?_
        simp only [before, Bool.true_and] at hih ⊢
        exact hih
      | succ j =>
        have e3 : wrap64 (((j + 1 : Nat) : Int) - 1) = (j : Int) := by rw [IntWalk.wrap64_in _ (by omega)]; omega
        by_cases hq : (rd_T51 l ((j + 1 : Nat) : Int)).f0 ≤ (rd_T51 l (j : Int)).f0
        · refine Ev.step (f := fun _ => some false) (fun k => by simp only [damaskref27_ascend.l0]; rw [if_pos (by omega), if_pos (by omega), if_neg h0, if_neg h6, if_pos (by omega), e3, if_pos (by omega), if_pos (by omega), if_pos hq]) ?_
          have : decide ((rd_T51 l (j : Int)).f0 < (rd_T51 l ((j + 1 : Nat) : Int)).f0) = false := by simpa using hq
          simp only [before, this, Bool.and_false, Bool.false_and]; exact Ev.now _
        · have hd : decide ((rd_T51 l (j : Int)).f0 < (rd_T51 l ((j + 1 : Nat) : Int)).f0) = true := by simpa using hq
          refine Ev.step (fun k => by simp only [damaskref27_ascend.l0]; rw [if_pos (by omega), if_pos (by omega), if_neg h0, if_neg h6, if_pos (by omega), e3, if_pos (by omega), if_pos (by omega), if_neg hq, e2]) ?_
          simp only [before, hd, Bool.true_and] at hih ⊢
          exact hih
    · exact done i h
theorem ascend_ok (l : List Ac) (hl : l.length ≤ 4000000) : ∃ k, damaskref27_ascend.f k l = some (ascB l) :=
  Ev.rounds (asc_loop l hl l.length 0 (by omega) (by omega))

def NearOk (x y : Vl) : Prop := Go.Proofs.YtkfbhfmddmhiaaaGreatDoorW.PrintWords.Ev (fun k => damaskref27_Near.f k x.f0 x.f1 x.f2 x.f3 y.f0 y.f1 y.f2 y.f3) (agreeV x y)
theorem near_loop (x y : Vl) (hlen : x.f3.length = y.f3.length) (hl : x.f3.length ≤ 4000000) (hin : ∀ (j : Nat) (h1 : j < x.f3.length) (h2 : j < y.f3.length), NearOk x.f3[j] y.f3[j]) :
    ∀ (m i : Nat), x.f3.length - i ≤ m → i ≤ x.f3.length → Go.Proofs.YtkfbhfmddmhiaaaGreatDoorW.PrintWords.Ev (fun k => damaskref27_Near.l0 k (i : Int) x.f0 x.f1 x.f2 x.f3 y.f0 y.f1 y.f2 y.f3) (agreeVs (x.f3.drop i) (y.f3.drop i)) := by
  have done : ∀ i : Nat, ¬ i < x.f3.length → Go.Proofs.YtkfbhfmddmhiaaaGreatDoorW.PrintWords.Ev (fun k => damaskref27_Near.l0 k (i : Int) x.f0 x.f1 x.f2 x.f3 y.f0 y.f1 y.f2 y.f3) (agreeVs (x.f3.drop i) (y.f3.drop i)) := by
    intro i hi
    refine Ev.step (f := fun _ => some (agreeVs (x.f3.drop i) (y.f3.drop i))) (fun k => ?_) (Ev.now _)
    simp only [damaskref27_Near.l0]
    rw [if_neg (by omega), List.drop_eq_nil_of_le (by omega), List.drop_eq_nil_of_le (by omega)]
    rfl
  intro m
  induction m with
  | zero => intro i hm hi; exact done i (by omega)
  | succ m ih =>
    intro i hm hi
    by_cases h : i < x.f3.length
    · have h2 : i < y.f3.length := by omega
      rw [agreeVs_step x.f3 y.f3 i h h2, rdV0 _ _ h, rdV0 _ _ h2]
      refine Ev.step (fun k => by simp only [damaskref27_Near.l0]; rw [if_pos (by omega), if_pos (by omega), if_pos (by omega), rdV0 _ _ h, rdV0 _ _ h2]) ?_
      refine Ev.bind (a := agreeV x.f3[i] y.f3[i]) (hin i h h2) ?_
      have e2 := up1 i x.f3.length h hl
      cases hs : agreeV x.f3[i] y.f3[i] with
      | false => exact Ev.now false
      | true =>
        have := ih (i + 1) (by omega) (by omega)
        simp only [e2, if_true, Bool.true_and]
        exact this
    · exact done i h
theorem near_ok : ∀ (n : Nat) (x y : Vl), vdepth x ≤ n → szV x ≤ 4000000 → NearOk x y := by
  intro n
  induction n with
  | zero => intro x y h; rw [vdepth_eq] at h; omega
  | succ n ih =>
    intro x y h hf
    rw [vdepth_eq] at h
    rw [szV_eq] at hf
    have hll := szVs_len x.f3
    have hin : ∀ (j : Nat) (h1 : j < x.f3.length) (h2 : j < y.f3.length), NearOk x.f3[j] y.f3[j] := fun j h1 h2 => ih _ _ (by
      have := vdepths_mem x.f3 j h1
      rw [rdV0 _ _ h1] at this
      omega) (by have := szVs_get x.f3 j h1; omega)
    unfold NearOk
    rw [agreeV_eq]
    have yes : Go.Proofs.YtkfbhfmddmhiaaaGreatDoorW.PrintWords.Ev (fun k => damaskref27_Near.j0 k true x.f0 x.f1 x.f2 x.f3 y.f0 y.f1 y.f2 y.f3) true := by
      refine Ev.step (f := fun _ => some true) (fun k => ?_) (Ev.now _)
      simp only [damaskref27_Near.j0]
      rw [if_pos trivial]
    have no : Go.Proofs.YtkfbhfmddmhiaaaGreatDoorW.PrintWords.Ev (fun k => damaskref27_Near.j1 k true x.f0 x.f1 x.f2 x.f3 y.f0 y.f1 y.f2 y.f3) false := by
      refine Ev.step (f := fun _ => some false) (fun k => ?_) (Ev.now _)
      simp only [damaskref27_Near.j1]
      rw [if_pos trivial]
    by_cases h6 : x.f0 = 6
    · refine Ev.step (fun k => by simp only [damaskref27_Near.f]; rw [if_pos h6]) ?_
      rw [show (x.f0 == 6) = true by simpa using h6, Bool.true_or]
      exact yes
    rw [show (x.f0 == 6) = false by simpa using h6, Bool.false_or]
    refine Ev.step (fun k => by simp only [damaskref27_Near.f]; rw [if_neg h6]) ?_
    cases hy6 : (y.f0 == 6) with
    | true => rw [Bool.true_or]; exact yes
    | false =>
    rw [Bool.false_or]
    by_cases h0 : x.f0 = y.f0
    · by_cases h1 : x.f1 = y.f1
      · by_cases h2 : x.f2.toList = y.f2.toList
        · refine Ev.step (fun k => by simp only [damaskref27_Near.j0]; rw [if_neg (by decide), if_pos h0, if_pos h1, if_pos h2]) ?_
          rw [show (x.f0 == y.f0 && (x.f1 == y.f1 && (x.f2.toList == y.f2.toList && agreeVs x.f3 y.f3))) = agreeVs x.f3 y.f3 by simp [h0, h1, h2]]
          by_cases hlen : x.f3.length = y.f3.length
          · refine Ev.step (fun k => by simp only [damaskref27_Near.j1]; rw [if_neg (by simp [hlen])]) ?_
            have := near_loop x y hlen (by omega) hin x.f3.length 0 (by omega) (by omega)
            rw [List.drop_zero, List.drop_zero] at this
            exact this
          · have hne : ((x.f3.length : Int) != (y.f3.length : Int)) = true := by rw [bne_iff_ne]; omega
            rw [agreeVs_len _ _ hlen]
            simp only [hne]
            exact no
        · refine Ev.step (fun k => by simp only [damaskref27_Near.j0]; rw [if_neg (by decide), if_pos h0, if_pos h1, if_neg h2]) ?_
          rw [show (x.f0 == y.f0 && (x.f1 == y.f1 && (x.f2.toList == y.f2.toList && agreeVs x.f3 y.f3))) = false by simp [h2]]
          exact no
      · refine Ev.step (fun k => by simp only [damaskref27_Near.j0]; rw [if_neg (by decide), if_pos h0, if_neg h1]) ?_
        rw [show (x.f0 == y.f0 && (x.f1 == y.f1 && (x.f2.toList == y.f2.toList && agreeVs x.f3 y.f3))) = false by simp [h1]]
        exact no
    · refine Ev.step (fun k => by simp only [damaskref27_Near.j0]; rw [if_neg (by decide), if_neg h0]) ?_
      rw [show (x.f0 == y.f0 && (x.f1 == y.f1 && (x.f2.toList == y.f2.toList && agreeVs x.f3 y.f3))) = false by simp [h0]]
      exact no

theorem rout_loop (l : List Ev) (hs : l.length ≤ 4000000) : ∀ (m i : Nat), l.length - i ≤ m → i ≤ l.length → Go.Proofs.YtkfbhfmddmhiaaaGreatDoorW.PrintWords.Ev (fun k => damaskref27_Output.l0 k l (outT (l.take i)) (i : Int)) (outT l) := by
  have done : ∀ i : Nat, ¬ i < l.length → Go.Proofs.YtkfbhfmddmhiaaaGreatDoorW.PrintWords.Ev (fun k => damaskref27_Output.l0 k l (outT (l.take i)) (i : Int)) (outT l) := by
    intro i hi
    refine Ev.step (f := fun _ => some (outT l)) (fun k => ?_) (Ev.now _)
    simp only [damaskref27_Output.l0]
    rw [if_neg (by omega), List.take_of_length_le (by omega)]
  intro m
  induction m with
  | zero => intro i hm hi; exact done i (by omega)
  | succ m ih =>
    intro i hm hi
    by_cases h : i < l.length
    · have e2 := up1 i l.length h hs
      have hle := outT_len (l.take i)
      rw [List.length_take] at hle
      have := ih (i + 1) (by omega) (by omega)
      rw [outT_take l i h] at this
      by_cases h1 : l[i].f2 = 1
      · rw [if_pos h1] at this
        exact Ev.step (fun k => by simp only [damaskref27_Output.l0]; rw [if_pos (by omega), if_pos (by omega), rdE2 _ _ h, if_pos h1, if_pos (by omega), e2]) this
      · rw [if_neg h1] at this
        exact Ev.step (fun k => by simp only [damaskref27_Output.l0]; rw [if_pos (by omega), if_pos (by omega), rdE2 _ _ h, if_neg h1, e2]) this
    · exact done i h
theorem rout_ok (l : List Ev) (hs : l.length ≤ 4000000) : ∃ k, damaskref27_Output.f k l = some (outT l) :=
  Ev.rounds (rout_loop l hs l.length 0 (by omega) (by omega))
end Go.Proofs.YtkfbhfmddmhiaaaGreatDoor.TJ
