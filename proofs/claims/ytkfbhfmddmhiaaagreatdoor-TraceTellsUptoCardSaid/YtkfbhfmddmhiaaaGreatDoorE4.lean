/- The reference's equality of two traces is the plain function eqL sameE; every list in memory is short enough for it to end. Conditions: none beyond that the traces lie in memory. -/
import Derived.Test.YtkfbhfmddmhiaaaGreatDoorEE
import Derived.Test.YtkfbhfmddmhiaaaGreatDoorSAF
namespace Go.Proofs.YtkfbhfmddmhiaaaGreatDoor.TJ
open Go.RowKit Go.Proofs.YtkfbhfmddmhiaaaGreatDoorW.PrintWords Go.Proofs.YtkfbhfmddmhiaaaGreatDoorW.PrintLast Go.Proofs.YtkfbhfmddmhiaaaGreatDoor.PT Go.Proofs.YtkfbhfmddmhiaaaGreatDoor.IMaps
set_option linter.unusedVariables false
set_option linter.unusedSimpArgs false

mutual
def fitV : Vl → Prop
  | ⟨_, _, _, l⟩ => l.length ≤ 9223372036854775807 ∧ fitVs l
def fitVs : List Vl → Prop
  | [] => True
  | v :: r => fitV v ∧ fitVs r
end
theorem fitV_eq (x : Vl) : fitV x = (x.f3.length ≤ 9223372036854775807 ∧ fitVs x.f3) := by cases x; rfl
theorem fitVs_get : ∀ (l : List Vl) (j : Nat) (h : j < l.length), fitVs l → fitV l[j]
  | v :: r, 0, _, h => h.1
  | v :: r, j + 1, hj, h => fitVs_get r j (by simpa using hj) h.2
theorem fitVs_of : ∀ (l : List Vl), (∀ (j : Nat) (h : j < l.length), fitV l[j]) → fitVs l
  | [], _ => trivial
  | v :: r, h => ⟨h 0 (by simp), fitVs_of r fun j hj => h (j + 1) (by simpa using hj)⟩
theorem rdV (l : List Vl) (j : Nat) (h : j < l.length) : rd_T49 l (j : Int) = l[j] := by simp [rd_T49, List.getD_eq_getElem?_getD, List.getElem?_eq_getElem h]

theorem fit_C {w : World} : ∀ (n : Nat) (l : List Vl), vdepths l ≤ n → ∀ {A : Option Addr} {m : Nat}, kVl.C w A m l → l.length ≤ 9223372036854775807 ∧ fitVs l := by
  intro n
  induction n with
  | zero =>
    intro l hd A m hC
    refine ⟨by rw [hC.1]; exact hC.2.1, ?_⟩
    cases l with
    | nil => trivial
    | cons v r =>
      simp only [vdepths] at hd
      have := vdepth_eq v
      omega
  | succ n ih =>
    intro l hd A m hC
    refine ⟨by rw [hC.1]; exact hC.2.1, fitVs_of l fun j hj => ?_⟩
    obtain ⟨ad, A3, c3, e3, _, _, _, _, hl, hC3⟩ := at_T49 hC (j : Int) (by omega) (by have := hC.1; omega)
    have h2 := vdepths_mem l j hj
    rw [rdV l j hj] at hl hC3 h2
    rw [vdepth_eq] at h2
    rw [fitV_eq]
    exact ih _ (by omega) hC3

def fitA (l : List Ac) : Prop := l.length ≤ 9223372036854775807 ∧ ∀ (j : Nat) (h : j < l.length), fitV l[j].f1
def fitE (l : List Ev) : Prop := l.length ≤ 9223372036854775807 ∧ ∀ (j : Nat) (h : j < l.length), fitA l[j].f5 ∧ fitA l[j].f6

theorem fitA_C {w : World} {l : List Ac} {A : Option Addr} {m : Nat} (hC : kAc.C w A m l) : fitA l := by
  refine ⟨by rw [hC.1]; exact hC.2.1, fun j hj => ?_⟩
  obtain ⟨ad, A3, c3, e3, _, _, _, _, _, hl, hC3⟩ := at_T51 hC (j : Int) (by omega) (by have := hC.1; omega)
  rw [rdA l j hj] at hC3
  rw [fitV_eq]
  exact fit_C _ _ (Nat.le_refl _) hC3

theorem fitE_C {w : World} {l : List Ev} {A : Option Addr} {m : Nat} (hC : kEv.C w A m l) : fitE l := by
  refine ⟨by rw [hC.1]; exact hC.2.1, fun j hj => ?_⟩
  obtain ⟨ad, A5, c5, A6, c6, e3, _, _, _, _, _, _, _, g5, C5, g6, C6⟩ := at_T44 hC (j : Int) (by omega) (by have := hC.1; omega)
  rw [rdE l j hj] at C5 C6
  exact ⟨fitA_C C5, fitA_C C6⟩

def RefV (x y : Vl) : Prop := Go.Proofs.YtkfbhfmddmhiaaaGreatDoorW.PrintWords.Ev (fun k => damaskref26_SameVal.f k x.f0 x.f1 x.f2 x.f3 y.f0 y.f1 y.f2 y.f3) (sameV x y)

theorem refV_loop (x y : Vl) (hlen : x.f3.length = y.f3.length) (hl : x.f3.length ≤ 9223372036854775807) (hin : ∀ (j : Nat) (h1 : j < x.f3.length) (h2 : j < y.f3.length), RefV x.f3[j] y.f3[j]) :
    ∀ (m i : Nat), x.f3.length - i ≤ m → i ≤ x.f3.length → Go.Proofs.YtkfbhfmddmhiaaaGreatDoorW.PrintWords.Ev (fun k => damaskref26_SameVal.l0 k (i : Int) x.f0 x.f1 x.f2 x.f3 y.f0 y.f1 y.f2 y.f3) (sameVs (x.f3.drop i) (y.f3.drop i)) := by
  intro m
  induction m with
  | zero =>
    intro i hm hi
    refine Ev.step (f := fun _ => some (sameVs (x.f3.drop i) (y.f3.drop i))) (fun k => ?_) (Ev.now _)
    simp only [damaskref26_SameVal.l0]
    rw [if_neg (by omega), List.drop_eq_nil_of_le (by omega), List.drop_eq_nil_of_le (by omega)]
    rfl
  | succ m ih =>
    intro i hm hi
    by_cases h : i < x.f3.length
    · have h2 : i < y.f3.length := by omega
      rw [sameVs_step x.f3 y.f3 i h h2, rdV _ _ h, rdV _ _ h2]
      refine Ev.step (fun k => by simp only [damaskref26_SameVal.l0]; rw [if_pos (by omega), if_pos (by omega), if_pos (by omega), rdV _ _ h, rdV _ _ h2]) ?_
      refine Ev.bind (a := sameV x.f3[i] y.f3[i]) (hin i h h2) ?_
      have e2 : wrap64 ((i : Int) + 1) = ((i + 1 : Nat) : Int) := by rw [IntWalk.wrap64_in _ (by omega)]; rfl
      cases hs : sameV x.f3[i] y.f3[i] with
      | false => exact Ev.now false
      | true =>
        have := ih (i + 1) (by omega) (by omega)
        simp only [e2, if_true, Bool.true_and]
        exact this
    · refine Ev.step (f := fun _ => some (sameVs (x.f3.drop i) (y.f3.drop i))) (fun k => ?_) (Ev.now _)
      simp only [damaskref26_SameVal.l0]
      rw [if_neg (by omega), List.drop_eq_nil_of_le (by omega), List.drop_eq_nil_of_le (by omega)]
      rfl

theorem refV_ok : ∀ (n : Nat) (x y : Vl), vdepth x ≤ n → fitV x → RefV x y := by
  intro n
  induction n with
  | zero => intro x y h; rw [vdepth_eq] at h; omega
  | succ n ih =>
    intro x y h hf
    rw [vdepth_eq] at h
    rw [fitV_eq] at hf
    have hin : ∀ (j : Nat) (h1 : j < x.f3.length) (h2 : j < y.f3.length), RefV x.f3[j] y.f3[j] := fun j h1 h2 => ih _ _ (by
      have := vdepths_mem x.f3 j h1
      rw [rdV _ _ h1] at this
      omega) (fitVs_get _ _ h1 hf.2)
    unfold RefV
    rw [sameV_eq]
    have no : Go.Proofs.YtkfbhfmddmhiaaaGreatDoorW.PrintWords.Ev (fun k => damaskref26_SameVal.j0 k true x.f0 x.f1 x.f2 x.f3 y.f0 y.f1 y.f2 y.f3) false := by
      refine Ev.step (f := fun _ => some false) (fun k => ?_) (Ev.now _)
      simp only [damaskref26_SameVal.j0]
      rw [if_pos trivial]
    by_cases h0 : x.f0 = y.f0
    · by_cases h1 : x.f1 = y.f1
      · by_cases h2 : x.f2.toList = y.f2.toList
        · refine Ev.step (fun k => by simp only [damaskref26_SameVal.f]; rw [if_pos h0, if_pos h1, if_pos h2]) ?_
          rw [show (x.f0 == y.f0 && (x.f1 == y.f1 && (x.f2.toList == y.f2.toList && sameVs x.f3 y.f3))) = sameVs x.f3 y.f3 by simp [h0, h1, h2]]
          by_cases hlen : x.f3.length = y.f3.length
          · refine Ev.step (fun k => by simp only [damaskref26_SameVal.j0]; rw [if_neg (by simp [hlen])]) ?_
            have := refV_loop x y hlen hf.1 hin x.f3.length 0 (by omega) (by omega)
            rw [List.drop_zero, List.drop_zero] at this
            exact this
          · have hne : ((x.f3.length : Int) != (y.f3.length : Int)) = true := by rw [bne_iff_ne]; omega
            rw [sameVs_len _ _ hlen]
            simp only [hne]
            exact no
        · refine Ev.step (fun k => by simp only [damaskref26_SameVal.f]; rw [if_pos h0, if_pos h1, if_neg h2]) ?_
          rw [show (x.f0 == y.f0 && (x.f1 == y.f1 && (x.f2.toList == y.f2.toList && sameVs x.f3 y.f3))) = false by simp [h2]]
          exact no
      · refine Ev.step (fun k => by simp only [damaskref26_SameVal.f]; rw [if_pos h0, if_neg h1]) ?_
        rw [show (x.f0 == y.f0 && (x.f1 == y.f1 && (x.f2.toList == y.f2.toList && sameVs x.f3 y.f3))) = false by simp [h1]]
        exact no
    · refine Ev.step (fun k => by simp only [damaskref26_SameVal.f]; rw [if_neg h0]) ?_
      rw [show (x.f0 == y.f0 && (x.f1 == y.f1 && (x.f2.toList == y.f2.toList && sameVs x.f3 y.f3))) = false by simp [h0]]
      exact no

theorem refA_loop (a b : List Ac) (hlen : a.length = b.length) (hf : fitA a) : ∀ (m i : Nat), a.length - i ≤ m → i ≤ a.length → Go.Proofs.YtkfbhfmddmhiaaaGreatDoorW.PrintWords.Ev (fun k => damaskref26_sameAccess.l0 k a b (i : Int)) (eqL sameA (a.drop i) (b.drop i)) := by
  intro m
  induction m with
  | zero =>
    intro i hm hi
    refine Ev.step (f := fun _ => some (eqL sameA (a.drop i) (b.drop i))) (fun k => ?_) (Ev.now _)
    simp only [damaskref26_sameAccess.l0]
    rw [if_neg (by omega), List.drop_eq_nil_of_le (by omega), List.drop_eq_nil_of_le (by omega)]
    rfl
  | succ m ih =>
    intro i hm hi
    have hl := hf.1
    by_cases h : i < a.length
    · have h2 : i < b.length := by omega
      rw [eqL_step sameA a b i h h2]
      have e2 : wrap64 ((i : Int) + 1) = ((i + 1 : Nat) : Int) := by rw [IntWalk.wrap64_in _ (by omega)]; rfl
      by_cases h0 : a[i].f0 = b[i].f0
      · refine Ev.step (fun k => by simp only [damaskref26_sameAccess.l0]; rw [if_pos (by omega), if_pos (by omega), if_pos (by omega), rdA _ _ h, rdA _ _ h2, if_pos h0]) ?_
        refine Ev.bind (a := sameV a[i].f1 b[i].f1) (refV_ok _ _ _ (Nat.le_refl _) (hf.2 i h)) ?_
        rw [show sameA a[i] b[i] = sameV a[i].f1 b[i].f1 by simp [sameA, h0]]
        cases hs : sameV a[i].f1 b[i].f1 with
        | false => exact Ev.now false
        | true =>
          have := ih (i + 1) (by omega) (by omega)
          simp only [e2, if_true, Bool.true_and]
          exact this
      · refine Ev.step (f := fun _ => some false) (fun k => by simp only [damaskref26_sameAccess.l0]; rw [if_pos (by omega), if_pos (by omega), if_pos (by omega), rdA _ _ h, rdA _ _ h2, if_neg h0]) ?_
        rw [show sameA a[i] b[i] = false by simp [sameA, h0]]
        exact Ev.now false
    · refine Ev.step (f := fun _ => some (eqL sameA (a.drop i) (b.drop i))) (fun k => ?_) (Ev.now _)
      simp only [damaskref26_sameAccess.l0]
      rw [if_neg (by omega), List.drop_eq_nil_of_le (by omega), List.drop_eq_nil_of_le (by omega)]
      rfl

theorem refA_ok (a b : List Ac) (hf : fitA a) : Go.Proofs.YtkfbhfmddmhiaaaGreatDoorW.PrintWords.Ev (fun k => damaskref26_sameAccess.f k a b) (eqL sameA a b) := by
  by_cases hlen : a.length = b.length
  · refine Ev.congr (f := fun k => damaskref26_sameAccess.l0 k a b 0) (fun k => by unfold damaskref26_sameAccess.f; rw [if_pos (by omega)]) ?_
    have := refA_loop a b hlen hf a.length 0 (by omega) (by omega)
    rw [List.drop_zero, List.drop_zero] at this
    exact this
  · rw [eqL_len sameA a b hlen]
    exact Ev.congr (f := fun _ => some false) (fun k => by unfold damaskref26_sameAccess.f; rw [if_neg (by omega)]) (Ev.now false)

theorem refE_ok (x y : Ev) (h5 : fitA x.f5) (h6 : fitA x.f6) : Go.Proofs.YtkfbhfmddmhiaaaGreatDoorW.PrintWords.Ev (fun k => damaskref26_SameEvent.f k x.f0 x.f1 x.f2 x.f3 x.f4 x.f5 x.f6 y.f0 y.f1 y.f2 y.f3 y.f4 y.f5 y.f6) (sameE x y) := by
  by_cases hh : x.f0 = y.f0 ∧ x.f1 = y.f1 ∧ x.f2 = y.f2 ∧ x.f3 = y.f3 ∧ x.f4 = y.f4
  · obtain ⟨e0, e1, e2, e3, e4⟩ := hh
    rw [show sameE x y = (eqL sameA x.f5 y.f5 && eqL sameA x.f6 y.f6) by simp [sameE, headsB, e0, e1, e2, e3, e4]]
    refine Ev.congr (fun k => by unfold damaskref26_SameEvent.f; rw [if_pos e0, if_pos e1, if_pos e2, if_pos e3, if_pos e4]) ?_
    refine Ev.bind (refA_ok _ _ h5) ?_
    cases eqL sameA x.f5 y.f5 with
    | false => exact Ev.now false
    | true =>
      simp only [if_true, Bool.true_and]
      exact Ev.bind (refA_ok _ _ h6) (Ev.now _)
  · rw [show sameE x y = false by
      have : headsB x y = false := by
        unfold headsB
        cases h0 : (x.f0 == y.f0) <;> cases h1 : (x.f1 == y.f1) <;> cases h2 : (x.f2 == y.f2) <;> cases h3 : (x.f3 == y.f3) <;> cases h4 : (x.f4 == y.f4) <;> simp_all
      simp [sameE, this]]
    refine Ev.congr (f := fun _ => some false) (fun k => ?_) (Ev.now false)
    unfold damaskref26_SameEvent.f
    split
    · split
      · split
        · split
          · split
            · rename_i e0 e1 e2 e3 e4
              exact absurd ⟨e0, e1, e2, e3, e4⟩ hh
            · rfl
          · rfl
        · rfl
      · rfl
    · rfl

theorem refS_loop (a b : List Ev) (hlen : a.length = b.length) (hf : fitE a) : ∀ (m i : Nat), a.length - i ≤ m → i ≤ a.length → Go.Proofs.YtkfbhfmddmhiaaaGreatDoorW.PrintWords.Ev (fun k => damaskref26_Same.l0 k a b (i : Int)) (eqL sameE (a.drop i) (b.drop i)) := by
  intro m
  induction m with
  | zero =>
    intro i hm hi
    refine Ev.step (f := fun _ => some (eqL sameE (a.drop i) (b.drop i))) (fun k => ?_) (Ev.now _)
    simp only [damaskref26_Same.l0]
    rw [if_neg (by omega), List.drop_eq_nil_of_le (by omega), List.drop_eq_nil_of_le (by omega)]
    rfl
  | succ m ih =>
    intro i hm hi
    have hl := hf.1
    by_cases h : i < a.length
    · have h2 : i < b.length := by omega
      rw [eqL_step sameE a b i h h2]
      have e2 : wrap64 ((i : Int) + 1) = ((i + 1 : Nat) : Int) := by rw [IntWalk.wrap64_in _ (by omega)]; rfl
      refine Ev.step (fun k => by simp only [damaskref26_Same.l0]; rw [if_pos (by omega), if_pos (by omega), if_pos (by omega), rdE _ _ h, rdE _ _ h2]) ?_
      refine Ev.bind (a := sameE a[i] b[i]) (refE_ok _ _ (hf.2 i h).1 (hf.2 i h).2) ?_
      cases hs : sameE a[i] b[i] with
      | false => exact Ev.now false
      | true =>
        have := ih (i + 1) (by omega) (by omega)
        simp only [e2, if_true, Bool.true_and]
        exact this
    · refine Ev.step (f := fun _ => some (eqL sameE (a.drop i) (b.drop i))) (fun k => ?_) (Ev.now _)
      simp only [damaskref26_Same.l0]
      rw [if_neg (by omega), List.drop_eq_nil_of_le (by omega), List.drop_eq_nil_of_le (by omega)]
      rfl

theorem refS_ok (a b : List Ev) (hf : fitE a) : ∃ k, damaskref26_Same.f k a b = some (eqL sameE a b) := by
  refine Ev.rounds (g := fun k => damaskref26_Same.f k a b) ?_
  by_cases hlen : a.length = b.length
  · refine Ev.congr (f := fun k => damaskref26_Same.l0 k a b 0) (fun k => by unfold damaskref26_Same.f; rw [if_pos (by omega)]) ?_
    have := refS_loop a b hlen hf a.length 0 (by omega) (by omega)
    rw [List.drop_zero, List.drop_zero] at this
    exact this
  · rw [eqL_len sameE a b hlen]
    exact Ev.congr (f := fun _ => some false) (fun k => by unfold damaskref26_Same.f; rw [if_neg (by omega)]) (Ev.now false)

theorem eqL_self {α : Type} (f : α → α → Bool) (h : ∀ x, f x x = true) : ∀ l : List α, eqL f l l = true
  | [] => rfl
  | x :: r => by simp only [eqL, h x, eqL_self f h r, Bool.and_self]
theorem sameVs_self : ∀ (l : List Vl), (∀ (j : Nat) (h : j < l.length), sameV l[j] l[j] = true) → sameVs l l = true
  | [], _ => rfl
  | v :: r, h => by
    have h0 : sameV v v = true := h 0 (Nat.zero_lt_succ _)
    have h1 := sameVs_self r fun j hj => h (j + 1) (Nat.succ_lt_succ hj)
    simp only [sameVs, h0, h1, Bool.and_self]
theorem sameV_self : ∀ (n : Nat) (x : Vl), vdepth x ≤ n → sameV x x = true := by
  intro n
  induction n with
  | zero => intro x h; rw [vdepth_eq] at h; omega
  | succ n ih =>
    intro x h
    rw [vdepth_eq] at h
    rw [sameV_eq, sameVs_self x.f3 fun j hj => ih _ (by
      have := vdepths_mem x.f3 j hj
      rw [rdV _ _ hj] at this
      omega)]
    simp
theorem sameE_self (x : Ev) : sameE x x = true := by
  have h : ∀ a : Ac, sameA a a = true := fun a => by simp [sameA, sameV_self _ _ (Nat.le_refl _)]
  simp [sameE, headsB, eqL_self sameA h]
end Go.Proofs.YtkfbhfmddmhiaaaGreatDoor.TJ
