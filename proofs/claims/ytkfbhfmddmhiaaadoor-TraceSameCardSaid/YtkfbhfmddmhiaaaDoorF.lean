/- The plain facts behind TraceBegins: few ends and bounds a trace, mod stays in its range, what comes before the first broken rule is sound. Conditions: none. -/
import Derived.Test.YtkfbhfmddmhiaaaDoorA
import Derived.IntWalk
namespace Go.Proofs.YtkfbhfmddmhiaaaDoor.TJ
open Go.RowKit Go.Proofs.YtkfbhfmddmhiaaaDoorW.PrintWords Go.Proofs.YtkfbhfmddmhiaaaDoorW.PrintLast Go.Proofs.YtkfbhfmddmhiaaaDoor.PT Go.Proofs.YtkfbhfmddmhiaaaDoor.IMaps
set_option linter.unusedVariables false
set_option linter.unusedSimpArgs false

/-! ### weight -/
def WeightOk (x : Vl) (most : Int) (deep : Nat) : Prop := ∃ r, Go.Proofs.YtkfbhfmddmhiaaaDoorW.PrintWords.Ev (fun k => damaskref17_weight.f k x.f0 x.f1 x.f2 x.f3 most (deep : Int)) r ∧ 1 ≤ r ∧ r ≤ most + 1

theorem weight_loop (deep : Nat) (hd : deep < 60) (hin : ∀ (x : Vl) (most : Int), 0 ≤ most → most ≤ 1000 → WeightOk x most deep) (most : Int) (hm0 : 0 ≤ most) (hm : most ≤ 1000) (c0 c1 : Int) (c2 : ByteArray) (c3 : List Vl) :
    ∀ (m : Nat) (n i : Int), (most + 1 - n).toNat ≤ m → 1 ≤ n → n ≤ most + 1 → 0 ≤ i → i ≤ n → ∃ r, Go.Proofs.YtkfbhfmddmhiaaaDoorW.PrintWords.Ev (fun k => damaskref17_weight.l0 k most ((deep + 1 : Nat) : Int) n i c0 c1 c2 c3) r ∧ 1 ≤ r ∧ r ≤ most + 1 := by
  intro m
  induction m with
  | zero =>
    intro n i hmn h1 h2 h3 h4
    refine ⟨n, ?_, h1, h2⟩
    refine Ev.step (f := fun _ => some n) (fun k => ?_) (Ev.now _)
    simp only [damaskref17_weight.l0]
    by_cases h : i < (c3.length : Int)
    · rw [if_pos h, if_neg (by omega)]
    · rw [if_neg h]
  | succ m ih =>
    intro n i hmn h1 h2 h3 h4
    by_cases h : i < (c3.length : Int)
    · by_cases hn : n ≤ most
      · obtain ⟨t, ht, t1, t2⟩ := hin (rd_T36 c3 i) (most - n) (by omega) (by omega)
        obtain ⟨r, hr, r1, r2⟩ := ih (n + t) (i + 1) (by omega) (by omega) (by omega) (by omega) (by omega)
        refine ⟨r, ?_, r1, r2⟩
        refine Ev.step (fun k => by simp only [damaskref17_weight.l0]; rw [if_pos h, if_pos hn, if_pos h3]) ?_
        refine Ev.bind (a := t) ?_ ?_
        · have e1 : wrap64 (most - n) = most - n := IntWalk.wrap64_in _ (by omega)
          have e2 : wrap64 (((deep + 1 : Nat) : Int) - 1) = (deep : Int) := by rw [IntWalk.wrap64_in _ (by omega)]; omega
          simp only [e1, e2]
          exact ht
        · have e1 : wrap64 (n + t) = n + t := IntWalk.wrap64_in _ (by omega)
          have e2 : wrap64 (i + 1) = i + 1 := IntWalk.wrap64_in _ (by omega)
          simp only [e1, e2]
          exact hr
      · refine ⟨n, ?_, h1, h2⟩
        refine Ev.step (f := fun _ => some n) (fun k => ?_) (Ev.now _)
        simp only [damaskref17_weight.l0]
        rw [if_pos h, if_neg hn]
    · refine ⟨n, ?_, h1, h2⟩
      refine Ev.step (f := fun _ => some n) (fun k => ?_) (Ev.now _)
      simp only [damaskref17_weight.l0]
      rw [if_neg h]

theorem weight_ok : ∀ (deep : Nat), deep ≤ 60 → ∀ (x : Vl) (most : Int), 0 ≤ most → most ≤ 1000 → WeightOk x most deep := by
  intro deep
  induction deep with
  | zero =>
    intro _ x most h0 h1
    refine ⟨most + 1, Ev.step (f := fun _ => some (most + 1)) (fun k => ?_) (Ev.now _), by omega, by omega⟩
    simp only [damaskref17_weight.f]
    rw [if_pos (by rfl), IntWalk.wrap64_in _ (by omega)]
  | succ deep ih =>
    intro hd x most h0 h1
    obtain ⟨r, hr, r1, r2⟩ := weight_loop deep (by omega) (fun x most => ih (by omega) x most) most h0 h1 x.f0 x.f1 x.f2 x.f3 most.toNat 1 0 (by omega) (by omega) (by omega) (by omega) (by omega)
    refine ⟨r, Ev.step (fun k => ?_) hr, r1, r2⟩
    simp only [damaskref17_weight.f]
    rw [if_neg (by omega)]

theorem Weight_ok (x : Vl) : ∃ r, Go.Proofs.YtkfbhfmddmhiaaaDoorW.PrintWords.Ev (fun k => damaskref17_Weight.f k x.f0 x.f1 x.f2 x.f3 1000) r ∧ 1 ≤ r ∧ r ≤ 1001 := by
  obtain ⟨r, hr, r1, r2⟩ := weight_ok 60 (by omega) x 1000 (by omega) (by omega)
  refine ⟨r, ?_, r1, by omega⟩
  refine Ev.congr (f := fun k => (damaskref17_weight.f k x.f0 x.f1 x.f2 x.f3 1000 60).bind fun t => some t) (fun k => rfl) ?_
  exact Ev.bind hr (Ev.now r)

/-! ### few -/
/-- From event i on no event has more than 3000 accesses of a kind. -/
def FewFrom (l : List Ev) (i : Int) : Prop := ∀ j : Nat, i ≤ (j : Int) → j < l.length → (rd_T32 l (j : Int)).f5.length ≤ 3000 ∧ (rd_T32 l (j : Int)).f6.length ≤ 3000
def FewSays (l : List Ev) (n i : Int) (r : Bool) : Prop := r = true → l.length ≤ 400 ∧ n ≤ 3000 ∧ FewFrom l i
def Few0 (l : List Ev) (n i : Int) : Prop := ∃ r, Go.Proofs.YtkfbhfmddmhiaaaDoorW.PrintWords.Ev (fun k => damasklaw27_few.l0 k l n i) r ∧ FewSays l n i r

theorem few_end (l : List Ev) (n i : Int) (hi : (l.length : Int) ≤ i ∨ 3000 < n) (h0 : 0 ≤ i) : Few0 l n i := by
  refine ⟨if (l.length : Int) ≤ 400 then decide (n ≤ 3000) else false, ?_, ?_⟩
  · refine Ev.step (f := fun k => damasklaw27_few.j1 k l n i false) (fun k => ?_) (Ev.step (f := fun _ => some (if (l.length : Int) ≤ 400 then decide (n ≤ 3000) else false)) (fun k => ?_) (Ev.now _))
    · simp only [damasklaw27_few.l0]
      by_cases h : i < (l.length : Int)
      · rw [if_pos h, show decide (n ≤ 3000) = false from decide_eq_false (by omega)]
      · rw [if_neg h]
    · simp only [damasklaw27_few.j1]
      rw [if_neg (by decide)]
      by_cases h : (l.length : Int) ≤ 400
      · rw [if_pos h, if_pos h]
      · rw [if_neg h, if_neg h]
  · intro h
    by_cases hl : (l.length : Int) ≤ 400
    · rw [if_pos hl] at h
      have hn : n ≤ 3000 := of_decide_eq_true h
      refine ⟨by omega, hn, fun j hj hlt => ?_⟩
      omega
    · rw [if_neg hl] at h
      cases h

theorem few_l2 (l : List Ev) (m : Nat) (hin : ∀ n i : Int, (3001 - n).toNat ≤ m → 0 ≤ i → i ≤ n → n ≤ 5000 → Few0 l n i) (i : Int) (h0 : 0 ≤ i) (hil : i < (l.length : Int)) :
    ∀ (p : Nat) (n k : Int), (3001 - n).toNat ≤ p → (3001 - n).toNat ≤ m → 0 ≤ k → k ≤ n → i < n → n ≤ 5000 → ∃ r, Go.Proofs.YtkfbhfmddmhiaaaDoorW.PrintWords.Ev (fun q => damasklaw27_few.l2 q l n i k) r ∧ (r = true → l.length ≤ 400 ∧ n ≤ 3000 ∧ ((rd_T32 l i).f6.length : Int) - k ≤ 3000 - n ∧ FewFrom l (i + 1)) := by
  intro p
  induction p with
  | zero =>
    intro n k hp hm hk0 hkn hin' hn5
    obtain ⟨r, hr, hs⟩ := hin n (i + 1) hm (by omega) (by omega) hn5
    refine ⟨r, Ev.step (fun q => ?_) hr, fun h => ?_⟩
    · simp only [damasklaw27_few.l2]
      rw [if_pos h0, if_pos hil, show wrap64 (i + 1) = i + 1 from IntWalk.wrap64_in _ (by omega)]
      by_cases hk : k < ((rd_T32 l i).f6.length : Int)
      · rw [if_pos hk, if_neg (by omega)]
      · rw [if_neg hk]
    · have := (hs h).2.1
      omega
  | succ p ih =>
    intro n k hp hm hk0 hkn hin' hn5
    by_cases hk : k < ((rd_T32 l i).f6.length : Int)
    · by_cases hn : n ≤ 3000
      · obtain ⟨t, ht, t1, t2⟩ := Weight_ok (rd_T38 ((rd_T32 l i).f6) k).f1
        obtain ⟨r, hr, hs⟩ := ih (n + 1 + t) (k + 1) (by omega) (by omega) (by omega) (by omega) (by omega) (by omega)
        refine ⟨r, Ev.step (fun q => by simp only [damasklaw27_few.l2]; rw [if_pos h0, if_pos hil, if_pos hk, if_pos hn, if_pos hk0]) (Ev.bind (a := t) ht ?_), fun h => ?_⟩
        · have e1 : wrap64 (wrap64 (n + 1) + t) = n + 1 + t := by rw [IntWalk.wrap64_in (n + 1) (by omega), IntWalk.wrap64_in _ (by omega)]
          have e2 : wrap64 (k + 1) = k + 1 := IntWalk.wrap64_in _ (by omega)
          simp only [e1, e2]
          exact hr
        · obtain ⟨s1, s2, s3, s4⟩ := hs h
          exact ⟨s1, hn, by omega, s4⟩
      · obtain ⟨r, hr, hs⟩ := hin n (i + 1) hm (by omega) (by omega) hn5
        refine ⟨r, Ev.step (fun q => ?_) hr, fun h => ?_⟩
        · simp only [damasklaw27_few.l2]
          rw [if_pos h0, if_pos hil, if_pos hk, if_neg hn, show wrap64 (i + 1) = i + 1 from IntWalk.wrap64_in _ (by omega)]
        · have := (hs h).2.1
          omega
    · obtain ⟨r, hr, hs⟩ := hin n (i + 1) hm (by omega) (by omega) hn5
      refine ⟨r, Ev.step (fun q => ?_) hr, fun h => ?_⟩
      · simp only [damasklaw27_few.l2]
        rw [if_pos h0, if_pos hil, if_neg hk, show wrap64 (i + 1) = i + 1 from IntWalk.wrap64_in _ (by omega)]
      · obtain ⟨s1, s2, s3⟩ := hs h
        exact ⟨s1, s2, by omega, s3⟩

theorem few_l1 (l : List Ev) (m : Nat) (hin : ∀ n i : Int, (3001 - n).toNat ≤ m → 0 ≤ i → i ≤ n → n ≤ 5000 → Few0 l n i) (i : Int) (h0 : 0 ≤ i) (hil : i < (l.length : Int)) :
    ∀ (p : Nat) (n k : Int), (3001 - n).toNat ≤ p → (3001 - n).toNat ≤ m → 0 ≤ k → k ≤ n → i < n → n ≤ 5000 → ∃ r, Go.Proofs.YtkfbhfmddmhiaaaDoorW.PrintWords.Ev (fun q => damasklaw27_few.l1 q l n i k) r ∧ (r = true → l.length ≤ 400 ∧ n ≤ 3000 ∧ ((rd_T32 l i).f5.length : Int) - k ≤ 3000 - n ∧ ((rd_T32 l i).f6.length : Int) ≤ 3000 ∧ FewFrom l (i + 1)) := by
  have fin : ∀ n : Int, (3001 - n).toNat ≤ m → i < n → n ≤ 5000 → ∃ r, Go.Proofs.YtkfbhfmddmhiaaaDoorW.PrintWords.Ev (fun q => damasklaw27_few.j3 q l n i) r ∧ (r = true → l.length ≤ 400 ∧ n ≤ 3000 ∧ ((rd_T32 l i).f6.length : Int) ≤ 3000 ∧ FewFrom l (i + 1)) := by
    intro n hm hi5 hn5
    obtain ⟨r, hr, hs⟩ := few_l2 l m hin i h0 hil (3001 - n).toNat n 0 (Nat.le_refl _) hm (by omega) (by omega) hi5 hn5
    refine ⟨r, Ev.step (fun q => by simp only [damasklaw27_few.j3]) hr, fun h => ?_⟩
    obtain ⟨s1, s2, s3, s4⟩ := hs h
    exact ⟨s1, s2, by omega, s4⟩
  intro p
  induction p with
  | zero =>
    intro n k hp hm hk0 hkn hin' hn5
    obtain ⟨r, hr, hs⟩ := fin n hm hin' hn5
    refine ⟨r, Ev.step (fun q => ?_) hr, fun h => ?_⟩
    · simp only [damasklaw27_few.l1]
      rw [if_pos h0, if_pos hil]
      by_cases hk : k < ((rd_T32 l i).f5.length : Int)
      · rw [if_pos hk, if_neg (by omega)]
      · rw [if_neg hk]
    · have := (hs h).2.1
      omega
  | succ p ih =>
    intro n k hp hm hk0 hkn hin' hn5
    by_cases hk : k < ((rd_T32 l i).f5.length : Int)
    · by_cases hn : n ≤ 3000
      · obtain ⟨t, ht, t1, t2⟩ := Weight_ok (rd_T38 ((rd_T32 l i).f5) k).f1
        obtain ⟨r, hr, hs⟩ := ih (n + 1 + t) (k + 1) (by omega) (by omega) (by omega) (by omega) (by omega) (by omega)
        refine ⟨r, Ev.step (fun q => by simp only [damasklaw27_few.l1]; rw [if_pos h0, if_pos hil, if_pos hk, if_pos hn, if_pos hk0]) (Ev.bind (a := t) ht ?_), fun h => ?_⟩
        · have e1 : wrap64 (wrap64 (n + 1) + t) = n + 1 + t := by rw [IntWalk.wrap64_in (n + 1) (by omega), IntWalk.wrap64_in _ (by omega)]
          have e2 : wrap64 (k + 1) = k + 1 := IntWalk.wrap64_in _ (by omega)
          simp only [e1, e2]
          exact hr
        · obtain ⟨s1, s2, s3, s4, s5⟩ := hs h
          exact ⟨s1, hn, by omega, s4, s5⟩
      · obtain ⟨r, hr, hs⟩ := fin n hm hin' hn5
        refine ⟨r, Ev.step (fun q => ?_) hr, fun h => ?_⟩
        · simp only [damasklaw27_few.l1]
          rw [if_pos h0, if_pos hil, if_pos hk, if_neg hn]
        · have := (hs h).2.1
          omega
    · obtain ⟨r, hr, hs⟩ := fin n hm hin' hn5
      refine ⟨r, Ev.step (fun q => ?_) hr, fun h => ?_⟩
      · simp only [damasklaw27_few.l1]
        rw [if_pos h0, if_pos hil, if_neg hk]
      · obtain ⟨s1, s2, s3, s4⟩ := hs h
        exact ⟨s1, s2, by omega, s3, s4⟩

theorem few_l0 (l : List Ev) : ∀ (m : Nat) (n i : Int), (3001 - n).toNat ≤ m → 0 ≤ i → i ≤ n → n ≤ 5000 → Few0 l n i := by
  intro m
  induction m with
  | zero => intro n i hm h0 hi hn; exact few_end l n i (.inr (by omega)) h0
  | succ m ih =>
    intro n i hm h0 hi hn
    by_cases hil : i < (l.length : Int)
    · by_cases hn3 : n ≤ 3000
      · obtain ⟨r, hr, hs⟩ := few_l1 l m ih i h0 hil m (n + 1) 0 (by omega) (by omega) (by omega) (by omega) (by omega) (by omega)
        refine ⟨r, Ev.step (f := fun k => damasklaw27_few.j1 k l n i true) (fun k => ?_) (Ev.step (f := fun k => damasklaw27_few.l1 k l (n + 1) i 0) (fun k => ?_) hr), fun h => ?_⟩
        · simp only [damasklaw27_few.l0]
          rw [if_pos hil, show decide (n ≤ 3000) = true from decide_eq_true hn3]
        · simp only [damasklaw27_few.j1]
          rw [if_pos trivial, show wrap64 (n + 1) = n + 1 from IntWalk.wrap64_in _ (by omega)]
        · obtain ⟨s1, s2, s3, s4, s5⟩ := hs h
          refine ⟨s1, hn3, fun j hj hlt => ?_⟩
          by_cases hji : (j : Int) = i
          · subst hji
            exact ⟨by omega, by omega⟩
          · exact s5 j (by omega) hlt
      · exact few_end l n i (.inr (by omega)) h0
    · exact few_end l n i (.inl (by omega)) h0

theorem few_ok (l : List Ev) : ∃ k r, damasklaw27_few.f k l = some r ∧ (r = true → l.length ≤ 400 ∧ Small l) := by
  obtain ⟨r, hr, hs⟩ := few_l0 l 3001 0 0 (by omega) (by omega) (by omega) (by omega)
  obtain ⟨k, hk⟩ := Ev.rounds hr
  refine ⟨k, r, hk, fun h => ?_⟩
  obtain ⟨s1, _, s3⟩ := hs h
  refine ⟨s1, by omega, fun x hx => ?_⟩
  obtain ⟨j, hj, rfl⟩ := List.mem_iff_getElem.1 hx
  have := s3 j (by omega) hj
  have e2 : rd_T32 l (j : Int) = l[j] := by simp [rd_T32, List.getD_eq_getElem?_getD, List.getElem?_eq_getElem hj]
  rw [e2] at this
  exact ⟨by omega, by omega⟩

/-! ### mod -/
theorem mod_ok (n : Int) (m : Int) (h1 : 1 ≤ m) (h2 : m ≤ 1000) : ∃ r, damasklaw27_mod.f n m = some r ∧ 0 ≤ r ∧ r < m := by
  have e1 : IntKind.u64.wrap m = m := by simp [IntKind.wrap, IntKind.bits, IntKind.signed]; omega
  have h0 : 0 ≤ IntKind.u64.wrap n := by simp [IntKind.wrap, IntKind.bits, IntKind.signed]; omega
  refine ⟨wrap64 (Int.tmod (IntKind.u64.wrap n) m), ?_, ?_⟩
  · unfold damasklaw27_mod.f
    rw [e1, if_neg (by omega)]
  · have a1 := Int.tmod_nonneg m h0
    have a2 := Int.tmod_lt_of_pos (IntKind.u64.wrap n) (show 0 < m by omega)
    rw [IntWalk.wrap64_in _ (by omega)]
    exact ⟨a1, a2⟩

/-! ### the judgement of a beginning -/
theorem badJ_range {j : JS} {x : Ev} {k : Nat} (h : badJ j x = some k) : 1 ≤ k ∧ k ≤ 6 := by
  unfold badJ at h
  repeat' split at h
  all_goals first | (injection h with h; omega) | cases h

theorem runJ_none {l : List Ev} : ∀ {j : JS} {i : Nat} (m : Nat), runJ j i l = none → runJ j i (l.take m) = none := by
  induction l with
  | nil => intro j i m _; rw [List.take_nil]; rfl
  | cons x r ih =>
    intro j i m h
    cases m with
    | zero => rfl
    | succ m =>
      rw [List.take_succ_cons]
      unfold runJ at h ⊢
      cases hb : badJ j x with
      | some k => rw [hb] at h; cases h
      | none =>
        rw [hb] at h
        exact ih m h

theorem runJ_some {l : List Ev} : ∀ {j : JS} {i a k : Nat}, runJ j i l = some (a, k) → i ≤ a ∧ a < i + l.length ∧ 1 ≤ k ∧ k ≤ 6 ∧ (∀ m, m ≤ a - i → runJ j i (l.take m) = none) ∧ ∀ m, a - i < m → runJ j i (l.take m) = some (a, k) := by
  induction l with
  | nil => intro j i a k h; cases h
  | cons x r ih =>
    intro j i a k h
    unfold runJ at h
    cases hb : badJ j x with
    | some q =>
      rw [hb] at h
      injection h with h
      injection h with h1 h2
      subst h1 h2
      obtain ⟨k1, k2⟩ := badJ_range hb
      refine ⟨Nat.le_refl _, by simp, k1, k2, fun m hm => ?_, fun m hm => ?_⟩
      · have : m = 0 := by omega
        subst this
        rfl
      · obtain ⟨m, rfl⟩ : ∃ p, m = p + 1 := ⟨m - 1, by omega⟩
        rw [List.take_succ_cons]
        unfold runJ
        rw [hb]
    | none =>
      rw [hb] at h
      obtain ⟨h1, h2, h3, h4, h5, h6⟩ := ih h
      refine ⟨by omega, by rw [List.length_cons]; omega, h3, h4, fun m hm => ?_, fun m hm => ?_⟩
      · cases m with
        | zero => rfl
        | succ m =>
          rw [List.take_succ_cons]
          unfold runJ
          rw [hb]
          exact h5 m (by omega)
      · obtain ⟨m, rfl⟩ : ∃ p, m = p + 1 := ⟨m - 1, by omega⟩
        rw [List.take_succ_cons]
        unfold runJ
        rw [hb]
        exact h6 m (by omega)
end Go.Proofs.YtkfbhfmddmhiaaaDoor.TJ
