/- The rules of a trace, told by what came before: the judge that learns says the same of every trace. Conditions: none. The reference's search for the last write of a variable: the Go function last answers as the plain function. Conditions: the trace lies in memory. -/
import Derived.Test.YtkfbhfmddmhiaaaGreatDoorJ0
import Derived.Lib.Hide
namespace Go.Proofs.YtkfbhfmddmhiaaaGreatDoor.TJ
open Go.RowKit Go.Proofs.YtkfbhfmddmhiaaaGreatDoorW.PrintWords Go.Proofs.YtkfbhfmddmhiaaaGreatDoor.PT Go.Proofs.YtkfbhfmddmhiaaaGreatDoor.IMaps
set_option linter.unusedVariables false
set_option linter.unusedSimpArgs false

def madeN (p : List Ev) : Nat := (p.filter (fun x => x.f2 == 3)).length
def overE (x : Ev) : Bool := x.f2 == 10 || (x.f2 == 11 || x.f2 == 12)
def sentN (p : List Ev) (n : Int) : List Int := (p.filter (fun x => x.f2 == 4 && x.f3 == n)).map (·.f4)
def takenN (p : List Ev) (n : Int) : Nat := (p.filter (fun x => x.f2 == 5 && x.f1 == n)).length
def dueN (p : List Ev) (n : Int) : Option Int := (sentN p n)[takenN p n]?
def findA (l : List Ac) (v : Int) : Option Vl := (l.find? (fun a => a.f0 == v)).map (·.f1)
def writeN (x : Ev) (v : Int) : Option Vl := if x.f2 = 7 then findA x.f6 v else none
def lastN : List Ev → Int → Option Vl
  | [], _ => none
  | x :: r, v => match lastN r v with
    | some y => some y
    | none => writeN x v

theorem lastN_snoc (x : Ev) (v : Int) : ∀ p : List Ev, lastN (p ++ [x]) v = match writeN x v with | some y => some y | none => lastN p v
  | [] => by simp only [List.nil_append, lastN]; cases writeN x v <;> rfl
  | y :: r => by
    simp only [List.cons_append, lastN, lastN_snoc x v r]
    cases writeN x v <;> rfl
theorem madeN_snoc (p : List Ev) (x : Ev) : madeN (p ++ [x]) = madeN p + if x.f2 = 3 then 1 else 0 := by
  unfold madeN; by_cases h : x.f2 = 3 <;> simp [List.filter_append, List.filter_cons, h]
theorem sentN_snoc (p : List Ev) (x : Ev) (n : Int) : sentN (p ++ [x]) n = sentN p n ++ if x.f2 = 4 ∧ x.f3 = n then [x.f4] else [] := by
  unfold sentN; by_cases h : x.f2 = 4 ∧ x.f3 = n
  · simp [List.filter_append, List.filter_cons, h]
  · rw [if_neg h]
    have : (x.f2 == 4 && x.f3 == n) = false := by
      cases hb : (x.f2 == 4 && x.f3 == n)
      · rfl
      · exact absurd (by simpa using hb) h
    simp [List.filter_append, List.filter_cons, this]
theorem takenN_snoc (p : List Ev) (x : Ev) (n : Int) : takenN (p ++ [x]) n = takenN p n + if x.f2 = 5 ∧ x.f1 = n then 1 else 0 := by
  unfold takenN; by_cases h : x.f2 = 5 ∧ x.f1 = n
  · simp [List.filter_append, List.filter_cons, h]
  · rw [if_neg h]
    have : (x.f2 == 5 && x.f1 == n) = false := by
      cases hb : (x.f2 == 5 && x.f1 == n)
      · rfl
      · exact absurd (by simpa using hb) h
    simp [List.filter_append, List.filter_cons, this]

def ref1 (p : List Ev) (x : Ev) : Bool := decide (1 ≤ x.f0) && decide (x.f0 ≤ 6000) && (match p.getLast? with | none => true | some y => decide (y.f0 < x.f0) || (x.f0 == y.f0 && x.f1 == y.f1))
def ref2 (p : List Ev) (x : Ev) : Bool := decide (0 ≤ x.f1) && decide (x.f1 ≤ (madeN p : Int)) && (x.f2 != 3 || x.f3 == (madeN p : Int) + 1)
def ref3 (p : List Ev) (x : Ev) : Bool := p.all (fun y => !(overE y && (y.f1 == x.f1 || (y.f1 == 0 && decide (y.f0 < x.f0)))))
def ref4 (p : List Ev) (x : Ev) : Bool := x.f2 != 5 || (match dueN p x.f1 with | some a => a == x.f3 | none => false)
def clashN (p : List Ev) (a : Ac) : Bool := match lastN p a.f0 with | some v => !agreeV v a.f1 | none => false
def ref6 (p : List Ev) (x : Ev) : Bool := x.f2 != 7 || !(x.f5.any (clashN p))
def refB (p : List Ev) (x : Ev) : Nat → Bool
  | 1 => ref1 p x
  | 2 => ref2 p x
  | 3 => ref3 p x
  | 4 => ref4 p x
  | 5 => fieldsB x
  | 6 => ref6 p x
  | _ => true
def refBad (p : List Ev) (x : Ev) : Option Nat :=
  if ref1 p x = false then some 1 else if ref2 p x = false then some 2 else if ref3 p x = false then some 3 else if ref4 p x = false then some 4 else if fieldsB x = false then some 5 else if ref6 p x = false then some 6 else none
def refRun : List Ev → List Ev → Option (Nat × Nat)
  | _, [] => none
  | p, x :: r => match refBad p x with
    | some k => some (p.length, k)
    | none => refRun (p ++ [x]) r

structure Inv (j : JS) (p : List Ev) : Prop where
  begun : (j.begun = false ∧ p = []) ∨ (j.begun = true ∧ ∃ q y, p = q ++ [y] ∧ j.lt = y.f0 ∧ j.lth = y.f1)
  threads : j.threads = madeN p + 1
  ended : ∀ n, j.ended n = p.any (fun y => overE y && y.f1 == n)
  pos : ∀ y ∈ p, 1 ≤ y.f0
  over1 : j.over ≠ 0 → ∃ y ∈ p, overE y = true ∧ y.f1 = 0 ∧ y.f0 = j.over
  over2 : ∀ y ∈ p, overE y = true → y.f1 = 0 → y.f0 = j.over
  pend : ∀ n, j.pend n = (sentN p n).drop (takenN p n) ∧ takenN p n ≤ (sentN p n).length
  vars : ∀ v, j.vars v = lastN p v
  keys : ∀ v, j.vars v ≠ none → 0 ≤ v ∧ v < 64

theorem inv0 : Inv js0 [] := ⟨.inl ⟨rfl, rfl⟩, rfl, fun _ => rfl, by simp, fun h => absurd rfl h, by simp, fun n => ⟨rfl, by simp [takenN]⟩, fun _ => rfl, fun _ h => absurd rfl h⟩

theorem inv_1 {j : JS} {p : List Ev} (h : Inv j p) (x : Ev) : turnsB j x = ref1 p x := by
  unfold turnsB ref1
  rcases h.begun with ⟨hb, rfl⟩ | ⟨hb, q, y, rfl, h1, h2⟩
  · simp [hb]
  · simp [hb, h1, h2]
theorem inv_2 {j : JS} {p : List Ev} (h : Inv j p) (x : Ev) : numbersB j x = ref2 p x := by
  unfold numbersB ref2
  rw [h.threads]
  have : decide (x.f1 < (madeN p : Int) + 1) = decide (x.f1 ≤ (madeN p : Int)) := by
    rw [decide_eq_decide]; omega
  rw [this]
theorem inv_3 {j : JS} {p : List Ev} (h : Inv j p) (x : Ev) : endsB j x = ref3 p x := by
  unfold endsB ref3
  rw [h.ended, Bool.eq_iff_iff]
  simp only [Bool.and_eq_true, Bool.not_eq_true', List.any_eq_false, Bool.or_eq_true, beq_iff_eq, decide_eq_true_eq, List.all_eq_true, Bool.and_eq_false_iff, Bool.or_eq_false_iff, beq_eq_false_iff_ne, decide_eq_false_iff_not, ne_eq]
  constructor
  · rintro ⟨h1, h2⟩ y hy
    by_cases ho : overE y = true
    · right
      refine ⟨fun e => h1 y hy ⟨ho, e⟩, ?_⟩
      by_cases h0 : y.f1 = 0
      · right
        have e1 := h.over2 y hy ho h0
        have e2 := h.pos y hy
        omega
      · exact .inl h0
    · exact .inl (by simpa using ho)
  · intro hall
    refine ⟨fun y hy hc => ?_, ?_⟩
    · rcases hall y hy with ho | ⟨h1, _⟩
      · rw [hc.1] at ho; cases ho
      · exact h1 hc.2
    · by_cases h0 : j.over = 0
      · exact .inl h0
      · right
        obtain ⟨y, hy, ho, hz, he⟩ := h.over1 h0
        rcases hall y hy with ho' | ⟨_, h2⟩
        · rw [ho] at ho'; cases ho'
        · rcases h2 with h2 | h2
          · exact absurd hz h2
          · omega
theorem inv_4 {j : JS} {p : List Ev} (h : Inv j p) (x : Ev) : hitsB j x = ref4 p x := by
  unfold hitsB ref4 dueN
  rw [(h.pend x.f1).1, ← List.head?_drop]
  cases (sentN p x.f1).drop (takenN p x.f1) <;> rfl
theorem inv_clash {j : JS} {p : List Ev} (h : Inv j p) : clashB j = clashN p := by
  funext a
  unfold clashB clashN
  rw [h.vars]
  cases lastN p a.f0 <;> rfl
theorem inv_6 {j : JS} {p : List Ev} (h : Inv j p) (x : Ev) (h5 : fieldsB x = true) : commitsB j x = ref6 p x := by
  unfold commitsB ref6
  rw [inv_clash h]
  by_cases h7 : x.f2 = 7
  · simp [h7]
  · have : x.f5.isEmpty = true := by
      unfold fieldsB at h5
      simp only [Bool.and_eq_true, Bool.or_eq_true, beq_iff_eq, h7, false_or] at h5
      exact h5.1.1.2.1
    have e : x.f5 = [] := by simpa using this
    rw [e]
    simp [h7]

theorem inv_bad {j : JS} {p : List Ev} (h : Inv j p) (x : Ev) : badJ j x = refBad p x := by
  unfold badJ refBad
  rw [inv_1 h, inv_2 h, inv_3 h, inv_4 h]
  by_cases h5 : fieldsB x = true
  · rw [inv_6 h x h5]
  · have : fieldsB x = false := by simpa using h5
    simp [this]

theorem ascP_gt : ∀ (l : List Ac) (q : Int), ascP (some q) l = true → ∀ a ∈ l, q < a.f0
  | [], _, _, _, h => by cases h
  | b :: r, q, hp, a, h => by
    simp only [ascP, Bool.and_eq_true, decide_eq_true_eq] at hp
    rcases List.mem_cons.1 h with rfl | h
    · exact hp.1.2
    · have := ascP_gt r b.f0 hp.2 a h
      have := hp.1.2
      omega
theorem ascP_range : ∀ (l : List Ac) (q : Option Int), ascP q l = true → ∀ a ∈ l, 0 ≤ a.f0 ∧ a.f0 < 64
  | [], _, _, _, h => by cases h
  | b :: r, q, hp, a, h => by
    simp only [ascP, Bool.and_eq_true, decide_eq_true_eq] at hp
    rcases List.mem_cons.1 h with rfl | h
    · exact ⟨hp.1.1.1, hp.1.1.2⟩
    · exact ascP_range r _ hp.2 a h
theorem findA_none {l : List Ac} {v : Int} (h : ∀ a ∈ l, a.f0 ≠ v) : findA l v = none := by
  unfold findA
  rw [List.find?_eq_none.2 (fun a ha => by simpa using h a ha)]
  rfl
theorem foldl_find : ∀ (l : List Ac) (q : Option Int) (f : Int → Option Vl) (v : Int), ascP q l = true → (l.foldl (fun f a => setF f a.f0 (some a.f1)) f) v = match findA l v with | some y => some y | none => f v
  | [], _, _, _, _ => rfl
  | a :: r, q, f, v, hp => by
    have hp' : ascP (some a.f0) r = true := by
      simp only [ascP, Bool.and_eq_true] at hp; exact hp.2
    simp only [List.foldl_cons]
    rw [foldl_find r (some a.f0) (setF f a.f0 (some a.f1)) v hp']
    by_cases he : a.f0 = v
    · have hn : findA r v = none := findA_none fun b hb => by have := ascP_gt r a.f0 hp' b hb; omega
      rw [hn]
      simp [findA, List.find?_cons, he, setF]
    · have : findA (a :: r) v = findA r v := by
        unfold findA
        rw [List.find?_cons, beq_eq_false_iff_ne.2 he]
      rw [this]
      cases findA r v with
      | some y => rfl
      | none => simp [setF, he]

theorem learn_vars (j : JS) (x : Ev) : (learnJ j x).vars = x.f6.foldl (fun f a => setF f a.f0 (some a.f1)) j.vars := by
  unfold learnJ
  dsimp only
  split
  · rfl
  · split
    · rfl
    · split
      · rfl
      · split <;> rfl
theorem learn_threads (j : JS) (x : Ev) : (learnJ j x).threads = j.threads + if x.f2 = 3 then 1 else 0 := by
  unfold learnJ
  by_cases h : x.f2 = 3
  · simp [h]
  · simp only [h, if_false]
    split
    · simp
    · split
      · simp
      · split <;> simp
theorem overE_iff (x : Ev) : overE x = true ↔ x.f2 = 10 ∨ x.f2 = 11 ∨ x.f2 = 12 := by unfold overE; simp
theorem learn_ended (j : JS) (x : Ev) : (learnJ j x).ended = if overE x = true then setF j.ended x.f1 true else j.ended := by
  by_cases h : x.f2 = 10 ∨ x.f2 = 11 ∨ x.f2 = 12
  · rw [if_pos ((overE_iff x).2 h)]
    have h3 : x.f2 ≠ 3 := by omega
    have h4 : x.f2 ≠ 4 := by omega
    have h5 : x.f2 ≠ 5 := by omega
    unfold learnJ; simp only [h3, h4, h5, h, if_true, if_false]
  · rw [if_neg (fun e => h ((overE_iff x).1 e))]
    unfold learnJ; simp only [h, if_false]
    split
    · rfl
    · split
      · rfl
      · split <;> rfl
theorem learn_over (j : JS) (x : Ev) : (learnJ j x).over = if overE x = true ∧ x.f1 = 0 then x.f0 else j.over := by
  by_cases h : x.f2 = 10 ∨ x.f2 = 11 ∨ x.f2 = 12
  · have h3 : x.f2 ≠ 3 := by omega
    have h4 : x.f2 ≠ 4 := by omega
    have h5 : x.f2 ≠ 5 := by omega
    have ho := (overE_iff x).2 h
    unfold learnJ; simp only [h3, h4, h5, h, ho, if_true, if_false, true_and]
  · rw [if_neg (fun e => h ((overE_iff x).1 e.1))]
    unfold learnJ; simp only [h, if_false]
    split
    · rfl
    · split
      · rfl
      · split <;> rfl
theorem learn_pend (j : JS) (x : Ev) : (learnJ j x).pend = if x.f2 = 4 then setF j.pend x.f3 (j.pend x.f3 ++ [x.f4]) else if x.f2 = 5 then setF j.pend x.f1 (j.pend x.f1).tail else j.pend := by
  by_cases h4 : x.f2 = 4
  · have h3 : x.f2 ≠ 3 := by omega
    unfold learnJ; simp only [h3, h4, if_true, if_false]
    rfl
  · by_cases h5 : x.f2 = 5
    · have h3 : x.f2 ≠ 3 := by omega
      unfold learnJ; simp only [h3, h4, h5, if_true, if_false]
      rfl
    · unfold learnJ; simp only [h4, h5, if_false]
      split
      · rfl
      · split <;> rfl

theorem bad_none {j : JS} {x : Ev} (h : badJ j x = none) : turnsB j x = true ∧ numbersB j x = true ∧ endsB j x = true ∧ hitsB j x = true ∧ fieldsB x = true ∧ commitsB j x = true := by
  unfold badJ at h
  split at h
  · cases h
  · split at h
    · cases h
    · split at h
      · cases h
      · split at h
        · cases h
        · split at h
          · cases h
          · split at h
            · cases h
            · simp_all

theorem inv_step {j : JS} {p : List Ev} (h : Inv j p) (x : Ev) (hb : badJ j x = none) : Inv (learnJ j x) (p ++ [x]) := by
  obtain ⟨b1, b2, b3, b4, b5, b6⟩ := bad_none hb
  have hasc : ascP none x.f6 = true := by
    unfold fieldsB at b5; simp only [Bool.and_eq_true] at b5; exact b5.2
  have h67 : x.f2 = 7 ∨ x.f6 = [] := by
    unfold fieldsB at b5
    simp only [Bool.and_eq_true, Bool.or_eq_true, beq_iff_eq] at b5
    rcases b5.1.1.2 with h7 | h7
    · exact .inl h7
    · exact .inr (by simpa using h7.2)
  have hnew : ∀ v, (learnJ j x).vars v = lastN (p ++ [x]) v := by
    intro v
    rw [learn_vars, foldl_find _ none _ _ hasc, lastN_snoc, h.vars]
    rcases h67 with h7 | h7
    · simp [writeN, h7]
    · simp [writeN, h7, findA]
  refine ⟨.inr ⟨rfl, p, x, rfl, rfl, rfl⟩, ?_, fun n => ?_, ?_, ?_, ?_, fun n => ?_, hnew, ?_⟩
  · rw [learn_threads, madeN_snoc, h.threads]
    split <;> simp <;> omega
  · rw [learn_ended, List.any_append]
    simp only [List.any_cons, List.any_nil, Bool.or_false]
    by_cases ho : overE x = true
    · rw [if_pos ho, ho]
      unfold setF
      by_cases he : x.f1 = n
      · simp [he]
      · rw [if_neg he, h.ended, beq_eq_false_iff_ne.2 he]; simp
    · have : overE x = false := by simpa using ho
      rw [if_neg ho, h.ended, this]; simp
  · intro y hy
    rcases List.mem_append.1 hy with hy | hy
    · exact h.pos y hy
    · have : y = x := by simpa using hy
      subst this
      unfold turnsB at b1
      simp only [Bool.and_eq_true, decide_eq_true_eq] at b1
      exact b1.1.1
  · rw [learn_over]
    intro hne
    by_cases hc : overE x = true ∧ x.f1 = 0
    · rw [if_pos hc]; exact ⟨x, by simp, hc.1, hc.2, rfl⟩
    · rw [if_neg hc] at hne ⊢
      obtain ⟨y, hy, g⟩ := h.over1 hne
      exact ⟨y, List.mem_append_left _ hy, g⟩
  · rw [learn_over]
    intro y hy ho hz
    rcases List.mem_append.1 hy with hy | hy
    · by_cases hc : overE x = true ∧ x.f1 = 0
      · exfalso
        unfold endsB at b3
        simp only [Bool.and_eq_true, Bool.not_eq_true', hc.2] at b3
        have := b3.1
        rw [h.ended, List.any_eq_false] at this
        exact this y hy (by simp [ho, hz])
      · rw [if_neg hc]; exact h.over2 y hy ho hz
    · have : y = x := by simpa using hy
      subst this
      rw [if_pos ⟨ho, hz⟩]
  · rw [learn_pend, sentN_snoc, takenN_snoc]
    obtain ⟨g1, g2⟩ := h.pend n
    by_cases h4 : x.f2 = 4
    · have h5 : ¬ (x.f2 = 5 ∧ x.f1 = n) := by omega
      rw [if_pos h4, if_neg h5, Nat.add_zero]
      unfold setF
      by_cases hn : x.f3 = n
      · rw [if_pos hn, if_pos ⟨h4, hn⟩, hn, g1, List.drop_append_of_le_length g2]
        exact ⟨rfl, by simp; omega⟩
      · rw [if_neg hn, if_neg (fun e => hn e.2), List.append_nil]
        exact ⟨g1, g2⟩
    · rw [if_neg h4, if_neg (fun e : x.f2 = 4 ∧ x.f3 = n => h4 e.1), List.append_nil]
      by_cases h5 : x.f2 = 5
      · rw [if_pos h5]
        unfold setF
        by_cases hn : x.f1 = n
        · rw [if_pos hn, if_pos ⟨h5, hn⟩, hn, g1, List.tail_drop]
          refine ⟨rfl, ?_⟩
          unfold hitsB at b4
          rw [hn, g1] at b4
          simp only [h5, bne_self_eq_false, Bool.false_or] at b4
          cases hd : (sentN p n).drop (takenN p n) with
          | nil => rw [hd] at b4; cases b4
          | cons a r =>
            have : takenN p n < (sentN p n).length := by
              rcases Nat.lt_or_ge (takenN p n) (sentN p n).length with hlt | hge
              · exact hlt
              · rw [List.drop_eq_nil_of_le hge] at hd; cases hd
            omega
        · rw [if_neg hn, if_neg (fun e => hn e.2), Nat.add_zero]
          exact ⟨g1, g2⟩
      · rw [if_neg h5, if_neg (fun e : x.f2 = 5 ∧ x.f1 = n => h5 e.1), Nat.add_zero]
        exact ⟨g1, g2⟩
  · intro v hv
    rw [learn_vars, foldl_find _ none _ _ hasc] at hv
    cases hf : findA x.f6 v with
    | none => rw [hf] at hv; exact h.keys v hv
    | some y =>
      unfold findA at hf
      obtain ⟨a, ha, _⟩ := Option.map_eq_some_iff.1 hf
      have hm := List.mem_of_find?_eq_some ha
      have hp := List.find?_some ha
      have : a.f0 = v := by simpa using hp
      subst this
      exact ascP_range _ _ hasc a hm

theorem run_ref : ∀ (r : List Ev) (j : JS) (p : List Ev), Inv j p → runJ j p.length r = refRun p r
  | [], _, _, _ => rfl
  | x :: r, j, p, h => by
    simp only [runJ, refRun, inv_bad h x]
    cases hb : refBad p x with
    | some k => rfl
    | none =>
      have := run_ref r (learnJ j x) (p ++ [x]) (inv_step h x ((inv_bad h x).trans hb))
      simpa using this
theorem run_inv : ∀ (r : List Ev) (j : JS) (p : List Ev), Inv j p → runJ j p.length r = none → Inv (r.foldl learnJ j) (p ++ r)
  | [], _, p, h, _ => by simpa using h
  | x :: r, j, p, h, hn => by
    simp only [runJ] at hn
    cases hb : badJ j x with
    | some k => rw [hb] at hn; cases hn
    | none =>
      rw [hb] at hn
      have := run_inv r (learnJ j x) (p ++ [x]) (inv_step h x hb) (by simpa using hn)
      simpa using this
theorem run_ref0 (l : List Ev) : runJ js0 0 l = refRun [] l := run_ref l js0 [] inv0
theorem run_inv0 {l : List Ev} (h : runJ js0 0 l = none) : Inv (l.foldl learnJ js0) l := by
  have := run_inv l js0 [] inv0 h
  simpa using this
end Go.Proofs.YtkfbhfmddmhiaaaGreatDoor.TJ
namespace Go.Proofs.YtkfbhfmddmhiaaaGreatDoor.TJ
open Go.RowKit Go.Proofs.YtkfbhfmddmhiaaaGreatDoorW.PrintWords Go.Proofs.YtkfbhfmddmhiaaaGreatDoor.PT Go.Proofs.YtkfbhfmddmhiaaaGreatDoor.IMaps
set_option linter.unusedVariables false
set_option linter.unusedSimpArgs false

theorem rdE2 (l : List Ev) (j : Nat) (h : j < l.length) : rd_T44 l (j : Int) = l[j] := by simp [rd_T44, List.getD_eq_getElem?_getD, List.getElem?_eq_getElem h]
theorem rdA2 (l : List Ac) (j : Nat) (h : j < l.length) : rd_T51 l (j : Int) = l[j] := by simp [rd_T51, List.getD_eq_getElem?_getD, List.getElem?_eq_getElem h]

theorem lastN_take (l : List Ev) (j : Nat) (h : j < l.length) (v : Int) : lastN (l.take (j + 1)) v = match writeN l[j] v with | some y => some y | none => lastN (l.take j) v := by
  rw [List.take_succ_eq_append_getElem h, lastN_snoc]
  all_goals (cases writeN l[j] v <;> rfl)
theorem findA_drop (l : List Ac) (k : Nat) (h : k < l.length) (v : Int) : findA (l.drop k) v = if l[k].f0 = v then some l[k].f1 else findA (l.drop (k + 1)) v := by
  rw [List.drop_eq_getElem_cons h]
  unfold findA
  rw [List.find?_cons]
  by_cases he : l[k].f0 = v
  · simp [he]
  · rw [if_neg he, beq_eq_false_iff_ne.2 he]

def LastPost (w W : World) (r : Option Vl) (e : Ending) (w' : World) : Prop :=
  Below W.heap.size W w' ∧ match r with
    | some x => ∃ A c, e = .returned (.tuple #[.agg #[.int .i64 x.f0, .int .i64 x.f1, .string x.f2, .slice A x.f3.length c], .bool true]) ∧ x.f3.length ≤ c ∧ kVl.C w A x.f3.length x.f3
    | none => e = .returned (.tuple #[.agg #[.int .i64 0, .int .i64 0, .string ⟨#[]⟩, .slice none 0 0], .bool false])

set_option maxRecDepth 100000 in
set_option maxHeartbeats 4000000 in
theorem last_calls (l : List Ev) (i : Nat) (hi : i ≤ l.length) (v : Int) (hs : l.length ≤ 4000000) (hw : ∀ x ∈ l, x.f6.length ≤ 4000000) (w : World) (A : Option Addr) (c : Nat) (hc : l.length ≤ c) (C1 : kEv.C w A l.length l) (W : World) (hW : Below w.heap.size w W) :
    Calls Tryz.prog 42 #[.slice A l.length c, .int .i64 i, .int .i64 v] W (LastPost w W (lastN (l.take i) v)) := by
  have HWb := Aside0.mk hW
  have K1 := Aside0.mk C1
  have HW := Lib.hid hw
  clear C1 hw hW
  go_enter Tryz.func42, Tryz.ntmps42
  go_wp2
  go_loop [8] (fun s => ∃ m : Nat, m ≤ i ∧ s = .int .i64 ((m : Int) - 1) ∧ Aside0 (lastN (l.take m) v = lastN (l.take i) v)) (fun s => (intOf s + 1).toNat)
  case atStart => exact ⟨i, by omega, rfl, ⟨rfl⟩⟩
  case round =>
    obtain ⟨m, hm, rfl, HM⟩ := hrel
    cases m with
    | zero =>
      have hneg : decide ((0 : Int) ≤ ((0 : Nat) : Int) - 1) = false := by decide
      go_wp2
      refine bodyPost_ret (v := .tuple #[.agg #[.int .i64 0, .int .i64 0, .string ⟨#[]⟩, .slice none 0 0], .bool false]) (by simp [results, Tryz.results42, go_sem]) rfl ?_
      have hn : lastN (l.take i) v = none := by rw [← HM.out]; rfl
      rw [hn]
      exact ⟨below_alloc (Below.refl _ _) _, rfl⟩
    | succ j =>
      have hj : j < l.length := by omega
      have hcast : ((j + 1 : Nat) : Int) - 1 = (j : Int) := by omega
      rw [hcast]
      obtain ⟨ad, A5, c5, A6, c6, e3, hx0, hx1, hx2, hx3, hx4, hx5, hx6, g5, C5, g6, C6⟩ := at_T44 K1.out (j : Int) (by omega) (by omega)
      have hlen : (rd_T44 l (j : Int)).f6.length ≤ 4000000 := by rw [rdE2 l j hj]; exact HW.out _ (List.getElem_mem hj)
      have htk := lastN_take l j hj v
      rw [← rdE2 l j hj] at htk
      rw [htk] at HM
      cases e3
      simp only [Int.toNat_natCast] at hx2 hx6
      have hy2 := fun o => pw_cell_below (below_alloc HWb.out o) hx2
      have hy6 := fun o => pw_cell_below (below_alloc HWb.out o) hx6
      generalize hX : rd_T44 l (j : Int) = X at *
      have KC := Lib.hid (And.intro g6 C6)
      clear hX htk hcast hx0 hx1 hx2 hx3 hx4 hx5 hx6 g5 C5 g6 C6
      have hwr : Hid (writeN X v = if X.f2 = 7 then findA (X.f6.drop 0) v else none) := Lib.hid rfl
      go_wp2
      go_loop [9] (fun s => ∃ k : Nat, k ≤ X.f6.length ∧ s = .int .i64 k ∧ Aside0 (writeN X v = if X.f2 = 7 then findA (X.f6.drop k) v else none)) (fun s => X.f6.length - (intOf s).toNat)
      case atStart => exact ⟨0, by omega, rfl, ⟨hwr.out⟩⟩
      case round =>
        clear hwr
        obtain ⟨k, hk, rfl, HW2⟩ := hrel
        by_cases hkl : k < X.f6.length
        · cases h7 : (X.f2 == 7) with
          | true =>
            have h7' : X.f2 = 7 := by simpa using h7
            obtain ⟨ad2, A4, c4, e4, hz0, hz1, hz2, hz3, hz4, g4, C4⟩ := at_T51 KC.out.2 (k : Int) (by omega) (by omega)
            cases e4
            simp only [Int.toNat_natCast] at hz0 hz1 hz2 hz3 hz4
            have ho0 := fun o => pw_cell_below (below_alloc HWb.out o) hz0
            have ho1 := fun o => pw_cell_below (below_alloc HWb.out o) hz1
            have ho2 := fun o => pw_cell_below (below_alloc HWb.out o) hz2
            have ho3 := fun o => pw_cell_below (below_alloc HWb.out o) hz3
            have ho4 := fun o => pw_cell_below (below_alloc HWb.out o) hz4
            have hfd := HW2.out
            rw [if_pos h7', findA_drop _ k hkl] at hfd
            rw [rdA2 _ k hkl] at *
            generalize X.f6[k] = a at *
            have HF := Lib.hid hfd
            have HD := Lib.hid (And.intro g4 C4)
            clear hfd h7' hz0 hz1 hz2 hz3 hz4 g4 C4 HW2
            cases he : (a.f0 == v) with
            | true =>
              go_wp2
              refine bodyPost_ret (v := .tuple #[.agg #[.int .i64 a.f1.f0, .int .i64 a.f1.f1, .string a.f1.f2, .slice A4 a.f1.f3.length c4], .bool true]) (by simp [results, Tryz.results42, go_sem]) rfl ?_
              have hn : lastN (l.take i) v = some a.f1 := by
                rw [← HM.out, HF.out, if_pos (by simpa using he)]
              rw [hn]
              exact ⟨below_alloc (Below.refl _ _) _, A4, c4, rfl, HD.out.1, HD.out.2⟩
            | false =>
              have hr : Aside0 (writeN X v = if X.f2 = 7 then findA (X.f6.drop (k + 1)) v else none) := ⟨by
                rw [HF.out, if_neg (by simpa using he), if_pos (by simpa using h7)]⟩
              go_wp2
              go_round
              case rel => exact ⟨k + 1, by omega, by go_num, hr⟩
              case measure => simp [intOf]; omega
          | false =>
            have hr : Aside0 (lastN (l.take j) v = lastN (l.take i) v) := ⟨by
              rw [← HM.out, HW2.out, if_neg (by simpa using h7)]⟩
            go_wp2
            go_round
            case rel => exact ⟨j, by omega, rfl, hr⟩
            case measure => simp [intOf]
        · have hke : k = X.f6.length := by omega
          have hr : Aside0 (lastN (l.take j) v = lastN (l.take i) v) := ⟨by
            have := HW2.out
            rw [hke, List.drop_length] at this
            rw [← HM.out, this]
            simp [findA]⟩
          go_wp2
          go_round
          case rel => exact ⟨j, by omega, rfl, hr⟩
          case measure => simp [intOf]
end Go.Proofs.YtkfbhfmddmhiaaaGreatDoor.TJ
