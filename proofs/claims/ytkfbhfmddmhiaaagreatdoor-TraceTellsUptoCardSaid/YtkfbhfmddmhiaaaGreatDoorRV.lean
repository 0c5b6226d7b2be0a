/- The reference's Breaks: the Go function answers where a rule is broken first, as the plain function. Conditions: the trace lies in memory and is not too large. -/
import Derived.Test.YtkfbhfmddmhiaaaGreatDoorRW3
import Derived.Test.YtkfbhfmddmhiaaaGreatDoorRW5
namespace Go.Proofs.YtkfbhfmddmhiaaaGreatDoor.TJ
open Go.RowKit Go.Proofs.YtkfbhfmddmhiaaaGreatDoorW.PrintWords Go.Proofs.YtkfbhfmddmhiaaaGreatDoorW.PrintLast Go.Proofs.YtkfbhfmddmhiaaaGreatDoor.PT Go.Proofs.YtkfbhfmddmhiaaaGreatDoor.IMaps
set_option linter.unusedVariables false
set_option linter.unusedSimpArgs false

theorem getLast_take (l : List Ev) (i : Nat) (h : i < l.length) : (l.take i).getLast? = if i = 0 then none else l[i - 1]? := by
  cases i with
  | zero => rfl
  | succ j => rw [if_neg (by omega), List.take_succ_eq_append_getElem (by omega), List.getLast?_concat, Nat.add_sub_cancel, List.getElem?_eq_getElem (show j < l.length by omega)]

theorem rule_any (l : List Ev) (hsz : szL l ≤ 4000000) (i : Nat) (hi : i < l.length) (w : World) (A : Option Addr) (c : Nat) (hc : l.length ≤ c) (C1 : kEv.C w A l.length l) (n : Nat) (h1 : 1 ≤ n) (h6 : n ≤ 6) :
    Calls Tryz.prog 38 #[.slice A l.length c, .int .i64 i, .int .i64 n] w fun e w' => e = .returned (.bool (refB (l.take i) l[i] n)) ∧ Below w.heap.size w w' := by
  have hll : l.length ≤ 4000000 := Nat.le_trans (szL_len l) hsz
  have hex : (l[i].f5.map szA).sum ≤ 4000000 ∧ (l[i].f6.map szA).sum ≤ 4000000 := by
    have h1 := szE_mem l _ (List.getElem_mem hi)
    unfold szE at h1
    omega
  match n, h1, h6 with
  | 3, _, _ => exact rule3_calls l hll i hi w A c hc C1
  | 6, _, _ => exact rule6_calls l hsz i hi w A c hc C1
  | 1, _, _ =>
    obtain ⟨ad, A5, c5, A6, c6, rfl, EC, g5, C5, g6, C6⟩ := evC_get C1 i hi rfl
    by_cases h0 : i = 0
    · subst h0
      refine rule1_walk w ad l.length c 0 l[0] l[0] A5 A6 A5 A6 c5 c6 c5 c6 _ hi hll EC (fun h => absurd h (by omega)) (Lib.hid ?_)
      show _ = ref1 (l.take 0) l[0]
      unfold ref1
      simp
    · obtain ⟨ad', B5, d5, B6, d6, he, EY, _, _, _, _⟩ := evC_get C1 (i - 1) (by omega) rfl
      cases he
      refine rule1_walk w ad l.length c i l[i] (l[i - 1]'(by omega)) A5 A6 B5 B6 c5 c6 d5 d6 _ hi hll EC (fun _ => EY) (Lib.hid ?_)
      show _ = ref1 (l.take i) l[i]
      unfold ref1
      rw [getLast_take l i hi, if_neg h0, List.getElem?_eq_getElem (by omega)]
      have : ((i : Int) == 0) = false := beq_eq_false_iff_ne.2 (by omega)
      rw [this, Bool.false_or]
  | 2, _, _ =>
    obtain ⟨ad, A5, c5, A6, c6, rfl, EC, g5, C5, g6, C6⟩ := evC_get C1 i hi rfl
    obtain ⟨k, hk⟩ := made_ok l i (by omega) hll
    have hle := madeN_le (l.take i)
    rw [List.length_take] at hle
    exact rule2_walk w ad l.length c i (madeN (l.take i)) l[i] A5 A6 c5 c6 _ hi hll (by omega) EC (Lib.hid fun W hb => (damaskref27_made.calls k (some ad) c l (i : Int) _ W (Kd.C_below C1 hb) hc hk).mono fun _ _ h => ⟨h.1, h.2.below⟩) (Lib.hid rfl)
  | 4, _, _ =>
    obtain ⟨ad, A5, c5, A6, c6, rfl, EC, g5, C5, g6, C6⟩ := evC_get C1 i hi rfl
    obtain ⟨k, hk⟩ := due_ok l i (by omega) hll l[i].f1
    exact rule4_walk w ad l.length c i (dueN (l.take i) l[i].f1) l[i] A5 A6 c5 c6 _ hi hll EC (Lib.hid fun W hb => damaskref27_due.calls k (some ad) c l (i : Int) l[i].f1 _ _ W (Kd.C_below C1 hb) hc hk) (Lib.hid (by unfold refB ref4; cases dueN (l.take i) l[i].f1 <;> rfl))
  | 5, _, _ =>
    obtain ⟨ad, A5, c5, A6, c6, rfl, EC, g5, C5, g6, C6⟩ := evC_get C1 i hi rfl
    have l5 := Nat.le_trans (szA_len _) hex.1
    have l6 := Nat.le_trans (szA_len _) hex.2
    obtain ⟨k5, hk5⟩ := ascend_ok l[i].f5 l5
    obtain ⟨k6, hk6⟩ := ascend_ok l[i].f6 l6
    refine rule5_walk w ad l.length c i _ _ _ _ _ _ (ascB l[i].f5) (ascB l[i].f6) A5 A6 _ c5 _ c6 hi hll l5 l6 EC.c0 EC.c1 EC.c2 EC.c3 EC.c4 EC.c5 EC.c6
      (Lib.hid fun W hb => (damaskref27_ascend.calls k5 A5 c5 l[i].f5 _ W (Kd.C_below C5 hb) g5 hk5).mono fun _ _ h => ⟨h.1, h.2.below⟩) (Lib.hid fun W hb => (damaskref27_ascend.calls k6 A6 c6 l[i].f6 _ W (Kd.C_below C6 hb) g6 hk6).mono fun _ _ h => ⟨h.1, h.2.below⟩) (Lib.hid ?_)
    show _ = fieldsB l[i]
    have e : ((l[i].f5.length : Int) + (l[i].f6.length : Int) == 0) = (l[i].f5.isEmpty && l[i].f6.isEmpty) := by
      cases l[i].f5 <;> cases l[i].f6 <;> simp <;> omega
    unfold fieldsB
    rw [e]

def okTo2 (p : List Ev) (x : Ev) (n : Nat) : Prop := ∀ m, 1 ≤ m → m < n → refB p x m = true
theorem okTo2_succ {p : List Ev} {x : Ev} {n : Nat} (h : okTo2 p x n) (hb : refB p x n = true) : okTo2 p x (n + 1) := fun m h1 h2 => by
  rcases Nat.lt_or_ge m n with h3 | h3
  · exact h m h1 h3
  · have : m = n := by omega
    rw [this]; exact hb
theorem bad2_of {p : List Ev} {x : Ev} {n : Nat} (h : okTo2 p x n) (h1 : 1 ≤ n) (hn : n ≤ 6) (hb : refB p x n = false) : refBad p x = some n := by
  have g1 := h 1
  have g2 := h 2
  have g3 := h 3
  have g4 := h 4
  have g5 := h 5
  simp only [refB] at g1 g2 g3 g4 g5
  unfold refBad
  match n, h1, hn with
  | 1, _, _ => simp only [refB] at hb; simp [hb]
  | 2, _, _ => simp only [refB] at hb; simp [hb, g1 (by omega) (by omega)]
  | 3, _, _ => simp only [refB] at hb; simp [hb, g1 (by omega) (by omega), g2 (by omega) (by omega)]
  | 4, _, _ => simp only [refB] at hb; simp [hb, g1 (by omega) (by omega), g2 (by omega) (by omega), g3 (by omega) (by omega)]
  | 5, _, _ => simp only [refB] at hb; simp [hb, g1 (by omega) (by omega), g2 (by omega) (by omega), g3 (by omega) (by omega), g4 (by omega) (by omega)]
  | 6, _, _ => simp only [refB] at hb; simp [hb, g1 (by omega) (by omega), g2 (by omega) (by omega), g3 (by omega) (by omega), g4 (by omega) (by omega), g5 (by omega) (by omega)]
theorem good2_of {p : List Ev} {x : Ev} (h : okTo2 p x 7) : refBad p x = none := by
  have g1 := h 1 (by omega) (by omega)
  have g2 := h 2 (by omega) (by omega)
  have g3 := h 3 (by omega) (by omega)
  have g4 := h 4 (by omega) (by omega)
  have g5 := h 5 (by omega) (by omega)
  have g6 := h 6 (by omega) (by omega)
  simp only [refB] at g1 g2 g3 g4 g5 g6
  unfold refBad
  simp [g1, g2, g3, g4, g5, g6]
theorem refRun_drop (l : List Ev) (i : Nat) (h : i < l.length) : refRun (l.take i) (l.drop i) = match refBad (l.take i) l[i] with | some k => some (i, k) | none => refRun (l.take (i + 1)) (l.drop (i + 1)) := by
  rw [List.drop_eq_getElem_cons h, List.take_succ_eq_append_getElem h]
  simp only [refRun, List.length_take, Nat.min_eq_left (Nat.le_of_lt h)]
  cases refBad (l.take i) l[i] <;> rfl

def BreaksR (r : Option (Nat × Nat)) : Value := match r with
  | some p => .tuple #[.int .i64 (p.1 : Int), .int .i64 (p.2 : Int), .bool true]
  | none => .tuple #[.int .i64 0, .int .i64 0, .bool false]

set_option maxRecDepth 100000 in
set_option maxHeartbeats 4000000 in
theorem rbreaks_calls (l : List Ev) (hsz : szL l ≤ 4000000) (w : World) (A : Option Addr) (c : Nat) (hc : l.length ≤ c) (C1 : kEv.C w A l.length l) :
    Calls Tryz.prog 18 #[.slice A l.length c] w fun e w' => e = .returned (BreaksR (runJ js0 0 l)) ∧ Below w.heap.size w w' := by
  have hll : l.length ≤ 4000000 := Nat.le_trans (szL_len l) hsz
  have HR := Lib.hid (fun W (hb : Below w.heap.size w W) (i : Nat) (hi : i < l.length) (n : Nat) (h1 : 1 ≤ n) (h6 : n ≤ 6) => rule_any l hsz i hi W A c hc (Kd.C_below C1 hb) n h1 h6)
  have HRun := Lib.hid (run_ref0 l)
  clear hc C1 hsz
  go_enter Tryz.func18, Tryz.ntmps18
  go_wp2
  go_loopw [5] (fun s wr => ∃ i : Nat, i ≤ l.length ∧ s = .int .i64 i ∧ Aside0 (refRun (l.take i) (l.drop i) = refRun [] l) ∧ Aside0 (Below w.heap.size w wr)) (fun s _ => l.length - (intOf s).toNat)
  case atStart => exact ⟨0, by omega, rfl, ⟨rfl⟩, ⟨Below.refl _ _⟩⟩
  case round =>
    obtain ⟨i, hi, rfl, HI, HB⟩ := hrel
    by_cases hlt : i < l.length
    · have hd := refRun_drop l i hlt
      rw [HI.out] at hd
      have HD := Lib.hid hd
      have HRi := Lib.hid (fun W (hb : Below w.heap.size w W) (n : Nat) (h1 : 1 ≤ n) (h6 : n ≤ 6) => HR.out W hb i hlt n h1 h6)
      clear hd
      generalize l[i] = x at *
      obtain ⟨wo, hwo⟩ : ∃ wo : World, wo = wr := ⟨_, rfl⟩
      subst hwo
      go_wp2
      go_loopw [6] (fun s wr => ∃ n : Nat, 1 ≤ n ∧ n ≤ 7 ∧ s = .int .i64 n ∧ Aside0 (okTo2 (l.take i) x n) ∧ Aside0 (Below w.heap.size w wr)) (fun s _ => 7 - (intOf s).toNat)
      case atStart => exact ⟨1, by omega, by omega, rfl, ⟨fun m h1 h2 => absurd h2 (by omega)⟩, HB⟩
      case round =>
        obtain ⟨n, hn1, hn7, rfl, HO, HBn⟩ := hrel
        by_cases hn : n ≤ 6
        · have hle : decide ((n : Int) ≤ 6) = true := decide_eq_true (by omega)
          go_wp2_with fail
          refine (HRi.out _ HBn.out n hn1 hn).mono ?_
          rintro e w2 ⟨rfl, hb2⟩
          have HB2 := Aside0.mk (below_step HBn.out hb2)
          clear hb2
          cases hb : refB (l.take i) x n with
          | true =>
            have HO1 := Aside0.mk (okTo2_succ HO.out hb)
            clear hb
            go_wp2
            go_roundw
            case rel => exact ⟨n + 1, by omega, by omega, by go_num, HO1, HB2⟩
            case measure => simp [intOf]; omega
          | false =>
            have HF := Lib.hid (bad2_of HO.out hn1 hn hb)
            clear hb
            go_wp2
            refine bodyPost_ret (v := .tuple #[.int .i64 (i : Int), .int .i64 (n : Int), .bool true]) (by simp [results, Tryz.results18, go_sem]) rfl ?_
            refine ⟨?_, HB2.out⟩
            rw [HRun.out, HD.out, HF.out]
            rfl
        · have hn7' : n = 7 := by omega
          subst hn7'
          have HI1 : Aside0 (refRun (l.take (i + 1)) (l.drop (i + 1)) = refRun [] l) := ⟨by rw [HD.out, good2_of HO.out]⟩
          go_wp2
          go_roundw
          case rel => exact ⟨i + 1, by omega, by go_num, HI1, HBn⟩
          case measure => simp [intOf]; omega
    · have hie : i = l.length := by omega
      have HF : Hid (refRun [] l = none) := Lib.hid (by rw [← HI.out, hie, List.drop_length]; rfl)
      go_wp2
      refine bodyPost_ret (v := .tuple #[.int .i64 0, .int .i64 0, .bool false]) (by simp [results, Tryz.results18, go_sem]) rfl ?_
      refine ⟨?_, HB.out⟩
      rw [HRun.out, HF.out]
      rfl
end Go.Proofs.YtkfbhfmddmhiaaaGreatDoor.TJ
