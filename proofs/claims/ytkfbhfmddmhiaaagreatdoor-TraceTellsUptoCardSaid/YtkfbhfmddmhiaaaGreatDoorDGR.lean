/- The reference's decimal text of a number and text of a value: they are the plain ones. Conditions: the number is of 64 bits; the value is not too large. Putting one byte in the place of another: what ReplaceAll answers, byte by byte. Conditions: none. The reference's text of a value in a trace: the Go function shown answers the text with a bar in the place of each blank. Conditions: the value lies in memory and is not too large. -/
import Derived.Test.YtkfbhfmddmhiaaaGreatDoorVV
import Derived.Test.YtkfbhfmddmhiaaaGreatDoorRX
import Derived.Lib.ConvBytes
import Derived.Lib.BufferMore
namespace Go.Proofs.YtkfbhfmddmhiaaaGreatDoor.TJ
open Go.RowKit Go.Proofs.YtkfbhfmddmhiaaaGreatDoorW.PrintWords Go.Proofs.YtkfbhfmddmhiaaaGreatDoorW.PrintLast Go.Proofs.YtkfbhfmddmhiaaaGreatDoor.PT Go.Proofs.YtkfbhfmddmhiaaaGreatDoor.IMaps
set_option linter.unusedVariables false
set_option linter.unusedSimpArgs false

theorem u64_id (n : Int) (h0 : 0 ≤ n) (h1 : n < 18446744073709551616) : IntKind.u64.wrap n = n := by
  unfold IntKind.wrap
  simp [IntKind.bits, IntKind.signed]
  omega
theorem digit_str (u : Nat) : strOfNums [(IntKind.u64.wrap (48 + Int.tmod (u : Int) 10)) % 256] = ⟨#[UInt8.ofNat (48 + u % 10)]⟩ := by
  have e : Int.tmod (u : Int) 10 = ((u % 10 : Nat) : Int) := by rw [Int.tmod_eq_emod_of_nonneg (by omega)]; omega
  rw [e, u64_id _ (by omega) (by omega)]
  unfold strOfNums
  have e2 : ((48 + ((u % 10 : Nat) : Int)) % 256).toNat = 48 + u % 10 := by omega
  simp only [List.map_cons, List.map_nil, e2]
theorem div_str (u : Nat) (h : u < 18446744073709551616) : IntKind.u64.wrap (Int.tdiv (u : Int) 10) = ((u / 10 : Nat) : Int) := by
  have e : Int.tdiv (u : Int) 10 = ((u / 10 : Nat) : Int) := by rw [Int.tdiv_eq_ediv_of_nonneg (by omega)]; omega
  rw [e, u64_id _ (by omega) (by omega)]
def decs (u : Nat) : List UInt8 := if u = 0 then [] else Lib.decDigits u
theorem decs_step (u : Nat) (h : 0 < u) : decs u = decs (u / 10) ++ [UInt8.ofNat (48 + u % 10)] := by
  unfold decs
  rw [if_neg (by omega)]
  by_cases hs : u < 10
  · rw [if_pos (by omega), Lib.decDigits, dif_pos hs, Nat.mod_eq_of_lt hs]; rfl
  · rw [if_neg (by omega), Lib.decDigits, dif_neg hs]
theorem dec_eq (u : Nat) : Lib.decDigits u = decs (u / 10) ++ [UInt8.ofNat (48 + u % 10)] := by
  by_cases hz : u = 0
  · subst hz; rw [Lib.decDigits, dif_pos (by omega)]; rfl
  · rw [← decs_step u (by omega)]; unfold decs; rw [if_neg hz]
theorem catB (a b : ByteArray) : a ++ b = ⟨(a.data.toList ++ b.data.toList).toArray⟩ := by
  refine ByteArray.ext ?_
  apply Array.toList_inj.1
  simp [ByteArray.data_append]
theorem catL (a b : List UInt8) : (⟨a.toArray⟩ ++ ⟨b.toArray⟩ : ByteArray) = ⟨(a ++ b).toArray⟩ := by rw [catB]
def sgn (n : Int) : List UInt8 := if n < 0 then [45] else []

theorem digits_loop (n : Int) : ∀ (u : Nat) (s : List UInt8), s.length + u ≤ 9000000000000000000 → Go.Proofs.YtkfbhfmddmhiaaaGreatDoorW.PrintWords.Ev (fun k => damaskref15_Digits.l0 k n (u : Int) ⟨s.toArray⟩) ⟨(sgn n ++ (decs u ++ s)).toArray⟩ := by
  intro u
  induction u using Nat.strongRecOn with
  | _ u ih =>
  intro s hs
  by_cases h : 0 < u
  · have e2 := digit_str u
    have e3 := div_str u (by omega)
    have hz : (⟨#[UInt8.ofNat (48 + u % 10)]⟩ : ByteArray).size = 1 := rfl
    have hz2 : (⟨s.toArray⟩ : ByteArray).size = s.length := by simp [ByteArray.size]
    refine Ev.step (f := fun k => damaskref15_Digits.l0 k n ((u / 10 : Nat) : Int) ⟨(UInt8.ofNat (48 + u % 10) :: s).toArray⟩) (fun k => ?_) ?_
    · simp only [damaskref15_Digits.l0, e3]
      rw [if_pos (by omega), Option.bind_some, e2, hz, hz2, if_pos (by omega)]
      exact congrArg _ (catL [_] s)
    · have := ih (u / 10) (by omega) (UInt8.ofNat (48 + u % 10) :: s) (by simp only [List.length_cons]; omega)
      rw [decs_step u h, List.append_assoc]
      exact this
  · have hu : u = 0 := by omega
    subst hu
    have hz2 : (⟨s.toArray⟩ : ByteArray).size = s.length := by simp [ByteArray.size]
    refine Ev.step (f := fun _ => some ⟨(sgn n ++ (decs 0 ++ s)).toArray⟩) (fun k => ?_) (Ev.now _)
    simp only [damaskref15_Digits.l0]
    rw [if_neg (by omega)]
    unfold sgn decs
    by_cases hn : n < 0
    · rw [if_pos hn, if_pos hn, hz2, if_pos (by omega), if_pos rfl]
      exact congrArg some (catL [45] s)
    · rw [if_neg hn, if_neg hn, if_pos rfl]
      rfl

theorem digits_ev (n : Int) (h0 : -9223372036854775808 ≤ n ∧ n ≤ 9223372036854775807) : Go.Proofs.YtkfbhfmddmhiaaaGreatDoorW.PrintWords.Ev (fun k => damaskref15_Digits.f k n) ⟨(Lib.itoa n).toArray⟩ := by
  have key : ∀ u : Nat, u ≤ 9223372036854775808 → Go.Proofs.YtkfbhfmddmhiaaaGreatDoorW.PrintWords.Ev (fun k => damaskref15_Digits.j0 k n (u : Int)) ⟨(sgn n ++ Lib.decDigits u).toArray⟩ := by
    intro u hu
    have e2 := digit_str u
    have e3 := div_str u (by omega)
    refine Ev.step (f := fun k => damaskref15_Digits.l0 k n ((u / 10 : Nat) : Int) ⟨([UInt8.ofNat (48 + u % 10)] : List UInt8).toArray⟩) (fun k => ?_) ?_
    · simp only [damaskref15_Digits.j0, e3, e2]
    · have := digits_loop n (u / 10) [UInt8.ofNat (48 + u % 10)] (by simp only [List.length_cons, List.length_nil]; omega)
      rw [dec_eq u]
      exact this
  by_cases hn : n < 0
  · refine Ev.congr (f := fun k => damaskref15_Digits.j0 k n (n.natAbs : Int)) (fun k => ?_) ?_
    · unfold damaskref15_Digits.f
      rw [if_pos hn]
      congr 1
      unfold IntKind.wrap
      simp [IntKind.bits, IntKind.signed]
      omega
    · have := key n.natAbs (by omega)
      unfold sgn at this
      unfold Lib.itoa
      rw [if_pos hn] at this ⊢
      exact this
  · refine Ev.congr (f := fun k => damaskref15_Digits.j0 k n (n.toNat : Int)) (fun k => ?_) ?_
    · unfold damaskref15_Digits.f
      rw [if_neg hn]
      congr 1
      rw [u64_id _ (by omega) (by omega)]
      omega
    · have := key n.toNat (by omega)
      unfold sgn at this
      unfold Lib.itoa
      rw [if_neg hn] at this ⊢
      exact this

def RTextOk (x : Vl) : Prop := Go.Proofs.YtkfbhfmddmhiaaaGreatDoorW.PrintWords.Ev (fun k => damaskref17_Text.f k x.f0 x.f1 x.f2 x.f3) ⟨(valT x).toArray⟩
theorem szL1 (l : List UInt8) : (⟨l.toArray⟩ : ByteArray).size = l.length := by simp [ByteArray.size]
theorem rtext_loop (l : List Vl) (hw : wfVs l) (hs : szVs l ≤ 4000000) (hin : ∀ (j : Nat) (h : j < l.length), RTextOk l[j]) (a b : Int) (s : ByteArray) (hd : List UInt8) (hhd : hd.length ≤ 4000001) (hlen : (valTs l).length ≤ 400000000) (hll : l.length ≤ 4000000) :
    ∀ (m i : Nat), l.length - i ≤ m → i ≤ l.length → Go.Proofs.YtkfbhfmddmhiaaaGreatDoorW.PrintWords.Ev (fun k => damaskref17_Text.l0 k ⟨(hd ++ valTs (l.take i)).toArray⟩ (i : Int) a b s l) ⟨(hd ++ valTs l ++ [41]).toArray⟩ := by
  have done : ∀ i : Nat, ¬ i < l.length → Go.Proofs.YtkfbhfmddmhiaaaGreatDoorW.PrintWords.Ev (fun k => damaskref17_Text.l0 k ⟨(hd ++ valTs (l.take i)).toArray⟩ (i : Int) a b s l) ⟨(hd ++ valTs l ++ [41]).toArray⟩ := by
    intro i hi
    refine Ev.step (f := fun _ => some ⟨(hd ++ valTs l ++ [41]).toArray⟩) (fun k => ?_) (Ev.now _)
    simp only [damaskref17_Text.l0]
    rw [if_neg (by omega), List.take_of_length_le (by omega), szL1, if_pos (by rw [List.length_append]; omega)]
    exact congrArg some (catL _ [41])
  intro m
  induction m with
  | zero => intro i hm hi; exact done i (by omega)
  | succ m ih =>
    intro i hm hi
    by_cases h : i < l.length
    · have hle := valTs_le l i
      have hle2 := valTs_le l (i + 1)
      have htk := valTs_take l i h
      rw [htk, List.length_append, List.length_cons] at hle2
      refine Ev.step (fun k => by simp only [damaskref17_Text.l0]; rw [if_pos (by omega), szL1, if_pos (by rw [List.length_append]; omega), if_pos (by omega), rdV0 _ _ h]) ?_
      refine Ev.bind (a := (⟨(valT l[i]).toArray⟩ : ByteArray)) (hin i h) ?_
      have e2 : wrap64 ((i : Int) + 1) = ((i + 1 : Nat) : Int) := by rw [IntWalk.wrap64_in _ (by omega)]; rfl
      have e4 : ((⟨(hd ++ valTs (l.take i)).toArray⟩ ++ ⟨#[32]⟩ : ByteArray)) = ⟨((hd ++ valTs (l.take i)) ++ [32]).toArray⟩ := catL _ [32]
      have := ih (i + 1) (by omega) (by omega)
      rw [htk] at this
      simp only [e2, e4, szL1, catL]
      have e5 : ((hd ++ valTs (l.take i)) ++ [32]).length + (valT l[i]).length ≤ 9223372036854775807 := by simp only [List.length_append, List.length_cons, List.length_nil]; omega
      rw [show (hd ++ (valTs (l.take i) ++ 32 :: valT l[i])) = ((hd ++ valTs (l.take i)) ++ [32]) ++ valT l[i] by simp] at this
      simp only [if_pos e5]
      exact this
    · exact done i h

theorem itoa_le (n : Int) (h0 : -9223372036854775808 ≤ n ∧ n ≤ 9223372036854775807) : (Lib.itoa n).length ≤ 40 := by
  have := valT_len (vdepth ⟨1, n, ⟨#[]⟩, []⟩) ⟨1, n, ⟨#[]⟩, []⟩ (Nat.le_refl _) (by rw [wfV_eq]; exact ⟨h0, trivial⟩)
  have hz : (⟨#[]⟩ : ByteArray).size = 0 := rfl
  rw [valT_eq, szV_eq] at this
  simp [szVs] at this
  omega

theorem rtext_ok : ∀ (n : Nat) (x : Vl), vdepth x ≤ n → wfV x → szV x ≤ 4000000 → RTextOk x := by
  intro n
  induction n with
  | zero => intro x h; rw [vdepth_eq] at h; omega
  | succ n ih =>
    intro x h hw hs
    have hlenx := valT_len (n + 1) x h hw
    rw [vdepth_eq] at h
    have hw0 := hw
    rw [wfV_eq] at hw
    have hsz := hs
    rw [szV_eq] at hs
    have hd := digits_ev x.f1 hw.1
    have hdl := itoa_le x.f1 hw.1
    have pre : ∀ (p : List UInt8) (c : Nat), p.length = c → c ≤ 20 → Go.Proofs.YtkfbhfmddmhiaaaGreatDoorW.PrintWords.Ev (fun k => (damaskref15_Digits.f k x.f1).bind fun t => if c + t.size ≤ 9223372036854775807 then some ((⟨p.toArray⟩ : ByteArray) ++ t) else none) ⟨(p ++ Lib.itoa x.f1).toArray⟩ := by
      intro p c hp hc
      refine Ev.bind hd ?_
      refine Ev.congr (f := fun _ => some ⟨(p ++ Lib.itoa x.f1).toArray⟩) (fun k => ?_) (Ev.now _)
      rw [szL1, if_pos (by omega), catL]
    have hcon : ∀ b : Bool, b = true → x.f0 = 2 ∨ x.f0 = 4 → Go.Proofs.YtkfbhfmddmhiaaaGreatDoorW.PrintWords.Ev (fun k => damaskref17_Text.j0 k b x.f0 x.f1 x.f2 x.f3) ⟨(valT x).toArray⟩ := by
      intro b hb hk
      subst hb
      rw [valT_eq] at hlenx ⊢
      have h1 : ¬ x.f0 = 1 := by omega
      rw [if_neg h1, if_pos hk] at hlenx ⊢
      by_cases he : x.f3 = []
      · rw [if_pos he]
        refine Ev.step (f := fun _ => some ⟨x.f2.data.toList.toArray⟩) (fun k => ?_) (Ev.now _)
        simp only [damaskref17_Text.j0]
        rw [if_pos trivial, if_pos (by rw [he]; rfl)]
      · rw [if_neg he] at hlenx ⊢
        have hne : ¬ (x.f3.length : Int) = 0 := by
          have := List.length_pos_iff.2 he; omega
        have hsl : x.f2.data.toList.length = x.f2.size := by rw [Array.length_toList]; rfl
        have hl := valTs_le x.f3 0
        have hll : x.f3.length ≤ szVs x.f3 := by
          have : ∀ l : List Vl, l.length ≤ szVs l := by
            intro l
            induction l with
            | nil => exact Nat.zero_le _
            | cons v r ih => simp only [szVs, List.length_cons]; have := szV_eq v; omega
          exact this _
        simp only [List.length_append, List.length_cons, List.length_nil] at hlenx
        refine Ev.step (f := fun k => damaskref17_Text.l0 k ⟨(([40] ++ x.f2.data.toList) ++ valTs (x.f3.take 0)).toArray⟩ ((0 : Nat) : Int) x.f0 x.f1 x.f2 x.f3) (fun k => ?_) ?_
        · simp only [damaskref17_Text.j0]
          rw [if_pos trivial, if_neg hne, if_pos (by omega), catB, List.take_zero]
          simp only [valTs, List.append_nil]
          rfl
        · exact rtext_loop x.f3 hw.2 (by omega) (fun j hj => ih _ (by
            have := vdepths_mem x.f3 j hj
            rw [rdV0 _ _ hj] at this
            omega) (wfVs_get _ _ _ hw.2) (by have := szVs_get x.f3 j hj; omega)) _ _ _ _ (by simp only [List.length_append, List.length_cons, List.length_nil]; omega) (by omega) (by omega) x.f3.length 0 (by omega) (by omega)
    unfold RTextOk
    by_cases h1 : x.f0 = 1
    · rw [valT_eq, if_pos h1]
      refine Ev.step (fun k => by simp only [damaskref17_Text.f]; rw [if_pos h1]) ?_
      exact Ev.bind hd (Ev.now _)
    by_cases h2 : x.f0 = 2
    · refine Ev.step (fun k => by simp only [damaskref17_Text.f]; rw [if_neg h1, if_neg (by omega), if_neg (by omega), if_neg (by omega), if_neg (by omega), if_neg (by omega), if_pos h2]) ?_
      exact hcon _ (by simpa using h2) (.inl h2)
    by_cases h4 : x.f0 = 4
    · refine Ev.step (fun k => by simp only [damaskref17_Text.f]; rw [if_neg h1, if_neg (by omega), if_neg (by omega), if_neg (by omega), if_neg (by omega), if_neg (by omega), if_neg h2]) ?_
      exact hcon _ (by simpa using h4) (.inr h4)
    rw [valT_eq, if_neg h1, if_neg (by omega)]
    by_cases h3 : x.f0 = 3
    · rw [if_pos h3]
      refine Ev.step (fun k => by simp only [damaskref17_Text.f]; rw [if_neg h1, if_pos h3]) ?_
      exact pre [102, 117, 110, 99, 116, 105, 111, 110, 32] 9 rfl (by omega)
    by_cases h5 : x.f0 = 5
    · rw [if_neg h3, if_pos h5]
      refine Ev.step (fun k => by simp only [damaskref17_Text.f]; rw [if_neg h1, if_neg h3, if_pos h5]) ?_
      exact pre [116, 104, 114, 111, 119, 32] 6 rfl (by omega)
    by_cases h6 : x.f0 = 6
    · rw [if_neg h3, if_neg h5, if_pos h6]
      exact Ev.step (fun k => by simp only [damaskref17_Text.f]; rw [if_neg h1, if_neg h3, if_neg h5, if_pos h6]) (Ev.now _)
    by_cases h7 : x.f0 = 7
    · rw [if_neg h3, if_neg h5, if_neg h6, if_pos h7]
      exact Ev.step (fun k => by simp only [damaskref17_Text.f]; rw [if_neg h1, if_neg h3, if_neg h5, if_neg h6, if_pos h7]) (Ev.now _)
    by_cases h8 : x.f0 = 8
    · rw [if_neg h3, if_neg h5, if_neg h6, if_neg h7, if_pos h8]
      refine Ev.step (fun k => by simp only [damaskref17_Text.f]; rw [if_neg h1, if_neg h3, if_neg h5, if_neg h6, if_neg h7, if_pos h8]) ?_
      exact pre [116, 118, 97, 114, 32] 5 rfl (by omega)
    rw [if_neg h3, if_neg h5, if_neg h6, if_neg h7, if_neg h8]
    refine Ev.step (fun k => by simp only [damaskref17_Text.f]; rw [if_neg h1, if_neg h3, if_neg h5, if_neg h6, if_neg h7, if_neg h8, if_neg h2]) ?_
    refine Ev.step (f := fun _ => some ⟨#[]⟩) (fun k => ?_) (Ev.now _)
    simp only [damaskref17_Text.j0]
    rw [if_neg (by simpa using h4)]
end Go.Proofs.YtkfbhfmddmhiaaaGreatDoor.TJ
namespace Go.Proofs.YtkfbhfmddmhiaaaGreatDoor.TJ
open Go.RowKit Go.Proofs.YtkfbhfmddmhiaaaGreatDoorW.PrintWords Go.Proofs.YtkfbhfmddmhiaaaGreatDoor.PT
set_option linter.unusedVariables false

def under (c : UInt8) : UInt8 := if c = 32 then 95 else c
theorem index_ne (a : UInt8) (r : List UInt8) (h : a ≠ 32) : Lib.index (a :: r) [32] = if Lib.index r [32] = -1 then -1 else Lib.index r [32] + 1 := by
  rw [Lib.index_one, Lib.index_one]
  conv => lhs; unfold Lib.indexByte
  rw [if_neg (by simpa using h)]
  by_cases hm : Lib.indexByte r 32 = -1
  · simp [hm]
  · rw [if_neg (by simpa using hm), if_neg hm]
theorem replaceK_ne (a : UInt8) (r : List UInt8) (h : a ≠ 32) (k : Nat) : Lib.replaceK [32] [95] k (a :: r) = a :: Lib.replaceK [32] [95] k r := by
  cases k with
  | zero => rfl
  | succ k =>
    unfold Lib.replaceK
    rw [index_ne a r h]
    by_cases hm : Lib.index r [32] = -1
    · simp [hm]
    · have hge := Lib.index_ge r [32]
      obtain ⟨i, hi⟩ : ∃ i : Nat, Lib.index r [32] = i := ⟨(Lib.index r [32]).toNat, by omega⟩
      rw [if_neg hm, hi]
      have e1 : ¬ (((i : Int) + 1 == -1) = true) := fun e => by have := beq_iff_eq.1 e; omega
      have e2 : ¬ (((i : Int) == -1) = true) := fun e => by have := beq_iff_eq.1 e; omega
      have e3 : ((i : Int) + 1).toNat = i + 1 := by omega
      rw [if_neg e1, if_neg e2, e3, Int.toNat_natCast]
      simp
theorem replaceK_map : ∀ s : List UInt8, Lib.replaceK [32] [95] (s.count 32) s = s.map under
  | [] => rfl
  | a :: r => by
    by_cases h : a = 32
    · subst h
      have hc : (32 :: r).count (32 : UInt8) = r.count 32 + 1 := by simp
      have hi : Lib.index (32 :: r) [32] = ((0 : Nat) : Int) := by rw [Lib.index_one]; rfl
      rw [hc, Lib.replaceK_hit _ _ _ _ 0 hi]
      have := replaceK_map r
      simp only [List.take_zero, List.nil_append, List.length_cons, List.length_nil, Nat.zero_add, List.drop_succ_cons, List.drop_zero, List.map_cons, this]
      rfl
    · have hc : (a :: r).count (32 : UInt8) = r.count 32 := by simp [h]
      rw [hc, replaceK_ne a r h, replaceK_map r]
      simp [under, h]
theorem repT_map (s : List UInt8) : repT s = s.map under := by
  unfold repT Lib.replaceAll Lib.replace Lib.replaceNum
  rw [if_neg (by decide), if_pos (.inl (by decide)), Lib.count_one]
  exact replaceK_map s
end Go.Proofs.YtkfbhfmddmhiaaaGreatDoor.TJ
namespace Go.Proofs.YtkfbhfmddmhiaaaGreatDoor.TJ
open Go.RowKit Go.Proofs.YtkfbhfmddmhiaaaGreatDoorW.PrintWords Go.Proofs.YtkfbhfmddmhiaaaGreatDoorW.PrintLast Go.Proofs.YtkfbhfmddmhiaaaGreatDoor.PT Go.Proofs.YtkfbhfmddmhiaaaGreatDoor.IMaps
set_option linter.unusedVariables false
set_option linter.unusedSimpArgs false

structure BRow (w wr : World) (b : Nat) (bs : List UInt8) : Prop where
  below : Below w.heap.size w wr
  new : w.heap.size ≤ b
  row : ∃ cs m, wr.heap[b]? = some (.cells cs 5 (m, m + 1)) ∧ bs.length ≤ m ∧ ∀ j (h : j < bs.length), cs[j]? = some (.int .u8 (bs[j].toNat : Int))

theorem BRow.cell {w wr : World} {b : Nat} {bs : List UInt8} (h : BRow w wr b bs) (j : Nat) (hj : j < bs.length) : wr.cell? ⟨b, j, none⟩ = some (.int .u8 (bs[j].toNat : Int)) := by
  obtain ⟨cs, m, h1, h2, h3⟩ := h.row
  simp [World.cell?, h1, h3 j hj]
theorem BRow.free {w wr : World} {b : Nat} {bs : List UInt8} (h : BRow w wr b bs) (j : Nat) (hj : j < bs.length) : wr.frozen? ⟨b, j, none⟩ = false := by
  obtain ⟨cs, m, h1, h2, h3⟩ := h.row
  simp [World.frozen?, h1]
  omega
theorem BRow.set {w wr : World} {b : Nat} {bs : List UInt8} (h : BRow w wr b bs) (j : Nat) (hj : j < bs.length) (c : UInt8) : BRow w (wr.setCell ⟨b, j, none⟩ (.int .u8 (c.toNat : Int))) b (bs.set j c) := by
  obtain ⟨cs, m, h1, h2, h3⟩ := h.row
  refine ⟨h.below.setCell (p := ⟨b, j, none⟩) h.new _, h.new, cs.setIfInBounds j (.int .u8 (c.toNat : Int)), m, Lib.heap_setCell_same (i := j) h1 _, by rw [List.length_set]; exact h2, fun i hi => ?_⟩
  rw [List.length_set] at hi
  have hcs := h3 i hi
  have hlt := (Array.getElem?_eq_some_iff.1 hcs).1
  by_cases he : j = i
  · subst he
    rw [Array.getElem?_setIfInBounds_self_of_lt hlt]
    simp
  · rw [Array.getElem?_setIfInBounds_ne he, hcs]
    simp [List.getElem_set, he]
theorem brow_made (w W : World) (hb : Below w.heap.size w W) (l : List UInt8) : BRow w (Lib.bytesWorld W 5 ⟨l.toArray⟩) W.heap.size l := by
  refine ⟨?_, hb.size, Lib.bytesCells W 5 ⟨l.toArray⟩, (Lib.bytesCells W 5 ⟨l.toArray⟩).size, Lib.bytesWorld_at_new _ _ _, ?_, fun j hj => ?_⟩
  · refine below_step hb ?_
    refine ⟨rfl, rfl, rfl, by rw [Lib.bytesWorld_size]; omega, fun i hi => Lib.bytesWorld_at_old W _ _ i hi⟩
  · simp [Lib.bytesCells]
  · simp [Lib.bytesCells, Array.getElem?_append, hj]

def underTo (l : List UInt8) (i : Nat) : List UInt8 := (l.take i).map under ++ l.drop i
theorem underTo_len (l : List UInt8) (i : Nat) : (underTo l i).length = l.length := by
  unfold underTo
  rw [List.length_append, List.length_map, List.length_take, List.length_drop]; omega
theorem underTo_get (l : List UInt8) (i : Nat) (h : i < l.length) (h2 : i < (underTo l i).length) : (underTo l i)[i] = l[i] := by
  have h3 : (underTo l i)[i]? = some l[i] := by
    have hl : ((l.take i).map under).length = i := by rw [List.length_map, List.length_take]; omega
    unfold underTo
    rw [List.getElem?_append_right (by omega), hl, Nat.sub_self, List.getElem?_drop, Nat.add_zero, List.getElem?_eq_getElem h]
  rw [List.getElem?_eq_getElem h2] at h3
  exact Option.some.inj h3
theorem underTo_step (l : List UInt8) (i : Nat) (h : i < l.length) : underTo l (i + 1) = if l[i] = 32 then (underTo l i).set i 95 else underTo l i := by
  unfold underTo
  rw [List.take_succ_eq_append_getElem h, List.map_append, List.drop_eq_getElem_cons h]
  have hl : ((l.take i).map under).length = i := by rw [List.length_map, List.length_take]; omega
  by_cases h3 : l[i] = 32
  · rw [if_pos h3, List.set_append_right _ _ (by omega), hl]
    simp [under, h3]
  · rw [if_neg h3]
    simp [under, h3]

set_option maxRecDepth 100000 in
set_option maxHeartbeats 4000000 in
theorem shown_calls (x : Vl) (hw : wfV x) (hs : szV x ≤ 4000000) (w : World) (A : Option Addr) (c : Nat) (hc : x.f3.length ≤ c) (hC : kVl.C w A x.f3.length x.f3) :
    Calls Tryz.prog 46 #[.agg #[.int .i64 x.f0, .int .i64 x.f1, .string x.f2, .slice A x.f3.length c]] w fun e w' => e = .returned (.string ⟨(repT (valT x)).toArray⟩) ∧ Below w.heap.size w w' := by
  obtain ⟨k, hk⟩ := Ev.rounds (rtext_ok _ x (Nat.le_refl _) hw hs)
  have hlenx := valT_len _ x (Nat.le_refl _) hw
  have HT := Lib.hid (fun (W : World) (hb : Below w.heap.size w W) => damaskref17_Text.calls k x.f0 x.f1 x.f2 A c x.f3 _ W (Kd.C_below hC hb) hc hk)
  have hrt : repT (valT x) = (valT x).map under := repT_map _
  rw [hrt]
  generalize valT x = t at *
  have hl : t.length ≤ 200000000 := by omega
  clear hk hlenx hC hc hw hs hrt
  have HB := Aside0.mk (below_alloc (Below.refl w.heap.size w) (.cells #[.int .i64 x.f0, .int .i64 x.f1, .string x.f2, .slice A x.f3.length c] 49))
  go_enter Tryz.func46, Tryz.ntmps46
  go_wp2_with fail
  refine (HT.out _ HB.out).mono ?_
  rintro e w1 ⟨rfl, hb1⟩
  have HB1 := Aside0.mk (below_step HB.out hb1)
  clear hb1 HB HT
  have hconv := Lib.run_convert_string_bytes (P := Tryz.prog) w1 9 53 5 ⟨t.toArray⟩ Tryz.underlying9 Tryz.underlying53 Tryz.underlying5
  have hsz : (⟨t.toArray⟩ : ByteArray).size = t.length := szL1 t
  rw [hsz] at hconv
  have HR := Aside0.mk (brow_made w w1 HB1.out t)
  have HR0 : Aside0 (BRow w (Lib.bytesWorld w1 5 ⟨t.toArray⟩) w1.heap.size (underTo t 0)) := ⟨by simpa [underTo] using HR.out⟩
  generalize grownCap w1 t.length 0 5 = cap at hconv
  generalize hg : w1.heap.size = g at *
  generalize Lib.bytesWorld w1 5 ⟨t.toArray⟩ = w2 at *
  clear HR hsz
  go_wp2
  clear hconv hg
  go_loopw [4] (fun s wr => ∃ i : Nat, i ≤ t.length ∧ s = .int .i64 i ∧ Aside0 (BRow w wr g (underTo t i))) (fun s _ => t.length - (intOf s).toNat)
  case atStart => exact ⟨0, by omega, rfl, HR0⟩
  case round =>
    clear HR0
    obtain ⟨i, hi, rfl, HR⟩ := hrel
    by_cases hlt : i < t.length
    · have hlu : i < (underTo t i).length := by rw [underTo_len]; exact hlt
      have hcell := HR.out.cell i hlu
      have hfree := HR.out.free i hlu
      rw [underTo_get t i hlt hlu] at hcell
      have hst := underTo_step t i hlt
      by_cases h3 : t[i] = 32
      · have hs2 := Aside0.mk (HR.out.set i hlu 95)
        rw [if_pos h3] at hst
        rw [← hst] at hs2
        rw [h3] at hcell
        clear hst h3 HR hlu
        go_wp2
        go_roundw
        case rel => exact ⟨i + 1, by omega, by go_num, hs2⟩
        case measure => simp [intOf]; omega
      · rw [if_neg h3] at hst
        rw [← hst] at HR
        have hne : (((t[i].toNat : Nat) : Int) == 32) = false := by
          rw [beq_eq_false_iff_ne]
          intro e
          exact h3 (UInt8.toNat_inj.1 (by simpa using Int.ofNat.inj e))
        generalize t[i] = ch at *
        clear hst h3 hlu
        go_wp2
        go_roundw
        case rel => exact ⟨i + 1, by omega, by go_num, HR⟩
        case measure => simp [intOf]; omega
    · have hie : i = t.length := by omega
      have hu : underTo t i = t.map under := by unfold underTo; rw [hie, List.take_length, List.drop_length, List.append_nil]
      rw [hu] at HR
      have hback := run_convert_bytes_arg (P := Tryz.prog) wr 53 5 Tryz.underlying53 Tryz.underlying5 g 0 t.length cap ((t.map under).map fun c => (c.toNat : Int)) (by simp) (fun j hj => by
        have := HR.out.cell j (by simpa using hj)
        rw [Nat.zero_add, this]
        simp [List.getD_eq_getElem?_getD, List.getElem?_eq_getElem hj]) 9 Tryz.underlying9
      have hstr : strOfNums ((t.map under).map fun c => (c.toNat : Int)) = ⟨(t.map under).toArray⟩ := by
        unfold strOfNums
        congr 2
        rw [List.map_map]
        conv => rhs; rw [← List.map_id (t.map under)]
        apply List.map_congr_left
        intro a _
        simp
      rw [hstr] at hback
      have HBf := Aside0.mk HR.out.below
      clear HR hu hstr
      generalize hq : t.map under = q at *
      have HQ := Lib.hid hq
      clear hq
      go_wp2
      go_ret
      exact ⟨by rw [HQ.out]; rfl, HBf.out⟩
end Go.Proofs.YtkfbhfmddmhiaaaGreatDoor.TJ
