/- Parts of a code's text: numbers, words. Conditions: numbers are of 64 bits; the powers of ten are laid; lists are not too long. -/
import Derived.Test.YtmfjkepanmoeiaaGreatDoorUC
import Derived.Lib.ItoaLen
import Derived.Lib.AppendIntMem
namespace Go.Proofs.YtmfjkepanmoeiaaGreatDoor.CJ
open Go.RowKit Go.Proofs.YtmfjkepanmoeiaaGreatDoorW.PrintWords Go.Proofs.YtmfjkepanmoeiaaGreatDoorW.PrintLast Go.Proofs.YtmfjkepanmoeiaaGreatDoor.PT Go.Proofs.YtmfjkepanmoeiaaGreatDoor.IMaps Go.Proofs.YtmfjkepanmoeiaaGreatDoor.TJ
set_option linter.unusedVariables false
set_option linter.unusedSimpArgs false
def Tens (w : World) : Prop := Lib.TabIs Tryz.prog w "internal/strconv.uint64pow10" .u64 Lib.pow10Tab
theorem Tens.below {w w' : World} (h : Tens w) (hb : Below w.heap.size w w') : Tens w' := Lib.tabBelow_of_tabIs h w' hb
theorem grow_below (w : World) (os : Array Obj) : Below w.heap.size w («Sort».grow w os) :=
 ⟨rfl, rfl, rfl, by simp [«Sort».grow], fun k hk => by simp only [«Sort».grow]; exact Array.getElem?_append_left hk⟩
theorem itoa_calls (n : Int) (h0 : Ok64 n) (w : World) (hT : Tens w) : Calls Tryz.prog 61 #[.int .i64 n] w fun e w' => e = .returned (.string ⟨(Lib.itoa n).toArray⟩) ∧ Below w.heap.size w w' :=
 (Tryz.strconv_Itoa n h0.1 h0.2 w hT).mono fun e w' h => ⟨h.1, by
   obtain ⟨k, os, rfl⟩ := h.2
   exact below_step (pw_below_drewN (Below.refl _ _) k) (grow_below _ os)⟩
def strW (l : List UInt8) : Value := .string ⟨l.toArray⟩
theorem join_fresh (sep : List UInt8) (xs : List (List UInt8)) (u : World) (h0 : 0 < xs.length) (hn : xs.length ≤ 1000) (hlen : (Lib.join xs sep).length ≤ 140737488355328) :
 Calls Tryz.prog 111 #[.slice (some ⟨u.heap.size, 0, none⟩) xs.length xs.length, .string ⟨sep.toArray⟩] (u.alloc (.cells (xs.map strW).toArray 9)) fun e w' => e = .returned (.string ⟨(Lib.join xs sep).toArray⟩) ∧ Below u.heap.size u w' := by
 have hb := below_alloc (Below.refl u.heap.size u) (.cells (xs.map strW).toArray 9)
 have hx := blk_new u (.cells (xs.map strW).toArray 9)
 have e1 : ((xs.map fun x => (⟨x.toArray⟩ : ByteArray)).map (·.data.toList)) = xs := by simp [List.map_map, Function.comp_def]
 have hJ := Tryz.strings_Join u.heap.size 0 xs.length (xs.map fun x => ⟨x.toArray⟩) ⟨sep.toArray⟩ (u.alloc (.cells (xs.map strW).toArray 9)) (by
  intro j x hj
  rw [List.getElem?_map] at hj
  obtain ⟨y, hy, rfl⟩ := Option.map_eq_some_iff.1 hj
  rw [Nat.zero_add]
  have : (xs.map strW)[j]? = some (.string ⟨y.toArray⟩) := by rw [List.getElem?_map, hy]; rfl
  have h2 := blk_cell hx j
  rw [h2]
  simpa using this) (by simp) (by rw [List.length_map]; omega) (by rw [List.length_map]; exact Nat.le_refl _) (by rw [e1]; exact hlen)
 rw [e1, List.length_map] at hJ
 refine hJ.mono ?_
 rintro e w' ⟨rfl, hb2⟩
 exact ⟨rfl, below_step hb hb2⟩
set_option maxRecDepth 100000 in
set_option maxHeartbeats 2000000 in
theorem words_fresh (xs : List (List UInt8)) (u : World) (h0 : 0 < xs.length) (hn : xs.length ≤ 1000) (hlen : (Lib.join xs [32]).length ≤ 140737488355328) :
 Calls Tryz.prog 60 #[.slice (some ⟨u.heap.size, 0, none⟩) xs.length xs.length] (u.alloc (.cells (xs.map strW).toArray 9)) fun e w' => e = .returned (.string ⟨(Lib.join xs [32]).toArray⟩) ∧ Below u.heap.size u w' := by
 have HJ := Lib.hid (join_fresh [32] xs u h0 hn hlen)
 clear h0 hn hlen
 go_enter Tryz.func60, Tryz.ntmps60
 go_wp2_with fail
 refine HJ.out.mono ?_
 rintro e w1 ⟨rfl, hb⟩
 have HB := Aside0.mk hb
 clear hb
 go_wp2
 go_ret
 exact ⟨rfl, HB.out⟩
def textS (s : List UInt8) : List UInt8 := if s = [] then [45] else s
set_option maxRecDepth 100000 in
theorem text_word (s : ByteArray) (w : World) : Calls Tryz.prog 113 #[.string s] w fun e w' => e = .returned (.string ⟨(textS s.data.toList).toArray⟩) ∧ Below w.heap.size w w' := by
 obtain ⟨⟨l⟩⟩ := s
 cases l with
 | nil =>
  go_enter Tryz.func113, Tryz.ntmps113
  go_wp2
  go_ret
  exact ⟨rfl, Below.refl _ _⟩
 | cons b r =>
  go_enter Tryz.func113, Tryz.ntmps113
  go_wp2
  go_ret
  exact ⟨rfl, Below.refl _ _⟩
theorem join_le (sep : List UInt8) (hs : sep.length ≤ 1) (m : Nat) : ∀ (xs : List (List UInt8)), (∀ x ∈ xs, x.length ≤ m) → (Lib.join xs sep).length ≤ xs.length * (m + 1)
 | [], _ => by simp [Lib.join_nil]
 | [x], h => by rw [Lib.join_one]; have := h x (by simp); simp; omega
 | x :: y :: r, h => by
  have ih := join_le sep hs m (y :: r) (fun z hz => h z (by simp [hz]))
  have e : Lib.join (x :: y :: r) sep = x ++ (sep ++ Lib.join (y :: r) sep) := by simp [Lib.join_cons, Lib.joinTail]
  have := h x (by simp)
  rw [e, List.length_append, List.length_append, List.length_cons, Nat.add_mul]
  omega
def numbersB (l : List Int) : List UInt8 := Lib.join (l.map Lib.itoa) [44]
set_option maxRecDepth 100000 in
set_option maxHeartbeats 4000000 in
theorem numbers_calls (w : World) (A : Option Addr) (c : Nat) (l : List Int) (hc : l.length ≤ c) (C1 : (Kd.int .i64).C w A l.length l) (hl : l.length ≤ 100000) (h64 : ∀ n ∈ l, Ok64 n) (hT : Tens w) :
 Calls Tryz.prog 114 #[.slice A l.length c] w fun e w' => e = .returned (.string ⟨(numbersB l).toArray⟩) ∧ Below w.heap.size w w' := by
 have HC := Lib.hid C1
 have HT := Lib.hid hT
 have H64 := Lib.hid h64
 clear C1 hT h64
 go_enter Tryz.func114, Tryz.ntmps114
 go_wp2
 go_loopw [3, 8] (fun sv v wr => ∃ i : Nat, ∃ xs : List ByteArray, i ≤ l.length ∧ v = .int .i64 i ∧ Hid (xs = (l.take i).map (fun n => (⟨(Lib.itoa n).toArray⟩ : ByteArray))) ∧ Aside0 (Below w.heap.size w wr ∧ Kd.string.R 9 wr w.heap.size (fun _ => True) sv xs)) (fun _ v _ => l.length - (intOf v).toNat)
 case atStart => exact ⟨0, [], by omega, rfl, Lib.hid rfl, ⟨Below.refl _ _, Kd.R_nil _ _ _ _ _⟩⟩
 case round =>
  obtain ⟨i, xs, hi, rfl, HX, HA⟩ := hrel
  by_cases hlt : i < l.length
  ·obtain ⟨ad, cs, rfl, hcs, hK, hcell⟩ := Kd.C_get (Kd.C_below HC.out HA.out.1) 0 (i : Int) (by omega) (by omega)
   have hK' : cs = [.int .i64 (l.getD i 0)] := hK
   subst hK'
   have g0 := hcell 0 _ rfl
   have hsz : (Kd.int .i64).sz = 1 := rfl
   simp only [Int.toNat_natCast, Nat.add_zero, hsz, Nat.mul_one] at g0
   have hxl : xs.length = i := by rw [HX.out]; simp; omega
   have hn := H64.out (l.getD i 0) (by simp [List.getD_eq_getElem?_getD, List.getElem?_eq_getElem hlt])
   have HN : Hid (xs ++ [(⟨(Lib.itoa (l.getD i 0)).toArray⟩ : ByteArray)] = (l.take (i + 1)).map (fun n => (⟨(Lib.itoa n).toArray⟩ : ByteArray))) := Lib.hid (by
    have e : l.getD i 0 = l[i] := by simp [List.getD_eq_getElem?_getD, List.getElem?_eq_getElem hlt]
    rw [HX.out, e, List.take_succ_eq_append_getElem hlt, List.map_append]; rfl)
   generalize l.getD i 0 = n at *
   have HI := Lib.hid (itoa_calls n hn wr (HT.out.below HA.out.1))
   clear hn hcell hK hcs hsz
   go_wp2_with fail
   refine HI.out.mono ?_
   rintro e w2 ⟨rfl, hb⟩
   have HR := Aside0.mk (And.intro (below_step HA.out.1 hb) (Kd.R_below HA.out.2 hb))
   clear hb
   have hBw : w.heap.size ≤ w2.heap.size := HR.out.1.size
   go_wp2_with (refine Kd.R_append Kd.string (w0 := w) w.heap.size rfl _ _ 40 9 (.string ⟨#[]⟩) 16 rfl Tryz.underlying40 info9 rfl (by decide) (by omega) u3 xs ⟨(Lib.itoa n).toArray⟩ [.string ⟨(Lib.itoa n).toArray⟩] (fun _ => True) (fun _ => False) rfl rfl rfl (fun _ h => h.elim) (fun _ _ => trivial) HR.out.2 HR.out.1 hBw (by omega) ?_)
   intro v1 w3 hrow hb3 hg hat
   have HN2 := Aside0.mk (And.intro hb3 hrow)
   clear hrow hb3 hg hat HR HX HA
   go_wp2
   go_roundw
   case rel => exact ⟨i + 1, _, by omega, by go_num, HN, HN2⟩
   case measure => simp [intOf]; omega
  ·obtain rfl : i = l.length := by omega
   have hx : xs = l.map (fun n => (⟨(Lib.itoa n).toArray⟩ : ByteArray)) := by rw [HX.out, List.take_length]
   have e1 : xs.map (·.data.toList) = l.map Lib.itoa := by rw [hx, List.map_map]; rfl
   have hj : (Lib.join (xs.map (·.data.toList)) (⟨#[44]⟩ : ByteArray).data.toList).length ≤ 140737488355328 := by
    rw [e1]
    have := join_le [44] (by decide) 21 (l.map Lib.itoa) (fun x hx => by
     obtain ⟨n, hn, rfl⟩ := List.mem_map.1 hx
     exact Lib.itoa_length_le n (H64.out n hn).1 (H64.out n hn).2)
    rw [List.length_map] at this
    show (Lib.join (l.map Lib.itoa) [44]).length ≤ _
    omega
   have hxl : xs.length = l.length := by rw [hx, List.length_map]
   have hown := Kd.own_of_R HA.out.2
   have HB := Aside0.mk HA.out.1
   have HE : Hid (Lib.join (xs.map (·.data.toList)) (⟨#[44]⟩ : ByteArray).data.toList = numbersB l) := Lib.hid (by rw [e1]; rfl)
   rcases hown.2 with ⟨rfl, h0⟩ | ⟨g, cap, cur, rfl, hg, hh, r1, r2, r3, r4⟩
   ·have hl0 : l.length = 0 := by omega
    obtain rfl := List.length_eq_zero_iff.1 hl0
    have HJ := Lib.hid (Tryz.strings_Join_none none 0 ⟨#[44]⟩ wr)
    clear hx e1 hj hown HA HX hxl
    go_wp2_with fail
    refine HJ.out.mono ?_
    rintro e w2 ⟨rfl, rfl⟩
    go_wp2
    go_ret
    exact ⟨rfl, HB.out⟩
   ·have HJ := Lib.hid (Tryz.strings_Join g 0 cap xs ⟨#[44]⟩ wr (fun j x hj => by
     have := hown.cells (g := g) rfl j (.string x) (by rw [show encs Value.string xs = xs.map Value.string from rfl, List.getElem?_map, hj]; rfl)
     have e : (⟨g, 0, none⟩ : Addr).add j = ⟨g, 0 + j, none⟩ := by simp [Addr.add]; intro h; exact h.symm
     rw [← e]; exact this) (blk_lt hh) (by omega) r1 hj)
    have HJ := Lib.hid (HE.out ▸ HJ.out)
    clear hx e1 hj hown HA HX hh r1 r2 r3 r4 hxl HE
    go_wp2_with fail
    refine HJ.out.mono ?_
    rintro e w2 ⟨rfl, hb⟩
    have HB2 := Aside0.mk (below_step HB.out hb)
    clear hb
    go_wp2
    go_ret
    exact ⟨rfl, HB2.out⟩
end Go.Proofs.YtmfjkepanmoeiaaGreatDoor.CJ
