/- The text of a shown value: the Go function eval.Text answers as the plain function valT. Conditions: the value lies in memory, its numbers are of 64 bits, and it is not too large; the powers of ten lie where the program lays them. The text of an access: the Go function access answers as the plain function accT. Conditions: the access lies in memory, its numbers are of 64 bits, it is not too large; the powers of ten lie where the program lays them. -/
import Derived.Test.YtkfbhfmddmhiaaaGreatDoorJJ
import Derived.Test.YtkfbhfmddmhiaaaGreatDoorB
import Derived.Test.YtkfbhfmddmhiaaaGreatDoorShh
import Derived.BigQuiet
import Derived.Lib.Hide
import Derived.Lib.AppendIntMem
import Derived.Lib.ItoaLen
import Derived.Test.YtkfbhfmddmhiaaaGreatDoorT0
import Derived.Lib.CountLaws
import Derived.Lib.SplitLaws
namespace Go.Proofs.YtkfbhfmddmhiaaaGreatDoor.TJ
open Go.RowKit Go.Proofs.YtkfbhfmddmhiaaaGreatDoorW.PrintWords Go.Proofs.YtkfbhfmddmhiaaaGreatDoorW.PrintLast Go.Proofs.YtkfbhfmddmhiaaaGreatDoor.PT Go.Proofs.YtkfbhfmddmhiaaaGreatDoor.IMaps
set_option linter.unusedVariables false
set_option linter.unusedSimpArgs false

mutual
def valT : Vl → List UInt8
  | ⟨k, n, s, l⟩ => if k = 1 then Lib.itoa n else if k = 2 ∨ k = 4 then (match l with | [] => s.data.toList | v :: r => [40] ++ s.data.toList ++ ((32 :: valT v) ++ valTs r) ++ [41])
    else if k = 3 then [102, 117, 110, 99, 116, 105, 111, 110, 32] ++ Lib.itoa n else if k = 5 then [116, 104, 114, 111, 119, 32] ++ Lib.itoa n
    else if k = 6 then [46, 46, 46] else if k = 7 then [119, 114, 111, 110, 103] else if k = 8 then [116, 118, 97, 114, 32] ++ Lib.itoa n else []
def valTs : List Vl → List UInt8
  | [] => []
  | v :: r => (32 :: valT v) ++ valTs r
end
mutual
def wfV : Vl → Prop
  | ⟨k, n, _, l⟩ => (-9223372036854775808 ≤ n ∧ n ≤ 9223372036854775807) ∧ wfVs l
def wfVs : List Vl → Prop
  | [] => True
  | v :: r => wfV v ∧ wfVs r
end
mutual
def szV : Vl → Nat
  | ⟨_, _, s, l⟩ => s.size + szVs l + 1
def szVs : List Vl → Nat
  | [] => 0
  | v :: r => szV v + szVs r
end
theorem szV_eq (x : Vl) : szV x = x.f2.size + szVs x.f3 + 1 := by cases x; rfl
theorem wfV_eq (x : Vl) : wfV x = ((-9223372036854775808 ≤ x.f1 ∧ x.f1 ≤ 9223372036854775807) ∧ wfVs x.f3) := by cases x; rfl
theorem valT_eq (x : Vl) : valT x = if x.f0 = 1 then Lib.itoa x.f1 else if x.f0 = 2 ∨ x.f0 = 4 then (if x.f3 = [] then x.f2.data.toList else [40] ++ x.f2.data.toList ++ valTs x.f3 ++ [41])
    else if x.f0 = 3 then [102, 117, 110, 99, 116, 105, 111, 110, 32] ++ Lib.itoa x.f1 else if x.f0 = 5 then [116, 104, 114, 111, 119, 32] ++ Lib.itoa x.f1
    else if x.f0 = 6 then [46, 46, 46] else if x.f0 = 7 then [119, 114, 111, 110, 103] else if x.f0 = 8 then [116, 118, 97, 114, 32] ++ Lib.itoa x.f1 else [] := by
  obtain ⟨k, n, s, l⟩ := x
  cases l <;> simp [valT, valTs]
theorem rdV0 (l : List Vl) (j : Nat) (h : j < l.length) : rd_T49 l (j : Int) = l[j] := by simp [rd_T49, List.getD_eq_getElem?_getD, List.getElem?_eq_getElem h]
theorem wfVs_get : ∀ (l : List Vl) (j : Nat) (h : j < l.length), wfVs l → wfV l[j]
  | v :: r, 0, _, h => h.1
  | v :: r, j + 1, hj, h => wfVs_get r j (by simpa using hj) h.2
theorem szVs_get : ∀ (l : List Vl) (j : Nat) (h : j < l.length), szV l[j] ≤ szVs l
  | v :: r, 0, _ => by simp only [szVs, List.getElem_cons_zero]; omega
  | v :: r, j + 1, hj => by
    have := szVs_get r j (by simpa using hj)
    simp only [szVs, List.getElem_cons_succ]
    omega
theorem valTs_append : ∀ (l m : List Vl), valTs (l ++ m) = valTs l ++ valTs m
  | [], m => rfl
  | v :: r, m => by simp only [List.cons_append, valTs, valTs_append r m, List.append_assoc]
theorem valTs_take (l : List Vl) (j : Nat) (h : j < l.length) : valTs (l.take (j + 1)) = valTs (l.take j) ++ (32 :: valT l[j]) := by
  rw [List.take_succ_eq_append_getElem h, valTs_append]
  simp [valTs]
theorem valTs_le (l : List Vl) (j : Nat) : (valTs (l.take j)).length ≤ (valTs l).length := by
  have h : valTs l = valTs (l.take j) ++ valTs (l.drop j) := by rw [← valTs_append, List.take_append_drop]
  rw [h, List.length_append]
  omega

theorem valT_len : ∀ (n : Nat) (x : Vl), vdepth x ≤ n → wfV x → (valT x).length + 1 ≤ 40 * szV x := by
  intro n
  induction n with
  | zero => intro x h; rw [vdepth_eq] at h; omega
  | succ n ih =>
    intro x h hw
    rw [vdepth_eq] at h
    rw [wfV_eq] at hw
    rw [valT_eq, szV_eq]
    have hi := Lib.itoa_length_le x.f1 hw.1.1 hw.1.2
    have hl : ∀ (l : List Vl), (∀ (j : Nat) (hj : j < l.length), (valT l[j]).length + 1 ≤ 40 * szV l[j]) → (valTs l).length ≤ 40 * szVs l := by
      intro l
      induction l with
      | nil => intro _; simp [valTs]
      | cons v r ihl =>
        intro hh
        have h0 : (valT v).length + 1 ≤ 40 * szV v := hh 0 (Nat.zero_lt_succ _)
        have h1 := ihl fun j hj => hh (j + 1) (Nat.succ_lt_succ hj)
        simp only [valTs, szVs, List.length_append, List.length_cons]
        omega
    have h3 := hl x.f3 fun j hj => ih _ (by
      have := vdepths_mem x.f3 j hj
      rw [rdV0 _ _ hj] at this
      omega) (wfVs_get _ _ hj hw.2)
    have hs : x.f2.data.toList.length = x.f2.size := rfl
    split
    · omega
    · split
      · split
        · rw [hs]; omega
        · simp only [List.length_append, List.length_cons, List.length_nil, hs]; omega
      · split
        · simp only [List.length_append, List.length_cons, List.length_nil]; omega
        · split
          · simp only [List.length_append, List.length_cons, List.length_nil]; omega
          · split
            · simp only [List.length_cons, List.length_nil]; omega
            · split
              · simp only [List.length_cons, List.length_nil]; omega
              · split
                · simp only [List.length_append, List.length_cons, List.length_nil]; omega
                · simp only [List.length_nil]; omega

def Tens (w : World) : Prop := Lib.TabIs Tryz.prog w "internal/strconv.uint64pow10" .u64 Lib.pow10Tab
theorem Tens.below {w w' : World} (h : Tens w) (hb : Below w.heap.size w w') : Tens w' := Lib.tabBelow_of_tabIs h w' hb

theorem grow_below (w : World) (os : Array Obj) : Below w.heap.size w («Sort».grow w os) :=
  ⟨rfl, rfl, rfl, by simp [«Sort».grow], fun k hk => by simp only [«Sort».grow]; exact Array.getElem?_append_left hk⟩
theorem itoa_calls (n : Int) (h0 : -9223372036854775808 ≤ n ∧ n ≤ 9223372036854775807) (w : World) (hT : Tens w) : Calls Tryz.prog 31 #[.int .i64 n] w fun e w' => e = .returned (.string ⟨(Lib.itoa n).toArray⟩) ∧ Below w.heap.size w w' :=
  (Tryz.strconv_Itoa n h0.1 h0.2 w hT).mono fun e w' h => ⟨h.1, by
    obtain ⟨k, os, rfl⟩ := h.2
    exact below_step (pw_below_drewN (Below.refl _ _) k) (grow_below _ os)⟩

structure TV (w w' : World) (cs : Array Value) (bs : List UInt8) : Prop where
  bld : Lib.IsBuilder 58 5 (w.heap.size + 1) (w.heap.size + 1) (Lib.byteCells bs) w'
  lt : w.heap.size + 1 ≤ w'.heap.size
  below : Below w.heap.size w w'
  box : w'.heap[w.heap.size]? = some (.cells cs 49 (0, 0))

theorem TV.step {w w1 w2 : World} {cs : Array Value} {bs : List UInt8} (h : TV w w1 cs bs) (hb : Below w1.heap.size w1 w2) : TV w w2 cs bs :=
  ⟨isBuilder_below h.bld hb, Nat.le_trans h.lt hb.size, below_step h.below hb, (hb.block _ (Array.getElem?_eq_some_iff.1 h.box).1).trans h.box⟩

theorem cat_data (a b : ByteArray) : (a ++ b).data.toList = a.data.toList ++ b.data.toList := by simp [ByteArray.data_append]

theorem cat4 (xs : ByteArray) (l : List UInt8) : (⟨#[40]⟩ ++ xs ++ ⟨l.toArray⟩ ++ ⟨#[41]⟩ : ByteArray) = ⟨([40] ++ xs.data.toList ++ l ++ [41]).toArray⟩ := by
  refine ByteArray.ext ?_
  apply Array.toList_inj.1
  simp [ByteArray.data_append]

theorem TV.write {w w1 : World} {cs : Array Value} {bs : List UInt8} (h : TV w w1 cs bs) (s : ByteArray) (hlen : bs.length + s.size ≤ 140737488355328) :
    Calls Tryz.prog 29 #[.pointer (some ⟨w.heap.size + 1, 0, none⟩), .string s] w1 fun e w' => e = .returned (.tuple #[.int .i64 s.size, .nilIface]) ∧ TV w w' cs (bs ++ s.data.toList) := by
  refine (writeString_calls (w.heap.size + 1) (w.heap.size + 1) (Lib.byteCells bs) s w1 h.bld (by rw [Lib.byteCells_length]; exact hlen) h.lt).mono ?_
  rintro e w2 ⟨rfl, hB, hb, hk⟩
  refine ⟨rfl, ⟨.inr ?_, Nat.le_trans h.lt hb.size, h.below.trans (hb.mono (Nat.le_succ _)), (hk w.heap.size cs _ _ (by omega) h.box (by decide)).trans h.box⟩⟩
  rw [Lib.byteCells_append]
  exact hB

theorem TV0 (w : World) (k n : Int) (s : ByteArray) (A : Option Addr) (m c : Nat) : Aside0 (TV w ((w.alloc (.cells #[.int .i64 k, .int .i64 n, .string s, .slice A m c] 49)).alloc (.cells #[.pointer none, .slice none 0 0] 58)) #[.int .i64 k, .int .i64 n, .string s, .slice A m c] (valTs [])) := by
  have h1 := (MapKept.heap_alloc (w.alloc (.cells #[.int .i64 k, .int .i64 n, .string s, .slice A m c] 49)) (.cells #[.pointer none, .slice none 0 0] 58)).1
  simp only [World.size_alloc] at h1
  exact ⟨⟨.inl ⟨Nat.le_refl _, .slice none 0 0, h1, own_nil _ _ _ _, by simp [Value.ownBlock]⟩, by simp, below_alloc (below_alloc (Below.refl _ _) _) _, (Below.heap_alloc _ _ _ (by simp)).trans (MapKept.heap_alloc w _).1⟩⟩

def TextAt (x : Vl) : Prop := ∀ (w : World) (A : Option Addr) (c : Nat), Tens w → x.f3.length ≤ c → kVl.C w A x.f3.length x.f3 →
  Calls Tryz.prog 51 #[.agg #[.int .i64 x.f0, .int .i64 x.f1, .string x.f2, .slice A x.f3.length c]] w fun e w' => e = .returned (.string ⟨(valT x).toArray⟩) ∧ Below w.heap.size w w'

set_option maxRecDepth 100000 in
set_option maxHeartbeats 8000000 in
theorem text_val (n : Nat) (x : Vl) (hd : vdepth x ≤ n + 1) (hw : wfV x) (hs : szV x ≤ 4000000) (ih : ∀ y : Vl, vdepth y ≤ n → wfV y → szV y ≤ 4000000 → TextAt y) : TextAt x := by
  intro w A c hT hc C1
  have hwf : (-9223372036854775808 ≤ x.f1 ∧ x.f1 ≤ 9223372036854775807) ∧ wfVs x.f3 := by rw [← wfV_eq]; exact hw
  have hsz : szVs x.f3 + x.f2.size ≤ 4000000 := by have := szV_eq x; omega
  have hI := fun W (hb : Below w.heap.size w W) => itoa_calls x.f1 hwf.1 W (hT.below hb)
  have HI := Lib.hid hI
  have HV := Lib.hid (valT_eq x)
  have hin : ∀ (j : Nat) (hj : j < x.f3.length), TextAt x.f3[j] := fun j hj => ih _ (by
      have := vdepths_mem x.f3 j hj
      rw [rdV0 _ _ hj] at this
      rw [vdepth_eq] at hd
      omega) (wfVs_get _ _ hj hwf.2) (by have := szVs_get x.f3 j hj; omega)
  have hlen : ∀ j, (valTs (x.f3.take j)).length ≤ 160000000 := fun j => by
    have h0 : ∀ l : List Vl, wfVs l → (valTs l).length ≤ 40 * szVs l := by
      intro l
      induction l with
      | nil => intro _; simp [valTs]
      | cons v r ihl =>
        intro hh
        have h0 := valT_len _ v (Nat.le_refl _) hh.1
        have h1 := ihl hh.2
        simp only [valTs, szVs, List.length_append, List.length_cons]
        omega
    have := valTs_le x.f3 j
    have := h0 x.f3 hwf.2
    omega
  have hel : ∀ (j : Nat) (hj : j < x.f3.length), (valT x.f3[j]).length ≤ 160000000 := fun j hj => by
    have h0 := valT_len _ x.f3[j] (Nat.le_refl _) (wfVs_get _ _ hj hwf.2)
    have := szVs_get x.f3 j hj
    omega
  have HL := Lib.hid (Lib.itoa_length_le x.f1 hwf.1.1 hwf.1.2)
  have HZ := Lib.hid (And.intro hsz (show (valTs x.f3).length ≤ 160000000 by have := hlen x.f3.length; rwa [List.take_of_length_le (Nat.le_refl _)] at this))
  have HN := Lib.hid (And.intro hin (And.intro hlen hel))
  have HC := Lib.hid (And.intro hc (And.intro C1 hT))
  have hm : x.f3.length ≤ 9223372036854775807 := C1.2.1
  clear hI hw hs ih hd hwf hsz hin hlen hel hc C1 hT
  obtain ⟨xk, xn, xs, xl⟩ := x
  dsimp only at *
  have hil : (Lib.itoa xn).length ≤ 21 := HL.out
  have q9 : ¬ (9223372036854775807 < 9 + (Lib.itoa xn).length) := by omega
  have q6 : ¬ (9223372036854775807 < 6 + (Lib.itoa xn).length) := by omega
  have q5 : ¬ (9223372036854775807 < 5 + (Lib.itoa xn).length) := by omega
  have HB1 : Aside0 (∀ o, Below w.heap.size w (w.alloc o)) := ⟨fun o => below_alloc (Below.refl _ _) _⟩
  have paths : xk = 1 ∨ xk = 3 ∨ xk = 5 ∨ xk = 6 ∨ xk = 7 ∨ xk = 8 ∨ xk = 2 ∨ xk = 4 ∨ ((xk == 1) = false ∧ (xk == 2) = false ∧ (xk == 3) = false ∧ (xk == 4) = false ∧ (xk == 5) = false ∧ (xk == 6) = false ∧ (xk == 7) = false ∧ (xk == 8) = false) := by
    simp only [beq_eq_false_iff_ne]
    omega
  rcases paths with rfl | rfl | rfl | rfl | rfl | rfl | rfl | rfl | hno
  · go_enter Tryz.func51, Tryz.ntmps51
    go_wp2_with fail
    first
    | (refine (HI.out _ (HB1.out _)).mono ?_
       rintro e w1 ⟨rfl, hb1⟩
       have HB2 := Aside0.mk (below_step (HB1.out _) hb1)
       clear hb1
       go_wp2
       go_ret
       exact ⟨by rw [HV.out]; rfl, HB2.out⟩)
    | (go_ret
       exact ⟨by rw [HV.out]; rfl, HB1.out _⟩)
  · go_enter Tryz.func51, Tryz.ntmps51
    go_wp2_with fail
    first
    | (refine (HI.out _ (HB1.out _)).mono ?_
       rintro e w1 ⟨rfl, hb1⟩
       have HB2 := Aside0.mk (below_step (HB1.out _) hb1)
       clear hb1
       go_wp2
       go_ret
       exact ⟨by rw [HV.out]; rfl, HB2.out⟩)
    | (go_ret
       exact ⟨by rw [HV.out]; rfl, HB1.out _⟩)
  · go_enter Tryz.func51, Tryz.ntmps51
    go_wp2_with fail
    first
    | (refine (HI.out _ (HB1.out _)).mono ?_
       rintro e w1 ⟨rfl, hb1⟩
       have HB2 := Aside0.mk (below_step (HB1.out _) hb1)
       clear hb1
       go_wp2
       go_ret
       exact ⟨by rw [HV.out]; rfl, HB2.out⟩)
    | (go_ret
       exact ⟨by rw [HV.out]; rfl, HB1.out _⟩)
  · go_enter Tryz.func51, Tryz.ntmps51
    go_wp2_with fail
    first
    | (refine (HI.out _ (HB1.out _)).mono ?_
       rintro e w1 ⟨rfl, hb1⟩
       have HB2 := Aside0.mk (below_step (HB1.out _) hb1)
       clear hb1
       go_wp2
       go_ret
       exact ⟨by rw [HV.out]; rfl, HB2.out⟩)
    | (go_ret
       exact ⟨by rw [HV.out]; rfl, HB1.out _⟩)
  · go_enter Tryz.func51, Tryz.ntmps51
    go_wp2_with fail
    first
    | (refine (HI.out _ (HB1.out _)).mono ?_
       rintro e w1 ⟨rfl, hb1⟩
       have HB2 := Aside0.mk (below_step (HB1.out _) hb1)
       clear hb1
       go_wp2
       go_ret
       exact ⟨by rw [HV.out]; rfl, HB2.out⟩)
    | (go_ret
       exact ⟨by rw [HV.out]; rfl, HB1.out _⟩)
  · go_enter Tryz.func51, Tryz.ntmps51
    go_wp2_with fail
    first
    | (refine (HI.out _ (HB1.out _)).mono ?_
       rintro e w1 ⟨rfl, hb1⟩
       have HB2 := Aside0.mk (below_step (HB1.out _) hb1)
       clear hb1
       go_wp2
       go_ret
       exact ⟨by rw [HV.out]; rfl, HB2.out⟩)
    | (go_ret
       exact ⟨by rw [HV.out]; rfl, HB1.out _⟩)
  · rcases Classical.em (xl = []) with h0 | h0
    · subst h0
      go_enter Tryz.func51, Tryz.ntmps51
      go_wp2
      go_ret
      exact ⟨by rw [HV.out]; rfl, HB1.out _⟩
    · have hpos : 0 < xl.length := List.length_pos_iff.2 h0
      have z1 : ((xl.length : Int) == 0) = false := by rw [beq_eq_false_iff_ne]; omega
      have z2 : (xl.length == 0) = false := by rw [beq_eq_false_iff_ne]; omega
      have HW := Lib.hid (show valT ⟨2, xn, xs, xl⟩ = [40] ++ xs.data.toList ++ valTs xl ++ [41] by rw [HV.out]; simp [h0])
      clear HV HI h0
      go_enter Tryz.func51, Tryz.ntmps51
      go_wp2
      go_loopw [25] (fun v wr => ∃ i : Nat, i ≤ xl.length ∧ v = .int .i64 i ∧ Aside0 (TV w wr #[.int .i64 2, .int .i64 xn, .string xs, .slice A xl.length c] (valTs (xl.take i)))) (fun v _ => xl.length - (intOf v).toNat)
      case atStart => exact ⟨0, by omega, rfl, TV0 w 2 xn xs A xl.length c⟩
      case round =>
        obtain ⟨i, hi, rfl, HT⟩ := hrel
        by_cases hlt : i < xl.length
        · obtain ⟨ad, A3, c3, e3, hx0, hx1, hx2, hx3, hxl, hxC⟩ := at_T49 HC.out.2.1 (i : Int) (by omega) (by omega)
          cases e3
          simp only [Int.toNat_natCast] at hx0 hx1 hx2 hx3
          have HBw := HT.out.below
          replace hx0 := (HBw.cell (World.block_lt_of_cell? w _ hx0)).trans hx0
          replace hx1 := (HBw.cell (World.block_lt_of_cell? w _ hx1)).trans hx1
          replace hx2 := (HBw.cell (World.block_lt_of_cell? w _ hx2)).trans hx2
          replace hx3 := (HBw.cell (World.block_lt_of_cell? w _ hx3)).trans hx3
          have hin := HN.out.1 i hlt
          have hst := valTs_take xl i hlt
          have hl1 := HN.out.2.1 i
          have hl2 := HN.out.2.2 i hlt
          rw [rdV0 _ _ hlt] at hx0 hx1 hx2 hx3 hxl hxC
          generalize hX : xl[i] = X at *
          clear hX
          have HD := Lib.hid (And.intro hin (And.intro hst (And.intro hl1 (And.intro hl2 (And.intro hxl (Kd.C_below hxC HBw))))))
          clear hin hst hl1 hl2 hxl hxC HBw
          go_wp2_with fail
          refine (HD.out.1 _ A3 c3 (HC.out.2.2.below (below_alloc HT.out.below _)) HD.out.2.2.2.2.1 (Kd.C_below HD.out.2.2.2.2.2 (below_alloc (Below.refl _ _) _))).mono ?_
          rintro e w1 ⟨rfl, hb1⟩
          have HT1 := Aside0.mk (HT.out.step (below_step (below_alloc (Below.refl _ _) _) hb1))
          clear hb1 HT
          have qz : ¬ (9223372036854775807 < 1 + (valT X).length) := by have := HD.out.2.2.2.1; omega
          go_wp2_with fail
          refine (TV.write HT1.out _ (by simp only [ByteArray.size_append]; have h1 := HD.out.2.2.1; have h2 := HD.out.2.2.2.1; simp only [ByteArray.size, List.size_toArray, Array.size, List.length_cons, List.length_nil]; omega)).mono ?_
          rintro e w2 ⟨rfl, HT2⟩
          have HT3 : Aside0 (TV w w2 #[.int .i64 2, .int .i64 xn, .string xs, .slice (some ad) xl.length c] (valTs (xl.take (i + 1)))) := by
            rw [HD.out.2.1]
            rw [cat_data] at HT2
            exact ⟨HT2⟩
          clear HT2 HT1
          go_wp2
          go_roundw
          case rel => exact ⟨i + 1, by omega, by go_num, HT3⟩
          case measure => simp [intOf]; omega
        · have hie : i = xl.length := by omega
          subst hie
          have HT2 := HT.out
          rw [List.take_of_length_le (Nat.le_refl _)] at HT2
          have HT0 := Aside0.mk HT2
          clear HT2 HT
          have q1 : ¬ (9223372036854775807 < 1 + xs.size) := by have := HZ.out.1; omega
          have q2 : ¬ (9223372036854775807 < 1 + xs.size + (valTs xl).length) := by have := HZ.out; omega
          have q3 : ¬ (9223372036854775807 < 1 + xs.size + (valTs xl).length + 1) := by have := HZ.out; omega
          have HT := Aside0.mk (HT0.out.step (below_drew (Below.refl _ _)))
          have f0 : wr.drew.cell? ⟨w.heap.size, 2, none⟩ = some (.string xs) := cellH HT.out.box rfl
          go_wp2
          refine start_ (n := 7) (S := fun w' => w'.cell? ⟨w.heap.size, 2, none⟩ = some (.string xs)) (ds := []) #[false, false, false, false, false, false, false] (by kernel_rfl) rfl rfl (f0) (fun hHeld => ?_)
          refine pure_ (i := 0) (N := some 34) (v := ?_) (a' := ?_) #[true, false, false, false, false, false, false] rfl rfl (by kernel_rfl) (fun _ _ _ h => h) (Or.inl ⟨by rfl, ?_⟩) ?_ ?_
          rotate_left
          · intro w'
            go_simp
            with_reducible rfl
          rotate_left
          · simp only [Act.put, List.setIfInBounds_toArray, List.set_cons_zero, List.set_cons_succ, i64_w, i32_w]
            rfl
          refine take_ (i := 1) (N := some 35) (v := ?_) (a' := ?_) #[true, true, false, false, false, false, false] rfl rfl (by kernel_rfl) (fun _ _ _ h => h) (Or.inl ⟨by rfl, ?_⟩) hHeld ?_ ?_
          rotate_left
          · intro w' s0
            go_simp
            with_reducible rfl
          rotate_left
          · simp only [Act.put, List.setIfInBounds_toArray, List.set_cons_zero, List.set_cons_succ, i64_w, i32_w]
            rfl
          refine pure_ (i := 2) (N := some 36) (v := ?_) (a' := ?_) #[true, true, true, false, false, false, false] rfl rfl (by kernel_rfl) (fun _ _ _ h => h) (Or.inl ⟨by rfl, ?_⟩) ?_ ?_
          rotate_left
          · intro w'
            go_simp
            with_reducible rfl
          rotate_left
          · simp only [Act.put, List.setIfInBounds_toArray, List.set_cons_zero, List.set_cons_succ, i64_w, i32_w]
            rfl
          refine one_ (i := 3) (N := some 37) #[true, true, true, true, false, false, false] rfl rfl (by kernel_rfl) (by decide) (fun K hK => ?_)
          refine goes_ Tryz.func33 (by kernel_rfl) rfl #[.pointer (some ⟨w.heap.size + 1, 0, none⟩)] (by rfl) rfl rfl (by simp only [List.map_toArray, List.map_cons, List.map_nil]; rfl) ?_
          with_reducible refine (Tryz.Builder_String_any (w.heap.size + 1) (w.heap.size + 1) (valTs xl) _ HT.out.bld (TV.lt HT.out)).mono ?_
          rintro e u1 ⟨rfl, hb1⟩
          have HZ := Aside0.mk (HT.out.below.trans (hb1.mono (Nat.le_succ _)))
          refine ⟨_, rfl, ?_⟩
          refine hK.out _ _ ((hb1.cell (Nat.lt_succ_self _)).trans hHeld) (fun hHeld => ?_)
          clear hK K
          refine norm_ (a' := ?_) ?_ ?_
          rotate_left
          · show Act.put _ (some 37) _ = _
            simp only [Act.put, List.setIfInBounds_toArray, List.set_cons_zero, List.set_cons_succ, i64_w, i32_w]
            rfl
          refine pure_ (i := 4) (N := some 38) (v := ?_) (a' := ?_) #[true, true, true, true, true, false, false] rfl rfl (by kernel_rfl) (fun _ _ _ h => h) (Or.inl ⟨by rfl, ?_⟩) ?_ ?_
          rotate_left
          · intro w'
            go_simp
            with_reducible rfl
          rotate_left
          · simp only [Act.put, List.setIfInBounds_toArray, List.set_cons_zero, List.set_cons_succ, i64_w, i32_w]
            rfl
          refine pure_ (i := 5) (N := some 39) (v := ?_) (a' := ?_) #[true, true, true, true, true, true, false] rfl rfl (by kernel_rfl) (fun _ _ _ h => h) (Or.inl ⟨by rfl, ?_⟩) ?_ ?_
          rotate_left
          · intro w'
            go_simp
            with_reducible rfl
          rotate_left
          · simp only [Act.put, List.setIfInBounds_toArray, List.set_cons_zero, List.set_cons_succ, i64_w, i32_w]
            rfl
          refine pure_ (i := 6) (N := some 2) (v := ?_) (a' := ?_) #[true, true, true, true, true, true, true] rfl rfl (by kernel_rfl) (fun _ _ _ h => h) (Or.inl ⟨by rfl, ?_⟩) ?_ ?_
          rotate_left
          · intro w'
            go_simp
            with_reducible rfl
          rotate_left
          · simp only [Act.put, List.setIfInBounds_toArray, List.set_cons_zero, List.set_cons_succ, i64_w, i32_w]
            rfl
          refine done_ (by kernel_rfl) ?_
          go_wp2
          go_ret
          exact ⟨by rw [HW.out, ← cat4]; rfl, HZ.out⟩
  · rcases Classical.em (xl = []) with h0 | h0
    · subst h0
      go_enter Tryz.func51, Tryz.ntmps51
      go_wp2
      go_ret
      exact ⟨by rw [HV.out]; rfl, HB1.out _⟩
    · have hpos : 0 < xl.length := List.length_pos_iff.2 h0
      have z1 : ((xl.length : Int) == 0) = false := by rw [beq_eq_false_iff_ne]; omega
      have z2 : (xl.length == 0) = false := by rw [beq_eq_false_iff_ne]; omega
      have HW := Lib.hid (show valT ⟨4, xn, xs, xl⟩ = [40] ++ xs.data.toList ++ valTs xl ++ [41] by rw [HV.out]; simp [h0])
      clear HV HI h0
      go_enter Tryz.func51, Tryz.ntmps51
      go_wp2
      go_loopw [25] (fun v wr => ∃ i : Nat, i ≤ xl.length ∧ v = .int .i64 i ∧ Aside0 (TV w wr #[.int .i64 4, .int .i64 xn, .string xs, .slice A xl.length c] (valTs (xl.take i)))) (fun v _ => xl.length - (intOf v).toNat)
      case atStart => exact ⟨0, by omega, rfl, TV0 w 4 xn xs A xl.length c⟩
      case round =>
        obtain ⟨i, hi, rfl, HT⟩ := hrel
        by_cases hlt : i < xl.length
        · obtain ⟨ad, A3, c3, e3, hx0, hx1, hx2, hx3, hxl, hxC⟩ := at_T49 HC.out.2.1 (i : Int) (by omega) (by omega)
          cases e3
          simp only [Int.toNat_natCast] at hx0 hx1 hx2 hx3
          have HBw := HT.out.below
          replace hx0 := (HBw.cell (World.block_lt_of_cell? w _ hx0)).trans hx0
          replace hx1 := (HBw.cell (World.block_lt_of_cell? w _ hx1)).trans hx1
          replace hx2 := (HBw.cell (World.block_lt_of_cell? w _ hx2)).trans hx2
          replace hx3 := (HBw.cell (World.block_lt_of_cell? w _ hx3)).trans hx3
          have hin := HN.out.1 i hlt
          have hst := valTs_take xl i hlt
          have hl1 := HN.out.2.1 i
          have hl2 := HN.out.2.2 i hlt
          rw [rdV0 _ _ hlt] at hx0 hx1 hx2 hx3 hxl hxC
          generalize hX : xl[i] = X at *
          clear hX
          have HD := Lib.hid (And.intro hin (And.intro hst (And.intro hl1 (And.intro hl2 (And.intro hxl (Kd.C_below hxC HBw))))))
          clear hin hst hl1 hl2 hxl hxC HBw
          go_wp2_with fail
          refine (HD.out.1 _ A3 c3 (HC.out.2.2.below (below_alloc HT.out.below _)) HD.out.2.2.2.2.1 (Kd.C_below HD.out.2.2.2.2.2 (below_alloc (Below.refl _ _) _))).mono ?_
          rintro e w1 ⟨rfl, hb1⟩
          have HT1 := Aside0.mk (HT.out.step (below_step (below_alloc (Below.refl _ _) _) hb1))
          clear hb1 HT
          have qz : ¬ (9223372036854775807 < 1 + (valT X).length) := by have := HD.out.2.2.2.1; omega
          go_wp2_with fail
          refine (TV.write HT1.out _ (by simp only [ByteArray.size_append]; have h1 := HD.out.2.2.1; have h2 := HD.out.2.2.2.1; simp only [ByteArray.size, List.size_toArray, Array.size, List.length_cons, List.length_nil]; omega)).mono ?_
          rintro e w2 ⟨rfl, HT2⟩
          have HT3 : Aside0 (TV w w2 #[.int .i64 4, .int .i64 xn, .string xs, .slice (some ad) xl.length c] (valTs (xl.take (i + 1)))) := by
            rw [HD.out.2.1]
            rw [cat_data] at HT2
            exact ⟨HT2⟩
          clear HT2 HT1
          go_wp2
          go_roundw
          case rel => exact ⟨i + 1, by omega, by go_num, HT3⟩
          case measure => simp [intOf]; omega
        · have hie : i = xl.length := by omega
          subst hie
          have HT2 := HT.out
          rw [List.take_of_length_le (Nat.le_refl _)] at HT2
          have HT0 := Aside0.mk HT2
          clear HT2 HT
          have q1 : ¬ (9223372036854775807 < 1 + xs.size) := by have := HZ.out.1; omega
          have q2 : ¬ (9223372036854775807 < 1 + xs.size + (valTs xl).length) := by have := HZ.out; omega
          have q3 : ¬ (9223372036854775807 < 1 + xs.size + (valTs xl).length + 1) := by have := HZ.out; omega
          have HT := Aside0.mk (HT0.out.step (below_drew (Below.refl _ _)))
          have f0 : wr.drew.cell? ⟨w.heap.size, 2, none⟩ = some (.string xs) := cellH HT.out.box rfl
          go_wp2
          refine start_ (n := 7) (S := fun w' => w'.cell? ⟨w.heap.size, 2, none⟩ = some (.string xs)) (ds := []) #[false, false, false, false, false, false, false] (by kernel_rfl) rfl rfl (f0) (fun hHeld => ?_)
          refine pure_ (i := 0) (N := some 34) (v := ?_) (a' := ?_) #[true, false, false, false, false, false, false] rfl rfl (by kernel_rfl) (fun _ _ _ h => h) (Or.inl ⟨by rfl, ?_⟩) ?_ ?_
          rotate_left
          · intro w'
            go_simp
            with_reducible rfl
          rotate_left
          · simp only [Act.put, List.setIfInBounds_toArray, List.set_cons_zero, List.set_cons_succ, i64_w, i32_w]
            rfl
          refine take_ (i := 1) (N := some 35) (v := ?_) (a' := ?_) #[true, true, false, false, false, false, false] rfl rfl (by kernel_rfl) (fun _ _ _ h => h) (Or.inl ⟨by rfl, ?_⟩) hHeld ?_ ?_
          rotate_left
          · intro w' s0
            go_simp
            with_reducible rfl
          rotate_left
          · simp only [Act.put, List.setIfInBounds_toArray, List.set_cons_zero, List.set_cons_succ, i64_w, i32_w]
            rfl
          refine pure_ (i := 2) (N := some 36) (v := ?_) (a' := ?_) #[true, true, true, false, false, false, false] rfl rfl (by kernel_rfl) (fun _ _ _ h => h) (Or.inl ⟨by rfl, ?_⟩) ?_ ?_
          rotate_left
          · intro w'
            go_simp
            with_reducible rfl
          rotate_left
          · simp only [Act.put, List.setIfInBounds_toArray, List.set_cons_zero, List.set_cons_succ, i64_w, i32_w]
            rfl
          refine one_ (i := 3) (N := some 37) #[true, true, true, true, false, false, false] rfl rfl (by kernel_rfl) (by decide) (fun K hK => ?_)
          refine goes_ Tryz.func33 (by kernel_rfl) rfl #[.pointer (some ⟨w.heap.size + 1, 0, none⟩)] (by rfl) rfl rfl (by simp only [List.map_toArray, List.map_cons, List.map_nil]; rfl) ?_
          with_reducible refine (Tryz.Builder_String_any (w.heap.size + 1) (w.heap.size + 1) (valTs xl) _ HT.out.bld (TV.lt HT.out)).mono ?_
          rintro e u1 ⟨rfl, hb1⟩
          have HZ := Aside0.mk (HT.out.below.trans (hb1.mono (Nat.le_succ _)))
          refine ⟨_, rfl, ?_⟩
          refine hK.out _ _ ((hb1.cell (Nat.lt_succ_self _)).trans hHeld) (fun hHeld => ?_)
          clear hK K
          refine norm_ (a' := ?_) ?_ ?_
          rotate_left
          · show Act.put _ (some 37) _ = _
            simp only [Act.put, List.setIfInBounds_toArray, List.set_cons_zero, List.set_cons_succ, i64_w, i32_w]
            rfl
          refine pure_ (i := 4) (N := some 38) (v := ?_) (a' := ?_) #[true, true, true, true, true, false, false] rfl rfl (by kernel_rfl) (fun _ _ _ h => h) (Or.inl ⟨by rfl, ?_⟩) ?_ ?_
          rotate_left
          · intro w'
            go_simp
            with_reducible rfl
          rotate_left
          · simp only [Act.put, List.setIfInBounds_toArray, List.set_cons_zero, List.set_cons_succ, i64_w, i32_w]
            rfl
          refine pure_ (i := 5) (N := some 39) (v := ?_) (a' := ?_) #[true, true, true, true, true, true, false] rfl rfl (by kernel_rfl) (fun _ _ _ h => h) (Or.inl ⟨by rfl, ?_⟩) ?_ ?_
          rotate_left
          · intro w'
            go_simp
            with_reducible rfl
          rotate_left
          · simp only [Act.put, List.setIfInBounds_toArray, List.set_cons_zero, List.set_cons_succ, i64_w, i32_w]
            rfl
          refine pure_ (i := 6) (N := some 2) (v := ?_) (a' := ?_) #[true, true, true, true, true, true, true] rfl rfl (by kernel_rfl) (fun _ _ _ h => h) (Or.inl ⟨by rfl, ?_⟩) ?_ ?_
          rotate_left
          · intro w'
            go_simp
            with_reducible rfl
          rotate_left
          · simp only [Act.put, List.setIfInBounds_toArray, List.set_cons_zero, List.set_cons_succ, i64_w, i32_w]
            rfl
          refine done_ (by kernel_rfl) ?_
          go_wp2
          go_ret
          exact ⟨by rw [HW.out, ← cat4]; rfl, HZ.out⟩
  · have HW := Lib.hid (show valT ⟨xk, xn, xs, xl⟩ = [] by
      simp only [beq_eq_false_iff_ne] at hno
      rw [HV.out]
      simp [hno])
    obtain ⟨g1, g2, g3, g4, g5, g6, g7, g8⟩ := hno
    go_enter Tryz.func51, Tryz.ntmps51
    go_wp2
    go_ret
    exact ⟨by rw [HW.out]; rfl, HB1.out _⟩

theorem text_all : ∀ (n : Nat) (x : Vl), vdepth x ≤ n → wfV x → szV x ≤ 4000000 → TextAt x := by
  intro n
  induction n with
  | zero => intro x h; rw [vdepth_eq] at h; omega
  | succ n ih => exact fun x h hw hs => text_val n x h hw hs ih
end Go.Proofs.YtkfbhfmddmhiaaaGreatDoor.TJ
namespace Go.Proofs.YtkfbhfmddmhiaaaGreatDoor.TJ
open Go.RowKit Go.Proofs.YtkfbhfmddmhiaaaGreatDoorW.PrintWords Go.Proofs.YtkfbhfmddmhiaaaGreatDoorW.PrintLast Go.Proofs.YtkfbhfmddmhiaaaGreatDoor.PT Go.Proofs.YtkfbhfmddmhiaaaGreatDoor.IMaps
set_option linter.unusedVariables false
set_option linter.unusedSimpArgs false

def repT (s : List UInt8) : List UInt8 := Lib.replaceAll s [32] [95]
def accT (m : UInt8) (a : Ac) : List UInt8 := [32, m] ++ Lib.itoa a.f0 ++ [61] ++ repT (valT a.f1)

theorem replaceK_len (k : Nat) : ∀ s : List UInt8, (Lib.replaceK [32] [95] k s).length ≤ s.length + k := by
  induction k with
  | zero => intro s; simp [Lib.replaceK]
  | succ k ih =>
    intro s
    simp only [Lib.replaceK]
    split
    · omega
    · have := ih (s.drop ((Lib.index s [32]).toNat + [(32 : UInt8)].length))
      simp only [List.length_append, List.length_take, List.length_drop, List.length_cons, List.length_nil] at this ⊢
      omega
theorem repT_len (s : List UInt8) : (repT s).length ≤ 2 * s.length + 1 := by
  unfold repT Lib.replaceAll Lib.replace
  split
  · omega
  · have h1 := replaceK_len (Lib.replaceNum s [32] (-1)) s
    have h2 : Lib.replaceNum s [32] (-1) ≤ s.length + 1 := by
      unfold Lib.replaceNum
      rw [if_pos (.inl (by decide))]
      exact Lib.count_le s [32]
    omega

def wfA (a : Ac) : Prop := (-9223372036854775808 ≤ a.f0 ∧ a.f0 ≤ 9223372036854775807) ∧ wfV a.f1
def szA (a : Ac) : Nat := szV a.f1 + 1
theorem accT_len (m : UInt8) (a : Ac) (h : wfA a) : (accT m a).length ≤ 100 * szA a := by
  have h1 := valT_len _ a.f1 (Nat.le_refl _) h.2
  have h2 := Lib.itoa_length_le a.f0 h.1.1 h.1.2
  have h3 := repT_len (valT a.f1)
  unfold accT szA
  simp only [List.length_append, List.length_cons, List.length_nil]
  omega

def MaxL (w : World) : Prop := ∃ m, w.cell? ⟨1, 0, none⟩ = some (.int .i64 m)

theorem cat5 (m : UInt8) (p q : List UInt8) : (⟨#[32]⟩ ++ ⟨#[m]⟩ ++ ⟨p.toArray⟩ ++ ⟨#[61]⟩ ++ ⟨q.toArray⟩ : ByteArray) = ⟨([32, m] ++ p ++ [61] ++ q).toArray⟩ := by
  refine ByteArray.ext ?_
  apply Array.toList_inj.1
  simp [ByteArray.data_append]

set_option maxRecDepth 100000 in
set_option maxHeartbeats 8000000 in
theorem access_at (w : World) (a : Ac) (hT : Tens w) (hM : MaxL w) (hw : wfA a) (hs : szA a ≤ 4000000) : AccAt w accT a := by
  intro W m A c hm hWb hc hC
  have hsv : szV a.f1 ≤ 4000000 := by unfold szA at hs; omega
  have hvl := valT_len _ a.f1 (Nat.le_refl _) hw.2
  have hil := Lib.itoa_length_le a.f0 hw.1.1 hw.1.2
  have hrl := repT_len (valT a.f1)
  have HI := Lib.hid (fun U (hb : Below W.heap.size W U) => itoa_calls a.f0 hw.1 U ((hT.below hWb).below hb))
  have HT := Lib.hid (fun U (hb : Below W.heap.size W U) => text_all _ a.f1 (Nat.le_refl _) hw.2 hsv U A c ((hT.below hWb).below hb) hc (Kd.C_below hC hb))
  obtain ⟨mm, hmm⟩ := hM
  have HR := Lib.hid (fun U (hb : Below W.heap.size W U) => Tryz.strings_ReplaceAll ⟨(valT a.f1).toArray⟩ ⟨#[32]⟩ ⟨#[95]⟩ mm U (by simp only [ByteArray.size, List.size_toArray]; omega) (pw_cell_below hb (pw_cell_below hWb hmm)) (by decide) (by
    have h2 : Lib.countB ⟨(valT a.f1).toArray⟩ ⟨#[32]⟩ ≤ (valT a.f1).length + 1 := Nat.le_trans (Lib.countB_le ⟨#[32]⟩ (by decide) _ ⟨(valT a.f1).toArray⟩ (Nat.le_refl _)) (Nat.le_succ _)
    have h3 : (⟨#[95]⟩ : ByteArray).size = 1 := rfl
    rw [h3, Nat.mul_one]
    simp only [ByteArray.size, List.size_toArray]
    omega))
  have HV := Lib.hid (show accT m a = [32, m] ++ Lib.itoa a.f0 ++ [61] ++ repT (valT a.f1) from rfl)
  have hx : (W.alloc (.cells #[.int .i64 a.f0, .int .i64 a.f1.f0, .int .i64 a.f1.f1, .string a.f1.f2, .slice A a.f1.f3.length c] 51)).heap[W.heap.size]? = some (.cells #[.int .i64 a.f0, .int .i64 a.f1.f0, .int .i64 a.f1.f1, .string a.f1.f2, .slice A a.f1.f3.length c] 51 (0, 0)) := (MapKept.heap_alloc W _).1
  have f0 : (W.alloc (.cells #[.int .i64 a.f0, .int .i64 a.f1.f0, .int .i64 a.f1.f1, .string a.f1.f2, .slice A a.f1.f3.length c] 51)).drew.cell? ⟨W.heap.size, 0, none⟩ = some (.int .i64 a.f0) := cellH hx rfl
  have f1 : (W.alloc (.cells #[.int .i64 a.f0, .int .i64 a.f1.f0, .int .i64 a.f1.f1, .string a.f1.f2, .slice A a.f1.f3.length c] 51)).drew.cell? ⟨W.heap.size, 1, none⟩ = some (.int .i64 a.f1.f0) := cellH hx rfl
  have f2 : (W.alloc (.cells #[.int .i64 a.f0, .int .i64 a.f1.f0, .int .i64 a.f1.f1, .string a.f1.f2, .slice A a.f1.f3.length c] 51)).drew.cell? ⟨W.heap.size, 2, none⟩ = some (.int .i64 a.f1.f1) := cellH hx rfl
  have f3 : (W.alloc (.cells #[.int .i64 a.f0, .int .i64 a.f1.f0, .int .i64 a.f1.f1, .string a.f1.f2, .slice A a.f1.f3.length c] 51)).drew.cell? ⟨W.heap.size, 3, none⟩ = some (.string a.f1.f2) := cellH hx rfl
  have f4 : (W.alloc (.cells #[.int .i64 a.f0, .int .i64 a.f1.f0, .int .i64 a.f1.f1, .string a.f1.f2, .slice A a.f1.f3.length c] 51)).drew.cell? ⟨W.heap.size, 4, none⟩ = some (.slice A a.f1.f3.length c) := cellH hx rfl
  have HB : Aside0 (Below W.heap.size W (W.alloc (.cells #[.int .i64 a.f0, .int .i64 a.f1.f0, .int .i64 a.f1.f1, .string a.f1.f2, .slice A a.f1.f3.length c] 51)).drew) := ⟨below_drew (below_alloc (Below.refl _ _) _)⟩
  have q2 : ¬ (9223372036854775807 < 1 + 1 + (Lib.itoa a.f0).length) := by omega
  have q2' : ¬ (9223372036854775807 < 2 + (Lib.itoa a.f0).length) := by omega
  have q3 : ¬ (9223372036854775807 < 1 + 1 + (Lib.itoa a.f0).length + 1) := by omega
  have q3' : ¬ (9223372036854775807 < 2 + (Lib.itoa a.f0).length + 1) := by omega
  have q4' : ¬ (9223372036854775807 < 2 + (Lib.itoa a.f0).length + 1 + (Lib.replaceAll (valT a.f1) [32] [95]).length) := by unfold repT at hrl; omega
  have HQ : Hid (repT (valT a.f1) = Lib.replaceAll (valT a.f1) [32] [95]) := Lib.hid rfl
  clear hx hc hC hs hsv hvl hil hrl hmm hWb hT hw
  obtain ⟨at_, ⟨ak, an, as_, al⟩⟩ := a
  dsimp only at *
  go_enter Tryz.func32, Tryz.ntmps32
  go_wp2
  refine start_ (n := 13) (S := fun w' => w'.cell? ⟨W.heap.size, 0, none⟩ = some (.int .i64 at_) ∧ w'.cell? ⟨W.heap.size, 1, none⟩ = some (.int .i64 ak) ∧ w'.cell? ⟨W.heap.size, 2, none⟩ = some (.int .i64 an) ∧ w'.cell? ⟨W.heap.size, 3, none⟩ = some (.string as_) ∧ w'.cell? ⟨W.heap.size, 4, none⟩ = some (.slice A al.length c) ∧ Aside0 (Below W.heap.size W w')) (ds := []) #[false, false, false, false, false, false, false, false, false, false, false, false, false] (by kernel_rfl) rfl rfl ⟨f0, f1, f2, f3, f4, HB⟩ (fun hHeld => ?_)
  refine pure_ (i := 0) (N := some 5) (v := ?_) (a' := ?_) #[true, false, false, false, false, false, false, false, false, false, false, false, false] rfl rfl (by kernel_rfl) (fun _ _ _ h => h) (Or.inl ⟨by rfl, ?_⟩) ?_ ?_
  rotate_left
  · intro w'
    go_simp
    with_reducible rfl
  rotate_left
  · simp only [Act.put, List.setIfInBounds_toArray, List.set_cons_zero, List.set_cons_succ, i64_w, i32_w]
    rfl
  refine pure_ (i := 1) (N := some 6) (v := ?_) (a' := ?_) #[true, true, false, false, false, false, false, false, false, false, false, false, false] rfl rfl (by kernel_rfl) (fun _ _ _ h => h) (Or.inl ⟨by rfl, ?_⟩) ?_ ?_
  rotate_left
  · intro w'
    go_simp
    with_reducible rfl
  rotate_left
  · simp only [Act.put, List.setIfInBounds_toArray, List.set_cons_zero, List.set_cons_succ, i64_w, i32_w]
    rfl
  refine pure_ (i := 2) (N := some 7) (v := ?_) (a' := ?_) #[true, true, true, false, false, false, false, false, false, false, false, false, false] rfl rfl (by kernel_rfl) (fun _ _ _ h => h) (Or.inl ⟨by rfl, ?_⟩) ?_ ?_
  rotate_left
  · intro w'
    go_simp
    with_reducible rfl
  rotate_left
  · simp only [Act.put, List.setIfInBounds_toArray, List.set_cons_zero, List.set_cons_succ, i64_w, i32_w]
    rfl
  refine pure_ (i := 7) (N := some 12) (v := ?_) (a' := ?_) #[true, true, true, false, false, false, false, true, false, false, false, false, false] rfl rfl (by kernel_rfl) (fun _ _ _ h => h) (Or.inl ⟨by rfl, ?_⟩) ?_ ?_
  rotate_left
  · intro w'
    go_simp
    with_reducible rfl
  rotate_left
  · simp only [Act.put, List.setIfInBounds_toArray, List.set_cons_zero, List.set_cons_succ, i64_w, i32_w]
    rfl
  refine take_ (i := 3) (N := some 8) (v := ?_) (a' := ?_) #[true, true, true, true, false, false, false, true, false, false, false, false, false] rfl rfl (by kernel_rfl) (fun _ _ _ h => h) (Or.inl ⟨by rfl, ?_⟩) hHeld ?_ ?_
  rotate_left
  · rintro w' ⟨s0, s1, s2, s3, s4, s5⟩
    go_simp
    with_reducible rfl
  rotate_left
  · simp only [Act.put, List.setIfInBounds_toArray, List.set_cons_zero, List.set_cons_succ, i64_w, i32_w]
    rfl
  refine take_ (i := 8) (N := some 13) (v := ?_) (a' := ?_) #[true, true, true, true, false, false, false, true, true, false, false, false, false] rfl rfl (by kernel_rfl) (fun _ _ _ h => h) (Or.inl ⟨by rfl, ?_⟩) hHeld ?_ ?_
  rotate_left
  · rintro w' ⟨s0, s1, s2, s3, s4, s5⟩
    go_simp
    with_reducible rfl
  rotate_left
  · simp only [Act.put, List.setIfInBounds_toArray, List.set_cons_zero, List.set_cons_succ, i64_w, i32_w]
    rfl
  refine one_ (i := 4) (N := some 9) #[true, true, true, true, true, false, false, true, true, false, false, false, false] rfl rfl (by kernel_rfl) (by decide) (fun K hK => ?_)
  refine goes_ Tryz.func31 (by kernel_rfl) rfl #[.int .i64 at_] (by rfl) rfl rfl (by simp only [List.map_toArray, List.map_cons, List.map_nil]; rfl) ?_
  with_reducible refine (HI.out _ hHeld.2.2.2.2.2.out).mono ?_
  rintro e u1 ⟨rfl, hb1⟩
  refine ⟨_, rfl, ?_⟩
  refine hK.out _ _ ⟨pw_cell_below hb1 hHeld.1, pw_cell_below hb1 hHeld.2.1, pw_cell_below hb1 hHeld.2.2.1, pw_cell_below hb1 hHeld.2.2.2.1, pw_cell_below hb1 hHeld.2.2.2.2.1, ⟨below_step hHeld.2.2.2.2.2.out hb1⟩⟩ (fun hHeld => ?_)
  clear hK K
  refine norm_ (a' := ?_) ?_ ?_
  rotate_left
  · show Act.put _ (some 9) _ = _
    simp only [Act.put, List.setIfInBounds_toArray, List.set_cons_zero, List.set_cons_succ, i64_w, i32_w]
    rfl
  refine pure_ (i := 5) (N := some 10) (v := ?_) (a' := ?_) #[true, true, true, true, true, true, false, true, true, false, false, false, false] rfl rfl (by kernel_rfl) (fun _ _ _ h => h) (Or.inl ⟨by rfl, ?_⟩) ?_ ?_
  rotate_left
  · intro w'
    go_simp
    with_reducible rfl
  rotate_left
  · simp only [Act.put, List.setIfInBounds_toArray, List.set_cons_zero, List.set_cons_succ, i64_w, i32_w]
    rfl
  refine pure_ (i := 6) (N := some 11) (v := ?_) (a' := ?_) #[true, true, true, true, true, true, true, true, true, false, false, false, false] rfl rfl (by kernel_rfl) (fun _ _ _ h => h) (Or.inl ⟨by rfl, ?_⟩) ?_ ?_
  rotate_left
  · intro w'
    go_simp
    with_reducible rfl
  rotate_left
  · simp only [Act.put, List.setIfInBounds_toArray, List.set_cons_zero, List.set_cons_succ, i64_w, i32_w]
    rfl
  refine one_ (i := 9) (N := some 14) #[true, true, true, true, true, true, true, true, true, true, false, false, false] rfl rfl (by kernel_rfl) (by decide) (fun K hK => ?_)
  refine goes_ Tryz.func51 (by kernel_rfl) rfl #[.agg #[.int .i64 ak, .int .i64 an, .string as_, .slice A al.length c]] (by rfl) rfl rfl (by simp only [List.map_toArray, List.map_cons, List.map_nil]; rfl) ?_
  with_reducible refine (HT.out _ hHeld.2.2.2.2.2.out).mono ?_
  rintro e u2 ⟨rfl, hb2⟩
  refine ⟨_, rfl, ?_⟩
  refine hK.out _ _ ⟨pw_cell_below hb2 hHeld.1, pw_cell_below hb2 hHeld.2.1, pw_cell_below hb2 hHeld.2.2.1, pw_cell_below hb2 hHeld.2.2.2.1, pw_cell_below hb2 hHeld.2.2.2.2.1, ⟨below_step hHeld.2.2.2.2.2.out hb2⟩⟩ (fun hHeld => ?_)
  clear hK K
  refine norm_ (a' := ?_) ?_ ?_
  rotate_left
  · show Act.put _ (some 14) _ = _
    simp only [Act.put, List.setIfInBounds_toArray, List.set_cons_zero, List.set_cons_succ, i64_w, i32_w]
    rfl
  refine one_ (i := 10) (N := some 15) #[true, true, true, true, true, true, true, true, true, true, true, false, false] rfl rfl (by kernel_rfl) (by decide) (fun K hK => ?_)
  refine goes_ Tryz.func50 (by kernel_rfl) rfl #[.string ⟨(valT ⟨ak, an, as_, al⟩).toArray⟩, .string ⟨#[32]⟩, .string ⟨#[95]⟩] (by rfl) rfl rfl (by simp only [List.map_toArray, List.map_cons, List.map_nil]; rfl) ?_
  with_reducible refine (HR.out _ hHeld.2.2.2.2.2.out).mono ?_
  rintro e u3 ⟨rfl, hb3⟩
  refine ⟨_, rfl, ?_⟩
  refine hK.out _ _ ⟨pw_cell_below hb3 hHeld.1, pw_cell_below hb3 hHeld.2.1, pw_cell_below hb3 hHeld.2.2.1, pw_cell_below hb3 hHeld.2.2.2.1, pw_cell_below hb3 hHeld.2.2.2.2.1, ⟨below_step hHeld.2.2.2.2.2.out hb3⟩⟩ (fun hHeld => ?_)
  clear hK K
  refine norm_ (a' := ?_) ?_ ?_
  rotate_left
  · show Act.put _ (some 15) _ = _
    simp only [Act.put, List.setIfInBounds_toArray, List.set_cons_zero, List.set_cons_succ, i64_w, i32_w]
    rfl
  refine pure_ (i := 11) (N := some 16) (v := ?_) (a' := ?_) #[true, true, true, true, true, true, true, true, true, true, true, true, false] rfl rfl (by kernel_rfl) (fun _ _ _ h => h) (Or.inl ⟨by rfl, ?_⟩) ?_ ?_
  rotate_left
  · intro w'
    go_simp
    with_reducible rfl
  rotate_left
  · simp only [Act.put, List.setIfInBounds_toArray, List.set_cons_zero, List.set_cons_succ, i64_w, i32_w]
    rfl
  refine pure_ (i := 12) (N := some 4) (v := ?_) (a' := ?_) #[true, true, true, true, true, true, true, true, true, true, true, true, true] rfl rfl (by kernel_rfl) (fun _ _ _ h => h) (Or.inl ⟨by rfl, ?_⟩) ?_ ?_
  rotate_left
  · intro w'
    go_simp
    with_reducible rfl
  rotate_left
  · simp only [Act.put, List.setIfInBounds_toArray, List.set_cons_zero, List.set_cons_succ, i64_w, i32_w]
    rfl
  refine done_ (by kernel_rfl) ?_
  go_wp2
  go_ret
  exact ⟨by rw [HV.out, ← cat5]; rfl, hHeld.2.2.2.2.2.out⟩
end Go.Proofs.YtkfbhfmddmhiaaaGreatDoor.TJ
