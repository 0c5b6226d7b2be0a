/- The law TraceTells: the Go function answers true for every trace and number. Conditions: the trace lies in memory, its numbers are of 64 bits, it is not too large; the powers of ten lie where the program lays them. -/
import Derived.Test.YtkfbhfmddmhiaaaGreatDoorSHI
import Derived.Test.YtkfbhfmddmhiaaaGreatDoorRU
import Derived.Test.YtkfbhfmddmhiaaaGreatDoorRV
import Derived.Test.YtkfbhfmddmhiaaaGreatDoorSAF
import Derived.Test.YtkfbhfmddmhiaaaGreatDoorPP
namespace Go.Proofs.YtkfbhfmddmhiaaaGreatDoor.TJ
open Go.RowKit Go.Proofs.YtkfbhfmddmhiaaaGreatDoorW.PrintWords Go.Proofs.YtkfbhfmddmhiaaaGreatDoorW.PrintLast Go.Proofs.YtkfbhfmddmhiaaaGreatDoor.PT Go.Proofs.YtkfbhfmddmhiaaaGreatDoor.IMaps
set_option linter.unusedVariables false
set_option linter.unusedSimpArgs false

theorem tsum_calls (l : List Ev) (hw : ∀ x ∈ l, wfE x) (hs : szL l ≤ 4000000) (r : Int) (k : Nat) (hk : code_Sum.f k ⟨(textT accT l).toArray⟩ = some r) (w : World) (hT : Tens w) (hM : MaxL w) (A : Option Addr) (c : Nat) (hc : l.length ≤ c) (C1 : kEv.C w A l.length l) :
    Calls Tryz.prog 9 #[.slice A l.length c] w fun e w' => e = .returned (.int .i64 r) ∧ Below w.heap.size w w' := by
  have HX := Lib.hid (text_full l hw hs w hT hM A c hc C1)
  have HC := Lib.hid (fun W => code_Sum.calls k ⟨(textT accT l).toArray⟩ r W hk)
  clear hw hs hT hM hc C1 hk
  generalize textT accT l = t at *
  go_enter Tryz.func9, Tryz.ntmps9
  go_wp2_with fail
  refine HX.out.mono ?_
  rintro e w1 ⟨rfl, hb1⟩
  have HB1 := Aside0.mk hb1
  clear hb1
  go_wp2_with fail
  refine (HC.out _).mono ?_
  rintro e w2 ⟨rfl, hb2⟩
  have HB2 := Aside0.mk (below_step HB1.out hb2.below)
  clear hb2
  go_wp2
  go_ret
  exact ⟨rfl, HB2.out⟩

set_option maxRecDepth 100000 in
set_option maxHeartbeats 16000000 in
theorem tells_calls (l : List Ev) (hw : ∀ x ∈ l, wfE x) (hs : szL l ≤ 4000000) (th : Int) (w : World) (hT : Tens w) (hM : MaxL w) (A : Option Addr) (c : Nat) (hc : l.length ≤ c) (C1 : kEv.C w A l.length l) :
    Calls Tryz.prog 3 #[.slice A l.length c, .int .i64 th] w fun e w' => e = .returned (.bool true) ∧ Below w.heap.size w w' := by
  obtain ⟨k0, r0, hf, hr⟩ := few_ok l
  have hll := szL_len l
  have htl := textT_len l hw
  have HF := Lib.hid (damasklaw27_few.calls k0 A c l r0 w C1 hc hf)
  have HR := Lib.hid hr
  have HA := Lib.hid (fun W (hb : Below w.heap.size w W) => (awake_calls W).mono fun e w' h => (⟨h.1, below_step hb h.2⟩ : e = .returned (.bool true) ∧ Below w.heap.size w w'))
  have HC := Lib.hid (And.intro (And.intro hw hs) (And.intro (And.intro hT hM) (And.intro hc C1)))
  clear hw hs hT hM hc C1 hf hr
  go_enter Tryz.func3, Tryz.ntmps3
  go_wp2_with fail
  refine HF.out.mono ?_
  rintro e w1 ⟨rfl, hb1⟩
  have HB1 := Aside0.mk hb1
  clear hb1 HF
  cases r0 with
  | false =>
    go_wp2_with fail
    refine (HA.out _ HB1.out).mono ?_
    rintro e w2 ⟨rfl, hb2⟩
    have HB2 := Aside0.mk hb2
    clear hb2
    go_wp2
    go_ret
    exact ⟨rfl, HB2.out⟩
  | true =>
    have hsmall := (HR.out rfl).2
    have HSm := Lib.hid hsmall
    clear HR hsmall
    have hsz := HC.out.1.2
    obtain ⟨rs, k1, k2, hk1, hk2⟩ := sum_ok ⟨(textT accT l).toArray⟩ (by rw [szL1]; omega)
    have HX1 := Lib.hid (fun W (hb : Below w.heap.size w W) => rtext_calls l HC.out.1.1 hsz W A c HC.out.2.2.1 (Kd.C_below HC.out.2.2.2 hb))
    have HX2 := Lib.hid (fun W (hb : Below w.heap.size w W) => text_full l HC.out.1.1 hsz W (HC.out.2.1.1.below hb) (HC.out.2.1.2.below hb) A c HC.out.2.2.1 (Kd.C_below HC.out.2.2.2 hb))
    have HX3 := Lib.hid (fun W (hb : Below w.heap.size w W) => tsum_calls l HC.out.1.1 hsz rs k1 hk1 W (HC.out.2.1.1.below hb) (HC.out.2.1.2.below hb) A c HC.out.2.2.1 (Kd.C_below HC.out.2.2.2 hb))
    have HX4 := Lib.hid (fun W => damaskref21_Sum.calls k2 ⟨(textT accT l).toArray⟩ rs W hk2)
    have HXo := Lib.hid (output_calls l (by omega) w A c HC.out.2.2.1 HC.out.2.2.2)
    obtain ⟨k3, hk3⟩ := rout_ok l (by omega)
    have HXp := Lib.hid (fun W (hb : Below w.heap.size w W) => damaskref27_Output.calls k3 A c l (outT l) W (Kd.C_below HC.out.2.2.2 hb) HC.out.2.2.1 hk3)
    obtain ⟨ki, hki⟩ := Ints_ok (outT l) (by have := outT_len l; omega)
    have HKi := Lib.hid hki
    have HXq := Lib.hid (of_calls l th hsz w A c HC.out.2.2.1 HC.out.2.2.2)
    clear hk1 hk2 hk3 hki
    generalize textT accT l = t at *
    generalize outT l = o3 at *
    have e1 : ((⟨t.toArray⟩ : ByteArray).toList != (⟨t.toArray⟩ : ByteArray).toList) = false := by simp
    have e2 : (rs != rs) = false := by simp
    have e3 : ((⟨t.toArray⟩ : ByteArray).toList == (⟨t.toArray⟩ : ByteArray).toList) = true := by simp
    go_wp2_with fail
    refine (HX1.out _ HB1.out).mono ?_
    rintro e w2 ⟨rfl, hb2⟩
    have HB2 := Aside0.mk (below_step HB1.out hb2)
    clear hb2 HB1 HX1
    go_wp2_with fail
    refine (HX2.out _ HB2.out).mono ?_
    rintro e w3 ⟨rfl, hb3⟩
    have HB3 := Aside0.mk (below_step HB2.out hb3)
    clear hb3 HB2 HX2
    go_wp2_with fail
    refine (HX3.out _ HB3.out).mono ?_
    rintro e w4 ⟨rfl, hb4⟩
    have HB4 := Aside0.mk (below_step HB3.out hb4)
    clear hb4 HB3 HX3
    go_wp2_with fail
    refine (HX4.out _).mono ?_
    rintro e w5 ⟨rfl, hb5⟩
    have HB5 := Aside0.mk (below_step HB4.out hb5.below)
    clear hb5 HB4 HX4
    go_wp2_with fail
    refine (HXo.out _ HB5.out).mono ?_
    rintro e w6 ⟨B1, d1, rfl, hd1, hD1, hb6⟩
    have HB6 := Aside0.mk (below_step HB5.out hb6)
    have HE1 := Lib.hid (And.intro hd1 hD1)
    clear hb6 HB5 HXo hd1 hD1
    go_wp2_with fail
    refine (HXp.out _ HB6.out).mono ?_
    rintro e w7 ⟨v7, rfl, hR7, hb7⟩
    obtain ⟨B2, d2, rfl, hd2, hD2⟩ := Kd.R_reads hR7
    have HB7 := Aside0.mk (below_step HB6.out hb7)
    have HE2 := Lib.hid (And.intro hd2 (And.intro hD2 (Kd.C_below HE1.out.2 hb7)))
    clear hb7 HB6 HXp hR7 hd2 hD2
    go_wp2_with fail
    refine (damaskref22_Ints.calls ki B1 d1 o3 B2 d2 o3 true _ HE2.out.2.2 HE1.out.1 HE2.out.2.1 HE2.out.1 HKi.out).mono ?_
    rintro e w8 ⟨rfl, hb8⟩
    have HB8 := Aside0.mk (below_step HB7.out hb8.below)
    clear hb8 HB7 HE1 HE2
    go_wp2_with fail
    refine (HXq.out _ HB8.out).mono ?_
    rintro e w9 ⟨B5, d5, rfl, hd5, hD5, hb9⟩
    have HB9 := Aside0.mk (below_step HB8.out hb9)
    have HE6 := Lib.hid (And.intro hd5 hD5)
    clear hd5 hD5 hb9 HB8 HXq
    go_wp2_with fail
    refine (refOf_calls l th (by have := szL_len l; have := HC.out.1.2; omega) _ A c HC.out.2.2.1 (Kd.C_below HC.out.2.2.2 HB9.out)).mono ?_
    rintro e wg ⟨v6, rfl, hR6, hbg⟩
    obtain ⟨B6, d6, rfl, hd6, hD6⟩ := refOf_reads hR6 hbg
    obtain ⟨k6, hk6⟩ := refS_ok (ofT th l) (ofT th l) (fitE_C hD6)
    rw [eqL_self sameE sameE_self] at hk6
    have HE7 := Lib.hid (And.intro hd6 (And.intro hD6 (And.intro hk6 (Kd.C_below HE6.out.2 hbg))))
    have HBh := Aside0.mk (below_step HB9.out hbg)
    clear hR6 hbg hd6 hD6 hk6 HB9
    go_wp2_with fail
    refine (damaskref26_Same.calls k6 B5 d5 (ofT th l) B6 d6 (ofT th l) true _ HE7.out.2.2.2 HE6.out.1 HE7.out.2.1 HE7.out.1 HE7.out.2.2.1).mono ?_
    rintro e wh ⟨rfl, hbh⟩
    have HBi := Aside0.mk (below_step HBh.out hbh)
    clear hbh HBh HE6 HE7
    have HXb := Lib.hid (fun W (hb : Below w.heap.size w W) => breaks_calls l HSm.out W A c HC.out.2.2.1 (Kd.C_below HC.out.2.2.2 hb))
    have HXr := Lib.hid (fun W (hb : Below w.heap.size w W) => rbreaks_calls l hsz W A c HC.out.2.2.1 (Kd.C_below HC.out.2.2.2 hb))
    have HXs := Lib.hid (fun W (hb : Below w.heap.size w W) => serial_calls l HSm.out hsz W A c HC.out.2.2.1 (Kd.C_below HC.out.2.2.2 hb))
    unfold SerialPost at HXs
    have HXt := Lib.hid (fun W (hb : Below w.heap.size w W) => refSerial_calls l hsz W A c HC.out.2.2.1 (Kd.C_below HC.out.2.2.2 hb))
    cases hrun : runJ js0 0 l with
    | some p =>
      rw [hrun] at HXb HXr HXs
      simp only [breaksV, BreaksR] at HXb HXr
      clear hrun
      obtain ⟨pa, pk⟩ := p
      dsimp only at HXb HXr HXs
      have n1 : ((pa : Int) != (pa : Int)) = false := by simp
      have n2 : ((pk : Int) != (pk : Int)) = false := by simp
      go_wp2_with fail
      refine (HXb.out _ HBi.out).mono ?_
      rintro e wj ⟨rfl, hbj⟩
      have HBj := Aside0.mk (below_step HBi.out hbj)
      clear hbj HBi
      go_wp2_with fail
      refine (HXr.out _ HBj.out).mono ?_
      rintro e wk ⟨rfl, hbk⟩
      have HBk := Aside0.mk (below_step HBj.out hbk)
      clear hbk HBj
      go_wp2_with fail
      refine (HXs.out _ HBk.out).mono ?_
      rintro e wl ⟨hbl, rfl⟩
      have HBl := Aside0.mk (below_step HBk.out hbl)
      clear hbl HBk
      go_wp2_with fail
      refine (HA.out _ HBl.out).mono ?_
      rintro e wm ⟨rfl, hbm⟩
      have HBm := Aside0.mk hbm
      clear hbm HBl
      go_wp2
      go_ret
      exact ⟨rfl, HBm.out⟩
    | none =>
      rw [hrun] at HXb HXr HXs
      simp only [breaksV, BreaksR] at HXb HXr
      clear hrun
      dsimp only at HXs
      go_wp2_with fail
      refine (HXb.out _ HBi.out).mono ?_
      rintro e wj ⟨rfl, hbj⟩
      have HBj := Aside0.mk (below_step HBi.out hbj)
      clear hbj HBi
      go_wp2_with fail
      refine (HXr.out _ HBj.out).mono ?_
      rintro e wk ⟨rfl, hbk⟩
      have HBk := Aside0.mk (below_step HBj.out hbk)
      clear hbk HBj
      go_wp2_with fail
      refine (HXs.out _ HBk.out).mono ?_
      rintro e wl ⟨hbl, B8, d8, rfl, hd8, hD8⟩
      have HBl := Aside0.mk (below_step HBk.out hbl)
      have HE8 := Lib.hid (And.intro hd8 hD8)
      clear hbl HBk hd8 hD8
      go_wp2_with fail
      refine (HXt.out _ HBl.out).mono ?_
      rintro e wm ⟨v9, rfl, hR9, hbm⟩
      obtain ⟨B9, d9, rfl, hd9, hD9⟩ := refSerial_reads hR9 hbm
      obtain ⟨k9, hk9⟩ := Ev.rounds (refE_ok ⟨0, 0, 0, 0, 0, serTo (lastN l) 64, []⟩ ⟨0, 0, 0, 0, 0, serTo (lastN l) 64, []⟩ (fitA_C hD9) ⟨by simp, by intro j h; simp at h⟩)
      rw [sameE_self] at hk9
      have hk10 : damaskref27_SameAccess.f k9 (serTo (lastN l) 64) (serTo (lastN l) 64) = some true := by
        unfold damaskref27_SameAccess.f
        rw [hk9]; rfl
      have HE9 := Lib.hid (And.intro hd9 (And.intro hD9 (And.intro hk10 (Kd.C_below HE8.out.2 hbm))))
      have HBm := Aside0.mk (below_step HBl.out hbm)
      clear hR9 hbm hd9 hD9 hk9 hk10 HBl
      go_wp2_with fail
      refine (damaskref27_SameAccess.calls k9 B8 d8 (serTo (lastN l) 64) B9 d9 (serTo (lastN l) 64) true _ HE9.out.2.2.2 HE8.out.1 HE9.out.2.1 HE9.out.1 HE9.out.2.2.1).mono ?_
      rintro e wn ⟨rfl, hbn⟩
      have HBn := Aside0.mk (below_step HBm.out hbn)
      clear hbn HBm
      go_wp2_with fail
      refine (HA.out _ HBn.out).mono ?_
      rintro e wo ⟨rfl, hbo⟩
      have HBo := Aside0.mk hbo
      clear hbo HBn
      go_wp2
      go_ret
      exact ⟨rfl, HBo.out⟩
end Go.Proofs.YtkfbhfmddmhiaaaGreatDoor.TJ
