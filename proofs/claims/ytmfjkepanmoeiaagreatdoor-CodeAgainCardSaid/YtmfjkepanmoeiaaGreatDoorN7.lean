/- The Go function code.add: blocks and globals; every line. Conditions: the code lies in memory; the line is not too long; the listed variables are laid. -/
import Derived.Test.YtmfjkepanmoeiaaGreatDoorN6
namespace Go.Proofs.YtmfjkepanmoeiaaGreatDoor.CJ
open Go.RowKit Go.Proofs.YtmfjkepanmoeiaaGreatDoorW.PrintWords Go.Proofs.YtmfjkepanmoeiaaGreatDoorW.PrintLast Go.Proofs.YtmfjkepanmoeiaaGreatDoor.PT Go.Proofs.YtmfjkepanmoeiaaGreatDoor.IMaps Go.Proofs.YtmfjkepanmoeiaaGreatDoor.TJ
set_option linter.unusedVariables false
set_option linter.unusedSimpArgs false
theorem lineT_more (c : St) (h a b x : List UInt8) (r : Pts) : lineT c (h :: a :: b :: x :: r) = none := rfl
theorem lineT_other (c : St) (h : List UInt8) (r : Pts) (h1 : (h == [98, 108, 111, 99, 107]) = false) (h2 : (h == [103, 108, 111, 98, 97, 108]) = false) : lineT c (h :: r) = none := by
 have n1 : ¬ h = [98, 108, 111, 99, 107] := fun e => by rw [e] at h1; simp at h1
 have n2 : ¬ h = [103, 108, 111, 98, 97, 108] := fun e => by rw [e] at h2; simp at h2
 unfold lineT
 split
 ·rename_i hh a b heq
  injection heq with heq _
  subst heq
  rw [if_neg n1, if_neg n2]
 ·rfl
theorem sumN_none {r : Pts} {c : St} (h : intS r = none) (H : List UInt8) (hH : H = [98, 108, 111, 99, 107]) : lineT c (H :: r) = none := by
 subst hH
 unfold lineT
 split
 ·rename_i hh a b heq
  injection heq with h1 h2
  subst h1 h2
  rw [if_pos rfl]
  unfold intS at h
  rw [partS_cons] at h
  have : numT a = none := by
   cases hn : numT a with
   | none => rfl
   | some v => rw [hn] at h; cases h
  rw [this]
 ·rfl
theorem sumN_none2 {r : Pts} {c : St} {a : List UInt8} {f0 : Int} (ha : numT a = some f0) (h : intS r = none) (H : List UInt8) (hH : H = [98, 108, 111, 99, 107]) : lineT c (H :: a :: r) = none := by
 subst hH
 unfold lineT
 split
 ·rename_i hh a' b heq
  injection heq with h1 h2
  injection h2 with h2 h3
  subst h1 h2 h3
  rw [if_pos rfl]
  unfold intS at h
  rw [partS_cons] at h
  have : numT b = none := by
   cases hn : numT b with
   | none => rfl
   | some v => rw [hn] at h; cases h
  rw [ha, this]
 ·rfl
theorem sumN_glob {r : Pts} {c : St} {a : List UInt8} (h : intS r = none) : lineT c ([103, 108, 111, 98, 97, 108] :: a :: r) = none := by
 unfold lineT
 split
 ·rename_i hh a' b heq
  injection heq with h1 h2
  injection h2 with h2 h3
  subst h1 h2 h3
  rw [if_neg (by decide), if_pos rfl]
  unfold intS at h
  rw [partS_cons] at h
  have : numT b = none := by
   cases hn : numT b with
   | none => rfl
   | some v => rw [hn] at h; cases h
  rw [this]
 ·rfl
theorem intS_cons {r r2 : Pts} {f : Int} (h : intS r = some (f, r2)) : ∃ a, r = a :: r2 ∧ numT a = some f := by
 unfold intS at h
 cases r with
 | nil => cases h
 | cons a q =>
  rw [partS_cons] at h
  cases hn : numT a with
  | none => rw [hn] at h; cases h
  | some v =>
   rw [hn] at h
   simp only [Option.map_some, Option.some.injEq, Prod.mk.injEq] at h
   obtain ⟨rfl, rfl⟩ := h
   exact ⟨a, rfl, hn⟩
set_option maxRecDepth 100000 in
set_option maxHeartbeats 16000000 in
theorem addln_calls (w : World) (B p : Nat) (bs : List GBk) (gl : List GGl) (l : List UInt8) (hG : GC w B p bs gl) (w0 : World) (hR0 : RW w0) (hb0 : Below w0.heap.size w0 w) (hB0 : w0.heap.size ≤ B) (hl : l.length ≤ 1000000) (hbn : bs.length ≤ 1000000) (hgn : gl.length ≤ 1000000) (hpre : Lib.hasPrefix l [32, 32] = false) :
 Calls Tryz.prog 40 #[.pointer (some ⟨p, 0, none⟩), .string ⟨l.toArray⟩] w (AdPost w B p (addT (bs, gl) l)) := by
 obtain ⟨F, hF⟩ : ∃ F, F = addT (bs, gl) l := ⟨_, rfl⟩
 rw [← hF]
 obtain ⟨vA, vB, hG⟩ := hG
 have hBw := hG.size
 have HBw := Lib.hid hBw
 have hF2 : Hid (F = lineT (bs, gl) (spl 32 l)) := Lib.hid (by rw [hF]; unfold addT; rw [hpre]; rfl)
 have HCP := Lib.hid (Tryz.strings_CutPrefix ⟨l.toArray⟩ ⟨#[32, 32]⟩ w)
 have hcut := pre_none l hpre
 have HCP := Lib.hid (by have := HCP.out; simp only [hcut, hpre] at this; exact this)
 have HSP := Lib.hid (split_calls 32 l w hl (hR0.below hb0))
 have hAW := spl_sd (w := w) (l := l) hl 32
 generalize spl 32 l = ps at *
 have HG0 := Aside0.mk hG
 have HR0 := Lib.hid hR0
 have Hb0 := Aside0.mk hb0
 have HAW := Aside0.mk hAW
 clear hF hAW hcut hR0 hb0 hpre hG
 go_enter Tryz.func40, Tryz.ntmps40
 go_wp2_with fail
 refine HCP.out.mono ?_
 rintro e w1 ⟨rfl, rfl⟩
 go_wp2_with fail
 refine HSP.out.mono ?_
 rintro e w2 ⟨rfl, rfl⟩
 clear HCP HSP
 obtain ⟨w, rfl⟩ : ∃ w : World, w = w1 := ⟨_, rfl⟩
 go_wp2_with fail
 generalize (w.alloc (.cells (ps.map strW).toArray 9)).alloc (.cells #[.slice (some ⟨w.heap.size, 0, none⟩) ps.length ps.length] 133) = W at *
 generalize w.heap.size + 1 = q at *
 have hc := snext_calls W q ps HAW.out.sd
 cases ps with
 | nil =>
  have HE : Hid (F = none) := Lib.hid (hF2.out.trans rfl)
  refine hc.mono ?_
  rintro e wz ⟨rfl, hT⟩
  have HZ := Aside0.mk (HAW.out.low.trans (hT.below HAW.out.nq HAW.out.low.size))
  clear hT
  go_wp2
  exact ⟨rfl, by rw [HE.out]; exact ⟨rfl, low_keep HZ.out HBw.out⟩⟩
 | cons hd r1 =>
  refine hc.mono ?_
  rintro e W1 ⟨v, rfl, ⟨rfl, hhl⟩, hS, hT⟩
  have HA := Aside0.mk (HAW.out.call hS hT)
  clear hS hT hc HAW hhl
  cases hq1 : (hd == [98, 108, 111, 99, 107])
  ·cases hq2 : (hd == [103, 108, 111, 98, 97, 108])
   ·have HE : Hid (F = none) := Lib.hid (hF2.out.trans (lineT_other _ _ _ hq1 hq2))
    go_wp2_with fail
    refine (demand_false _).mono ?_
    rintro e wz ⟨rfl, rfl⟩
    go_wp2
    exact ⟨rfl, by rw [HE.out]; exact ⟨rfl, low_keep HA.out.low HBw.out⟩⟩
   ·have hhd : hd = [103, 108, 111, 98, 97, 108] := beq_iff_eq.1 hq2
    have HF : Hid (F = lineT (bs, gl) ([103, 108, 111, 98, 97, 108] :: r1)) := Lib.hid (by rw [hF2.out, hhd])
    clear hF2 hhd
    go_wp2_with fail
    have hc := snext_calls W1 q r1 HA.out.sd
    cases r1 with
    | nil =>
     have HE : Hid (F = none) := Lib.hid (HF.out.trans rfl)
     refine hc.mono ?_
     rintro e wz ⟨rfl, hT⟩
     have HZ := Aside0.mk (HA.out.low.trans (hT.below HA.out.nq HA.out.low.size))
     clear hT
     go_wp2
     exact ⟨rfl, by rw [HE.out]; exact ⟨rfl, low_keep HZ.out HBw.out⟩⟩
    | cons a r2 =>
     refine hc.mono ?_
     rintro e wy ⟨v, rfl, ⟨rfl, hal⟩, hS, hT⟩
     have hAy := HA.out.call hS hT
     have hb9 := below_alloc (Below.refl wy.heap.size wy) (.cells #[.string ⟨a.toArray⟩, .int .i64 0] 52)
     have hx9 := blk_new wy (.cells #[.string ⟨a.toArray⟩, .int .i64 0] 52)
     have HA2 : Aside0 (AW w (wy.alloc (.cells #[.string ⟨a.toArray⟩, .int .i64 0] 52)) q r2) := ⟨hAy.below hb9⟩
     have HX9 : Hid ((wy.alloc (.cells #[.string ⟨a.toArray⟩, .int .i64 0] 52)).heap[wy.heap.size]? = some (.cells #[.string ⟨a.toArray⟩, .int .i64 0] 52 (0, 0)) ∧ q ≠ wy.heap.size ∧ w.heap.size ≤ wy.heap.size) := Lib.hid ⟨hx9, by have := hAy.sd.lt; omega, hAy.low.size⟩
     clear hS hT hc HA hb9 hx9 hAy
     go_wp2_with fail
     generalize wy.alloc (.cells #[.string ⟨a.toArray⟩, .int .i64 0] 52) = W2 at *
     generalize wy.heap.size = p9 at *
     have hc := sint_calls W2 q r2 HA2.out.sd w0 HR0.out (below_step Hb0.out HA2.out.low) (Nat.le_trans hB0 (Nat.le_trans HBw.out HA2.out.nq))
     cases hn : intS r2 with
     | none =>
      rw [hn] at hc
      have HE : Hid (F = none) := Lib.hid (HF.out.trans (sumN_glob hn))
      refine hc.mono ?_
      rintro e wz ⟨rfl, hT⟩
      have HZ := Aside0.mk (HA2.out.low.trans (hT.below HA2.out.nq HA2.out.low.size))
      clear hT
      go_wp2
      exact ⟨rfl, by rw [HE.out]; exact ⟨rfl, low_keep HZ.out HBw.out⟩⟩
     | some pr =>
      obtain ⟨f1, rr⟩ := pr
      rw [hn] at hc
      obtain ⟨b, rfl, hnb⟩ := intS_cons hn
      refine hc.mono ?_
      rintro e W3 ⟨v, rfl, rfl, hS, hT⟩
      have hA3 := HA2.out.call hS hT
      have hx3 := (hT.block p9 (blk_lt HX9.out.1) (fun e => HX9.out.2.1 (by injection e with e; exact e.symm))).trans HX9.out.1
      have d1 := cellH hx3 (i := 1) rfl
      have z1 := frozenH hx3 1
      have HB4 : Aside0 (AW w (W3.setCell ⟨p9, 1, none⟩ (.int .i64 f1)) q rr) := ⟨⟨hA3.sd.set hx3 (by decide) (by decide) 1 _, hA3.low.setCell (p := ⟨p9, 1, none⟩) HX9.out.2.2 _, hA3.nq⟩⟩
      have HX4 : Hid ((W3.setCell ⟨p9, 1, none⟩ (.int .i64 f1)).heap[p9]? = some (.cells #[.string ⟨a.toArray⟩, .int .i64 f1] 52 (0, 0))) := Lib.hid (blk_set hx3 1 _)
      have d0' : (W3.setCell ⟨p9, 1, none⟩ (.int .i64 f1)).cell? ⟨p9, 0, none⟩ = some (.string ⟨a.toArray⟩) := cellH HX4.out (i := 0) rfl
      have HNM := Lib.hid (isName_calls ⟨a.toArray⟩ (by simp [maxLen, ByteArray.size]; omega))
      clear hS hT hc hn HA2 hA3 hx3 HX9
      go_wp2_with fail
      refine (HNM.out _).mono ?_
      rintro e wz ⟨rfl, rfl⟩
      generalize W3.setCell ⟨p9, 1, none⟩ (.int .i64 f1) = W4 at *
      clear d1 z1 HNM
      cases hnm : nameB a
      ·have HE : Hid (F = none) := Lib.hid (by
        rw [HF.out]
        cases rr with
        | nil => simp only [lineT]; rw [if_neg (by decide), if_pos trivial, hnb]; simp [hnm]
        | cons y ys => exact lineT_more _ _ _ _ _ _)
       simp only [hnm]
       go_wp2_with fail
       refine (demand_false _).mono ?_
       rintro e wz ⟨rfl, rfl⟩
       go_wp2
       exact ⟨rfl, by rw [HE.out]; exact ⟨rfl, low_keep HB4.out.low HBw.out⟩⟩
      ·simp only [hnm]
       go_wp2_with fail
       refine (demand_true _).mono ?_
       rintro e wz ⟨rfl, rfl⟩
       clear d0'
       have HG : Aside0 (GL W4 B p vA vB bs gl ∧ SD W4 q rr ∧ Below w.heap.size w W4) := ⟨⟨HG0.out.below HB4.out.low, HB4.out.sd, HB4.out.low⟩⟩
       have dA := cellH HG.out.1.box (i := 1) rfl
       have k0 := cellH HX4.out (i := 0) rfl
       have k1 := cellH HX4.out (i := 1) rfl
       clear HB4 HX4
       go_wp2
       refine start_ (n := 11) (S := fun w' => w'.cell? ⟨p, 1, none⟩ = some vB ∧ w'.cell? ⟨p9, 0, none⟩ = some (.string ⟨a.toArray⟩) ∧ w'.cell? ⟨p9, 1, none⟩ = some (.int .i64 f1) ∧ Aside0 (GL w' B p vA vB bs gl ∧ SD w' q rr ∧ Below w.heap.size w w')) (ds := [7, 10]) #[false, false, false, false, false, false, false, false, false, false, false] (by kernel_rfl) rfl rfl ⟨dA, k0, k1, ⟨⟨HG.out.1.below (below_drew (Below.refl _ _)), HG.out.2.1.below (below_drew (Below.refl _ _)), below_step HG.out.2.2 (below_drew (Below.refl _ _))⟩⟩⟩ (fun hHeld => ?_)
       refine pure_ (i := 0) (N := some 98) (v := ?_) (a' := ?_) #[true, false, false, false, false, false, false, false, false, false, false] rfl rfl (by kernel_rfl) (fun _ _ _ h => h) (Or.inl ⟨by rfl, ?_⟩) ?_ ?_
       rotate_left
       ·intro w'
        go_simp
        with_reducible rfl
       rotate_left
       ·simp only [Act.put, List.setIfInBounds_toArray, List.set_cons_zero, List.set_cons_succ, i64_w, i32_w]
        rfl
       refine pure_ (i := 1) (N := some 99) (v := ?_) (a' := ?_) #[true, true, false, false, false, false, false, false, false, false, false] rfl rfl (by kernel_rfl) (fun _ _ _ h => h) (Or.inl ⟨by rfl, ?_⟩) ?_ ?_
       rotate_left
       ·intro w'
        go_simp
        with_reducible rfl
       rotate_left
       ·simp only [Act.put, List.setIfInBounds_toArray, List.set_cons_zero, List.set_cons_succ, i64_w, i32_w]
        rfl
       refine pure_ (i := 2) (N := some 100) (v := ?_) (a' := ?_) #[true, true, true, false, false, false, false, false, false, false, false] rfl rfl (by kernel_rfl) (fun _ _ _ h => h) (Or.inl ⟨by rfl, ?_⟩) ?_ ?_
       rotate_left
       ·intro w'
        go_simp
        with_reducible rfl
       rotate_left
       ·simp only [Act.put, List.setIfInBounds_toArray, List.set_cons_zero, List.set_cons_succ, i64_w, i32_w]
        rfl
       refine pure_ (i := 3) (N := some 101) (v := ?_) (a' := ?_) #[true, true, true, true, false, false, false, false, false, false, false] rfl rfl (by kernel_rfl) (fun _ _ _ h => h) (Or.inl ⟨by rfl, ?_⟩) ?_ ?_
       rotate_left
       ·intro w'
        go_simp
        with_reducible rfl
       rotate_left
       ·simp only [Act.put, List.setIfInBounds_toArray, List.set_cons_zero, List.set_cons_succ, i64_w, i32_w]
        rfl
       refine take_ (i := 4) (N := some 102) (v := ?_) (a' := ?_) #[true, true, true, true, true, false, false, false, false, false, false] rfl rfl (by kernel_rfl) (fun _ _ _ h => h) (Or.inl ⟨by rfl, ?_⟩) hHeld ?_ ?_
       rotate_left
       ·rintro w' ⟨s0, s1, s2, s3⟩
        go_simp
        with_reducible rfl
       rotate_left
       ·simp only [Act.put, List.setIfInBounds_toArray, List.set_cons_zero, List.set_cons_succ, i64_w, i32_w]
        rfl
       refine take_ (i := 5) (N := some 103) (v := ?_) (a' := ?_) #[true, true, true, true, true, true, false, false, false, false, false] rfl rfl (by kernel_rfl) (fun _ _ _ h => h) (Or.inl ⟨by rfl, ?_⟩) hHeld ?_ ?_
       rotate_left
       ·rintro w' ⟨s0, s1, s2, s3⟩
        go_simp
        with_reducible rfl
       rotate_left
       ·simp only [Act.put, List.setIfInBounds_toArray, List.set_cons_zero, List.set_cons_succ, i64_w, i32_w]
        rfl
       refine one_ (i := 6) (N := some 104) #[true, true, true, true, true, true, true, false, false, false, false] rfl rfl (by kernel_rfl) (by decide) (fun K hK => ?_)
       have HPre := hHeld
       refine value_ (w1 := ?_) (v := ?_) (by rfl) rfl ?_ ?_
       rotate_left 2
       ·go_simp
        constructor
        ·rfl
        ·rfl
       refine hK.out _ _ ⟨pw_cell_below (below_alloc (Below.refl _ _) _) hHeld.1, pw_cell_below (below_alloc (Below.refl _ _) _) hHeld.2.1, pw_cell_below (below_alloc (Below.refl _ _) _) hHeld.2.2.1, ⟨⟨hHeld.2.2.2.out.1.below (below_alloc (Below.refl _ _) _), hHeld.2.2.2.out.2.1.below (below_alloc (Below.refl _ _) _), below_step hHeld.2.2.2.out.2.2 (below_alloc (Below.refl _ _) _)⟩⟩⟩ (fun hHeld => ?_)
       clear hK K
       refine norm_ (a' := ?_) ?_ ?_
       rotate_left
       ·show Act.put _ (some 104) _ = _
        simp only [Act.put, List.setIfInBounds_toArray, List.set_cons_zero, List.set_cons_succ, i64_w, i32_w]
        rfl
       refine last_ (i := 7) (N := some 105) #[true, true, true, true, true, true, true, true, false, false, false] rfl rfl (by kernel_rfl) (by decide) (fun K hK => ?_)
       refine Kd.R_append_step kGl (w0 := w) B (by kernel_rfl) _ _ 23 52 _ _ rfl Tryz.underlying23 info52 rfl (show 0 < 2 by decide) (by omega) vB gl (⟨⟨a.toArray⟩, f1⟩ : GGl) [.string ⟨a.toArray⟩, .int .i64 f1] (fun _ => True) (fun _ => False) rfl rfl (k52_mkM _ B _ (⟨⟨a.toArray⟩, f1⟩ : GGl)) (fun _ h => h.elim) (fun _ _ => trivial) HPre.2.2.2.out.1.rB (HPre.2.2.2.out.2.2.mono HBw.out) HPre.2.2.2.out.1.size (by omega) ?_
       intro v1 w5 hS5 hb5 hg5 hat5
       obtain ⟨A7, n7, c7, rfl⟩ := row_val hS5
       have hP5 := HPre.2.2.2.out.1.pushG hS5 hg5
       have hD5 := HPre.2.2.2.out.2.1.grown HPre.2.2.2.out.1.rB hg5 (by decide) (by decide)
       have hL5 := HPre.2.2.2.out.2.2
       have hx5 := blk_grown HPre.2.2.2.out.1.box hg5 (Kd.R_ne HPre.2.2.2.out.1.rB HPre.2.2.2.out.1.box (by decide))
       have d5 := cellH hx5 (i := 1) rfl
       have z5 := frozenH hx5 1
       refine hK.out _ _ ?_
       clear hK K
       refine norm_ (a' := ?_) ?_ ?_
       rotate_left
       ·show Act.put _ (some 105) _ = _
        simp only [Act.put, List.setIfInBounds_toArray, List.set_cons_zero, List.set_cons_succ, i64_w, i32_w]
        rfl
       refine pure_ (i := 8) (N := some 106) (v := ?_) (a' := ?_) #[true, true, true, true, true, true, true, true, true, false, false] rfl rfl (by kernel_rfl) (fun _ _ _ h => h) (Or.inl ⟨by rfl, ?_⟩) ?_ ?_
       rotate_left
       ·intro w'
        go_simp
        with_reducible rfl
       rotate_left
       ·simp only [Act.put, List.setIfInBounds_toArray, List.set_cons_zero, List.set_cons_succ, i64_w, i32_w]
        rfl
       refine pure_ (i := 9) (N := some 107) (v := ?_) (a' := ?_) #[true, true, true, true, true, true, true, true, true, true, false] rfl rfl (by kernel_rfl) (fun _ _ _ h => h) (Or.inl ⟨by rfl, ?_⟩) ?_ ?_
       rotate_left
       ·intro w'
        go_simp
        with_reducible rfl
       rotate_left
       ·simp only [Act.put, List.setIfInBounds_toArray, List.set_cons_zero, List.set_cons_succ, i64_w, i32_w]
        rfl
       refine last_ (i := 10) (N := none) #[true, true, true, true, true, true, true, true, true, true, true] rfl rfl (by kernel_rfl) (by decide) (fun K hK => ?_)
       refine skip_ (w1 := ?_) (by rfl) rfl ?_ ?_
       rotate_left
       ·go_simp
        rfl
       refine hK.out _ _ ?_
       clear hK K
       refine done_ (by kernel_rfl) ?_
       have hx6 := hP5.1.box
       obtain ⟨As, cs, hbx⟩ := hD5.box
       have hD6 := hD5.set hx5 (by decide) (by decide) 1 (.slice A7 n7 c7)
       have hQ : Aside0 (GL (w5.setCell ⟨p, 1, none⟩ (.slice A7 n7 c7)) B p vA (.slice A7 n7 c7) bs (gl ++ [⟨⟨a.toArray⟩, f1⟩]) ∧ Below B w (w5.setCell ⟨p, 1, none⟩ (.slice A7 n7 c7)) ∧ KeepG p w (w5.setCell ⟨p, 1, none⟩ (.slice A7 n7 c7))) := ⟨⟨hP5.1, (hL5.mono HBw.out).trans hP5.2.1, (KeepG.below hL5).trans hP5.2.2⟩⟩
       obtain ⟨As6, cs6, hbx6⟩ := hD6.box
       have dq := cellH hbx6 (i := 0) rfl
       clear hHeld HPre dA k0 k1 d5 z5 hP5 hL5 hS5 hb5 hg5 hat5 HG hx5 hx6 hbx hD5 hbx6 hD6
       cases rr with
       | nil =>
        have HE : Hid (F = some (bs, gl ++ [⟨⟨a.toArray⟩, f1⟩])) := Lib.hid (by rw [HF.out]; simp only [lineT]; rw [if_neg (by decide), if_pos trivial, hnb]; simp [hnm])
        simp only [List.length_nil] at dq
        go_wp2_with fail
        refine (demand_true _).mono ?_
        rintro e wz ⟨rfl, rfl⟩
        go_wp2
        go_end0
        rw [HE.out]
        exact ⟨rfl, ⟨_, _, hQ.out.1⟩, hQ.out.2⟩
       | cons y ys =>
        have HE : Hid (F = none) := Lib.hid (by rw [HF.out]; exact lineT_more _ _ _ _ _ _)
        simp only [List.length_cons] at dq
        go_wp2_with fail
        refine (demand_false _).mono ?_
        rintro e wz ⟨rfl, rfl⟩
        go_wp2
        exact ⟨rfl, by rw [HE.out]; exact ⟨rfl, hQ.out.2⟩⟩
  ·have hhd : hd = [98, 108, 111, 99, 107] := beq_iff_eq.1 hq1
   have HF : Hid (F = lineT (bs, gl) ([98, 108, 111, 99, 107] :: r1)) := Lib.hid (by rw [hF2.out, hhd])
   clear hF2 hhd
   go_wp2_with fail
   have hc := sint_calls W1 q r1 HA.out.sd w0 HR0.out (below_step Hb0.out HA.out.low) (Nat.le_trans hB0 (Nat.le_trans HBw.out HA.out.nq))
   cases hn : intS r1 with
   | none =>
    rw [hn] at hc
    have HE : Hid (F = none) := Lib.hid (HF.out.trans (sumN_none hn _ rfl))
    refine hc.mono ?_
    rintro e wz ⟨rfl, hT⟩
    have HZ := Aside0.mk (HA.out.low.trans (hT.below HA.out.nq HA.out.low.size))
    clear hT
    go_wp2
    exact ⟨rfl, by rw [HE.out]; exact ⟨rfl, low_keep HZ.out HBw.out⟩⟩
   | some pr =>
    obtain ⟨f0, r2⟩ := pr
    rw [hn] at hc
    obtain ⟨a, rfl, hna⟩ := intS_cons hn
    refine hc.mono ?_
    rintro e wy ⟨v, rfl, rfl, hS, hT⟩
    have hAy := HA.out.call hS hT
    have hb9 := below_alloc (Below.refl wy.heap.size wy) (.cells #[.int .i64 f0, .int .i64 0, .slice none 0 0] 71)
    have hx9 := blk_new wy (.cells #[.int .i64 f0, .int .i64 0, .slice none 0 0] 71)
    have HA2 : Aside0 (AW w (wy.alloc (.cells #[.int .i64 f0, .int .i64 0, .slice none 0 0] 71)) q r2) := ⟨hAy.below hb9⟩
    have HX9 : Hid ((wy.alloc (.cells #[.int .i64 f0, .int .i64 0, .slice none 0 0] 71)).heap[wy.heap.size]? = some (.cells #[.int .i64 f0, .int .i64 0, .slice none 0 0] 71 (0, 0)) ∧ q ≠ wy.heap.size ∧ w.heap.size ≤ wy.heap.size) := Lib.hid ⟨hx9, by have := hAy.sd.lt; omega, hAy.low.size⟩
    clear hS hT hc hn HA hb9 hx9 hAy
    go_wp2_with fail
    generalize wy.alloc (.cells #[.int .i64 f0, .int .i64 0, .slice none 0 0] 71) = W2 at *
    generalize wy.heap.size = p9 at *
    have hc := sint_calls W2 q r2 HA2.out.sd w0 HR0.out (below_step Hb0.out HA2.out.low) (Nat.le_trans hB0 (Nat.le_trans HBw.out HA2.out.nq))
    cases hn : intS r2 with
    | none =>
     rw [hn] at hc
     have HE : Hid (F = none) := Lib.hid (HF.out.trans (sumN_none2 hna hn _ rfl))
     refine hc.mono ?_
     rintro e wz ⟨rfl, hT⟩
     have HZ := Aside0.mk (HA2.out.low.trans (hT.below HA2.out.nq HA2.out.low.size))
     clear hT
     go_wp2
     exact ⟨rfl, by rw [HE.out]; exact ⟨rfl, low_keep HZ.out HBw.out⟩⟩
    | some pr =>
     obtain ⟨f1, rr⟩ := pr
     rw [hn] at hc
     obtain ⟨b, rfl, hnb⟩ := intS_cons hn
     refine hc.mono ?_
     rintro e W3 ⟨v, rfl, rfl, hS, hT⟩
     have hA3 := HA2.out.call hS hT
     have hx3 := (hT.block p9 (blk_lt HX9.out.1) (fun e => HX9.out.2.1 (by injection e with e; exact e.symm))).trans HX9.out.1
     have d1 := cellH hx3 (i := 1) rfl
     have z1 := frozenH hx3 1
     have HB4 : Aside0 (AW w (W3.setCell ⟨p9, 1, none⟩ (.int .i64 f1)) q rr) := ⟨⟨hA3.sd.set hx3 (by decide) (by decide) 1 _, hA3.low.setCell (p := ⟨p9, 1, none⟩) HX9.out.2.2 _, hA3.nq⟩⟩
     have HX4 : Hid ((W3.setCell ⟨p9, 1, none⟩ (.int .i64 f1)).heap[p9]? = some (.cells #[.int .i64 f0, .int .i64 f1, .slice none 0 0] 71 (0, 0))) := Lib.hid (blk_set hx3 1 _)
     have HG4 : Aside0 (GL (W3.setCell ⟨p9, 1, none⟩ (.int .i64 f1)) B p vA vB bs gl) := ⟨HG0.out.below HB4.out.low⟩
     have dB := cellH HG4.out.box (i := 1) rfl
     obtain ⟨A2, cb, hvB⟩ := Kd.R_slice HG4.out.rB
     have hmB : gl.length ≤ 9223372036854775807 := by omega
     have HVB := Lib.hid hvB
     rw [hvB] at dB
     clear hS hT hc hn HA2 hA3 hx3 HX9 hvB
     cases gl with
     | cons g0 gr =>
      have HE : Hid (F = none) := Lib.hid (by
       rw [HF.out]
       cases rr with
       | nil => simp only [lineT]; rw [if_pos trivial, hna, hnb]; simp
       | cons y ys => exact lineT_more _ _ _ _ _ _)
      simp only [List.length_cons] at dB hmB
      go_wp2_with fail
      refine (demand_false _).mono ?_
      rintro e wz ⟨rfl, rfl⟩
      go_wp2
      exact ⟨rfl, by rw [HE.out]; exact ⟨rfl, low_keep HB4.out.low HBw.out⟩⟩
     | nil =>
      simp only [List.length_nil] at dB
      go_wp2_with fail
      refine (demand_true _).mono ?_
      rintro e wz ⟨rfl, rfl⟩
      generalize W3.setCell ⟨p9, 1, none⟩ (.int .i64 f1) = W4 at *
      clear d1 z1 dB
      generalize hgl : ([] : List GGl) = gl at *
      have Hgl := Lib.hid hgl
      have HG : Aside0 (GL W4 B p vA vB bs gl ∧ SD W4 q rr ∧ Below w.heap.size w W4) := ⟨⟨HG4.out, HB4.out.sd, HB4.out.low⟩⟩
      have dA := cellH HG.out.1.box (i := 0) rfl
      have k0 := cellH HX4.out (i := 0) rfl
      have k1 := cellH HX4.out (i := 1) rfl
      have k2 := cellH HX4.out (i := 2) rfl
      clear HB4 HX4 hgl HG4
      go_wp2
      refine start_ (n := 11) (S := fun w' => w'.cell? ⟨p, 0, none⟩ = some vA ∧ w'.cell? ⟨p9, 0, none⟩ = some (.int .i64 f0) ∧ w'.cell? ⟨p9, 1, none⟩ = some (.int .i64 f1) ∧ w'.cell? ⟨p9, 2, none⟩ = some (.slice none 0 0) ∧ Aside0 (GL w' B p vA vB bs gl ∧ SD w' q rr ∧ Below w.heap.size w w')) (ds := [7, 10]) #[false, false, false, false, false, false, false, false, false, false, false] (by kernel_rfl) rfl rfl ⟨dA, k0, k1, k2, ⟨⟨HG.out.1.below (below_drew (Below.refl _ _)), HG.out.2.1.below (below_drew (Below.refl _ _)), below_step HG.out.2.2 (below_drew (Below.refl _ _))⟩⟩⟩ (fun hHeld => ?_)
      refine pure_ (i := 0) (N := some 76) (v := ?_) (a' := ?_) #[true, false, false, false, false, false, false, false, false, false, false] rfl rfl (by kernel_rfl) (fun _ _ _ h => h) (Or.inl ⟨by rfl, ?_⟩) ?_ ?_
      rotate_left
      ·intro w'
       go_simp
       with_reducible rfl
      rotate_left
      ·simp only [Act.put, List.setIfInBounds_toArray, List.set_cons_zero, List.set_cons_succ, i64_w, i32_w]
       rfl
      refine pure_ (i := 1) (N := some 77) (v := ?_) (a' := ?_) #[true, true, false, false, false, false, false, false, false, false, false] rfl rfl (by kernel_rfl) (fun _ _ _ h => h) (Or.inl ⟨by rfl, ?_⟩) ?_ ?_
      rotate_left
      ·intro w'
       go_simp
       with_reducible rfl
      rotate_left
      ·simp only [Act.put, List.setIfInBounds_toArray, List.set_cons_zero, List.set_cons_succ, i64_w, i32_w]
       rfl
      refine pure_ (i := 2) (N := some 78) (v := ?_) (a' := ?_) #[true, true, true, false, false, false, false, false, false, false, false] rfl rfl (by kernel_rfl) (fun _ _ _ h => h) (Or.inl ⟨by rfl, ?_⟩) ?_ ?_
      rotate_left
      ·intro w'
       go_simp
       with_reducible rfl
      rotate_left
      ·simp only [Act.put, List.setIfInBounds_toArray, List.set_cons_zero, List.set_cons_succ, i64_w, i32_w]
       rfl
      refine pure_ (i := 3) (N := some 79) (v := ?_) (a' := ?_) #[true, true, true, true, false, false, false, false, false, false, false] rfl rfl (by kernel_rfl) (fun _ _ _ h => h) (Or.inl ⟨by rfl, ?_⟩) ?_ ?_
      rotate_left
      ·intro w'
       go_simp
       with_reducible rfl
      rotate_left
      ·simp only [Act.put, List.setIfInBounds_toArray, List.set_cons_zero, List.set_cons_succ, i64_w, i32_w]
       rfl
      refine take_ (i := 4) (N := some 80) (v := ?_) (a' := ?_) #[true, true, true, true, true, false, false, false, false, false, false] rfl rfl (by kernel_rfl) (fun _ _ _ h => h) (Or.inl ⟨by rfl, ?_⟩) hHeld ?_ ?_
      rotate_left
      ·rintro w' ⟨s0, s1, s2, s3, s4⟩
       go_simp
       with_reducible rfl
      rotate_left
      ·simp only [Act.put, List.setIfInBounds_toArray, List.set_cons_zero, List.set_cons_succ, i64_w, i32_w]
       rfl
      refine take_ (i := 5) (N := some 81) (v := ?_) (a' := ?_) #[true, true, true, true, true, true, false, false, false, false, false] rfl rfl (by kernel_rfl) (fun _ _ _ h => h) (Or.inl ⟨by rfl, ?_⟩) hHeld ?_ ?_
      rotate_left
      ·rintro w' ⟨s0, s1, s2, s3, s4⟩
       go_simp
       with_reducible rfl
      rotate_left
      ·simp only [Act.put, List.setIfInBounds_toArray, List.set_cons_zero, List.set_cons_succ, i64_w, i32_w]
       rfl
      refine one_ (i := 6) (N := some 82) #[true, true, true, true, true, true, true, false, false, false, false] rfl rfl (by kernel_rfl) (by decide) (fun K hK => ?_)
      have HPre := hHeld
      refine value_ (w1 := ?_) (v := ?_) (by rfl) rfl ?_ ?_
      rotate_left 2
      ·go_simp
       constructor
       ·rfl
       ·rfl
      refine hK.out _ _ ⟨pw_cell_below (below_alloc (Below.refl _ _) _) hHeld.1, pw_cell_below (below_alloc (Below.refl _ _) _) hHeld.2.1, pw_cell_below (below_alloc (Below.refl _ _) _) hHeld.2.2.1, pw_cell_below (below_alloc (Below.refl _ _) _) hHeld.2.2.2.1, ⟨⟨hHeld.2.2.2.2.out.1.below (below_alloc (Below.refl _ _) _), hHeld.2.2.2.2.out.2.1.below (below_alloc (Below.refl _ _) _), below_step hHeld.2.2.2.2.out.2.2 (below_alloc (Below.refl _ _) _)⟩⟩⟩ (fun hHeld => ?_)
      clear hK K
      refine norm_ (a' := ?_) ?_ ?_
      rotate_left
      ·show Act.put _ (some 82) _ = _
       simp only [Act.put, List.setIfInBounds_toArray, List.set_cons_zero, List.set_cons_succ, i64_w, i32_w]
       rfl
      refine last_ (i := 7) (N := some 83) #[true, true, true, true, true, true, true, true, false, false, false] rfl rfl (by kernel_rfl) (by decide) (fun K hK => ?_)
      refine Kd.S_append_step kBk (w0 := w) B (by kernel_rfl) _ _ 22 71 _ _ rfl Tryz.underlying22 info71 rfl (show 0 < 3 by decide) (by omega) vA bs (⟨f0, f1, []⟩ : GBk) [.int .i64 f0, .int .i64 f1, .slice none 0 0] (fun _ => True) (fun _ => False) rfl rfl (k71_mkM _ B _ (⟨f0, f1, []⟩ : GBk) (Kd.R_nil _ _ _ _ _)) (fun _ h => h.elim) (fun _ _ => trivial) (Kd.S_mono HPre.2.2.2.2.out.1.rA (fun _ _ => ⟨trivial, fun h => h⟩)) (HPre.2.2.2.2.out.2.2.mono HBw.out) HPre.2.2.2.2.out.1.size (by omega) ?_
      intro v1 w5 hS5 hb5 hg5 hat5
      obtain ⟨A7, n7, c7, rfl⟩ := row_val (Kd.S_R hS5)
      have hP5 := HPre.2.2.2.2.out.1.pushB hS5 hg5
      have hD5 := HPre.2.2.2.2.out.2.1.grown (Kd.S_R HPre.2.2.2.2.out.1.rA) hg5 (by decide) (by decide)
      have hL5 := HPre.2.2.2.2.out.2.2
      have hx5 := blk_grown HPre.2.2.2.2.out.1.box hg5 (Kd.S_ne HPre.2.2.2.2.out.1.rA HPre.2.2.2.2.out.1.box (by decide))
      have d5 := cellH hx5 (i := 0) rfl
      have z5 := frozenH hx5 0
      refine hK.out _ _ ?_
      clear hK K
      refine norm_ (a' := ?_) ?_ ?_
      rotate_left
      ·show Act.put _ (some 83) _ = _
       simp only [Act.put, List.setIfInBounds_toArray, List.set_cons_zero, List.set_cons_succ, i64_w, i32_w]
       rfl
      refine pure_ (i := 8) (N := some 84) (v := ?_) (a' := ?_) #[true, true, true, true, true, true, true, true, true, false, false] rfl rfl (by kernel_rfl) (fun _ _ _ h => h) (Or.inl ⟨by rfl, ?_⟩) ?_ ?_
      rotate_left
      ·intro w'
       go_simp
       with_reducible rfl
      rotate_left
      ·simp only [Act.put, List.setIfInBounds_toArray, List.set_cons_zero, List.set_cons_succ, i64_w, i32_w]
       rfl
      refine pure_ (i := 9) (N := some 85) (v := ?_) (a' := ?_) #[true, true, true, true, true, true, true, true, true, true, false] rfl rfl (by kernel_rfl) (fun _ _ _ h => h) (Or.inl ⟨by rfl, ?_⟩) ?_ ?_
      rotate_left
      ·intro w'
       go_simp
       with_reducible rfl
      rotate_left
      ·simp only [Act.put, List.setIfInBounds_toArray, List.set_cons_zero, List.set_cons_succ, i64_w, i32_w]
       rfl
      refine last_ (i := 10) (N := none) #[true, true, true, true, true, true, true, true, true, true, true] rfl rfl (by kernel_rfl) (by decide) (fun K hK => ?_)
      refine skip_ (w1 := ?_) (by rfl) rfl ?_ ?_
      rotate_left
      ·go_simp
       rfl
      refine hK.out _ _ ?_
      clear hK K
      refine done_ (by kernel_rfl) ?_
      have hD6 := hD5.set hx5 (by decide) (by decide) 0 (.slice A7 n7 c7)
      have hQ : Aside0 (GL (w5.setCell ⟨p, 0, none⟩ (.slice A7 n7 c7)) B p (.slice A7 n7 c7) vB (bs ++ [⟨f0, f1, []⟩]) gl ∧ Below B w (w5.setCell ⟨p, 0, none⟩ (.slice A7 n7 c7)) ∧ KeepG p w (w5.setCell ⟨p, 0, none⟩ (.slice A7 n7 c7))) := ⟨⟨hP5.1, (hL5.mono HBw.out).trans hP5.2.1, (KeepG.below hL5).trans hP5.2.2⟩⟩
      obtain ⟨As6, cs6, hbx6⟩ := hD6.box
      have dq := cellH hbx6 (i := 0) rfl
      clear hHeld HPre dA k0 k1 k2 d5 z5 hP5 hL5 hS5 hb5 hg5 hat5 HG hx5 hD5 hbx6 hD6
      cases rr with
      | nil =>
       have HE : Hid (F = some (bs ++ [⟨f0, f1, []⟩], gl)) := Lib.hid (by rw [HF.out, ← Hgl.out]; simp only [lineT]; rw [if_pos trivial, hna, hnb]; rfl)
       simp only [List.length_nil] at dq
       go_wp2_with fail
       refine (demand_true _).mono ?_
       rintro e wz ⟨rfl, rfl⟩
       go_wp2
       go_end0
       rw [HE.out]
       exact ⟨rfl, ⟨_, _, hQ.out.1⟩, hQ.out.2⟩
      | cons y ys =>
       have HE : Hid (F = none) := Lib.hid (by rw [HF.out]; exact lineT_more _ _ _ _ _ _)
       simp only [List.length_cons] at dq
       go_wp2_with fail
       refine (demand_false _).mono ?_
       rintro e wz ⟨rfl, rfl⟩
       go_wp2
       exact ⟨rfl, by rw [HE.out]; exact ⟨rfl, hQ.out.2⟩⟩
theorem add_calls (w : World) (B p : Nat) (bs : List GBk) (gl : List GGl) (l : List UInt8) (hG : GC w B p bs gl) (w0 : World) (hR0 : RW w0) (hb0 : Below w0.heap.size w0 w) (hB0 : w0.heap.size ≤ B) (hl : l.length ≤ 1000000) (hbn : bs.length ≤ 1000000 ∧ ∀ b ∈ bs, b.f2.length ≤ 1000000) (hgn : gl.length ≤ 1000000) :
 Calls Tryz.prog 40 #[.pointer (some ⟨p, 0, none⟩), .string ⟨l.toArray⟩] w (AdPost w B p (addT (bs, gl) l)) := by
 cases hpre : Lib.hasPrefix l [32, 32]
 ·exact addln_calls w B p bs gl l hG w0 hR0 hb0 hB0 hl hbn.1 hgn hpre
 ·exact addop_calls w B p bs gl l hG w0 hR0 hb0 hB0 hl hbn.2 hpre
end Go.Proofs.YtmfjkepanmoeiaaGreatDoor.CJ
