/- The Go function code.add: what a line says. Conditions: the code lies in memory; the line is not too long; the listed variables are laid. -/
import Derived.Test.YtmfjkepanmoeiaaGreatDoorN5
namespace Go.Proofs.YtmfjkepanmoeiaaGreatDoor.CJ
open Go.RowKit Go.Proofs.YtmfjkepanmoeiaaGreatDoorW.PrintWords Go.Proofs.YtmfjkepanmoeiaaGreatDoorW.PrintLast Go.Proofs.YtmfjkepanmoeiaaGreatDoor.PT Go.Proofs.YtmfjkepanmoeiaaGreatDoor.IMaps Go.Proofs.YtmfjkepanmoeiaaGreatDoor.TJ
set_option linter.unusedVariables false
set_option linter.unusedSimpArgs false
theorem m_below {α : Type} {d : Kd α} {W W' : World} {B : Nat} {x : α} {cs : List Value} (h : d.M W B (fun _ => True) x cs) (hb : Below W.heap.size W W') : d.M W' B (fun _ => True) x cs :=
 d.M_mono (fun _ _ => trivial) (d.M_move (fun k hk => hb.block k hk.2.2.1) (d.M_bound h))
theorem m_lower {α : Type} {d : Kd α} {W : World} {B0 B : Nat} {x : α} {cs : List Value} (h : d.M W B0 (fun _ => True) x cs) (hB : B ≤ B0) : d.M W B (fun k => B0 ≤ k) x cs :=
 d.M_lower hB (d.M_mono (fun _ hk => hk.2.1) (d.M_bound h))
theorem row_val {α : Type} {d : Kd α} {e B : Nat} {ok : Nat → Prop} {W : World} {v : Value} {xs : List α} (h : d.R e W B ok v xs) : ∃ A n c, v = .slice A n c := by
 obtain ⟨A, c, rfl⟩ := Kd.R_slice h
 exact ⟨A, _, c, rfl⟩
structure AW (w W : World) (q : Nat) (ps : Pts) : Prop where
 sd : SD W q ps
 low : Below w.heap.size w W
 nq : w.heap.size ≤ q
theorem AW.call {w W W' : World} {q : Nat} {ps r : Pts} (h : AW w W q ps) (hS : SD W' q r) (hT : Tch q W W') : AW w W' q r := ⟨hS, h.low.trans (hT.below h.nq h.low.size), h.nq⟩
theorem AW.below {w W W' : World} {q : Nat} {ps : Pts} (h : AW w W q ps) (hb : Below W.heap.size W W') : AW w W' q ps := ⟨h.sd.below hb, below_step h.low hb, h.nq⟩
theorem spl_sd {w : World} {l : List UInt8} (hl : l.length ≤ 1000000) (c : UInt8) : AW w ((w.alloc (.cells ((spl c l).map strW).toArray 9)).alloc (.cells #[.slice (some ⟨w.heap.size, 0, none⟩) (spl c l).length (spl c l).length] 133)) (w.heap.size + 1) (spl c l) := by
 obtain ⟨h1, h2⟩ := spl_small c l
 have hb := below_alloc (below_alloc (Below.refl w.heap.size w) (.cells ((spl c l).map strW).toArray 9)) (.cells #[.slice (some ⟨w.heap.size, 0, none⟩) (spl c l).length (spl c l).length] 133)
 refine ⟨⟨fun x hx => by have := h1 x hx; omega, by omega, some ⟨w.heap.size, 0, none⟩, (spl c l).length, ?_, Nat.le_refl _, .inr ⟨w.heap.size, 0, ((spl c l).map strW).toArray, rfl, ?_, fun j x hx => ?_⟩⟩, hb, by omega⟩
 ·have := blk_new (w.alloc (.cells ((spl c l).map strW).toArray 9)) (.cells #[.slice (some ⟨w.heap.size, 0, none⟩) (spl c l).length (spl c l).length] 133)
  simpa using this
 ·exact blk_below (blk_new w _) (below_alloc (Below.refl _ _) _)
 ·rw [Nat.zero_add, List.getElem?_toArray, List.getElem?_map, hx]; rfl
theorem pre_two (l : List UInt8) (h : Lib.hasPrefix l [32, 32] = true) : Lib.trimPrefix l [32, 32] = l.drop 2 := by
 unfold Lib.trimPrefix; rw [if_pos h]; rfl
theorem pre_none (l : List UInt8) (h : Lib.hasPrefix l [32, 32] = false) : Lib.trimPrefix l [32, 32] = l := by
 unfold Lib.trimPrefix; rw [h]; rfl
theorem low_keep {w W : World} {B p : Nat} (h : Below w.heap.size w W) (hB : B ≤ w.heap.size) : Below B w W ∧ KeepG p w W := ⟨h.mono hB, KeepG.below h⟩
set_option maxRecDepth 100000 in
set_option maxHeartbeats 16000000 in
theorem addop_calls (w : World) (B p : Nat) (bs : List GBk) (gl : List GGl) (l : List UInt8) (hG : GC w B p bs gl) (w0 : World) (hR0 : RW w0) (hb0 : Below w0.heap.size w0 w) (hB0 : w0.heap.size ≤ B) (hl : l.length ≤ 1000000) (hbn : ∀ b ∈ bs, b.f2.length ≤ 1000000) (hpre : Lib.hasPrefix l [32, 32] = true) :
 Calls Tryz.prog 40 #[.pointer (some ⟨p, 0, none⟩), .string ⟨l.toArray⟩] w (AdPost w B p (addT (bs, gl) l)) := by
 obtain ⟨F, hF⟩ : ∃ F, F = addT (bs, gl) l := ⟨_, rfl⟩
 rw [← hF]
 obtain ⟨vA, vB, hG⟩ := hG
 have hBw := hG.size
 have HBw := Lib.hid hBw
 have hF2 : Hid (F = if bs = [] ∨ gl ≠ [] then none else match opT (spl 32 (l.drop 2)) with | some g => some (pushOp bs g, gl) | none => none) := Lib.hid (by rw [hF]; unfold addT; rw [hpre]; rfl)
 have HCP := Lib.hid (Tryz.strings_CutPrefix ⟨l.toArray⟩ ⟨#[32, 32]⟩ w)
 have hcut := pre_two l hpre
 have HCP := Lib.hid (by have := HCP.out; simp only [hcut, hpre] at this; exact this)
 have HSP := Lib.hid (split_calls 32 (l.drop 2) w (by rw [List.length_drop]; omega) (hR0.below hb0))
 have hAW := spl_sd (w := w) (l := l.drop 2) (by rw [List.length_drop]; omega) 32
 generalize l.drop 2 = l2 at *
 generalize spl 32 l2 = ps at *
 have HG := Aside0.mk hG
 have HR0 := Lib.hid hR0
 have Hb0 := Aside0.mk hb0
 have HAW := Aside0.mk hAW
 have hnA := Kd.S_slice hG.rA
 have hnB := Kd.R_slice hG.rB
 have dA0 := cellH hG.box (i := 0) rfl
 have dB0 := cellH hG.box (i := 1) rfl
 clear hF hAW hcut hR0 hb0 hpre hG
 go_enter Tryz.func40, Tryz.ntmps40
 go_wp2_with fail
 refine HCP.out.mono ?_
 rintro e w1 ⟨rfl, rfl⟩
 go_wp2_with fail
 refine HSP.out.mono ?_
 rintro e w2 ⟨rfl, rfl⟩
 clear HCP HSP
 obtain ⟨A, ca, rfl⟩ := hnA
 obtain ⟨A2, cb, rfl⟩ := hnB
 have hbx := below_alloc (below_alloc (Below.refl w1.heap.size w1) (.cells (ps.map strW).toArray 9)) (.cells #[.slice (some ⟨w1.heap.size, 0, none⟩) ps.length ps.length] 133)
 have dA := pw_cell_below hbx dA0
 have dB := pw_cell_below hbx dB0
 have HBX := Aside0.mk hbx
 clear dA0 dB0 hbx
 rcases List.eq_nil_or_concat bs with rfl | ⟨pre, b, rfl⟩
 ·have HE : Hid (F = none) := Lib.hid (hF2.out.trans (if_pos (.inl rfl)))
  simp only [List.length_nil] at dA
  go_wp2_with fail
  refine (demand_false _).mono ?_
  rintro e wz ⟨rfl, rfl⟩
  go_wp2
  exact ⟨rfl, by rw [HE.out]; exact ⟨rfl, low_keep HBX.out HBw.out⟩⟩
 ·rw [List.concat_eq_append] at *
  have hlen : (pre ++ [b]).length = pre.length + 1 := by simp
  rw [hlen] at dA
  have hmA : pre.length + 1 ≤ 9223372036854775807 := by
   have := (Kd.S_reads HG.out.rA).choose_spec.choose_spec.2.2.2.1
   rw [hlen] at this; exact this
  cases gl with
  | cons g0 gr =>
   have HE : Hid (F = none) := Lib.hid (hF2.out.trans (if_pos (.inr (by simp))))
   have hmB : (g0 :: gr).length ≤ 9223372036854775807 := (Kd.R_reads HG.out.rB).choose_spec.choose_spec.2.2.2.1
   simp only [List.length_cons] at dB hmB
   go_wp2_with fail
   refine (demand_false _).mono ?_
   rintro e wz ⟨rfl, rfl⟩
   go_wp2
   exact ⟨rfl, by rw [HE.out]; exact ⟨rfl, low_keep HBX.out HBw.out⟩⟩
  | nil =>
   have HF : Hid (F = match opT ps with | some g => some (pushOp (pre ++ [b]) g, []) | none => none) := Lib.hid (by rw [hF2.out, if_neg (by simp)])
   simp only [List.length_nil] at dB
   clear hF2
   go_wp2_with fail
   refine (demand_true _).mono ?_
   rintro e wz ⟨rfl, rfl⟩
   go_wp2_with fail
   generalize (w1.alloc (.cells (ps.map strW).toArray 9)).alloc (.cells #[.slice (some ⟨w1.heap.size, 0, none⟩) ps.length ps.length] 133) = W at *
   generalize w1.heap.size + 1 = q at *
   have hc := sop_calls W q ps HAW.out.sd w0 HR0.out (below_step Hb0.out HBX.out) (Nat.le_trans hB0 (Nat.le_trans HBw.out HAW.out.nq))
   rw [opS_eq] at hc
   cases ho : opT ps with
   | none =>
    rw [ho] at hc
    have HE : Hid (F = none) := Lib.hid (by rw [HF.out, ho])
    refine hc.mono ?_
    rintro e wz ⟨rfl, hT⟩
    have HZ := Aside0.mk (HBX.out.trans (hT.below HAW.out.nq HBX.out.size))
    clear hT
    go_wp2
    exact ⟨rfl, by rw [HE.out]; exact ⟨rfl, low_keep HZ.out HBw.out⟩⟩
   | some x =>
    rw [ho] at hc
    have HE : Hid (F = some (pre ++ [⟨b.f0, b.f1, b.f2 ++ [x]⟩], [])) := Lib.hid (by rw [HF.out, ho]; simp only; rw [show pre ++ [b] = pre ++ [⟨b.f0, b.f1, b.f2⟩] from rfl, push_last])
    refine hc.mono ?_
    rintro e wy ⟨v, rfl, ⟨cs, rfl, hM⟩, hS, hT⟩
    obtain ⟨v5, v6, rfl, hr5, hr6⟩ := k75_openM hM
    have hM2 : kOp.M wy w1.heap.size (fun _ => True) x [.int .i64 x.f0, .int .i64 x.f1, .int .i64 x.f2, .int .i64 x.f3, .string x.f4, v5, v6] := kOp.M_lower HBX.out.size hM
    have hlow := HBX.out.trans (hT.below HAW.out.nq HBX.out.size)
    obtain ⟨A5, c5, rfl⟩ := Kd.R_slice hr5
    obtain ⟨A6, c6, rfl⟩ := Kd.R_slice hr6
    have hb8 := below_alloc (Below.refl wy.heap.size wy) (.cells #[.int .i64 x.f0, .int .i64 x.f1, .int .i64 x.f2, .int .i64 x.f3, .string x.f4, .slice A5 x.f5.length c5, .slice A6 x.f6.length c6] 75)
    have hx8 := blk_new wy (.cells #[.int .i64 x.f0, .int .i64 x.f1, .int .i64 x.f2, .int .i64 x.f3, .string x.f4, .slice A5 x.f5.length c5, .slice A6 x.f6.length c6] 75)
    obtain ⟨g, cap, m, v2, oki, hvA, hGO⟩ := HG.out.lend (below_step hlow hb8)
    injection hvA with hA1 hA2 hA3
    have hmm : pre.length + 1 = m + 1 := by rw [← hA2, hlen]
    have hm' : m = pre.length := by omega
    subst hA1 hA3 hm'
    have HGG : Aside0 (GO (wy.alloc (.cells #[.int .i64 x.f0, .int .i64 x.f1, .int .i64 x.f2, .int .i64 x.f3, .string x.f4, .slice A5 x.f5.length c5, .slice A6 x.f6.length c6] 75)) B p w1.heap.size g ca pre.length v2 (.slice A2 0 cb) pre b [] oki ∧ kOp.M (wy.alloc (.cells #[.int .i64 x.f0, .int .i64 x.f1, .int .i64 x.f2, .int .i64 x.f3, .string x.f4, .slice A5 x.f5.length c5, .slice A6 x.f6.length c6] 75)) w1.heap.size (fun _ => True) x [.int .i64 x.f0, .int .i64 x.f1, .int .i64 x.f2, .int .i64 x.f3, .string x.f4, .slice A5 x.f5.length c5, .slice A6 x.f6.length c6] ∧ Below w1.heap.size w1 (wy.alloc (.cells #[.int .i64 x.f0, .int .i64 x.f1, .int .i64 x.f2, .int .i64 x.f3, .string x.f4, .slice A5 x.f5.length c5, .slice A6 x.f6.length c6] 75))) := ⟨⟨hGO, m_below hM2 hb8, below_step hlow hb8⟩⟩
    have hbl : b.f2.length ≤ 1000000 := hbn b (by simp)
    have HX8 := Lib.hid hx8
    have H8n : Hid (w1.heap.size ≤ wy.heap.size) := Lib.hid hlow.size
    clear hM hM2 hlow hb8 hGO hr5 hr6 hS hT hc ho hA2 hmm hlen HAW HG hbn HF dB HBX hx8 dA
    go_wp2
    generalize wy.alloc (.cells #[.int .i64 x.f0, .int .i64 x.f1, .int .i64 x.f2, .int .i64 x.f3, .string x.f4, .slice A5 x.f5.length c5, .slice A6 x.f6.length c6] 75) = W8 at *
    generalize wy.heap.size = p8 at *
    have HG := HGG
    clear HGG
    have dA := cellH HG.out.1.box (i := 0) rfl
    have dO := HG.out.1.cell
    have k0 := cellH HX8.out (i := 0) rfl
    have k1 := cellH HX8.out (i := 1) rfl
    have k2 := cellH HX8.out (i := 2) rfl
    have k3 := cellH HX8.out (i := 3) rfl
    have k4 := cellH HX8.out (i := 4) rfl
    have k5 := cellH HX8.out (i := 5) rfl
    have k6 := cellH HX8.out (i := 6) rfl
    generalize hv5 : (Value.slice A5 x.f5.length c5) = v5 at *
    generalize hv6 : (Value.slice A6 x.f6.length c6) = v6 at *
    generalize hvB : (Value.slice A2 0 cb) = vB at *
    clear hv5 hv6 hvB
    obtain ⟨w, rfl⟩ : ∃ w : World, w = w1 := ⟨_, rfl⟩
    generalize ([] : List GGl) = gl at *
    have hidx : (pre.length : Int) < (pre.length : Int) + 1 := by omega
    have HD : Aside0 (GO W8.drew B p w.heap.size g ca pre.length v2 vB pre b gl oki ∧ kOp.M W8.drew w.heap.size (fun _ => True) x [.int .i64 x.f0, .int .i64 x.f1, .int .i64 x.f2, .int .i64 x.f3, .string x.f4, v5, v6] ∧ Below w.heap.size w W8.drew) := ⟨⟨HG.out.1.below (below_drew (Below.refl _ _)), m_below HG.out.2.1 (below_drew (Below.refl _ _)), below_step HG.out.2.2 (below_drew (Below.refl _ _))⟩⟩
    have HX8D : Hid (W8.drew.heap[p8]? = some (.cells #[.int .i64 x.f0, .int .i64 x.f1, .int .i64 x.f2, .int .i64 x.f3, .string x.f4, v5, v6] 75 (0, 0))) := Lib.hid HX8.out
    refine start_ (n := 19) (S := fun w' => w'.cell? ⟨p, 0, none⟩ = some (.slice (some ⟨g, 0, none⟩) (pre.length + 1) ca) ∧ w'.cell? ⟨g, pre.length * 3 + 2, none⟩ = some v2 ∧ w'.cell? ⟨p8, 0, none⟩ = some (.int .i64 x.f0) ∧ w'.cell? ⟨p8, 1, none⟩ = some (.int .i64 x.f1) ∧ w'.cell? ⟨p8, 2, none⟩ = some (.int .i64 x.f2) ∧ w'.cell? ⟨p8, 3, none⟩ = some (.int .i64 x.f3) ∧ w'.cell? ⟨p8, 4, none⟩ = some (.string x.f4) ∧ w'.cell? ⟨p8, 5, none⟩ = some (v5) ∧ w'.cell? ⟨p8, 6, none⟩ = some (v6)) (ds := [18]) #[false, false, false, false, false, false, false, false, false, false, false, false, false, false, false, false, false, false, false] (by kernel_rfl) rfl rfl ⟨dA, dO, k0, k1, k2, k3, k4, k5, k6⟩ (fun hHeld => ?_)
    refine pure_ (i := 0) (N := some 40) (v := ?_) (a' := ?_) #[true, false, false, false, false, false, false, false, false, false, false, false, false, false, false, false, false, false, false] rfl rfl (by kernel_rfl) (fun _ _ _ h => h) (Or.inl ⟨by rfl, ?_⟩) ?_ ?_
    rotate_left
    ·intro w'
     go_simp
     with_reducible rfl
    rotate_left
    ·simp only [Act.put, List.setIfInBounds_toArray, List.set_cons_zero, List.set_cons_succ, i64_w, i32_w]
     rfl
    refine pure_ (i := 1) (N := some 41) (v := ?_) (a' := ?_) #[true, true, false, false, false, false, false, false, false, false, false, false, false, false, false, false, false, false, false] rfl rfl (by kernel_rfl) (fun _ _ _ h => h) (Or.inl ⟨by rfl, ?_⟩) ?_ ?_
    rotate_left
    ·intro w'
     go_simp
     with_reducible rfl
    rotate_left
    ·simp only [Act.put, List.setIfInBounds_toArray, List.set_cons_zero, List.set_cons_succ, i64_w, i32_w]
     rfl
    refine pure_ (i := 2) (N := some 42) (v := ?_) (a' := ?_) #[true, true, true, false, false, false, false, false, false, false, false, false, false, false, false, false, false, false, false] rfl rfl (by kernel_rfl) (fun _ _ _ h => h) (Or.inl ⟨by rfl, ?_⟩) ?_ ?_
    rotate_left
    ·intro w'
     go_simp
     with_reducible rfl
    rotate_left
    ·simp only [Act.put, List.setIfInBounds_toArray, List.set_cons_zero, List.set_cons_succ, i64_w, i32_w]
     rfl
    refine pure_ (i := 4) (N := some 44) (v := ?_) (a' := ?_) #[true, true, true, false, true, false, false, false, false, false, false, false, false, false, false, false, false, false, false] rfl rfl (by kernel_rfl) (fun _ _ _ h => h) (Or.inl ⟨by rfl, ?_⟩) ?_ ?_
    rotate_left
    ·intro w'
     go_simp
     with_reducible rfl
    rotate_left
    ·simp only [Act.put, List.setIfInBounds_toArray, List.set_cons_zero, List.set_cons_succ, i64_w, i32_w]
     rfl
    refine pure_ (i := 5) (N := some 45) (v := ?_) (a' := ?_) #[true, true, true, false, true, true, false, false, false, false, false, false, false, false, false, false, false, false, false] rfl rfl (by kernel_rfl) (fun _ _ _ h => h) (Or.inl ⟨by rfl, ?_⟩) ?_ ?_
    rotate_left
    ·intro w'
     go_simp
     with_reducible rfl
    rotate_left
    ·simp only [Act.put, List.setIfInBounds_toArray, List.set_cons_zero, List.set_cons_succ, i64_w, i32_w]
     rfl
    refine pure_ (i := 6) (N := some 46) (v := ?_) (a' := ?_) #[true, true, true, false, true, true, true, false, false, false, false, false, false, false, false, false, false, false, false] rfl rfl (by kernel_rfl) (fun _ _ _ h => h) (Or.inl ⟨by rfl, ?_⟩) ?_ ?_
    rotate_left
    ·intro w'
     go_simp
     with_reducible rfl
    rotate_left
    ·simp only [Act.put, List.setIfInBounds_toArray, List.set_cons_zero, List.set_cons_succ, i64_w, i32_w]
     rfl
    refine pure_ (i := 7) (N := some 47) (v := ?_) (a' := ?_) #[true, true, true, false, true, true, true, true, false, false, false, false, false, false, false, false, false, false, false] rfl rfl (by kernel_rfl) (fun _ _ _ h => h) (Or.inl ⟨by rfl, ?_⟩) ?_ ?_
    rotate_left
    ·intro w'
     go_simp
     with_reducible rfl
    rotate_left
    ·simp only [Act.put, List.setIfInBounds_toArray, List.set_cons_zero, List.set_cons_succ, i64_w, i32_w]
     rfl
    refine pure_ (i := 9) (N := some 49) (v := ?_) (a' := ?_) #[true, true, true, false, true, true, true, true, false, true, false, false, false, false, false, false, false, false, false] rfl rfl (by kernel_rfl) (fun _ _ _ h => h) (Or.inl ⟨by rfl, ?_⟩) ?_ ?_
    rotate_left
    ·intro w'
     go_simp
     with_reducible rfl
    rotate_left
    ·simp only [Act.put, List.setIfInBounds_toArray, List.set_cons_zero, List.set_cons_succ, i64_w, i32_w]
     rfl
    refine take_ (i := 3) (N := some 43) (v := ?_) (a' := ?_) #[true, true, true, true, true, true, true, true, false, true, false, false, false, false, false, false, false, false, false] rfl rfl (by kernel_rfl) (fun _ _ _ h => h) (Or.inl ⟨by rfl, ?_⟩) hHeld ?_ ?_
    rotate_left
    ·rintro w' ⟨s0, s1, s2, s3, s4, s5, s6, s7, s8⟩
     go_simp
     with_reducible rfl
    rotate_left
    ·simp only [Act.put, List.setIfInBounds_toArray, List.set_cons_zero, List.set_cons_succ, i64_w, i32_w]
     rfl
    refine take_ (i := 8) (N := some 48) (v := ?_) (a' := ?_) #[true, true, true, true, true, true, true, true, true, true, false, false, false, false, false, false, false, false, false] rfl rfl (by kernel_rfl) (fun _ _ _ h => h) (Or.inl ⟨by rfl, ?_⟩) hHeld ?_ ?_
    rotate_left
    ·rintro w' ⟨s0, s1, s2, s3, s4, s5, s6, s7, s8⟩
     go_simp
     with_reducible rfl
    rotate_left
    ·simp only [Act.put, List.setIfInBounds_toArray, List.set_cons_zero, List.set_cons_succ, i64_w, i32_w]
     rfl
    refine pure_ (i := 10) (N := some 50) (v := ?_) (a' := ?_) #[true, true, true, true, true, true, true, true, true, true, true, false, false, false, false, false, false, false, false] rfl rfl (by kernel_rfl) (fun _ _ _ h => h) (Or.inl ⟨by rfl, ?_⟩) ?_ ?_
    rotate_left
    ·intro w'
     go_simp
     with_reducible rfl
    rotate_left
    ·simp only [Act.put, List.setIfInBounds_toArray, List.set_cons_zero, List.set_cons_succ, i64_w, i32_w]
     rfl
    refine pure_ (i := 11) (N := some 51) (v := ?_) (a' := ?_) #[true, true, true, true, true, true, true, true, true, true, true, true, false, false, false, false, false, false, false] rfl rfl (by kernel_rfl) (fun _ _ _ h => h) (Or.inl ⟨by rfl, ?_⟩) ?_ ?_
    rotate_left
    ·intro w'
     go_simp
     with_reducible rfl
    rotate_left
    ·simp only [Act.put, List.setIfInBounds_toArray, List.set_cons_zero, List.set_cons_succ, i64_w, i32_w]
     rfl
    refine take_ (i := 12) (N := some 52) (v := ?_) (a' := ?_) #[true, true, true, true, true, true, true, true, true, true, true, true, true, false, false, false, false, false, false] rfl rfl (by kernel_rfl) (fun _ _ _ h => h) (Or.inl ⟨by rfl, ?_⟩) hHeld ?_ ?_
    rotate_left
    ·rintro w' ⟨s0, s1, s2, s3, s4, s5, s6, s7, s8⟩
     go_simp
     with_reducible rfl
    rotate_left
    ·simp only [Act.put, List.setIfInBounds_toArray, List.set_cons_zero, List.set_cons_succ, i64_w, i32_w]
     rfl
    refine take_ (i := 13) (N := some 53) (v := ?_) (a' := ?_) #[true, true, true, true, true, true, true, true, true, true, true, true, true, true, false, false, false, false, false] rfl rfl (by kernel_rfl) (fun _ _ _ h => h) (Or.inl ⟨by rfl, ?_⟩) hHeld ?_ ?_
    rotate_left
    ·rintro w' ⟨s0, s1, s2, s3, s4, s5, s6, s7, s8⟩
     go_simp
     with_reducible rfl
    rotate_left
    ·simp only [Act.put, List.setIfInBounds_toArray, List.set_cons_zero, List.set_cons_succ, i64_w, i32_w]
     rfl
    refine one_ (i := 14) (N := some 54) #[true, true, true, true, true, true, true, true, true, true, true, true, true, true, true, false, false, false, false] rfl rfl (by kernel_rfl) (by decide) (fun K hK => ?_)
    refine value_ (w1 := ?_) (v := ?_) (by rfl) rfl ?_ ?_
    rotate_left 2
    ·go_simp
     constructor
     ·rfl
     ·rfl
    refine hK.out _ _ ⟨pw_cell_below (below_alloc (Below.refl _ _) _) hHeld.1, pw_cell_below (below_alloc (Below.refl _ _) _) hHeld.2.1, pw_cell_below (below_alloc (Below.refl _ _) _) hHeld.2.2.1, pw_cell_below (below_alloc (Below.refl _ _) _) hHeld.2.2.2.1, pw_cell_below (below_alloc (Below.refl _ _) _) hHeld.2.2.2.2.1, pw_cell_below (below_alloc (Below.refl _ _) _) hHeld.2.2.2.2.2.1, pw_cell_below (below_alloc (Below.refl _ _) _) hHeld.2.2.2.2.2.2.1, pw_cell_below (below_alloc (Below.refl _ _) _) hHeld.2.2.2.2.2.2.2.1, pw_cell_below (below_alloc (Below.refl _ _) _) hHeld.2.2.2.2.2.2.2.2⟩ (fun hHeld => ?_)
    clear hK K
    refine norm_ (a' := ?_) ?_ ?_
    rotate_left
    ·show Act.put _ (some 54) _ = _
     simp only [Act.put, List.setIfInBounds_toArray, List.set_cons_zero, List.set_cons_succ, i64_w, i32_w]
     rfl
    refine one_ (i := 15) (N := some 55) #[true, true, true, true, true, true, true, true, true, true, true, true, true, true, true, true, false, false, false] rfl rfl (by kernel_rfl) (by decide) (fun K hK => ?_)
    refine Kd.R_append_step kOp (w0 := w) B (by kernel_rfl) _ _ 69 75 _ _ rfl Tryz.underlying69 info75 rfl (show 0 < 7 by decide) (by omega) v2 b.f2 x [.int .i64 x.f0, .int .i64 x.f1, .int .i64 x.f2, .int .i64 x.f3, .string x.f4, v5, v6] (fun k => oki k ∨ w.heap.size ≤ k) (fun k => w.heap.size ≤ k) rfl rfl (m_lower HD.out.2.1 HBw.out) (fun k hk => ⟨.inr hk, fun e => by have := (HD.out.1.sub k (HD.out.1.own k e.symm)).1; omega⟩) (fun k hk => .inr (Nat.le_trans HD.out.2.2.size hk)) HD.out.1.ops (HD.out.2.2.mono HBw.out) (Nat.le_trans HBw.out HD.out.2.2.size) (by omega) ?_
    intro v1 w5 hR5 hb5 hg5 hat5
    obtain ⟨A7, n7, c7, rfl⟩ := row_val hR5
    obtain ⟨d5, z5, hP5⟩ := HD.out.1.back hR5 hg5
    have hL5 := HD.out.2.2
    have hx5 := blk_grown HD.out.1.box hg5 (Kd.R_ne HD.out.1.ops HD.out.1.box (by decide))
    have hx85 := blk_grown HX8D.out hg5 (fun e => by have := (HD.out.1.sub p8 (HD.out.1.own p8 e.symm)).1; have := H8n.out; omega)
    refine hK.out _ _ ⟨cellH hx5 (i := 0) rfl, d5, cellH hx85 (i := 0) rfl, cellH hx85 (i := 1) rfl, cellH hx85 (i := 2) rfl, cellH hx85 (i := 3) rfl, cellH hx85 (i := 4) rfl, cellH hx85 (i := 5) rfl, cellH hx85 (i := 6) rfl⟩ (fun hHeld => ?_)
    clear hK K
    refine norm_ (a' := ?_) ?_ ?_
    rotate_left
    ·show Act.put _ (some 55) _ = _
     simp only [Act.put, List.setIfInBounds_toArray, List.set_cons_zero, List.set_cons_succ, i64_w, i32_w]
     rfl
    refine pure_ (i := 16) (N := some 56) (v := ?_) (a' := ?_) #[true, true, true, true, true, true, true, true, true, true, true, true, true, true, true, true, true, false, false] rfl rfl (by kernel_rfl) (fun _ _ _ h => h) (Or.inl ⟨by rfl, ?_⟩) ?_ ?_
    rotate_left
    ·intro w'
     go_simp
     with_reducible rfl
    rotate_left
    ·simp only [Act.put, List.setIfInBounds_toArray, List.set_cons_zero, List.set_cons_succ, i64_w, i32_w]
     rfl
    refine pure_ (i := 17) (N := some 57) (v := ?_) (a' := ?_) #[true, true, true, true, true, true, true, true, true, true, true, true, true, true, true, true, true, true, false] rfl rfl (by kernel_rfl) (fun _ _ _ h => h) (Or.inl ⟨by rfl, ?_⟩) ?_ ?_
    rotate_left
    ·intro w'
     go_simp
     with_reducible rfl
    rotate_left
    ·simp only [Act.put, List.setIfInBounds_toArray, List.set_cons_zero, List.set_cons_succ, i64_w, i32_w]
     rfl
    refine last_ (i := 18) (N := none) #[true, true, true, true, true, true, true, true, true, true, true, true, true, true, true, true, true, true, true] rfl rfl (by kernel_rfl) (by decide) (fun K hK => ?_)
    refine skip_ (w1 := ?_) (by rfl) rfl ?_ ?_
    rotate_left
    ·go_simp
     rfl
    refine hK.out _ _ ?_
    clear hK K
    refine done_ (by kernel_rfl) ?_
    have hQ : Aside0 (GL (w5.setCell ⟨g, pre.length * 3 + 2, none⟩ (.slice A7 n7 c7)) B p (.slice (some ⟨g, 0, none⟩) (pre.length + 1) ca) vB (pre ++ [⟨b.f0, b.f1, b.f2 ++ [x]⟩]) gl ∧ Below B w (w5.setCell ⟨g, pre.length * 3 + 2, none⟩ (.slice A7 n7 c7)) ∧ KeepG p w (w5.setCell ⟨g, pre.length * 3 + 2, none⟩ (.slice A7 n7 c7))) := ⟨⟨hP5.1, (hL5.mono HBw.out).trans hP5.2.1, (KeepG.below hL5).trans hP5.2.2⟩⟩
    clear hHeld dA dO k0 k1 k2 k3 k4 k5 k6 d5 z5 hP5 hL5 hR5 hb5 hg5 hat5 HG HD hx5 hx85
    go_wp2
    go_end0
    rw [HE.out]
    exact ⟨rfl, ⟨_, _, hQ.out.1⟩, hQ.out.2⟩
end Go.Proofs.YtmfjkepanmoeiaaGreatDoor.CJ
