/- The law CodeAgain: the Go function answers true for all strings. Conditions: the listed variables are laid. -/
import Derived.Test.YtmfjkepanmoeiaaGreatDoorA1
import Derived.Test.YtmfjkepanmoeiaaGreatDoorSB
namespace Go.Proofs.YtmfjkepanmoeiaaGreatDoor.CJ
open Go.RowKit Go.Proofs.YtmfjkepanmoeiaaGreatDoorW.PrintWords Go.Proofs.YtmfjkepanmoeiaaGreatDoorW.PrintLast Go.Proofs.YtmfjkepanmoeiaaGreatDoor.PT Go.Proofs.YtmfjkepanmoeiaaGreatDoor.IMaps
set_option linter.unusedVariables false
set_option linter.unusedSimpArgs false
theorem cutTo (l : List UInt8) (k : Nat) : (⟨l.toArray⟩ : ByteArray).extract 0 k = ⟨(l.take k).toArray⟩ := by
 apply ByteArray.ext
 simp
theorem sliceTo (l : List UInt8) (k : Nat) (hk : k ≤ l.length) (W : World) : (Instr.slice 9 (.string ⟨l.toArray⟩) none (some (.int .i64 (k : Int))) none).run Tryz.prog W = .ok (.string ⟨(l.take k).toArray⟩) W := by
 rw [run_slice_string_h (P := Tryz.prog) W 9 ⟨l.toArray⟩ Tryz.underlying9 .i64 (k : Int) (by omega) (by simp [ByteArray.size]; omega), ← cutTo]
 rfl
theorem min2i (k k' : IntKind) (x y : Int) : Builtin.min2 (.int k x) (.int k' y) = pure (.int k (if y < x then y else x)) := by simp only [Builtin.min2]
theorem min2of (ats : Array TypeId) (ty : TypeId) (a b : Value) : Builtin.min_ ats ty #[a, b] = (Builtin.min2 a b >>= fun s => pure s) := by simp only [Builtin.min_, List.foldlM_cons, List.foldlM_nil]
theorem min_i (ats : Array TypeId) (ty : TypeId) (x y : Int) (W : World) : (Builtin.min_ ats ty #[.int .i64 x, .int .i64 y]).run Tryz.prog W = .ok (.int .i64 (min x y)) W := by
 rw [min2of, min2i]
 by_cases h : y < x
 ·rw [if_pos h, show min x y = y from Int.min_eq_right (by omega)]; rfl
 ·rw [if_neg h, show min x y = x from Int.min_eq_left (by omega)]; rfl
theorem checkOk (w : World) (A A2 : Option Addr) (ca cb : Nat) (bs : List GBk) (gl : List GGl) (hc : CM w A ca A2 cb bs gl) (hL : LW w) (hs : SizedC bs gl) (hk : allK bs gl = true) :
 Calls Tryz.prog 26 #[codeV A bs.length ca A2 gl.length cb] w fun e w' => e = .returned (.int .i64 0) ∧ Below w.heap.size w w' := by
 have h := codeCheck_calls w A ca A2 cb bs gl hc hL hs
 rw [hk] at h
 exact h
def RdCase (T : List UInt8) (w : World) (e : Ending) (w' : World) : Prop :=
 Below w.heap.size w w' ∧ ((∃ A ca A2 cb bs gl, e = .returned (.tuple #[codeV A bs.length ca A2 gl.length cb, .int .i64 0, .int .i64 0]) ∧ CM w' A ca A2 cb bs gl ∧ SizedC bs gl ∧ WfC bs ∧ allK bs gl = true ∧ textB bs gl = T) ∨
  ∃ (k : Nat) (r : Int), e = .returned (.tuple #[codeV none 0 0 none 0 0, .int .i64 k, .int .i64 r]) ∧ (r = 4 ∨ r = 41))
theorem readT_err {t : List UInt8} {k : Nat} {r : Int} (h : readT t = .err k r) : r = 4 ∨ r = 41 := by
 unfold readT at h
 split at h
 ·split at h
  ·cases h
  ·injection h with _ h
   exact .inr h.symm
 ·injection h with _ h
  exact .inl h.symm
theorem readCase (w : World) (T : List UInt8) (hR : RW w) (ht : T.length ≤ 900000) : Calls Tryz.prog 11 #[.string ⟨T.toArray⟩] w (RdCase T w) := by
 have h := read_calls w T hR ht
 refine h.mono ?_
 intro e w' hp
 cases hr : readT T with
 | ok c =>
  rw [hr] at hp
  obtain ⟨v, rfl, hc, hT, hk, hb⟩ := hp
  obtain ⟨A, ca, A2, cb, rfl, hm⟩ := pCode_cm hc
  exact ⟨hb, .inl ⟨A, ca, A2, cb, c.1, c.2, rfl, hm, (tst_sized hT).1, (tst_sized hT).2, hk, (text_read hr).1⟩⟩
 | err k r =>
  rw [hr] at hp
  obtain ⟨rfl, hb⟩ := hp
  exact ⟨hb, .inr ⟨k, r, rfl, readT_err hr⟩⟩
def UkCase (T : List UInt8) (w : World) (e : Ending) (w' : World) : Prop :=
 Below w.heap.size w w' ∧ ((∃ A ca A2 cb bs gl, e = .returned (.tuple #[codeV A bs.length ca A2 gl.length cb, .int .i64 0]) ∧ CM w' A ca A2 cb bs gl ∧ SizedC bs gl ∧ WfC bs ∧ allK bs gl = true ∧ packB bs gl = T ∧ T.length ≤ 200000) ∨
  e = .returned (.tuple #[codeV none 0 0 none 0 0, .int .i64 42]))
theorem unpackR_sized {l : List UInt8} {c : List GBk × List GGl} (h : unpackR l = some c) : SizedC c.1 c.2 := by
 have hl := (unpackR_some h).2.2.1
 unfold unpackR at h
 split at h
 ·cases hr : codeR ((l.take (l.length - 4)).drop 3) with
  | none => rw [hr] at h; cases h
  | some p =>
   obtain ⟨c', r⟩ := p
   rw [hr] at h
   simp only at h
   split at h
   ·cases h
    exact (codeR_ok (by rw [List.length_drop]; have := List.length_take_le (l.length - 4) l; have := List.length_take_le' (l.length - 4) l; omega) hr).1
   ·cases h
 ·cases h
theorem unpackCase (w : World) (T : List UInt8) (hR : LW w) (ht : T.length ≤ 140737488355328) : Calls Tryz.prog 20 #[.string ⟨T.toArray⟩] w (UkCase T w) := by
 refine (unpack_calls w T hR ht).mono ?_
 intro e w' hp
 cases hr : unpackR T with
 | none =>
  rw [hr] at hp
  obtain ⟨rfl, hb⟩ := hp
  exact ⟨hb, .inr rfl⟩
 | some c =>
  rw [hr] at hp
  obtain ⟨v, rfl, hc, hb⟩ := hp
  obtain ⟨A, ca, A2, cb, rfl, hm⟩ := pCode_cm hc
  obtain ⟨hk, hpk, hl, hw⟩ := unpackR_some hr
  exact ⟨hb, .inl ⟨A, ca, A2, cb, c.1, c.2, rfl, hm, unpackR_sized hr, hw, hk, hpk, hl⟩⟩
theorem textOk (w : World) (A A2 : Option Addr) (ca cb : Nat) (bs : List GBk) (gl : List GGl) (T : List UInt8) (hc : CM w A ca A2 cb bs gl) (hR : RW w) (hs : SizedC bs gl) (hw : WfC bs) (hk : allK bs gl = true) (hT : textB bs gl = T) :
 Calls Tryz.prog 25 #[codeV A bs.length ca A2 gl.length cb] w fun e w' => e = .returned (.tuple #[.string ⟨T.toArray⟩, .int .i64 0]) ∧ Below w.heap.size w w' := by
 refine (text_calls w A ca A2 cb bs gl hc hR.lw hR.tens hs hw).mono ?_
 rintro e w' ⟨rfl, hb⟩
 refine ⟨?_, hb⟩
 unfold textR
 rw [hk, hT]
 rfl
theorem packOk (w : World) (A A2 : Option Addr) (ca cb : Nat) (bs : List GBk) (gl : List GGl) (T : List UInt8) (hc : CM w A ca A2 cb bs gl) (hR : LW w) (hs : SizedC bs gl) (hw : WfC bs) (hk : allK bs gl = true) (hT : packB bs gl = T) (hl : T.length ≤ 200000) :
 Calls Tryz.prog 16 #[codeV A bs.length ca A2 gl.length cb] w fun e w' => e = .returned (.tuple #[.string ⟨T.toArray⟩, .int .i64 0]) ∧ Below w.heap.size w w' := by
 refine (pack_calls w A ca A2 cb bs gl hc hR hs hw).mono ?_
 rintro e w' ⟨rfl, hb⟩
 refine ⟨?_, hb⟩
 rw [packR_eq, if_pos hk, hT, if_pos hl]
set_option maxRecDepth 100000 in
set_option maxHeartbeats 8000000 in
theorem lawAgain_calls (w : World) (l : List UInt8) (hll : l.length ≤ 9223372036854775807) (hR : RW w) :
 Calls Tryz.prog 6 #[.string ⟨l.toArray⟩] w fun e w' => e = .returned (.bool true) ∧ Below w.heap.size w w' := by
 have HR := Lib.hid hR
 obtain ⟨k, hk⟩ : ∃ k : Nat, k = min l.length 30000 := ⟨_, rfl⟩
 have hkl : k ≤ l.length := by omega
 have hmin : ∀ ats ty (W : World), (Builtin.min_ ats ty #[.int .i64 (l.length : Int), .int .i64 30000]).run Tryz.prog W = .ok (.int .i64 (k : Int)) W := fun ats ty W => by
  rw [min_i, show min (l.length : Int) 30000 = (k : Int) by omega]
 have hsl := fun W => sliceTo l k hkl W
 obtain ⟨T, hT⟩ : ∃ T, T = l.take k := ⟨_, rfl⟩
 rw [← hT] at hsl
 have hTl : T.length ≤ 30000 := by rw [hT, List.length_take]; omega
 have HB0 := Aside0.mk (Below.refl w.heap.size w)
 clear hT hk hR hkl
 go_enter Tryz.func6, Tryz.ntmps6
 go_wp2_with fail
 refine (readCase _ T HR.out (by omega)).mono ?_
 rintro e w1 ⟨hb1, ⟨A1, c1, A2, c2, b1, g1, rfl, hm1, hs1, hw1, hk1, ht1⟩ | ⟨k1, r1, rfl, hr1⟩⟩
 ·have hbz := below_alloc (Below.refl w1.heap.size w1) (.cells #[.slice A1 b1.length c1, .slice A2 g1.length c2] 25)
  have HB1 := Aside0.mk (below_step hb1 hbz)
  have HC1 := Aside0.mk (hm1.below hbz)
  have HX1 := Aside0.mk (blk_new w1 (.cells #[.slice A1 b1.length c1, .slice A2 g1.length c2] 25))
  have HH1 := Lib.hid (And.intro hs1 (And.intro hw1 (And.intro hk1 ht1)))
  clear hbz hb1 hm1 hs1 hw1 hk1 ht1 HB0 hmin hsl
  unfold codeV
  go_wp2_with fail
  generalize w1.alloc (.cells #[.slice A1 b1.length c1, .slice A2 g1.length c2] 25) = w2 at *
  generalize w1.heap.size = b4 at *
  refine (textOk _ A1 A2 c1 c2 b1 g1 T HC1.out (HR.out.below HB1.out) HH1.out.1 HH1.out.2.1 HH1.out.2.2.1 HH1.out.2.2.2).mono ?_
  rintro e w3 ⟨rfl, hb3⟩
  have HB3 := Aside0.mk (below_step HB1.out hb3)
  have HC3 := Aside0.mk (HC1.out.below hb3)
  have y0 := cellH (blk_below HX1.out hb3) (i := 0) rfl
  have y1 := cellH (blk_below HX1.out hb3) (i := 1) rfl
  clear hb3 HB1 HC1 HX1
  go_wp2_with fail
  refine (checkOk _ A1 A2 c1 c2 b1 g1 HC3.out ((HR.out.below HB3.out).lw) HH1.out.1 HH1.out.2.2.1).mono ?_
  rintro e w4 ⟨rfl, hb4⟩
  have HB := Aside0.mk (below_step HB3.out hb4)
  clear hb4 HB3 HC3 y0 y1 HH1
  go_wp2_with fail
  refine (refSeal_calls T (by omega) _).mono ?_
  rintro e w5 ⟨rfl, hb5⟩
  have HB5 := Aside0.mk (below_step HB.out hb5)
  clear hb5 HB
  go_wp2_with fail
  refine (unpackCase _ (sealB T) ((HR.out.below HB5.out).lw) (by rw [sealB_len]; omega)).mono ?_
  rintro e w6 ⟨hb6, ⟨A, ca, A2, cb, bs, gl, rfl, hm, hs, hw, hk, hp, hl⟩ | rfl⟩
  ·have hbz := below_alloc (Below.refl w6.heap.size w6) (.cells #[.slice A bs.length ca, .slice A2 gl.length cb] 25)
   have HB6 := Aside0.mk (below_step (below_step HB5.out hb6) hbz)
   have HC6 := Aside0.mk (hm.below hbz)
   have HX6 := Aside0.mk (blk_new w6 (.cells #[.slice A bs.length ca, .slice A2 gl.length cb] 25))
   have HH := Lib.hid (And.intro hs (And.intro hw (And.intro hk (And.intro hp hl))))
   clear hbz hb6 HB5 hm hs hw hk hp hl
   unfold codeV
   go_wp2_with fail
   generalize w6.alloc (.cells #[.slice A bs.length ca, .slice A2 gl.length cb] 25) = w7 at *
   generalize w6.heap.size = b9 at *
   refine (packOk _ A A2 ca cb bs gl (sealB T) HC6.out ((HR.out.below HB6.out).lw) HH.out.1 HH.out.2.1 HH.out.2.2.1 HH.out.2.2.2.1 HH.out.2.2.2.2).mono ?_
   rintro e w8 ⟨rfl, hb8⟩
   have HB8 := Aside0.mk (below_step HB6.out hb8)
   have HC8 := Aside0.mk (HC6.out.below hb8)
   have HX8 := Aside0.mk (blk_below HX6.out hb8)
   clear hb8 HB6 HC6 HX6
   go_wp2_with fail
   refine (refSeal_calls T (by omega) _).mono ?_
   rintro e w9 ⟨rfl, hb9⟩
   have HB9 := Aside0.mk (below_step HB8.out hb9)
   have HC9 := Aside0.mk (HC8.out.below hb9)
   have x0 := cellH (blk_below HX8.out hb9) (i := 0) rfl
   have x1 := cellH (blk_below HX8.out hb9) (i := 1) rfl
   clear hb9 HB8 HC8 HX8
   go_wp2_with fail
   refine (checkOk _ A A2 ca cb bs gl HC9.out ((HR.out.below HB9.out).lw) HH.out.1 HH.out.2.2.1).mono ?_
   rintro e wa ⟨rfl, hba⟩
   have HBa := Aside0.mk (below_step HB9.out hba)
   clear hba HB9 HC9 x0 x1
   go_wp2_with fail
   refine (awake_calls _ (HR.out.below HBa.out)).mono ?_
   rintro e wb ⟨rfl, hbb⟩
   have HBb := Aside0.mk (below_step HBa.out hbb)
   clear hbb
   go_wp2
   go_ret
   exact ⟨rfl, HBb.out⟩
  ·have HB6 := Aside0.mk (below_alloc (below_step HB5.out hb6) (.cells #[.slice none 0 0, .slice none 0 0] 25))
   clear hb6 HB5
   unfold codeV
   go_wp2_with fail
   refine (awake_calls _ (HR.out.below HB6.out)).mono ?_
   rintro e wb ⟨rfl, hbb⟩
   have HBb := Aside0.mk (below_step HB6.out hbb)
   clear hbb
   go_wp2
   go_ret
   exact ⟨rfl, HBb.out⟩
 ·have HB := Aside0.mk (below_alloc hb1 (.cells #[.slice none 0 0, .slice none 0 0] 25))
  have hr0 : (r1 == 0) = false := by rcases hr1 with rfl | rfl <;> rfl
  clear hb1 hr1 HB0 hmin hsl
  unfold codeV
  go_wp2_with fail
  refine (refSeal_calls T (by omega) _).mono ?_
  rintro e w5 ⟨rfl, hb5⟩
  have HB5 := Aside0.mk (below_step HB.out hb5)
  clear hb5 HB
  go_wp2_with fail
  refine (unpackCase _ (sealB T) ((HR.out.below HB5.out).lw) (by rw [sealB_len]; omega)).mono ?_
  rintro e w6 ⟨hb6, ⟨A, ca, A2, cb, bs, gl, rfl, hm, hs, hw, hk, hp, hl⟩ | rfl⟩
  ·have hbz := below_alloc (Below.refl w6.heap.size w6) (.cells #[.slice A bs.length ca, .slice A2 gl.length cb] 25)
   have HB6 := Aside0.mk (below_step (below_step HB5.out hb6) hbz)
   have HC6 := Aside0.mk (hm.below hbz)
   have HX6 := Aside0.mk (blk_new w6 (.cells #[.slice A bs.length ca, .slice A2 gl.length cb] 25))
   have HH := Lib.hid (And.intro hs (And.intro hw (And.intro hk (And.intro hp hl))))
   clear hbz hb6 HB5 hm hs hw hk hp hl
   unfold codeV
   go_wp2_with fail
   generalize w6.alloc (.cells #[.slice A bs.length ca, .slice A2 gl.length cb] 25) = w7 at *
   generalize w6.heap.size = b9 at *
   refine (packOk _ A A2 ca cb bs gl (sealB T) HC6.out ((HR.out.below HB6.out).lw) HH.out.1 HH.out.2.1 HH.out.2.2.1 HH.out.2.2.2.1 HH.out.2.2.2.2).mono ?_
   rintro e w8 ⟨rfl, hb8⟩
   have HB8 := Aside0.mk (below_step HB6.out hb8)
   have HC8 := Aside0.mk (HC6.out.below hb8)
   have HX8 := Aside0.mk (blk_below HX6.out hb8)
   clear hb8 HB6 HC6 HX6
   go_wp2_with fail
   refine (refSeal_calls T (by omega) _).mono ?_
   rintro e w9 ⟨rfl, hb9⟩
   have HB9 := Aside0.mk (below_step HB8.out hb9)
   have HC9 := Aside0.mk (HC8.out.below hb9)
   have x0 := cellH (blk_below HX8.out hb9) (i := 0) rfl
   have x1 := cellH (blk_below HX8.out hb9) (i := 1) rfl
   clear hb9 HB8 HC8 HX8
   go_wp2_with fail
   refine (checkOk _ A A2 ca cb bs gl HC9.out ((HR.out.below HB9.out).lw) HH.out.1 HH.out.2.2.1).mono ?_
   rintro e wa ⟨rfl, hba⟩
   have HBa := Aside0.mk (below_step HB9.out hba)
   clear hba HB9 HC9 x0 x1
   go_wp2_with fail
   refine (awake_calls _ (HR.out.below HBa.out)).mono ?_
   rintro e wb ⟨rfl, hbb⟩
   have HBb := Aside0.mk (below_step HBa.out hbb)
   clear hbb
   go_wp2
   go_ret
   exact ⟨rfl, HBb.out⟩
  ·have HB6 := Aside0.mk (below_alloc (below_step HB5.out hb6) (.cells #[.slice none 0 0, .slice none 0 0] 25))
   clear hb6 HB5
   unfold codeV
   go_wp2_with fail
   refine (awake_calls _ (HR.out.below HB6.out)).mono ?_
   rintro e wb ⟨rfl, hbb⟩
   have HBb := Aside0.mk (below_step HB6.out hbb)
   clear hbb
   go_wp2
   go_ret
   exact ⟨rfl, HBb.out⟩
end Go.Proofs.YtmfjkepanmoeiaaGreatDoor.CJ
