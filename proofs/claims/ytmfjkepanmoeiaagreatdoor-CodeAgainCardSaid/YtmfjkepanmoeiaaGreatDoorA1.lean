/- The reference's Sum and Seal. Conditions: the string is not too long. -/
import Derived.Test.YtmfjkepanmoeiaaGreatDoorKC
namespace Go.Proofs.YtmfjkepanmoeiaaGreatDoor.CJ
open Go.RowKit Go.Proofs.YtmfjkepanmoeiaaGreatDoorW.PrintWords Go.Proofs.YtmfjkepanmoeiaaGreatDoorW.PrintLast Go.Proofs.YtmfjkepanmoeiaaGreatDoor.PT Go.Proofs.YtmfjkepanmoeiaaGreatDoor.IMaps Go.Proofs.YtmfjkepanmoeiaaGreatDoor.TJ
set_option linter.unusedVariables false
set_option linter.unusedSimpArgs false
set_option maxRecDepth 100000 in
set_option maxHeartbeats 2000000 in
theorem refSum_calls (s : ByteArray) (hs : s.size ≤ maxLen) (w : World) : Calls Tryz.prog 23 #[.string s] w fun e w' => e = .returned (.int .i64 (sumB s.data.toList)) ∧ w = w' := by
 unfold maxLen at hs
 go_enter Tryz.func23, Tryz.ntmps23
 go_wp2
 go_loop [3, 4, 5] (fun av bv v => ∃ i : Nat, ∃ p q : Nat, i ≤ s.size ∧ v = .int .i64 i ∧ av = .int .i64 p ∧ bv = .int .i64 q ∧ p < 65521 ∧ q < 65521 ∧ Hid (sumP (s.data.toList.take i) = (p, q))) (fun _ _ v => s.size - (intOf v).toNat)
 case atStart => exact ⟨0, 1, 0, by omega, rfl, rfl, rfl, by decide, by decide, Lib.hid rfl⟩
 case round =>
  obtain ⟨i, p, q, hi, rfl, rfl, rfl, hp, hq, HS⟩ := hrel
  by_cases hlt : i < s.size
  ·have hl : i < s.data.toList.length := by simpa using hlt
   have hstep : sumP (s.data.toList.take (i + 1)) = sumStep (p, q) s[i] := by
    rw [List.take_succ_eq_append_getElem hl, sumP_snoc, HS.out, dataAt s i hlt]
   have HN := Lib.hid hstep
   have hc : s[i].toNat < 256 := s[i].toNat_lt
   clear hstep
   go_wp2
   go_round
   case rel => exact ⟨i + 1, (p + s[i].toNat) % 65521, (q + (p + s[i].toNat) % 65521) % 65521, by omega, by go_num, by go_num, by go_num, Nat.mod_lt _ (by decide), Nat.mod_lt _ (by decide), HN⟩
   case measure => simp [intOf]; omega
  ·obtain rfl : i = s.size := by omega
   have hf : sumP s.data.toList = (p, q) := by
    have := HS.out
    rwa [List.take_of_length_le (by simp)] at this
   have HF := Lib.hid hf
   clear hf
   go_wp2
   go_ret
   exact ⟨by unfold sumB; rw [HF.out]; simp only; rw [show (((q * 65536 + p : Nat)) : Int) = 65536 * (q : Int) + p by omega]; rfl, rfl⟩
set_option maxRecDepth 100000 in
set_option maxHeartbeats 2000000 in
theorem refSeal_calls (l : List UInt8) (hl : l.length ≤ 1000000000) (w : World) : Calls Tryz.prog 19 #[.string ⟨l.toArray⟩] w fun e w' => e = .returned (.string ⟨(sealB l).toArray⟩) ∧ Below w.heap.size w w' := by
 have hS := Lib.hid (refSum_calls ⟨l.toArray⟩ (by unfold maxLen; simp [ByteArray.size]; omega) w)
 have hlt := sumB_lt l
 have e0 : (⟨l.toArray⟩ : ByteArray).data.toList = l := rfl
 rw [e0] at hS
 have HSB : Hid (sealB l = l ++ sum4 (sumB l)) := Lib.hid rfl
 clear e0
 generalize sumB l = n at *
 have hcv : (convert 47 9 (.slice (some ⟨w.heap.size, 0, none⟩) 4 4)).run Tryz.prog (w.alloc (.cells #[.int .u8 ((n : Int) / 16777216), .int .u8 ((n : Int) / 65536 % 256), .int .u8 ((n : Int) / 256 % 256), .int .u8 ((n : Int) % 256)] 5)) = .ok (.string ⟨(sum4 n).toArray⟩) (w.alloc (.cells #[.int .u8 ((n : Int) / 16777216), .int .u8 ((n : Int) / 65536 % 256), .int .u8 ((n : Int) / 256 % 256), .int .u8 ((n : Int) % 256)] 5)) := by
  refine run_convert_bytes_back _ 47 9 5 ⟨w.heap.size, 0, none⟩ 4 (sum4 n) Tryz.underlying47 Tryz.underlying5 Tryz.underlying9 ?_
  intro j hj
  have hj4 : j = 0 ∨ j = 1 ∨ j = 2 ∨ j = 3 := by have : (sum4 n).length = 4 := rfl; omega
  have ea : (⟨w.heap.size, 0, none⟩ : Addr).add j = ⟨w.heap.size, j, none⟩ := by simp [Addr.add]; omega
  rw [ea, World.cell?_alloc_mark]
  rcases hj4 with rfl | rfl | rfl | rfl
  ·show some (Value.int .u8 ((n : Int) / 16777216)) = some (Value.int .u8 ((UInt8.ofNat (n / 16777216)).toNat : Int))
   rw [UInt8.toNat_ofNat']; congr 2; omega
  ·show some (Value.int .u8 ((n : Int) / 65536 % 256)) = some (Value.int .u8 ((UInt8.ofNat (n / 65536)).toNat : Int))
   rw [UInt8.toNat_ofNat']; congr 2
  ·show some (Value.int .u8 ((n : Int) / 256 % 256)) = some (Value.int .u8 ((UInt8.ofNat (n / 256)).toNat : Int))
   rw [UInt8.toNat_ofNat']; congr 2
  ·show some (Value.int .u8 ((n : Int) % 256)) = some (Value.int .u8 ((UInt8.ofNat n).toNat : Int))
   rw [UInt8.toNat_ofNat']; congr 2
 have eN : ((⟨l.toArray⟩ : ByteArray) ++ ⟨(sum4 n).toArray⟩) = ⟨(sealB l).toArray⟩ := by rw [HSB.out]; apply ByteArray.ext; simp
 have ng : (9223372036854775807 < l.length + (sum4 n).length) = False := eq_false (by have : (sum4 n).length = 4 := rfl; omega)
 have HBz := Aside0.mk (below_alloc (Below.refl w.heap.size w) (.cells #[.int .u8 ((n : Int) / 16777216), .int .u8 ((n : Int) / 65536 % 256), .int .u8 ((n : Int) / 256 % 256), .int .u8 ((n : Int) % 256)] 5))
 go_enter Tryz.func19, Tryz.ntmps19
 go_wp2_with fail
 refine hS.out.mono ?_
 rintro e w1 ⟨rfl, rfl⟩
 go_wp2
 go_ret
 exact ⟨rfl, HBz.out⟩
end Go.Proofs.YtmfjkepanmoeiaaGreatDoor.CJ
