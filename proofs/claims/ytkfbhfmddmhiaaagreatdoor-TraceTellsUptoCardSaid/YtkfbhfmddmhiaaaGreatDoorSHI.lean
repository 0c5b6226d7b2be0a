/- What the commits of a trace leave: the Go function Serial, walked. Conditions: the trace lies in memory and is not too large. The reference's Serial: the Go function answers the last values of the variables, by their numbers. Conditions: the trace lies in memory and is not too large. -/
import Derived.Test.YtkfbhfmddmhiaaaGreatDoorSS
import Derived.Test.YtkfbhfmddmhiaaaGreatDoorRW3
import Derived.Test.YtkfbhfmddmhiaaaGreatDoorPP
namespace Go.Proofs.YtkfbhfmddmhiaaaGreatDoor.TJ
open Go.ChangeMaps (setBlock)
open Go.Shelf Go.RowKit Go.Sort Go.MapKept Go.Proofs.YtkfbhfmddmhiaaaGreatDoorW.PrintWords Go.Proofs.YtkfbhfmddmhiaaaGreatDoorW.PrintLast Go.Proofs.YtkfbhfmddmhiaaaGreatDoor.PT Go.Proofs.YtkfbhfmddmhiaaaGreatDoor.IMaps
set_option linter.unusedVariables false
set_option linter.unusedSimpArgs false

def SerialPost (w : World) (l : List Ev) (e : Ending) (w' : World) : Prop :=
  Below w.heap.size w w' ∧ match runJ js0 0 l with
    | some _ => e = .returned (.tuple #[.slice none 0 0, .int .i64 45])
    | none => ∃ B d, e = .returned (.tuple #[.slice B (serTo (lastN l) 64).length d, .int .i64 0]) ∧ (serTo (lastN l) 64).length ≤ d ∧ kAc.C w' B (serTo (lastN l) 64).length (serTo (lastN l) 64)

set_option maxRecDepth 100000 in
set_option maxHeartbeats 8000000 in
theorem serial_calls (l : List Ev) (hsm : Small l) (hsz : szL l ≤ 4000000) (w : World) (A : Option Addr) (c : Nat) (hc : l.length ≤ c) (C1 : kEv.C w A l.length l) :
    Calls Tryz.prog 19 #[.slice A l.length c] w (SerialPost w l) := by
  have HJ := Lib.hid (judged_calls l hsm w A c hc C1)
  clear hsm C1 hc
  cases hrun : runJ js0 0 l with
  | some p =>
    have HP : Hid (∀ e w', SerialPost w l e w' = (Below w.heap.size w w' ∧ e = .returned (.tuple #[.slice none 0 0, .int .i64 45]))) := Lib.hid (fun e w' => by unfold SerialPost; rw [hrun])
    go_enter Tryz.func19, Tryz.ntmps19
    go_wp2_with fail
    refine HJ.out.mono ?_
    intro e w1 hp
    obtain ⟨hB, hm⟩ := hp
    rw [hrun] at hm
    obtain rfl : e = _ := hm
    have HB := Aside0.mk hB
    clear hB hrun
    go_wp2
    refine bodyPost_ret (v := .tuple #[.slice none 0 0, .int .i64 45]) (by simp [results, Tryz.results19, go_sem]) rfl ?_
    rw [HP.out]
    exact ⟨HB.out, rfl⟩
  | none =>
    have hinv := run_inv0 hrun
    have HI := Lib.hid hinv
    have HP : Hid (∀ e w', SerialPost w l e w' = (Below w.heap.size w w' ∧ ∃ B d, e = .returned (.tuple #[.slice B (serTo (lastN l) 64).length d, .int .i64 0]) ∧ (serTo (lastN l) 64).length ≤ d ∧ kAc.C w' B (serTo (lastN l) 64).length (serTo (lastN l) 64))) := Lib.hid (fun e w' => by unfold SerialPost; rw [hrun])
    have hvars : (l.foldl learnJ js0).vars = lastN l := funext hinv.vars
    have HS := Lib.hid (fun v y (h : (l.foldl learnJ js0).vars v = some y) => (show szV y ≤ 4000000 from Nat.le_trans (lastN_sz l v y (by rw [← hinv.vars]; exact h)) hsz))
    have HV := Lib.hid hvars
    have HK := Lib.hid hinv.keys
    clear hvars hinv hsz
    go_enter Tryz.func19, Tryz.ntmps19
    go_wp2_with fail
    refine HJ.out.mono ?_
    intro e w1 hp
    obtain ⟨hB, hm⟩ := hp
    rw [hrun] at hm
    obtain ⟨rfl, hJ⟩ := hm
    generalize l.foldl learnJ js0 = J at *
    have hu := Tryz.underlying76
    have hcell := (hJ.facts).2.2.2.2.2.2.2
    obtain ⟨es, clock, hb, hE⟩ := esOk_of hJ
    have HE := Lib.hid hE
    have hrg := run_rangeE (P := Tryz.prog) hb Tryz.underlying74
    have hsr : SRel w J es clock w1.heap.size (w.heap.size + 2) (w1.heap.size + 1) (.slice none 0 0) (w1.alloc (.mapIter (some (w.heap.size + 2)) clock #[] clock)) [] [] :=
      ⟨⟨clock, Nat.le_refl _, (MapKept.heap_alloc w1 _).1⟩, (Below.heap_alloc w1 _ _ (Array.getElem?_eq_some_iff.1 hb).1).trans hb, below_alloc hB _, Kd.R_nil _ _ _ _ _, by simp, by simp, rfl, ⟨by simp, by simp⟩⟩
    have hlt : w.heap.size + 2 < w1.heap.size := (Array.getElem?_eq_some_iff.1 hb).1
    have HSR := Aside0.mk hsr
    have HLT := Lib.hid hlt
    clear hJ hb hB hrun hE hsr hlt
    go_wp2
    generalize hr : w1.heap.size = r at *
    generalize w1.alloc (.mapIter (some (w.heap.size + 2)) clock #[] clock) = w2 at *
    clear hrg hcell hr
    go_loopw [8] (fun v wr => ∃ picked outs, Aside0 (SRel w J es clock r (w.heap.size + 2) (r + 1) v wr picked outs)) (fun v _ => 65 - lenOf v)
    case atStart => exact ⟨[], [], HSR⟩
    case round =>
      clear HSR
      obtain ⟨v, hv⟩ : ∃ v : Value, v = u8 := ⟨_, rfl⟩
      subst hv
      obtain ⟨picked, outs, HR⟩ := hrel
      obtain ⟨c0, hc0, hit⟩ := HR.out.hit
      have hlen := coll_len HR.out.coll HK.out
      rcases run_next_at (P := Tryz.prog) wr 0 r (w.heap.size + 2) clock c0 (picked.map (·.born)).toArray es clock hit HR.out.hmap HE.out.old hc0 with ⟨h0, hn⟩ | ⟨e, he, wn, hwn, hn⟩
      · have hall := srel_all HR.out HE.out h0
        have HRow := HR.out.row
        have HBel := Aside0.mk HR.out.below
        have HCo := HR.out.coll
        by_cases ho : outs.length = 0
        · have he : outs = [] := List.eq_nil_of_length_eq_zero ho
          subst he
          obtain ⟨A', c', rfl, hc', hC'⟩ := Kd.R_reads HRow
          have hnil : serTo (lastN l) 64 = [] := by
            rw [← HV.out]
            exact (coll_sorted HCo HK.out hall (List.Perm.refl _) List.Pairwise.nil).symm
          have HN := Lib.hid hnil
          have HC := Aside0.mk hC'
          clear hall HRow HCo ho hc' hC' hnil HR hit h0
          go_wp2_with fail
          refine (sort_none _ _ _ _).mono ?_
          rintro e w' ⟨rfl, rfl⟩
          go_wp2
          refine bodyPost_ret (v := .tuple #[.slice A' 0 c', .int .i64 0]) (by simp [results, Tryz.results19, go_sem]) rfl ?_
          rw [HP.out, HN.out]
          exact ⟨HBel.out, A', c', rfl, Nat.zero_le _, HC.out⟩
        · obtain ⟨g, cap, ps, rfl, hcap, hmax, hBg, hgl, hps, hD, hH⟩ := row_open HRow (by omega) (fun a ha => HK.out a.f0 (by rw [HCo.vals a ha]; simp))
          have hds : ((ps.map Prod.fst).toArray).size = outs.length := by rw [← hps]; simp
          have hcon := sort_calls g 0 cap (ps.map Prod.fst).toArray wr hH hgl (by rw [hds]; omega)
          have HG := Lib.hid (And.intro (And.intro hcap hmax) (And.intro (And.intro hBg hgl) (And.intro (And.intro hps hds) (And.intro hD hH))))
          rw [hds] at hcon
          have HSo := Lib.hid hcon
          have HAll := Lib.hid (And.intro hall HCo)
          clear hall HRow HCo hds hcon hcap hmax hBg hgl hps hD hH HR hit h0
          go_wp2_with fail
          refine HSo.out.mono ?_
          rintro e w' ⟨rfl, d', m, os, hperm, hsort, rfl⟩
          obtain ⟨⟨hcap, hmax⟩, ⟨hBg, hgl⟩, ⟨hps, hds⟩, hD, hH⟩ := HG.out
          have hsz' : d'.size = outs.length := by rw [hperm.1, hds]
          have hpl : d'.toList.Perm (ps.map Prod.fst) := by
            have := hperm.2.2
            rw [← hsz', Array.extract_size, hsz', ← hds, Array.extract_size] at this
            simpa using this
          obtain ⟨qs, hq1, hq2⟩ := perm_lift hpl ps rfl
          have hqp : (qs.map Prod.snd).Perm outs := by rw [← hps]; exact hq1.map _
          have hDq : ∀ p ∈ qs, DX wr (r + 1) g p.1 p.2 := fun p hp => hD p (hq1.mem_iff.1 hp)
          have hql : qs.length = outs.length := by have := congrArg List.length hq2; simp at this; omega
          have hsrt : (qs.map Prod.snd).Pairwise (fun a b => a.f0 ≤ b.f0) := by
            rw [List.pairwise_iff_getElem]
            intro i j hi hj hij
            rw [List.length_map] at hi hj
            have hs := hsort i j (Nat.zero_le _) hij (by omega)
            rw [ltA] at hs
            have hxi : d'[i]! = qs[i].1 := by
              rw [getElem!_pos _ _ (by omega)]
              have := congrArg (fun l => l[i]?) hq2
              simp only [List.getElem?_map, List.getElem?_eq_getElem hi, Option.map_some, Array.getElem?_toList] at this
              rw [Array.getElem?_eq_getElem (by omega)] at this
              exact (Option.some.inj this).symm
            have hxj : d'[j]! = qs[j].1 := by
              rw [getElem!_pos _ _ (by omega)]
              have := congrArg (fun l => l[j]?) hq2
              simp only [List.getElem?_map, List.getElem?_eq_getElem hj, Option.map_some, Array.getElem?_toList] at this
              rw [Array.getElem?_eq_getElem (by omega)] at this
              exact (Option.some.inj this).symm
            rw [hxi, hxj] at hs
            have d1 := (hDq qs[i] (List.getElem_mem hi)).1
            have d2 := (hDq qs[j] (List.getElem_mem hj)).1
            simp only [List.getElem_map]
            have := of_decide_eq_false hs
            omega
          have heq := coll_sorted HAll.out.2 HK.out HAll.out.1 hqp hsrt
          have hC := row_shut (m := m) (cap := cap) (os := os) hH hgl hperm.1 hq2 hDq (by rw [hds]; omega)
          rw [hds, heq, HV.out] at hC
          have hlen2 : (serTo (lastN l) 64).length = outs.length := by rw [← HV.out, ← heq, List.length_map, hql]
          have HF := Aside0.mk hC
          have HL := Lib.hid (And.intro hlen2 hcap)
          have HB2 : Aside0 (Below w.heap.size w (sortWorldK encA 5 wr g 0 m d' os)) := ⟨sortWorld_below HBel.out (by have := HLT.out; omega) hgl⟩
          clear hperm hsort hsz' hpl hq1 hq2 hqp hDq hql hsrt heq hC hlen2 hcap hmax hBg hgl hps hds hD hH HBel HAll HG HSo
          generalize sortWorldK encA 5 wr g 0 m d' os = w3 at *
          go_wp2
          refine bodyPost_ret (v := .tuple #[.slice (some ⟨g, 0, none⟩) outs.length cap, .int .i64 0]) (by simp [results, Tryz.results19, go_sem]) rfl ?_
          rw [HP.out, HL.out.1]
          exact ⟨HB2.out, some ⟨g, 0, none⟩, cap, rfl, HL.out.2, HF.out⟩
      · obtain ⟨he1, he2⟩ := mem_left he
        obtain ⟨n, x, Ax, cx, hk, hv, hx, hlx, hCx⟩ := HE.out.val e he1
        have hcoll := srel_new HR.out HE.out he hk hx
        have hlen2 := coll_len hcoll HK.out
        rw [List.length_append, List.length_singleton] at hlen2
        have hrw : w.heap.size + 2 < r := HLT.out
        have hNr : (setBlock wn r (.mapIter (some (w.heap.size + 2)) clock ((picked.map (·.born)).toArray.push e.born) clock)).heap[r]? = some (.mapIter (some (w.heap.size + 2)) clock ((picked.map (·.born)).toArray.push e.born) clock) := by
          have hlt : r < wr.heap.size := by have := HR.out.base; omega
          rcases hwn with rfl | rfl <;> simp [setBlock, World.drew, hlt, -World.drew_eq]
        have hNo : ∀ k, k ≠ r → (setBlock wn r (.mapIter (some (w.heap.size + 2)) clock ((picked.map (·.born)).toArray.push e.born) clock)).heap[k]? = wr.heap[k]? := by
          intro k hkr
          rcases hwn with rfl | rfl <;> simp [setBlock, World.drew, Array.getElem?_setIfInBounds, Ne.symm hkr, -World.drew_eq]
        have hNs : (setBlock wn r (.mapIter (some (w.heap.size + 2)) clock ((picked.map (·.born)).toArray.push e.born) clock)).heap.size = wr.heap.size := by
          rcases hwn with rfl | rfl <;> simp [setBlock, World.drew, -World.drew_eq]
        have hNb : Below w.heap.size w (setBlock wn r (.mapIter (some (w.heap.size + 2)) clock ((picked.map (·.born)).toArray.push e.born) clock)) := by
          have hb := HR.out.below
          refine ⟨?_, ?_, ?_, by rw [hNs]; exact hb.size, fun k hk => by rw [hNo k (by omega)]; exact hb.block k hk⟩
          · rcases hwn with rfl | rfl <;> exact hb.os
          · rcases hwn with rfl | rfl <;> exact hb.tape
          · rcases hwn with rfl | rfl <;> exact hb.output
        have hRow := HR.out.row
        have hRN : Kd.R kAc 51 (setBlock wn r (.mapIter (some (w.heap.size + 2)) clock ((picked.map (·.born)).toArray.push e.born) clock)) (r + 1) (fun _ => True) v outs :=
          Kd.R_mono (Kd.R_step (Kd.R_bound hRow) (fun k hk _ => hNo k (by have := hk.2.1; omega))) (fun _ _ => trivial)
        have hMN := (hNo (w.heap.size + 2) (by omega)).trans HR.out.hmap
        have hen := run_entry_at (P := Tryz.prog) _ r (w.heap.size + 2) clock (picked.map (·.born)).toArray es clock e hNr hMN he1 HE.out.borns
        rw [hk, hv] at hn hen
        obtain ⟨kk, hkk⟩ := Ev.rounds (valueOf_ok _ x (Nat.le_refl _) (HS.out _ _ hx))
        have HVal := Lib.hid (fun U (hb : Below w.heap.size w U) => trace_valueOf.calls kk x.f0 x.f1 x.f2 Ax cx x.f3 _ _ _ _ U (Kd.C_below hCx hb) hlx hkk)
        have hown : ∀ k, v.ownBlock = some k → r + 1 ≤ k := fun k hk => (Kd.R_bound hRow).1 k hk |>.2.1
        have hbase := HR.out.base
        have HKeep := Lib.hid (And.intro (And.intro HR.out.sub HR.out.keys) (And.intro hcoll (And.intro he1 (And.intro hk hrw))))
        obtain ⟨Av, cv, hvs⟩ := Kd.R_slice hRow
        have hlv : lenOf v = outs.length := by rw [hvs]; rfl
        have HLen := Lib.hid hlv
        generalize setBlock wn r (.mapIter (some (w.heap.size + 2)) clock ((picked.map (·.born)).toArray.push e.born) clock) = N at *
        have HN := Aside0.mk (And.intro hNr (And.intro hMN (And.intro hNb (And.intro hRN hNs))))
        have HOwn := Lib.hid (And.intro hown hbase)
        clear hNr hNo hNs hNb hRow hRN hMN hkk hown hcoll he he1 he2 hk hv hx hlx hCx hit hc0 HR hwn hvs hlv hrw hbase
        go_wp2_with fail
        have hbx := below_alloc HN.out.2.2.1 (.cells #[.int .i64 x.f0, .int .i64 x.f1, .string x.f2, .slice Ax x.f3.length cx] 49)
        refine (HVal.out _ hbx).mono ?_
        rintro e9 w9 ⟨v3, rfl, hR3, hb9⟩
        obtain ⟨A9, c9, rfl⟩ := Kd.R_slice hR3
        have hall9 := below_step (below_alloc (Below.refl N.heap.size N) (.cells #[.int .i64 x.f0, .int .i64 x.f1, .string x.f2, .slice Ax x.f3.length cx] 49)) hb9
        have hrow9 : Kd.R kAc 51 w9 (r + 1) (fun _ => True) v outs := Kd.R_below HN.out.2.2.2.1 hall9
        have hsz9 : r + 1 ≤ w9.heap.size := by have := hall9.size; have := HN.out.2.2.2.2; have := HOwn.out.2; omega
        have hvlt : ∀ k, v.ownBlock = some k → k < (N.alloc (.cells #[.int .i64 x.f0, .int .i64 x.f1, .string x.f2, .slice Ax x.f3.length cx] 49)).heap.size := fun k hk => by
          have := ((Kd.R_bound HN.out.2.2.2.1).1 k hk).2.2.1
          simp only [World.size_alloc]
          omega
        have hR3' : Kd.R kVl 49 w9 (r + 1) (fun k => some k ≠ v.ownBlock) (.slice A9 x.f3.length c9) x.f3 :=
          Kd.R_lower (Kd.R_mono (Kd.R_new' hR3 hvlt) (fun _ hk => hk.2)) (by simp only [World.size_alloc]; have := HN.out.2.2.2.2; have := HOwn.out.2; omega)
        have HA := Aside0.mk (And.intro hrow9 (And.intro hsz9 (And.intro hR3' (And.intro (hall9.block r (by have := HN.out.2.2.2.2; have := HOwn.out.2; omega)) (And.intro (hall9.block (w.heap.size + 2) (by have := HN.out.2.2.2.2; have := HOwn.out.2; have := HKeep.out.2.2.2.2; omega)) (below_step HN.out.2.2.1 hall9))))))
        clear hbx hR3 hb9 hall9 hrow9 hsz9 hvlt hR3' hen hn HVal
        go_wp2_with (at_builtin; refine Kd.R_append kAc (w0 := w9) (r + 1) rfl _ _ 35 51 _ _ rfl Tryz.underlying35 info51 rfl (show 0 < 5 by decide) (by omega) v outs (⟨n, x⟩ : Ac) [.int .i64 n, .int .i64 x.f0, .int .i64 x.f1, .string x.f2, .slice A9 x.f3.length c9] (fun _ => True) (fun k => some k ≠ v.ownBlock) rfl rfl ?aP (fun _ h => ⟨trivial, h⟩) (fun _ _ => trivial) HA.out.1 (Below.refl _ _) HA.out.2.1 (by omega) ?_; (case aP => exact k51_mkM _ _ _ (⟨n, x⟩ : Ac) HA.out.2.2.1); intro v1 w11 hR1 hb1 hg1 _)
        obtain ⟨_, _, _, q1, q2, q3⟩ := HA.out
        have hsr : SRel w J es clock r (w.heap.size + 2) (r + 1) v1 w11 (picked ++ [e]) (outs ++ [⟨n, x⟩]) := by
          refine ⟨⟨clock, Nat.le_refl _, ?_⟩, ?_, ?_, hR1, ?_, ?_, ?_, HKeep.out.2.1⟩
          · rw [hb1.block r (by omega), q1, HN.out.1]
            simp
          · rw [hb1.block (w.heap.size + 2) (by have := HKeep.out.2.2.2.2; omega), q2]
            exact HN.out.2.1
          · exact q3.trans (hb1.mono (by have := HKeep.out.2.2.2.2; omega))
          · exact Nat.le_trans HA.out.2.1 hb1.size
          · intro p hp
            rcases List.mem_append.1 hp with hp | hp
            · exact HKeep.out.1.1 p hp
            · rw [List.mem_singleton] at hp; rw [hp]; exact HKeep.out.2.2.1
          · rw [List.map_append, List.map_append, HKeep.out.1.2]
            simp [HKeep.out.2.2.2.1]
        obtain ⟨Av1, cv1, hvs1⟩ := Kd.R_slice hR1
        have HL1 := Lib.hid (show lenOf v1 = outs.length + 1 by rw [hvs1]; simp [lenOf])
        have HSR := Aside0.mk hsr
        clear hsr hvs1 hR1 hb1 hg1 q1 q2 q3
        go_wp2
        go_roundw
        case rel => exact ⟨_, _, HSR⟩
        case measure =>
          have := HL1.out
          have := HLen.out
          show 65 - lenOf v1 < 65 - lenOf v
          omega
end Go.Proofs.YtkfbhfmddmhiaaaGreatDoor.TJ
namespace Go.Proofs.YtkfbhfmddmhiaaaGreatDoor.TJ
open Go.RowKit Go.Proofs.YtkfbhfmddmhiaaaGreatDoorW.PrintWords Go.Proofs.YtkfbhfmddmhiaaaGreatDoorW.PrintLast Go.Proofs.YtkfbhfmddmhiaaaGreatDoor.PT Go.Proofs.YtkfbhfmddmhiaaaGreatDoor.IMaps
set_option linter.unusedVariables false
set_option linter.unusedSimpArgs false

abbrev kFa (w : World) : Kd Ac := Kd.fixed kAc w

set_option maxRecDepth 100000 in
set_option maxHeartbeats 4000000 in
theorem refSerial_calls (l : List Ev) (hsz : szL l ≤ 4000000) (w : World) (A : Option Addr) (c : Nat) (hc : l.length ≤ c) (C1 : kEv.C w A l.length l) :
    Calls Tryz.prog 21 #[.slice A l.length c] w fun e w' => ∃ v, e = .returned v ∧ Kd.R (kFa w) 51 w' w.heap.size (fun _ => True) v (serTo (lastN l) 64) ∧ Below w.heap.size w w' := by
  have hll : l.length ≤ 4000000 := Nat.le_trans (szL_len l) hsz
  have hex : ∀ x ∈ l, x.f6.length ≤ 4000000 := fun x hx => by
    have h1 := szE_mem l x hx
    unfold szE at h1
    exact Nat.le_trans (szA_len _) (by omega)
  have HLast := Lib.hid (fun (v : Int) W (hb : Below w.heap.size w W) => last_calls l l.length (Nat.le_refl _) v hll hex w A c hc C1 W hb)
  simp only [List.take_length] at HLast
  clear hex hsz hc C1
  go_enter Tryz.func21, Tryz.ntmps21
  go_wp2
  go_loopw [3, 4] (fun v i wr => ∃ j : Nat, j ≤ 64 ∧ i = .int .i64 j ∧ Aside0 (Kd.R (kFa w) 51 wr w.heap.size (fun _ => True) v (serTo (lastN l) j)) ∧ Aside0 (Below w.heap.size w wr)) (fun _ i _ => 64 - (intOf i).toNat)
  case atStart => exact ⟨0, by omega, rfl, ⟨Kd.R_nil _ _ _ _ _⟩, ⟨Below.refl _ _⟩⟩
  case round =>
    obtain ⟨v, hv⟩ : ∃ v : Value, v = u3 := ⟨_, rfl⟩
    subst hv
    obtain ⟨j, hj, rfl, HR, HB⟩ := hrel
    by_cases hlt : j < 64
    · have hd : decide ((j : Int) < 64) = true := decide_eq_true (by omega)
      go_wp2_with fail
      refine (HLast.out (j : Int) _ HB.out).mono ?_
      intro e w2 hp
      obtain ⟨hb2, hp⟩ := hp
      have HB2 := Aside0.mk (below_step HB.out hb2)
      have HR2 := Aside0.mk (Kd.R_below HR.out hb2)
      clear hb2 HR HB
      cases hL : lastN l (j : Int) with
      | none =>
        rw [hL] at hp
        obtain rfl : e = _ := hp
        have hst := serTo_none _ _ hL
        rw [← hst] at HR2
        have HR3 := Lib.hid (fun o => Aside0.mk (Kd.R_alloc HR2.out o))
        have HB3 := Lib.hid (fun o => Aside0.mk (below_alloc HB2.out o))
        clear hL hst HR2 HB2
        go_wp2
        go_roundw
        case rel => exact ⟨j + 1, by omega, by go_num, HR3.out _, HB3.out _⟩
        case measure => simp [intOf]; omega
      | some x =>
        rw [hL] at hp
        obtain ⟨B3, e3, rfl, ge, Ce⟩ := hp
        have hst := serTo_some _ _ _ hL
        have hK := k51_mk w (⟨(j : Int), x⟩ : Ac) ge Ce
        have hlen := serTo_len (lastN l) j
        have HK := Lib.hid (And.intro hK (And.intro hst hlen))
        have HC := Lib.hid (show ((serTo (lastN l) j).length + 1) * 64 ≤ 140737488355328 by omega)
        clear hL hst hK hlen ge Ce
        go_wp2_with (at_builtin; refine Kd.R_append (kFa w) (w0 := w) w.heap.size rfl _ _ 35 51 _ _ rfl Tryz.underlying35 info51 rfl (show 0 < 5 by decide) (by omega) v (serTo (lastN l) j) (⟨(j : Int), x⟩ : Ac) [.int .i64 (j : Int), .int .i64 x.f0, .int .i64 x.f1, .string x.f2, .slice B3 x.f3.length e3] (fun _ => True) (fun _ => False) rfl (by simp only [World.size_alloc]; rfl) HK.out.1 (fun _ h => h.elim) (fun _ _ => trivial) ?aR ?aB ?aS HC.out ?_; (case aR => exact Kd.R_alloc HR2.out _); (case aB => exact below_alloc HB2.out _); (case aS => exact (below_alloc HB2.out _).size); intro v1 w1 hR1 hb1 _ _)
        have HR1 : Aside0 (Kd.R (kFa w) 51 w1 w.heap.size (fun _ => True) v1 (serTo (lastN l) (j + 1))) := ⟨by rw [HK.out.2.1]; exact hR1⟩
        have HB1 := Aside0.mk hb1
        clear hR1 hb1 HR2 HB2
        go_wp2
        go_roundw
        case rel => exact ⟨j + 1, by omega, by go_num, HR1, HB1⟩
        case measure => simp [intOf]; omega
    · have hje : j = 64 := by omega
      subst hje
      go_wp2
      go_ret
      exact ⟨_, rfl, HR.out, HB.out⟩
theorem refSerial_reads {l : List Ac} {w w' : World} {v : Value} {b : Nat} (h : Kd.R (kFa w) 51 w' b (fun _ => True) v l) (hb : Below w.heap.size w w') : ∃ A c, v = .slice A l.length c ∧ l.length ≤ c ∧ kAc.C w' A l.length l := by
  obtain ⟨A, c, rfl, hl, hC⟩ := Kd.R_reads h
  exact ⟨A, c, rfl, hl, ReadsRow.imp_ hC (Below.refl _ _) (fun _ _ hp => kAc.K_below hb hp)⟩
end Go.Proofs.YtkfbhfmddmhiaaaGreatDoor.TJ
