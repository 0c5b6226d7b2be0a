/- The reader's method block. Conditions: the reader lies in memory; its bytes take at most 200000. The reader's method code. Conditions: the reader lies in memory; its bytes take at most 200000. -/
import Derived.Test.YtmfjkepanmoeiaaGreatDoorU3
namespace Go.Proofs.YtmfjkepanmoeiaaGreatDoor.CJ
open Go.RowKit Go.Proofs.YtmfjkepanmoeiaaGreatDoorW.PrintWords Go.Proofs.YtmfjkepanmoeiaaGreatDoorW.PrintLast Go.Proofs.YtmfjkepanmoeiaaGreatDoor.PT Go.Proofs.YtmfjkepanmoeiaaGreatDoor.IMaps Go.Proofs.YtmfjkepanmoeiaaGreatDoor.TJ
set_option linter.unusedVariables false
set_option linter.unusedSimpArgs false
theorem rdBind_le {α β : Type} {o : Option (α × List UInt8)} {f : α → List UInt8 → Option (β × List UInt8)} {y : β} {r2 : List UInt8} {n : Nat} (h : rdBind o f = some (y, r2)) (h2 : ∀ x r, o = some (x, r) → f x r = some (y, r2) → r2.length < n) : r2.length < n := by
 cases ho : o with
 | none => rw [ho] at h; cases h
 | some p => obtain ⟨x, r⟩ := p; rw [ho] at h; exact h2 x r ho h
theorem altR_le {l : List UInt8} {a : GAl} {r : List UInt8} (h : altR l = some (a, r)) : r.length < l.length := by
 unfold altR at h
 refine rdBind_le h fun x1 r1 e1 h => rdBind_le h fun x2 r2 e2 h => rdBind_le h fun x3 r3 e3 h => rdBind_le h fun x4 r4 e4 h => ?_
 have := numR_le e1
 have := strR_le e2
 have := integerR_le e3
 have := numR_le e4
 simp only [Option.some.injEq, Prod.mk.injEq] at h
 rw [← h.2]
 omega
theorem opR_le {l : List UInt8} {a : GOp} {r : List UInt8} (h : opR l = some (a, r)) : r.length < l.length := by
 unfold opR at h
 refine rdBind_le h fun x1 r1 e1 h => rdBind_le h fun x2 r2 e2 h => rdBind_le h fun x3 r3 e3 h => rdBind_le h fun x4 r4 e4 h => rdBind_le h fun x5 r5 e5 h => rdBind_le h fun x6 r6 e6 h => rdBind_le h fun x7 r7 e7 h => rdBind_le h fun x8 r8 e8 h => ?_
 have := nextR_le e1
 have := numR_le e2
 have := numR_le e3
 have := integerR_le e4
 have := strR_le e5
 have := numsR_le e6
 have := countR_le e7
 have := listR_le (fun _ _ _ h => altR_le h) _ _ _ _ e8
 simp only [Option.some.injEq, Prod.mk.injEq] at h
 rw [← h.2]
 omega
def blockR (l : List UInt8) : Option (GBk × List UInt8) := rdBind (numR l) fun f0 r1 => rdBind (numR r1) fun f1 r2 => rdBind (countR r2) fun n r3 => rdBind (listR opR n.toNat r3) fun f2 r4 => some (⟨f0, f1, f2⟩, r4)
theorem blockR_le {l : List UInt8} {a : GBk} {r : List UInt8} (h : blockR l = some (a, r)) : r.length < l.length := by
 unfold blockR at h
 refine rdBind_le h fun x1 r1 e1 h => rdBind_le h fun x2 r2 e2 h => rdBind_le h fun x3 r3 e3 h => rdBind_le h fun x4 r4 e4 h => ?_
 have := numR_le e1
 have := numR_le e2
 have := countR_le e3
 have := listR_le (fun _ _ _ h => opR_le h) _ _ _ _ e4
 simp only [Option.some.injEq, Prod.mk.injEq] at h
 rw [← h.2]
 omega
def pBlk (B : Nat) (W : World) (x : GBk) (v : Value) : Prop := ∃ cs, v = .agg cs.toArray ∧ kBk.M W B (fun _ => True) x cs
set_option maxRecDepth 100000 in
set_option maxHeartbeats 8000000 in
theorem block_reads (w : World) (q : Nat) (l : List UInt8) (h : RD w q l) :
 Calls Tryz.prog 103 #[.pointer (some ⟨q, 0, none⟩)] w (RdPost q w (pBlk w.heap.size) (blockR l)) := by
 obtain ⟨F, hF⟩ : ∃ F, F = blockR l := ⟨_, rfl⟩
 rw [← hF]
 have HF := Lib.hid hF
 have hl0 := h.1
 have hq0 := h.lt
 unfold LE20 at hl0
 clear hF
 unfold blockR at HF
 go_enter Tryz.func103, Tryz.ntmps103
 go_wp2_with (first | ((with_reducible refine gate_dst (N := 2) rfl ?_); refine box_event ?hg (N := 2) ?hd (cs := #[.int .i64 0, .int .i64 0, .slice none 0 0]) (t := 71) ?hr ?_; (case hd => rfl); (case hg => rfl); (case hr => first | (go_simp; done) | (go_simp; rfl)); intro p2 hp2 w1 hbox2 hb1; have hp2' : w.heap.size ≤ p2 := Nat.le_of_eq hp2.symm; clear hp2))
 have HR1 := h.below hb1
 have HT1 : Tch q w w1 := Tch.of hb1
 cases hn : numR l with
 | none =>
  have HE := Lib.hid (HF.out.trans (rdBind_none hn))
  refine (num_reads _ q l HR1).mono ?_
  rw [hn]
  rintro e wz ⟨rfl, hT⟩
  go_wp2
  exact ⟨rfl, by rw [HE.out]; exact ⟨rfl, HT1.trans hT⟩⟩
 | some p =>
  obtain ⟨f0, r1⟩ := p
  have HE := Lib.hid (HF.out.trans (rdBind_some hn))
  have hlr := numR_le hn
  refine (num_reads _ q l HR1).mono ?_
  rw [hn]
  rintro e w2 ⟨v, rfl, ⟨rfl, -, -⟩, hR, hT⟩
  have HT2 := HT1.trans hT
  have hbox2' := (hT.block p2 (blk_lt hbox2) (fun e => by injection e; omega)).trans hbox2
  have HS0 := OS.new (T2 := 71) (T3 := 71) (c3 := #[.int .i64 f0, .int .i64 0, .slice none 0 0]) hq0 hp2' hbox2' hR HT2
  clear hbox2 hbox2' hR hT HT1 HT2 HR1 hb1 hn HF
  have HF := HE
  clear HE
  go_wp2_with fail
  generalize hW : w2.alloc (.cells #[.int .i64 f0, .int .i64 0, .slice none 0 0] 71) = W at *
  generalize hp3 : w2.heap.size = p3 at *
  have HS : Aside0 (OS q p2 p3 71 71 w W #[.int .i64 0, .int .i64 0, .slice none 0 0] #[.int .i64 f0, .int .i64 0, .slice none 0 0] r1) := ⟨HS0⟩
  clear HS0 hW hp3
  have hc := num_reads W q r1 HS.out.rd
  cases hn : numR r1 with
  | none =>
   rw [hn] at hc
   have HE := Lib.hid (HF.out.trans (rdBind_none hn))
   refine hc.mono ?_
   rintro e wz ⟨rfl, hT⟩
   go_wp2
   exact ⟨rfl, by rw [HE.out]; exact ⟨rfl, HS.out.tch.trans hT⟩⟩
  | some p =>
   obtain ⟨f1, r2⟩ := p
   rw [hn] at hc
   have hlr_r2 := numR_le hn
   have HE := Lib.hid (HF.out.trans (rdBind_some hn))
   refine hc.mono ?_
   rintro e wy ⟨v, rfl, hv, hR, hT⟩
   obtain ⟨rfl, -⟩ := hv
   have HSy : Aside0 (OS q p2 p3 71 71 w wy #[.int .i64 0, .int .i64 0, .slice none 0 0] #[.int .i64 f0, .int .i64 0, .slice none 0 0] r2) := ⟨HS.out.call hT hR⟩
   have d := cellH HSy.out.hl (i := 1) rfl
   have f := frozenH HSy.out.hl 1
   have HS2 : Aside0 (OS q p2 p3 71 71 w (wy.setCell ⟨p3, 1, none⟩ (.int .i64 f1)) #[.int .i64 0, .int .i64 0, .slice none 0 0] #[.int .i64 f0, .int .i64 f1, .slice none 0 0] r2) := ⟨HSy.out.set 1 (.int .i64 f1)⟩
   clear hR hT hc hn HS HF 
   have HF := HE
   clear HE
   go_wp2_with (fail)
   generalize wy.setCell ⟨p3, 1, none⟩ (.int .i64 f1) = W2 at *
   clear d f HSy
   have HS := HS2
   clear HS2
   have hc := count_reads W2 q r2 HS.out.rd
   cases hn : countR r2 with
   | none =>
    rw [hn] at hc
    have HE := Lib.hid (HF.out.trans (rdBind_none hn))
    refine hc.mono ?_
    rintro e wz ⟨rfl, hT⟩
    go_wp2
    exact ⟨rfl, by rw [HE.out]; exact ⟨rfl, HS.out.tch.trans hT⟩⟩
   | some p =>
    obtain ⟨n, r3⟩ := p
    rw [hn] at hc
    have hlr_r3 := countR_le hn
    have HE := Lib.hid (HF.out.trans (rdBind_some hn))
    refine hc.mono ?_
    rintro e wy ⟨v, rfl, hv, hR, hT⟩
    obtain ⟨rfl, -, -⟩ := hv
    have HSy : Aside0 (OS q p2 p3 71 71 w wy #[.int .i64 0, .int .i64 0, .slice none 0 0] #[.int .i64 f0, .int .i64 f1, .slice none 0 0] r3) := ⟨HS.out.call hT hR⟩
    obtain ⟨k, rfl, hk, -⟩ := countR_in hn
    have HF2 : Hid (F = rdBind (listS opR [] k r3) (fun f2 r4 => some ((⟨f0, f1, f2⟩ : GBk), r4))) := Lib.hid (by rw [listS_nil]; exact HE.out)
    have HR6 : Aside0 (kOp.R 75 wy w.heap.size (fun _ => True) (.slice none 0 0) []) := ⟨Kd.R_nil _ _ _ _ _⟩
    clear hR hT hc hn HS HF HE
    go_wp2
    go_loopw [13] (fun v wr => ∃ (xs : List GOp) (rr : List UInt8) (A6 : Option Addr) (c6 : Nat), xs.length ≤ k ∧ v = .int .i64 xs.length ∧ rr.length ≤ 200000 ∧ Hid (F = rdBind (listS opR xs (k - xs.length) rr) (fun f2 r4 => some ((⟨f0, f1, f2⟩ : GBk), r4))) ∧ Aside0 (OS q p2 p3 71 71 w wr #[.int .i64 0, .int .i64 0, .slice none 0 0] #[.int .i64 f0, .int .i64 f1, .slice A6 xs.length c6] rr) ∧ Aside0 (kOp.R 75 wr w.heap.size (fun _ => True) (.slice A6 xs.length c6) xs)) (fun v _ => k - (intOf v).toNat)
    case atStart => exact ⟨[], r3, none, 0, by simp, rfl, by omega, HF2, HSy, HR6⟩
    case round =>
     obtain ⟨xs, rr, A6, c6, hi, rfl, hrr, HF, HS, HV6⟩ := hrel
     clear HSy HR6 HF2
     by_cases hlt : xs.length < k
     ·have HZ : Hid (opR rr = none → F = none) := Lib.hid (fun h => HF.out.trans (rdBind_none (show listS opR xs (k - xs.length) rr = none by rw [show k - xs.length = (k - xs.length - 1) + 1 from by omega]; exact listS_none _ _ _ _ h)))
      have HY : Hid (∀ a r', opR rr = some (a, r') → F = rdBind (listS opR (xs ++ [a]) (k - (xs ++ [a]).length) r') (fun f2 r4 => some ((⟨f0, f1, f2⟩ : GBk), r4))) := Lib.hid (fun a r' h => HF.out.trans (congrArg (fun o => rdBind o (fun f2 r4 => some ((⟨f0, f1, f2⟩ : GBk), r4))) (show listS opR xs (k - xs.length) rr = listS opR (xs ++ [a]) (k - (xs ++ [a]).length) r' by rw [show k - xs.length = (k - (xs ++ [a]).length) + 1 from by simp; omega]; exact listS_more _ _ _ _ h)))
      have hc := op_reads wr q rr HS.out.rd
      cases hn : opR rr with
      | none =>
       rw [hn] at hc
       have HE := Lib.hid (HZ.out hn)
       have HC := Lib.hid hc
       clear hc hn HF HY HZ
       go_wp2_with fail
       refine HC.out.mono ?_
       rintro e wz ⟨rfl, hT⟩
       go_wp2
       exact ⟨rfl, by rw [HE.out]; exact ⟨rfl, HS.out.tch.trans hT⟩⟩
      | some p =>
       obtain ⟨g, s1⟩ := p
       rw [hn] at hc
       have HN := Lib.hid (HY.out g s1 hn)
       have hls := opR_le hn
       have HC := Lib.hid hc
       clear hc hn HF HY HZ
       go_wp2_with fail
       refine HC.out.mono ?_
       rintro e wy ⟨v, rfl, ⟨cs, rfl, hM⟩, hR, hT⟩
       obtain ⟨v5, v6, rfl, h5, h6⟩ := k75_openM hM
       obtain ⟨B5, b5, rfl⟩ := Kd.R_slice h5
       obtain ⟨B6, b6, rfl⟩ := Kd.R_slice h6
       have HSy : Aside0 (OS q p2 p3 71 71 w wy #[.int .i64 0, .int .i64 0, .slice none 0 0] #[.int .i64 f0, .int .i64 f1, .slice A6 xs.length c6] s1) := ⟨HS.out.call hT hR⟩
       have HV6y : Aside0 (kOp.R 75 wy w.heap.size (fun _ => True) (.slice A6 xs.length c6) xs) := ⟨rowT HV6.out HS.out.rd hT (by decide)⟩
       have hMn := kOp.M_lower HS.out.tch.size (Kd.M_new hM (Kd.R_own HV6.out).choose_spec)
       have HM := Aside0.mk hMn
       clear hR hT hM hMn h5 h6 HC HS HV6
       have hbA := below_alloc (Below.refl wy.heap.size wy) (.cells #[.int .i64 g.f0, .int .i64 g.f1, .int .i64 g.f2, .int .i64 g.f3, .string g.f4, .slice B5 g.f5.length b5, .slice B6 g.f6.length b6] 75)
       have hx4 := blk_new wy (.cells #[.int .i64 g.f0, .int .i64 g.f1, .int .i64 g.f2, .int .i64 g.f3, .string g.f4, .slice B5 g.f5.length b5, .slice B6 g.f6.length b6] 75)
       have HSA := Aside0.mk (HSy.out.below hbA)
       have HVA := Aside0.mk (Kd.R_below HV6y.out hbA)
       have HMA := Aside0.mk (Kd.M_below HM.out hbA)
       clear HSy HV6y HM hbA
       go_wp2_with (first | ((with_reducible refine gate_dst (N := 17) rfl ?_); refine Hid.out ?_))
       generalize hWA : wy.alloc (.cells #[.int .i64 g.f0, .int .i64 g.f1, .int .i64 g.f2, .int .i64 g.f3, .string g.f4, .slice B5 g.f5.length b5, .slice B6 g.f6.length b6] 75) = WA at *
       generalize hp4 : wy.heap.size = p4 at *
       clear hWA hp4
       have d0 := cellH hx4 (i := 0) rfl
       have d1 := cellH hx4 (i := 1) rfl
       have d2 := cellH hx4 (i := 2) rfl
       have d3 := cellH hx4 (i := 3) rfl
       have d4 := cellH hx4 (i := 4) rfl
       have d5 := cellH hx4 (i := 5) rfl
       have d6 := cellH hx4 (i := 6) rfl
       have x2 := cellH HSA.out.hl (i := 2) rfl
       clear hx4
       refine Lib.hid ?_
       go_wp2_with (refine Kd.R_append kOp (w0 := WA) w.heap.size rfl _ _ 69 75 (.agg #[(.int .i64 0), (.int .i64 0), (.int .i64 0), (.int .i64 0), (.string ⟨#[]⟩), (.slice none 0 0), (.slice none 0 0)]) 96 rfl Tryz.underlying69 info75 rfl (by decide) (by omega) (.slice A6 xs.length c6) xs g [.int .i64 g.f0, .int .i64 g.f1, .int .i64 g.f2, .int .i64 g.f3, .string g.f4, .slice B5 g.f5.length b5, .slice B6 g.f6.length b6] (fun _ => True) _ rfl rfl HMA.out (fun _ h => h) (fun _ _ => trivial) HVA.out (Below.refl _ _) HSA.out.tch.size (by omega) ?_)
       intro v1 w3 hrow hb3 hg hat
       obtain ⟨A7, c7, rfl⟩ := Kd.R_slice hrow
       have HS3 : Aside0 (OS q p2 p3 71 71 w w3 #[.int .i64 0, .int .i64 0, .slice none 0 0] #[.int .i64 f0, .int .i64 f1, .slice A6 xs.length c6] s1) := ⟨HSA.out.grown HVA.out hg (by decide) (by decide) (by decide)⟩
       have HV63 : Aside0 (kOp.R 75 w3 w.heap.size (fun _ => True) (.slice A7 (xs ++ [g]).length c7) (xs ++ [g])) := ⟨hrow⟩
       have hxl : ((xs ++ [g]).length : Int) = xs.length + 1 := by simp
       have hxk : (xs ++ [g]).length ≤ k := by simp; omega
       have hs4 : s1.length ≤ 200000 := by omega
       clear hrow hb3 hg hat HSA HVA HMA
       generalize hxs : xs ++ [g] = xs2 at *
       clear hxs d0 d1 d2 d3 d4 d5 d6 x2
       have d2 := cellH HS3.out.hl (i := 2) rfl
       have z2 := frozenH HS3.out.hl 2
       go_wp2
       go_roundw
       case rel => exact ⟨xs2, s1, A7, c7, hxk, by rw [hxl], hs4, HN, ⟨HS3.out.set 2 _⟩, ⟨Kd.R_set HV63.out HS3.out.hl (by decide) 2 _⟩⟩
       case measure => simp [intOf]; omega
     ·obtain rfl : k = xs.length := by omega
      have HE := Lib.hid (HF.out.trans (rdBind_some (show listS opR xs (xs.length - xs.length) rr = some (xs, rr) by rw [Nat.sub_self]; exact listS_end _ _ _)))
      have d0 := cellH HS.out.hl (i := 0) rfl
      have e0 := cellH HS.out.h2 (i := 0) rfl
      have z0 := frozenH HS.out.h2 0
      have d1 := cellH HS.out.hl (i := 1) rfl
      have e1 := cellH HS.out.h2 (i := 1) rfl
      have z1 := frozenH HS.out.h2 1
      have d2 := cellH HS.out.hl (i := 2) rfl
      have e2 := cellH HS.out.h2 (i := 2) rfl
      have z2 := frozenH HS.out.h2 2
      have HV6f : Aside0 (kOp.R 75 (((wr.setCell ⟨p2, 0, none⟩ (.int .i64 f0)).setCell ⟨p2, 1, none⟩ (.int .i64 f1)).setCell ⟨p2, 2, none⟩ (.slice A6 xs.length c6)) w.heap.size (fun _ => True) (.slice A6 xs.length c6) xs) := ⟨(Kd.R_set (Kd.R_set (Kd.R_set HV6.out HS.out.h2 (by decide) 0 (.int .i64 f0)) (HS.out.set2 0 (.int .i64 f0)).h2 (by decide) 1 (.int .i64 f1)) ((HS.out.set2 0 (.int .i64 f0)).set2 1 (.int .i64 f1)).h2 (by decide) 2 (.slice A6 xs.length c6))⟩
      have HSf : Aside0 (OS q p2 p3 71 71 w (((wr.setCell ⟨p2, 0, none⟩ (.int .i64 f0)).setCell ⟨p2, 1, none⟩ (.int .i64 f1)).setCell ⟨p2, 2, none⟩ (.slice A6 xs.length c6)) #[.int .i64 f0, .int .i64 f1, .slice A6 xs.length c6] #[.int .i64 f0, .int .i64 f1, .slice A6 xs.length c6] rr) := ⟨(((HS.out.set2 0 (.int .i64 f0)).set2 1 (.int .i64 f1)).set2 2 (.slice A6 xs.length c6))⟩
      clear HF HS HV6
      go_wp2
      generalize (((wr.setCell ⟨p2, 0, none⟩ (.int .i64 f0)).setCell ⟨p2, 1, none⟩ (.int .i64 f1)).setCell ⟨p2, 2, none⟩ (.slice A6 xs.length c6)) = WF at *
      have x0 := cellH HSf.out.h2 (i := 0) rfl
      have x1 := cellH HSf.out.h2 (i := 1) rfl
      have x2 := cellH HSf.out.h2 (i := 2) rfl
      refine bodyPost_ret (v := .agg #[.int .i64 f0, .int .i64 f1, .slice A6 xs.length c6]) (by simp [results, Tryz.results103, go_sem, x0, x1, x2]) rfl ?_
      rw [HE.out]
      exact ⟨_, rfl, ⟨_, rfl, k71_mkM WF w.heap.size (fun _ => True) ⟨f0, f1, xs⟩ HV6f.out⟩, HSf.out.rd, HSf.out.tch⟩
def globR (l : List UInt8) : Option (GGl × List UInt8) := rdBind (strR l) fun f0 r1 => rdBind (numR r1) fun f1 r2 => some (⟨f0, f1⟩, r2)
theorem globR_le {l : List UInt8} {a : GGl} {r : List UInt8} (h : globR l = some (a, r)) : r.length < l.length := by
 unfold globR at h
 refine rdBind_le h fun x1 r1 e1 h => rdBind_le h fun x2 r2 e2 h => ?_
 have := strR_le e1
 have := numR_le e2
 simp only [Option.some.injEq, Prod.mk.injEq] at h
 rw [← h.2]
 omega
def codeR (l : List UInt8) : Option ((List GBk × List GGl) × List UInt8) := rdBind (countR l) fun n r1 => rdBind (listR blockR n.toNat r1) fun bs r2 => rdBind (countR r2) fun n r3 => rdBind (listR globR n.toNat r3) fun gl r4 => if r4 = [] then some ((bs, gl), r4) else none
def pCode (B : Nat) (W : World) (x : List GBk × List GGl) (v : Value) : Prop := ∃ vA vB, v = .agg #[vA, vB] ∧ kBk.R 71 W B (fun _ => True) vA x.1 ∧ kGl.R 52 W B (fun _ => True) vB x.2
set_option maxRecDepth 100000 in
set_option maxHeartbeats 8000000 in
theorem code_reads (w : World) (q : Nat) (l : List UInt8) (h : RD w q l) :
 Calls Tryz.prog 54 #[.pointer (some ⟨q, 0, none⟩)] w (RdPost q w (pCode w.heap.size) (codeR l)) := by
 obtain ⟨F, hF⟩ : ∃ F, F = codeR l := ⟨_, rfl⟩
 rw [← hF]
 have HF := Lib.hid hF
 have hl0 := h.1
 have hq0 := h.lt
 unfold LE20 at hl0
 clear hF
 unfold codeR at HF
 go_enter Tryz.func54, Tryz.ntmps54
 go_wp2_with (first
  | ((with_reducible refine gate_dst (N := 2) rfl ?_); refine box_event ?hg (N := 2) ?hd (cs := #[.slice none 0 0, .slice none 0 0]) (t := 25) ?hr ?_; (case hd => rfl); (case hg => rfl); (case hr => first | (go_simp; done) | (go_simp; rfl)); intro p2 hp2 w1 hbox2 hb1; have hp2' : w.heap.size ≤ p2 := Nat.le_of_eq hp2.symm; clear hp2)
  | ((with_reducible refine gate_dst (N := 3) rfl ?_); refine box_event ?hg (N := 3) ?hd (cs := #[.slice none 0 0, .slice none 0 0]) (t := 25) ?hr ?_; (case hd => rfl); (case hg => rfl); (case hr => first | (go_simp; done) | (go_simp; rfl)); intro p3 hp3 w2 hbox3 hb2; have hp3' : w1.heap.size = p3 := hp3.symm; clear hp3))
 have HS : Aside0 (OS q p2 p3 25 25 w w2 #[.slice none 0 0, .slice none 0 0] #[.slice none 0 0, .slice none 0 0] l) := ⟨⟨hq0, hp2', by rw [← hp3']; exact blk_lt hbox2, blk_below hbox2 hb2, hbox3, (h.below hb1).below hb2, (Tch.of hb1).trans (Tch.of hb2)⟩⟩
 clear hbox2 hbox3 hb1 hb2 hp2' hp3' h
 have hc := count_reads w2 q l HS.out.rd
 cases hn : countR l with
 | none =>
  rw [hn] at hc
  have HE := Lib.hid (HF.out.trans (rdBind_none hn))
  refine hc.mono ?_
  rintro e wz ⟨rfl, hT⟩
  go_wp2
  exact ⟨rfl, by rw [HE.out]; exact ⟨rfl, HS.out.tch.trans hT⟩⟩
 | some p =>
  obtain ⟨n, r1⟩ := p
  rw [hn] at hc
  have hlr_r1 := countR_le hn
  have HE := Lib.hid (HF.out.trans (rdBind_some hn))
  refine hc.mono ?_
  rintro e wy ⟨v, rfl, hv, hR, hT⟩
  obtain ⟨rfl, -, -⟩ := hv
  have HSy : Aside0 (OS q p2 p3 25 25 w wy #[.slice none 0 0, .slice none 0 0] #[.slice none 0 0, .slice none 0 0] r1) := ⟨HS.out.call hT hR⟩
  obtain ⟨k, rfl, hk, -⟩ := countR_in hn
  have HF2 : Hid (F = rdBind (listS blockR [] k r1) (fun bs r2 => rdBind (countR r2) fun n r3 => rdBind (listR globR n.toNat r3) fun gl r4 => if r4 = [] then some ((bs, gl), r4) else none)) := Lib.hid (by rw [listS_nil]; exact HE.out)
  have HR6 : Aside0 (kBk.R 71 wy w.heap.size (fun _ => True) (.slice none 0 0) []) := ⟨Kd.R_nil _ _ _ _ _⟩
  clear hR hT hc hn HS HF HE
  go_wp2
  go_loopw [11] (fun v wr => ∃ (xs : List GBk) (rr : List UInt8) (A6 : Option Addr) (c6 : Nat), xs.length ≤ k ∧ v = .int .i64 xs.length ∧ rr.length ≤ 200000 ∧ Hid (F = rdBind (listS blockR xs (k - xs.length) rr) (fun bs r2 => rdBind (countR r2) fun n r3 => rdBind (listR globR n.toNat r3) fun gl r4 => if r4 = [] then some ((bs, gl), r4) else none)) ∧ Aside0 (OS q p2 p3 25 25 w wr #[.slice none 0 0, .slice none 0 0] #[.slice A6 xs.length c6, .slice none 0 0] rr) ∧ Aside0 (kBk.R 71 wr w.heap.size (fun _ => True) (.slice A6 xs.length c6) xs)) (fun v _ => k - (intOf v).toNat)
  case atStart => exact ⟨[], r1, none, 0, by simp, rfl, by omega, HF2, HSy, HR6⟩
  case round =>
   obtain ⟨xs, rr, A6, c6, hi, rfl, hrr, HF, HS, HV6⟩ := hrel
   clear HSy HR6 HF2
   by_cases hlt : xs.length < k
   ·have HZ : Hid (blockR rr = none → F = none) := Lib.hid (fun h => HF.out.trans (rdBind_none (show listS blockR xs (k - xs.length) rr = none by rw [show k - xs.length = (k - xs.length - 1) + 1 from by omega]; exact listS_none _ _ _ _ h)))
    have HY : Hid (∀ a r', blockR rr = some (a, r') → F = rdBind (listS blockR (xs ++ [a]) (k - (xs ++ [a]).length) r') (fun bs r2 => rdBind (countR r2) fun n r3 => rdBind (listR globR n.toNat r3) fun gl r4 => if r4 = [] then some ((bs, gl), r4) else none)) := Lib.hid (fun a r' h => HF.out.trans (congrArg (fun o => rdBind o (fun bs r2 => rdBind (countR r2) fun n r3 => rdBind (listR globR n.toNat r3) fun gl r4 => if r4 = [] then some ((bs, gl), r4) else none)) (show listS blockR xs (k - xs.length) rr = listS blockR (xs ++ [a]) (k - (xs ++ [a]).length) r' by rw [show k - xs.length = (k - (xs ++ [a]).length) + 1 from by simp; omega]; exact listS_more _ _ _ _ h)))
    have hc := block_reads wr q rr HS.out.rd
    cases hn : blockR rr with
    | none =>
     rw [hn] at hc
     have HE := Lib.hid (HZ.out hn)
     have HC := Lib.hid hc
     clear hc hn HF HY HZ
     go_wp2_with fail
     refine HC.out.mono ?_
     rintro e wz ⟨rfl, hT⟩
     go_wp2
     exact ⟨rfl, by rw [HE.out]; exact ⟨rfl, HS.out.tch.trans hT⟩⟩
    | some p =>
     obtain ⟨g, s1⟩ := p
     rw [hn] at hc
     have HN := Lib.hid (HY.out g s1 hn)
     have hls := blockR_le hn
     have HC := Lib.hid hc
     clear hc hn HF HY HZ
     go_wp2_with fail
     refine HC.out.mono ?_
     rintro e wy ⟨v, rfl, ⟨cs, rfl, hM⟩, hR, hT⟩
     obtain ⟨v2, rfl, h2⟩ := k71_openM hM
     obtain ⟨B5, b5, rfl⟩ := Kd.R_slice h2
     have HSy : Aside0 (OS q p2 p3 25 25 w wy #[.slice none 0 0, .slice none 0 0] #[.slice A6 xs.length c6, .slice none 0 0] s1) := ⟨HS.out.call hT hR⟩
     have HV6y : Aside0 (kBk.R 71 wy w.heap.size (fun _ => True) (.slice A6 xs.length c6) xs) := ⟨rowT HV6.out HS.out.rd hT (by decide)⟩
     have hMn := kBk.M_lower HS.out.tch.size (Kd.M_new hM (Kd.R_own HV6.out).choose_spec)
     have HM := Aside0.mk hMn
     clear hR hT hM hMn h2 HC HS HV6
     have hbA := below_alloc (Below.refl wy.heap.size wy) (.cells #[.int .i64 g.f0, .int .i64 g.f1, .slice B5 g.f2.length b5] 71)
     have hx4 := blk_new wy (.cells #[.int .i64 g.f0, .int .i64 g.f1, .slice B5 g.f2.length b5] 71)
     have HSA := Aside0.mk (HSy.out.below hbA)
     have HVA := Aside0.mk (Kd.R_below HV6y.out hbA)
     have HMA := Aside0.mk (Kd.M_below HM.out hbA)
     clear HSy HV6y HM hbA
     go_wp2_with (first | ((with_reducible refine gate_dst (N := 15) rfl ?_); refine Hid.out ?_))
     generalize hWA : wy.alloc (.cells #[.int .i64 g.f0, .int .i64 g.f1, .slice B5 g.f2.length b5] 71) = WA at *
     generalize hp4 : wy.heap.size = p4 at *
     clear hWA hp4
     have d0 := cellH hx4 (i := 0) rfl
     have d1 := cellH hx4 (i := 1) rfl
     have d2 := cellH hx4 (i := 2) rfl
     have x0 := cellH HSA.out.hl (i := 0) rfl
     clear hx4
     refine Lib.hid ?_
     go_wp2_with (refine Kd.R_append kBk (w0 := WA) w.heap.size rfl _ _ 22 71 (.agg #[(.int .i64 0), (.int .i64 0), (.slice none 0 0)]) 40 rfl Tryz.underlying22 info71 rfl (by decide) (by omega) (.slice A6 xs.length c6) xs g [.int .i64 g.f0, .int .i64 g.f1, .slice B5 g.f2.length b5] (fun _ => True) _ rfl rfl HMA.out (fun _ h => h) (fun _ _ => trivial) HVA.out (Below.refl _ _) HSA.out.tch.size (by omega) ?_)
     intro v1 w3 hrow hb3 hg hat
     obtain ⟨A7, c7, rfl⟩ := Kd.R_slice hrow
     have HS3 : Aside0 (OS q p2 p3 25 25 w w3 #[.slice none 0 0, .slice none 0 0] #[.slice A6 xs.length c6, .slice none 0 0] s1) := ⟨HSA.out.grown HVA.out hg (by decide) (by decide) (by decide)⟩
     have HV63 : Aside0 (kBk.R 71 w3 w.heap.size (fun _ => True) (.slice A7 (xs ++ [g]).length c7) (xs ++ [g])) := ⟨hrow⟩
     have hxl : ((xs ++ [g]).length : Int) = xs.length + 1 := by simp
     have hxk : (xs ++ [g]).length ≤ k := by simp; omega
     have hs4 : s1.length ≤ 200000 := by omega
     clear hrow hb3 hg hat HSA HVA HMA
     generalize hxs : xs ++ [g] = xs2 at *
     clear hxs d0 d1 d2 x0
     have d0 := cellH HS3.out.hl (i := 0) rfl
     have z0 := frozenH HS3.out.hl 0
     go_wp2
     go_roundw
     case rel => exact ⟨xs2, s1, A7, c7, hxk, by rw [hxl], hs4, HN, ⟨HS3.out.set 0 _⟩, ⟨Kd.R_set HV63.out HS3.out.hl (by decide) 0 _⟩⟩
     case measure => simp [intOf]; omega
   ·obtain rfl : k = xs.length := by omega
    have HE := Lib.hid (HF.out.trans (rdBind_some (show listS blockR xs (xs.length - xs.length) rr = some (xs, rr) by rw [Nat.sub_self]; exact listS_end _ _ _)))
    have HF := HE
    clear HE
    go_wp2_with fail
    have hc := count_reads wr q rr HS.out.rd
    cases hn : countR rr with
    | none =>
     rw [hn] at hc
     have HE := Lib.hid (HF.out.trans (rdBind_none hn))
     refine hc.mono ?_
     rintro e wz ⟨rfl, hT⟩
     go_wp2
     exact ⟨rfl, by rw [HE.out]; exact ⟨rfl, HS.out.tch.trans hT⟩⟩
    | some p =>
     obtain ⟨n, r3⟩ := p
     rw [hn] at hc
     have hlr_r3 := countR_le hn
     have HE := Lib.hid (HF.out.trans (rdBind_some hn))
     refine hc.mono ?_
     rintro e wy ⟨v, rfl, hv, hR, hT⟩
     obtain ⟨rfl, -, -⟩ := hv
     have HSy : Aside0 (OS q p2 p3 25 25 w wy #[.slice none 0 0, .slice none 0 0] #[.slice A6 xs.length c6, .slice none 0 0] r3) := ⟨HS.out.call hT hR⟩
     have HV6y : Aside0 (kBk.R 71 wy w.heap.size (fun _ => True) (.slice A6 xs.length c6) xs) := ⟨rowT HV6.out HS.out.rd hT (by decide)⟩
     obtain ⟨m, rfl, hm, -⟩ := countR_in hn
     have HF2 : Hid (F = rdBind (listS globR [] m r3) (fun gl r4 => if r4 = [] then some ((xs, gl), r4) else none)) := Lib.hid (by rw [listS_nil]; exact HE.out)
     have HR9 : Aside0 (kGl.R 52 wy w.heap.size (fun _ => True) (.slice none 0 0) []) := ⟨Kd.R_nil _ _ _ _ _⟩
     clear hR hT hc hn HS HF HE HV6
     have hrr0 := hrr
     clear hrr hi
     go_wp2
     go_loopw [24] (fun v wr => ∃ (ys : List GGl) (rr : List UInt8) (A9 : Option Addr) (c9 : Nat), ys.length ≤ m ∧ v = .int .i64 ys.length ∧ rr.length ≤ 200000 ∧ Hid (F = rdBind (listS globR ys (m - ys.length) rr) (fun gl r4 => if r4 = [] then some ((xs, gl), r4) else none)) ∧ Aside0 (OS q p2 p3 25 25 w wr #[.slice none 0 0, .slice none 0 0] #[.slice A6 xs.length c6, .slice A9 ys.length c9] rr) ∧ Aside0 (kBk.R 71 wr w.heap.size (fun _ => True) (.slice A6 xs.length c6) xs) ∧ Aside0 (kGl.R 52 wr w.heap.size (fun _ => True) (.slice A9 ys.length c9) ys)) (fun v _ => m - (intOf v).toNat)
     case atStart => exact ⟨[], r3, none, 0, by simp, rfl, by omega, HF2, HSy, HV6y, HR9⟩
     case round =>
      obtain ⟨ys, rr, A9, c9, hi, rfl, hrr, HF, HS, HV6, HV9⟩ := hrel
      clear HSy HR9 HF2 HV6y
      by_cases hlt : ys.length < m
      ·have HZ : Hid (globR rr = none → F = none) := Lib.hid (fun h => HF.out.trans (rdBind_none (show listS globR ys (m - ys.length) rr = none by rw [show m - ys.length = (m - ys.length - 1) + 1 from by omega]; exact listS_none _ _ _ _ h)))
       have HY : Hid (∀ a r', globR rr = some (a, r') → F = rdBind (listS globR (ys ++ [a]) (m - (ys ++ [a]).length) r') (fun gl r4 => if r4 = [] then some ((xs, gl), r4) else none)) := Lib.hid (fun a r' h => HF.out.trans (congrArg (fun o => rdBind o (fun gl r4 => if r4 = [] then some ((xs, gl), r4) else none)) (show listS globR ys (m - ys.length) rr = listS globR (ys ++ [a]) (m - (ys ++ [a]).length) r' by rw [show m - ys.length = (m - (ys ++ [a]).length) + 1 from by simp; omega]; exact listS_more _ _ _ _ h)))
       obtain ⟨AR, hAR⟩ : ∃ AR, AR = globR rr := ⟨_, rfl⟩
       rw [← hAR] at HZ HY
       have HA : Hid (AR = globR rr) := Lib.hid hAR
       clear hAR HF
       unfold globR at HA
       go_wp2_with fail
       have hc := str_reads wr q rr HS.out.rd
       cases hn : strR rr with
       | none =>
        rw [hn] at hc
        have HE := Lib.hid (HA.out.trans (rdBind_none hn))
        refine hc.mono ?_
        rintro e wz ⟨rfl, hT⟩
        go_wp2
        exact ⟨rfl, by rw [HZ.out HE.out]; exact ⟨rfl, HS.out.tch.trans hT⟩⟩
       | some p =>
        obtain ⟨a0, s1⟩ := p
        rw [hn] at hc
        have hlr_s1 := strR_le hn
        have HE := Lib.hid (HA.out.trans (rdBind_some hn))
        refine hc.mono ?_
        rintro e wy ⟨v, rfl, hv, hR, hT⟩
        obtain ⟨rfl, -⟩ := hv
        have HSy : Aside0 (OS q p2 p3 25 25 w wy #[.slice none 0 0, .slice none 0 0] #[.slice A6 xs.length c6, .slice A9 ys.length c9] s1) := ⟨HS.out.call hT hR⟩
        have HV6y : Aside0 (kBk.R 71 wy w.heap.size (fun _ => True) (.slice A6 xs.length c6) xs) := ⟨rowT HV6.out HS.out.rd hT (by decide)⟩
        have HV9y : Aside0 (kGl.R 52 wy w.heap.size (fun _ => True) (.slice A9 ys.length c9) ys) := ⟨rowT HV9.out HS.out.rd hT (by decide)⟩
        have HS0 := OS3.new (T4 := 52) (c4 := #[.string a0, .int .i64 0]) HSy.out
        have HV60 := Kd.R_alloc HV6y.out (.cells #[.string a0, .int .i64 0] 52)
        have HV90 := Kd.R_mono (Kd.R_below (Kd.R_elderB HV9y.out wy.heap.size (Nat.le_refl _)) (below_alloc (Below.refl _ _) (.cells #[.string a0, .int .i64 0] 52))) (fun k hk => hk.2)
        clear hR hT hc hn HS HV6 HV6y HV9 HV9y HSy HA
        have HA := HE
        clear HE
        go_wp2_with fail
        generalize hW : wy.alloc (.cells #[.string a0, .int .i64 0] 52) = W at *
        generalize hp4 : wy.heap.size = p4 at *
        have HS : Aside0 (OS3 q p2 p3 p4 25 25 52 w W #[.slice none 0 0, .slice none 0 0] #[.slice A6 xs.length c6, .slice A9 ys.length c9] #[.string a0, .int .i64 0] s1) := ⟨HS0⟩
        have HV6 : Aside0 (kBk.R 71 W w.heap.size (fun _ => True) (.slice A6 xs.length c6) xs) := ⟨HV60⟩
        have HV9 : Aside0 (kGl.R 52 W w.heap.size (fun k => k ≠ p4) (.slice A9 ys.length c9) ys) := ⟨HV90⟩
        clear HS0 HV60 HV90 hW hp4
        have hc := num_reads W q s1 HS.out.rd
        cases hn : numR s1 with
        | none =>
         rw [hn] at hc
         have HE := Lib.hid (HA.out.trans (rdBind_none hn))
         refine hc.mono ?_
         rintro e wz ⟨rfl, hT⟩
         go_wp2
         exact ⟨rfl, by rw [HZ.out HE.out]; exact ⟨rfl, HS.out.tch.trans hT⟩⟩
        | some p =>
         obtain ⟨a1, s4⟩ := p
         rw [hn] at hc
         have hlr_s4 := numR_le hn
         have HE := Lib.hid (HA.out.trans (rdBind_some hn))
         refine hc.mono ?_
         rintro e wy ⟨v, rfl, hv, hR, hT⟩
         obtain ⟨rfl, -⟩ := hv
         have HSy : Aside0 (OS3 q p2 p3 p4 25 25 52 w wy #[.slice none 0 0, .slice none 0 0] #[.slice A6 xs.length c6, .slice A9 ys.length c9] #[.string a0, .int .i64 0] s4) := ⟨HS.out.call hT hR⟩
         have HV6y : Aside0 (kBk.R 71 wy w.heap.size (fun _ => True) (.slice A6 xs.length c6) xs) := ⟨rowT HV6.out HS.out.rd hT (by decide)⟩
         have HV9y : Aside0 (kGl.R 52 wy w.heap.size (fun k => k ≠ p4) (.slice A9 ys.length c9) ys) := ⟨rowT HV9.out HS.out.rd hT (by decide)⟩
         have d := cellH HSy.out.hl (i := 1) rfl
         have f := frozenH HSy.out.hl 1
         have HS2 : Aside0 (OS3 q p2 p3 p4 25 25 52 w (wy.setCell ⟨p4, 1, none⟩ (.int .i64 a1)) #[.slice none 0 0, .slice none 0 0] #[.slice A6 xs.length c6, .slice A9 ys.length c9] #[.string a0, .int .i64 a1] s4) := ⟨HSy.out.set 1 (.int .i64 a1)⟩
         have HV62 : Aside0 (kBk.R 71 (wy.setCell ⟨p4, 1, none⟩ (.int .i64 a1)) w.heap.size (fun _ => True) (.slice A6 xs.length c6) xs) := ⟨Kd.R_set HV6y.out HSy.out.hl (by decide) 1 _⟩
         have HV92 : Aside0 (kGl.R 52 (wy.setCell ⟨p4, 1, none⟩ (.int .i64 a1)) w.heap.size (fun k => k ≠ p4) (.slice A9 ys.length c9) ys) := ⟨Kd.R_far (p := ⟨p4, 1, none⟩) HV9y.out (fun _ h => h) _⟩
         clear hR hT hc hn HS HA HV6 HV6y HV9 HV9y
         have HA := HE
         clear HE
         go_wp2_with (first | ((with_reducible refine gate_dst (N := 32) rfl ?_); refine Hid.out ?_))
         generalize wy.setCell ⟨p4, 1, none⟩ (.int .i64 a1) = WA at *
         clear d f HSy
         have HS := HS2
         clear HS2
         have HV6 := HV62
         clear HV62
         have HV9 := HV92
         clear HV92
         have d0 := cellH HS.out.hl (i := 0) rfl
         have d1 := cellH HS.out.hl (i := 1) rfl
         have x1 := cellH HS.out.os.hl (i := 1) rfl
         have HN : Hid (F = rdBind (listS globR (ys ++ [(⟨a0, a1⟩ : GGl)]) (m - (ys ++ [(⟨a0, a1⟩ : GGl)]).length) s4) (fun gl r4 => if r4 = [] then some ((xs, gl), r4) else none)) := Lib.hid (HY.out _ _ HA.out)
         clear HY HZ HA
         refine Lib.hid ?_
         go_wp2_with (refine Kd.R_append kGl (w0 := WA) w.heap.size rfl _ _ 23 52 (.agg #[(.string ⟨#[]⟩), (.int .i64 0)]) 24 rfl Tryz.underlying23 info52 rfl (by decide) (by omega) (.slice A9 ys.length c9) ys ⟨a0, a1⟩ [.string a0, .int .i64 a1] (fun k => k ≠ p4) (fun _ => False) rfl rfl (k52_mkM WA w.heap.size (fun _ => False) ⟨a0, a1⟩) (fun _ h => h.elim) (fun k hk => by have := blk_lt HS.out.hl; omega) HV9.out (Below.refl _ _) HS.out.tch.size (by omega) ?_)
         intro v1 w3 hrow hb3 hg hat
         have hrow' := Kd.R_mono hrow (fun _ _ => trivial)
         obtain ⟨A7, c7, rfl⟩ := Kd.R_slice hrow
         have HS3 : Aside0 (OS q p2 p3 25 25 w w3 #[.slice none 0 0, .slice none 0 0] #[.slice A6 xs.length c6, .slice A9 ys.length c9] s4) := ⟨HS.out.os.grown HV9.out hg (by decide) (by decide) (by decide)⟩
         have HV63 : Aside0 (kBk.R 71 w3 w.heap.size (fun _ => True) (.slice A6 xs.length c6) xs) := ⟨rowG HV6.out HV9.out (by decide) hg⟩
         have HV93 : Aside0 (kGl.R 52 w3 w.heap.size (fun _ => True) (.slice A7 (ys ++ [(⟨a0, a1⟩ : GGl)]).length c7) (ys ++ [(⟨a0, a1⟩ : GGl)])) := ⟨hrow'⟩
         have hxl : ((ys ++ [(⟨a0, a1⟩ : GGl)]).length : Int) = ys.length + 1 := by simp
         have hxk : (ys ++ [(⟨a0, a1⟩ : GGl)]).length ≤ m := by simp; omega
         have hs4 : s4.length ≤ 200000 := by omega
         clear hrow hrow' hb3 hg hat HS HV6 HV9
         generalize hxs : ys ++ [(⟨a0, a1⟩ : GGl)] = ys2 at *
         clear hxs d0 d1 x1
         have d1 := cellH HS3.out.hl (i := 1) rfl
         have z1 := frozenH HS3.out.hl 1
         go_wp2
         go_roundw
         case rel => exact ⟨ys2, s4, A7, c7, hxk, by rw [hxl], hs4, HN, ⟨HS3.out.set 1 _⟩, ⟨Kd.R_set HV63.out HS3.out.hl (by decide) 1 _⟩, ⟨Kd.R_set HV93.out HS3.out.hl (by decide) 1 _⟩⟩
         case measure => simp [intOf]; omega
      ·obtain rfl : m = ys.length := by omega
       have HE := Lib.hid (HF.out.trans (rdBind_some (show listS globR ys (ys.length - ys.length) rr = some (ys, rr) by rw [Nat.sub_self]; exact listS_end _ _ _)))
       have y0 := cellH HS.out.rd.2 (i := 0) rfl
       cases rr with
       | cons b0 l0 =>
        have HE2 : Hid (F = none) := Lib.hid (HE.out.trans (if_neg (by simp)))
        clear HE HF
        go_wp2_with fail
        refine (demand_false _).mono ?_
        rintro e wz ⟨rfl, rfl⟩
        go_wp2
        exact ⟨rfl, by rw [HE2.out]; exact ⟨rfl, HS.out.tch⟩⟩
       | nil =>
        have HE2 : Hid (F = some ((xs, ys), [])) := Lib.hid (HE.out.trans (if_pos rfl))
        clear HE HF
        have d0 := cellH HS.out.hl (i := 0) rfl
        have e0 := cellH HS.out.h2 (i := 0) rfl
        have z0 := frozenH HS.out.h2 0
        have d1 := cellH HS.out.hl (i := 1) rfl
        have e1 := cellH HS.out.h2 (i := 1) rfl
        have z1 := frozenH HS.out.h2 1
        have HV6f : Aside0 (kBk.R 71 ((wr.setCell ⟨p2, 0, none⟩ (.slice A6 xs.length c6)).setCell ⟨p2, 1, none⟩ (.slice A9 ys.length c9)) w.heap.size (fun _ => True) (.slice A6 xs.length c6) xs) := ⟨(Kd.R_set (Kd.R_set HV6.out HS.out.h2 (by decide) 0 (.slice A6 xs.length c6)) (HS.out.set2 0 (.slice A6 xs.length c6)).h2 (by decide) 1 (.slice A9 ys.length c9))⟩
        have HV9f : Aside0 (kGl.R 52 ((wr.setCell ⟨p2, 0, none⟩ (.slice A6 xs.length c6)).setCell ⟨p2, 1, none⟩ (.slice A9 ys.length c9)) w.heap.size (fun _ => True) (.slice A9 ys.length c9) ys) := ⟨(Kd.R_set (Kd.R_set HV9.out HS.out.h2 (by decide) 0 (.slice A6 xs.length c6)) (HS.out.set2 0 (.slice A6 xs.length c6)).h2 (by decide) 1 (.slice A9 ys.length c9))⟩
        have HSf : Aside0 (OS q p2 p3 25 25 w ((wr.setCell ⟨p2, 0, none⟩ (.slice A6 xs.length c6)).setCell ⟨p2, 1, none⟩ (.slice A9 ys.length c9)) #[.slice A6 xs.length c6, .slice A9 ys.length c9] #[.slice A6 xs.length c6, .slice A9 ys.length c9] []) := ⟨((HS.out.set2 0 (.slice A6 xs.length c6)).set2 1 (.slice A9 ys.length c9))⟩
        clear HS HV6 HV9
        go_wp2_with fail
        refine (demand_true _).mono ?_
        rintro e wz ⟨rfl, rfl⟩
        go_wp2
        generalize ((wr.setCell ⟨p2, 0, none⟩ (.slice A6 xs.length c6)).setCell ⟨p2, 1, none⟩ (.slice A9 ys.length c9)) = WF at *
        have x0 := cellH HSf.out.h2 (i := 0) rfl
        have x1 := cellH HSf.out.h2 (i := 1) rfl
        refine bodyPost_ret (v := .agg #[.slice A6 xs.length c6, .slice A9 ys.length c9]) (by simp [results, Tryz.results54, go_sem, x0, x1]) rfl ?_
        rw [HE2.out]
        exact ⟨_, rfl, ⟨_, _, rfl, HV6f.out, HV9f.out⟩, HSf.out.rd, HSf.out.tch⟩
end Go.Proofs.YtmfjkepanmoeiaaGreatDoor.CJ
