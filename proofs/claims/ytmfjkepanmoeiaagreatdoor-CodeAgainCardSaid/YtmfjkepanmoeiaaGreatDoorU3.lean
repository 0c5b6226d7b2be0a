/- The reader's method op. Conditions: the reader lies in memory; its bytes take at most 200000. -/
import Derived.Test.YtmfjkepanmoeiaaGreatDoorUA
namespace Go.Proofs.YtmfjkepanmoeiaaGreatDoor.CJ
open Go.RowKit Go.Proofs.YtmfjkepanmoeiaaGreatDoorW.PrintWords Go.Proofs.YtmfjkepanmoeiaaGreatDoorW.PrintLast Go.Proofs.YtmfjkepanmoeiaaGreatDoor.PT Go.Proofs.YtmfjkepanmoeiaaGreatDoor.IMaps Go.Proofs.YtmfjkepanmoeiaaGreatDoor.TJ
set_option linter.unusedVariables false
set_option linter.unusedSimpArgs false
theorem rdBind_none {α β : Type} {o : Option (α × List UInt8)} {f : α → List UInt8 → Option (β × List UInt8)} (h : o = none) : rdBind o f = none := by rw [h]; rfl
theorem rdBind_some {α β : Type} {o : Option (α × List UInt8)} {f : α → List UInt8 → Option (β × List UInt8)} {x : α} {r : List UInt8} (h : o = some (x, r)) : rdBind o f = f x r := by rw [h]; rfl
def altR (l : List UInt8) : Option (GAl × List UInt8) := rdBind (numR l) fun f0 r1 => rdBind (strR r1) fun f1 r2 => rdBind (integerR r2) fun f2 r3 => rdBind (numR r3) fun f3 r4 => some (⟨f0, f1, f2, f3⟩, r4)
def opR (l : List UInt8) : Option (GOp × List UInt8) := rdBind (nextR l) fun b r1 => rdBind (numR r1) fun f1 r2 => rdBind (numR r2) fun f2 r3 => rdBind (integerR r3) fun f3 r4 => rdBind (strR r4) fun f4 r5 => rdBind (numsR r5) fun f5 r6 => rdBind (countR r6) fun n r7 => rdBind (listR altR n.toNat r7) fun f6 r8 => some (⟨b.toNat, f1, f2, f3, f4, f5, f6⟩, r8)
structure OS (q p2 p3 T2 T3 : Nat) (w W : World) (c2 c3 : Array Value) (l : List UInt8) : Prop where
 hq : q < w.heap.size
 n2 : w.heap.size ≤ p2
 n3 : p2 < p3
 h2 : W.heap[p2]? = some (.cells c2 T2 (0, 0))
 hl : W.heap[p3]? = some (.cells c3 T3 (0, 0))
 rd : RD W q l
 tch : Tch q w W
theorem OS.call {q p2 p3 T2 T3 : Nat} {w W W' : World} {c2 c3 : Array Value} {l r : List UInt8} (h : OS q p2 p3 T2 T3 w W c2 c3 l) (hT : Tch q W W') (hR : RD W' q r) : OS q p2 p3 T2 T3 w W' c2 c3 r :=
 ⟨h.hq, h.n2, h.n3, (hT.block p2 (blk_lt h.h2) (fun e => by have := h.hq; have := h.n2; injection e; omega)).trans h.h2, (hT.block p3 (blk_lt h.hl) (fun e => by have := h.hq; have := h.n2; have := h.n3; injection e; omega)).trans h.hl, hR, h.tch.trans hT⟩
theorem OS.set {q p2 p3 T2 T3 : Nat} {w W : World} {c2 c3 : Array Value} {l : List UInt8} (h : OS q p2 p3 T2 T3 w W c2 c3 l) (i : Nat) (u : Value) : OS q p2 p3 T2 T3 w (W.setCell ⟨p3, i, none⟩ u) c2 (c3.setIfInBounds i u) l := by
 have h1 := h.hq
 have h2 := h.n2
 have h3 := h.n3
 refine ⟨h.hq, h.n2, h.n3, blk_far h.h2 (show p2 ≠ p3 by omega) u, blk_set h.hl i u, ⟨h.rd.1, blk_far h.rd.2 (show q ≠ p3 by omega) u⟩, h.tch.grow (row := some p3) ⟨rfl, rfl, rfl, by simp [World.setCell], fun k _ hk => Below.heap_setCell _ _ _ _ (fun e => hk (by simp [e]))⟩ (fun k hk => by injection hk; omega)⟩
theorem OS.below {q p2 p3 T2 T3 : Nat} {w W W' : World} {c2 c3 : Array Value} {l : List UInt8} (h : OS q p2 p3 T2 T3 w W c2 c3 l) (hb : Below W.heap.size W W') : OS q p2 p3 T2 T3 w W' c2 c3 l := h.call (Tch.of hb) (h.rd.below hb)
def pOp (B : Nat) (W : World) (x : GOp) (v : Value) : Prop := ∃ cs, v = .agg cs.toArray ∧ kOp.M W B (fun _ => True) x cs
theorem OS.new {q p2 T2 T3 : Nat} {w W : World} {c2 c3 : Array Value} {l : List UInt8} (hq : q < w.heap.size) (n2 : w.heap.size ≤ p2) (h2 : W.heap[p2]? = some (.cells c2 T2 (0, 0))) (hR : RD W q l) (hT : Tch q w W) : OS q p2 W.heap.size T2 T3 w (W.alloc (.cells c3 T3 (0, 0))) c2 c3 l :=
 have hb := below_alloc (Below.refl W.heap.size W) (.cells c3 T3 (0, 0))
 ⟨hq, n2, blk_lt h2, blk_below h2 hb, blk_new W _, hR.below hb, hT.trans (Tch.of hb)⟩
theorem rowT {α : Type} {d : Kd α} {e B q : Nat} {ok : Nat → Prop} {W W' : World} {v : Value} {xs : List α} {l : List UInt8} (hr : d.R e W B ok v xs) (hR : RD W q l) (hT : Tch q W W') (hne : ∀ t, t ∈ e :: d.E → t ≠ 88) : d.R e W' B ok v xs :=
 Kd.R_mono (Kd.R_step (Kd.R_types hr hR.2 hne) (fun k hk hlt => hT.block k hlt (fun e => hk.2 (by injection e)))) (fun _ hk => hk.1)
theorem OS.set2 {q p2 p3 T2 T3 : Nat} {w W : World} {c2 c3 : Array Value} {l : List UInt8} (h : OS q p2 p3 T2 T3 w W c2 c3 l) (i : Nat) (u : Value) : OS q p2 p3 T2 T3 w (W.setCell ⟨p2, i, none⟩ u) (c2.setIfInBounds i u) c3 l := by
 have h1 := h.hq
 have h2 := h.n2
 have h3 := h.n3
 refine ⟨h.hq, h.n2, h.n3, blk_set h.h2 i u, blk_far h.hl (show p3 ≠ p2 by omega) u, ⟨h.rd.1, blk_far h.rd.2 (show q ≠ p2 by omega) u⟩, h.tch.grow (row := some p2) ⟨rfl, rfl, rfl, by simp [World.setCell], fun k _ hk => Below.heap_setCell _ _ _ _ (fun e => hk (by simp [e]))⟩ (fun k hk => by injection hk; omega)⟩
theorem OS.grown {α : Type} {d : Kd α} {e : Nat} {ok : Nat → Prop} {v : Value} {xs : List α} {q p2 p3 T2 T3 : Nat} {w W W' : World} {c2 c3 : Array Value} {l : List UInt8} (h : OS q p2 p3 T2 T3 w W c2 c3 l) (hr : d.R e W w.heap.size ok v xs) (hg : W.grownBy W' v.ownBlock) (n2 : e ≠ T2) (n3 : e ≠ T3) (nq : e ≠ 88) : OS q p2 p3 T2 T3 w W' c2 c3 l := by
 obtain ⟨inner, ho⟩ := Kd.R_own hr
 exact ⟨h.hq, h.n2, h.n3, blk_grown h.h2 hg (Kd.R_ne hr h.h2 n2), blk_grown h.hl hg (Kd.R_ne hr h.hl n3), ⟨h.rd.1, blk_grown h.rd.2 hg (Kd.R_ne hr h.rd.2 nq)⟩, h.tch.grow hg (fun k hk => Or.inr (own_base ho k hk))⟩
theorem rowG {α β : Type} {d : Kd α} {e B : Nat} {ok : Nat → Prop} {W W' : World} {v : Value} {xs : List α} {d6 : Kd β} {e6 B6 : Nat} {ok6 : Nat → Prop} {v6 : Value} {xs6 : List β} (hr : d.R e W B ok v xs) (h6 : d6.R e6 W B6 ok6 v6 xs6) (hne : ∀ t, t ∈ e :: d.E → t ≠ e6) (hg : W.grownBy W' v6.ownBlock) : d.R e W' B ok v xs := by
 obtain ⟨inner, ho⟩ := Kd.R_own h6
 cases hv : v6.ownBlock with
 | none => exact Kd.R_step hr (fun k _ hlt => hg.block k hlt (by rw [hv]; simp))
 | some g =>
  obtain ⟨cells, hc⟩ := own_typed ho g hv
  exact Kd.R_mono (Kd.R_step (Kd.R_types hr hc hne) (fun k hk hlt => hg.block k hlt (fun e => hk.2 (by rw [hv] at e; injection e)))) (fun _ hk => hk.1)
structure OS3 (q p2 p3 p4 T2 T3 T4 : Nat) (w W : World) (c2 c3 c4 : Array Value) (l : List UInt8) : Prop where
 os : OS q p2 p3 T2 T3 w W c2 c3 l
 n4 : p3 < p4
 hl : W.heap[p4]? = some (.cells c4 T4 (0, 0))
section
variable {q p2 p3 p4 T2 T3 T4 : Nat} {w W W' : World} {c2 c3 c4 : Array Value} {l r : List UInt8}
theorem OS3.rd (h : OS3 q p2 p3 p4 T2 T3 T4 w W c2 c3 c4 l) : RD W q l := h.os.rd
theorem OS3.tch (h : OS3 q p2 p3 p4 T2 T3 T4 w W c2 c3 c4 l) : Tch q w W := h.os.tch
theorem OS3.call (h : OS3 q p2 p3 p4 T2 T3 T4 w W c2 c3 c4 l) (hT : Tch q W W') (hR : RD W' q r) : OS3 q p2 p3 p4 T2 T3 T4 w W' c2 c3 c4 r :=
 ⟨h.os.call hT hR, h.n4, (hT.block p4 (blk_lt h.hl) (fun e => by have := h.os.hq; have := h.os.n2; have := h.os.n3; have := h.n4; injection e; omega)).trans h.hl⟩
theorem OS3.set (h : OS3 q p2 p3 p4 T2 T3 T4 w W c2 c3 c4 l) (i : Nat) (u : Value) : OS3 q p2 p3 p4 T2 T3 T4 w (W.setCell ⟨p4, i, none⟩ u) c2 c3 (c4.setIfInBounds i u) l := by
 have h1 := h.os.hq
 have h2 := h.os.n2
 have h3 := h.os.n3
 have h4 := h.n4
 refine ⟨⟨h.os.hq, h.os.n2, h.os.n3, blk_far h.os.h2 (show p2 ≠ p4 by omega) u, blk_far h.os.hl (show p3 ≠ p4 by omega) u, ⟨h.os.rd.1, blk_far h.os.rd.2 (show q ≠ p4 by omega) u⟩, h.os.tch.grow (row := some p4) ⟨rfl, rfl, rfl, by simp [World.setCell], fun k _ hk => Below.heap_setCell _ _ _ _ (fun e => hk (by simp [e]))⟩ (fun k hk => by injection hk; omega)⟩, h.n4, blk_set h.hl i u⟩
theorem OS3.new (h : OS q p2 p3 T2 T3 w W c2 c3 l) : OS3 q p2 p3 W.heap.size T2 T3 T4 w (W.alloc (.cells c4 T4 (0, 0))) c2 c3 c4 l :=
 ⟨h.below (below_alloc (Below.refl _ _) _), blk_lt h.hl, blk_new W _⟩
end
theorem nextR_le {l : List UInt8} {b : UInt8} {r : List UInt8} (h : nextR l = some (b, r)) : r.length < l.length := by
 cases l with
 | nil => cases h
 | cons b0 l0 => cases h; simp
theorem numsR_le {l : List UInt8} {xs : List Int} {r : List UInt8} (h : numsR l = some (xs, r)) : r.length < l.length := by
 unfold numsR rowR at h
 cases hb : countR l with
 | none => rw [hb] at h; cases h
 | some p =>
  obtain ⟨n, r2⟩ := p
  rw [hb] at h
  have h1 := countR_le hb
  have h2 := listR_le (fun _ _ _ h => numR_le h) _ _ _ _ h
  omega
theorem infoAl : (Tryz.prog.info? 83).map (fun i => (i.zero, i.size, i.bytes)) = some (some (.agg #[(.int .i64 0), (.string ⟨#[]⟩), (.int .i64 0), (.int .i64 0)]), 4, 40) := by kernel_rfl
set_option maxRecDepth 100000 in
set_option maxHeartbeats 8000000 in
theorem op_reads (w : World) (q : Nat) (l : List UInt8) (h : RD w q l) :
 Calls Tryz.prog 147 #[.pointer (some ⟨q, 0, none⟩)] w (RdPost q w (pOp w.heap.size) (opR l)) := by
 obtain ⟨F, hF⟩ : ∃ F, F = opR l := ⟨_, rfl⟩
 rw [← hF]
 have HF := Lib.hid hF
 have hl0 := h.1
 have hq0 := h.lt
 unfold LE20 at hl0
 clear hF
 unfold opR at HF
 go_enter Tryz.func147, Tryz.ntmps147
 go_wp2_with (first | ((with_reducible refine gate_dst (N := 2) rfl ?_); refine box_event ?hg (N := 2) ?hd (cs := #[.int .i64 0, .int .i64 0, .int .i64 0, .int .i64 0, .string ⟨#[]⟩, .slice none 0 0, .slice none 0 0]) (t := 75) ?hr ?_; (case hd => rfl); (case hg => rfl); (case hr => first | (go_simp; done) | (go_simp; rfl)); intro p2 hp2 w1 hbox2 hb1; have hp2' : w.heap.size ≤ p2 := Nat.le_of_eq hp2.symm; clear hp2))
 have HR1 := h.below hb1
 have HT1 : Tch q w w1 := Tch.of hb1
 cases hn : nextR l with
 | none =>
  have HE := Lib.hid (HF.out.trans (rdBind_none hn))
  refine (next_calls _ q l HR1).mono ?_
  rw [hn]
  rintro e wz ⟨rfl, hT⟩
  go_wp2
  exact ⟨rfl, by rw [HE.out]; exact ⟨rfl, HT1.trans hT⟩⟩
 | some p =>
  obtain ⟨b, r1⟩ := p
  have HE := Lib.hid (HF.out.trans (rdBind_some hn))
  have hlr : r1.length < l.length := by
   cases l with
   | nil => cases hn
   | cons b0 l0 => cases hn; simp
  refine (next_calls _ q l HR1).mono ?_
  rw [hn]
  rintro e w2 ⟨v, rfl, rfl, hR, hT⟩
  have hbw : RowKit.wrap64 (b.toNat : Int) = b.toNat := IntWalk.wrap64_in _ (by have := b.toNat_lt; omega)
  have HT2 := HT1.trans hT
  have hbox2' := (hT.block p2 (blk_lt hbox2) (fun e => by injection e; omega)).trans hbox2
  have HS0 := OS.new (T2 := 75) (T3 := 75) (c3 := #[.int .i64 b.toNat, .int .i64 0, .int .i64 0, .int .i64 0, .string ⟨#[]⟩, .slice none 0 0, .slice none 0 0]) hq0 hp2' hbox2' hR HT2
  clear hbox2 hbox2' hR hT HT1 HT2 HR1 hb1 hn HF
  have HF := HE
  clear HE
  go_wp2_with fail
  generalize hW : w2.alloc (.cells #[.int .i64 b.toNat, .int .i64 0, .int .i64 0, .int .i64 0, .string ⟨#[]⟩, .slice none 0 0, .slice none 0 0] 75) = W at *
  generalize hp3 : w2.heap.size = p3 at *
  have HS : Aside0 (OS q p2 p3 75 75 w W #[.int .i64 0, .int .i64 0, .int .i64 0, .int .i64 0, .string ⟨#[]⟩, .slice none 0 0, .slice none 0 0] #[.int .i64 b.toNat, .int .i64 0, .int .i64 0, .int .i64 0, .string ⟨#[]⟩, .slice none 0 0, .slice none 0 0] r1) := ⟨HS0⟩
  clear HS0 hW hp3
  have hc := num_reads W q r1 HS.out.rd
  cases hn : numR r1 with
  | none =>
   rw [hn] at hc
   have HE := Lib.hid (HF.out.trans (rdBind_none hn))
   refine hc.mono ?_
   rintro e wz ⟨rfl, hT⟩
   go_wp2
   exact ⟨rfl, by rw [HE.out]; exact ⟨rfl, HS.out.tch.trans hT⟩⟩
  | some p =>
   obtain ⟨f1, r2⟩ := p
   rw [hn] at hc
   have hlr_r2 := numR_le hn
   have HE := Lib.hid (HF.out.trans (rdBind_some hn))
   refine hc.mono ?_
   rintro e wy ⟨v, rfl, hv, hR, hT⟩
   obtain ⟨rfl, -⟩ := hv
   have HSy : Aside0 (OS q p2 p3 75 75 w wy #[.int .i64 0, .int .i64 0, .int .i64 0, .int .i64 0, .string ⟨#[]⟩, .slice none 0 0, .slice none 0 0] #[.int .i64 b.toNat, .int .i64 0, .int .i64 0, .int .i64 0, .string ⟨#[]⟩, .slice none 0 0, .slice none 0 0] r2) := ⟨HS.out.call hT hR⟩
   have d := cellH HSy.out.hl (i := 1) rfl
   have f := frozenH HSy.out.hl 1
   have HS2 : Aside0 (OS q p2 p3 75 75 w (wy.setCell ⟨p3, 1, none⟩ (.int .i64 f1)) #[.int .i64 0, .int .i64 0, .int .i64 0, .int .i64 0, .string ⟨#[]⟩, .slice none 0 0, .slice none 0 0] #[.int .i64 b.toNat, .int .i64 f1, .int .i64 0, .int .i64 0, .string ⟨#[]⟩, .slice none 0 0, .slice none 0 0] r2) := ⟨HSy.out.set 1 (.int .i64 f1)⟩
   clear hR hT hc hn HS HF 
   have HF := HE
   clear HE
   go_wp2_with (fail)
   generalize wy.setCell ⟨p3, 1, none⟩ (.int .i64 f1) = W2 at *
   clear d f HSy
   have HS := HS2
   clear HS2
   have hc := num_reads W2 q r2 HS.out.rd
   cases hn : numR r2 with
   | none =>
    rw [hn] at hc
    have HE := Lib.hid (HF.out.trans (rdBind_none hn))
    refine hc.mono ?_
    rintro e wz ⟨rfl, hT⟩
    go_wp2
    exact ⟨rfl, by rw [HE.out]; exact ⟨rfl, HS.out.tch.trans hT⟩⟩
   | some p =>
    obtain ⟨f2, r3⟩ := p
    rw [hn] at hc
    have hlr_r3 := numR_le hn
    have HE := Lib.hid (HF.out.trans (rdBind_some hn))
    refine hc.mono ?_
    rintro e wy ⟨v, rfl, hv, hR, hT⟩
    obtain ⟨rfl, -⟩ := hv
    have HSy : Aside0 (OS q p2 p3 75 75 w wy #[.int .i64 0, .int .i64 0, .int .i64 0, .int .i64 0, .string ⟨#[]⟩, .slice none 0 0, .slice none 0 0] #[.int .i64 b.toNat, .int .i64 f1, .int .i64 0, .int .i64 0, .string ⟨#[]⟩, .slice none 0 0, .slice none 0 0] r3) := ⟨HS.out.call hT hR⟩
    have d := cellH HSy.out.hl (i := 2) rfl
    have f := frozenH HSy.out.hl 2
    have HS2 : Aside0 (OS q p2 p3 75 75 w (wy.setCell ⟨p3, 2, none⟩ (.int .i64 f2)) #[.int .i64 0, .int .i64 0, .int .i64 0, .int .i64 0, .string ⟨#[]⟩, .slice none 0 0, .slice none 0 0] #[.int .i64 b.toNat, .int .i64 f1, .int .i64 f2, .int .i64 0, .string ⟨#[]⟩, .slice none 0 0, .slice none 0 0] r3) := ⟨HSy.out.set 2 (.int .i64 f2)⟩
    clear hR hT hc hn HS HF 
    have HF := HE
    clear HE
    go_wp2_with (fail)
    generalize wy.setCell ⟨p3, 2, none⟩ (.int .i64 f2) = W3 at *
    clear d f HSy
    have HS := HS2
    clear HS2
    have hc := integer_reads W3 q r3 HS.out.rd
    cases hn : integerR r3 with
    | none =>
     rw [hn] at hc
     have HE := Lib.hid (HF.out.trans (rdBind_none hn))
     refine hc.mono ?_
     rintro e wz ⟨rfl, hT⟩
     go_wp2
     exact ⟨rfl, by rw [HE.out]; exact ⟨rfl, HS.out.tch.trans hT⟩⟩
    | some p =>
     obtain ⟨f3, r4⟩ := p
     rw [hn] at hc
     have hlr_r4 := integerR_le hn
     have HE := Lib.hid (HF.out.trans (rdBind_some hn))
     refine hc.mono ?_
     rintro e wy ⟨v, rfl, hv, hR, hT⟩
     obtain ⟨rfl, -⟩ := hv
     have HSy : Aside0 (OS q p2 p3 75 75 w wy #[.int .i64 0, .int .i64 0, .int .i64 0, .int .i64 0, .string ⟨#[]⟩, .slice none 0 0, .slice none 0 0] #[.int .i64 b.toNat, .int .i64 f1, .int .i64 f2, .int .i64 0, .string ⟨#[]⟩, .slice none 0 0, .slice none 0 0] r4) := ⟨HS.out.call hT hR⟩
     have d := cellH HSy.out.hl (i := 3) rfl
     have f := frozenH HSy.out.hl 3
     have HS2 : Aside0 (OS q p2 p3 75 75 w (wy.setCell ⟨p3, 3, none⟩ (.int .i64 f3)) #[.int .i64 0, .int .i64 0, .int .i64 0, .int .i64 0, .string ⟨#[]⟩, .slice none 0 0, .slice none 0 0] #[.int .i64 b.toNat, .int .i64 f1, .int .i64 f2, .int .i64 f3, .string ⟨#[]⟩, .slice none 0 0, .slice none 0 0] r4) := ⟨HSy.out.set 3 (.int .i64 f3)⟩
     clear hR hT hc hn HS HF 
     have HF := HE
     clear HE
     go_wp2_with (fail)
     generalize wy.setCell ⟨p3, 3, none⟩ (.int .i64 f3) = W4 at *
     clear d f HSy
     have HS := HS2
     clear HS2
     have hc := str_reads W4 q r4 HS.out.rd
     cases hn : strR r4 with
     | none =>
      rw [hn] at hc
      have HE := Lib.hid (HF.out.trans (rdBind_none hn))
      refine hc.mono ?_
      rintro e wz ⟨rfl, hT⟩
      go_wp2
      exact ⟨rfl, by rw [HE.out]; exact ⟨rfl, HS.out.tch.trans hT⟩⟩
     | some p =>
      obtain ⟨f4, r5⟩ := p
      rw [hn] at hc
      have hlr_r5 := strR_le hn
      have HE := Lib.hid (HF.out.trans (rdBind_some hn))
      refine hc.mono ?_
      rintro e wy ⟨v, rfl, hv, hR, hT⟩
      obtain ⟨rfl, -⟩ := hv
      have HSy : Aside0 (OS q p2 p3 75 75 w wy #[.int .i64 0, .int .i64 0, .int .i64 0, .int .i64 0, .string ⟨#[]⟩, .slice none 0 0, .slice none 0 0] #[.int .i64 b.toNat, .int .i64 f1, .int .i64 f2, .int .i64 f3, .string ⟨#[]⟩, .slice none 0 0, .slice none 0 0] r5) := ⟨HS.out.call hT hR⟩
      have d := cellH HSy.out.hl (i := 4) rfl
      have f := frozenH HSy.out.hl 4
      have HS2 : Aside0 (OS q p2 p3 75 75 w (wy.setCell ⟨p3, 4, none⟩ (.string f4)) #[.int .i64 0, .int .i64 0, .int .i64 0, .int .i64 0, .string ⟨#[]⟩, .slice none 0 0, .slice none 0 0] #[.int .i64 b.toNat, .int .i64 f1, .int .i64 f2, .int .i64 f3, .string f4, .slice none 0 0, .slice none 0 0] r5) := ⟨HSy.out.set 4 (.string f4)⟩
      clear hR hT hc hn HS HF 
      have HF := HE
      clear HE
      go_wp2_with (fail)
      generalize wy.setCell ⟨p3, 4, none⟩ (.string f4) = W5 at *
      clear d f HSy
      have HS := HS2
      clear HS2
      have hc := nums_reads W5 q r5 HS.out.rd
      cases hn : numsR r5 with
      | none =>
       rw [hn] at hc
       have HE := Lib.hid (HF.out.trans (rdBind_none hn))
       refine hc.mono ?_
       rintro e wz ⟨rfl, hT⟩
       go_wp2
       exact ⟨rfl, by rw [HE.out]; exact ⟨rfl, HS.out.tch.trans hT⟩⟩
      | some p =>
       obtain ⟨f5, r6⟩ := p
       rw [hn] at hc
       have hlr_r6 := numsR_le hn
       have HE := Lib.hid (HF.out.trans (rdBind_some hn))
       refine hc.mono ?_
       rintro e wy ⟨v, rfl, hv, hR, hT⟩
       obtain ⟨hrow, hlen5⟩ := hv
       obtain ⟨A5, c5, rfl⟩ := Kd.R_slice hrow
       have HSy : Aside0 (OS q p2 p3 75 75 w wy #[.int .i64 0, .int .i64 0, .int .i64 0, .int .i64 0, .string ⟨#[]⟩, .slice none 0 0, .slice none 0 0] #[.int .i64 b.toNat, .int .i64 f1, .int .i64 f2, .int .i64 f3, .string f4, .slice none 0 0, .slice none 0 0] r6) := ⟨HS.out.call hT hR⟩
       have d := cellH HSy.out.hl (i := 5) rfl
       have f := frozenH HSy.out.hl 5
       have HS2 : Aside0 (OS q p2 p3 75 75 w (wy.setCell ⟨p3, 5, none⟩ (.slice A5 f5.length c5)) #[.int .i64 0, .int .i64 0, .int .i64 0, .int .i64 0, .string ⟨#[]⟩, .slice none 0 0, .slice none 0 0] #[.int .i64 b.toNat, .int .i64 f1, .int .i64 f2, .int .i64 f3, .string f4, .slice A5 f5.length c5, .slice none 0 0] r6) := ⟨HSy.out.set 5 (.slice A5 f5.length c5)⟩
       have HV52 : Aside0 ((Kd.int .i64).R 3 (wy.setCell ⟨p3, 5, none⟩ (.slice A5 f5.length c5)) w.heap.size (fun _ => True) (.slice A5 f5.length c5) f5) := ⟨Kd.R_set (Kd.R_lower hrow HS.out.tch.size) HSy.out.hl (by decide) 5 _⟩
       clear hrow hlen5
       clear hR hT hc hn HS HF 
       have HF := HE
       clear HE
       go_wp2_with (fail)
       generalize wy.setCell ⟨p3, 5, none⟩ (.slice A5 f5.length c5) = W6 at *
       clear d f HSy
       have HS := HS2
       clear HS2
       have HV5 := HV52
       clear HV52
       have hc := count_reads W6 q r6 HS.out.rd
       cases hn : countR r6 with
       | none =>
        rw [hn] at hc
        have HE := Lib.hid (HF.out.trans (rdBind_none hn))
        refine hc.mono ?_
        rintro e wz ⟨rfl, hT⟩
        go_wp2
        exact ⟨rfl, by rw [HE.out]; exact ⟨rfl, HS.out.tch.trans hT⟩⟩
       | some p =>
        obtain ⟨n, r7⟩ := p
        rw [hn] at hc
        have hlr_r7 := countR_le hn
        have HE := Lib.hid (HF.out.trans (rdBind_some hn))
        refine hc.mono ?_
        rintro e wy ⟨v, rfl, hv, hR, hT⟩
        obtain ⟨rfl, -, -⟩ := hv
        have HSy : Aside0 (OS q p2 p3 75 75 w wy #[.int .i64 0, .int .i64 0, .int .i64 0, .int .i64 0, .string ⟨#[]⟩, .slice none 0 0, .slice none 0 0] #[.int .i64 b.toNat, .int .i64 f1, .int .i64 f2, .int .i64 f3, .string f4, .slice A5 f5.length c5, .slice none 0 0] r7) := ⟨HS.out.call hT hR⟩
        have HV5y : Aside0 ((Kd.int .i64).R 3 wy w.heap.size (fun _ => True) (.slice A5 f5.length c5) f5) := ⟨rowT HV5.out HS.out.rd hT (by decide)⟩
        obtain ⟨k, rfl, hk, -⟩ := countR_in hn
        have HF2 : Hid (F = rdBind (listS altR [] k r7) (fun f6 r8 => some ((⟨(b.toNat : Int), f1, f2, f3, f4, f5, f6⟩ : GOp), r8))) := Lib.hid (by rw [listS_nil]; exact HE.out)
        have HR6 : Aside0 (kAl.R 83 wy w.heap.size (fun _ => True) (.slice none 0 0) []) := ⟨Kd.R_nil _ _ _ _ _⟩
        clear hR hT hc hn HS HF HV5 HE
        go_wp2
        go_loopw [26] (fun v wr => ∃ (xs : List GAl) (rr : List UInt8) (A6 : Option Addr) (c6 : Nat), xs.length ≤ k ∧ v = .int .i64 xs.length ∧ rr.length ≤ 200000 ∧ Hid (F = rdBind (listS altR xs (k - xs.length) rr) (fun f6 r8 => some ((⟨(b.toNat : Int), f1, f2, f3, f4, f5, f6⟩ : GOp), r8))) ∧ Aside0 (OS q p2 p3 75 75 w wr #[.int .i64 0, .int .i64 0, .int .i64 0, .int .i64 0, .string ⟨#[]⟩, .slice none 0 0, .slice none 0 0] #[.int .i64 b.toNat, .int .i64 f1, .int .i64 f2, .int .i64 f3, .string f4, .slice A5 f5.length c5, .slice A6 xs.length c6] rr) ∧ Aside0 ((Kd.int .i64).R 3 wr w.heap.size (fun _ => True) (.slice A5 f5.length c5) f5) ∧ Aside0 (kAl.R 83 wr w.heap.size (fun _ => True) (.slice A6 xs.length c6) xs)) (fun v _ => k - (intOf v).toNat)
        case atStart => exact ⟨[], r7, none, 0, by simp, rfl, by omega, HF2, HSy, HV5y, HR6⟩
        case round =>
         obtain ⟨xs, rr, A6, c6, hi, rfl, hrr, HF, HS, HV5, HV6⟩ := hrel
         clear HSy HV5y HR6 HF2
         by_cases hlt : xs.length < k
         ·have HZ : Hid (altR rr = none → F = none) := Lib.hid (fun h => HF.out.trans (rdBind_none (show listS altR xs (k - xs.length) rr = none by rw [show k - xs.length = (k - xs.length - 1) + 1 from by omega]; exact listS_none _ _ _ _ h)))
          have HY : Hid (∀ a r', altR rr = some (a, r') → F = rdBind (listS altR (xs ++ [a]) (k - (xs ++ [a]).length) r') (fun f6 r8 => some ((⟨(b.toNat : Int), f1, f2, f3, f4, f5, f6⟩ : GOp), r8))) := Lib.hid (fun a r' h => HF.out.trans (congrArg (fun o => rdBind o (fun f6 r8 => some ((⟨(b.toNat : Int), f1, f2, f3, f4, f5, f6⟩ : GOp), r8))) (show listS altR xs (k - xs.length) rr = listS altR (xs ++ [a]) (k - (xs ++ [a]).length) r' by rw [show k - xs.length = (k - (xs ++ [a]).length) + 1 from by simp; omega]; exact listS_more _ _ _ _ h)))
          obtain ⟨AR, hAR⟩ : ∃ AR, AR = altR rr := ⟨_, rfl⟩
          rw [← hAR] at HZ HY
          have HA : Hid (AR = altR rr) := Lib.hid hAR
          clear hAR HF
          unfold altR at HA
          go_wp2_with fail
          have hc := num_reads wr q rr HS.out.rd
          cases hn : numR rr with
          | none =>
           rw [hn] at hc
           have HE := Lib.hid (HA.out.trans (rdBind_none hn))
           refine hc.mono ?_
           rintro e wz ⟨rfl, hT⟩
           go_wp2
           exact ⟨rfl, by rw [HZ.out HE.out]; exact ⟨rfl, HS.out.tch.trans hT⟩⟩
          | some p =>
           obtain ⟨a0, s1⟩ := p
           rw [hn] at hc
           have hlr_s1 := numR_le hn
           have HE := Lib.hid (HA.out.trans (rdBind_some hn))
           refine hc.mono ?_
           rintro e wy ⟨v, rfl, hv, hR, hT⟩
           obtain ⟨rfl, -⟩ := hv
           have HSy : Aside0 (OS q p2 p3 75 75 w wy #[.int .i64 0, .int .i64 0, .int .i64 0, .int .i64 0, .string ⟨#[]⟩, .slice none 0 0, .slice none 0 0] #[.int .i64 b.toNat, .int .i64 f1, .int .i64 f2, .int .i64 f3, .string f4, .slice A5 f5.length c5, .slice A6 xs.length c6] s1) := ⟨HS.out.call hT hR⟩
           have HV5y : Aside0 ((Kd.int .i64).R 3 wy w.heap.size (fun _ => True) (.slice A5 f5.length c5) f5) := ⟨rowT HV5.out HS.out.rd hT (by decide)⟩
           have HV6y : Aside0 (kAl.R 83 wy w.heap.size (fun _ => True) (.slice A6 xs.length c6) xs) := ⟨rowT HV6.out HS.out.rd hT (by decide)⟩
           have HS0 := OS3.new (T4 := 83) (c4 := #[.int .i64 a0, .string ⟨#[]⟩, .int .i64 0, .int .i64 0]) HSy.out
           have HV50 := Kd.R_alloc HV5y.out (.cells #[.int .i64 a0, .string ⟨#[]⟩, .int .i64 0, .int .i64 0] 83)
           have HV60 := Kd.R_mono (Kd.R_below (Kd.R_elderB HV6y.out wy.heap.size (Nat.le_refl _)) (below_alloc (Below.refl _ _) (.cells #[.int .i64 a0, .string ⟨#[]⟩, .int .i64 0, .int .i64 0] 83))) (fun k hk => hk.2)
           clear hR hT hc hn HS HV5 HV5y HV6 HV6y HSy HA
           have HA := HE
           clear HE
           go_wp2_with fail
           generalize hW : wy.alloc (.cells #[.int .i64 a0, .string ⟨#[]⟩, .int .i64 0, .int .i64 0] 83) = W at *
           generalize hp4 : wy.heap.size = p4 at *
           have HS : Aside0 (OS3 q p2 p3 p4 75 75 83 w W #[.int .i64 0, .int .i64 0, .int .i64 0, .int .i64 0, .string ⟨#[]⟩, .slice none 0 0, .slice none 0 0] #[.int .i64 b.toNat, .int .i64 f1, .int .i64 f2, .int .i64 f3, .string f4, .slice A5 f5.length c5, .slice A6 xs.length c6] #[.int .i64 a0, .string ⟨#[]⟩, .int .i64 0, .int .i64 0] s1) := ⟨HS0⟩
           have HV5 : Aside0 ((Kd.int .i64).R 3 W w.heap.size (fun _ => True) (.slice A5 f5.length c5) f5) := ⟨HV50⟩
           have HV6 : Aside0 (kAl.R 83 W w.heap.size (fun k => k ≠ p4) (.slice A6 xs.length c6) xs) := ⟨HV60⟩
           clear HS0 HV50 HV60 hW hp4
           have hc := str_reads W q s1 HS.out.rd
           cases hn : strR s1 with
           | none =>
            rw [hn] at hc
            have HE := Lib.hid (HA.out.trans (rdBind_none hn))
            refine hc.mono ?_
            rintro e wz ⟨rfl, hT⟩
            go_wp2
            exact ⟨rfl, by rw [HZ.out HE.out]; exact ⟨rfl, HS.out.tch.trans hT⟩⟩
           | some p =>
            obtain ⟨a1, s2⟩ := p
            rw [hn] at hc
            have hlr_s2 := strR_le hn
            have HE := Lib.hid (HA.out.trans (rdBind_some hn))
            refine hc.mono ?_
            rintro e wy ⟨v, rfl, hv, hR, hT⟩
            obtain ⟨rfl, -⟩ := hv
            have HSy : Aside0 (OS3 q p2 p3 p4 75 75 83 w wy #[.int .i64 0, .int .i64 0, .int .i64 0, .int .i64 0, .string ⟨#[]⟩, .slice none 0 0, .slice none 0 0] #[.int .i64 b.toNat, .int .i64 f1, .int .i64 f2, .int .i64 f3, .string f4, .slice A5 f5.length c5, .slice A6 xs.length c6] #[.int .i64 a0, .string ⟨#[]⟩, .int .i64 0, .int .i64 0] s2) := ⟨HS.out.call hT hR⟩
            have HV5y : Aside0 ((Kd.int .i64).R 3 wy w.heap.size (fun _ => True) (.slice A5 f5.length c5) f5) := ⟨rowT HV5.out HS.out.rd hT (by decide)⟩
            have HV6y : Aside0 (kAl.R 83 wy w.heap.size (fun k => k ≠ p4) (.slice A6 xs.length c6) xs) := ⟨rowT HV6.out HS.out.rd hT (by decide)⟩
            have d := cellH HSy.out.hl (i := 1) rfl
            have f := frozenH HSy.out.hl 1
            have HS2 : Aside0 (OS3 q p2 p3 p4 75 75 83 w (wy.setCell ⟨p4, 1, none⟩ (.string a1)) #[.int .i64 0, .int .i64 0, .int .i64 0, .int .i64 0, .string ⟨#[]⟩, .slice none 0 0, .slice none 0 0] #[.int .i64 b.toNat, .int .i64 f1, .int .i64 f2, .int .i64 f3, .string f4, .slice A5 f5.length c5, .slice A6 xs.length c6] #[.int .i64 a0, .string a1, .int .i64 0, .int .i64 0] s2) := ⟨HSy.out.set 1 (.string a1)⟩
            have HV52 : Aside0 ((Kd.int .i64).R 3 (wy.setCell ⟨p4, 1, none⟩ (.string a1)) w.heap.size (fun _ => True) (.slice A5 f5.length c5) f5) := ⟨Kd.R_set HV5y.out HSy.out.hl (by decide) 1 _⟩
            have HV62 : Aside0 (kAl.R 83 (wy.setCell ⟨p4, 1, none⟩ (.string a1)) w.heap.size (fun k => k ≠ p4) (.slice A6 xs.length c6) xs) := ⟨Kd.R_far (p := ⟨p4, 1, none⟩) HV6y.out (fun _ h => h) _⟩
            clear hR hT hc hn HS HA HV5 HV5y HV6 HV6y
            have HA := HE
            clear HE
            go_wp2_with (fail)
            generalize wy.setCell ⟨p4, 1, none⟩ (.string a1) = W2 at *
            clear d f HSy
            have HS := HS2
            clear HS2
            have HV5 := HV52
            clear HV52
            have HV6 := HV62
            clear HV62
            have hc := integer_reads W2 q s2 HS.out.rd
            cases hn : integerR s2 with
            | none =>
             rw [hn] at hc
             have HE := Lib.hid (HA.out.trans (rdBind_none hn))
             refine hc.mono ?_
             rintro e wz ⟨rfl, hT⟩
             go_wp2
             exact ⟨rfl, by rw [HZ.out HE.out]; exact ⟨rfl, HS.out.tch.trans hT⟩⟩
            | some p =>
             obtain ⟨a2, s3⟩ := p
             rw [hn] at hc
             have hlr_s3 := integerR_le hn
             have HE := Lib.hid (HA.out.trans (rdBind_some hn))
             refine hc.mono ?_
             rintro e wy ⟨v, rfl, hv, hR, hT⟩
             obtain ⟨rfl, -⟩ := hv
             have HSy : Aside0 (OS3 q p2 p3 p4 75 75 83 w wy #[.int .i64 0, .int .i64 0, .int .i64 0, .int .i64 0, .string ⟨#[]⟩, .slice none 0 0, .slice none 0 0] #[.int .i64 b.toNat, .int .i64 f1, .int .i64 f2, .int .i64 f3, .string f4, .slice A5 f5.length c5, .slice A6 xs.length c6] #[.int .i64 a0, .string a1, .int .i64 0, .int .i64 0] s3) := ⟨HS.out.call hT hR⟩
             have HV5y : Aside0 ((Kd.int .i64).R 3 wy w.heap.size (fun _ => True) (.slice A5 f5.length c5) f5) := ⟨rowT HV5.out HS.out.rd hT (by decide)⟩
             have HV6y : Aside0 (kAl.R 83 wy w.heap.size (fun k => k ≠ p4) (.slice A6 xs.length c6) xs) := ⟨rowT HV6.out HS.out.rd hT (by decide)⟩
             have d := cellH HSy.out.hl (i := 2) rfl
             have f := frozenH HSy.out.hl 2
             have HS2 : Aside0 (OS3 q p2 p3 p4 75 75 83 w (wy.setCell ⟨p4, 2, none⟩ (.int .i64 a2)) #[.int .i64 0, .int .i64 0, .int .i64 0, .int .i64 0, .string ⟨#[]⟩, .slice none 0 0, .slice none 0 0] #[.int .i64 b.toNat, .int .i64 f1, .int .i64 f2, .int .i64 f3, .string f4, .slice A5 f5.length c5, .slice A6 xs.length c6] #[.int .i64 a0, .string a1, .int .i64 a2, .int .i64 0] s3) := ⟨HSy.out.set 2 (.int .i64 a2)⟩
             have HV52 : Aside0 ((Kd.int .i64).R 3 (wy.setCell ⟨p4, 2, none⟩ (.int .i64 a2)) w.heap.size (fun _ => True) (.slice A5 f5.length c5) f5) := ⟨Kd.R_set HV5y.out HSy.out.hl (by decide) 2 _⟩
             have HV62 : Aside0 (kAl.R 83 (wy.setCell ⟨p4, 2, none⟩ (.int .i64 a2)) w.heap.size (fun k => k ≠ p4) (.slice A6 xs.length c6) xs) := ⟨Kd.R_far (p := ⟨p4, 2, none⟩) HV6y.out (fun _ h => h) _⟩
             clear hR hT hc hn HS HA HV5 HV5y HV6 HV6y
             have HA := HE
             clear HE
             go_wp2_with (fail)
             generalize wy.setCell ⟨p4, 2, none⟩ (.int .i64 a2) = W3 at *
             clear d f HSy
             have HS := HS2
             clear HS2
             have HV5 := HV52
             clear HV52
             have HV6 := HV62
             clear HV62
             have hc := num_reads W3 q s3 HS.out.rd
             cases hn : numR s3 with
             | none =>
              rw [hn] at hc
              have HE := Lib.hid (HA.out.trans (rdBind_none hn))
              refine hc.mono ?_
              rintro e wz ⟨rfl, hT⟩
              go_wp2
              exact ⟨rfl, by rw [HZ.out HE.out]; exact ⟨rfl, HS.out.tch.trans hT⟩⟩
             | some p =>
              obtain ⟨a3, s4⟩ := p
              rw [hn] at hc
              have hlr_s4 := numR_le hn
              have HE := Lib.hid (HA.out.trans (rdBind_some hn))
              refine hc.mono ?_
              rintro e wy ⟨v, rfl, hv, hR, hT⟩
              obtain ⟨rfl, -⟩ := hv
              have HSy : Aside0 (OS3 q p2 p3 p4 75 75 83 w wy #[.int .i64 0, .int .i64 0, .int .i64 0, .int .i64 0, .string ⟨#[]⟩, .slice none 0 0, .slice none 0 0] #[.int .i64 b.toNat, .int .i64 f1, .int .i64 f2, .int .i64 f3, .string f4, .slice A5 f5.length c5, .slice A6 xs.length c6] #[.int .i64 a0, .string a1, .int .i64 a2, .int .i64 0] s4) := ⟨HS.out.call hT hR⟩
              have HV5y : Aside0 ((Kd.int .i64).R 3 wy w.heap.size (fun _ => True) (.slice A5 f5.length c5) f5) := ⟨rowT HV5.out HS.out.rd hT (by decide)⟩
              have HV6y : Aside0 (kAl.R 83 wy w.heap.size (fun k => k ≠ p4) (.slice A6 xs.length c6) xs) := ⟨rowT HV6.out HS.out.rd hT (by decide)⟩
              have d := cellH HSy.out.hl (i := 3) rfl
              have f := frozenH HSy.out.hl 3
              have HS2 : Aside0 (OS3 q p2 p3 p4 75 75 83 w (wy.setCell ⟨p4, 3, none⟩ (.int .i64 a3)) #[.int .i64 0, .int .i64 0, .int .i64 0, .int .i64 0, .string ⟨#[]⟩, .slice none 0 0, .slice none 0 0] #[.int .i64 b.toNat, .int .i64 f1, .int .i64 f2, .int .i64 f3, .string f4, .slice A5 f5.length c5, .slice A6 xs.length c6] #[.int .i64 a0, .string a1, .int .i64 a2, .int .i64 a3] s4) := ⟨HSy.out.set 3 (.int .i64 a3)⟩
              have HV52 : Aside0 ((Kd.int .i64).R 3 (wy.setCell ⟨p4, 3, none⟩ (.int .i64 a3)) w.heap.size (fun _ => True) (.slice A5 f5.length c5) f5) := ⟨Kd.R_set HV5y.out HSy.out.hl (by decide) 3 _⟩
              have HV62 : Aside0 (kAl.R 83 (wy.setCell ⟨p4, 3, none⟩ (.int .i64 a3)) w.heap.size (fun k => k ≠ p4) (.slice A6 xs.length c6) xs) := ⟨Kd.R_far (p := ⟨p4, 3, none⟩) HV6y.out (fun _ h => h) _⟩
              clear hR hT hc hn HS HA HV5 HV5y HV6 HV6y
              have HA := HE
              clear HE
              go_wp2_with (first | ((with_reducible refine gate_dst (N := 40) rfl ?_); refine Hid.out ?_))
              generalize wy.setCell ⟨p4, 3, none⟩ (.int .i64 a3) = WA at *
              clear d f HSy
              have HS := HS2
              clear HS2
              have HV5 := HV52
              clear HV52
              have HV6 := HV62
              clear HV62
              have d0 := cellH HS.out.hl (i := 0) rfl
              have d1 := cellH HS.out.hl (i := 1) rfl
              have d2 := cellH HS.out.hl (i := 2) rfl
              have d3 := cellH HS.out.hl (i := 3) rfl
              have d6 := cellH HS.out.os.hl (i := 6) rfl
              have HN : Hid (F = rdBind (listS altR (xs ++ [(⟨a0, a1, a2, a3⟩ : GAl)]) (k - (xs ++ [(⟨a0, a1, a2, a3⟩ : GAl)]).length) s4) (fun f6 r8 => some ((⟨(b.toNat : Int), f1, f2, f3, f4, f5, f6⟩ : GOp), r8))) := Lib.hid (HY.out _ _ HA.out)
              clear HY HZ HA
              refine Lib.hid ?_
              go_wp2_with (refine Kd.R_append kAl (w0 := WA) w.heap.size rfl _ _ 73 83 (.agg #[.int .i64 0, .string ⟨#[]⟩, .int .i64 0, .int .i64 0]) 40 rfl Tryz.underlying73 infoAl rfl (by decide) (by omega) (.slice A6 xs.length c6) xs ⟨a0, a1, a2, a3⟩ [.int .i64 a0, .string a1, .int .i64 a2, .int .i64 a3] (fun k => k ≠ p4) (fun _ => False) rfl rfl (k83_mkM WA w.heap.size (fun _ => False) ⟨a0, a1, a2, a3⟩) (fun _ h => h.elim) (fun k hk => by have := blk_lt HS.out.hl; omega) HV6.out (Below.refl _ _) HS.out.tch.size (by omega) ?_)
              intro v1 w3 hrow hb3 hg hat
              have hrow' := Kd.R_mono hrow (fun _ _ => trivial)
              obtain ⟨A7, c7, rfl⟩ := Kd.R_slice hrow
              have HS3 : Aside0 (OS q p2 p3 75 75 w w3 #[.int .i64 0, .int .i64 0, .int .i64 0, .int .i64 0, .string ⟨#[]⟩, .slice none 0 0, .slice none 0 0] #[.int .i64 b.toNat, .int .i64 f1, .int .i64 f2, .int .i64 f3, .string f4, .slice A5 f5.length c5, .slice A6 xs.length c6] s4) := ⟨HS.out.os.grown HV6.out hg (by decide) (by decide) (by decide)⟩
              have HV53 : Aside0 ((Kd.int .i64).R 3 w3 w.heap.size (fun _ => True) (.slice A5 f5.length c5) f5) := ⟨rowG HV5.out HV6.out (by decide) hg⟩
              have HV63 : Aside0 (kAl.R 83 w3 w.heap.size (fun _ => True) (.slice A7 (xs ++ [(⟨a0, a1, a2, a3⟩ : GAl)]).length c7) (xs ++ [(⟨a0, a1, a2, a3⟩ : GAl)])) := ⟨hrow'⟩
              have hxl : ((xs ++ [(⟨a0, a1, a2, a3⟩ : GAl)]).length : Int) = xs.length + 1 := by simp
              have hxk : (xs ++ [(⟨a0, a1, a2, a3⟩ : GAl)]).length ≤ k := by simp; omega
              have hs4 : s4.length ≤ 200000 := by omega
              clear hrow hrow' hb3 hg hat HS HV5 HV6
              generalize hxs : xs ++ [(⟨a0, a1, a2, a3⟩ : GAl)] = xs2 at *
              clear hxs d0 d1 d2 d3 d6
              have d6 := cellH HS3.out.hl (i := 6) rfl
              have z6 := frozenH HS3.out.hl 6
              go_wp2
              go_roundw
              case rel => exact ⟨xs2, s4, A7, c7, hxk, by rw [hxl], hs4, HN, ⟨HS3.out.set 6 _⟩, ⟨Kd.R_set HV53.out HS3.out.hl (by decide) 6 _⟩, ⟨Kd.R_set HV63.out HS3.out.hl (by decide) 6 _⟩⟩
              case measure => simp [intOf]; omega
         ·obtain rfl : k = xs.length := by omega
          have HE := Lib.hid (HF.out.trans (rdBind_some (show listS altR xs (xs.length - xs.length) rr = some (xs, rr) by rw [Nat.sub_self]; exact listS_end _ _ _)))
          have d0 := cellH HS.out.hl (i := 0) rfl
          have e0 := cellH HS.out.h2 (i := 0) rfl
          have z0 := frozenH HS.out.h2 0
          have d1 := cellH HS.out.hl (i := 1) rfl
          have e1 := cellH HS.out.h2 (i := 1) rfl
          have z1 := frozenH HS.out.h2 1
          have d2 := cellH HS.out.hl (i := 2) rfl
          have e2 := cellH HS.out.h2 (i := 2) rfl
          have z2 := frozenH HS.out.h2 2
          have d3 := cellH HS.out.hl (i := 3) rfl
          have e3 := cellH HS.out.h2 (i := 3) rfl
          have z3 := frozenH HS.out.h2 3
          have d4 := cellH HS.out.hl (i := 4) rfl
          have e4 := cellH HS.out.h2 (i := 4) rfl
          have z4 := frozenH HS.out.h2 4
          have d5 := cellH HS.out.hl (i := 5) rfl
          have e5 := cellH HS.out.h2 (i := 5) rfl
          have z5 := frozenH HS.out.h2 5
          have d6 := cellH HS.out.hl (i := 6) rfl
          have e6 := cellH HS.out.h2 (i := 6) rfl
          have z6 := frozenH HS.out.h2 6
          have HV5f : Aside0 ((Kd.int .i64).R 3 (((((((wr.setCell ⟨p2, 0, none⟩ (.int .i64 b.toNat)).setCell ⟨p2, 1, none⟩ (.int .i64 f1)).setCell ⟨p2, 2, none⟩ (.int .i64 f2)).setCell ⟨p2, 3, none⟩ (.int .i64 f3)).setCell ⟨p2, 4, none⟩ (.string f4)).setCell ⟨p2, 5, none⟩ (.slice A5 f5.length c5)).setCell ⟨p2, 6, none⟩ (.slice A6 xs.length c6)) w.heap.size (fun _ => True) (.slice A5 f5.length c5) f5) := ⟨(Kd.R_set (Kd.R_set (Kd.R_set (Kd.R_set (Kd.R_set (Kd.R_set (Kd.R_set HV5.out HS.out.h2 (by decide) 0 (.int .i64 b.toNat)) (HS.out.set2 0 (.int .i64 b.toNat)).h2 (by decide) 1 (.int .i64 f1)) ((HS.out.set2 0 (.int .i64 b.toNat)).set2 1 (.int .i64 f1)).h2 (by decide) 2 (.int .i64 f2)) (((HS.out.set2 0 (.int .i64 b.toNat)).set2 1 (.int .i64 f1)).set2 2 (.int .i64 f2)).h2 (by decide) 3 (.int .i64 f3)) ((((HS.out.set2 0 (.int .i64 b.toNat)).set2 1 (.int .i64 f1)).set2 2 (.int .i64 f2)).set2 3 (.int .i64 f3)).h2 (by decide) 4 (.string f4)) (((((HS.out.set2 0 (.int .i64 b.toNat)).set2 1 (.int .i64 f1)).set2 2 (.int .i64 f2)).set2 3 (.int .i64 f3)).set2 4 (.string f4)).h2 (by decide) 5 (.slice A5 f5.length c5)) ((((((HS.out.set2 0 (.int .i64 b.toNat)).set2 1 (.int .i64 f1)).set2 2 (.int .i64 f2)).set2 3 (.int .i64 f3)).set2 4 (.string f4)).set2 5 (.slice A5 f5.length c5)).h2 (by decide) 6 (.slice A6 xs.length c6))⟩
          have HV6f : Aside0 (kAl.R 83 (((((((wr.setCell ⟨p2, 0, none⟩ (.int .i64 b.toNat)).setCell ⟨p2, 1, none⟩ (.int .i64 f1)).setCell ⟨p2, 2, none⟩ (.int .i64 f2)).setCell ⟨p2, 3, none⟩ (.int .i64 f3)).setCell ⟨p2, 4, none⟩ (.string f4)).setCell ⟨p2, 5, none⟩ (.slice A5 f5.length c5)).setCell ⟨p2, 6, none⟩ (.slice A6 xs.length c6)) w.heap.size (fun _ => True) (.slice A6 xs.length c6) xs) := ⟨(Kd.R_set (Kd.R_set (Kd.R_set (Kd.R_set (Kd.R_set (Kd.R_set (Kd.R_set HV6.out HS.out.h2 (by decide) 0 (.int .i64 b.toNat)) (HS.out.set2 0 (.int .i64 b.toNat)).h2 (by decide) 1 (.int .i64 f1)) ((HS.out.set2 0 (.int .i64 b.toNat)).set2 1 (.int .i64 f1)).h2 (by decide) 2 (.int .i64 f2)) (((HS.out.set2 0 (.int .i64 b.toNat)).set2 1 (.int .i64 f1)).set2 2 (.int .i64 f2)).h2 (by decide) 3 (.int .i64 f3)) ((((HS.out.set2 0 (.int .i64 b.toNat)).set2 1 (.int .i64 f1)).set2 2 (.int .i64 f2)).set2 3 (.int .i64 f3)).h2 (by decide) 4 (.string f4)) (((((HS.out.set2 0 (.int .i64 b.toNat)).set2 1 (.int .i64 f1)).set2 2 (.int .i64 f2)).set2 3 (.int .i64 f3)).set2 4 (.string f4)).h2 (by decide) 5 (.slice A5 f5.length c5)) ((((((HS.out.set2 0 (.int .i64 b.toNat)).set2 1 (.int .i64 f1)).set2 2 (.int .i64 f2)).set2 3 (.int .i64 f3)).set2 4 (.string f4)).set2 5 (.slice A5 f5.length c5)).h2 (by decide) 6 (.slice A6 xs.length c6))⟩
          have HSf : Aside0 (OS q p2 p3 75 75 w (((((((wr.setCell ⟨p2, 0, none⟩ (.int .i64 b.toNat)).setCell ⟨p2, 1, none⟩ (.int .i64 f1)).setCell ⟨p2, 2, none⟩ (.int .i64 f2)).setCell ⟨p2, 3, none⟩ (.int .i64 f3)).setCell ⟨p2, 4, none⟩ (.string f4)).setCell ⟨p2, 5, none⟩ (.slice A5 f5.length c5)).setCell ⟨p2, 6, none⟩ (.slice A6 xs.length c6)) #[.int .i64 b.toNat, .int .i64 f1, .int .i64 f2, .int .i64 f3, .string f4, .slice A5 f5.length c5, .slice A6 xs.length c6] #[.int .i64 b.toNat, .int .i64 f1, .int .i64 f2, .int .i64 f3, .string f4, .slice A5 f5.length c5, .slice A6 xs.length c6] rr) := ⟨(((((((HS.out.set2 0 (.int .i64 b.toNat)).set2 1 (.int .i64 f1)).set2 2 (.int .i64 f2)).set2 3 (.int .i64 f3)).set2 4 (.string f4)).set2 5 (.slice A5 f5.length c5)).set2 6 (.slice A6 xs.length c6))⟩
          clear HF HS HV5 HV6
          go_wp2
          generalize (((((((wr.setCell ⟨p2, 0, none⟩ (.int .i64 b.toNat)).setCell ⟨p2, 1, none⟩ (.int .i64 f1)).setCell ⟨p2, 2, none⟩ (.int .i64 f2)).setCell ⟨p2, 3, none⟩ (.int .i64 f3)).setCell ⟨p2, 4, none⟩ (.string f4)).setCell ⟨p2, 5, none⟩ (.slice A5 f5.length c5)).setCell ⟨p2, 6, none⟩ (.slice A6 xs.length c6)) = WF at *
          have x0 := cellH HSf.out.h2 (i := 0) rfl
          have x1 := cellH HSf.out.h2 (i := 1) rfl
          have x2 := cellH HSf.out.h2 (i := 2) rfl
          have x3 := cellH HSf.out.h2 (i := 3) rfl
          have x4 := cellH HSf.out.h2 (i := 4) rfl
          have x5 := cellH HSf.out.h2 (i := 5) rfl
          have x6 := cellH HSf.out.h2 (i := 6) rfl
          refine bodyPost_ret (v := .agg #[.int .i64 b.toNat, .int .i64 f1, .int .i64 f2, .int .i64 f3, .string f4, .slice A5 f5.length c5, .slice A6 xs.length c6]) (by simp [results, Tryz.results147, go_sem, x0, x1, x2, x3, x4, x5, x6]) rfl ?_
          rw [HE.out]
          exact ⟨_, rfl, ⟨_, rfl, k75_mkM WF w.heap.size (fun _ => True) ⟨b.toNat, f1, f2, f3, f4, f5, xs⟩ HV5f.out HV6f.out⟩, HSf.out.rd, HSf.out.tch⟩
end Go.Proofs.YtmfjkepanmoeiaaGreatDoor.CJ
