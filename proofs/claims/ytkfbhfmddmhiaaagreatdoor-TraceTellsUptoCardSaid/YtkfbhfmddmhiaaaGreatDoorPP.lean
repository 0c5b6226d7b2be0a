/- The text of a whole trace, and what it holds; the text of two parts is that of the whole. Conditions: the trace lies in memory, its numbers are of 64 bits, it is not too large; the powers of ten lie where the program lays them. The plain facts behind TraceParts: what Of, Output, Ints and Join compute. Conditions: the trace is not too large. The reference's events of a thread: the Go function Of of the reference answers the events of the thread, in their order. Conditions: the trace lies in memory and is not too long. What calls of Output and Of leave. Conditions: the trace lies in memory and is not too large. -/
import Derived.Test.YtkfbhfmddmhiaaaGreatDoorOO
import Derived.Test.YtkfbhfmddmhiaaaGreatDoorT1
import Derived.Test.YtkfbhfmddmhiaaaGreatDoorE4
namespace Go.Proofs.YtkfbhfmddmhiaaaGreatDoor.TJ
open Go.RowKit Go.Proofs.YtkfbhfmddmhiaaaGreatDoorW.PrintWords Go.Proofs.YtkfbhfmddmhiaaaGreatDoorW.PrintLast Go.Proofs.YtkfbhfmddmhiaaaGreatDoor.PT Go.Proofs.YtkfbhfmddmhiaaaGreatDoor.IMaps
set_option linter.unusedVariables false
set_option linter.unusedSimpArgs false

theorem accs_len (m : UInt8) : ∀ (l : List Ac), (∀ a ∈ l, wfA a) → ((l.map (accT m)).flatten).length ≤ 100 * (l.map szA).sum
  | [], _ => by simp
  | a :: r, h => by
    have h0 := accT_len m a (h a (.head _))
    have h1 := accs_len m r fun b hb => h b (.tail _ hb)
    simp only [List.map_cons, List.flatten_cons, List.length_append, List.sum_cons]
    omega

theorem evT_len (x : Ev) (h : wfE x) : (evT accT x).length ≤ 100 * szE x := by
  have h0 := accs_len 114 x.f5 h.2.1
  have h1 := accs_len 119 x.f6 h.2.2
  have a0 := Lib.itoa_length_le x.f0 h.1.1.1 h.1.1.2
  have a1 := Lib.itoa_length_le x.f1 h.1.2.1.1 h.1.2.1.2
  have a2 := Lib.itoa_length_le x.f2 h.1.2.2.1.1 h.1.2.2.1.2
  have a3 := Lib.itoa_length_le x.f3 h.1.2.2.2.1.1 h.1.2.2.2.1.2
  have a4 := Lib.itoa_length_le x.f4 h.1.2.2.2.2.1 h.1.2.2.2.2.2
  unfold evT headT szE
  simp only [List.length_append, Lib.join_cons, Lib.joinTail, List.map_cons, List.map_nil, List.flatten_cons, List.flatten_nil, List.length_cons, List.length_nil]
  omega

theorem textT_len : ∀ (l : List Ev), (∀ x ∈ l, wfE x) → (textT accT l).length ≤ 100 * szL l
  | [], _ => by simp [textT]
  | x :: r, h => by
    have h0 := evT_len x (h x (.head _))
    have h1 := textT_len r fun y hy => h y (.tail _ hy)
    unfold textT szL at h1 ⊢
    simp only [List.map_cons, List.flatten_cons, List.length_append, List.sum_cons]
    omega

theorem szL_len : ∀ (l : List Ev), l.length ≤ szL l
  | [] => by simp
  | x :: r => by
    have := szL_len r
    have h1 : 1 ≤ szE x := by unfold szE; omega
    unfold szL at this ⊢
    simp only [List.map_cons, List.sum_cons, List.length_cons]
    omega
theorem szE_mem : ∀ (l : List Ev) (x : Ev), x ∈ l → szE x ≤ szL l
  | y :: r, x, h => by
    rcases List.mem_cons.1 h with rfl | h
    · unfold szL; simp
    · have := szE_mem r x h
      unfold szL at this ⊢
      simp only [List.map_cons, List.sum_cons]
      omega
theorem szA_mem : ∀ (l : List Ac) (a : Ac), a ∈ l → szA a ≤ (l.map szA).sum
  | b :: r, a, h => by
    rcases List.mem_cons.1 h with rfl | h
    · simp
    · have := szA_mem r a h
      simp only [List.map_cons, List.sum_cons]
      omega
theorem szL_append (l m : List Ev) : szL (l ++ m) = szL l + szL m := by simp [szL]
theorem itoaAt_of {w : World} (hT : Tens w) {n : Int} (h : -9223372036854775808 ≤ n ∧ n ≤ 9223372036854775807) : ItoaAt w n :=
  ⟨Nat.le_trans (Lib.itoa_length_le n h.1 h.2) (by decide), fun W hW => itoa_calls n h W (hT.below hW)⟩

theorem MaxL.below {w w' : World} (h : MaxL w) (hb : Below w.heap.size w w') : MaxL w' := let ⟨m, hm⟩ := h; ⟨m, pw_cell_below hb hm⟩

theorem text_full (l : List Ev) (hw : ∀ x ∈ l, wfE x) (hs : szL l ≤ 4000000) (w : World) (hT : Tens w) (hM : MaxL w) (A : Option Addr) (c : Nat) (hc : l.length ≤ c) (C1 : kEv.C w A l.length l) :
    Calls Tryz.prog 8 #[.slice A l.length c] w fun e w' => e = .returned (.string ⟨(textT accT l).toArray⟩) ∧ Below w.heap.size w w' := by
  refine text_calls accT l (by have := szL_len l; omega) w A c hc C1 (fun x hx => ?_) (fun x hx => ?_) (by have := textT_len l hw; omega)
  · have h := (hw x hx).1
    exact ⟨itoaAt_of hT h.1, itoaAt_of hT h.2.1, itoaAt_of hT h.2.2.1, itoaAt_of hT h.2.2.2.1, itoaAt_of hT h.2.2.2.2⟩
  · have hx1 := szE_mem l x hx
    unfold szE at hx1
    exact ⟨fun a ha => access_at w a hT hM ((hw x hx).2.1 a ha) (by have := szA_mem _ a ha; omega), fun a ha => access_at w a hT hM ((hw x hx).2.2 a ha) (by have := szA_mem _ a ha; omega)⟩
end Go.Proofs.YtkfbhfmddmhiaaaGreatDoor.TJ
namespace Go.Proofs.YtkfbhfmddmhiaaaGreatDoor.TJ
open Go.RowKit Go.Proofs.YtkfbhfmddmhiaaaGreatDoorW.PrintWords Go.Proofs.YtkfbhfmddmhiaaaGreatDoorW.PrintLast Go.Proofs.YtkfbhfmddmhiaaaGreatDoor.PT Go.Proofs.YtkfbhfmddmhiaaaGreatDoor.IMaps
set_option linter.unusedVariables false
set_option linter.unusedSimpArgs false

def ValOk (x : Vl) : Prop := Go.Proofs.YtkfbhfmddmhiaaaGreatDoorW.PrintWords.Ev (fun k => trace_valueOf.f k x.f0 x.f1 x.f2 x.f3) (x.f0, x.f1, x.f2, x.f3)

theorem etaV (x : Vl) : (⟨x.f0, x.f1, x.f2, x.f3⟩ : Vl) = x := by cases x; rfl

theorem szVs_len : ∀ (l : List Vl), l.length ≤ szVs l
  | [] => by simp
  | v :: r => by
    have := szVs_len r
    have h1 := szV_eq v
    simp only [szVs, List.length_cons]
    omega

theorem valueOf_loop (l : List Vl) (hl : l.length ≤ 4000000) (hin : ∀ (j : Nat) (h : j < l.length), ValOk l[j]) (a b : Int) (s : ByteArray) (l0 : List Vl) :
    ∀ (m i : Nat), l.length - i ≤ m → i ≤ l.length → Go.Proofs.YtkfbhfmddmhiaaaGreatDoorW.PrintWords.Ev (fun k => trace_valueOf.l0 k (l.take i) l (l.length : Int) (i : Int) a b s l0) (a, b, s, l) := by
  intro m
  induction m with
  | zero =>
    intro i hm hi
    refine Ev.step (f := fun _ => some (a, b, s, l)) (fun k => ?_) (Ev.now _)
    simp only [trace_valueOf.l0]
    rw [if_neg (by omega), List.take_of_length_le (by omega)]
  | succ m ih =>
    intro i hm hi
    by_cases h : i < l.length
    · refine Ev.step (fun k => by simp only [trace_valueOf.l0]; rw [if_pos (by omega), if_pos (by omega), if_pos (by omega), rdV0 _ _ h]) ?_
      refine Ev.bind (a := (l[i].f0, l[i].f1, l[i].f2, l[i].f3)) (hin i h) ?_
      have e2 : wrap64 ((i : Int) + 1) = ((i + 1 : Nat) : Int) := by rw [IntWalk.wrap64_in _ (by omega)]; rfl
      have e3 : (l.take i).length < 2513169434916 := by rw [List.length_take]; omega
      have := ih (i + 1) (by omega) (by omega)
      rw [List.take_succ_eq_append_getElem h] at this
      simp only [e2, if_pos e3, etaV]
      exact this
    · refine Ev.step (f := fun _ => some (a, b, s, l)) (fun k => ?_) (Ev.now _)
      simp only [trace_valueOf.l0]
      rw [if_neg (by omega), List.take_of_length_le (by omega)]

theorem valueOf_ok : ∀ (n : Nat) (x : Vl), vdepth x ≤ n → szV x ≤ 4000000 → ValOk x := by
  intro n
  induction n with
  | zero => intro x h; rw [vdepth_eq] at h; omega
  | succ n ih =>
    intro x h hs
    rw [vdepth_eq] at h
    rw [szV_eq] at hs
    have hl := szVs_len x.f3
    refine Ev.step (f := fun k => trace_valueOf.l0 k [] x.f3 (x.f3.length : Int) 0 x.f0 x.f1 x.f2 x.f3) (fun k => by simp only [trace_valueOf.f]) ?_
    exact valueOf_loop x.f3 (by omega) (fun j hj => ih _ (by
      have := vdepths_mem x.f3 j hj
      rw [rdV0 _ _ hj] at this
      omega) (by have := szVs_get x.f3 j hj; omega)) x.f0 x.f1 x.f2 x.f3 x.f3.length 0 (by omega) (by omega)

theorem szA_get (l : List Ac) (j : Nat) (h : j < l.length) : szA l[j] ≤ (l.map szA).sum := szA_mem l _ (List.getElem_mem h)
theorem szA_len : ∀ (l : List Ac), l.length ≤ (l.map szA).sum
  | [] => by simp
  | a :: r => by
    have := szA_len r
    have h1 : 1 ≤ szA a := by unfold szA; omega
    simp only [List.map_cons, List.sum_cons, List.length_cons]
    omega

theorem accesses_loop (l : List Ac) (hs : (l.map szA).sum ≤ 4000000) : ∀ (m i : Nat), l.length - i ≤ m → i ≤ l.length → Go.Proofs.YtkfbhfmddmhiaaaGreatDoorW.PrintWords.Ev (fun k => trace_accesses.l0 k (l.take i) l (l.length : Int) (i : Int)) l := by
  have hl := szA_len l
  intro m
  induction m with
  | zero =>
    intro i hm hi
    refine Ev.step (f := fun _ => some l) (fun k => ?_) (Ev.now _)
    simp only [trace_accesses.l0]
    rw [if_neg (by omega), List.take_of_length_le (by omega)]
  | succ m ih =>
    intro i hm hi
    by_cases h : i < l.length
    · refine Ev.step (fun k => by simp only [trace_accesses.l0]; rw [if_pos (by omega), if_pos (by omega), if_pos (by omega), rdA _ _ h]) ?_
      refine Ev.bind (a := (l[i].f1.f0, l[i].f1.f1, l[i].f1.f2, l[i].f1.f3)) (valueOf_ok _ l[i].f1 (Nat.le_refl _) (by have h1 : szV l[i].f1 + 1 ≤ (l.map szA).sum := szA_get l i h; omega)) ?_
      have e2 : wrap64 ((i : Int) + 1) = ((i + 1 : Nat) : Int) := by rw [IntWalk.wrap64_in _ (by omega)]; rfl
      have e3 : (l.take i).length < 2199023255552 := by rw [List.length_take]; omega
      have := ih (i + 1) (by omega) (by omega)
      rw [List.take_succ_eq_append_getElem h] at this
      simp only [e2, if_pos e3, etaV]
      exact this
    · refine Ev.step (f := fun _ => some l) (fun k => ?_) (Ev.now _)
      simp only [trace_accesses.l0]
      rw [if_neg (by omega), List.take_of_length_le (by omega)]

theorem accesses_ok (l : List Ac) (hs : (l.map szA).sum ≤ 4000000) : Go.Proofs.YtkfbhfmddmhiaaaGreatDoorW.PrintWords.Ev (fun k => trace_accesses.f k l) l :=
  accesses_loop l hs l.length 0 (by omega) (by omega)

def ofT (th : Int) (l : List Ev) : List Ev := l.filter (fun x => x.f1 == th)
theorem ofT_take (th : Int) (l : List Ev) (i : Nat) (h : i < l.length) : ofT th (l.take (i + 1)) = if l[i].f1 = th then ofT th (l.take i) ++ [l[i]] else ofT th (l.take i) := by
  rw [List.take_succ_eq_append_getElem h]
  unfold ofT
  rw [List.filter_append]
  by_cases hh : l[i].f1 = th
  · rw [if_pos hh]; simp [hh]
  · rw [if_neg hh]; simp [hh]

theorem Of_loop (th : Int) (l : List Ev) (hs : szL l ≤ 4000000) : ∀ (m i : Nat), l.length - i ≤ m → i ≤ l.length → Go.Proofs.YtkfbhfmddmhiaaaGreatDoorW.PrintWords.Ev (fun k => trace_Of.l0 k th (ofT th (l.take i)) l (l.length : Int) (i : Int)) (ofT th l) := by
  have hl := szL_len l
  intro m
  induction m with
  | zero =>
    intro i hm hi
    refine Ev.step (f := fun _ => some (ofT th l)) (fun k => ?_) (Ev.now _)
    simp only [trace_Of.l0]
    rw [if_neg (by omega), List.take_of_length_le (by omega)]
  | succ m ih =>
    intro i hm hi
    by_cases h : i < l.length
    · have e2 : wrap64 ((i : Int) + 1) = ((i + 1 : Nat) : Int) := by rw [IntWalk.wrap64_in _ (by omega)]; rfl
      have hx := szE_mem l l[i] (List.getElem_mem h)
      unfold szE at hx
      have := ih (i + 1) (by omega) (by omega)
      rw [ofT_take th l i h] at this
      by_cases hh : l[i].f1 = th
      · refine Ev.step (fun k => by simp only [trace_Of.l0]; rw [if_pos (by omega), if_pos (by omega), if_pos (by omega), rdE _ _ h, if_pos hh]) ?_
        refine Ev.bind (a := l[i].f5) (accesses_ok _ (by omega)) ?_
        refine Ev.bind (a := l[i].f6) (accesses_ok _ (by omega)) ?_
        have e3 : (ofT th (l.take i)).length < 1599289640401 := by
          have h1 : (ofT th (l.take i)).length ≤ (l.take i).length := List.length_filter_le _ _
          rw [List.length_take] at h1
          omega
        rw [if_pos hh] at this
        simp only [e2, if_pos e3]
        exact this
      · refine Ev.step (fun k => by simp only [trace_Of.l0]; rw [if_pos (by omega), if_pos (by omega), if_pos (by omega), rdE _ _ h, if_neg hh]) ?_
        rw [if_neg hh] at this
        simp only [e2]
        exact this
    · refine Ev.step (f := fun _ => some (ofT th l)) (fun k => ?_) (Ev.now _)
      simp only [trace_Of.l0]
      rw [if_neg (by omega), List.take_of_length_le (by omega)]

theorem Of_ok (th : Int) (l : List Ev) (hs : szL l ≤ 4000000) : ∃ k, trace_Of.f k l th = some (ofT th l) :=
  Ev.rounds (g := fun k => trace_Of.f k l th) (Of_loop th l hs l.length 0 (by omega) (by omega))

def outT (l : List Ev) : List Int := (l.filter (fun x => x.f2 == 1)).map (·.f3)
theorem outT_append (l m : List Ev) : outT (l ++ m) = outT l ++ outT m := by simp [outT]
theorem outT_take (l : List Ev) (i : Nat) (h : i < l.length) : outT (l.take (i + 1)) = if l[i].f2 = 1 then outT (l.take i) ++ [l[i].f3] else outT (l.take i) := by
  rw [List.take_succ_eq_append_getElem h, outT_append]
  by_cases hh : l[i].f2 = 1
  · rw [if_pos hh]; simp [outT, hh]
  · rw [if_neg hh]; simp [outT, hh]
theorem outT_len (l : List Ev) : (outT l).length ≤ l.length := by unfold outT; rw [List.length_map]; exact List.length_filter_le _ _

theorem Output_loop (l : List Ev) (hs : l.length ≤ 4000000) : ∀ (m i : Nat), l.length - i ≤ m → i ≤ l.length → Go.Proofs.YtkfbhfmddmhiaaaGreatDoorW.PrintWords.Ev (fun k => trace_Output.l0 k (outT (l.take i)) l (l.length : Int) (i : Int)) (outT l) := by
  intro m
  induction m with
  | zero =>
    intro i hm hi
    refine Ev.step (f := fun _ => some (outT l)) (fun k => ?_) (Ev.now _)
    simp only [trace_Output.l0]
    rw [if_neg (by omega), List.take_of_length_le (by omega)]
  | succ m ih =>
    intro i hm hi
    by_cases h : i < l.length
    · have e2 : wrap64 ((i : Int) + 1) = ((i + 1 : Nat) : Int) := by rw [IntWalk.wrap64_in _ (by omega)]; rfl
      have := ih (i + 1) (by omega) (by omega)
      rw [outT_take l i h] at this
      by_cases hh : l[i].f2 = 1
      · have e3 : (outT (l.take i)).length < 17592186044416 := by
          have h1 := outT_len (l.take i)
          rw [List.length_take] at h1
          omega
        refine Ev.step (fun k => by simp only [trace_Output.l0]; rw [if_pos (by omega), if_pos (by omega), if_pos (by omega), rdE _ _ h, if_pos hh, if_pos e3, e2]) ?_
        rw [if_pos hh] at this
        exact this
      · refine Ev.step (fun k => by simp only [trace_Output.l0]; rw [if_pos (by omega), if_pos (by omega), if_pos (by omega), rdE _ _ h, if_neg hh, e2]) ?_
        rw [if_neg hh] at this
        exact this
    · refine Ev.step (f := fun _ => some (outT l)) (fun k => ?_) (Ev.now _)
      simp only [trace_Output.l0]
      rw [if_neg (by omega), List.take_of_length_le (by omega)]

theorem Output_ok (l : List Ev) (hs : l.length ≤ 4000000) : ∃ k, trace_Output.f k l = some (outT l) :=
  Ev.rounds (g := fun k => trace_Output.f k l) (Output_loop l hs l.length 0 (by omega) (by omega))

theorem Ints_loop (l : List Int) (hs : l.length ≤ 4000000) : ∀ (m i : Nat), l.length - i ≤ m → i ≤ l.length → Go.Proofs.YtkfbhfmddmhiaaaGreatDoorW.PrintWords.Ev (fun k => damaskref22_Ints.l0 k l l (i : Int)) true := by
  intro m
  induction m with
  | zero =>
    intro i hm hi
    refine Ev.step (f := fun _ => some true) (fun k => ?_) (Ev.now _)
    simp only [damaskref22_Ints.l0]
    rw [if_neg (by omega)]
  | succ m ih =>
    intro i hm hi
    by_cases h : i < l.length
    · have e2 : wrap64 ((i : Int) + 1) = ((i + 1 : Nat) : Int) := by rw [IntWalk.wrap64_in _ (by omega)]; rfl
      refine Ev.step (fun k => by simp only [damaskref22_Ints.l0]; rw [if_pos (by omega), if_pos (by omega), if_pos (by omega), if_pos trivial, e2]) ?_
      exact ih (i + 1) (by omega) (by omega)
    · refine Ev.step (f := fun _ => some true) (fun k => ?_) (Ev.now _)
      simp only [damaskref22_Ints.l0]
      rw [if_neg (by omega)]
theorem Ints_ok (l : List Int) (hs : l.length ≤ 4000000) : ∃ k, damaskref22_Ints.f k l l = some true := by
  refine Ev.rounds (g := fun k => damaskref22_Ints.f k l l) ?_
  exact Ev.congr (f := fun k => damaskref22_Ints.l0 k l l 0) (fun k => by unfold damaskref22_Ints.f; rw [if_pos rfl]) (Ints_loop l hs l.length 0 (by omega) (by omega))

end Go.Proofs.YtkfbhfmddmhiaaaGreatDoor.TJ
namespace Go.Proofs.YtkfbhfmddmhiaaaGreatDoor.TJ
open Go.RowKit Go.Proofs.YtkfbhfmddmhiaaaGreatDoorW.PrintWords Go.Proofs.YtkfbhfmddmhiaaaGreatDoorW.PrintLast Go.Proofs.YtkfbhfmddmhiaaaGreatDoor.PT Go.Proofs.YtkfbhfmddmhiaaaGreatDoor.IMaps
set_option linter.unusedVariables false
set_option linter.unusedSimpArgs false

abbrev kFx (w : World) : Kd Ev := Kd.fixed kEv w

set_option maxRecDepth 100000 in
set_option maxHeartbeats 4000000 in
theorem refOf_calls (l : List Ev) (th : Int) (hs : l.length ≤ 4000000) (w : World) (A : Option Addr) (c : Nat) (hc : l.length ≤ c) (C1 : kEv.C w A l.length l) :
    Calls Tryz.prog 16 #[.slice A l.length c, .int .i64 th] w fun e w' => ∃ v, e = .returned v ∧ Kd.R (kFx w) 44 w' w.heap.size (fun _ => True) v (ofT th l) ∧ Below w.heap.size w w' := by
  have K1 := Aside0.mk C1
  clear C1
  go_enter Tryz.func16, Tryz.ntmps16
  go_wp2
  go_loopw [5, 6] (fun v i wr => ∃ j : Nat, j ≤ l.length ∧ i = .int .i64 j ∧ Aside0 (Kd.R (kFx w) 44 wr w.heap.size (fun _ => True) v (ofT th (l.take j))) ∧ Aside0 (Below w.heap.size w wr)) (fun _ i _ => l.length - (intOf i).toNat)
  case atStart => exact ⟨0, by omega, rfl, ⟨Kd.R_nil _ _ _ _ _⟩, ⟨Below.refl _ _⟩⟩
  case round =>
    obtain ⟨v, hv⟩ : ∃ v : Value, v = u5 := ⟨_, rfl⟩
    subst hv
    obtain ⟨j, hj, rfl, HR, HB⟩ := hrel
    by_cases hlt : j < l.length
    · obtain ⟨ad, A5, c5, A6, c6, e3, hx0, hx1, hx2, hx3, hx4, hx5, hx6, g5, C5, g6, C6⟩ := at_T44 K1.out (j : Int) (by omega) (by omega)
      cases e3
      simp only [Int.toNat_natCast] at hx0 hx1 hx2 hx3 hx4 hx5 hx6
      replace hx0 := (HB.out.cell (World.block_lt_of_cell? w _ hx0)).trans hx0
      replace hx1 := (HB.out.cell (World.block_lt_of_cell? w _ hx1)).trans hx1
      replace hx2 := (HB.out.cell (World.block_lt_of_cell? w _ hx2)).trans hx2
      replace hx3 := (HB.out.cell (World.block_lt_of_cell? w _ hx3)).trans hx3
      replace hx4 := (HB.out.cell (World.block_lt_of_cell? w _ hx4)).trans hx4
      replace hx5 := (HB.out.cell (World.block_lt_of_cell? w _ hx5)).trans hx5
      replace hx6 := (HB.out.cell (World.block_lt_of_cell? w _ hx6)).trans hx6
      have htk := ofT_take th l j hlt
      rw [← rdE l j hlt] at htk
      have hK := k44_mk w (rd_T44 l (j : Int)) g5 C5 g6 C6
      generalize hX : rd_T44 l (j : Int) = X at *
      clear hX
      have HK := Lib.hid (And.intro hK htk)
      clear hK htk g5 C5 g6 C6
      have hcnt : ((ofT th (l.take j)).length + 1) * 88 ≤ 140737488355328 := by
        have h1 : (ofT th (l.take j)).length ≤ (l.take j).length := List.length_filter_le _ _
        rw [List.length_take] at h1
        omega
      have HC := Lib.hid hcnt
      clear hcnt
      cases hd : (X.f1 == th) with
      | true =>
        have HT := Lib.hid (show ofT th (l.take (j + 1)) = ofT th (l.take j) ++ [X] by rw [HK.out.2, if_pos (by simpa using hd)])
        go_wp2_with (at_builtin; refine Kd.R_append (kFx w) (w0 := w) w.heap.size rfl _ _ 22 44 _ _ rfl Tryz.underlying22 info44 rfl (show 0 < 7 by decide) (by omega) v (ofT th (l.take j)) X [.int .i64 X.f0, .int .i64 X.f1, .int .i64 X.f2, .int .i64 X.f3, .int .i64 X.f4, .slice A5 X.f5.length c5, .slice A6 X.f6.length c6] (fun _ => True) (fun _ => False) rfl rfl HK.out.1 (fun _ h => h.elim) (fun _ _ => trivial) HR.out HB.out HB.out.size HC.out ?_; intro v1 w1 hR1 hb1 _ _)
        have HR1 : Aside0 (Kd.R (kFx w) 44 w1 w.heap.size (fun _ => True) v1 (ofT th (l.take (j + 1)))) := ⟨by rw [HT.out]; exact hR1⟩
        have HB1 := Aside0.mk hb1
        clear hR1 hb1
        go_wp2
        go_roundw
        case rel => exact ⟨j + 1, by omega, by go_num, HR1, HB1⟩
        case measure => simp [intOf]; omega
      | false =>
        have HR1 : Aside0 (Kd.R (kFx w) 44 wr w.heap.size (fun _ => True) v (ofT th (l.take (j + 1)))) := ⟨by rw [HK.out.2, if_neg (by simpa using hd)]; exact HR.out⟩
        go_wp2
        go_roundw
        case rel => exact ⟨j + 1, by omega, by go_num, HR1, HB⟩
        case measure => simp [intOf]; omega
    · have hje : j = l.length := by omega
      subst hje
      have HR1 := HR.out
      rw [List.take_of_length_le (Nat.le_refl _)] at HR1
      have HR2 := Aside0.mk HR1
      clear HR1 HR
      go_wp2
      go_ret
      exact ⟨_, rfl, HR2.out, HB.out⟩

theorem refOf_reads {l : List Ev} {w w' : World} {v : Value} {b : Nat} (h : Kd.R (kFx w) 44 w' b (fun _ => True) v l) (hb : Below w.heap.size w w') : ∃ A c, v = .slice A l.length c ∧ l.length ≤ c ∧ kEv.C w' A l.length l := by
  obtain ⟨A, c, rfl, hl, hC⟩ := Kd.R_reads h
  exact ⟨A, c, rfl, hl, ReadsRow.imp_ hC (Below.refl _ _) (fun _ _ hp => kEv.K_below hb hp)⟩
end Go.Proofs.YtkfbhfmddmhiaaaGreatDoor.TJ
namespace Go.Proofs.YtkfbhfmddmhiaaaGreatDoor.TJ
open Go.RowKit Go.Proofs.YtkfbhfmddmhiaaaGreatDoorW.PrintWords Go.Proofs.YtkfbhfmddmhiaaaGreatDoorW.PrintLast Go.Proofs.YtkfbhfmddmhiaaaGreatDoor.PT Go.Proofs.YtkfbhfmddmhiaaaGreatDoor.IMaps
set_option linter.unusedVariables false
set_option linter.unusedSimpArgs false

theorem output_calls (l : List Ev) (hs : l.length ≤ 4000000) (w : World) (A : Option Addr) (c : Nat) (hc : l.length ≤ c) (C1 : kEv.C w A l.length l) (W : World) (hW : Below w.heap.size w W) :
    Calls Tryz.prog 12 #[.slice A l.length c] W fun e w' => ∃ B d, e = .returned (.slice B (outT l).length d) ∧ (outT l).length ≤ d ∧ Kd.C (Kd.int .i64) w' B (outT l).length (outT l) ∧ Below W.heap.size W w' := by
  obtain ⟨k, hk⟩ := Output_ok l hs
  refine (trace_Output.calls k A c l (outT l) W (Kd.C_below C1 hW) hc hk).mono ?_
  rintro e w' ⟨v0, rfl, hR, hb⟩
  obtain ⟨B, d, rfl, hd, hC⟩ := Kd.R_reads hR
  exact ⟨B, d, rfl, hd, hC, hb⟩
theorem of_calls (l : List Ev) (th : Int) (hs : szL l ≤ 4000000) (w : World) (A : Option Addr) (c : Nat) (hc : l.length ≤ c) (C1 : kEv.C w A l.length l) (W : World) (hW : Below w.heap.size w W) :
    Calls Tryz.prog 15 #[.slice A l.length c, .int .i64 th] W fun e w' => ∃ B d, e = .returned (.slice B (ofT th l).length d) ∧ (ofT th l).length ≤ d ∧ kEv.C w' B (ofT th l).length (ofT th l) ∧ Below W.heap.size W w' := by
  obtain ⟨k, hk⟩ := Of_ok th l hs
  refine (trace_Of.calls k A c l th (ofT th l) W (Kd.C_below C1 hW) hc hk).mono ?_
  rintro e w' ⟨v0, rfl, hR, hb⟩
  obtain ⟨B, d, rfl, hd, hC⟩ := Kd.R_reads hR
  exact ⟨B, d, rfl, hd, hC, hb⟩
end Go.Proofs.YtkfbhfmddmhiaaaGreatDoor.TJ
