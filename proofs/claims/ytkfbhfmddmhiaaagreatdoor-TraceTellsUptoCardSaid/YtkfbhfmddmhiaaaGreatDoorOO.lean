/- A list of events that can be read as data is a list of events in memory. Conditions: none. A list of events that can be read as data: it lies in memory, its numbers are of 64 bits, and it holds at most what its data hold. Conditions: none. -/
import Derived.Test.YtkfbhfmddmhiaaaGreatDoorJ0
import Derived.ProofKit
import Derived.OpenShut
import Derived.ChangeArms
import Derived.Test.YtkfbhfmddmhiaaaGreatDoorVV
import Derived.Test.YtkfbhfmddmhiaaaGreatDoorRows
namespace Go.Proofs.YtkfbhfmddmhiaaaGreatDoor.TJ
open Go.RowKit Go.Proofs.YtkfbhfmddmhiaaaGreatDoorW.PrintWords Go.Proofs.YtkfbhfmddmhiaaaGreatDoor.PT
set_option linter.unusedVariables false
set_option linter.unusedSimpArgs false

theorem len2 {α : Type} {l : List α} (h : l.length = 2) : ∃ a b, l = [a, b] := by
  match l, h with
  | [a, b], _ => exact ⟨a, b, rfl⟩
theorem len4 {α : Type} {l : List α} (h : l.length = 4) : ∃ a b c d, l = [a, b, c, d] := by
  match l, h with
  | [a, b, c, d], _ => exact ⟨a, b, c, d, rfl⟩
theorem len5 {α : Type} {l : List α} (h : l.length = 5) : ∃ a b c d e, l = [a, b, c, d, e] := by
  match l, h with
  | [a, b, c, d, e], _ => exact ⟨a, b, c, d, e, rfl⟩
theorem len7 {α : Type} {l : List α} (h : l.length = 7) : ∃ a b c d e f g, l = [a, b, c, d, e, f, g] := by
  match l, h with
  | [a, b, c, d, e, f, g], _ => exact ⟨a, b, c, d, e, f, g, rfl⟩

section
variable {H : Type} {enc : TypeId × Value → H} {w : World} {base : Nat} {spare : Nat → Bool} {held : Bool}

theorem ci : Tryz.prog.cellsOf 3 = 1 := by kernel_rfl
theorem cst : Tryz.prog.cellsOf 9 = 1 := by kernel_rfl
theorem cvs : Tryz.prog.cellsOf 47 = 1 := by kernel_rfl
theorem cv : Tryz.prog.cellsOf 49 = 4 := by kernel_rfl
theorem cas : Tryz.prog.cellsOf 35 = 1 := by kernel_rfl
theorem ca : Tryz.prog.cellsOf 51 = 5 := by kernel_rfl
theorem ce : Tryz.prog.cellsOf 44 = 7 := by kernel_rfl

end
end Go.Proofs.YtkfbhfmddmhiaaaGreatDoor.TJ
namespace Go.Proofs.YtkfbhfmddmhiaaaGreatDoor.TJ
open Go.RowKit Go.Proofs.YtkfbhfmddmhiaaaGreatDoorW.PrintWords Go.Proofs.YtkfbhfmddmhiaaaGreatDoor.PT
set_option linter.unusedVariables false
set_option linter.unusedSimpArgs false

theorem wfVs_of : ∀ (l : List Vl), (∀ a ∈ l, wfV a) → wfVs l
  | [], _ => trivial
  | v :: r, h => ⟨h v (.head _), wfVs_of r fun a ha => h a (.tail _ ha)⟩
theorem szVs_eq : ∀ (l : List Vl), szVs l = (l.map szV).sum
  | [] => rfl
  | v :: r => by simp only [szVs, List.map_cons, List.sum_cons, szVs_eq r]

def wfE (x : Ev) : Prop := ((-9223372036854775808 ≤ x.f0 ∧ x.f0 ≤ 9223372036854775807) ∧ (-9223372036854775808 ≤ x.f1 ∧ x.f1 ≤ 9223372036854775807) ∧ (-9223372036854775808 ≤ x.f2 ∧ x.f2 ≤ 9223372036854775807) ∧ (-9223372036854775808 ≤ x.f3 ∧ x.f3 ≤ 9223372036854775807) ∧ (-9223372036854775808 ≤ x.f4 ∧ x.f4 ≤ 9223372036854775807)) ∧ (∀ a ∈ x.f5, wfA a) ∧ ∀ a ∈ x.f6, wfA a
def szE (x : Ev) : Nat := (x.f5.map szA).sum + (x.f6.map szA).sum + 3
def szL (l : List Ev) : Nat := (l.map szE).sum

section
variable {H : Type} {enc : TypeId × Value → H} {w : World} {base : Nat} {spare : Nat → Bool} {held : Bool}

theorem sum_ofFn_le {α : Type} (sz : α → Nat) : ∀ (es : List (DataW H × List MemPlace)) (f : Fin es.length → α), (∀ i : Fin es.length, sz (f i) ≤ Rows.uptoBulk es[i].1) → ((List.ofFn f).map sz).sum ≤ Rows.uptoBulkAll (es.map (·.1))
  | [], f, _ => by simp [List.ofFn]
  | e :: r, f, h => by
    have h0 := h ⟨0, by simp⟩
    have h1 := sum_ofFn_le sz r (fun i => f i.succ) (fun i => h i.succ)
    rw [List.ofFn_succ]
    simp only [List.map_cons, List.sum_cons, Rows.uptoBulkAll]
    have h2 : sz (f 0) ≤ Rows.uptoBulk e.1 := h0
    exact Nat.add_le_add h2 h1

theorem el_slice2 {α : Type} (d : Kd α) (G : α → Prop) (sz : α → Nat) {t e : TypeId} (ht : Tryz.prog.underlying t = some (.slice e)) (hsz : Tryz.prog.cellsOf e = d.sz) {fuel : Nat} {cs : List Value} {x : DataW H × List MemPlace}
    (h : DataW.trod enc Tryz.prog w base spare held fuel t cs = some x) (hel : ∀ n, n < fuel → ∀ cs x, DataW.trod enc Tryz.prog w base spare held n e cs = some x → ∃ a, d.K w a cs ∧ G a ∧ sz a ≤ Rows.uptoBulk x.1) :
    ∃ A c, ∃ l : List α, cs = [.slice A l.length c] ∧ l.length ≤ c ∧ d.C w A l.length l ∧ (∀ a ∈ l, G a) ∧ (l.map sz).sum + 1 ≤ Rows.uptoBulk x.1 := by
  rcases DataW.trod_slice ht h with ⟨rfl, rfl⟩ | ⟨a, len, cap, elems, rest, n, rfl, rfl, rfl, hb, hl, hm, hlen, hels, _, _⟩
  · exact ⟨none, 0, [], rfl, Nat.le_refl _, ⟨rfl, Nat.zero_le _, fun hp => absurd hp (Nat.lt_irrefl 0)⟩, (fun a ha => by cases ha), (by simp [Rows.uptoBulk])⟩
  subst hlen
  have each : ∀ i : Fin elems.length, ∃ p : α, ∃ c, c.length = d.sz ∧ d.K w p c ∧ (∀ j u, c[j]? = some u → w.cell? (a.add (i.val * d.sz + j)) = some u) ∧ G p ∧ sz p ≤ Rows.uptoBulk elems[i].1 := by
    intro i
    have key := hels i.val i.isLt
    rw [List.getElem?_eq_getElem i.isLt] at key
    obtain ⟨cs', h1, h2⟩ := Option.bind_eq_some_iff.1 key
    obtain ⟨_, hlen', hcell⟩ := World.cells?_some h1
    obtain ⟨p, hp, hg, hs⟩ := hel n (Nat.lt_succ_self n) _ _ h2
    rw [hsz] at hlen' hcell
    refine ⟨p, cs', hlen', hp, fun j u hu => ?_, hg, hs⟩
    have hj : j < cs'.length := (List.getElem?_eq_some_iff.1 hu).1
    rw [← add_add, hcell j (by omega), hu]
  obtain ⟨f, hf⟩ := Classical.axiomOfChoice each
  have hlf : (List.ofFn f).length = elems.length := List.length_ofFn
  refine ⟨some a, cap, List.ofFn f, by rw [hlf], by rw [hlf]; exact hl, ⟨rfl, ?_, fun _ => ⟨a, rfl, fun j p hj => ?_⟩⟩, fun p hp => ?_, ?_⟩
  · rw [hlf]
    have : maxLen ≤ 9223372036854775807 := by decide
    omega
  · obtain ⟨hlt, hp⟩ := List.getElem?_eq_some_iff.1 hj
    rw [List.getElem_ofFn] at hp
    subst hp
    obtain ⟨c, k1, k2, k3, _⟩ := hf ⟨j, by rw [hlf] at hlt; exact hlt⟩
    exact ⟨c, k1, k2, k3⟩
  · obtain ⟨i, rfl⟩ := List.mem_ofFn.1 hp
    obtain ⟨c, _, _, _, k4, _⟩ := hf i
    exact k4
  · have := sum_ofFn_le sz elems f (fun i => by obtain ⟨c, _, _, _, _, k5⟩ := hf i; exact k5)
    simp only [Rows.uptoBulk]
    omega

theorem one_int2 {fuel : Nat} {c : Value} {y : DataW H × List MemPlace} (h : DataW.trod enc Tryz.prog w base spare held fuel 3 [c] = some y) : ∃ n, c = .int .i64 n ∧ -9223372036854775808 ≤ n ∧ n ≤ 9223372036854775807 := by
  obtain ⟨n, hc, _, hw⟩ := DataW.trod_int Tryz.underlying3 h
  injection hc with hc
  exact ⟨n, hc, by simpa [Lit.wf, IntKind.min, IntKind.max, IntKind.signed, IntKind.bits] using hw⟩
theorem one_string2 {fuel : Nat} {c : Value} {y : DataW H × List MemPlace} (h : DataW.trod enc Tryz.prog w base spare held fuel 9 [c] = some y) : ∃ s, c = .string s ∧ s.size ≤ Rows.uptoBulk y.1 := by
  obtain ⟨s, hc, rfl, _⟩ := DataW.trod_string Tryz.underlying9 h
  injection hc with hc
  refine ⟨s, hc, ?_⟩
  have : s.data.toList.length = s.size := rfl
  simp only [Rows.uptoBulk]
  omega

theorem val_K2 : ∀ (fuel : Nat) (cs : List Value) (x : DataW H × List MemPlace), DataW.trod enc Tryz.prog w base spare held fuel 49 cs = some x → ∃ v : Vl, kVl.K w v cs ∧ wfV v ∧ szV v ≤ Rows.uptoBulk x.1 := by
  intro fuel
  induction fuel using Nat.strongRecOn with
  | _ fuel ih =>
    intro cs x h
    obtain ⟨xs, n, rfl, rfl, hl, hxs, hf⟩ := DataW.trod_struct Tryz.underlying49 h
    rw [cv] at hl
    obtain ⟨c0, c1, c2, c3, rfl⟩ := len4 hl
    obtain ⟨y0, y1, y2, y3, rfl⟩ := len4 (hxs.trans rfl)
    clear hxs hl
    have h0 := hf 0 _ rfl
    have h1 := hf 1 _ rfl
    have h2 := hf 2 _ rfl
    have h3 := hf 3 _ rfl
    simp [ci, cst, cvs] at h0 h1 h2 h3
    obtain ⟨k0, rfl, _⟩ := one_int2 h0
    obtain ⟨k1, rfl, w1⟩ := one_int2 h1
    obtain ⟨s, rfl, hs⟩ := one_string2 h2
    obtain ⟨A, c, l, hc, hlc, hC, hG, hS⟩ := el_slice2 kVl wfV szV Tryz.underlying47 cv h3 (fun m hm cs x hx => ih m (by omega) cs x hx)
    injection hc with hc
    subst hc
    refine ⟨⟨k0, k1, s, l⟩, k49_mk w ⟨k0, k1, s, l⟩ hlc hC, ?_, ?_⟩
    · rw [wfV_eq]
      exact ⟨w1, wfVs_of l hG⟩
    · rw [szV_eq]
      simp only [szVs_eq, List.map_cons, List.map_nil, Rows.uptoBulk, Rows.uptoBulkAll]
      omega

theorem access_K2 (fuel : Nat) (cs : List Value) (x : DataW H × List MemPlace) (h : DataW.trod enc Tryz.prog w base spare held fuel 51 cs = some x) : ∃ v : Ac, kAc.K w v cs ∧ wfA v ∧ szA v ≤ Rows.uptoBulk x.1 := by
  obtain ⟨xs, n, rfl, rfl, hl, hxs, hf⟩ := DataW.trod_struct Tryz.underlying51 h
  rw [ca] at hl
  obtain ⟨c0, c1, c2, c3, c4, rfl⟩ := len5 hl
  obtain ⟨y0, y1, rfl⟩ := len2 (hxs.trans rfl)
  clear hxs hl
  have h0 := hf 0 _ rfl
  have h1 := hf 1 _ rfl
  simp [ci, cv] at h0 h1
  obtain ⟨k0, rfl, w0⟩ := one_int2 h0
  obtain ⟨v, hv, hw, hs⟩ := val_K2 _ _ _ h1
  refine ⟨⟨k0, v⟩, ⟨[.int .i64 k0], _, rfl, rfl, hv⟩, ⟨w0, hw⟩, ?_⟩
  simp only [szA, List.map_cons, List.map_nil, Rows.uptoBulk, Rows.uptoBulkAll]
  omega

theorem event_K2 (fuel : Nat) (cs : List Value) (x : DataW H × List MemPlace) (h : DataW.trod enc Tryz.prog w base spare held fuel 44 cs = some x) : ∃ v : Ev, kEv.K w v cs ∧ wfE v ∧ szE v ≤ Rows.uptoBulk x.1 := by
  obtain ⟨xs, n, rfl, rfl, hl, hxs, hf⟩ := DataW.trod_struct Tryz.underlying44 h
  rw [ce] at hl
  obtain ⟨c0, c1, c2, c3, c4, c5, c6, rfl⟩ := len7 hl
  obtain ⟨y0, y1, y2, y3, y4, y5, y6, rfl⟩ := len7 (hxs.trans rfl)
  clear hxs hl
  have h0 := hf 0 _ rfl
  have h1 := hf 1 _ rfl
  have h2 := hf 2 _ rfl
  have h3 := hf 3 _ rfl
  have h4 := hf 4 _ rfl
  have h5 := hf 5 _ rfl
  have h6 := hf 6 _ rfl
  simp [ci, cas] at h0 h1 h2 h3 h4 h5 h6
  obtain ⟨k0, rfl, w0⟩ := one_int2 h0
  obtain ⟨k1, rfl, w1⟩ := one_int2 h1
  obtain ⟨k2, rfl, w2⟩ := one_int2 h2
  obtain ⟨k3, rfl, w3⟩ := one_int2 h3
  obtain ⟨k4, rfl, w4⟩ := one_int2 h4
  obtain ⟨A5, d5, l5, hc5, hl5, hC5, hG5, hS5⟩ := el_slice2 kAc wfA szA Tryz.underlying35 ca h5 (fun m hm cs x hx => access_K2 m cs x hx)
  obtain ⟨A6, d6, l6, hc6, hl6, hC6, hG6, hS6⟩ := el_slice2 kAc wfA szA Tryz.underlying35 ca h6 (fun m hm cs x hx => access_K2 m cs x hx)
  injection hc5 with hc5
  injection hc6 with hc6
  subst hc5 hc6
  refine ⟨⟨k0, k1, k2, k3, k4, l5, l6⟩, k44_mk w ⟨k0, k1, k2, k3, k4, l5, l6⟩ hl5 hC5 hl6 hC6, ⟨⟨w0, w1, w2, w3, w4⟩, hG5, hG6⟩, ?_⟩
  simp only [szE, List.map_cons, List.map_nil, Rows.uptoBulk, Rows.uptoBulkAll]
  omega

theorem open_events2 {a : Option Addr} {len cap : Nat} {d : DataW H} {ps : List MemPlace} (h : DataW.Trod enc Tryz.prog w base spare held 22 (.slice a len cap) d ps) :
    ∃ l : List Ev, l.length = len ∧ l.length ≤ cap ∧ kEv.C w a l.length l ∧ (∀ x ∈ l, wfE x) ∧ szL l ≤ Rows.uptoBulk d := by
  obtain ⟨fuel, h⟩ := h
  obtain ⟨A, c, l, hc, hl, hC, hG, hS⟩ := el_slice2 kEv wfE szE Tryz.underlying22 ce h (fun m hm cs x hx => event_K2 m cs x hx)
  simp [Value.cells] at hc
  obtain ⟨rfl, rfl, rfl⟩ := hc
  refine ⟨l, rfl, hl, hC, hG, ?_⟩
  have h2 : (l.map szE).sum + 1 ≤ Rows.uptoBulk d := hS
  unfold szL
  omega
end
end Go.Proofs.YtkfbhfmddmhiaaaGreatDoor.TJ
