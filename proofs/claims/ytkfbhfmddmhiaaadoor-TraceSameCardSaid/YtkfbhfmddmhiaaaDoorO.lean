/- A list of events that can be read as data is a list of events in memory. Conditions: none. -/
import Derived.Test.YtkfbhfmddmhiaaaDoorJ0
import Derived.ProofKit
import Derived.OpenShut
import Derived.ChangeArms
namespace Go.Proofs.YtkfbhfmddmhiaaaDoor.TJ
open Go.RowKit Go.Proofs.YtkfbhfmddmhiaaaDoorW.PrintWords Go.Proofs.YtkfbhfmddmhiaaaDoor.PT
set_option linter.unusedVariables false
set_option linter.unusedSimpArgs false

theorem len2 {α : Type} {l : List α} (h : l.length = 2) : ∃ a b, l = [a, b] := by
  match l, h with
  | [a, b], _ => exact ⟨a, b, rfl⟩
theorem len4 {α : Type} {l : List α} (h : l.length = 4) : ∃ a b c d, l = [a, b, c, d] := by
  match l, h with
  | [a, b, c, d], _ => exact ⟨a, b, c, d, rfl⟩
theorem len5 {α : Type} {l : List α} (h : l.length = 5) : ∃ a b c d e, l = [a, b, c, d, e] := by
  match l, h with
  | [a, b, c, d, e], _ => exact ⟨a, b, c, d, e, rfl⟩
theorem len7 {α : Type} {l : List α} (h : l.length = 7) : ∃ a b c d e f g, l = [a, b, c, d, e, f, g] := by
  match l, h with
  | [a, b, c, d, e, f, g], _ => exact ⟨a, b, c, d, e, f, g, rfl⟩

section
variable {H : Type} {enc : TypeId × Value → H} {w : World} {base : Nat} {spare : Nat → Bool} {held : Bool}

theorem el_slice {α : Type} (d : Kd α) {t e : TypeId} (ht : Tryd.prog.underlying t = some (.slice e)) (hsz : Tryd.prog.cellsOf e = d.sz) {fuel : Nat} {cs : List Value} {x : DataW H × List MemPlace}
    (h : DataW.trod enc Tryd.prog w base spare held fuel t cs = some x) (hel : ∀ n, n < fuel → ∀ cs x, DataW.trod enc Tryd.prog w base spare held n e cs = some x → ∃ a, d.K w a cs) :
    ∃ A c, ∃ l : List α, cs = [.slice A l.length c] ∧ l.length ≤ c ∧ d.C w A l.length l := by
  rcases DataW.trod_slice ht h with ⟨rfl, _⟩ | ⟨a, len, cap, elems, rest, n, rfl, rfl, _, hb, hl, hm, hlen, hels, _, _⟩
  · exact ⟨none, 0, [], rfl, Nat.le_refl _, rfl, Nat.zero_le _, fun hp => absurd hp (Nat.lt_irrefl 0)⟩
  have each : ∀ i : Fin len, ∃ p : α, ∃ c, c.length = d.sz ∧ d.K w p c ∧ ∀ j u, c[j]? = some u → w.cell? (a.add (i.val * d.sz + j)) = some u := by
    intro i
    have key := hels i.val i.isLt
    rw [List.getElem?_eq_getElem (by omega)] at key
    obtain ⟨cs', h1, h2⟩ := Option.bind_eq_some_iff.1 key
    obtain ⟨_, hlen', hcell⟩ := World.cells?_some h1
    obtain ⟨p, hp⟩ := hel n (Nat.lt_succ_self n) _ _ h2
    rw [hsz] at hlen' hcell
    refine ⟨p, cs', hlen', hp, fun j u hu => ?_⟩
    have hj : j < cs'.length := (List.getElem?_eq_some_iff.1 hu).1
    rw [← add_add, hcell j (by omega), hu]
  obtain ⟨f, hf⟩ := Classical.axiomOfChoice each
  refine ⟨some a, cap, List.ofFn f, by rw [List.length_ofFn], by rw [List.length_ofFn]; exact hl, rfl, ?_, fun _ => ⟨a, rfl, fun j p hj => ?_⟩⟩
  · rw [List.length_ofFn]
    have : maxLen ≤ 9223372036854775807 := by decide
    omega
  · obtain ⟨hlt, hp⟩ := List.getElem?_eq_some_iff.1 hj
    rw [List.getElem_ofFn] at hp
    subst hp
    exact hf _

theorem one_int {fuel : Nat} {c : Value} {y : DataW H × List MemPlace} (h : DataW.trod enc Tryd.prog w base spare held fuel 3 [c] = some y) : ∃ n, c = .int .i64 n := by
  obtain ⟨n, hc, _⟩ := DataW.trod_int Tryd.underlying3 h
  injection hc with hc
  exact ⟨n, hc⟩
theorem one_string {fuel : Nat} {c : Value} {y : DataW H × List MemPlace} (h : DataW.trod enc Tryd.prog w base spare held fuel 9 [c] = some y) : ∃ s, c = .string s := by
  obtain ⟨s, hc, _⟩ := DataW.trod_string Tryd.underlying9 h
  injection hc with hc
  exact ⟨s, hc⟩

theorem ci : Tryd.prog.cellsOf 3 = 1 := by kernel_rfl
theorem cst : Tryd.prog.cellsOf 9 = 1 := by kernel_rfl
theorem cvs : Tryd.prog.cellsOf 34 = 1 := by kernel_rfl
theorem cv : Tryd.prog.cellsOf 36 = 4 := by kernel_rfl
theorem cas : Tryd.prog.cellsOf 30 = 1 := by kernel_rfl
theorem ca : Tryd.prog.cellsOf 38 = 5 := by kernel_rfl
theorem ce : Tryd.prog.cellsOf 32 = 7 := by kernel_rfl

theorem val_K : ∀ (fuel : Nat) (cs : List Value) (x : DataW H × List MemPlace), DataW.trod enc Tryd.prog w base spare held fuel 36 cs = some x → ∃ v : Vl, kVl.K w v cs := by
  intro fuel
  induction fuel using Nat.strongRecOn with
  | _ fuel ih =>
    intro cs x h
    obtain ⟨xs, n, rfl, _, hl, hxs, hf⟩ := DataW.trod_struct Tryd.underlying36 h
    rw [cv] at hl
    obtain ⟨c0, c1, c2, c3, rfl⟩ := len4 hl
    obtain ⟨y0, y1, y2, y3, rfl⟩ := len4 (hxs.trans rfl)
    clear hxs hl
    have h0 := hf 0 _ rfl
    have h1 := hf 1 _ rfl
    have h2 := hf 2 _ rfl
    have h3 := hf 3 _ rfl
    simp [ci, cst, cvs] at h0 h1 h2 h3
    obtain ⟨k0, rfl⟩ := one_int h0
    obtain ⟨k1, rfl⟩ := one_int h1
    obtain ⟨s, rfl⟩ := one_string h2
    obtain ⟨A, c, l, hc, hlc, hC⟩ := el_slice kVl Tryd.underlying34 cv h3 (fun m hm cs x hx => ih m (by omega) cs x hx)
    injection hc with hc
    subst hc
    exact ⟨⟨k0, k1, s, l⟩, k36_mk w ⟨k0, k1, s, l⟩ hlc hC⟩

theorem access_K (fuel : Nat) (cs : List Value) (x : DataW H × List MemPlace) (h : DataW.trod enc Tryd.prog w base spare held fuel 38 cs = some x) : ∃ v : Ac, kAc.K w v cs := by
  obtain ⟨xs, n, rfl, _, hl, hxs, hf⟩ := DataW.trod_struct Tryd.underlying38 h
  rw [ca] at hl
  obtain ⟨c0, c1, c2, c3, c4, rfl⟩ := len5 hl
  obtain ⟨y0, y1, rfl⟩ := len2 (hxs.trans rfl)
  clear hxs hl
  have h0 := hf 0 _ rfl
  have h1 := hf 1 _ rfl
  simp [ci, cv] at h0 h1
  obtain ⟨k0, rfl⟩ := one_int h0
  obtain ⟨v, hv⟩ := val_K _ _ _ h1
  exact ⟨⟨k0, v⟩, ⟨[.int .i64 k0], _, rfl, rfl, hv⟩⟩

theorem event_K (fuel : Nat) (cs : List Value) (x : DataW H × List MemPlace) (h : DataW.trod enc Tryd.prog w base spare held fuel 32 cs = some x) : ∃ v : Ev, kEv.K w v cs := by
  obtain ⟨xs, n, rfl, _, hl, hxs, hf⟩ := DataW.trod_struct Tryd.underlying32 h
  rw [ce] at hl
  obtain ⟨c0, c1, c2, c3, c4, c5, c6, rfl⟩ := len7 hl
  obtain ⟨y0, y1, y2, y3, y4, y5, y6, rfl⟩ := len7 (hxs.trans rfl)
  clear hxs hl
  have h0 := hf 0 _ rfl
  have h1 := hf 1 _ rfl
  have h2 := hf 2 _ rfl
  have h3 := hf 3 _ rfl
  have h4 := hf 4 _ rfl
  have h5 := hf 5 _ rfl
  have h6 := hf 6 _ rfl
  simp [ci, cas] at h0 h1 h2 h3 h4 h5 h6
  obtain ⟨k0, rfl⟩ := one_int h0
  obtain ⟨k1, rfl⟩ := one_int h1
  obtain ⟨k2, rfl⟩ := one_int h2
  obtain ⟨k3, rfl⟩ := one_int h3
  obtain ⟨k4, rfl⟩ := one_int h4
  obtain ⟨A5, d5, l5, hc5, hl5, hC5⟩ := el_slice kAc Tryd.underlying30 ca h5 (fun m hm cs x hx => access_K m cs x hx)
  obtain ⟨A6, d6, l6, hc6, hl6, hC6⟩ := el_slice kAc Tryd.underlying30 ca h6 (fun m hm cs x hx => access_K m cs x hx)
  injection hc5 with hc5
  injection hc6 with hc6
  subst hc5 hc6
  exact ⟨⟨k0, k1, k2, k3, k4, l5, l6⟩, k32_mk w ⟨k0, k1, k2, k3, k4, l5, l6⟩ hl5 hC5 hl6 hC6⟩

/-- A list of events, opened. -/
theorem open_events {a : Option Addr} {len cap : Nat} {d : DataW H} {ps : List MemPlace} (h : DataW.Trod enc Tryd.prog w base spare held 22 (.slice a len cap) d ps) :
    ∃ l : List Ev, l.length = len ∧ l.length ≤ cap ∧ kEv.C w a l.length l := by
  obtain ⟨fuel, h⟩ := h
  obtain ⟨A, c, l, hc, hl, hC⟩ := el_slice kEv Tryd.underlying22 ce h (fun m hm cs x hx => event_K m cs x hx)
  simp [Value.cells] at hc
  obtain ⟨rfl, rfl, rfl⟩ := hc
  exact ⟨l, rfl, hl, hC⟩
end
end Go.Proofs.YtkfbhfmddmhiaaaDoor.TJ
