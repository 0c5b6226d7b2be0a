/- DERIVED: THE SHELF's CONTRACTS AT THIS DUMP, IN PLAIN WORDS (tools/lay-plain.mjs out of 'TryzSort.lean', which tools/lay-shelf.mjs wrote): THE SAME DECLARATIONS UNDER THE SAME NAMES: 'import', 'namespace', 'open', 'def', 'theorem' AND NOTHING ELSE: no command of the shelf's: FOR A HAND-IN. Each laying: the table of numbers ('.._ren') and one theorem, a field a fact of the dump's own or the kernel's comparison; each contract: ONE APPLICATION. The accesses of a list sorted by their variables: Go's slices.SortFunc at accesses, with the statement's own comparison. Conditions: the list is of the call's own, every variable is from 0 to 63. From a row of accesses of the call's own to a row that Go's sort takes, and back; and the list that a sort by distinct variables leaves. Conditions: every variable is from 0 to 63. What the commits of a sound trace leave: the Go function Serial answers the last values of the variables, by their numbers, or the error. Conditions: the trace lies in memory and is not too large. -/
import Derived.Shelf.SlGeneric
import Derived.Shelf.SlSortCmp.NoneTotal
import Derived.Ground.SlsfProg
import Derived.Test.YtkfbhfmddmhiaaaGreatDoorProg
import Derived.Test.YtkfbhfmddmhiaaaGreatDoorJ0
import Derived.Lib.Hide
import Derived.Test.YtkfbhfmddmhiaaaGreatDoorSAF
import Derived.Test.YtkfbhfmddmhiaaaGreatDoorRBL
import Derived.Test.YtkfbhfmddmhiaaaGreatDoorPP
import Derived.Test.YtkfbhfmddmhiaaaGreatDoorPTx
import Derived.Maps.RangeRun
namespace Go.Proofs
open Go.Shelf
def Tryz.sortA_ren : Go.Shelf.Ren := ⟨fun | 6 => 40 | 15 => 62 | 14 => 61 | 28 => 86 | 29 => 87 | 20 => 78 | 21 => 79 | 22 => 80 | 23 => 81 | 24 => 82 | 25 => 83 | 26 => 84 | 27 => 85 | 46 => 101 | 47 => 102 | 48 => 103 | 49 => 104 | 50 => 105 | 57 => 117 | n => n, fun | 22 => 35 | 24 => 51 | 25 => 79 | 3 => 3 | 39 => 82 | 0 => 0 | 53 => 120 | 55 => 122 | 4 => 4 | 46 => 114 | 45 => 113 | 50 => 96 | 5 => 5 | 9 => 9 | 66 => 132 | 70 => 136 | 76 => 147 | 77 => 148 | n => n, fun | n => n⟩
theorem Tryz.sortA : Go.Proofs.SlLaysF0.n6 Tryz.prog Tryz.sortA_ren := {
  mixed := by kernel_rfl
  f6 := ⟨Tryz.f40.name, by decide, Tryz.func40.trans (congrArg some (by kernel_rfl))⟩
  f14 := ⟨Tryz.f61.name, by decide, Tryz.func61.trans (congrArg some (by kernel_rfl))⟩
  f15 := Tryz.func62.trans (congrArg some (by kernel_rfl))
  f20 := ⟨Tryz.f78.name, by decide, Tryz.func78.trans (congrArg some (by kernel_rfl))⟩
  f21 := ⟨Tryz.f79.name, by decide, Tryz.func79.trans (congrArg some (by kernel_rfl))⟩
  f22 := ⟨Tryz.f80.name, by decide, Tryz.func80.trans (congrArg some (by kernel_rfl))⟩
  f23 := ⟨Tryz.f81.name, by decide, Tryz.func81.trans (congrArg some (by kernel_rfl))⟩
  f24 := ⟨Tryz.f82.name, by decide, Tryz.func82.trans (congrArg some (by kernel_rfl))⟩
  f25 := ⟨Tryz.f83.name, by decide, Tryz.func83.trans (congrArg some (by kernel_rfl))⟩
  f26 := ⟨Tryz.f84.name, by decide, Tryz.func84.trans (congrArg some (by kernel_rfl))⟩
  f27 := ⟨Tryz.f85.name, by decide, Tryz.func85.trans (congrArg some (by kernel_rfl))⟩
  f28 := Tryz.func86.trans (congrArg some (by kernel_rfl))
  f29 := Tryz.func87.trans (congrArg some (by kernel_rfl))
  f46 := ⟨Tryz.f101.name, by decide, Tryz.func101.trans (congrArg some (by kernel_rfl))⟩
  f47 := Tryz.func102.trans (congrArg some (by kernel_rfl))
  f48 := Tryz.func103.trans (congrArg some (by kernel_rfl))
  f49 := ⟨Tryz.f104.name, by decide, Tryz.func104.trans (congrArg some (by kernel_rfl))⟩
  f50 := ⟨Tryz.f105.name, by decide, Tryz.func105.trans (congrArg some (by kernel_rfl))⟩
  f57 := ⟨Tryz.f117.name, by decide, Tryz.func117.trans (congrArg some (by kernel_rfl))⟩
  t0 := Tryz.underlying0
  a0 := Tryz.isAgg0
  z0 := Tryz.sizeOf0
  v0 := Tryz.zeroValue0
  t3 := Tryz.underlying3
  a3 := Tryz.isAgg3
  z3 := Tryz.sizeOf3
  v3 := Tryz.zeroValue3
  t4 := Tryz.underlying4
  a4 := Tryz.isAgg4
  z4 := Tryz.sizeOf4
  v4 := Tryz.zeroValue4
  t5 := Tryz.underlying5
  a5 := Tryz.isAgg5
  z5 := Tryz.sizeOf5
  v5 := Tryz.zeroValue5
  t9 := Tryz.underlying9
  a9 := Tryz.isAgg9
  z9 := Tryz.sizeOf9
  v9 := Tryz.zeroValue9
  t22 := Tryz.underlying35
  a22 := Tryz.isAgg35
  z22 := Tryz.sizeOf35
  v22 := Tryz.zeroValue35
  t25 := Tryz.underlying79
  a25 := Tryz.isAgg79
  z25 := Tryz.sizeOf79
  v25 := Tryz.zeroValue79
  t39 := Tryz.underlying82
  a39 := Tryz.isAgg82
  z39 := Tryz.sizeOf82
  v39 := Tryz.zeroValue82
  t45 := Tryz.underlying113
  a45 := Tryz.isAgg113
  z45 := Tryz.sizeOf113
  v45 := Tryz.zeroValue113
  t46 := Tryz.underlying114
  a46 := Tryz.isAgg114
  z46 := Tryz.sizeOf114
  v46 := Tryz.zeroValue114
  t50 := Tryz.underlying96
  a50 := Tryz.isAgg96
  z50 := Tryz.sizeOf96
  v50 := Tryz.zeroValue96
  t53 := Tryz.underlying120
  a53 := Tryz.isAgg120
  z53 := Tryz.sizeOf120
  v53 := Tryz.zeroValue120
  t55 := Tryz.underlying122
  a55 := Tryz.isAgg122
  z55 := Tryz.sizeOf122
  v55 := Tryz.zeroValue122
  t66 := Tryz.underlying132
  a66 := Tryz.isAgg132
  z66 := Tryz.sizeOf132
  v66 := Tryz.zeroValue132
  t70 := Tryz.underlying136
  a70 := Tryz.isAgg136
  z70 := Tryz.sizeOf136
  v70 := Tryz.zeroValue136
  t76 := Tryz.underlying147
  a76 := Tryz.isAgg147
  z76 := Tryz.sizeOf147
  v76 := Tryz.zeroValue147
  t77 := Tryz.underlying148
  a77 := Tryz.isAgg148
  z77 := Tryz.sizeOf148
  v77 := Tryz.zeroValue148 }
end Go.Proofs
namespace Go.Proofs.YtkfbhfmddmhiaaaGreatDoor.TJ
open Go.Shelf Go.RowKit Go.Sort Go.Proofs.YtkfbhfmddmhiaaaGreatDoorW.PrintWords Go.Proofs.YtkfbhfmddmhiaaaGreatDoorW.PrintLast Go.Proofs.YtkfbhfmddmhiaaaGreatDoor.PT Go.Proofs.YtkfbhfmddmhiaaaGreatDoor.IMaps
set_option linter.unusedVariables false
set_option linter.unusedSimpArgs false

abbrev AX := Fin 64 × Int × Int × ByteArray × (Option Addr × Nat × Nat)
def encA (x : AX) : List Value := [.int .i64 (x.1.val : Int), .int .i64 x.2.1, .int .i64 x.2.2.1, .string x.2.2.2.1, .slice x.2.2.2.2.1 x.2.2.2.2.2.1 x.2.2.2.2.2.2]
def cfA (x y : AX) : Int := (x.1.val : Int) - (y.1.val : Int)
theorem ltA (x y : AX) : ltOf cfA x y = decide (x.1.val < y.1.val) := by
  unfold ltOf cfA
  rw [decide_eq_decide]; omega
theorem swoA : SWO (ltOf cfA) where
  irrefl x := by rw [ltA]; simp
  trans x y z h1 h2 := by rw [ltA] at *; simp at *; omega
  ntrans x y z h1 h2 := by rw [ltA] at *; simp at *; omega

theorem closure_calls (x y : AX) (W : World) : Calls Tryz.prog 41 #[.agg (encA x).toArray, .agg (encA y).toArray] W fun e w' => e = .returned (.int .i64 (cfA x y)) ∧ ∃ q os', w' = grow (W.drewN q) os' := by
  obtain ⟨⟨a, ha⟩, k, n, s, A, m, c⟩ := x
  obtain ⟨⟨b, hb⟩, k2, n2, s2, A2, m2, c2⟩ := y
  unfold encA cfA
  dsimp only
  go_enter Tryz.func41, Tryz.ntmps41
  go_wp2
  go_ret
  exact ⟨rfl, 0, _, by rw [alloc_eq_grow, alloc_eq_grow, grow_grow]; rfl⟩

theorem sort_lays (blk off size : Nat) (w : World) : CmpLays Tryz.prog 41 #[] encA 5 cfA blk off size w := fun _ _ _ _ x y => closure_calls x y _

theorem sort_calls (blk off cap : Nat) (d : Array AX) (w : World) (hH : HoldsK encA 5 w blk off d) (hblk : blk < w.heap.size) (hsz : d.size < 4611686018427387904) :
    Calls Tryz.prog 40 #[.slice (some ⟨blk, off, none⟩) d.size cap, .func (.func 41) #[] #[]] w fun e w' => e = .returned (.tuple #[]) ∧ ∃ d' n os, PermIn 0 d.size d d' ∧ SortedIn (ltOf cfA) 0 d.size d' ∧ w' = sortWorldK encA 5 w blk off n d' os := by
  have eg : ∀ args w, (callFunc 41 args).run Tryz.prog w = .ok (.enter 41 args) w := enters_of Tryz.func41 (by kernel_rfl) rfl
  have hcon := AnyQ.slices_SortFunc Tryz.sortA 5 Tryz.isAgg51 Tryz.sizeOf51 encA (fun _ => rfl) (fun x v hv => by simp [encA] at hv; rcases hv with rfl | rfl | rfl | rfl | rfl <;> rfl) cfA swoA 41 #[] blk off cap d w eg (sort_lays blk off d.size w) hH hblk hsz
  exact hcon
theorem sort_none (p : Option Addr) (cap : Nat) (fv : Value) (w : World) :
    Calls Tryz.prog 40 #[.slice p 0 cap, fv] w fun e w' => e = .returned (.tuple #[]) ∧ w' = w := by
  have h := AnyF.slices_SortFunc_none Tryz.sortA p cap fv w
  exact h
end Go.Proofs.YtkfbhfmddmhiaaaGreatDoor.TJ
namespace Go.Proofs.YtkfbhfmddmhiaaaGreatDoor.TJ
open Go.Shelf Go.RowKit Go.Sort Go.Proofs.YtkfbhfmddmhiaaaGreatDoorW.PrintWords Go.Proofs.YtkfbhfmddmhiaaaGreatDoorW.PrintLast Go.Proofs.YtkfbhfmddmhiaaaGreatDoor.PT Go.Proofs.YtkfbhfmddmhiaaaGreatDoor.IMaps
set_option linter.unusedVariables false
set_option linter.unusedSimpArgs false

def DX (w : World) (B g : Nat) (x : AX) (a : Ac) : Prop := (x.1.val : Int) = a.f0 ∧ kAc.M w B (fun k => k ≠ g) a (encA x)

theorem row_open {w : World} {B : Nat} {ok : Nat → Prop} {v : Value} {outs : List Ac} (h : Kd.R kAc 51 w B ok v outs) (hne : 0 < outs.length) (hk : ∀ a ∈ outs, 0 ≤ a.f0 ∧ a.f0 < 64) :
    ∃ (g cap : Nat) (ps : List (AX × Ac)), v = .slice (some ⟨g, 0, none⟩) outs.length cap ∧ outs.length ≤ cap ∧ cap ≤ maxLen ∧ B ≤ g ∧ g < w.heap.size ∧ ps.map Prod.snd = outs ∧ (∀ p ∈ ps, DX w B g p.1 p.2) ∧ HoldsK encA 5 w g 0 (ps.map Prod.fst).toArray := by
  obtain ⟨h0, inner, ⟨hlen, hcase⟩, hr⟩ := h
  rcases hcase with ⟨_, hz⟩ | ⟨g, cap, cur, rfl, hB, hg, hcap, hmax, hsz, htake⟩
  · omega
  have hkz : kAc.sz = 5 := rfl
  rw [hkz] at hlen hsz htake hr
  have hob : (Value.slice (some ⟨g, 0, none⟩) outs.length cap).ownBlock = some g := by simp [Value.ownBlock]
  rw [hob] at hr
  have pick : ∀ j : Fin outs.length, ∃ x : AX, (x.1.val : Int) = outs[j].f0 ∧ encA x = (inner.drop (j.val * 5)).take 5 := by
    intro j
    have hm := hr.2 j.val outs[j] (by simp)
    obtain ⟨v4, hc, hR⟩ := k51_openM hm
    obtain ⟨A4, c4, rfl⟩ := Kd.R_slice hR
    have hb := hk outs[j] (by simp)
    refine ⟨(⟨outs[j].f0.toNat, by omega⟩, outs[j].f1.f0, outs[j].f1.f1, outs[j].f1.f2, (A4, outs[j].f1.f3.length, c4)), by dsimp only; omega, ?_⟩
    rw [hc]
    unfold encA
    dsimp only
    rw [Int.toNat_of_nonneg hb.1]
  refine ⟨g, cap, List.ofFn (fun j : Fin outs.length => (Classical.choose (pick j), outs[j])), rfl, hcap, hmax, hB, (Array.getElem?_eq_some_iff.1 hg).1, ?_, ?_, ?_⟩
  · apply List.ext_getElem
    · simp
    · intro i h1 h2; simp
  · intro p hp
    obtain ⟨j, rfl⟩ := List.mem_ofFn.1 hp
    have hs := Classical.choose_spec (pick j)
    refine ⟨hs.1, ?_⟩
    show kAc.M w B (fun k => k ≠ g) outs[j] (encA (Classical.choose (pick j)))
    rw [hs.2]
    exact kAc.M_mono (fun k hk => fun e => hk.2 (by rw [e])) (hr.2 j.val outs[j] (by simp))
  · intro t ht
    have hsize : (flatK encA 5 ((List.ofFn (fun j : Fin outs.length => (Classical.choose (pick j), outs[j]))).map Prod.fst).toArray).size = outs.length * 5 := by simp
    rw [hsize] at ht
    have hd : t / 5 < outs.length := by omega
    have hsp := (Classical.choose_spec (pick ⟨t / 5, hd⟩)).2
    have htl : t < inner.length := by omega
    have hin : inner[t]? = cur[t]? := by
      rw [← htake, List.getElem?_take_of_lt (by omega)]; simp
    refine ⟨?_, by simp [World.frozen?, hg]⟩
    rw [get_flatK _ _ _ _ (by simpa using ht)]
    have hget : ((List.ofFn (fun j : Fin outs.length => (Classical.choose (pick j), outs[j]))).map Prod.fst).toArray[t / 5]! = Classical.choose (pick ⟨t / 5, hd⟩) := by
      rw [getElem!_pos _ _ (by simpa using hd)]
      simp
    rw [hget, hsp]
    have h5 : ((inner.drop (t / 5 * 5)).take 5)[t % 5]! = inner[t] := by
      have e : t / 5 * 5 + t % 5 = t := by omega
      rw [getElem!_pos _ _ (by rw [List.length_take, List.length_drop]; omega)]
      simp [e]
    rw [h5, Nat.zero_add]
    simp only [World.cell?, hg, id]
    rw [← hin, List.getElem?_eq_getElem htl]
    rfl

theorem perm_lift {α β : Type} {l m : List α} (h : l.Perm m) : ∀ ps : List (α × β), ps.map Prod.fst = m → ∃ qs : List (α × β), qs.Perm ps ∧ qs.map Prod.fst = l := by
  induction h with
  | nil => intro ps hp; exact ⟨ps, List.Perm.refl _, hp⟩
  | cons x _ ih =>
    intro ps hp
    cases ps with
    | nil => cases hp
    | cons p r =>
      simp only [List.map_cons, List.cons.injEq] at hp
      obtain ⟨qs, h1, h2⟩ := ih r hp.2
      exact ⟨p :: qs, h1.cons p, by simp [h2, hp.1]⟩
  | swap x y l =>
    intro ps hp
    match ps, hp with
    | p :: q :: r, hp =>
      simp only [List.map_cons, List.cons.injEq] at hp
      exact ⟨q :: p :: r, List.Perm.swap _ _ _, by simp [hp]⟩
  | trans _ _ ih1 ih2 =>
    intro ps hp
    obtain ⟨qs, h1, h2⟩ := ih2 ps hp
    obtain ⟨rs, h3, h4⟩ := ih1 qs h2
    exact ⟨rs, h3.trans h1, h4⟩

theorem sortWorld_block (w : World) (g m : Nat) (d' : Array AX) (os : Array Obj) (k : Nat) (hk : k ≠ g) (hlt : k < w.heap.size) : (sortWorldK encA 5 w g 0 m d' os).heap[k]? = w.heap[k]? := by
  unfold sortWorldK
  rw [heap_grow_old _ _ (by unfold putRowK; rw [size_putRow]; exact hlt)]
  unfold putRowK putRow mapBlock
  simp [Sort.ahead, Array.getElem?_modify, Ne.symm hk]
theorem sortWorld_below {w0 w : World} {B g m : Nat} {d' : Array AX} {os : Array Obj} (h : Below B w0 w) (hg : B ≤ g) (hgl : g < w.heap.size) : Below B w0 (sortWorldK encA 5 w g 0 m d' os) := by
  refine ⟨h.os, h.tape, h.output, ?_, fun k hk => ?_⟩
  · unfold sortWorldK grow putRowK putRow mapBlock Sort.ahead
    have := h.size
    simp
    omega
  · have hs : k < w.heap.size := by omega
    rw [sortWorld_block w g m d' os k (by omega) hs]
    exact h.block k hk

theorem row_shut {w : World} {B g m cap : Nat} {d d' : Array AX} {os : Array Obj} {qs : List (AX × Ac)} (hH : HoldsK encA 5 w g 0 d) (hg : g < w.heap.size) (hs : d'.size = d.size) (hq : qs.map Prod.fst = d'.toList) (hD : ∀ p ∈ qs, DX w B g p.1 p.2) (hmax : d.size ≤ maxLen) :
    kAc.C (sortWorldK encA 5 w g 0 m d' os) (some ⟨g, 0, none⟩) d.size (qs.map Prod.snd) := by
  have hql : qs.length = d'.size := by have := congrArg List.length hq; simpa using this
  refine ⟨by rw [List.length_map]; omega, by unfold maxLen at hmax; omega, fun _ => ⟨⟨g, 0, none⟩, rfl, fun j a hj => ?_⟩⟩
  have hjl : j < qs.length := by
    rcases Nat.lt_or_ge j qs.length with h | h
    · exact h
    · rw [List.getElem?_eq_none (by rw [List.length_map]; exact h)] at hj; cases hj
  have hx : d'[j]! = qs[j].1 := by
    rw [getElem!_pos _ _ (by omega)]
    have := congrArg (fun l => l[j]?) hq
    simp only [List.getElem?_map, List.getElem?_eq_getElem hjl, Option.map_some, Array.getElem?_toList] at this
    rw [Array.getElem?_eq_getElem (by omega)] at this
    exact (Option.some.inj this).symm
  have ha : a = qs[j].2 := by
    rw [List.getElem?_map, List.getElem?_eq_getElem hjl] at hj
    exact (Option.some.inj hj).symm
  subst ha
  obtain ⟨h1, h2⟩ := hD qs[j] (List.getElem_mem hjl)
  have hM := Kd.M_step (w1 := sortWorldK encA 5 w g 0 m d' os) h2 (fun k hk hlt => sortWorld_block w g m d' os k hk hlt)
  refine ⟨encA qs[j].1, rfl, kAc.K_of_M hM, fun i u hi => ?_⟩
  have hi5 : i < 5 := by
    rcases Nat.lt_or_ge i 5 with h | h
    · exact h
    · rw [List.getElem?_eq_none (by show 5 ≤ i; exact h)] at hi; cases hi
  have hold : HoldsK encA 5 (sortWorldK encA 5 w g 0 m d' os) g 0 d' := by
    unfold sortWorldK
    exact holds_grow id _ os g 0 _ (by unfold putRowK; rw [size_putRow]; exact hg) (holdsK_putRowK encA 5 (Sort.ahead w m) g 0 d d' hH hs)
  have hc := (HoldsK.cell hold (i := j) (c := i) (by omega) hi5).1
  have hadd : (⟨g, 0, none⟩ : Addr).add (j * 5 + i) = ⟨g, 0 + j * 5 + i, none⟩ := by unfold Addr.add; simp; omega
  have hkz : kAc.sz = 5 := rfl
  rw [hkz, hadd, hc, hx]
  rw [getElem!_pos _ _ (by show i < 5; exact hi5)]
  rw [List.getElem?_eq_getElem (by show i < 5; exact hi5)] at hi
  exact hi

theorem sorted_eq : ∀ (l m : List Ac), l.Pairwise (fun a b => a.f0 < b.f0) → m.Pairwise (fun a b => a.f0 < b.f0) → (∀ a, a ∈ l ↔ a ∈ m) → l = m
  | [], [], _, _, _ => rfl
  | [], b :: _, _, _, h => absurd ((h b).2 (by simp)) (by simp)
  | a :: _, [], _, _, h => absurd ((h a).1 (by simp)) (by simp)
  | a :: l, b :: m, hl, hm, h => by
    rw [List.pairwise_cons] at hl hm
    have hab : a = b := by
      rcases List.mem_cons.1 ((h a).1 (by simp)) with e | e
      · exact e
      · rcases List.mem_cons.1 ((h b).2 (by simp)) with e2 | e2
        · exact e2.symm
        · have h1 := hm.1 a e
          have h2 := hl.1 b e2
          omega
    subst hab
    congr 1
    refine sorted_eq l m hl.2 hm.2 fun c => ⟨fun hc => ?_, fun hc => ?_⟩
    · rcases List.mem_cons.1 ((h c).1 (by simp [hc])) with e | e
      · have := hl.1 c hc; rw [e] at this; omega
      · exact e
    · rcases List.mem_cons.1 ((h c).2 (by simp [hc])) with e | e
      · have := hm.1 c hc; rw [e] at this; omega
      · exact e

def serTo (f : Int → Option Vl) : Nat → List Ac
  | 0 => []
  | k + 1 => serTo f k ++ (match f (k : Int) with | some x => [⟨(k : Int), x⟩] | none => [])
theorem serTo_some (f : Int → Option Vl) (k : Nat) (x : Vl) (h : f (k : Int) = some x) : serTo f (k + 1) = serTo f k ++ [⟨(k : Int), x⟩] := by simp only [serTo, h]
theorem serTo_none (f : Int → Option Vl) (k : Nat) (h : f (k : Int) = none) : serTo f (k + 1) = serTo f k := by simp only [serTo, h, List.append_nil]
theorem mem_serTo (f : Int → Option Vl) (a : Ac) : ∀ k : Nat, a ∈ serTo f k ↔ 0 ≤ a.f0 ∧ a.f0 < k ∧ f a.f0 = some a.f1
  | 0 => by simp [serTo]; intros; omega
  | k + 1 => by
    cases h : f (k : Int) with
    | none =>
      rw [serTo_none f k h, mem_serTo f a k]
      constructor
      · rintro ⟨h1, h2, h3⟩; exact ⟨h1, by omega, h3⟩
      · rintro ⟨h1, h2, h3⟩
        have : a.f0 ≠ k := fun e => by rw [e, h] at h3; cases h3
        exact ⟨h1, by omega, h3⟩
    | some x =>
      rw [serTo_some f k x h, List.mem_append, mem_serTo f a k, List.mem_singleton]
      constructor
      · rintro (⟨h1, h2, h3⟩ | rfl)
        · exact ⟨h1, by omega, h3⟩
        · exact ⟨by simp, by show (k : Int) < ((k + 1 : Nat) : Int); omega, h⟩
      · rintro ⟨h1, h2, h3⟩
        by_cases e : a.f0 = k
        · right
          rw [e, h] at h3
          obtain ⟨p, q⟩ := a
          simp only at e h3
          rw [e, Option.some.inj h3]
        · exact .inl ⟨h1, by omega, h3⟩
theorem serTo_sorted (f : Int → Option Vl) : ∀ k : Nat, (serTo f k).Pairwise (fun a b => a.f0 < b.f0)
  | 0 => List.Pairwise.nil
  | k + 1 => by
    cases h : f (k : Int) with
    | none => rw [serTo_none f k h]; exact serTo_sorted f k
    | some x =>
      rw [serTo_some f k x h, List.pairwise_append]
      refine ⟨serTo_sorted f k, by simp, fun a ha b hb => ?_⟩
      have h1 := (mem_serTo f a k).1 ha
      rw [List.mem_singleton] at hb
      subst hb
      exact h1.2.1
theorem serTo_len (f : Int → Option Vl) : ∀ k : Nat, (serTo f k).length ≤ k
  | 0 => Nat.le_refl _
  | k + 1 => by
    have := serTo_len f k
    cases h : f (k : Int) with
    | none => rw [serTo_none f k h]; omega
    | some x => rw [serTo_some f k x h, List.length_append, List.length_singleton]; omega

structure Coll (f : Int → Option Vl) (outs : List Ac) : Prop where
  vals : ∀ a ∈ outs, f a.f0 = some a.f1
  nodup : (outs.map (·.f0)).Nodup
theorem coll_sorted {f : Int → Option Vl} {outs : List Ac} (h : Coll f outs) (hkeys : ∀ v, f v ≠ none → 0 ≤ v ∧ v < 64) (hall : ∀ v x, f v = some x → ∃ a ∈ outs, a.f0 = v) {m : List Ac} (hp : m.Perm outs) (hs : m.Pairwise (fun a b => a.f0 ≤ b.f0)) : m = serTo f 64 := by
  have hnd : (m.map (·.f0)).Nodup := (hp.map _).nodup_iff.2 h.nodup
  refine sorted_eq m _ ?_ (serTo_sorted f 64) fun a => ?_
  · have h2 : m.Pairwise (fun a b => a.f0 ≠ b.f0) := by
      have := List.pairwise_map.1 hnd
      exact this
    exact (hs.and h2).imp (fun {a b} hab => by have := hab.1; have := hab.2; omega)
  · rw [mem_serTo, hp.mem_iff]
    constructor
    · intro ha
      have hv := h.vals a ha
      have hr := hkeys a.f0 (by rw [hv]; simp)
      exact ⟨hr.1, by omega, hv⟩
    · rintro ⟨_, _, hv⟩
      obtain ⟨b, hb, he⟩ := hall a.f0 a.f1 hv
      have hbv := h.vals b hb
      rw [he, hv] at hbv
      have : a = b := by
        obtain ⟨p, q⟩ := a
        obtain ⟨p2, q2⟩ := b
        simp only at he hbv
        rw [he, Option.some.inj hbv]
      rw [this]; exact hb
end Go.Proofs.YtkfbhfmddmhiaaaGreatDoor.TJ
namespace Go.Proofs.YtkfbhfmddmhiaaaGreatDoor.TJ
open Go.Shelf Go.RowKit Go.Sort Go.MapKept Go.Proofs.YtkfbhfmddmhiaaaGreatDoorW.PrintWords Go.Proofs.YtkfbhfmddmhiaaaGreatDoorW.PrintLast Go.Proofs.YtkfbhfmddmhiaaaGreatDoor.PT Go.Proofs.YtkfbhfmddmhiaaaGreatDoor.IMaps
set_option linter.unusedVariables false
set_option linter.unusedSimpArgs false

theorem run_rangeE {P : Program} {w : World} {b clock : Nat} {es : Array MapEntry} {t k e : TypeId} (hb : w.heap[b]? = some (.map es clock)) (ht : P.underlying t = some (.map k e)) :
    (Instr.range t (.map (some b))).run P w = .ok (.pointer (some ⟨w.heap.size, 0, none⟩)) (w.alloc (.mapIter (some b) clock #[] clock)) := by
  simp [Instr.range, run_underlying ht, MapKept.run_getObj_map hb, Result.andThen]

theorem lk_mem : ∀ {l : List (Int × Value)} {p : Int × Value}, Keys l → p ∈ l → lk p.1 l = some p.2
  | q :: r, p, hk, h => by
    unfold Keys at hk
    rw [List.map_cons, List.nodup_cons] at hk
    rcases List.mem_cons.1 h with rfl | h
    · simp [lk]
    · have hne : ¬ q.1 = p.1 := fun e => hk.1 (by rw [e]; exact List.mem_map_of_mem h)
      simp only [lk, if_neg hne]
      exact lk_mem hk.2 h
theorem lk_get : ∀ {l : List (Int × Value)} {n : Int} {v : Value}, lk n l = some v → ∃ p ∈ l, p.1 = n
  | q :: r, n, v, h => by
    by_cases he : q.1 = n
    · exact ⟨q, by simp, he⟩
    · simp only [lk, if_neg he] at h
      obtain ⟨p, hp, e⟩ := lk_get h
      exact ⟨p, by simp [hp], e⟩

structure EsOk (w0 : World) (J : JS) (es : Array MapEntry) (clock : Nat) : Prop where
  val : ∀ e ∈ es.toList, ∃ n x A c, e.key = .int .i64 n ∧ e.val = .agg #[.int .i64 x.f0, .int .i64 x.f1, .string x.f2, .slice A x.f3.length c] ∧ J.vars n = some x ∧ x.f3.length ≤ c ∧ kVl.C w0 A x.f3.length x.f3
  all : ∀ n x, J.vars n = some x → ∃ e ∈ es.toList, e.key = .int .i64 n
  keys : (es.toList.map (·.key)).Nodup
  borns : (es.toList.map (·.born)).Nodup
  old : ∀ x ∈ es.toList, x.born < clock
theorem esOk_of {w0 w : World} {b : Nat} {J : JS} (h : JW w0 w b J) : ∃ es clock, w.heap[b + 2]? = some (.map es clock) ∧ EsOk w0 J es clock := by
  obtain ⟨lv, hIM, hVV⟩ := h.vars
  have hK := hIM.keys
  obtain ⟨es, clock, hb, ⟨st1, st2, st3⟩, hl⟩ := hIM
  refine ⟨es, clock, hb, fun e he => ?_, fun n x hx => ?_, st3, st2, st1⟩
  · have hm : (e.key, e.val) ∈ lv.map (fun p => (Value.int .i64 p.1, p.2)) := by
      rw [← hl]; exact List.mem_map_of_mem (f := fun e : MapEntry => (e.key, e.val)) he
    obtain ⟨p, hp, hpe⟩ := List.mem_map.1 hm
    simp only [Prod.mk.injEq] at hpe
    have hv := hVV p.1
    rw [lk_mem hK hp] at hv
    cases hj : J.vars p.1 with
    | none => rw [hj] at hv; exact hv.elim
    | some x =>
      rw [hj] at hv
      obtain ⟨A, c, h1, h2, h3⟩ := hv
      exact ⟨p.1, x, A, c, hpe.1.symm, hpe.2.symm.trans h1, hj, h2, h3⟩
  · have hv := hVV n
    rw [hx] at hv
    cases hk : lk n lv with
    | none => rw [hk] at hv; exact hv.elim
    | some v =>
      obtain ⟨p, hp, he⟩ := lk_get hk
      have hm : (Value.int .i64 p.1, p.2) ∈ es.toList.map (fun e => (e.key, e.val)) := by
        rw [hl]; exact List.mem_map_of_mem (f := fun p : Int × Value => (Value.int .i64 p.1, p.2)) hp
      obtain ⟨e, hee, hq⟩ := List.mem_map.1 hm
      simp only [Prod.mk.injEq] at hq
      exact ⟨e, hee, by rw [hq.1, he]⟩

theorem map_inj {α β : Type} (f : α → β) : ∀ {l : List α} {a b : α}, (l.map f).Nodup → a ∈ l → b ∈ l → f a = f b → a = b
  | c :: r, a, b, hn, ha, hb, he => by
    rw [List.map_cons, List.nodup_cons] at hn
    rcases List.mem_cons.1 ha with h1 | h1
    · rcases List.mem_cons.1 hb with h2 | h2
      · rw [h1, h2]
      · exact absurd (by rw [← h1, he]; exact List.mem_map_of_mem (f := f) h2) hn.1
    · rcases List.mem_cons.1 hb with h2 | h2
      · exact absurd (by rw [← h2, ← he]; exact List.mem_map_of_mem (f := f) h1) hn.1
      · exact map_inj f hn.2 h1 h2 he
theorem nodup_len : ∀ (k : Nat) (l : List Int), l.Nodup → (∀ x ∈ l, 0 ≤ x ∧ x < k) → l.length ≤ k
  | 0, l, _, h => by
    cases l with
    | nil => exact Nat.le_refl _
    | cons a r => have := h a (by simp); omega
  | k + 1, l, hn, h => by
    by_cases hm : (k : Int) ∈ l
    · have h1 := nodup_len k (l.erase (k : Int)) (hn.erase _) (fun x hx => by
        have h2 := (hn.mem_erase_iff).1 hx
        have h3 := h x h2.2
        have : x ≠ (k : Int) := h2.1
        omega)
      rw [List.length_erase_of_mem hm] at h1
      omega
    · have h1 := nodup_len k l hn (fun x hx => by
        have h3 := h x hx
        have : x ≠ (k : Int) := fun e => hm (by rw [← e]; exact hx)
        omega)
      omega
theorem coll_len {f : Int → Option Vl} {outs : List Ac} (h : Coll f outs) (hkeys : ∀ v, f v ≠ none → 0 ≤ v ∧ v < 64) : outs.length ≤ 64 := by
  have := nodup_len 64 _ h.nodup (fun x hx => by
    obtain ⟨a, ha, rfl⟩ := List.mem_map.1 hx
    exact hkeys _ (by rw [h.vals a ha]; simp))
  rwa [List.length_map] at this

structure SRel (w : World) (J : JS) (es : Array MapEntry) (clock r bm B0 : Nat) (v : Value) (wr : World) (picked : List MapEntry) (outs : List Ac) : Prop where
  hit : ∃ c0, clock ≤ c0 ∧ wr.heap[r]? = some (.mapIter (some bm) clock (picked.map (·.born)).toArray c0)
  hmap : wr.heap[bm]? = some (.map es clock)
  below : Below w.heap.size w wr
  row : Kd.R kAc 51 wr B0 (fun _ => True) v outs
  base : B0 ≤ wr.heap.size
  sub : ∀ p ∈ picked, p ∈ es.toList
  keys : outs.map (fun a => Value.int .i64 a.f0) = picked.map (·.key)
  coll : Coll J.vars outs

def lenOf : Value → Nat
  | .slice _ n _ => n
  | _ => 0

theorem mem_left {es : Array MapEntry} {seen : Array Nat} {e : MapEntry} (h : e ∈ (leftOf es seen).toList) : e ∈ es.toList ∧ e.born ∉ seen.toList := by
  unfold leftOf at h
  simp at h
  exact ⟨by simpa using h.1, by simpa using h.2⟩
theorem left_none {es : Array MapEntry} {seen : Array Nat} (h : (leftOf es seen).size = 0) : ∀ e ∈ es.toList, e.born ∈ seen.toList := by
  intro e he
  unfold leftOf at h
  have h2 : es.filter (fun e => !seen.contains e.born) = #[] := Array.eq_empty_of_size_eq_zero h
  rw [Array.filter_eq_empty_iff] at h2
  have := h2 e (by simpa using he)
  simpa using this

theorem srel_all {w : World} {J : JS} {es : Array MapEntry} {clock r bm B0 : Nat} {v : Value} {wr : World} {picked : List MapEntry} {outs : List Ac} {w0 : World} (h : SRel w J es clock r bm B0 v wr picked outs) (hE : EsOk w0 J es clock)
    (h0 : (leftOf es (picked.map (·.born)).toArray).size = 0) : ∀ n x, J.vars n = some x → ∃ a ∈ outs, a.f0 = n := by
  intro n x hx
  obtain ⟨e, he, hk⟩ := hE.all n x hx
  have hb := left_none h0 e he
  rw [List.toList_toArray] at hb
  obtain ⟨p, hp, hpb⟩ := List.mem_map.1 hb
  have hpe : p = e := map_inj (·.born) hE.borns (h.sub p hp) he hpb
  subst hpe
  have hm : p.key ∈ outs.map (fun a => Value.int .i64 a.f0) := by rw [h.keys]; exact List.mem_map_of_mem (f := fun e : MapEntry => e.key) hp
  obtain ⟨a, ha, hae⟩ := List.mem_map.1 hm
  rw [hk] at hae
  exact ⟨a, ha, by injection hae⟩
theorem srel_new {w : World} {J : JS} {es : Array MapEntry} {clock r bm B0 : Nat} {v : Value} {wr : World} {picked : List MapEntry} {outs : List Ac} {w0 : World} (h : SRel w J es clock r bm B0 v wr picked outs) (hE : EsOk w0 J es clock)
    {e : MapEntry} (he : e ∈ (leftOf es (picked.map (·.born)).toArray).toList) {n : Int} {x : Vl} (hk : e.key = .int .i64 n) (hx : J.vars n = some x) : Coll J.vars (outs ++ [⟨n, x⟩]) := by
  obtain ⟨h1, h2⟩ := mem_left he
  rw [List.toList_toArray] at h2
  refine ⟨fun a ha => ?_, ?_⟩
  · rcases List.mem_append.1 ha with ha | ha
    · exact h.coll.vals a ha
    · rw [List.mem_singleton] at ha; subst ha; exact hx
  · rw [List.map_append, List.nodup_append]
    refine ⟨h.coll.nodup, by simp, fun a ha b hb => ?_⟩
    simp only [List.map_cons, List.map_nil, List.mem_singleton] at hb
    subst hb
    rintro rfl
    obtain ⟨q, hq, hqe⟩ := List.mem_map.1 ha
    have hm : Value.int .i64 q.f0 ∈ picked.map (·.key) := by rw [← h.keys]; exact List.mem_map_of_mem (f := fun a : Ac => Value.int .i64 a.f0) hq
    obtain ⟨p, hp, hpk⟩ := List.mem_map.1 hm
    have hkk : p.key = e.key := by rw [hpk, hk, hqe]
    have hpe : p = e := map_inj (·.key) hE.keys (h.sub p hp) h1 hkk
    exact h2 (List.mem_map.2 ⟨p, hp, by rw [hpe]⟩)
end Go.Proofs.YtkfbhfmddmhiaaaGreatDoor.TJ
