/- The text of a code is read back, and the other way round. Conditions: the code is valid. -/
import Derived.Test.YtmfjkepanmoeiaaGreatDoorYY
namespace Go.Proofs.YtmfjkepanmoeiaaGreatDoor.CJ
open Go.RowKit Go.Proofs.YtmfjkepanmoeiaaGreatDoorW.PrintWords Go.Proofs.YtmfjkepanmoeiaaGreatDoorW.PrintLast Go.Proofs.YtmfjkepanmoeiaaGreatDoor.PT Go.Proofs.YtmfjkepanmoeiaaGreatDoor.IMaps Go.Proofs.YtmfjkepanmoeiaaGreatDoor.TJ
set_option linter.unusedVariables false
set_option linter.unusedSimpArgs false
structure TAl (a : GAl) : Prop where
 n0 : Ok64 a.f0
 s1 : StrOk a.f1.data.toList
 n2 : Ok64 a.f2
 n3 : Ok64 a.f3
structure TOp (g : GOp) : Prop where
 n0 : 1 ≤ g.f0 ∧ g.f0 ≤ 13
 n1 : Ok64 g.f1
 n2 : Ok64 g.f2
 n3 : Ok64 g.f3
 s4 : StrOk g.f4.data.toList
 l5 : ∀ n ∈ g.f5, Ok64 n
 l6 : ∀ a ∈ g.f6, TAl a
structure TBk (b : GBk) : Prop where
 n0 : Ok64 b.f0
 n1 : Ok64 b.f1
 ops : ∀ g ∈ b.f2, TOp g
structure TGl (g : GGl) : Prop where
 s0 : nameB g.f0.data.toList = true
 n1 : Ok64 g.f1
theorem op13 {n : Int} (h : 1 ≤ n ∧ n ≤ 13) : ∃ k : Fin 13, n = (k.1 : Int) + 1 := ⟨⟨(n - 1).toNat, by omega⟩, by simp; omega⟩
theorem opNum_name {n : Int} (h : 1 ≤ n ∧ n ≤ 13) : opNum (opName n) = n := by
 obtain ⟨k, rfl⟩ := op13 h
 clear h
 revert k
 decide
theorem opName_nsp {n : Int} (h : 1 ≤ n ∧ n ≤ 13) : nsp (opName n) := by
 obtain ⟨k, rfl⟩ := op13 h
 clear h
 revert k
 unfold nsp
 decide
theorem opName_num {p : List UInt8} (h : opNum p ≠ 0) : opName (opNum p) = p := by
 unfold opNum at h ⊢
 cases hk : opNames.findIdx? (· == p) with
 | none => rw [hk] at h; exact absurd rfl h
 | some k =>
  simp only
  obtain ⟨hlt, hp, _⟩ := List.findIdx?_eq_some_iff_getElem.1 hk
  have h13 : k < 13 := hlt
  have e : opName ((k : Int) + 1) = opNames.getD k [] := by
   unfold opName isOp
   have d1 : decide (1 ≤ (k : Int) + 1) = true := decide_eq_true (by omega)
   have d2 : decide ((k : Int) + 1 ≤ 13) = true := decide_eq_true (by omega)
   rw [d1, d2]
   simp only [Bool.and_self, if_true]
   congr 1
  rw [e, List.getD_eq_getElem?_getD, List.getElem?_eq_getElem hlt]
  exact beq_iff_eq.1 hp
theorem numbers_nsp (l : List Int) : nsp (numbersB l) := by
 unfold numbersB
 induction l with
 | nil => intro c hc; simp [Lib.join, List.intercalate] at hc
 | cons n r ih =>
  cases r with
  | nil => rw [List.map_cons, List.map_nil, join_one']; exact itoa_nsp n
  | cons m r =>
   rw [List.map_cons, List.map_cons, join_two]
   refine nsp_app (itoa_nsp n) (nsp_app ?_ ih)
   intro c hc
   simp only [List.mem_singleton] at hc
   subst hc; decide
theorem byte_nsp (c : UInt8) (h : 32 < c.toNat) : nsp [c] := fun d hd => by simp only [List.mem_singleton] at hd; subst hd; exact h
theorem list_nsp (l : List Int) : nsp (listText l) := nsp_app (byte_nsp 91 (by decide)) (nsp_app (numbers_nsp l) (byte_nsp 93 (by decide)))
theorem alt_nsp {a : GAl} (h : TAl a) : nsp (altText a) := by
 rw [altText_eq]
 have c58 : nsp [58] := byte_nsp 58 (by decide)
 exact nsp_app (itoa_nsp _) (nsp_app c58 (nsp_app (text_nsp h.s1) (nsp_app c58 (nsp_app (itoa_nsp _) (nsp_app c58 (itoa_nsp _))))))
theorem parts_nsp {g : GOp} (h : TOp g) : ∀ p ∈ opParts g ++ g.f6.map altText, nsp p := by
 intro p hp
 rcases List.mem_append.1 hp with hp | hp
 ·unfold opParts at hp
  simp only [List.mem_cons, List.not_mem_nil, or_false] at hp
  rcases hp with rfl | rfl | rfl | rfl | rfl | rfl
  ·exact opName_nsp h.n0
  ·exact itoa_nsp _
  ·exact itoa_nsp _
  ·exact itoa_nsp _
  ·exact text_nsp h.s4
  ·exact list_nsp _
 ·obtain ⟨a, ha, rfl⟩ := List.mem_map.1 hp
  exact alt_nsp (h.l6 a ha)
theorem opT_parts {g : GOp} (h : TOp g) : opT (opParts g ++ g.f6.map altText) = some g := by
 unfold opParts
 simp only [List.cons_append, List.nil_append, opT]
 rw [opNum_name h.n0, if_neg (by have := h.n0; omega), numT_itoa _ h.n1, numT_itoa _ h.n2, numT_itoa _ h.n3, strT_text _ h.s4]
 have := listT_text g.f5 h.l5
 unfold listText at this
 rw [this, altsT_map _ (fun a ha => altT_text a (h.l6 a ha).n0 (h.l6 a ha).s1 (h.l6 a ha).n2 (h.l6 a ha).n3)]
theorem opT_some {ps : List (List UInt8)} {g : GOp} (h : opT ps = some g) : opParts g ++ g.f6.map altText = ps := by
 unfold opT at h
 split at h
 ·rename_i o a b n s l r
  split at h
  ·cases h
  ·rename_i ho
   cases h1 : numT a with
   | none => rw [h1] at h; cases h
   | some f1 =>
   cases h2 : numT b with
   | none => rw [h1, h2] at h; cases h
   | some f2 =>
   cases h3 : numT n with
   | none => rw [h1, h2, h3] at h; cases h
   | some f3 =>
   cases h4 : strT s with
   | none => rw [h1, h2, h3, h4] at h; cases h
   | some f4 =>
   cases h5 : listT l with
   | none => rw [h1, h2, h3, h4, h5] at h; cases h
   | some f5 =>
   cases h6 : altsT r with
   | none => rw [h1, h2, h3, h4, h5, h6] at h; cases h
   | some f6 =>
   rw [h1, h2, h3, h4, h5, h6] at h
   simp only [Option.some.injEq] at h
   subst h
   unfold opParts
   simp only
   have := listT_some h5
   unfold listText at this
   rw [opName_num ho, numT_some h1, numT_some h2, numT_some h3, (strT_some h4).1, this, altsT_some (fun _ _ => altT_some) h6]
   rfl
 ·cases h
theorem opLine_parts {g : GOp} (h : TOp g) : spl 32 ((opLineB g).drop 2) = opParts g ++ g.f6.map altText := by
 rw [opLine_join]
 show spl 32 (Lib.join (opParts g ++ g.f6.map altText) [32]) = _
 exact spl_join 32 _ (by simp [opParts]) (fun p hp => nsp_no (parts_nsp h p hp) 32 (by decide))
theorem opLine_pre (g : GOp) : Lib.hasPrefix (opLineB g) [32, 32] = true := by
 rw [opLine_join]; simp [Lib.hasPrefix, List.isPrefixOf]
theorem addT_op {g : GOp} (h : TOp g) (bs : List GBk) (hb : bs ≠ []) : addT (bs, []) (opLineB g) = some (pushOp bs g, []) := by
 unfold addT
 rw [opLine_pre, if_pos rfl, if_neg (by simp [hb]), opLine_parts h, opT_parts h]
def blockHead (b : GBk) : List UInt8 := Lib.join [[98, 108, 111, 99, 107], Lib.itoa b.f0, Lib.itoa b.f1] [32]
def globLine (g : GGl) : List UInt8 := Lib.join [[103, 108, 111, 98, 97, 108], g.f0.data.toList, Lib.itoa g.f1] [32]
theorem lit_nsp1 : nsp [98, 108, 111, 99, 107] := by unfold nsp; decide
theorem lit_nsp2 : nsp [103, 108, 111, 98, 97, 108] := by unfold nsp; decide
theorem head_parts (b : GBk) : spl 32 (blockHead b) = [[98, 108, 111, 99, 107], Lib.itoa b.f0, Lib.itoa b.f1] :=
 spl_join 32 _ (by simp) (fun p hp => by
  simp only [List.mem_cons, List.not_mem_nil, or_false] at hp
  rcases hp with rfl | rfl | rfl
  ·exact nsp_no lit_nsp1 32 (by decide)
  ·exact nsp_no (itoa_nsp _) 32 (by decide)
  ·exact nsp_no (itoa_nsp _) 32 (by decide))
theorem glob_parts {g : GGl} (h : TGl g) : spl 32 (globLine g) = [[103, 108, 111, 98, 97, 108], g.f0.data.toList, Lib.itoa g.f1] :=
 spl_join 32 _ (by simp) (fun p hp => by
  simp only [List.mem_cons, List.not_mem_nil, or_false] at hp
  rcases hp with rfl | rfl | rfl
  ·exact nsp_no lit_nsp2 32 (by decide)
  ·exact nsp_no (name_nsp h.s0) 32 (by decide)
  ·exact nsp_no (itoa_nsp _) 32 (by decide))
theorem head_pre (b : GBk) : Lib.hasPrefix (blockHead b) [32, 32] = false := by
 unfold blockHead; rw [join_two]; rfl
theorem glob_pre (g : GGl) : Lib.hasPrefix (globLine g) [32, 32] = false := by
 unfold globLine; rw [join_two]; rfl
theorem addT_head {b : GBk} (h : TBk b) (bs : List GBk) : addT (bs, []) (blockHead b) = some (bs ++ [⟨b.f0, b.f1, []⟩], []) := by
 unfold addT
 rw [head_pre, if_neg (by simp), head_parts]
 simp only [lineT, if_true]
 rw [numT_itoa _ h.n0, numT_itoa _ h.n1]
theorem addT_glob {g : GGl} (h : TGl g) (bs : List GBk) (gl : List GGl) : addT (bs, gl) (globLine g) = some (bs, gl ++ [g]) := by
 unfold addT
 rw [glob_pre, if_neg (by simp), glob_parts h]
 have hne : ¬ ([103, 108, 111, 98, 97, 108] : List UInt8) = [98, 108, 111, 99, 107] := by decide
 simp only [lineT, hne, if_false, if_true]
 rw [numT_itoa _ h.n1]
 simp only [h.s0, if_true]
def codeLines (bs : List GBk) (gl : List GGl) : List (List UInt8) := bs.flatMap (fun b => blockHead b :: b.f2.map opLineB) ++ gl.map globLine
def nlAll (xs : List (List UInt8)) : List UInt8 := xs.flatMap (fun x => x ++ [10])
theorem nlAll_app (a b : List (List UInt8)) : nlAll (a ++ b) = nlAll a ++ nlAll b := by unfold nlAll; rw [List.flatMap_append]
theorem textB_lines (bs : List GBk) (gl : List GGl) : textB bs gl = nlAll (codeLines bs gl) := by
 unfold textB codeLines
 rw [nlAll_app]
 congr 1
 ·induction bs with
  | nil => rfl
  | cons b r ih =>
   rw [List.flatMap_cons, List.flatMap_cons, nlAll_app, ih]
   congr 1
   unfold blockTextB nlAll
   rw [List.flatMap_cons, List.flatMap_map]
   rfl
 ·unfold nlAll
  rw [List.flatMap_map]
  rfl
theorem spl_lines : ∀ (xs : List (List UInt8)), (∀ x ∈ xs, (10 : UInt8) ∉ x) → spl 10 (nlAll xs) = xs ++ [[]]
 | [], _ => rfl
 | x :: r, h => by
  have e : nlAll (x :: r) = x ++ 10 :: nlAll r := by unfold nlAll; rw [List.flatMap_cons, List.append_assoc]; rfl
  rw [e, spl_app 10 x _ (h x (by simp)), spl_lines r (fun y hy => h y (by simp [hy]))]
  rfl
def addAll : St → List (List UInt8) → Option St
 | c, [] => some c
 | c, l :: r => match addT c l with | some c' => addAll c' r | none => none
theorem addAll_app : ∀ (xs ys : List (List UInt8)) (c c' : St), addAll c xs = some c' → addAll c (xs ++ ys) = addAll c' ys
 | [], ys, c, c', h => by cases h; rfl
 | x :: xs, ys, c, c', h => by
  rw [addAll] at h
  rw [List.cons_append, addAll]
  cases ha : addT c x with
  | none => rw [ha] at h; cases h
  | some c1 =>
   rw [ha] at h
   exact addAll_app xs ys c1 c' h
theorem linesT_all : ∀ (xs : List (List UInt8)) (k : Nat) (c c' : St), addAll c xs = some c' → linesT k c (xs ++ [[]]) = .ok c'
 | [], k, c, c', h => by cases h; rfl
 | x :: xs, k, c, c', h => by
  rw [addAll] at h
  cases ha : addT c x with
  | none => rw [ha] at h; cases h
  | some c1 =>
   rw [ha] at h
   have hx : xs ++ [[]] ≠ [] := by simp
   rw [List.cons_append]
   cases hxs : xs ++ [[]] with
   | nil => exact absurd hxs hx
   | cons y r =>
    rw [linesT, ha]
    ·simp only
     rw [← hxs]; exact linesT_all xs (k + 1) c1 c' h
    ·intro h; cases h
theorem push_last (bs : List GBk) (f0 f1 : Int) (os : List GOp) (g : GOp) : pushOp (bs ++ [⟨f0, f1, os⟩]) g = bs ++ [⟨f0, f1, os ++ [g]⟩] := by
 unfold pushOp
 rw [List.getLast?_append]
 simp
theorem add_ops (bs : List GBk) (f0 f1 : Int) : ∀ (l os : List GOp), (∀ g ∈ l, TOp g) → addAll (bs ++ [⟨f0, f1, os⟩], []) (l.map opLineB) = some (bs ++ [⟨f0, f1, os ++ l⟩], [])
 | [], os, _ => by simp [addAll]
 | g :: l, os, h => by
  rw [List.map_cons, addAll, addT_op (h g (by simp)) _ (by simp), push_last]
  simp only
  rw [add_ops bs f0 f1 l (os ++ [g]) (fun x hx => h x (by simp [hx]))]
  simp
theorem add_block (bs : List GBk) {b : GBk} (h : TBk b) : addAll (bs, []) (blockHead b :: b.f2.map opLineB) = some (bs ++ [b], []) := by
 rw [addAll, addT_head h]
 simp only
 have := add_ops bs b.f0 b.f1 b.f2 [] h.ops
 rw [List.nil_append] at this
 exact this
theorem add_blocks : ∀ (l bs : List GBk), (∀ b ∈ l, TBk b) → addAll (bs, []) (l.flatMap (fun b => blockHead b :: b.f2.map opLineB)) = some (bs ++ l, [])
 | [], bs, _ => by simp [addAll]
 | b :: l, bs, h => by
  rw [List.flatMap_cons, addAll_app _ _ _ _ (add_block bs (h b (by simp))), add_blocks l (bs ++ [b]) (fun x hx => h x (by simp [hx]))]
  simp
theorem add_globs (bs : List GBk) : ∀ (l gl : List GGl), (∀ g ∈ l, TGl g) → addAll (bs, gl) (l.map globLine) = some (bs, gl ++ l)
 | [], gl, _ => by simp [addAll]
 | g :: l, gl, h => by
  rw [List.map_cons, addAll, addT_glob (h g (by simp))]
  simp only
  rw [add_globs bs l (gl ++ [g]) (fun x hx => h x (by simp [hx]))]
  simp
theorem join_no (c sep : UInt8) (hs : c ≠ sep) : ∀ (xs : List (List UInt8)), (∀ x ∈ xs, c ∉ x) → c ∉ Lib.join xs [sep]
 | [], _ => by simp [Lib.join, List.intercalate]
 | [x], h => by rw [join_one']; exact h x (by simp)
 | x :: y :: r, h => by
  rw [join_two]
  intro hm
  rcases List.mem_append.1 hm with hm | hm
  ·exact h x (by simp) hm
  ·rcases List.mem_append.1 hm with hm | hm
   ·simp only [List.mem_singleton] at hm; exact hs hm
   ·exact join_no c sep hs (y :: r) (fun z hz => h z (by simp [hz])) hm
theorem lines_no {bs : List GBk} {gl : List GGl} (hb : ∀ b ∈ bs, TBk b) (hg : ∀ g ∈ gl, TGl g) : ∀ x ∈ codeLines bs gl, (10 : UInt8) ∉ x := by
 intro x hx
 have d : (10 : UInt8) ≠ 32 := by decide
 unfold codeLines at hx
 rcases List.mem_append.1 hx with hx | hx
 ·obtain ⟨b, hb1, hx⟩ := List.mem_flatMap.1 hx
  rcases List.mem_cons.1 hx with rfl | hx
  ·refine join_no 10 32 d _ (fun p hp => ?_)
   simp only [List.mem_cons, List.not_mem_nil, or_false] at hp
   rcases hp with rfl | rfl | rfl
   ·exact nsp_no lit_nsp1 10 (by decide)
   ·exact nsp_no (itoa_nsp _) 10 (by decide)
   ·exact nsp_no (itoa_nsp _) 10 (by decide)
  ·obtain ⟨g, hg1, rfl⟩ := List.mem_map.1 hx
   rw [opLine_join]
   intro hm
   rcases List.mem_append.1 hm with hm | hm
   ·exact absurd hm (by decide)
   ·exact join_no 10 32 d _ (fun p hp => nsp_no (parts_nsp ((hb b hb1).ops g hg1) p hp) 10 (by decide)) hm
 ·obtain ⟨g, hg1, rfl⟩ := List.mem_map.1 hx
  refine join_no 10 32 d _ (fun p hp => ?_)
  simp only [List.mem_cons, List.not_mem_nil, or_false] at hp
  rcases hp with rfl | rfl | rfl
  ·exact nsp_no lit_nsp2 10 (by decide)
  ·exact nsp_no (name_nsp (hg g hg1).s0) 10 (by decide)
  ·exact nsp_no (itoa_nsp _) 10 (by decide)
theorem read_text {bs : List GBk} {gl : List GGl} (hk : allK bs gl = true) (hb : ∀ b ∈ bs, TBk b) (hg : ∀ g ∈ gl, TGl g) : readT (textB bs gl) = .ok (bs, gl) := by
 unfold readT
 rw [textB_lines, spl_lines _ (lines_no hb hg)]
 have h1 := add_blocks bs [] hb
 have h2 := add_globs bs gl [] hg
 rw [List.nil_append] at h1 h2
 rw [linesT_all (codeLines bs gl) 1 ([], []) (bs, gl) (by unfold codeLines; rw [addAll_app _ _ _ _ h1, h2])]
 simp only [hk, if_true]
theorem text_push (bs : List GBk) (g : GOp) (h : bs ≠ []) : textB (pushOp bs g) [] = textB bs [] ++ (opLineB g ++ [10]) := by
 obtain ⟨b, r, e⟩ : ∃ b r, bs = r ++ [b] := ⟨bs.getLast h, bs.dropLast, (List.dropLast_concat_getLast h).symm⟩
 subst e
 obtain ⟨f0, f1, os⟩ := b
 rw [push_last]
 unfold textB blockTextB
 simp [List.flatMap_append]
theorem text_block (bs : List GBk) (f0 f1 : Int) : textB (bs ++ [⟨f0, f1, []⟩]) [] = textB bs [] ++ (blockHead ⟨f0, f1, []⟩ ++ [10]) := by
 unfold textB blockTextB blockHead
 simp [List.flatMap_append]
theorem text_glob (bs : List GBk) (gl : List GGl) (g : GGl) : textB bs (gl ++ [g]) = textB bs gl ++ (globLine g ++ [10]) := by
 unfold textB globTextB globLine
 simp [List.flatMap_append]
theorem prefix_two {l : List UInt8} (h : Lib.hasPrefix l [32, 32] = true) : l = [32, 32] ++ l.drop 2 := by
 unfold Lib.hasPrefix at h
 rw [List.isPrefixOf_iff_prefix] at h
 obtain ⟨y, hy⟩ := h
 rw [← hy]; rfl
theorem addT_some {c c' : St} {l : List UInt8} (h : addT c l = some c') : textB c'.1 c'.2 = textB c.1 c.2 ++ (l ++ [10]) := by
 obtain ⟨bs, gl⟩ := c
 unfold addT at h
 split at h
 ·rename_i hp
  split at h
  ·cases h
  ·rename_i hc
   simp only [not_or, ne_eq, Decidable.not_not] at hc
   obtain ⟨hb, rfl⟩ := hc
   cases ho : opT (spl 32 (l.drop 2)) with
   | none => rw [ho] at h; cases h
   | some g =>
    rw [ho] at h
    simp only [Option.some.injEq] at h
    subst h
    simp only
    rw [text_push bs g hb, opLine_join, opT_some ho, join_spl, ← prefix_two hp]
 ·have hj := join_spl 32 l
  generalize spl 32 l = ps at *
  unfold lineT at h
  split at h
  ·rename_i hd a b
   split at h
   ·rename_i e
    subst e
    cases h1 : numT a with
    | none => rw [h1] at h; cases h
    | some f0 =>
    cases h2 : numT b with
    | none => rw [h1, h2] at h; cases h
    | some f1 =>
    rw [h1, h2] at h
    simp only at h
    split at h
    ·rename_i e
     subst e
     simp only [Option.some.injEq] at h
     subst h
     simp only
     rw [text_block]
     unfold blockHead
     simp only
     rw [numT_some h1, numT_some h2, hj]
    ·cases h
   ·split at h
    ·rename_i e
     subst e
     cases h2 : numT b with
     | none => rw [h2] at h; cases h
     | some f1 =>
     rw [h2] at h
     simp only at h
     split at h
     ·simp only [Option.some.injEq] at h
      subst h
      simp only
      rw [text_glob]
      unfold globLine
      simp only
      rw [numT_some h2, hj]
     ·cases h
    ·cases h
  ·cases h
theorem linesT_some : ∀ (ls : List (List UInt8)) (k : Nat) (c c' : St), ls ≠ [] → linesT k c ls = .ok c' → textB c'.1 c'.2 = textB c.1 c.2 ++ Lib.join ls [10]
 | [], _, _, _, h, _ => absurd rfl h
 | [l], k, c, c', _, h => by
  rw [linesT] at h
  split at h
  ·rename_i e
   subst e
   injection h with h; subst h
   rw [join_one', List.append_nil]
  ·cases h
 | l :: y :: r, k, c, c', _, h => by
  rw [linesT] at h
  ·cases ha : addT c l with
   | none => rw [ha] at h; cases h
   | some c1 =>
    rw [ha] at h
    have := linesT_some (y :: r) (k + 1) c1 c' (by simp) h
    rw [this, addT_some ha, join_two]
    simp
  ·intro h; cases h
theorem text_read {t : List UInt8} {c : St} (h : readT t = .ok c) : textB c.1 c.2 = t ∧ allK c.1 c.2 = true := by
 unfold readT at h
 cases hl : linesT 1 ([], []) (spl 10 t) with
 | error k => rw [hl] at h; cases h
 | ok c1 =>
  rw [hl] at h
  simp only at h
  split at h
  ·rename_i hk
   injection h with h; subst h
   have := linesT_some _ _ _ _ (spl_ne 10 t) hl
   rw [this, join_spl]
   exact ⟨rfl, hk⟩
  ·cases h
end Go.Proofs.YtmfjkepanmoeiaaGreatDoor.CJ
