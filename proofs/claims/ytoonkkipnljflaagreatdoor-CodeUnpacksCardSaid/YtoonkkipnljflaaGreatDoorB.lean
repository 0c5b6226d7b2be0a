/- strings.Builder's copyCheck and WriteString at this translation. Conditions: the builder lies in a block of its own; the new length takes at most 2^47 bytes. -/
import Derived.Test.YtoonkkipnljflaaGreatDoorProg
import Derived.Lib.Strings
import Derived.Lib.Slices
import Derived.Lib.Walk
import Derived.Lib.Builder
import Derived.Lib.AppendStr
import Derived.Lib.UnsafeStr
import Derived.Lib.MakeNoZero
import Derived.WalkKit
import Derived.Laws.Externs
import Derived.Laws.IdiomCopy
import Derived.Laws.BitsLemmas
import Derived.KernelRfl
namespace Go.Proofs.YtoonkkipnljflaaGreatDoor.TJ
open Go.RowKit
set_option linter.unusedVariables false
def Qi(b:Nat)(w w':World):Prop:=∀(k:Nat) (cs:Array Value) (T:TypeId) (fr:Nat×Nat),k≠b→w.heap[k]? = some (.cells cs T fr)→T≠5→w'.heap[k]? = w.heap[k]?
theorem Qi.refl(b:Nat)(w:World):Qi b w w:=fun _ _ _ _ _ _ _=>rfl
theorem Qi.set(b:Nat)(w:World)(i:Nat)(v:Value):Qi b w (w.setCell ⟨b,i,none⟩ v):=fun k _ _ _ hk _ _=>Below.heap_setCell _ _ _ _ hk
theorem Qi.trans{b:Nat}{w w1 w2:World}(h:Qi b w w1)(h2:Qi b w1 w2):Qi b w w2:=fun k cs T fr hk hc hT=>by
 have e:=h k cs T fr hk hc hT;exact (h2 k cs T fr hk (e.trans hc) hT).trans e
theorem sizeBuilder:(Tryz.prog.info? 97).map (·.size)=some 2:=by kernel_rfl
theorem liesBuilder:liesAt Tryz.prog Tryz.prog.depth 97 (2 / Tryz.prog.cellsOf 97) 0 97 1=true:=by kernel_rfl
theorem qA7:(Tryz.prog.info? 5).map (fun i=>(i.zero,i.size,i.bytes))=some (some (.int .u8 0),1,1):=by kernel_rfl
set_option maxHeartbeats 1000000 in
set_option maxRecDepth 100000 in
theorem qFe(b:Nat)(w:World)(h0:w.cell? ⟨b,0,none⟩=some (.pointer (some ⟨b,0,none⟩))):
 Calls Tryz.prog 74 #[.pointer (some ⟨b,0,none⟩)] w fun e w'=>e=.returned (.tuple #[])∧w'=w:=by
 obtain ⟨j,hj,_⟩:=Option.map_eq_some_iff.1 sizeBuilder;go_enter Tryz.func74,Tryz.ntmps74;go_wp2;rw [Lib.run_neq_ptr_same w _ Tryz.underlying95 hj];go_wp2;go_end0;exact ⟨rfl,rfl⟩
set_option maxHeartbeats 1000000 in
set_option maxRecDepth 100000 in
theorem qEw(b:Nat)(w:World)(h0:w.cell? ⟨b,0,none⟩=some (.pointer none))(hsh:w.shape? b=some (97,2))(hfz:w.frozen? ⟨b,0,none⟩=false):
 Calls Tryz.prog 74 #[.pointer (some ⟨b,0,none⟩)] w fun e w'=>e=.returned (.tuple #[])∧w'=w.setCell ⟨b,0,none⟩ (.pointer (some ⟨b,0,none⟩)):=by
 obtain ⟨j,hj,hjs⟩:=Option.map_eq_some_iff.1 sizeBuilder;go_enter Tryz.func74,Tryz.ntmps74;go_wp2;rw [Lib.run_to_unsafe w ⟨b,0,none⟩ Tryz.underlying95 Tryz.underlying150 hj (by rw [hjs]; decide) hsh (Nat.zero_lt_succ 1)];simp only [Result.andThen];rw [Oper.upon_value];go_wp2;rw [run_callFunc_extern Tryz.func104 (by kernel_rfl) (by kernel_rfl) (by kernel_rfl) (e:=Extern.AbiNoEscape.same) (by kernel_rfl)];rw [Lib.run_noEscape];simp only [Result.andThen];rw [Oper.upon_value];go_wp2;rw [Lib.run_from_unsafe w ⟨b,0,none⟩ Tryz.underlying150 Tryz.underlying95 hj hsh liesBuilder];simp only [Result.andThen];rw [Oper.upon_value];go_wp2;go_end0;exact ⟨rfl,rfl⟩
theorem qEx(B b:Nat)(bs:List Value)(w:World)(h:Lib.IsBuilder 97 5 B b bs w):
 Calls Tryz.prog 74 #[.pointer (some ⟨b,0,none⟩)] w fun e w'=>e=.returned (.tuple #[])∧(Lib.BuilderAt 97 5 B b (.pointer (some ⟨b,0,none⟩)) bs w'∧Below B w w'∧Qi b w w'):=by
 rcases h with h|h
 ·refine (qEw b w h.cell0 h.shape h.frozen0).mono ?_;rintro e w' ⟨rfl,rfl⟩;exact ⟨rfl,h.used _,(Below.refl B w).setCell (p:=⟨b,0,none⟩) h.1 _,Qi.set _ _ _ _⟩
 ·refine (qFe b w h.cell0).mono ?_;rintro e w' ⟨rfl,rfl⟩;exact ⟨rfl,h,Below.refl B _,Qi.refl _ _⟩
set_option maxHeartbeats 2000000 in
set_option maxRecDepth 100000 in
theorem qED(B b:Nat)(bs:List Value)(s:ByteArray)(w:World)(h:Lib.IsBuilder 97 5 B b bs w)(hlen:bs.length+s.size≤140737488355328)(hBw:B≤w.heap.size):
 Calls Tryz.prog 51 #[.pointer (some ⟨b,0,none⟩),.string s] w fun e w'=>e=.returned (.tuple #[.int .i64 s.size,.nilIface])∧(Lib.BuilderAt 97 5 B b (.pointer (some ⟨b,0,none⟩)) (bs++Lib.strCells s) w'∧Below B w w'∧Qi b w w'):=by
 obtain ⟨i0,hi,hz0,hz1,hz2⟩:=info_parts qA7;go_enter Tryz.func51,Tryz.ntmps51;go_wp2_with (go_at_call 74; refine (qEx B b bs _ h).mono ?_);rintro e w1 ⟨rfl,h1,hb1,hk1⟩;obtain ⟨hB,v,hbk,hown,hne⟩:=h1;have c0:w1.cell? ⟨b,0,none⟩=some (.pointer (some ⟨b,0,none⟩)):=by rw [Lib.cell_of_heap hbk]; rfl
 have c1:w1.cell? ⟨b,1,none⟩=some v:=by rw [Lib.cell_of_heap hbk]; rfl
 go_wp2_with (at_builtin; refine Lib.wpList_append_own_string _ rfl _ _ 39 9 rfl B 5 i0 Tryz.underlying39 Tryz.underlying9 hi hz0 hz1 hz2 _ _ _ rfl hown s rfl ?c3 ?c4 ?c5 ?_)
 case c3=>unfold maxLen; omega
 case c4=>omega
 case c5=>have:=hb1.size; omega
 intro v' w2 hown' hgrow _;have hlt:b<w1.heap.size:=by
  rcases Nat.lt_or_ge b w1.heap.size with h'|h'
  ·exact h'
  ·simp [Array.getElem?_eq_none h'] at hbk
 have hb2:w2.heap[b]? = some (.cells #[.pointer (some ⟨b,0,none⟩),v] 97 (0,0)):=by
  rw [hgrow.block b hlt (fun e=>hne e.symm)];exact hbk
 have d0:w2.cell? ⟨b,0,none⟩=some (.pointer (some ⟨b,0,none⟩)):=by rw [Lib.cell_of_heap hb2]; rfl
 have d1:w2.cell? ⟨b,1,none⟩=some v:=by rw [Lib.cell_of_heap hb2]; rfl
 have f1:w2.frozen? ⟨b,1,none⟩=false:=Lib.frozen_of_heap hb2 1;obtain ⟨ao,n',cap,rfl⟩:∃ao n' cap,v'=.slice ao n' cap:=by
  rcases hown'.2 with ⟨hv,_⟩|⟨g,cap,cur,hv,_⟩
  ·exact ⟨_,_,_,hv⟩
  ·exact ⟨_,_,_,hv⟩
 go_wp2
 go_ret2
 refine ⟨rfl,?_,?_,?_⟩
 ·exact Lib.BuilderAt.put (T:=97) (e:=5) hB hb2 (bs':=bs++Lib.strCells s) (by simpa [Lib.strCells_length] using hown') (by decide)
 ·exact (hb1.grown hgrow (by have:=hb1.size; omega) (fun k hk=>(hown.lt k hk).1)).setCell (p:=⟨b,1,none⟩) hB _
 ·refine (hk1.trans (w2:=w2) ?_).trans (Qi.set _ _ _ _);intro k cs T fr hk hc hT;refine hgrow.block k (Array.getElem?_eq_some_iff.1 hc).1 (fun e=>?_);rcases hown.2 with ⟨hv,_⟩|⟨g,cap,cur,hv,_,hg,_⟩
  ·rw [hv] at e; simp [Value.ownBlock] at e
  ·rw [hv] at e;simp only [Value.ownBlock,Option.some.injEq] at e;rw [←e,hc] at hg;simp only [Option.some.injEq,Obj.cells.injEq] at hg;exact hT hg.2.1
theorem qEy{B b:Nat}{bs:List Value}{w w':World}(h:Lib.IsBuilder 97 5 B b bs w)(hb:Below w.heap.size w w'):Lib.IsBuilder 97 5 B b bs w':=by
 have key:∀p,Lib.BuilderAt 97 5 B b p bs w→Lib.BuilderAt 97 5 B b p bs w':=by
  intro p h;have hlt:=h.lt;obtain ⟨h1,v,h2,h3,h4⟩:=h;refine ⟨h1,v,(hb.block _ hlt).trans h2,?_,h4⟩;exact h3.kept (row:=none) ⟨hb.os,hb.tape,hb.output,hb.size,fun i hi _=>hb.block i hi⟩ (by cases v.ownBlock<;>simp)
 rcases h with h|h
 ·exact .inl (key _ h)
 ·exact .inr (key _ h)
end Go.Proofs.YtoonkkipnljflaaGreatDoor.TJ
