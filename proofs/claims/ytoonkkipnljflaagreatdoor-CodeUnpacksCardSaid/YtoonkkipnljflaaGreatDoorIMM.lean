/- Maps with keys of the kind int as lists of pairs: lookup, store, delete, length, and what stays. Conditions: none beyond the block's being such a map. Maps with keys of the kind int as lists of pairs: lookup, store, delete, length, and what stays. Conditions: none beyond the block's being such a map. -/
import Derived.Below
import Derived.WalkKit
import Derived.Deep.Draws
import Derived.Maps.OwnSet
namespace Go.Proofs.YtoonkkipnljflaaGreatDoor.IMaps
open Go.RowKit Go.MapKept
set_option linter.unusedVariables false
def IM(w:World)(b:Nat)(l:List (Int×Value)):Prop:=
 ∃es clock,w.heap[b]? = some (.map es clock)∧Stamped es clock∧es.toList.map (fun e=>(e.key,e.val))=l.map (fun p=>(Value.int .i64 p.1,p.2))
def lk(n:Int):List (Int×Value)→Option Value
 | []=>none
 |p::r=>if p.1=n then some p.2 else lk n r
def putL(n:Int)(v:Value):List (Int×Value)→List (Int×Value)
 | []=>[(n,v)]
 |p::r=>if p.1=n then (n,v)::r else p::putL n v r
def delL(n:Int):List (Int×Value)→List (Int×Value)
 | []=>[]
 |p::r=>if p.1=n then r else p::delL n r
theorem IM.lt{w:World}{b:Nat}{l:List (Int×Value)}(h:IM w b l):b<w.heap.size:=by
 obtain ⟨es,clock,hb,_⟩:=h;exact (Array.getElem?_eq_some_iff.1 hb).1
theorem IM.of_block{w w':World}{b:Nat}{l:List (Int×Value)}(h:IM w b l)(hb:w'.heap[b]? = w.heap[b]?):IM w' b l:=by
 obtain ⟨es,clock,h1,h2⟩:=h;exact ⟨es,clock,hb.trans h1,h2⟩
theorem IM.alloc{w:World}{b:Nat}{l:List (Int×Value)}(h:IM w b l)(o:Obj):IM (w.alloc o) b l:=
 h.of_block (Below.heap_alloc _ _ _ h.lt)
theorem IM.below{w w':World}{b:Nat}{l:List (Int×Value)}(h:IM w b l)(hb:Below w.heap.size w w'):IM w' b l:=
 h.of_block (hb.block _ h.lt)
theorem IM.grown{w w':World}{b:Nat}{l:List (Int×Value)}{row:Option Nat}(h:IM w b l)(hg:w.grownBy w' row)(hne:some b≠row):IM w' b l:=
 h.of_block (hg.block _ h.lt hne)
theorem IM.setCell{w:World}{b:Nat}{l:List (Int×Value)}(h:IM w b l){a:Addr}(u:Value)(hne:a.block≠b):IM (w.setCell a u) b l:=
 h.of_block (Below.heap_setCell _ _ _ _ (Ne.symm hne))
theorem IM.made(w:World):IM (w.alloc (.map #[] 0)) w.heap.size []:=
 ⟨#[],0,(heap_alloc w _).1,stamped_empty 0,rfl⟩
theorem qBC(n:Int):∀(es:List MapEntry) (l:List (Int×Value)) (i:Nat),es.map (fun e=>(e.key,e.val))=l.map (fun p=>(Value.int .i64 p.1,p.2)) →
 (lk n l=none∧Instr.findNow (.int .i64) (.int .i64 n) es i=some none∧putL n=putL n∧(∀x∈es,x.key≠.int .i64 n)∧(∀v,putL n v l=l++[(n,v)])∧delL n l=l) ∨
 (∃ j v, lk n l = some v ∧ Instr.findNow (.int .i64) (.int .i64 n) es i = some (some (i + j, v)) ∧ (es[j]?).map (·.key) = some (.int .i64 n) ∧
   (∀u,putL n u l=l.set j (n,u))∧delL n l=l.eraseIdx j∧j<l.length):=by
 intro es
 induction es with
 |nil=>
  intro l i h;cases l with
  |nil=>exact .inl ⟨rfl,rfl,rfl,by simp,fun v=>rfl,rfl⟩
  |cons p r=>simp at h
 |cons e es ih=>
  intro l i h;cases l with
  |nil=>simp at h
  |cons p r=>
   simp only [List.map_cons,List.cons.injEq,Prod.mk.injEq] at h;obtain ⟨⟨hk,hv⟩,ht⟩:=h;by_cases hp:p.1=n
   ·refine .inr ⟨0,p.2,by simp [lk,hp],?_,by simp [hk,hp],fun u=>by simp [putL,hp],by simp [delL,hp],by simp⟩;simp [Instr.findNow,hk,hp,Instr.sameNow,hv]
   ·have hq:(n==p.1)=false:=beq_eq_false_iff_ne.2 (fun e=>hp e.symm);rcases ih r (i+1) ht with ⟨h1,h2,_,h3,h4,h5⟩|⟨j,v,h1,h2,h3,h4,h5,h6⟩
    ·refine .inl ⟨by simp [lk,hp,h1],?_,rfl,?_,fun v=>by simp [putL,hp,h4],by simp [delL,hp,h5]⟩
     ·simp [Instr.findNow,hk,Instr.sameNow,hq,h2]
     ·intro x hx;rcases List.mem_cons.1 hx with rfl|hx
      ·rw [hk]; intro e; injection e with _ e; exact hp e
      ·exact h3 x hx
    ·refine .inr ⟨j+1,v,by simp [lk,hp,h1],?_,by simpa using h3,fun u=>by simp [putL,hp,h4],by simp [delL,hp,h5],by simpa using h6⟩;simp only [Instr.findNow,hk,Instr.sameNow,hq];simp [h2];omega
section
variable {P:Program} {w:World} {b:Nat} {l:List (Int×Value)} {t k e:TypeId}
theorem run_lookup(h:IM w b l)(ht:P.underlying t=some (.map k e))(hk:P.underlying k=some (.int .i64)){z:Value}(hz:(zeroValue e).run P w=.ok z w)(n:Int)(ok:Bool):
 (Instr.lookup t (.map (some b)) (.int .i64 n) ok).run P w=.ok (if ok then .tuple #[(lk n l).getD z,.bool (lk n l).isSome] else (lk n l).getD z) w:=by
 obtain ⟨es,clock,hb,hs,hl⟩:=h;have hc:=run_checkKey (P:=P) (w:=w) hk (k:=.int .i64 n) rfl es.isEmpty 9999;rcases qBC n es.toList l 0 hl with ⟨h1,h2,_⟩|⟨j,v,h1,h2,_⟩
 ·cases ok<;>simp [Instr.lookup,run_underlying ht,MapKept.run_getObj_map hb,hc,MapKept.run_findKey hk h2,Result.andThen,hz,h1]
 ·cases ok<;>simp [Instr.lookup,run_underlying ht,MapKept.run_getObj_map hb,hc,MapKept.run_findKey hk h2,Result.andThen,h1]
theorem qA4{o o':Obj}(hb:w.heap[b]? = some o):w.grownBy { w with heap:=w.heap.setIfInBounds b o' } (some b):=
 ⟨rfl,rfl,rfl,by simp,fun i _ hi=>(heap_set hb).2 i (fun e=>hi (by rw [e]))⟩
theorem run_mapUpdate(h:IM w b l)(ht:P.underlying t=some (.map k e))(hk:P.underlying k=some (.int .i64))(n:Int)(v:Value):
 ∃w',(Instr.mapUpdate t (.map (some b)) (.int .i64 n) v).run P w=.ok () w'∧IM w' b (putL n v l)∧w.grownBy w' (some b)∧w'.drawn=w.drawn:=by
 obtain ⟨es,clock,hb,hs,hl⟩:=h;have hc:=run_checkKey (P:=P) (w:=w) hk (k:=.int .i64 n) rfl false 9999;rcases qBC n es.toList l 0 hl with ⟨h1,h2,_,h3,h4,_⟩|⟨j,u,h1,h2,h3,h4,_,h6⟩
 ·refine ⟨{ w with heap:=w.heap.setIfInBounds b (.map (es.push { key:=.int .i64 n,val:=v,born:=clock }) (clock+1)) },by simp [Instr.mapUpdate,run_underlying ht,MapKept.run_getObj_map hb,hc,MapKept.run_findKey hk h2,MapKept.run_setObj_map _ hb,Result.andThen],⟨_,_,(heap_set hb).1,stamped_push hs h3,?_⟩,qA4 hb,rfl⟩;rw [h4];simp [hl]
 ·obtain ⟨e0,he0,hek⟩:=Option.map_eq_some_iff.1 h3;have hj:es[j]? = some e0:=by simpa using he0
  have hkey:∀e',es[j]? = some e'→({ e' with key:=Value.int .i64 n,val:=v }:MapEntry).key=e'.key:=fun e' he'=>by rw [hj] at he'; cases he'; exact hek.symm
  refine ⟨{ w with heap:=w.heap.setIfInBounds b (.map (es.modify j fun e=>{ e with key:=.int .i64 n,val:=v }) clock) },by simp [Instr.mapUpdate,run_underlying ht,MapKept.run_getObj_map hb,hc,MapKept.run_findKey hk h2,hj,hek,run_keyThatStays (d:=.int .i64) (k:=.int .i64 n) rfl,MapKept.run_setObj_map _ hb,Result.andThen],⟨_,_,(heap_set hb).1,stamped_modify hs _ _ (fun _ _=>rfl) (fun e' _ he'=>hkey e' he'),?_⟩,qA4 hb,rfl⟩;rw [h4];apply List.ext_getElem?;intro i;have hi:∀i:Nat,(es[i]?).map (fun e:MapEntry=>(e.key,e.val))=(l[i]?).map (fun p=>(Value.int .i64 p.1,p.2)):=fun i=>by
   have:=congrArg (·[i]?) hl;simpa using this
  simp only [List.getElem?_map,Array.getElem?_toList,Array.getElem?_modify,List.getElem?_set];by_cases hij:j=i
  ·subst hij;simp [hj,h6]
  ·simp [hij,hi]
theorem qI5(h:IM w b l)(ht:P.underlying t=some (.map k e))(hk:P.underlying k=some (.int .i64))(n:Int)(ty:TypeId):
 ∃w',(Builtin.delete_ #[t,k] ty #[.map (some b),.int .i64 n]).run P w=.ok (.tuple #[]) w'∧IM w' b (delL n l)∧w.grownBy w' (some b)∧w'.drawn=w.drawn:=by
 obtain ⟨es,clock,hb,hs,hl⟩:=h;have hc:=run_checkKey (P:=P) (w:=w) hk (k:=.int .i64 n) rfl es.isEmpty 9999;rcases qBC n es.toList l 0 hl with ⟨h1,h2,_,_,_,h5⟩|⟨j,u,h1,h2,h3,_,h5,h6⟩
 ·refine ⟨{ w with heap:=w.heap.setIfInBounds b (.map es clock) },by simp [Builtin.delete_,run_underlying ht,MapKept.run_getObj_map hb,hc,MapKept.run_findKey hk h2,MapKept.run_setObj_map _ hb,Result.andThen],⟨_,_,(heap_set hb).1,hs,by rw [h5]; exact hl⟩,qA4 hb,rfl⟩
 ·refine ⟨{ w with heap:=w.heap.setIfInBounds b (.map (es.eraseIdxIfInBounds (0+j)) clock) },by simp [Builtin.delete_,run_underlying ht,MapKept.run_getObj_map hb,hc,MapKept.run_findKey hk h2,MapKept.run_setObj_map _ hb,Result.andThen],⟨_,_,(heap_set hb).1,stamped_erase hs _,?_⟩,qA4 hb,rfl⟩;have hje:j<es.size:=by
   have:=congrArg List.length hl;simp at this;omega
  have he:(es.eraseIdxIfInBounds j).toList=es.toList.eraseIdx j:=by
   unfold Array.eraseIdxIfInBounds;rw [dif_pos hje];simp
  have h0:0+j=j:=by omega
  rw [h0,he,h5,Go.ChangeMaps.map_eraseIdx,Go.ChangeMaps.map_eraseIdx,hl]
theorem qFZ(h:IM w b l)(ht:P.underlying t=some (.map k e))(ty:TypeId):(Builtin.len_ #[t] ty #[.map (some b)]).run P w=.ok (.int .i64 l.length) w:=by
 obtain ⟨es,clock,hb,hs,hl⟩:=h;have hlen:es.size=l.length:=by have:=congrArg List.length hl; simpa using this
 simp [Builtin.len_,run_underlying ht,MapKept.run_getObj_map hb,Result.andThen,goInt,hlen]
end
theorem lk_put(n m:Int)(v:Value):∀l,lk m (putL n v l)=if n=m then some v else lk m l
 | []=>by simp [putL,lk]
 |p::r=>by
  by_cases h:p.1=n
  ·by_cases h2:n=m
   ·simp [putL,lk,h,h2]
   ·simp [putL,lk,h,h2]
  ·by_cases h2:p.1=m
   ·have:n≠m:=fun e=>h (h2.trans e.symm)
    have h':¬m=n:=fun e=>this e.symm
    simp [putL,lk,h2,this,h']
   ·simp [putL,lk,h,h2,lk_put n m v r]
def Keys(l:List (Int×Value)):Prop:=(l.map (·.1)).Nodup
theorem IM.keys{w:World}{b:Nat}{l:List (Int×Value)}(h:IM w b l):Keys l:=by
 obtain ⟨es,clock,_,⟨_,_,hs⟩,hl⟩:=h;have h1:es.toList.map (·.key)=(l.map (·.1)).map (Value.int .i64):=by
  have:=congrArg (List.map Prod.fst) hl;simpa [List.map_map,Function.comp_def] using this
 rw [h1] at hs;exact (List.pairwise_map.1 hs).imp (fun hab e=>hab (by rw [e]))
theorem lk_none{n:Int}:∀ {l:List (Int×Value)},n∉l.map (·.1)→lk n l=none
 | [],_=>rfl
 |p::r,h=>by
  simp only [List.map_cons,List.mem_cons,not_or] at h;simp [lk,Ne.symm h.1,lk_none h.2]
theorem qEp(n m:Int):∀l,Keys l→lk m (delL n l)=if n=m then none else lk m l
 | [],_=>by simp [delL,lk]
 |p::r,hk=>by
  have hk':=List.nodup_cons.1 hk;by_cases h:p.1=n
  ·by_cases h2:n=m
   ·simp [delL,h,h2];exact lk_none (by rw [←h2,←h]; exact hk'.1)
   ·simp [delL,lk,h,h2]
  ·by_cases h2:p.1=m
   ·have:n≠m:=fun e=>h (h2.trans e.symm)
    have h':¬m=n:=fun e=>this e.symm
    simp [delL,lk,h2,this,h']
   ·simp [delL,lk,h,h2,qEp n m r hk'.2]
end Go.Proofs.YtoonkkipnljflaaGreatDoor.IMaps
namespace Go.Proofs.YtoonkkipnljflaaGreatDoor.SMaps
open Go.RowKit Go.MapKept
set_option linter.unusedVariables false
def SM(w:World)(b:Nat)(l:List (ByteArray×Value)):Prop:=
 ∃es clock,w.heap[b]? = some (.map es clock)∧Stamped es clock∧es.toList.map (fun e=>(e.key,e.val))=l.map (fun p=>(Value.string p.1,p.2))
def lk(n:ByteArray):List (ByteArray×Value)→Option Value
 | []=>none
 |p::r=>if p.1=n then some p.2 else lk n r
def putL(n:ByteArray)(v:Value):List (ByteArray×Value)→List (ByteArray×Value)
 | []=>[(n,v)]
 |p::r=>if p.1=n then (n,v)::r else p::putL n v r
def delL(n:ByteArray):List (ByteArray×Value)→List (ByteArray×Value)
 | []=>[]
 |p::r=>if p.1=n then r else p::delL n r
theorem SM.lt{w:World}{b:Nat}{l:List (ByteArray×Value)}(h:SM w b l):b<w.heap.size:=by
 obtain ⟨es,clock,hb,_⟩:=h;exact (Array.getElem?_eq_some_iff.1 hb).1
theorem SM.of_block{w w':World}{b:Nat}{l:List (ByteArray×Value)}(h:SM w b l)(hb:w'.heap[b]? = w.heap[b]?):SM w' b l:=by
 obtain ⟨es,clock,h1,h2⟩:=h;exact ⟨es,clock,hb.trans h1,h2⟩
theorem SM.alloc{w:World}{b:Nat}{l:List (ByteArray×Value)}(h:SM w b l)(o:Obj):SM (w.alloc o) b l:=
 h.of_block (Below.heap_alloc _ _ _ h.lt)
theorem SM.below{w w':World}{b:Nat}{l:List (ByteArray×Value)}(h:SM w b l)(hb:Below w.heap.size w w'):SM w' b l:=
 h.of_block (hb.block _ h.lt)
theorem SM.grown{w w':World}{b:Nat}{l:List (ByteArray×Value)}{row:Option Nat}(h:SM w b l)(hg:w.grownBy w' row)(hne:some b≠row):SM w' b l:=
 h.of_block (hg.block _ h.lt hne)
theorem SM.made(w:World):SM (w.alloc (.map #[] 0)) w.heap.size []:=
 ⟨#[],0,(heap_alloc w _).1,stamped_empty 0,rfl⟩
theorem bs(a b:ByteArray):(a==b)=decide (a=b):=by
 have:=bytes_beq (a:=a) (b:=b);by_cases h:a=b<;>simp_all
theorem qBC(n:ByteArray):∀(es:List MapEntry) (l:List (ByteArray×Value)) (i:Nat),es.map (fun e=>(e.key,e.val))=l.map (fun p=>(Value.string p.1,p.2)) →
 (lk n l=none∧Instr.findNow .string (.string n) es i=some none∧putL n=putL n∧(∀x∈es,x.key≠.string n)∧(∀v,putL n v l=l++[(n,v)])∧delL n l=l) ∨
 (∃ j v, lk n l = some v ∧ Instr.findNow .string (.string n) es i = some (some (i + j, v)) ∧ (es[j]?).map (·.key) = some (.string n) ∧
   (∀u,putL n u l=l.set j (n,u))∧delL n l=l.eraseIdx j∧j<l.length):=by
 intro es
 induction es with
 |nil=>
  intro l i h;cases l with
  |nil=>exact .inl ⟨rfl,rfl,rfl,by simp,fun v=>rfl,rfl⟩
  |cons p r=>simp at h
 |cons e es ih=>
  intro l i h;cases l with
  |nil=>simp at h
  |cons p r=>
   simp only [List.map_cons,List.cons.injEq,Prod.mk.injEq] at h;obtain ⟨⟨hk,hv⟩,ht⟩:=h;by_cases hp:p.1=n
   ·refine .inr ⟨0,p.2,by simp [lk,hp],?_,by simp [hk,hp],fun u=>by simp [putL,hp],by simp [delL,hp],by simp⟩;simp [Instr.findNow,hk,hp,Instr.sameNow,hv,bs]
   ·have hq:(n==p.1)=false:=by rw [bs]; exact decide_eq_false (fun e=>hp e.symm)
    rcases ih r (i+1) ht with ⟨h1,h2,_,h3,h4,h5⟩|⟨j,v,h1,h2,h3,h4,h5,h6⟩
    ·refine .inl ⟨by simp [lk,hp,h1],?_,rfl,?_,fun v=>by simp [putL,hp,h4],by simp [delL,hp,h5]⟩
     ·simp [Instr.findNow,hk,Instr.sameNow,hq,h2]
     ·intro x hx;rcases List.mem_cons.1 hx with rfl|hx
      ·rw [hk]; intro e; injection e with e; exact hp e
      ·exact h3 x hx
    ·refine .inr ⟨j+1,v,by simp [lk,hp,h1],?_,by simpa using h3,fun u=>by simp [putL,hp,h4],by simp [delL,hp,h5],by simpa using h6⟩;simp only [Instr.findNow,hk,Instr.sameNow,hq];simp [h2];omega
section
variable {P:Program} {w:World} {b:Nat} {l:List (ByteArray×Value)} {t k e:TypeId}
theorem run_lookup(h:SM w b l)(ht:P.underlying t=some (.map k e))(hk:P.underlying k=some .string){z:Value}(hz:(zeroValue e).run P w=.ok z w)(n:ByteArray)(ok:Bool):
 (Instr.lookup t (.map (some b)) (.string n) ok).run P w=.ok (if ok then .tuple #[(lk n l).getD z,.bool (lk n l).isSome] else (lk n l).getD z) w:=by
 obtain ⟨es,clock,hb,hs,hl⟩:=h;have hc:=run_checkKey (P:=P) (w:=w) hk (k:=.string n) trivial es.isEmpty 9999;rcases qBC n es.toList l 0 hl with ⟨h1,h2,_⟩|⟨j,v,h1,h2,_⟩
 ·cases ok<;>simp [Instr.lookup,run_underlying ht,MapKept.run_getObj_map hb,hc,MapKept.run_findKey hk h2,Result.andThen,hz,h1]
 ·cases ok<;>simp [Instr.lookup,run_underlying ht,MapKept.run_getObj_map hb,hc,MapKept.run_findKey hk h2,Result.andThen,h1]
theorem qA4{o o':Obj}(hb:w.heap[b]? = some o):w.grownBy { w with heap:=w.heap.setIfInBounds b o' } (some b):=
 ⟨rfl,rfl,rfl,by simp,fun i _ hi=>(heap_set hb).2 i (fun e=>hi (by rw [e]))⟩
theorem run_mapUpdate(h:SM w b l)(ht:P.underlying t=some (.map k e))(hk:P.underlying k=some .string)(n:ByteArray)(v:Value):
 ∃w',(Instr.mapUpdate t (.map (some b)) (.string n) v).run P w=.ok () w'∧SM w' b (putL n v l)∧w.grownBy w' (some b)∧w'.drawn=w.drawn:=by
 obtain ⟨es,clock,hb,hs,hl⟩:=h;have hc:=run_checkKey (P:=P) (w:=w) hk (k:=.string n) trivial false 9999;rcases qBC n es.toList l 0 hl with ⟨h1,h2,_,h3,h4,_⟩|⟨j,u,h1,h2,h3,h4,_,h6⟩
 ·refine ⟨{ w with heap:=w.heap.setIfInBounds b (.map (es.push { key:=.string n,val:=v,born:=clock }) (clock+1)) },by simp [Instr.mapUpdate,run_underlying ht,MapKept.run_getObj_map hb,hc,MapKept.run_findKey hk h2,MapKept.run_setObj_map _ hb,Result.andThen],⟨_,_,(heap_set hb).1,stamped_push hs h3,?_⟩,qA4 hb,rfl⟩;rw [h4];simp [hl]
 ·obtain ⟨e0,he0,hek⟩:=Option.map_eq_some_iff.1 h3;have hj:es[j]? = some e0:=by simpa using he0
  have hkey:∀e',es[j]? = some e'→({ e' with key:=Value.string n,val:=v }:MapEntry).key=e'.key:=fun e' he'=>by rw [hj] at he'; cases he'; exact hek.symm
  refine ⟨{ w with heap:=w.heap.setIfInBounds b (.map (es.modify j fun e=>{ e with key:=.string n,val:=v }) clock) },by simp [Instr.mapUpdate,run_underlying ht,MapKept.run_getObj_map hb,hc,MapKept.run_findKey hk h2,hj,hek,run_keyThatStays (d:=.string) (k:=.string n) trivial,MapKept.run_setObj_map _ hb,Result.andThen],⟨_,_,(heap_set hb).1,stamped_modify hs _ _ (fun _ _=>rfl) (fun e' _ he'=>hkey e' he'),?_⟩,qA4 hb,rfl⟩;rw [h4];apply List.ext_getElem?;intro i;have hi:∀i:Nat,(es[i]?).map (fun e:MapEntry=>(e.key,e.val))=(l[i]?).map (fun p=>(Value.string p.1,p.2)):=fun i=>by
   have:=congrArg (·[i]?) hl;simpa using this
  simp only [List.getElem?_map,Array.getElem?_toList,Array.getElem?_modify,List.getElem?_set];by_cases hij:j=i
  ·subst hij;simp [hj,h6]
  ·simp [hij,hi]
end
theorem lk_put(n m:ByteArray)(v:Value):∀l,lk m (putL n v l)=if n=m then some v else lk m l
 | []=>by simp [putL,lk]
 |p::r=>by
  by_cases h:p.1=n
  ·by_cases h2:n=m
   ·simp [putL,lk,h,h2]
   ·simp [putL,lk,h,h2]
  ·by_cases h2:p.1=m
   ·have:n≠m:=fun e=>h (h2.trans e.symm)
    have h':¬m=n:=fun e=>this e.symm
    simp [putL,lk,h2,this,h']
   ·simp [putL,lk,h,h2,lk_put n m v r]
def Keys(l:List (ByteArray×Value)):Prop:=(l.map (·.1)).Nodup
theorem SM.keys{w:World}{b:Nat}{l:List (ByteArray×Value)}(h:SM w b l):Keys l:=by
 obtain ⟨es,clock,_,⟨_,_,hs⟩,hl⟩:=h;have h1:es.toList.map (·.key)=(l.map (·.1)).map (Value.string):=by
  have:=congrArg (List.map Prod.fst) hl;simpa [List.map_map,Function.comp_def] using this
 rw [h1] at hs;exact (List.pairwise_map.1 hs).imp (fun hab e=>hab (by rw [e]))
theorem lk_none{n:ByteArray}:∀ {l:List (ByteArray×Value)},n∉l.map (·.1)→lk n l=none
 | [],_=>rfl
 |p::r,h=>by
  simp only [List.map_cons,List.mem_cons,not_or] at h;simp [lk,Ne.symm h.1,lk_none h.2]
theorem qEp(n m:ByteArray):∀l,Keys l→lk m (delL n l)=if n=m then none else lk m l
 | [],_=>by simp [delL,lk]
 |p::r,hk=>by
  have hk':=List.nodup_cons.1 hk;by_cases h:p.1=n
  ·by_cases h2:n=m
   ·simp [delL,h,h2];exact lk_none (by rw [←h2,←h]; exact hk'.1)
   ·simp [delL,lk,h,h2]
  ·by_cases h2:p.1=m
   ·have:n≠m:=fun e=>h (h2.trans e.symm)
    have h':¬m=n:=fun e=>this e.symm
    simp [delL,lk,h2,this,h']
   ·simp [delL,lk,h,h2,qEp n m r hk'.2]
end Go.Proofs.YtoonkkipnljflaaGreatDoor.SMaps
