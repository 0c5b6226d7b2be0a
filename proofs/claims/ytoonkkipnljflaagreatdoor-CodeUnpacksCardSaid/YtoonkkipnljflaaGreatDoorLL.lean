/- A map that reads as a datum holds the datum's entries, in some order. Conditions: none beyond the reading. What the listed maps hold: their look-ups, in whatever world that keeps their blocks. Conditions: the maps read as they are listed. -/
import Derived.Test.YtoonkkipnljflaaGreatDoorIMM
import Derived.ProofKit
import Derived.LaidMore
import Derived.Test.YtoonkkipnljflaaGreatDoorRows
import Derived.Test.YtoonkkipnljflaaGreatDoorCC
namespace Go.Proofs.YtoonkkipnljflaaGreatDoor.MPerm
open Go.RowKit Go.MapKept Go.ChangeShapes Go.WideShapes Go.ChangeAt Go.WideMaps Go.WideElems
set_option linter.unusedVariables false
theorem qGU{H:Type}{P:Program}{w:World}{b:Nat}{k:TypeId}{R:Value→Option (DataW H×List MemPlace)}{es:Array MapEntry}{clock:Nat}(hb:w.heap[b]? = some (.map es clock))(F:Fit P k R es clock)
 (f:Lit×DataW H→Int×Value) (hf:∀e∈es.toList,∀y,rd P k R e=some y→e.key=.int .i64 (f y).1∧e.val=(f y).2):
 ∃l,IMaps.IM w b l∧l.Perm (((es.toList.map (rg P k R)).foldr DataW.insert []).map f):=by
 refine ⟨(es.toList.map (rg P k R)).map f,⟨es,clock,hb,F.stamped,?_⟩,(sorted_perm _).symm.map f⟩;rw [List.map_map,List.map_map];refine List.map_congr_left fun e he=>?_
 obtain ⟨y,hy⟩:=F.reads e he;obtain ⟨h1,h2⟩:=hf e he y hy;simp [rg_of hy,h1,h2]
theorem qGV{H:Type}{P:Program}{w:World}{b:Nat}{k:TypeId}{R:Value→Option (DataW H×List MemPlace)}{es:Array MapEntry}{clock:Nat}(hb:w.heap[b]? = some (.map es clock))(F:Fit P k R es clock)
 (f:Lit×DataW H→ByteArray×Value) (hf:∀e∈es.toList,∀y,rd P k R e=some y→e.key=.string (f y).1∧e.val=(f y).2):
 ∃l,SMaps.SM w b l∧l.Perm (((es.toList.map (rg P k R)).foldr DataW.insert []).map f):=by
 refine ⟨(es.toList.map (rg P k R)).map f,⟨es,clock,hb,F.stamped,?_⟩,(sorted_perm _).symm.map f⟩;rw [List.map_map,List.map_map];refine List.map_congr_left fun e he=>?_
 obtain ⟨y,hy⟩:=F.reads e he;obtain ⟨h1,h2⟩:=hf e he y hy;simp [rg_of hy,h1,h2]
theorem qIy{n:Int}{l m:List (Int×Value)}(h:l.Perm m)(hk:IMaps.Keys l):IMaps.lk n l=IMaps.lk n m:=by
 induction h with
 |nil=>rfl
 |cons x _ ih=>simp only [IMaps.lk]; rw [ih (List.nodup_cons.1 hk).2]
 |swap x y l=>
  simp only [IMaps.lk];by_cases h1:y.1=n<;>by_cases h2:x.1=n<;>simp [h1,h2]
  exfalso
  have:=(List.nodup_cons.1 hk).1;exact this (by simp [h1,h2])
 |trans h1 h2 i1 i2=>rw [i1 hk,i2 ((h1.map _).nodup_iff.1 hk)]
theorem qH3{n:ByteArray}{l m:List (ByteArray×Value)}(h:l.Perm m)(hk:SMaps.Keys l):SMaps.lk n l=SMaps.lk n m:=by
 induction h with
 |nil=>rfl
 |cons x _ ih=>simp only [SMaps.lk]; rw [ih (List.nodup_cons.1 hk).2]
 |swap x y l=>
  simp only [SMaps.lk];by_cases h1:y.1=n<;>by_cases h2:x.1=n<;>simp [h1,h2]
  exfalso
  have:=(List.nodup_cons.1 hk).1;exact this (by simp [h1,h2])
 |trans h1 h2 i1 i2=>rw [i1 hk,i2 ((h1.map _).nodup_iff.1 hk)]
end Go.Proofs.YtoonkkipnljflaaGreatDoor.MPerm
namespace Go.Proofs.YtoonkkipnljflaaGreatDoor.CJ
open Go.RowKit Go.MapKept Go.ChangeShapes Go.WideShapes Go.ChangeAt Go.WideMaps Go.WideElems Go.Proofs.YtoonkkipnljflaaGreatDoor.MPerm
set_option linter.unusedVariables false
theorem qFQ{P:Program}{k:TypeId}{v:Value}{l:Lit}(hk:P.underlying k=some .string)(h:keyOf P k v=some l):∃s:ByteArray,v=.string s∧l=.string s.data.toList:=by
 rw [keyOf_string hk] at h;cases v<;>simp [mapKey,hk] at h;exact ⟨_,rfl,h.2.symm⟩
theorem qIz{P:Program}{k:TypeId}{v:Value}{l:Lit}(hk:P.underlying k=some (.int .i64))(h:keyOf P k v=some l):∃n,v=.int .i64 n∧l=.int .i64 n:=by
 rw [keyOf_int hk] at h;cases v<;>simp [mapKey,hk] at h;obtain ⟨⟨rfl,_⟩,rfl⟩:=h;exact ⟨_,rfl,rfl⟩
theorem qH4{P:Program}{t:TypeId}{l:List (TypeId×Nat)}(h:((P.underlying t).bind fun d=>match d with | .struct fs=>some (fs.toList.map fun f=>(f.type,f.offset))|_=>none)=some l):∃fs,P.underlying t=some (.struct fs)∧fs.toList.map (fun f=>(f.type,f.offset))=l:=by
 cases hu:P.underlying t with
 |none=>simp [hu] at h
 |some d=>cases d<;>simp [hu] at h; exact ⟨_,rfl,h⟩
theorem qAM{fs:Array Field}{l:List (TypeId×Nat)}(h:fs.toList.map (fun f=>(f.type,f.offset))=l){i:Nat}{t:TypeId}{o:Nat}(hi:l[i]? = some (t,o)):∃f,fs[i]? = some f∧f.type=t∧f.offset=o:=by
 subst h;simp only [List.getElem?_map,Option.map_eq_some_iff,Array.getElem?_toList,Prod.mk.injEq] at hi;exact hi
theorem qFR{P:Program}{t:TypeId}{fs:Array Field}{v:Value}(hu:P.underlying t=some (.struct fs))(h:v.formed P t=true):∃cs:Array Value,v=.agg cs∧cs.size=P.cellsOf t:=by
 cases v<;>simp [Value.formed,hu] at h;exact ⟨_,rfl,h⟩
def qFS{H:Type}:Lit×DataW H→ByteArray×Value
 |(.string s,.lit (.int _ n))=>(⟨s.toArray⟩,.int .i64 n)
 |_=>(⟨#[]⟩,.int .i64 0)
def fPure{H:Type}:Lit×DataW H→ByteArray×Value
 |(.string s,.lit (.bool b))=>(⟨s.toArray⟩,.bool b)
 |_=>(⟨#[]⟩,.bool false)
set_option maxRecDepth 100000 in
theorem qH5{H:Type}{enc:TypeId×Value→H}{w:World}{base:Nat}{sp:Nat→Bool}{held:Bool}{fuel:Nat}{cs:List Value}{D:List (Lit×DataW H)}{p:List MemPlace}
 (h:DataW.trod enc Tryz.prog w base sp held fuel 171 cs=some (.map D,p)):∃b l,cs=[.map (some b)]∧SMaps.SM w b l∧l.Perm (D.map qFS):=by
 have hu:Tryz.prog.underlying 171=some (.map 9 3):=by kernel_rfl
 have hs:Tryz.prog.underlying 9=some .string:=by kernel_rfl
 have hi:Tryz.prog.underlying 3=some (.int .i64):=by kernel_rfl
 rcases WideElems.open_map hu h with ⟨_,hx⟩|⟨b,es,clock,n,rfl,hcs,hb,_,F,hx⟩
 ·simp at hx
 simp only [Prod.mk.injEq,DataW.map.injEq] at hx;obtain ⟨l,h1,h2⟩:=qGV hb F qFS (fun e he y hy=>by
  obtain ⟨s,e1,e2⟩:=qFQ hs (rd_key hy);obtain ⟨z,hz,e3⟩:=rd_val hy;obtain ⟨r,e4,rfl,_⟩:=elemAt_int hi hz;obtain ⟨y1,y2⟩:=y;simp only at e2 e3;subst e2 e3;exact ⟨e1,e4⟩)
 exact ⟨b,l,hcs,h1,by rw [hx.1]; exact h2⟩
set_option maxRecDepth 100000 in
theorem qK8{H:Type}{enc:TypeId×Value→H}{w:World}{base:Nat}{sp:Nat→Bool}{held:Bool}{fuel:Nat}{cs:List Value}{D:List (Lit×DataW H)}{p:List MemPlace}
 (h:DataW.trod enc Tryz.prog w base sp held fuel 112 cs=some (.map D,p)):∃b l,cs=[.map (some b)]∧SMaps.SM w b l∧l.Perm (D.map fPure):=by
 have hu:Tryz.prog.underlying 112=some (.map 9 4):=by kernel_rfl
 have hs:Tryz.prog.underlying 9=some .string:=by kernel_rfl
 have hi:Tryz.prog.underlying 4=some .bool:=by kernel_rfl
 rcases WideElems.open_map hu h with ⟨_,hx⟩|⟨b,es,clock,n,rfl,hcs,hb,_,F,hx⟩
 ·simp at hx
 simp only [Prod.mk.injEq,DataW.map.injEq] at hx;obtain ⟨l,h1,h2⟩:=qGV hb F fPure (fun e he y hy=>by
  obtain ⟨s,e1,e2⟩:=qFQ hs (rd_key hy);obtain ⟨z,hz,e3⟩:=rd_val hy;obtain ⟨r,e4,rfl⟩:=elemAt_bool hi hz;obtain ⟨y1,y2⟩:=y;simp only at e2 e3;subst e2 e3;exact ⟨e1,e4⟩)
 exact ⟨b,l,hcs,h1,by rw [hx.1]; exact h2⟩
def fOp{H:Type}:Lit×DataW H→Int×Value
 |(.int _ n,.agg [.lit (.string s),.lit (.bool b1),.lit (.bool b2),.lit (.bool b3),.lit (.bool b4),.lit (.bool b5),.lit (.bool b6)])=>(n,.agg #[.string ⟨s.toArray⟩,.bool b1,.bool b2,.bool b3,.bool b4,.bool b5,.bool b6])
 |_=>(0,.bool false)
set_option maxRecDepth 100000 in
theorem open_ops{H:Type}{enc:TypeId×Value→H}{w:World}{base:Nat}{sp:Nat→Bool}{held:Bool}{fuel:Nat}{cs:List Value}{D:List (Lit×DataW H)}{p:List MemPlace}
 (h:DataW.trod enc Tryz.prog w base sp held fuel 127 cs=some (.map D,p)):∃b l,cs=[.map (some b)]∧IMaps.IM w b l∧l.Perm (D.map fOp):=by
 have hu:Tryz.prog.underlying 127=some (.map 3 126):=by kernel_rfl
 have hs:Tryz.prog.underlying 9=some .string:=by kernel_rfl
 have hB:Tryz.prog.underlying 4=some .bool:=by kernel_rfl
 have hi:Tryz.prog.underlying 3=some (.int .i64):=by kernel_rfl
 rcases WideElems.open_map hu h with ⟨_,hx⟩|⟨b,es,clock,n,rfl,hcs,hb,_,F,hx⟩
 ·simp at hx
 simp only [Prod.mk.injEq,DataW.map.injEq] at hx;obtain ⟨l,h1,h2⟩:=qGU hb F fOp (fun e he y hy=>by
  obtain ⟨k,e1,e2⟩:=qIz hi (rd_key hy);obtain ⟨z,hz,e3⟩:=rd_val hy;unfold elemAt at hz;split at hz
  ·rename_i hf
   obtain ⟨fs,hut,hfs⟩:=qH4 (P:=Tryz.prog) (t:=126) (l:=[(9,0),(4,1),(4,2),(4,3),(4,4),(4,5),(4,6)]) (by kernel_rfl);obtain ⟨xs,n,_,hz2,hl,hlen,hfl⟩:=DataW.trod_struct hut hz;obtain ⟨cs,hv,hsz⟩:=qFR hut hf;have c9:Tryz.prog.cellsOf 9=1:=by kernel_rfl
   have c4:Tryz.prog.cellsOf 4=1:=by kernel_rfl
   have c152:Tryz.prog.cellsOf 126=7:=by kernel_rfl
   have hlen7:xs.length=7:=by
    have:=congrArg List.length hfs;simpa [hlen] using this
   rw [hv] at hl hfl;rw [c152] at hsz;obtain ⟨f0,a0,b0,d0⟩:=qAM hfs (i:=0) rfl;obtain ⟨f1,a1,b1,d1⟩:=qAM hfs (i:=1) rfl;obtain ⟨f2,a2,b2,d2⟩:=qAM hfs (i:=2) rfl;obtain ⟨f3,a3,b3,d3⟩:=qAM hfs (i:=3) rfl;obtain ⟨f4,a4,b4,d4⟩:=qAM hfs (i:=4) rfl;obtain ⟨f5,a5,b5,d5⟩:=qAM hfs (i:=5) rfl;obtain ⟨f6,a6,b6,d6⟩:=qAM hfs (i:=6) rfl;have g0:=hfl 0 f0 a0;have g1:=hfl 1 f1 a1;have g2:=hfl 2 f2 a2;have g3:=hfl 3 f3 a3;have g4:=hfl 4 f4 a4;have g5:=hfl 5 f5 a5;have g6:=hfl 6 f6 a6;obtain ⟨cl⟩:=cs
   match cl,hsz,xs,hlen7 with
   | [v0,v1,v2,v3,v4,v5,v6],_,[x0,x1,x2,x3,x4,x5,x6],_=>
    simp only [b0,b1,b2,b3,b4,b5,b6,d0,d1,d2,d3,d4,d5,d6,c9,c4,Value.cells,List.getElem?_cons_zero,List.getElem?_cons_succ,List.drop_zero,List.drop_succ_cons,List.take_succ_cons,List.take_zero] at g0 g1 g2 g3 g4 g5 g6;obtain ⟨s0,i0,j0,_⟩:=DataW.trod_string hs g0;obtain ⟨p1,i1,j1⟩:=DataW.trod_bool hB g1;obtain ⟨p2,i2,j2⟩:=DataW.trod_bool hB g2;obtain ⟨p3,i3,j3⟩:=DataW.trod_bool hB g3;obtain ⟨p4,i4,j4⟩:=DataW.trod_bool hB g4;obtain ⟨p5,i5,j5⟩:=DataW.trod_bool hB g5;obtain ⟨p6,i6,j6⟩:=DataW.trod_bool hB g6;simp only [List.cons.injEq,and_true] at i0 i1 i2 i3 i4 i5 i6;subst i0 i1 i2 i3 i4 i5 i6 j0 j1 j2 j3 j4 j5 j6 hz2;obtain ⟨y1,y2⟩:=y;simp only at e2 e3;subst e2 e3;exact ⟨e1,hv⟩
  ·cases hz)
 exact ⟨b,l,hcs,h1,by rw [hx.1]; exact h2⟩
end Go.Proofs.YtoonkkipnljflaaGreatDoor.CJ
