/- The listed variables, laid, as the walks want them. Conditions: the row's list is laid. The listed variables of the references, laid, as the walks want them. Conditions: the row's list is laid. -/
import Derived.Test.YtoonkkipnljflaaGreatDoorNA
import Derived.Test.YtoonkkipnljflaaGreatDoorLL
import Derived.Test.YtoonkkipnljflaaGreatDoorRows
import Derived.ProofKit
import Derived.MakeChecks
import Derived.LaidSub
import Derived.Lib.LaidTab
import Derived.Shelf.Vars
import Derived.Stop.LaidErr
import Derived.Test.YtoonkkipnljflaaGreatDoorHA
namespace Go.Proofs.YtoonkkipnljflaaGreatDoor.CJ
open Go.RowKit Go.MapKept Go.ChangeShapes Go.WideShapes Go.ChangeAt Go.WideMaps Go.WideElems Go.Proofs.YtoonkkipnljflaaGreatDoor.MPerm
set_option linter.unusedVariables false
set_option maxRecDepth 100000
def qH6{H:Type}:Lit×DataW H→Int×Value
 |(.int _ n,.agg [.lit (.int _ a),.lit (.int _ b),.lit (.bool b3),.lit (.bool b4),.lit (.bool b5)])=>(n,.agg #[.int .i64 a,.int .i64 b,.bool b3,.bool b4,.bool b5])
 |_=>(0,.bool false)
theorem qIZ{H:Type}{enc:TypeId×Value→H}{w:World}{base:Nat}{sp:Nat→Bool}{held:Bool}{fuel:Nat}{cs:List Value}{D:List (Lit×DataW H)}{p:List MemPlace}
 (h:DataW.trod enc Tryz.prog w base sp held fuel 205 cs=some (.map D,p)):∃b l,cs=[.map (some b)]∧IMaps.IM w b l∧l.Perm (D.map qH6):=by
 have hu:Tryz.prog.underlying 205=some (.map 3 203):=by kernel_rfl
 have hB:Tryz.prog.underlying 4=some .bool:=by kernel_rfl
 have hi:Tryz.prog.underlying 3=some (.int .i64):=by kernel_rfl
 rcases WideElems.open_map hu h with ⟨_,hx⟩|⟨b,es,clock,n,rfl,hcs,hb,_,F,hx⟩
 ·simp at hx
 simp only [Prod.mk.injEq,DataW.map.injEq] at hx;obtain ⟨l,h1,h2⟩:=qGU hb F qH6 (fun e he y hy=>by
  obtain ⟨k,e1,e2⟩:=qIz hi (rd_key hy);obtain ⟨z,hz,e3⟩:=rd_val hy;unfold elemAt at hz;split at hz
  ·rename_i hf
   obtain ⟨fs,hut,hfs⟩:=qH4 (P:=Tryz.prog) (t:=203) (l:=[(3,0),(3,1),(4,2),(4,3),(4,4)]) (by kernel_rfl);obtain ⟨xs,n,_,hz2,hl,hlen,hfl⟩:=DataW.trod_struct hut hz;obtain ⟨cs,hv,hsz⟩:=qFR hut hf;have c3:Tryz.prog.cellsOf 3=1:=by kernel_rfl
   have c4:Tryz.prog.cellsOf 4=1:=by kernel_rfl
   have c5:Tryz.prog.cellsOf 203=5:=by kernel_rfl
   have hlen5:xs.length=5:=by
    have:=congrArg List.length hfs;simpa [hlen] using this
   rw [hv] at hl hfl;rw [c5] at hsz;obtain ⟨f0,a0,b0,d0⟩:=qAM hfs (i:=0) rfl;obtain ⟨f1,a1,b1,d1⟩:=qAM hfs (i:=1) rfl;obtain ⟨f2,a2,b2,d2⟩:=qAM hfs (i:=2) rfl;obtain ⟨f3,a3,b3,d3⟩:=qAM hfs (i:=3) rfl;obtain ⟨f4,a4,b4,d4⟩:=qAM hfs (i:=4) rfl;have g0:=hfl 0 f0 a0;have g1:=hfl 1 f1 a1;have g2:=hfl 2 f2 a2;have g3:=hfl 3 f3 a3;have g4:=hfl 4 f4 a4;obtain ⟨cl⟩:=cs
   match cl,hsz,xs,hlen5 with
   | [v0,v1,v2,v3,v4],_,[x0,x1,x2,x3,x4],_=>
    simp only [b0,b1,b2,b3,b4,d0,d1,d2,d3,d4,c3,c4,Value.cells,List.getElem?_cons_zero,List.getElem?_cons_succ,List.drop_zero,List.drop_succ_cons,List.take_succ_cons,List.take_zero] at g0 g1 g2 g3 g4;obtain ⟨p0,i0,j0,_⟩:=DataW.trod_int hi g0;obtain ⟨p1,i1,j1,_⟩:=DataW.trod_int hi g1;obtain ⟨p2,i2,j2⟩:=DataW.trod_bool hB g2;obtain ⟨p3,i3,j3⟩:=DataW.trod_bool hB g3;obtain ⟨p4,i4,j4⟩:=DataW.trod_bool hB g4;simp only [List.cons.injEq,and_true] at i0 i1 i2 i3 i4;subst i0 i1 i2 i3 i4 j0 j1 j2 j3 j4 hz2;obtain ⟨y1,y2⟩:=y;simp only at e2 e3;subst e2 e3;exact ⟨e1,hv⟩
  ·cases hz)
 exact ⟨b,l,hcs,h1,by rw [hx.1]; exact h2⟩
theorem qCi{n:String}{d:DataW Unit}{W:World}{g:Nat}{t:TypeId}(h:laidMetH Tryz.prog [(n,d)] W)(hp:d.handleName?.isNone=true)(hg:Tryz.prog.globalNamed n=some g)(ht:(Tryz.prog.globals[g]?).map (·.type)=some t):
 ∃(cs:Array Value) (fuel:Nat) (p:List MemPlace) (enc:TypeId×Value→Unit) (sp:Nat→Bool) (base:Nat) (held:Bool),W.var? Tryz.prog n=some cs∧DataW.trod enc Tryz.prog W base sp held fuel t cs.toList=some (d,p):=by
 rw [MakeChecks.laidMetH_plain _ _ _ (by simp [hp])] at h;obtain ⟨ps,⟨g0,t0,cs0,f0,p0,q0,hg0,ht0,hv0,hd0,_⟩,_,_⟩:=h;obtain rfl:=Option.some.inj (hg.symm.trans hg0);obtain rfl:=Option.some.inj (ht.symm.trans ht0);exact ⟨cs0,f0,p0,_,_,_,_,hv0,hd0⟩
theorem qBf{n:String}{d:DataW Unit}{W:World}{L:List (String×DataW Unit)}(h:laidMetH Tryz.prog L W)(e:L.filter (fun x=>x.1==n)=[(n,d)]):laidMetH Tryz.prog [(n,d)] W:=by
 rw [←e]; exact laidMetH.filter _ h
theorem qI0{α:Type}(f:α→Value)(s:ByteArray):∀L:List (List UInt8×α),SMaps.lk s (L.map fun p=>((⟨p.1.toArray⟩:ByteArray),f p.2))=(L.find? (fun p=>p.1==s.data.toList)).map (fun p=>f p.2)
 | []=>rfl
 |(k,v)::r=>by
  simp only [List.map_cons,SMaps.lk,List.find?_cons];by_cases hk:k=s.data.toList
  ·subst hk;simp
  ·have h1:¬(⟨k.toArray⟩:ByteArray)=s:=fun h=>hk (by rw [←h])
   have h2:(k==s.data.toList)=false:=by simpa using hk
   rw [if_neg h1,h2];exact qI0 f s r
def qAn:DataW Unit→List (Lit×DataW Unit)
 | .map D=>D
 |_=>[]
theorem ops_law(n:Int):IMaps.lk n ((qAn Rows.laid_damask_code_ops).map fOp)=opV n:=by
 by_cases h:1≤n∧n≤13
 ·have:n=1∨n=2∨n=3∨n=4∨n=5∨n=6∨n=7∨n=8∨n=9∨n=10∨n=11∨n=12∨n=13:=by omega
  rcases this with rfl|rfl|rfl|rfl|rfl|rfl|rfl|rfl|rfl|rfl|rfl|rfl|rfl<;>rfl
 ·have e:opV n=none:=by
   unfold opV isOp;have:(decide (1≤n)&&decide (n≤13))=false:=by
    simp only [Bool.and_eq_false_iff,decide_eq_false_iff_not];omega
   rw [this]; rfl
  rw [e];refine IMaps.lk_none ?_;have hk:((qAn Rows.laid_damask_code_ops).map fOp).map (·.1)=[1,2,3,4,5,6,7,8,9,10,11,12,13]:=by kernel_rfl
  rw [hk];simp;omega
theorem qJz(n:Int)(h:n=3∨n=8):IMaps.lk n ((qAn Rows.laid_damask_term_shapes).map qH6)=qGy n:=by
 rcases h with rfl|rfl<;>kernel_rfl
def arD:Lit×DataW Unit→List UInt8×Int
 |(.string s,.lit (.int _ n))=>(s,n)
 |_=>([],0)
theorem qIa(s:ByteArray)(l:List (ByteArray×Value))(hp:l.Perm ((qAn Rows.laid_damask_term_arities).map qFS))(hk:SMaps.Keys l):SMaps.lk s l=(arL s.data.toList).map (Value.int .i64):=by
 have e0:(qAn Rows.laid_damask_term_arities).map qFS=((qAn Rows.laid_damask_term_arities).map arD).map (fun p=>((⟨p.1.toArray⟩:ByteArray),Value.int .i64 p.2)):=rfl;have e1:((qAn Rows.laid_damask_term_arities).map arD).Perm QC:=by decide +kernel
 rw [qH3 (hp.trans ((List.Perm.of_eq e0).trans (e1.map _))) hk,qI0 (Value.int .i64) s QC];unfold arL;rw [Option.map_map];rfl
theorem qH7(v:Value)(s:ByteArray):∀L:List (List UInt8),SMaps.lk s (L.map fun p=>((⟨p.toArray⟩:ByteArray),v))=if L.any (fun p=>p==s.data.toList) then some v else none
 | []=>rfl
 |k::r=>by
  simp only [List.map_cons,SMaps.lk,List.any_cons];by_cases hk:k=s.data.toList
  ·subst hk;simp
  ·have h1:¬(⟨k.toArray⟩:ByteArray)=s:=fun h=>hk (by rw [←h])
   have h2:(k==s.data.toList)=false:=by simpa using hk
   simp only [if_neg h1,h2,Bool.false_or];exact qH7 v s r
theorem qGW{α:Type}(f:α→Bool):∀(L:List α) (n:Nat),(L.take n).any f=(match L.findIdx? f with|some k=>decide (k<n)|none=>false)
 | [],n=>by simp
 |a::r,0=>by simp; split<;>rfl
 |a::r,n+1=>by
  rw [List.take_succ_cons,List.any_cons,qGW f r n,List.findIdx?_cons];cases f a
  ·simp only [Bool.false_or,Bool.false_eq_true,if_false];cases r.findIdx? f<;>simp
  ·simp
def puD:Lit×DataW Unit→List UInt8
 |(.string s,_)=>s
 |_=>[]
theorem pure_law(s:ByteArray)(l:List (ByteArray×Value))(hp:l.Perm ((qAn Rows.laid_damask_term_pure).map fPure))(hk:SMaps.Keys l):SMaps.lk s l=if qBV s.data.toList then some (.bool true) else none:=by
 have e0:(qAn Rows.laid_damask_term_pure).map fPure=((qAn Rows.laid_damask_term_pure).map puD).map (fun p=>((⟨p.toArray⟩:ByteArray),Value.bool true)):=rfl;have e1:((qAn Rows.laid_damask_term_pure).map puD).Perm ((QC.take 10).map (·.1)):=by decide +kernel
 rw [qH3 (hp.trans ((List.Perm.of_eq e0).trans (e1.map _))) hk,qH7];have e2:((QC.take 10).map (·.1)).any (fun p=>p==s.data.toList)=qBV s.data.toList:=by
  rw [List.any_map];exact qGW _ QC 10
 rw [e2]
theorem ops_of{W:World}{L:List (String×DataW Unit)}(h:laidMetH Tryz.prog L W)(e:L.filter (fun x=>x.1 == "damask/code.ops")=[("damask/code.ops",Rows.laid_damask_code_ops)]):
 ∃b l,W.cell? ⟨0,0,none⟩=some (.map (some b))∧IMaps.IM W b l∧∀n,IMaps.lk n l=opV n:=by
 obtain ⟨cs,fuel,p,enc,sp,base,held,hv,hd⟩:=qCi (qBf h e) rfl (g:=0) (t:=127) (by kernel_rfl) (by kernel_rfl);obtain ⟨b,l,hcs,him,hp⟩:=open_ops (D:=qAn Rows.laid_damask_code_ops) hd;have hc:=World.var?_cell (g:=0) (by kernel_rfl) hv 0;rw [Array.eq_one_of_toList hcs] at hc;exact ⟨b,l,by simpa using hc,him,fun n=>by rw [qIy hp him.keys,ops_law]⟩
theorem qK9{W:World}{L:List (String×DataW Unit)}(h:laidMetH Tryz.prog L W)(e:L.filter (fun x=>x.1 == "damask/term.shapes")=[("damask/term.shapes",Rows.laid_damask_term_shapes)]):
 ∃b l,W.cell? ⟨7,0,none⟩=some (.map (some b))∧IMaps.IM W b l∧∀n,n=3∨n=8→IMaps.lk n l=qGy n:=by
 obtain ⟨cs,fuel,p,enc,sp,base,held,hv,hd⟩:=qCi (qBf h e) rfl (g:=7) (t:=205) (by kernel_rfl) (by kernel_rfl);obtain ⟨b,l,hcs,him,hp⟩:=qIZ (D:=qAn Rows.laid_damask_term_shapes) hd;have hc:=World.var?_cell (g:=7) (by kernel_rfl) hv 0;rw [Array.eq_one_of_toList hcs] at hc;exact ⟨b,l,by simpa using hc,him,fun n hn=>by rw [qIy hp him.keys,qJz n hn]⟩
theorem qJ0{W:World}{L:List (String×DataW Unit)}(h:laidMetH Tryz.prog L W)(e:L.filter (fun x=>x.1 == "damask/term.arities")=[("damask/term.arities",Rows.laid_damask_term_arities)]):
 ∃b l,W.cell? ⟨4,0,none⟩=some (.map (some b))∧SMaps.SM W b l∧∀s:ByteArray,SMaps.lk s l=(arL s.data.toList).map (Value.int .i64):=by
 obtain ⟨cs,fuel,p,enc,sp,base,held,hv,hd⟩:=qCi (qBf h e) rfl (g:=4) (t:=171) (by kernel_rfl) (by kernel_rfl);obtain ⟨b,l,hcs,him,hp⟩:=qH5 (D:=qAn Rows.laid_damask_term_arities) hd;have hc:=World.var?_cell (g:=4) (by kernel_rfl) hv 0;rw [Array.eq_one_of_toList hcs] at hc;exact ⟨b,l,by simpa using hc,him,fun s=>qIa s l hp him.keys⟩
theorem pure_of{W:World}{L:List (String×DataW Unit)}(h:laidMetH Tryz.prog L W)(e:L.filter (fun x=>x.1 == "damask/term.pure")=[("damask/term.pure",Rows.laid_damask_term_pure)]):
 ∃b l,W.cell? ⟨5,0,none⟩=some (.map (some b))∧SMaps.SM W b l∧∀s:ByteArray,SMaps.lk s l=if qBV s.data.toList then some (.bool true) else none:=by
 obtain ⟨cs,fuel,p,enc,sp,base,held,hv,hd⟩:=qCi (qBf h e) rfl (g:=5) (t:=112) (by kernel_rfl) (by kernel_rfl);obtain ⟨b,l,hcs,him,hp⟩:=qK8 (D:=qAn Rows.laid_damask_term_pure) hd;have hc:=World.var?_cell (g:=5) (by kernel_rfl) hv 0;rw [Array.eq_one_of_toList hcs] at hc;exact ⟨b,l,by simpa using hc,him,fun s=>pure_law s l hp him.keys⟩
theorem err_of{n:String}{g:Nat}{text:List UInt8}{W:World}{L:List (String×DataW Unit)}(h:laidMetH Tryz.prog L W)(e:L.filter (fun x=>x.1==n)=[(n,.iface "*errors.errorString" (.ptr (.agg [.lit (.string text)])))])
 (hg:Tryz.prog.globalNamed n=some g) (ht:(Tryz.prog.globals[g]?).map (·.type)=some 99):∃te pe,W.cell? ⟨g,0,none⟩=some (.iface te pe):=by
 have h2:=qBf h e;rw [MakeChecks.laidMetH_plain _ _ _ (by rfl)] at h2;obtain ⟨ps,⟨g0,t0,cs,f0,p0,q0,hg0,ht0,hv,hd,_⟩,_,_⟩:=h2;obtain rfl:=Option.some.inj (hg.symm.trans hg0);obtain rfl:=Option.some.inj (ht.symm.trans ht0);obtain ⟨f1,u,v,hcs,_,_⟩:=iface_of_trod Tryz.underlying99 hd;have hc:=World.var?_cell hg hv 0;rw [Array.eq_one_of_toList hcs] at hc;exact ⟨u,v,by simpa using hc⟩
theorem tens_of{W:World}{L:List (String×DataW Unit)}(h:laidMetH Tryz.prog L W)(e:L.filter (fun x=>x.1 == "internal/strconv.uint64pow10")=[("internal/strconv.uint64pow10",Lib.tabData .u64 Lib.pow10Tab)]):Tens W:=by
 have h2:=qBf h e;rw [MakeChecks.laidMetH_plain _ _ _ (by kernel_rfl)] at h2;exact Lib.tabIs_of_head (rest:=[]) (g:=6) (by kernel_rfl) (t:=182) (e:=110) (n:=20) (by kernel_rfl) (by kernel_rfl) (by kernel_rfl) (by kernel_rfl) (by kernel_rfl) h2
theorem max_of{W:World}(h:W.ShapedOpen Tryz.prog):∃m,W.cell? ⟨3,0,none⟩=some (.int .i64 m):=
 Go.Proofs.cell_of_shapedOpen_int (zero:=#[.int .i64 0]) (t:=3) h (of_decide_eq_true (by kernel_rfl)) (by kernel_rfl) rfl (by kernel_rfl) (by kernel_rfl) Tryz.underlying3
theorem strs_of{H:Type}{enc:TypeId×Value→H}{w:World}{base:Nat}{sp:Nat→Bool}{held:Bool}{fuel:Nat}{t e:TypeId}{n:Nat}{cs:List Value}{zs:List (List UInt8)}{p:List MemPlace}
 (ht:Tryz.prog.underlying t=some (.array n e)) (he:Tryz.prog.underlying e=some .string) (hce:Tryz.prog.cellsOf e=1) (hct:Tryz.prog.cellsOf t=n)
 (h:DataW.trod enc Tryz.prog w base sp held fuel t cs=some (.agg (zs.map fun z=>.lit (.string z)),p)) (i:Nat) (hi:i<zs.length):cs[i]? = some (.string ⟨zs[i].toArray⟩):=by
 cases fuel with
 |zero=>simp [DataW.trod] at h
 |succ fuel=>
  simp only [DataW.trod,ht,hce,hct,Nat.mul_one] at h;split at h
  ·obtain ⟨xs,hm,hx⟩:=Option.map_eq_some_iff.1 h;have hxs:=congrArg Prod.fst hx;simp only [DataW.agg.injEq] at hxs;have hxl:xs.length=n:=by simpa using Lib.mapM_length hm
   have hzl:zs.length=n:=by
    have:=congrArg List.length hxs;simp at this;omega
   obtain ⟨b,hb,hf⟩:=Lib.mapM_at hm i i (by rw [List.getElem?_range (by omega)]);obtain ⟨s,hc,rfl,_⟩:=DataW.trod_string he hf;have h2:(xs.map (·.1))[i]? = some (DataW.lit (.string s.data.toList):DataW H):=by simp [hb]
   rw [hxs] at h2;have h3:zs[i]=s.data.toList:=by simpa [hi] using h2
   have h4:=congrArg (·[0]?) hc;simp only [List.getElem?_take,List.getElem?_drop] at h4;rw [h3];simpa using h4
  ·cases h
theorem lr_of{W:World}{L:List (String×DataW Unit)}(h:laidMetH Tryz.prog L W)(e1:L.filter (fun x=>x.1 == "damask/damaskref15.arities")=[("damask/damaskref15.arities",Rows.laid_damask_damaskref15_arities)])(e2:L.filter (fun x=>x.1 == "damask/damaskref21.names")=[("damask/damaskref21.names",Rows.laid_damask_damaskref21_names)]):LR W:=by
 refine ⟨fun i hi=>?_,fun i hi=>?_⟩
 ·have h2:=qBf h e1;rw [MakeChecks.laidMetH_plain _ _ _ (by kernel_rfl)] at h2;have ht:Lib.TabIs Tryz.prog W "damask/damaskref15.arities" .i64 (QC.map (·.2)):=Lib.tabIs_of_head (rest:=[]) (g:=2) (by kernel_rfl) (t:=159) (e:=3) (n:=27) (by kernel_rfl) (by kernel_rfl) (by kernel_rfl) (by kernel_rfl) (by kernel_rfl) h2;have:=ht.cell (g:=2) (by kernel_rfl) i (by simpa using hi);rw [this];simp [List.getD_eq_getElem?_getD,hi]
 ·obtain ⟨cs,fuel,p,enc,sp,base,held,hv,hd⟩:=qCi (qBf h e2) rfl (g:=1) (t:=158) (by kernel_rfl) (by kernel_rfl);have hc:=World.var?_cell (g:=1) (by kernel_rfl) hv i;rw [hc];have:=strs_of (e:=9) (n:=13) (zs:=qAK) (by kernel_rfl) (by kernel_rfl) (by kernel_rfl) (by kernel_rfl) hd i hi;simpa using this
end Go.Proofs.YtoonkkipnljflaaGreatDoor.CJ
