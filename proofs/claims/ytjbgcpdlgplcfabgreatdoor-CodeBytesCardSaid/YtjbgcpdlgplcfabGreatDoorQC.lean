/- A code that can be read as data is a code in memory. Conditions: none. -/
import Derived.Test.YtjbgcpdlgplcfabGreatDoorCF
import Derived.Test.YtjbgcpdlgplcfabGreatDoorDD
import Derived.Test.YtjbgcpdlgplcfabGreatDoorVV
import Derived.ProofKit
import Derived.OpenShut
import Derived.ChangeArms
namespace Go.Proofs.YtjbgcpdlgplcfabGreatDoor.CJ
open Go.RowKit Go.Proofs.YtjbgcpdlgplcfabGreatDoorW.PrintWords Go.Proofs.YtjbgcpdlgplcfabGreatDoor.PT
set_option linter.unusedVariables false
set_option linter.unusedSimpArgs false
theorem len2{α:Type}{l:List α}(h:l.length=2):∃a b,l=[a,b]:=by
 match l,h with
 | [a,b],_=>exact ⟨a,b,rfl⟩
theorem len3{α:Type}{l:List α}(h:l.length=3):∃a b c,l=[a,b,c]:=by
 match l,h with
 | [a,b,c],_=>exact ⟨a,b,c,rfl⟩
theorem len4{α:Type}{l:List α}(h:l.length=4):∃a b c d,l=[a,b,c,d]:=by
 match l,h with
 | [a,b,c,d],_=>exact ⟨a,b,c,d,rfl⟩
theorem len7{α:Type}{l:List α}(h:l.length=7):∃a b c d e f g,l=[a,b,c,d,e,f,g]:=by
 match l,h with
 | [a,b,c,d,e,f,g],_=>exact ⟨a,b,c,d,e,f,g,rfl⟩
section
variable {H:Type} {enc:TypeId×Value→H} {w:World} {base:Nat} {spare:Nat→Bool} {held:Bool}
theorem el_slice{α:Type}(d:Kd α)(Q:α→Prop){t e:TypeId}(ht:Tryz.prog.underlying t=some (.slice e))(hsz:Tryz.prog.cellsOf e=d.sz){fuel:Nat}{cs:List Value}{x:DataW H×List MemPlace}
 (h:DataW.trod enc Tryz.prog w base spare held fuel t cs=some x) (hel:∀n,n<fuel→∀cs x,DataW.trod enc Tryz.prog w base spare held n e cs=some x→∃a,d.K w a cs∧Q a):
 ∃A c,∃l:List α,cs=[.slice A l.length c]∧l.length≤c∧d.C w A l.length l∧∀a∈l,Q a:=by
 rcases DataW.trod_slice ht h with ⟨rfl,_⟩|⟨a,len,cap,elems,rest,n,rfl,rfl,_,hb,hl,hm,hlen,hels,_,_⟩
 ·exact ⟨none,0,[],rfl,Nat.le_refl _,⟨rfl,Nat.zero_le _,fun hp=>absurd hp (Nat.lt_irrefl 0)⟩,fun _ h=>by cases h⟩
 have each:∀i:Fin len,∃p:α,∃c,c.length=d.sz∧(d.K w p c∧Q p)∧∀j u,c[j]? = some u→w.cell? (a.add (i.val*d.sz+j))=some u:=by
  intro i;have key:=hels i.val i.isLt;rw [List.getElem?_eq_getElem (by omega)] at key;obtain ⟨cs',h1,h2⟩:=Option.bind_eq_some_iff.1 key;obtain ⟨_,hlen',hcell⟩:=World.cells?_some h1;obtain ⟨p,hp⟩:=hel n (Nat.lt_succ_self n) _ _ h2;rw [hsz] at hlen' hcell;refine ⟨p,cs',hlen',hp,fun j u hu=>?_⟩;have hj:j<cs'.length:=(List.getElem?_eq_some_iff.1 hu).1;rw [←add_add,hcell j (by omega),hu]
 obtain ⟨f,hf⟩:=Classical.axiomOfChoice each;refine ⟨some a,cap,List.ofFn f,by rw [List.length_ofFn],by rw [List.length_ofFn]; exact hl,⟨rfl,?_,fun _=>⟨a,rfl,fun j p hj=>?_⟩⟩,fun p hp=>?_⟩
 ·rw [List.length_ofFn];have:maxLen≤9223372036854775807:=by decide
  omega
 ·obtain ⟨hlt,hp⟩:=List.getElem?_eq_some_iff.1 hj;rw [List.getElem_ofFn] at hp;subst hp;obtain ⟨c,h1,h2,h3⟩:=hf ⟨j,by simpa using hlt⟩;exact ⟨c,h1,h2.1,h3⟩
 ·obtain ⟨i,rfl⟩:=List.mem_ofFn.1 hp;obtain ⟨c,h1,h2,h3⟩:=hf i;exact h2.2
theorem one_string{fuel:Nat}{c:Value}{y:DataW H×List MemPlace}(h:DataW.trod enc Tryz.prog w base spare held fuel 9 [c]=some y):∃s,c=.string s∧s.size≤maxLen:=by
 obtain ⟨s,hc,_,hs⟩:=DataW.trod_string Tryz.underlying9 h;injection hc with hc;exact ⟨s,hc,hs⟩
theorem cInt:Tryz.prog.cellsOf 3=1:=by kernel_rfl
theorem cStr:Tryz.prog.cellsOf 9=1:=by kernel_rfl
theorem cInts:Tryz.prog.cellsOf 58=1:=by kernel_rfl
theorem cAlts:Tryz.prog.cellsOf 59=1:=by kernel_rfl
theorem cAlt:Tryz.prog.cellsOf 65=4:=by kernel_rfl
theorem cOp:Tryz.prog.cellsOf 61=7:=by kernel_rfl
theorem cOps:Tryz.prog.cellsOf 48=1:=by kernel_rfl
theorem cBk:Tryz.prog.cellsOf 50=3:=by kernel_rfl
theorem cBks:Tryz.prog.cellsOf 22=1:=by kernel_rfl
theorem cGl:Tryz.prog.cellsOf 53=2:=by kernel_rfl
theorem cGls:Tryz.prog.cellsOf 23=1:=by kernel_rfl
theorem cGC:Tryz.prog.cellsOf 25=2:=by kernel_rfl
structure DAl(a:GAl):Prop where
 n0:Ok64 a.f0
 s1:a.f1.size≤maxLen
 n2:Ok64 a.f2
 n3:Ok64 a.f3
structure DOp(g:GOp):Prop where
 n0:Ok64 g.f0
 n1:Ok64 g.f1
 n2:Ok64 g.f2
 n3:Ok64 g.f3
 s4:g.f4.size≤maxLen
 l5:∀n∈g.f5,Ok64 n
 l6:∀a∈g.f6,DAl a
structure DBk(b:GBk):Prop where
 n0:Ok64 b.f0
 n1:Ok64 b.f1
 ops:∀g∈b.f2,DOp g
structure DGl(g:GGl):Prop where
 s0:g.f0.size≤maxLen
 n1:Ok64 g.f1
structure DC(bs:List GBk)(gl:List GGl):Prop where
 bs:∀b∈bs,DBk b
 gl:∀g∈gl,DGl g
theorem DC.sized{bs:List GBk}{gl:List GGl}(h:DC bs gl):SizedC bs gl:=
 ⟨fun b hb g hg=>⟨((h.bs b hb).ops g hg).s4,fun a ha=>(((h.bs b hb).ops g hg).l6 a ha).s1⟩,fun g hg=>(h.gl g hg).s0⟩
theorem DC.wf{bs:List GBk}{gl:List GGl}(h:DC bs gl):WfC bs:=fun b hb g hg=>⟨((h.bs b hb).ops g hg).n3,fun a ha=>(((h.bs b hb).ops g hg).l6 a ha).n2⟩
theorem wf64{n:Int}(h:(Lit.int .i64 n).wf=true):Ok64 n:=by
 simp [Lit.wf] at h;have e1:IntKind.i64.min = -9223372036854775808:=rfl;have e2:IntKind.i64.max=9223372036854775807:=rfl;unfold Ok64;omega
theorem int1{fuel:Nat}{c:Value}{y:DataW H×List MemPlace}(h:DataW.trod enc Tryz.prog w base spare held fuel 3 [c]=some y):∃n,c=.int .i64 n∧Ok64 n:=by
 obtain ⟨n,hc,_,h64⟩:=DataW.trod_int Tryz.underlying3 h;injection hc with hc;exact ⟨n,hc,wf64 h64⟩
theorem int_K(fuel:Nat)(cs:List Value)(x:DataW H×List MemPlace)(h:DataW.trod enc Tryz.prog w base spare held fuel 3 cs=some x):∃v:Int,(Kd.int .i64).K w v cs∧Ok64 v:=by
 obtain ⟨n,hc,_,h64⟩:=DataW.trod_int Tryz.underlying3 h;exact ⟨n,hc,wf64 h64⟩
theorem alt_K(fuel:Nat)(cs:List Value)(x:DataW H×List MemPlace)(h:DataW.trod enc Tryz.prog w base spare held fuel 65 cs=some x):∃v:GAl,kAl.K w v cs∧DAl v:=by
 obtain ⟨xs,n,rfl,_,hl,hxs,hf⟩:=DataW.trod_struct Tryz.underlying65 h;rw [cAlt] at hl;obtain ⟨c0,c1,c2,c3,rfl⟩:=len4 hl;obtain ⟨y0,y1,y2,y3,rfl⟩:=len4 (hxs.trans rfl);clear hxs hl;have h0:=hf 0 _ rfl;have h1:=hf 1 _ rfl;have h2:=hf 2 _ rfl;have h3:=hf 3 _ rfl;simp [cInt,cStr] at h0 h1 h2 h3;obtain ⟨k0,rfl,d0⟩:=int1 h0;obtain ⟨s,rfl,d1⟩:=one_string h1;obtain ⟨k2,rfl,d2⟩:=int1 h2;obtain ⟨k3,rfl,d3⟩:=int1 h3;exact ⟨⟨k0,s,k2,k3⟩,k65_mk w ⟨k0,s,k2,k3⟩,⟨d0,d1,d2,d3⟩⟩
theorem glob_K(fuel:Nat)(cs:List Value)(x:DataW H×List MemPlace)(h:DataW.trod enc Tryz.prog w base spare held fuel 53 cs=some x):∃v:GGl,kGl.K w v cs∧DGl v:=by
 obtain ⟨xs,n,rfl,_,hl,hxs,hf⟩:=DataW.trod_struct Tryz.underlying53 h;rw [cGl] at hl;obtain ⟨c0,c1,rfl⟩:=len2 hl;obtain ⟨y0,y1,rfl⟩:=len2 (hxs.trans rfl);clear hxs hl;have h0:=hf 0 _ rfl;have h1:=hf 1 _ rfl;simp [cInt,cStr] at h0 h1;obtain ⟨s,rfl,d0⟩:=one_string h0;obtain ⟨k1,rfl,d1⟩:=int1 h1;exact ⟨⟨s,k1⟩,k53_mk w ⟨s,k1⟩,⟨d0,d1⟩⟩
theorem op_K(fuel:Nat)(cs:List Value)(x:DataW H×List MemPlace)(h:DataW.trod enc Tryz.prog w base spare held fuel 61 cs=some x):∃v:GOp,kOp.K w v cs∧DOp v:=by
 obtain ⟨xs,n,rfl,_,hl,hxs,hf⟩:=DataW.trod_struct Tryz.underlying61 h;rw [cOp] at hl;obtain ⟨c0,c1,c2,c3,c4,c5,c6,rfl⟩:=len7 hl;obtain ⟨y0,y1,y2,y3,y4,y5,y6,rfl⟩:=len7 (hxs.trans rfl);clear hxs hl;have h0:=hf 0 _ rfl;have h1:=hf 1 _ rfl;have h2:=hf 2 _ rfl;have h3:=hf 3 _ rfl;have h4:=hf 4 _ rfl;have h5:=hf 5 _ rfl;have h6:=hf 6 _ rfl;simp [cInt,cStr,cInts,cAlts] at h0 h1 h2 h3 h4 h5 h6;obtain ⟨k0,rfl,d0⟩:=int1 h0;obtain ⟨k1,rfl,d1⟩:=int1 h1;obtain ⟨k2,rfl,d2⟩:=int1 h2;obtain ⟨k3,rfl,d3⟩:=int1 h3;obtain ⟨s,rfl,d4⟩:=one_string h4;obtain ⟨A5,e5,l5,hc5,hl5,hC5,d5⟩:=el_slice (Kd.int .i64) Ok64 Tryz.underlying58 cInt h5 (fun m hm cs x hx=>int_K m cs x hx);obtain ⟨A6,e6,l6,hc6,hl6,hC6,d6⟩:=el_slice kAl DAl Tryz.underlying59 cAlt h6 (fun m hm cs x hx=>alt_K m cs x hx);injection hc5 with hc5;injection hc6 with hc6;subst hc5 hc6;exact ⟨⟨k0,k1,k2,k3,s,l5,l6⟩,k61_mk w ⟨k0,k1,k2,k3,s,l5,l6⟩ hl5 hC5 hl6 hC6,⟨d0,d1,d2,d3,d4,d5,d6⟩⟩
theorem bk_K(fuel:Nat)(cs:List Value)(x:DataW H×List MemPlace)(h:DataW.trod enc Tryz.prog w base spare held fuel 50 cs=some x):∃v:GBk,kBk.K w v cs∧DBk v:=by
 obtain ⟨xs,n,rfl,_,hl,hxs,hf⟩:=DataW.trod_struct Tryz.underlying50 h;rw [cBk] at hl;obtain ⟨c0,c1,c2,rfl⟩:=len3 hl;obtain ⟨y0,y1,y2,rfl⟩:=len3 (hxs.trans rfl);clear hxs hl;have h0:=hf 0 _ rfl;have h1:=hf 1 _ rfl;have h2:=hf 2 _ rfl;simp [cInt,cOps] at h0 h1 h2;obtain ⟨k0,rfl,d0⟩:=int1 h0;obtain ⟨k1,rfl,d1⟩:=int1 h1;obtain ⟨A2,e2,l2,hc2,hl2,hC2,d2⟩:=el_slice kOp DOp Tryz.underlying48 cOp h2 (fun m hm cs x hx=>op_K m cs x hx);injection hc2 with hc2;subst hc2;exact ⟨⟨k0,k1,l2⟩,k50_mk w ⟨k0,k1,l2⟩ hl2 hC2,⟨d0,d1,d2⟩⟩
set_option maxRecDepth 100000 in
theorem open_code{v:Value}{d:DataW H}{ps:List MemPlace}(ho:Value.okWide Tryz.prog w .any base 25 v)(h:DataW.Trod enc Tryz.prog w 0 spare held 25 v d ps):
 ∃A ca A2 cb bs gl,v=codeV A bs.length ca A2 gl.length cb∧CM w A ca A2 cb bs gl∧DC bs gl:=by
 obtain ⟨fuel,h⟩:=h;obtain ⟨cs,rfl,hsz⟩:=WideShapes.okWide_struct Tryz.underlying25 ho;rw [cGC] at hsz;obtain ⟨xs,n,rfl,_,hl,hxs,hf⟩:=DataW.trod_struct Tryz.underlying25 h;obtain ⟨cl⟩:=cs;simp only [Value.cells] at hf hl;rw [cGC] at hl;obtain ⟨c0,c1,rfl⟩:=len2 hl;obtain ⟨y0,y1,rfl⟩:=len2 (hxs.trans rfl);clear hxs hl hsz;have h0:=hf 0 _ rfl;have h1:=hf 1 _ rfl;simp [cBks,cGls] at h0 h1;obtain ⟨A,ca,l0,hc0,hl0,hC0,d0⟩:=el_slice kBk DBk Tryz.underlying22 cBk h0 (fun m hm cs x hx=>bk_K m cs x hx);obtain ⟨A2,cb,l1,hc1,hl1,hC1,d1⟩:=el_slice kGl DGl Tryz.underlying23 cGl h1 (fun m hm cs x hx=>glob_K m cs x hx);injection hc0 with hc0;injection hc1 with hc1;subst hc0 hc1;exact ⟨A,ca,A2,cb,l0,l1,rfl,⟨hl0,hl1,hC0,hC1⟩,⟨d0,d1⟩⟩
end
end Go.Proofs.YtjbgcpdlgplcfabGreatDoor.CJ
