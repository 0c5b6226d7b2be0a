/- A valid code is small: bounds of its parts. Conditions: none. A valid code is small: bounds of the whole, and of its packed form. Conditions: none. -/
import Derived.Test.YtjbgcpdlgplcfabGreatDoorK7
namespace Go.Proofs.YtjbgcpdlgplcfabGreatDoor.CJ
open Go.RowKit Go.Proofs.YtjbgcpdlgplcfabGreatDoorW.PrintWords Go.Proofs.YtjbgcpdlgplcfabGreatDoorW.PrintLast Go.Proofs.YtjbgcpdlgplcfabGreatDoor.PT Go.Proofs.YtjbgcpdlgplcfabGreatDoor.IMaps Go.Proofs.YtjbgcpdlgplcfabGreatDoor.TJ
set_option linter.unusedVariables false
set_option linter.unusedSimpArgs false
structure SmAl(nb:Nat)(a:GAl):Prop where
 n0:1≤a.f0∧a.f0≤3
 s1:a.f1.data.toList.length≤60
 n3:0≤a.f3∧a.f3<nb
structure SmOp(nb:Nat)(g:GOp):Prop where
 n0:1≤g.f0∧g.f0≤13
 n1:0≤g.f1∧g.f1<60
 n2:0≤g.f2∧(g.f2<nb∨g.f2<60)
 s4:g.f4.data.toList.length≤60
 l5:g.f5.length≤40∧∀n∈g.f5,0≤n∧n<60
 l6:g.f6.length≤40∧∀a∈g.f6,SmAl nb a
theorem hasC_lt{st:List Int}{k:Int}(h:hasC st k=true)(hs:st.length≤60):0≤k∧k<60:=by
 unfold hasC at h;simp only [Bool.and_eq_true,decide_eq_true_eq] at h;omega
theorem fillC_lt{st st':List Int}{k v:Int}(h:fillC st k v=some st')(hs:st.length≤60):0≤k∧k<60:=by
 unfold fillC at h;split at h
 ·rename_i hh
  simp only [Bool.and_eq_true] at hh;exact hasC_lt hh.1 hs
 ·cases h
theorem blkC_lt{bs:List GBk}{n:Int}{b:GBk}(h:blkC bs n=some b):0≤n∧n<bs.length∧b∈bs:=by
 unfold blkC at h;split at h
 ·have:=(List.getElem?_eq_some_iff.1 h).1;exact ⟨by assumption,by omega,List.mem_of_getElem? h⟩
 ·cases h
theorem nameB_len{s:List UInt8}(h:nameB s=true):s.length≤60:=by
 unfold nameB at h;simp only [Bool.and_eq_true,decide_eq_true_eq] at h;exact h.1.1.1.2
theorem primK_len{s:List UInt8}{k:Nat}(h:primK s=some k):s.length≤60∧k<27:=by
 unfold primK at h;obtain ⟨hlt,hk,_⟩:=List.findIdx?_eq_some_iff_getElem.1 h;have hs:(primL[k]).1=s:=by simpa using hk
 have hk27:k<27:=hlt;have key:∀k:Fin 27,(primL[k.val]'k.isLt).1.length≤60:=by decide
 subst hs;exact ⟨key ⟨k,hk27⟩,hk27⟩
theorem arL_eq(s:List UInt8):arL s=(primK s).bind fun k=>(primL[k]?).map (·.2):=by
 unfold arL primK;generalize primL=l
 induction l with
 |nil=>rfl
 |cons p r ih=>
  rw [List.find?_cons,List.findIdx?_cons];by_cases h:(p.1==s)=true
  ·simp [h]
  ·rw [Bool.not_eq_true] at h;rw [h];simp only [Bool.false_eq_true,if_false];rw [ih];cases List.findIdx? (fun p=>p.1==s) r<;>rfl
theorem ar_le{s:List UInt8}{n:Int}(h:arL s=some n):0≤n∧n≤2∧s.length≤60:=by
 rw [arL_eq] at h;cases hk:primK s with
 |none=>rw [hk] at h; cases h
 |some k=>
  rw [hk] at h;obtain ⟨h1,h2⟩:=primK_len hk;have key:∀k:Fin 27,0≤(primL[k.val]'k.isLt).2∧(primL[k.val]'k.isLt).2≤2:=by decide
  have:=key ⟨k,h2⟩;have hl:k<primL.length:=h2;simp only [Option.bind_some,List.getElem?_eq_getElem hl,Option.map_some,Option.some.injEq] at h;rw [←h];exact ⟨this.1,this.2,h1⟩
theorem action_ar{s:List UInt8}(h:actionB s=true):∃n,arL s=some n:=by
 unfold actionB at h;simp only [Bool.and_eq_true] at h;exact Option.isSome_iff_exists.1 h.1
theorem binary_len{s:List UInt8}(h:binaryB s=true):s.length≤60:=by
 unfold binaryB at h;cases hk:primK s with
 |none=>rw [hk] at h; cases h
 |some k=>exact (primK_len hk).1
theorem altsB_each:∀(l bef:List GAl),altsB bef l=true→∀a∈l,1≤a.f0∧a.f0≤3∧a.f1.data.toList.length≤60∧(a.f0=2→0≤a.f2∧a.f2≤12)
 | [],_,_,a,h=>by cases h
 |x::r,bef,h,a,ha=>by
  rw [altsB_cons,Bool.and_eq_true] at h;rcases List.mem_cons.1 ha with rfl|ha
  ·have h1:=h.1;unfold okAlt at h1;split at h1
   ·rename_i e
    simp only [Bool.and_eq_true,beq_iff_eq] at h1;rw [h1.1.2];exact ⟨by omega,by omega,by simp,fun e2=>by omega⟩
   ·split at h1
    ·simp only [Bool.and_eq_true,decide_eq_true_eq] at h1;exact ⟨by omega,by omega,nameB_len h1.1.1.1,fun _=>⟨h1.1.1.2,h1.1.2⟩⟩
    ·split at h1
     ·simp only [Bool.and_eq_true,beq_iff_eq] at h1;rw [h1.1];exact ⟨by omega,by omega,by simp,fun e2=>by omega⟩
     ·cases h1
  ·exact altsB_each r _ h.2 a ha
theorem zeroB_parts{g:GOp}(h:zeroB g=true):1≤g.f0∧g.f0≤13∧(opHasA g.f0=true∨g.f1=0)∧(opHasB g.f0=true∨g.f2=0)∧(opHasN g.f0=true∨g.f3=0)∧(opHasS g.f0=true∨g.f4.data.toList=[])∧(opHasL g.f0=true∨g.f5=[])∧((g.f0=11)↔g.f6≠[]):=by
 unfold zeroB at h;simp only [Bool.and_eq_true,Bool.or_eq_true,decide_eq_true_eq,beq_iff_eq,List.isEmpty_iff] at h;obtain ⟨⟨⟨⟨⟨⟨⟨h1,h2⟩,h3⟩,h4⟩,h5⟩,h6⟩,h7⟩,h8⟩:=h;refine ⟨h1,h2,h3,h4,h5,h6,h7,?_⟩;rw [Bool.eq_iff_iff] at h8;simp only [beq_iff_eq,Bool.not_eq_true',←Bool.not_eq_true,List.isEmpty_iff] at h8;exact h8
theorem opK_small{bs:List GBk}{gs:Nat}{st st':List Int}{g:GOp}(hz:zeroB g=true)(h:opK bs gs st g=some st')(hs:st.length≤60)(hb:∀b∈bs,0≤b.f0∧b.f0≤40):SmOp bs.length g:=by
 obtain ⟨z0,z1,zA,zB,zN,zS,zL,zX⟩:=zeroB_parts hz;obtain ⟨x0,x1,x2,x3,x4,x5,x6⟩:=g;simp only at z0 z1 zA zB zN zS zL zX;unfold opK at h;simp only at h;by_cases h0:(!x5.all (hasC st))=true
 ·rw [if_pos h0] at h; cases h
 rw [if_neg h0] at h;have hl5:∀n∈x5,0≤n∧n<60:=by
  rw [Bool.not_eq_true,Bool.not_eq_false',List.all_eq_true] at h0;intro n hn;exact hasC_lt (h0 n hn) hs
 have hx:x0=1∨x0=2∨x0=3∨x0=4∨x0=5∨x0=6∨x0=7∨x0=8∨x0=9∨x0=10∨x0=11∨x0=12∨x0=13:=by omega
 have fin:(0≤x1∧x1<60)→(0≤x2∧(x2<bs.length∨x2<60))→x4.data.toList.length≤60→x5.length≤40→(x6.length≤40∧∀a∈x6,SmAl bs.length a)→SmOp bs.length ⟨x0,x1,x2,x3,x4,x5,x6⟩:=fun a b c d e=>⟨⟨z0,z1⟩,a,b,c,⟨d,hl5⟩,e⟩
 clear h0;rcases hx with rfl|rfl|rfl|rfl|rfl|rfl|rfl|rfl|rfl|rfl|rfl|rfl|rfl
 ·have e1:x1=0:=by rcases zA with z|z; cases z; exact z
  have e2:x2=0:=by rcases zB with z|z; cases z; exact z
  have e4:x4.data.toList=[]:=by rcases zS with z|z; cases z; exact z
  have e5:x5=[]:=by rcases zL with z|z; cases z; exact z
  have e6:x6=[]:=Classical.byContradiction fun hc=>by have:=zX.2 hc; omega
  exact fin (by omega) (by omega) (by rw [e4]; simp) (by rw [e5]; simp) (by rw [e6]; simp)
 ·have e4:x4.data.toList=[]:=by rcases zS with z|z; cases z; exact z
  have e6:x6=[]:=Classical.byContradiction fun hc=>by have:=zX.2 hc; omega
  simp only [show ¬(2:Int)=1 from by decide,if_false,if_true] at h;unfold opR2 at h;cases hbk:blkC bs x2 with
  |none=>rw [hbk] at h; cases h
  |some b=>
   rw [hbk] at h;simp only at h;obtain ⟨q1,q2,q3⟩:=blkC_lt hbk;split at h
   ·rename_i hc
    have hb0:=hb b q3;exact fin (fillC_lt h hs) ⟨q1,.inl q2⟩ (by rw [e4]; simp) (by omega) (by rw [e6]; simp)
   ·cases h
 ·have e4:x4.data.toList=[]:=by rcases zS with z|z; cases z; exact z
  have e6:x6=[]:=Classical.byContradiction fun hc=>by have:=zX.2 hc; omega
  simp only [show ¬(3:Int)=1 from by decide,show ¬(3:Int)=2 from by decide,if_false,if_true] at h;unfold opR3 at h;cases hbk:blkC bs x2 with
  |none=>rw [hbk] at h; cases h
  |some b=>
   rw [hbk] at h;simp only at h;obtain ⟨q1,q2,q3⟩:=blkC_lt hbk;split at h
   ·rename_i hc
    have hb0:=hb b q3;exact fin (fillC_lt h hs) ⟨q1,.inl q2⟩ (by rw [e4]; simp) (by omega) (by rw [e6]; simp)
   ·cases h
 ·have e2:x2=0:=by rcases zB with z|z; cases z; exact z
  have e6:x6=[]:=Classical.byContradiction fun hc=>by have:=zX.2 hc; omega
  simp only [show ¬(4:Int)=1 from by decide,show ¬(4:Int)=2 from by decide,show ¬(4:Int)=3 from by decide,if_false,if_true] at h;unfold opR4 at h;split at h
  ·rename_i hc
   exact fin (fillC_lt h hs) (by omega) (nameB_len hc.1) (by omega) (by rw [e6]; simp)
  ·cases h
 ·have e2:x2=0:=by rcases zB with z|z; cases z; exact z
  have e4:x4.data.toList=[]:=by rcases zS with z|z; cases z; exact z
  have e5:x5=[]:=by rcases zL with z|z; cases z; exact z
  have e6:x6=[]:=Classical.byContradiction fun hc=>by have:=zX.2 hc; omega
  simp only [show ¬(5:Int)=1 from by decide,show ¬(5:Int)=2 from by decide,show ¬(5:Int)=3 from by decide,show ¬(5:Int)=4 from by decide,if_false,if_true] at h;exact fin (fillC_lt h hs) (by omega) (by rw [e4]; simp) (by rw [e5]; simp) (by rw [e6]; simp)
 ·have e2:x2=0:=by rcases zB with z|z; cases z; exact z
  have e6:x6=[]:=Classical.byContradiction fun hc=>by have:=zX.2 hc; omega
  simp only [show ¬(6:Int)=1 from by decide,show ¬(6:Int)=2 from by decide,show ¬(6:Int)=3 from by decide,show ¬(6:Int)=4 from by decide,show ¬(6:Int)=5 from by decide,if_false,if_true] at h;unfold opR6 at h;split at h
  ·rename_i hc
   obtain ⟨n,hn⟩:=action_ar hc.1;have hh:=ar_le hn;have hc2:=hc.2;rw [hn] at hc2;simp only [Option.getD_some] at hc2;exact fin (fillC_lt h hs) (by omega) hh.2.2 (by omega) (by rw [e6]; simp)
  ·cases h
 ·have e1:x1=0:=by rcases zA with z|z; cases z; exact z
  have e2:x2=0:=by rcases zB with z|z; cases z; exact z
  have e4:x4.data.toList=[]:=by rcases zS with z|z; cases z; exact z
  have e5:x5=[]:=by rcases zL with z|z; cases z; exact z
  have e6:x6=[]:=Classical.byContradiction fun hc=>by have:=zX.2 hc; omega
  exact fin (by omega) (by omega) (by rw [e4]; simp) (by rw [e5]; simp) (by rw [e6]; simp)
 ·have e1:x1=0:=by rcases zA with z|z; cases z; exact z
  have e4:x4.data.toList=[]:=by rcases zS with z|z; cases z; exact z
  have e6:x6=[]:=Classical.byContradiction fun hc=>by have:=zX.2 hc; omega
  simp only [show ¬(8:Int)=1 from by decide,show ¬(8:Int)=2 from by decide,show ¬(8:Int)=3 from by decide,show ¬(8:Int)=4 from by decide,show ¬(8:Int)=5 from by decide,show ¬(8:Int)=6 from by decide,show ¬(8:Int)=7 from by decide,if_false,if_true] at h;unfold opR8 at h;cases hbk:blkC bs x2 with
  |none=>rw [hbk] at h; cases h
  |some b=>
   rw [hbk] at h;simp only at h;obtain ⟨q1,q2,q3⟩:=blkC_lt hbk;split at h
   ·rename_i hc
    have hb0:=hb b q3;exact fin (by omega) ⟨q1,.inl q2⟩ (by rw [e4]; simp) (by omega) (by rw [e6]; simp)
   ·cases h
 ·have e2:x2=0:=by rcases zB with z|z; cases z; exact z
  have e4:x4.data.toList=[]:=by rcases zS with z|z; cases z; exact z
  have e6:x6=[]:=Classical.byContradiction fun hc=>by have:=zX.2 hc; omega
  simp only [show ¬(9:Int)=1 from by decide,show ¬(9:Int)=2 from by decide,show ¬(9:Int)=3 from by decide,show ¬(9:Int)=4 from by decide,show ¬(9:Int)=5 from by decide,show ¬(9:Int)=6 from by decide,show ¬(9:Int)=7 from by decide,show ¬(9:Int)=8 from by decide,if_false,if_true] at h;unfold opR9 at h;split at h
  ·rename_i hc
   exact fin (hasC_lt hc.1 hs) (by omega) (by rw [e4]; simp) (by omega) (by rw [e6]; simp)
  ·cases h
 ·have e2:x2=0:=by rcases zB with z|z; cases z; exact z
  have e4:x4.data.toList=[]:=by rcases zS with z|z; cases z; exact z
  have e5:x5=[]:=by rcases zL with z|z; cases z; exact z
  have e6:x6=[]:=Classical.byContradiction fun hc=>by have:=zX.2 hc; omega
  simp only [show ¬(10:Int)=1 from by decide,show ¬(10:Int)=2 from by decide,show ¬(10:Int)=3 from by decide,show ¬(10:Int)=4 from by decide,show ¬(10:Int)=5 from by decide,show ¬(10:Int)=6 from by decide,show ¬(10:Int)=7 from by decide,show ¬(10:Int)=8 from by decide,show ¬(10:Int)=9 from by decide,if_false,if_true] at h;unfold opR10 at h;split at h
  ·rename_i hc
   obtain ⟨q1,q2,_⟩:=isC_lt hc;exact fin (by omega) (by omega) (by rw [e4]; simp) (by rw [e5]; simp) (by rw [e6]; simp)
  ·cases h
 ·have e1:x1=0:=by rcases zA with z|z; cases z; exact z
  have e2:x2=0:=by rcases zB with z|z; cases z; exact z
  have e4:x4.data.toList=[]:=by rcases zS with z|z; cases z; exact z
  have e5:x5=[]:=by rcases zL with z|z; cases z; exact z
  simp only [show ¬(11:Int)=1 from by decide,show ¬(11:Int)=2 from by decide,show ¬(11:Int)=3 from by decide,show ¬(11:Int)=4 from by decide,show ¬(11:Int)=5 from by decide,show ¬(11:Int)=6 from by decide,show ¬(11:Int)=7 from by decide,show ¬(11:Int)=8 from by decide,show ¬(11:Int)=9 from by decide,show ¬(11:Int)=10 from by decide,if_false,if_true] at h;unfold opR11 at h;split at h
  ·rename_i hc
   unfold chB at hc;simp only [Bool.and_eq_true,decide_eq_true_eq,List.all_eq_true] at hc;obtain ⟨⟨⟨c1,c2⟩,c3⟩,c4⟩:=hc;refine fin (by omega) (by omega) (by rw [e4]; simp) (by rw [e5]; simp) ⟨c2,fun a ha=>?_⟩;obtain ⟨a1,a2,a3,_⟩:=altsB_each _ _ c4 a ha;have hbb:=c3 a ha;unfold altBkB at hbb;cases hbk:blkC bs a.f3 with
   |none=>rw [hbk] at hbb; cases hbb
   |some b=>exact ⟨⟨a1,a2⟩,a3,(blkC_lt hbk).1,(blkC_lt hbk).2.1⟩
  ·cases h
 ·have e5:x5=[]:=by rcases zL with z|z; cases z; exact z
  have e6:x6=[]:=Classical.byContradiction fun hc=>by have:=zX.2 hc; omega
  simp only [show ¬(12:Int)=1 from by decide,show ¬(12:Int)=2 from by decide,show ¬(12:Int)=3 from by decide,show ¬(12:Int)=4 from by decide,show ¬(12:Int)=5 from by decide,show ¬(12:Int)=6 from by decide,show ¬(12:Int)=7 from by decide,show ¬(12:Int)=8 from by decide,show ¬(12:Int)=9 from by decide,show ¬(12:Int)=10 from by decide,show ¬(12:Int)=11 from by decide,if_false,if_true] at h;unfold opR12 at h;split at h
  ·rename_i hc
   have k1:=hasC_lt hc.1 hs;have k2:=hasC_lt hc.2.1 hs;exact fin k1 ⟨k2.1,.inr k2.2⟩ (binary_len hc.2.2) (by rw [e5]; simp) (by rw [e6]; simp)
  ·cases h
 ·have e2:x2=0:=by rcases zB with z|z; cases z; exact z
  have e4:x4.data.toList=[]:=by rcases zS with z|z; cases z; exact z
  have e5:x5=[]:=by rcases zL with z|z; cases z; exact z
  have e6:x6=[]:=Classical.byContradiction fun hc=>by have:=zX.2 hc; omega
  simp only [show ¬(13:Int)=1 from by decide,show ¬(13:Int)=2 from by decide,show ¬(13:Int)=3 from by decide,show ¬(13:Int)=4 from by decide,show ¬(13:Int)=5 from by decide,show ¬(13:Int)=6 from by decide,show ¬(13:Int)=7 from by decide,show ¬(13:Int)=8 from by decide,show ¬(13:Int)=9 from by decide,show ¬(13:Int)=10 from by decide,show ¬(13:Int)=11 from by decide,show ¬(13:Int)=12 from by decide,if_false] at h;unfold opR13 at h;split at h
  ·rename_i hc
   exact fin (hasC_lt hc hs) (by omega) (by rw [e4]; simp) (by rw [e5]; simp) (by rw [e6]; simp)
  ·cases h
structure SmBk(nb:Nat)(b:GBk):Prop where
 n0:0≤b.f0∧b.f0≤40
 n1:0≤b.f1∧b.f1≤12
 l2:1≤b.f2.length∧b.f2.length≤60
 ops:∀g∈b.f2,SmOp nb g
structure SmC(bs:List GBk)(gl:List GGl):Prop where
 nb:1≤bs.length∧bs.length≤1500
 ng:gl.length≤400
 blocks:∀b∈bs,SmBk bs.length b
 globs:∀g∈gl,g.f0.data.toList.length≤60∧0≤g.f1∧g.f1<bs.length
theorem opsK_each{bs:List GBk}{gs:Nat}:∀(l:List GOp) (st:List Int),st.length≤60→opsK bs gs st l=true→∀g∈l,zeroB g=true∧∃s s':List Int,s.length≤60∧opK bs gs s g=some s'
 | [],_,_,_,g,hg=>by cases hg
 |x::r,st,hs,h,g,hg=>by
  unfold opsK at h;simp only [Bool.and_eq_true] at h;obtain ⟨⟨⟨h1,_⟩,_⟩,h4⟩:=h;cases ho:opK bs gs st x with
  |none=>rw [ho] at h4; cases h4
  |some s'=>
   rw [ho] at h4;rcases List.mem_cons.1 hg with rfl|hg
   ·exact ⟨h1,st,s',hs,ho⟩
   ·exact opsK_each r s' (opK_len ho hs) h4 g hg
theorem blksK_each{bs:List GBk}{gs:Nat}:∀(l:List GBk) (i:Nat),blksK bs gs i l=true→∀b∈l,∃ch,blockK bs gs ch b=true
 | [],_,_,b,hb=>by cases hb
 |x::r,i,h,b,hb=>by
  unfold blksK at h;rw [Bool.and_eq_true] at h;rcases List.mem_cons.1 hb with rfl|hb
  ·exact ⟨_,h.1⟩
  ·exact blksK_each r (i+1) h.2 b hb
theorem globB_each{bs:List GBk}:∀(l bef:List GGl),globB bs bef l=true→∀g∈l,nameB g.f0.data.toList=true∧∃b,blkC bs g.f1=some b∧b.f0=0∧b.f1=0
 | [],_,_,g,hg=>by cases hg
 |x::r,bef,h,g,hg=>by
  rw [globB_cons,Bool.and_eq_true] at h;rcases List.mem_cons.1 hg with rfl|hg
  ·have h1:=h.1;unfold okG at h1;simp only [Bool.and_eq_true] at h1;refine ⟨h1.1.1,?_⟩;cases hb:blkC bs g.f1 with
   |none=>rw [hb] at h1; cases h1.2
   |some b=>
    rw [hb] at h1;simp only [Bool.and_eq_true,beq_iff_eq] at h1;exact ⟨b,rfl,h1.2.1,h1.2.2⟩
  ·exact globB_each r _ h.2 g hg
theorem blockK_parts{bs:List GBk}{gs:Nat}{ch:Bool}{b:GBk}(h:blockK bs gs ch b=true):(0≤b.f0∧b.f0≤40)∧(0≤b.f1∧b.f1≤12)∧(1≤b.f2.length∧b.f2.length≤60)∧opsK bs gs (List.replicate (b.f0+b.f1).toNat 0) b.f2=true:=by
 unfold blockK inB at h;simp only [Bool.and_eq_true,decide_eq_true_eq] at h;obtain ⟨⟨⟨h1,h2⟩,h3⟩,h4⟩:=h;refine ⟨h1,⟨h2.1,?_⟩,by omega,h4⟩;have:=h2.2;split at this<;>omega
theorem allK_small{bs:List GBk}{gl:List GGl}(h:allK bs gl=true):SmC bs gl:=by
 unfold allK inB at h;simp only [Bool.and_eq_true,decide_eq_true_eq] at h;obtain ⟨⟨⟨h1,h2⟩,h3⟩,h4⟩:=h;have hb:∀b∈bs,0≤b.f0∧b.f0≤40:=fun b hb=>by
  obtain ⟨ch,hk⟩:=blksK_each _ _ h4 b hb;exact (blockK_parts hk).1
 refine ⟨by omega,h2,fun b hbm=>?_,fun g hg=>?_⟩
 ·obtain ⟨ch,hk⟩:=blksK_each _ _ h4 b hbm;obtain ⟨p1,p2,p3,p4⟩:=blockK_parts hk;refine ⟨p1,p2,p3,fun g hg=>?_⟩;obtain ⟨hz,s,s',hs,ho⟩:=opsK_each _ _ (by simp; omega) p4 g hg;exact opK_small hz ho hs hb
 ·obtain ⟨hn,b,hbk,_⟩:=globB_each _ _ h3 g hg;have:=blkC_lt hbk;exact ⟨nameB_len hn,this.1,this.2.1⟩
theorem bigB_len:∀(k n:Nat),n<128 ^ (k+1)→(bigB n).length≤k+1
 | 0,n,h=>by rw [bigB,if_pos (by omega)]; simp
 |k+1,n,h=>by
  rw [bigB];split
  ·simp
  ·have hd:n / 128<128 ^ (k+1):=by
    rw [Nat.div_lt_iff_lt_mul (by decide)];rw [Nat.pow_succ] at h;exact h
   have:=bigB_len k (n / 128) hd;simp only [List.length_cons];omega
theorem numB_len{n:Int}(h:n<16384):(numB n).length≤2:=bigB_len 1 _ (by omega)
theorem integerB_len{n:Int}(h:Ok64 n):(integerB n).length≤10:=by
 refine bigB_len 9 _ ?_;obtain ⟨h1,h2⟩:=h;unfold foldN;split<;>omega
theorem strB_len{s:List UInt8}(h:s.length≤60):(strB s).length≤62:=by
 unfold strB;have:=numB_len (n:=(s.length:Int)) (by omega);rw [List.length_append]; omega
theorem flat_len{α β:Type}(f:α→List β)(m:Nat):∀(l:List α),(∀a∈l,(f a).length≤m)→(l.flatMap f).length≤l.length*m
 | [],_=>by simp
 |a::r,h=>by
  have h1:=h a List.mem_cons_self;have h2:=flat_len f m r (fun b hb=>h b (List.mem_cons_of_mem _ hb));rw [List.flatMap_cons,List.length_append,List.length_cons,Nat.add_mul];omega
def WfC(bs:List GBk):Prop:=∀b∈bs,∀g∈b.f2,Ok64 g.f3∧∀a∈g.f6,Ok64 a.f2
theorem altB_len{nb:Nat}{a:GAl}(h:SmAl nb a)(hw:Ok64 a.f2)(hn:nb≤1500):(altB a).length≤76:=by
 have h1:=numB_len (n:=a.f0) (by have:=h.n0; omega);have h2:=strB_len h.s1;have h3:=integerB_len hw;have h4:=numB_len (n:=a.f3) (by have:=h.n3; omega);simp only [altB,altP,List.flatten_cons,List.flatten_nil,List.length_append,List.length_nil];omega
theorem opB_len{nb:Nat}{g:GOp}(h:SmOp nb g)(hw:Ok64 g.f3∧∀a∈g.f6,Ok64 a.f2)(hn:nb≤1500):(opB g).length≤3300:=by
 have h1:=numB_len (n:=g.f1) (by have:=h.n1; omega);have h2:=numB_len (n:=g.f2) (by have:=h.n2; omega);have h3:=integerB_len hw.1;have h4:=strB_len h.s4;have h5:=numB_len (n:=(g.f5.length:Int)) (by have:=h.l5.1; omega);have h6:=flat_len numB 2 g.f5 (fun n hn=>numB_len (by have:=h.l5.2 n hn; omega));have h7:=numB_len (n:=(g.f6.length:Int)) (by have:=h.l6.1; omega);have h8:=flat_len altB 76 g.f6 (fun a ha=>altB_len (h.l6.2 a ha) (hw.2 a ha) hn);have k5:=h.l5.1;have k6:=h.l6.1;simp only [opB,opP,numsB,List.flatten_cons,List.flatten_nil,List.length_append,List.length_nil,List.length_cons];omega
theorem packP_len{bs:List GBk}{gl:List GGl}(h:SmC bs gl)(hw:WfC bs):(packP bs gl).length≤1000000000:=by
 have hb:∀b∈bs,(blkB b).length≤198010:=fun b hb=>by
  have hs:=h.blocks b hb;have h1:=numB_len (n:=b.f0) (by have:=hs.n0; omega);have h2:=numB_len (n:=b.f1) (by have:=hs.n1; omega);have h3:=numB_len (n:=(b.f2.length:Int)) (by have:=hs.l2; omega);have h4:=flat_len opB 3300 b.f2 (fun g hg=>opB_len (hs.ops g hg) (hw b hb g hg) h.nb.2);have:=hs.l2;simp only [blkB,hdB,List.length_append];omega
 have h1:=flat_len blkB 198010 bs hb;have h2:=numB_len (n:=(bs.length:Int)) (by have:=h.nb; omega);have h3:=numB_len (n:=(gl.length:Int)) (by have:=h.ng; omega);have h4:=flat_len glbB 64 gl (fun g hg=>by
  obtain ⟨k1,k2,k3⟩:=h.globs g hg;have:=strB_len k1;have:=numB_len (n:=g.f1) (by have:=h.nb; omega);simp only [glbB,List.length_append];omega)
 have:=h.nb;have:=h.ng;simp only [packP,markB,List.length_append,List.length_cons,List.length_nil];omega
theorem size_of_len{s:ByteArray}{n:Nat}(h:s.data.toList.length≤n):s.size≤n:=by simpa using h
theorem okC_of{bs:List GBk}{gl:List GGl}(h:SmC bs gl)(hw:WfC bs):OkC bs gl:=by
 refine ⟨fun b hb=>?_,fun g hg=>?_⟩
 ·have hs:=h.blocks b hb;refine ⟨⟨hs.n0.1,by have:=hs.n0; omega⟩,⟨hs.n1.1,by have:=hs.n1; omega⟩,fun g hg=>?_⟩;have ho:=hs.ops g hg;have hww:=hw b hb g hg;refine ⟨by have:=ho.n0; omega,⟨ho.n1.1,by have:=ho.n1; omega⟩,⟨ho.n2.1,by have:=ho.n2; have:=h.nb; omega⟩,hww.1,by have:=size_of_len ho.s4; omega,fun n hn=>?_,fun a ha=>?_⟩
  ·have:=ho.l5.2 n hn;exact ⟨this.1,by omega⟩
  ·have hsa:=ho.l6.2 a ha;exact ⟨⟨by have:=hsa.n0; omega,by have:=hsa.n0; omega⟩,by have:=size_of_len hsa.s1; omega,hww.2 a ha,⟨hsa.n3.1,by have:=hsa.n3; have:=h.nb; omega⟩⟩
 ·obtain ⟨k1,k2,k3⟩:=h.globs g hg;exact ⟨by have:=size_of_len k1; omega,k2,by have:=h.nb; omega⟩
end Go.Proofs.YtjbgcpdlgplcfabGreatDoor.CJ
