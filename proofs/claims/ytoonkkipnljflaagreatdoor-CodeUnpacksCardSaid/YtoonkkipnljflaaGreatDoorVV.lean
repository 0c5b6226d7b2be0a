/- A valid code is small: bounds of its parts. Conditions: none. A valid code is small: bounds of the whole, and of its packed form. Conditions: none. -/
import Derived.Test.YtoonkkipnljflaaGreatDoorK7
namespace Go.Proofs.YtoonkkipnljflaaGreatDoor.CJ
open Go.RowKit Go.Proofs.YtoonkkipnljflaaGreatDoorW.PrintWords Go.Proofs.YtoonkkipnljflaaGreatDoorW.PrintLast Go.Proofs.YtoonkkipnljflaaGreatDoor.PT Go.Proofs.YtoonkkipnljflaaGreatDoor.IMaps Go.Proofs.YtoonkkipnljflaaGreatDoor.TJ
set_option linter.unusedVariables false
set_option linter.unusedSimpArgs false
structure SmAl(nb:Nat)(a:GAl):Prop where
 n0:1≤a.f0∧a.f0≤3
 s1:a.f1.data.toList.length≤60
 n3:0≤a.f3∧a.f3<nb
structure SmOp(nb:Nat)(g:GOp):Prop where
 n0:1≤g.f0∧g.f0≤13
 n1:0≤g.f1∧g.f1<60
 n2:0≤g.f2∧(g.f2<nb∨g.f2<60)
 s4:g.f4.data.toList.length≤60
 l5:g.f5.length≤40∧∀n∈g.f5,0≤n∧n<60
 l6:g.f6.length≤40∧∀a∈g.f6,SmAl nb a
theorem qCP{st:List Int}{k:Int}(h:hasC st k=true)(hs:st.length≤60):0≤k∧k<60:=by
 unfold hasC at h;simp only [Bool.and_eq_true,decide_eq_true_eq] at h;omega
theorem qCX{st st':List Int}{k v:Int}(h:qX st k v=some st')(hs:st.length≤60):0≤k∧k<60:=by
 unfold qX at h;split at h
 ·rename_i hh
  simp only [Bool.and_eq_true] at hh;exact qCP hh.1 hs
 ·cases h
theorem qBu{bs:List GBk}{n:Int}{b:GBk}(h:blkC bs n=some b):0≤n∧n<bs.length∧b∈bs:=by
 unfold blkC at h;split at h
 ·have:=(List.getElem?_eq_some_iff.1 h).1;exact ⟨by assumption,by omega,List.mem_of_getElem? h⟩
 ·cases h
theorem qCj{s:List UInt8}(h:qe s=true):s.length≤60:=by
 unfold qe at h;simp only [Bool.and_eq_true,decide_eq_true_eq] at h;exact h.1.1.1.2
theorem qF4{s:List UInt8}{k:Nat}(h:Qu s=some k):s.length≤60∧k<27:=by
 unfold Qu at h;obtain ⟨hlt,hk,_⟩:=List.findIdx?_eq_some_iff_getElem.1 h;have hs:(QC[k]).1=s:=by simpa using hk
 have hk27:k<27:=hlt;have key:∀k:Fin 27,(QC[k.val]'k.isLt).1.length≤60:=by decide
 subst hs;exact ⟨key ⟨k,hk27⟩,hk27⟩
theorem arL_eq(s:List UInt8):arL s=(Qu s).bind fun k=>(QC[k]?).map (·.2):=by
 unfold arL Qu;generalize QC=l
 induction l with
 |nil=>rfl
 |cons p r ih=>
  rw [List.find?_cons,List.findIdx?_cons];by_cases h:(p.1==s)=true
  ·simp [h]
  ·rw [Bool.not_eq_true] at h;rw [h];simp only [Bool.false_eq_true,if_false];rw [ih];cases List.findIdx? (fun p=>p.1==s) r<;>rfl
theorem ar_le{s:List UInt8}{n:Int}(h:arL s=some n):0≤n∧n≤2∧s.length≤60:=by
 rw [arL_eq] at h;cases hk:Qu s with
 |none=>rw [hk] at h; cases h
 |some k=>
  rw [hk] at h;obtain ⟨h1,h2⟩:=qF4 hk;have key:∀k:Fin 27,0≤(QC[k.val]'k.isLt).2∧(QC[k.val]'k.isLt).2≤2:=by decide
  have:=key ⟨k,h2⟩;have hl:k<QC.length:=h2;simp only [Option.bind_some,List.getElem?_eq_getElem hl,Option.map_some,Option.some.injEq] at h;rw [←h];exact ⟨this.1,this.2,h1⟩
theorem qKU{s:List UInt8}(h:qBb s=true):∃n,arL s=some n:=by
 unfold qBb at h;simp only [Bool.and_eq_true] at h;exact Option.isSome_iff_exists.1 h.1
theorem qJH{s:List UInt8}(h:qBB s=true):s.length≤60:=by
 unfold qBB at h;cases hk:Qu s with
 |none=>rw [hk] at h; cases h
 |some k=>exact (qF4 hk).1
theorem qE0:∀(l bef:List GAl),QW bef l=true→∀a∈l,1≤a.f0∧a.f0≤3∧a.f1.data.toList.length≤60∧(a.f0=2→0≤a.f2∧a.f2≤12)
 | [],_,_,a,h=>by cases h
 |x::r,bef,h,a,ha=>by
  rw [qEt,Bool.and_eq_true] at h;rcases List.mem_cons.1 ha with rfl|ha
  ·have h1:=h.1;unfold Q2 at h1;split at h1
   ·rename_i e
    simp only [Bool.and_eq_true,beq_iff_eq] at h1;rw [h1.1.2];exact ⟨by omega,by omega,by simp,fun e2=>by omega⟩
   ·split at h1
    ·simp only [Bool.and_eq_true,decide_eq_true_eq] at h1;exact ⟨by omega,by omega,qCj h1.1.1.1,fun _=>⟨h1.1.1.2,h1.1.2⟩⟩
    ·split at h1
     ·simp only [Bool.and_eq_true,beq_iff_eq] at h1;rw [h1.1];exact ⟨by omega,by omega,by simp,fun e2=>by omega⟩
     ·cases h1
  ·exact qE0 r _ h.2 a ha
theorem qID{g:GOp}(h:qf g=true):1≤g.f0∧g.f0≤13∧(qq g.f0=true∨g.f1=0)∧(qr g.f0=true∨g.f2=0)∧(qs g.f0=true∨g.f3=0)∧(qt g.f0=true∨g.f4.data.toList=[])∧(qu g.f0=true∨g.f5=[])∧((g.f0=11)↔g.f6≠[]):=by
 unfold qf at h;simp only [Bool.and_eq_true,Bool.or_eq_true,decide_eq_true_eq,beq_iff_eq,List.isEmpty_iff] at h;obtain ⟨⟨⟨⟨⟨⟨⟨h1,h2⟩,h3⟩,h4⟩,h5⟩,h6⟩,h7⟩,h8⟩:=h;refine ⟨h1,h2,h3,h4,h5,h6,h7,?_⟩;rw [Bool.eq_iff_iff] at h8;simp only [beq_iff_eq,Bool.not_eq_true',←Bool.not_eq_true,List.isEmpty_iff] at h8;exact h8
theorem qKV{bs:List GBk}{gs:Nat}{st st':List Int}{g:GOp}(hz:qf g=true)(h:opK bs gs st g=some st')(hs:st.length≤60)(hb:∀b∈bs,0≤b.f0∧b.f0≤40):SmOp bs.length g:=by
 obtain ⟨z0,z1,zA,zB,zN,zS,zL,zX⟩:=qID hz;obtain ⟨x0,x1,x2,x3,x4,x5,x6⟩:=g;simp only at z0 z1 zA zB zN zS zL zX;unfold opK at h;simp only at h;by_cases h0:(!x5.all (hasC st))=true
 ·rw [if_pos h0] at h; cases h
 rw [if_neg h0] at h;have hl5:∀n∈x5,0≤n∧n<60:=by
  rw [Bool.not_eq_true,Bool.not_eq_false',List.all_eq_true] at h0;intro n hn;exact qCP (h0 n hn) hs
 have hx:x0=1∨x0=2∨x0=3∨x0=4∨x0=5∨x0=6∨x0=7∨x0=8∨x0=9∨x0=10∨x0=11∨x0=12∨x0=13:=by omega
 have fin:(0≤x1∧x1<60)→(0≤x2∧(x2<bs.length∨x2<60))→x4.data.toList.length≤60→x5.length≤40→(x6.length≤40∧∀a∈x6,SmAl bs.length a)→SmOp bs.length ⟨x0,x1,x2,x3,x4,x5,x6⟩:=fun a b c d e=>⟨⟨z0,z1⟩,a,b,c,⟨d,hl5⟩,e⟩
 clear h0;rcases hx with rfl|rfl|rfl|rfl|rfl|rfl|rfl|rfl|rfl|rfl|rfl|rfl|rfl
 ·have e1:x1=0:=by rcases zA with z|z; cases z; exact z
  have e2:x2=0:=by rcases zB with z|z; cases z; exact z
  have e4:x4.data.toList=[]:=by rcases zS with z|z; cases z; exact z
  have e5:x5=[]:=by rcases zL with z|z; cases z; exact z
  have e6:x6=[]:=Classical.byContradiction fun hc=>by have:=zX.2 hc; omega
  exact fin (by omega) (by omega) (by rw [e4]; simp) (by rw [e5]; simp) (by rw [e6]; simp)
 ·have e4:x4.data.toList=[]:=by rcases zS with z|z; cases z; exact z
  have e6:x6=[]:=Classical.byContradiction fun hc=>by have:=zX.2 hc; omega
  simp only [show ¬(2:Int)=1 from by decide,if_false,if_true] at h;unfold opR2 at h;cases hbk:blkC bs x2 with
  |none=>rw [hbk] at h; cases h
  |some b=>
   rw [hbk] at h;simp only at h;obtain ⟨q1,q2,q3⟩:=qBu hbk;split at h
   ·rename_i hc
    have hb0:=hb b q3;exact fin (qCX h hs) ⟨q1,.inl q2⟩ (by rw [e4]; simp) (by omega) (by rw [e6]; simp)
   ·cases h
 ·have e4:x4.data.toList=[]:=by rcases zS with z|z; cases z; exact z
  have e6:x6=[]:=Classical.byContradiction fun hc=>by have:=zX.2 hc; omega
  simp only [show ¬(3:Int)=1 from by decide,show ¬(3:Int)=2 from by decide,if_false,if_true] at h;unfold opR3 at h;cases hbk:blkC bs x2 with
  |none=>rw [hbk] at h; cases h
  |some b=>
   rw [hbk] at h;simp only at h;obtain ⟨q1,q2,q3⟩:=qBu hbk;split at h
   ·rename_i hc
    have hb0:=hb b q3;exact fin (qCX h hs) ⟨q1,.inl q2⟩ (by rw [e4]; simp) (by omega) (by rw [e6]; simp)
   ·cases h
 ·have e2:x2=0:=by rcases zB with z|z; cases z; exact z
  have e6:x6=[]:=Classical.byContradiction fun hc=>by have:=zX.2 hc; omega
  simp only [show ¬(4:Int)=1 from by decide,show ¬(4:Int)=2 from by decide,show ¬(4:Int)=3 from by decide,if_false,if_true] at h;unfold opR4 at h;split at h
  ·rename_i hc
   exact fin (qCX h hs) (by omega) (qCj hc.1) (by omega) (by rw [e6]; simp)
  ·cases h
 ·have e2:x2=0:=by rcases zB with z|z; cases z; exact z
  have e4:x4.data.toList=[]:=by rcases zS with z|z; cases z; exact z
  have e5:x5=[]:=by rcases zL with z|z; cases z; exact z
  have e6:x6=[]:=Classical.byContradiction fun hc=>by have:=zX.2 hc; omega
  simp only [show ¬(5:Int)=1 from by decide,show ¬(5:Int)=2 from by decide,show ¬(5:Int)=3 from by decide,show ¬(5:Int)=4 from by decide,if_false,if_true] at h;exact fin (qCX h hs) (by omega) (by rw [e4]; simp) (by rw [e5]; simp) (by rw [e6]; simp)
 ·have e2:x2=0:=by rcases zB with z|z; cases z; exact z
  have e6:x6=[]:=Classical.byContradiction fun hc=>by have:=zX.2 hc; omega
  simp only [show ¬(6:Int)=1 from by decide,show ¬(6:Int)=2 from by decide,show ¬(6:Int)=3 from by decide,show ¬(6:Int)=4 from by decide,show ¬(6:Int)=5 from by decide,if_false,if_true] at h;unfold opR6 at h;split at h
  ·rename_i hc
   obtain ⟨n,hn⟩:=qKU hc.1;have hh:=ar_le hn;have hc2:=hc.2;rw [hn] at hc2;simp only [Option.getD_some] at hc2;exact fin (qCX h hs) (by omega) hh.2.2 (by omega) (by rw [e6]; simp)
  ·cases h
 ·have e1:x1=0:=by rcases zA with z|z; cases z; exact z
  have e2:x2=0:=by rcases zB with z|z; cases z; exact z
  have e4:x4.data.toList=[]:=by rcases zS with z|z; cases z; exact z
  have e5:x5=[]:=by rcases zL with z|z; cases z; exact z
  have e6:x6=[]:=Classical.byContradiction fun hc=>by have:=zX.2 hc; omega
  exact fin (by omega) (by omega) (by rw [e4]; simp) (by rw [e5]; simp) (by rw [e6]; simp)
 ·have e1:x1=0:=by rcases zA with z|z; cases z; exact z
  have e4:x4.data.toList=[]:=by rcases zS with z|z; cases z; exact z
  have e6:x6=[]:=Classical.byContradiction fun hc=>by have:=zX.2 hc; omega
  simp only [show ¬(8:Int)=1 from by decide,show ¬(8:Int)=2 from by decide,show ¬(8:Int)=3 from by decide,show ¬(8:Int)=4 from by decide,show ¬(8:Int)=5 from by decide,show ¬(8:Int)=6 from by decide,show ¬(8:Int)=7 from by decide,if_false,if_true] at h;unfold opR8 at h;cases hbk:blkC bs x2 with
  |none=>rw [hbk] at h; cases h
  |some b=>
   rw [hbk] at h;simp only at h;obtain ⟨q1,q2,q3⟩:=qBu hbk;split at h
   ·rename_i hc
    have hb0:=hb b q3;exact fin (by omega) ⟨q1,.inl q2⟩ (by rw [e4]; simp) (by omega) (by rw [e6]; simp)
   ·cases h
 ·have e2:x2=0:=by rcases zB with z|z; cases z; exact z
  have e4:x4.data.toList=[]:=by rcases zS with z|z; cases z; exact z
  have e6:x6=[]:=Classical.byContradiction fun hc=>by have:=zX.2 hc; omega
  simp only [show ¬(9:Int)=1 from by decide,show ¬(9:Int)=2 from by decide,show ¬(9:Int)=3 from by decide,show ¬(9:Int)=4 from by decide,show ¬(9:Int)=5 from by decide,show ¬(9:Int)=6 from by decide,show ¬(9:Int)=7 from by decide,show ¬(9:Int)=8 from by decide,if_false,if_true] at h;unfold opR9 at h;split at h
  ·rename_i hc
   exact fin (qCP hc.1 hs) (by omega) (by rw [e4]; simp) (by omega) (by rw [e6]; simp)
  ·cases h
 ·have e2:x2=0:=by rcases zB with z|z; cases z; exact z
  have e4:x4.data.toList=[]:=by rcases zS with z|z; cases z; exact z
  have e5:x5=[]:=by rcases zL with z|z; cases z; exact z
  have e6:x6=[]:=Classical.byContradiction fun hc=>by have:=zX.2 hc; omega
  simp only [show ¬(10:Int)=1 from by decide,show ¬(10:Int)=2 from by decide,show ¬(10:Int)=3 from by decide,show ¬(10:Int)=4 from by decide,show ¬(10:Int)=5 from by decide,show ¬(10:Int)=6 from by decide,show ¬(10:Int)=7 from by decide,show ¬(10:Int)=8 from by decide,show ¬(10:Int)=9 from by decide,if_false,if_true] at h;unfold qBE at h;split at h
  ·rename_i hc
   obtain ⟨q1,q2,_⟩:=qDd hc;exact fin (by omega) (by omega) (by rw [e4]; simp) (by rw [e5]; simp) (by rw [e6]; simp)
  ·cases h
 ·have e1:x1=0:=by rcases zA with z|z; cases z; exact z
  have e2:x2=0:=by rcases zB with z|z; cases z; exact z
  have e4:x4.data.toList=[]:=by rcases zS with z|z; cases z; exact z
  have e5:x5=[]:=by rcases zL with z|z; cases z; exact z
  simp only [show ¬(11:Int)=1 from by decide,show ¬(11:Int)=2 from by decide,show ¬(11:Int)=3 from by decide,show ¬(11:Int)=4 from by decide,show ¬(11:Int)=5 from by decide,show ¬(11:Int)=6 from by decide,show ¬(11:Int)=7 from by decide,show ¬(11:Int)=8 from by decide,show ¬(11:Int)=9 from by decide,show ¬(11:Int)=10 from by decide,if_false,if_true] at h;unfold qBW at h;split at h
  ·rename_i hc
   unfold chB at hc;simp only [Bool.and_eq_true,decide_eq_true_eq,List.all_eq_true] at hc;obtain ⟨⟨⟨c1,c2⟩,c3⟩,c4⟩:=hc;refine fin (by omega) (by omega) (by rw [e4]; simp) (by rw [e5]; simp) ⟨c2,fun a ha=>?_⟩;obtain ⟨a1,a2,a3,_⟩:=qE0 _ _ c4 a ha;have hbb:=c3 a ha;unfold Qo at hbb;cases hbk:blkC bs a.f3 with
   |none=>rw [hbk] at hbb; cases hbb
   |some b=>exact ⟨⟨a1,a2⟩,a3,(qBu hbk).1,(qBu hbk).2.1⟩
  ·cases h
 ·have e5:x5=[]:=by rcases zL with z|z; cases z; exact z
  have e6:x6=[]:=Classical.byContradiction fun hc=>by have:=zX.2 hc; omega
  simp only [show ¬(12:Int)=1 from by decide,show ¬(12:Int)=2 from by decide,show ¬(12:Int)=3 from by decide,show ¬(12:Int)=4 from by decide,show ¬(12:Int)=5 from by decide,show ¬(12:Int)=6 from by decide,show ¬(12:Int)=7 from by decide,show ¬(12:Int)=8 from by decide,show ¬(12:Int)=9 from by decide,show ¬(12:Int)=10 from by decide,show ¬(12:Int)=11 from by decide,if_false,if_true] at h;unfold qAf at h;split at h
  ·rename_i hc
   have k1:=qCP hc.1 hs;have k2:=qCP hc.2.1 hs;exact fin k1 ⟨k2.1,.inr k2.2⟩ (qJH hc.2.2) (by rw [e5]; simp) (by rw [e6]; simp)
  ·cases h
 ·have e2:x2=0:=by rcases zB with z|z; cases z; exact z
  have e4:x4.data.toList=[]:=by rcases zS with z|z; cases z; exact z
  have e5:x5=[]:=by rcases zL with z|z; cases z; exact z
  have e6:x6=[]:=Classical.byContradiction fun hc=>by have:=zX.2 hc; omega
  simp only [show ¬(13:Int)=1 from by decide,show ¬(13:Int)=2 from by decide,show ¬(13:Int)=3 from by decide,show ¬(13:Int)=4 from by decide,show ¬(13:Int)=5 from by decide,show ¬(13:Int)=6 from by decide,show ¬(13:Int)=7 from by decide,show ¬(13:Int)=8 from by decide,show ¬(13:Int)=9 from by decide,show ¬(13:Int)=10 from by decide,show ¬(13:Int)=11 from by decide,show ¬(13:Int)=12 from by decide,if_false] at h;unfold qBF at h;split at h
  ·rename_i hc
   exact fin (qCP hc hs) (by omega) (by rw [e4]; simp) (by rw [e5]; simp) (by rw [e6]; simp)
  ·cases h
structure SmBk(nb:Nat)(b:GBk):Prop where
 n0:0≤b.f0∧b.f0≤40
 n1:0≤b.f1∧b.f1≤12
 l2:1≤b.f2.length∧b.f2.length≤60
 ops:∀g∈b.f2,SmOp nb g
structure SmC(bs:List GBk)(gl:List GGl):Prop where
 nb:1≤bs.length∧bs.length≤1500
 ng:gl.length≤400
 blocks:∀b∈bs,SmBk bs.length b
 globs:∀g∈gl,g.f0.data.toList.length≤60∧0≤g.f1∧g.f1<bs.length
theorem qF5{bs:List GBk}{gs:Nat}:∀(l:List GOp) (st:List Int),st.length≤60→opsK bs gs st l=true→∀g∈l,qf g=true∧∃s s':List Int,s.length≤60∧opK bs gs s g=some s'
 | [],_,_,_,g,hg=>by cases hg
 |x::r,st,hs,h,g,hg=>by
  unfold opsK at h;simp only [Bool.and_eq_true] at h;obtain ⟨⟨⟨h1,_⟩,_⟩,h4⟩:=h;cases ho:opK bs gs st x with
  |none=>rw [ho] at h4; cases h4
  |some s'=>
   rw [ho] at h4;rcases List.mem_cons.1 hg with rfl|hg
   ·exact ⟨h1,st,s',hs,ho⟩
   ·exact qF5 r s' (qBc ho hs) h4 g hg
theorem qCK{bs:List GBk}{gs:Nat}:∀(l:List GBk) (i:Nat),qAV bs gs i l=true→∀b∈l,∃ch,qAo bs gs ch b=true
 | [],_,_,b,hb=>by cases hb
 |x::r,i,h,b,hb=>by
  unfold qAV at h;rw [Bool.and_eq_true] at h;rcases List.mem_cons.1 hb with rfl|hb
  ·exact ⟨_,h.1⟩
  ·exact qCK r (i+1) h.2 b hb
theorem qE1{bs:List GBk}:∀(l bef:List GGl),Qb bs bef l=true→∀g∈l,qe g.f0.data.toList=true∧∃b,blkC bs g.f1=some b∧b.f0=0∧b.f1=0
 | [],_,_,g,hg=>by cases hg
 |x::r,bef,h,g,hg=>by
  rw [qEv,Bool.and_eq_true] at h;rcases List.mem_cons.1 hg with rfl|hg
  ·have h1:=h.1;unfold okG at h1;simp only [Bool.and_eq_true] at h1;refine ⟨h1.1.1,?_⟩;cases hb:blkC bs g.f1 with
   |none=>rw [hb] at h1; cases h1.2
   |some b=>
    rw [hb] at h1;simp only [Bool.and_eq_true,beq_iff_eq] at h1;exact ⟨b,rfl,h1.2.1,h1.2.2⟩
  ·exact qE1 r _ h.2 g hg
theorem qCY{bs:List GBk}{gs:Nat}{ch:Bool}{b:GBk}(h:qAo bs gs ch b=true):(0≤b.f0∧b.f0≤40)∧(0≤b.f1∧b.f1≤12)∧(1≤b.f2.length∧b.f2.length≤60)∧opsK bs gs (List.replicate (b.f0+b.f1).toNat 0) b.f2=true:=by
 unfold qAo inB at h;simp only [Bool.and_eq_true,decide_eq_true_eq] at h;obtain ⟨⟨⟨h1,h2⟩,h3⟩,h4⟩:=h;refine ⟨h1,⟨h2.1,?_⟩,by omega,h4⟩;have:=h2.2;split at this<;>omega
theorem Q4{bs:List GBk}{gl:List GGl}(h:allK bs gl=true):SmC bs gl:=by
 unfold allK inB at h;simp only [Bool.and_eq_true,decide_eq_true_eq] at h;obtain ⟨⟨⟨h1,h2⟩,h3⟩,h4⟩:=h;have hb:∀b∈bs,0≤b.f0∧b.f0≤40:=fun b hb=>by
  obtain ⟨ch,hk⟩:=qCK _ _ h4 b hb;exact (qCY hk).1
 refine ⟨by omega,h2,fun b hbm=>?_,fun g hg=>?_⟩
 ·obtain ⟨ch,hk⟩:=qCK _ _ h4 b hbm;obtain ⟨p1,p2,p3,p4⟩:=qCY hk;refine ⟨p1,p2,p3,fun g hg=>?_⟩;obtain ⟨hz,s,s',hs,ho⟩:=qF5 _ _ (by simp; omega) p4 g hg;exact qKV hz ho hs hb
 ·obtain ⟨hn,b,hbk,_⟩:=qE1 _ _ h3 g hg;have:=qBu hbk;exact ⟨qCj hn,this.1,this.2.1⟩
theorem qER:∀(k n:Nat),n<128 ^ (k+1)→(bigB n).length≤k+1
 | 0,n,h=>by rw [bigB,if_pos (by omega)]; simp
 |k+1,n,h=>by
  rw [bigB];split
  ·simp
  ·have hd:n / 128<128 ^ (k+1):=by
    rw [Nat.div_lt_iff_lt_mul (by decide)];rw [Nat.pow_succ] at h;exact h
   have:=qER k (n / 128) hd;simp only [List.length_cons];omega
theorem Qk{n:Int}(h:n<16384):(numB n).length≤2:=qER 1 _ (by omega)
theorem qDk{n:Int}(h:Ok64 n):(QG n).length≤10:=by
 refine qER 9 _ ?_;obtain ⟨h1,h2⟩:=h;unfold Qf;split<;>omega
theorem qES{s:List UInt8}(h:s.length≤60):(strB s).length≤62:=by
 unfold strB;have:=Qk (n:=(s.length:Int)) (by omega);rw [List.length_append]; omega
theorem qAh{α β:Type}(f:α→List β)(m:Nat):∀(l:List α),(∀a∈l,(f a).length≤m)→(l.flatMap f).length≤l.length*m
 | [],_=>by simp
 |a::r,h=>by
  have h1:=h a List.mem_cons_self;have h2:=qAh f m r (fun b hb=>h b (List.mem_cons_of_mem _ hb));rw [List.flatMap_cons,List.length_append,List.length_cons,Nat.add_mul];omega
def WfC(bs:List GBk):Prop:=∀b∈bs,∀g∈b.f2,Ok64 g.f3∧∀a∈g.f6,Ok64 a.f2
theorem altB_len{nb:Nat}{a:GAl}(h:SmAl nb a)(hw:Ok64 a.f2)(hn:nb≤1500):(altB a).length≤76:=by
 have h1:=Qk (n:=a.f0) (by have:=h.n0; omega);have h2:=qES h.s1;have h3:=qDk hw;have h4:=Qk (n:=a.f3) (by have:=h.n3; omega);simp only [altB,altP,List.flatten_cons,List.flatten_nil,List.length_append,List.length_nil];omega
theorem opB_len{nb:Nat}{g:GOp}(h:SmOp nb g)(hw:Ok64 g.f3∧∀a∈g.f6,Ok64 a.f2)(hn:nb≤1500):(opB g).length≤3300:=by
 have h1:=Qk (n:=g.f1) (by have:=h.n1; omega);have h2:=Qk (n:=g.f2) (by have:=h.n2; omega);have h3:=qDk hw.1;have h4:=qES h.s4;have h5:=Qk (n:=(g.f5.length:Int)) (by have:=h.l5.1; omega);have h6:=qAh numB 2 g.f5 (fun n hn=>Qk (by have:=h.l5.2 n hn; omega));have h7:=Qk (n:=(g.f6.length:Int)) (by have:=h.l6.1; omega);have h8:=qAh altB 76 g.f6 (fun a ha=>altB_len (h.l6.2 a ha) (hw.2 a ha) hn);have k5:=h.l5.1;have k6:=h.l6.1;simp only [opB,opP,qi,List.flatten_cons,List.flatten_nil,List.length_append,List.length_nil,List.length_cons];omega
theorem qDl{bs:List GBk}{gl:List GGl}(h:SmC bs gl)(hw:WfC bs):(Q3 bs gl).length≤1000000000:=by
 have hb:∀b∈bs,(blkB b).length≤198010:=fun b hb=>by
  have hs:=h.blocks b hb;have h1:=Qk (n:=b.f0) (by have:=hs.n0; omega);have h2:=Qk (n:=b.f1) (by have:=hs.n1; omega);have h3:=Qk (n:=(b.f2.length:Int)) (by have:=hs.l2; omega);have h4:=qAh opB 3300 b.f2 (fun g hg=>opB_len (hs.ops g hg) (hw b hb g hg) h.nb.2);have:=hs.l2;simp only [blkB,hdB,List.length_append];omega
 have h1:=qAh blkB 198010 bs hb;have h2:=Qk (n:=(bs.length:Int)) (by have:=h.nb; omega);have h3:=Qk (n:=(gl.length:Int)) (by have:=h.ng; omega);have h4:=qAh glbB 64 gl (fun g hg=>by
  obtain ⟨k1,k2,k3⟩:=h.globs g hg;have:=qES k1;have:=Qk (n:=g.f1) (by have:=h.nb; omega);simp only [glbB,List.length_append];omega)
 have:=h.nb;have:=h.ng;simp only [Q3,qx,List.length_append,List.length_cons,List.length_nil];omega
theorem qCr{s:ByteArray}{n:Nat}(h:s.data.toList.length≤n):s.size≤n:=by simpa using h
theorem qHC{bs:List GBk}{gl:List GGl}(h:SmC bs gl)(hw:WfC bs):OkC bs gl:=by
 refine ⟨fun b hb=>?_,fun g hg=>?_⟩
 ·have hs:=h.blocks b hb;refine ⟨⟨hs.n0.1,by have:=hs.n0; omega⟩,⟨hs.n1.1,by have:=hs.n1; omega⟩,fun g hg=>?_⟩;have ho:=hs.ops g hg;have hww:=hw b hb g hg;refine ⟨by have:=ho.n0; omega,⟨ho.n1.1,by have:=ho.n1; omega⟩,⟨ho.n2.1,by have:=ho.n2; have:=h.nb; omega⟩,hww.1,by have:=qCr ho.s4; omega,fun n hn=>?_,fun a ha=>?_⟩
  ·have:=ho.l5.2 n hn;exact ⟨this.1,by omega⟩
  ·have hsa:=ho.l6.2 a ha;exact ⟨⟨by have:=hsa.n0; omega,by have:=hsa.n0; omega⟩,by have:=qCr hsa.s1; omega,hww.2 a ha,⟨hsa.n3.1,by have:=hsa.n3; have:=h.nb; omega⟩⟩
 ·obtain ⟨k1,k2,k3⟩:=h.globs g hg;exact ⟨by have:=qCr k1; omega,k2,by have:=h.nb; omega⟩
end Go.Proofs.YtoonkkipnljflaaGreatDoor.CJ
