/- The checker's method op, an instruction at a time. Conditions: the checker, the room and the instruction's lists lie in memory; the listed variables are laid. -/
import Derived.Test.YtoonkkipnljflaaGreatDoorRG
import Derived.Test.YtoonkkipnljflaaGreatDoorC7
import Derived.Test.YtoonkkipnljflaaGreatDoorC6
namespace Go.Proofs.YtoonkkipnljflaaGreatDoor.CJ
open Go.RowKit Go.Proofs.YtoonkkipnljflaaGreatDoorW.PrintWords Go.Proofs.YtoonkkipnljflaaGreatDoorW.PrintLast Go.Proofs.YtoonkkipnljflaaGreatDoor.PT Go.Proofs.YtoonkkipnljflaaGreatDoor.IMaps
set_option linter.unusedVariables false
set_option linter.unusedSimpArgs false
structure OpAt(w:World)(p m:Nat)(A:Option Addr)(ca:Nat)(A2:Option Addr)(cb:Nat)(bs:List GBk)(gl:List GGl)(b:Nat)(st:List Int)(x4:ByteArray)(x5:List Int)(x6:List GAl)(A5 A6:Option Addr)(c5 c6:Nat):Prop where
 ck:CK w p m A ca A2 cb bs gl
 rm:RM w b st
 lw:LW w
 small:st.length≤60
 l5:x5.length≤c5
 m5:(Kd.int .i64).C w A5 x5.length x5
 l6:x6.length≤c6
 m6:kAl.C w A6 x6.length x6
 s4:x4.size≤maxLen
 s6:∀a∈x6,a.f1.size≤maxLen
theorem OpAt.below{w w':World}{p m:Nat}{A:Option Addr}{ca:Nat}{A2:Option Addr}{cb:Nat}{bs:List GBk}{gl:List GGl}{b:Nat}{st:List Int}{x4:ByteArray}{x5:List Int}{x6:List GAl}{A5 A6:Option Addr}{c5 c6:Nat}(h:OpAt w p m A ca A2 cb bs gl b st x4 x5 x6 A5 A6 c5 c6)(hb:Below w.heap.size w w'):OpAt w' p m A ca A2 cb bs gl b st x4 x5 x6 A5 A6 c5 c6:=
 ⟨h.ck.below hb,h.rm.below hb,h.lw.below hb,h.small,h.l5,Kd.C_below h.m5 hb,h.l6,Kd.C_below h.m6 hb,h.s4,h.s6⟩
theorem Done.lift{b:Nat}{w W:World}{o:Option (List Int)}{e:Ending}{w':World}(hb:Below b w W)(h:Done b W o e w'):Done b w o e w':=by
 cases o with
 |none=>exact ⟨h.1,hb.trans h.2⟩
 |some s=>exact ⟨h.1,h.2.1,hb.trans h.2.2⟩
theorem qEO(w:World)(x:Int):(Kd.int .i64).C (w.alloc (.cells #[.int .i64 x] 3)) (some ⟨w.heap.size,0,none⟩) [x].length [x]:=by
 refine ⟨rfl,by simp,fun _=>⟨_,rfl,fun j p hj=>?_⟩⟩
 match j,hj with
 | 0,hj=>
  simp at hj; subst hj
  refine ⟨[.int .i64 x],rfl,rfl,fun i u hu=>?_⟩
  match i,hu with
  | 0,hu=>simp at hu; subst hu; exact qD (MapKept.heap_alloc w (.cells #[.int .i64 x] 3)).1 rfl
  |i+1,hu=>simp at hu
 |j+1,hj=>simp at hj
theorem qG7(w:World)(x y:Int):(Kd.int .i64).C (w.alloc (.cells #[.int .i64 x,.int .i64 y] 3)) (some ⟨w.heap.size,0,none⟩) [x,y].length [x,y]:=by
 refine ⟨rfl,by simp,fun _=>⟨_,rfl,fun j p hj=>?_⟩⟩
 match j,hj with
 | 0,hj=>
  simp at hj; subst hj
  refine ⟨[.int .i64 x],rfl,rfl,fun i u hu=>?_⟩
  match i,hu with
  | 0,hu=>simp at hu; subst hu; exact qD (MapKept.heap_alloc w (.cells #[.int .i64 x,.int .i64 y] 3)).1 rfl
  |i+1,hu=>simp at hu
 | 1,hj=>
  simp at hj; subst hj
  refine ⟨[.int .i64 y],rfl,rfl,fun i u hu=>?_⟩
  match i,hu with
  | 0,hu=>simp at hu; subst hu; exact qD (MapKept.heap_alloc w (.cells #[.int .i64 x,.int .i64 y] 3)).1 (i:=1) rfl
  |i+1,hu=>simp at hu
 |j+2,hj=>simp at hj
def opR1(st:List Int)(x3:Int):Option (List Int):=if inB x3 1 12 then addC st x3.toNat 1 else none
def opR2(bs:List GBk)(st:List Int)(x1 x2:Int)(n:Nat):Option (List Int):=match blkC bs x2 with|some c=>if c.f0=n∧c.f1=0∧c.f1≤8 then qX st x1 2 else none|none=>none
def opR3(bs:List GBk)(st:List Int)(x1 x2:Int)(n:Nat):Option (List Int):=match blkC bs x2 with|some c=>if c.f0=n∧c.f1≠0∧c.f1≤8 then qX st x1 3 else none|none=>none
def opR4(st:List Int)(x1:Int)(s:List UInt8)(n:Nat):Option (List Int):=if qe s∧n≤12 then qX st x1 3 else none
def opR5(st:List Int)(x1:Int):Option (List Int):=qX st x1 3
def opR6(st:List Int)(x1:Int)(s:List UInt8)(n:Nat):Option (List Int):=if qBb s∧(n:Int)=(arL s).getD 0 then qX st x1 3 else none
def opR7(gs:Nat)(st:List Int)(x3:Int):Option (List Int):=if inB x3 0 ((gs:Int) - 1) then addC st 1 0 else none
def opR8(bs:List GBk)(st:List Int)(x2:Int)(n:Nat):Option (List Int):=match blkC bs x2 with|some c=>if qz st∧c.f0=n∧c.f1=1 then some st else none|none=>none
def opR9(st:List Int)(x1:Int)(n:Nat):Option (List Int):=if hasC st x1∧n≤8 then some st else none
def qBE(st:List Int)(x1:Int):Option (List Int):=if isC st x1 3 then some st else none
def qBW(bs:List GBk)(st:List Int)(l:List GAl):Option (List Int):=if chB bs st.length l then some st else none
def qAf(st:List Int)(x1 x2:Int)(s:List UInt8):Option (List Int):=if hasC st x1∧hasC st x2∧qBB s then some st else none
def qBF(st:List Int)(x1:Int):Option (List Int):=if hasC st x1 then some st else none
theorem RM.len{w:World}{b:Nat}{st:List Int}(h:RM w b st):(Builtin.len_ #[75] 3 #[.map (some b)]).run Tryz.prog w=.ok (.int .i64 (if qz st then 0 else 1)) w∨∃n:Nat,1≤n∧qz st=false∧(Builtin.len_ #[75] 3 #[.map (some b)]).run Tryz.prog w=.ok (.int .i64 n) w:=by
 obtain ⟨l,i1,e1⟩:=h.emp;have hr:=qFZ (P:=Tryz.prog) i1 Tryz.underlying75 3;cases l with
 |nil=>
  left;have:qz st=true:=by
   unfold qz;rw [List.all_eq_true];intro v hv;obtain ⟨n,hn,rfl⟩:=List.getElem_of_mem hv;have:=e1 (n:Int);simp only [lk,isC,Int.toNat_natCast,List.getElem?_eq_getElem hn] at this;by_cases hh:st[n]=1
   ·simp [hh] at this
   ·simpa using hh
  rw [this];exact hr
 |cons x r=>
  right;refine ⟨(x::r).length,by simp,?_,hr⟩;have h0:lk x.1 (x::r)=some x.2:=by simp [lk]
  rw [e1 x.1] at h0;have h1:isC st x.1 1=true:=by
   cases hh:isC st x.1 1
   ·rw [hh] at h0; simp at h0
   ·rfl
  obtain ⟨_,hlt,hv⟩:=qDd h1;unfold qz;rw [List.all_eq_false];refine ⟨1,List.mem_of_getElem? hv,by simp⟩
set_option maxRecDepth 100000 in
set_option maxHeartbeats 4000000 in
theorem qIB(w:World)(p m:Nat)(A:Option Addr)(ca:Nat)(A2:Option Addr)(cb:Nat)(bs:List GBk)(gl:List GGl)(b:Nat)(st:List Int)(x1 x2 x3:Int)(x4:ByteArray)(x5:List Int)(x6:List GAl)(A5 A6:Option Addr)(c5 c6:Nat)(h:OpAt w p m A ca A2 cb bs gl b st x4 x5 x6 A5 A6 c5 c6)(x0:Int)(hall:x5.all (hasC st)=false):
 Calls Tryz.prog 93 #[.pointer (some ⟨p,0,none⟩),.pointer (some ⟨b+2,0,none⟩),.agg #[.int .i64 x0,.int .i64 x1,.int .i64 x2,.int .i64 x3,.string x4,.slice A5 x5.length c5,.slice A6 x6.length c6]] w (Done b w none):=by
 have hb0:=qC (Below.refl w.heap.size w) (.cells #[.int .i64 x0,.int .i64 x1,.int .i64 x2,.int .i64 x3,.string x4,.slice A5 x5.length c5,.slice A6 x6.length c6] 59);have h1:=h.below hb0;have hbx:(w.alloc (.cells #[.int .i64 x0,.int .i64 x1,.int .i64 x2,.int .i64 x3,.string x4,.slice A5 x5.length c5,.slice A6 x6.length c6] 59)).heap[w.heap.size]? = some (.cells #[.int .i64 x0,.int .i64 x1,.int .i64 x2,.int .i64 x3,.string x4,.slice A5 x5.length c5,.slice A6 x6.length c6] 59 (0,0)):=(MapKept.heap_alloc w _).1;have hm5:x5.length≤9223372036854775807:=h.m5.2.1;have HH:=Lib.hid (QL _ b st x5 A5 c5 h1.l5 h1.m5 h1.rm (by have:=h.small; omega));have HBX:=Lib.hid hbx;have H1:=Lib.hid h1;have HB0:=Lib.hid hb0;have HBL:=Lib.hid (show b≤w.heap.size by have:=h.rm.lt; omega);clear hbx h1 hb0 h;go_enter Tryz.func93,Tryz.ntmps93;go_wp2_with fail;refine HH.out.mono ?_;rw [hall];rintro e w1 ⟨rfl,rfl⟩;simp only [checked];go_wp2;exact ⟨rfl,⟨rfl,HB0.out.mono HBL.out⟩⟩
set_option maxRecDepth 100000 in
set_option maxHeartbeats 4000000 in
theorem qKB(w:World)(p m:Nat)(A:Option Addr)(ca:Nat)(A2:Option Addr)(cb:Nat)(bs:List GBk)(gl:List GGl)(b:Nat)(st:List Int)(x1 x2 x3:Int)(x4:ByteArray)(x5:List Int)(x6:List GAl)(A5 A6:Option Addr)(c5 c6:Nat)(h:OpAt w p m A ca A2 cb bs gl b st x4 x5 x6 A5 A6 c5 c6)(hall:x5.all (hasC st)=true):
 Calls Tryz.prog 93 #[.pointer (some ⟨p,0,none⟩),.pointer (some ⟨b+2,0,none⟩),.agg #[.int .i64 1,.int .i64 x1,.int .i64 x2,.int .i64 x3,.string x4,.slice A5 x5.length c5,.slice A6 x6.length c6]] w (Done b w (opR1 st x3)):=by
 have hb0:=qC (Below.refl w.heap.size w) (.cells #[.int .i64 1,.int .i64 x1,.int .i64 x2,.int .i64 x3,.string x4,.slice A5 x5.length c5,.slice A6 x6.length c6] 59);have h1:=h.below hb0;have hbx:(w.alloc (.cells #[.int .i64 1,.int .i64 x1,.int .i64 x2,.int .i64 x3,.string x4,.slice A5 x5.length c5,.slice A6 x6.length c6] 59)).heap[w.heap.size]? = some (.cells #[.int .i64 1,.int .i64 x1,.int .i64 x2,.int .i64 x3,.string x4,.slice A5 x5.length c5,.slice A6 x6.length c6] 59 (0,0)):=(MapKept.heap_alloc w _).1;have hm5:x5.length≤9223372036854775807:=h.m5.2.1;have HH:=Lib.hid (QL _ b st x5 A5 c5 h1.l5 h1.m5 h1.rm (by have:=h.small; omega));have HBX:=Lib.hid hbx;have H1:=Lib.hid h1;have HB0:=Lib.hid hb0;have HBL:=Lib.hid (show b≤w.heap.size by have:=h.rm.lt; omega);clear hbx h1 hb0 h;cases hin:inB x3 1 12
 ·have HF:=Lib.hid (show opR1 st x3=none from by unfold opR1; rw [hin]; rfl);have HW:=Lib.hid (fun W=>qCU x3 1 12 W hin);clear hin;go_enter Tryz.func93,Tryz.ntmps93;go_wp2_with fail;refine HH.out.mono ?_;rw [hall];rintro e w1 ⟨rfl,rfl⟩;simp only [checked,if_true];go_wp2_with fail;refine (HW.out _).mono ?_;rintro e w1 ⟨rfl,rfl⟩;go_wp2_with fail;refine (qG _).mono ?_;rintro e wd ⟨rfl,rfl⟩;go_wp2;exact ⟨rfl,by rw [HF.out]; exact ⟨rfl,HB0.out.mono HBL.out⟩⟩
 ·have HW:=Lib.hid (fun W=>qCo x3 1 12 W hin);have hr:1≤x3∧x3≤12:=by simpa [inB] using hin
  obtain ⟨n,rfl⟩:∃n:Nat,x3=n:=⟨x3.toNat,by omega⟩;have HF:=Lib.hid (show opR1 st (n:Int)=addC st n 1 from by unfold opR1; rw [hin,if_pos rfl,Int.toNat_natCast]);have hn:n≤12:=by omega
  clear hin hr;go_enter Tryz.func93,Tryz.ntmps93;go_wp2_with fail;refine HH.out.mono ?_;rw [hall];rintro e w1 ⟨rfl,rfl⟩;simp only [checked,if_true];go_wp2_with fail;refine (HW.out _).mono ?_;rintro e w1 ⟨rfl,rfl⟩;go_wp2_with fail;refine (qL _).mono ?_;rintro e wd ⟨rfl,rfl⟩;go_wp2_with fail;refine (qJ5 _ b st n H1.out.rm (by have:=H1.out.small; omega) (by omega)).mono ?_;intro e wt hD;have HD:=qB.mk (Done.lift (HB0.out.mono HBL.out) hD);clear hD;cases ho:addC st n 1 with
  |none=>
   rw [ho] at HD;obtain ⟨rfl,hB⟩:=HD.out;have HF2:=Lib.hid (HF.out.trans ho);clear ho;go_wp2;exact ⟨rfl,by rw [HF2.out]; exact HD.out⟩
  |some s=>
   rw [ho] at HD;obtain ⟨rfl,_,_⟩:=HD.out;have HF2:=Lib.hid (HF.out.trans ho);clear ho;go_wp2;go_end0;rw [HF2.out];exact HD.out
set_option maxRecDepth 100000 in
set_option maxHeartbeats 4000000 in
theorem qKC(w:World)(p m:Nat)(A:Option Addr)(ca:Nat)(A2:Option Addr)(cb:Nat)(bs:List GBk)(gl:List GGl)(b:Nat)(st:List Int)(x1 x2 x3:Int)(x4:ByteArray)(x5:List Int)(x6:List GAl)(A5 A6:Option Addr)(c5 c6:Nat)(h:OpAt w p m A ca A2 cb bs gl b st x4 x5 x6 A5 A6 c5 c6)(hall:x5.all (hasC st)=true):
 Calls Tryz.prog 93 #[.pointer (some ⟨p,0,none⟩),.pointer (some ⟨b+2,0,none⟩),.agg #[.int .i64 2,.int .i64 x1,.int .i64 x2,.int .i64 x3,.string x4,.slice A5 x5.length c5,.slice A6 x6.length c6]] w (Done b w (opR2 bs st x1 x2 x5.length)):=by
 have hb0:=qC (Below.refl w.heap.size w) (.cells #[.int .i64 2,.int .i64 x1,.int .i64 x2,.int .i64 x3,.string x4,.slice A5 x5.length c5,.slice A6 x6.length c6] 59);have h1:=h.below hb0;have hbx:(w.alloc (.cells #[.int .i64 2,.int .i64 x1,.int .i64 x2,.int .i64 x3,.string x4,.slice A5 x5.length c5,.slice A6 x6.length c6] 59)).heap[w.heap.size]? = some (.cells #[.int .i64 2,.int .i64 x1,.int .i64 x2,.int .i64 x3,.string x4,.slice A5 x5.length c5,.slice A6 x6.length c6] 59 (0,0)):=(MapKept.heap_alloc w _).1;have hm5:x5.length≤9223372036854775807:=h.m5.2.1;have HH:=Lib.hid (QL _ b st x5 A5 c5 h1.l5 h1.m5 h1.rm (by have:=h.small; omega));have HBX:=Lib.hid hbx;have H1:=Lib.hid h1;have HB0:=Lib.hid hb0;have HBL:=Lib.hid (show b≤w.heap.size by have:=h.rm.lt; omega);clear hbx h1 hb0 h;have HBK:=Lib.hid (qBT _ p m A ca A2 cb bs gl x2 H1.out.ck);cases hbk:blkC bs x2 with
 |none=>
  rw [hbk] at HBK;have HF:=Lib.hid (show opR2 bs st x1 x2 x5.length=none from by unfold opR2; rw [hbk]);clear hbk;go_enter Tryz.func93,Tryz.ntmps93;go_wp2_with fail;refine HH.out.mono ?_;rw [hall];rintro e w1 ⟨rfl,rfl⟩;simp only [checked,if_true];go_wp2_with fail;refine (HBK.out).mono ?_;rintro e w2 ⟨rfl,hb2⟩;have HB2:=qB.mk (HB0.out.trans (hb2.mono (by have:=HB0.out.size; omega)));clear hb2;go_wp2;exact ⟨rfl,by rw [HF.out]; exact ⟨rfl,HB2.out.mono HBL.out⟩⟩
 |some y=>
  rw [hbk] at HBK;obtain ⟨y0,y1,y2⟩:=y;have HRES:=Lib.hid (show opR2 bs st x1 x2 x5.length=_ from by unfold opR2; rw [hbk]);simp only at HRES;clear hbk;by_cases n1:y0=x5.length;rotate_left
  ·have HF:=Lib.hid (HRES.out.trans (show (if y0=x5.length∧y1=0∧y1≤8 then qX st x1 2 else none)=none from if_neg (by intro hh; exact n1 hh.1)));have t1:(y0==(x5.length:Int))=false:=beq_eq_false_iff_ne.2 n1;clear n1;go_enter Tryz.func93,Tryz.ntmps93;go_wp2_with fail;refine HH.out.mono ?_;rw [hall];rintro e w1 ⟨rfl,rfl⟩;simp only [checked,if_true];go_wp2_with fail;refine (HBK.out).mono ?_;rintro e w2 ⟨A3,c3,rfl,hc3,hC3,hb2⟩;have e0:=qA hb2 (qD HBX.out (i:=0) rfl);have e1:=qA hb2 (qD HBX.out (i:=1) rfl);have e5:=qA hb2 (qD HBX.out (i:=5) rfl);have hw2:w.heap.size<w2.heap.size:=World.block_lt_of_cell? _ _ e0;have hb3:=qC hb2 (.cells #[.int .i64 y0,.int .i64 y1,.slice A3 y2.length c3] 55);have HB2:=qB.mk (HB0.out.trans (hb3.mono (by have:=HB0.out.size; omega)));have HR2:=Lib.hid (H1.out.rm.below hb3);clear hb2 hb3 hc3 hC3 HBK HBX;go_wp2_with fail;refine (qG _).mono ?_;rintro e wd ⟨rfl,rfl⟩;go_wp2;exact ⟨rfl,by rw [HF.out]; exact ⟨rfl,HB2.out.mono HBL.out⟩⟩
  by_cases n2:y1=0;rotate_left
  ·have HF:=Lib.hid (HRES.out.trans (show (if y0=x5.length∧y1=0∧y1≤8 then qX st x1 2 else none)=none from if_neg (by intro hh; exact n2 hh.2.1)));have t1:(y0==(x5.length:Int))=true:=beq_iff_eq.2 n1;have t2:(y1==0)=false:=beq_eq_false_iff_ne.2 n2;clear n1 n2;go_enter Tryz.func93,Tryz.ntmps93;go_wp2_with fail;refine HH.out.mono ?_;rw [hall];rintro e w1 ⟨rfl,rfl⟩;simp only [checked,if_true];go_wp2_with fail;refine (HBK.out).mono ?_;rintro e w2 ⟨A3,c3,rfl,hc3,hC3,hb2⟩;have e0:=qA hb2 (qD HBX.out (i:=0) rfl);have e1:=qA hb2 (qD HBX.out (i:=1) rfl);have e5:=qA hb2 (qD HBX.out (i:=5) rfl);have hw2:w.heap.size<w2.heap.size:=World.block_lt_of_cell? _ _ e0;have hb3:=qC hb2 (.cells #[.int .i64 y0,.int .i64 y1,.slice A3 y2.length c3] 55);have HB2:=qB.mk (HB0.out.trans (hb3.mono (by have:=HB0.out.size; omega)));have HR2:=Lib.hid (H1.out.rm.below hb3);clear hb2 hb3 hc3 hC3 HBK HBX;go_wp2_with fail;refine (qG _).mono ?_;rintro e wd ⟨rfl,rfl⟩;go_wp2;exact ⟨rfl,by rw [HF.out]; exact ⟨rfl,HB2.out.mono HBL.out⟩⟩
  by_cases n3:y1≤8;rotate_left
  ·have HF:=Lib.hid (HRES.out.trans (show (if y0=x5.length∧y1=0∧y1≤8 then qX st x1 2 else none)=none from if_neg (by intro hh; exact n3 hh.2.2)));have t1:(y0==(x5.length:Int))=true:=beq_iff_eq.2 n1;have t2:(y1==0)=true:=beq_iff_eq.2 n2;have t3:decide (y1≤8)=false:=decide_eq_false n3;clear n1 n2 n3;go_enter Tryz.func93,Tryz.ntmps93;go_wp2_with fail;refine HH.out.mono ?_;rw [hall];rintro e w1 ⟨rfl,rfl⟩;simp only [checked,if_true];go_wp2_with fail;refine (HBK.out).mono ?_;rintro e w2 ⟨A3,c3,rfl,hc3,hC3,hb2⟩;have e0:=qA hb2 (qD HBX.out (i:=0) rfl);have e1:=qA hb2 (qD HBX.out (i:=1) rfl);have e5:=qA hb2 (qD HBX.out (i:=5) rfl);have hw2:w.heap.size<w2.heap.size:=World.block_lt_of_cell? _ _ e0;have hb3:=qC hb2 (.cells #[.int .i64 y0,.int .i64 y1,.slice A3 y2.length c3] 55);have HB2:=qB.mk (HB0.out.trans (hb3.mono (by have:=HB0.out.size; omega)));have HR2:=Lib.hid (H1.out.rm.below hb3);clear hb2 hb3 hc3 hC3 HBK HBX;go_wp2_with fail;refine (qG _).mono ?_;rintro e wd ⟨rfl,rfl⟩;go_wp2;exact ⟨rfl,by rw [HF.out]; exact ⟨rfl,HB2.out.mono HBL.out⟩⟩
  ·have HF:=Lib.hid (HRES.out.trans (show (if y0=x5.length∧y1=0∧y1≤8 then qX st x1 2 else none)=qX st x1 (if false then 3 else 2) from if_pos ⟨by omega,by omega,by omega⟩));have t1:(y0==(x5.length:Int))=true:=beq_iff_eq.2 n1;have t2:(y1==0)=true:=beq_iff_eq.2 n2;have t3:decide (y1≤8)=true:=decide_eq_true n3;clear n1 n2 n3;go_enter Tryz.func93,Tryz.ntmps93;go_wp2_with fail;refine HH.out.mono ?_;rw [hall];rintro e w1 ⟨rfl,rfl⟩;simp only [checked,if_true];go_wp2_with fail;refine (HBK.out).mono ?_;rintro e w2 ⟨A3,c3,rfl,hc3,hC3,hb2⟩;have e0:=qA hb2 (qD HBX.out (i:=0) rfl);have e1:=qA hb2 (qD HBX.out (i:=1) rfl);have e5:=qA hb2 (qD HBX.out (i:=5) rfl);have hw2:w.heap.size<w2.heap.size:=World.block_lt_of_cell? _ _ e0;have hb3:=qC hb2 (.cells #[.int .i64 y0,.int .i64 y1,.slice A3 y2.length c3] 55);have HB2:=qB.mk (HB0.out.trans (hb3.mono (by have:=HB0.out.size; omega)));have HR2:=Lib.hid (H1.out.rm.below hb3);clear hb2 hb3 hc3 hC3 HBK HBX;go_wp2_with fail;refine (qL _).mono ?_;rintro e wd ⟨rfl,rfl⟩;go_wp2_with fail;refine (qBi _ b st x1 false HR2.out).mono ?_;intro e wt hD;have HD:=qB.mk (Done.lift (HB2.out.mono HBL.out) hD);clear hD;cases ho:qX st x1 (if false then 3 else 2) with
   |none=>
    rw [ho] at HD;obtain ⟨rfl,hB⟩:=HD.out;have HF2:=Lib.hid (HF.out.trans ho);clear ho;go_wp2;exact ⟨rfl,by rw [HF2.out]; exact HD.out⟩
   |some s=>
    rw [ho] at HD;obtain ⟨rfl,_,_⟩:=HD.out;have HF2:=Lib.hid (HF.out.trans ho);clear ho;go_wp2;go_end0;rw [HF2.out];exact HD.out
set_option maxRecDepth 100000 in
set_option maxHeartbeats 4000000 in
theorem qKD(w:World)(p m:Nat)(A:Option Addr)(ca:Nat)(A2:Option Addr)(cb:Nat)(bs:List GBk)(gl:List GGl)(b:Nat)(st:List Int)(x1 x2 x3:Int)(x4:ByteArray)(x5:List Int)(x6:List GAl)(A5 A6:Option Addr)(c5 c6:Nat)(h:OpAt w p m A ca A2 cb bs gl b st x4 x5 x6 A5 A6 c5 c6)(hall:x5.all (hasC st)=true):
 Calls Tryz.prog 93 #[.pointer (some ⟨p,0,none⟩),.pointer (some ⟨b+2,0,none⟩),.agg #[.int .i64 3,.int .i64 x1,.int .i64 x2,.int .i64 x3,.string x4,.slice A5 x5.length c5,.slice A6 x6.length c6]] w (Done b w (opR3 bs st x1 x2 x5.length)):=by
 have hb0:=qC (Below.refl w.heap.size w) (.cells #[.int .i64 3,.int .i64 x1,.int .i64 x2,.int .i64 x3,.string x4,.slice A5 x5.length c5,.slice A6 x6.length c6] 59);have h1:=h.below hb0;have hbx:(w.alloc (.cells #[.int .i64 3,.int .i64 x1,.int .i64 x2,.int .i64 x3,.string x4,.slice A5 x5.length c5,.slice A6 x6.length c6] 59)).heap[w.heap.size]? = some (.cells #[.int .i64 3,.int .i64 x1,.int .i64 x2,.int .i64 x3,.string x4,.slice A5 x5.length c5,.slice A6 x6.length c6] 59 (0,0)):=(MapKept.heap_alloc w _).1;have hm5:x5.length≤9223372036854775807:=h.m5.2.1;have HH:=Lib.hid (QL _ b st x5 A5 c5 h1.l5 h1.m5 h1.rm (by have:=h.small; omega));have HBX:=Lib.hid hbx;have H1:=Lib.hid h1;have HB0:=Lib.hid hb0;have HBL:=Lib.hid (show b≤w.heap.size by have:=h.rm.lt; omega);clear hbx h1 hb0 h;have HBK:=Lib.hid (qBT _ p m A ca A2 cb bs gl x2 H1.out.ck);cases hbk:blkC bs x2 with
 |none=>
  rw [hbk] at HBK;have HF:=Lib.hid (show opR3 bs st x1 x2 x5.length=none from by unfold opR3; rw [hbk]);clear hbk;go_enter Tryz.func93,Tryz.ntmps93;go_wp2_with fail;refine HH.out.mono ?_;rw [hall];rintro e w1 ⟨rfl,rfl⟩;simp only [checked,if_true];go_wp2_with fail;refine (HBK.out).mono ?_;rintro e w2 ⟨rfl,hb2⟩;have HB2:=qB.mk (HB0.out.trans (hb2.mono (by have:=HB0.out.size; omega)));clear hb2;go_wp2;exact ⟨rfl,by rw [HF.out]; exact ⟨rfl,HB2.out.mono HBL.out⟩⟩
 |some y=>
  rw [hbk] at HBK;obtain ⟨y0,y1,y2⟩:=y;have HRES:=Lib.hid (show opR3 bs st x1 x2 x5.length=_ from by unfold opR3; rw [hbk]);simp only at HRES;clear hbk;by_cases n1:y0=x5.length;rotate_left
  ·have HF:=Lib.hid (HRES.out.trans (show (if y0=x5.length∧y1≠0∧y1≤8 then qX st x1 3 else none)=none from if_neg (by intro hh; exact n1 hh.1)));have t1:(y0==(x5.length:Int))=false:=beq_eq_false_iff_ne.2 n1;clear n1;go_enter Tryz.func93,Tryz.ntmps93;go_wp2_with fail;refine HH.out.mono ?_;rw [hall];rintro e w1 ⟨rfl,rfl⟩;simp only [checked,if_true];go_wp2_with fail;refine (HBK.out).mono ?_;rintro e w2 ⟨A3,c3,rfl,hc3,hC3,hb2⟩;have e0:=qA hb2 (qD HBX.out (i:=0) rfl);have e1:=qA hb2 (qD HBX.out (i:=1) rfl);have e5:=qA hb2 (qD HBX.out (i:=5) rfl);have hw2:w.heap.size<w2.heap.size:=World.block_lt_of_cell? _ _ e0;have hb3:=qC hb2 (.cells #[.int .i64 y0,.int .i64 y1,.slice A3 y2.length c3] 55);have HB2:=qB.mk (HB0.out.trans (hb3.mono (by have:=HB0.out.size; omega)));have HR2:=Lib.hid (H1.out.rm.below hb3);clear hb2 hb3 hc3 hC3 HBK HBX;go_wp2_with fail;refine (qG _).mono ?_;rintro e wd ⟨rfl,rfl⟩;go_wp2;exact ⟨rfl,by rw [HF.out]; exact ⟨rfl,HB2.out.mono HBL.out⟩⟩
  by_cases n2:y1≠0;rotate_left
  ·have HF:=Lib.hid (HRES.out.trans (show (if y0=x5.length∧y1≠0∧y1≤8 then qX st x1 3 else none)=none from if_neg (by intro hh; exact n2 hh.2.1)));have t1:(y0==(x5.length:Int))=true:=beq_iff_eq.2 n1;have t2:(y1==0)=true:=beq_iff_eq.2 (by omega);clear n1 n2;go_enter Tryz.func93,Tryz.ntmps93;go_wp2_with fail;refine HH.out.mono ?_;rw [hall];rintro e w1 ⟨rfl,rfl⟩;simp only [checked,if_true];go_wp2_with fail;refine (HBK.out).mono ?_;rintro e w2 ⟨A3,c3,rfl,hc3,hC3,hb2⟩;have e0:=qA hb2 (qD HBX.out (i:=0) rfl);have e1:=qA hb2 (qD HBX.out (i:=1) rfl);have e5:=qA hb2 (qD HBX.out (i:=5) rfl);have hw2:w.heap.size<w2.heap.size:=World.block_lt_of_cell? _ _ e0;have hb3:=qC hb2 (.cells #[.int .i64 y0,.int .i64 y1,.slice A3 y2.length c3] 55);have HB2:=qB.mk (HB0.out.trans (hb3.mono (by have:=HB0.out.size; omega)));have HR2:=Lib.hid (H1.out.rm.below hb3);clear hb2 hb3 hc3 hC3 HBK HBX;go_wp2_with fail;refine (qG _).mono ?_;rintro e wd ⟨rfl,rfl⟩;go_wp2;exact ⟨rfl,by rw [HF.out]; exact ⟨rfl,HB2.out.mono HBL.out⟩⟩
  by_cases n3:y1≤8;rotate_left
  ·have HF:=Lib.hid (HRES.out.trans (show (if y0=x5.length∧y1≠0∧y1≤8 then qX st x1 3 else none)=none from if_neg (by intro hh; exact n3 hh.2.2)));have t1:(y0==(x5.length:Int))=true:=beq_iff_eq.2 n1;have t2:(y1==0)=false:=beq_eq_false_iff_ne.2 n2;have t3:decide (y1≤8)=false:=decide_eq_false n3;clear n1 n2 n3;go_enter Tryz.func93,Tryz.ntmps93;go_wp2_with fail;refine HH.out.mono ?_;rw [hall];rintro e w1 ⟨rfl,rfl⟩;simp only [checked,if_true];go_wp2_with fail;refine (HBK.out).mono ?_;rintro e w2 ⟨A3,c3,rfl,hc3,hC3,hb2⟩;have e0:=qA hb2 (qD HBX.out (i:=0) rfl);have e1:=qA hb2 (qD HBX.out (i:=1) rfl);have e5:=qA hb2 (qD HBX.out (i:=5) rfl);have hw2:w.heap.size<w2.heap.size:=World.block_lt_of_cell? _ _ e0;have hb3:=qC hb2 (.cells #[.int .i64 y0,.int .i64 y1,.slice A3 y2.length c3] 55);have HB2:=qB.mk (HB0.out.trans (hb3.mono (by have:=HB0.out.size; omega)));have HR2:=Lib.hid (H1.out.rm.below hb3);clear hb2 hb3 hc3 hC3 HBK HBX;go_wp2_with fail;refine (qG _).mono ?_;rintro e wd ⟨rfl,rfl⟩;go_wp2;exact ⟨rfl,by rw [HF.out]; exact ⟨rfl,HB2.out.mono HBL.out⟩⟩
  ·have HF:=Lib.hid (HRES.out.trans (show (if y0=x5.length∧y1≠0∧y1≤8 then qX st x1 3 else none)=qX st x1 (if true then 3 else 2) from if_pos ⟨by omega,by omega,by omega⟩));have t1:(y0==(x5.length:Int))=true:=beq_iff_eq.2 n1;have t2:(y1==0)=false:=beq_eq_false_iff_ne.2 n2;have t3:decide (y1≤8)=true:=decide_eq_true n3;clear n1 n2 n3;go_enter Tryz.func93,Tryz.ntmps93;go_wp2_with fail;refine HH.out.mono ?_;rw [hall];rintro e w1 ⟨rfl,rfl⟩;simp only [checked,if_true];go_wp2_with fail;refine (HBK.out).mono ?_;rintro e w2 ⟨A3,c3,rfl,hc3,hC3,hb2⟩;have e0:=qA hb2 (qD HBX.out (i:=0) rfl);have e1:=qA hb2 (qD HBX.out (i:=1) rfl);have e5:=qA hb2 (qD HBX.out (i:=5) rfl);have hw2:w.heap.size<w2.heap.size:=World.block_lt_of_cell? _ _ e0;have hb3:=qC hb2 (.cells #[.int .i64 y0,.int .i64 y1,.slice A3 y2.length c3] 55);have HB2:=qB.mk (HB0.out.trans (hb3.mono (by have:=HB0.out.size; omega)));have HR2:=Lib.hid (H1.out.rm.below hb3);clear hb2 hb3 hc3 hC3 HBK HBX;go_wp2_with fail;refine (qL _).mono ?_;rintro e wd ⟨rfl,rfl⟩;go_wp2_with fail;refine (qBi _ b st x1 true HR2.out).mono ?_;intro e wt hD;have HD:=qB.mk (Done.lift (HB2.out.mono HBL.out) hD);clear hD;cases ho:qX st x1 (if true then 3 else 2) with
   |none=>
    rw [ho] at HD;obtain ⟨rfl,hB⟩:=HD.out;have HF2:=Lib.hid (HF.out.trans ho);clear ho;go_wp2;exact ⟨rfl,by rw [HF2.out]; exact HD.out⟩
   |some s=>
    rw [ho] at HD;obtain ⟨rfl,_,_⟩:=HD.out;have HF2:=Lib.hid (HF.out.trans ho);clear ho;go_wp2;go_end0;rw [HF2.out];exact HD.out
set_option maxRecDepth 100000 in
set_option maxHeartbeats 4000000 in
theorem qKE(w:World)(p m:Nat)(A:Option Addr)(ca:Nat)(A2:Option Addr)(cb:Nat)(bs:List GBk)(gl:List GGl)(b:Nat)(st:List Int)(x1 x2 x3:Int)(x4:ByteArray)(x5:List Int)(x6:List GAl)(A5 A6:Option Addr)(c5 c6:Nat)(h:OpAt w p m A ca A2 cb bs gl b st x4 x5 x6 A5 A6 c5 c6)(hall:x5.all (hasC st)=true):
 Calls Tryz.prog 93 #[.pointer (some ⟨p,0,none⟩),.pointer (some ⟨b+2,0,none⟩),.agg #[.int .i64 4,.int .i64 x1,.int .i64 x2,.int .i64 x3,.string x4,.slice A5 x5.length c5,.slice A6 x6.length c6]] w (Done b w (opR4 st x1 x4.data.toList x5.length)):=by
 have hb0:=qC (Below.refl w.heap.size w) (.cells #[.int .i64 4,.int .i64 x1,.int .i64 x2,.int .i64 x3,.string x4,.slice A5 x5.length c5,.slice A6 x6.length c6] 59);have h1:=h.below hb0;have hbx:(w.alloc (.cells #[.int .i64 4,.int .i64 x1,.int .i64 x2,.int .i64 x3,.string x4,.slice A5 x5.length c5,.slice A6 x6.length c6] 59)).heap[w.heap.size]? = some (.cells #[.int .i64 4,.int .i64 x1,.int .i64 x2,.int .i64 x3,.string x4,.slice A5 x5.length c5,.slice A6 x6.length c6] 59 (0,0)):=(MapKept.heap_alloc w _).1;have hm5:x5.length≤9223372036854775807:=h.m5.2.1;have HH:=Lib.hid (QL _ b st x5 A5 c5 h1.l5 h1.m5 h1.rm (by have:=h.small; omega));have HBX:=Lib.hid hbx;have H1:=Lib.hid h1;have HB0:=Lib.hid hb0;have HBL:=Lib.hid (show b≤w.heap.size by have:=h.rm.lt; omega);clear hbx h1 hb0 h;have HN:=Lib.hid (qA5 x4 H1.out.s4);cases hn:qe x4.data.toList
 ·rw [hn] at HN;have HF:=Lib.hid (show opR4 st x1 x4.data.toList x5.length=none from by unfold opR4; rw [hn]; exact if_neg (by simp));clear hn;go_enter Tryz.func93,Tryz.ntmps93;go_wp2_with fail;refine HH.out.mono ?_;rw [hall];rintro e w1 ⟨rfl,rfl⟩;simp only [checked,if_true];go_wp2_with fail;refine (HN.out _).mono ?_;rintro e w2 ⟨rfl,rfl⟩;go_wp2_with fail;refine (qG _).mono ?_;rintro e wd ⟨rfl,rfl⟩;go_wp2;exact ⟨rfl,by rw [HF.out]; exact ⟨rfl,HB0.out.mono HBL.out⟩⟩
 ·rw [hn] at HN;by_cases h12:x5.length≤12
  ·have HF:=Lib.hid (show opR4 st x1 x4.data.toList x5.length=qX st x1 (if true then 3 else 2) from by unfold opR4; rw [hn]; exact if_pos ⟨rfl,h12⟩);have t1:decide ((x5.length:Int)≤12)=true:=decide_eq_true (by omega);clear h12 hn;go_enter Tryz.func93,Tryz.ntmps93;go_wp2_with fail;refine HH.out.mono ?_;rw [hall];rintro e w1 ⟨rfl,rfl⟩;simp only [checked,if_true];go_wp2_with fail;refine (HN.out _).mono ?_;rintro e w2 ⟨rfl,rfl⟩;go_wp2_with fail;refine (qL _).mono ?_;rintro e wd ⟨rfl,rfl⟩;go_wp2_with fail;refine (qBi _ b st x1 true H1.out.rm).mono ?_;intro e wt hD;have HD:=qB.mk (Done.lift (HB0.out.mono HBL.out) hD);clear hD;cases ho:qX st x1 (if true then 3 else 2) with
   |none=>
    rw [ho] at HD;obtain ⟨rfl,hB⟩:=HD.out;have HF2:=Lib.hid (HF.out.trans ho);clear ho;go_wp2;exact ⟨rfl,by rw [HF2.out]; exact HD.out⟩
   |some s=>
    rw [ho] at HD;obtain ⟨rfl,_,_⟩:=HD.out;have HF2:=Lib.hid (HF.out.trans ho);clear ho;go_wp2;go_end0;rw [HF2.out];exact HD.out
  ·have HF:=Lib.hid (show opR4 st x1 x4.data.toList x5.length=none from by unfold opR4; rw [hn]; exact if_neg (fun hh=>h12 hh.2));have t1:decide ((x5.length:Int)≤12)=false:=decide_eq_false (by omega);clear h12 hn;go_enter Tryz.func93,Tryz.ntmps93;go_wp2_with fail;refine HH.out.mono ?_;rw [hall];rintro e w1 ⟨rfl,rfl⟩;simp only [checked,if_true];go_wp2_with fail;refine (HN.out _).mono ?_;rintro e w2 ⟨rfl,rfl⟩;go_wp2_with fail;refine (qG _).mono ?_;rintro e wd ⟨rfl,rfl⟩;go_wp2;exact ⟨rfl,by rw [HF.out]; exact ⟨rfl,HB0.out.mono HBL.out⟩⟩
set_option maxRecDepth 100000 in
set_option maxHeartbeats 4000000 in
theorem qKF(w:World)(p m:Nat)(A:Option Addr)(ca:Nat)(A2:Option Addr)(cb:Nat)(bs:List GBk)(gl:List GGl)(b:Nat)(st:List Int)(x1 x2 x3:Int)(x4:ByteArray)(x5:List Int)(x6:List GAl)(A5 A6:Option Addr)(c5 c6:Nat)(h:OpAt w p m A ca A2 cb bs gl b st x4 x5 x6 A5 A6 c5 c6)(hall:x5.all (hasC st)=true):
 Calls Tryz.prog 93 #[.pointer (some ⟨p,0,none⟩),.pointer (some ⟨b+2,0,none⟩),.agg #[.int .i64 5,.int .i64 x1,.int .i64 x2,.int .i64 x3,.string x4,.slice A5 x5.length c5,.slice A6 x6.length c6]] w (Done b w (opR5 st x1)):=by
 have hb0:=qC (Below.refl w.heap.size w) (.cells #[.int .i64 5,.int .i64 x1,.int .i64 x2,.int .i64 x3,.string x4,.slice A5 x5.length c5,.slice A6 x6.length c6] 59);have h1:=h.below hb0;have hbx:(w.alloc (.cells #[.int .i64 5,.int .i64 x1,.int .i64 x2,.int .i64 x3,.string x4,.slice A5 x5.length c5,.slice A6 x6.length c6] 59)).heap[w.heap.size]? = some (.cells #[.int .i64 5,.int .i64 x1,.int .i64 x2,.int .i64 x3,.string x4,.slice A5 x5.length c5,.slice A6 x6.length c6] 59 (0,0)):=(MapKept.heap_alloc w _).1;have hm5:x5.length≤9223372036854775807:=h.m5.2.1;have HH:=Lib.hid (QL _ b st x5 A5 c5 h1.l5 h1.m5 h1.rm (by have:=h.small; omega));have HBX:=Lib.hid hbx;have H1:=Lib.hid h1;have HB0:=Lib.hid hb0;have HBL:=Lib.hid (show b≤w.heap.size by have:=h.rm.lt; omega);clear hbx h1 hb0 h;have HF:=Lib.hid (show opR5 st x1=qX st x1 (if true then 3 else 2) from rfl);go_enter Tryz.func93,Tryz.ntmps93;go_wp2_with fail;refine HH.out.mono ?_;rw [hall];rintro e w1 ⟨rfl,rfl⟩;simp only [checked,if_true];go_wp2_with fail;refine (qBi _ b st x1 true H1.out.rm).mono ?_;intro e wt hD;have HD:=qB.mk (Done.lift (HB0.out.mono HBL.out) hD);clear hD;cases ho:qX st x1 (if true then 3 else 2) with
 |none=>
  rw [ho] at HD;obtain ⟨rfl,hB⟩:=HD.out;have HF2:=Lib.hid (HF.out.trans ho);clear ho;go_wp2;exact ⟨rfl,by rw [HF2.out]; exact HD.out⟩
 |some s=>
  rw [ho] at HD;obtain ⟨rfl,_,_⟩:=HD.out;have HF2:=Lib.hid (HF.out.trans ho);clear ho;go_wp2;go_end0;rw [HF2.out];exact HD.out
set_option maxRecDepth 100000 in
set_option maxHeartbeats 4000000 in
theorem qKG(w:World)(p m:Nat)(A:Option Addr)(ca:Nat)(A2:Option Addr)(cb:Nat)(bs:List GBk)(gl:List GGl)(b:Nat)(st:List Int)(x1 x2 x3:Int)(x4:ByteArray)(x5:List Int)(x6:List GAl)(A5 A6:Option Addr)(c5 c6:Nat)(h:OpAt w p m A ca A2 cb bs gl b st x4 x5 x6 A5 A6 c5 c6)(hall:x5.all (hasC st)=true):
 Calls Tryz.prog 93 #[.pointer (some ⟨p,0,none⟩),.pointer (some ⟨b+2,0,none⟩),.agg #[.int .i64 6,.int .i64 x1,.int .i64 x2,.int .i64 x3,.string x4,.slice A5 x5.length c5,.slice A6 x6.length c6]] w (Done b w (opR6 st x1 x4.data.toList x5.length)):=by
 have hb0:=qC (Below.refl w.heap.size w) (.cells #[.int .i64 6,.int .i64 x1,.int .i64 x2,.int .i64 x3,.string x4,.slice A5 x5.length c5,.slice A6 x6.length c6] 59);have h1:=h.below hb0;have hbx:(w.alloc (.cells #[.int .i64 6,.int .i64 x1,.int .i64 x2,.int .i64 x3,.string x4,.slice A5 x5.length c5,.slice A6 x6.length c6] 59)).heap[w.heap.size]? = some (.cells #[.int .i64 6,.int .i64 x1,.int .i64 x2,.int .i64 x3,.string x4,.slice A5 x5.length c5,.slice A6 x6.length c6] 59 (0,0)):=(MapKept.heap_alloc w _).1;have hm5:x5.length≤9223372036854775807:=h.m5.2.1;have HH:=Lib.hid (QL _ b st x5 A5 c5 h1.l5 h1.m5 h1.rm (by have:=h.small; omega));have HBX:=Lib.hid hbx;have H1:=Lib.hid h1;have HB0:=Lib.hid hb0;have HBL:=Lib.hid (show b≤w.heap.size by have:=h.rm.lt; omega);clear hbx h1 hb0 h;have HN:=Lib.hid (fun W (hW:LW W)=>qH9 x4 W hW);have HAc:=Lib.hid (fun W (hW:LW W)=>qFa x4 W hW);cases hn:qBb x4.data.toList
 ·rw [hn] at HAc;have HF:=Lib.hid (show opR6 st x1 x4.data.toList x5.length=none from by unfold opR6; rw [hn]; exact if_neg (by simp));clear hn;go_enter Tryz.func93,Tryz.ntmps93;go_wp2_with fail;refine HH.out.mono ?_;rw [hall];rintro e w1 ⟨rfl,rfl⟩;simp only [checked,if_true];go_wp2_with fail;refine (HN.out _ H1.out.lw).mono ?_;rintro e w2 ⟨rfl,rfl⟩;go_wp2_with fail;refine (HAc.out _ H1.out.lw).mono ?_;rintro e w2 ⟨rfl,rfl⟩;go_wp2_with fail;refine (qG _).mono ?_;rintro e wd ⟨rfl,rfl⟩;go_wp2;exact ⟨rfl,by rw [HF.out]; exact ⟨rfl,HB0.out.mono HBL.out⟩⟩
 ·rw [hn] at HAc;by_cases h12:(x5.length:Int)=(arL x4.data.toList).getD 0
  ·have HF:=Lib.hid (show opR6 st x1 x4.data.toList x5.length=qX st x1 (if true then 3 else 2) from by unfold opR6; rw [hn]; exact if_pos ⟨rfl,h12⟩);have t1:((x5.length:Int)==(arL x4.data.toList).getD 0)=true:=beq_iff_eq.2 h12;clear h12 hn;go_enter Tryz.func93,Tryz.ntmps93;go_wp2_with fail;refine HH.out.mono ?_;rw [hall];rintro e w1 ⟨rfl,rfl⟩;simp only [checked,if_true];go_wp2_with fail;refine (HN.out _ H1.out.lw).mono ?_;rintro e w2 ⟨rfl,rfl⟩;go_wp2_with fail;refine (HAc.out _ H1.out.lw).mono ?_;rintro e w2 ⟨rfl,rfl⟩;go_wp2_with fail;refine (qL _).mono ?_;rintro e wd ⟨rfl,rfl⟩;go_wp2_with fail;refine (qBi _ b st x1 true H1.out.rm).mono ?_;intro e wt hD;have HD:=qB.mk (Done.lift (HB0.out.mono HBL.out) hD);clear hD;cases ho:qX st x1 (if true then 3 else 2) with
   |none=>
    rw [ho] at HD;obtain ⟨rfl,hB⟩:=HD.out;have HF2:=Lib.hid (HF.out.trans ho);clear ho;go_wp2;exact ⟨rfl,by rw [HF2.out]; exact HD.out⟩
   |some s=>
    rw [ho] at HD;obtain ⟨rfl,_,_⟩:=HD.out;have HF2:=Lib.hid (HF.out.trans ho);clear ho;go_wp2;go_end0;rw [HF2.out];exact HD.out
  ·have HF:=Lib.hid (show opR6 st x1 x4.data.toList x5.length=none from by unfold opR6; rw [hn]; exact if_neg (fun hh=>h12 hh.2));have t1:((x5.length:Int)==(arL x4.data.toList).getD 0)=false:=beq_eq_false_iff_ne.2 h12;clear h12 hn;go_enter Tryz.func93,Tryz.ntmps93;go_wp2_with fail;refine HH.out.mono ?_;rw [hall];rintro e w1 ⟨rfl,rfl⟩;simp only [checked,if_true];go_wp2_with fail;refine (HN.out _ H1.out.lw).mono ?_;rintro e w2 ⟨rfl,rfl⟩;go_wp2_with fail;refine (HAc.out _ H1.out.lw).mono ?_;rintro e w2 ⟨rfl,rfl⟩;go_wp2_with fail;refine (qG _).mono ?_;rintro e wd ⟨rfl,rfl⟩;go_wp2;exact ⟨rfl,by rw [HF.out]; exact ⟨rfl,HB0.out.mono HBL.out⟩⟩
set_option maxRecDepth 100000 in
set_option maxHeartbeats 4000000 in
theorem qKH(w:World)(p m:Nat)(A:Option Addr)(ca:Nat)(A2:Option Addr)(cb:Nat)(bs:List GBk)(gl:List GGl)(b:Nat)(st:List Int)(x1 x2 x3:Int)(x4:ByteArray)(x5:List Int)(x6:List GAl)(A5 A6:Option Addr)(c5 c6:Nat)(h:OpAt w p m A ca A2 cb bs gl b st x4 x5 x6 A5 A6 c5 c6)(hall:x5.all (hasC st)=true):
 Calls Tryz.prog 93 #[.pointer (some ⟨p,0,none⟩),.pointer (some ⟨b+2,0,none⟩),.agg #[.int .i64 7,.int .i64 x1,.int .i64 x2,.int .i64 x3,.string x4,.slice A5 x5.length c5,.slice A6 x6.length c6]] w (Done b w (opR7 gl.length st x3)):=by
 have hb0:=qC (Below.refl w.heap.size w) (.cells #[.int .i64 7,.int .i64 x1,.int .i64 x2,.int .i64 x3,.string x4,.slice A5 x5.length c5,.slice A6 x6.length c6] 59);have h1:=h.below hb0;have hbx:(w.alloc (.cells #[.int .i64 7,.int .i64 x1,.int .i64 x2,.int .i64 x3,.string x4,.slice A5 x5.length c5,.slice A6 x6.length c6] 59)).heap[w.heap.size]? = some (.cells #[.int .i64 7,.int .i64 x1,.int .i64 x2,.int .i64 x3,.string x4,.slice A5 x5.length c5,.slice A6 x6.length c6] 59 (0,0)):=(MapKept.heap_alloc w _).1;have hm5:x5.length≤9223372036854775807:=h.m5.2.1;have HH:=Lib.hid (QL _ b st x5 A5 c5 h1.l5 h1.m5 h1.rm (by have:=h.small; omega));have HBX:=Lib.hid hbx;have H1:=Lib.hid h1;have HB0:=Lib.hid hb0;have HBL:=Lib.hid (show b≤w.heap.size by have:=h.rm.lt; omega);clear hbx h1 hb0 h;cases hin:inB x3 0 ((gl.length:Int) - 1)
 ·have HF:=Lib.hid (show opR7 gl.length st x3=none from by unfold opR7; rw [hin]; rfl);have HW:=Lib.hid (fun W=>qCU x3 0 ((gl.length:Int) - 1) W hin);clear hin;have f3:(w.alloc (.cells #[.int .i64 7,.int .i64 x1,.int .i64 x2,.int .i64 x3,.string x4,.slice A5 x5.length c5,.slice A6 x6.length c6] 59)).drew.cell? ⟨w.heap.size,3,none⟩=some (.int .i64 x3):=qD HBX.out (i:=3) rfl;have f1:(w.alloc (.cells #[.int .i64 7,.int .i64 x1,.int .i64 x2,.int .i64 x3,.string x4,.slice A5 x5.length c5,.slice A6 x6.length c6] 59)).drew.cell? ⟨p,1,none⟩=some (.slice A2 gl.length cb):=qD H1.out.ck.box (i:=1) rfl;have HS:qB (RM (w.alloc (.cells #[.int .i64 7,.int .i64 x1,.int .i64 x2,.int .i64 x3,.string x4,.slice A5 x5.length c5,.slice A6 x6.length c6] 59)).drew b st∧Below b w (w.alloc (.cells #[.int .i64 7,.int .i64 x1,.int .i64 x2,.int .i64 x3,.string x4,.slice A5 x5.length c5,.slice A6 x6.length c6] 59)).drew):=⟨⟨H1.out.rm.drew,(HB0.out.mono HBL.out).trans ((qE (Below.refl _ _)).mono (by have:=HB0.out.size; have:=HBL.out; omega))⟩⟩;have hgl:gl.length≤9223372036854775807:=H1.out.ck.cm.mb.2.1;have hpl:=H1.out.ck.lt;have hwr:IntKind.i64.wrap ((gl.length:Int) - 1)=(gl.length:Int) - 1:=IntWalk.i64_in _ (by omega);go_enter Tryz.func93,Tryz.ntmps93;go_wp2_with fail;refine HH.out.mono ?_;rw [hall];rintro e w1 ⟨rfl,rfl⟩;simp only [checked,if_true];go_wp2
  refine qU (n:=11) (S:=fun w'=>w'.cell? ⟨w.heap.size,3,none⟩=some (.int .i64 x3)∧w'.cell? ⟨p,1,none⟩=some (.slice A2 gl.length cb)∧qB (RM w' b st∧Below b w w')) (ds:=[]) (mA 11 0) (by kernel_rfl) rfl rfl ⟨f3,f1,HS⟩ (fun hHeld=>?_);refine pa_ 11 1 0 (some 108) (v:=?_) (a':=?_) ?_ ?_ ?_;rotate_left 2
  ·intro w';go_simp
   with_reducible rfl
  ·simp only [pn];rfl
  refine pa_ 11 5 2 (some 110) (v:=?_) (a':=?_) ?_ ?_ ?_;rotate_left 2
  ·intro w';go_simp
   with_reducible rfl
  ·simp only [pn];rfl
  refine pa_ 11 13 3 (some 111) (v:=?_) (a':=?_) ?_ ?_ ?_;rotate_left 2
  ·intro w';go_simp
   with_reducible rfl
  ·simp only [pn];rfl
  refine pa_ 11 29 4 (some 112) (v:=?_) (a':=?_) ?_ ?_ ?_;rotate_left 2
  ·intro w';go_simp
   with_reducible rfl
  ·simp only [pn];rfl
  refine pa_ 11 61 5 (some 113) (v:=?_) (a':=?_) ?_ ?_ ?_;rotate_left 2
  ·intro w';go_simp
   with_reducible rfl
  ·simp only [pn];rfl
  refine tb_ 11 63 1 (some 109) (v:=?_) (a':=?_) hHeld ?_ ?_ ?_;rotate_left 2
  ·rintro w' ⟨s0,s1,s2⟩;go_simp
   with_reducible rfl
  ·simp only [pn];rfl
  refine tb_ 11 127 6 (some 114) (v:=?_) (a':=?_) hHeld ?_ ?_ ?_;rotate_left 2
  ·rintro w' ⟨s0,s1,s2⟩;go_simp
   with_reducible rfl
  ·simp only [pn];rfl
  refine pa_ 11 255 7 (some 115) (v:=?_) (a':=?_) ?_ ?_ ?_;rotate_left 2
  ·intro w';go_simp
   with_reducible rfl
  ·simp only [pn];rfl
  refine pa_ 11 511 8 (some 116) (v:=?_) (a':=?_) ?_ ?_ ?_;rotate_left 2
  ·intro w';go_simp
   with_reducible rfl
  ·simp only [pn];rfl
  refine oo_ 11 1023 9 (some 117) (fun K hK=>?_);refine qR Tryz.func59 (by kernel_rfl) rfl #[.int .i64 x3,.int .i64 0,.int .i64 ((gl.length:Int) - 1)] (by rfl) rfl rfl (by simp only [List.map_toArray,List.map_cons,List.map_nil]; rfl) ?_
  with_reducible refine (HW.out _).mono ?_
  rintro e u ⟨rfl,rfl⟩;refine ⟨_,rfl,?_⟩;refine hK.out _ _ ⟨hHeld.1,hHeld.2.1,hHeld.2.2⟩ (fun hHeld=>?_);clear hK K;refine qM (a':=?_) ?_ ?_;rotate_left
  ·show Act.put _ (some 117) _=_
   simp only [pn];rfl
  refine oo_ 11 2047 10 (some 118) (fun K hK=>?_);refine qAO Tryz.func14 (by kernel_rfl) rfl #[.bool false] (by rfl) rfl rfl (by simp only [List.map_toArray,List.map_cons,List.map_nil]; rfl) ?_
  with_reducible refine (qG _).mono ?_
  rintro e u ⟨rfl,rfl⟩;refine ⟨_,rfl,?_⟩;exact ⟨rfl,by rw [HF.out]; exact ⟨rfl,hHeld.2.2.out.2⟩⟩
 ·have HF:=Lib.hid (show opR7 gl.length st x3=addC st 1 0 from by unfold opR7; rw [hin]; rfl);have HW:=Lib.hid (fun W=>qCo x3 0 ((gl.length:Int) - 1) W hin);clear hin;have f3:(w.alloc (.cells #[.int .i64 7,.int .i64 x1,.int .i64 x2,.int .i64 x3,.string x4,.slice A5 x5.length c5,.slice A6 x6.length c6] 59)).drew.cell? ⟨w.heap.size,3,none⟩=some (.int .i64 x3):=qD HBX.out (i:=3) rfl;have f1:(w.alloc (.cells #[.int .i64 7,.int .i64 x1,.int .i64 x2,.int .i64 x3,.string x4,.slice A5 x5.length c5,.slice A6 x6.length c6] 59)).drew.cell? ⟨p,1,none⟩=some (.slice A2 gl.length cb):=qD H1.out.ck.box (i:=1) rfl;have HS:qB (RM (w.alloc (.cells #[.int .i64 7,.int .i64 x1,.int .i64 x2,.int .i64 x3,.string x4,.slice A5 x5.length c5,.slice A6 x6.length c6] 59)).drew b st∧Below b w (w.alloc (.cells #[.int .i64 7,.int .i64 x1,.int .i64 x2,.int .i64 x3,.string x4,.slice A5 x5.length c5,.slice A6 x6.length c6] 59)).drew):=⟨⟨H1.out.rm.drew,(HB0.out.mono HBL.out).trans ((qE (Below.refl _ _)).mono (by have:=HB0.out.size; have:=HBL.out; omega))⟩⟩;have hgl:gl.length≤9223372036854775807:=H1.out.ck.cm.mb.2.1;have hpl:=H1.out.ck.lt;have hwr:IntKind.i64.wrap ((gl.length:Int) - 1)=(gl.length:Int) - 1:=IntWalk.i64_in _ (by omega);go_enter Tryz.func93,Tryz.ntmps93;go_wp2_with fail;refine HH.out.mono ?_;rw [hall];rintro e w1 ⟨rfl,rfl⟩;simp only [checked,if_true];go_wp2
  refine qU (n:=11) (S:=fun w'=>w'.cell? ⟨w.heap.size,3,none⟩=some (.int .i64 x3)∧w'.cell? ⟨p,1,none⟩=some (.slice A2 gl.length cb)∧qB (RM w' b st∧Below b w w')) (ds:=[]) (mA 11 0) (by kernel_rfl) rfl rfl ⟨f3,f1,HS⟩ (fun hHeld=>?_);refine pa_ 11 1 0 (some 108) (v:=?_) (a':=?_) ?_ ?_ ?_;rotate_left 2
  ·intro w';go_simp
   with_reducible rfl
  ·simp only [pn];rfl
  refine pa_ 11 5 2 (some 110) (v:=?_) (a':=?_) ?_ ?_ ?_;rotate_left 2
  ·intro w';go_simp
   with_reducible rfl
  ·simp only [pn];rfl
  refine pa_ 11 13 3 (some 111) (v:=?_) (a':=?_) ?_ ?_ ?_;rotate_left 2
  ·intro w';go_simp
   with_reducible rfl
  ·simp only [pn];rfl
  refine pa_ 11 29 4 (some 112) (v:=?_) (a':=?_) ?_ ?_ ?_;rotate_left 2
  ·intro w';go_simp
   with_reducible rfl
  ·simp only [pn];rfl
  refine pa_ 11 61 5 (some 113) (v:=?_) (a':=?_) ?_ ?_ ?_;rotate_left 2
  ·intro w';go_simp
   with_reducible rfl
  ·simp only [pn];rfl
  refine tb_ 11 63 1 (some 109) (v:=?_) (a':=?_) hHeld ?_ ?_ ?_;rotate_left 2
  ·rintro w' ⟨s0,s1,s2⟩;go_simp
   with_reducible rfl
  ·simp only [pn];rfl
  refine tb_ 11 127 6 (some 114) (v:=?_) (a':=?_) hHeld ?_ ?_ ?_;rotate_left 2
  ·rintro w' ⟨s0,s1,s2⟩;go_simp
   with_reducible rfl
  ·simp only [pn];rfl
  refine pa_ 11 255 7 (some 115) (v:=?_) (a':=?_) ?_ ?_ ?_;rotate_left 2
  ·intro w';go_simp
   with_reducible rfl
  ·simp only [pn];rfl
  refine pa_ 11 511 8 (some 116) (v:=?_) (a':=?_) ?_ ?_ ?_;rotate_left 2
  ·intro w';go_simp
   with_reducible rfl
  ·simp only [pn];rfl
  refine oo_ 11 1023 9 (some 117) (fun K hK=>?_);refine qR Tryz.func59 (by kernel_rfl) rfl #[.int .i64 x3,.int .i64 0,.int .i64 ((gl.length:Int) - 1)] (by rfl) rfl rfl (by simp only [List.map_toArray,List.map_cons,List.map_nil]; rfl) ?_
  with_reducible refine (HW.out _).mono ?_
  rintro e u ⟨rfl,rfl⟩;refine ⟨_,rfl,?_⟩;refine hK.out _ _ ⟨hHeld.1,hHeld.2.1,hHeld.2.2⟩ (fun hHeld=>?_);clear hK K;refine qM (a':=?_) ?_ ?_;rotate_left
  ·show Act.put _ (some 117) _=_
   simp only [pn];rfl
  refine oo_ 11 2047 10 (some 118) (fun K hK=>?_);refine qR Tryz.func14 (by kernel_rfl) rfl #[.bool true] (by rfl) rfl rfl (by simp only [List.map_toArray,List.map_cons,List.map_nil]; rfl) ?_
  with_reducible refine (qL _).mono ?_
  rintro e u ⟨rfl,rfl⟩;refine ⟨_,rfl,?_⟩;refine hK.out _ _ ⟨hHeld.1,hHeld.2.1,hHeld.2.2⟩ (fun hHeld=>?_);clear hK K;refine qM (a':=?_) ?_ ?_;rotate_left
  ·show Act.put _ (some 118) _=_
   simp only [pn];rfl
  refine qn (by kernel_rfl) ?_;go_wp2_with fail;refine (qFv _ b st 1 hHeld.2.2.out.1 (by have:=H1.out.small; omega) (by omega)).mono ?_;intro e wt hD;have HD:=qB.mk (Done.lift hHeld.2.2.out.2 hD);clear hD;cases ho:addC st 1 0 with
  |none=>
   rw [ho] at HD;obtain ⟨rfl,hB⟩:=HD.out;have HF2:=Lib.hid (HF.out.trans ho);clear ho;go_wp2;exact ⟨rfl,by rw [HF2.out]; exact HD.out⟩
  |some s=>
   rw [ho] at HD;obtain ⟨rfl,_,_⟩:=HD.out;have HF2:=Lib.hid (HF.out.trans ho);clear ho;go_wp2;go_end0;rw [HF2.out];exact HD.out
set_option maxRecDepth 100000 in
set_option maxHeartbeats 4000000 in
theorem qKI(w:World)(p m:Nat)(A:Option Addr)(ca:Nat)(A2:Option Addr)(cb:Nat)(bs:List GBk)(gl:List GGl)(b:Nat)(st:List Int)(x1 x2 x3:Int)(x4:ByteArray)(x5:List Int)(x6:List GAl)(A5 A6:Option Addr)(c5 c6:Nat)(h:OpAt w p m A ca A2 cb bs gl b st x4 x5 x6 A5 A6 c5 c6)(hall:x5.all (hasC st)=true):
 Calls Tryz.prog 93 #[.pointer (some ⟨p,0,none⟩),.pointer (some ⟨b+2,0,none⟩),.agg #[.int .i64 8,.int .i64 x1,.int .i64 x2,.int .i64 x3,.string x4,.slice A5 x5.length c5,.slice A6 x6.length c6]] w (Done b w (opR8 bs st x2 x5.length)):=by
 have hb0:=qC (Below.refl w.heap.size w) (.cells #[.int .i64 8,.int .i64 x1,.int .i64 x2,.int .i64 x3,.string x4,.slice A5 x5.length c5,.slice A6 x6.length c6] 59);have h1:=h.below hb0;have hbx:(w.alloc (.cells #[.int .i64 8,.int .i64 x1,.int .i64 x2,.int .i64 x3,.string x4,.slice A5 x5.length c5,.slice A6 x6.length c6] 59)).heap[w.heap.size]? = some (.cells #[.int .i64 8,.int .i64 x1,.int .i64 x2,.int .i64 x3,.string x4,.slice A5 x5.length c5,.slice A6 x6.length c6] 59 (0,0)):=(MapKept.heap_alloc w _).1;have hm5:x5.length≤9223372036854775807:=h.m5.2.1;have HH:=Lib.hid (QL _ b st x5 A5 c5 h1.l5 h1.m5 h1.rm (by have:=h.small; omega));have HBX:=Lib.hid hbx;have H1:=Lib.hid h1;have HB0:=Lib.hid hb0;have HBL:=Lib.hid (show b≤w.heap.size by have:=h.rm.lt; omega);clear hbx h1 hb0 h;have HBK:=Lib.hid (qBT _ p m A ca A2 cb bs gl x2 H1.out.ck);cases hbk:blkC bs x2 with
 |none=>
  rw [hbk] at HBK;have HF:=Lib.hid (show opR8 bs st x2 x5.length=none from by unfold opR8; rw [hbk]);clear hbk;go_enter Tryz.func93,Tryz.ntmps93;go_wp2_with fail;refine HH.out.mono ?_;rw [hall];rintro e w1 ⟨rfl,rfl⟩;simp only [checked,if_true];go_wp2_with fail;refine (HBK.out).mono ?_;rintro e w2 ⟨rfl,hb2⟩;have HB2:=qB.mk (HB0.out.trans (hb2.mono (by have:=HB0.out.size; omega)));clear hb2;go_wp2;exact ⟨rfl,by rw [HF.out]; exact ⟨rfl,HB2.out.mono HBL.out⟩⟩
 |some y=>
  rw [hbk] at HBK;obtain ⟨y0,y1,y2⟩:=y;have HRES:=Lib.hid (show opR8 bs st x2 x5.length=_ from by unfold opR8; rw [hbk]);simp only at HRES;clear hbk;go_enter Tryz.func93,Tryz.ntmps93;go_wp2_with fail;refine HH.out.mono ?_;rw [hall];rintro e w1 ⟨rfl,rfl⟩;simp only [checked,if_true];go_wp2_with fail;refine (HBK.out).mono ?_;rintro e w2 ⟨A3,c3,rfl,hc3,hC3,hb2⟩;have e0:=qA hb2 (qD HBX.out (i:=0) rfl);have e1:=qA hb2 (qD HBX.out (i:=1) rfl);have e5:=qA hb2 (qD HBX.out (i:=5) rfl);have hw2:w.heap.size<w2.heap.size:=World.block_lt_of_cell? _ _ e0;have hb3:=qC hb2 (.cells #[.int .i64 y0,.int .i64 y1,.slice A3 y2.length c3] 55);have HB2:=qB.mk (HB0.out.trans (hb3.mono (by have:=HB0.out.size; omega)));have HR2:=Lib.hid (H1.out.rm.below hb3);clear hb2 hb3 hc3 hC3 HBK HBX;have d1:=HR2.out.facts.2.1;cases hf:qz st
  ·have HF:=Lib.hid (HRES.out.trans (show (if qz st=true∧y0=x5.length∧y1=1 then some st else none)=none from if_neg (by rw [hf]; simp)));rcases HR2.out.len with hln|⟨n,hn1,_,hln⟩
   ·rw [hf] at hln;clear hf;go_wp2_with fail;refine (qG _).mono ?_;rintro e wd ⟨rfl,rfl⟩;go_wp2;exact ⟨rfl,by rw [HF.out]; exact ⟨rfl,HB2.out.mono HBL.out⟩⟩
   ·have t0:((n:Int)==0)=false:=beq_eq_false_iff_ne.2 (by omega);clear hf;go_wp2_with fail;refine (qG _).mono ?_;rintro e wd ⟨rfl,rfl⟩;go_wp2;exact ⟨rfl,by rw [HF.out]; exact ⟨rfl,HB2.out.mono HBL.out⟩⟩
  ·rcases HR2.out.len with hln|⟨n,_,hn,_⟩
   rotate_left
   ·rw [hf] at hn; cases hn
   rw [hf] at hln;by_cases n1:y0=x5.length
   ·by_cases n2:y1=1
    ·have HF:=Lib.hid (HRES.out.trans (show (if qz st=true∧y0=x5.length∧y1=1 then some st else none)=some st from if_pos ⟨hf,n1,n2⟩));have t1:(y0==(x5.length:Int))=true:=beq_iff_eq.2 n1;have t2:(y1==1)=true:=beq_iff_eq.2 n2;clear hf n1 n2;go_wp2_with fail;refine (qL _).mono ?_;rintro e wd ⟨rfl,rfl⟩;go_wp2;go_end0;rw [HF.out];exact ⟨rfl,HR2.out,HB2.out.mono HBL.out⟩
    ·have HF:=Lib.hid (HRES.out.trans (show (if qz st=true∧y0=x5.length∧y1=1 then some st else none)=none from if_neg (fun hh=>n2 hh.2.2)));have t1:(y0==(x5.length:Int))=true:=beq_iff_eq.2 n1;have t2:(y1==1)=false:=beq_eq_false_iff_ne.2 n2;clear hf n1 n2;go_wp2_with fail;refine (qG _).mono ?_;rintro e wd ⟨rfl,rfl⟩;go_wp2;exact ⟨rfl,by rw [HF.out]; exact ⟨rfl,HB2.out.mono HBL.out⟩⟩
   ·have HF:=Lib.hid (HRES.out.trans (show (if qz st=true∧y0=x5.length∧y1=1 then some st else none)=none from if_neg (fun hh=>n1 hh.2.1)));have t1:(y0==(x5.length:Int))=false:=beq_eq_false_iff_ne.2 n1;clear hf n1;go_wp2_with fail;refine (qG _).mono ?_;rintro e wd ⟨rfl,rfl⟩;go_wp2;exact ⟨rfl,by rw [HF.out]; exact ⟨rfl,HB2.out.mono HBL.out⟩⟩
set_option maxRecDepth 100000 in
set_option maxHeartbeats 4000000 in
theorem qKJ(w:World)(p m:Nat)(A:Option Addr)(ca:Nat)(A2:Option Addr)(cb:Nat)(bs:List GBk)(gl:List GGl)(b:Nat)(st:List Int)(x1 x2 x3:Int)(x4:ByteArray)(x5:List Int)(x6:List GAl)(A5 A6:Option Addr)(c5 c6:Nat)(h:OpAt w p m A ca A2 cb bs gl b st x4 x5 x6 A5 A6 c5 c6)(hall:x5.all (hasC st)=true):
 Calls Tryz.prog 93 #[.pointer (some ⟨p,0,none⟩),.pointer (some ⟨b+2,0,none⟩),.agg #[.int .i64 9,.int .i64 x1,.int .i64 x2,.int .i64 x3,.string x4,.slice A5 x5.length c5,.slice A6 x6.length c6]] w (Done b w (opR9 st x1 x5.length)):=by
 have hb0:=qC (Below.refl w.heap.size w) (.cells #[.int .i64 9,.int .i64 x1,.int .i64 x2,.int .i64 x3,.string x4,.slice A5 x5.length c5,.slice A6 x6.length c6] 59);have h1:=h.below hb0;have hbx:(w.alloc (.cells #[.int .i64 9,.int .i64 x1,.int .i64 x2,.int .i64 x3,.string x4,.slice A5 x5.length c5,.slice A6 x6.length c6] 59)).heap[w.heap.size]? = some (.cells #[.int .i64 9,.int .i64 x1,.int .i64 x2,.int .i64 x3,.string x4,.slice A5 x5.length c5,.slice A6 x6.length c6] 59 (0,0)):=(MapKept.heap_alloc w _).1;have hm5:x5.length≤9223372036854775807:=h.m5.2.1;have HH:=Lib.hid (QL _ b st x5 A5 c5 h1.l5 h1.m5 h1.rm (by have:=h.small; omega));have HBX:=Lib.hid hbx;have H1:=Lib.hid h1;have HB0:=Lib.hid hb0;have HBL:=Lib.hid (show b≤w.heap.size by have:=h.rm.lt; omega);clear hbx h1 hb0 h;have hb2:=qC HB0.out (.cells #[.int .i64 x1] 3);have HH2:=Lib.hid (QL _ b st [x1] (some ⟨(w.alloc (.cells #[.int .i64 9,.int .i64 x1,.int .i64 x2,.int .i64 x3,.string x4,.slice A5 x5.length c5,.slice A6 x6.length c6] 59)).heap.size,0,none⟩) 1 (Nat.le_refl _) (qEO (w.alloc (.cells #[.int .i64 9,.int .i64 x1,.int .i64 x2,.int .i64 x3,.string x4,.slice A5 x5.length c5,.slice A6 x6.length c6] 59)) x1) (H1.out.rm.below (qC (Below.refl _ _) _)) (by have:=H1.out.small; omega));have HR2:=Lib.hid (H1.out.rm.below (qC (Below.refl _ _) (.cells #[.int .i64 x1] 3)));have HL2:=Lib.hid (H1.out.lw.below (qC (Below.refl _ _) (.cells #[.int .i64 x1] 3)))
 have HB2:=qB.mk hb2;clear hb2;simp only [World.size_alloc] at HH2;cases ha:[x1].all (hasC st)
 ·have HF:=Lib.hid (show opR9 st x1 x5.length=none from by unfold opR9; exact if_neg (fun hh=>by simp [hh.1] at ha));go_enter Tryz.func93,Tryz.ntmps93;go_wp2_with fail;refine HH.out.mono ?_;rw [hall];rintro e w1 ⟨rfl,rfl⟩;simp only [checked,if_true];go_wp2_with fail;refine HH2.out.mono ?_;rw [ha];rintro e w1 ⟨rfl,rfl⟩;simp only [checked,if_true];go_wp2;exact ⟨rfl,by rw [HF.out]; exact ⟨rfl,HB2.out.mono HBL.out⟩⟩
 ·have hh1:hasC st x1=true:=by simpa using ha
  by_cases h8:x5.length≤8
  ·have HF:=Lib.hid (show opR9 st x1 x5.length=some st from by unfold opR9; exact if_pos ⟨hh1,h8⟩);have t1:decide ((x5.length:Int)≤8)=true:=decide_eq_true (by omega);clear h8 hh1;go_enter Tryz.func93,Tryz.ntmps93;go_wp2_with fail;refine HH.out.mono ?_;rw [hall];rintro e w1 ⟨rfl,rfl⟩;simp only [checked,if_true];go_wp2_with fail;refine HH2.out.mono ?_;rw [ha];rintro e w1 ⟨rfl,rfl⟩;simp only [checked,if_true];go_wp2_with fail;refine (qL _).mono ?_;rintro e wd ⟨rfl,rfl⟩;go_wp2;go_end0;rw [HF.out];exact ⟨rfl,HR2.out,HB2.out.mono HBL.out⟩
  ·have HF:=Lib.hid (show opR9 st x1 x5.length=none from by unfold opR9; exact if_neg (fun hh=>h8 hh.2));have t1:decide ((x5.length:Int)≤8)=false:=decide_eq_false (by omega);clear h8 hh1;go_enter Tryz.func93,Tryz.ntmps93;go_wp2_with fail;refine HH.out.mono ?_;rw [hall];rintro e w1 ⟨rfl,rfl⟩;simp only [checked,if_true];go_wp2_with fail;refine HH2.out.mono ?_;rw [ha];rintro e w1 ⟨rfl,rfl⟩;simp only [checked,if_true];go_wp2_with fail;refine (qG _).mono ?_;rintro e wd ⟨rfl,rfl⟩;go_wp2;exact ⟨rfl,by rw [HF.out]; exact ⟨rfl,HB2.out.mono HBL.out⟩⟩
set_option maxRecDepth 100000 in
set_option maxHeartbeats 4000000 in
theorem qI7(w:World)(p m:Nat)(A:Option Addr)(ca:Nat)(A2:Option Addr)(cb:Nat)(bs:List GBk)(gl:List GGl)(b:Nat)(st:List Int)(x1 x2 x3:Int)(x4:ByteArray)(x5:List Int)(x6:List GAl)(A5 A6:Option Addr)(c5 c6:Nat)(h:OpAt w p m A ca A2 cb bs gl b st x4 x5 x6 A5 A6 c5 c6)(hall:x5.all (hasC st)=true):
 Calls Tryz.prog 93 #[.pointer (some ⟨p,0,none⟩),.pointer (some ⟨b+2,0,none⟩),.agg #[.int .i64 13,.int .i64 x1,.int .i64 x2,.int .i64 x3,.string x4,.slice A5 x5.length c5,.slice A6 x6.length c6]] w (Done b w (qBF st x1)):=by
 have hb0:=qC (Below.refl w.heap.size w) (.cells #[.int .i64 13,.int .i64 x1,.int .i64 x2,.int .i64 x3,.string x4,.slice A5 x5.length c5,.slice A6 x6.length c6] 59);have h1:=h.below hb0;have hbx:(w.alloc (.cells #[.int .i64 13,.int .i64 x1,.int .i64 x2,.int .i64 x3,.string x4,.slice A5 x5.length c5,.slice A6 x6.length c6] 59)).heap[w.heap.size]? = some (.cells #[.int .i64 13,.int .i64 x1,.int .i64 x2,.int .i64 x3,.string x4,.slice A5 x5.length c5,.slice A6 x6.length c6] 59 (0,0)):=(MapKept.heap_alloc w _).1;have hm5:x5.length≤9223372036854775807:=h.m5.2.1;have HH:=Lib.hid (QL _ b st x5 A5 c5 h1.l5 h1.m5 h1.rm (by have:=h.small; omega));have HBX:=Lib.hid hbx;have H1:=Lib.hid h1;have HB0:=Lib.hid hb0;have HBL:=Lib.hid (show b≤w.heap.size by have:=h.rm.lt; omega);clear hbx h1 hb0 h;have hb2:=qC HB0.out (.cells #[.int .i64 x1] 3);have HH2:=Lib.hid (QL _ b st [x1] (some ⟨(w.alloc (.cells #[.int .i64 13,.int .i64 x1,.int .i64 x2,.int .i64 x3,.string x4,.slice A5 x5.length c5,.slice A6 x6.length c6] 59)).heap.size,0,none⟩) 1 (Nat.le_refl _) (qEO (w.alloc (.cells #[.int .i64 13,.int .i64 x1,.int .i64 x2,.int .i64 x3,.string x4,.slice A5 x5.length c5,.slice A6 x6.length c6] 59)) x1) (H1.out.rm.below (qC (Below.refl _ _) _)) (by have:=H1.out.small; omega));have HR2:=Lib.hid (H1.out.rm.below (qC (Below.refl _ _) (.cells #[.int .i64 x1] 3)));have HL2:=Lib.hid (H1.out.lw.below (qC (Below.refl _ _) (.cells #[.int .i64 x1] 3)))
 have HB2:=qB.mk hb2;clear hb2;simp only [World.size_alloc] at HH2;cases ha:[x1].all (hasC st)
 ·have HF:=Lib.hid (show qBF st x1=none from by unfold qBF; exact if_neg (fun hh=>by simp [hh] at ha));go_enter Tryz.func93,Tryz.ntmps93;go_wp2_with fail;refine HH.out.mono ?_;rw [hall];rintro e w1 ⟨rfl,rfl⟩;simp only [checked,if_true];go_wp2_with fail;refine HH2.out.mono ?_;rw [ha];rintro e w1 ⟨rfl,rfl⟩;simp only [checked,if_true];go_wp2;exact ⟨rfl,by rw [HF.out]; exact ⟨rfl,HB2.out.mono HBL.out⟩⟩
 ·have HF:=Lib.hid (show qBF st x1=some st from by unfold qBF; exact if_pos (by simpa using ha));go_enter Tryz.func93,Tryz.ntmps93;go_wp2_with fail;refine HH.out.mono ?_;rw [hall];rintro e w1 ⟨rfl,rfl⟩;simp only [checked,if_true];go_wp2_with fail;refine HH2.out.mono ?_;rw [ha];rintro e w1 ⟨rfl,rfl⟩;simp only [checked,if_true];go_wp2;go_end0;rw [HF.out];exact ⟨rfl,HR2.out,HB2.out.mono HBL.out⟩
set_option maxRecDepth 100000 in
set_option maxHeartbeats 4000000 in
theorem qI8(w:World)(p m:Nat)(A:Option Addr)(ca:Nat)(A2:Option Addr)(cb:Nat)(bs:List GBk)(gl:List GGl)(b:Nat)(st:List Int)(x1 x2 x3:Int)(x4:ByteArray)(x5:List Int)(x6:List GAl)(A5 A6:Option Addr)(c5 c6:Nat)(h:OpAt w p m A ca A2 cb bs gl b st x4 x5 x6 A5 A6 c5 c6)(hall:x5.all (hasC st)=true):
 Calls Tryz.prog 93 #[.pointer (some ⟨p,0,none⟩),.pointer (some ⟨b+2,0,none⟩),.agg #[.int .i64 12,.int .i64 x1,.int .i64 x2,.int .i64 x3,.string x4,.slice A5 x5.length c5,.slice A6 x6.length c6]] w (Done b w (qAf st x1 x2 x4.data.toList)):=by
 have hb0:=qC (Below.refl w.heap.size w) (.cells #[.int .i64 12,.int .i64 x1,.int .i64 x2,.int .i64 x3,.string x4,.slice A5 x5.length c5,.slice A6 x6.length c6] 59);have h1:=h.below hb0;have hbx:(w.alloc (.cells #[.int .i64 12,.int .i64 x1,.int .i64 x2,.int .i64 x3,.string x4,.slice A5 x5.length c5,.slice A6 x6.length c6] 59)).heap[w.heap.size]? = some (.cells #[.int .i64 12,.int .i64 x1,.int .i64 x2,.int .i64 x3,.string x4,.slice A5 x5.length c5,.slice A6 x6.length c6] 59 (0,0)):=(MapKept.heap_alloc w _).1;have hm5:x5.length≤9223372036854775807:=h.m5.2.1;have HH:=Lib.hid (QL _ b st x5 A5 c5 h1.l5 h1.m5 h1.rm (by have:=h.small; omega));have HBX:=Lib.hid hbx;have H1:=Lib.hid h1;have HB0:=Lib.hid hb0;have HBL:=Lib.hid (show b≤w.heap.size by have:=h.rm.lt; omega);clear hbx h1 hb0 h;have hb2:=qC HB0.out (.cells #[.int .i64 x1,.int .i64 x2] 3);have HH2:=Lib.hid (QL _ b st [x1,x2] (some ⟨(w.alloc (.cells #[.int .i64 12,.int .i64 x1,.int .i64 x2,.int .i64 x3,.string x4,.slice A5 x5.length c5,.slice A6 x6.length c6] 59)).heap.size,0,none⟩) 2 (Nat.le_refl _) (qG7 (w.alloc (.cells #[.int .i64 12,.int .i64 x1,.int .i64 x2,.int .i64 x3,.string x4,.slice A5 x5.length c5,.slice A6 x6.length c6] 59)) x1 x2) (H1.out.rm.below (qC (Below.refl _ _) _)) (by have:=H1.out.small; omega));have HR2:=Lib.hid (H1.out.rm.below (qC (Below.refl _ _) (.cells #[.int .i64 x1,.int .i64 x2] 3)))
 have HL2:=Lib.hid (H1.out.lw.below (qC (Below.refl _ _) (.cells #[.int .i64 x1,.int .i64 x2] 3)));have HB2:=qB.mk hb2;clear hb2;simp only [World.size_alloc] at HH2;cases ha:[x1,x2].all (hasC st)
 ·have HF:=Lib.hid (show qAf st x1 x2 x4.data.toList=none from by unfold qAf; exact if_neg (fun hh=>by simp [hh.1,hh.2.1] at ha));go_enter Tryz.func93,Tryz.ntmps93;go_wp2_with fail;refine HH.out.mono ?_;rw [hall];rintro e w1 ⟨rfl,rfl⟩;simp only [checked,if_true];go_wp2_with fail;refine HH2.out.mono ?_;rw [ha];rintro e w1 ⟨rfl,rfl⟩;simp only [checked,if_true];go_wp2;exact ⟨rfl,by rw [HF.out]; exact ⟨rfl,HB2.out.mono HBL.out⟩⟩
 ·have hh1:hasC st x1=true∧hasC st x2=true:=by simpa using ha
  have HBi:=Lib.hid (fun W (hW:LW W)=>qFb x4 W hW);cases h8:qBB x4.data.toList
  ·have HF:=Lib.hid (show qAf st x1 x2 x4.data.toList=none from by unfold qAf; exact if_neg (fun hh=>by rw [h8] at hh; cases hh.2.2));rw [h8] at HBi;clear h8 hh1;go_enter Tryz.func93,Tryz.ntmps93;go_wp2_with fail;refine HH.out.mono ?_;rw [hall];rintro e w1 ⟨rfl,rfl⟩;simp only [checked,if_true];go_wp2_with fail;refine HH2.out.mono ?_;rw [ha];rintro e w1 ⟨rfl,rfl⟩;simp only [checked,if_true];go_wp2_with fail;refine (HBi.out _ HL2.out).mono ?_;rintro e w2 ⟨rfl,rfl⟩;go_wp2_with fail;refine (qG _).mono ?_;rintro e wd ⟨rfl,rfl⟩;go_wp2;exact ⟨rfl,by rw [HF.out]; exact ⟨rfl,HB2.out.mono HBL.out⟩⟩
  ·have HF:=Lib.hid (show qAf st x1 x2 x4.data.toList=some st from by unfold qAf; exact if_pos ⟨hh1.1,hh1.2,h8⟩);rw [h8] at HBi;clear h8 hh1;go_enter Tryz.func93,Tryz.ntmps93;go_wp2_with fail;refine HH.out.mono ?_;rw [hall];rintro e w1 ⟨rfl,rfl⟩;simp only [checked,if_true];go_wp2_with fail;refine HH2.out.mono ?_;rw [ha];rintro e w1 ⟨rfl,rfl⟩;simp only [checked,if_true];go_wp2_with fail;refine (HBi.out _ HL2.out).mono ?_;rintro e w2 ⟨rfl,rfl⟩;go_wp2_with fail;refine (qL _).mono ?_;rintro e wd ⟨rfl,rfl⟩;go_wp2;go_end0;rw [HF.out];exact ⟨rfl,HR2.out,HB2.out.mono HBL.out⟩
set_option maxRecDepth 100000 in
set_option maxHeartbeats 4000000 in
theorem qI9(w:World)(p m:Nat)(A:Option Addr)(ca:Nat)(A2:Option Addr)(cb:Nat)(bs:List GBk)(gl:List GGl)(b:Nat)(st:List Int)(x1 x2 x3:Int)(x4:ByteArray)(x5:List Int)(x6:List GAl)(A5 A6:Option Addr)(c5 c6:Nat)(h:OpAt w p m A ca A2 cb bs gl b st x4 x5 x6 A5 A6 c5 c6)(hall:x5.all (hasC st)=true):
 Calls Tryz.prog 93 #[.pointer (some ⟨p,0,none⟩),.pointer (some ⟨b+2,0,none⟩),.agg #[.int .i64 10,.int .i64 x1,.int .i64 x2,.int .i64 x3,.string x4,.slice A5 x5.length c5,.slice A6 x6.length c6]] w (Done b w (qBE st x1)):=by
 have hb0:=qC (Below.refl w.heap.size w) (.cells #[.int .i64 10,.int .i64 x1,.int .i64 x2,.int .i64 x3,.string x4,.slice A5 x5.length c5,.slice A6 x6.length c6] 59);have h1:=h.below hb0;have hbx:(w.alloc (.cells #[.int .i64 10,.int .i64 x1,.int .i64 x2,.int .i64 x3,.string x4,.slice A5 x5.length c5,.slice A6 x6.length c6] 59)).heap[w.heap.size]? = some (.cells #[.int .i64 10,.int .i64 x1,.int .i64 x2,.int .i64 x3,.string x4,.slice A5 x5.length c5,.slice A6 x6.length c6] 59 (0,0)):=(MapKept.heap_alloc w _).1;have hm5:x5.length≤9223372036854775807:=h.m5.2.1;have HH:=Lib.hid (QL _ b st x5 A5 c5 h1.l5 h1.m5 h1.rm (by have:=h.small; omega));have HBX:=Lib.hid hbx;have H1:=Lib.hid h1;have HB0:=Lib.hid hb0;have HBL:=Lib.hid (show b≤w.heap.size by have:=h.rm.lt; omega);clear hbx h1 hb0 h;cases hk:isC st x1 3
 ·have HF:=Lib.hid (show qBE st x1=none from by unfold qBE; rw [hk]; rfl);have f1:(w.alloc (.cells #[.int .i64 10,.int .i64 x1,.int .i64 x2,.int .i64 x3,.string x4,.slice A5 x5.length c5,.slice A6 x6.length c6] 59)).drew.cell? ⟨w.heap.size,1,none⟩=some (.int .i64 x1):=qD HBX.out (i:=1) rfl;have f2:(w.alloc (.cells #[.int .i64 10,.int .i64 x1,.int .i64 x2,.int .i64 x3,.string x4,.slice A5 x5.length c5,.slice A6 x6.length c6] 59)).drew.cell? ⟨b+2,2,none⟩=some (.map (some (b+1))):=H1.out.rm.drew.facts.2.2.1;have f3:=H1.out.rm.drew.lookupV x1;rw [hk] at f3;have HS:qB (RM (w.alloc (.cells #[.int .i64 10,.int .i64 x1,.int .i64 x2,.int .i64 x3,.string x4,.slice A5 x5.length c5,.slice A6 x6.length c6] 59)).drew b st∧Below b w (w.alloc (.cells #[.int .i64 10,.int .i64 x1,.int .i64 x2,.int .i64 x3,.string x4,.slice A5 x5.length c5,.slice A6 x6.length c6] 59)).drew):=⟨⟨H1.out.rm.drew,(HB0.out.mono HBL.out).trans ((qE (Below.refl _ _)).mono (by have:=HB0.out.size; have:=HBL.out; omega))⟩⟩;clear hk;go_enter Tryz.func93,Tryz.ntmps93;go_wp2_with fail;refine HH.out.mono ?_;rw [hall];rintro e w1 ⟨rfl,rfl⟩;simp only [checked,if_true];go_wp2;refine qU (n:=8) (S:=fun w'=>w'.cell? ⟨w.heap.size,1,none⟩=some (.int .i64 x1)∧w'.cell? ⟨b+2,2,none⟩=some (.map (some (b+1)))∧(Instr.lookup 75 (.map (some (b+1))) (.int .i64 x1) false).run Tryz.prog w'=.ok (.bool false) w'∧qB (RM w' b st∧Below b w w')) (ds:=[]) (mA 8 0) (by kernel_rfl) rfl rfl ⟨f1,f2,f3,HS⟩ (fun hHeld=>?_)
  refine pa_ 8 1 0 (some 161) (v:=?_) (a':=?_) ?_ ?_ ?_;rotate_left 2
  ·intro w';go_simp
   with_reducible rfl
  ·simp only [pn];rfl
  refine pa_ 8 3 1 (some 162) (v:=?_) (a':=?_) ?_ ?_ ?_;rotate_left 2
  ·intro w';go_simp
   with_reducible rfl
  ·simp only [pn];rfl
  refine pa_ 8 7 2 (some 163) (v:=?_) (a':=?_) ?_ ?_ ?_;rotate_left 2
  ·intro w';go_simp
   with_reducible rfl
  ·simp only [pn];rfl
  refine pa_ 8 23 4 (some 165) (v:=?_) (a':=?_) ?_ ?_ ?_;rotate_left 2
  ·intro w';go_simp
   with_reducible rfl
  ·simp only [pn];rfl
  refine tb_ 8 31 3 (some 164) (v:=?_) (a':=?_) hHeld ?_ ?_ ?_;rotate_left 2
  ·rintro w' ⟨s0,s1,s2,s3⟩;go_simp
   with_reducible rfl
  ·simp only [pn];rfl
  refine tb_ 8 63 5 (some 166) (v:=?_) (a':=?_) hHeld ?_ ?_ ?_;rotate_left 2
  ·rintro w' ⟨s0,s1,s2,s3⟩;go_simp
   with_reducible rfl
  ·simp only [pn];rfl
  refine tb_ 8 127 6 (some 167) (v:=?_) (a':=?_) hHeld ?_ ?_ ?_;rotate_left 2
  ·rintro w' ⟨s0,s1,s2,s3⟩;go_simp
   with_reducible rfl
  ·simp only [pn];rfl
  refine oo_ 8 255 7 (some 168) (fun K hK=>?_);refine qAO Tryz.func14 (by kernel_rfl) rfl #[.bool false] (by rfl) rfl rfl (by simp only [List.map_toArray,List.map_cons,List.map_nil]; rfl) ?_
  with_reducible refine (qG _).mono ?_
  rintro e u ⟨rfl,rfl⟩;refine ⟨_,rfl,?_⟩;exact ⟨rfl,by rw [HF.out]; exact ⟨rfl,hHeld.2.2.2.out.2⟩⟩
 ·have HF:=Lib.hid (show qBE st x1=some st from by unfold qBE; rw [hk]; rfl);have f1:(w.alloc (.cells #[.int .i64 10,.int .i64 x1,.int .i64 x2,.int .i64 x3,.string x4,.slice A5 x5.length c5,.slice A6 x6.length c6] 59)).drew.cell? ⟨w.heap.size,1,none⟩=some (.int .i64 x1):=qD HBX.out (i:=1) rfl;have f2:(w.alloc (.cells #[.int .i64 10,.int .i64 x1,.int .i64 x2,.int .i64 x3,.string x4,.slice A5 x5.length c5,.slice A6 x6.length c6] 59)).drew.cell? ⟨b+2,2,none⟩=some (.map (some (b+1))):=H1.out.rm.drew.facts.2.2.1;have f3:=H1.out.rm.drew.lookupV x1;rw [hk] at f3;have HS:qB (RM (w.alloc (.cells #[.int .i64 10,.int .i64 x1,.int .i64 x2,.int .i64 x3,.string x4,.slice A5 x5.length c5,.slice A6 x6.length c6] 59)).drew b st∧Below b w (w.alloc (.cells #[.int .i64 10,.int .i64 x1,.int .i64 x2,.int .i64 x3,.string x4,.slice A5 x5.length c5,.slice A6 x6.length c6] 59)).drew):=⟨⟨H1.out.rm.drew,(HB0.out.mono HBL.out).trans ((qE (Below.refl _ _)).mono (by have:=HB0.out.size; have:=HBL.out; omega))⟩⟩;clear hk;go_enter Tryz.func93,Tryz.ntmps93;go_wp2_with fail;refine HH.out.mono ?_;rw [hall];rintro e w1 ⟨rfl,rfl⟩;simp only [checked,if_true];go_wp2;refine qU (n:=8) (S:=fun w'=>w'.cell? ⟨w.heap.size,1,none⟩=some (.int .i64 x1)∧w'.cell? ⟨b+2,2,none⟩=some (.map (some (b+1)))∧(Instr.lookup 75 (.map (some (b+1))) (.int .i64 x1) false).run Tryz.prog w'=.ok (.bool true) w'∧qB (RM w' b st∧Below b w w')) (ds:=[]) (mA 8 0) (by kernel_rfl) rfl rfl ⟨f1,f2,f3,HS⟩ (fun hHeld=>?_)
  refine pa_ 8 1 0 (some 161) (v:=?_) (a':=?_) ?_ ?_ ?_;rotate_left 2
  ·intro w';go_simp
   with_reducible rfl
  ·simp only [pn];rfl
  refine pa_ 8 3 1 (some 162) (v:=?_) (a':=?_) ?_ ?_ ?_;rotate_left 2
  ·intro w';go_simp
   with_reducible rfl
  ·simp only [pn];rfl
  refine pa_ 8 7 2 (some 163) (v:=?_) (a':=?_) ?_ ?_ ?_;rotate_left 2
  ·intro w';go_simp
   with_reducible rfl
  ·simp only [pn];rfl
  refine pa_ 8 23 4 (some 165) (v:=?_) (a':=?_) ?_ ?_ ?_;rotate_left 2
  ·intro w';go_simp
   with_reducible rfl
  ·simp only [pn];rfl
  refine tb_ 8 31 3 (some 164) (v:=?_) (a':=?_) hHeld ?_ ?_ ?_;rotate_left 2
  ·rintro w' ⟨s0,s1,s2,s3⟩;go_simp
   with_reducible rfl
  ·simp only [pn];rfl
  refine tb_ 8 63 5 (some 166) (v:=?_) (a':=?_) hHeld ?_ ?_ ?_;rotate_left 2
  ·rintro w' ⟨s0,s1,s2,s3⟩;go_simp
   with_reducible rfl
  ·simp only [pn];rfl
  refine tb_ 8 127 6 (some 167) (v:=?_) (a':=?_) hHeld ?_ ?_ ?_;rotate_left 2
  ·rintro w' ⟨s0,s1,s2,s3⟩;go_simp
   with_reducible rfl
  ·simp only [pn];rfl
  refine oo_ 8 255 7 (some 168) (fun K hK=>?_);refine qR Tryz.func14 (by kernel_rfl) rfl #[.bool true] (by rfl) rfl rfl (by simp only [List.map_toArray,List.map_cons,List.map_nil]; rfl) ?_
  with_reducible refine (qL _).mono ?_
  rintro e u ⟨rfl,rfl⟩;refine ⟨_,rfl,?_⟩;refine hK.out _ _ ⟨hHeld.1,hHeld.2.1,hHeld.2.2.1,hHeld.2.2.2⟩ (fun hHeld=>?_);clear hK K;refine qM (a':=?_) ?_ ?_;rotate_left
  ·show Act.put _ (some 168) _=_
   simp only [pn];rfl
  refine qn (by kernel_rfl) ?_;go_wp2;go_end0;rw [HF.out];exact ⟨rfl,hHeld.2.2.2.out.1,hHeld.2.2.2.out.2⟩
set_option maxRecDepth 100000 in
set_option maxHeartbeats 4000000 in
theorem qJA(w:World)(p m:Nat)(A:Option Addr)(ca:Nat)(A2:Option Addr)(cb:Nat)(bs:List GBk)(gl:List GGl)(b:Nat)(st:List Int)(x1 x2 x3:Int)(x4:ByteArray)(x5:List Int)(x6:List GAl)(A5 A6:Option Addr)(c5 c6:Nat)(h:OpAt w p m A ca A2 cb bs gl b st x4 x5 x6 A5 A6 c5 c6)(hne:x6≠[])(hall:x5.all (hasC st)=true):
 Calls Tryz.prog 93 #[.pointer (some ⟨p,0,none⟩),.pointer (some ⟨b+2,0,none⟩),.agg #[.int .i64 11,.int .i64 x1,.int .i64 x2,.int .i64 x3,.string x4,.slice A5 x5.length c5,.slice A6 x6.length c6]] w (Done b w (qBW bs st x6)):=by
 have hb0:=qC (Below.refl w.heap.size w) (.cells #[.int .i64 11,.int .i64 x1,.int .i64 x2,.int .i64 x3,.string x4,.slice A5 x5.length c5,.slice A6 x6.length c6] 59);have h1:=h.below hb0;have hbx:(w.alloc (.cells #[.int .i64 11,.int .i64 x1,.int .i64 x2,.int .i64 x3,.string x4,.slice A5 x5.length c5,.slice A6 x6.length c6] 59)).heap[w.heap.size]? = some (.cells #[.int .i64 11,.int .i64 x1,.int .i64 x2,.int .i64 x3,.string x4,.slice A5 x5.length c5,.slice A6 x6.length c6] 59 (0,0)):=(MapKept.heap_alloc w _).1;have hm5:x5.length≤9223372036854775807:=h.m5.2.1;have HH:=Lib.hid (QL _ b st x5 A5 c5 h1.l5 h1.m5 h1.rm (by have:=h.small; omega));have HBX:=Lib.hid hbx;have H1:=Lib.hid h1;have HB0:=Lib.hid hb0;have HBL:=Lib.hid (show b≤w.heap.size by have:=h.rm.lt; omega);clear hbx h1 hb0 h;have HCH:=Lib.hid (qGb _ p m A ca A2 cb bs gl b st x6 A6 c6 H1.out.ck H1.out.rm H1.out.lw (by have:=H1.out.small; omega) hne H1.out.l6 H1.out.m6 H1.out.s6);clear hne;cases hc:chB bs st.length x6
 ·have HF:=Lib.hid (show qBW bs st x6=none from by unfold qBW; rw [hc]; rfl);rw [hc] at HCH;clear hc;go_enter Tryz.func93,Tryz.ntmps93;go_wp2_with fail;refine HH.out.mono ?_;rw [hall];rintro e w1 ⟨rfl,rfl⟩;simp only [checked,if_true];go_wp2_with fail;refine (HCH.out).mono ?_;rintro e w2 ⟨rfl,hb2⟩;have HB2:=qB.mk ((HB0.out.mono HBL.out).trans (hb2.mono (by have:=HB0.out.size; have:=HBL.out; omega)));clear hb2;simp only [checked];go_wp2;exact ⟨rfl,by rw [HF.out]; exact ⟨rfl,HB2.out⟩⟩
 ·have HF:=Lib.hid (show qBW bs st x6=some st from by unfold qBW; rw [hc]; rfl);rw [hc] at HCH;clear hc;go_enter Tryz.func93,Tryz.ntmps93;go_wp2_with fail;refine HH.out.mono ?_;rw [hall];rintro e w1 ⟨rfl,rfl⟩;simp only [checked,if_true];go_wp2_with fail;refine (HCH.out).mono ?_;rintro e w2 ⟨rfl,hb2⟩;have HB2:=qB.mk ((HB0.out.mono HBL.out).trans (hb2.mono (by have:=HB0.out.size; have:=HBL.out; omega)));have HR2:=Lib.hid (H1.out.rm.below hb2);clear hb2;simp only [checked,if_true];go_wp2;go_end0;rw [HF.out];exact ⟨rfl,HR2.out,HB2.out⟩
def opK(bs:List GBk)(gs:Nat)(st:List Int)(g:GOp):Option (List Int):=
 if !g.f5.all (hasC st) then none
 else if g.f0=1 then opR1 st g.f3
 else if g.f0=2 then opR2 bs st g.f1 g.f2 g.f5.length
 else if g.f0=3 then opR3 bs st g.f1 g.f2 g.f5.length
 else if g.f0=4 then opR4 st g.f1 g.f4.data.toList g.f5.length
 else if g.f0=5 then opR5 st g.f1
 else if g.f0=6 then opR6 st g.f1 g.f4.data.toList g.f5.length
 else if g.f0=7 then opR7 gs st g.f3
 else if g.f0=8 then opR8 bs st g.f2 g.f5.length
 else if g.f0=9 then opR9 st g.f1 g.f5.length
 else if g.f0=10 then qBE st g.f1
 else if g.f0=11 then qBW bs st g.f6
 else if g.f0=12 then qAf st g.f1 g.f2 g.f4.data.toList
 else qBF st g.f1
theorem qG8(w:World)(p m:Nat)(A:Option Addr)(ca:Nat)(A2:Option Addr)(cb:Nat)(bs:List GBk)(gl:List GGl)(b:Nat)(st:List Int)(g:GOp)(A5 A6:Option Addr)(c5 c6:Nat)(hz:qf g=true)(h:OpAt w p m A ca A2 cb bs gl b st g.f4 g.f5 g.f6 A5 A6 c5 c6):
 Calls Tryz.prog 93 #[.pointer (some ⟨p,0,none⟩),.pointer (some ⟨b+2,0,none⟩),gOp g A5 A6 c5 c6] w (Done b w (opK bs gl.length st g)):=by
 obtain ⟨x0,x1,x2,x3,x4,x5,x6⟩:=g;simp only at h;unfold gOp opK;simp only;cases hall:x5.all (hasC st)
 ·exact qIB w p m A ca A2 cb bs gl b st x1 x2 x3 x4 x5 x6 A5 A6 c5 c6 h x0 hall
 ·have hx:x0=1∨x0=2∨x0=3∨x0=4∨x0=5∨x0=6∨x0=7∨x0=8∨x0=9∨x0=10∨x0=11∨x0=12∨x0=13:=by
   unfold qf at hz;simp only [Bool.and_eq_true,decide_eq_true_eq] at hz;have:=hz.1.1.1.1.1.1.1;omega
  have h11:x0=11→x6≠[]:=by
   intro e hn;subst e hn;simp [qf] at hz
  clear hz;rcases hx with rfl|rfl|rfl|rfl|rfl|rfl|rfl|rfl|rfl|rfl|rfl|rfl|rfl
  ·exact qKB w p m A ca A2 cb bs gl b st x1 x2 x3 x4 x5 x6 A5 A6 c5 c6 h hall
  ·exact qKC w p m A ca A2 cb bs gl b st x1 x2 x3 x4 x5 x6 A5 A6 c5 c6 h hall
  ·exact qKD w p m A ca A2 cb bs gl b st x1 x2 x3 x4 x5 x6 A5 A6 c5 c6 h hall
  ·exact qKE w p m A ca A2 cb bs gl b st x1 x2 x3 x4 x5 x6 A5 A6 c5 c6 h hall
  ·exact qKF w p m A ca A2 cb bs gl b st x1 x2 x3 x4 x5 x6 A5 A6 c5 c6 h hall
  ·exact qKG w p m A ca A2 cb bs gl b st x1 x2 x3 x4 x5 x6 A5 A6 c5 c6 h hall
  ·exact qKH w p m A ca A2 cb bs gl b st x1 x2 x3 x4 x5 x6 A5 A6 c5 c6 h hall
  ·exact qKI w p m A ca A2 cb bs gl b st x1 x2 x3 x4 x5 x6 A5 A6 c5 c6 h hall
  ·exact qKJ w p m A ca A2 cb bs gl b st x1 x2 x3 x4 x5 x6 A5 A6 c5 c6 h hall
  ·exact qI9 w p m A ca A2 cb bs gl b st x1 x2 x3 x4 x5 x6 A5 A6 c5 c6 h hall
  ·exact qJA w p m A ca A2 cb bs gl b st x1 x2 x3 x4 x5 x6 A5 A6 c5 c6 h (h11 rfl) hall
  ·exact qI8 w p m A ca A2 cb bs gl b st x1 x2 x3 x4 x5 x6 A5 A6 c5 c6 h hall
  ·exact qI7 w p m A ca A2 cb bs gl b st x1 x2 x3 x4 x5 x6 A5 A6 c5 c6 h hall
end Go.Proofs.YtoonkkipnljflaaGreatDoor.CJ
