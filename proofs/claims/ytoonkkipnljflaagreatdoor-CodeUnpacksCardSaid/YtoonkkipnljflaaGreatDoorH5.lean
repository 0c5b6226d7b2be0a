/- The reference's look at an instruction. Conditions: the look, the instruction and the code lie in memory; the listed variables are laid. -/
import Derived.Test.YtoonkkipnljflaaGreatDoorRG
import Derived.Test.YtoonkkipnljflaaGreatDoorHA
import Derived.Test.YtoonkkipnljflaaGreatDoorHB
namespace Go.Proofs.YtoonkkipnljflaaGreatDoor.CJ
open Go.RowKit Go.Proofs.YtoonkkipnljflaaGreatDoorW.PrintWords Go.Proofs.YtoonkkipnljflaaGreatDoorW.PrintLast Go.Proofs.YtoonkkipnljflaaGreatDoor.PT Go.Proofs.YtoonkkipnljflaaGreatDoor.IMaps
set_option linter.unusedVariables false
set_option linter.unusedSimpArgs false
structure LI(w0 w:World)(q xb:Nat)(A:Option Addr)(ca:Nat)(A2:Option Addr)(cb:Nat)(bs:List GBk)(gl:List GGl)(st:List Int)(x0 x1 x2 x3:Int)(x4:ByteArray)(x5:List Int)(x6:List GAl)(A5 A6:Option Addr)(c5 c6:Nat):Prop where
 lx:LX w0 w q A ca A2 cb bs gl st.length st
 box:w.heap[xb]? = some (.cells #[.int .i64 x0,.int .i64 x1,.int .i64 x2,.int .i64 x3,.string x4,.slice A5 x5.length c5,.slice A6 x6.length c6] 59 (0,0))
 m5:(Kd.int .i64).C w A5 x5.length x5
 m6:kAl.C w A6 x6.length x6
theorem LI.below{w0 w:World}{q xb:Nat}{A:Option Addr}{ca:Nat}{A2:Option Addr}{cb:Nat}{bs:List GBk}{gl:List GGl}{st:List Int}{x0 x1 x2 x3:Int}{x4:ByteArray}{x5:List Int}{x6:List GAl}{A5 A6:Option Addr}{c5 c6:Nat}{w':World}(h:LI w0 w q xb A ca A2 cb bs gl st x0 x1 x2 x3 x4 x5 x6 A5 A6 c5 c6)(hb:Below w.heap.size w w'):LI w0 w' q xb A ca A2 cb bs gl st x0 x1 x2 x3 x4 x5 x6 A5 A6 c5 c6:=
 ⟨h.lx.below hb,(hb.block _ (Array.getElem?_eq_some_iff.1 h.box).1).trans h.box,Kd.C_below h.m5 hb,Kd.C_below h.m6 hb⟩
def LoPost(w0:World)(q:Nat)(A:Option Addr)(ca:Nat)(A2:Option Addr)(cb:Nat)(bs:List GBk)(gl:List GGl):Option (List Int)→Ending→World→Prop
 |some st,e,w'=>e=.returned (.bool true)∧LX w0 w' q A ca A2 cb bs gl st.length st
 |none,e,w'=>e=.returned (.bool false)∧Below w0.heap.size w0 w'
theorem qZ{w0 w:World}{q:Nat}{A:Option Addr}{ca:Nat}{A2:Option Addr}{cb:Nat}{bs:List GBk}{gl:List GGl}{m:Nat}{st:List Int}(h:LX w0 w q A ca A2 cb bs gl m st):LoPost w0 q A ca A2 cb bs gl none (.returned (.bool false)) w:=⟨rfl,h.bel⟩
theorem opX_pre(bs:List GBk)(gs:Nat)(st:List Int)(g:GOp)(h1:isOp g.f0=true)(h2:zX g=true)(h3:g.f5.all (hasC st)=true)(h4:(g.f0==8||qv g.f0)=true→qz st=true):opX bs gs st g=opY bs gs st g:=by
 unfold opX;have h1':inB g.f0 1 13=true:=h1;rw [h1',h2,h3];cases h5:(g.f0==8||qv g.f0)
 ·simp
 ·simp [h4 h5]
theorem qIs(bs:List GBk)(gs:Nat)(st:List Int)(g:GOp)(h:isOp g.f0=false∨zX g=false∨g.f5.all (hasC st)=false∨((g.f0==8||qv g.f0)=true∧qz st=false)):opX bs gs st g=none:=by
 unfold opX;have e:isOp g.f0=inB g.f0 1 13:=rfl;rw [e] at h;rcases h with h|h|h|⟨h,h2⟩
 ·simp [h]
 ·simp [h]
 ·simp [h]
 ·simp [h,h2]
theorem opY2{bs:List GBk}{gs:Nat}{st:List Int}{x1 x2 x3:Int}{x4:ByteArray}{x5:List Int}{x6:List GAl}{b:GBk}(hbk:blkC bs x2=some b):opY bs gs st ⟨2,x1,x2,x3,x4,x5,x6⟩=if b.f1=0∧b.f0=x5.length then qX st x1 2 else none:=by
 show (match blkC bs x2 with|some c=>if c.f1=0∧c.f0=x5.length then qX st x1 2 else none|none=>none)=_
 rw [hbk]
theorem opY3{bs:List GBk}{gs:Nat}{st:List Int}{x1 x2 x3:Int}{x4:ByteArray}{x5:List Int}{x6:List GAl}{b:GBk}(hbk:blkC bs x2=some b):opY bs gs st ⟨3,x1,x2,x3,x4,x5,x6⟩=if 1≤b.f1∧b.f1≤8∧b.f0=x5.length then qX st x1 3 else none:=by
 show (match blkC bs x2 with|some c=>if 1≤c.f1∧c.f1≤8∧c.f0=x5.length then qX st x1 3 else none|none=>none)=_
 rw [hbk]
theorem qCM{bs:List GBk}{gs:Nat}{st:List Int}{x1 x2 x3:Int}{x4:ByteArray}{x5:List Int}{x6:List GAl}:(qX st x1 2=none→opY bs gs st ⟨2,x1,x2,x3,x4,x5,x6⟩=none)∧(qX st x1 3=none→opY bs gs st ⟨3,x1,x2,x3,x4,x5,x6⟩=none)∧(blkC bs x2=none→opY bs gs st ⟨2,x1,x2,x3,x4,x5,x6⟩=none∧opY bs gs st ⟨3,x1,x2,x3,x4,x5,x6⟩=none):=by
 refine ⟨fun h=>?_,fun h=>?_,fun h=>⟨?_,?_⟩⟩
 ·show (match blkC bs x2 with|some c=>if c.f1=0∧c.f0=x5.length then qX st x1 2 else none|none=>none)=_
  rw [h]; cases blkC bs x2<;>simp
 ·show (match blkC bs x2 with|some c=>if 1≤c.f1∧c.f1≤8∧c.f0=x5.length then qX st x1 3 else none|none=>none)=_
  rw [h]; cases blkC bs x2<;>simp
 ·show (match blkC bs x2 with|some c=>if c.f1=0∧c.f0=x5.length then qX st x1 2 else none|none=>none)=_
  rw [h]
 ·show (match blkC bs x2 with|some c=>if 1≤c.f1∧c.f1≤8∧c.f0=x5.length then qX st x1 3 else none|none=>none)=_
  rw [h]
theorem qDD{w0 w:World}{q:Nat}{A:Option Addr}{ca:Nat}{A2:Option Addr}{cb:Nat}{bs:List GBk}{gl:List GGl}{m:Nat}{st:List Int}(h:LX w0 w q A ca A2 cb bs gl m st)(x:Int)(n:Nat)(hn:w.heap.size=n):
 Calls Tryz.prog 96 #[.pointer (some ⟨q,0,none⟩),.slice (some ⟨n,0,none⟩) 1 1] (w.alloc (.cells #[.int .i64 x] 3)) fun e w'=>e=.returned (.bool (hasC st x))∧Below (w.alloc (.cells #[.int .i64 x] 3)).heap.size (w.alloc (.cells #[.int .i64 x] 3)) w':=by
 subst hn;refine (qCF (h.below (qC (Below.refl _ _) _)) [x] _ 1 (Nat.le_refl _) (qEO w x)).mono ?_;rintro e w' ⟨rfl,hb⟩;exact ⟨by simp [List.all],hb⟩
theorem qJY{w0 w:World}{q:Nat}{A:Option Addr}{ca:Nat}{A2:Option Addr}{cb:Nat}{bs:List GBk}{gl:List GGl}{m:Nat}{st:List Int}(h:LX w0 w q A ca A2 cb bs gl m st)(x y:Int)(n:Nat)(hn:w.heap.size=n):
 Calls Tryz.prog 96 #[.pointer (some ⟨q,0,none⟩),.slice (some ⟨n,0,none⟩) 2 2] (w.alloc (.cells #[.int .i64 x,.int .i64 y] 3)) fun e w'=>e=.returned (.bool (hasC st x&&hasC st y))∧Below (w.alloc (.cells #[.int .i64 x,.int .i64 y] 3)).heap.size (w.alloc (.cells #[.int .i64 x,.int .i64 y] 3)) w':=by
 subst hn;refine (qCF (h.below (qC (Below.refl _ _) _)) [x,y] _ 2 (Nat.le_refl _) (qG7 w x y)).mono ?_;rintro e w' ⟨rfl,hb⟩;exact ⟨by simp [List.all],hb⟩
theorem qII(s:List UInt8):qBb s=decide (9<Qa s):=by
 unfold qBb arL qBV Qa;cases h:Qu s with
 |none=>
  unfold Qu at h;rw [List.findIdx?_eq_none_iff] at h;rw [List.find?_eq_none.2 (fun x hx=>by simpa using h x hx)];rfl
 |some k=>
  unfold Qu at h;obtain ⟨hlt,hk,hm⟩:=List.findIdx?_eq_some_iff_getElem.1 h;rw [(List.find?_eq_some_iff_getElem (p:=fun p:List UInt8×Int=>p.1==s)).2 ⟨hk,k,hlt,rfl,fun j hj=>by simpa using hm j hj⟩];simp only [Option.map_some,Option.isSome_some,Bool.true_and];rw [←decide_not];exact decide_eq_decide.2 (by omega)
theorem qIJ(s:List UInt8):qBB s=(decide (0≤Qa s)&&decide (Qa s<8)):=by
 unfold qBB Qa;cases h:Qu s with
 |none=>rfl
 |some k=>simp; omega
theorem qFm{w w':World}{o:Option GBk}{e:Ending}(h:LbPost w o e w'):∃(y0 y1:Int) (A3:Option Addr) (n c:Nat) (ok:Bool),e=.returned (.tuple #[.agg #[.int .i64 y0,.int .i64 y1,.slice A3 n c],.bool ok])∧(o=none∧ok=false∨∃b,o=some b∧ok=true∧y0=b.f0∧y1=b.f1)∧Below w.heap.size w w':=by
 cases o with
 |none=>exact ⟨0,0,none,0,0,false,h.1,.inl ⟨rfl,rfl⟩,h.2⟩
 |some b=>
  obtain ⟨A3,c,h1,h2,h3,h4⟩:=h;exact ⟨b.f0,b.f1,A3,b.f2.length,c,true,h1,.inr ⟨b,rfl,rfl,rfl,rfl⟩,h4⟩
set_option maxRecDepth 100000 in
set_option maxHeartbeats 32000000 in
theorem qHe{w0 w:World}{q:Nat}{A:Option Addr}{ca:Nat}{A2:Option Addr}{cb:Nat}{bs:List GBk}{gl:List GGl}{st:List Int}(h:LX w0 w q A ca A2 cb bs gl st.length st)(hs:st.length≤60)(x0 x1 x2 x3:Int)(x4:ByteArray)(x5:List Int)(x6:List GAl)(A5 A6:Option Addr)(c5 c6:Nat)
 (l5:x5.length≤c5) (m5:(Kd.int .i64).C w A5 x5.length x5) (l6:x6.length≤c6) (m6:kAl.C w A6 x6.length x6) (s4:x4.size≤maxLen) (s6:∀a∈x6,a.f1.size≤maxLen):
 Calls Tryz.prog 70 #[.pointer (some ⟨q,0,none⟩),gOp ⟨x0,x1,x2,x3,x4,x5,x6⟩ A5 A6 c5 c6] w (LoPost w0 q A ca A2 cb bs gl (opX bs gl.length st ⟨x0,x1,x2,x3,x4,x5,x6⟩)):=by
 obtain ⟨R,hR⟩:∃R,R=opX bs gl.length st ⟨x0,x1,x2,x3,x4,x5,x6⟩:=⟨_,rfl⟩;rw [←hR];have HR:=Lib.hid hR;clear hR;unfold gOp;simp only;have hb1:=qC (Below.refl w.heap.size w) (.cells #[.int .i64 x0,.int .i64 x1,.int .i64 x2,.int .i64 x3,.string x4,.slice A5 x5.length c5,.slice A6 x6.length c6] 59);have H1:=Lib.hid (LI.mk (h.below hb1) (MapKept.heap_alloc w (.cells #[.int .i64 x0,.int .i64 x1,.int .i64 x2,.int .i64 x3,.string x4,.slice A5 x5.length c5,.slice A6 x6.length c6] 59)).1 (Kd.C_below m5 hb1) (Kd.C_below m6 hb1));have hl5:=m5.2.1;have HS4:=Lib.hid s4;have HS6:=Lib.hid s6;clear h hb1 m5 m6 s4 s6;go_enter Tryz.func70,Tryz.ntmps70;go_wp2_with fail;generalize w.alloc (.cells #[.int .i64 x0,.int .i64 x1,.int .i64 x2,.int .i64 x3,.string x4,.slice A5 x5.length c5,.slice A6 x6.length c6] 59)=w1 at *;generalize w.heap.size=xb at *;refine (qGh x0 _ H1.out.lx.rls).mono ?_;rintro e w2 ⟨rfl,rfl⟩;cases hop:isOp x0
 ·have hn:qg x0=[]:=by unfold qg; rw [hop]; rfl
  rw [hn];have HB:=Lib.hid (qIs bs gl.length st ⟨x0,x1,x2,x3,x4,x5,x6⟩ (.inl hop));clear hn hop;have HF:Hid (R=none):=Lib.hid (HR.out.trans (HB.out));go_wp2;go_ret;rw [HF.out];exact qZ H1.out.lx
 have hn:(qg x0==[])=false:=by
  have:1≤x0∧x0≤13:=by unfold isOp at hop; simpa using hop
  have:x0=1∨x0=2∨x0=3∨x0=4∨x0=5∨x0=6∨x0=7∨x0=8∨x0=9∨x0=10∨x0=11∨x0=12∨x0=13:=by omega
  rcases this with rfl|rfl|rfl|rfl|rfl|rfl|rfl|rfl|rfl|rfl|rfl|rfl|rfl<;>rfl
 have hx:1≤x0∧x0≤13:=by unfold isOp at hop; simpa using hop
 have HBAD:=Lib.hid (qIs bs gl.length st ⟨x0,x1,x2,x3,x4,x5,x6⟩);have HPRE:=Lib.hid (opX_pre bs gl.length st ⟨x0,x1,x2,x3,x4,x5,x6⟩ hop);generalize qg x0=nm at *;have HX:=Lib.hid hx;clear hop hx;have o0:=qD H1.out.box (i:=0) rfl;have o1:=qD H1.out.box (i:=1) rfl;have o2:=qD H1.out.box (i:=2) rfl;have o3:=qD H1.out.box (i:=3) rfl;have o4:=qD H1.out.box (i:=4) rfl;have o5:=qD H1.out.box (i:=5) rfl;have o6:=qD H1.out.box (i:=6) rfl;go_wp2_with fail;refine (qJX w1 x0 x1 x2 x3 x4 x5 x6 A5 A6 c5 c6 HX.out).mono ?_;rintro e w2 ⟨rfl,hb2⟩;have H2:=Lib.hid (H1.out.below hb2);clear o0 o1 o2 o3 o4 o5 o6 hb2 H1;cases hz:zX ⟨x0,x1,x2,x3,x4,x5,x6⟩
 ·have HB:=Lib.hid (HBAD.out (.inr (.inl hz)));clear hz;have HF:Hid (R=none):=Lib.hid (HR.out.trans (HB.out));go_wp2;go_ret;rw [HF.out];exact qZ H2.out.lx
 have o0:=qD H2.out.box (i:=0) rfl;have o1:=qD H2.out.box (i:=1) rfl;have o2:=qD H2.out.box (i:=2) rfl;have o3:=qD H2.out.box (i:=3) rfl;have o4:=qD H2.out.box (i:=4) rfl;have o5:=qD H2.out.box (i:=5) rfl;have o6:=qD H2.out.box (i:=6) rfl;go_wp2_with fail;refine (qCF H2.out.lx x5 A5 c5 l5 H2.out.m5).mono ?_;rintro e w3 ⟨rfl,hb3⟩;have H3:=Lib.hid (H2.out.below hb3);clear o0 o1 o2 o3 o4 o5 o6 hb3 H2;cases hh:x5.all (hasC st)
 ·have HB:=Lib.hid (HBAD.out (.inr (.inr (.inl hh))));clear hh hz;have HF:Hid (R=none):=Lib.hid (HR.out.trans (HB.out));go_wp2;go_ret;rw [HF.out];exact qZ H3.out.lx
 have HP3:=Lib.hid (HPRE.out hz hh);clear hz hh HPRE;have o0:=qD H3.out.box (i:=0) rfl;have o1:=qD H3.out.box (i:=1) rfl;have o2:=qD H3.out.box (i:=2) rfl;have o3:=qD H3.out.box (i:=3) rfl;have o4:=qD H3.out.box (i:=4) rfl;have o5:=qD H3.out.box (i:=5) rfl;have o6:=qD H3.out.box (i:=6) rfl;by_cases t8:x0=8
 ·subst t8;go_wp2_with fail;refine (qCe H3.out.lx).mono ?_;rintro e w4 ⟨rfl,rfl⟩;cases hf:qz st
  ·have HB:=Lib.hid (HBAD.out (.inr (.inr (.inr ⟨rfl,hf⟩))));clear hf;have HF:Hid (R=none):=Lib.hid (HR.out.trans (HB.out));go_wp2;go_ret;rw [HF.out];exact qZ H3.out.lx
  have HY:=Lib.hid (HR.out.trans (HP3.out (fun _=>hf)));clear hf HP3 HBAD;go_wp2_with fail;refine (qA0 H3.out.lx x2).mono ?_;intro e w5 hp;obtain ⟨y0,y1,A3,n3,c3,ok,rfl,hB,hb5⟩:=qFm hp;have H5:=Lib.hid (H3.out.below (qF (Below.refl _ _) (qC hb5 (.cells #[.int .i64 y0,.int .i64 y1,.slice A3 n3 c3] 55))));have HYB:=Lib.hid (MapKept.heap_alloc w5 (.cells #[.int .i64 y0,.int .i64 y1,.slice A3 n3 c3] 55)).1;have HBk:=Lib.hid hB;clear o0 o1 o2 o3 o4 o5 o6 hb5 hp hB H3;have o0:=qD H5.out.box (i:=0) rfl;have o1:=qD H5.out.box (i:=1) rfl;have o2:=qD H5.out.box (i:=2) rfl;have o3:=qD H5.out.box (i:=3) rfl;have o4:=qD H5.out.box (i:=4) rfl;have o5:=qD H5.out.box (i:=5) rfl;have o6:=qD H5.out.box (i:=6) rfl;have yc0:=qD HYB.out (i:=0) rfl;have yc1:=qD HYB.out (i:=1) rfl;rcases HBk.out with ⟨hbk,rfl⟩|⟨b,hbk,rfl,rfl,rfl⟩
  ·skip
   have HF:Hid (R=none):=Lib.hid (HY.out.trans (by simp [opY,hbk]));go_wp2;go_ret;rw [HF.out];exact qZ H5.out.lx
  by_cases c0:b.f1=1;rotate_left
  ·have d0:(b.f1==1)=false:=beq_eq_false_iff_ne.2 c0;have HF:Hid (R=none):=Lib.hid (HY.out.trans (by simp [opY,hbk,c0]));clear c0;go_wp2;go_ret;rw [HF.out];exact qZ H5.out.lx
  have d0:(b.f1==1)=true:=beq_iff_eq.2 c0;have C0:=Lib.hid c0;clear c0;by_cases c1:b.f0=(x5.length:Int);rotate_left
  ·have d1:(b.f0==(x5.length:Int))=false:=beq_eq_false_iff_ne.2 c1;have HF:Hid (R=none):=Lib.hid (HY.out.trans (by simp [opY,hbk,c1]));clear c1;go_wp2;go_ret;rw [HF.out];exact qZ H5.out.lx
  have d1:(b.f0==(x5.length:Int))=true:=beq_iff_eq.2 c1;have C1:=Lib.hid c1;clear c1;have HF:Hid (R=some st):=Lib.hid (HY.out.trans (by simp [opY,hbk,C0.out,C1.out]));go_wp2;go_ret;rw [HF.out];exact ⟨rfl,H5.out.lx⟩
 have e8:(x0==8)=false:=beq_eq_false_iff_ne.2 t8;clear t8;go_wp2_with fail;refine (qE9 x0 _).mono ?_;rintro e w4 ⟨rfl,rfl⟩;cases he:qv x0
 ·have HY:=Lib.hid (HR.out.trans (HP3.out (fun hh=>by simp [e8,he] at hh)));have hxs:x0=1∨x0=2∨x0=3∨x0=4∨x0=5∨x0=6∨x0=7:=by
   have h1:=HX.out;have h2:¬x0=8:=beq_eq_false_iff_ne.1 e8;unfold qv at he;simp only [Bool.and_eq_false_iff,decide_eq_false_iff_not] at he;omega
  clear he e8 HP3 HBAD;rcases hxs with rfl|rfl|rfl|rfl|rfl|rfl|rfl
  all_goals
   go_wp2_with fail;refine (qA0 H3.out.lx x2).mono ?_;intro e w5 hp;obtain ⟨y0,y1,A3,n3,c3,ok,rfl,hB,hb5⟩:=qFm hp;have H5:=Lib.hid (H3.out.below (qF (Below.refl _ _) (qC hb5 (.cells #[.int .i64 y0,.int .i64 y1,.slice A3 n3 c3] 55))));have HYB:=Lib.hid (MapKept.heap_alloc w5 (.cells #[.int .i64 y0,.int .i64 y1,.slice A3 n3 c3] 55)).1;have HBk:=Lib.hid hB;clear o0 o1 o2 o3 o4 o5 o6 hb5 hp hB H3;have o0:=qD H5.out.box (i:=0) rfl;have o1:=qD H5.out.box (i:=1) rfl;have o2:=qD H5.out.box (i:=2) rfl;have o3:=qD H5.out.box (i:=3) rfl;have o4:=qD H5.out.box (i:=4) rfl;have o5:=qD H5.out.box (i:=5) rfl;have o6:=qD H5.out.box (i:=6) rfl;have yc0:=qD HYB.out (i:=0) rfl;have yc1:=qD HYB.out (i:=1) rfl
  ·skip
   by_cases c0:x3<1
   ·have d0:decide (x3<1)=true:=decide_eq_true c0;have e:inB x3 1 12=false:=by unfold inB; simp; omega
    clear c0;have HF:Hid (R=none):=Lib.hid (HY.out.trans (by simp [opY,e]));go_wp2;go_ret;rw [HF.out];exact qZ H5.out.lx
   by_cases c1:12<x3
   ·have d0:decide (x3<1)=false:=decide_eq_false c0;have d1:decide (12<x3)=true:=decide_eq_true c1;have e:inB x3 1 12=false:=by unfold inB; simp; omega
    clear c0 c1;have HF:Hid (R=none):=Lib.hid (HY.out.trans (by simp [opY,e]));go_wp2;go_ret;rw [HF.out];exact qZ H5.out.lx
   have d0:decide (x3<1)=false:=decide_eq_false c0;have d1:decide (12<x3)=false:=decide_eq_false c1;obtain ⟨n,rfl⟩:∃n:Nat,x3=n:=⟨x3.toNat,by omega⟩;have HF:Hid (R=some (st++List.replicate n 1)):=Lib.hid (HY.out.trans (by have e:inB n 1 12=true:=(by unfold inB; simp; omega); simp [opY,e]));have hn12:n≤100:=by omega
   clear c0 c1;go_wp2_with fail;refine (qCG H5.out.lx n 1 (by omega) hn12).mono ?_;rintro e w7 ⟨rfl,hL⟩;have HL:=Lib.hid hL;clear hL;go_wp2;go_ret;rw [HF.out];exact ⟨rfl,HL.out⟩
  ·skip
   go_wp2_with fail;refine (qAa H5.out.lx x1 2).mono ?_;rintro e w7 ⟨rfl,hL,hk7⟩;have HL:=Lib.hid hL;have o4':=qD (hk7 _ _ _ _ H5.out.box (by decide)) (i:=4) rfl;have o5':=qD (hk7 _ _ _ _ H5.out.box (by decide)) (i:=5) rfl;have yc0':=qD (hk7 _ _ _ _ HYB.out (by decide)) (i:=0) rfl;have yc1':=qD (hk7 _ _ _ _ HYB.out (by decide)) (i:=1) rfl;clear hL hk7 o0 o1 o2 o3 o4 o5 o6 yc0 yc1 HYB;cases hfl:qX st x1 2 with
   |none=>
    rw [hfl] at HL;have HF:Hid (R=none):=Lib.hid (HY.out.trans (qCM.1 hfl));go_wp2;go_ret;rw [HF.out];exact qZ HL.out
   |some st'=>
    rw [hfl] at HL;rcases HBk.out with ⟨hbk,rfl⟩|⟨b,hbk,rfl,rfl,rfl⟩
    ·skip
     have HF:Hid (R=none):=Lib.hid (HY.out.trans ((qCM.2.2 hbk).1));go_wp2;go_ret;rw [HF.out];exact qZ HL.out
    have HL7:Hid (LX w0 w7 q A ca A2 cb bs gl st'.length st'):=Lib.hid (by rw [qA6 hfl]; exact HL.out);by_cases c0:b.f1=0;rotate_left
    ·have d0:(b.f1==0)=false:=beq_eq_false_iff_ne.2 c0;have HF:Hid (R=none):=Lib.hid (HY.out.trans (by rw [opY2 hbk,if_neg (fun hh=>c0 hh.1)]));clear c0;go_wp2;go_ret;rw [HF.out];exact qZ HL.out
    have d0:(b.f1==0)=true:=beq_iff_eq.2 c0;have C0:=Lib.hid c0;clear c0;by_cases c1:b.f0=(x5.length:Int);rotate_left
    ·have d1:(b.f0==(x5.length:Int))=false:=beq_eq_false_iff_ne.2 c1;have HF:Hid (R=none):=Lib.hid (HY.out.trans (by rw [opY2 hbk,if_neg (fun hh=>c1 hh.2)]));clear c1;go_wp2;go_ret;rw [HF.out];exact qZ HL.out
    have d1:(b.f0==(x5.length:Int))=true:=beq_iff_eq.2 c1;have C1:=Lib.hid c1;clear c1;have HF:Hid (R=some st'):=Lib.hid (HY.out.trans (by rw [opY2 hbk,if_pos ⟨C0.out,C1.out⟩,hfl]));go_wp2;go_ret;rw [HF.out];exact ⟨rfl,HL7.out⟩
  ·skip
   go_wp2_with fail;refine (qAa H5.out.lx x1 3).mono ?_;rintro e w7 ⟨rfl,hL,hk7⟩;have HL:=Lib.hid hL;have o4':=qD (hk7 _ _ _ _ H5.out.box (by decide)) (i:=4) rfl;have o5':=qD (hk7 _ _ _ _ H5.out.box (by decide)) (i:=5) rfl;have yc0':=qD (hk7 _ _ _ _ HYB.out (by decide)) (i:=0) rfl;have yc1':=qD (hk7 _ _ _ _ HYB.out (by decide)) (i:=1) rfl;clear hL hk7 o0 o1 o2 o3 o4 o5 o6 yc0 yc1 HYB;cases hfl:qX st x1 3 with
   |none=>
    rw [hfl] at HL;have HF:Hid (R=none):=Lib.hid (HY.out.trans (qCM.2.1 hfl));go_wp2;go_ret;rw [HF.out];exact qZ HL.out
   |some st'=>
    rw [hfl] at HL;rcases HBk.out with ⟨hbk,rfl⟩|⟨b,hbk,rfl,rfl,rfl⟩
    ·skip
     have HF:Hid (R=none):=Lib.hid (HY.out.trans ((qCM.2.2 hbk).2));go_wp2;go_ret;rw [HF.out];exact qZ HL.out
    have HL7:Hid (LX w0 w7 q A ca A2 cb bs gl st'.length st'):=Lib.hid (by rw [qA6 hfl]; exact HL.out);by_cases c0:1≤b.f1;rotate_left
    ·have d0:decide (1≤b.f1)=false:=decide_eq_false c0;have HF:Hid (R=none):=Lib.hid (HY.out.trans (by rw [opY3 hbk,if_neg (fun hh=>c0 hh.1)]));clear c0;go_wp2;go_ret;rw [HF.out];exact qZ HL.out
    have d0:decide (1≤b.f1)=true:=decide_eq_true c0;have C0:=Lib.hid c0;clear c0;by_cases c1:b.f1≤8;rotate_left
    ·have d1:decide (b.f1≤8)=false:=decide_eq_false c1;have HF:Hid (R=none):=Lib.hid (HY.out.trans (by rw [opY3 hbk,if_neg (fun hh=>c1 hh.2.1)]));clear c1;go_wp2;go_ret;rw [HF.out];exact qZ HL.out
    have d1:decide (b.f1≤8)=true:=decide_eq_true c1;have C1:=Lib.hid c1;clear c1;by_cases c2:b.f0=(x5.length:Int);rotate_left
    ·have d2:(b.f0==(x5.length:Int))=false:=beq_eq_false_iff_ne.2 c2;have HF:Hid (R=none):=Lib.hid (HY.out.trans (by rw [opY3 hbk,if_neg (fun hh=>c2 hh.2.2)]));clear c2;go_wp2;go_ret;rw [HF.out];exact qZ HL.out
    have d2:(b.f0==(x5.length:Int))=true:=beq_iff_eq.2 c2;have C2:=Lib.hid c2;clear c2;have HF:Hid (R=some st'):=Lib.hid (HY.out.trans (by rw [opY3 hbk,if_pos ⟨C0.out,C1.out,C2.out⟩,hfl]));go_wp2;go_ret;rw [HF.out];exact ⟨rfl,HL7.out⟩
  ·skip
   go_wp2_with fail;refine (qAa H5.out.lx x1 3).mono ?_;rintro e w7 ⟨rfl,hL,hk7⟩;have HL:=Lib.hid hL;have o4':=qD (hk7 _ _ _ _ H5.out.box (by decide)) (i:=4) rfl;have o5':=qD (hk7 _ _ _ _ H5.out.box (by decide)) (i:=5) rfl;have yc0':=qD (hk7 _ _ _ _ HYB.out (by decide)) (i:=0) rfl;have yc1':=qD (hk7 _ _ _ _ HYB.out (by decide)) (i:=1) rfl;clear hL hk7 o0 o1 o2 o3 o4 o5 o6 yc0 yc1 HYB;cases hfl:qX st x1 3 with
   |none=>
    rw [hfl] at HL;have HF:Hid (R=none):=Lib.hid (HY.out.trans (by simp [opY,opR4,hfl]));go_wp2;go_ret;rw [HF.out];exact qZ HL.out
   |some st'=>
    rw [hfl] at HL;have HY4:Hid (R=if qe x4.data.toList=true∧x5.length≤12 then some st' else none):=Lib.hid (HY.out.trans (by simp [opY,opR4,hfl]));have HL7:Hid (LX w0 w7 q A ca A2 cb bs gl st'.length st'):=Lib.hid (by rw [qA6 hfl]; exact HL.out);have HNm:=Lib.hid (fun w=>qBl x4 HS4.out w);generalize qe x4.data.toList=nb at *;go_wp2_with fail;refine (HNm.out _).mono ?_;rintro e w8 ⟨rfl,rfl⟩;cases nb
    ·have HF:Hid (R=none):=Lib.hid (by rw [HY4.out]; simp);go_wp2;go_ret;rw [HF.out];exact qZ HL.out
    by_cases c0:x5.length≤12
    ·have d0:decide ((x5.length:Int)≤12)=true:=decide_eq_true (by omega);have HF:Hid (R=some st'):=Lib.hid (by rw [HY4.out]; simp [c0]);clear c0;go_wp2;go_ret;rw [HF.out];exact ⟨rfl,HL7.out⟩
    ·have d0:decide ((x5.length:Int)≤12)=false:=decide_eq_false (by omega);have HF:Hid (R=none):=Lib.hid (by rw [HY4.out]; simp [c0]);clear c0;go_wp2;go_ret;rw [HF.out];exact qZ HL.out
  ·skip
   go_wp2_with fail;refine (qAa H5.out.lx x1 3).mono ?_;rintro e w7 ⟨rfl,hL,hk7⟩;have HL:=Lib.hid hL;have o4':=qD (hk7 _ _ _ _ H5.out.box (by decide)) (i:=4) rfl;have o5':=qD (hk7 _ _ _ _ H5.out.box (by decide)) (i:=5) rfl;have yc0':=qD (hk7 _ _ _ _ HYB.out (by decide)) (i:=0) rfl;have yc1':=qD (hk7 _ _ _ _ HYB.out (by decide)) (i:=1) rfl;clear hL hk7 o0 o1 o2 o3 o4 o5 o6 yc0 yc1 HYB;cases hfl:qX st x1 3 with
   |none=>
    rw [hfl] at HL;have HF:Hid (R=none):=Lib.hid (HY.out.trans (by simp [opY,opR5,hfl]));go_wp2;go_ret;rw [HF.out];exact qZ HL.out
   |some st'=>
    rw [hfl] at HL;have HF:Hid (R=some st'):=Lib.hid (HY.out.trans (by simp [opY,opR5,hfl]));go_wp2;go_ret;rw [HF.out];exact ⟨rfl,by rw [qA6 hfl]; exact HL.out⟩
  ·skip
   have HAR:=Lib.hid (qFi x4 _ H5.out.lx.rls);have HY6:Hid (R=if decide (9<Qa x4.data.toList)=true∧(x5.length:Int)=(arL x4.data.toList).getD 0 then qX st x1 3 else none):=Lib.hid (HY.out.trans (by simp [opY,opR6,qII]));have HIS:Hid (9<Qa x4.data.toList→(arL x4.data.toList).isSome=true):=Lib.hid fun hh=>by obtain ⟨k,hk,_,e⟩:=qE8 (show 0≤Qa x4.data.toList by omega); rw [e]; rfl
   generalize hai:(arL x4.data.toList).isSome=ai at *;generalize (arL x4.data.toList).getD 0=av at *;have HPR:=Lib.hid (fun w=>qAr x4 w);generalize Qa x4.data.toList=pi at *;clear hai;go_wp2_with fail;refine HAR.out.mono ?_;rintro e w6 ⟨rfl,hb6⟩;have H6:=Lib.hid (H5.out.below hb6);have HYB6:Hid _:=Lib.hid ((hb6.block _ (Array.getElem?_eq_some_iff.1 HYB.out).1).trans HYB.out);clear hb6 o0 o1 o2 o3 o4 o5 o6 yc0 yc1 HAR HYB;have HYB:=HYB6;clear HYB6;have o0:=qD H6.out.box (i:=0) rfl;have o1:=qD H6.out.box (i:=1) rfl;have o2:=qD H6.out.box (i:=2) rfl;have o3:=qD H6.out.box (i:=3) rfl;have o4:=qD H6.out.box (i:=4) rfl;have o5:=qD H6.out.box (i:=5) rfl;have o6:=qD H6.out.box (i:=6) rfl;have yc0:=qD HYB.out (i:=0) rfl;have yc1:=qD HYB.out (i:=1) rfl;go_wp2_with fail;refine (qAa H6.out.lx x1 3).mono ?_;rintro e w7 ⟨rfl,hL,hk7⟩;have HL:=Lib.hid hL;have o4':=qD (hk7 _ _ _ _ H6.out.box (by decide)) (i:=4) rfl;have o5':=qD (hk7 _ _ _ _ H6.out.box (by decide)) (i:=5) rfl;have yc0':=qD (hk7 _ _ _ _ HYB.out (by decide)) (i:=0) rfl;have yc1':=qD (hk7 _ _ _ _ HYB.out (by decide)) (i:=1) rfl;clear hL hk7 o0 o1 o2 o3 o4 o5 o6 yc0 yc1 HYB;cases hfl:qX st x1 3 with
   |none=>
    rw [hfl] at HL HY6;have HF:Hid (R=none):=Lib.hid (by rw [HY6.out]; simp);go_wp2;go_ret;rw [HF.out];exact qZ HL.out
   |some st'=>
    rw [hfl] at HL HY6;have HL7:Hid (LX w0 w7 q A ca A2 cb bs gl st'.length st'):=Lib.hid (by rw [qA6 hfl]; exact HL.out);cases ai
    ·have HF:Hid (R=none):=Lib.hid (by rw [HY6.out,if_neg]; intro hh; have:=HIS.out (by simpa using hh.1); cases this);go_wp2;go_ret;rw [HF.out];exact qZ HL.out
    go_wp2_with fail;refine (HPR.out _).mono ?_;rintro e w8 ⟨rfl,hb8⟩;have o5a:=qA hb8 o5';have HL8:=Lib.hid (HL7.out.below hb8);clear o4' o5' yc0' yc1' hb8 HL HL7;go_wp2_with fail;refine (qAr ⟨#[116,104,114,111,119]⟩ _).mono ?_;rintro e w9 ⟨rfl,hb9⟩;have o5b:=qA hb9 o5a;have HL9:=Lib.hid (HL8.out.below hb9);clear o5a hb9 HL8;have e9:Qa (ByteArray.mk #[116,104,114,111,119]).data.toList=9:=by decide +kernel
    rw [e9];by_cases c0:9<pi;rotate_left
    ·have d0:decide (9<pi)=false:=decide_eq_false c0;have HF:Hid (R=none):=Lib.hid (by rw [HY6.out]; simp [c0]);clear c0;go_wp2;go_ret;rw [HF.out];exact qZ HL9.out
    have d0:decide (9<pi)=true:=decide_eq_true c0;by_cases c1:(x5.length:Int)=av
    ·have d1:((x5.length:Int)==av)=true:=beq_iff_eq.2 c1;have HF:Hid (R=some st'):=Lib.hid (by rw [HY6.out]; simp [c0,c1]);clear c0 c1;go_wp2;go_ret;rw [HF.out];exact ⟨rfl,HL9.out⟩
    ·have d1:((x5.length:Int)==av)=false:=beq_eq_false_iff_ne.2 c1;have HF:Hid (R=none):=Lib.hid (by rw [HY6.out]; simp [c1]);clear c0 c1;go_wp2;go_ret;rw [HF.out];exact qZ HL9.out
  ·skip
   obtain ⟨a7,b7,e70,e71,e72,e73,_⟩:=H5.out.lx.open;clear e70 e72 e73;by_cases c0:x3<0
   ·have d0:decide (x3<0)=true:=decide_eq_true c0;have e:inB x3 0 ((gl.length:Int) - 1)=false:=by unfold inB; simp; omega
    have HF:Hid (R=none):=Lib.hid (HY.out.trans (by simp [opY,e]));clear c0 e;go_wp2;go_region;go_wp2;go_ret;rw [HF.out];exact qZ (H5.out.lx.below (by repeat (first|exact Below.refl _ _|apply qE|apply qO)))
   have d0:decide (x3<0)=false:=decide_eq_false c0;by_cases c1:(gl.length:Int)≤x3
   ·have d1:decide ((gl.length:Int)≤x3)=true:=decide_eq_true c1;have e:inB x3 0 ((gl.length:Int) - 1)=false:=by unfold inB; simp; omega
    have HF:Hid (R=none):=Lib.hid (HY.out.trans (by simp [opY,e]));clear c0 c1 e;go_wp2;go_region;go_wp2;go_ret;rw [HF.out];exact qZ (H5.out.lx.below (by repeat (first|exact Below.refl _ _|apply qE|apply qO)))
   have d1:decide ((gl.length:Int)≤x3)=false:=decide_eq_false c1;have HF:Hid (R=some (st++List.replicate 1 0)):=Lib.hid (HY.out.trans (by have e:inB x3 0 ((gl.length:Int) - 1)=true:=(by unfold inB; simp; omega); simp [opY,e]));clear c0 c1;go_wp2;go_region;go_wp2_with fail;refine (qCG (H5.out.lx.below (by repeat (first|exact Below.refl _ _|apply qE|apply qO))) 1 0 (by omega) (by omega)).mono ?_;rintro e w7 ⟨rfl,hL⟩;have HL:=Lib.hid hL;clear hL;go_wp2;go_ret;rw [HF.out];exact ⟨rfl,HL.out⟩
 ·have hxs:x0=9∨x0=10∨x0=11∨x0=12∨x0=13:=by
   unfold qv at he;simp only [Bool.and_eq_true,decide_eq_true_eq] at he;omega
  go_wp2_with fail;refine (qCe H3.out.lx).mono ?_;rintro e w4 ⟨rfl,rfl⟩;cases hf:qz st
  ·have HB:=Lib.hid (HBAD.out (.inr (.inr (.inr ⟨by simp [he],hf⟩))));clear hf he e8;have HF:Hid (R=none):=Lib.hid (HR.out.trans (HB.out));go_wp2;go_ret;rw [HF.out];exact qZ H3.out.lx
  have HY:=Lib.hid (HR.out.trans (HP3.out (fun _=>hf)));clear hf HP3 HBAD he e8;rcases hxs with rfl|rfl|rfl|rfl|rfl
  all_goals
   go_wp2_with fail;refine (qA0 H3.out.lx x2).mono ?_;intro e w5 hp;obtain ⟨y0,y1,A3,n3,c3,ok,rfl,hB,hb5⟩:=qFm hp;have H5:=Lib.hid (H3.out.below (qF (Below.refl _ _) (qC hb5 (.cells #[.int .i64 y0,.int .i64 y1,.slice A3 n3 c3] 55))));have HYB:=Lib.hid (MapKept.heap_alloc w5 (.cells #[.int .i64 y0,.int .i64 y1,.slice A3 n3 c3] 55)).1;have HBk:=Lib.hid hB;clear o0 o1 o2 o3 o4 o5 o6 hb5 hp hB H3;have o0:=qD H5.out.box (i:=0) rfl;have o1:=qD H5.out.box (i:=1) rfl;have o2:=qD H5.out.box (i:=2) rfl;have o3:=qD H5.out.box (i:=3) rfl;have o4:=qD H5.out.box (i:=4) rfl;have o5:=qD H5.out.box (i:=5) rfl;have o6:=qD H5.out.box (i:=6) rfl;have yc0:=qD HYB.out (i:=0) rfl;have yc1:=qD HYB.out (i:=1) rfl
  ·skip
   go_wp2_with fail;generalize hW:w5.alloc (.cells #[.int .i64 y0,.int .i64 y1,.slice A3 n3 c3] 55)=W at *;refine (qDD H5.out.lx x1 _ (by rw [←hW]; exact World.size_alloc _ _)).mono ?_;rintro e w7 ⟨rfl,hb7⟩;have H7:=Lib.hid (H5.out.below (qF (qC (Below.refl _ _) (.cells #[.int .i64 x1] 3)) hb7));clear hb7 o0 o1 o2 o3 o4 o5 o6 yc0 yc1 HYB;have o4:=qD H7.out.box (i:=4) rfl;have o5:=qD H7.out.box (i:=5) rfl;cases hh:hasC st x1
   ·have HF:Hid (R=none):=Lib.hid (HY.out.trans (by simp [opY,opR9,hh]));go_wp2;go_ret;rw [HF.out];exact qZ H7.out.lx
   by_cases c0:x5.length≤8
   ·have d0:decide ((x5.length:Int)≤8)=true:=decide_eq_true (by omega);have HF:Hid (R=some st):=Lib.hid (HY.out.trans (by simp [opY,opR9,hh,c0]));clear c0;go_wp2;go_ret;rw [HF.out];exact ⟨rfl,H7.out.lx⟩
   ·have d0:decide ((x5.length:Int)≤8)=false:=decide_eq_false (by omega);have HF:Hid (R=none):=Lib.hid (HY.out.trans (by simp [opY,opR9,hh,c0]));clear c0;go_wp2;go_ret;rw [HF.out];exact qZ H7.out.lx
  ·skip
   obtain ⟨a7,b7,e70,e71,e72,e73,_,_,hk7⟩:=H5.out.lx.open;clear e70 e71 e73;generalize hW:w5.alloc (.cells #[.int .i64 y0,.int .i64 y1,.slice A3 n3 c3] 55)=W at *;clear HYB yc0 yc1 o2 o3 o4 o5 o6;have HG:Hid (Calls Tryz.prog 96 #[.pointer (some ⟨q,0,none⟩),.slice (some ⟨W.drew.heap.size,0,none⟩) 1 1] (W.alloc (.cells #[.int .i64 x1] 3)).drew fun e w'=>e=.returned (.bool (hasC st x1))∧Below (W.alloc (.cells #[.int .i64 x1] 3)).drew.heap.size (W.alloc (.cells #[.int .i64 x1] 3)).drew w'):=Lib.hid (qDD (H5.out.lx.below (qE (Below.refl _ _))) x1 _ rfl);cases hh:hasC st x1
   ·have HF:Hid (R=none):=Lib.hid (HY.out.trans (by have e:isC st x1 3=false:=by { unfold hasC at hh; unfold isC; cases h0:decide (0≤x1); rfl; rw [h0] at hh; simp at hh; rw [List.getElem?_eq_none (by simpa using (by omega:st.length≤x1.toNat))]; rfl }; simp [opY,qBE,e]));go_wp2
    skip
    refine qU (n:=17) (S:=fun w'=>w'.cell? ⟨xb,1,none⟩=some (.int .i64 x1)∧qB (Below W.heap.size W w')) (ds:=[]) (mA 17 0) (by kernel_rfl) rfl rfl ⟨o1,⟨qE (Below.refl _ _)⟩⟩ (fun hHeld=>?_);refine pa_ 17 1 0 (some 213) (v:=?_) (a':=?_) ?_ ?_ ?_;rotate_left 2
    ·intro w';go_simp
     with_reducible rfl
    ·simp only [pn];rfl
    refine pa_ 17 3 1 (some 214) (v:=?_) (a':=?_) ?_ ?_ ?_;rotate_left 2
    ·intro w';go_simp
     with_reducible rfl
    ·simp only [pn];rfl
    refine tb_ 17 7 2 (some 215) (v:=?_) (a':=?_) hHeld ?_ ?_ ?_;rotate_left 2
    ·rintro w' ⟨s0,s1⟩;go_simp
     with_reducible rfl
    ·simp only [pn];rfl
    refine oo_ 17 15 3 (some 216) (fun K hK=>?_);have HPre:=hHeld;refine Q1 (w1:=?_) (v:=?_) (by rfl) rfl ?_ ?_;rotate_left 2
    ·go_simp;constructor
     ·rfl
     ·rfl
    refine hK.out _ _ ⟨qA ((qC (Below.refl _ _) _)) hHeld.1,⟨qF hHeld.2.out ((qC (Below.refl _ _) _))⟩⟩ (fun hHeld=>?_);clear hK K;refine qM (a':=?_) ?_ ?_;rotate_left
    ·show Act.put _ (some 216) _=_
     simp only [pn];rfl
    refine oo_ 17 31 4 (some 217) (fun K hK=>?_);refine qR Tryz.func96 (by kernel_rfl) rfl #[.pointer (some ⟨q,0,none⟩),.slice (some ⟨W.drew.heap.size,0,none⟩) 1 1] (by rfl) rfl rfl (by simp only [List.map_toArray,List.map_cons,List.map_nil]; rfl) ?_
    with_reducible refine (HG.out).mono ?_
    rintro e w7 ⟨rfl,hb7⟩;rw [hh];refine ⟨_,rfl,?_⟩;refine hK.out _ _ ⟨qA (qF (qC (Below.refl W.drew.heap.size W.drew) (.cells #[.int .i64 x1] 3)) hb7) HPre.1,⟨qF HPre.2.out (qF (qC (Below.refl W.drew.heap.size W.drew) (.cells #[.int .i64 x1] 3)) hb7)⟩⟩ (fun hHeld=>?_);clear hK K;refine qM (a':=?_) ?_ ?_;rotate_left
    ·show Act.put _ (some 217) _=_
     simp only [pn];rfl
    refine pa_ 17 63 5 (some 218) (v:=?_) (a':=?_) ?_ ?_ ?_;rotate_left 2
    ·intro w';go_simp
     with_reducible rfl
    ·simp only [pn];rfl
    refine pf_ 17 127 6 (some 219) (a':=?_) ?_ ?_;rotate_left
    ·simp only [pn];rfl
    refine pf_ 17 255 7 (some 220) (a':=?_) ?_ ?_;rotate_left
    ·simp only [pn];rfl
    refine pf_ 17 511 8 (some 221) (a':=?_) ?_ ?_;rotate_left
    ·simp only [pn];rfl
    refine pf_ 17 1023 9 (some 222) (a':=?_) ?_ ?_;rotate_left
    ·simp only [pn];rfl
    refine pf_ 17 2047 10 (some 223) (a':=?_) ?_ ?_;rotate_left
    ·simp only [pn];rfl
    refine pf_ 17 4095 11 (some 224) (a':=?_) ?_ ?_;rotate_left
    ·simp only [pn];rfl
    refine pf_ 17 8191 12 (some 225) (a':=?_) ?_ ?_;rotate_left
    ·simp only [pn];rfl
    refine pf_ 17 16383 13 (some 226) (a':=?_) ?_ ?_;rotate_left
    ·simp only [pn];rfl
    refine pf_ 17 32767 14 (some 227) (a':=?_) ?_ ?_;rotate_left
    ·simp only [pn];rfl
    refine pa_ 17 65535 15 (some 228) (v:=?_) (a':=?_) ?_ ?_ ?_;rotate_left 2
    ·intro w';go_simp
     with_reducible rfl
    ·simp only [pn];rfl
    refine pa_ 17 131071 16 (some 4) (v:=?_) (a':=?_) ?_ ?_ ?_;rotate_left 2
    ·intro w';go_simp
     with_reducible rfl
    ·simp only [pn];rfl
    refine qn (by kernel_rfl) ?_;go_wp2;go_ret;rw [HF.out];exact qZ (H5.out.lx.below hHeld.2.out)
   have hkl:0≤x1∧x1.toNat<st.length:=by
    unfold hasC at hh;simp only [Bool.and_eq_true,decide_eq_true_eq] at hh;omega
   obtain ⟨ga,rfl,ek,_⟩:=hk7 x1.toNat hkl.2;have HK10:Hid (R=if (st[x1.toNat]==3)=true then some st else none):=Lib.hid (HY.out.trans (by have e:isC st x1 3=(st[x1.toNat]==3):=by { unfold isC; rw [List.getElem?_eq_getElem hkl.2]; simp [hkl.1] }; simp only [opY,qBE,e]; rfl));generalize st[x1.toNat]=y at *;have z0:(0≤x1)=True:=eq_true hkl.1;have z1:(x1<(st.length:Int))=True:=eq_true (by omega);clear hk7 hkl;go_wp2;refine qU (n:=17) (S:=fun w'=>w'.cell? ⟨xb,1,none⟩=some (.int .i64 x1)∧w'.cell? ⟨q,2,none⟩=some (.slice (some ⟨ga,0,none⟩) st.length b7)∧w'.cell? ⟨ga,x1.toNat,none⟩=some (.int .i64 y)∧qB (Below W.heap.size W w')) (ds:=[]) (mA 17 0) (by kernel_rfl) rfl rfl ⟨o1,e72,ek,⟨qE (Below.refl _ _)⟩⟩ (fun hHeld=>?_);refine pa_ 17 1 0 (some 213) (v:=?_) (a':=?_) ?_ ?_ ?_;rotate_left 2
   ·intro w';go_simp
    with_reducible rfl
   ·simp only [pn];rfl
   refine pa_ 17 3 1 (some 214) (v:=?_) (a':=?_) ?_ ?_ ?_;rotate_left 2
   ·intro w';go_simp
    with_reducible rfl
   ·simp only [pn];rfl
   refine tb_ 17 7 2 (some 215) (v:=?_) (a':=?_) hHeld ?_ ?_ ?_;rotate_left 2
   ·rintro w' ⟨s0,s1,s2,s3⟩;go_simp
    with_reducible rfl
   ·simp only [pn];rfl
   refine oo_ 17 15 3 (some 216) (fun K hK=>?_);have HPre:=hHeld;refine Q1 (w1:=?_) (v:=?_) (by rfl) rfl ?_ ?_;rotate_left 2
   ·go_simp;constructor
    ·rfl
    ·rfl
   refine hK.out _ _ ⟨qA ((qC (Below.refl _ _) _)) hHeld.1,qA ((qC (Below.refl _ _) _)) hHeld.2.1,qA ((qC (Below.refl _ _) _)) hHeld.2.2.1,⟨qF hHeld.2.2.2.out ((qC (Below.refl _ _) _))⟩⟩ (fun hHeld=>?_);clear hK K;refine qM (a':=?_) ?_ ?_;rotate_left
   ·show Act.put _ (some 216) _=_
    simp only [pn];rfl
   refine oo_ 17 31 4 (some 217) (fun K hK=>?_);refine qR Tryz.func96 (by kernel_rfl) rfl #[.pointer (some ⟨q,0,none⟩),.slice (some ⟨W.drew.heap.size,0,none⟩) 1 1] (by rfl) rfl rfl (by simp only [List.map_toArray,List.map_cons,List.map_nil]; rfl) ?_
   with_reducible refine (HG.out).mono ?_
   rintro e w7 ⟨rfl,hb7⟩;rw [hh];refine ⟨_,rfl,?_⟩;refine hK.out _ _ ⟨qA (qF (qC (Below.refl W.drew.heap.size W.drew) (.cells #[.int .i64 x1] 3)) hb7) HPre.1,qA (qF (qC (Below.refl W.drew.heap.size W.drew) (.cells #[.int .i64 x1] 3)) hb7) HPre.2.1,qA (qF (qC (Below.refl W.drew.heap.size W.drew) (.cells #[.int .i64 x1] 3)) hb7) HPre.2.2.1,⟨qF HPre.2.2.2.out (qF (qC (Below.refl W.drew.heap.size W.drew) (.cells #[.int .i64 x1] 3)) hb7)⟩⟩ (fun hHeld=>?_);clear hK K;refine qM (a':=?_) ?_ ?_;rotate_left
   ·show Act.put _ (some 217) _=_
    simp only [pn];rfl
   refine pa_ 17 63 5 (some 218) (v:=?_) (a':=?_) ?_ ?_ ?_;rotate_left 2
   ·intro w';go_simp
    with_reducible rfl
   ·simp only [pn];rfl
   refine pa_ 17 127 6 (some 219) (v:=?_) (a':=?_) ?_ ?_ ?_;rotate_left 2
   ·intro w';go_simp
    with_reducible rfl
   ·simp only [pn];rfl
   refine pa_ 17 255 7 (some 220) (v:=?_) (a':=?_) ?_ ?_ ?_;rotate_left 2
   ·intro w';go_simp
    with_reducible rfl
   ·simp only [pn];rfl
   refine pa_ 17 511 8 (some 221) (v:=?_) (a':=?_) ?_ ?_ ?_;rotate_left 2
   ·intro w';go_simp
    with_reducible rfl
   ·simp only [pn];rfl
   refine pa_ 17 1535 10 (some 223) (v:=?_) (a':=?_) ?_ ?_ ?_;rotate_left 2
   ·intro w';go_simp
    with_reducible rfl
   ·simp only [pn];rfl
   refine tb_ 17 2047 9 (some 222) (v:=?_) (a':=?_) hHeld ?_ ?_ ?_;rotate_left 2
   ·rintro w' ⟨s0,s1,s2,s3⟩;go_simp
    with_reducible rfl
   ·simp only [pn];rfl
   refine tb_ 17 4095 11 (some 224) (v:=?_) (a':=?_) hHeld ?_ ?_ ?_;rotate_left 2
   ·rintro w' ⟨s0,s1,s2,s3⟩;go_simp
    with_reducible rfl
   ·simp only [pn];rfl
   refine pa_ 17 8191 12 (some 225) (v:=?_) (a':=?_) ?_ ?_ ?_;rotate_left 2
   ·intro w';go_simp
    with_reducible rfl
   ·simp only [pn];rfl
   refine tb_ 17 16383 13 (some 226) (v:=?_) (a':=?_) hHeld ?_ ?_ ?_;rotate_left 2
   ·rintro w' ⟨s0,s1,s2,s3⟩;go_simp
    with_reducible rfl
   ·simp only [pn];rfl
   refine pa_ 17 32767 14 (some 227) (v:=?_) (a':=?_) ?_ ?_ ?_;rotate_left 2
   ·intro w';go_simp
    with_reducible rfl
   ·simp only [pn];rfl
   refine pa_ 17 65535 15 (some 228) (v:=?_) (a':=?_) ?_ ?_ ?_;rotate_left 2
   ·intro w';go_simp
    with_reducible rfl
   ·simp only [pn];rfl
   refine pa_ 17 131071 16 (some 4) (v:=?_) (a':=?_) ?_ ?_ ?_;rotate_left 2
   ·intro w';go_simp
    with_reducible rfl
   ·simp only [pn];rfl
   refine qn (by kernel_rfl) ?_;cases hy:(y==3)
   ·have HF:Hid (R=none):=Lib.hid (by rw [HK10.out,hy]; rfl);go_wp2;go_ret;rw [HF.out];exact qZ (H5.out.lx.below hHeld.2.2.2.out)
   ·have HF:Hid (R=some st):=Lib.hid (by rw [HK10.out,hy]; rfl);go_wp2;go_ret;rw [HF.out];exact ⟨rfl,H5.out.lx.below hHeld.2.2.2.out⟩
  ·skip
   have HY11:Hid (R=if (!x6.isEmpty&&chB bs st.length x6)=true then some st else none):=Lib.hid (HY.out.trans (by cases x6<;>simp [opY,qBW]));go_wp2_with fail;refine (qFl H5.out.lx x6 A6 c6 l6 H5.out.m6 HS6.out).mono ?_;rintro e w7 ⟨rfl,hb7⟩;have HL:=Lib.hid (H5.out.lx.below hb7);clear hb7 o0 o1 o2 o3 o4 o5 o6 yc0 yc1;generalize (!x6.isEmpty&&chB bs st.length x6)=rb at *;cases rb
   ·have HF:Hid (R=none):=Lib.hid (by rw [HY11.out]; simp);go_wp2;go_ret;rw [HF.out];exact qZ HL.out
   ·have HF:Hid (R=some st):=Lib.hid (by rw [HY11.out]; simp);go_wp2;go_ret;rw [HF.out];exact ⟨rfl,HL.out⟩
  ·skip
   go_wp2_with fail;generalize hW:w5.alloc (.cells #[.int .i64 y0,.int .i64 y1,.slice A3 n3 c3] 55)=W at *;refine (qJY H5.out.lx x1 x2 _ (by rw [←hW]; exact World.size_alloc _ _)).mono ?_;rintro e w7 ⟨rfl,hb7⟩;have H7:=Lib.hid (H5.out.below (qF (qC (Below.refl _ _) (.cells #[.int .i64 x1,.int .i64 x2] 3)) hb7));clear hb7 o0 o1 o2 o3 o4 o5 o6 yc0 yc1 HYB;have o4:=qD H7.out.box (i:=4) rfl;have o5:=qD H7.out.box (i:=5) rfl;cases hh:(hasC st x1&&hasC st x2)
   ·have HF:Hid (R=none):=Lib.hid (HY.out.trans (by simp only [opY,qAf]; simp; intro h1 h2; simp [h1,h2] at hh));go_wp2;go_ret;rw [HF.out];exact qZ H7.out.lx
   have HY12:Hid (R=if (decide (0≤Qa x4.data.toList)&&decide (Qa x4.data.toList<8))=true then some st else none):=Lib.hid (HY.out.trans (by simp only [Bool.and_eq_true] at hh; simp [opY,qAf,qIJ,hh.1,hh.2]));have HPR:=Lib.hid (fun w=>qAr x4 w);generalize Qa x4.data.toList=pi at *;clear hh;go_wp2_with fail;refine (HPR.out _).mono ?_;rintro e w8 ⟨rfl,hb8⟩;have H8:=Lib.hid (H7.out.below hb8);clear o4 o5 hb8 H7;have o4:=qD H8.out.box (i:=4) rfl;by_cases c0:0≤pi;rotate_left
   ·have d0:decide (0≤pi)=false:=decide_eq_false c0;have HF:Hid (R=none):=Lib.hid (by rw [HY12.out]; simp [c0]);clear c0;go_wp2;go_ret;rw [HF.out];exact qZ H8.out.lx
   have d0:decide (0≤pi)=true:=decide_eq_true c0;go_wp2_with fail;refine (HPR.out _).mono ?_;rintro e w9 ⟨rfl,hb9⟩;have H9:=Lib.hid (H8.out.below hb9);clear o4 hb9 H8;go_wp2_with fail;refine (qAr ⟨#[115,101,113]⟩ _).mono ?_;rintro e wa ⟨rfl,hba⟩;have HA:=Lib.hid (H9.out.below hba);clear hba H9;have e9:Qa (ByteArray.mk #[115,101,113]).data.toList=8:=by decide +kernel
   rw [e9];by_cases c1:pi<8
   ·have d1:decide (pi<8)=true:=decide_eq_true c1;have HF:Hid (R=some st):=Lib.hid (by rw [HY12.out]; simp [c0,c1]);clear c0 c1;go_wp2;go_ret;rw [HF.out];exact ⟨rfl,HA.out.lx⟩
   ·have d1:decide (pi<8)=false:=decide_eq_false c1;have HF:Hid (R=none):=Lib.hid (by rw [HY12.out]; simp [c1]);clear c0 c1;go_wp2;go_ret;rw [HF.out];exact qZ HA.out.lx
  ·skip
   go_wp2_with fail;generalize hW:w5.alloc (.cells #[.int .i64 y0,.int .i64 y1,.slice A3 n3 c3] 55)=W at *;refine (qDD H5.out.lx x1 _ (by rw [←hW]; exact World.size_alloc _ _)).mono ?_;rintro e w7 ⟨rfl,hb7⟩;have H7:=Lib.hid (H5.out.below (qF (qC (Below.refl _ _) (.cells #[.int .i64 x1] 3)) hb7));clear hb7 o0 o1 o2 o3 o4 o5 o6 yc0 yc1 HYB;have o4:=qD H7.out.box (i:=4) rfl;have o5:=qD H7.out.box (i:=5) rfl;cases hh:hasC st x1
   ·have HF:Hid (R=none):=Lib.hid (HY.out.trans (by simp [opY,qBF,hh]));go_wp2;go_ret;rw [HF.out];exact qZ H7.out.lx
   ·have HF:Hid (R=some st):=Lib.hid (HY.out.trans (by simp [opY,qBF,hh]));go_wp2;go_ret;rw [HF.out];exact ⟨rfl,H7.out.lx⟩
end Go.Proofs.YtoonkkipnljflaaGreatDoor.CJ
