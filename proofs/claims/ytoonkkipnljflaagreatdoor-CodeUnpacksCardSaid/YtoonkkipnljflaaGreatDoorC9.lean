/- The checker's method check: a block. Conditions: the checker and the block lie in memory; the map of alternatives tells whether it is one. -/
import Derived.Test.YtoonkkipnljflaaGreatDoorC8
namespace Go.Proofs.YtoonkkipnljflaaGreatDoor.CJ
open Go.RowKit Go.Proofs.YtoonkkipnljflaaGreatDoorW.PrintWords Go.Proofs.YtoonkkipnljflaaGreatDoorW.PrintLast Go.Proofs.YtoonkkipnljflaaGreatDoor.PT Go.Proofs.YtoonkkipnljflaaGreatDoor.IMaps
set_option linter.unusedVariables false
set_option linter.unusedSimpArgs false
def opsK(bs:List GBk)(gs:Nat):List Int→List GOp→Bool
 |_,[]=>true
 |st,g::r=>qf g&&(qv g.f0==r.isEmpty)&&(!qv g.f0||qz st)&&(match opK bs gs st g with|some st'=>opsK bs gs st' r|none=>false)
def qAo(bs:List GBk)(gs:Nat)(ch:Bool)(b:GBk):Bool:=
 inB b.f0 0 40&&inB b.f1 0 (if ch then 12 else 8)&&inB b.f2.length 1 60&&opsK bs gs (List.replicate (b.f0+b.f1).toNat 0) b.f2
theorem qG9{st st':List Int}{n:Nat}{v:Int}(h:addC st n v=some st'):st'.length≤60:=by
 unfold addC at h;split at h
 ·simp only [Option.some.injEq] at h;subst h;simp; omega
 ·cases h
theorem qA6{st st':List Int}{k v:Int}(h:qX st k v=some st'):st'.length=st.length:=by
 unfold qX at h;split at h
 ·simp only [Option.some.injEq] at h;subst h;simp
 ·cases h
theorem qBr{st st':List Int}{k v:Int}(h:qX st k v=some st')(hs:st.length≤60):st'.length≤60:=by have:=qA6 h; omega
theorem qBs{st st':List Int}(h:some st=some st')(hs:st.length≤60):st'.length≤60:=by cases h; exact hs
theorem opR1_len{bs:List GBk}{gs:Nat}{st st':List Int}{x1 x2 x3:Int}{s:List UInt8}{n:Nat}{l:List GAl}(h:opR1 st x3=some st')(hs:st.length≤60):st'.length≤60:=by
 unfold opR1 at h;split at h
 ·exact qG9 h
 ·cases h
theorem opR2_len{bs:List GBk}{gs:Nat}{st st':List Int}{x1 x2 x3:Int}{s:List UInt8}{n:Nat}{l:List GAl}(h:opR2 bs st x1 x2 n=some st')(hs:st.length≤60):st'.length≤60:=by
 unfold opR2 at h;cases hb:blkC bs x2 with
 |none=>rw [hb] at h; cases h
 |some c=>
  rw [hb] at h;simp only at h;split at h
  ·exact qBr h hs
  ·cases h
theorem opR3_len{bs:List GBk}{gs:Nat}{st st':List Int}{x1 x2 x3:Int}{s:List UInt8}{n:Nat}{l:List GAl}(h:opR3 bs st x1 x2 n=some st')(hs:st.length≤60):st'.length≤60:=by
 unfold opR3 at h;cases hb:blkC bs x2 with
 |none=>rw [hb] at h; cases h
 |some c=>
  rw [hb] at h;simp only at h;split at h
  ·exact qBr h hs
  ·cases h
theorem opR4_len{bs:List GBk}{gs:Nat}{st st':List Int}{x1 x2 x3:Int}{s:List UInt8}{n:Nat}{l:List GAl}(h:opR4 st x1 s n=some st')(hs:st.length≤60):st'.length≤60:=by
 unfold opR4 at h;split at h
 ·exact qBr h hs
 ·cases h
theorem opR5_len{bs:List GBk}{gs:Nat}{st st':List Int}{x1 x2 x3:Int}{s:List UInt8}{n:Nat}{l:List GAl}(h:opR5 st x1=some st')(hs:st.length≤60):st'.length≤60:=by
 unfold opR5 at h;exact qBr h hs
theorem opR6_len{bs:List GBk}{gs:Nat}{st st':List Int}{x1 x2 x3:Int}{s:List UInt8}{n:Nat}{l:List GAl}(h:opR6 st x1 s n=some st')(hs:st.length≤60):st'.length≤60:=by
 unfold opR6 at h;split at h
 ·exact qBr h hs
 ·cases h
theorem opR7_len{bs:List GBk}{gs:Nat}{st st':List Int}{x1 x2 x3:Int}{s:List UInt8}{n:Nat}{l:List GAl}(h:opR7 gs st x3=some st')(hs:st.length≤60):st'.length≤60:=by
 unfold opR7 at h;split at h
 ·exact qG9 h
 ·cases h
theorem opR8_len{bs:List GBk}{gs:Nat}{st st':List Int}{x1 x2 x3:Int}{s:List UInt8}{n:Nat}{l:List GAl}(h:opR8 bs st x2 n=some st')(hs:st.length≤60):st'.length≤60:=by
 unfold opR8 at h;cases hb:blkC bs x2 with
 |none=>rw [hb] at h; cases h
 |some c=>
  rw [hb] at h;simp only at h;split at h
  ·exact qBs h hs
  ·cases h
theorem opR9_len{bs:List GBk}{gs:Nat}{st st':List Int}{x1 x2 x3:Int}{s:List UInt8}{n:Nat}{l:List GAl}(h:opR9 st x1 n=some st')(hs:st.length≤60):st'.length≤60:=by
 unfold opR9 at h;split at h
 ·exact qBs h hs
 ·cases h
theorem qKK{bs:List GBk}{gs:Nat}{st st':List Int}{x1 x2 x3:Int}{s:List UInt8}{n:Nat}{l:List GAl}(h:qBE st x1=some st')(hs:st.length≤60):st'.length≤60:=by
 unfold qBE at h;split at h
 ·exact qBs h hs
 ·cases h
theorem qKL{bs:List GBk}{gs:Nat}{st st':List Int}{x1 x2 x3:Int}{s:List UInt8}{n:Nat}{l:List GAl}(h:qBW bs st l=some st')(hs:st.length≤60):st'.length≤60:=by
 unfold qBW at h;split at h
 ·exact qBs h hs
 ·cases h
theorem qKM{bs:List GBk}{gs:Nat}{st st':List Int}{x1 x2 x3:Int}{s:List UInt8}{n:Nat}{l:List GAl}(h:qAf st x1 x2 s=some st')(hs:st.length≤60):st'.length≤60:=by
 unfold qAf at h;split at h
 ·exact qBs h hs
 ·cases h
theorem qKN{bs:List GBk}{gs:Nat}{st st':List Int}{x1 x2 x3:Int}{s:List UInt8}{n:Nat}{l:List GAl}(h:qBF st x1=some st')(hs:st.length≤60):st'.length≤60:=by
 unfold qBF at h;split at h
 ·exact qBs h hs
 ·cases h
theorem qBc{bs:List GBk}{gs:Nat}{st st':List Int}{g:GOp}(h:opK bs gs st g=some st')(hs:st.length≤60):st'.length≤60:=by
 unfold opK at h;by_cases h0:(!g.f5.all (hasC st))=true
 ·rw [if_pos h0] at h; cases h
 rw [if_neg h0] at h;by_cases h1:g.f0=1
 ·rw [if_pos h1] at h; exact opR1_len (bs:=bs) (gs:=gs) (x1:=g.f1) (x2:=g.f2) (x3:=g.f3) (s:=g.f4.data.toList) (n:=g.f5.length) (l:=g.f6) h hs
 rw [if_neg h1] at h;by_cases h2:g.f0=2
 ·rw [if_pos h2] at h; exact opR2_len (bs:=bs) (gs:=gs) (x1:=g.f1) (x2:=g.f2) (x3:=g.f3) (s:=g.f4.data.toList) (n:=g.f5.length) (l:=g.f6) h hs
 rw [if_neg h2] at h;by_cases h3:g.f0=3
 ·rw [if_pos h3] at h; exact opR3_len (bs:=bs) (gs:=gs) (x1:=g.f1) (x2:=g.f2) (x3:=g.f3) (s:=g.f4.data.toList) (n:=g.f5.length) (l:=g.f6) h hs
 rw [if_neg h3] at h;by_cases h4:g.f0=4
 ·rw [if_pos h4] at h; exact opR4_len (bs:=bs) (gs:=gs) (x1:=g.f1) (x2:=g.f2) (x3:=g.f3) (s:=g.f4.data.toList) (n:=g.f5.length) (l:=g.f6) h hs
 rw [if_neg h4] at h;by_cases h5:g.f0=5
 ·rw [if_pos h5] at h; exact opR5_len (bs:=bs) (gs:=gs) (x1:=g.f1) (x2:=g.f2) (x3:=g.f3) (s:=g.f4.data.toList) (n:=g.f5.length) (l:=g.f6) h hs
 rw [if_neg h5] at h;by_cases h6:g.f0=6
 ·rw [if_pos h6] at h; exact opR6_len (bs:=bs) (gs:=gs) (x1:=g.f1) (x2:=g.f2) (x3:=g.f3) (s:=g.f4.data.toList) (n:=g.f5.length) (l:=g.f6) h hs
 rw [if_neg h6] at h;by_cases h7:g.f0=7
 ·rw [if_pos h7] at h; exact opR7_len (bs:=bs) (gs:=gs) (x1:=g.f1) (x2:=g.f2) (x3:=g.f3) (s:=g.f4.data.toList) (n:=g.f5.length) (l:=g.f6) h hs
 rw [if_neg h7] at h;by_cases h8:g.f0=8
 ·rw [if_pos h8] at h; exact opR8_len (bs:=bs) (gs:=gs) (x1:=g.f1) (x2:=g.f2) (x3:=g.f3) (s:=g.f4.data.toList) (n:=g.f5.length) (l:=g.f6) h hs
 rw [if_neg h8] at h;by_cases h9:g.f0=9
 ·rw [if_pos h9] at h; exact opR9_len (bs:=bs) (gs:=gs) (x1:=g.f1) (x2:=g.f2) (x3:=g.f3) (s:=g.f4.data.toList) (n:=g.f5.length) (l:=g.f6) h hs
 rw [if_neg h9] at h;by_cases h10:g.f0=10
 ·rw [if_pos h10] at h; exact qKK (bs:=bs) (gs:=gs) (x1:=g.f1) (x2:=g.f2) (x3:=g.f3) (s:=g.f4.data.toList) (n:=g.f5.length) (l:=g.f6) h hs
 rw [if_neg h10] at h;by_cases h11:g.f0=11
 ·rw [if_pos h11] at h; exact qKL (bs:=bs) (gs:=gs) (x1:=g.f1) (x2:=g.f2) (x3:=g.f3) (s:=g.f4.data.toList) (n:=g.f5.length) (l:=g.f6) h hs
 rw [if_neg h11] at h;by_cases h12:g.f0=12
 ·rw [if_pos h12] at h; exact qKM (bs:=bs) (gs:=gs) (x1:=g.f1) (x2:=g.f2) (x3:=g.f3) (s:=g.f4.data.toList) (n:=g.f5.length) (l:=g.f6) h hs
 rw [if_neg h12] at h;exact qKN (bs:=bs) (gs:=gs) (x1:=g.f1) (x2:=g.f2) (x3:=g.f3) (s:=g.f4.data.toList) (n:=g.f5.length) (l:=g.f6) h hs
structure CO(b:Nat)(W0 wr:World)(bs:List GBk)(gs:Nat)(l:List GOp)(i:Nat)(st:List Int)(res:Bool):Prop where
 rm:RM wr b st
 small:st.length≤60
 below:Below b W0 wr
 run:res=opsK bs gs st (l.drop i)
def qCI(bs:List GBk)(gs:Nat)(st:List Int)(g:GOp)(r:List GOp):Bool:=match opK bs gs st g with|some st'=>opsK bs gs st' r|none=>false
theorem CO.at{b:Nat}{W0 wr:World}{bs:List GBk}{gs:Nat}{l:List GOp}{i:Nat}{st:List Int}{res:Bool}(h:CO b W0 wr bs gs l i st res)(hi:i<l.length):res=(qf (l.getD i z59)&&(qv (l.getD i z59).f0==decide (i+1=l.length))&&(!qv (l.getD i z59).f0||qz st)&&qCI bs gs st (l.getD i z59) (l.drop (i+1))):=by
 have e:l.getD i z59=l[i]:=by simp [List.getD_eq_getElem?_getD,List.getElem?_eq_getElem hi]
 rw [e,h.run,List.drop_eq_getElem_cons hi];have e2:(l.drop (i+1)).isEmpty=decide (i+1=l.length):=by
  by_cases hh:i+1=l.length
  ·rw [decide_eq_true hh,List.isEmpty_iff]; exact List.drop_eq_nil_of_le (by omega)
  ·rw [decide_eq_false hh,←Bool.not_eq_true,List.isEmpty_iff,List.drop_eq_nil_iff]; omega
 rw [←e2];rfl
theorem CO.done{b:Nat}{W0 wr:World}{bs:List GBk}{gs:Nat}{l:List GOp}{st:List Int}{res:Bool}(h:CO b W0 wr bs gs l l.length st res):res=true:=by
 rw [h.run,List.drop_length]; rfl
def qEP(l:List GOp):Prop:=∀g∈l,g.f4.size≤maxLen∧∀a∈g.f6,a.f1.size≤maxLen
theorem qEu(w:World)(b:Nat)(st:List Int)(n:Int)(h:RM w b st)(hs:st.length≤1000000)(h0:0≤n)(hn:n≤1000000):
 Calls Tryz.prog 91 #[.pointer (some ⟨b+2,0,none⟩),.int .i64 n,.bool false] w (Done b w (addC st n.toNat 0)):=by
 obtain ⟨k,rfl⟩:∃k:Nat,n=k:=⟨n.toNat,by omega⟩;rw [Int.toNat_natCast];exact qFv w b st k h hs (by omega)
theorem RM.lens{w:World}{b:Nat}{st:List Int}(h:RM w b st):∃n:Nat,qz st=((n:Int)==0)∧∀W,Below w.heap.size w W→(Builtin.len_ #[75] 3 #[.map (some b)]).run Tryz.prog W=.ok (.int .i64 n) W:=by
 rcases h.len with h1|⟨n,hn,hf,h1⟩
 ·obtain ⟨l,i1,e1⟩:=h.emp;have hr:=fun W (hW:Below w.heap.size w W)=>qFZ (P:=Tryz.prog) (i1.below hW) Tryz.underlying75 3
  have h2:=hr w (Below.refl _ _);rw [h1] at h2;simp only [Result.ok.injEq,Value.int.injEq,true_and,and_true] at h2;refine ⟨l.length,?_,hr⟩;rw [←h2];cases qz st<;>rfl
 ·obtain ⟨l,i1,e1⟩:=h.emp;have hr:=fun W (hW:Below w.heap.size w W)=>qFZ (P:=Tryz.prog) (i1.below hW) Tryz.underlying75 3
  have h2:=hr w (Below.refl _ _);rw [h1] at h2;simp only [Result.ok.injEq,Value.int.injEq,true_and,and_true] at h2;refine ⟨l.length,?_,hr⟩;rw [hf,←h2];exact (beq_eq_false_iff_ne.2 (by omega)).symm
theorem room0(W:World):RM (((W.alloc (.map #[] 0)).alloc (.map #[] 0)).alloc (.cells #[.int .i64 0,.map (some W.heap.size),.map (some (W.heap.size+1))] 140)) W.heap.size []:=by
 have a1:=IM.made W;have a2:=IM.made (W.alloc (.map #[] 0));simp only [World.size_alloc] at a2;have a3:=(MapKept.heap_alloc ((W.alloc (.map #[] 0)).alloc (.map #[] 0)) (.cells #[.int .i64 0,.map (some W.heap.size),.map (some (W.heap.size+1))] 140)).1;simp only [World.size_alloc] at a3;exact ⟨a3,⟨[],(a1.alloc _).alloc _,fun k=>by simp [lk,isC]⟩,⟨[],a2.alloc _,fun k=>by simp [lk,isC]⟩⟩
set_option maxRecDepth 100000 in
set_option maxHeartbeats 16000000 in
theorem qIC(w:World)(p m:Nat)(A:Option Addr)(ca:Nat)(A2:Option Addr)(cb:Nat)(bs:List GBk)(gl:List GGl)(n:Int)(ch:Bool)(y:GBk)(A3:Option Addr)(c3:Nat)
 (hC:CK w p m A ca A2 cb bs gl) (hL:LW w) (hch:∀W,Below w.heap.size w W→(Instr.lookup 75 (.map (some m)) (.int .i64 n) false).run Tryz.prog W=.ok (.bool ch) W) (hc3:y.f2.length≤c3) (C3:kOp.C w A3 y.f2.length y.f2) (hs:qEP y.f2):
 Calls Tryz.prog 65 #[.pointer (some ⟨p,0,none⟩),.int .i64 n,.agg #[.int .i64 y.f0,.int .i64 y.f1,.slice A3 y.f2.length c3]] w fun e w'=>e=checked (qAo bs gl.length ch y)∧Below w.heap.size w w':=by
 have hmm:=@run_makeMap Tryz.prog;have hm:y.f2.length≤9223372036854775807:=C3.2.1;obtain ⟨y0,y1,ops⟩:=y;simp only at *;have hpl:=hC.lt;have dm:=qD hC.box (i:=2) rfl;have hlk:=hch (w.alloc (.cells #[.int .i64 y0,.int .i64 y1,.slice A3 ops.length c3] 55)) (qC (Below.refl _ _) _);have HC:=Lib.hid hC;have HL:=Lib.hid hL;have HK:=Lib.hid (And.intro C3 hs);have HB0:=Lib.hid (qC (Below.refl w.heap.size w) (.cells #[.int .i64 y0,.int .i64 y1,.slice A3 ops.length c3] 55));clear hC hL hch C3 hs;have HW1:=Lib.hid (fun W=>qAF y0 0 40 W);have HW2:=Lib.hid (fun W=>qAF y1 0 (if ch then 12 else 8) W);have HW3:=Lib.hid (fun W=>qAF ops.length 1 60 W);have HBK:Hid (qAo bs gl.length ch ⟨y0,y1,ops⟩=(inB y0 0 40&&inB y1 0 (if ch then 12 else 8)&&inB ops.length 1 60&&opsK bs gl.length (List.replicate (y0+y1).toNat 0) ops)):=Lib.hid rfl;have HR:Hid (inB y0 0 40=true→inB y1 0 (if ch then 12 else 8)=true→0≤y0∧0≤y1∧y0≤40∧y1≤12):=Lib.hid (by
  intro h1 h2;simp only [inB,Bool.and_eq_true,decide_eq_true_eq] at h1 h2;cases ch<;>simp at h2<;>omega)
 generalize qAo bs gl.length ch ⟨y0,y1,ops⟩=res at *;cases t1:inB y0 0 40
 ·rw [t1] at HW1;have HF:Hid (res=false):=Lib.hid (by rw [HBK.out,t1]; rfl);clear HBK HR t1;cases ch
  ·simp only [Bool.false_eq_true,if_false] at HW2;go_enter Tryz.func65,Tryz.ntmps65;go_wp2_with fail;refine (HW1.out _).mono ?_;rintro e w1 ⟨rfl,rfl⟩;go_wp2_with fail;refine (qG _).mono ?_;rintro e w1 ⟨rfl,rfl⟩;go_wp2;exact ⟨rfl,by rw [HF.out]; rfl,HB0.out⟩
  ·simp only [if_true] at HW2;go_enter Tryz.func65,Tryz.ntmps65;go_wp2_with fail;refine (HW1.out _).mono ?_;rintro e w1 ⟨rfl,rfl⟩;go_wp2_with fail;refine (qG _).mono ?_;rintro e w1 ⟨rfl,rfl⟩;go_wp2;exact ⟨rfl,by rw [HF.out]; rfl,HB0.out⟩
 ·cases t2:inB y1 0 (if ch then 12 else 8)
  ·rw [t1] at HW1;rw [t2] at HW2;have HF:Hid (res=false):=Lib.hid (by rw [HBK.out,t1,t2]; rfl);clear HBK HR t1 t2;cases ch
   ·simp only [Bool.false_eq_true,if_false] at HW2;go_enter Tryz.func65,Tryz.ntmps65;go_wp2_with fail;refine (HW1.out _).mono ?_;rintro e w1 ⟨rfl,rfl⟩;go_wp2_with fail;refine (HW2.out _).mono ?_;rintro e w1 ⟨rfl,rfl⟩;go_wp2_with fail;refine (qG _).mono ?_;rintro e w1 ⟨rfl,rfl⟩;go_wp2;exact ⟨rfl,by rw [HF.out]; rfl,HB0.out⟩
   ·simp only [if_true] at HW2;go_enter Tryz.func65,Tryz.ntmps65;go_wp2_with fail;refine (HW1.out _).mono ?_;rintro e w1 ⟨rfl,rfl⟩;go_wp2_with fail;refine (HW2.out _).mono ?_;rintro e w1 ⟨rfl,rfl⟩;go_wp2_with fail;refine (qG _).mono ?_;rintro e w1 ⟨rfl,rfl⟩;go_wp2;exact ⟨rfl,by rw [HF.out]; rfl,HB0.out⟩
  ·cases t3:inB ops.length 1 60
   ·rw [t1] at HW1;rw [t2] at HW2;rw [t3] at HW3;have HF:Hid (res=false):=Lib.hid (by rw [HBK.out,t1,t2,t3]; rfl);clear HBK HR t1 t2 t3;cases ch
    ·simp only [Bool.false_eq_true,if_false] at HW2;go_enter Tryz.func65,Tryz.ntmps65;go_wp2_with fail;refine (HW1.out _).mono ?_;rintro e w1 ⟨rfl,rfl⟩;go_wp2_with fail;refine (HW2.out _).mono ?_;rintro e w1 ⟨rfl,rfl⟩;go_wp2_with fail;refine (HW3.out _).mono ?_;rintro e w1 ⟨rfl,rfl⟩;go_wp2_with fail;refine (qG _).mono ?_;rintro e w1 ⟨rfl,rfl⟩;go_wp2;exact ⟨rfl,by rw [HF.out]; rfl,HB0.out⟩
    ·simp only [if_true] at HW2;go_enter Tryz.func65,Tryz.ntmps65;go_wp2_with fail;refine (HW1.out _).mono ?_;rintro e w1 ⟨rfl,rfl⟩;go_wp2_with fail;refine (HW2.out _).mono ?_;rintro e w1 ⟨rfl,rfl⟩;go_wp2_with fail;refine (HW3.out _).mono ?_;rintro e w1 ⟨rfl,rfl⟩;go_wp2_with fail;refine (qG _).mono ?_;rintro e w1 ⟨rfl,rfl⟩;go_wp2;exact ⟨rfl,by rw [HF.out]; rfl,HB0.out⟩
   ·obtain ⟨r1,r2,r3,r4⟩:=HR.out t1 t2;rw [t1] at HW1;rw [t2] at HW2;rw [t3] at HW3;rw [t1,t2,t3] at HBK;have HR0:=Lib.hid (room0 (w.alloc (.cells #[.int .i64 y0,.int .i64 y1,.slice A3 ops.length c3] 55)));have HB4:=Lib.hid ((((Below.refl (w.heap.size+1) (w.alloc (.cells #[.int .i64 y0,.int .i64 y1,.slice A3 ops.length c3] 55))).alloc (by simp) (.map #[] 0)).alloc (by simp) (.map #[] 0)).alloc (by simp) (.cells #[.int .i64 0,.map (some (w.heap.size+1)),.map (some (w.heap.size+1+1))] 140));have HA0:Hid (addC [] (y0+y1).toNat 0=some (List.replicate (y0+y1).toNat 0)):=Lib.hid (by unfold addC; rw [if_pos (by simp; omega)]; rfl);simp only [World.size_alloc] at HR0;clear HR t1 t2 t3;cases ch
    ·simp only [Bool.false_eq_true,if_false] at HW2;go_enter Tryz.func65,Tryz.ntmps65;go_wp2_with fail;refine (HW1.out _).mono ?_;rintro e w1 ⟨rfl,rfl⟩;go_wp2_with fail;refine (HW2.out _).mono ?_;rintro e w1 ⟨rfl,rfl⟩;go_wp2_with fail;refine (HW3.out _).mono ?_;rintro e w1 ⟨rfl,rfl⟩;go_wp2_with fail;refine (qL _).mono ?_;rintro e w1 ⟨rfl,rfl⟩;go_wp2_with fail;refine (qEu _ (w.heap.size+1) [] (y0+y1) HR0.out (by simp) (by omega) (by omega)).mono ?_;intro e w1 hD;rw [HA0.out] at hD;obtain ⟨rfl,hR1,hB1⟩:=hD;have HCO:=qB.mk (CO.mk (b:=w.heap.size+1) (W0:=(w.alloc (.cells #[.int .i64 y0,.int .i64 y1,.slice A3 ops.length c3] 55))) (bs:=bs) (gs:=gl.length) (l:=ops) (i:=0) hR1 (by simp; omega) (HB4.out.trans hB1) (by rw [List.drop_zero]));have b0:=(HB4.out.trans hB1).cell (p:=⟨w.heap.size,0,none⟩) (by simp);have f2:w1.cell? ⟨w.heap.size,2,none⟩=some (.slice A3 ops.length c3):=qD (((HB4.out.trans hB1).block w.heap.size (by simp)).trans (MapKept.heap_alloc w _).1) (i:=2) rfl;clear hR1 hB1 hlk b0 HR0 HB4 HA0 hmm dm;go_wp2
     go_loopw [47] (fun v wr=>∃i:Nat,∃st:List Int,i≤ops.length∧v=.int .i64 i∧qB (CO (w.heap.size+1) (w.alloc (.cells #[.int .i64 y0,.int .i64 y1,.slice A3 ops.length c3] 55)) wr bs gl.length ops i st (opsK bs gl.length (List.replicate (y0+y1).toNat 0) ops))) (fun v _=>ops.length - (intOf v).toNat)
     case atStart=>exact ⟨0,_,by omega,rfl,HCO⟩
     case round=>
      obtain ⟨i,st,hi,rfl,HJ⟩:=hrel;clear HCO f2;by_cases hlt:i<ops.length
      ·have HBw:=HJ.out.below;have hWw:Below w.heap.size w wr:=HB0.out.trans (HBw.mono (by simp));obtain ⟨ad,A5,c5,A6,c6,e3,hx0,hx1,hx2,hx3,hx4,hx5,hx6,g5,C5,g6,C6⟩:=qA3 (Kd.C_below HK.out.1 hWw) (i:Int) (by omega) (by omega);have hrd:qj ops (i:Int)=ops.getD i z59:=by simp [qj]
       have hRes:=HJ.out.at hlt;have hsz:=HK.out.2 (ops.getD i z59) (by simp [List.getD_eq_getElem?_getD,List.getElem?_eq_getElem hlt]);rw [hrd] at hx0 hx1 hx2 hx3 hx4 hx5 hx6 g5 C5 g6 C6;generalize ops.getD i z59=g at *;obtain ⟨x0,x1,x2,x3,x4,x5,x6⟩:=g;simp only at hx0 hx1 hx2 hx3 hx4 hx5 hx6 g5 C5 g6 C6 hsz hRes;cases e3;simp only [Int.toNat_natCast] at hx0 hx1 hx2 hx3 hx4 hx5 hx6;have hmx5:x5.length≤9223372036854775807:=C5.2.1;have hmx6:x6.length≤9223372036854775807:=C6.2.1;have hb1:=qC (Below.refl wr.heap.size wr) (.cells #[.int .i64 x0,.int .i64 x1,.int .i64 x2,.int .i64 x3,.string x4,.slice A5 x5.length c5,.slice A6 x6.length c6] 59);have hbx:(wr.alloc (.cells #[.int .i64 x0,.int .i64 x1,.int .i64 x2,.int .i64 x3,.string x4,.slice A5 x5.length c5,.slice A6 x6.length c6] 59)).heap[wr.heap.size]? = some (.cells #[.int .i64 x0,.int .i64 x1,.int .i64 x2,.int .i64 x3,.string x4,.slice A5 x5.length c5,.slice A6 x6.length c6] 59 (0,0)):=(MapKept.heap_alloc wr _).1;have HFL:=Lib.hid (qDg (wr.alloc (.cells #[.int .i64 x0,.int .i64 x1,.int .i64 x2,.int .i64 x3,.string x4,.slice A5 x5.length c5,.slice A6 x6.length c6] 59)) ⟨x0,x1,x2,x3,x4,x5,x6⟩ A5 A6 c5 c6 ((HL.out.below hWw).below hb1));have HKX:=Lib.hid (And.intro (And.intro g5 C5) (And.intro (And.intro g6 C6) hsz));have HBX:=Lib.hid hbx;have HBB:=Lib.hid hb1;have HWW:=Lib.hid hWw
       have hbox5:wr.heap[w.heap.size]? = some (.cells #[.int .i64 y0,.int .i64 y1,.slice (some ad) ops.length c3] 55 (0,0)):=(HBw.block w.heap.size (by simp)).trans (MapKept.heap_alloc w _).1;have HB5:=Lib.hid hbox5;have HRes:=Lib.hid hRes;clear hbox5 hbx hb1 hWw g5 C5 g6 C6 hsz HBw hrd hRes;unfold gOp at HFL;cases hz:qf ⟨x0,x1,x2,x3,x4,x5,x6⟩
       ·have HF:Hid (res=false):=Lib.hid (by rw [HBK.out,HRes.out,hz]; rfl);rw [hz] at HFL;clear hz;go_wp2_with fail;refine HFL.out.mono ?_;rintro e w2 ⟨rfl,hb2⟩;simp only [Bool.false_eq_true,if_false];have HBE:=qB.mk (HWW.out.trans ((HBB.out.trans (hb2.mono (by simp))).mono (HWW.out.size)));clear hb2;go_wp2;exact ⟨rfl,by rw [HF.out]; rfl,HBE.out⟩
       ·have HZ:=Lib.hid hz;rw [hz] at HFL;clear hz;go_wp2_with fail;refine HFL.out.mono ?_;rintro e w2 ⟨rfl,hb2⟩;simp only [if_true,QD];have e0:=qA hb2 (qD HBX.out (i:=0) rfl);have e1:=qA hb2 (qD HBX.out (i:=1) rfl);have e2:=qA hb2 (qD HBX.out (i:=2) rfl);have e3:=qA hb2 (qD HBX.out (i:=3) rfl);have e4:=qA hb2 (qD HBX.out (i:=4) rfl);have e5:=qA hb2 (qD HBX.out (i:=5) rfl);have e6:=qA hb2 (qD HBX.out (i:=6) rfl);have hw2:wr.heap.size<w2.heap.size:=World.block_lt_of_cell? _ _ e0;have hb3:=HBB.out.trans (hb2.mono (by simp));have k5:=qA hb3 (qD HB5.out (i:=2) rfl);have hw5:w.heap.size<w2.heap.size:=World.block_lt_of_cell? _ _ k5;have hR2:=HJ.out.rm.below hb3;have d1:w2.cell? ⟨w.heap.size+1+1+1,1,none⟩=some (.map (some (w.heap.size+1))):=hR2.facts.2.1;have hw6:w.heap.size+1+1+1<w2.heap.size:=World.block_lt_of_cell? _ _ d1;have HB3:=Lib.hid hb3;obtain ⟨k,hfk,hln0⟩:=hR2.lens;have hln:=fun o=>hln0 (w2.alloc o) (qC (Below.refl _ _) o)
        have HFK:=Lib.hid hfk;clear hln0 hfk;have HR2:=Lib.hid hR2;clear hb2 hb3 hR2 HFL HBX HB5 hx0 hx1 hx2 hx3 hx4 hx5 hx6;generalize hen:qv x0=en at *;rw [HZ.out] at HRes;have hOp:∀W,Below w2.heap.size w2 W→Calls Tryz.prog 93 #[.pointer (some ⟨p,0,none⟩),.pointer (some ⟨w.heap.size+1+1+1,0,none⟩),.agg #[.int .i64 x0,.int .i64 x1,.int .i64 x2,.int .i64 x3,.string x4,.slice A5 x5.length c5,.slice A6 x6.length c6]] W (Done (w.heap.size+1) W (opK bs gl.length st ⟨x0,x1,x2,x3,x4,x5,x6⟩)):=fun W hW=>by
         have hh:=HB3.out.trans (hW.mono HB3.out.size);exact qG8 W p m A ca A2 cb bs gl (w.heap.size+1) st ⟨x0,x1,x2,x3,x4,x5,x6⟩ A5 A6 c5 c6 HZ.out ⟨(HC.out.below HWW.out).below hh,HJ.out.rm.below hh,(HL.out.below HWW.out).below hh,HJ.out.small,HKX.out.1.1,Kd.C_below HKX.out.1.2 hh,HKX.out.2.1.1,Kd.C_below HKX.out.2.1.2 hh,HKX.out.2.2.1,HKX.out.2.2.2⟩
        have HOp:=Lib.hid hOp;clear hOp;by_cases hla:i+1=ops.length
        ·have hd:((i:Int)==(ops.length:Int) - 1)=true:=beq_iff_eq.2 (by omega);rw [decide_eq_true hla] at HRes;cases en
         ·have HF:Hid (res=false):=Lib.hid (by rw [HBK.out,HRes.out]; rfl);go_wp2_with fail;refine (qG _).mono ?_;rintro e w3 ⟨rfl,rfl⟩;go_wp2;exact ⟨rfl,by rw [HF.out]; rfl,qC (HWW.out.trans (HB3.out.mono HWW.out.size)) _⟩
         ·by_cases hk0:k=0
          ·have hf:qz st=true:=HFK.out.trans (beq_iff_eq.2 (by omega));have t0:((k:Int)==0)=true:=beq_iff_eq.2 (by omega);rw [hf] at HRes;clear hf hk0;go_wp2_with fail;refine (qL _).mono ?_;rintro e w3 ⟨rfl,rfl⟩;go_wp2_with fail;refine (qL _).mono ?_;rintro e w3 ⟨rfl,rfl⟩;go_wp2_with fail;refine (HOp.out _ (qC (Below.refl _ _) _)).mono ?_;intro e w4 hD;have HD:=qB.mk (Done.lift (((HB3.out.trans (qC (Below.refl w2.heap.size w2) _ |>.mono HB3.out.size)).mono (HJ.out.below.size |> fun hh=>by simp at hh; omega)):Below (w.heap.size+1) wr _) hD);clear hD;cases ho:opK bs gl.length st ⟨x0,x1,x2,x3,x4,x5,x6⟩ with
           |none=>
            rw [ho] at HD;have HF:Hid (res=false):=Lib.hid (by rw [HBK.out,HRes.out]; unfold qCI; rw [ho]; simp);obtain ⟨rfl,hB4⟩:=HD.out;have HBE:=qB.mk (HWW.out.trans (hB4.mono (by omega)));clear ho hB4;go_wp2;exact ⟨rfl,by rw [HF.out]; rfl,HBE.out⟩
           |some s2=>
            rw [ho] at HD;have HN:qB (CO (w.heap.size+1) (w.alloc (.cells #[.int .i64 y0,.int .i64 y1,.slice (some ad) ops.length c3] 55)) w4 bs gl.length ops (i+1) s2 (opsK bs gl.length (List.replicate (y0+y1).toNat 0) ops)):=⟨⟨HD.out.2.1,qBc ho HJ.out.small,HJ.out.below.trans (HD.out.2.2.mono (by simp)),by rw [HRes.out]; unfold qCI; rw [ho]; simp⟩⟩;obtain ⟨rfl,_,_⟩:=HD.out;clear ho;go_wp2;go_roundw
            case rel=>exact ⟨i+1,s2,by omega,by go_num,HN⟩
            case measure=>simp [intOf]; omega
          ·have hf:qz st=false:=HFK.out.trans (beq_eq_false_iff_ne.2 (by omega));have HF:Hid (res=false):=Lib.hid (by rw [HBK.out,HRes.out,hf]; rfl);have t0:((k:Int)==0)=false:=beq_eq_false_iff_ne.2 (by omega);clear hf hk0;go_wp2_with fail;refine (qL _).mono ?_;rintro e w3 ⟨rfl,rfl⟩;go_wp2_with fail;refine (qG _).mono ?_;rintro e w3 ⟨rfl,rfl⟩;go_wp2;exact ⟨rfl,by rw [HF.out]; rfl,qC (HWW.out.trans (HB3.out.mono HWW.out.size)) _⟩
        ·have hd:((i:Int)==(ops.length:Int) - 1)=false:=beq_eq_false_iff_ne.2 (by omega);rw [decide_eq_false hla] at HRes;cases en
         ·go_wp2_with fail;refine (qL _).mono ?_;rintro e w3 ⟨rfl,rfl⟩;go_wp2_with fail;refine (qL _).mono ?_;rintro e w3 ⟨rfl,rfl⟩;go_wp2_with fail;refine (HOp.out _ (qC (Below.refl _ _) _)).mono ?_;intro e w4 hD;have HD:=qB.mk (Done.lift (((HB3.out.trans (qC (Below.refl w2.heap.size w2) _ |>.mono HB3.out.size)).mono (HJ.out.below.size |> fun hh=>by simp at hh; omega)):Below (w.heap.size+1) wr _) hD);clear hD;cases ho:opK bs gl.length st ⟨x0,x1,x2,x3,x4,x5,x6⟩ with
          |none=>
           rw [ho] at HD;have HF:Hid (res=false):=Lib.hid (by rw [HBK.out,HRes.out]; unfold qCI; rw [ho]; simp);obtain ⟨rfl,hB4⟩:=HD.out;have HBE:=qB.mk (HWW.out.trans (hB4.mono (by omega)));clear ho hB4;go_wp2;exact ⟨rfl,by rw [HF.out]; rfl,HBE.out⟩
          |some s2=>
           rw [ho] at HD;have HN:qB (CO (w.heap.size+1) (w.alloc (.cells #[.int .i64 y0,.int .i64 y1,.slice (some ad) ops.length c3] 55)) w4 bs gl.length ops (i+1) s2 (opsK bs gl.length (List.replicate (y0+y1).toNat 0) ops)):=⟨⟨HD.out.2.1,qBc ho HJ.out.small,HJ.out.below.trans (HD.out.2.2.mono (by simp)),by rw [HRes.out]; unfold qCI; rw [ho]; simp⟩⟩;obtain ⟨rfl,_,_⟩:=HD.out;clear ho;go_wp2;go_roundw
           case rel=>exact ⟨i+1,s2,by omega,by go_num,HN⟩
           case measure=>simp [intOf]; omega
         ·have HF:Hid (res=false):=Lib.hid (by rw [HBK.out,HRes.out]; rfl);go_wp2_with fail;refine (qG _).mono ?_;rintro e w3 ⟨rfl,rfl⟩;go_wp2;exact ⟨rfl,by rw [HF.out]; rfl,qC (HWW.out.trans (HB3.out.mono HWW.out.size)) _⟩
      ·obtain rfl:i=ops.length:=by omega
       have HF:Hid (res=true):=Lib.hid (by rw [HBK.out,HJ.out.done]; rfl);go_wp2;go_end0;exact ⟨by rw [HF.out]; rfl,HB0.out.trans (HJ.out.below.mono (by simp))⟩
    ·simp only [if_true] at HW2;go_enter Tryz.func65,Tryz.ntmps65;go_wp2_with fail;refine (HW1.out _).mono ?_;rintro e w1 ⟨rfl,rfl⟩;go_wp2_with fail;refine (HW2.out _).mono ?_;rintro e w1 ⟨rfl,rfl⟩;go_wp2_with fail;refine (HW3.out _).mono ?_;rintro e w1 ⟨rfl,rfl⟩;go_wp2_with fail;refine (qL _).mono ?_;rintro e w1 ⟨rfl,rfl⟩;go_wp2_with fail;refine (qEu _ (w.heap.size+1) [] (y0+y1) HR0.out (by simp) (by omega) (by omega)).mono ?_;intro e w1 hD;rw [HA0.out] at hD;obtain ⟨rfl,hR1,hB1⟩:=hD;have HCO:=qB.mk (CO.mk (b:=w.heap.size+1) (W0:=(w.alloc (.cells #[.int .i64 y0,.int .i64 y1,.slice A3 ops.length c3] 55))) (bs:=bs) (gs:=gl.length) (l:=ops) (i:=0) hR1 (by simp; omega) (HB4.out.trans hB1) (by rw [List.drop_zero]));have b0:=(HB4.out.trans hB1).cell (p:=⟨w.heap.size,0,none⟩) (by simp);have f2:w1.cell? ⟨w.heap.size,2,none⟩=some (.slice A3 ops.length c3):=qD (((HB4.out.trans hB1).block w.heap.size (by simp)).trans (MapKept.heap_alloc w _).1) (i:=2) rfl;clear hR1 hB1 hlk b0 HR0 HB4 HA0 hmm dm;go_wp2
     go_loopw [47] (fun v wr=>∃i:Nat,∃st:List Int,i≤ops.length∧v=.int .i64 i∧qB (CO (w.heap.size+1) (w.alloc (.cells #[.int .i64 y0,.int .i64 y1,.slice A3 ops.length c3] 55)) wr bs gl.length ops i st (opsK bs gl.length (List.replicate (y0+y1).toNat 0) ops))) (fun v _=>ops.length - (intOf v).toNat)
     case atStart=>exact ⟨0,_,by omega,rfl,HCO⟩
     case round=>
      obtain ⟨i,st,hi,rfl,HJ⟩:=hrel;clear HCO f2;by_cases hlt:i<ops.length
      ·have HBw:=HJ.out.below;have hWw:Below w.heap.size w wr:=HB0.out.trans (HBw.mono (by simp));obtain ⟨ad,A5,c5,A6,c6,e3,hx0,hx1,hx2,hx3,hx4,hx5,hx6,g5,C5,g6,C6⟩:=qA3 (Kd.C_below HK.out.1 hWw) (i:Int) (by omega) (by omega);have hrd:qj ops (i:Int)=ops.getD i z59:=by simp [qj]
       have hRes:=HJ.out.at hlt;have hsz:=HK.out.2 (ops.getD i z59) (by simp [List.getD_eq_getElem?_getD,List.getElem?_eq_getElem hlt]);rw [hrd] at hx0 hx1 hx2 hx3 hx4 hx5 hx6 g5 C5 g6 C6;generalize ops.getD i z59=g at *;obtain ⟨x0,x1,x2,x3,x4,x5,x6⟩:=g;simp only at hx0 hx1 hx2 hx3 hx4 hx5 hx6 g5 C5 g6 C6 hsz hRes;cases e3;simp only [Int.toNat_natCast] at hx0 hx1 hx2 hx3 hx4 hx5 hx6;have hmx5:x5.length≤9223372036854775807:=C5.2.1;have hmx6:x6.length≤9223372036854775807:=C6.2.1;have hb1:=qC (Below.refl wr.heap.size wr) (.cells #[.int .i64 x0,.int .i64 x1,.int .i64 x2,.int .i64 x3,.string x4,.slice A5 x5.length c5,.slice A6 x6.length c6] 59);have hbx:(wr.alloc (.cells #[.int .i64 x0,.int .i64 x1,.int .i64 x2,.int .i64 x3,.string x4,.slice A5 x5.length c5,.slice A6 x6.length c6] 59)).heap[wr.heap.size]? = some (.cells #[.int .i64 x0,.int .i64 x1,.int .i64 x2,.int .i64 x3,.string x4,.slice A5 x5.length c5,.slice A6 x6.length c6] 59 (0,0)):=(MapKept.heap_alloc wr _).1;have HFL:=Lib.hid (qDg (wr.alloc (.cells #[.int .i64 x0,.int .i64 x1,.int .i64 x2,.int .i64 x3,.string x4,.slice A5 x5.length c5,.slice A6 x6.length c6] 59)) ⟨x0,x1,x2,x3,x4,x5,x6⟩ A5 A6 c5 c6 ((HL.out.below hWw).below hb1));have HKX:=Lib.hid (And.intro (And.intro g5 C5) (And.intro (And.intro g6 C6) hsz));have HBX:=Lib.hid hbx;have HBB:=Lib.hid hb1;have HWW:=Lib.hid hWw
       have hbox5:wr.heap[w.heap.size]? = some (.cells #[.int .i64 y0,.int .i64 y1,.slice (some ad) ops.length c3] 55 (0,0)):=(HBw.block w.heap.size (by simp)).trans (MapKept.heap_alloc w _).1;have HB5:=Lib.hid hbox5;have HRes:=Lib.hid hRes;clear hbox5 hbx hb1 hWw g5 C5 g6 C6 hsz HBw hrd hRes;unfold gOp at HFL;cases hz:qf ⟨x0,x1,x2,x3,x4,x5,x6⟩
       ·have HF:Hid (res=false):=Lib.hid (by rw [HBK.out,HRes.out,hz]; rfl);rw [hz] at HFL;clear hz;go_wp2_with fail;refine HFL.out.mono ?_;rintro e w2 ⟨rfl,hb2⟩;simp only [Bool.false_eq_true,if_false];have HBE:=qB.mk (HWW.out.trans ((HBB.out.trans (hb2.mono (by simp))).mono (HWW.out.size)));clear hb2;go_wp2;exact ⟨rfl,by rw [HF.out]; rfl,HBE.out⟩
       ·have HZ:=Lib.hid hz;rw [hz] at HFL;clear hz;go_wp2_with fail;refine HFL.out.mono ?_;rintro e w2 ⟨rfl,hb2⟩;simp only [if_true,QD];have e0:=qA hb2 (qD HBX.out (i:=0) rfl);have e1:=qA hb2 (qD HBX.out (i:=1) rfl);have e2:=qA hb2 (qD HBX.out (i:=2) rfl);have e3:=qA hb2 (qD HBX.out (i:=3) rfl);have e4:=qA hb2 (qD HBX.out (i:=4) rfl);have e5:=qA hb2 (qD HBX.out (i:=5) rfl);have e6:=qA hb2 (qD HBX.out (i:=6) rfl);have hw2:wr.heap.size<w2.heap.size:=World.block_lt_of_cell? _ _ e0;have hb3:=HBB.out.trans (hb2.mono (by simp));have k5:=qA hb3 (qD HB5.out (i:=2) rfl);have hw5:w.heap.size<w2.heap.size:=World.block_lt_of_cell? _ _ k5;have hR2:=HJ.out.rm.below hb3;have d1:w2.cell? ⟨w.heap.size+1+1+1,1,none⟩=some (.map (some (w.heap.size+1))):=hR2.facts.2.1;have hw6:w.heap.size+1+1+1<w2.heap.size:=World.block_lt_of_cell? _ _ d1;have HB3:=Lib.hid hb3;obtain ⟨k,hfk,hln0⟩:=hR2.lens;have hln:=fun o=>hln0 (w2.alloc o) (qC (Below.refl _ _) o)
        have HFK:=Lib.hid hfk;clear hln0 hfk;have HR2:=Lib.hid hR2;clear hb2 hb3 hR2 HFL HBX HB5 hx0 hx1 hx2 hx3 hx4 hx5 hx6;generalize hen:qv x0=en at *;rw [HZ.out] at HRes;have hOp:∀W,Below w2.heap.size w2 W→Calls Tryz.prog 93 #[.pointer (some ⟨p,0,none⟩),.pointer (some ⟨w.heap.size+1+1+1,0,none⟩),.agg #[.int .i64 x0,.int .i64 x1,.int .i64 x2,.int .i64 x3,.string x4,.slice A5 x5.length c5,.slice A6 x6.length c6]] W (Done (w.heap.size+1) W (opK bs gl.length st ⟨x0,x1,x2,x3,x4,x5,x6⟩)):=fun W hW=>by
         have hh:=HB3.out.trans (hW.mono HB3.out.size);exact qG8 W p m A ca A2 cb bs gl (w.heap.size+1) st ⟨x0,x1,x2,x3,x4,x5,x6⟩ A5 A6 c5 c6 HZ.out ⟨(HC.out.below HWW.out).below hh,HJ.out.rm.below hh,(HL.out.below HWW.out).below hh,HJ.out.small,HKX.out.1.1,Kd.C_below HKX.out.1.2 hh,HKX.out.2.1.1,Kd.C_below HKX.out.2.1.2 hh,HKX.out.2.2.1,HKX.out.2.2.2⟩
        have HOp:=Lib.hid hOp;clear hOp;by_cases hla:i+1=ops.length
        ·have hd:((i:Int)==(ops.length:Int) - 1)=true:=beq_iff_eq.2 (by omega);rw [decide_eq_true hla] at HRes;cases en
         ·have HF:Hid (res=false):=Lib.hid (by rw [HBK.out,HRes.out]; rfl);go_wp2_with fail;refine (qG _).mono ?_;rintro e w3 ⟨rfl,rfl⟩;go_wp2;exact ⟨rfl,by rw [HF.out]; rfl,qC (HWW.out.trans (HB3.out.mono HWW.out.size)) _⟩
         ·by_cases hk0:k=0
          ·have hf:qz st=true:=HFK.out.trans (beq_iff_eq.2 (by omega));have t0:((k:Int)==0)=true:=beq_iff_eq.2 (by omega);rw [hf] at HRes;clear hf hk0;go_wp2_with fail;refine (qL _).mono ?_;rintro e w3 ⟨rfl,rfl⟩;go_wp2_with fail;refine (qL _).mono ?_;rintro e w3 ⟨rfl,rfl⟩;go_wp2_with fail;refine (HOp.out _ (qC (Below.refl _ _) _)).mono ?_;intro e w4 hD;have HD:=qB.mk (Done.lift (((HB3.out.trans (qC (Below.refl w2.heap.size w2) _ |>.mono HB3.out.size)).mono (HJ.out.below.size |> fun hh=>by simp at hh; omega)):Below (w.heap.size+1) wr _) hD);clear hD;cases ho:opK bs gl.length st ⟨x0,x1,x2,x3,x4,x5,x6⟩ with
           |none=>
            rw [ho] at HD;have HF:Hid (res=false):=Lib.hid (by rw [HBK.out,HRes.out]; unfold qCI; rw [ho]; simp);obtain ⟨rfl,hB4⟩:=HD.out;have HBE:=qB.mk (HWW.out.trans (hB4.mono (by omega)));clear ho hB4;go_wp2;exact ⟨rfl,by rw [HF.out]; rfl,HBE.out⟩
           |some s2=>
            rw [ho] at HD;have HN:qB (CO (w.heap.size+1) (w.alloc (.cells #[.int .i64 y0,.int .i64 y1,.slice (some ad) ops.length c3] 55)) w4 bs gl.length ops (i+1) s2 (opsK bs gl.length (List.replicate (y0+y1).toNat 0) ops)):=⟨⟨HD.out.2.1,qBc ho HJ.out.small,HJ.out.below.trans (HD.out.2.2.mono (by simp)),by rw [HRes.out]; unfold qCI; rw [ho]; simp⟩⟩;obtain ⟨rfl,_,_⟩:=HD.out;clear ho;go_wp2;go_roundw
            case rel=>exact ⟨i+1,s2,by omega,by go_num,HN⟩
            case measure=>simp [intOf]; omega
          ·have hf:qz st=false:=HFK.out.trans (beq_eq_false_iff_ne.2 (by omega));have HF:Hid (res=false):=Lib.hid (by rw [HBK.out,HRes.out,hf]; rfl);have t0:((k:Int)==0)=false:=beq_eq_false_iff_ne.2 (by omega);clear hf hk0;go_wp2_with fail;refine (qL _).mono ?_;rintro e w3 ⟨rfl,rfl⟩;go_wp2_with fail;refine (qG _).mono ?_;rintro e w3 ⟨rfl,rfl⟩;go_wp2;exact ⟨rfl,by rw [HF.out]; rfl,qC (HWW.out.trans (HB3.out.mono HWW.out.size)) _⟩
        ·have hd:((i:Int)==(ops.length:Int) - 1)=false:=beq_eq_false_iff_ne.2 (by omega);rw [decide_eq_false hla] at HRes;cases en
         ·go_wp2_with fail;refine (qL _).mono ?_;rintro e w3 ⟨rfl,rfl⟩;go_wp2_with fail;refine (qL _).mono ?_;rintro e w3 ⟨rfl,rfl⟩;go_wp2_with fail;refine (HOp.out _ (qC (Below.refl _ _) _)).mono ?_;intro e w4 hD;have HD:=qB.mk (Done.lift (((HB3.out.trans (qC (Below.refl w2.heap.size w2) _ |>.mono HB3.out.size)).mono (HJ.out.below.size |> fun hh=>by simp at hh; omega)):Below (w.heap.size+1) wr _) hD);clear hD;cases ho:opK bs gl.length st ⟨x0,x1,x2,x3,x4,x5,x6⟩ with
          |none=>
           rw [ho] at HD;have HF:Hid (res=false):=Lib.hid (by rw [HBK.out,HRes.out]; unfold qCI; rw [ho]; simp);obtain ⟨rfl,hB4⟩:=HD.out;have HBE:=qB.mk (HWW.out.trans (hB4.mono (by omega)));clear ho hB4;go_wp2;exact ⟨rfl,by rw [HF.out]; rfl,HBE.out⟩
          |some s2=>
           rw [ho] at HD;have HN:qB (CO (w.heap.size+1) (w.alloc (.cells #[.int .i64 y0,.int .i64 y1,.slice (some ad) ops.length c3] 55)) w4 bs gl.length ops (i+1) s2 (opsK bs gl.length (List.replicate (y0+y1).toNat 0) ops)):=⟨⟨HD.out.2.1,qBc ho HJ.out.small,HJ.out.below.trans (HD.out.2.2.mono (by simp)),by rw [HRes.out]; unfold qCI; rw [ho]; simp⟩⟩;obtain ⟨rfl,_,_⟩:=HD.out;clear ho;go_wp2;go_roundw
           case rel=>exact ⟨i+1,s2,by omega,by go_num,HN⟩
           case measure=>simp [intOf]; omega
         ·have HF:Hid (res=false):=Lib.hid (by rw [HBK.out,HRes.out]; rfl);go_wp2_with fail;refine (qG _).mono ?_;rintro e w3 ⟨rfl,rfl⟩;go_wp2;exact ⟨rfl,by rw [HF.out]; rfl,qC (HWW.out.trans (HB3.out.mono HWW.out.size)) _⟩
      ·obtain rfl:i=ops.length:=by omega
       have HF:Hid (res=true):=Lib.hid (by rw [HBK.out,HJ.out.done]; rfl);go_wp2;go_end0;exact ⟨by rw [HF.out]; rfl,HB0.out.trans (HJ.out.below.mono (by simp))⟩
end Go.Proofs.YtoonkkipnljflaaGreatDoor.CJ
