/- The reference's Room of a block. Conditions: the code lies in memory; strings are not too long; the listed variables are laid. -/
import Derived.Test.YtoonkkipnljflaaGreatDoorRG
import Derived.Test.YtoonkkipnljflaaGreatDoorH5
namespace Go.Proofs.YtoonkkipnljflaaGreatDoor.CJ
open Go.RowKit Go.Proofs.YtoonkkipnljflaaGreatDoorW.PrintWords Go.Proofs.YtoonkkipnljflaaGreatDoorW.PrintLast Go.Proofs.YtoonkkipnljflaaGreatDoor.PT Go.Proofs.YtoonkkipnljflaaGreatDoor.IMaps
set_option linter.unusedVariables false
set_option linter.unusedSimpArgs false
def RoomPost(w:World):Option (List Int)→Ending→World→Prop
 |some st,e,w'=>e=.returned (.tuple #[.int .i64 st.length,.bool true])∧Below w.heap.size w w'
 |none,e,w'=>e=.returned (.tuple #[.int .i64 0,.bool false])∧Below w.heap.size w w'
structure RO(Wb wr:World)(q:Nat)(A:Option Addr)(ca:Nat)(A2:Option Addr)(cb:Nat)(bs:List GBk)(gl:List GGl)(l:List GOp)(i:Nat)(st:List Int)(R:Option (List Int)):Prop where
 lx:LX Wb wr q A ca A2 cb bs gl st.length st
 small:st.length≤60
 run:R=opsX bs gl.length st (l.drop i)
theorem opsX_at(bs:List GBk)(gs:Nat)(st:List Int)(l:List GOp)(i:Nat)(hi:i<l.length):opsX bs gs st (l.drop i)=if qv (l.getD i z59).f0==decide (i+1=l.length) then (match capX (opX bs gs st (l.getD i z59)) with|some st'=>opsX bs gs st' (l.drop (i+1))|none=>none) else none:=by
 have e:l.getD i z59=l[i]:=by simp [List.getD_eq_getElem?_getD,List.getElem?_eq_getElem hi]
 have e2:(l.drop (i+1)).isEmpty=decide (i+1=l.length):=by
  by_cases hh:i+1=l.length
  ·rw [decide_eq_true hh,List.isEmpty_iff]; exact List.drop_eq_nil_of_le (by omega)
  ·rw [decide_eq_false hh,←Bool.not_eq_true,List.isEmpty_iff,List.drop_eq_nil_iff]; omega
 rw [e,←e2]
 conv=>lhs; rw [List.drop_eq_getElem_cons hi]
 rfl
theorem look_new{Wb:World}{A:Option Addr}{ca:Nat}{A2:Option Addr}{cb:Nat}{bs:List GBk}{gl:List GGl}(cm:CM Wb A ca A2 cb bs gl)(rl:LR Wb):LX Wb (Wb.alloc (.cells #[.slice A bs.length ca,.slice A2 gl.length cb,.slice none 0 0,.int .i64 0,.bool false] 119)) Wb.heap.size A ca A2 cb bs gl ([]:List Int).length []:=
 ⟨Nat.le_refl _,⟨.slice none 0 0,(MapKept.heap_alloc Wb _).1,⟨rfl,.inl ⟨rfl,rfl⟩⟩,by simp [Value.ownBlock]⟩,cm,rl,qC (Below.refl _ _) _⟩
set_option maxRecDepth 100000 in
set_option maxHeartbeats 16000000 in
theorem qGi(w:World)(A:Option Addr)(ca:Nat)(A2:Option Addr)(cb:Nat)(bs:List GBk)(gl:List GGl)(cm:CM w A ca A2 cb bs gl)(rl:LR w)(so:qAq bs gl)(n:Nat)(hn:n<bs.length):
 Calls Tryz.prog 43 #[.agg #[.slice A bs.length ca,.slice A2 gl.length cb],.int .i64 n] w (RoomPost w (qBO bs gl.length (bs.getD n z55))):=by
 have hm2:=cm.ma.2.1;obtain ⟨ad,A1,c1,rfl,g0,g1,g2,l1,C1⟩:=qAN cm.ma (n:Int) (by omega) (by omega);have hrd:qo bs (n:Int)=bs.getD n z55:=by simp [qo]
 have hso:qEP (bs.getD n z55).f2:=by
  have e:bs.getD n z55=bs[n]:=by simp [List.getD_eq_getElem?_getD,List.getElem?_eq_getElem hn]
  rw [e]; exact so.1 _ (List.getElem_mem hn)
 rw [hrd] at g0 g1 g2 l1 C1;simp only [Int.toNat_natCast] at g0 g1 g2;generalize bs.getD n z55=b at *;obtain ⟨y0,y1,ops⟩:=b;simp only at g0 g1 g2 l1 C1 hso;clear hrd so;obtain ⟨R,hR⟩:∃R,R=qBO bs gl.length ⟨y0,y1,ops⟩:=⟨_,rfl⟩;rw [←hR];have hb1:=qC (Below.refl w.heap.size w) (.cells #[.slice (some ad) bs.length ca,.slice A2 gl.length cb] 27);have hb2:=qC hb1 (.cells #[.int .i64 y0,.int .i64 y1,.slice A1 ops.length c1] 55);obtain ⟨Wb,hWb⟩:∃W,W=(w.alloc (.cells #[.slice (some ad) bs.length ca,.slice A2 gl.length cb] 27)).alloc (.cells #[.int .i64 y0,.int .i64 y1,.slice A1 ops.length c1] 55):=⟨_,rfl⟩;have HW2:Hid (Below w.heap.size w Wb):=Lib.hid (hWb▸hb2);have HBX:Hid (Wb.heap[(w.alloc (.cells #[.slice (some ad) bs.length ca,.slice A2 gl.length cb] 27)).heap.size]? = some (.cells #[.int .i64 y0,.int .i64 y1,.slice A1 ops.length c1] 55 (0,0))):=Lib.hid (by rw [hWb]; exact (MapKept.heap_alloc (w.alloc (.cells #[.slice (some ad) bs.length ca,.slice A2 gl.length cb] 27)) (.cells #[.int .i64 y0,.int .i64 y1,.slice A1 ops.length c1] 55)).1);have HLX:=Lib.hid (look_new (cm.below HW2.out) (rl.below HW2.out));have HC1:=Lib.hid (Kd.C_below C1 HW2.out);have HSO:=Lib.hid hso;have hol:=C1.2.1;replace g0:=qA hb1 g0;replace g1:=qA hb1 g1;replace g2:=qA hb1 g2;have z1:(0≤(n:Int))=True:=eq_true (by omega);have z2:((n:Int)<(bs.length:Int))=True:=eq_true (by omega);clear hb1 cm rl C1 hso l1
 by_cases hr:0≤y0∧y0≤40∧0≤y1∧y1≤12∧1≤ops.length∧ops.length≤60;rotate_left
 ·have HF:Hid (R=none):=Lib.hid (by rw [hR]; unfold qBO; rw [if_neg]; simp only [inB,Bool.and_eq_true,decide_eq_true_eq]; omega);have HRR:=Lib.hid hr;have HB2:=Lib.hid hb2;clear hr hb2 hR hWb HLX HC1;go_enter Tryz.func43,Tryz.ntmps43;go_wp2
  all_goals first
  |(exfalso; have:=HRR.out; omega)
  |(go_ret2; rw [HF.out]; exact ⟨rfl,HB2.out⟩)
 have HRun:Hid (R=opsX bs gl.length (List.replicate (y0+y1).toNat 0) ops):=Lib.hid (by rw [hR]; unfold qBO; rw [if_pos]; simp only [inB,Bool.and_eq_true,decide_eq_true_eq]; omega);obtain ⟨t1,t2,t3,t4,t5,t6⟩:=hr;have d1:decide (y0<0)=false:=decide_eq_false (by omega);have d2:decide (40<y0)=false:=decide_eq_false (by omega);have d3:decide (y1<0)=false:=decide_eq_false (by omega);have d4:decide (12<y1)=false:=decide_eq_false (by omega);have d5:decide ((ops.length:Int)<1)=false:=decide_eq_false (by omega);have d6:decide ((60:Int)<ops.length)=false:=decide_eq_false (by omega);obtain ⟨k,hk⟩:∃k:Nat,y0+y1=k:=⟨(y0+y1).toNat,by omega⟩;have hk52:k≤52:=by omega
 have HAD:=Lib.hid (qCG HLX.out k 0 (by simp) (by omega));have hkt:(y0+y1).toNat=k:=by omega
 rw [hkt] at HRun;clear t1 t2 t3 t4 hR hb2;go_enter Tryz.func43,Tryz.ntmps43;go_wp2_with fail;have hq:w.heap.size+1+1=Wb.heap.size:=by rw [hWb]; simp [World.size_alloc]
 have hp:(w.alloc (.cells #[.slice (some ad) bs.length ca,.slice A2 gl.length cb] 27)).heap.size=w.heap.size+1:=World.size_alloc _ _;rw [hp] at HBX;rw [←hWb,hq];generalize Wb.heap.size=q at *;generalize w.heap.size+1=p at *;refine HAD.out.mono ?_;rintro e w4 ⟨rfl,hL⟩;simp only [List.nil_append] at hL;have HRO:qB (RO Wb w4 q (some ad) ca A2 cb bs gl ops 0 (List.replicate k 0) R):=⟨⟨hL,by simp; omega,HRun.out⟩⟩;clear hL HAD HRun HLX hp hq hWb g0 g1 g2;go_wp2
 go_loopw [8] (fun v wr=>∃(i:Nat) (st:List Int),i≤ops.length∧v=.int .i64 i∧qB (RO Wb wr q (some ad) ca A2 cb bs gl ops i st R)) (fun v _=>ops.length - (intOf v).toNat)
 case atStart=>exact ⟨0,_,by omega,rfl,HRO⟩
 case round=>
  obtain ⟨i,st,hi,rfl,HA⟩:=hrel;clear HRO
  rename_i wr _
  have bb:=qA HA.out.lx.bel (qD HBX.out (i:=2) rfl);have HBr:=Lib.hid (qF HW2.out HA.out.lx.bel);by_cases hlt:i<ops.length;rotate_left
  ·obtain rfl:i=ops.length:=by omega
   have HF:Hid (R=some st):=Lib.hid (by rw [HA.out.run,List.drop_length]; rfl);obtain ⟨a,c,d0,d1,d2,d3,_⟩:=HA.out.lx.open;clear d0 d1 d2;go_wp2
   go_ret2
   rw [HF.out];exact ⟨rfl,HBr.out⟩
  obtain ⟨od,A5,c5,A6,c6,rfl,g0,g1,g2,g3,g4,g5,g6,l5,m5,l6,m6⟩:=qA3 HC1.out (i:Int) (by omega) (by omega);have hrd:qj ops (i:Int)=ops.getD i z59:=by simp [qj]
  have HSt:=Lib.hid (HA.out.run.trans (opsX_at bs gl.length st ops i hlt));have hsz:(ops.getD i z59).f4.size≤maxLen∧∀a∈(ops.getD i z59).f6,a.f1.size≤maxLen:=by
   have e:ops.getD i z59=ops[i]:=by simp [List.getD_eq_getElem?_getD,List.getElem?_eq_getElem hlt]
   rw [e]; exact HSO.out _ (List.getElem_mem hlt)
  rw [hrd] at g0 g1 g2 g3 g4 g5 g6 l5 m5 l6 m6;simp only [Int.toNat_natCast] at g0 g1 g2 g3 g4 g5 g6;generalize ops.getD i z59=g at *;obtain ⟨x0,x1,x2,x3,x4,x5,x6⟩:=g;simp only at g0 g1 g2 g3 g4 g5 g6 l5 m5 l6 m6 hsz;have hbl:=HA.out.lx.bel;have b2:=qD HBX.out (i:=2) rfl;have e0:=g0;have e1:=g1;have e2:=g2;have e3:=g3;have e4:=g4;have e5:=g5;have e6:=g6;replace g0:=qA hbl g0;replace g1:=qA hbl g1;replace g2:=qA hbl g2;replace g3:=qA hbl g3;replace g4:=qA hbl g4;replace g5:=qA hbl g5;replace g6:=qA hbl g6;have HOP:=Lib.hid (qHe (HA.out.lx.below (qE (Below.refl _ _))) HA.out.small x0 x1 x2 x3 x4 x5 x6 A5 A6 c5 c6 l5 (Kd.C_below m5 (qE hbl)) l6 (Kd.C_below m6 (qE hbl)) hsz.1 hsz.2);unfold gOp at HOP;simp only at HOP;have HLx:=Lib.hid HA.out.lx;have HSM:=Lib.hid HA.out.small;have q1:(0≤(i:Int))=True:=eq_true (by omega);have q2:((i:Int)<(ops.length:Int))=True:=eq_true (by omega);have hel:decide (i+1=ops.length)=((i:Int)==(ops.length:Int) - 1):=by
   by_cases hh:i+1=ops.length
   ·rw [decide_eq_true hh]; exact (beq_iff_eq.2 (by omega)).symm
   ·rw [decide_eq_false hh]; exact (beq_eq_false_iff_ne.2 (by omega)).symm
  have hwl:wrap64 ((ops.length:Int) - 1)=(ops.length:Int) - 1:=IntWalk.wrap64_in _ (by omega);rw [hel] at HSt;clear hel hrd hsz m5 m6 HA hbl;generalize hle:((i:Int)==(ops.length:Int) - 1)=le at *;have HE:=Lib.hid (qE9 x0);generalize qv x0=en at *;have hc:(en=true∧le=false∨en=false∧le=true)∨(en=true∧le=true∨en=false∧le=false):=by cases en<;>cases le<;>simp
  rcases hc with hc|hc
  ·have HF:Hid (R=none):=Lib.hid (by rw [HSt.out]; rcases hc with ⟨rfl,rfl⟩|⟨rfl,rfl⟩<;>rfl);clear HSt HOP;rcases hc with ⟨rfl,rfl⟩|⟨rfl,rfl⟩
   all_goals
    go_wp2;refine qU (n:=31) (S:=fun w'=>w'.cell? ⟨p,2,none⟩=some (.slice (some od) ops.length c1)∧w'.cell? (od.add (i*7))=some (.int .i64 x0)∧qB (Below wr.heap.size wr w')) (ds:=[]) (mA 31 0) (by kernel_rfl) rfl rfl ⟨bb,g0,⟨qE (Below.refl _ _)⟩⟩ (fun hHeld=>?_);refine pa_ 31 1 0 (some 61) (v:=?_) (a':=?_) ?_ ?_ ?_;rotate_left 2
    ·intro w';go_simp
     with_reducible rfl
    ·simp only [pn];rfl
    refine pa_ 31 5 2 (some 63) (v:=?_) (a':=?_) ?_ ?_ ?_;rotate_left 2
    ·intro w';go_simp
     with_reducible rfl
    ·simp only [pn];rfl
    refine pa_ 31 133 7 (some 68) (v:=?_) (a':=?_) ?_ ?_ ?_;rotate_left 2
    ·intro w';go_simp
     with_reducible rfl
    ·simp only [pn];rfl
    refine pa_ 31 389 8 (some 69) (v:=?_) (a':=?_) ?_ ?_ ?_;rotate_left 2
    ·intro w';go_simp
     with_reducible rfl
    ·simp only [pn];rfl
    refine tb_ 31 391 1 (some 62) (v:=?_) (a':=?_) hHeld ?_ ?_ ?_;rotate_left 2
    ·rintro w' ⟨s0,s1,s2⟩;go_simp
     with_reducible rfl
    ·simp only [pn];rfl
    refine pa_ 31 399 3 (some 64) (v:=?_) (a':=?_) ?_ ?_ ?_;rotate_left 2
    ·intro w';go_simp
     with_reducible rfl
    ·simp only [pn];rfl
    refine pa_ 31 415 4 (some 65) (v:=?_) (a':=?_) ?_ ?_ ?_;rotate_left 2
    ·intro w';go_simp
     with_reducible rfl
    ·simp only [pn];rfl
    refine tb_ 31 447 5 (some 66) (v:=?_) (a':=?_) hHeld ?_ ?_ ?_;rotate_left 2
    ·rintro w' ⟨s0,s1,s2⟩;go_simp
     with_reducible rfl
    ·simp only [pn];rfl
    refine tb_ 31 959 9 (some 70) (v:=?_) (a':=?_) hHeld ?_ ?_ ?_;rotate_left 2
    ·rintro w' ⟨s0,s1,s2⟩;go_simp
     with_reducible rfl
    ·simp only [pn];rfl
    refine pa_ 31 1983 10 (some 71) (v:=?_) (a':=?_) ?_ ?_ ?_;rotate_left 2
    ·intro w';go_simp
     with_reducible rfl
    ·simp only [pn];rfl
    refine pa_ 31 4031 11 (some 72) (v:=?_) (a':=?_) ?_ ?_ ?_;rotate_left 2
    ·intro w';go_simp
     with_reducible rfl
    ·simp only [pn];rfl
    refine pa_ 31 8127 12 (some 73) (v:=?_) (a':=?_) ?_ ?_ ?_;rotate_left 2
    ·intro w';go_simp
     with_reducible rfl
    ·simp only [pn];rfl
    refine oo_ 31 8191 6 (some 67) (fun K hK=>?_);refine qR Tryz.func69 (by kernel_rfl) rfl #[.int .i64 x0] (by rfl) rfl rfl (by simp only [List.map_toArray,List.map_cons,List.map_nil]; rfl) ?_
    with_reducible refine (HE.out _).mono ?_
    rintro e w1 ⟨rfl,rfl⟩;refine ⟨_,rfl,?_⟩;refine hK.out _ _ ⟨hHeld.1,hHeld.2.1,hHeld.2.2⟩ (fun hHeld=>?_);clear hK K;refine qM (a':=?_) ?_ ?_;rotate_left
    ·show Act.put _ (some 67) _=_
     simp only [pn];rfl
    refine pa_ 31 16383 13 (some 74) (v:=?_) (a':=?_) ?_ ?_ ?_;rotate_left 2
    ·intro w';go_simp
     with_reducible rfl
    ·simp only [pn];rfl
    refine pa_ 31 32767 14 (some 75) (v:=?_) (a':=?_) ?_ ?_ ?_;rotate_left 2
    ·intro w';go_simp
     with_reducible rfl
    ·simp only [pn];rfl
    refine pf_ 31 65535 15 (some 76) (a':=?_) ?_ ?_;rotate_left
    ·simp only [pn];rfl
    refine pf_ 31 131071 16 (some 77) (a':=?_) ?_ ?_;rotate_left
    ·simp only [pn];rfl
    refine pf_ 31 262143 17 (some 78) (a':=?_) ?_ ?_;rotate_left
    ·simp only [pn];rfl
    refine pf_ 31 524287 18 (some 79) (a':=?_) ?_ ?_;rotate_left
    ·simp only [pn];rfl
    refine pf_ 31 1048575 19 (some 80) (a':=?_) ?_ ?_;rotate_left
    ·simp only [pn];rfl
    refine pf_ 31 2097151 20 (some 81) (a':=?_) ?_ ?_;rotate_left
    ·simp only [pn];rfl
    refine pf_ 31 4194303 21 (some 82) (a':=?_) ?_ ?_;rotate_left
    ·simp only [pn];rfl
    refine pf_ 31 8388607 22 (some 83) (a':=?_) ?_ ?_;rotate_left
    ·simp only [pn];rfl
    refine pa_ 31 16777215 23 (some 84) (v:=?_) (a':=?_) ?_ ?_ ?_;rotate_left 2
    ·intro w';go_simp
     with_reducible rfl
    ·simp only [pn];rfl
    refine pa_ 31 33554431 24 (some 85) (v:=?_) (a':=?_) ?_ ?_ ?_;rotate_left 2
    ·intro w';go_simp
     with_reducible rfl
    ·simp only [pn];rfl
    refine pf_ 31 67108863 25 (some 86) (a':=?_) ?_ ?_;rotate_left
    ·simp only [pn];rfl
    refine pf_ 31 134217727 26 (some 87) (a':=?_) ?_ ?_;rotate_left
    ·simp only [pn];rfl
    refine pf_ 31 268435455 27 (some 88) (a':=?_) ?_ ?_;rotate_left
    ·simp only [pn];rfl
    refine pf_ 31 536870911 28 (some 89) (a':=?_) ?_ ?_;rotate_left
    ·simp only [pn];rfl
    refine pf_ 31 1073741823 29 (some 90) (a':=?_) ?_ ?_;rotate_left
    ·simp only [pn];rfl
    refine pa_ 31 2147483647 30 (some 91) (v:=?_) (a':=?_) ?_ ?_ ?_;rotate_left 2
    ·intro w';go_simp
     with_reducible rfl
    ·simp only [pn];rfl
    refine qn (by kernel_rfl) ?_;go_wp2
    go_ret2
    rw [HF.out];exact ⟨rfl,qF HBr.out hHeld.2.2.out⟩
  have HS2:Hid (R=match capX (opX bs gl.length st ⟨x0,x1,x2,x3,x4,x5,x6⟩) with|some st'=>opsX bs gl.length st' (ops.drop (i+1))|none=>none):=Lib.hid (by rw [HSt.out]; rcases hc with ⟨rfl,rfl⟩|⟨rfl,rfl⟩<;>rfl);clear HSt;have HBW:Hid (Wb.heap[p]? = some (.cells #[.int .i64 y0,.int .i64 y1,.slice (some od) ops.length c1] 55 (0,0))):=HBX;generalize opX bs gl.length st ⟨x0,x1,x2,x3,x4,x5,x6⟩=ox at *;cases ox with
  |none=>
   have HF:Hid (R=none):=Lib.hid (by rw [HS2.out]; rfl);clear HS2;rcases hc with ⟨rfl,rfl⟩|⟨rfl,rfl⟩
   all_goals
    go_wp2;refine qU (n:=31) (S:=fun w'=>w'.cell? ⟨p,2,none⟩=some (.slice (some od) ops.length c1)∧w'.cell? (od.add (i*7))=some (.int .i64 x0)∧w'.cell? ⟨(od.add (i*7)).block,(od.add (i*7)).off+1,none⟩=some (.int .i64 x1)∧w'.cell? ⟨(od.add (i*7)).block,(od.add (i*7)).off+2,none⟩=some (.int .i64 x2)∧w'.cell? ⟨(od.add (i*7)).block,(od.add (i*7)).off+3,none⟩=some (.int .i64 x3)∧w'.cell? ⟨(od.add (i*7)).block,(od.add (i*7)).off+4,none⟩=some (.string x4)∧w'.cell? ⟨(od.add (i*7)).block,(od.add (i*7)).off+5,none⟩=some (.slice A5 x5.length c5)∧w'.cell? ⟨(od.add (i*7)).block,(od.add (i*7)).off+6,none⟩=some (.slice A6 x6.length c6)∧qB (Below Wb.heap.size Wb w')) (ds:=[]) (mA 31 0) (by kernel_rfl) rfl rfl ⟨qA (qE (Below.refl _ _)) bb,qA (qE (Below.refl _ _)) g0,qA (qE (Below.refl _ _)) g1,qA (qE (Below.refl _ _)) g2,qA (qE (Below.refl _ _)) g3,qA (qE (Below.refl _ _)) g4,qA (qE (Below.refl _ _)) g5,qA (qE (Below.refl _ _)) g6,⟨qF HLx.out.bel (qE (Below.refl _ _))⟩⟩ (fun hHeld=>?_);refine pa_ 31 1 0 (some 61) (v:=?_) (a':=?_) ?_ ?_ ?_;rotate_left 2
    ·intro w';go_simp
     with_reducible rfl
    ·simp only [pn];rfl
    refine pa_ 31 5 2 (some 63) (v:=?_) (a':=?_) ?_ ?_ ?_;rotate_left 2
    ·intro w';go_simp
     with_reducible rfl
    ·simp only [pn];rfl
    refine pa_ 31 133 7 (some 68) (v:=?_) (a':=?_) ?_ ?_ ?_;rotate_left 2
    ·intro w';go_simp
     with_reducible rfl
    ·simp only [pn];rfl
    refine pa_ 31 389 8 (some 69) (v:=?_) (a':=?_) ?_ ?_ ?_;rotate_left 2
    ·intro w';go_simp
     with_reducible rfl
    ·simp only [pn];rfl
    refine tb_ 31 391 1 (some 62) (v:=?_) (a':=?_) hHeld ?_ ?_ ?_;rotate_left 2
    ·rintro w' ⟨s0,s1,s2,s3,s4,s5,s6,s7,s8⟩;go_simp
     with_reducible rfl
    ·simp only [pn];rfl
    refine pa_ 31 399 3 (some 64) (v:=?_) (a':=?_) ?_ ?_ ?_;rotate_left 2
    ·intro w';go_simp
     with_reducible rfl
    ·simp only [pn];rfl
    refine pa_ 31 415 4 (some 65) (v:=?_) (a':=?_) ?_ ?_ ?_;rotate_left 2
    ·intro w';go_simp
     with_reducible rfl
    ·simp only [pn];rfl
    refine tb_ 31 447 5 (some 66) (v:=?_) (a':=?_) hHeld ?_ ?_ ?_;rotate_left 2
    ·rintro w' ⟨s0,s1,s2,s3,s4,s5,s6,s7,s8⟩;go_simp
     with_reducible rfl
    ·simp only [pn];rfl
    refine tb_ 31 959 9 (some 70) (v:=?_) (a':=?_) hHeld ?_ ?_ ?_;rotate_left 2
    ·rintro w' ⟨s0,s1,s2,s3,s4,s5,s6,s7,s8⟩;go_simp
     with_reducible rfl
    ·simp only [pn];rfl
    refine pa_ 31 1983 10 (some 71) (v:=?_) (a':=?_) ?_ ?_ ?_;rotate_left 2
    ·intro w';go_simp
     with_reducible rfl
    ·simp only [pn];rfl
    refine pa_ 31 4031 11 (some 72) (v:=?_) (a':=?_) ?_ ?_ ?_;rotate_left 2
    ·intro w';go_simp
     with_reducible rfl
    ·simp only [pn];rfl
    refine pa_ 31 8127 12 (some 73) (v:=?_) (a':=?_) ?_ ?_ ?_;rotate_left 2
    ·intro w';go_simp
     with_reducible rfl
    ·simp only [pn];rfl
    refine oo_ 31 8191 6 (some 67) (fun K hK=>?_);refine qR Tryz.func69 (by kernel_rfl) rfl #[.int .i64 x0] (by rfl) rfl rfl (by simp only [List.map_toArray,List.map_cons,List.map_nil]; rfl) ?_
    with_reducible refine (HE.out _).mono ?_
    rintro e w1 ⟨rfl,rfl⟩;refine ⟨_,rfl,?_⟩;refine hK.out _ _ ⟨hHeld.1,hHeld.2.1,hHeld.2.2.1,hHeld.2.2.2.1,hHeld.2.2.2.2.1,hHeld.2.2.2.2.2.1,hHeld.2.2.2.2.2.2.1,hHeld.2.2.2.2.2.2.2.1,hHeld.2.2.2.2.2.2.2.2⟩ (fun hHeld=>?_);clear hK K;refine qM (a':=?_) ?_ ?_;rotate_left
    ·show Act.put _ (some 67) _=_
     simp only [pn];rfl
    refine pa_ 31 16383 13 (some 74) (v:=?_) (a':=?_) ?_ ?_ ?_;rotate_left 2
    ·intro w';go_simp
     with_reducible rfl
    ·simp only [pn];rfl
    refine pa_ 31 32767 14 (some 75) (v:=?_) (a':=?_) ?_ ?_ ?_;rotate_left 2
    ·intro w';go_simp
     with_reducible rfl
    ·simp only [pn];rfl
    refine pa_ 31 65535 15 (some 76) (v:=?_) (a':=?_) ?_ ?_ ?_;rotate_left 2
    ·intro w';go_simp
     with_reducible rfl
    ·simp only [pn];rfl
    refine pa_ 31 131071 16 (some 77) (v:=?_) (a':=?_) ?_ ?_ ?_;rotate_left 2
    ·intro w';go_simp
     with_reducible rfl
    ·simp only [pn];rfl
    refine pa_ 31 393215 18 (some 79) (v:=?_) (a':=?_) ?_ ?_ ?_;rotate_left 2
    ·intro w';go_simp
     with_reducible rfl
    ·simp only [pn];rfl
    refine tb_ 31 524287 17 (some 78) (v:=?_) (a':=?_) hHeld ?_ ?_ ?_;rotate_left 2
    ·rintro w' ⟨s0,s1,s2,s3,s4,s5,s6,s7,s8⟩;go_simp
     with_reducible rfl
    ·simp only [pn];rfl
    refine pa_ 31 1048575 19 (some 80) (v:=?_) (a':=?_) ?_ ?_ ?_;rotate_left 2
    ·intro w';go_simp
     with_reducible rfl
    ·simp only [pn];rfl
    refine tb_ 31 2097151 20 (some 81) (v:=?_) (a':=?_) hHeld ?_ ?_ ?_;rotate_left 2
    ·rintro w' ⟨s0,s1,s2,s3,s4,s5,s6,s7,s8⟩;go_simp
     with_reducible rfl
    ·simp only [pn];rfl
    refine oo_ 31 4194303 21 (some 82) (fun K hK=>?_);refine qR Tryz.func70 (by kernel_rfl) rfl #[.pointer (some ⟨q,0,none⟩),.agg #[.int .i64 x0,.int .i64 x1,.int .i64 x2,.int .i64 x3,.string x4,.slice A5 x5.length c5,.slice A6 x6.length c6]] (by rfl) rfl rfl (by simp only [List.map_toArray,List.map_cons,List.map_nil]; rfl) ?_
    with_reducible refine (HOP.out).mono ?_
    rintro e w9 ⟨rfl,hb9⟩;refine ⟨_,rfl,?_⟩;refine hK.out _ _ ⟨qA hb9 b2,qA hb9 e0,qA hb9 e1,qA hb9 e2,qA hb9 e3,qA hb9 e4,qA hb9 e5,qA hb9 e6,⟨hb9⟩⟩ (fun hHeld=>?_);clear hK K;refine qM (a':=?_) ?_ ?_;rotate_left
    ·show Act.put _ (some 82) _=_
     simp only [pn];rfl
    refine pa_ 31 8388607 22 (some 83) (v:=?_) (a':=?_) ?_ ?_ ?_;rotate_left 2
    ·intro w';go_simp
     with_reducible rfl
    ·simp only [pn];rfl
    refine pa_ 31 16777215 23 (some 84) (v:=?_) (a':=?_) ?_ ?_ ?_;rotate_left 2
    ·intro w';go_simp
     with_reducible rfl
    ·simp only [pn];rfl
    refine pa_ 31 33554431 24 (some 85) (v:=?_) (a':=?_) ?_ ?_ ?_;rotate_left 2
    ·intro w';go_simp
     with_reducible rfl
    ·simp only [pn];rfl
    refine pf_ 31 67108863 25 (some 86) (a':=?_) ?_ ?_;rotate_left
    ·simp only [pn];rfl
    refine pf_ 31 134217727 26 (some 87) (a':=?_) ?_ ?_;rotate_left
    ·simp only [pn];rfl
    refine pf_ 31 268435455 27 (some 88) (a':=?_) ?_ ?_;rotate_left
    ·simp only [pn];rfl
    refine pf_ 31 536870911 28 (some 89) (a':=?_) ?_ ?_;rotate_left
    ·simp only [pn];rfl
    refine pf_ 31 1073741823 29 (some 90) (a':=?_) ?_ ?_;rotate_left
    ·simp only [pn];rfl
    refine pa_ 31 2147483647 30 (some 91) (v:=?_) (a':=?_) ?_ ?_ ?_;rotate_left 2
    ·intro w';go_simp
     with_reducible rfl
    ·simp only [pn];rfl
    refine qn (by kernel_rfl) ?_;go_wp2
    go_ret2
    rw [HF.out];exact ⟨rfl,qF HW2.out hHeld.2.2.2.2.2.2.2.2.out⟩
  |some st'=>
   rcases hc with ⟨rfl,rfl⟩|⟨rfl,rfl⟩
   all_goals
    go_wp2;refine qU (n:=31) (S:=fun w'=>w'.cell? ⟨p,2,none⟩=some (.slice (some od) ops.length c1)∧w'.cell? (od.add (i*7))=some (.int .i64 x0)∧w'.cell? ⟨(od.add (i*7)).block,(od.add (i*7)).off+1,none⟩=some (.int .i64 x1)∧w'.cell? ⟨(od.add (i*7)).block,(od.add (i*7)).off+2,none⟩=some (.int .i64 x2)∧w'.cell? ⟨(od.add (i*7)).block,(od.add (i*7)).off+3,none⟩=some (.int .i64 x3)∧w'.cell? ⟨(od.add (i*7)).block,(od.add (i*7)).off+4,none⟩=some (.string x4)∧w'.cell? ⟨(od.add (i*7)).block,(od.add (i*7)).off+5,none⟩=some (.slice A5 x5.length c5)∧w'.cell? ⟨(od.add (i*7)).block,(od.add (i*7)).off+6,none⟩=some (.slice A6 x6.length c6)∧qB (Below Wb.heap.size Wb w')) (ds:=[]) (mA 31 0) (by kernel_rfl) rfl rfl ⟨qA (qE (Below.refl _ _)) bb,qA (qE (Below.refl _ _)) g0,qA (qE (Below.refl _ _)) g1,qA (qE (Below.refl _ _)) g2,qA (qE (Below.refl _ _)) g3,qA (qE (Below.refl _ _)) g4,qA (qE (Below.refl _ _)) g5,qA (qE (Below.refl _ _)) g6,⟨qF HLx.out.bel (qE (Below.refl _ _))⟩⟩ (fun hHeld=>?_);refine pa_ 31 1 0 (some 61) (v:=?_) (a':=?_) ?_ ?_ ?_;rotate_left 2
    ·intro w';go_simp
     with_reducible rfl
    ·simp only [pn];rfl
    refine pa_ 31 5 2 (some 63) (v:=?_) (a':=?_) ?_ ?_ ?_;rotate_left 2
    ·intro w';go_simp
     with_reducible rfl
    ·simp only [pn];rfl
    refine pa_ 31 133 7 (some 68) (v:=?_) (a':=?_) ?_ ?_ ?_;rotate_left 2
    ·intro w';go_simp
     with_reducible rfl
    ·simp only [pn];rfl
    refine pa_ 31 389 8 (some 69) (v:=?_) (a':=?_) ?_ ?_ ?_;rotate_left 2
    ·intro w';go_simp
     with_reducible rfl
    ·simp only [pn];rfl
    refine tb_ 31 391 1 (some 62) (v:=?_) (a':=?_) hHeld ?_ ?_ ?_;rotate_left 2
    ·rintro w' ⟨s0,s1,s2,s3,s4,s5,s6,s7,s8⟩;go_simp
     with_reducible rfl
    ·simp only [pn];rfl
    refine pa_ 31 399 3 (some 64) (v:=?_) (a':=?_) ?_ ?_ ?_;rotate_left 2
    ·intro w';go_simp
     with_reducible rfl
    ·simp only [pn];rfl
    refine pa_ 31 415 4 (some 65) (v:=?_) (a':=?_) ?_ ?_ ?_;rotate_left 2
    ·intro w';go_simp
     with_reducible rfl
    ·simp only [pn];rfl
    refine tb_ 31 447 5 (some 66) (v:=?_) (a':=?_) hHeld ?_ ?_ ?_;rotate_left 2
    ·rintro w' ⟨s0,s1,s2,s3,s4,s5,s6,s7,s8⟩;go_simp
     with_reducible rfl
    ·simp only [pn];rfl
    refine tb_ 31 959 9 (some 70) (v:=?_) (a':=?_) hHeld ?_ ?_ ?_;rotate_left 2
    ·rintro w' ⟨s0,s1,s2,s3,s4,s5,s6,s7,s8⟩;go_simp
     with_reducible rfl
    ·simp only [pn];rfl
    refine pa_ 31 1983 10 (some 71) (v:=?_) (a':=?_) ?_ ?_ ?_;rotate_left 2
    ·intro w';go_simp
     with_reducible rfl
    ·simp only [pn];rfl
    refine pa_ 31 4031 11 (some 72) (v:=?_) (a':=?_) ?_ ?_ ?_;rotate_left 2
    ·intro w';go_simp
     with_reducible rfl
    ·simp only [pn];rfl
    refine pa_ 31 8127 12 (some 73) (v:=?_) (a':=?_) ?_ ?_ ?_;rotate_left 2
    ·intro w';go_simp
     with_reducible rfl
    ·simp only [pn];rfl
    refine oo_ 31 8191 6 (some 67) (fun K hK=>?_);refine qR Tryz.func69 (by kernel_rfl) rfl #[.int .i64 x0] (by rfl) rfl rfl (by simp only [List.map_toArray,List.map_cons,List.map_nil]; rfl) ?_
    with_reducible refine (HE.out _).mono ?_
    rintro e w1 ⟨rfl,rfl⟩;refine ⟨_,rfl,?_⟩;refine hK.out _ _ ⟨hHeld.1,hHeld.2.1,hHeld.2.2.1,hHeld.2.2.2.1,hHeld.2.2.2.2.1,hHeld.2.2.2.2.2.1,hHeld.2.2.2.2.2.2.1,hHeld.2.2.2.2.2.2.2.1,hHeld.2.2.2.2.2.2.2.2⟩ (fun hHeld=>?_);clear hK K;refine qM (a':=?_) ?_ ?_;rotate_left
    ·show Act.put _ (some 67) _=_
     simp only [pn];rfl
    refine pa_ 31 16383 13 (some 74) (v:=?_) (a':=?_) ?_ ?_ ?_;rotate_left 2
    ·intro w';go_simp
     with_reducible rfl
    ·simp only [pn];rfl
    refine pa_ 31 32767 14 (some 75) (v:=?_) (a':=?_) ?_ ?_ ?_;rotate_left 2
    ·intro w';go_simp
     with_reducible rfl
    ·simp only [pn];rfl
    refine pa_ 31 65535 15 (some 76) (v:=?_) (a':=?_) ?_ ?_ ?_;rotate_left 2
    ·intro w';go_simp
     with_reducible rfl
    ·simp only [pn];rfl
    refine pa_ 31 131071 16 (some 77) (v:=?_) (a':=?_) ?_ ?_ ?_;rotate_left 2
    ·intro w';go_simp
     with_reducible rfl
    ·simp only [pn];rfl
    refine pa_ 31 393215 18 (some 79) (v:=?_) (a':=?_) ?_ ?_ ?_;rotate_left 2
    ·intro w';go_simp
     with_reducible rfl
    ·simp only [pn];rfl
    refine tb_ 31 524287 17 (some 78) (v:=?_) (a':=?_) hHeld ?_ ?_ ?_;rotate_left 2
    ·rintro w' ⟨s0,s1,s2,s3,s4,s5,s6,s7,s8⟩;go_simp
     with_reducible rfl
    ·simp only [pn];rfl
    refine pa_ 31 1048575 19 (some 80) (v:=?_) (a':=?_) ?_ ?_ ?_;rotate_left 2
    ·intro w';go_simp
     with_reducible rfl
    ·simp only [pn];rfl
    refine tb_ 31 2097151 20 (some 81) (v:=?_) (a':=?_) hHeld ?_ ?_ ?_;rotate_left 2
    ·rintro w' ⟨s0,s1,s2,s3,s4,s5,s6,s7,s8⟩;go_simp
     with_reducible rfl
    ·simp only [pn];rfl
    refine oo_ 31 4194303 21 (some 82) (fun K hK=>?_);refine qR Tryz.func70 (by kernel_rfl) rfl #[.pointer (some ⟨q,0,none⟩),.agg #[.int .i64 x0,.int .i64 x1,.int .i64 x2,.int .i64 x3,.string x4,.slice A5 x5.length c5,.slice A6 x6.length c6]] (by rfl) rfl rfl (by simp only [List.map_toArray,List.map_cons,List.map_nil]; rfl) ?_
    with_reducible refine (HOP.out).mono ?_
    rintro e w9 ⟨rfl,hL9⟩;obtain ⟨a9,c9,d90,d91,d92,d93,_⟩:=hL9.open;clear d90 d91 d92;refine ⟨_,rfl,?_⟩;refine hK.out _ _ ⟨qA hL9.bel b2,qA hL9.bel e0,qA hL9.bel e1,qA hL9.bel e2,qA hL9.bel e3,qA hL9.bel e4,qA hL9.bel e5,qA hL9.bel e6,⟨hL9.bel⟩⟩ (fun hHeld=>?_);clear hK K;refine qM (a':=?_) ?_ ?_;rotate_left
    ·show Act.put _ (some 82) _=_
     simp only [pn];rfl
    refine pa_ 31 8388607 22 (some 83) (v:=?_) (a':=?_) ?_ ?_ ?_;rotate_left 2
    ·intro w';go_simp
     with_reducible rfl
    ·simp only [pn];rfl
    refine pa_ 31 16777215 23 (some 84) (v:=?_) (a':=?_) ?_ ?_ ?_;rotate_left 2
    ·intro w';go_simp
     with_reducible rfl
    ·simp only [pn];rfl
    refine pa_ 31 33554431 24 (some 85) (v:=?_) (a':=?_) ?_ ?_ ?_;rotate_left 2
    ·intro w';go_simp
     with_reducible rfl
    ·simp only [pn];rfl
    refine pa_ 31 67108863 25 (some 86) (v:=?_) (a':=?_) ?_ ?_ ?_;rotate_left 2
    ·intro w';go_simp
     with_reducible rfl
    ·simp only [pn];rfl
    refine pa_ 31 134217727 26 (some 87) (v:=?_) (a':=?_) ?_ ?_ ?_;rotate_left 2
    ·intro w';go_simp
     with_reducible rfl
    ·simp only [pn];rfl
    refine pa_ 31 268435455 27 (some 88) (v:=?_) (a':=?_) ?_ ?_ ?_;rotate_left 2
    ·intro w';go_simp
     with_reducible rfl
    ·simp only [pn];rfl
    refine oo_ 31 536870911 28 (some 89) (fun K hK=>?_);refine Q1 (w1:=?_) (v:=?_) (by rfl) rfl ?_ ?_;rotate_left 2
    ·go_simp;constructor
     ·rfl
     ·rfl
    refine hK.out _ _ ⟨hHeld.1,hHeld.2.1,hHeld.2.2.1,hHeld.2.2.2.1,hHeld.2.2.2.2.1,hHeld.2.2.2.2.2.1,hHeld.2.2.2.2.2.2.1,hHeld.2.2.2.2.2.2.2.1,hHeld.2.2.2.2.2.2.2.2⟩ (fun hHeld=>?_);clear hK K;refine qM (a':=?_) ?_ ?_;rotate_left
    ·show Act.put _ (some 89) _=_
     simp only [pn];rfl
    refine pa_ 31 1073741823 29 (some 90) (v:=?_) (a':=?_) ?_ ?_ ?_;rotate_left 2
    ·intro w';go_simp
     with_reducible rfl
    ·simp only [pn];rfl
    refine pa_ 31 2147483647 30 (some 91) (v:=?_) (a':=?_) ?_ ?_ ?_;rotate_left 2
    ·intro w';go_simp
     with_reducible rfl
    ·simp only [pn];rfl
    refine qn (by kernel_rfl) ?_;have HL9:=Lib.hid hL9;clear hL9;by_cases h60:st'.length≤60
    ·have t60:decide ((60:Int)<st'.length)=false:=decide_eq_false (by omega);have HN:Hid (R=opsX bs gl.length st' (ops.drop (i+1))):=Lib.hid (by rw [HS2.out]; simp [capX,h60]);have H60:=Lib.hid h60;clear h60
     (first|rw [t60]|(simp only [qEn,qEo]; rw [t60])|skip)
     go_wp2;go_roundw
     case rel=>exact ⟨i+1,st',by omega,by go_num,⟨⟨HL9.out,H60.out,HN.out⟩⟩⟩
     case measure=>simp [intOf]; omega
    ·have t60:decide ((60:Int)<st'.length)=true:=decide_eq_true (by omega);have HF:Hid (R=none):=Lib.hid (by rw [HS2.out]; simp [capX,h60]);clear h60
     (first|rw [t60]|(simp only [qEn,qEo]; rw [t60])|skip)
     go_wp2
     go_ret2
     rw [HF.out];exact ⟨rfl,qF HW2.out hHeld.2.2.2.2.2.2.2.2.out⟩
end Go.Proofs.YtoonkkipnljflaaGreatDoor.CJ
