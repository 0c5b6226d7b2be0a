/- The Go functions code.Pack and code.Room. Conditions: the code lies in memory; its numbers are of 64 bits; strings are not too long; the listed variables are laid. -/
import Derived.Test.YtoonkkipnljflaaGreatDoorVV
namespace Go.Proofs.YtoonkkipnljflaaGreatDoor.CJ
open Go.RowKit Go.Proofs.YtoonkkipnljflaaGreatDoorW.PrintWords Go.Proofs.YtoonkkipnljflaaGreatDoorW.PrintLast Go.Proofs.YtoonkkipnljflaaGreatDoor.PT Go.Proofs.YtoonkkipnljflaaGreatDoor.IMaps Go.Proofs.YtoonkkipnljflaaGreatDoor.TJ
set_option linter.unusedVariables false
set_option linter.unusedSimpArgs false
theorem boxC(w:World)(A:Option Addr)(n ca:Nat)(A2:Option Addr)(k cb:Nat):Below w.heap.size w (w.alloc (.cells #[.slice A n ca,.slice A2 k cb] 27))∧(w.alloc (.cells #[.slice A n ca,.slice A2 k cb] 27)).heap[w.heap.size]? = some (.cells #[.slice A n ca,.slice A2 k cb] 27 (0,0)):=
 ⟨qC (Below.refl _ _) _,(MapKept.heap_alloc w _).1⟩
def packR(bs:List GBk)(gl:List GGl):Ending:=
 if allK bs gl then (if (qp bs gl).length≤200000 then .returned (.tuple #[.string ⟨(qp bs gl).toArray⟩,.int .i64 0]) else .returned (.tuple #[.string ⟨#[]⟩,.int .i64 5])) else .returned (.tuple #[.string ⟨#[]⟩,.int .i64 41])
theorem qHD(bs:List GBk)(gl:List GGl):packR bs gl=if allK bs gl then (if (qp bs gl).length≤200000 then .returned (.tuple #[.string ⟨(qp bs gl).toArray⟩,.int .i64 0]) else .returned (.tuple #[.string ⟨#[]⟩,.int .i64 5])) else .returned (.tuple #[.string ⟨#[]⟩,.int .i64 41]):=rfl
set_option maxRecDepth 100000 in
set_option maxHeartbeats 4000000 in
theorem qJJ(w:World)(A:Option Addr)(ca:Nat)(A2:Option Addr)(cb:Nat)(bs:List GBk)(gl:List GGl)(hc:CM w A ca A2 cb bs gl)(hL:LW w)(hs:qAq bs gl)(hw:WfC bs):
 Calls Tryz.prog 29 #[qw A bs.length ca A2 gl.length cb] w fun e w'=>e=packR bs gl∧Below w.heap.size w w':=by
 obtain ⟨hb1,hbx⟩:=boxC w A bs.length ca A2 gl.length cb;have HCk:=Lib.hid (qAP _ A ca A2 cb bs gl (hc.below hb1) (hL.below hb1) hs);have HPk:Hid (allK bs gl=true→∀W,Below w.heap.size w W→Calls Tryz.prog 18 #[qw A bs.length ca A2 gl.length cb] W fun e w'=>e=.returned (.string ⟨(qp bs gl).toArray⟩)∧Below W.heap.size W w'):=Lib.hid (fun hk W hW=>qDj W A ca A2 cb bs gl (hc.below hW) (qHC (Q4 hk) hw) (qDl (Q4 hk) hw));have HB1:=Lib.hid hb1;have HBX:=Lib.hid hbx;have HR:=Lib.hid (qHD bs gl);have hsz:(⟨(qp bs gl).toArray⟩:ByteArray).size=(qp bs gl).length:=by simp [ByteArray.size]
 generalize packR bs gl=R at *;generalize hT:qp bs gl=T at *;clear hc hL hs hw hb1 hbx hT;unfold qw at *;cases hk:allK bs gl
 ·rw [hk] at HCk HR;clear hk HPk;go_enter Tryz.func29,Tryz.ntmps29;go_wp2_with fail;refine HCk.out.mono ?_;rintro e w1 ⟨rfl,hb⟩;have HB:=qB.mk (qF HB1.out hb);clear hb;simp only [qBG,Bool.false_eq_true,if_false];go_wp2
  go_ret2
  exact ⟨HR.out.symm,HB.out⟩
 ·rw [hk] at HCk HR;have HP:=Lib.hid (HPk.out hk);clear hk HPk;go_enter Tryz.func29,Tryz.ntmps29;go_wp2_with fail;refine HCk.out.mono ?_;rintro e w1 ⟨rfl,hb⟩;have hbx1:=(hb.block w.heap.size (by simp)).trans HBX.out;have e0:=qD hbx1 (i:=0) rfl;have e1:=qD hbx1 (i:=1) rfl;have HB:=qB.mk (qF HB1.out hb);clear hb hbx1;simp only [qBG,if_true];go_wp2_with fail;refine (HP.out _ HB.out).mono ?_;rintro e w2 ⟨rfl,hb⟩;have HB2:=qB.mk (qF HB.out hb);clear hb e0 e1;by_cases hl:T.length≤200000
  ·have hd:decide ((200000:Int)<T.length)=false:=decide_eq_false (by omega);simp only [if_true,if_pos hl] at HR;clear hl;go_wp2
   go_ret2
   exact ⟨HR.out.symm,HB2.out⟩
  ·have hd:decide ((200000:Int)<T.length)=true:=decide_eq_true (by omega);simp only [if_true,if_neg hl] at HR;clear hl;go_wp2
   go_ret2
   exact ⟨HR.out.symm,HB2.out⟩
def QZ(g:GOp):Int:=if g.f0=1 then g.f3 else if g.f0=7 then 1 else 0
def roomN(b:GBk):Int:=b.f0+b.f1+(b.f2.map QZ).sum
def roomR(bs:List GBk)(gl:List GGl)(n:Int):Ending:=
 if allK bs gl then (match blkC bs n with|some b=>.returned (.tuple #[.int .i64 (roomN b),.int .i64 0])|none=>.returned (.tuple #[.int .i64 0,.int .i64 2])) else .returned (.tuple #[.int .i64 0,.int .i64 41])
theorem qJL{bs:List GBk}{gs:Nat}{st st':List Int}{g:GOp}(h:opK bs gs st g=some st')(hz:qf g=true):(st'.length:Int)=st.length+QZ g∧0≤QZ g:=by
 have fl:∀ {k v:Int},qX st k v=some st'→(st'.length:Int)=st.length+0∧(0:Int)≤0:=fun h=>by have:=qA6 h; omega
 have sm:some st=some st'→(st'.length:Int)=st.length+0∧(0:Int)≤0:=fun h=>by cases h; omega
 have ad:∀ {n:Nat} {v:Int},addC st n v=some st'→(st'.length:Int)=st.length+n:=fun h=>by
  unfold addC at h;split at h
  ·simp only [Option.some.injEq] at h; subst h; simp
  ·cases h
 unfold opK at h;unfold QZ;by_cases h0:(!g.f5.all (hasC st))=true
 ·rw [if_pos h0] at h; cases h
 rw [if_neg h0] at h;by_cases h1:g.f0=1
 ·rw [if_pos h1] at h ⊢;unfold opR1 inB at h;split at h
  ·rename_i hc
   simp only [Bool.and_eq_true,decide_eq_true_eq] at hc;have:=ad h;omega
  ·cases h
 rw [if_neg h1] at h ⊢;by_cases h7:g.f0=7
 ·simp only [h7,show ¬(7:Int)=2 from by decide,show ¬(7:Int)=3 from by decide,show ¬(7:Int)=4 from by decide,show ¬(7:Int)=5 from by decide,show ¬(7:Int)=6 from by decide,if_false,if_true] at h;rw [if_pos h7];unfold opR7 at h;split at h
  ·have:=ad h;omega
  ·cases h
 rw [if_neg h7];by_cases h2:g.f0=2
 ·rw [if_pos h2] at h; unfold opR2 at h
  cases hb:blkC bs g.f2 with
  |none=>rw [hb] at h; cases h
  |some c=>rw [hb] at h; simp only at h; split at h; exact fl h; cases h
 rw [if_neg h2] at h;by_cases h3:g.f0=3
 ·rw [if_pos h3] at h; unfold opR3 at h
  cases hb:blkC bs g.f2 with
  |none=>rw [hb] at h; cases h
  |some c=>rw [hb] at h; simp only at h; split at h; exact fl h; cases h
 rw [if_neg h3] at h;by_cases h4:g.f0=4
 ·rw [if_pos h4] at h; unfold opR4 at h; split at h; exact fl h; cases h
 rw [if_neg h4] at h;by_cases h5:g.f0=5
 ·rw [if_pos h5] at h; exact fl h
 rw [if_neg h5] at h;by_cases h6:g.f0=6
 ·rw [if_pos h6] at h; unfold opR6 at h; split at h; exact fl h; cases h
 rw [if_neg h6,if_neg h7] at h;by_cases h8:g.f0=8
 ·rw [if_pos h8] at h; unfold opR8 at h
  cases hb:blkC bs g.f2 with
  |none=>rw [hb] at h; cases h
  |some c=>rw [hb] at h; simp only at h; split at h; exact sm h; cases h
 rw [if_neg h8] at h;by_cases h9:g.f0=9
 ·rw [if_pos h9] at h; unfold opR9 at h; split at h; exact sm h; cases h
 rw [if_neg h9] at h;by_cases h10:g.f0=10
 ·rw [if_pos h10] at h; unfold qBE at h; split at h; exact sm h; cases h
 rw [if_neg h10] at h;by_cases h11:g.f0=11
 ·rw [if_pos h11] at h; unfold qBW at h; split at h; exact sm h; cases h
 rw [if_neg h11] at h;by_cases h12:g.f0=12
 ·rw [if_pos h12] at h; unfold qAf at h; split at h; exact sm h; cases h
 rw [if_neg h12] at h;unfold qBF at h; split at h; exact sm h; cases h
theorem qIi{bs:List GBk}{gs:Nat}:∀(l:List GOp) (st:List Int),st.length≤60→opsK bs gs st l=true→∀i,(st.length:Int)+((l.take i).map QZ).sum≤60∧0≤((l.take i).map QZ).sum
 | [],st,hs,_,i=>by simp; omega
 |x::r,st,hs,h,0=>by simp; omega
 |x::r,st,hs,h,i+1=>by
  unfold opsK at h;simp only [Bool.and_eq_true] at h;obtain ⟨⟨⟨h1,_⟩,_⟩,h4⟩:=h;cases ho:opK bs gs st x with
  |none=>rw [ho] at h4; cases h4
  |some s'=>
   rw [ho] at h4;have hl:=qBc ho hs;have:=qIi r s' hl h4 i;have ha:=qJL ho h1;simp only [List.take_succ_cons,List.map_cons,List.sum_cons];omega
theorem roomR_eq(bs:List GBk)(gl:List GGl)(n:Int):roomR bs gl n=if allK bs gl then (match blkC bs n with|some b=>.returned (.tuple #[.int .i64 (roomN b),.int .i64 0])|none=>.returned (.tuple #[.int .i64 0,.int .i64 2])) else .returned (.tuple #[.int .i64 0,.int .i64 41]):=rfl
theorem sum_take(l:List GOp)(i:Nat)(hi:i<l.length):((l.take (i+1)).map QZ).sum=((l.take i).map QZ).sum+QZ l[i]:=by
 rw [List.take_succ_eq_append_getElem hi,List.map_append,List.sum_append]; simp
set_option maxRecDepth 100000 in
set_option maxHeartbeats 4000000 in
theorem qJM(w:World)(A:Option Addr)(ca:Nat)(A2:Option Addr)(cb:Nat)(bs:List GBk)(gl:List GGl)(n:Int)(hc:CM w A ca A2 cb bs gl)(hL:LW w)(hs:qAq bs gl):
 Calls Tryz.prog 30 #[qw A bs.length ca A2 gl.length cb,.int .i64 n] w fun e w'=>e=roomR bs gl n∧Below w.heap.size w w':=by
 have hmb:bs.length≤9223372036854775807:=hc.ma.2.1;obtain ⟨hb1,hbx⟩:=boxC w A bs.length ca A2 gl.length cb;have HCk:=Lib.hid (qAP _ A ca A2 cb bs gl (hc.below hb1) (hL.below hb1) hs);have HB1:=Lib.hid hb1;have HBX:=Lib.hid hbx;have HR:=Lib.hid (roomR_eq bs gl n);have HC:=Lib.hid hc;have HW:=Lib.hid (fun W=>qAF n 0 ((bs.length:Int) - 1) W);rw [blk_in bs n _ rfl] at HW;have HSM:Hid (allK bs gl=true→∀b,blkC bs n=some b→(0≤b.f0∧b.f0≤40)∧(0≤b.f1∧b.f1≤12)∧∀i,b.f0+b.f1+((b.f2.take i).map QZ).sum≤60∧0≤((b.f2.take i).map QZ).sum):=Lib.hid (fun hk b hb=>by
  have hm:=(qBu hb).2.2;have h4:qAV bs gl.length 0 bs=true:=by unfold allK at hk; simp only [Bool.and_eq_true] at hk; exact hk.2
  obtain ⟨ch,hkb⟩:=qCK _ _ h4 b hm;obtain ⟨p1,p2,p3,p4⟩:=qCY hkb;refine ⟨p1,p2,fun i=>?_⟩;have:=qIi b.f2 _ (by simp; omega) p4 i;rw [List.length_replicate] at this;omega)
 generalize roomR bs gl n=R at *;clear hc hL hs hb1 hbx;unfold qw at *;cases hk:allK bs gl
 ·rw [hk] at HCk HR;clear hk HSM;go_enter Tryz.func30,Tryz.ntmps30;go_wp2_with fail;refine HCk.out.mono ?_;rintro e w1 ⟨rfl,hb⟩;have HB:=qB.mk (qF HB1.out hb);clear hb;simp only [qBG,Bool.false_eq_true,if_false];go_wp2
  go_ret2
  exact ⟨HR.out.symm,HB.out⟩
 ·rw [hk] at HCk HR;have HS:=Lib.hid (HSM.out hk);clear hk HSM;cases hbk:blkC bs n with
  |none=>
   rw [hbk] at HW HR;clear hbk;go_enter Tryz.func30,Tryz.ntmps30;go_wp2_with fail;refine HCk.out.mono ?_;rintro e w1 ⟨rfl,hb⟩;have hbx1:=(hb.block w.heap.size (by simp)).trans HBX.out;have e0:=qD hbx1 (i:=0) rfl;have HB:=qB.mk (qF HB1.out hb);clear hb hbx1;simp only [qBG,if_true];go_wp2_with fail;refine (HW.out _).mono ?_;rintro e w2 ⟨rfl,rfl⟩;go_wp2
   go_ret2
   exact ⟨HR.out.symm,HB.out⟩
  |some b=>
   have HS2:=Lib.hid (HS.out b hbk);have h0:0≤n∧bs[n.toNat]? = some b:=by
    unfold blkC at hbk;split at hbk
    ·exact ⟨by assumption,hbk⟩
    ·cases hbk
   obtain ⟨hn0,hget⟩:=h0;have hlt:n.toNat<bs.length:=(List.getElem?_eq_some_iff.1 hget).1;obtain ⟨ad,A1,c1,rfl,g0,g1,g2,l1,C1⟩:=qAN HC.out.ma n hn0 (by omega);have hrd:qo bs n=b:=by simp [qo,List.getD_eq_getElem?_getD,hget]
   rw [hrd] at g0 g1 g2 l1 C1;rw [hbk] at HW HR;have HG:=Lib.hid (And.intro g0 (And.intro g1 g2));have HK:=Lib.hid C1;have hmo:b.f2.length≤9223372036854775807:=C1.2.1;obtain ⟨s1,s2,_⟩:=HS2.out;clear hbk hget hrd g0 g1 g2 l1 C1 HS;go_enter Tryz.func30,Tryz.ntmps30;go_wp2_with fail;refine HCk.out.mono ?_;rintro e w1 ⟨rfl,hb⟩;have hbx1:=(hb.block w.heap.size (by simp)).trans HBX.out;have e0:=qD hbx1 (i:=0) rfl;have HB:=qB.mk (qF HB1.out hb);have g0:=qA HB.out HG.out.1;have g1:=qA HB.out HG.out.2.1;have g2:=qA HB.out HG.out.2.2;clear hb hbx1;simp only [qBG,if_true];go_wp2_with fail;refine (HW.out _).mono ?_;rintro e w2 ⟨rfl,rfl⟩;go_wp2;clear g0 g1 g2 e0
   go_loopw [8,36] (fun av v wr=>∃i:Nat,∃z:Int,i≤b.f2.length∧v=.int .i64 i∧av=.int .i64 z∧(0≤z∧z≤60)∧Hid (z=b.f0+b.f1+((b.f2.take i).map QZ).sum)∧qB (Below w.heap.size w wr)) (fun _ v _=>b.f2.length - (intOf v).toNat)
   case atStart=>exact ⟨0,b.f0+b.f1,by omega,rfl,rfl,by omega,Lib.hid (by simp),⟨qC HB.out _⟩⟩
   case round=>
    obtain ⟨i,z,hi,rfl,rfl,hz,HZ,HJ⟩:=hrel;clear HB;by_cases hlt2:i<b.f2.length
    ·obtain ⟨ad2,A5,c5,A6,c6,e5,hz0,hz1,hz2,hz3,hz4,hz5,hz6,g5,C5,g6,C6⟩:=qA3 HK.out (i:Int) (by omega) (by omega);have hrd:qj b.f2 (i:Int)=b.f2[i]:=by simp [qj,List.getD_eq_getElem?_getD,List.getElem?_eq_getElem hlt2]
     have hst:=sum_take b.f2 i hlt2;have hle:=HS2.out.2.2 (i+1);have hge:0≤z+QZ b.f2[i]:=by have:=HZ.out; rw [hst] at hle; omega
     rw [hst,←Int.add_assoc,←HZ.out] at hle;have HN:=Lib.hid (show z+QZ b.f2[i]=b.f0+b.f1+((b.f2.take (i+1)).map QZ).sum from by rw [hst,←Int.add_assoc,←HZ.out]);rw [hrd] at hz0 hz1 hz2 hz3 hz4 hz5 hz6;generalize b.f2[i]=g at *;cases e5;simp only [Int.toNat_natCast] at hz0 hz1 hz2 hz3 hz4 hz5 hz6;obtain ⟨x0,x1,x2,x3,x4,x5,x6⟩:=g;simp only at hz0 hz1 hz2 hz3 hz4 hz5 hz6;have hlow:=HJ.out;replace hz0:=qA hlow hz0;replace hz1:=qA hlow hz1;replace hz2:=qA hlow hz2;replace hz3:=qA hlow hz3;replace hz4:=qA hlow hz4;replace hz5:=qA hlow hz5;replace hz6:=qA hlow hz6;have HX:=qB.mk (qC hlow (.cells #[.int .i64 x0,.int .i64 x1,.int .i64 x2,.int .i64 x3,.string x4,.slice A5 x5.length c5,.slice A6 x6.length c6] 59));have hle2:=hle.1;clear hlow hst hle hrd g5 C5 g6 C6;by_cases h1:x0=1
     ·subst h1;have hra:QZ ⟨1,x1,x2,x3,x4,x5,x6⟩=x3:=rfl;rw [hra] at HN hle2 hge;clear hra;go_wp2;go_roundw
      case rel=>exact ⟨i+1,z+x3,by omega,by go_num,rfl,by omega,HN,HX⟩
      case measure=>simp [intOf]; omega
     ·by_cases h7:x0=7
      ·subst h7;have hra:QZ ⟨7,x1,x2,x3,x4,x5,x6⟩=1:=rfl;rw [hra] at HN hle2 hge;clear hra h1;go_wp2;go_roundw
       case rel=>exact ⟨i+1,z+1,by omega,by go_num,rfl,by omega,HN,HX⟩
       case measure=>simp [intOf]; omega
      ·have hra:QZ ⟨x0,x1,x2,x3,x4,x5,x6⟩=0:=by unfold QZ; rw [if_neg h1,if_neg h7]
       rw [hra,Int.add_zero] at HN hle2 hge;have t1:(x0==1)=false:=beq_eq_false_iff_ne.2 h1;have t7:(x0==7)=false:=beq_eq_false_iff_ne.2 h7;clear hra h1 h7;go_wp2;go_roundw
       case rel=>exact ⟨i+1,z,by omega,by go_num,rfl,by omega,HN,HX⟩
       case measure=>simp [intOf]; omega
    ·obtain rfl:i=b.f2.length:=by omega
     have hz2:z=roomN b:=by have:=HZ.out; rw [List.take_length] at this; exact this
     have HF:=Lib.hid hz2;clear hz2;go_wp2
     go_ret2
     exact ⟨by rw [HR.out,←HF.out]; rfl,HJ.out⟩
end Go.Proofs.YtoonkkipnljflaaGreatDoor.CJ
