/- The reference's Check of a code: it tells what the checker tells. Conditions: the code lies in memory; strings are not too long; the listed variables are laid. -/
import Derived.Test.YtoonkkipnljflaaGreatDoorRG
import Derived.Test.YtoonkkipnljflaaGreatDoorH6
import Derived.Test.YtoonkkipnljflaaGreatDoorHA
namespace Go.Proofs.YtoonkkipnljflaaGreatDoor.CJ
open Go.RowKit Go.Proofs.YtoonkkipnljflaaGreatDoorW.PrintWords Go.Proofs.YtoonkkipnljflaaGreatDoorW.PrintLast Go.Proofs.YtoonkkipnljflaaGreatDoor.PT Go.Proofs.YtoonkkipnljflaaGreatDoor.IMaps
set_option linter.unusedVariables false
set_option linter.unusedSimpArgs false
theorem blksX_at(bs:List GBk)(gs:Nat)(l:List GBk)(i:Nat)(hi:i<l.length):qAz bs gs i (l.drop i)=((qBO bs gs (l.getD i z55)).isSome&&(decide ((l.getD i z55).f1≤8)||qAB bs (i:Int))&&qAz bs gs (i+1) (l.drop (i+1))):=by
 rw [qBd hi]
 conv=>lhs; rw [List.drop_eq_getElem_cons hi]
 rfl
def okB(b:GBk):Prop:=0≤b.f0∧b.f0≤40∧0≤b.f1∧b.f1≤12
theorem roomX_ok{bs:List GBk}{gs:Nat}{b:GBk}(h:(qBO bs gs b).isSome=true):okB b:=by
 unfold qBO at h;split at h
 ·rename_i h2
  simp only [Bool.and_eq_true,inB,decide_eq_true_eq] at h2;unfold okB; omega
 ·cases h
structure CB1(W0 wr:World)(bs:List GBk)(gl:List GGl)(i:Nat)(R:Bool):Prop where
 below:Below W0.heap.size W0 wr
 ok:∀k,k<i→okB (bs.getD k z55)
 run:R=(qAz bs gl.length i (bs.drop i)&&Qb bs [] gl)
structure CB2(W0 wr:World)(bs:List GBk)(gl:List GGl)(i:Nat)(R:Bool):Prop where
 below:Below W0.heap.size W0 wr
 run:R=Qb bs (gl.take i) (gl.drop i)
theorem okG_key(bs:List GBk)(gl:List GGl)(i:Nat)(hi:i<gl.length)(hok:∀k,k<bs.length→okB (bs.getD k z55))(x0:ByteArray)(x1:Int)(hg:gl.getD i z63=⟨x0,x1⟩):
 Qb bs (gl.take i) (gl.drop i)=(qe x0.data.toList && !decide (gix gl x0<i) && !decide (x1<0) && !decide ((bs.length:Int)≤x1) && !decide (0<(bs.getD x1.toNat z55).f0+(bs.getD x1.toNat z55).f1)&&Qb bs (gl.take (i+1)) (gl.drop (i+1))):=by
 have hx:=gix_has gl i hi;rw [(qHA bs gl i hi).1,hg];rw [hg] at hx;simp only at hx;rw [hx]
 congr 1
 unfold okG blkC;simp only;by_cases h0:0≤x1
 ·have e0:decide (x1<0)=false:=decide_eq_false (by omega);by_cases h1:x1.toNat<bs.length
  ·have e1:decide ((bs.length:Int)≤x1)=false:=decide_eq_false (by omega);have hb:=hok _ h1;rw [if_pos h0,List.getElem?_eq_getElem h1,e0,e1];rw [qBd h1] at hb ⊢;unfold okB at hb;have e2:(bs[x1.toNat].f0==0&&bs[x1.toNat].f1==0) = !decide (0<bs[x1.toNat].f0+bs[x1.toNat].f1):=by
    by_cases h2:0<bs[x1.toNat].f0+bs[x1.toNat].f1
    ·rw [decide_eq_true h2]; simp; omega
    ·rw [decide_eq_false h2]; simp; omega
   simp only [e2];simp
  ·have e1:decide ((bs.length:Int)≤x1)=true:=decide_eq_true (by omega);rw [if_pos h0,List.getElem?_eq_none (by omega),e1];simp
 ·have e0:decide (x1<0)=true:=decide_eq_true (by omega);rw [if_neg h0,e0];simp
set_option maxRecDepth 100000 in
set_option maxHeartbeats 16000000 in
theorem qFn(w:World)(A:Option Addr)(ca:Nat)(A2:Option Addr)(cb:Nat)(bs:List GBk)(gl:List GGl)(cm:CM w A ca A2 cb bs gl)(rl:LR w)(so:qAq bs gl):
 Calls Tryz.prog 23 #[.agg #[.slice A bs.length ca,.slice A2 gl.length cb]] w fun e w'=>e=.returned (.bool (allK bs gl))∧Below w.heap.size w w':=by
 rw [←allX_K];have hbn:=cm.ma.2.1;have hgn:=cm.mb.2.1;have hb1:=qC (Below.refl w.heap.size w) (.cells #[.slice A bs.length ca,.slice A2 gl.length cb] 27);obtain ⟨W0,hW0⟩:∃W,W=w.alloc (.cells #[.slice A bs.length ca,.slice A2 gl.length cb] 27):=⟨_,rfl⟩;have HB0:Hid (Below w.heap.size w W0):=Lib.hid (hW0▸hb1);have HPB:Hid (W0.heap[w.heap.size]? = some (.cells #[.slice A bs.length ca,.slice A2 gl.length cb] 27 (0,0))):=Lib.hid (by rw [hW0]; exact (MapKept.heap_alloc w (.cells #[.slice A bs.length ca,.slice A2 gl.length cb] 27)).1);have HCM:=Lib.hid (cm.below HB0.out);have HRL:=Lib.hid (rl.below HB0.out);have HSO:=Lib.hid so;have HR:Hid (1≤bs.length→bs.length≤1500→gl.length≤400→allX bs gl=(qAz bs gl.length 0 bs&&Qb bs [] gl)):=Lib.hid fun h1 h2 h3=>by
  unfold allX;have e:inB (bs.length:Int) 1 1500=true:=by unfold inB; simp; omega
  rw [e,decide_eq_true h3]; simp
 have HN:Hid (¬(1≤bs.length∧bs.length≤1500∧gl.length≤400)→allX bs gl=false):=Lib.hid fun hh=>by
  unfold allX;by_cases h3:gl.length≤400
  ·have e:inB (bs.length:Int) 1 1500=false:=by unfold inB; simp; omega
   rw [e]; rfl
  ·rw [decide_eq_false h3]; simp
 generalize allX bs gl=R at *;clear cm rl so hb1;go_enter Tryz.func23,Tryz.ntmps23;by_cases hr:1≤bs.length∧bs.length≤1500∧gl.length≤400;rotate_left
 ·have HF:=Lib.hid (HN.out hr);have HRR:=Lib.hid hr;clear hr HN HR HPB HCM HRL;go_wp2
  all_goals first
  |(exfalso; have:=HRR.out; omega)
  |(go_ret; rw [HF.out]; exact ⟨rfl,qC (Below.refl _ _) _⟩)
 have HR2:=Lib.hid (HR.out hr.1 hr.2.1 hr.2.2);have d1:decide ((bs.length:Int)<1)=false:=decide_eq_false (by omega);have d2:decide ((1500:Int)<bs.length)=false:=decide_eq_false (by omega);have d3:decide ((400:Int)<gl.length)=false:=decide_eq_false (by omega);clear hr HN HR;go_wp2;rw [←hW0];have HBT:Hid (∀W,Below W0.heap.size W0 W→Below w.heap.size w W):=Lib.hid fun W h=>qEj HB0.out (Nat.le_of_lt (Array.getElem?_eq_some_iff.1 HPB.out).1) h
 obtain ⟨p,hp⟩:∃p,p=w.heap.size:=⟨_,rfl⟩;rw [←hp] at HPB ⊢;clear hp;clear HB0
 go_loopw [3] (fun v wr=>∃i:Nat,i≤bs.length∧v=.int .i64 i∧qB (CB1 W0 wr bs gl i R)) (fun v _=>bs.length - (intOf v).toNat)
 case atStart=>exact ⟨0,by omega,rfl,⟨⟨Below.refl _ _,fun k hk=>absurd hk (Nat.not_lt_zero k),HR2.out⟩⟩⟩
 case round=>
  obtain ⟨i,hi,rfl,HA⟩:=hrel;clear HR2;have p0:=qA HA.out.below (qD HPB.out (i:=0) rfl);have p1:=qA HA.out.below (qD HPB.out (i:=1) rfl);have HBw:=Lib.hid HA.out.below;by_cases hlt:i<bs.length
  ·have HT:=Lib.hid (HA.out.run.trans (by rw [blksX_at bs gl.length bs i hlt]));have HOK:=Lib.hid HA.out.ok;have HRm:=Lib.hid (qGi wr A ca A2 cb bs gl (HCM.out.below HA.out.below) (HRL.out.below HA.out.below) HSO.out i hlt);have HCh:=Lib.hid fun W (hW:Below wr.heap.size wr W)=>qHc W A ca A2 cb bs gl ((HCM.out.below HBw.out).below hW) (i:Int)
   have hro:(qBO bs gl.length (bs.getD i z55)).isSome=true→okB (bs.getD i z55):=roomX_ok;obtain ⟨bd,A1,c1,hA,g0,g1,g2,_,_⟩:=qAN HCM.out.ma (i:Int) (by omega) (by omega);subst hA;have hrd:qo bs (i:Int)=bs.getD i z55:=by simp [qo]
   rw [hrd] at g1;simp only [Int.toNat_natCast] at g1;replace g1:=qA HBw.out g1;have q1:(0≤(i:Int))=True:=eq_true (by omega);have q2:((i:Int)<(bs.length:Int))=True:=eq_true (by omega);clear g0 g2 hrd HA;have hkn:∀k,k<i+1→okB (bs.getD i z55)→okB (bs.getD k z55):=fun k hk h1=>by
    by_cases e:k=i
    ·subst e; exact h1
    ·exact HOK.out k (by omega)
   have HKN:=Lib.hid hkn;clear hkn;generalize bs.getD i z55=b at *;obtain ⟨y0,y1,ops⟩:=b;simp only at g1;have HOB:=Lib.hid hro;clear hro;generalize hrx:qBO bs gl.length ⟨y0,y1,ops⟩=rx at *;cases rx with
   |none=>
    have HF:Hid (R=false):=Lib.hid (by rw [HT.out]; rfl);go_wp2_with fail;refine HRm.out.mono ?_;rintro e w4 ⟨rfl,hb4⟩;have HB4:=Lib.hid (HBT.out _ (qF HBw.out hb4));have p0':=qA hb4 p0;clear hb4 p0 p1 HRm HT;go_wp2;go_ret;rw [HF.out];exact ⟨rfl,HB4.out⟩
   |some st=>
    have HKN2:=Lib.hid fun k hk=>HKN.out k hk (HOB.out rfl)
    have HT2:Hid (R=((decide (y1≤8)||qAB bs (i:Int))&&(qAz bs gl.length (i+1) (bs.drop (i+1))&&Qb bs [] gl))):=Lib.hid (by rw [HT.out]; simp [Bool.and_assoc]);generalize qAB bs (i:Int)=ch at *;go_wp2_with fail;refine HRm.out.mono ?_;rintro e w4 ⟨rfl,hb4⟩;have HB4:=Lib.hid hb4;have p0':=qA hb4 p0;have p1':=qA hb4 p1;have g1':=qA hb4 g1;clear hb4 p0 p1 g1 HRm HT HKN HOB;by_cases h8:y1≤8
    ·have d8:decide (8<y1)=false:=decide_eq_false (by omega);have HE:Hid (R=(qAz bs gl.length (i+1) (bs.drop (i+1))&&Qb bs [] gl)):=Lib.hid (by rw [HT2.out,decide_eq_true h8]; simp);clear h8;go_wp2;go_roundw
     case rel=>exact ⟨i+1,by omega,by go_num,⟨⟨qF HBw.out HB4.out,HKN2.out,HE.out⟩⟩⟩
     case measure=>simp [intOf]; omega
    have d8:decide (8<y1)=true:=decide_eq_true (by omega);have HT3:Hid (R=(ch&&(qAz bs gl.length (i+1) (bs.drop (i+1))&&Qb bs [] gl))):=Lib.hid (by rw [HT2.out,decide_eq_false h8]; simp);clear h8 HT2;go_wp2_with fail;refine (HCh.out _ HB4.out).mono ?_;rintro e w5 ⟨rfl,hb5⟩;have HB5:=Lib.hid (qF HB4.out hb5);clear hb5;cases ch
    ·have HF:Hid (R=false):=Lib.hid (by rw [HT3.out]; rfl);go_wp2;go_ret;rw [HF.out];exact ⟨rfl,HBT.out _ (qF HBw.out HB5.out)⟩
    ·have HE:Hid (R=(qAz bs gl.length (i+1) (bs.drop (i+1))&&Qb bs [] gl)):=Lib.hid (by rw [HT3.out]; rfl);go_wp2;go_roundw
     case rel=>exact ⟨i+1,by omega,by go_num,⟨⟨qF HBw.out HB5.out,HKN2.out,HE.out⟩⟩⟩
     case measure=>simp [intOf]; omega
  ·obtain rfl:i=bs.length:=by omega
   have HOK:=Lib.hid HA.out.ok;have HR3:Hid (R=Qb bs [] gl):=Lib.hid (by rw [HA.out.run,List.drop_length]; rfl);clear HA hlt;go_wp2
   go_loopw [6] (fun v wr=>∃j:Nat,j≤gl.length∧v=.int .i64 j∧qB (CB2 W0 wr bs gl j R)) (fun v _=>gl.length - (intOf v).toNat)
   case atStart=>exact ⟨0,by omega,rfl,⟨⟨HBw.out,HR3.out⟩⟩⟩
   case round=>
    obtain ⟨j,hj,rfl,HA⟩:=hrel;clear HR3 p0 p1 HBw;have p0:=qA HA.out.below (qD HPB.out (i:=0) rfl);have p1:=qA HA.out.below (qD HPB.out (i:=1) rfl);by_cases hlj:j<gl.length;rotate_left
    ·obtain rfl:j=gl.length:=by omega
     have HF:Hid (R=true):=Lib.hid (by rw [HA.out.run,List.drop_length]; rfl);have HBx:=Lib.hid (HBT.out _ HA.out.below);go_wp2;go_ret;rw [HF.out];exact ⟨rfl,HBx.out⟩
    obtain ⟨gd,rfl,g0,g1⟩:=qB6 HCM.out.mb (j:Int) (by omega) (by omega);have hrd:Qn gl (j:Int)=gl.getD j z63:=by simp [Qn]
    rw [hrd] at g0 g1;simp only [Int.toNat_natCast] at g0 g1;obtain ⟨x0,x1,hgx⟩:∃x0 x1,gl.getD j z63=⟨x0,x1⟩:=⟨_,_,rfl⟩;have HT:=Lib.hid (HA.out.run.trans (okG_key bs gl j hlj HOK.out x0 x1 hgx));have hsz:x0.size≤maxLen:=by
     have e:=hgx;rw [qBd hlj] at e;have:=HSO.out.2 _ (List.getElem_mem hlj);rw [e] at this;exact this
    have HNm:=Lib.hid (fun W=>qBl x0 hsz W);rw [hgx] at g0 g1;simp only at g0 g1;replace g0:=qA HA.out.below g0;replace g1:=qA HA.out.below g1;have q1:(0≤(j:Int))=True:=eq_true (by omega);have q2:((j:Int)<(gl.length:Int))=True:=eq_true (by omega);obtain ⟨Wg,hWg⟩:∃W,W=wr.alloc (.cells #[.string x0,.int .i64 x1] 63):=⟨_,rfl⟩;have hbg:Below wr.heap.size wr Wg:=hWg▸qC (Below.refl wr.heap.size wr) (.cells #[.string x0,.int .i64 x1] 63);have hxb:Wg.heap[wr.heap.size]? = some (.cells #[.string x0,.int .i64 x1] 63 (0,0)):=by rw [hWg]; exact (MapKept.heap_alloc wr (.cells #[.string x0,.int .i64 x1] 63)).1
    have HBg:=Lib.hid (qF HA.out.below hbg);have HGb:Hid (∀W,Below Wg.heap.size Wg W→Calls Tryz.prog 46 #[.agg #[.slice A bs.length ca,.slice (some gd) gl.length cb],.string x0] W fun e w'=>e=.returned (.int .i64 (gix gl x0))∧Below W.heap.size W w'):=Lib.hid fun W hW=>qFA W _ ca _ cb bs gl (HCM.out.below (qF HBg.out hW)) x0
    have p0g:=qA hbg p0;have p1g:=qA hbg p1;have x0c:=qD hxb (i:=0) rfl;have x1c:=qD hxb (i:=1) rfl;have HXX:=Lib.hid (And.intro x0c x1c);clear hrd hsz hgx hbg hxb HA x0c x1c;generalize qe x0.data.toList=nm at *;generalize gix gl x0=gx at *;go_wp2;rw [←hWg];have x0c:=HXX.out.1;have x1c:=HXX.out.2;generalize wr.heap.size=xb at *;clear hWg p0 p1 g0 g1 HXX;have p0:=p0g;have p1:=p1g;clear p0g p1g;cases nm
    ·have HF:Hid (R=false):=Lib.hid (by rw [HT.out]; rfl);refine qU (n:=43) (S:=fun w'=>w'.cell? ⟨p,0,none⟩=some (.slice A bs.length ca)∧w'.cell? ⟨p,1,none⟩=some (.slice (some gd) gl.length cb)∧w'.cell? ⟨xb,0,none⟩=some (.string x0)∧w'.cell? ⟨xb,1,none⟩=some (.int .i64 x1)∧qB (Below Wg.heap.size Wg w')) (ds:=[]) (mA 43 0) (by kernel_rfl) rfl rfl ⟨qA (qE (Below.refl _ _)) p0,qA (qE (Below.refl _ _)) p1,qA (qE (Below.refl _ _)) x0c,qA (qE (Below.refl _ _)) x1c,⟨qE (Below.refl _ _)⟩⟩ (fun hHeld=>?_);refine pa_ 43 1 0 (some 66) (v:=?_) (a':=?_) ?_ ?_ ?_;rotate_left 2
     ·intro w';go_simp
      with_reducible rfl
     ·simp only [pn];rfl
     refine tb_ 43 3 1 (some 67) (v:=?_) (a':=?_) hHeld ?_ ?_ ?_;rotate_left 2
     ·rintro w' ⟨s0,s1,s2,s3,s4⟩;go_simp
      with_reducible rfl
     ·simp only [pn];rfl
     refine oo_ 43 7 2 (some 68) (fun K hK=>?_);refine qR Tryz.func45 (by kernel_rfl) rfl #[.string x0] (by rfl) rfl rfl (by simp only [List.map_toArray,List.map_cons,List.map_nil]; rfl) ?_
     with_reducible refine (HNm.out _).mono ?_
     rintro e u1 ⟨rfl,rfl⟩;refine ⟨_,rfl,?_⟩;refine hK.out _ _ ⟨hHeld.1,hHeld.2.1,hHeld.2.2.1,hHeld.2.2.2.1,hHeld.2.2.2.2⟩ (fun hHeld=>?_);clear hK K;refine qM (a':=?_) ?_ ?_;rotate_left
     ·show Act.put _ (some 68) _=_
      simp only [pn];rfl
     refine pa_ 43 15 3 (some 69) (v:=?_) (a':=?_) ?_ ?_ ?_;rotate_left 2
     ·intro w';go_simp
      with_reducible rfl
     ·simp only [pn];rfl
     refine pa_ 43 31 4 (some 70) (v:=?_) (a':=?_) ?_ ?_ ?_;rotate_left 2
     ·intro w';go_simp
      with_reducible rfl
     ·simp only [pn];rfl
     refine pf_ 43 63 5 (some 71) (a':=?_) ?_ ?_;rotate_left
     ·simp only [pn];rfl
     refine pf_ 43 127 6 (some 72) (a':=?_) ?_ ?_;rotate_left
     ·simp only [pn];rfl
     refine pf_ 43 255 7 (some 73) (a':=?_) ?_ ?_;rotate_left
     ·simp only [pn];rfl
     refine pf_ 43 511 8 (some 74) (a':=?_) ?_ ?_;rotate_left
     ·simp only [pn];rfl
     refine pf_ 43 1023 9 (some 75) (a':=?_) ?_ ?_;rotate_left
     ·simp only [pn];rfl
     refine pf_ 43 2047 10 (some 76) (a':=?_) ?_ ?_;rotate_left
     ·simp only [pn];rfl
     refine pa_ 43 4095 11 (some 77) (v:=?_) (a':=?_) ?_ ?_ ?_;rotate_left 2
     ·intro w';go_simp
      with_reducible rfl
     ·simp only [pn];rfl
     refine pa_ 43 8191 12 (some 78) (v:=?_) (a':=?_) ?_ ?_ ?_;rotate_left 2
     ·intro w';go_simp
      with_reducible rfl
     ·simp only [pn];rfl
     refine pf_ 43 16383 13 (some 79) (a':=?_) ?_ ?_;rotate_left
     ·simp only [pn];rfl
     refine pf_ 43 32767 14 (some 80) (a':=?_) ?_ ?_;rotate_left
     ·simp only [pn];rfl
     refine pf_ 43 65535 15 (some 81) (a':=?_) ?_ ?_;rotate_left
     ·simp only [pn];rfl
     refine pa_ 43 131071 16 (some 82) (v:=?_) (a':=?_) ?_ ?_ ?_;rotate_left 2
     ·intro w';go_simp
      with_reducible rfl
     ·simp only [pn];rfl
     refine pa_ 43 262143 17 (some 83) (v:=?_) (a':=?_) ?_ ?_ ?_;rotate_left 2
     ·intro w';go_simp
      with_reducible rfl
     ·simp only [pn];rfl
     refine pf_ 43 524287 18 (some 84) (a':=?_) ?_ ?_;rotate_left
     ·simp only [pn];rfl
     refine pf_ 43 1048575 19 (some 85) (a':=?_) ?_ ?_;rotate_left
     ·simp only [pn];rfl
     refine pf_ 43 2097151 20 (some 86) (a':=?_) ?_ ?_;rotate_left
     ·simp only [pn];rfl
     refine pf_ 43 4194303 21 (some 87) (a':=?_) ?_ ?_;rotate_left
     ·simp only [pn];rfl
     refine pf_ 43 8388607 22 (some 88) (a':=?_) ?_ ?_;rotate_left
     ·simp only [pn];rfl
     refine pf_ 43 16777215 23 (some 89) (a':=?_) ?_ ?_;rotate_left
     ·simp only [pn];rfl
     refine pa_ 43 33554431 24 (some 90) (v:=?_) (a':=?_) ?_ ?_ ?_;rotate_left 2
     ·intro w';go_simp
      with_reducible rfl
     ·simp only [pn];rfl
     refine pa_ 43 67108863 25 (some 91) (v:=?_) (a':=?_) ?_ ?_ ?_;rotate_left 2
     ·intro w';go_simp
      with_reducible rfl
     ·simp only [pn];rfl
     refine pf_ 43 134217727 26 (some 92) (a':=?_) ?_ ?_;rotate_left
     ·simp only [pn];rfl
     refine pf_ 43 268435455 27 (some 93) (a':=?_) ?_ ?_;rotate_left
     ·simp only [pn];rfl
     refine pf_ 43 536870911 28 (some 94) (a':=?_) ?_ ?_;rotate_left
     ·simp only [pn];rfl
     refine pf_ 43 1073741823 29 (some 95) (a':=?_) ?_ ?_;rotate_left
     ·simp only [pn];rfl
     refine pf_ 43 2147483647 30 (some 96) (a':=?_) ?_ ?_;rotate_left
     ·simp only [pn];rfl
     refine pf_ 43 4294967295 31 (some 97) (a':=?_) ?_ ?_;rotate_left
     ·simp only [pn];rfl
     refine pf_ 43 8589934591 32 (some 98) (a':=?_) ?_ ?_;rotate_left
     ·simp only [pn];rfl
     refine pf_ 43 17179869183 33 (some 99) (a':=?_) ?_ ?_;rotate_left
     ·simp only [pn];rfl
     refine pf_ 43 34359738367 34 (some 100) (a':=?_) ?_ ?_;rotate_left
     ·simp only [pn];rfl
     refine pf_ 43 68719476735 35 (some 101) (a':=?_) ?_ ?_;rotate_left
     ·simp only [pn];rfl
     refine pf_ 43 137438953471 36 (some 102) (a':=?_) ?_ ?_;rotate_left
     ·simp only [pn];rfl
     refine pf_ 43 274877906943 37 (some 103) (a':=?_) ?_ ?_;rotate_left
     ·simp only [pn];rfl
     refine pf_ 43 549755813887 38 (some 104) (a':=?_) ?_ ?_;rotate_left
     ·simp only [pn];rfl
     refine pf_ 43 1099511627775 39 (some 105) (a':=?_) ?_ ?_;rotate_left
     ·simp only [pn];rfl
     refine pf_ 43 2199023255551 40 (some 106) (a':=?_) ?_ ?_;rotate_left
     ·simp only [pn];rfl
     refine pf_ 43 4398046511103 41 (some 107) (a':=?_) ?_ ?_;rotate_left
     ·simp only [pn];rfl
     refine pa_ 43 8796093022207 42 (some 108) (v:=?_) (a':=?_) ?_ ?_ ?_;rotate_left 2
     ·intro w';go_simp
      with_reducible rfl
     ·simp only [pn];rfl
     refine qn (by kernel_rfl) ?_;go_wp2;go_ret;rw [HF.out];exact ⟨rfl,HBT.out _ (qF HBg.out hHeld.2.2.2.2.out)⟩
    cases hgi:decide (gx<(j:Int));rotate_left
    ·have HF:Hid (R=false):=Lib.hid (by rw [HT.out,hgi]; rfl);refine qU (n:=43) (S:=fun w'=>w'.cell? ⟨p,0,none⟩=some (.slice A bs.length ca)∧w'.cell? ⟨p,1,none⟩=some (.slice (some gd) gl.length cb)∧w'.cell? ⟨xb,0,none⟩=some (.string x0)∧w'.cell? ⟨xb,1,none⟩=some (.int .i64 x1)∧qB (Below Wg.heap.size Wg w')) (ds:=[]) (mA 43 0) (by kernel_rfl) rfl rfl ⟨qA (qE (Below.refl _ _)) p0,qA (qE (Below.refl _ _)) p1,qA (qE (Below.refl _ _)) x0c,qA (qE (Below.refl _ _)) x1c,⟨qE (Below.refl _ _)⟩⟩ (fun hHeld=>?_);refine pa_ 43 1 0 (some 66) (v:=?_) (a':=?_) ?_ ?_ ?_;rotate_left 2
     ·intro w';go_simp
      with_reducible rfl
     ·simp only [pn];rfl
     refine tb_ 43 3 1 (some 67) (v:=?_) (a':=?_) hHeld ?_ ?_ ?_;rotate_left 2
     ·rintro w' ⟨s0,s1,s2,s3,s4⟩;go_simp
      with_reducible rfl
     ·simp only [pn];rfl
     refine oo_ 43 7 2 (some 68) (fun K hK=>?_);refine qR Tryz.func45 (by kernel_rfl) rfl #[.string x0] (by rfl) rfl rfl (by simp only [List.map_toArray,List.map_cons,List.map_nil]; rfl) ?_
     with_reducible refine (HNm.out _).mono ?_
     rintro e u1 ⟨rfl,rfl⟩;refine ⟨_,rfl,?_⟩;refine hK.out _ _ ⟨hHeld.1,hHeld.2.1,hHeld.2.2.1,hHeld.2.2.2.1,hHeld.2.2.2.2⟩ (fun hHeld=>?_);clear hK K;refine qM (a':=?_) ?_ ?_;rotate_left
     ·show Act.put _ (some 68) _=_
      simp only [pn];rfl
     refine pa_ 43 15 3 (some 69) (v:=?_) (a':=?_) ?_ ?_ ?_;rotate_left 2
     ·intro w';go_simp
      with_reducible rfl
     ·simp only [pn];rfl
     refine pa_ 43 31 4 (some 70) (v:=?_) (a':=?_) ?_ ?_ ?_;rotate_left 2
     ·intro w';go_simp
      with_reducible rfl
     ·simp only [pn];rfl
     refine pa_ 43 95 6 (some 72) (v:=?_) (a':=?_) ?_ ?_ ?_;rotate_left 2
     ·intro w';go_simp
      with_reducible rfl
     ·simp only [pn];rfl
     refine pa_ 43 607 9 (some 75) (v:=?_) (a':=?_) ?_ ?_ ?_;rotate_left 2
     ·intro w';go_simp
      with_reducible rfl
     ·simp only [pn];rfl
     refine tb_ 43 639 5 (some 71) (v:=?_) (a':=?_) hHeld ?_ ?_ ?_;rotate_left 2
     ·rintro w' ⟨s0,s1,s2,s3,s4⟩;go_simp
      with_reducible rfl
     ·simp only [pn];rfl
     refine tb_ 43 767 7 (some 73) (v:=?_) (a':=?_) hHeld ?_ ?_ ?_;rotate_left 2
     ·rintro w' ⟨s0,s1,s2,s3,s4⟩;go_simp
      with_reducible rfl
     ·simp only [pn];rfl
     refine oo_ 43 1023 8 (some 74) (fun K hK=>?_);refine qR Tryz.func46 (by kernel_rfl) rfl #[.agg #[.slice A bs.length ca,.slice (some gd) gl.length cb],.string x0] (by rfl) rfl rfl (by simp only [List.map_toArray,List.map_cons,List.map_nil]; rfl) ?_
     with_reducible refine (HGb.out _ hHeld.2.2.2.2.out).mono ?_
     rintro e u2 ⟨rfl,hb2⟩;refine ⟨_,rfl,?_⟩;refine hK.out _ _ ⟨qA hb2 hHeld.1,qA hb2 hHeld.2.1,qA hb2 hHeld.2.2.1,qA hb2 hHeld.2.2.2.1,⟨qF hHeld.2.2.2.2.out hb2⟩⟩ (fun hHeld=>?_);clear hK K;refine qM (a':=?_) ?_ ?_;rotate_left
     ·show Act.put _ (some 74) _=_
      simp only [pn];rfl
     refine pa_ 43 2047 10 (some 76) (v:=?_) (a':=?_) ?_ ?_ ?_;rotate_left 2
     ·intro w';go_simp
      with_reducible rfl
     ·simp only [pn];rfl
     refine pa_ 43 4095 11 (some 77) (v:=?_) (a':=?_) ?_ ?_ ?_;rotate_left 2
     ·intro w';go_simp
      with_reducible rfl
     ·simp only [pn];rfl
     refine pa_ 43 8191 12 (some 78) (v:=?_) (a':=?_) ?_ ?_ ?_;rotate_left 2
     ·intro w';go_simp
      with_reducible rfl
     ·simp only [pn];rfl
     refine pf_ 43 16383 13 (some 79) (a':=?_) ?_ ?_;rotate_left
     ·simp only [pn];rfl
     refine pf_ 43 32767 14 (some 80) (a':=?_) ?_ ?_;rotate_left
     ·simp only [pn];rfl
     refine pf_ 43 65535 15 (some 81) (a':=?_) ?_ ?_;rotate_left
     ·simp only [pn];rfl
     refine pa_ 43 131071 16 (some 82) (v:=?_) (a':=?_) ?_ ?_ ?_;rotate_left 2
     ·intro w';go_simp
      with_reducible rfl
     ·simp only [pn];rfl
     refine pa_ 43 262143 17 (some 83) (v:=?_) (a':=?_) ?_ ?_ ?_;rotate_left 2
     ·intro w';go_simp
      with_reducible rfl
     ·simp only [pn];rfl
     refine pf_ 43 524287 18 (some 84) (a':=?_) ?_ ?_;rotate_left
     ·simp only [pn];rfl
     refine pf_ 43 1048575 19 (some 85) (a':=?_) ?_ ?_;rotate_left
     ·simp only [pn];rfl
     refine pf_ 43 2097151 20 (some 86) (a':=?_) ?_ ?_;rotate_left
     ·simp only [pn];rfl
     refine pf_ 43 4194303 21 (some 87) (a':=?_) ?_ ?_;rotate_left
     ·simp only [pn];rfl
     refine pf_ 43 8388607 22 (some 88) (a':=?_) ?_ ?_;rotate_left
     ·simp only [pn];rfl
     refine pf_ 43 16777215 23 (some 89) (a':=?_) ?_ ?_;rotate_left
     ·simp only [pn];rfl
     refine pa_ 43 33554431 24 (some 90) (v:=?_) (a':=?_) ?_ ?_ ?_;rotate_left 2
     ·intro w';go_simp
      with_reducible rfl
     ·simp only [pn];rfl
     refine pa_ 43 67108863 25 (some 91) (v:=?_) (a':=?_) ?_ ?_ ?_;rotate_left 2
     ·intro w';go_simp
      with_reducible rfl
     ·simp only [pn];rfl
     refine pf_ 43 134217727 26 (some 92) (a':=?_) ?_ ?_;rotate_left
     ·simp only [pn];rfl
     refine pf_ 43 268435455 27 (some 93) (a':=?_) ?_ ?_;rotate_left
     ·simp only [pn];rfl
     refine pf_ 43 536870911 28 (some 94) (a':=?_) ?_ ?_;rotate_left
     ·simp only [pn];rfl
     refine pf_ 43 1073741823 29 (some 95) (a':=?_) ?_ ?_;rotate_left
     ·simp only [pn];rfl
     refine pf_ 43 2147483647 30 (some 96) (a':=?_) ?_ ?_;rotate_left
     ·simp only [pn];rfl
     refine pf_ 43 4294967295 31 (some 97) (a':=?_) ?_ ?_;rotate_left
     ·simp only [pn];rfl
     refine pf_ 43 8589934591 32 (some 98) (a':=?_) ?_ ?_;rotate_left
     ·simp only [pn];rfl
     refine pf_ 43 17179869183 33 (some 99) (a':=?_) ?_ ?_;rotate_left
     ·simp only [pn];rfl
     refine pf_ 43 34359738367 34 (some 100) (a':=?_) ?_ ?_;rotate_left
     ·simp only [pn];rfl
     refine pf_ 43 68719476735 35 (some 101) (a':=?_) ?_ ?_;rotate_left
     ·simp only [pn];rfl
     refine pf_ 43 137438953471 36 (some 102) (a':=?_) ?_ ?_;rotate_left
     ·simp only [pn];rfl
     refine pf_ 43 274877906943 37 (some 103) (a':=?_) ?_ ?_;rotate_left
     ·simp only [pn];rfl
     refine pf_ 43 549755813887 38 (some 104) (a':=?_) ?_ ?_;rotate_left
     ·simp only [pn];rfl
     refine pf_ 43 1099511627775 39 (some 105) (a':=?_) ?_ ?_;rotate_left
     ·simp only [pn];rfl
     refine pf_ 43 2199023255551 40 (some 106) (a':=?_) ?_ ?_;rotate_left
     ·simp only [pn];rfl
     refine pf_ 43 4398046511103 41 (some 107) (a':=?_) ?_ ?_;rotate_left
     ·simp only [pn];rfl
     refine pa_ 43 8796093022207 42 (some 108) (v:=?_) (a':=?_) ?_ ?_ ?_;rotate_left 2
     ·intro w';go_simp
      with_reducible rfl
     ·simp only [pn];rfl
     refine qn (by kernel_rfl) ?_;go_wp2;go_ret;rw [HF.out];exact ⟨rfl,HBT.out _ (qF HBg.out hHeld.2.2.2.2.out)⟩
    cases h0:decide (x1<0);rotate_left
    ·have HF:Hid (R=false):=Lib.hid (by rw [HT.out,hgi,h0]; rfl);refine qU (n:=43) (S:=fun w'=>w'.cell? ⟨p,0,none⟩=some (.slice A bs.length ca)∧w'.cell? ⟨p,1,none⟩=some (.slice (some gd) gl.length cb)∧w'.cell? ⟨xb,0,none⟩=some (.string x0)∧w'.cell? ⟨xb,1,none⟩=some (.int .i64 x1)∧qB (Below Wg.heap.size Wg w')) (ds:=[]) (mA 43 0) (by kernel_rfl) rfl rfl ⟨qA (qE (Below.refl _ _)) p0,qA (qE (Below.refl _ _)) p1,qA (qE (Below.refl _ _)) x0c,qA (qE (Below.refl _ _)) x1c,⟨qE (Below.refl _ _)⟩⟩ (fun hHeld=>?_);refine pa_ 43 1 0 (some 66) (v:=?_) (a':=?_) ?_ ?_ ?_;rotate_left 2
     ·intro w';go_simp
      with_reducible rfl
     ·simp only [pn];rfl
     refine tb_ 43 3 1 (some 67) (v:=?_) (a':=?_) hHeld ?_ ?_ ?_;rotate_left 2
     ·rintro w' ⟨s0,s1,s2,s3,s4⟩;go_simp
      with_reducible rfl
     ·simp only [pn];rfl
     refine oo_ 43 7 2 (some 68) (fun K hK=>?_);refine qR Tryz.func45 (by kernel_rfl) rfl #[.string x0] (by rfl) rfl rfl (by simp only [List.map_toArray,List.map_cons,List.map_nil]; rfl) ?_
     with_reducible refine (HNm.out _).mono ?_
     rintro e u1 ⟨rfl,rfl⟩;refine ⟨_,rfl,?_⟩;refine hK.out _ _ ⟨hHeld.1,hHeld.2.1,hHeld.2.2.1,hHeld.2.2.2.1,hHeld.2.2.2.2⟩ (fun hHeld=>?_);clear hK K;refine qM (a':=?_) ?_ ?_;rotate_left
     ·show Act.put _ (some 68) _=_
      simp only [pn];rfl
     refine pa_ 43 15 3 (some 69) (v:=?_) (a':=?_) ?_ ?_ ?_;rotate_left 2
     ·intro w';go_simp
      with_reducible rfl
     ·simp only [pn];rfl
     refine pa_ 43 31 4 (some 70) (v:=?_) (a':=?_) ?_ ?_ ?_;rotate_left 2
     ·intro w';go_simp
      with_reducible rfl
     ·simp only [pn];rfl
     refine pa_ 43 95 6 (some 72) (v:=?_) (a':=?_) ?_ ?_ ?_;rotate_left 2
     ·intro w';go_simp
      with_reducible rfl
     ·simp only [pn];rfl
     refine pa_ 43 607 9 (some 75) (v:=?_) (a':=?_) ?_ ?_ ?_;rotate_left 2
     ·intro w';go_simp
      with_reducible rfl
     ·simp only [pn];rfl
     refine tb_ 43 639 5 (some 71) (v:=?_) (a':=?_) hHeld ?_ ?_ ?_;rotate_left 2
     ·rintro w' ⟨s0,s1,s2,s3,s4⟩;go_simp
      with_reducible rfl
     ·simp only [pn];rfl
     refine tb_ 43 767 7 (some 73) (v:=?_) (a':=?_) hHeld ?_ ?_ ?_;rotate_left 2
     ·rintro w' ⟨s0,s1,s2,s3,s4⟩;go_simp
      with_reducible rfl
     ·simp only [pn];rfl
     refine oo_ 43 1023 8 (some 74) (fun K hK=>?_);refine qR Tryz.func46 (by kernel_rfl) rfl #[.agg #[.slice A bs.length ca,.slice (some gd) gl.length cb],.string x0] (by rfl) rfl rfl (by simp only [List.map_toArray,List.map_cons,List.map_nil]; rfl) ?_
     with_reducible refine (HGb.out _ hHeld.2.2.2.2.out).mono ?_
     rintro e u2 ⟨rfl,hb2⟩;refine ⟨_,rfl,?_⟩;refine hK.out _ _ ⟨qA hb2 hHeld.1,qA hb2 hHeld.2.1,qA hb2 hHeld.2.2.1,qA hb2 hHeld.2.2.2.1,⟨qF hHeld.2.2.2.2.out hb2⟩⟩ (fun hHeld=>?_);clear hK K;refine qM (a':=?_) ?_ ?_;rotate_left
     ·show Act.put _ (some 74) _=_
      simp only [pn];rfl
     refine pa_ 43 2047 10 (some 76) (v:=?_) (a':=?_) ?_ ?_ ?_;rotate_left 2
     ·intro w';go_simp
      with_reducible rfl
     ·simp only [pn];rfl
     refine pa_ 43 4095 11 (some 77) (v:=?_) (a':=?_) ?_ ?_ ?_;rotate_left 2
     ·intro w';go_simp
      with_reducible rfl
     ·simp only [pn];rfl
     refine pa_ 43 8191 12 (some 78) (v:=?_) (a':=?_) ?_ ?_ ?_;rotate_left 2
     ·intro w';go_simp
      with_reducible rfl
     ·simp only [pn];rfl
     refine pa_ 43 16383 13 (some 79) (v:=?_) (a':=?_) ?_ ?_ ?_;rotate_left 2
     ·intro w';go_simp
      with_reducible rfl
     ·simp only [pn];rfl
     refine tb_ 43 32767 14 (some 80) (v:=?_) (a':=?_) hHeld ?_ ?_ ?_;rotate_left 2
     ·rintro w' ⟨s0,s1,s2,s3,s4⟩;go_simp
      with_reducible rfl
     ·simp only [pn];rfl
     refine pa_ 43 65535 15 (some 81) (v:=?_) (a':=?_) ?_ ?_ ?_;rotate_left 2
     ·intro w';go_simp
      with_reducible rfl
     ·simp only [pn];rfl
     refine pa_ 43 131071 16 (some 82) (v:=?_) (a':=?_) ?_ ?_ ?_;rotate_left 2
     ·intro w';go_simp
      with_reducible rfl
     ·simp only [pn];rfl
     refine pa_ 43 262143 17 (some 83) (v:=?_) (a':=?_) ?_ ?_ ?_;rotate_left 2
     ·intro w';go_simp
      with_reducible rfl
     ·simp only [pn];rfl
     refine pf_ 43 524287 18 (some 84) (a':=?_) ?_ ?_;rotate_left
     ·simp only [pn];rfl
     refine pf_ 43 1048575 19 (some 85) (a':=?_) ?_ ?_;rotate_left
     ·simp only [pn];rfl
     refine pf_ 43 2097151 20 (some 86) (a':=?_) ?_ ?_;rotate_left
     ·simp only [pn];rfl
     refine pf_ 43 4194303 21 (some 87) (a':=?_) ?_ ?_;rotate_left
     ·simp only [pn];rfl
     refine pf_ 43 8388607 22 (some 88) (a':=?_) ?_ ?_;rotate_left
     ·simp only [pn];rfl
     refine pf_ 43 16777215 23 (some 89) (a':=?_) ?_ ?_;rotate_left
     ·simp only [pn];rfl
     refine pa_ 43 33554431 24 (some 90) (v:=?_) (a':=?_) ?_ ?_ ?_;rotate_left 2
     ·intro w';go_simp
      with_reducible rfl
     ·simp only [pn];rfl
     refine pa_ 43 67108863 25 (some 91) (v:=?_) (a':=?_) ?_ ?_ ?_;rotate_left 2
     ·intro w';go_simp
      with_reducible rfl
     ·simp only [pn];rfl
     refine pf_ 43 134217727 26 (some 92) (a':=?_) ?_ ?_;rotate_left
     ·simp only [pn];rfl
     refine pf_ 43 268435455 27 (some 93) (a':=?_) ?_ ?_;rotate_left
     ·simp only [pn];rfl
     refine pf_ 43 536870911 28 (some 94) (a':=?_) ?_ ?_;rotate_left
     ·simp only [pn];rfl
     refine pf_ 43 1073741823 29 (some 95) (a':=?_) ?_ ?_;rotate_left
     ·simp only [pn];rfl
     refine pf_ 43 2147483647 30 (some 96) (a':=?_) ?_ ?_;rotate_left
     ·simp only [pn];rfl
     refine pf_ 43 4294967295 31 (some 97) (a':=?_) ?_ ?_;rotate_left
     ·simp only [pn];rfl
     refine pf_ 43 8589934591 32 (some 98) (a':=?_) ?_ ?_;rotate_left
     ·simp only [pn];rfl
     refine pf_ 43 17179869183 33 (some 99) (a':=?_) ?_ ?_;rotate_left
     ·simp only [pn];rfl
     refine pf_ 43 34359738367 34 (some 100) (a':=?_) ?_ ?_;rotate_left
     ·simp only [pn];rfl
     refine pf_ 43 68719476735 35 (some 101) (a':=?_) ?_ ?_;rotate_left
     ·simp only [pn];rfl
     refine pf_ 43 137438953471 36 (some 102) (a':=?_) ?_ ?_;rotate_left
     ·simp only [pn];rfl
     refine pf_ 43 274877906943 37 (some 103) (a':=?_) ?_ ?_;rotate_left
     ·simp only [pn];rfl
     refine pf_ 43 549755813887 38 (some 104) (a':=?_) ?_ ?_;rotate_left
     ·simp only [pn];rfl
     refine pf_ 43 1099511627775 39 (some 105) (a':=?_) ?_ ?_;rotate_left
     ·simp only [pn];rfl
     refine pf_ 43 2199023255551 40 (some 106) (a':=?_) ?_ ?_;rotate_left
     ·simp only [pn];rfl
     refine pf_ 43 4398046511103 41 (some 107) (a':=?_) ?_ ?_;rotate_left
     ·simp only [pn];rfl
     refine pa_ 43 8796093022207 42 (some 108) (v:=?_) (a':=?_) ?_ ?_ ?_;rotate_left 2
     ·intro w';go_simp
      with_reducible rfl
     ·simp only [pn];rfl
     refine qn (by kernel_rfl) ?_;go_wp2;go_ret;rw [HF.out];exact ⟨rfl,HBT.out _ (qF HBg.out hHeld.2.2.2.2.out)⟩
    cases hl:decide ((bs.length:Int)≤x1);rotate_left
    ·have HF:Hid (R=false):=Lib.hid (by rw [HT.out,hgi,h0,hl]; rfl);refine qU (n:=43) (S:=fun w'=>w'.cell? ⟨p,0,none⟩=some (.slice A bs.length ca)∧w'.cell? ⟨p,1,none⟩=some (.slice (some gd) gl.length cb)∧w'.cell? ⟨xb,0,none⟩=some (.string x0)∧w'.cell? ⟨xb,1,none⟩=some (.int .i64 x1)∧qB (Below Wg.heap.size Wg w')) (ds:=[]) (mA 43 0) (by kernel_rfl) rfl rfl ⟨qA (qE (Below.refl _ _)) p0,qA (qE (Below.refl _ _)) p1,qA (qE (Below.refl _ _)) x0c,qA (qE (Below.refl _ _)) x1c,⟨qE (Below.refl _ _)⟩⟩ (fun hHeld=>?_);refine pa_ 43 1 0 (some 66) (v:=?_) (a':=?_) ?_ ?_ ?_;rotate_left 2
     ·intro w';go_simp
      with_reducible rfl
     ·simp only [pn];rfl
     refine tb_ 43 3 1 (some 67) (v:=?_) (a':=?_) hHeld ?_ ?_ ?_;rotate_left 2
     ·rintro w' ⟨s0,s1,s2,s3,s4⟩;go_simp
      with_reducible rfl
     ·simp only [pn];rfl
     refine oo_ 43 7 2 (some 68) (fun K hK=>?_);refine qR Tryz.func45 (by kernel_rfl) rfl #[.string x0] (by rfl) rfl rfl (by simp only [List.map_toArray,List.map_cons,List.map_nil]; rfl) ?_
     with_reducible refine (HNm.out _).mono ?_
     rintro e u1 ⟨rfl,rfl⟩;refine ⟨_,rfl,?_⟩;refine hK.out _ _ ⟨hHeld.1,hHeld.2.1,hHeld.2.2.1,hHeld.2.2.2.1,hHeld.2.2.2.2⟩ (fun hHeld=>?_);clear hK K;refine qM (a':=?_) ?_ ?_;rotate_left
     ·show Act.put _ (some 68) _=_
      simp only [pn];rfl
     refine pa_ 43 15 3 (some 69) (v:=?_) (a':=?_) ?_ ?_ ?_;rotate_left 2
     ·intro w';go_simp
      with_reducible rfl
     ·simp only [pn];rfl
     refine pa_ 43 31 4 (some 70) (v:=?_) (a':=?_) ?_ ?_ ?_;rotate_left 2
     ·intro w';go_simp
      with_reducible rfl
     ·simp only [pn];rfl
     refine pa_ 43 95 6 (some 72) (v:=?_) (a':=?_) ?_ ?_ ?_;rotate_left 2
     ·intro w';go_simp
      with_reducible rfl
     ·simp only [pn];rfl
     refine pa_ 43 607 9 (some 75) (v:=?_) (a':=?_) ?_ ?_ ?_;rotate_left 2
     ·intro w';go_simp
      with_reducible rfl
     ·simp only [pn];rfl
     refine tb_ 43 639 5 (some 71) (v:=?_) (a':=?_) hHeld ?_ ?_ ?_;rotate_left 2
     ·rintro w' ⟨s0,s1,s2,s3,s4⟩;go_simp
      with_reducible rfl
     ·simp only [pn];rfl
     refine tb_ 43 767 7 (some 73) (v:=?_) (a':=?_) hHeld ?_ ?_ ?_;rotate_left 2
     ·rintro w' ⟨s0,s1,s2,s3,s4⟩;go_simp
      with_reducible rfl
     ·simp only [pn];rfl
     refine oo_ 43 1023 8 (some 74) (fun K hK=>?_);refine qR Tryz.func46 (by kernel_rfl) rfl #[.agg #[.slice A bs.length ca,.slice (some gd) gl.length cb],.string x0] (by rfl) rfl rfl (by simp only [List.map_toArray,List.map_cons,List.map_nil]; rfl) ?_
     with_reducible refine (HGb.out _ hHeld.2.2.2.2.out).mono ?_
     rintro e u2 ⟨rfl,hb2⟩;refine ⟨_,rfl,?_⟩;refine hK.out _ _ ⟨qA hb2 hHeld.1,qA hb2 hHeld.2.1,qA hb2 hHeld.2.2.1,qA hb2 hHeld.2.2.2.1,⟨qF hHeld.2.2.2.2.out hb2⟩⟩ (fun hHeld=>?_);clear hK K;refine qM (a':=?_) ?_ ?_;rotate_left
     ·show Act.put _ (some 74) _=_
      simp only [pn];rfl
     refine pa_ 43 2047 10 (some 76) (v:=?_) (a':=?_) ?_ ?_ ?_;rotate_left 2
     ·intro w';go_simp
      with_reducible rfl
     ·simp only [pn];rfl
     refine pa_ 43 4095 11 (some 77) (v:=?_) (a':=?_) ?_ ?_ ?_;rotate_left 2
     ·intro w';go_simp
      with_reducible rfl
     ·simp only [pn];rfl
     refine pa_ 43 8191 12 (some 78) (v:=?_) (a':=?_) ?_ ?_ ?_;rotate_left 2
     ·intro w';go_simp
      with_reducible rfl
     ·simp only [pn];rfl
     refine pa_ 43 16383 13 (some 79) (v:=?_) (a':=?_) ?_ ?_ ?_;rotate_left 2
     ·intro w';go_simp
      with_reducible rfl
     ·simp only [pn];rfl
     refine tb_ 43 32767 14 (some 80) (v:=?_) (a':=?_) hHeld ?_ ?_ ?_;rotate_left 2
     ·rintro w' ⟨s0,s1,s2,s3,s4⟩;go_simp
      with_reducible rfl
     ·simp only [pn];rfl
     refine pa_ 43 65535 15 (some 81) (v:=?_) (a':=?_) ?_ ?_ ?_;rotate_left 2
     ·intro w';go_simp
      with_reducible rfl
     ·simp only [pn];rfl
     refine pa_ 43 131071 16 (some 82) (v:=?_) (a':=?_) ?_ ?_ ?_;rotate_left 2
     ·intro w';go_simp
      with_reducible rfl
     ·simp only [pn];rfl
     refine pa_ 43 262143 17 (some 83) (v:=?_) (a':=?_) ?_ ?_ ?_;rotate_left 2
     ·intro w';go_simp
      with_reducible rfl
     ·simp only [pn];rfl
     refine pa_ 43 524287 18 (some 84) (v:=?_) (a':=?_) ?_ ?_ ?_;rotate_left 2
     ·intro w';go_simp
      with_reducible rfl
     ·simp only [pn];rfl
     refine pa_ 43 1572863 20 (some 86) (v:=?_) (a':=?_) ?_ ?_ ?_;rotate_left 2
     ·intro w';go_simp
      with_reducible rfl
     ·simp only [pn];rfl
     refine tb_ 43 2097151 19 (some 85) (v:=?_) (a':=?_) hHeld ?_ ?_ ?_;rotate_left 2
     ·rintro w' ⟨s0,s1,s2,s3,s4⟩;go_simp
      with_reducible rfl
     ·simp only [pn];rfl
     refine tb_ 43 4194303 21 (some 87) (v:=?_) (a':=?_) hHeld ?_ ?_ ?_;rotate_left 2
     ·rintro w' ⟨s0,s1,s2,s3,s4⟩;go_simp
      with_reducible rfl
     ·simp only [pn];rfl
     refine pa_ 43 8388607 22 (some 88) (v:=?_) (a':=?_) ?_ ?_ ?_;rotate_left 2
     ·intro w';go_simp
      with_reducible rfl
     ·simp only [pn];rfl
     refine pa_ 43 16777215 23 (some 89) (v:=?_) (a':=?_) ?_ ?_ ?_;rotate_left 2
     ·intro w';go_simp
      with_reducible rfl
     ·simp only [pn];rfl
     refine pa_ 43 33554431 24 (some 90) (v:=?_) (a':=?_) ?_ ?_ ?_;rotate_left 2
     ·intro w';go_simp
      with_reducible rfl
     ·simp only [pn];rfl
     refine pa_ 43 67108863 25 (some 91) (v:=?_) (a':=?_) ?_ ?_ ?_;rotate_left 2
     ·intro w';go_simp
      with_reducible rfl
     ·simp only [pn];rfl
     refine pf_ 43 134217727 26 (some 92) (a':=?_) ?_ ?_;rotate_left
     ·simp only [pn];rfl
     refine pf_ 43 268435455 27 (some 93) (a':=?_) ?_ ?_;rotate_left
     ·simp only [pn];rfl
     refine pf_ 43 536870911 28 (some 94) (a':=?_) ?_ ?_;rotate_left
     ·simp only [pn];rfl
     refine pf_ 43 1073741823 29 (some 95) (a':=?_) ?_ ?_;rotate_left
     ·simp only [pn];rfl
     refine pf_ 43 2147483647 30 (some 96) (a':=?_) ?_ ?_;rotate_left
     ·simp only [pn];rfl
     refine pf_ 43 4294967295 31 (some 97) (a':=?_) ?_ ?_;rotate_left
     ·simp only [pn];rfl
     refine pf_ 43 8589934591 32 (some 98) (a':=?_) ?_ ?_;rotate_left
     ·simp only [pn];rfl
     refine pf_ 43 17179869183 33 (some 99) (a':=?_) ?_ ?_;rotate_left
     ·simp only [pn];rfl
     refine pf_ 43 34359738367 34 (some 100) (a':=?_) ?_ ?_;rotate_left
     ·simp only [pn];rfl
     refine pf_ 43 68719476735 35 (some 101) (a':=?_) ?_ ?_;rotate_left
     ·simp only [pn];rfl
     refine pf_ 43 137438953471 36 (some 102) (a':=?_) ?_ ?_;rotate_left
     ·simp only [pn];rfl
     refine pf_ 43 274877906943 37 (some 103) (a':=?_) ?_ ?_;rotate_left
     ·simp only [pn];rfl
     refine pf_ 43 549755813887 38 (some 104) (a':=?_) ?_ ?_;rotate_left
     ·simp only [pn];rfl
     refine pf_ 43 1099511627775 39 (some 105) (a':=?_) ?_ ?_;rotate_left
     ·simp only [pn];rfl
     refine pf_ 43 2199023255551 40 (some 106) (a':=?_) ?_ ?_;rotate_left
     ·simp only [pn];rfl
     refine pf_ 43 4398046511103 41 (some 107) (a':=?_) ?_ ?_;rotate_left
     ·simp only [pn];rfl
     refine pa_ 43 8796093022207 42 (some 108) (v:=?_) (a':=?_) ?_ ?_ ?_;rotate_left 2
     ·intro w';go_simp
      with_reducible rfl
     ·simp only [pn];rfl
     refine qn (by kernel_rfl) ?_;go_wp2;go_ret;rw [HF.out];exact ⟨rfl,HBT.out _ (qF HBg.out hHeld.2.2.2.2.out)⟩
    have h0':=of_decide_eq_false h0;have hl':=of_decide_eq_false hl;obtain ⟨bd,A1,c1,hA,b0,b1,_,_,_⟩:=qAN HCM.out.ma x1 (by omega) (by omega);subst hA;have hrd:qo bs x1=bs.getD x1.toNat z55:=rfl;rw [hrd] at b0 b1;have hok:=HOK.out x1.toNat (by omega);have HT2:Hid (R=(!decide (0<(bs.getD x1.toNat z55).f0+(bs.getD x1.toNat z55).f1)&&Qb bs (gl.take (j+1)) (gl.drop (j+1)))):=Lib.hid (by rw [HT.out,hgi,h0,hl]; rfl);generalize bs.getD x1.toNat z55=b at *;obtain ⟨y0,y1,ops⟩:=b;simp only at b0 b1;unfold okB at hok;simp only at hok;replace b0:=qA HBg.out b0;replace b1:=qA HBg.out b1;have r1:(0≤x1)=True:=eq_true (by omega);have r2:(x1<(bs.length:Int))=True:=eq_true (by omega);have hw:wrap64 (y0+y1)=y0+y1:=IntWalk.wrap64_in _ (by omega);clear h0' hl' hrd hok HT
    refine qU (n:=43) (S:=fun w'=>w'.cell? ⟨p,0,none⟩=some (.slice (some bd) bs.length ca)∧w'.cell? ⟨p,1,none⟩=some (.slice (some gd) gl.length cb)∧w'.cell? ⟨xb,0,none⟩=some (.string x0)∧w'.cell? ⟨xb,1,none⟩=some (.int .i64 x1)∧w'.cell? (bd.add (x1.toNat*3))=some (.int .i64 y0)∧w'.cell? ⟨(bd.add (x1.toNat*3)).block,(bd.add (x1.toNat*3)).off+1,none⟩=some (.int .i64 y1)∧qB (Below Wg.heap.size Wg w')) (ds:=[]) (mA 43 0) (by kernel_rfl) rfl rfl ⟨qA (qE (Below.refl _ _)) p0,qA (qE (Below.refl _ _)) p1,qA (qE (Below.refl _ _)) x0c,qA (qE (Below.refl _ _)) x1c,qA (qE (Below.refl _ _)) b0,qA (qE (Below.refl _ _)) b1,⟨qE (Below.refl _ _)⟩⟩ (fun hHeld=>?_);refine pa_ 43 1 0 (some 66) (v:=?_) (a':=?_) ?_ ?_ ?_;rotate_left 2
    ·intro w';go_simp
     with_reducible rfl
    ·simp only [pn];rfl
    refine tb_ 43 3 1 (some 67) (v:=?_) (a':=?_) hHeld ?_ ?_ ?_;rotate_left 2
    ·rintro w' ⟨s0,s1,s2,s3,s4,s5,s6⟩;go_simp
     with_reducible rfl
    ·simp only [pn];rfl
    refine oo_ 43 7 2 (some 68) (fun K hK=>?_);refine qR Tryz.func45 (by kernel_rfl) rfl #[.string x0] (by rfl) rfl rfl (by simp only [List.map_toArray,List.map_cons,List.map_nil]; rfl) ?_
    with_reducible refine (HNm.out _).mono ?_
    rintro e u1 ⟨rfl,rfl⟩;refine ⟨_,rfl,?_⟩;refine hK.out _ _ ⟨hHeld.1,hHeld.2.1,hHeld.2.2.1,hHeld.2.2.2.1,hHeld.2.2.2.2.1,hHeld.2.2.2.2.2.1,hHeld.2.2.2.2.2.2⟩ (fun hHeld=>?_);clear hK K;refine qM (a':=?_) ?_ ?_;rotate_left
    ·show Act.put _ (some 68) _=_
     simp only [pn];rfl
    refine pa_ 43 15 3 (some 69) (v:=?_) (a':=?_) ?_ ?_ ?_;rotate_left 2
    ·intro w';go_simp
     with_reducible rfl
    ·simp only [pn];rfl
    refine pa_ 43 31 4 (some 70) (v:=?_) (a':=?_) ?_ ?_ ?_;rotate_left 2
    ·intro w';go_simp
     with_reducible rfl
    ·simp only [pn];rfl
    refine pa_ 43 95 6 (some 72) (v:=?_) (a':=?_) ?_ ?_ ?_;rotate_left 2
    ·intro w';go_simp
     with_reducible rfl
    ·simp only [pn];rfl
    refine pa_ 43 607 9 (some 75) (v:=?_) (a':=?_) ?_ ?_ ?_;rotate_left 2
    ·intro w';go_simp
     with_reducible rfl
    ·simp only [pn];rfl
    refine tb_ 43 639 5 (some 71) (v:=?_) (a':=?_) hHeld ?_ ?_ ?_;rotate_left 2
    ·rintro w' ⟨s0,s1,s2,s3,s4,s5,s6⟩;go_simp
     with_reducible rfl
    ·simp only [pn];rfl
    refine tb_ 43 767 7 (some 73) (v:=?_) (a':=?_) hHeld ?_ ?_ ?_;rotate_left 2
    ·rintro w' ⟨s0,s1,s2,s3,s4,s5,s6⟩;go_simp
     with_reducible rfl
    ·simp only [pn];rfl
    refine oo_ 43 1023 8 (some 74) (fun K hK=>?_);refine qR Tryz.func46 (by kernel_rfl) rfl #[.agg #[.slice (some bd) bs.length ca,.slice (some gd) gl.length cb],.string x0] (by rfl) rfl rfl (by simp only [List.map_toArray,List.map_cons,List.map_nil]; rfl) ?_
    with_reducible refine (HGb.out _ hHeld.2.2.2.2.2.2.out).mono ?_
    rintro e u2 ⟨rfl,hb2⟩;refine ⟨_,rfl,?_⟩;refine hK.out _ _ ⟨qA hb2 hHeld.1,qA hb2 hHeld.2.1,qA hb2 hHeld.2.2.1,qA hb2 hHeld.2.2.2.1,qA hb2 hHeld.2.2.2.2.1,qA hb2 hHeld.2.2.2.2.2.1,⟨qF hHeld.2.2.2.2.2.2.out hb2⟩⟩ (fun hHeld=>?_);clear hK K;refine qM (a':=?_) ?_ ?_;rotate_left
    ·show Act.put _ (some 74) _=_
     simp only [pn];rfl
    refine pa_ 43 2047 10 (some 76) (v:=?_) (a':=?_) ?_ ?_ ?_;rotate_left 2
    ·intro w';go_simp
     with_reducible rfl
    ·simp only [pn];rfl
    refine pa_ 43 4095 11 (some 77) (v:=?_) (a':=?_) ?_ ?_ ?_;rotate_left 2
    ·intro w';go_simp
     with_reducible rfl
    ·simp only [pn];rfl
    refine pa_ 43 8191 12 (some 78) (v:=?_) (a':=?_) ?_ ?_ ?_;rotate_left 2
    ·intro w';go_simp
     with_reducible rfl
    ·simp only [pn];rfl
    refine pa_ 43 16383 13 (some 79) (v:=?_) (a':=?_) ?_ ?_ ?_;rotate_left 2
    ·intro w';go_simp
     with_reducible rfl
    ·simp only [pn];rfl
    refine tb_ 43 32767 14 (some 80) (v:=?_) (a':=?_) hHeld ?_ ?_ ?_;rotate_left 2
    ·rintro w' ⟨s0,s1,s2,s3,s4,s5,s6⟩;go_simp
     with_reducible rfl
    ·simp only [pn];rfl
    refine pa_ 43 65535 15 (some 81) (v:=?_) (a':=?_) ?_ ?_ ?_;rotate_left 2
    ·intro w';go_simp
     with_reducible rfl
    ·simp only [pn];rfl
    refine pa_ 43 131071 16 (some 82) (v:=?_) (a':=?_) ?_ ?_ ?_;rotate_left 2
    ·intro w';go_simp
     with_reducible rfl
    ·simp only [pn];rfl
    refine pa_ 43 262143 17 (some 83) (v:=?_) (a':=?_) ?_ ?_ ?_;rotate_left 2
    ·intro w';go_simp
     with_reducible rfl
    ·simp only [pn];rfl
    refine pa_ 43 524287 18 (some 84) (v:=?_) (a':=?_) ?_ ?_ ?_;rotate_left 2
    ·intro w';go_simp
     with_reducible rfl
    ·simp only [pn];rfl
    refine pa_ 43 1572863 20 (some 86) (v:=?_) (a':=?_) ?_ ?_ ?_;rotate_left 2
    ·intro w';go_simp
     with_reducible rfl
    ·simp only [pn];rfl
    refine tb_ 43 2097151 19 (some 85) (v:=?_) (a':=?_) hHeld ?_ ?_ ?_;rotate_left 2
    ·rintro w' ⟨s0,s1,s2,s3,s4,s5,s6⟩;go_simp
     with_reducible rfl
    ·simp only [pn];rfl
    refine tb_ 43 4194303 21 (some 87) (v:=?_) (a':=?_) hHeld ?_ ?_ ?_;rotate_left 2
    ·rintro w' ⟨s0,s1,s2,s3,s4,s5,s6⟩;go_simp
     with_reducible rfl
    ·simp only [pn];rfl
    refine pa_ 43 8388607 22 (some 88) (v:=?_) (a':=?_) ?_ ?_ ?_;rotate_left 2
    ·intro w';go_simp
     with_reducible rfl
    ·simp only [pn];rfl
    refine pa_ 43 16777215 23 (some 89) (v:=?_) (a':=?_) ?_ ?_ ?_;rotate_left 2
    ·intro w';go_simp
     with_reducible rfl
    ·simp only [pn];rfl
    refine pa_ 43 33554431 24 (some 90) (v:=?_) (a':=?_) ?_ ?_ ?_;rotate_left 2
    ·intro w';go_simp
     with_reducible rfl
    ·simp only [pn];rfl
    refine pa_ 43 67108863 25 (some 91) (v:=?_) (a':=?_) ?_ ?_ ?_;rotate_left 2
    ·intro w';go_simp
     with_reducible rfl
    ·simp only [pn];rfl
    refine pa_ 43 134217727 26 (some 92) (v:=?_) (a':=?_) ?_ ?_ ?_;rotate_left 2
    ·intro w';go_simp
     with_reducible rfl
    ·simp only [pn];rfl
    refine pa_ 43 402653183 28 (some 94) (v:=?_) (a':=?_) ?_ ?_ ?_;rotate_left 2
    ·intro w';go_simp
     with_reducible rfl
    ·simp only [pn];rfl
    refine pa_ 43 8992587775 33 (some 99) (v:=?_) (a':=?_) ?_ ?_ ?_;rotate_left 2
    ·intro w';go_simp
     with_reducible rfl
    ·simp only [pn];rfl
    refine pa_ 43 43352326143 35 (some 101) (v:=?_) (a':=?_) ?_ ?_ ?_;rotate_left 2
    ·intro w';go_simp
     with_reducible rfl
    ·simp only [pn];rfl
    refine tb_ 43 43486543871 27 (some 93) (v:=?_) (a':=?_) hHeld ?_ ?_ ?_;rotate_left 2
    ·rintro w' ⟨s0,s1,s2,s3,s4,s5,s6⟩;go_simp
     with_reducible rfl
    ·simp only [pn];rfl
    refine tb_ 43 44023414783 29 (some 95) (v:=?_) (a':=?_) hHeld ?_ ?_ ?_;rotate_left 2
    ·rintro w' ⟨s0,s1,s2,s3,s4,s5,s6⟩;go_simp
     with_reducible rfl
    ·simp only [pn];rfl
    refine pa_ 43 45097156607 30 (some 96) (v:=?_) (a':=?_) ?_ ?_ ?_;rotate_left 2
    ·intro w';go_simp
     with_reducible rfl
    ·simp only [pn];rfl
    refine pa_ 43 47244640255 31 (some 97) (v:=?_) (a':=?_) ?_ ?_ ?_;rotate_left 2
    ·intro w';go_simp
     with_reducible rfl
    ·simp only [pn];rfl
    refine tb_ 43 51539607551 32 (some 98) (v:=?_) (a':=?_) hHeld ?_ ?_ ?_;rotate_left 2
    ·rintro w' ⟨s0,s1,s2,s3,s4,s5,s6⟩;go_simp
     with_reducible rfl
    ·simp only [pn];rfl
    refine tb_ 43 68719476735 34 (some 100) (v:=?_) (a':=?_) hHeld ?_ ?_ ?_;rotate_left 2
    ·rintro w' ⟨s0,s1,s2,s3,s4,s5,s6⟩;go_simp
     with_reducible rfl
    ·simp only [pn];rfl
    refine tb_ 43 137438953471 36 (some 102) (v:=?_) (a':=?_) hHeld ?_ ?_ ?_;rotate_left 2
    ·rintro w' ⟨s0,s1,s2,s3,s4,s5,s6⟩;go_simp
     with_reducible rfl
    ·simp only [pn];rfl
    refine pa_ 43 274877906943 37 (some 103) (v:=?_) (a':=?_) ?_ ?_ ?_;rotate_left 2
    ·intro w';go_simp
     with_reducible rfl
    ·simp only [pn];rfl
    refine pa_ 43 549755813887 38 (some 104) (v:=?_) (a':=?_) ?_ ?_ ?_;rotate_left 2
    ·intro w';go_simp
     with_reducible rfl
    ·simp only [pn];rfl
    refine tb_ 43 1099511627775 39 (some 105) (v:=?_) (a':=?_) hHeld ?_ ?_ ?_;rotate_left 2
    ·rintro w' ⟨s0,s1,s2,s3,s4,s5,s6⟩;go_simp
     with_reducible rfl
    ·simp only [pn];rfl
    refine pa_ 43 2199023255551 40 (some 106) (v:=?_) (a':=?_) ?_ ?_ ?_;rotate_left 2
    ·intro w';go_simp
     with_reducible rfl
    ·simp only [pn];rfl
    refine pa_ 43 4398046511103 41 (some 107) (v:=?_) (a':=?_) ?_ ?_ ?_;rotate_left 2
    ·intro w';go_simp
     with_reducible rfl
    ·simp only [pn];rfl
    refine pa_ 43 8796093022207 42 (some 108) (v:=?_) (a':=?_) ?_ ?_ ?_;rotate_left 2
    ·intro w';go_simp
     with_reducible rfl
    ·simp only [pn];rfl
    refine qn (by kernel_rfl) ?_;cases hs:decide (0<y0+y1)
    ·have HE:Hid (R=Qb bs (gl.take (j+1)) (gl.drop (j+1))):=Lib.hid (by rw [HT2.out]; simp only [hs]; rfl)
     (first|rw [hs]|(simp only [qEn,qEo]; rw [hs])|skip)
     go_wp2;go_roundw
     case rel=>exact ⟨j+1,by omega,by go_num,⟨⟨qF HBg.out hHeld.2.2.2.2.2.2.out,HE.out⟩⟩⟩
     case measure=>simp [intOf]; omega
    ·have HF:Hid (R=false):=Lib.hid (by rw [HT2.out]; simp only [hs]; rfl)
     (first|rw [hs]|(simp only [qEn,qEo]; rw [hs])|skip)
     go_wp2;go_ret;rw [HF.out];exact ⟨rfl,HBT.out _ (qF HBg.out hHeld.2.2.2.2.2.2.out)⟩
end Go.Proofs.YtoonkkipnljflaaGreatDoor.CJ
