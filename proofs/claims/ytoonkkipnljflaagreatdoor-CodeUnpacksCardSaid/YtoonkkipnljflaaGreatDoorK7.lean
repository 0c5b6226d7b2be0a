/- code.packed: the packed form of a code. Conditions: the code lies in memory; numbers are as a valid code has them; the bytes are not too many. -/
import Derived.Test.YtoonkkipnljflaaGreatDoorKC
import Derived.Lib.SmallJoins
namespace Go.Proofs.YtoonkkipnljflaaGreatDoor.CJ
open Go.RowKit Go.Proofs.YtoonkkipnljflaaGreatDoorW.PrintWords Go.Proofs.YtoonkkipnljflaaGreatDoorW.PrintLast Go.Proofs.YtoonkkipnljflaaGreatDoor.PT Go.Proofs.YtoonkkipnljflaaGreatDoor.IMaps Go.Proofs.YtoonkkipnljflaaGreatDoor.TJ
set_option linter.unusedVariables false
set_option linter.unusedSimpArgs false
def qx:List UInt8:=[100,107,49]
def hdB(b:GBk):List UInt8:=numB b.f0++(numB b.f1++numB b.f2.length)
def blkB(b:GBk):List UInt8:=hdB b++b.f2.flatMap opB
def glbB(g:GGl):List UInt8:=strB g.f0.data.toList++numB g.f1
def Q3(bs:List GBk)(gl:List GGl):List UInt8:=(qx++numB bs.length)++(bs.flatMap blkB++(numB gl.length++gl.flatMap glbB))
def qp(bs:List GBk)(gl:List GGl):List UInt8:=QE (Q3 bs gl)
structure OkC(bs:List GBk)(gl:List GGl):Prop where
 blocks:∀b∈bs,OkN b.f0∧OkN b.f1∧∀g∈b.f2,OkOp g
 globs:∀g∈gl,g.f0.size≤1000000000∧OkN g.f1
theorem qBY{α β:Type}(f:α→List β)(l:List α)(i:Nat)(hi:i<l.length):l.flatMap f=(l.take i).flatMap f++(f l[i]++(l.drop (i+1)).flatMap f):=by
 have h:l=l.take i++(l[i]::l.drop (i+1)):=by rw [←List.drop_eq_getElem_cons hi,List.take_append_drop]
 have h2:l.flatMap f=(l.take i++(l[i]::l.drop (i+1))).flatMap f:=congrArg (List.flatMap f) h;rw [h2,List.flatMap_append,List.flatMap_cons]
theorem fm_take{α β:Type}(f:α→List β)(l:List α)(i:Nat):l.flatMap f=(l.take i).flatMap f++(l.drop i).flatMap f:=by
 rw [←List.flatMap_append,List.take_append_drop]
structure PX(B q:Nat)(w W0 wr:World)(acc:List UInt8):Prop where
 pk:PK B q W0 wr acc
 low:Below B w wr
 sz:q<wr.heap.size
theorem PX.next{B q:Nat}{w W0 w1 w2:World}{acc acc2:List UInt8}(h:PX B q w W0 w1 acc)(hP:PK B q w1 w2 acc2):PX B q w W0 w2 acc2:=⟨h.pk.trans hP,h.low.trans hP.below,hP.pw.lt⟩
theorem PX.box{B q:Nat}{w W0 w1:World}{acc:List UInt8}(h:PX B q w W0 w1 acc)(o:Obj):PX B q w W0 (w1.alloc o) acc:=by
 have hb:=qC (Below.refl w1.heap.size w1) o;have hB:=h.pk.pw.hB;have hs:=h.sz;exact ⟨h.pk.trans ((PK.refl (h.pk.pw.below hb)).lift (by omega) hb),h.low.alloc (by omega) _,by simp; omega⟩
def qCJ(w:World)(A:Option Addr)(n ca:Nat)(A2:Option Addr)(k cb:Nat):World:=
 ((w.alloc (.cells #[.slice A n ca,.slice A2 k cb] 27)).alloc (.cells #[.int .u8 100,.int .u8 107,.int .u8 49] 5 (3,4))).alloc (.cells #[.slice (some ⟨w.heap.size+1,0,none⟩) 3 3] 80)
theorem packW_pm(w:World)(A:Option Addr)(n ca:Nat)(A2:Option Addr)(k cb:Nat):PM (qCJ w A n ca A2 k cb) w.heap.size (w.heap.size+2) qx∧Below w.heap.size w (qCJ w A n ca A2 k cb)∧(qCJ w A n ca A2 k cb).heap[w.heap.size]? = some (.cells #[.slice A n ca,.slice A2 k cb] 27 (0,0)):=by
 have h1:=(MapKept.heap_alloc w (.cells #[.slice A n ca,.slice A2 k cb] 27)).1;have h2:=(MapKept.heap_alloc (w.alloc (.cells #[.slice A n ca,.slice A2 k cb] 27)) (.cells #[.int .u8 100,.int .u8 107,.int .u8 49] 5 (3,4))).1;have h3:=(MapKept.heap_alloc ((w.alloc (.cells #[.slice A n ca,.slice A2 k cb] 27)).alloc (.cells #[.int .u8 100,.int .u8 107,.int .u8 49] 5 (3,4))) (.cells #[.slice (some ⟨w.heap.size+1,0,none⟩) 3 3] 80)).1;simp only [World.size_alloc] at h2 h3;refine ⟨⟨by omega,_,h3,w.heap.size+1,rfl,by omega,?_⟩,qC (qC (qC (Below.refl _ _) _) _) _,?_⟩
 ·exact (Below.heap_alloc _ _ _ (by simp)).trans h2
 ·exact (Below.heap_alloc _ _ _ (by simp; omega)).trans ((Below.heap_alloc _ _ _ (by simp)).trans h1)
set_option maxRecDepth 100000 in
set_option maxHeartbeats 16000000 in
theorem qDj(w:World)(A:Option Addr)(ca:Nat)(A2:Option Addr)(cb:Nat)(bs:List GBk)(gl:List GGl)(hc:CM w A ca A2 cb bs gl)(hok:OkC bs gl)(hlen:(Q3 bs gl).length≤1000000000):
 Calls Tryz.prog 18 #[qw A bs.length ca A2 gl.length cb] w fun e w'=>e=.returned (.string ⟨(qp bs gl).toArray⟩)∧Below w.heap.size w w':=by
 have hmb:bs.length≤9223372036854775807:=hc.ma.2.1;have hmg:gl.length≤9223372036854775807:=hc.mb.2.1;have kc:=Joins.run_convert_bytes_const_at (P:=Tryz.prog) (w.alloc (.cells #[.slice A bs.length ca,.slice A2 gl.length cb] 27)) 39 5 #[.int .u8 100,.int .u8 107,.int .u8 49] 3 3 (w.heap.size+1) (by simp) Tryz.underlying39 Tryz.underlying5;obtain ⟨hpm,hpb,hpx⟩:=packW_pm w A bs.length ca A2 gl.length cb;have HC:=Lib.hid hc;have HO:=Lib.hid hok;have HLp:Hid (∀p r,Q3 bs gl=p++r→LE47 p.length):=Lib.hid (fun p r e=>by rw [e,List.length_append] at hlen; unfold LE47; omega);have HT:Hid (Q3 bs gl=(qx++numB bs.length)++(bs.flatMap blkB++(numB gl.length++gl.flatMap glbB))):=Lib.hid rfl;have HPB:Hid (qp bs gl=QE (Q3 bs gl)∧(Q3 bs gl).length≤1000000000∧Q3 bs gl≠[]):=Lib.hid ⟨rfl,hlen,by simp [Q3,qx]⟩;have HNM:=Lib.hid (qJG _ w.heap.size (w.heap.size+2) qx (bs.length:Int) hpm ⟨by omega,by omega⟩ (HLp.out _ _ HT.out));have HB0:=Lib.hid hpb;have HX:=Lib.hid hpx;have hsz:(qCJ w A bs.length ca A2 gl.length cb).heap.size=w.heap.size+3:=by simp [qCJ]
 clear hc hok hlen hpm hpb hpx;generalize Q3 bs gl=T at *;generalize qp bs gl=R at *;unfold qw;unfold qCJ at HNM hsz;simp only [World.size_alloc] at HNM;go_enter Tryz.func18,Tryz.ntmps18;go_wp2_with fail;refine HNM.out.mono ?_;rintro e w1 ⟨rfl,hP⟩;have HP:qB (PX w.heap.size (w.heap.size+2) w (qCJ w A bs.length ca A2 gl.length cb) w1 (qx++numB bs.length)):=⟨⟨hP,HB0.out.trans hP.below,hP.pw.lt⟩⟩;have hbx:=(hP.keep w.heap.size _ _ _ (by omega) HX.out (by decide)).trans HX.out;have f0:=qD hbx (i:=0) rfl;have f1:=qD hbx (i:=1) rfl;have HBX:Hid (∀wr acc,PX w.heap.size (w.heap.size+2) w (qCJ w A bs.length ca A2 gl.length cb) wr acc→wr.heap[w.heap.size]? = some (.cells #[.slice A bs.length ca,.slice A2 gl.length cb] 27 (0,0))):=Lib.hid (fun wr acc h=>(h.pk.keep w.heap.size _ _ _ (by omega) HX.out (by decide)).trans HX.out);generalize qCJ w A bs.length ca A2 gl.length cb=W0 at *;clear hP hbx HNM kc hsz HX;go_wp2;clear f0 f1
 go_loopw [23] (fun v wr=>∃i:Nat,i≤bs.length∧v=.int .i64 i∧qB (PX w.heap.size (w.heap.size+2) w W0 wr ((qx++numB bs.length)++(bs.take i).flatMap blkB))) (fun v _=>bs.length - (intOf v).toNat)
 case atStart=>exact ⟨0,by omega,rfl,by simpa using HP⟩
 case round=>
  obtain ⟨i,hi,rfl,HJ⟩:=hrel;clear HP;by_cases hlt:i<bs.length
  ·obtain ⟨ad,A3,c3,e3,hx0,hx1,hx2,g3,C3⟩:=qAN HC.out.ma (i:Int) (by omega) (by omega);have hrd:qo bs (i:Int)=bs[i]:=by simp [qo,List.getD_eq_getElem?_getD,List.getElem?_eq_getElem hlt]
   have hob:=HO.out.blocks bs[i] (List.getElem_mem hlt);have hta:=Qc blkB bs i hlt;have htt:=HT.out;rw [qBY blkB bs i hlt] at htt;rw [hrd] at hx0 hx1 hx2 g3 C3;generalize bs[i]=y at *;obtain ⟨y0,y1,ops⟩:=y;simp only at hx0 hx1 hx2 g3 C3 hob;cases e3;simp only [Int.toNat_natCast] at hx0 hx1 hx2;replace hx0:=qA HJ.out.low hx0;replace hx1:=qA HJ.out.low hx1;replace hx2:=qA HJ.out.low hx2;have hmo:ops.length≤9223372036854775807:=C3.2.1;have HOB:=Lib.hid hob;have HTA:=Lib.hid hta;have HC3:=Lib.hid (And.intro g3 C3);generalize hacc:(qx++numB bs.length)++(bs.take i).flatMap blkB=acc at *;generalize hrest:(bs.drop (i+1)).flatMap blkB=rest at *;have HTT:Hid (T=acc++(numB y0++(numB y1++numB (ops.length:Int)))++(ops.flatMap opB++(rest++(numB gl.length++gl.flatMap glbB)))):=Lib.hid (by rw [htt,←hacc]; simp [blkB,hdB]);have HJ1:=qB.mk (HJ.out.box (.cells #[.int .i64 y0,.int .i64 y1,.slice A3 ops.length c3] 55));have hbz:(wr.alloc (.cells #[.int .i64 y0,.int .i64 y1,.slice A3 ops.length c3] 55)).heap[wr.heap.size]? = some (.cells #[.int .i64 y0,.int .i64 y1,.slice A3 ops.length c3] 55 (0,0)):=(MapKept.heap_alloc wr _).1;have HBZ:=Lib.hid hbz;have HN3:=Lib.hid (qJD _ w.heap.size (w.heap.size+2) acc y0 y1 (ops.length:Int) HJ1.out.pk.pw hob.1 hob.2.1 ⟨by omega,by omega⟩ (HLp.out _ _ HTT.out));simp only [World.size_alloc] at HN3;have hsr:=HJ.out.sz;clear hob hta htt g3 C3 hbz hrd;go_wp2_with fail;refine HN3.out.mono ?_
   rintro e w2 ⟨rfl,hP⟩;have HJ2:=qB.mk (HJ1.out.next hP);have hb2:=(hP.keep wr.heap.size _ _ _ (by omega) HBZ.out (by decide)).trans HBZ.out;have k2:=qD hb2 (i:=2) rfl;clear hP hb2 hx0 hx1 hx2 HN3 HJ1;go_wp2;clear k2;obtain ⟨wo,rfl⟩:∃wo:World,wo=wr:=⟨_,rfl⟩
   go_loopw [40] (fun v wr=>∃j:Nat,j≤ops.length∧v=.int .i64 j∧qB (PX w.heap.size (w.heap.size+2) w W0 wr (acc++(numB y0++(numB y1++numB (ops.length:Int)))++(ops.take j).flatMap opB))) (fun v _=>ops.length - (intOf v).toNat)
   case atStart=>exact ⟨0,by omega,rfl,by simpa using HJ2⟩
   case round=>
    obtain ⟨j,hj,rfl,HD⟩:=hrel;clear HJ2;by_cases hlj:j<ops.length
    ·obtain ⟨ad2,A5,c5,A6,c6,e5,hz0,hz1,hz2,hz3,hz4,hz5,hz6,g5,C5,g6,C6⟩:=qA3 HC3.out.2 (j:Int) (by omega) (by omega);have hrd:qj ops (j:Int)=ops[j]:=by simp [qj,List.getD_eq_getElem?_getD,List.getElem?_eq_getElem hlj]
     have hoo:=HOB.out.2.2 ops[j] (List.getElem_mem hlj);have hto:=Qc opB ops j hlj;have htt:=HTT.out;rw [qBY opB ops j hlj] at htt;rw [hrd] at hz0 hz1 hz2 hz3 hz4 hz5 hz6 g5 C5 g6 C6;generalize ops[j]=g at *;cases e5;simp only [Int.toNat_natCast] at hz0 hz1 hz2 hz3 hz4 hz5 hz6;generalize hac2:acc++(numB y0++(numB y1++numB (ops.length:Int)))++(ops.take j).flatMap opB=ac2 at *;have HTO:Hid (ac2++opB g=acc++(numB y0++(numB y1++numB (ops.length:Int)))++(ops.take (j+1)).flatMap opB):=Lib.hid (by rw [hto,←hac2,List.append_assoc]);have hle:LE47 (ac2++opB g).length:=HLp.out (ac2++opB g) ((ops.drop (j+1)).flatMap opB++(rest++(numB gl.length++gl.flatMap glbB))) (by rw [htt,←hac2]; simp);have hlow:=HD.out.low;replace hz0:=qA hlow hz0;replace hz1:=qA hlow hz1;replace hz2:=qA hlow hz2;replace hz3:=qA hlow hz3;replace hz4:=qA hlow hz4;replace hz5:=qA hlow hz5;replace hz6:=qA hlow hz6;have HD1:=qB.mk (HD.out.box (.cells #[.int .i64 g.f0,.int .i64 g.f1,.int .i64 g.f2,.int .i64 g.f3,.string g.f4,.slice A5 g.f5.length c5,.slice A6 g.f6.length c6] 59));have HPO:=Lib.hid (qKT w _ w.heap.size (w.heap.size+2) ac2 g A5 A6 c5 c6 HD1.out.pk.pw (Nat.le_refl _) HD1.out.low g5 C5 g6 C6 hoo hle);have hm5:g.f5.length≤9223372036854775807:=C5.2.1;have hm6:g.f6.length≤9223372036854775807:=C6.2.1;clear hto htt hle hlow hoo hrd g5 C5 g6 C6 hac2;unfold gOp at HPO;go_wp2_with fail;refine HPO.out.mono ?_
     rintro e w3 ⟨rfl,hP⟩;have HN:qB (PX w.heap.size (w.heap.size+2) w W0 w3 (acc++(numB y0++(numB y1++numB (ops.length:Int)))++(ops.take (j+1)).flatMap opB)):=⟨by rw [←HTO.out]; exact HD1.out.next hP⟩;clear hP;go_wp2;go_roundw
     case rel=>exact ⟨j+1,by omega,by go_num,HN⟩
     case measure=>simp [intOf]; omega
    ·obtain rfl:j=ops.length:=by omega
     have HN:qB (PX w.heap.size (w.heap.size+2) w W0 wr ((qx++numB bs.length)++(bs.take (i+1)).flatMap blkB)):=⟨by have h1:=HD.out; rw [List.take_length] at h1; rw [HTA.out,←List.append_assoc,hacc]; simpa [blkB,hdB] using h1⟩;clear HD;go_wp2;go_roundw
     case rel=>exact ⟨i+1,by omega,by go_num,HN⟩
     case measure=>simp [intOf]; omega
  ·obtain rfl:i=bs.length:=by omega
   rw [List.take_length] at HJ;generalize hacc:(qx++numB bs.length)++bs.flatMap blkB=acc at *;have HTT:Hid (T=(acc++numB gl.length)++gl.flatMap glbB):=Lib.hid (by rw [HT.out,←hacc]; simp);have hbx:=HBX.out _ _ HJ.out;have f0:=qD hbx (i:=0) rfl;have f1:=qD hbx (i:=1) rfl;have HN1:=Lib.hid (qAg _ w.heap.size (w.heap.size+2) acc (gl.length:Int) HJ.out.pk.pw ⟨by omega,by omega⟩ (HLp.out _ _ HTT.out));clear hbx;go_wp2_with fail;refine HN1.out.mono ?_;rintro e w2 ⟨rfl,hP⟩;have HJ2:=qB.mk (HJ.out.next hP);have hbx:=HBX.out _ _ HJ2.out;have f0:=qD hbx (i:=0) rfl;have f1:=qD hbx (i:=1) rfl;clear hbx hP HJ;go_wp2;clear f0 f1
   go_loopw [58] (fun v wr=>∃j:Nat,j≤gl.length∧v=.int .i64 j∧qB (PX w.heap.size (w.heap.size+2) w W0 wr ((acc++numB gl.length)++(gl.take j).flatMap glbB))) (fun v _=>gl.length - (intOf v).toNat)
   case atStart=>exact ⟨0,by omega,rfl,by simpa using HJ2⟩
   case round=>
    obtain ⟨j,hj,rfl,HD⟩:=hrel;clear HJ2;by_cases hlj:j<gl.length
    ·obtain ⟨ad2,e5,hz0,hz1⟩:=qB6 HC.out.mb (j:Int) (by omega) (by omega);have hrd:Qn gl (j:Int)=gl[j]:=by simp [Qn,List.getD_eq_getElem?_getD,List.getElem?_eq_getElem hlj]
     have hoo:=HO.out.globs gl[j] (List.getElem_mem hlj);have hto:=Qc glbB gl j hlj;have htt:=HTT.out;rw [qBY glbB gl j hlj] at htt;rw [hrd] at hz0 hz1;generalize gl[j]=g at *;obtain ⟨g0,g1⟩:=g;simp only at hz0 hz1 hoo;cases e5;simp only [Int.toNat_natCast] at hz0 hz1;generalize hac2:(acc++numB gl.length)++(gl.take j).flatMap glbB=ac2 at *;have HTO:Hid ((ac2++strB g0.data.toList)++numB g1=(acc++numB gl.length)++(gl.take (j+1)).flatMap glbB):=Lib.hid (by rw [hto,←hac2]; simp [glbB]);have hle2:LE47 ((ac2++strB g0.data.toList)++numB g1).length:=HLp.out _ ((gl.drop (j+1)).flatMap glbB) (by rw [htt,←hac2]; simp [glbB]);have hle1:LE47 (ac2++strB g0.data.toList).length:=HLp.out _ (numB g1++(gl.drop (j+1)).flatMap glbB) (by rw [htt,←hac2]; simp [glbB]);replace hz0:=qA HD.out.low hz0;replace hz1:=qA HD.out.low hz1;have HD1:=qB.mk (HD.out.box (.cells #[.string g0,.int .i64 g1] 63));have hbz:(wr.alloc (.cells #[.string g0,.int .i64 g1] 63)).heap[wr.heap.size]? = some (.cells #[.string g0,.int .i64 g1] 63 (0,0)):=(MapKept.heap_alloc wr _).1;have HBZ:=Lib.hid hbz;have HST:=Lib.hid (qDh _ w.heap.size (w.heap.size+2) ac2 g0 HD1.out.pk.pw hoo.1 hle1);have HLE:=Lib.hid (And.intro hle2 hoo.2);have hsr:=HD.out.sz;clear hto htt hle1 hle2 hoo hrd hbz hac2;go_wp2_with fail;refine HST.out.mono ?_;rintro e w3 ⟨rfl,hP⟩;have HD2:=qB.mk (HD1.out.next hP);have hb2:=(hP.keep wr.heap.size _ _ _ (by omega) HBZ.out (by decide)).trans HBZ.out
     have k1:=qD hb2 (i:=1) rfl;have HN4:=Lib.hid (qAg _ w.heap.size (w.heap.size+2) _ g1 HD2.out.pk.pw HLE.out.2 HLE.out.1);clear hP hb2 hz0 hz1;go_wp2_with fail;refine HN4.out.mono ?_;rintro e w4 ⟨rfl,hP⟩;have HN:qB (PX w.heap.size (w.heap.size+2) w W0 w4 ((acc++numB gl.length)++(gl.take (j+1)).flatMap glbB)):=⟨by rw [←HTO.out]; exact HD2.out.next hP⟩;clear hP;go_wp2;go_roundw
     case rel=>exact ⟨j+1,by omega,by go_num,HN⟩
     case measure=>simp [intOf]; omega
    ·obtain rfl:j=gl.length:=by omega
     rw [List.take_length] at HD;have hD:=HD.out;rw [←HTT.out] at hD;obtain ⟨hB,v,hbk,hown,hne⟩:=hD.pk.pw;obtain ⟨a0,l0,c0,rfl⟩:=QS hown;have d0:=qD hbk (i:=0) rfl;have HS:=Lib.hid (qCW wr w.heap.size (.slice a0 l0 c0) T (OwnB.x hown HPB.out.2.2) HPB.out.2.1);have HLW:=qB.mk hD.low;clear hD HD hbk hown hne hB;go_wp2_with fail;refine HS.out.mono ?_;rintro e w5 ⟨rfl,hb5⟩;have HB5:=qB.mk (HLW.out.trans hb5);clear hb5;go_wp2;go_ret;exact ⟨by rw [HPB.out.1]; rfl,HB5.out⟩
end Go.Proofs.YtoonkkipnljflaaGreatDoor.CJ
