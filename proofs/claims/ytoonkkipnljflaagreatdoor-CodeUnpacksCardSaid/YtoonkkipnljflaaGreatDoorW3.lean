/- The text of a code: bounds; where the writer stands. Conditions: the code is small. The Go function code.Text. Conditions: the code lies in memory; numbers are of 64 bits; the listed variables and the powers of ten are laid. -/
import Derived.Test.YtoonkkipnljflaaGreatDoorRG
import Derived.Test.YtoonkkipnljflaaGreatDoorYY
import Derived.Test.YtoonkkipnljflaaGreatDoorB
import Derived.Test.YtoonkkipnljflaaGreatDoorSh
namespace Go.Proofs.YtoonkkipnljflaaGreatDoor.CJ
open Go.RowKit Go.Proofs.YtoonkkipnljflaaGreatDoorW.PrintWords Go.Proofs.YtoonkkipnljflaaGreatDoorW.PrintLast Go.Proofs.YtoonkkipnljflaaGreatDoor.PT Go.Proofs.YtoonkkipnljflaaGreatDoor.IMaps Go.Proofs.YtoonkkipnljflaaGreatDoor.TJ
set_option linter.unusedVariables false
set_option linter.unusedSimpArgs false
def qEC(bs:List GBk)(gl:List GGl):Ending:=if allK bs gl then .returned (.tuple #[.string ⟨(qB1 bs gl).toArray⟩,.int .i64 0]) else .returned (.tuple #[.string ⟨#[]⟩,.int .i64 41])
def opNl(g:GOp):List UInt8:=q8 g++[10]
theorem opNl_eq:opNl=fun g=>q8 g++[10]:=rfl
structure TxO(g:GOp):Prop where
 ol:OLk g
 l6:g.f6.length≤40
structure TxB(b:GBk):Prop where
 n0:Ok64 b.f0
 n1:Ok64 b.f1
 l2:b.f2.length≤60
 ops:∀g∈b.f2,TxO g
structure TxC(bs:List GBk)(gl:List GGl):Prop where
 nb:bs.length≤1500
 ng:gl.length≤400
 blocks:∀b∈bs,TxB b
 globs:∀g∈gl,g.f0.data.toList.length≤60∧Ok64 g.f1
theorem text_ok{bs:List GBk}{gl:List GGl}(h:SmC bs gl)(hw:WfC bs):TxC bs gl:=by
 have hnb:=h.nb;refine ⟨hnb.2,h.ng,fun b hb=>?_,fun g hg=>?_⟩
 ·have h1:=h.blocks b hb;refine ⟨⟨by have:=h1.n0; omega,by have:=h1.n0; omega⟩,⟨by have:=h1.n1; omega,by have:=h1.n1; omega⟩,h1.l2.2,fun g hg=>?_⟩;have h2:=h1.ops g hg;have h3:=hw b hb g hg;refine ⟨⟨⟨⟨by have:=h2.n1; omega,by have:=h2.n1; omega⟩,⟨by have:=h2.n2; omega,by have:=h2.n2; omega⟩,h3.1⟩,?_,⟨by have:=h2.l5.1; omega,fun n hn=>?_⟩,by have:=h2.l6.1; omega,fun a ha=>?_⟩,h2.l6.1⟩
  ·have:=h2.s4;simp only [Array.length_toList] at this;show g.f4.data.size≤_
   omega
  ·have:=h2.l5.2 n hn;exact ⟨by omega,by omega⟩
  ·have h4:=h2.l6.2 a ha;refine ⟨⟨by have:=h4.n0; omega,by have:=h4.n0; omega⟩,?_,h3.2 a ha,⟨by have:=h4.n3; omega,by have:=h4.n3; omega⟩⟩;have:=h4.s1;simp only [Array.length_toList] at this;show a.f1.data.size≤_
   omega
 ·have h1:=h.globs g hg;exact ⟨h1.1,by omega,by omega⟩
theorem qDP{α β:Type}(f:α→List β)(m:Nat)(l:List α)(i:Nat)(h:∀a∈l,(f a).length≤m):((l.take i).flatMap f).length≤i*m:=by
 have h1:=qAh f m (l.take i) (fun a ha=>h a (List.mem_of_mem_take ha));have h2:(l.take i).length*m≤i*m:=Nat.mul_le_mul_right m (List.length_take_le _ _);omega
theorem qIW(a:GAl)(h:Ok64 a.f0∧a.f1.size≤1000000∧Ok64 a.f2∧Ok64 a.f3):(Qz a).length≤4000101:=by
 have:=qEJ a h;unfold Qz;rw [List.length_append,List.length_cons,List.length_nil];omega
theorem qFP{g:GOp}(h:TxO g):(q8 g).length≤180090000:=by
 have h1:=qDE g h.ol;have h2:=qAh Qz 4000101 g.f6 (fun a ha=>qIW a (h.ol.alts.2 a ha));have h3:=h.l6;unfold q8;rw [List.length_append];omega
theorem qHu{g:GOp}(h:TxO g):(opNl g).length≤180100000:=by
 have:=qFP h;unfold opNl;rw [List.length_append,List.length_cons,List.length_nil];omega
theorem qHv{b:GBk}(h:TxB b):(qk b).length≤100:=by
 have a1:=Lib.itoa_length_le b.f0 h.n0.1 h.n0.2;have a2:=Lib.itoa_length_le b.f1 h.n1.1 h.n1.2;have:=qBx [32] (by decide) 21 [[98,108,111,99,107],Lib.itoa b.f0,Lib.itoa b.f1] (fun x hx=>by
  simp only [List.mem_cons,List.not_mem_nil,or_false] at hx;rcases hx with rfl|rfl|rfl
  ·decide
  ·exact a1
  ·exact a2)
 simp only [List.length_cons,List.length_nil] at this;unfold qk;omega
theorem qD3{g:GGl}(h:g.f0.data.toList.length≤60∧Ok64 g.f1):(QV g).length≤190:=by
 have a2:=Lib.itoa_length_le g.f1 h.2.1 h.2.2;have:=qBx [32] (by decide) 60 [[103,108,111,98,97,108],g.f0.data.toList,Lib.itoa g.f1] (fun x hx=>by
  simp only [List.mem_cons,List.not_mem_nil,or_false] at hx;rcases hx with rfl|rfl|rfl
  ·decide
  ·exact h.1
  ·omega)
 simp only [List.length_cons,List.length_nil] at this;unfold QV;omega
theorem qHw{g:GGl}(h:g.f0.data.toList.length≤60∧Ok64 g.f1):(QY g).length≤200:=by
 have:=qD3 h;have e:QY g=QV g++[10]:=rfl;rw [e,List.length_append,List.length_cons,List.length_nil];omega
theorem qDW{b:GBk}(h:TxB b):(QF b).length≤11000000000:=by
 have h1:=qHv h;have h2:=qAh opNl 180100000 b.f2 (fun g hg=>qHu (h.ops g hg));have h3:=h.l2;have e:QF b=(qk b++[10])++b.f2.flatMap opNl:=rfl;rw [e,List.length_append,List.length_append,List.length_cons,List.length_nil];omega
structure TX(w wr:World)(b0:Nat)(cc:Array Value)(acc:List UInt8):Prop where
 bld:Lib.IsBuilder 97 5 w.heap.size b0 (Lib.byteCells acc) wr
 low:Below w.heap.size w wr
 box:wr.heap[w.heap.size]? = some (.cells cc 27 (0,0))
 ne:w.heap.size<b0
theorem TX.lt{w wr:World}{b0:Nat}{cc:Array Value}{acc:List UInt8}(h:TX w wr b0 cc acc):b0<wr.heap.size:=by
 rcases h.bld with h|h
 ·exact h.lt
 ·exact h.lt
theorem TX.below{w wr w2:World}{b0:Nat}{cc:Array Value}{acc:List UInt8}(h:TX w wr b0 cc acc)(hb:Below wr.heap.size wr w2):TX w w2 b0 cc acc:=
 ⟨qEy h.bld hb,qF h.low hb,qK h.box hb,h.ne⟩
theorem TX.write{w wr:World}{b0:Nat}{cc:Array Value}{acc:List UInt8}(h:TX w wr b0 cc acc)(s:List UInt8)(hlen:acc.length+s.length≤140737488355328):
 Calls Tryz.prog 51 #[.pointer (some ⟨b0,0,none⟩),.string ⟨s.toArray⟩] wr fun e w'=>∃n:Int,e=.returned (.tuple #[.int .i64 n,.nilIface])∧TX w w' b0 cc (acc++s)∧Qi b0 wr w':=by
 refine (qED w.heap.size b0 (Lib.byteCells acc) ⟨s.toArray⟩ wr h.bld (by rw [Lib.byteCells_length]; exact hlen) h.low.size).mono ?_;rintro e w2 ⟨rfl,hB,hb,hk⟩;refine ⟨_,rfl,⟨.inr ?_,?_,(hk w.heap.size cc _ _ (by have:=h.ne; omega) h.box (by decide)).trans h.box,h.ne⟩,hk⟩
 ·rw [Lib.byteCells_append]; exact hB
 ·exact h.low.trans hb
set_option maxRecDepth 100000 in
set_option maxHeartbeats 16000000 in
theorem qJx(w:World)(A:Option Addr)(ca:Nat)(A2:Option Addr)(cb:Nat)(bs:List GBk)(gl:List GGl)(hc:CM w A ca A2 cb bs gl)(hL:LW w)(hT:Tens w)(hs:qAq bs gl)(hw:WfC bs):
 Calls Tryz.prog 26 #[qw A bs.length ca A2 gl.length cb] w fun e w'=>e=qEC bs gl∧Below w.heap.size w w':=by
 have hmb:bs.length≤9223372036854775807:=hc.ma.2.1;have hmg:gl.length≤9223372036854775807:=hc.mb.2.1;have hb0:=qC (Below.refl w.heap.size w) (.cells #[.slice A bs.length ca,.slice A2 gl.length cb] 27);have hx0:=qV w (.cells #[.slice A bs.length ca,.slice A2 gl.length cb] 27);have HCK:=Lib.hid (qAP _ A ca A2 cb bs gl (hc.below hb0) (hL.below hb0) hs);have f0:=qD hx0 (i:=0) rfl;have f1:=qD hx0 (i:=1) rfl;have HX0:=Lib.hid hx0;have HB0:=Lib.hid hb0;have HC:=Lib.hid hc;have HL:=Lib.hid hL;have HT:=Lib.hid hT;have hall:=fun (h:allK bs gl=true)=>text_ok (Q4 h) hw
 clear hc hL hT hs hb0 hx0;unfold qw at HCK ⊢;cases hk:allK bs gl
 ·have hr:qEC bs gl=.returned (.tuple #[.string ⟨#[]⟩,.int .i64 41]):=by unfold qEC; rw [hk]; rfl
  rw [hr];clear hr hall;rw [hk] at HCK;go_enter Tryz.func26,Tryz.ntmps26;go_wp2_with fail;refine HCK.out.mono ?_;rintro e w1 ⟨rfl,hb⟩;have HB:=qB.mk (qF HB0.out hb);clear hb HCK;simp only [qBG];go_wp2
  go_ret2
  exact ⟨rfl,HB.out⟩
 ·have hr:qEC bs gl=.returned (.tuple #[.string ⟨(qB1 bs gl).toArray⟩,.int .i64 0]):=by unfold qEC; rw [hk]; rfl
  rw [hr];clear hr;have HO:=Lib.hid (hall hk);clear hall;rw [hk] at HCK;generalize hTX:qB1 bs gl=T at *;have HTT:Hid (T=bs.flatMap QF++gl.flatMap QY):=Lib.hid hTX.symm;clear hTX;go_enter Tryz.func26,Tryz.ntmps26;go_wp2_with fail;refine HCK.out.mono ?_;rintro e w1 ⟨rfl,hb⟩;have HX1:=Lib.hid (qK HX0.out hb);have HB1:=qB.mk (qF HB0.out hb);have hsz:=hb.size;simp only [World.size_alloc] at hsz;clear hb HCK f0 f1;simp only [qBG];have HT0:qB (TX w (w1.alloc (.cells #[.pointer none,.slice none 0 0] 97)) w1.heap.size #[.slice A bs.length ca,.slice A2 gl.length cb] []):=
   ⟨⟨.inl ⟨by omega,.slice none 0 0,qV w1 _,qIb _ _ _ _,by simp [Value.ownBlock]⟩,qC HB1.out _,qK HX1.out (qC (Below.refl _ _) _),by omega⟩⟩
  have f0:(w1.alloc (.cells #[.pointer none,.slice none 0 0] 97)).cell? ⟨w.heap.size,0,none⟩=some (.slice A bs.length ca):=qD HT0.out.box (i:=0) rfl;clear HX0 HX1 HB1 HB0;go_wp2;clear f0;generalize w1.alloc (.cells #[.pointer none,.slice none 0 0] 97)=w2 at *;generalize w1.heap.size=b0 at *;have hcc:Hid ((#[.slice A bs.length ca,.slice A2 gl.length cb]:Array Value)[1]? = some (.slice A2 gl.length cb)):=Lib.hid rfl;generalize hcg:(#[.slice A bs.length ca,.slice A2 gl.length cb]:Array Value)=cc at *;clear hcg
  go_loopw [20] (fun v wr=>∃i:Nat,i≤bs.length∧v=.int .i64 i∧qB (TX w wr b0 cc ((bs.take i).flatMap QF))) (fun v _=>bs.length - (intOf v).toNat)
  case atStart=>exact ⟨0,by omega,rfl,by simpa using HT0⟩
  case round=>
   obtain ⟨i,hi,rfl,HJ⟩:=hrel;clear HT0;by_cases hlt:i<bs.length
   ·obtain ⟨ad,A3,c3,e3,hx0,hx1,hx2,g3,C3⟩:=qAN HC.out.ma (i:Int) (by omega) (by omega);have hrd:qo bs (i:Int)=bs[i]:=by simp [qo,List.getD_eq_getElem?_getD,List.getElem?_eq_getElem hlt]
    have hob:=HO.out.blocks bs[i] (List.getElem_mem hlt);have hta:=Qc QF bs i hlt;have hle:((bs.take i).flatMap QF).length≤i*11000000000:=qDP QF 11000000000 bs i (fun b hb=>qDW (HO.out.blocks b hb));have hnb:=HO.out.nb;rw [hrd] at hx0 hx1 hx2 g3 C3;generalize bs[i]=y at *;obtain ⟨y0,y1,ops⟩:=y;simp only at hx0 hx1 hx2 g3 C3;cases e3;simp only [Int.toNat_natCast] at hx0 hx1 hx2;replace hx0:=qA HJ.out.low hx0;replace hx1:=qA HJ.out.low hx1;replace hx2:=qA HJ.out.low hx2;have hmo:ops.length≤9223372036854775807:=C3.2.1;have HOB:=Lib.hid hob;have HTA:=Lib.hid hta;have HC3:=Lib.hid (And.intro g3 C3);generalize hacc:(bs.take i).flatMap QF=acc at *;have hal:acc.length≤17000000000000:=by omega
    have hhl:(qk ⟨y0,y1,ops⟩).length≤100:=qHv hob;have HL8:Hid (acc.length+(qk ⟨y0,y1,ops⟩++[10]).length≤140737488355328):=Lib.hid (by rw [List.length_append,List.length_cons,List.length_nil]; omega);have HWD:Hid (∀u:World,Calls Tryz.prog 52 #[.slice (some ⟨u.heap.size,0,none⟩) 3 3] (u.alloc (.cells #[.string ⟨#[98,108,111,99,107]⟩,.string ⟨(Lib.itoa y0).toArray⟩,.string ⟨(Lib.itoa y1).toArray⟩] 9)) fun e w'=>e=.returned (.string ⟨(qk ⟨y0,y1,ops⟩).toArray⟩)∧Below u.heap.size u w'):=Lib.hid (fun u=>qCs [[98,108,111,99,107],Lib.itoa y0,Lib.itoa y1] u (show 0<3 by decide) (show 3≤1000 by decide) (by show (qk ⟨y0,y1,ops⟩).length≤_; omega));have eN:((⟨(qk ⟨y0,y1,ops⟩).toArray⟩:ByteArray)++⟨#[10]⟩)=⟨(qk ⟨y0,y1,ops⟩++[10]).toArray⟩:=qAd _ [10];have ng1:(9223372036854775807<(qk ⟨y0,y1,ops⟩).length+1)=False:=eq_false (by omega);have hbz:=qV wr (.cells #[.int .i64 y0,.int .i64 y1,.slice A3 ops.length c3] 55);have x0:=qD hbz (i:=0) rfl;have x1:=qD hbz (i:=1) rfl;have hpb:wr.heap.size≠b0:=by have:=HJ.out.lt; omega
    have HX8:=qB.mk (And.intro (HJ.out.below (qC (Below.refl _ _) (.cells #[.int .i64 y0,.int .i64 y1,.slice A3 ops.length c3] 55))) hbz);clear hob hta hle g3 C3 hbz hrd HJ;go_wp2;generalize wr.alloc (.cells #[.int .i64 y0,.int .i64 y1,.slice A3 ops.length c3] 55)=W8 at *;clear hx0 hx1 hx2;generalize wr.heap.size=p7 at *;refine qU (n:=10) (S:=fun w'=>w'.cell? ⟨p7,0,none⟩=some (.int .i64 y0)∧w'.cell? ⟨p7,1,none⟩=some (.int .i64 y1)∧qB (TX w w' b0 cc acc∧w'.heap[p7]? = some (.cells #[.int .i64 y0,.int .i64 y1,.slice A3 ops.length c3] 55 (0,0)))) (ds:=[9]) (mA 10 0) (by kernel_rfl) rfl rfl ⟨x0,x1,⟨⟨HX8.out.1.below (qE (Below.refl _ _)),qK HX8.out.2 (qE (Below.refl _ _))⟩⟩⟩ (fun hHeld=>?_);refine pa_ 10 1 0 (some 24) (v:=?_) (a':=?_) ?_ ?_ ?_;rotate_left 2
    ·intro w';go_simp
     with_reducible rfl
    ·simp only [pn];rfl
    refine pa_ 10 9 3 (some 27) (v:=?_) (a':=?_) ?_ ?_ ?_;rotate_left 2
    ·intro w';go_simp
     with_reducible rfl
    ·simp only [pn];rfl
    refine tb_ 10 11 1 (some 25) (v:=?_) (a':=?_) hHeld ?_ ?_ ?_;rotate_left 2
    ·rintro w' ⟨s0,s1,s2⟩;go_simp
     with_reducible rfl
    ·simp only [pn];rfl
    refine tb_ 10 27 4 (some 28) (v:=?_) (a':=?_) hHeld ?_ ?_ ?_;rotate_left 2
    ·rintro w' ⟨s0,s1,s2⟩;go_simp
     with_reducible rfl
    ·simp only [pn];rfl
    refine oo_ 10 31 2 (some 26) (fun K hK=>?_);refine qR Tryz.func53 (by kernel_rfl) rfl #[.int .i64 y0] (by rfl) rfl rfl (by simp only [List.map_toArray,List.map_cons,List.map_nil]; rfl) ?_
    with_reducible refine (Qg y0 HOB.out.n0 _ (HT.out.below hHeld.2.2.out.1.low)).mono ?_
    rintro e u0 ⟨rfl,hb0⟩;refine ⟨_,rfl,?_⟩;refine hK.out _ _ ⟨qA hb0 hHeld.1,qA hb0 hHeld.2.1,⟨⟨hHeld.2.2.out.1.below hb0,qK hHeld.2.2.out.2 hb0⟩⟩⟩ (fun hHeld=>?_);clear hK K;refine qM (a':=?_) ?_ ?_;rotate_left
    ·show Act.put _ (some 26) _=_
     simp only [pn];rfl
    refine oo_ 10 63 5 (some 29) (fun K hK=>?_);refine qR Tryz.func53 (by kernel_rfl) rfl #[.int .i64 y1] (by rfl) rfl rfl (by simp only [List.map_toArray,List.map_cons,List.map_nil]; rfl) ?_
    with_reducible refine (Qg y1 HOB.out.n1 _ (HT.out.below hHeld.2.2.out.1.low)).mono ?_
    rintro e u1 ⟨rfl,hb1⟩;refine ⟨_,rfl,?_⟩;refine hK.out _ _ ⟨qA hb1 hHeld.1,qA hb1 hHeld.2.1,⟨⟨hHeld.2.2.out.1.below hb1,qK hHeld.2.2.out.2 hb1⟩⟩⟩ (fun hHeld=>?_);clear hK K;refine qM (a':=?_) ?_ ?_;rotate_left
    ·show Act.put _ (some 29) _=_
     simp only [pn];rfl
    refine oo_ 10 127 6 (some 30) (fun K hK=>?_);have HPre:=hHeld;refine Q1 (w1:=?_) (v:=?_) (by rfl) rfl ?_ ?_;rotate_left 2
    ·go_simp;constructor
     ·rfl
     ·rfl
    refine hK.out _ _ ⟨qA (qC (Below.refl _ _) _) hHeld.1,qA (qC (Below.refl _ _) _) hHeld.2.1,⟨⟨hHeld.2.2.out.1.below (qC (Below.refl _ _) _),qK hHeld.2.2.out.2 (qC (Below.refl _ _) _)⟩⟩⟩ (fun hHeld=>?_);clear hK K;refine qM (a':=?_) ?_ ?_;rotate_left
    ·show Act.put _ (some 30) _=_
     simp only [pn];rfl
    refine oo_ 10 255 7 (some 31) (fun K hK=>?_);refine qR Tryz.func52 (by kernel_rfl) rfl #[.slice (some ⟨u1.heap.size,0,none⟩) 3 3] (by rfl) rfl rfl (by simp only [List.map_toArray,List.map_cons,List.map_nil]; rfl) ?_
    with_reducible refine (HWD.out u1).mono ?_
    rintro e u6 ⟨rfl,hb6⟩;refine ⟨_,rfl,?_⟩;refine hK.out _ _ ⟨qA hb6 HPre.1,qA hb6 HPre.2.1,⟨⟨HPre.2.2.out.1.below hb6,qK HPre.2.2.out.2 hb6⟩⟩⟩ (fun hHeld=>?_);clear hK K;refine qM (a':=?_) ?_ ?_;rotate_left
    ·show Act.put _ (some 31) _=_
     simp only [pn];rfl
    refine pa_ 10 511 8 (some 32) (v:=?_) (a':=?_) ?_ ?_ ?_;rotate_left 2
    ·intro w';go_simp
     with_reducible rfl
    ·simp only [pn];rfl
    refine la_ 10 1023 9 (some 33) rfl rfl (by kernel_rfl) (by decide) (fun K hK=>?_);refine qR Tryz.func51 (by kernel_rfl) rfl #[.pointer (some ⟨b0,0,none⟩),.string ⟨(qk ⟨y0,y1,ops⟩++[10]).toArray⟩] (by rfl) rfl rfl (by simp only [List.map_toArray,List.map_cons,List.map_nil]; rfl) ?_
    with_reducible refine (hHeld.2.2.out.1.write _ HL8.out).mono ?_
    rintro e u7 ⟨n7,rfl,hX7,hK7⟩;have hB7:=(hK7 p7 _ _ _ hpb hHeld.2.2.out.2 (by decide)).trans hHeld.2.2.out.2;refine ⟨_,rfl,?_⟩;refine hK.out _ _ ?_;clear hK K;refine qM (a':=?_) ?_ ?_;rotate_left
    ·show Act.put _ (some 33) _=_
     simp only [pn];rfl
    refine qn (by kernel_rfl) ?_;have HX9:=qB.mk (And.intro hX7 hB7);have k2:=qD HX9.out.2 (i:=2) rfl;clear hHeld HPre HWD x0 x1 HX8 eN ng1 HL8 hB7 hX7 hK7;go_wp2;clear k2;obtain ⟨wo,rfl⟩:∃wo:World,wo=wr:=⟨_,rfl⟩
    go_loopw [37] (fun v wr=>∃j:Nat,j≤ops.length∧v=.int .i64 j∧qB (TX w wr b0 cc (acc++(qk ⟨y0,y1,ops⟩++[10])++(ops.take j).flatMap opNl))) (fun v _=>ops.length - (intOf v).toNat)
    case atStart=>exact ⟨0,by omega,rfl,⟨by simpa using HX9.out.1⟩⟩
    case round=>
     obtain ⟨j,hj,rfl,HD⟩:=hrel;clear HX9;by_cases hlj:j<ops.length
     ·obtain ⟨ad2,A5,c5,A6,c6,e5,hz0,hz1,hz2,hz3,hz4,hz5,hz6,g5,C5,g6,C6⟩:=qA3 HC3.out.2 (j:Int) (by omega) (by omega);have hrd:qj ops (j:Int)=ops[j]:=by simp [qj,List.getD_eq_getElem?_getD,List.getElem?_eq_getElem hlj]
      have hoo:=HOB.out.ops ops[j] (List.getElem_mem hlj);have hto:=Qc opNl ops j hlj;have hle2:((ops.take j).flatMap opNl).length≤j*180100000:=qDP opNl 180100000 ops j (fun g hg=>qHu (HOB.out.ops g hg));have hno:=HOB.out.l2;simp only at hno;rw [hrd] at hz0 hz1 hz2 hz3 hz4 hz5 hz6 g5 C5 g6 C6;generalize ops[j]=g at *;cases e5;simp only [Int.toNat_natCast] at hz0 hz1 hz2 hz3 hz4 hz5 hz6;have hlow:=HD.out.low;replace hz0:=qA hlow hz0;replace hz1:=qA hlow hz1;replace hz2:=qA hlow hz2;replace hz3:=qA hlow hz3;replace hz4:=qA hlow hz4;replace hz5:=qA hlow hz5;replace hz6:=qA hlow hz6;have hol:(q8 g).length≤180090000:=qFP hoo;generalize hac2:acc++(qk ⟨y0,y1,ops⟩++[10])++(ops.take j).flatMap opNl=ac2 at *;have HTO:Hid (ac2++(q8 g++[10])=acc++(qk ⟨y0,y1,ops⟩++[10])++(ops.take (j+1)).flatMap opNl):=Lib.hid (by rw [hto,←hac2]; show _++opNl g=_; rw [List.append_assoc _ _ (opNl g)]);have HLW:Hid (ac2.length+(q8 g++[10]).length≤140737488355328):=Lib.hid (by
       rw [←hac2];simp only [List.length_append,List.length_cons,List.length_nil];omega)
      have hbx:=qC (Below.refl wr.heap.size wr) (.cells #[.int .i64 g.f0,.int .i64 g.f1,.int .i64 g.f2,.int .i64 g.f3,.string g.f4,.slice A5 g.f5.length c5,.slice A6 g.f6.length c6] 59);have HD1:=qB.mk (HD.out.below hbx);have hlo1:=HD1.out.low;have HOL:=Lib.hid (qHg _ g A5 c5 A6 c6 g5 (Kd.C_below C5 hlo1) g6 (Kd.C_below C6 hlo1) hoo.ol (HL.out.below hlo1) (HT.out.below hlo1));have eN:((⟨(q8 g).toArray⟩:ByteArray)++⟨#[10]⟩)=⟨(q8 g++[10]).toArray⟩:=qAd _ [10];have ng1:(9223372036854775807<(q8 g).length+1)=False:=eq_false (by omega);have hm5:g.f5.length≤9223372036854775807:=C5.2.1;have hm6:g.f6.length≤9223372036854775807:=C6.2.1;clear hto hle2 hlow hlo1 hoo hrd g5 C5 g6 C6 hac2 hbx HD;go_wp2_with fail;refine HOL.out.mono ?_;rintro e w3 ⟨rfl,hb3⟩;have HD2:=qB.mk (HD1.out.below hb3);clear hb3 HOL hz0 hz1 hz2 hz3 hz4 hz5 hz6 HD1;go_wp2_with fail;refine (HD2.out.write _ HLW.out).mono ?_;rintro e w4 ⟨n4,rfl,hX4,hK4⟩;have HN:qB (TX w w4 b0 cc (acc++(qk ⟨y0,y1,ops⟩++[10])++(ops.take (j+1)).flatMap opNl)):=⟨by rw [←HTO.out]; exact hX4⟩;clear hX4 hK4 eN ng1;go_wp2;go_roundw
      case rel=>exact ⟨j+1,by omega,by go_num,HN⟩
      case measure=>simp [intOf]; omega
     ·obtain rfl:j=ops.length:=by omega
      have HN:qB (TX w wr b0 cc ((bs.take (i+1)).flatMap QF)):=⟨by have h1:=HD.out; rw [List.take_length] at h1; rw [HTA.out]; simpa [QF,qk,opNl_eq] using h1⟩;clear HD;go_wp2;go_roundw
      case rel=>exact ⟨i+1,by omega,by go_num,HN⟩
      case measure=>simp [intOf]; omega
   ·obtain rfl:i=bs.length:=by omega
    rw [List.take_length] at HJ;have hale:(bs.flatMap QF).length≤bs.length*11000000000:=by have:=qDP QF 11000000000 bs bs.length (fun b hb=>qDW (HO.out.blocks b hb)); rwa [List.take_length] at this
    have hnb:=HO.out.nb;generalize hacc:bs.flatMap QF=acc at *;have hal:acc.length≤17000000000000:=by omega
    have f1:wr.cell? ⟨w.heap.size,1,none⟩=some (.slice A2 gl.length cb):=qD HJ.out.box hcc.out;clear hale;go_wp2;clear f1;obtain ⟨wo,rfl⟩:∃wo:World,wo=wr:=⟨_,rfl⟩
    go_loopw [50] (fun v wr=>∃j:Nat,j≤gl.length∧v=.int .i64 j∧qB (TX w wr b0 cc (acc++(gl.take j).flatMap QY))) (fun v _=>gl.length - (intOf v).toNat)
    case atStart=>exact ⟨0,by omega,rfl,by simpa using HJ⟩
    case round=>
     obtain ⟨j,hj,rfl,HD⟩:=hrel;clear HJ;by_cases hlj:j<gl.length
     ·obtain ⟨ad2,e5,hz0,hz1⟩:=qB6 HC.out.mb (j:Int) (by omega) (by omega);have hrd:Qn gl (j:Int)=gl[j]:=by simp [Qn,List.getD_eq_getElem?_getD,List.getElem?_eq_getElem hlj]
      have hob:=HO.out.globs gl[j] (List.getElem_mem hlj);have hto:=Qc QY gl j hlj;have hle2:((gl.take j).flatMap QY).length≤j*200:=qDP QY 200 gl j (fun g hg=>qHw (HO.out.globs g hg));have hng:=HO.out.ng;rw [hrd] at hz0 hz1;generalize gl[j]=g at *;obtain ⟨g0,g1⟩:=g;simp only at hz0 hz1;cases e5;simp only [Int.toNat_natCast] at hz0 hz1;replace hz0:=qA HD.out.low hz0;replace hz1:=qA HD.out.low hz1;have HOB:=Lib.hid hob;have hgl:(QV ⟨g0,g1⟩).length≤190:=qD3 hob;generalize hac2:acc++(gl.take j).flatMap QY=ac2 at *;have HTO:Hid (ac2++(QV ⟨g0,g1⟩++[10])=acc++(gl.take (j+1)).flatMap QY):=Lib.hid (by rw [hto,←hac2]; show _++QY _=_; rw [List.append_assoc _ _ (QY _)]);have HL8:Hid (ac2.length+(QV ⟨g0,g1⟩++[10]).length≤140737488355328):=Lib.hid (by
       rw [←hac2];simp only [List.length_append,List.length_cons,List.length_nil];omega)
      have HWD:Hid (∀u:World,Calls Tryz.prog 52 #[.slice (some ⟨u.heap.size,0,none⟩) 3 3] (u.alloc (.cells #[.string ⟨#[103,108,111,98,97,108]⟩,.string g0,.string ⟨(Lib.itoa g1).toArray⟩] 9)) fun e w'=>e=.returned (.string ⟨(QV ⟨g0,g1⟩).toArray⟩)∧Below u.heap.size u w'):=Lib.hid (fun u=>qCs [[103,108,111,98,97,108],g0.data.toList,Lib.itoa g1] u (show 0<3 by decide) (show 3≤1000 by decide) (by show (QV ⟨g0,g1⟩).length≤_; omega));have eN:((⟨(QV ⟨g0,g1⟩).toArray⟩:ByteArray)++⟨#[10]⟩)=⟨(QV ⟨g0,g1⟩++[10]).toArray⟩:=qAd _ [10];have ng1:(9223372036854775807<(QV ⟨g0,g1⟩).length+1)=False:=eq_false (by omega);have hbz:=qV wr (.cells #[.string g0,.int .i64 g1] 63);have x0:=qD hbz (i:=0) rfl;have x1:=qD hbz (i:=1) rfl;have hpb:wr.heap.size≠b0:=by have:=HD.out.lt; omega
      have HX8:=qB.mk (And.intro (HD.out.below (qC (Below.refl _ _) (.cells #[.string g0,.int .i64 g1] 63))) hbz);clear hob hto hle2 hbz hrd HD;go_wp2;generalize wr.alloc (.cells #[.string g0,.int .i64 g1] 63)=W8 at *;clear hz0 hz1;generalize wr.heap.size=p7 at *;clear hac2 hacc;obtain ⟨acc0,rfl⟩:∃a,a=acc:=⟨_,rfl⟩;obtain ⟨acc,rfl⟩:∃a,a=ac2:=⟨_,rfl⟩;refine qU (n:=9) (S:=fun w'=>w'.cell? ⟨p7,0,none⟩=some (.string g0)∧w'.cell? ⟨p7,1,none⟩=some (.int .i64 g1)∧qB (TX w w' b0 cc acc∧w'.heap[p7]? = some (.cells #[.string g0,.int .i64 g1] 63 (0,0)))) (ds:=[8]) (mA 9 0) (by kernel_rfl) rfl rfl ⟨x0,x1,⟨⟨HX8.out.1.below (qE (Below.refl _ _)),qK HX8.out.2 (qE (Below.refl _ _))⟩⟩⟩ (fun hHeld=>?_);refine pa_ 9 1 0 (some 54) (v:=?_) (a':=?_) ?_ ?_ ?_;rotate_left 2
      ·intro w';go_simp
       with_reducible rfl
      ·simp only [pn];rfl
      refine pa_ 9 5 2 (some 56) (v:=?_) (a':=?_) ?_ ?_ ?_;rotate_left 2
      ·intro w';go_simp
       with_reducible rfl
      ·simp only [pn];rfl
      refine tb_ 9 7 1 (some 55) (v:=?_) (a':=?_) hHeld ?_ ?_ ?_;rotate_left 2
      ·rintro w' ⟨s0,s1,s2⟩;go_simp
       with_reducible rfl
      ·simp only [pn];rfl
      refine tb_ 9 15 3 (some 57) (v:=?_) (a':=?_) hHeld ?_ ?_ ?_;rotate_left 2
      ·rintro w' ⟨s0,s1,s2⟩;go_simp
       with_reducible rfl
      ·simp only [pn];rfl
      refine oo_ 9 31 4 (some 58) (fun K hK=>?_);refine qR Tryz.func53 (by kernel_rfl) rfl #[.int .i64 g1] (by rfl) rfl rfl (by simp only [List.map_toArray,List.map_cons,List.map_nil]; rfl) ?_
      with_reducible refine (Qg g1 HOB.out.2 _ (HT.out.below hHeld.2.2.out.1.low)).mono ?_
      rintro e u1 ⟨rfl,hb1⟩;refine ⟨_,rfl,?_⟩;refine hK.out _ _ ⟨qA hb1 hHeld.1,qA hb1 hHeld.2.1,⟨⟨hHeld.2.2.out.1.below hb1,qK hHeld.2.2.out.2 hb1⟩⟩⟩ (fun hHeld=>?_);clear hK K;refine qM (a':=?_) ?_ ?_;rotate_left
      ·show Act.put _ (some 58) _=_
       simp only [pn];rfl
      refine oo_ 9 63 5 (some 59) (fun K hK=>?_);have HPre:=hHeld;refine Q1 (w1:=?_) (v:=?_) (by rfl) rfl ?_ ?_;rotate_left 2
      ·go_simp;constructor
       ·rfl
       ·rfl
      refine hK.out _ _ ⟨qA (qC (Below.refl _ _) _) hHeld.1,qA (qC (Below.refl _ _) _) hHeld.2.1,⟨⟨hHeld.2.2.out.1.below (qC (Below.refl _ _) _),qK hHeld.2.2.out.2 (qC (Below.refl _ _) _)⟩⟩⟩ (fun hHeld=>?_);clear hK K;refine qM (a':=?_) ?_ ?_;rotate_left
      ·show Act.put _ (some 59) _=_
       simp only [pn];rfl
      refine oo_ 9 127 6 (some 60) (fun K hK=>?_);refine qR Tryz.func52 (by kernel_rfl) rfl #[.slice (some ⟨u1.heap.size,0,none⟩) 3 3] (by rfl) rfl rfl (by simp only [List.map_toArray,List.map_cons,List.map_nil]; rfl) ?_
      with_reducible refine (HWD.out u1).mono ?_
      rintro e u6 ⟨rfl,hb6⟩;refine ⟨_,rfl,?_⟩;refine hK.out _ _ ⟨qA hb6 HPre.1,qA hb6 HPre.2.1,⟨⟨HPre.2.2.out.1.below hb6,qK HPre.2.2.out.2 hb6⟩⟩⟩ (fun hHeld=>?_);clear hK K;refine qM (a':=?_) ?_ ?_;rotate_left
      ·show Act.put _ (some 60) _=_
       simp only [pn];rfl
      refine pa_ 9 255 7 (some 61) (v:=?_) (a':=?_) ?_ ?_ ?_;rotate_left 2
      ·intro w';go_simp
       with_reducible rfl
      ·simp only [pn];rfl
      refine la_ 9 511 8 (some 62) rfl rfl (by kernel_rfl) (by decide) (fun K hK=>?_);refine qR Tryz.func51 (by kernel_rfl) rfl #[.pointer (some ⟨b0,0,none⟩),.string ⟨(QV ⟨g0,g1⟩++[10]).toArray⟩] (by rfl) rfl rfl (by simp only [List.map_toArray,List.map_cons,List.map_nil]; rfl) ?_
      with_reducible refine (hHeld.2.2.out.1.write _ HL8.out).mono ?_
      rintro e u7 ⟨n7,rfl,hX7,hK7⟩;have hB7:=(hK7 p7 _ _ _ hpb hHeld.2.2.out.2 (by decide)).trans hHeld.2.2.out.2;refine ⟨_,rfl,?_⟩;refine hK.out _ _ ?_;clear hK K;refine qM (a':=?_) ?_ ?_;rotate_left
      ·show Act.put _ (some 62) _=_
       simp only [pn];rfl
      refine qn (by kernel_rfl) ?_;have HX9:=qB.mk (And.intro hX7 hB7);have HN:qB (TX w u7 b0 cc (acc0++(gl.take (j+1)).flatMap QY)):=⟨by rw [←HTO.out]; exact HX9.out.1⟩;clear hHeld HPre HWD x0 x1 HX8 eN ng1 HL8 hB7 hX7 hK7 HX9;go_wp2;go_roundw
      case rel=>exact ⟨j+1,by omega,by go_num,HN⟩
      case measure=>simp [intOf]; omega
     ·obtain rfl:j=gl.length:=by omega
      rw [List.take_length] at HD;have HE:Hid (acc++gl.flatMap QY=T):=Lib.hid (by rw [HTT.out,←hacc]);have HD:=qB.mk (HE.out▸HD.out);have hsz1:=HD.out.low.size;go_wp2_with fail;refine (Tryz.Builder_String_any w.heap.size b0 T wr HD.out.bld HD.out.low.size).mono ?_;rintro e w5 ⟨rfl,hb5⟩;have HB5:=qB.mk (HD.out.low.trans hb5);clear hb5;go_wp2
      go_ret2
      exact ⟨rfl,HB5.out⟩
end Go.Proofs.YtoonkkipnljflaaGreatDoor.CJ
