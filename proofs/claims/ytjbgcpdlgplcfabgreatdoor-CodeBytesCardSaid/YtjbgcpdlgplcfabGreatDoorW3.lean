/- The text of a code: bounds; where the writer stands. Conditions: the code is small. The Go function code.Text. Conditions: the code lies in memory; numbers are of 64 bits; the listed variables and the powers of ten are laid. -/
import Derived.Test.YtjbgcpdlgplcfabGreatDoorRG
import Derived.Test.YtjbgcpdlgplcfabGreatDoorYY
import Derived.Test.YtjbgcpdlgplcfabGreatDoorB
import Derived.Test.YtjbgcpdlgplcfabGreatDoorSh
namespace Go.Proofs.YtjbgcpdlgplcfabGreatDoor.CJ
open Go.RowKit Go.Proofs.YtjbgcpdlgplcfabGreatDoorW.PrintWords Go.Proofs.YtjbgcpdlgplcfabGreatDoorW.PrintLast Go.Proofs.YtjbgcpdlgplcfabGreatDoor.PT Go.Proofs.YtjbgcpdlgplcfabGreatDoor.IMaps Go.Proofs.YtjbgcpdlgplcfabGreatDoor.TJ
set_option linter.unusedVariables false
set_option linter.unusedSimpArgs false
def textR(bs:List GBk)(gl:List GGl):Ending:=if allK bs gl then .returned (.tuple #[.string ⟨(textB bs gl).toArray⟩,.int .i64 0]) else .returned (.tuple #[.string ⟨#[]⟩,.int .i64 41])
def opNl(g:GOp):List UInt8:=opLineB g++[10]
theorem opNl_eq:opNl=fun g=>opLineB g++[10]:=rfl
structure TxO(g:GOp):Prop where
 ol:OLk g
 l6:g.f6.length≤40
structure TxB(b:GBk):Prop where
 n0:Ok64 b.f0
 n1:Ok64 b.f1
 l2:b.f2.length≤60
 ops:∀g∈b.f2,TxO g
structure TxC(bs:List GBk)(gl:List GGl):Prop where
 nb:bs.length≤1500
 ng:gl.length≤400
 blocks:∀b∈bs,TxB b
 globs:∀g∈gl,g.f0.data.toList.length≤60∧Ok64 g.f1
theorem text_ok{bs:List GBk}{gl:List GGl}(h:SmC bs gl)(hw:WfC bs):TxC bs gl:=by
 have hnb:=h.nb;refine ⟨hnb.2,h.ng,fun b hb=>?_,fun g hg=>?_⟩
 ·have h1:=h.blocks b hb;refine ⟨⟨by have:=h1.n0; omega,by have:=h1.n0; omega⟩,⟨by have:=h1.n1; omega,by have:=h1.n1; omega⟩,h1.l2.2,fun g hg=>?_⟩;have h2:=h1.ops g hg;have h3:=hw b hb g hg;refine ⟨⟨⟨⟨by have:=h2.n1; omega,by have:=h2.n1; omega⟩,⟨by have:=h2.n2; omega,by have:=h2.n2; omega⟩,h3.1⟩,?_,⟨by have:=h2.l5.1; omega,fun n hn=>?_⟩,by have:=h2.l6.1; omega,fun a ha=>?_⟩,h2.l6.1⟩
  ·have:=h2.s4;simp only [Array.length_toList] at this;show g.f4.data.size≤_
   omega
  ·have:=h2.l5.2 n hn;exact ⟨by omega,by omega⟩
  ·have h4:=h2.l6.2 a ha;refine ⟨⟨by have:=h4.n0; omega,by have:=h4.n0; omega⟩,?_,h3.2 a ha,⟨by have:=h4.n3; omega,by have:=h4.n3; omega⟩⟩;have:=h4.s1;simp only [Array.length_toList] at this;show a.f1.data.size≤_
   omega
 ·have h1:=h.globs g hg;exact ⟨h1.1,by omega,by omega⟩
theorem take_len{α β:Type}(f:α→List β)(m:Nat)(l:List α)(i:Nat)(h:∀a∈l,(f a).length≤m):((l.take i).flatMap f).length≤i*m:=by
 have h1:=flat_len f m (l.take i) (fun a ha=>h a (List.mem_of_mem_take ha));have h2:(l.take i).length*m≤i*m:=Nat.mul_le_mul_right m (List.length_take_le _ _);omega
theorem altLine_len(a:GAl)(h:Ok64 a.f0∧a.f1.size≤1000000∧Ok64 a.f2∧Ok64 a.f3):(altLineB a).length≤4000101:=by
 have:=altJoin_len a h;unfold altLineB;rw [List.length_append,List.length_cons,List.length_nil];omega
theorem opLine_len{g:GOp}(h:TxO g):(opLineB g).length≤180090000:=by
 have h1:=opHead_len g h.ol;have h2:=flat_len altLineB 4000101 g.f6 (fun a ha=>altLine_len a (h.ol.alts.2 a ha));have h3:=h.l6;unfold opLineB;rw [List.length_append];omega
theorem opNl_len{g:GOp}(h:TxO g):(opNl g).length≤180100000:=by
 have:=opLine_len h;unfold opNl;rw [List.length_append,List.length_cons,List.length_nil];omega
theorem head_len{b:GBk}(h:TxB b):(blockHead b).length≤100:=by
 have a1:=Lib.itoa_length_le b.f0 h.n0.1 h.n0.2;have a2:=Lib.itoa_length_le b.f1 h.n1.1 h.n1.2;have:=join_le [32] (by decide) 21 [[98,108,111,99,107],Lib.itoa b.f0,Lib.itoa b.f1] (fun x hx=>by
  simp only [List.mem_cons,List.not_mem_nil,or_false] at hx;rcases hx with rfl|rfl|rfl
  ·decide
  ·exact a1
  ·exact a2)
 simp only [List.length_cons,List.length_nil] at this;unfold blockHead;omega
theorem globLine_len{g:GGl}(h:g.f0.data.toList.length≤60∧Ok64 g.f1):(globLine g).length≤190:=by
 have a2:=Lib.itoa_length_le g.f1 h.2.1 h.2.2;have:=join_le [32] (by decide) 60 [[103,108,111,98,97,108],g.f0.data.toList,Lib.itoa g.f1] (fun x hx=>by
  simp only [List.mem_cons,List.not_mem_nil,or_false] at hx;rcases hx with rfl|rfl|rfl
  ·decide
  ·exact h.1
  ·omega)
 simp only [List.length_cons,List.length_nil] at this;unfold globLine;omega
theorem globText_len{g:GGl}(h:g.f0.data.toList.length≤60∧Ok64 g.f1):(globTextB g).length≤200:=by
 have:=globLine_len h;have e:globTextB g=globLine g++[10]:=rfl;rw [e,List.length_append,List.length_cons,List.length_nil];omega
theorem blockText_len{b:GBk}(h:TxB b):(blockTextB b).length≤11000000000:=by
 have h1:=head_len h;have h2:=flat_len opNl 180100000 b.f2 (fun g hg=>opNl_len (h.ops g hg));have h3:=h.l2;have e:blockTextB b=(blockHead b++[10])++b.f2.flatMap opNl:=rfl;rw [e,List.length_append,List.length_append,List.length_cons,List.length_nil];omega
structure TX(w wr:World)(b0:Nat)(cc:Array Value)(acc:List UInt8):Prop where
 bld:Lib.IsBuilder 75 5 w.heap.size b0 (Lib.byteCells acc) wr
 low:Below w.heap.size w wr
 box:wr.heap[w.heap.size]? = some (.cells cc 25 (0,0))
 ne:w.heap.size<b0
theorem TX.lt{w wr:World}{b0:Nat}{cc:Array Value}{acc:List UInt8}(h:TX w wr b0 cc acc):b0<wr.heap.size:=by
 rcases h.bld with h|h
 ·exact h.lt
 ·exact h.lt
theorem TX.below{w wr w2:World}{b0:Nat}{cc:Array Value}{acc:List UInt8}(h:TX w wr b0 cc acc)(hb:Below wr.heap.size wr w2):TX w w2 b0 cc acc:=
 ⟨isBuilder_below h.bld hb,below_step h.low hb,blk_below h.box hb,h.ne⟩
theorem TX.write{w wr:World}{b0:Nat}{cc:Array Value}{acc:List UInt8}(h:TX w wr b0 cc acc)(s:List UInt8)(hlen:acc.length+s.length≤140737488355328):
 Calls Tryz.prog 33 #[.pointer (some ⟨b0,0,none⟩),.string ⟨s.toArray⟩] wr fun e w'=>∃n:Int,e=.returned (.tuple #[.int .i64 n,.nilIface])∧TX w w' b0 cc (acc++s)∧KeepB b0 wr w':=by
 refine (writeString_calls w.heap.size b0 (Lib.byteCells acc) ⟨s.toArray⟩ wr h.bld (by rw [Lib.byteCells_length]; exact hlen) h.low.size).mono ?_;rintro e w2 ⟨rfl,hB,hb,hk⟩;refine ⟨_,rfl,⟨.inr ?_,?_,(hk w.heap.size cc _ _ (by have:=h.ne; omega) h.box (by decide)).trans h.box,h.ne⟩,hk⟩
 ·rw [Lib.byteCells_append]; exact hB
 ·exact h.low.trans hb
set_option maxRecDepth 100000 in
set_option maxHeartbeats 16000000 in
theorem text_calls(w:World)(A:Option Addr)(ca:Nat)(A2:Option Addr)(cb:Nat)(bs:List GBk)(gl:List GGl)(hc:CM w A ca A2 cb bs gl)(hL:LW w)(hT:Tens w)(hs:SizedC bs gl)(hw:WfC bs):
 Calls Tryz.prog 12 #[codeV A bs.length ca A2 gl.length cb] w fun e w'=>e=textR bs gl∧Below w.heap.size w w':=by
 have hmb:bs.length≤9223372036854775807:=hc.ma.2.1;have hmg:gl.length≤9223372036854775807:=hc.mb.2.1;have hb0:=below_alloc (Below.refl w.heap.size w) (.cells #[.slice A bs.length ca,.slice A2 gl.length cb] 25);have hx0:=blk_new w (.cells #[.slice A bs.length ca,.slice A2 gl.length cb] 25);have HCK:=Lib.hid (codeCheck_calls _ A ca A2 cb bs gl (hc.below hb0) (hL.below hb0) hs);have f0:=cellH hx0 (i:=0) rfl;have f1:=cellH hx0 (i:=1) rfl;have HX0:=Lib.hid hx0;have HB0:=Lib.hid hb0;have HC:=Lib.hid hc;have HL:=Lib.hid hL;have HT:=Lib.hid hT;have hall:=fun (h:allK bs gl=true)=>text_ok (allK_small h) hw
 clear hc hL hT hs hb0 hx0;unfold codeV at HCK ⊢;cases hk:allK bs gl
 ·have hr:textR bs gl=.returned (.tuple #[.string ⟨#[]⟩,.int .i64 41]):=by unfold textR; rw [hk]; rfl
  rw [hr];clear hr hall;rw [hk] at HCK;go_enter Tryz.func12,Tryz.ntmps12;go_wp2_with fail;refine HCK.out.mono ?_;rintro e w1 ⟨rfl,hb⟩;have HB:=Aside0.mk (below_step HB0.out hb);clear hb HCK;simp only [errOf];go_wp2
  go_ret2
  exact ⟨rfl,HB.out⟩
 ·have hr:textR bs gl=.returned (.tuple #[.string ⟨(textB bs gl).toArray⟩,.int .i64 0]):=by unfold textR; rw [hk]; rfl
  rw [hr];clear hr;have HO:=Lib.hid (hall hk);clear hall;rw [hk] at HCK;generalize hTX:textB bs gl=T at *;have HTT:Hid (T=bs.flatMap blockTextB++gl.flatMap globTextB):=Lib.hid hTX.symm;clear hTX;go_enter Tryz.func12,Tryz.ntmps12;go_wp2_with fail;refine HCK.out.mono ?_;rintro e w1 ⟨rfl,hb⟩;have HX1:=Lib.hid (blk_below HX0.out hb);have HB1:=Aside0.mk (below_step HB0.out hb);have hsz:=hb.size;simp only [World.size_alloc] at hsz;clear hb HCK f0 f1;simp only [errOf];have HT0:Aside0 (TX w (w1.alloc (.cells #[.pointer none,.slice none 0 0] 75)) w1.heap.size #[.slice A bs.length ca,.slice A2 gl.length cb] []):=
   ⟨⟨.inl ⟨by omega,.slice none 0 0,blk_new w1 _,own_nil _ _ _ _,by simp [Value.ownBlock]⟩,below_alloc HB1.out _,blk_below HX1.out (below_alloc (Below.refl _ _) _),by omega⟩⟩
  have f0:(w1.alloc (.cells #[.pointer none,.slice none 0 0] 75)).cell? ⟨w.heap.size,0,none⟩=some (.slice A bs.length ca):=cellH HT0.out.box (i:=0) rfl;clear HX0 HX1 HB1 HB0;go_wp2;clear f0;generalize w1.alloc (.cells #[.pointer none,.slice none 0 0] 75)=w2 at *;generalize w1.heap.size=b0 at *;have hcc:Hid ((#[.slice A bs.length ca,.slice A2 gl.length cb]:Array Value)[1]? = some (.slice A2 gl.length cb)):=Lib.hid rfl;generalize hcg:(#[.slice A bs.length ca,.slice A2 gl.length cb]:Array Value)=cc at *;clear hcg
  go_loopw [20] (fun v wr=>∃i:Nat,i≤bs.length∧v=.int .i64 i∧Aside0 (TX w wr b0 cc ((bs.take i).flatMap blockTextB))) (fun v _=>bs.length - (intOf v).toNat)
  case atStart=>exact ⟨0,by omega,rfl,by simpa using HT0⟩
  case round=>
   obtain ⟨i,hi,rfl,HJ⟩:=hrel;clear HT0;by_cases hlt:i<bs.length
   ·obtain ⟨ad,A3,c3,e3,hx0,hx1,hx2,g3,C3⟩:=at_T50 HC.out.ma (i:Int) (by omega) (by omega);have hrd:rd_T50 bs (i:Int)=bs[i]:=by simp [rd_T50,List.getD_eq_getElem?_getD,List.getElem?_eq_getElem hlt]
    have hob:=HO.out.blocks bs[i] (List.getElem_mem hlt);have hta:=take_flat blockTextB bs i hlt;have hle:((bs.take i).flatMap blockTextB).length≤i*11000000000:=take_len blockTextB 11000000000 bs i (fun b hb=>blockText_len (HO.out.blocks b hb));have hnb:=HO.out.nb;rw [hrd] at hx0 hx1 hx2 g3 C3;generalize bs[i]=y at *;obtain ⟨y0,y1,ops⟩:=y;simp only at hx0 hx1 hx2 g3 C3;cases e3;simp only [Int.toNat_natCast] at hx0 hx1 hx2;replace hx0:=pw_cell_below HJ.out.low hx0;replace hx1:=pw_cell_below HJ.out.low hx1;replace hx2:=pw_cell_below HJ.out.low hx2;have hmo:ops.length≤9223372036854775807:=C3.2.1;have HOB:=Lib.hid hob;have HTA:=Lib.hid hta;have HC3:=Lib.hid (And.intro g3 C3);generalize hacc:(bs.take i).flatMap blockTextB=acc at *;have hal:acc.length≤17000000000000:=by omega
    have hhl:(blockHead ⟨y0,y1,ops⟩).length≤100:=head_len hob;have HL8:Hid (acc.length+(blockHead ⟨y0,y1,ops⟩++[10]).length≤140737488355328):=Lib.hid (by rw [List.length_append,List.length_cons,List.length_nil]; omega);have HWD:Hid (∀u:World,Calls Tryz.prog 34 #[.slice (some ⟨u.heap.size,0,none⟩) 3 3] (u.alloc (.cells #[.string ⟨#[98,108,111,99,107]⟩,.string ⟨(Lib.itoa y0).toArray⟩,.string ⟨(Lib.itoa y1).toArray⟩] 9)) fun e w'=>e=.returned (.string ⟨(blockHead ⟨y0,y1,ops⟩).toArray⟩)∧Below u.heap.size u w'):=Lib.hid (fun u=>words_fresh [[98,108,111,99,107],Lib.itoa y0,Lib.itoa y1] u (show 0<3 by decide) (show 3≤1000 by decide) (by show (blockHead ⟨y0,y1,ops⟩).length≤_; omega));have eN:((⟨(blockHead ⟨y0,y1,ops⟩).toArray⟩:ByteArray)++⟨#[10]⟩)=⟨(blockHead ⟨y0,y1,ops⟩++[10]).toArray⟩:=cat_bytes _ [10];have ng1:(9223372036854775807<(blockHead ⟨y0,y1,ops⟩).length+1)=False:=eq_false (by omega);have hbz:=blk_new wr (.cells #[.int .i64 y0,.int .i64 y1,.slice A3 ops.length c3] 50);have x0:=cellH hbz (i:=0) rfl;have x1:=cellH hbz (i:=1) rfl;have hpb:wr.heap.size≠b0:=by have:=HJ.out.lt; omega
    have HX8:=Aside0.mk (And.intro (HJ.out.below (below_alloc (Below.refl _ _) (.cells #[.int .i64 y0,.int .i64 y1,.slice A3 ops.length c3] 50))) hbz);clear hob hta hle g3 C3 hbz hrd HJ;go_wp2;generalize wr.alloc (.cells #[.int .i64 y0,.int .i64 y1,.slice A3 ops.length c3] 50)=W8 at *;clear hx0 hx1 hx2;generalize wr.heap.size=p7 at *;refine start_ (n:=10) (S:=fun w'=>w'.cell? ⟨p7,0,none⟩=some (.int .i64 y0)∧w'.cell? ⟨p7,1,none⟩=some (.int .i64 y1)∧Aside0 (TX w w' b0 cc acc∧w'.heap[p7]? = some (.cells #[.int .i64 y0,.int .i64 y1,.slice A3 ops.length c3] 50 (0,0)))) (ds:=[9]) (mA 10 0) (by kernel_rfl) rfl rfl ⟨x0,x1,⟨⟨HX8.out.1.below (below_drew (Below.refl _ _)),blk_below HX8.out.2 (below_drew (Below.refl _ _))⟩⟩⟩ (fun hHeld=>?_);refine pa_ 10 1 0 (some 24) (v:=?_) (a':=?_) ?_ ?_ ?_;rotate_left 2
    ·intro w';go_simp
     with_reducible rfl
    ·simp only [pn];rfl
    refine pa_ 10 9 3 (some 27) (v:=?_) (a':=?_) ?_ ?_ ?_;rotate_left 2
    ·intro w';go_simp
     with_reducible rfl
    ·simp only [pn];rfl
    refine tb_ 10 11 1 (some 25) (v:=?_) (a':=?_) hHeld ?_ ?_ ?_;rotate_left 2
    ·rintro w' ⟨s0,s1,s2⟩;go_simp
     with_reducible rfl
    ·simp only [pn];rfl
    refine tb_ 10 27 4 (some 28) (v:=?_) (a':=?_) hHeld ?_ ?_ ?_;rotate_left 2
    ·rintro w' ⟨s0,s1,s2⟩;go_simp
     with_reducible rfl
    ·simp only [pn];rfl
    refine oo_ 10 31 2 (some 26) (fun K hK=>?_);refine goes_ Tryz.func35 (by kernel_rfl) rfl #[.int .i64 y0] (by rfl) rfl rfl (by simp only [List.map_toArray,List.map_cons,List.map_nil]; rfl) ?_
    with_reducible refine (itoa_calls y0 HOB.out.n0 _ (HT.out.below hHeld.2.2.out.1.low)).mono ?_
    rintro e u0 ⟨rfl,hb0⟩;refine ⟨_,rfl,?_⟩;refine hK.out _ _ ⟨pw_cell_below hb0 hHeld.1,pw_cell_below hb0 hHeld.2.1,⟨⟨hHeld.2.2.out.1.below hb0,blk_below hHeld.2.2.out.2 hb0⟩⟩⟩ (fun hHeld=>?_);clear hK K;refine norm_ (a':=?_) ?_ ?_;rotate_left
    ·show Act.put _ (some 26) _=_
     simp only [pn];rfl
    refine oo_ 10 63 5 (some 29) (fun K hK=>?_);refine goes_ Tryz.func35 (by kernel_rfl) rfl #[.int .i64 y1] (by rfl) rfl rfl (by simp only [List.map_toArray,List.map_cons,List.map_nil]; rfl) ?_
    with_reducible refine (itoa_calls y1 HOB.out.n1 _ (HT.out.below hHeld.2.2.out.1.low)).mono ?_
    rintro e u1 ⟨rfl,hb1⟩;refine ⟨_,rfl,?_⟩;refine hK.out _ _ ⟨pw_cell_below hb1 hHeld.1,pw_cell_below hb1 hHeld.2.1,⟨⟨hHeld.2.2.out.1.below hb1,blk_below hHeld.2.2.out.2 hb1⟩⟩⟩ (fun hHeld=>?_);clear hK K;refine norm_ (a':=?_) ?_ ?_;rotate_left
    ·show Act.put _ (some 29) _=_
     simp only [pn];rfl
    refine oo_ 10 127 6 (some 30) (fun K hK=>?_);have HPre:=hHeld;refine value_ (w1:=?_) (v:=?_) (by rfl) rfl ?_ ?_;rotate_left 2
    ·go_simp;constructor
     ·rfl
     ·rfl
    refine hK.out _ _ ⟨pw_cell_below (below_alloc (Below.refl _ _) _) hHeld.1,pw_cell_below (below_alloc (Below.refl _ _) _) hHeld.2.1,⟨⟨hHeld.2.2.out.1.below (below_alloc (Below.refl _ _) _),blk_below hHeld.2.2.out.2 (below_alloc (Below.refl _ _) _)⟩⟩⟩ (fun hHeld=>?_);clear hK K;refine norm_ (a':=?_) ?_ ?_;rotate_left
    ·show Act.put _ (some 30) _=_
     simp only [pn];rfl
    refine oo_ 10 255 7 (some 31) (fun K hK=>?_);refine goes_ Tryz.func34 (by kernel_rfl) rfl #[.slice (some ⟨u1.heap.size,0,none⟩) 3 3] (by rfl) rfl rfl (by simp only [List.map_toArray,List.map_cons,List.map_nil]; rfl) ?_
    with_reducible refine (HWD.out u1).mono ?_
    rintro e u6 ⟨rfl,hb6⟩;refine ⟨_,rfl,?_⟩;refine hK.out _ _ ⟨pw_cell_below hb6 HPre.1,pw_cell_below hb6 HPre.2.1,⟨⟨HPre.2.2.out.1.below hb6,blk_below HPre.2.2.out.2 hb6⟩⟩⟩ (fun hHeld=>?_);clear hK K;refine norm_ (a':=?_) ?_ ?_;rotate_left
    ·show Act.put _ (some 31) _=_
     simp only [pn];rfl
    refine pa_ 10 511 8 (some 32) (v:=?_) (a':=?_) ?_ ?_ ?_;rotate_left 2
    ·intro w';go_simp
     with_reducible rfl
    ·simp only [pn];rfl
    refine la_ 10 1023 9 (some 33) rfl rfl (by kernel_rfl) (by decide) (fun K hK=>?_);refine goes_ Tryz.func33 (by kernel_rfl) rfl #[.pointer (some ⟨b0,0,none⟩),.string ⟨(blockHead ⟨y0,y1,ops⟩++[10]).toArray⟩] (by rfl) rfl rfl (by simp only [List.map_toArray,List.map_cons,List.map_nil]; rfl) ?_
    with_reducible refine (hHeld.2.2.out.1.write _ HL8.out).mono ?_
    rintro e u7 ⟨n7,rfl,hX7,hK7⟩;have hB7:=(hK7 p7 _ _ _ hpb hHeld.2.2.out.2 (by decide)).trans hHeld.2.2.out.2;refine ⟨_,rfl,?_⟩;refine hK.out _ _ ?_;clear hK K;refine norm_ (a':=?_) ?_ ?_;rotate_left
    ·show Act.put _ (some 33) _=_
     simp only [pn];rfl
    refine done_ (by kernel_rfl) ?_;have HX9:=Aside0.mk (And.intro hX7 hB7);have k2:=cellH HX9.out.2 (i:=2) rfl;clear hHeld HPre HWD x0 x1 HX8 eN ng1 HL8 hB7 hX7 hK7;go_wp2;clear k2;obtain ⟨wo,rfl⟩:∃wo:World,wo=wr:=⟨_,rfl⟩
    go_loopw [37] (fun v wr=>∃j:Nat,j≤ops.length∧v=.int .i64 j∧Aside0 (TX w wr b0 cc (acc++(blockHead ⟨y0,y1,ops⟩++[10])++(ops.take j).flatMap opNl))) (fun v _=>ops.length - (intOf v).toNat)
    case atStart=>exact ⟨0,by omega,rfl,⟨by simpa using HX9.out.1⟩⟩
    case round=>
     obtain ⟨j,hj,rfl,HD⟩:=hrel;clear HX9;by_cases hlj:j<ops.length
     ·obtain ⟨ad2,A5,c5,A6,c6,e5,hz0,hz1,hz2,hz3,hz4,hz5,hz6,g5,C5,g6,C6⟩:=at_T61 HC3.out.2 (j:Int) (by omega) (by omega);have hrd:rd_T61 ops (j:Int)=ops[j]:=by simp [rd_T61,List.getD_eq_getElem?_getD,List.getElem?_eq_getElem hlj]
      have hoo:=HOB.out.ops ops[j] (List.getElem_mem hlj);have hto:=take_flat opNl ops j hlj;have hle2:((ops.take j).flatMap opNl).length≤j*180100000:=take_len opNl 180100000 ops j (fun g hg=>opNl_len (HOB.out.ops g hg));have hno:=HOB.out.l2;simp only at hno;rw [hrd] at hz0 hz1 hz2 hz3 hz4 hz5 hz6 g5 C5 g6 C6;generalize ops[j]=g at *;cases e5;simp only [Int.toNat_natCast] at hz0 hz1 hz2 hz3 hz4 hz5 hz6;have hlow:=HD.out.low;replace hz0:=pw_cell_below hlow hz0;replace hz1:=pw_cell_below hlow hz1;replace hz2:=pw_cell_below hlow hz2;replace hz3:=pw_cell_below hlow hz3;replace hz4:=pw_cell_below hlow hz4;replace hz5:=pw_cell_below hlow hz5;replace hz6:=pw_cell_below hlow hz6;have hol:(opLineB g).length≤180090000:=opLine_len hoo;generalize hac2:acc++(blockHead ⟨y0,y1,ops⟩++[10])++(ops.take j).flatMap opNl=ac2 at *;have HTO:Hid (ac2++(opLineB g++[10])=acc++(blockHead ⟨y0,y1,ops⟩++[10])++(ops.take (j+1)).flatMap opNl):=Lib.hid (by rw [hto,←hac2]; show _++opNl g=_; rw [List.append_assoc _ _ (opNl g)]);have HLW:Hid (ac2.length+(opLineB g++[10]).length≤140737488355328):=Lib.hid (by
       rw [←hac2];simp only [List.length_append,List.length_cons,List.length_nil];omega)
      have hbx:=below_alloc (Below.refl wr.heap.size wr) (.cells #[.int .i64 g.f0,.int .i64 g.f1,.int .i64 g.f2,.int .i64 g.f3,.string g.f4,.slice A5 g.f5.length c5,.slice A6 g.f6.length c6] 61);have HD1:=Aside0.mk (HD.out.below hbx);have hlo1:=HD1.out.low;have HOL:=Lib.hid (opline_calls _ g A5 c5 A6 c6 g5 (Kd.C_below C5 hlo1) g6 (Kd.C_below C6 hlo1) hoo.ol (HL.out.below hlo1) (HT.out.below hlo1));have eN:((⟨(opLineB g).toArray⟩:ByteArray)++⟨#[10]⟩)=⟨(opLineB g++[10]).toArray⟩:=cat_bytes _ [10];have ng1:(9223372036854775807<(opLineB g).length+1)=False:=eq_false (by omega);have hm5:g.f5.length≤9223372036854775807:=C5.2.1;have hm6:g.f6.length≤9223372036854775807:=C6.2.1;clear hto hle2 hlow hlo1 hoo hrd g5 C5 g6 C6 hac2 hbx HD;go_wp2_with fail;refine HOL.out.mono ?_;rintro e w3 ⟨rfl,hb3⟩;have HD2:=Aside0.mk (HD1.out.below hb3);clear hb3 HOL hz0 hz1 hz2 hz3 hz4 hz5 hz6 HD1;go_wp2_with fail;refine (HD2.out.write _ HLW.out).mono ?_;rintro e w4 ⟨n4,rfl,hX4,hK4⟩;have HN:Aside0 (TX w w4 b0 cc (acc++(blockHead ⟨y0,y1,ops⟩++[10])++(ops.take (j+1)).flatMap opNl)):=⟨by rw [←HTO.out]; exact hX4⟩;clear hX4 hK4 eN ng1;go_wp2;go_roundw
      case rel=>exact ⟨j+1,by omega,by go_num,HN⟩
      case measure=>simp [intOf]; omega
     ·obtain rfl:j=ops.length:=by omega
      have HN:Aside0 (TX w wr b0 cc ((bs.take (i+1)).flatMap blockTextB)):=⟨by have h1:=HD.out; rw [List.take_length] at h1; rw [HTA.out]; simpa [blockTextB,blockHead,opNl_eq] using h1⟩;clear HD;go_wp2;go_roundw
      case rel=>exact ⟨i+1,by omega,by go_num,HN⟩
      case measure=>simp [intOf]; omega
   ·obtain rfl:i=bs.length:=by omega
    rw [List.take_length] at HJ;have hale:(bs.flatMap blockTextB).length≤bs.length*11000000000:=by have:=take_len blockTextB 11000000000 bs bs.length (fun b hb=>blockText_len (HO.out.blocks b hb)); rwa [List.take_length] at this
    have hnb:=HO.out.nb;generalize hacc:bs.flatMap blockTextB=acc at *;have hal:acc.length≤17000000000000:=by omega
    have f1:wr.cell? ⟨w.heap.size,1,none⟩=some (.slice A2 gl.length cb):=cellH HJ.out.box hcc.out;clear hale;go_wp2;clear f1;obtain ⟨wo,rfl⟩:∃wo:World,wo=wr:=⟨_,rfl⟩
    go_loopw [50] (fun v wr=>∃j:Nat,j≤gl.length∧v=.int .i64 j∧Aside0 (TX w wr b0 cc (acc++(gl.take j).flatMap globTextB))) (fun v _=>gl.length - (intOf v).toNat)
    case atStart=>exact ⟨0,by omega,rfl,by simpa using HJ⟩
    case round=>
     obtain ⟨j,hj,rfl,HD⟩:=hrel;clear HJ;by_cases hlj:j<gl.length
     ·obtain ⟨ad2,e5,hz0,hz1⟩:=at_T53 HC.out.mb (j:Int) (by omega) (by omega);have hrd:rd_T53 gl (j:Int)=gl[j]:=by simp [rd_T53,List.getD_eq_getElem?_getD,List.getElem?_eq_getElem hlj]
      have hob:=HO.out.globs gl[j] (List.getElem_mem hlj);have hto:=take_flat globTextB gl j hlj;have hle2:((gl.take j).flatMap globTextB).length≤j*200:=take_len globTextB 200 gl j (fun g hg=>globText_len (HO.out.globs g hg));have hng:=HO.out.ng;rw [hrd] at hz0 hz1;generalize gl[j]=g at *;obtain ⟨g0,g1⟩:=g;simp only at hz0 hz1;cases e5;simp only [Int.toNat_natCast] at hz0 hz1;replace hz0:=pw_cell_below HD.out.low hz0;replace hz1:=pw_cell_below HD.out.low hz1;have HOB:=Lib.hid hob;have hgl:(globLine ⟨g0,g1⟩).length≤190:=globLine_len hob;generalize hac2:acc++(gl.take j).flatMap globTextB=ac2 at *;have HTO:Hid (ac2++(globLine ⟨g0,g1⟩++[10])=acc++(gl.take (j+1)).flatMap globTextB):=Lib.hid (by rw [hto,←hac2]; show _++globTextB _=_; rw [List.append_assoc _ _ (globTextB _)]);have HL8:Hid (ac2.length+(globLine ⟨g0,g1⟩++[10]).length≤140737488355328):=Lib.hid (by
       rw [←hac2];simp only [List.length_append,List.length_cons,List.length_nil];omega)
      have HWD:Hid (∀u:World,Calls Tryz.prog 34 #[.slice (some ⟨u.heap.size,0,none⟩) 3 3] (u.alloc (.cells #[.string ⟨#[103,108,111,98,97,108]⟩,.string g0,.string ⟨(Lib.itoa g1).toArray⟩] 9)) fun e w'=>e=.returned (.string ⟨(globLine ⟨g0,g1⟩).toArray⟩)∧Below u.heap.size u w'):=Lib.hid (fun u=>words_fresh [[103,108,111,98,97,108],g0.data.toList,Lib.itoa g1] u (show 0<3 by decide) (show 3≤1000 by decide) (by show (globLine ⟨g0,g1⟩).length≤_; omega));have eN:((⟨(globLine ⟨g0,g1⟩).toArray⟩:ByteArray)++⟨#[10]⟩)=⟨(globLine ⟨g0,g1⟩++[10]).toArray⟩:=cat_bytes _ [10];have ng1:(9223372036854775807<(globLine ⟨g0,g1⟩).length+1)=False:=eq_false (by omega);have hbz:=blk_new wr (.cells #[.string g0,.int .i64 g1] 53);have x0:=cellH hbz (i:=0) rfl;have x1:=cellH hbz (i:=1) rfl;have hpb:wr.heap.size≠b0:=by have:=HD.out.lt; omega
      have HX8:=Aside0.mk (And.intro (HD.out.below (below_alloc (Below.refl _ _) (.cells #[.string g0,.int .i64 g1] 53))) hbz);clear hob hto hle2 hbz hrd HD;go_wp2;generalize wr.alloc (.cells #[.string g0,.int .i64 g1] 53)=W8 at *;clear hz0 hz1;generalize wr.heap.size=p7 at *;clear hac2 hacc;obtain ⟨acc0,rfl⟩:∃a,a=acc:=⟨_,rfl⟩;obtain ⟨acc,rfl⟩:∃a,a=ac2:=⟨_,rfl⟩;refine start_ (n:=9) (S:=fun w'=>w'.cell? ⟨p7,0,none⟩=some (.string g0)∧w'.cell? ⟨p7,1,none⟩=some (.int .i64 g1)∧Aside0 (TX w w' b0 cc acc∧w'.heap[p7]? = some (.cells #[.string g0,.int .i64 g1] 53 (0,0)))) (ds:=[8]) (mA 9 0) (by kernel_rfl) rfl rfl ⟨x0,x1,⟨⟨HX8.out.1.below (below_drew (Below.refl _ _)),blk_below HX8.out.2 (below_drew (Below.refl _ _))⟩⟩⟩ (fun hHeld=>?_);refine pa_ 9 1 0 (some 54) (v:=?_) (a':=?_) ?_ ?_ ?_;rotate_left 2
      ·intro w';go_simp
       with_reducible rfl
      ·simp only [pn];rfl
      refine pa_ 9 5 2 (some 56) (v:=?_) (a':=?_) ?_ ?_ ?_;rotate_left 2
      ·intro w';go_simp
       with_reducible rfl
      ·simp only [pn];rfl
      refine tb_ 9 7 1 (some 55) (v:=?_) (a':=?_) hHeld ?_ ?_ ?_;rotate_left 2
      ·rintro w' ⟨s0,s1,s2⟩;go_simp
       with_reducible rfl
      ·simp only [pn];rfl
      refine tb_ 9 15 3 (some 57) (v:=?_) (a':=?_) hHeld ?_ ?_ ?_;rotate_left 2
      ·rintro w' ⟨s0,s1,s2⟩;go_simp
       with_reducible rfl
      ·simp only [pn];rfl
      refine oo_ 9 31 4 (some 58) (fun K hK=>?_);refine goes_ Tryz.func35 (by kernel_rfl) rfl #[.int .i64 g1] (by rfl) rfl rfl (by simp only [List.map_toArray,List.map_cons,List.map_nil]; rfl) ?_
      with_reducible refine (itoa_calls g1 HOB.out.2 _ (HT.out.below hHeld.2.2.out.1.low)).mono ?_
      rintro e u1 ⟨rfl,hb1⟩;refine ⟨_,rfl,?_⟩;refine hK.out _ _ ⟨pw_cell_below hb1 hHeld.1,pw_cell_below hb1 hHeld.2.1,⟨⟨hHeld.2.2.out.1.below hb1,blk_below hHeld.2.2.out.2 hb1⟩⟩⟩ (fun hHeld=>?_);clear hK K;refine norm_ (a':=?_) ?_ ?_;rotate_left
      ·show Act.put _ (some 58) _=_
       simp only [pn];rfl
      refine oo_ 9 63 5 (some 59) (fun K hK=>?_);have HPre:=hHeld;refine value_ (w1:=?_) (v:=?_) (by rfl) rfl ?_ ?_;rotate_left 2
      ·go_simp;constructor
       ·rfl
       ·rfl
      refine hK.out _ _ ⟨pw_cell_below (below_alloc (Below.refl _ _) _) hHeld.1,pw_cell_below (below_alloc (Below.refl _ _) _) hHeld.2.1,⟨⟨hHeld.2.2.out.1.below (below_alloc (Below.refl _ _) _),blk_below hHeld.2.2.out.2 (below_alloc (Below.refl _ _) _)⟩⟩⟩ (fun hHeld=>?_);clear hK K;refine norm_ (a':=?_) ?_ ?_;rotate_left
      ·show Act.put _ (some 59) _=_
       simp only [pn];rfl
      refine oo_ 9 127 6 (some 60) (fun K hK=>?_);refine goes_ Tryz.func34 (by kernel_rfl) rfl #[.slice (some ⟨u1.heap.size,0,none⟩) 3 3] (by rfl) rfl rfl (by simp only [List.map_toArray,List.map_cons,List.map_nil]; rfl) ?_
      with_reducible refine (HWD.out u1).mono ?_
      rintro e u6 ⟨rfl,hb6⟩;refine ⟨_,rfl,?_⟩;refine hK.out _ _ ⟨pw_cell_below hb6 HPre.1,pw_cell_below hb6 HPre.2.1,⟨⟨HPre.2.2.out.1.below hb6,blk_below HPre.2.2.out.2 hb6⟩⟩⟩ (fun hHeld=>?_);clear hK K;refine norm_ (a':=?_) ?_ ?_;rotate_left
      ·show Act.put _ (some 60) _=_
       simp only [pn];rfl
      refine pa_ 9 255 7 (some 61) (v:=?_) (a':=?_) ?_ ?_ ?_;rotate_left 2
      ·intro w';go_simp
       with_reducible rfl
      ·simp only [pn];rfl
      refine la_ 9 511 8 (some 62) rfl rfl (by kernel_rfl) (by decide) (fun K hK=>?_);refine goes_ Tryz.func33 (by kernel_rfl) rfl #[.pointer (some ⟨b0,0,none⟩),.string ⟨(globLine ⟨g0,g1⟩++[10]).toArray⟩] (by rfl) rfl rfl (by simp only [List.map_toArray,List.map_cons,List.map_nil]; rfl) ?_
      with_reducible refine (hHeld.2.2.out.1.write _ HL8.out).mono ?_
      rintro e u7 ⟨n7,rfl,hX7,hK7⟩;have hB7:=(hK7 p7 _ _ _ hpb hHeld.2.2.out.2 (by decide)).trans hHeld.2.2.out.2;refine ⟨_,rfl,?_⟩;refine hK.out _ _ ?_;clear hK K;refine norm_ (a':=?_) ?_ ?_;rotate_left
      ·show Act.put _ (some 62) _=_
       simp only [pn];rfl
      refine done_ (by kernel_rfl) ?_;have HX9:=Aside0.mk (And.intro hX7 hB7);have HN:Aside0 (TX w u7 b0 cc (acc0++(gl.take (j+1)).flatMap globTextB)):=⟨by rw [←HTO.out]; exact HX9.out.1⟩;clear hHeld HPre HWD x0 x1 HX8 eN ng1 HL8 hB7 hX7 hK7 HX9;go_wp2;go_roundw
      case rel=>exact ⟨j+1,by omega,by go_num,HN⟩
      case measure=>simp [intOf]; omega
     ·obtain rfl:j=gl.length:=by omega
      rw [List.take_length] at HD;have HE:Hid (acc++gl.flatMap globTextB=T):=Lib.hid (by rw [HTT.out,←hacc]);have HD:=Aside0.mk (HE.out▸HD.out);have hsz1:=HD.out.low.size;go_wp2_with fail;refine (Tryz.Builder_String_any w.heap.size b0 T wr HD.out.bld HD.out.low.size).mono ?_;rintro e w5 ⟨rfl,hb5⟩;have HB5:=Aside0.mk (HD.out.low.trans hb5);clear hb5;go_wp2
      go_ret2
      exact ⟨rfl,HB5.out⟩
end Go.Proofs.YtjbgcpdlgplcfabGreatDoor.CJ
