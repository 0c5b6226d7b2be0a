/- The packer's method op. Conditions: the packer and the instruction's lists lie in memory; numbers are as a valid code has them; the bytes take at most 2^47. -/
import Derived.Test.YtoonkkipnljflaaGreatDoorRG
import Derived.Test.YtoonkkipnljflaaGreatDoorKA
namespace Go.Proofs.YtoonkkipnljflaaGreatDoor.CJ
open Go.RowKit Go.Proofs.YtoonkkipnljflaaGreatDoorW.PrintWords Go.Proofs.YtoonkkipnljflaaGreatDoorW.PrintLast Go.Proofs.YtoonkkipnljflaaGreatDoor.PT Go.Proofs.YtoonkkipnljflaaGreatDoor.IMaps Go.Proofs.YtoonkkipnljflaaGreatDoor.TJ
set_option linter.unusedVariables false
set_option linter.unusedSimpArgs false
def accL(bs:List UInt8)(ps:List (List UInt8))(k:Nat):List UInt8:=bs++(ps.take k).flatten
theorem qAG{bs:List UInt8}{ps:List (List UInt8)}{k:Nat}{p:List UInt8}(h:ps[k]? = some p):accL bs ps k++p=accL bs ps (k+1):=by
 obtain ⟨hl,rfl⟩:=List.getElem?_eq_some_iff.1 h;unfold accL;rw [List.take_succ_eq_append_getElem hl,List.flatten_append,List.append_assoc];simp
theorem acc_le{bs:List UInt8}{ps:List (List UInt8)}(h:LE47 (bs++ps.flatten).length)(k:Nat):LE47 (accL bs ps k).length:=by
 have:ps.flatten=(ps.take k).flatten++(ps.drop k).flatten:=by rw [←List.flatten_append,List.take_append_drop]
 unfold LE47 accL at *;rw [this] at h;simp only [List.length_append] at h ⊢;omega
theorem qIg{bs:List UInt8}{ps:List (List UInt8)}{k:Nat}(h:ps.length≤k):accL bs ps k=bs++ps.flatten:=by
 unfold accL; rw [List.take_of_length_le h]
def altP(a:GAl):List (List UInt8):=[numB a.f0,strB a.f1.data.toList,QG a.f2,numB a.f3]
def altB(a:GAl):List UInt8:=(altP a).flatten
def opP(g:GOp):List (List UInt8):=[[UInt8.ofNat g.f0.toNat],numB g.f1++numB g.f2,QG g.f3,strB g.f4.data.toList,numB g.f5.length,qi g.f5,numB g.f6.length,g.f6.flatMap altB]
def opB(g:GOp):List UInt8:=(opP g).flatten
def Ok64(n:Int):Prop := -9223372036854775808≤n∧n≤9223372036854775807
structure OkAl(a:GAl):Prop where
 n0:OkN a.f0
 s1:a.f1.size≤1000000000
 n2:Ok64 a.f2
 n3:OkN a.f3
structure OkOp(g:GOp):Prop where
 n0:0≤g.f0∧g.f0≤255
 n1:OkN g.f1
 n2:OkN g.f2
 n3:Ok64 g.f3
 s4:g.f4.size≤1000000000
 l5:OkNs g.f5
 l6:∀a∈g.f6,OkAl a
theorem qKS{ops:Array Oper}{Q:Exit→Act→World→Prop}{o:Oper}{a:Act}{K:Act→World→Prop}{W:World}(hw:Region.wanted o (yielded ops a.tmps)=true)(s x:Operand)
 (ho:o.op=.call { callee:=.builtin .append,args:=#[s,x],argTypes:=#[39,39] }) (B:Nat) (v:Value) (bs:List UInt8) (hs:a.eval s=v) (hown:W.ownsRow B 5 1 v bs.length (Lib.byteCells bs))
 (c:UInt8) (n:Int) (hc:n=c.toNat) (m:Nat) (hm:m=W.heap.size) (hx:a.eval x=.slice (some ⟨m,0,none⟩) 1 1) (hlen:LE47 (bs.length+1)) (hB:B≤W.heap.size)
 (h:∀v' w',OwnB w' B v' (bs++[c])→W.grownBy w' v.ownBlock→K (a.put o.dst v') w'):
 if Region.wanted o (yielded ops a.tmps)=true then Oper.wp Tryz.prog o a (W.alloc (.cells #[.int .u8 n] 5)) K Q else K (a.put o.dst undef) (W.alloc (.cells #[.int .u8 n] 5)):=by
 subst hm;unfold LE47 at hlen;refine qCH (w0:=W) (W:=W) B hw s x 39 5 (.int .u8 0) 1 1 ho Tryz.underlying39 qA7 rfl (by decide) (by decide) v bs.length (Lib.byteCells bs) [.int .u8 n] hs hx rfl (by intro u hu; rw [List.mem_singleton.1 hu]; rfl) hown (Below.refl _ _) hB (by omega) ?_;intro v1 w1 hown1 _ hg1 _;refine h v1 w1 ?_ hg1;have e:Lib.byteCells (bs++[c])=Lib.byteCells bs++[.int .u8 n]:=by rw [Lib.byteCells_append,hc]; rfl
 unfold OwnB;rw [e,List.length_append];exact hown1
structure PS(B q:Nat)(w0 w wr:World)(acc:List UInt8)(g:Nat)(cs:Array Value)(t:TypeId):Prop where
 pk:PK B q w wr acc
 box:wr.heap[g]? = some (.cells cs t (0,0))
 low:Below w0.heap.size w0 wr
theorem PS.next{B q:Nat}{w0 w w1 w2:World}{acc acc2:List UInt8}{g:Nat}{cs:Array Value}{t:TypeId}(h:PS B q w0 w w1 acc g cs t)(hP:PK B q w1 w2 acc2)(hg:g≠q)(ht:t≠5)(hB:w0.heap.size≤B):PS B q w0 w w2 acc2 g cs t:=
 ⟨h.pk.trans hP,(hP.keep g cs t _ hg h.box ht).trans h.box,h.low.trans (hP.below.mono hB)⟩
set_option maxRecDepth 100000 in
set_option maxHeartbeats 8000000 in
theorem qKT(w0 w:World)(B q:Nat)(bs:List UInt8)(g:GOp)(A5 A6:Option Addr)(c5 c6:Nat)(h:PW w B q bs)(hB0:w0.heap.size≤B)(hlow:Below w0.heap.size w0 w)(g5:g.f5.length≤c5)(C5:(Kd.int .i64).C w0 A5 g.f5.length g.f5)(g6:g.f6.length≤c6)(C6:kAl.C w0 A6 g.f6.length g.f6)
 (hok:OkOp g) (hlen:LE47 (bs++opB g).length):
 Calls Tryz.prog 38 #[.pointer (some ⟨q,0,none⟩),gOp g A5 A6 c5 c6] w fun e w'=>e=.returned (.tuple #[])∧PK B q w w' (bs++opB g):=by
 have hm5:g.f5.length≤9223372036854775807:=C5.2.1;have hm6:g.f6.length≤9223372036854775807:=C6.2.1;have HLe:=Lib.hid (fun k=>acc_le (bs:=bs) (ps:=opP g) hlen k);have HP0:Hid (accL bs (opP g) 1=bs++[UInt8.ofNat g.f0.toNat]):=Lib.hid (by simp [accL,opP]);have HE:Hid (accL bs (opP g) 8=bs++opB g):=Lib.hid (qIg (by simp [opP]));have HS1:=Lib.hid (qAG (bs:=bs) (ps:=opP g) (k:=1) rfl);have HS2:=Lib.hid (qAG (bs:=bs) (ps:=opP g) (k:=2) rfl);have HS3:=Lib.hid (qAG (bs:=bs) (ps:=opP g) (k:=3) rfl);have HS4:=Lib.hid (qAG (bs:=bs) (ps:=opP g) (k:=4) rfl);have HS5:=Lib.hid (qAG (bs:=bs) (ps:=opP g) (k:=5) rfl);have HS6:=Lib.hid (qAG (bs:=bs) (ps:=opP g) (k:=6) rfl);have HS7:=Lib.hid (qAG (bs:=bs) (ps:=opP g) (k:=7) rfl);rw [←HE.out];generalize opP g=ps at *;obtain ⟨x0,x1,x2,x3,x4,x5,x6⟩:=g;simp only at g5 C5 g6 C6 hm5 hm6 HP0 HS1 HS2 HS3 HS4 HS5 HS6 HS7;have HOK:=Lib.hid hok;have HC:=Lib.hid (And.intro C5 C6);have hql:=h.lt;have hqB:=h.hB;have hx0:=hok.n0;simp only at hx0;obtain ⟨cb,hcb⟩:∃c:UInt8,c=UInt8.ofNat x0.toNat:=⟨_,rfl⟩;have hcn:x0=(cb.toNat:Int):=by rw [hcb,UInt8.toNat_ofNat',Nat.mod_eq_of_lt (by omega)]; omega
 rw [←hcb] at HP0;have hw8:IntKind.u8.wrap x0=x0:=IntWalk.u8_in _ (by omega);have HCN:=Lib.hid hcn;have hb1:=qE (qC (Below.refl w.heap.size w) (.cells #[.int .i64 x0,.int .i64 x1,.int .i64 x2,.int .i64 x3,.string x4,.slice A5 x5.length c5,.slice A6 x6.length c6] 59));obtain ⟨_,v0,hbk0,hown0,hne0⟩:=h;obtain ⟨a0,l0,c0,rfl⟩:=QS hown0;have hbk:(w.alloc (.cells #[.int .i64 x0,.int .i64 x1,.int .i64 x2,.int .i64 x3,.string x4,.slice A5 x5.length c5,.slice A6 x6.length c6] 59)).drew.heap[q]? = some (.cells #[.slice a0 l0 c0] 80 (0,0)):=(hb1.block q hql).trans hbk0;have hown:(w.alloc (.cells #[.int .i64 x0,.int .i64 x1,.int .i64 x2,.int .i64 x3,.string x4,.slice A5 x5.length c5,.slice A6 x6.length c6] 59)).drew.ownsRow B 5 1 (.slice a0 l0 c0) bs.length (Lib.byteCells bs):=hown0.kept (row:=none) ⟨hb1.os,hb1.tape,hb1.output,hb1.size,fun i hi _=>hb1.block i hi⟩ (by cases (Value.slice a0 l0 c0).ownBlock<;>simp);have hbx:(w.alloc (.cells #[.int .i64 x0,.int .i64 x1,.int .i64 x2,.int .i64 x3,.string x4,.slice A5 x5.length c5,.slice A6 x6.length c6] 59)).drew.heap[w.heap.size]? = some (.cells #[.int .i64 x0,.int .i64 x1,.int .i64 x2,.int .i64 x3,.string x4,.slice A5 x5.length c5,.slice A6 x6.length c6] 59 (0,0)):=(MapKept.heap_alloc w _).1;have d0:(w.alloc (.cells #[.int .i64 x0,.int .i64 x1,.int .i64 x2,.int .i64 x3,.string x4,.slice A5 x5.length c5,.slice A6 x6.length c6] 59)).drew.cell? ⟨q,0,none⟩=some (.slice a0 l0 c0):=qD hbk (i:=0) rfl
 have d1:(w.alloc (.cells #[.int .i64 x0,.int .i64 x1,.int .i64 x2,.int .i64 x3,.string x4,.slice A5 x5.length c5,.slice A6 x6.length c6] 59)).drew.cell? ⟨w.heap.size,0,none⟩=some (.int .i64 x0):=qD hbx (i:=0) rfl;have HOW:=Lib.hid (And.intro hown hne0);have HBK:=Lib.hid hbk;have HBX:=Lib.hid hbx;have HB1:=Lib.hid hb1;have HLow:=Lib.hid hlow;have hl1:LE47 (bs.length+1):=by have:=HLe.out 1; rw [HP0.out] at this; unfold LE47 at *; simpa using this
 have hBW:B≤(w.alloc (.cells #[.int .i64 x0,.int .i64 x1,.int .i64 x2,.int .i64 x3,.string x4,.slice A5 x5.length c5,.slice A6 x6.length c6] 59)).drew.heap.size:=by have:=hb1.size; omega
 clear hbk hown hbx hb1 hbk0 hown0 hne0 hlow C5 C6 hok hlen hcn hcb;unfold gOp;go_enter Tryz.func38,Tryz.ntmps38;go_wp2;refine qU (n:=13) (S:=fun w'=>w'.cell? ⟨q,0,none⟩=some (.slice a0 l0 c0)∧w'.cell? ⟨w.heap.size,0,none⟩=some (.int .i64 x0)) (ds:=[9,12]) (mA 13 0) (by kernel_rfl) rfl rfl ⟨d0,d1⟩ (fun hHeld=>?_);refine pa_ 13 1 0 (some 6) (v:=?_) (a':=?_) ?_ ?_ ?_;rotate_left 2
 ·intro w';go_simp
  with_reducible rfl
 ·simp only [pn];rfl
 refine pa_ 13 3 1 (some 7) (v:=?_) (a':=?_) ?_ ?_ ?_;rotate_left 2
 ·intro w';go_simp
  with_reducible rfl
 ·simp only [pn];rfl
 refine pa_ 13 7 2 (some 8) (v:=?_) (a':=?_) ?_ ?_ ?_;rotate_left 2
 ·intro w';go_simp
  with_reducible rfl
 ·simp only [pn];rfl
 refine pa_ 13 15 3 (some 9) (v:=?_) (a':=?_) ?_ ?_ ?_;rotate_left 2
 ·intro w';go_simp
  with_reducible rfl
 ·simp only [pn];rfl
 refine pa_ 13 47 5 (some 11) (v:=?_) (a':=?_) ?_ ?_ ?_;rotate_left 2
 ·intro w';go_simp
  with_reducible rfl
 ·simp only [pn];rfl
 refine tb_ 13 63 4 (some 10) (v:=?_) (a':=?_) hHeld ?_ ?_ ?_;rotate_left 2
 ·rintro w' ⟨s0,s1⟩;go_simp
  with_reducible rfl
 ·simp only [pn];rfl
 refine tb_ 13 127 6 (some 12) (v:=?_) (a':=?_) hHeld ?_ ?_ ?_;rotate_left 2
 ·rintro w' ⟨s0,s1⟩;go_simp
  with_reducible rfl
 ·simp only [pn];rfl
 refine pa_ 13 255 7 (some 13) (v:=?_) (a':=?_) ?_ ?_ ?_;rotate_left 2
 ·intro w';go_simp
  with_reducible rfl
 ·simp only [pn];rfl
 refine oo_ 13 511 8 (some 14) (fun K hK=>?_);refine Q1 (w1:=?_) (v:=?_) (by rfl) rfl ?_ ?_;rotate_left 2
 ·go_simp;constructor
  ·rfl
  ·rfl
 refine hK.out _ _ ⟨qA (qC (Below.refl _ _) _) hHeld.1,qA (qC (Below.refl _ _) _) hHeld.2⟩ (fun hHeld=>?_);clear hK K;refine qM (a':=?_) ?_ ?_;rotate_left
 ·show Act.put _ (some 14) _=_
  simp only [pn];rfl
 refine la_ 13 1023 9 (some 15) rfl rfl (by kernel_rfl) (by decide) (fun K hK=>?_);refine qKS (W:=(w.alloc (.cells #[.int .i64 x0,.int .i64 x1,.int .i64 x2,.int .i64 x3,.string x4,.slice A5 x5.length c5,.slice A6 x6.length c6] 59)).drew) (by kernel_rfl) _ _ rfl B (.slice a0 l0 c0) bs rfl HOW.out.1 cb x0 HCN.out (w.heap.size+1) (by simp) rfl hl1 hBW ?_;intro v1 w5 hown1 hg1;obtain ⟨h2,hP⟩:=PK.put hqB HBK.out HOW.out.1 HOW.out.2 _ (Below.refl _ _) hg1 hown1;have k0:=qD h2 (i:=0) rfl;have f0:=qH h2 0;have hbx5:=(hg1.block w.heap.size (by simp) (fun e=>Lib.ownBlock_ne HOW.out.1 HBX.out (by decide) e.symm)).trans HBX.out;obtain ⟨a1,l1,c1,rfl⟩:=QS hown1;refine hK.out _ _ ?_;clear hK K;refine qM (a':=?_) ?_ ?_;rotate_left
 ·show Act.put _ (some 15) _=_
  simp only [pn];rfl
 refine pa_ 13 2047 10 (some 16) (v:=?_) (a':=?_) ?_ ?_ ?_;rotate_left 2
 ·intro w';go_simp
  with_reducible rfl
 ·simp only [pn];rfl
 refine pa_ 13 4095 11 (some 17) (v:=?_) (a':=?_) ?_ ?_ ?_;rotate_left 2
 ·intro w';go_simp
  with_reducible rfl
 ·simp only [pn];rfl
 refine la_ 13 8191 12 none rfl rfl (by kernel_rfl) (by decide) (fun K hK=>?_);refine qC4 (w1:=?_) (by rfl) rfl ?_ ?_;rotate_left
 ·go_simp;rfl
 refine hK.out _ _ ?_;clear hK K;refine qn (by kernel_rfl) ?_;clear k0 f0 h2;generalize w5.setCell ⟨q,0,none⟩ (.slice a1 l1 c1)=wx at *;have HPS:qB (PS B q w0 w _ (accL bs ps 1) w.heap.size #[.int .i64 x0,.int .i64 x1,.int .i64 x2,.int .i64 x3,.string x4,.slice A5 x5.length c5,.slice A6 x6.length c6] 59):=⟨⟨by rw [HP0.out]; exact hP.lift (by omega) HB1.out,(hP.keep w.heap.size _ _ _ (by omega) HBX.out (by decide)).trans HBX.out,(HLow.out.trans (HB1.out.mono HLow.out.size)).trans (hP.below.mono hB0)⟩⟩;clear hP hown1 hg1 hbx5 d0 d1 hl1 hHeld;have hbx1:=HPS.out.box;have e1_1:=qD hbx1 (i:=1) rfl;have e1_2:=qD hbx1 (i:=2) rfl;have HCall:=Lib.hid (qJC _ B q _ x1 x2 HPS.out.pk.pw HOK.out.n1 HOK.out.n2 (by rw [HS1.out]; exact HLe.out 2));clear hbx1;go_wp2_with fail;refine HCall.out.mono ?_;rintro e w11 ⟨rfl,hP⟩;rw [HS1.out] at hP;replace HPS:=qB.mk (HPS.out.next hP (by omega) (by decide) hB0);clear hP HCall e1_1 e1_2;have hbx2:=HPS.out.box;have e2_3:=qD hbx2 (i:=3) rfl;have HCall:=Lib.hid (qDU _ B q _ x3 HPS.out.pk.pw HOK.out.n3.1 HOK.out.n3.2 (by rw [HS2.out]; exact HLe.out 3));clear hbx2;go_wp2_with fail;refine HCall.out.mono ?_;rintro e w12 ⟨rfl,hP⟩;rw [HS2.out] at hP;replace HPS:=qB.mk (HPS.out.next hP (by omega) (by decide) hB0);clear hP HCall e2_3;have hbx3:=HPS.out.box;have e3_4:=qD hbx3 (i:=4) rfl;have HCall:=Lib.hid (qDh _ B q _ x4 HPS.out.pk.pw HOK.out.s4 (by rw [HS3.out]; exact HLe.out 4));clear hbx3;go_wp2_with fail
 refine HCall.out.mono ?_;rintro e w13 ⟨rfl,hP⟩;rw [HS3.out] at hP;replace HPS:=qB.mk (HPS.out.next hP (by omega) (by decide) hB0);clear hP HCall e3_4;have hbx4:=HPS.out.box;have e4_5:=qD hbx4 (i:=5) rfl;have HCall:=Lib.hid (qAg _ B q _ (x5.length:Int) HPS.out.pk.pw ⟨by omega,by omega⟩ (by rw [HS4.out]; exact HLe.out 5));clear hbx4;go_wp2_with fail;refine HCall.out.mono ?_;rintro e w14 ⟨rfl,hP⟩;rw [HS4.out] at hP;replace HPS:=qB.mk (HPS.out.next hP (by omega) (by decide) hB0);clear hP HCall e4_5;have hbx5:=HPS.out.box;have e5_5:=qD hbx5 (i:=5) rfl;have HCall:=Lib.hid (qF0 _ B q _ x5 A5 c5 HPS.out.pk.pw g5 (Kd.C_below HC.out.1 HPS.out.low) (fun w' bs' hP'=>Kd.C_below HC.out.1 (HPS.out.low.trans (hP'.below.mono hB0))) HOK.out.l5 (by rw [HS5.out]; exact HLe.out 6));clear hbx5;go_wp2_with fail;refine HCall.out.mono ?_;rintro e w15 ⟨rfl,hP⟩;rw [HS5.out] at hP;replace HPS:=qB.mk (HPS.out.next hP (by omega) (by decide) hB0);clear hP HCall e5_5;have hbx6:=HPS.out.box;have e6_6:=qD hbx6 (i:=6) rfl;have HCall:=Lib.hid (qAg _ B q _ (x6.length:Int) HPS.out.pk.pw ⟨by omega,by omega⟩ (by rw [HS6.out]; exact HLe.out 7));clear hbx6;go_wp2_with fail;refine HCall.out.mono ?_;rintro e w16 ⟨rfl,hP⟩;rw [HS6.out] at hP;replace HPS:=qB.mk (HPS.out.next hP (by omega) (by decide) hB0);clear hP HCall e6_6;have hbx7:=HPS.out.box;have e7_6:=qD hbx7 (i:=6) rfl;clear hbx7;go_wp2;clear e7_6
 go_loopw [52] (fun v wr=>∃i:Nat,i≤x6.length∧v=.int .i64 i∧qB (PS B q w0 w wr (accL bs ps 7++(x6.take i).flatMap altB) w.heap.size #[.int .i64 x0,.int .i64 x1,.int .i64 x2,.int .i64 x3,.string x4,.slice A5 x5.length c5,.slice A6 x6.length c6] 59)) (fun v _=>x6.length - (intOf v).toNat)
 case atStart=>exact ⟨0,by omega,rfl,by simpa using HPS⟩
 case round=>
  obtain ⟨i,hi,rfl,HQ⟩:=hrel;clear HPS;by_cases hlt:i<x6.length
  ·obtain ⟨ad,e3,hz0,hz1,hz2,hz3⟩:=qA2 HC.out.2 (i:Int) (by omega) (by omega);have hrd:QK x6 (i:Int)=x6[i]:=by simp [QK,List.getD_eq_getElem?_getD,List.getElem?_eq_getElem hlt]
   have hta:=Qc altB x6 i hlt;have hoa:=HOK.out.l6 x6[i] (List.getElem_mem hlt);have hla:LE47 (accL bs ps 7++(x6.take (i+1)).flatMap altB).length:=by
    have h8:=HLe.out 8;rw [←HS7.out] at h8;have hsp:x6.flatMap altB=(x6.take (i+1)).flatMap altB++(x6.drop (i+1)).flatMap altB:=by rw [←List.flatMap_append,List.take_append_drop]
    rw [hsp] at h8;unfold LE47 at *;simp only [List.length_append] at h8 ⊢;omega
   rw [hrd] at hz0 hz1 hz2 hz3;generalize x6[i]=al at *;have hz0':=qA HQ.out.low hz0;rw [hta,←List.append_assoc] at hla;have HTA:=Lib.hid hta;have HLa:=Lib.hid (fun k=>acc_le (bs:=accL bs ps 7++(x6.take i).flatMap altB) (ps:=altP al) hla k);have HT0:=Lib.hid (qAG (bs:=accL bs ps 7++(x6.take i).flatMap altB) (ps:=altP al) (k:=0) rfl);have HT1:=Lib.hid (qAG (bs:=accL bs ps 7++(x6.take i).flatMap altB) (ps:=altP al) (k:=1) rfl);have HT2:=Lib.hid (qAG (bs:=accL bs ps 7++(x6.take i).flatMap altB) (ps:=altP al) (k:=2) rfl);have HT3:=Lib.hid (qAG (bs:=accL bs ps 7++(x6.take i).flatMap altB) (ps:=altP al) (k:=3) rfl);have HTE:Hid (accL (accL bs ps 7++(x6.take i).flatMap altB) (altP al) 4=accL bs ps 7++(x6.take (i+1)).flatMap altB):=Lib.hid (by rw [qIg (by simp [altP]),HTA.out,←List.append_assoc]; rfl);have HOA:=Lib.hid hoa;have hac0:accL bs ps 7++(x6.take i).flatMap altB=accL (accL bs ps 7++(x6.take i).flatMap altB) (altP al) 0:=by simp [accL]
   clear hz0' hrd hta hla hoa;generalize altP al=pa at *;obtain ⟨z0,z1,z2,z3⟩:=al;simp only at hz0 hz1 hz2 hz3 HT0 HT1 HT2 HT3;cases e3;simp only [Int.toNat_natCast] at hz0 hz1 hz2 hz3;replace hz0:=qA HQ.out.low hz0;replace hz1:=qA HQ.out.low hz1;replace hz2:=qA HQ.out.low hz2;replace hz3:=qA HQ.out.low hz3;have hbA:=qC (Below.refl wr.heap.size wr) (.cells #[.int .i64 z0,.string z1,.int .i64 z2,.int .i64 z3] 86);have hbz:(wr.alloc (.cells #[.int .i64 z0,.string z1,.int .i64 z2,.int .i64 z3] 86)).heap[wr.heap.size]? = some (.cells #[.int .i64 z0,.string z1,.int .i64 z2,.int .i64 z3] 86 (0,0)):=(MapKept.heap_alloc wr _).1;have hqr:=HQ.out.pk.pw.lt;have HZS:qB (PS B q w0 wr (wr.alloc (.cells #[.int .i64 z0,.string z1,.int .i64 z2,.int .i64 z3] 86)) (accL (accL bs ps 7++(x6.take i).flatMap altB) pa 0) wr.heap.size #[.int .i64 z0,.string z1,.int .i64 z2,.int .i64 z3] 86):=⟨⟨by rw [←hac0]; exact (PK.refl (HQ.out.pk.pw.below hbA)).lift (by omega) hbA,hbz,qF HQ.out.low hbA⟩⟩;have hgr:w.heap.size<wr.heap.size:=(Array.getElem?_eq_some_iff.1 HQ.out.box).1;clear hbA hbz hac0;generalize hacc:accL bs ps 7++(x6.take i).flatMap altB=ac at *;have hbz0:=HZS.out.box;have z0_0:=qD hbz0 (i:=0) rfl;have HCall:=Lib.hid (qAg _ B q _ z0 HZS.out.pk.pw HOA.out.n0 (by rw [HT0.out]; exact HLa.out 1));clear hbz0;simp only [World.size_alloc] at HCall;go_wp2_with fail;refine HCall.out.mono ?_;rintro e w20 ⟨rfl,hP⟩;rw [HT0.out] at hP
   replace HZS:=qB.mk (HZS.out.next hP (by omega) (by decide) hB0);clear hP HCall z0_0;have hbz1:=HZS.out.box;have z1_1:=qD hbz1 (i:=1) rfl;have HCall:=Lib.hid (qDh _ B q _ z1 HZS.out.pk.pw HOA.out.s1 (by rw [HT1.out]; exact HLa.out 2));clear hbz1;go_wp2_with fail;refine HCall.out.mono ?_;rintro e w21 ⟨rfl,hP⟩;rw [HT1.out] at hP;replace HZS:=qB.mk (HZS.out.next hP (by omega) (by decide) hB0);clear hP HCall z1_1;have hbz2:=HZS.out.box;have z2_2:=qD hbz2 (i:=2) rfl;have HCall:=Lib.hid (qDU _ B q _ z2 HZS.out.pk.pw HOA.out.n2.1 HOA.out.n2.2 (by rw [HT2.out]; exact HLa.out 3));clear hbz2;go_wp2_with fail;refine HCall.out.mono ?_;rintro e w22 ⟨rfl,hP⟩;rw [HT2.out] at hP;replace HZS:=qB.mk (HZS.out.next hP (by omega) (by decide) hB0);clear hP HCall z2_2;have hbz3:=HZS.out.box;have z3_3:=qD hbz3 (i:=3) rfl;have HCall:=Lib.hid (qAg _ B q _ z3 HZS.out.pk.pw HOA.out.n3 (by rw [HT3.out]; exact HLa.out 4));clear hbz3;go_wp2_with fail;refine HCall.out.mono ?_;rintro e w23 ⟨rfl,hP⟩;rw [HT3.out] at hP;replace HZS:=qB.mk (HZS.out.next hP (by omega) (by decide) hB0);clear hP HCall z3_3;have HN:qB (PS B q w0 w _ (accL bs ps 7++(x6.take (i+1)).flatMap altB) w.heap.size #[.int .i64 x0,.int .i64 x1,.int .i64 x2,.int .i64 x3,.string x4,.slice A5 x5.length c5,.slice (some ad) x6.length c6] 59):=⟨by rw [←HTE.out]; exact HQ.out.next HZS.out.pk (by omega) (by decide) hB0⟩;clear HZS;go_wp2;go_roundw
   case rel=>exact ⟨i+1,by omega,by go_num,HN⟩
   case measure=>simp [intOf]; omega
  ·obtain rfl:i=x6.length:=by omega
   go_wp2;go_end0;exact ⟨rfl,by have:=HQ.out.pk; rw [List.take_length] at this; rw [←HS7.out]; exact this⟩
end Go.Proofs.YtoonkkipnljflaaGreatDoor.CJ
