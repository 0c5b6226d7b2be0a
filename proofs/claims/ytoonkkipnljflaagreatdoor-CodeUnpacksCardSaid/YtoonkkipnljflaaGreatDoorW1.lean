/- Parts of a code's text: numbers, words. Conditions: numbers are of 64 bits; the powers of ten are laid; lists are not too long. The line of an instruction: code.opLine. Conditions: numbers are of 64 bits; lists and names are not too long; the listed variables and the powers of ten are laid. -/
import Derived.Test.YtoonkkipnljflaaGreatDoorRG
import Derived.Test.YtoonkkipnljflaaGreatDoorUC
import Derived.Lib.ItoaLen
import Derived.Lib.AppendIntMem
namespace Go.Proofs.YtoonkkipnljflaaGreatDoor.CJ
open Go.RowKit Go.Proofs.YtoonkkipnljflaaGreatDoorW.PrintWords Go.Proofs.YtoonkkipnljflaaGreatDoorW.PrintLast Go.Proofs.YtoonkkipnljflaaGreatDoor.PT Go.Proofs.YtoonkkipnljflaaGreatDoor.IMaps Go.Proofs.YtoonkkipnljflaaGreatDoor.TJ
set_option linter.unusedVariables false
set_option linter.unusedSimpArgs false
def Tens(w:World):Prop:=Lib.TabIs Tryz.prog w "internal/strconv.uint64pow10" .u64 Lib.pow10Tab
theorem Tens.below{w w':World}(h:Tens w)(hb:Below w.heap.size w w'):Tens w':=Lib.tabBelow_of_tabIs h w' hb
theorem qJb(w:World)(os:Array Obj):Below w.heap.size w («Sort».grow w os):=
 ⟨rfl,rfl,rfl,by simp [«Sort».grow],fun k hk=>by simp only [«Sort».grow]; exact Array.getElem?_append_left hk⟩
theorem Qg(n:Int)(h0:Ok64 n)(w:World)(hT:Tens w):Calls Tryz.prog 53 #[.int .i64 n] w fun e w'=>e=.returned (.string ⟨(Lib.itoa n).toArray⟩)∧Below w.heap.size w w':=
 (Tryz.strconv_Itoa n h0.1 h0.2 w hT).mono fun e w' h => ⟨h.1, by
   obtain ⟨k,os,rfl⟩:=h.2;exact qF (qO (Below.refl _ _) k) (qJb _ os)⟩
def strW(l:List UInt8):Value:=.string ⟨l.toArray⟩
theorem qFC(sep:List UInt8)(xs:List (List UInt8))(u:World)(h0:0<xs.length)(hn:xs.length≤1000)(hlen:(Lib.join xs sep).length≤140737488355328):
 Calls Tryz.prog 75 #[.slice (some ⟨u.heap.size,0,none⟩) xs.length xs.length,.string ⟨sep.toArray⟩] (u.alloc (.cells (xs.map strW).toArray 9)) fun e w'=>e=.returned (.string ⟨(Lib.join xs sep).toArray⟩)∧Below u.heap.size u w':=by
 have hb:=qC (Below.refl u.heap.size u) (.cells (xs.map strW).toArray 9);have hx:=qV u (.cells (xs.map strW).toArray 9);have e1:((xs.map fun x=>(⟨x.toArray⟩:ByteArray)).map (·.data.toList))=xs:=by simp [List.map_map,Function.comp_def]
 have hJ:=Tryz.strings_Join u.heap.size 0 xs.length (xs.map fun x=>⟨x.toArray⟩) ⟨sep.toArray⟩ (u.alloc (.cells (xs.map strW).toArray 9)) (by
  intro j x hj;rw [List.getElem?_map] at hj;obtain ⟨y,hy,rfl⟩:=Option.map_eq_some_iff.1 hj;rw [Nat.zero_add];have:(xs.map strW)[j]? = some (.string ⟨y.toArray⟩):=by rw [List.getElem?_map,hy]; rfl
  have h2:=blk_cell hx j;rw [h2];simpa using this) (by simp) (by rw [List.length_map]; omega) (by rw [List.length_map]; exact Nat.le_refl _) (by rw [e1]; exact hlen)
 rw [e1,List.length_map] at hJ;refine hJ.mono ?_;rintro e w' ⟨rfl,hb2⟩;exact ⟨rfl,qF hb hb2⟩
set_option maxRecDepth 100000 in
set_option maxHeartbeats 2000000 in
theorem qCs(xs:List (List UInt8))(u:World)(h0:0<xs.length)(hn:xs.length≤1000)(hlen:(Lib.join xs [32]).length≤140737488355328):
 Calls Tryz.prog 52 #[.slice (some ⟨u.heap.size,0,none⟩) xs.length xs.length] (u.alloc (.cells (xs.map strW).toArray 9)) fun e w'=>e=.returned (.string ⟨(Lib.join xs [32]).toArray⟩)∧Below u.heap.size u w':=by
 have HJ:=Lib.hid (qFC [32] xs u h0 hn hlen);clear h0 hn hlen;go_enter Tryz.func52,Tryz.ntmps52;go_wp2_with fail;refine HJ.out.mono ?_;rintro e w1 ⟨rfl,hb⟩;have HB:=qB.mk hb;clear hb;go_wp2;go_ret;exact ⟨rfl,HB.out⟩
def qAX(s:List UInt8):List UInt8:=if s=[] then [45] else s
set_option maxRecDepth 100000 in
theorem qGH(s:ByteArray)(w:World):Calls Tryz.prog 77 #[.string s] w fun e w'=>e=.returned (.string ⟨(qAX s.data.toList).toArray⟩)∧Below w.heap.size w w':=by
 obtain ⟨⟨l⟩⟩:=s;cases l with
 |nil=>
  go_enter Tryz.func77,Tryz.ntmps77;go_wp2;go_ret;exact ⟨rfl,Below.refl _ _⟩
 |cons b r=>
  go_enter Tryz.func77,Tryz.ntmps77;go_wp2;go_ret;exact ⟨rfl,Below.refl _ _⟩
theorem qBx(sep:List UInt8)(hs:sep.length≤1)(m:Nat):∀(xs:List (List UInt8)),(∀x∈xs,x.length≤m)→(Lib.join xs sep).length≤xs.length*(m+1)
 | [],_=>by simp [Lib.join_nil]
 | [x],h=>by rw [Lib.join_one]; have:=h x (by simp); simp; omega
 |x::y::r,h=>by
  have ih:=qBx sep hs m (y::r) (fun z hz=>h z (by simp [hz]));have e:Lib.join (x::y::r) sep=x++(sep++Lib.join (y::r) sep):=by simp [Lib.join_cons,Lib.joinTail]
  have:=h x (by simp);rw [e,List.length_append,List.length_append,List.length_cons,Nat.add_mul];omega
def QU(l:List Int):List UInt8:=Lib.join (l.map Lib.itoa) [44]
set_option maxRecDepth 100000 in
set_option maxHeartbeats 4000000 in
theorem qGk(w:World)(A:Option Addr)(c:Nat)(l:List Int)(hc:l.length≤c)(C1:(Kd.int .i64).C w A l.length l)(hl:l.length≤100000)(h64:∀n∈l,Ok64 n)(hT:Tens w):
 Calls Tryz.prog 78 #[.slice A l.length c] w fun e w'=>e=.returned (.string ⟨(QU l).toArray⟩)∧Below w.heap.size w w':=by
 have HC:=Lib.hid C1;have HT:=Lib.hid hT;have H64:=Lib.hid h64;clear C1 hT h64;go_enter Tryz.func78,Tryz.ntmps78;go_wp2
 go_loopw [3,8] (fun sv v wr=>∃i:Nat,∃xs:List ByteArray,i≤l.length∧v=.int .i64 i∧Hid (xs=(l.take i).map (fun n=>(⟨(Lib.itoa n).toArray⟩:ByteArray)))∧qB (Below w.heap.size w wr∧Kd.string.R 9 wr w.heap.size (fun _=>True) sv xs)) (fun _ v _=>l.length - (intOf v).toNat)
 case atStart=>exact ⟨0,[],by omega,rfl,Lib.hid rfl,⟨Below.refl _ _,Kd.R_nil _ _ _ _ _⟩⟩
 case round=>
  obtain ⟨i,xs,hi,rfl,HX,HA⟩:=hrel;by_cases hlt:i<l.length
  ·obtain ⟨ad,cs,rfl,hcs,hK,hcell⟩:=Kd.C_get (Kd.C_below HC.out HA.out.1) 0 (i:Int) (by omega) (by omega);have hK':cs=[.int .i64 (l.getD i 0)]:=hK;subst hK';have g0:=hcell 0 _ rfl;have hsz:(Kd.int .i64).sz=1:=rfl;simp only [Int.toNat_natCast,Nat.add_zero,hsz,Nat.mul_one] at g0;have hxl:xs.length=i:=by rw [HX.out]; simp; omega
   have hn:=H64.out (l.getD i 0) (by simp [List.getD_eq_getElem?_getD,List.getElem?_eq_getElem hlt]);have HN:Hid (xs++[(⟨(Lib.itoa (l.getD i 0)).toArray⟩:ByteArray)]=(l.take (i+1)).map (fun n=>(⟨(Lib.itoa n).toArray⟩:ByteArray))):=Lib.hid (by
    have e:l.getD i 0=l[i]:=by simp [List.getD_eq_getElem?_getD,List.getElem?_eq_getElem hlt]
    rw [HX.out,e,List.take_succ_eq_append_getElem hlt,List.map_append]; rfl)
   generalize l.getD i 0=n at *;have HI:=Lib.hid (Qg n hn wr (HT.out.below HA.out.1));clear hn hcell hK hcs hsz;go_wp2_with fail;refine HI.out.mono ?_;rintro e w2 ⟨rfl,hb⟩;have HR:=qB.mk (And.intro (qF HA.out.1 hb) (Kd.R_below HA.out.2 hb));clear hb;have hBw:w.heap.size≤w2.heap.size:=HR.out.1.size;go_wp2_with (refine Kd.R_append Kd.string (w0:=w) w.heap.size rfl _ _ 23 9 (.string ⟨#[]⟩) 16 rfl Tryz.underlying23 info9 rfl (by decide) (by omega) u3 xs ⟨(Lib.itoa n).toArray⟩ [.string ⟨(Lib.itoa n).toArray⟩] (fun _=>True) (fun _=>False) rfl rfl rfl (fun _ h=>h.elim) (fun _ _=>trivial) HR.out.2 HR.out.1 hBw (by omega) ?_);intro v1 w3 hrow hb3 hg hat;have HN2:=qB.mk (And.intro hb3 hrow);clear hrow hb3 hg hat HR HX HA;go_wp2;go_roundw
   case rel=>exact ⟨i+1,_,by omega,by go_num,HN,HN2⟩
   case measure=>simp [intOf]; omega
  ·obtain rfl:i=l.length:=by omega
   have hx:xs=l.map (fun n=>(⟨(Lib.itoa n).toArray⟩:ByteArray)):=by rw [HX.out,List.take_length]
   have e1:xs.map (·.data.toList)=l.map Lib.itoa:=by rw [hx,List.map_map]; rfl
   have hj:(Lib.join (xs.map (·.data.toList)) (⟨#[44]⟩:ByteArray).data.toList).length≤140737488355328:=by
    rw [e1];have:=qBx [44] (by decide) 21 (l.map Lib.itoa) (fun x hx=>by
     obtain ⟨n,hn,rfl⟩:=List.mem_map.1 hx;exact Lib.itoa_length_le n (H64.out n hn).1 (H64.out n hn).2)
    rw [List.length_map] at this;show (Lib.join (l.map Lib.itoa) [44]).length≤_
    omega
   have hxl:xs.length=l.length:=by rw [hx,List.length_map]
   have hown:=Kd.own_of_R HA.out.2;have HB:=qB.mk HA.out.1;have HE:Hid (Lib.join (xs.map (·.data.toList)) (⟨#[44]⟩:ByteArray).data.toList=QU l):=Lib.hid (by rw [e1]; rfl);rcases hown.2 with ⟨rfl,h0⟩|⟨g,cap,cur,rfl,hg,hh,r1,r2,r3,r4⟩
   ·have hl0:l.length=0:=by omega
    obtain rfl:=List.length_eq_zero_iff.1 hl0;have HJ:=Lib.hid (Tryz.strings_Join_none none 0 ⟨#[44]⟩ wr);clear hx e1 hj hown HA HX hxl;go_wp2_with fail;refine HJ.out.mono ?_;rintro e w2 ⟨rfl,rfl⟩;go_wp2;go_ret;exact ⟨rfl,HB.out⟩
   ·have HJ:=Lib.hid (Tryz.strings_Join g 0 cap xs ⟨#[44]⟩ wr (fun j x hj=>by
     have:=hown.cells (g:=g) rfl j (.string x) (by rw [show encs Value.string xs=xs.map Value.string from rfl,List.getElem?_map,hj]; rfl);have e:(⟨g,0,none⟩:Addr).add j=⟨g,0+j,none⟩:=by simp [Addr.add]; intro h; exact h.symm
     rw [←e]; exact this) (qN hh) (by omega) r1 hj)
    have HJ:=Lib.hid (HE.out▸HJ.out);clear hx e1 hj hown HA HX hh r1 r2 r3 r4 hxl HE;go_wp2_with fail;refine HJ.out.mono ?_;rintro e w2 ⟨rfl,hb⟩;have HB2:=qB.mk (qF HB.out hb);clear hb;go_wp2;go_ret;exact ⟨rfl,HB2.out⟩
theorem qAd(a b:List UInt8):(⟨a.toArray⟩:ByteArray)++⟨b.toArray⟩=⟨(a++b).toArray⟩:=by
 apply ByteArray.ext;simp [ByteArray.data_append]
theorem opV_agg(n:Int):∃y1 y2 y3 y4 y5 y6,(opV n).getD qDe=.agg #[.string ⟨(qg n).toArray⟩,.bool y1,.bool y2,.bool y3,.bool y4,.bool y5,.bool y6]:=by
 unfold opV;cases h:isOp n
 ·refine ⟨false,false,false,false,false,false,?_⟩;have:qg n=[]:=by unfold qg; rw [h]; rfl
  rw [this]; rfl
 ·exact ⟨_,_,_,_,_,_,rfl⟩
def QO(a:GAl):List (List UInt8):=[Lib.itoa a.f0,qAX a.f1.data.toList,Lib.itoa a.f2,Lib.itoa a.f3]
def Qz(a:GAl):List UInt8:=[32]++Lib.join (QO a) [58]
def Qe(g:GOp):List (List UInt8):=[qg g.f0,Lib.itoa g.f1,Lib.itoa g.f2,Lib.itoa g.f3,qAX g.f4.data.toList,91::(QU g.f5++[93])]
def qAC(g:GOp):List UInt8:=[32,32]++Lib.join (Qe g) [32]
def q8(g:GOp):List UInt8:=qAC g++g.f6.flatMap Qz
structure OLk(g:GOp):Prop where
 nums:Ok64 g.f1∧Ok64 g.f2∧Ok64 g.f3
 name:g.f4.size≤1000000
 list:g.f5.length≤100000∧∀n∈g.f5,Ok64 n
 alts:g.f6.length≤100000∧∀a∈g.f6,Ok64 a.f0∧a.f1.size≤1000000∧Ok64 a.f2∧Ok64 a.f3
theorem qDu(l:List Int)(hl:l.length≤100000)(h:∀n∈l,Ok64 n):(QU l).length≤2200000:=by
 have:=qBx [44] (by decide) 21 (l.map Lib.itoa) (fun x hx=>by
  obtain ⟨n,hn,rfl⟩:=List.mem_map.1 hx;exact Lib.itoa_length_le n (h n hn).1 (h n hn).2)
 rw [List.length_map] at this;show (Lib.join (l.map Lib.itoa) [44]).length≤_
 omega
theorem qJc(n:Int):(qg n).length≤20:=by
 unfold qg;split
 ·rename_i h
  unfold isOp at h;simp only [Bool.and_eq_true,decide_eq_true_eq] at h;obtain ⟨k,hk,hk2⟩:∃k:Nat,n.toNat - 1=k∧k<13:=⟨_,rfl,by omega⟩;rw [hk];have:∀k:Fin 13,(qAK.getD k.1 []).length≤20:=by decide
  exact this ⟨k,hk2⟩
 ·simp
theorem qGI(s:List UInt8):(qAX s).length≤s.length+1:=by
 unfold qAX;split
 ·simp
 ·omega
theorem qEJ(a:GAl)(h:Ok64 a.f0∧a.f1.size≤1000000∧Ok64 a.f2∧Ok64 a.f3):(Lib.join (QO a) [58]).length≤4000100:=by
 have hs:a.f1.data.toList.length=a.f1.size:=by simp
 have:=qBx [58] (by decide) 1000001 (QO a) (fun x hx=>by
  have a1:=Lib.itoa_length_le a.f0 h.1.1 h.1.2;have a2:=Lib.itoa_length_le a.f2 h.2.2.1.1 h.2.2.1.2;have a3:=Lib.itoa_length_le a.f3 h.2.2.2.1 h.2.2.2.2;have a4:=qGI a.f1.data.toList;have a7:=h.2.1;unfold QO at hx;simp only [List.mem_cons,List.not_mem_nil,or_false] at hx;rcases hx with rfl|rfl|rfl|rfl<;>omega)
 have e:(QO a).length=4:=rfl;rw [e] at this;omega
theorem qDE(g:GOp)(h:OLk g):(qAC g).length≤20000000:=by
 have hs:g.f4.data.toList.length=g.f4.size:=by simp
 have:=qBx [32] (by decide) 2200002 (Qe g) (fun x hx=>by
  have a1:=Lib.itoa_length_le g.f1 h.nums.1.1 h.nums.1.2;have a2:=Lib.itoa_length_le g.f2 h.nums.2.1.1 h.nums.2.1.2;have a3:=Lib.itoa_length_le g.f3 h.nums.2.2.1 h.nums.2.2.2;have a4:=qGI g.f4.data.toList;have a5:=qDu g.f5 h.list.1 h.list.2;have a6:=qJc g.f0;have a7:=h.name;unfold Qe at hx;simp only [List.mem_cons,List.not_mem_nil,or_false] at hx;rcases hx with rfl|rfl|rfl|rfl|rfl|rfl
  ·omega
  ·omega
  ·omega
  ·omega
  ·omega
  ·simp only [List.length_cons,List.length_append,List.length_nil]; omega)
 have e:(Qe g).length=6:=rfl;rw [e] at this;unfold qAC;rw [List.length_append,List.length_cons,List.length_cons,List.length_nil];omega
set_option maxRecDepth 100000 in
set_option maxHeartbeats 8000000 in
theorem qHg(w:World)(g:GOp)(A5:Option Addr)(c5:Nat)(A6:Option Addr)(c6:Nat)(l5:g.f5.length≤c5)(C5:(Kd.int .i64).C w A5 g.f5.length g.f5)(l6:g.f6.length≤c6)(C6:kAl.C w A6 g.f6.length g.f6)(hk:OLk g)(hL:LW w)(hT:Tens w):
 Calls Tryz.prog 54 #[.agg #[.int .i64 g.f0,.int .i64 g.f1,.int .i64 g.f2,.int .i64 g.f3,.string g.f4,.slice A5 g.f5.length c5,.slice A6 g.f6.length c6]] w fun e w'=>e=.returned (.string ⟨(q8 g).toArray⟩)∧Below w.heap.size w w':=by
 obtain ⟨mb,hmb,hlk⟩:=hL.op;have hm6:g.f6.length≤9223372036854775807:=C6.2.1;obtain ⟨y1,y2,y3,y4,y5,y6,hv⟩:=opV_agg g.f0;have HLK:Hid (∀W,Below w.heap.size w W→W.cell? ⟨0,0,none⟩=some (.map (some mb))∧(Instr.lookup 127 (.map (some mb)) (.int .i64 g.f0) false).run Tryz.prog W=.ok (.agg #[.string ⟨(qg g.f0).toArray⟩,.bool y1,.bool y2,.bool y3,.bool y4,.bool y5,.bool y6]) W):=Lib.hid (fun W hW=>⟨(hlk W hW).1,by rw [←hv]; exact ((hlk W hW).2 g.f0).2⟩);have HO:=Lib.hid hk.nums;have HT:=Lib.hid hT;have kf:∀W,(Instr.field 126 (.agg #[.string ⟨(qg g.f0).toArray⟩,.bool y1,.bool y2,.bool y3,.bool y4,.bool y5,.bool y6]) 0).run Tryz.prog W=.ok (.string ⟨(qg g.f0).toArray⟩) W:=fun _=>by kernel_rfl
 have hnl:=qDu g.f5 hk.list.1 hk.list.2;have ng1:(9223372036854775807<1+(QU g.f5).length)=False:=eq_false (by omega);have ng2:(9223372036854775807<1+(QU g.f5).length+1)=False:=eq_false (by omega);have ng3:(9223372036854775807<2+(Lib.join (Qe g) [32]).length)=False:=eq_false (by have:=qDE g hk; unfold qAC at this; rw [List.length_append] at this; omega);have HNM:Hid (∀W,Below w.heap.size w W→Calls Tryz.prog 78 #[.slice A5 g.f5.length c5] W fun e w'=>e=.returned (.string ⟨(QU g.f5).toArray⟩)∧Below W.heap.size W w'):=Lib.hid (fun W hW=>qGk W A5 c5 g.f5 l5 (Kd.C_below C5 hW) hk.list.1 hk.list.2 (hT.below hW));have HC6:=Lib.hid (And.intro l6 C6);have HKA:=Lib.hid hk.alts;have eN:((⟨#[91]⟩:ByteArray)++⟨(QU g.f5).toArray⟩++⟨#[93]⟩)=⟨(91::(QU g.f5++[93])).toArray⟩:=by rw [show (91::(QU g.f5++[93]))=[91]++QU g.f5++[93] from by simp,←qAd,←qAd]
 have hjl:=qDE g hk;have HLH:=Lib.hid hjl;have HWD:Hid (∀u:World,Calls Tryz.prog 52 #[.slice (some ⟨u.heap.size,0,none⟩) 6 6] (u.alloc (.cells #[.string ⟨(qg g.f0).toArray⟩,.string ⟨(Lib.itoa g.f1).toArray⟩,.string ⟨(Lib.itoa g.f2).toArray⟩,.string ⟨(Lib.itoa g.f3).toArray⟩,.string ⟨(qAX g.f4.data.toList).toArray⟩,.string ⟨(91::(QU g.f5++[93])).toArray⟩] 9)) fun e w'=>e=.returned (.string ⟨(Lib.join (Qe g) [32]).toArray⟩)∧Below u.heap.size u w'):=Lib.hid (fun u=>qCs (Qe g) u (show 0<6 by decide) (show 6≤1000 by decide) (by unfold qAC at hjl; rw [List.length_append] at hjl; omega));clear hmb hlk C5 C6 hT hL hk l6;go_enter Tryz.func54,Tryz.ntmps54;go_wp2_with (first|((with_reducible refine qh (N:=1) rfl ?_); refine QJ ?hg (N:=1) ?hd (cs:=#[.int .i64 g.f0,.int .i64 g.f1,.int .i64 g.f2,.int .i64 g.f3,.string g.f4,.slice A5 g.f5.length c5,.slice A6 g.f6.length c6]) (t:=59) ?hr ?_; (case hd=>rfl); (case hg=>rfl); (case hr=>first|(go_simp; done)|(go_simp; rfl)); intro p hp w1 hx hb1; clear hp));have c0:=qD hx (i:=0) rfl;have c1:=qD hx (i:=1) rfl;have c2:=qD hx (i:=2) rfl;have c3:=qD hx (i:=3) rfl;have c4:=qD hx (i:=4) rfl;have c5':=qD hx (i:=5) rfl;have c6':=qD hx (i:=6) rfl;have HB0:=qB.mk hb1;have HX:=Lib.hid hx;clear hx hb1;go_wp2
 refine qU (n:=26) (S:=fun w'=>w'.cell? ⟨p,0,none⟩=some (.int .i64 g.f0)∧w'.cell? ⟨p,1,none⟩=some (.int .i64 g.f1)∧w'.cell? ⟨p,2,none⟩=some (.int .i64 g.f2)∧w'.cell? ⟨p,3,none⟩=some (.int .i64 g.f3)∧w'.cell? ⟨p,4,none⟩=some (.string g.f4)∧w'.cell? ⟨p,5,none⟩=some (.slice A5 g.f5.length c5)∧w'.cell? ⟨p,6,none⟩=some (.slice A6 g.f6.length c6)∧w'.cell? ⟨0,0,none⟩=some (.map (some mb))∧(Instr.lookup 127 (.map (some mb)) (.int .i64 g.f0) false).run Tryz.prog w'=.ok (.agg #[.string ⟨(qg g.f0).toArray⟩,.bool y1,.bool y2,.bool y3,.bool y4,.bool y5,.bool y6]) w'∧qB (Below w.heap.size w w')) (ds:=[]) (mA 26 0) (by kernel_rfl) rfl rfl ⟨c0,c1,c2,c3,c4,c5',c6',(HLK.out _ (qE HB0.out)).1,(HLK.out _ (qE HB0.out)).2,⟨qE HB0.out⟩⟩ (fun hHeld=>?_);refine pa_ 26 2 1 (some 7) (v:=?_) (a':=?_) ?_ ?_ ?_;rotate_left 2
 ·intro w';go_simp
  with_reducible rfl
 ·simp only [pn];rfl
 refine pa_ 26 34 5 (some 11) (v:=?_) (a':=?_) ?_ ?_ ?_;rotate_left 2
 ·intro w';go_simp
  with_reducible rfl
 ·simp only [pn];rfl
 refine pa_ 26 290 8 (some 14) (v:=?_) (a':=?_) ?_ ?_ ?_;rotate_left 2
 ·intro w';go_simp
  with_reducible rfl
 ·simp only [pn];rfl
 refine pa_ 26 2338 11 (some 17) (v:=?_) (a':=?_) ?_ ?_ ?_;rotate_left 2
 ·intro w';go_simp
  with_reducible rfl
 ·simp only [pn];rfl
 refine pa_ 26 18722 14 (some 20) (v:=?_) (a':=?_) ?_ ?_ ?_;rotate_left 2
 ·intro w';go_simp
  with_reducible rfl
 ·simp only [pn];rfl
 refine pa_ 26 149794 17 (some 23) (v:=?_) (a':=?_) ?_ ?_ ?_;rotate_left 2
 ·intro w';go_simp
  with_reducible rfl
 ·simp only [pn];rfl
 refine tb_ 26 149795 0 (some 6) (v:=?_) (a':=?_) hHeld ?_ ?_ ?_;rotate_left 2
 ·rintro w' ⟨s0,s1,s2,s3,s4,s5,s6,s7,s8,s9⟩;go_simp
  with_reducible rfl
 ·simp only [pn];rfl
 refine tb_ 26 149799 2 (some 8) (v:=?_) (a':=?_) hHeld ?_ ?_ ?_;rotate_left 2
 ·rintro w' ⟨s0,s1,s2,s3,s4,s5,s6,s7,s8,s9⟩;go_simp
  with_reducible rfl
 ·simp only [pn];rfl
 refine tb_ 26 149807 3 (some 9) (v:=?_) (a':=?_) hHeld ?_ ?_ ?_;rotate_left 2
 ·rintro w' ⟨s0,s1,s2,s3,s4,s5,s6,s7,s8,s9⟩;go_simp
  with_reducible rfl
 ·simp only [pn];rfl
 refine pa_ 26 149823 4 (some 10) (v:=?_) (a':=?_) ?_ ?_ ?_;rotate_left 2
 ·intro w';go_simp
  with_reducible rfl
 ·simp only [pn];rfl
 refine tb_ 26 149887 6 (some 12) (v:=?_) (a':=?_) hHeld ?_ ?_ ?_;rotate_left 2
 ·rintro w' ⟨s0,s1,s2,s3,s4,s5,s6,s7,s8,s9⟩;go_simp
  with_reducible rfl
 ·simp only [pn];rfl
 refine tb_ 26 150399 9 (some 15) (v:=?_) (a':=?_) hHeld ?_ ?_ ?_;rotate_left 2
 ·rintro w' ⟨s0,s1,s2,s3,s4,s5,s6,s7,s8,s9⟩;go_simp
  with_reducible rfl
 ·simp only [pn];rfl
 refine tb_ 26 154495 12 (some 18) (v:=?_) (a':=?_) hHeld ?_ ?_ ?_;rotate_left 2
 ·rintro w' ⟨s0,s1,s2,s3,s4,s5,s6,s7,s8,s9⟩;go_simp
  with_reducible rfl
 ·simp only [pn];rfl
 refine tb_ 26 187263 15 (some 21) (v:=?_) (a':=?_) hHeld ?_ ?_ ?_;rotate_left 2
 ·rintro w' ⟨s0,s1,s2,s3,s4,s5,s6,s7,s8,s9⟩;go_simp
  with_reducible rfl
 ·simp only [pn];rfl
 refine tb_ 26 449407 18 (some 24) (v:=?_) (a':=?_) hHeld ?_ ?_ ?_;rotate_left 2
 ·rintro w' ⟨s0,s1,s2,s3,s4,s5,s6,s7,s8,s9⟩;go_simp
  with_reducible rfl
 ·simp only [pn];rfl
 refine oo_ 26 449535 7 (some 13) (fun K hK=>?_);refine qR Tryz.func53 (by kernel_rfl) rfl #[.int .i64 g.f1] (by rfl) rfl rfl (by simp only [List.map_toArray,List.map_cons,List.map_nil]; rfl) ?_
 with_reducible refine (Qg g.f1 HO.out.1 _ (HT.out.below hHeld.2.2.2.2.2.2.2.2.2.out)).mono ?_
 rintro e u1 ⟨rfl,hb1⟩;refine ⟨_,rfl,?_⟩;refine hK.out _ _ ⟨qA hb1 hHeld.1,qA hb1 hHeld.2.1,qA hb1 hHeld.2.2.1,qA hb1 hHeld.2.2.2.1,qA hb1 hHeld.2.2.2.2.1,qA hb1 hHeld.2.2.2.2.2.1,qA hb1 hHeld.2.2.2.2.2.2.1,qA hb1 hHeld.2.2.2.2.2.2.2.1,(HLK.out _ (qF hHeld.2.2.2.2.2.2.2.2.2.out hb1)).2,⟨qF hHeld.2.2.2.2.2.2.2.2.2.out hb1⟩⟩ (fun hHeld=>?_);clear hK K;refine qM (a':=?_) ?_ ?_;rotate_left
 ·show Act.put _ (some 13) _=_
  simp only [pn];rfl
 refine oo_ 26 450559 10 (some 16) (fun K hK=>?_);refine qR Tryz.func53 (by kernel_rfl) rfl #[.int .i64 g.f2] (by rfl) rfl rfl (by simp only [List.map_toArray,List.map_cons,List.map_nil]; rfl) ?_
 with_reducible refine (Qg g.f2 HO.out.2.1 _ (HT.out.below hHeld.2.2.2.2.2.2.2.2.2.out)).mono ?_
 rintro e u2 ⟨rfl,hb2⟩;refine ⟨_,rfl,?_⟩;refine hK.out _ _ ⟨qA hb2 hHeld.1,qA hb2 hHeld.2.1,qA hb2 hHeld.2.2.1,qA hb2 hHeld.2.2.2.1,qA hb2 hHeld.2.2.2.2.1,qA hb2 hHeld.2.2.2.2.2.1,qA hb2 hHeld.2.2.2.2.2.2.1,qA hb2 hHeld.2.2.2.2.2.2.2.1,(HLK.out _ (qF hHeld.2.2.2.2.2.2.2.2.2.out hb2)).2,⟨qF hHeld.2.2.2.2.2.2.2.2.2.out hb2⟩⟩ (fun hHeld=>?_);clear hK K;refine qM (a':=?_) ?_ ?_;rotate_left
 ·show Act.put _ (some 16) _=_
  simp only [pn];rfl
 refine oo_ 26 458751 13 (some 19) (fun K hK=>?_);refine qR Tryz.func53 (by kernel_rfl) rfl #[.int .i64 g.f3] (by rfl) rfl rfl (by simp only [List.map_toArray,List.map_cons,List.map_nil]; rfl) ?_
 with_reducible refine (Qg g.f3 HO.out.2.2 _ (HT.out.below hHeld.2.2.2.2.2.2.2.2.2.out)).mono ?_
 rintro e u3 ⟨rfl,hb3⟩;refine ⟨_,rfl,?_⟩;refine hK.out _ _ ⟨qA hb3 hHeld.1,qA hb3 hHeld.2.1,qA hb3 hHeld.2.2.1,qA hb3 hHeld.2.2.2.1,qA hb3 hHeld.2.2.2.2.1,qA hb3 hHeld.2.2.2.2.2.1,qA hb3 hHeld.2.2.2.2.2.2.1,qA hb3 hHeld.2.2.2.2.2.2.2.1,(HLK.out _ (qF hHeld.2.2.2.2.2.2.2.2.2.out hb3)).2,⟨qF hHeld.2.2.2.2.2.2.2.2.2.out hb3⟩⟩ (fun hHeld=>?_);clear hK K;refine qM (a':=?_) ?_ ?_;rotate_left
 ·show Act.put _ (some 19) _=_
  simp only [pn];rfl
 refine oo_ 26 524287 16 (some 22) (fun K hK=>?_);refine qR Tryz.func77 (by kernel_rfl) rfl #[.string g.f4] (by rfl) rfl rfl (by simp only [List.map_toArray,List.map_cons,List.map_nil]; rfl) ?_
 with_reducible refine (qGH g.f4 _).mono ?_
 rintro e u4 ⟨rfl,hb4⟩;refine ⟨_,rfl,?_⟩;refine hK.out _ _ ⟨qA hb4 hHeld.1,qA hb4 hHeld.2.1,qA hb4 hHeld.2.2.1,qA hb4 hHeld.2.2.2.1,qA hb4 hHeld.2.2.2.2.1,qA hb4 hHeld.2.2.2.2.2.1,qA hb4 hHeld.2.2.2.2.2.2.1,qA hb4 hHeld.2.2.2.2.2.2.2.1,(HLK.out _ (qF hHeld.2.2.2.2.2.2.2.2.2.out hb4)).2,⟨qF hHeld.2.2.2.2.2.2.2.2.2.out hb4⟩⟩ (fun hHeld=>?_);clear hK K;refine qM (a':=?_) ?_ ?_;rotate_left
 ·show Act.put _ (some 22) _=_
  simp only [pn];rfl
 refine oo_ 26 1048575 19 (some 25) (fun K hK=>?_);refine qR Tryz.func78 (by kernel_rfl) rfl #[.slice A5 g.f5.length c5] (by rfl) rfl rfl (by simp only [List.map_toArray,List.map_cons,List.map_nil]; rfl) ?_
 with_reducible refine (HNM.out _ hHeld.2.2.2.2.2.2.2.2.2.out).mono ?_
 rintro e u5 ⟨rfl,hb5⟩;refine ⟨_,rfl,?_⟩;refine hK.out _ _ ⟨qA hb5 hHeld.1,qA hb5 hHeld.2.1,qA hb5 hHeld.2.2.1,qA hb5 hHeld.2.2.2.1,qA hb5 hHeld.2.2.2.2.1,qA hb5 hHeld.2.2.2.2.2.1,qA hb5 hHeld.2.2.2.2.2.2.1,qA hb5 hHeld.2.2.2.2.2.2.2.1,(HLK.out _ (qF hHeld.2.2.2.2.2.2.2.2.2.out hb5)).2,⟨qF hHeld.2.2.2.2.2.2.2.2.2.out hb5⟩⟩ (fun hHeld=>?_);clear hK K;refine qM (a':=?_) ?_ ?_;rotate_left
 ·show Act.put _ (some 25) _=_
  simp only [pn];rfl
 refine pa_ 26 2097151 20 (some 26) (v:=?_) (a':=?_) ?_ ?_ ?_;rotate_left 2
 ·intro w';go_simp
  with_reducible rfl
 ·simp only [pn];rfl
 refine pa_ 26 4194303 21 (some 27) (v:=?_) (a':=?_) ?_ ?_ ?_;rotate_left 2
 ·intro w';go_simp
  with_reducible rfl
 ·simp only [pn];rfl
 refine oo_ 26 8388607 22 (some 28) (fun K hK=>?_);have HPre:=hHeld;refine Q1 (w1:=?_) (v:=?_) (by rfl) rfl ?_ ?_;rotate_left 2
 ·go_simp;constructor
  ·rfl
  ·rfl
 refine hK.out _ _ ⟨qA (qC (Below.refl _ _) _) hHeld.1,qA (qC (Below.refl _ _) _) hHeld.2.1,qA (qC (Below.refl _ _) _) hHeld.2.2.1,qA (qC (Below.refl _ _) _) hHeld.2.2.2.1,qA (qC (Below.refl _ _) _) hHeld.2.2.2.2.1,qA (qC (Below.refl _ _) _) hHeld.2.2.2.2.2.1,qA (qC (Below.refl _ _) _) hHeld.2.2.2.2.2.2.1,qA (qC (Below.refl _ _) _) hHeld.2.2.2.2.2.2.2.1,(HLK.out _ (qF hHeld.2.2.2.2.2.2.2.2.2.out (qC (Below.refl _ _) _))).2,⟨qF hHeld.2.2.2.2.2.2.2.2.2.out (qC (Below.refl _ _) _)⟩⟩ (fun hHeld=>?_);clear hK K;refine qM (a':=?_) ?_ ?_;rotate_left
 ·show Act.put _ (some 28) _=_
  simp only [pn];rfl
 refine oo_ 26 16777215 23 (some 29) (fun K hK=>?_);refine qR Tryz.func52 (by kernel_rfl) rfl #[.slice (some ⟨u5.heap.size,0,none⟩) 6 6] (by rfl) rfl rfl (by simp only [List.map_toArray,List.map_cons,List.map_nil]; rfl) ?_
 with_reducible refine (HWD.out u5).mono ?_
 rintro e u6 ⟨rfl,hb6⟩;refine ⟨_,rfl,?_⟩;refine hK.out _ _ ⟨qA hb6 HPre.1,qA hb6 HPre.2.1,qA hb6 HPre.2.2.1,qA hb6 HPre.2.2.2.1,qA hb6 HPre.2.2.2.2.1,qA hb6 HPre.2.2.2.2.2.1,qA hb6 HPre.2.2.2.2.2.2.1,qA hb6 HPre.2.2.2.2.2.2.2.1,(HLK.out _ (qF HPre.2.2.2.2.2.2.2.2.2.out hb6)).2,⟨qF HPre.2.2.2.2.2.2.2.2.2.out hb6⟩⟩ (fun hHeld=>?_);clear hK K;refine qM (a':=?_) ?_ ?_;rotate_left
 ·show Act.put _ (some 29) _=_
  simp only [pn];rfl
 refine pa_ 26 33554431 24 (some 30) (v:=?_) (a':=?_) ?_ ?_ ?_;rotate_left 2
 ·intro w';go_simp
  with_reducible rfl
 ·simp only [pn];rfl
 refine pa_ 26 67108863 25 (some 3) (v:=?_) (a':=?_) ?_ ?_ ?_;rotate_left 2
 ·intro w';go_simp
  with_reducible rfl
 ·simp only [pn];rfl
 refine qn (by kernel_rfl) ?_;have eH:((⟨#[32,32]⟩:ByteArray)++⟨(Lib.join (Qe g) [32]).toArray⟩)=⟨(qAC g).toArray⟩:=qAd [32,32] _;have HB6:=hHeld.2.2.2.2.2.2.2.2.2;have d6:=hHeld.2.2.2.2.2.2.1;rw [eH];clear hHeld HPre eH eN ng1 ng2 ng3 hnl hjl kf c0 c1 c2 c3 c4 c5' c6' HWD HNM HLK;have hLH:(qAC g).length≤20000000:=HLH.out;have HS0:Hid (qAC g=qAC g++(g.f6.take 0).flatMap Qz):=Lib.hid (by simp);have HFin:Hid (q8 g=qAC g++(g.f6.take g.f6.length).flatMap Qz):=Lib.hid (by rw [List.take_length]; rfl);generalize hH:qAC g=H at *;clear hH;go_wp2
 go_loopw [3,34] (fun sv v wr=>∃(i:Nat) (acc:List UInt8),i≤g.f6.length∧v=.int .i64 i∧sv=.string ⟨acc.toArray⟩∧acc.length≤20000000+i*4100000∧Hid (acc=H++(g.f6.take i).flatMap Qz)∧qB (Below w.heap.size w wr)) (fun _ v _=>g.f6.length - (intOf v).toNat)
 case atStart=>exact ⟨0,H,by omega,rfl,rfl,by omega,HS0,HB6⟩
 case round=>
  obtain ⟨i,acc,hi,rfl,rfl,hal,HAC,HBr⟩:=hrel;clear HB6 d6 HS0;by_cases hlt:i<g.f6.length
  ·obtain ⟨ad,rfl,g0,g1,g2,g3⟩:=qA2 (Kd.C_below HC6.out.2 HBr.out) (i:Int) (by omega) (by omega);have hrd:QK g.f6 (i:Int)=g.f6[i]:=by simp [QK,List.getD_eq_getElem?_getD,List.getElem?_eq_getElem hlt]
   have hao:=HKA.out.2 g.f6[i] (List.getElem_mem hlt);have htk:(g.f6.take (i+1)).flatMap Qz=(g.f6.take i).flatMap Qz++Qz g.f6[i]:=by rw [List.take_succ_eq_append_getElem hlt,List.flatMap_append]; simp
   rw [hrd] at g0 g1 g2 g3;simp only [Int.toNat_natCast] at g0 g1 g2 g3;have HTK:=Lib.hid htk;clear htk hrd;generalize g.f6[i]=a at *;have HAO:=Lib.hid hao;have hjl:(Lib.join (QO a) [58]).length≤4000100:=qEJ a hao;have HJN:Hid (∀u:World,Calls Tryz.prog 75 #[.slice (some ⟨u.heap.size,0,none⟩) 4 4,.string ⟨#[58]⟩] (u.alloc (.cells #[.string ⟨(Lib.itoa a.f0).toArray⟩,.string ⟨(qAX a.f1.data.toList).toArray⟩,.string ⟨(Lib.itoa a.f2).toArray⟩,.string ⟨(Lib.itoa a.f3).toArray⟩] 9)) fun e w'=>e=.returned (.string ⟨(Lib.join (QO a) [58]).toArray⟩)∧Below u.heap.size u w'):=Lib.hid (fun u=>qFC [58] (QO a) u (show 0<4 by decide) (show 4≤1000 by decide) (by omega));have hx4:=qV wr (.cells #[.int .i64 a.f0,.string a.f1,.int .i64 a.f2,.int .i64 a.f3] 86);have x0:=qD hx4 (i:=0) rfl;have x1:=qD hx4 (i:=1) rfl;have x2:=qD hx4 (i:=2) rfl;have x3:=qD hx4 (i:=3) rfl;have HB4:=qB.mk (qC HBr.out (.cells #[.int .i64 a.f0,.string a.f1,.int .i64 a.f2,.int .i64 a.f3] 86));have HNX:Hid (Qz a=32::Lib.join (QO a) [58]):=Lib.hid rfl;have eJ:((⟨#[32]⟩:ByteArray)++⟨(Lib.join (QO a) [58]).toArray⟩)=⟨(32::Lib.join (QO a) [58]).toArray⟩:=qAd [32] _;have eA:((⟨acc.toArray⟩:ByteArray)++⟨(32::Lib.join (QO a) [58]).toArray⟩)=⟨(acc++32::Lib.join (QO a) [58]).toArray⟩:=qAd acc _;have ng1:(9223372036854775807<1+(Lib.join (QO a) [58]).length)=False:=eq_false (by omega)
   have ng2:(9223372036854775807<acc.length+((Lib.join (QO a) [58]).length+1))=False:=eq_false (by have:=HKA.out.1; omega);have ng3:(9223372036854775807<acc.length+(1+(Lib.join (QO a) [58]).length))=False:=eq_false (by have:=HKA.out.1; omega);clear hx4 hao;go_wp2;generalize wr.alloc (.cells #[.int .i64 a.f0,.string a.f1,.int .i64 a.f2,.int .i64 a.f3] 86)=W4 at *;generalize wr.heap.size=p4 at *;refine qU (n:=18) (S:=fun w'=>w'.cell? ⟨p4,0,none⟩=some (.int .i64 a.f0)∧w'.cell? ⟨p4,1,none⟩=some (.string a.f1)∧w'.cell? ⟨p4,2,none⟩=some (.int .i64 a.f2)∧w'.cell? ⟨p4,3,none⟩=some (.int .i64 a.f3)∧qB (Below w.heap.size w w')) (ds:=[]) (mA 18 0) (by kernel_rfl) rfl rfl ⟨x0,x1,x2,x3,⟨qE HB4.out⟩⟩ (fun hHeld=>?_);refine pa_ 18 1 0 (some 38) (v:=?_) (a':=?_) ?_ ?_ ?_;rotate_left 2
   ·intro w';go_simp
    with_reducible rfl
   ·simp only [pn];rfl
   refine pa_ 18 3 1 (some 39) (v:=?_) (a':=?_) ?_ ?_ ?_;rotate_left 2
   ·intro w';go_simp
    with_reducible rfl
   ·simp only [pn];rfl
   refine pa_ 18 19 4 (some 42) (v:=?_) (a':=?_) ?_ ?_ ?_;rotate_left 2
   ·intro w';go_simp
    with_reducible rfl
   ·simp only [pn];rfl
   refine pa_ 18 147 7 (some 45) (v:=?_) (a':=?_) ?_ ?_ ?_;rotate_left 2
   ·intro w';go_simp
    with_reducible rfl
   ·simp only [pn];rfl
   refine pa_ 18 1171 10 (some 48) (v:=?_) (a':=?_) ?_ ?_ ?_;rotate_left 2
   ·intro w';go_simp
    with_reducible rfl
   ·simp only [pn];rfl
   refine tb_ 18 1175 2 (some 40) (v:=?_) (a':=?_) hHeld ?_ ?_ ?_;rotate_left 2
   ·rintro w' ⟨s0,s1,s2,s3,s4⟩;go_simp
    with_reducible rfl
   ·simp only [pn];rfl
   refine tb_ 18 1207 5 (some 43) (v:=?_) (a':=?_) hHeld ?_ ?_ ?_;rotate_left 2
   ·rintro w' ⟨s0,s1,s2,s3,s4⟩;go_simp
    with_reducible rfl
   ·simp only [pn];rfl
   refine tb_ 18 1463 8 (some 46) (v:=?_) (a':=?_) hHeld ?_ ?_ ?_;rotate_left 2
   ·rintro w' ⟨s0,s1,s2,s3,s4⟩;go_simp
    with_reducible rfl
   ·simp only [pn];rfl
   refine tb_ 18 3511 11 (some 49) (v:=?_) (a':=?_) hHeld ?_ ?_ ?_;rotate_left 2
   ·rintro w' ⟨s0,s1,s2,s3,s4⟩;go_simp
    with_reducible rfl
   ·simp only [pn];rfl
   refine oo_ 18 3519 3 (some 41) (fun K hK=>?_);refine qR Tryz.func53 (by kernel_rfl) rfl #[.int .i64 a.f0] (by rfl) rfl rfl (by simp only [List.map_toArray,List.map_cons,List.map_nil]; rfl) ?_
   with_reducible refine (Qg a.f0 HAO.out.1 _ (HT.out.below hHeld.2.2.2.2.out)).mono ?_
   rintro e u0 ⟨rfl,hb0⟩;refine ⟨_,rfl,?_⟩;refine hK.out _ _ ⟨qA hb0 hHeld.1,qA hb0 hHeld.2.1,qA hb0 hHeld.2.2.1,qA hb0 hHeld.2.2.2.1,⟨qF hHeld.2.2.2.2.out hb0⟩⟩ (fun hHeld=>?_);clear hK K;refine qM (a':=?_) ?_ ?_;rotate_left
   ·show Act.put _ (some 41) _=_
    simp only [pn];rfl
   refine oo_ 18 3583 6 (some 44) (fun K hK=>?_);refine qR Tryz.func77 (by kernel_rfl) rfl #[.string a.f1] (by rfl) rfl rfl (by simp only [List.map_toArray,List.map_cons,List.map_nil]; rfl) ?_
   with_reducible refine (qGH a.f1 _).mono ?_
   rintro e u1 ⟨rfl,hb1⟩;refine ⟨_,rfl,?_⟩;refine hK.out _ _ ⟨qA hb1 hHeld.1,qA hb1 hHeld.2.1,qA hb1 hHeld.2.2.1,qA hb1 hHeld.2.2.2.1,⟨qF hHeld.2.2.2.2.out hb1⟩⟩ (fun hHeld=>?_);clear hK K;refine qM (a':=?_) ?_ ?_;rotate_left
   ·show Act.put _ (some 44) _=_
    simp only [pn];rfl
   refine oo_ 18 4095 9 (some 47) (fun K hK=>?_);refine qR Tryz.func53 (by kernel_rfl) rfl #[.int .i64 a.f2] (by rfl) rfl rfl (by simp only [List.map_toArray,List.map_cons,List.map_nil]; rfl) ?_
   with_reducible refine (Qg a.f2 HAO.out.2.2.1 _ (HT.out.below hHeld.2.2.2.2.out)).mono ?_
   rintro e u2 ⟨rfl,hb2⟩;refine ⟨_,rfl,?_⟩;refine hK.out _ _ ⟨qA hb2 hHeld.1,qA hb2 hHeld.2.1,qA hb2 hHeld.2.2.1,qA hb2 hHeld.2.2.2.1,⟨qF hHeld.2.2.2.2.out hb2⟩⟩ (fun hHeld=>?_);clear hK K;refine qM (a':=?_) ?_ ?_;rotate_left
   ·show Act.put _ (some 47) _=_
    simp only [pn];rfl
   refine oo_ 18 8191 12 (some 50) (fun K hK=>?_);refine qR Tryz.func53 (by kernel_rfl) rfl #[.int .i64 a.f3] (by rfl) rfl rfl (by simp only [List.map_toArray,List.map_cons,List.map_nil]; rfl) ?_
   with_reducible refine (Qg a.f3 HAO.out.2.2.2 _ (HT.out.below hHeld.2.2.2.2.out)).mono ?_
   rintro e u3 ⟨rfl,hb3⟩;refine ⟨_,rfl,?_⟩;refine hK.out _ _ ⟨qA hb3 hHeld.1,qA hb3 hHeld.2.1,qA hb3 hHeld.2.2.1,qA hb3 hHeld.2.2.2.1,⟨qF hHeld.2.2.2.2.out hb3⟩⟩ (fun hHeld=>?_);clear hK K;refine qM (a':=?_) ?_ ?_;rotate_left
   ·show Act.put _ (some 50) _=_
    simp only [pn];rfl
   refine oo_ 18 16383 13 (some 51) (fun K hK=>?_);have HPre:=hHeld;refine Q1 (w1:=?_) (v:=?_) (by rfl) rfl ?_ ?_;rotate_left 2
   ·go_simp;constructor
    ·rfl
    ·rfl
   refine hK.out _ _ ⟨qA (qC (Below.refl _ _) _) hHeld.1,qA (qC (Below.refl _ _) _) hHeld.2.1,qA (qC (Below.refl _ _) _) hHeld.2.2.1,qA (qC (Below.refl _ _) _) hHeld.2.2.2.1,⟨qF hHeld.2.2.2.2.out (qC (Below.refl _ _) _)⟩⟩ (fun hHeld=>?_);clear hK K;refine qM (a':=?_) ?_ ?_;rotate_left
   ·show Act.put _ (some 51) _=_
    simp only [pn];rfl
   refine oo_ 18 32767 14 (some 52) (fun K hK=>?_);refine qR Tryz.func75 (by kernel_rfl) rfl #[.slice (some ⟨u3.heap.size,0,none⟩) 4 4,.string ⟨#[58]⟩] (by rfl) rfl rfl (by simp only [List.map_toArray,List.map_cons,List.map_nil]; rfl) ?_
   with_reducible refine (HJN.out u3).mono ?_
   rintro e u6 ⟨rfl,hb6⟩;refine ⟨_,rfl,?_⟩;refine hK.out _ _ ⟨qA hb6 HPre.1,qA hb6 HPre.2.1,qA hb6 HPre.2.2.1,qA hb6 HPre.2.2.2.1,⟨qF HPre.2.2.2.2.out hb6⟩⟩ (fun hHeld=>?_);clear hK K;refine qM (a':=?_) ?_ ?_;rotate_left
   ·show Act.put _ (some 52) _=_
    simp only [pn];rfl
   refine pa_ 18 65535 15 (some 53) (v:=?_) (a':=?_) ?_ ?_ ?_;rotate_left 2
   ·intro w';go_simp
    with_reducible rfl
   ·simp only [pn];rfl
   refine pa_ 18 131071 16 (some 54) (v:=?_) (a':=?_) ?_ ?_ ?_;rotate_left 2
   ·intro w';go_simp
    with_reducible rfl
   ·simp only [pn];rfl
   refine pa_ 18 262143 17 (some 3) (v:=?_) (a':=?_) ?_ ?_ ?_;rotate_left 2
   ·intro w';go_simp
    with_reducible rfl
   ·simp only [pn];rfl
   refine qn (by kernel_rfl) ?_;have HBn:=hHeld.2.2.2.2;have HN:Hid (acc++32::Lib.join (QO a) [58]=H++(g.f6.take (i+1)).flatMap Qz):=Lib.hid (by rw [HTK.out,←List.append_assoc,←HAC.out,HNX.out]);clear hHeld HPre HJN HB4 x0 x1 x2 x3;go_wp2;go_roundw
   case rel=>exact ⟨i+1,_,by omega,by go_num,rfl,by rw [List.length_append,List.length_cons]; omega,HN,HBn⟩
   case measure=>simp [intOf]; omega
  ·obtain rfl:i=g.f6.length:=by omega
   have HE:Hid (acc=q8 g):=Lib.hid (HAC.out.trans HFin.out.symm);go_wp2;go_ret;exact ⟨by rw [←HE.out]; rfl,HBr.out⟩
end Go.Proofs.YtoonkkipnljflaaGreatDoor.CJ
