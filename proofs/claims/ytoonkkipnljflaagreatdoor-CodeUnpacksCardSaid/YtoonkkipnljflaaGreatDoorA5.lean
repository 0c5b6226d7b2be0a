/- The law CodeUnpacks: the Go function answers true for all strings. Conditions: the listed variables are laid. -/
import Derived.Test.YtoonkkipnljflaaGreatDoorG4
import Derived.Test.YtoonkkipnljflaaGreatDoorS5
import Derived.Test.YtoonkkipnljflaaGreatDoorRR
namespace Go.Proofs.YtoonkkipnljflaaGreatDoor.CJ
open Go.RowKit Go.Proofs.YtoonkkipnljflaaGreatDoorW.PrintWords Go.Proofs.YtoonkkipnljflaaGreatDoorW.PrintLast Go.Proofs.YtoonkkipnljflaaGreatDoor.PT Go.Proofs.YtoonkkipnljflaaGreatDoor.IMaps
set_option linter.unusedVariables false
set_option linter.unusedSimpArgs false
theorem min2k(k k':IntKind)(x y:Int):Builtin.min2 (.int k x) (.int k' y)=pure (.int k (if y<x then y else x)):=by simp only [Builtin.min2]
theorem min2q(ats:Array TypeId)(ty:TypeId)(a b:Value):Builtin.min_ ats ty #[a,b]=(Builtin.min2 a b >>= fun s=>pure s):=by simp only [Builtin.min_,List.foldlM_cons,List.foldlM_nil]
theorem min_k(ats:Array TypeId)(ty:TypeId)(x y:Int)(W:World):(Builtin.min_ ats ty #[.int .i64 x,.int .i64 y]).run Tryz.prog W=.ok (.int .i64 (min x y)) W:=by
 rw [min2q,min2k];by_cases h:y<x
 ·rw [if_pos h,show min x y=y from Int.min_eq_right (by omega)]; rfl
 ·rw [if_neg h,show min x y=x from Int.min_eq_left (by omega)]; rfl
theorem qIY(w:World):Calls Tryz.prog 10 #[.agg #[.slice none 0 0,.slice none 0 0]] w fun e w'=>e=.returned (.bool true)∧Below w.heap.size w w':=by
 have HB:=qB.mk (qC (Below.refl w.heap.size w) (.cells #[.slice none 0 0,.slice none 0 0] 27));go_enter Tryz.func10,Tryz.ntmps10;go_wp2;go_ret;exact ⟨rfl,HB.out⟩
structure TwoS(w W:World)(g:Nat)(T U:List UInt8):Prop where
 below:Below w.heap.size w W
 new:w.heap.size≤g
 row:W.heap[g]? = some (.cells #[.string ⟨T.toArray⟩,.string ⟨U.toArray⟩] 9 (0,0))
theorem TwoS.far{w W W':World}{g:Nat}{T U:List UInt8}(h:TwoS w W g T U)(hb:Below W.heap.size W W'):TwoS w W' g T U:=
 ⟨qF h.below hb,h.new,(hb.block _ (Array.getElem?_eq_some_iff.1 h.row).1).trans h.row⟩
def qCO(T:List UInt8)(i:Nat):List UInt8:=if i=0 then T else QE T
theorem TwoS.cell{w W:World}{g:Nat}{T:List UInt8}(h:TwoS w W g T (QE T))(i:Nat)(hi:i<2):W.cell? ⟨g,i,none⟩=some (.string ⟨(qCO T i).toArray⟩):=by
 have:i=0∨i=1:=by omega
 rcases this with rfl|rfl
 ·exact qD h.row (i:=0) rfl
 ·exact qD h.row (i:=1) rfl
theorem qK7(T:List UInt8)(i:Nat):(qCO T i).length≤T.length+4:=by
 unfold qCO; split
 ·omega
 ·rw [qDr]; omega
set_option maxRecDepth 100000 in
set_option maxHeartbeats 8000000 in
theorem lawUnpacks_calls(w:World)(l:List UInt8)(hll:l.length≤9223372036854775807)(hR:RW w)(rl:LR w):
 Calls Tryz.prog 3 #[.string ⟨l.toArray⟩] w fun e w'=>e=.returned (.bool true)∧Below w.heap.size w w':=by
 have HR:=Lib.hid hR;have HL:=Lib.hid rl;obtain ⟨k,hk⟩:∃k:Nat,k=min l.length 210000:=⟨_,rfl⟩;have hkl:k≤l.length:=by omega
 have hmin:∀ats ty (W:World),(Builtin.min_ ats ty #[.int .i64 (l.length:Int),.int .i64 210000]).run Tryz.prog W=.ok (.int .i64 (k:Int)) W:=fun ats ty W=>by
  rw [min_k,show min (l.length:Int) 210000=(k:Int) by omega]
 have hsl:=fun W=>cutS l k hkl W
 obtain ⟨T,hT⟩:∃T,T=l.take k:=⟨_,rfl⟩;rw [←hT] at hsl;have hTl:T.length≤210000:=by rw [hT,List.length_take]; omega
 have HB0:=qB.mk (Below.refl w.heap.size w);clear hT hk hR rl hkl;go_enter Tryz.func3,Tryz.ntmps3;go_wp2_with fail;refine (qCE T (by omega) _).mono ?_;rintro e w1 ⟨rfl,hb1⟩;clear hmin hsl;have HT:qB (TwoS w (w1.alloc (.cells #[.string ⟨T.toArray⟩,.string ⟨(QE T).toArray⟩] 9)) w1.heap.size T (QE T)):=⟨⟨qC hb1 _,hb1.size,qV w1 _⟩⟩;clear hb1 HB0;go_wp2_with fail;generalize w1.alloc (.cells #[.string ⟨T.toArray⟩,.string ⟨(QE T).toArray⟩] 9)=w2 at *;generalize w1.heap.size=g at *;have hk0:T.length+4≤140737488355328:=by omega
 have HTl:=Lib.hid hTl;clear hTl hll
 go_loopw [20] (fun v wr=>∃i:Nat,i≤2∧v=.int .i64 i∧qB (TwoS w wr g T (QE T))) (fun v _=>2 - (intOf v).toNat)
 case atStart=>exact ⟨0,by omega,rfl,HT⟩
 case round=>
  obtain ⟨i,hi,rfl,HS⟩:=hrel;clear HT;by_cases hlt:i<2
  ·have hc:=HS.out.cell i hlt;have hX:(qCO T i).length≤210004:=by have:=qK7 T i; have:=HTl.out; omega
   have HU:=Lib.hid (qDp wr (qCO T i) ((HR.out.below HS.out.below).lw) (by omega));have HV:=Lib.hid (fun W (hb:Below w.heap.size w W)=>qFB W (qCO T i) (HL.out.below hb) (by omega));have hi1:RowKit.wrap64 ((i:Int)+1)=(i:Int)+1:=IntWalk.wrap64_in _ (by omega);have HSm:=Lib.hid (fun W=>qDi ⟨(qCO T i).toArray⟩ (by unfold maxLen; simp [ByteArray.size]; omega) W);have HRm:=Lib.hid (fun W=>qDs ⟨(qCO T i).toArray⟩ (by unfold maxLen; simp [ByteArray.size]; omega) W);generalize qCO T i=X at *;clear hX;go_wp2_with fail;refine HU.out.mono ?_;intro e w3 hp;cases hu:q7 X with
   |none=>
    rw [hu] at hp HV;obtain ⟨rfl,hb3⟩:=hp;have HS3:=qB.mk (HS.out.far (qC hb3 (.cells #[.slice none 0 0,.slice none 0 0] 27)));have HX3:=qB.mk (qV w3 (.cells #[.slice none 0 0,.slice none 0 0] 27));clear hb3 HS hu HU hc;go_wp2_with fail;generalize w3.alloc (.cells #[.slice none 0 0,.slice none 0 0] 27)=w4 at *;generalize w3.heap.size=p6 at *;refine (HV.out _ HS3.out.below).mono ?_;rintro e w5 ⟨rfl,hb5⟩;have hbz:=qC (Below.refl w5.heap.size w5) (.cells #[.slice none 0 0,.slice none 0 0] 27);have HS5:=qB.mk ((HS3.out.far hb5).far hbz);have HX5:=qB.mk (qK (qK HX3.out hb5) hbz);clear hb5 HS3 HX3 HV hbz;go_wp2_with fail;generalize w5.alloc (.cells #[.slice none 0 0,.slice none 0 0] 27)=w6 at *;have x0:=qD HX5.out (i:=0) rfl;have x1:=qD HX5.out (i:=1) rfl;refine (HSm.out _).mono ?_;rintro e wz ⟨rfl,rfl⟩;go_wp2_with fail;refine (HRm.out _).mono ?_;rintro e wz ⟨rfl,rfl⟩;go_wp2_with fail;refine (qIY _).mono ?_;rintro e w7 ⟨rfl,hb7⟩;have HSe:=qB.mk (HS5.out.far hb7);clear hb7 HS5 HX5 x0 x1;go_wp2;go_roundw
    case rel=>exact ⟨i+1,by omega,by go_num,HSe⟩
    case measure=>simp [intOf]; omega
   |some c=>
    rw [hu] at hp HV;obtain ⟨v,rfl,hv,hb3⟩:=hp;obtain ⟨A,ca,A2,cb,rfl,hm⟩:=qDQ hv;obtain ⟨bs,gl⟩:=c;have hbz:=qC (Below.refl w3.heap.size w3) (.cells #[.slice A bs.length ca,.slice A2 gl.length cb] 27);have HS3:=qB.mk ((HS.out.far hb3).far hbz);have HC3:=qB.mk (hm.below hbz);have HX3:=qB.mk (qV w3 (.cells #[.slice A bs.length ca,.slice A2 gl.length cb] 27));clear hb3 HS hu HU hc hv hm hbz;simp only at HC3;unfold qw;go_wp2_with fail;generalize w3.alloc (.cells #[.slice A bs.length ca,.slice A2 gl.length cb] 27)=w4 at *;generalize w3.heap.size=p6 at *;refine (HV.out _ HS3.out.below).mono ?_;rintro e w5 ⟨v,rfl,hv,hb5⟩;obtain ⟨B,da,B2,db,rfl,hm⟩:=qDQ hv;simp only at hm;have hbz:=qC (Below.refl w5.heap.size w5) (.cells #[.slice B bs.length da,.slice B2 gl.length db] 27);have HS5:=qB.mk ((HS3.out.far hb5).far hbz);have HC5:=qB.mk ((HC3.out.below hb5).below hbz);have HD5:=qB.mk (hm.below hbz);have HX5:=qB.mk (qK (qK HX3.out hb5) hbz);have HY5:=qB.mk (qV w5 (.cells #[.slice B bs.length da,.slice B2 gl.length db] 27));clear hb5 HS3 HX3 HC3 HV hbz hv hm;unfold qw;go_wp2_with fail;generalize w5.alloc (.cells #[.slice B bs.length da,.slice B2 gl.length db] 27)=w6 at *;generalize w5.heap.size=p8 at *;have x0:=qD HX5.out (i:=0) rfl;have x1:=qD HX5.out (i:=1) rfl;have y0:=qD HY5.out (i:=0) rfl;have y1:=qD HY5.out (i:=1) rfl;refine (HSm.out _).mono ?_;rintro e wz ⟨rfl,rfl⟩;go_wp2_with fail
    refine (HRm.out _).mono ?_;rintro e wz ⟨rfl,rfl⟩;go_wp2_with fail;refine (qD5 HC5.out HD5.out).mono ?_;rintro e w7 ⟨rfl,hb7⟩;have HSe:=qB.mk (HS5.out.far hb7);clear hb7 HS5 HX5 HY5 HC5 HD5 x0 x1 y0 y1;go_wp2;go_roundw
    case rel=>exact ⟨i+1,by omega,by go_num,HSe⟩
    case measure=>simp [intOf]; omega
  ·obtain rfl:i=2:=by omega
   have HB:=qB.mk HS.out.below;clear HS HL;go_wp2_with fail;refine (qIX _ (HR.out.below HB.out)).mono ?_;rintro e w3 ⟨rfl,hb3⟩;have HB3:=qB.mk (qF HB.out hb3);clear hb3;go_wp2;go_ret;exact ⟨rfl,HB3.out⟩
end Go.Proofs.YtoonkkipnljflaaGreatDoor.CJ
