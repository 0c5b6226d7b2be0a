/- Equality of lists, element by element. Conditions: the lists lie in memory. The reference's comparison of two operations; its weight of a code; the law's function small. Conditions: the code lies in memory. -/
import Derived.Test.YtoonkkipnljflaaGreatDoorCF
import Derived.BigQuiet
import Derived.Laws.StructEq
import Derived.Test.YtoonkkipnljflaaGreatDoorDD
namespace Go.Proofs.YtoonkkipnljflaaGreatDoor.CJ
open Go.RowKit Go.Proofs.YtoonkkipnljflaaGreatDoorW.PrintWords Go.Proofs.YtoonkkipnljflaaGreatDoorW.PrintLast Go.Proofs.YtoonkkipnljflaaGreatDoor.PT Go.Proofs.YtoonkkipnljflaaGreatDoor.IMaps
set_option linter.unusedVariables false
set_option linter.unusedSimpArgs false
def eqL{α:Type}(f:α→α→Bool):List α→List α→Bool
 | [],[]=>true
 |x::r,y::q=>f x y&&eqL f r q
 |_,_=>false
theorem qCR{α:Type}(f:α→α→Bool):∀(l1 l2:List α),l1.length≠l2.length→eqL f l1 l2=false
 | [],[],h=>absurd rfl h
 | [],_::_,_=>rfl
 |_::_,[],_=>rfl
 |_::r,_::q,h=>by simp only [eqL]; rw [qCR f r q (fun e=>h (by simp [e]))]; simp
theorem qBw{α:Type}(f:α→α→Bool)(hf:∀x,f x x=true):∀l:List α,eqL f l l=true
 | []=>rfl
 |x::r=>by simp only [eqL,hf,qBw f hf r,Bool.and_self]
theorem qCf{α:Type}(f:α→α→Bool)(z:α)(l1 l2:List α)(j:Nat)(h1:j<l1.length)(h2:j<l2.length):eqL f (l1.drop j) (l2.drop j)=(f (l1.getD j z) (l2.getD j z)&&eqL f (l1.drop (j+1)) (l2.drop (j+1))):=by
 have e1:l1.getD j z=l1[j]:=by simp [List.getD_eq_getElem?_getD,List.getElem?_eq_getElem h1]
 have e2:l2.getD j z=l2[j]:=by simp [List.getD_eq_getElem?_getD,List.getElem?_eq_getElem h2]
 rw [e1,e2,List.drop_eq_getElem_cons h1,List.drop_eq_getElem_cons h2];rfl
theorem qC1{α:Type}(f:α→α→Bool)(l1 l2:List α)(h:l1.length=l2.length):eqL f (l1.drop l1.length) (l2.drop l1.length)=true:=by
 rw [List.drop_eq_nil_of_le (by omega),List.drop_eq_nil_of_le (by omega)]; rfl
def eqI(x y:Int):Bool:=x==y
def eqAl(x y:GAl):Bool:=x.f0==y.f0&&(x.f1.toList==y.f1.toList&&(x.f2==y.f2&&x.f3==y.f3))
def eqGl(x y:GGl):Bool:=x.f0.toList==y.f0.toList&&x.f1==y.f1
def eqOp(x y:GOp):Bool:=x.f0==y.f0&&(x.f1==y.f1&&(x.f2==y.f2&&(x.f3==y.f3&&(x.f4.toList==y.f4.toList&&(eqL eqI x.f5 y.f5&&eqL eqAl x.f6 y.f6)))))
def eqBk(x y:GBk):Bool:=x.f0==y.f0&&(x.f1==y.f1&&eqL eqOp x.f2 y.f2)
def eqC(b1 b2:List GBk)(g1 g2:List GGl):Bool:=eqL eqGl g1 g2&&eqL eqBk b1 b2
theorem eqC_refl(b:List GBk)(g:List GGl):eqC b b g g=true:=by
 have h0:∀x,eqAl x x=true:=fun x=>by simp [eqAl]
 have h1:∀x,eqOp x x=true:=fun x=>by simp [eqOp,qBw eqAl h0,qBw eqI (fun x=>by simp [eqI])]
 have h2:∀x,eqBk x x=true:=fun x=>by simp [eqBk,qBw eqOp h1]
 have h3:∀x,eqGl x x=true:=fun x=>by simp [eqGl]
 simp [eqC,qBw eqBk h2,qBw eqGl h3]
theorem al_eq(x y:GAl)(d:Nat)(W:World):(Op.equalIn (d+2) 86 (.agg #[.int .i64 x.f0,.string x.f1,.int .i64 x.f2,.int .i64 x.f3]) (.agg #[.int .i64 y.f0,.string y.f1,.int .i64 y.f2,.int .i64 y.f3])).run Tryz.prog W=.ok (eqAl x y) W:=by
 refine eqA_of Tryz.underlying86 (by kernel_rfl) ?_;refine qC5 (by rfl) (by go_simp; rfl) (by go_simp; rfl) (by go_simp) ?_;refine qC5 (by rfl) (by go_simp; rfl) (by go_simp; rfl) (by go_simp) ?_;refine qC5 (by rfl) (by go_simp; rfl) (by go_simp; rfl) (by go_simp) ?_;exact qGt (by rfl) (by go_simp; rfl) (by go_simp; rfl) (by go_simp)
theorem gl_eq(x y:GGl)(d:Nat)(W:World):(Op.equalIn (d+2) 63 (.agg #[.string x.f0,.int .i64 x.f1]) (.agg #[.string y.f0,.int .i64 y.f1])).run Tryz.prog W=.ok (eqGl x y) W:=by
 refine eqA_of Tryz.underlying63 (by kernel_rfl) ?_;refine qC5 (by rfl) (by go_simp; rfl) (by go_simp; rfl) (by go_simp) ?_;exact qGt (by rfl) (by go_simp; rfl) (by go_simp; rfl) (by go_simp)
attribute [local go_sem high] al_eq gl_eq
theorem bnI(x y:Int):(x != y) = !eqI x y:=rfl
set_option maxRecDepth 100000 in
set_option maxHeartbeats 4000000 in
theorem qGj(w:World)(l1 l2:List Int)(A B:Option Addr)(c d:Nat)(C1:(Kd.int .i64).C w A l1.length l1)(C2:(Kd.int .i64).C w B l2.length l2):
 Calls Tryz.prog 50 #[.slice A l1.length c,.slice B l2.length d] w fun e w'=>e=.returned (.bool (eqL eqI l1 l2))∧Below w.heap.size w w':=by
 have hm:=C1.2.1;have K1:=qB.mk C1;have K2:=qB.mk C2;clear C1 C2;rcases Classical.em (l1.length=l2.length) with hlen|hlen
 ·have d1:((l1.length:Int) != (l2.length:Int))=false:=by rw [bne_eq_false_iff_eq]; omega
  have HL:=Lib.hid hlen;clear hlen;go_enter Tryz.func50,Tryz.ntmps50;go_wp2
  go_loopw [5] (fun i wr=>∃j:Nat,j≤l1.length∧i=.int .i64 j∧qB (eqL eqI (l1.drop j) (l2.drop j)=eqL eqI l1 l2)∧qB (Below w.heap.size w wr)) (fun i _=>l1.length - (intOf i).toNat)
  case atStart=>exact ⟨0,by omega,rfl,⟨rfl⟩,⟨Below.refl _ _⟩⟩
  case round=>
   obtain ⟨j,hj,rfl,HA,HB⟩:=hrel;by_cases hlt:j<l1.length
   ·have hlt2:j<l2.length:=by have:=HL.out; omega
    obtain ⟨ad,e3,hx0⟩:=Kd.at_int K1.out (j:Int) (by omega) (by omega);obtain ⟨bd,f3,hy0⟩:=Kd.at_int K2.out (j:Int) (by omega) (by omega);cases e3;cases f3;replace hx0:=(HB.out.cell (World.block_lt_of_cell? w _ hx0)).trans hx0;replace hy0:=(HB.out.cell (World.block_lt_of_cell? w _ hy0)).trans hy0;simp only [Int.toNat_natCast] at hx0 hy0;have HS:=qB.mk (qCf eqI 0 l1 l2 j hlt hlt2);have eX:rd l1 (j:Int)=l1.getD j 0:=rfl;have eY:rd l2 (j:Int)=l2.getD j 0:=rfl;rw [eX] at hx0;rw [eY] at hy0;clear eX eY;generalize hX:l1.getD j 0=X at *;generalize hY:l2.getD j 0=Y at *;clear hX hY;have z1:(0≤(j:Int))=True:=eq_true (by omega);have z2:((j:Int)<(l1.length:Int))=True:=eq_true (by omega);have z3:((j:Int)<(l2.length:Int))=True:=eq_true (by omega);cases hr:eqI X Y
    ·have HR1:=qB.mk (show eqL eqI l1 l2=false by rw [←HA.out,HS.out,hr]; rfl);have hr1:(X != Y)=true:=by rw [bnI,hr]; rfl
     go_wp2
     repeat (go_quiet (fail); try go_wp2)
     go_ret;exact ⟨by rw [HR1.out]; rfl,by repeat (first|exact HB.out|apply qO|apply below_drew1)⟩
    ·have HR1:=qB.mk (show eqL eqI (l1.drop (j+1)) (l2.drop (j+1))=eqL eqI l1 l2 by rw [←HA.out,HS.out,hr]; simp);have hr1:(X != Y)=false:=by rw [bnI,hr]; rfl
     go_wp2
     repeat (go_quiet (fail); try go_wp2)
     go_roundw
     case rel=>exact ⟨j+1,by omega,by go_num,HR1,⟨by repeat (first|exact HB.out|apply qO|apply below_drew1)⟩⟩
     case measure=>simp [intOf]; omega
   ·have hje:j=l1.length:=by omega
    subst hje;have HR1:=qB.mk (show eqL eqI l1 l2=true by rw [←HA.out]; exact qC1 _ _ _ HL.out);go_wp2
    repeat (go_quiet (fail); try go_wp2)
    go_ret;exact ⟨by rw [HR1.out]; rfl,by repeat (first|exact HB.out|apply qO|apply below_drew1)⟩
 ·have d1:((l1.length:Int) != (l2.length:Int))=true:=by rw [bne_iff_ne]; omega
  have HL:=qB.mk (qCR eqI l1 l2 hlen);have d2:(l1.length != l2.length)=true:=by rw [bne_iff_ne]; exact hlen
  clear hlen;go_enter Tryz.func50,Tryz.ntmps50;go_wp2;go_ret;exact ⟨by rw [HL.out]; rfl,Below.refl _ _⟩
end Go.Proofs.YtoonkkipnljflaaGreatDoor.CJ
namespace Go.Proofs.YtoonkkipnljflaaGreatDoor.CJ
open Go.RowKit Go.Proofs.YtoonkkipnljflaaGreatDoorW.PrintWords Go.Proofs.YtoonkkipnljflaaGreatDoorW.PrintLast Go.Proofs.YtoonkkipnljflaaGreatDoor.PT Go.Proofs.YtoonkkipnljflaaGreatDoor.IMaps
set_option linter.unusedVariables false
set_option linter.unusedSimpArgs false
attribute [local go_sem high] al_eq gl_eq
theorem qIt(w:World)(c1 c2:Array Value)(t1 t2:TypeId):
 ((w.alloc (.cells c1 t1)).alloc (.cells c2 t2)).heap[w.heap.size]? = some (.cells c1 t1 (0,0)) ∧
 ((w.alloc (.cells c1 t1)).alloc (.cells c2 t2)).heap[w.heap.size+1]? = some (.cells c2 t2 (0,0)):=by
 have h2:=qV (w.alloc (.cells c1 t1)) (.cells c2 t2);simp only [World.size_alloc] at h2;exact ⟨qK (qV w _) (qC (Below.refl _ _) _),h2⟩
def RefOpAt(x y:GOp):Prop:=∀(w:World) (A5 A6 B5 B6:Option Addr) (c5 c6 d5 d6:Nat),(Kd.int .i64).C w A5 x.f5.length x.f5→kAl.C w A6 x.f6.length x.f6→(Kd.int .i64).C w B5 y.f5.length y.f5→kAl.C w B6 y.f6.length y.f6 →
 Calls Tryz.prog 25 #[.agg #[.int .i64 x.f0,.int .i64 x.f1,.int .i64 x.f2,.int .i64 x.f3,.string x.f4,.slice A5 x.f5.length c5,.slice A6 x.f6.length c6],.agg #[.int .i64 y.f0,.int .i64 y.f1,.int .i64 y.f2,.int .i64 y.f3,.string y.f4,.slice B5 y.f5.length d5,.slice B6 y.f6.length d6]] w fun e w'=>e=.returned (.bool (eqOp x y))∧Below w.heap.size w w'
set_option maxRecDepth 100000 in
set_option maxHeartbeats 4000000 in
theorem qIK(x y:GOp):RefOpAt x y:=by
 intro w A5 A6 B5 B6 c5 c6 d5 d6 C5 C6 D5 D6;have H5:=Lib.hid (fun W (hb:Below w.heap.size w W)=>qGj W x.f5 y.f5 A5 B5 c5 d5 (Kd.C_below C5 hb) (Kd.C_below D5 hb));have HV:=Lib.hid (show eqOp x y=(x.f0==y.f0&&(x.f1==y.f1&&(x.f2==y.f2&&(x.f3==y.f3&&(x.f4.toList==y.f4.toList&&(eqL eqI x.f5 y.f5&&eqL eqAl x.f6 y.f6)))))) from rfl);have hm6:=C6.2.1;have hm62:=D6.2.1;have K6:=qB.mk C6;have L6:=qB.mk D6;clear C5 C6 D5 D6;have hB:qB (∀o p,Below w.heap.size w ((w.alloc o).alloc p)):=⟨fun o p=>qC (qC (Below.refl _ _) _) _⟩;have HN:=qB.mk (qIt w #[.int .i64 x.f0,.int .i64 x.f1,.int .i64 x.f2,.int .i64 x.f3,.string x.f4,.slice A5 x.f5.length c5,.slice A6 x.f6.length c6] #[.int .i64 y.f0,.int .i64 y.f1,.int .i64 y.f2,.int .i64 y.f3,.string y.f4,.slice B5 y.f5.length d5,.slice B6 y.f6.length d6] 59 59);generalize hr:eqOp x y=r at *;clear hr;generalize h5:eqL eqI x.f5 y.f5=e5 at *;clear h5;have paths:((x.f0==y.f0)=false)∨((x.f0==y.f0)=true∧(x.f1==y.f1)=false)∨((x.f0==y.f0)=true∧(x.f1==y.f1)=true∧(x.f2==y.f2)=false)∨((x.f0==y.f0)=true∧(x.f1==y.f1)=true∧(x.f2==y.f2)=true∧(x.f3==y.f3)=false)∨((x.f0==y.f0)=true∧(x.f1==y.f1)=true∧(x.f2==y.f2)=true∧(x.f3==y.f3)=true∧(x.f4.toList==y.f4.toList)=false)∨((x.f0==y.f0)=true∧(x.f1==y.f1)=true∧(x.f2==y.f2)=true∧(x.f3==y.f3)=true∧(x.f4.toList==y.f4.toList)=true):=by
  cases (x.f0==y.f0)<;>cases (x.f1==y.f1)<;>cases (x.f2==y.f2)<;>cases (x.f3==y.f3)<;>cases (x.f4.toList==y.f4.toList)<;>simp
 rcases paths with d0|⟨d0,d1⟩|⟨d0,d1,d2⟩|⟨d0,d1,d2,d3⟩|⟨d0,d1,d2,d3,d4⟩|⟨d0,d1,d2,d3,d4⟩
 ·have n0:(x.f0 != y.f0)=true:=by unfold bne; rw [d0]; rfl
  go_enter Tryz.func25,Tryz.ntmps25;go_wp2_with fail;go_ret;exact ⟨by rw [HV.out]; simp [*],hB.out _ _⟩
 ·have n0:(x.f0 != y.f0)=false:=by unfold bne; rw [d0]; rfl
  have n1:(x.f1 != y.f1)=true:=by unfold bne; rw [d1]; rfl
  go_enter Tryz.func25,Tryz.ntmps25;go_wp2_with fail;go_ret;exact ⟨by rw [HV.out]; simp [*],hB.out _ _⟩
 ·have n0:(x.f0 != y.f0)=false:=by unfold bne; rw [d0]; rfl
  have n1:(x.f1 != y.f1)=false:=by unfold bne; rw [d1]; rfl
  have n2:(x.f2 != y.f2)=true:=by unfold bne; rw [d2]; rfl
  go_enter Tryz.func25,Tryz.ntmps25;go_wp2_with fail;go_ret;exact ⟨by rw [HV.out]; simp [*],hB.out _ _⟩
 ·have n0:(x.f0 != y.f0)=false:=by unfold bne; rw [d0]; rfl
  have n1:(x.f1 != y.f1)=false:=by unfold bne; rw [d1]; rfl
  have n2:(x.f2 != y.f2)=false:=by unfold bne; rw [d2]; rfl
  have n3:(x.f3 != y.f3)=true:=by unfold bne; rw [d3]; rfl
  go_enter Tryz.func25,Tryz.ntmps25;go_wp2_with fail;go_ret;exact ⟨by rw [HV.out]; simp [*],hB.out _ _⟩
 ·have n0:(x.f0 != y.f0)=false:=by unfold bne; rw [d0]; rfl
  have n1:(x.f1 != y.f1)=false:=by unfold bne; rw [d1]; rfl
  have n2:(x.f2 != y.f2)=false:=by unfold bne; rw [d2]; rfl
  have n3:(x.f3 != y.f3)=false:=by unfold bne; rw [d3]; rfl
  have n4:(x.f4.toList != y.f4.toList)=true:=by unfold bne; rw [d4]; rfl
  go_enter Tryz.func25,Tryz.ntmps25;go_wp2_with fail;go_ret;exact ⟨by rw [HV.out]; simp [*],hB.out _ _⟩
 ·have n0:(x.f0 != y.f0)=false:=by unfold bne; rw [d0]; rfl
  have n1:(x.f1 != y.f1)=false:=by unfold bne; rw [d1]; rfl
  have n2:(x.f2 != y.f2)=false:=by unfold bne; rw [d2]; rfl
  have n3:(x.f3 != y.f3)=false:=by unfold bne; rw [d3]; rfl
  have n4:(x.f4.toList != y.f4.toList)=false:=by unfold bne; rw [d4]; rfl
  have HV2:Hid (r=(e5&&eqL eqAl x.f6 y.f6)):=Lib.hid (by rw [HV.out]; simp [*]);clear HV;go_enter Tryz.func25,Tryz.ntmps25;go_wp2_with fail;refine (H5.out _ (hB.out _ _)).mono ?_;rintro e w1 ⟨rfl,hb1⟩;have HB1:=qB.mk (And.intro (qF (hB.out _ _) hb1) (And.intro (qK HN.out.1 hb1) (qK HN.out.2 hb1)));clear hb1 H5 HN hB n0 n1 n2 n3 n4 d0 d1 d2 d3 d4;have k6:=qD HB1.out.2.1 (i:=6) rfl;have q6:=qD HB1.out.2.2 (i:=6) rfl;cases e5
  ·go_wp2_with fail;go_ret;exact ⟨by rw [HV2.out]; rfl,HB1.out.1⟩
  ·rcases Classical.em (x.f6.length=y.f6.length) with hlen|hlen
   ·have e1:((x.f6.length:Int) != (y.f6.length:Int))=false:=by rw [bne_eq_false_iff_eq]; omega
    have HL:=Lib.hid hlen;clear hlen;go_wp2;clear k6 q6
    go_loopw [5] (fun i wr=>∃j:Nat,j≤x.f6.length∧i=.int .i64 j∧qB (eqL eqAl (x.f6.drop j) (y.f6.drop j)=eqL eqAl x.f6 y.f6)∧qB (Below w.heap.size w wr∧wr.heap[w.heap.size]? = some (.cells #[.int .i64 x.f0,.int .i64 x.f1,.int .i64 x.f2,.int .i64 x.f3,.string x.f4,.slice A5 x.f5.length c5,.slice A6 x.f6.length c6] 59 (0,0))∧wr.heap[w.heap.size+1]? = some (.cells #[.int .i64 y.f0,.int .i64 y.f1,.int .i64 y.f2,.int .i64 y.f3,.string y.f4,.slice B5 y.f5.length d5,.slice B6 y.f6.length d6] 59 (0,0)))) (fun i _=>x.f6.length - (intOf i).toNat)
    case atStart=>exact ⟨0,by omega,rfl,⟨rfl⟩,HB1⟩
    case round=>
     obtain ⟨j,hj,rfl,HA,HB⟩:=hrel;clear HB1;have k6:=qD HB.out.2.1 (i:=6) rfl;have q6:=qD HB.out.2.2 (i:=6) rfl;by_cases hlt:j<x.f6.length
     ·have hlt2:j<y.f6.length:=by have:=HL.out; omega
      obtain ⟨ad,e3,hx0,hx1,hx2,hx3⟩:=qA2 K6.out (j:Int) (by omega) (by omega);obtain ⟨bd,f3,hy0,hy1,hy2,hy3⟩:=qA2 L6.out (j:Int) (by omega) (by omega);cases e3;cases f3;replace hx0:=qA HB.out.1 hx0;replace hx1:=qA HB.out.1 hx1;replace hx2:=qA HB.out.1 hx2;replace hx3:=qA HB.out.1 hx3;replace hy0:=qA HB.out.1 hy0;replace hy1:=qA HB.out.1 hy1;replace hy2:=qA HB.out.1 hy2;replace hy3:=qA HB.out.1 hy3;simp only [Int.toNat_natCast] at hx0 hx1 hx2 hx3 hy0 hy1 hy2 hy3;have HS:qB (eqL eqAl (x.f6.drop j) (y.f6.drop j)=(eqAl (QK x.f6 (j:Int)) (QK y.f6 (j:Int))&&eqL eqAl (x.f6.drop (j+1)) (y.f6.drop (j+1)))):=⟨qCf eqAl z86 x.f6 y.f6 j hlt hlt2⟩;generalize hX:QK x.f6 (j:Int)=X at *;generalize hY:QK y.f6 (j:Int)=Y at *;clear hX hY;have z1:(0≤(j:Int))=True:=eq_true (by omega);have z2:((j:Int)<(x.f6.length:Int))=True:=eq_true (by omega);have z3:((j:Int)<(y.f6.length:Int))=True:=eq_true (by omega);cases hr:eqAl X Y
      ·have HR1:=qB.mk (show eqL eqAl x.f6 y.f6=false by rw [←HA.out,HS.out,hr]; rfl);go_wp2
       repeat (go_quiet (fail); try go_wp2)
       go_ret;exact ⟨by rw [HV2.out,HR1.out]; rfl,by repeat (first|exact HB.out.1|apply qO|apply below_drew1)⟩
      ·have HR1:=qB.mk (show eqL eqAl (x.f6.drop (j+1)) (y.f6.drop (j+1))=eqL eqAl x.f6 y.f6 by rw [←HA.out,HS.out,hr]; simp);go_wp2
       repeat (go_quiet (fail); try go_wp2)
       go_roundw
       case rel=>exact ⟨j+1,by omega,by go_num,HR1,⟨by repeat (first|exact HB.out.1|apply qO|apply below_drew1),by repeat (first|exact HB.out.2.1|apply blk_drewN),by repeat (first|exact HB.out.2.2|apply blk_drewN)⟩⟩
       case measure=>simp [intOf]; omega
     ·have hje:j=x.f6.length:=by omega
      subst hje;have HR1:=qB.mk (show eqL eqAl x.f6 y.f6=true by rw [←HA.out]; exact qC1 _ _ _ HL.out);go_wp2;go_ret;exact ⟨by rw [HV2.out,HR1.out]; rfl,HB.out.1⟩
   ·have e1:((x.f6.length:Int) != (y.f6.length:Int))=true:=by rw [bne_iff_ne]; omega
    have HL:=qB.mk (qCR eqAl x.f6 y.f6 hlen);have d2:(x.f6.length != y.f6.length)=true:=by rw [bne_iff_ne]; exact hlen
    clear hlen;go_wp2;go_ret;exact ⟨by rw [HV2.out,HL.out]; rfl,HB1.out.1⟩
end Go.Proofs.YtoonkkipnljflaaGreatDoor.CJ
