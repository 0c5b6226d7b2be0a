/- The Go function fields: what an instruction does not name is zero. Conditions: the listed variables are laid. -/
import Derived.Test.YtoonkkipnljflaaGreatDoorLW
namespace Go.Proofs.YtoonkkipnljflaaGreatDoor.CJ
open Go.RowKit Go.Proofs.YtoonkkipnljflaaGreatDoorW.PrintWords Go.Proofs.YtoonkkipnljflaaGreatDoor.PT Go.Proofs.YtoonkkipnljflaaGreatDoor.IMaps
set_option linter.unusedVariables false
set_option linter.unusedSimpArgs false
def FldPost(w:World)(ok:Bool)(n:Int)(e:Ending)(w':World):Prop:=e=(if ok then .returned (QD n) else .panicked qAJ)∧Below w.heap.size w w'
def gOp(x:GOp)(A5 A6:Option Addr)(c5 c6:Nat):Value:=.agg #[.int .i64 x.f0,.int .i64 x.f1,.int .i64 x.f2,.int .i64 x.f3,.string x.f4,.slice A5 x.f5.length c5,.slice A6 x.f6.length c6]
set_option maxHeartbeats 4000000 in
set_option maxRecDepth 100000 in
theorem qDg(w:World)(x:GOp)(A5 A6:Option Addr)(c5 c6:Nat)(h:LW w):
 Calls Tryz.prog 92 #[gOp x A5 A6 c5 c6] w (FldPost w (qf x) x.f0):=by
 obtain ⟨b,hc,hl⟩:=h.op;have hl2:=fun (W:World) (hW:Below w.heap.size w W)=>(hl W hW).2 x.f0
 have hlk:=fun (o1 o2:Obj)=>(hl2 ((w.alloc o1).alloc o2) (qC (qC (Below.refl _ _) _) _)).1
 have hcc:=fun (o1 o2:Obj)=>(hl ((w.alloc o1).alloc o2) (qC (qC (Below.refl _ _) _) _)).1
 clear hl hl2 hc h;unfold gOp;cases ho:isOp x.f0
 ·have e1:opV x.f0=none:=by unfold opV; rw [ho]; rfl
  have e2:qf x=false:=by
   unfold isOp at ho;unfold qf;rw [ho]; rfl
  rw [ho,e1] at hlk;rw [e2];simp only [qDe,Option.getD_none] at hlk;clear ho e1 e2;go_enter Tryz.func92,Tryz.ntmps92;go_wp2_with fail;refine (qG _).mono ?_;rintro e w1 ⟨rfl,rfl⟩;go_wp2;exact ⟨rfl,rfl,qC (qC (qC (Below.refl _ _) _) _) _⟩
 ·have e1:opV x.f0=some (QD x.f0):=by unfold opV; rw [ho]; rfl
  rw [ho,e1] at hlk;simp only [Option.getD_some] at hlk;obtain ⟨x0,x1,x2,x3,x4,x5,x6⟩:=x;simp only at *;have hx:x0=1∨x0=2∨x0=3∨x0=4∨x0=5∨x0=6∨x0=7∨x0=8∨x0=9∨x0=10∨x0=11∨x0=12∨x0=13:=by
   unfold isOp at ho;simp only [Bool.and_eq_true,decide_eq_true_eq] at ho;omega
  clear ho e1;have hs:(x4.toList=[]∧x4.data.toList=[])∨(¬x4.toList=[]∧¬x4.data.toList=[]):=by
   by_cases hh:x4.data.toList=[]
   ·exact .inl ⟨by rw [ByteArray.toList_eq]; exact hh,hh⟩
   ·exact .inr ⟨by rw [ByteArray.toList_eq]; exact hh,hh⟩
  have h6:x6=[]∨∃a r,x6=a::r:=by cases x6; exact .inl rfl; exact .inr ⟨_,_,rfl⟩
  rcases hx with rfl|rfl|rfl|rfl|rfl|rfl|rfl|rfl|rfl|rfl|rfl|rfl|rfl
  ·have hv:QD 1=.agg #[.string ⟨#[99,101,108,108,115]⟩,.bool false,.bool false,.bool false,.bool true,.bool false,.bool false]:=by rfl
   rw [hv] at hlk;have HV:=Lib.hid hv;clear hv;rcases h6 with rfl|⟨y,r,rfl⟩
   all_goals
    go_enter Tryz.func92,Tryz.ntmps92;go_wp2_with fail
    all_goals
     first
     | (with_reducible refine (qL _).mono ?_
        rintro e w1 ⟨rfl,rfl⟩;go_wp2;refine bodyPost_ret (v:=QD 1) (by simp [results,Tryz.results92,go_sem,HV.out]) rfl ⟨?_,qC (qC (qC (Below.refl _ _) _) _) _⟩;rw [if_pos]
        simp_all [qf,qq,qr,qs,qt,qu])
     | (with_reducible refine (qG _).mono ?_
        rintro e w1 ⟨rfl,rfl⟩;go_wp2;refine ⟨rfl,?_,qC (qC (qC (Below.refl _ _) _) _) _⟩;rw [if_neg]
        simp_all [qf,qq,qr,qs,qt,qu])
  ·have hv:QD 2=.agg #[.string ⟨#[116,104,117,110,107]⟩,.bool false,.bool true,.bool true,.bool false,.bool false,.bool true]:=by rfl
   rw [hv] at hlk;have HV:=Lib.hid hv;clear hv;rcases h6 with rfl|⟨y,r,rfl⟩
   all_goals
    go_enter Tryz.func92,Tryz.ntmps92;go_wp2_with fail
    all_goals
     first
     | (with_reducible refine (qL _).mono ?_
        rintro e w1 ⟨rfl,rfl⟩;go_wp2;refine bodyPost_ret (v:=QD 2) (by simp [results,Tryz.results92,go_sem,HV.out]) rfl ⟨?_,qC (qC (qC (Below.refl _ _) _) _) _⟩;rw [if_pos]
        simp_all [qf,qq,qr,qs,qt,qu])
     | (with_reducible refine (qG _).mono ?_
        rintro e w1 ⟨rfl,rfl⟩;go_wp2;refine ⟨rfl,?_,qC (qC (qC (Below.refl _ _) _) _) _⟩;rw [if_neg]
        simp_all [qf,qq,qr,qs,qt,qu])
  ·have hv:QD 3=.agg #[.string ⟨#[102,117,110]⟩,.bool false,.bool true,.bool true,.bool false,.bool false,.bool true]:=by rfl
   rw [hv] at hlk;have HV:=Lib.hid hv;clear hv;rcases h6 with rfl|⟨y,r,rfl⟩
   all_goals
    go_enter Tryz.func92,Tryz.ntmps92;go_wp2_with fail
    all_goals
     first
     | (with_reducible refine (qL _).mono ?_
        rintro e w1 ⟨rfl,rfl⟩;go_wp2;refine bodyPost_ret (v:=QD 3) (by simp [results,Tryz.results92,go_sem,HV.out]) rfl ⟨?_,qC (qC (qC (Below.refl _ _) _) _) _⟩;rw [if_pos]
        simp_all [qf,qq,qr,qs,qt,qu])
     | (with_reducible refine (qG _).mono ?_
        rintro e w1 ⟨rfl,rfl⟩;go_wp2;refine ⟨rfl,?_,qC (qC (qC (Below.refl _ _) _) _) _⟩;rw [if_neg]
        simp_all [qf,qq,qr,qs,qt,qu])
  ·have hv:QD 4=.agg #[.string ⟨#[99,111,110]⟩,.bool false,.bool true,.bool false,.bool false,.bool true,.bool true]:=by rfl
   rw [hv] at hlk;have HV:=Lib.hid hv;clear hv;rcases h6 with rfl|⟨y,r,rfl⟩
   all_goals
    go_enter Tryz.func92,Tryz.ntmps92;go_wp2_with fail
    all_goals
     first
     | (with_reducible refine (qL _).mono ?_
        rintro e w1 ⟨rfl,rfl⟩;go_wp2;refine bodyPost_ret (v:=QD 4) (by simp [results,Tryz.results92,go_sem,HV.out]) rfl ⟨?_,qC (qC (qC (Below.refl _ _) _) _) _⟩;rw [if_pos]
        simp_all [qf,qq,qr,qs,qt,qu])
     | (with_reducible refine (qG _).mono ?_
        rintro e w1 ⟨rfl,rfl⟩;go_wp2;refine ⟨rfl,?_,qC (qC (qC (Below.refl _ _) _) _) _⟩;rw [if_neg]
        simp_all [qf,qq,qr,qs,qt,qu])
  ·have hv:QD 5=.agg #[.string ⟨#[110,117,109]⟩,.bool false,.bool true,.bool false,.bool true,.bool false,.bool false]:=by rfl
   rw [hv] at hlk;have HV:=Lib.hid hv;clear hv;rcases h6 with rfl|⟨y,r,rfl⟩
   all_goals
    go_enter Tryz.func92,Tryz.ntmps92;go_wp2_with fail
    all_goals
     first
     | (with_reducible refine (qL _).mono ?_
        rintro e w1 ⟨rfl,rfl⟩;go_wp2;refine bodyPost_ret (v:=QD 5) (by simp [results,Tryz.results92,go_sem,HV.out]) rfl ⟨?_,qC (qC (qC (Below.refl _ _) _) _) _⟩;rw [if_pos]
        simp_all [qf,qq,qr,qs,qt,qu])
     | (with_reducible refine (qG _).mono ?_
        rintro e w1 ⟨rfl,rfl⟩;go_wp2;refine ⟨rfl,?_,qC (qC (qC (Below.refl _ _) _) _) _⟩;rw [if_neg]
        simp_all [qf,qq,qr,qs,qt,qu])
  ·have hv:QD 6=.agg #[.string ⟨#[97,99,116]⟩,.bool false,.bool true,.bool false,.bool false,.bool true,.bool true]:=by rfl
   rw [hv] at hlk;have HV:=Lib.hid hv;clear hv;rcases h6 with rfl|⟨y,r,rfl⟩
   all_goals
    go_enter Tryz.func92,Tryz.ntmps92;go_wp2_with fail
    all_goals
     first
     | (with_reducible refine (qL _).mono ?_
        rintro e w1 ⟨rfl,rfl⟩;go_wp2;refine bodyPost_ret (v:=QD 6) (by simp [results,Tryz.results92,go_sem,HV.out]) rfl ⟨?_,qC (qC (qC (Below.refl _ _) _) _) _⟩;rw [if_pos]
        simp_all [qf,qq,qr,qs,qt,qu])
     | (with_reducible refine (qG _).mono ?_
        rintro e w1 ⟨rfl,rfl⟩;go_wp2;refine ⟨rfl,?_,qC (qC (qC (Below.refl _ _) _) _) _⟩;rw [if_neg]
        simp_all [qf,qq,qr,qs,qt,qu])
  ·have hv:QD 7=.agg #[.string ⟨#[103,108,111,98]⟩,.bool false,.bool false,.bool false,.bool true,.bool false,.bool false]:=by rfl
   rw [hv] at hlk;have HV:=Lib.hid hv;clear hv;rcases h6 with rfl|⟨y,r,rfl⟩
   all_goals
    go_enter Tryz.func92,Tryz.ntmps92;go_wp2_with fail
    all_goals
     first
     | (with_reducible refine (qL _).mono ?_
        rintro e w1 ⟨rfl,rfl⟩;go_wp2;refine bodyPost_ret (v:=QD 7) (by simp [results,Tryz.results92,go_sem,HV.out]) rfl ⟨?_,qC (qC (qC (Below.refl _ _) _) _) _⟩;rw [if_pos]
        simp_all [qf,qq,qr,qs,qt,qu])
     | (with_reducible refine (qG _).mono ?_
        rintro e w1 ⟨rfl,rfl⟩;go_wp2;refine ⟨rfl,?_,qC (qC (qC (Below.refl _ _) _) _) _⟩;rw [if_neg]
        simp_all [qf,qq,qr,qs,qt,qu])
  ·have hv:QD 8=.agg #[.string ⟨#[112,117,115,104]⟩,.bool false,.bool false,.bool true,.bool false,.bool false,.bool true]:=by rfl
   rw [hv] at hlk;have HV:=Lib.hid hv;clear hv;rcases h6 with rfl|⟨y,r,rfl⟩
   all_goals
    go_enter Tryz.func92,Tryz.ntmps92;go_wp2_with fail
    all_goals
     first
     | (with_reducible refine (qL _).mono ?_
        rintro e w1 ⟨rfl,rfl⟩;go_wp2;refine bodyPost_ret (v:=QD 8) (by simp [results,Tryz.results92,go_sem,HV.out]) rfl ⟨?_,qC (qC (qC (Below.refl _ _) _) _) _⟩;rw [if_pos]
        simp_all [qf,qq,qr,qs,qt,qu])
     | (with_reducible refine (qG _).mono ?_
        rintro e w1 ⟨rfl,rfl⟩;go_wp2;refine ⟨rfl,?_,qC (qC (qC (Below.refl _ _) _) _) _⟩;rw [if_neg]
        simp_all [qf,qq,qr,qs,qt,qu])
  ·have hv:QD 9=.agg #[.string ⟨#[101,110,116,101,114]⟩,.bool true,.bool true,.bool false,.bool false,.bool false,.bool true]:=by rfl
   rw [hv] at hlk;have HV:=Lib.hid hv;clear hv;rcases h6 with rfl|⟨y,r,rfl⟩
   all_goals
    go_enter Tryz.func92,Tryz.ntmps92;go_wp2_with fail
    all_goals
     first
     | (with_reducible refine (qL _).mono ?_
        rintro e w1 ⟨rfl,rfl⟩;go_wp2;refine bodyPost_ret (v:=QD 9) (by simp [results,Tryz.results92,go_sem,HV.out]) rfl ⟨?_,qC (qC (qC (Below.refl _ _) _) _) _⟩;rw [if_pos]
        simp_all [qf,qq,qr,qs,qt,qu])
     | (with_reducible refine (qG _).mono ?_
        rintro e w1 ⟨rfl,rfl⟩;go_wp2;refine ⟨rfl,?_,qC (qC (qC (Below.refl _ _) _) _) _⟩;rw [if_neg]
        simp_all [qf,qq,qr,qs,qt,qu])
  ·have hv:QD 10=.agg #[.string ⟨#[103,105,118,101]⟩,.bool true,.bool true,.bool false,.bool false,.bool false,.bool false]:=by rfl
   rw [hv] at hlk;have HV:=Lib.hid hv;clear hv;rcases h6 with rfl|⟨y,r,rfl⟩
   all_goals
    go_enter Tryz.func92,Tryz.ntmps92;go_wp2_with fail
    all_goals
     first
     | (with_reducible refine (qL _).mono ?_
        rintro e w1 ⟨rfl,rfl⟩;go_wp2;refine bodyPost_ret (v:=QD 10) (by simp [results,Tryz.results92,go_sem,HV.out]) rfl ⟨?_,qC (qC (qC (Below.refl _ _) _) _) _⟩;rw [if_pos]
        simp_all [qf,qq,qr,qs,qt,qu])
     | (with_reducible refine (qG _).mono ?_
        rintro e w1 ⟨rfl,rfl⟩;go_wp2;refine ⟨rfl,?_,qC (qC (qC (Below.refl _ _) _) _) _⟩;rw [if_neg]
        simp_all [qf,qq,qr,qs,qt,qu])
  ·have hv:QD 11=.agg #[.string ⟨#[115,119,105,116,99,104]⟩,.bool true,.bool false,.bool false,.bool false,.bool false,.bool false]:=by rfl
   rw [hv] at hlk;have HV:=Lib.hid hv;clear hv;rcases h6 with rfl|⟨y,r,rfl⟩
   all_goals
    go_enter Tryz.func92,Tryz.ntmps92;go_wp2_with fail
    all_goals
     first
     | (with_reducible refine (qL _).mono ?_
        rintro e w1 ⟨rfl,rfl⟩;go_wp2;refine bodyPost_ret (v:=QD 11) (by simp [results,Tryz.results92,go_sem,HV.out]) rfl ⟨?_,qC (qC (qC (Below.refl _ _) _) _) _⟩;rw [if_pos]
        simp_all [qf,qq,qr,qs,qt,qu])
     | (with_reducible refine (qG _).mono ?_
        rintro e w1 ⟨rfl,rfl⟩;go_wp2;refine ⟨rfl,?_,qC (qC (qC (Below.refl _ _) _) _) _⟩;rw [if_neg]
        simp_all [qf,qq,qr,qs,qt,qu])
  ·have hv:QD 12=.agg #[.string ⟨#[112,114,105,109]⟩,.bool true,.bool true,.bool true,.bool false,.bool true,.bool false]:=by rfl
   rw [hv] at hlk;have HV:=Lib.hid hv;clear hv;rcases h6 with rfl|⟨y,r,rfl⟩
   all_goals
    go_enter Tryz.func92,Tryz.ntmps92;go_wp2_with fail
    all_goals
     first
     | (with_reducible refine (qL _).mono ?_
        rintro e w1 ⟨rfl,rfl⟩;go_wp2;refine bodyPost_ret (v:=QD 12) (by simp [results,Tryz.results92,go_sem,HV.out]) rfl ⟨?_,qC (qC (qC (Below.refl _ _) _) _) _⟩;rw [if_pos]
        simp_all [qf,qq,qr,qs,qt,qu])
     | (with_reducible refine (qG _).mono ?_
        rintro e w1 ⟨rfl,rfl⟩;go_wp2;refine ⟨rfl,?_,qC (qC (qC (Below.refl _ _) _) _) _⟩;rw [if_neg]
        simp_all [qf,qq,qr,qs,qt,qu])
  ·have hv:QD 13=.agg #[.string ⟨#[116,104,114,111,119]⟩,.bool true,.bool true,.bool false,.bool false,.bool false,.bool false]:=by rfl
   rw [hv] at hlk;have HV:=Lib.hid hv;clear hv;rcases h6 with rfl|⟨y,r,rfl⟩
   all_goals
    go_enter Tryz.func92,Tryz.ntmps92;go_wp2_with fail
    all_goals
     first
     | (with_reducible refine (qL _).mono ?_
        rintro e w1 ⟨rfl,rfl⟩;go_wp2;refine bodyPost_ret (v:=QD 13) (by simp [results,Tryz.results92,go_sem,HV.out]) rfl ⟨?_,qC (qC (qC (Below.refl _ _) _) _) _⟩;rw [if_pos]
        simp_all [qf,qq,qr,qs,qt,qu])
     | (with_reducible refine (qG _).mono ?_
        rintro e w1 ⟨rfl,rfl⟩;go_wp2;refine ⟨rfl,?_,qC (qC (qC (Below.refl _ _) _) _) _⟩;rw [if_neg]
        simp_all [qf,qq,qr,qs,qt,qu])
end Go.Proofs.YtoonkkipnljflaaGreatDoor.CJ
