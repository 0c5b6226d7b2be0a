/- The checker's method choices: the alternatives of a switch. Conditions: the checker, the room and the alternatives lie in memory; the listed variables are laid. -/
import Derived.Test.YtoonkkipnljflaaGreatDoorRG
import Derived.Test.YtoonkkipnljflaaGreatDoorWL
namespace Go.Proofs.YtoonkkipnljflaaGreatDoor.CJ
open Go.RowKit Go.Proofs.YtoonkkipnljflaaGreatDoorW.PrintWords Go.Proofs.YtoonkkipnljflaaGreatDoorW.PrintLast Go.Proofs.YtoonkkipnljflaaGreatDoor.PT Go.Proofs.YtoonkkipnljflaaGreatDoor.IMaps
set_option linter.unusedVariables false
set_option linter.unusedSimpArgs false
theorem qAO{P:Program}{ops:Array Oper}{Q:Exit→Act→World→Prop}{oi:Oper}{N:Option Tmp}{a:Act}{w:World}{K:Act→World→Prop}{f:FuncId}{fn:Func}{os:Array Operand}{ts:Array TypeId}(hf:P.funcs[f]? = some fn)(hname:(fn.name == "runtime.NumGoroutine")=false)(hb:fn.body.isSome=true)(args:Array Value)
 (hw:Region.wanted oi (yielded ops a.tmps)=true) (hN:oi.dst=N) (hop:oi.op=.call { callee:=.value (.func f),args:=os,argTypes:=ts }) (hargs:os.map a.eval=args)
 (h:Calls P f args w fun e w'=>∃l,e=.panicked l∧Q (.panic l) a w'):if Region.wanted oi (yielded ops a.tmps)=true then Oper.wp P oi a w K Q else K (a.put N undef) w:=by
 have he:=qCw hf hname hb args w;have hrun:(execOp a.eval oi).run P w=.ok (.enter f args) w:=by
  unfold execOp;simp [hop,resolve,Deferred.ofValue,invoke,Act.eval,hargs,he]
 rw [if_pos hw];subst hN;unfold Oper.wp;rw [hrun,Oper.upon_enter];refine h.mono fun e w'' hh=>?_
 obtain ⟨v,rfl,hk⟩:=hh;exact hk
theorem infoPA:(Tryz.prog.info? 178).map (fun i=>(i.zero,i.size,i.bytes))=some (some (.agg #[.int .i64 0,.string ⟨#[]⟩,.int .i64 0,.int .i64 0,.int .i64 0,.string ⟨#[]⟩,.slice none 0 0,.slice none 0 0]),8,112):=by kernel_rfl
set_option maxRecDepth 100000 in
set_option maxHeartbeats 2000000 in
theorem qG6(w:World)(l:List GAl)(B:Option Addr)(c k ga:Nat)(hne:l≠[])(hk:l.length≤k)(h40:l.length≤40)(C1:kPA.C w B l.length l)(hs:∀a∈l,a.f1.size≤maxLen)
 (hga:w.heap[ga]? = some (.cells #[.int .i64 3,.int .i64 0,.string ⟨#[]⟩,.slice none 0 0,.slice none 0 0] 175 (0,0))) (hL:LW w):
 Calls Tryz.prog 139 #[qB8 (some ⟨ga,0,none⟩) B 1 c l.length k] w fun e w'=>e=.returned (.bool (QW [] l))∧Below w.heap.size w w':=by
 have hlt:=(Array.getElem?_eq_some_iff.1 hga).1;have hb1:Below w.heap.size w ((w.alloc (.cells #[.int .i64 8,.int .i64 0,.string ⟨#[]⟩,.slice (some ⟨ga,0,none⟩) 1 c,.slice B l.length k] 175)).alloc (.cells #[.int .i64 0,.int .i64 0] 192)):=qC (qC (Below.refl _ _) _) _;have HW:=Lib.hid (qJ9 w ((w.alloc (.cells #[.int .i64 8,.int .i64 0,.string ⟨#[]⟩,.slice (some ⟨ga,0,none⟩) 1 c,.slice B l.length k] 175)).alloc (.cells #[.int .i64 0,.int .i64 0] 192)) (w.heap.size+1) l (some ⟨ga,0,none⟩) B c k hne hk h40 (Kd.C_below C1 hb1) hs ga rfl ((hb1.block _ hlt).trans hga) (by omega) (qFd w _ _ _ _) hL hb1 (by omega) (fun W hW=>Kd.C_below C1 (hb1.trans (hW.below.mono (by omega)))));have HB:=Lib.hid hb1;clear hb1 C1 hs hga hL;unfold qB8 at *;go_enter Tryz.func139,Tryz.ntmps139;go_wp2_with fail;refine HW.out.mono ?_;rintro e w1 ⟨rfl,hb⟩;have HB2:=qB.mk (HB.out.trans (hb.mono (by omega)));clear hb;go_wp2;go_ret;exact ⟨rfl,HB2.out⟩
def chB(bs:List GBk)(n:Nat)(l:List GAl):Bool:=decide (0<n)&&decide (l.length≤40)&&l.all (Qo bs n)&&QW [] l
structure CH(w wr:World)(bs:List GBk)(st:List Int)(l:List GAl)(i:Nat)(av:Value):Prop where
 below:Below w.heap.size w wr
 rows:Kd.R kPA 178 wr w.heap.size (fun _=>True) av (l.take i)
 ok:(l.take i).all (Qo bs st.length)=true
theorem CH.step{w w1 w2:World}{bs:List GBk}{st:List Int}{l:List GAl}{i:Nat}{av:Value}(h:CH w w1 bs st l i av)(hb:Below w1.heap.size w1 w2):CH w w2 bs st l i av:=
 ⟨qF h.below hb,Kd.R_below h.rows hb,h.ok⟩
theorem qB9{w w1:World}{bs:List GBk}{st:List Int}{l:List GAl}{i:Nat}{av:Value}(h:qB (CH w w1 bs st l i av)):qB (CH w w1.drew bs st l i av):=⟨h.out.step (qE (Below.refl _ _))⟩
theorem chB_not{bs:List GBk}{n:Nat}{l:List GAl}{i:Nat}(hi:i<l.length)(h:Qo bs n (l.getD i zAl)=false):chB bs n l=false:=by
 have:l.all (Qo bs n)=false:=by
  rw [List.all_eq_false];refine ⟨l[i],List.getElem_mem hi,?_⟩;have e:l.getD i zAl=l[i]:=by simp [List.getD_eq_getElem?_getD,List.getElem?_eq_getElem hi]
  rw [←e,h]; simp
 unfold chB;rw [this]; simp
theorem take_ok{bs:List GBk}{n:Nat}{l:List GAl}{i:Nat}(hi:i<l.length)(h:(l.take i).all (Qo bs n)=true)(h2:Qo bs n (l.getD i zAl)=true):(l.take (i+1)).all (Qo bs n)=true∧l.take (i+1)=l.take i++[l.getD i zAl]:=by
 have e:l.getD i zAl=l[i]:=by simp [List.getD_eq_getElem?_getD,List.getElem?_eq_getElem hi]
 rw [e] at h2;rw [e,List.take_succ_eq_append_getElem hi,List.all_append,h];exact ⟨by simp [h2],rfl⟩
set_option maxRecDepth 100000 in
set_option maxHeartbeats 8000000 in
theorem qGb(w:World)(p m:Nat)(A:Option Addr)(ca:Nat)(A2:Option Addr)(cb:Nat)(bs:List GBk)(gl:List GGl)(b:Nat)(st:List Int)(l:List GAl)(LA:Option Addr)(lc:Nat)
 (hC:CK w p m A ca A2 cb bs gl) (hR:RM w b st) (hL:LW w) (hst:st.length≤1000000) (hne:l≠[]) (hlc:l.length≤lc) (C1:kAl.C w LA l.length l) (hs:∀a∈l,a.f1.size≤maxLen):
 Calls Tryz.prog 119 #[.pointer (some ⟨p,0,none⟩),.pointer (some ⟨b+2,0,none⟩),.slice LA l.length lc] w fun e w'=>e=checked (chB bs st.length l)∧Below w.heap.size w w':=by
 obtain ⟨d0,d1,d2,d3⟩:=hR.facts;have hm:l.length≤9223372036854775807:=C1.2.1;have HR:=Lib.hid hR;have HC:=Lib.hid hC;have HL:=Lib.hid hL;have HK:=Lib.hid (And.intro C1 hs);clear hR hC hL C1 hs d1 d2 d3;by_cases h0:0<st.length
 ·by_cases h40:l.length≤40
  ·have q1:decide ((0:Int)<st.length)=true:=decide_eq_true (by omega);have q2:decide ((l.length:Int)≤40)=true:=decide_eq_true (by omega);go_enter Tryz.func119,Tryz.ntmps119;go_wp2_with fail;refine (qL _).mono ?_;rintro e w1 ⟨rfl,rfl⟩;go_wp2
   go_loopw [6,24] (fun sv v wr=>∃i:Nat,∃av:Value,i≤l.length∧v=.int .i64 i∧av=sv∧qB (CH w wr bs st l i av)) (fun _ v _=>l.length - (intOf v).toNat)
   case atStart=>exact ⟨0,_,by omega,rfl,rfl,⟨⟨Below.refl _ _,Kd.R_nil _ _ _ _ _,rfl⟩⟩⟩
   case round=>
    obtain ⟨i,av,hi,rfl,rfl,HA⟩:=hrel;by_cases hlt:i<l.length
    ·obtain ⟨ad,rfl,g0,g1,g2,g3⟩:=qA2 HK.out.1 (i:Int) (by omega) (by omega);have hrd:QK l (i:Int)=l.getD i zAl:=by simp [QK]; rfl
     rw [hrd] at g0 g1 g2 g3;simp only [Int.toNat_natCast] at g0 g1 g2 g3;have HN:=Lib.hid (@chB_not bs st.length l i hlt);have HT:=Lib.hid (@take_ok bs st.length l i hlt HA.out.ok);generalize hga:l.getD i zAl=ga at *;clear hga hrd;obtain ⟨x0,x1,x2,x3⟩:=ga;simp only at g0 g1 g2 g3;have HBw:=HA.out.below;replace g0:=qA HBw g0;replace g1:=qA HBw g1;replace g2:=qA HBw g2;replace g3:=qA HBw g3;have hb1:=qC HBw (.cells #[.int .i64 x0,.string x1,.int .i64 x2,.int .i64 x3] 86);have HBK:=Lib.hid (qBT (wr.alloc (.cells #[.int .i64 x0,.string x1,.int .i64 x2,.int .i64 x3] 86)) p m A ca A2 cb bs gl x3 (HC.out.below hb1));have hbx:(wr.alloc (.cells #[.int .i64 x0,.string x1,.int .i64 x2,.int .i64 x3] 86)).heap[wr.heap.size]? = some (.cells #[.int .i64 x0,.string x1,.int .i64 x2,.int .i64 x3] 86 (0,0)):=(MapKept.heap_alloc wr _).1;have HBX:=Lib.hid hbx;have HB1:=Lib.hid hb1;have HRM:=Lib.hid (HR.out.below HBw);clear hbx hb1 HBw;cases hbk:blkC bs x3 with
     |none=>
      rw [hbk] at HBK;have HF:Hid (chB bs st.length l=false):=Lib.hid (HN.out (by simp [Qo,hbk]));clear hbk;go_wp2_with fail;refine HBK.out.mono ?_;rintro e w2 ⟨rfl,hb2⟩;have HB2:=qB.mk (qF HB1.out hb2);clear hb2;go_wp2;exact ⟨rfl,by rw [HF.out]; rfl,HB2.out⟩
     |some bk=>
      rw [hbk] at HBK;obtain ⟨y0,y1,y2⟩:=bk;have HAB:Hid (Qo bs st.length ⟨x0,x1,x2,x3⟩=(y0==(st.length:Int)&&y1==(if x0=2 then x2 else 0))):=Lib.hid (by simp [Qo,hbk]);clear hbk;go_wp2_with fail;refine HBK.out.mono ?_;rintro e w2 ⟨A3,c3,rfl,hc3,hC3,hb2⟩;have e0:=qA hb2 (qD HBX.out (i:=0) rfl);have e1:=qA hb2 (qD HBX.out (i:=1) rfl);have e2:=qA hb2 (qD HBX.out (i:=2) rfl);have hw2:wr.heap.size<w2.heap.size:=World.block_lt_of_cell? _ _ e0;have hW3:=qC (Below.refl w2.heap.size w2) (.cells #[.int .i64 y0,.int .i64 y1,.slice A3 y2.length c3] 55);have hbx2:(w2.alloc (.cells #[.int .i64 y0,.int .i64 y1,.slice A3 y2.length c3] 55)).heap[w2.heap.size]? = some (.cells #[.int .i64 y0,.int .i64 y1,.slice A3 y2.length c3] 55 (0,0)):=(MapKept.heap_alloc w2 _).1;have k0:=qA hW3 e0;have k1:=qA hW3 e1;have k2:=qA hW3 e2;have k3:=qD hbx2 (i:=0) rfl;have k4:=qD hbx2 (i:=1) rfl;have hbr:=qF (qC (Below.refl wr.heap.size wr) _) hb2;have k5:=qA hW3 (qA hbr HRM.out.facts.1);have HCH:=qB.mk ((HA.out.step hbr).step hW3);clear hbx2 hW3 hbr hb2 HBK HBX hc3 hC3;clear g0 g1 g2 g3;by_cases hx:x0=2
      ·have hx2:(x0==2)=true:=beq_iff_eq.2 hx;have HAB2:Hid (Qo bs st.length ⟨x0,x1,x2,x3⟩=(y0==(st.length:Int)&&y1==x2)):=Lib.hid (HAB.out.trans (by rw [if_pos hx]));clear HAB hx;cases t1:(y0==(st.length:Int))
       ·have HF:Hid (chB bs st.length l=false):=Lib.hid (HN.out (by rw [HAB2.out,t1]; rfl));go_wp2;refine qU (n:=14) (S:=fun w'=>w'.cell? ⟨wr.heap.size,0,none⟩=some (.int .i64 x0)∧w'.cell? ⟨wr.heap.size,1,none⟩=some (.string x1)∧w'.cell? ⟨wr.heap.size,2,none⟩=some (.int .i64 x2)∧w'.cell? ⟨w2.heap.size,0,none⟩=some (.int .i64 y0)∧w'.cell? ⟨w2.heap.size,1,none⟩=some (.int .i64 y1)∧w'.cell? ⟨b+2,0,none⟩=some (.int .i64 st.length)∧qB (CH w w' bs st l i av)) (ds:=[]) (mA 14 0) (by kernel_rfl) rfl rfl ⟨k0,k1,k2,k3,k4,k5,qB9 HCH⟩ (fun hHeld=>?_);refine pa_ 14 1 0 (some 37) (v:=?_) (a':=?_) ?_ ?_ ?_;rotate_left 2
        ·intro w';go_simp
         with_reducible rfl
        ·simp only [pn];rfl
        refine pa_ 14 5 2 (some 39) (v:=?_) (a':=?_) ?_ ?_ ?_;rotate_left 2
        ·intro w';go_simp
         with_reducible rfl
        ·simp only [pn];rfl
        refine pa_ 14 13 3 (some 40) (v:=?_) (a':=?_) ?_ ?_ ?_;rotate_left 2
        ·intro w';go_simp
         with_reducible rfl
        ·simp only [pn];rfl
        refine pa_ 14 29 4 (some 41) (v:=?_) (a':=?_) ?_ ?_ ?_;rotate_left 2
        ·intro w';go_simp
         with_reducible rfl
        ·simp only [pn];rfl
        refine tb_ 14 31 1 (some 38) (v:=?_) (a':=?_) hHeld ?_ ?_ ?_;rotate_left 2
        ·rintro w' ⟨s0,s1,s2,s3,s4,s5,s6⟩;go_simp
         with_reducible rfl
        ·simp only [pn];rfl
        refine tb_ 14 63 5 (some 42) (v:=?_) (a':=?_) hHeld ?_ ?_ ?_;rotate_left 2
        ·rintro w' ⟨s0,s1,s2,s3,s4,s5,s6⟩;go_simp
         with_reducible rfl
        ·simp only [pn];rfl
        refine pa_ 14 127 6 (some 43) (v:=?_) (a':=?_) ?_ ?_ ?_;rotate_left 2
        ·intro w';go_simp
         with_reducible rfl
        ·simp only [pn];rfl
        refine pa_ 14 255 7 (some 44) (v:=?_) (a':=?_) ?_ ?_ ?_;rotate_left 2
        ·intro w';go_simp
         with_reducible rfl
        ·simp only [pn];rfl
        refine pf_ 14 511 8 (some 45) (a':=?_) ?_ ?_;rotate_left
        ·simp only [pn];rfl
        refine pf_ 14 1023 9 (some 46) (a':=?_) ?_ ?_;rotate_left
        ·simp only [pn];rfl
        refine pf_ 14 2047 10 (some 47) (a':=?_) ?_ ?_;rotate_left
        ·simp only [pn];rfl
        refine pf_ 14 4095 11 (some 48) (a':=?_) ?_ ?_;rotate_left
        ·simp only [pn];rfl
        refine pa_ 14 8191 12 (some 49) (v:=?_) (a':=?_) ?_ ?_ ?_;rotate_left 2
        ·intro w';go_simp
         with_reducible rfl
        ·simp only [pn];rfl
        refine oo_ 14 16383 13 (some 50) (fun K hK=>?_);refine qAO Tryz.func14 (by kernel_rfl) rfl #[.bool false] (by rfl) rfl rfl (by simp only [List.map_toArray,List.map_cons,List.map_nil]; rfl) ?_
        with_reducible refine (qG _).mono ?_
        rintro e u ⟨rfl,rfl⟩;refine ⟨_,rfl,?_⟩;exact ⟨rfl,by rw [HF.out]; rfl,hHeld.2.2.2.2.2.2.out.below⟩
       ·cases t2:(y1==x2)
        ·have HF:Hid (chB bs st.length l=false):=Lib.hid (HN.out (by rw [HAB2.out,t1,t2]; rfl));go_wp2;refine qU (n:=14) (S:=fun w'=>w'.cell? ⟨wr.heap.size,0,none⟩=some (.int .i64 x0)∧w'.cell? ⟨wr.heap.size,1,none⟩=some (.string x1)∧w'.cell? ⟨wr.heap.size,2,none⟩=some (.int .i64 x2)∧w'.cell? ⟨w2.heap.size,0,none⟩=some (.int .i64 y0)∧w'.cell? ⟨w2.heap.size,1,none⟩=some (.int .i64 y1)∧w'.cell? ⟨b+2,0,none⟩=some (.int .i64 st.length)∧qB (CH w w' bs st l i av)) (ds:=[]) (mA 14 0) (by kernel_rfl) rfl rfl ⟨k0,k1,k2,k3,k4,k5,qB9 HCH⟩ (fun hHeld=>?_);refine pa_ 14 1 0 (some 37) (v:=?_) (a':=?_) ?_ ?_ ?_;rotate_left 2
         ·intro w';go_simp
          with_reducible rfl
         ·simp only [pn];rfl
         refine pa_ 14 5 2 (some 39) (v:=?_) (a':=?_) ?_ ?_ ?_;rotate_left 2
         ·intro w';go_simp
          with_reducible rfl
         ·simp only [pn];rfl
         refine pa_ 14 13 3 (some 40) (v:=?_) (a':=?_) ?_ ?_ ?_;rotate_left 2
         ·intro w';go_simp
          with_reducible rfl
         ·simp only [pn];rfl
         refine pa_ 14 29 4 (some 41) (v:=?_) (a':=?_) ?_ ?_ ?_;rotate_left 2
         ·intro w';go_simp
          with_reducible rfl
         ·simp only [pn];rfl
         refine tb_ 14 31 1 (some 38) (v:=?_) (a':=?_) hHeld ?_ ?_ ?_;rotate_left 2
         ·rintro w' ⟨s0,s1,s2,s3,s4,s5,s6⟩;go_simp
          with_reducible rfl
         ·simp only [pn];rfl
         refine tb_ 14 63 5 (some 42) (v:=?_) (a':=?_) hHeld ?_ ?_ ?_;rotate_left 2
         ·rintro w' ⟨s0,s1,s2,s3,s4,s5,s6⟩;go_simp
          with_reducible rfl
         ·simp only [pn];rfl
         refine pa_ 14 127 6 (some 43) (v:=?_) (a':=?_) ?_ ?_ ?_;rotate_left 2
         ·intro w';go_simp
          with_reducible rfl
         ·simp only [pn];rfl
         refine pa_ 14 255 7 (some 44) (v:=?_) (a':=?_) ?_ ?_ ?_;rotate_left 2
         ·intro w';go_simp
          with_reducible rfl
         ·simp only [pn];rfl
         refine pa_ 14 511 8 (some 45) (v:=?_) (a':=?_) ?_ ?_ ?_;rotate_left 2
         ·intro w';go_simp
          with_reducible rfl
         ·simp only [pn];rfl
         refine pa_ 14 1535 10 (some 47) (v:=?_) (a':=?_) ?_ ?_ ?_;rotate_left 2
         ·intro w';go_simp
          with_reducible rfl
         ·simp only [pn];rfl
         refine tb_ 14 2047 9 (some 46) (v:=?_) (a':=?_) hHeld ?_ ?_ ?_;rotate_left 2
         ·rintro w' ⟨s0,s1,s2,s3,s4,s5,s6⟩;go_simp
          with_reducible rfl
         ·simp only [pn];rfl
         refine pa_ 14 4095 11 (some 48) (v:=?_) (a':=?_) ?_ ?_ ?_;rotate_left 2
         ·intro w';go_simp
          with_reducible rfl
         ·simp only [pn];rfl
         refine pa_ 14 8191 12 (some 49) (v:=?_) (a':=?_) ?_ ?_ ?_;rotate_left 2
         ·intro w';go_simp
          with_reducible rfl
         ·simp only [pn];rfl
         refine oo_ 14 16383 13 (some 50) (fun K hK=>?_);refine qAO Tryz.func14 (by kernel_rfl) rfl #[.bool false] (by rfl) rfl rfl (by simp only [List.map_toArray,List.map_cons,List.map_nil]; rfl) ?_
         with_reducible refine (qG _).mono ?_
         rintro e u ⟨rfl,rfl⟩;refine ⟨_,rfl,?_⟩;exact ⟨rfl,by rw [HF.out]; rfl,hHeld.2.2.2.2.2.2.out.below⟩
        ·have HTT:=Lib.hid (HT.out (by rw [HAB2.out,t1,t2]; rfl));go_wp2;refine qU (n:=14) (S:=fun w'=>w'.cell? ⟨wr.heap.size,0,none⟩=some (.int .i64 x0)∧w'.cell? ⟨wr.heap.size,1,none⟩=some (.string x1)∧w'.cell? ⟨wr.heap.size,2,none⟩=some (.int .i64 x2)∧w'.cell? ⟨w2.heap.size,0,none⟩=some (.int .i64 y0)∧w'.cell? ⟨w2.heap.size,1,none⟩=some (.int .i64 y1)∧w'.cell? ⟨b+2,0,none⟩=some (.int .i64 st.length)∧qB (CH w w' bs st l i av)) (ds:=[]) (mA 14 0) (by kernel_rfl) rfl rfl ⟨k0,k1,k2,k3,k4,k5,qB9 HCH⟩ (fun hHeld=>?_);refine pa_ 14 1 0 (some 37) (v:=?_) (a':=?_) ?_ ?_ ?_;rotate_left 2
         ·intro w';go_simp
          with_reducible rfl
         ·simp only [pn];rfl
         refine pa_ 14 5 2 (some 39) (v:=?_) (a':=?_) ?_ ?_ ?_;rotate_left 2
         ·intro w';go_simp
          with_reducible rfl
         ·simp only [pn];rfl
         refine pa_ 14 13 3 (some 40) (v:=?_) (a':=?_) ?_ ?_ ?_;rotate_left 2
         ·intro w';go_simp
          with_reducible rfl
         ·simp only [pn];rfl
         refine pa_ 14 29 4 (some 41) (v:=?_) (a':=?_) ?_ ?_ ?_;rotate_left 2
         ·intro w';go_simp
          with_reducible rfl
         ·simp only [pn];rfl
         refine tb_ 14 31 1 (some 38) (v:=?_) (a':=?_) hHeld ?_ ?_ ?_;rotate_left 2
         ·rintro w' ⟨s0,s1,s2,s3,s4,s5,s6⟩;go_simp
          with_reducible rfl
         ·simp only [pn];rfl
         refine tb_ 14 63 5 (some 42) (v:=?_) (a':=?_) hHeld ?_ ?_ ?_;rotate_left 2
         ·rintro w' ⟨s0,s1,s2,s3,s4,s5,s6⟩;go_simp
          with_reducible rfl
         ·simp only [pn];rfl
         refine pa_ 14 127 6 (some 43) (v:=?_) (a':=?_) ?_ ?_ ?_;rotate_left 2
         ·intro w';go_simp
          with_reducible rfl
         ·simp only [pn];rfl
         refine pa_ 14 255 7 (some 44) (v:=?_) (a':=?_) ?_ ?_ ?_;rotate_left 2
         ·intro w';go_simp
          with_reducible rfl
         ·simp only [pn];rfl
         refine pa_ 14 511 8 (some 45) (v:=?_) (a':=?_) ?_ ?_ ?_;rotate_left 2
         ·intro w';go_simp
          with_reducible rfl
         ·simp only [pn];rfl
         refine pa_ 14 1535 10 (some 47) (v:=?_) (a':=?_) ?_ ?_ ?_;rotate_left 2
         ·intro w';go_simp
          with_reducible rfl
         ·simp only [pn];rfl
         refine tb_ 14 2047 9 (some 46) (v:=?_) (a':=?_) hHeld ?_ ?_ ?_;rotate_left 2
         ·rintro w' ⟨s0,s1,s2,s3,s4,s5,s6⟩;go_simp
          with_reducible rfl
         ·simp only [pn];rfl
         refine pa_ 14 4095 11 (some 48) (v:=?_) (a':=?_) ?_ ?_ ?_;rotate_left 2
         ·intro w';go_simp
          with_reducible rfl
         ·simp only [pn];rfl
         refine pa_ 14 8191 12 (some 49) (v:=?_) (a':=?_) ?_ ?_ ?_;rotate_left 2
         ·intro w';go_simp
          with_reducible rfl
         ·simp only [pn];rfl
         refine oo_ 14 16383 13 (some 50) (fun K hK=>?_);refine qR Tryz.func14 (by kernel_rfl) rfl #[.bool true] (by rfl) rfl rfl (by simp only [List.map_toArray,List.map_cons,List.map_nil]; rfl) ?_
         with_reducible refine (qL _).mono ?_
         rintro e u ⟨rfl,rfl⟩;refine ⟨_,rfl,?_⟩;refine hK.out _ _ ⟨hHeld.1,hHeld.2.1,hHeld.2.2.1,hHeld.2.2.2.1,hHeld.2.2.2.2.1,hHeld.2.2.2.2.2.1,hHeld.2.2.2.2.2.2⟩ (fun hHeld=>?_);clear hK K;refine qM (a':=?_) ?_ ?_;rotate_left
         ·show Act.put _ (some 50) _=_
          simp only [pn];rfl
         refine qn (by kernel_rfl) ?_;go_wp2;refine qU (n:=12) (S:=fun w'=>w'.cell? ⟨wr.heap.size,0,none⟩=some (.int .i64 x0)∧w'.cell? ⟨wr.heap.size,1,none⟩=some (.string x1)∧w'.cell? ⟨wr.heap.size,2,none⟩=some (.int .i64 x2)∧w'.cell? ⟨w2.heap.size,0,none⟩=some (.int .i64 y0)∧w'.cell? ⟨w2.heap.size,1,none⟩=some (.int .i64 y1)∧w'.cell? ⟨b+2,0,none⟩=some (.int .i64 st.length)∧qB (CH w w' bs st l i av)) (ds:=[10]) (mA 12 0) (by kernel_rfl) rfl rfl ⟨hHeld.1,hHeld.2.1,hHeld.2.2.1,hHeld.2.2.2.1,hHeld.2.2.2.2.1,hHeld.2.2.2.2.2.1,qB9 hHeld.2.2.2.2.2.2⟩ (fun hHeld=>?_);refine pa_ 12 1 0 (some 51) (v:=?_) (a':=?_) ?_ ?_ ?_;rotate_left 2
         ·intro w';go_simp
          with_reducible rfl
         ·simp only [pn];rfl
         refine pa_ 12 3 1 (some 52) (v:=?_) (a':=?_) ?_ ?_ ?_;rotate_left 2
         ·intro w';go_simp
          with_reducible rfl
         ·simp only [pn];rfl
         refine pa_ 12 11 3 (some 54) (v:=?_) (a':=?_) ?_ ?_ ?_;rotate_left 2
         ·intro w';go_simp
          with_reducible rfl
         ·simp only [pn];rfl
         refine pa_ 12 43 5 (some 56) (v:=?_) (a':=?_) ?_ ?_ ?_;rotate_left 2
         ·intro w';go_simp
          with_reducible rfl
         ·simp only [pn];rfl
         refine tb_ 12 47 2 (some 53) (v:=?_) (a':=?_) hHeld ?_ ?_ ?_;rotate_left 2
         ·rintro w' ⟨s0,s1,s2,s3,s4,s5,s6⟩;go_simp
          with_reducible rfl
         ·simp only [pn];rfl
         refine tb_ 12 63 4 (some 55) (v:=?_) (a':=?_) hHeld ?_ ?_ ?_;rotate_left 2
         ·rintro w' ⟨s0,s1,s2,s3,s4,s5,s6⟩;go_simp
          with_reducible rfl
         ·simp only [pn];rfl
         refine tb_ 12 127 6 (some 57) (v:=?_) (a':=?_) hHeld ?_ ?_ ?_;rotate_left 2
         ·rintro w' ⟨s0,s1,s2,s3,s4,s5,s6⟩;go_simp
          with_reducible rfl
         ·simp only [pn];rfl
         refine oo_ 12 255 7 (some 58) (fun K hK=>?_);refine qR Tryz.func138 (by kernel_rfl) rfl #[.int .i64 0] (by rfl) rfl rfl (by simp only [List.map_toArray,List.map_cons,List.map_nil]; rfl) ?_
         with_reducible refine (qDf 0 _).mono ?_
         rintro e u6 ⟨rfl,hb6⟩;refine ⟨_,rfl,?_⟩;refine hK.out _ _ ⟨qA hb6 hHeld.1,qA hb6 hHeld.2.1,qA hb6 hHeld.2.2.1,qA hb6 hHeld.2.2.2.1,qA hb6 hHeld.2.2.2.2.1,qA hb6 hHeld.2.2.2.2.2.1,⟨hHeld.2.2.2.2.2.2.out.step hb6⟩⟩ (fun hHeld=>?_);clear hK K;refine qM (a':=?_) ?_ ?_;rotate_left
         ·show Act.put _ (some 58) _=_
          simp only [pn];rfl
         refine pa_ 12 511 8 (some 59) (v:=?_) (a':=?_) ?_ ?_ ?_;rotate_left 2
         ·intro w';go_simp
          with_reducible rfl
         ·simp only [pn];rfl
         refine oo_ 12 1023 9 (some 60) (fun K hK=>?_);have HPre:=hHeld.2.2.2.2.2.2;refine Q1 (w1:=?_) (v:=?_) (by rfl) rfl ?_ ?_;rotate_left 2
         ·go_simp;constructor
          ·rfl
          ·rfl
         refine hK.out _ _ ⟨qA (qC (Below.refl _ _) _) hHeld.1,qA (qC (Below.refl _ _) _) hHeld.2.1,qA (qC (Below.refl _ _) _) hHeld.2.2.1,qA (qC (Below.refl _ _) _) hHeld.2.2.2.1,qA (qC (Below.refl _ _) _) hHeld.2.2.2.2.1,qA (qC (Below.refl _ _) _) hHeld.2.2.2.2.2.1,⟨hHeld.2.2.2.2.2.2.out.step (qC (Below.refl _ _) _)⟩⟩ (fun hHeld=>?_);clear hK K;refine qM (a':=?_) ?_ ?_;rotate_left
         ·show Act.put _ (some 60) _=_
          simp only [pn];rfl
         refine la_ 12 2047 10 (some 61) rfl rfl (by kernel_rfl) (by decide) (fun K hK=>?_);refine Kd.R_append_step kPA (w0:=w) w.heap.size (by kernel_rfl) _ _ 172 178 _ _ rfl Tryz.underlying172 infoPA rfl (by decide) (by omega) av (l.take i) ⟨x0,x1,x2,x3⟩ (qAt ⟨x0,x1,x2,x3⟩) (fun _=>True) (fun _=>False) rfl rfl rfl (fun _ h=>h.elim) (fun _ _=>trivial) HPre.out.rows HPre.out.below HPre.out.below.size (by rw [List.length_take]; omega) ?_;intro v1 w5 hR1 hb1 hg1 hat1;refine hK.out _ _ ?_;clear hK K;refine qM (a':=?_) ?_ ?_;rotate_left
         ·show Act.put _ (some 61) _=_
          simp only [pn];rfl
         refine pa_ 12 4095 11 (some 6) (v:=?_) (a':=?_) ?_ ?_ ?_;rotate_left 2
         ·intro w';go_simp
          with_reducible rfl
         ·simp only [pn];rfl
         refine qn (by kernel_rfl) ?_;have HNX:=qB.mk (CH.mk (bs:=bs) (st:=st) (l:=l) (i:=i+1) hb1 (by rw [HTT.out.2]; exact hR1) HTT.out.1);clear hR1 hb1 hg1 hat1;go_wp2;go_roundw
         case rel=>exact ⟨i+1,_,by omega,by go_num,rfl,HNX⟩
         case measure=>simp [intOf]; omega
      ·have hx2:(x0==2)=false:=beq_eq_false_iff_ne.2 hx;have HAB2:Hid (Qo bs st.length ⟨x0,x1,x2,x3⟩=(y0==(st.length:Int)&&y1==0)):=Lib.hid (HAB.out.trans (by rw [if_neg hx]));clear HAB hx;cases t1:(y0==(st.length:Int))
       ·have HF:Hid (chB bs st.length l=false):=Lib.hid (HN.out (by rw [HAB2.out,t1]; rfl));go_wp2;refine qU (n:=14) (S:=fun w'=>w'.cell? ⟨wr.heap.size,0,none⟩=some (.int .i64 x0)∧w'.cell? ⟨wr.heap.size,1,none⟩=some (.string x1)∧w'.cell? ⟨wr.heap.size,2,none⟩=some (.int .i64 x2)∧w'.cell? ⟨w2.heap.size,0,none⟩=some (.int .i64 y0)∧w'.cell? ⟨w2.heap.size,1,none⟩=some (.int .i64 y1)∧w'.cell? ⟨b+2,0,none⟩=some (.int .i64 st.length)∧qB (CH w w' bs st l i av)) (ds:=[]) (mA 14 0) (by kernel_rfl) rfl rfl ⟨k0,k1,k2,k3,k4,k5,qB9 HCH⟩ (fun hHeld=>?_);refine pa_ 14 1 0 (some 37) (v:=?_) (a':=?_) ?_ ?_ ?_;rotate_left 2
        ·intro w';go_simp
         with_reducible rfl
        ·simp only [pn];rfl
        refine pa_ 14 5 2 (some 39) (v:=?_) (a':=?_) ?_ ?_ ?_;rotate_left 2
        ·intro w';go_simp
         with_reducible rfl
        ·simp only [pn];rfl
        refine pa_ 14 13 3 (some 40) (v:=?_) (a':=?_) ?_ ?_ ?_;rotate_left 2
        ·intro w';go_simp
         with_reducible rfl
        ·simp only [pn];rfl
        refine pa_ 14 29 4 (some 41) (v:=?_) (a':=?_) ?_ ?_ ?_;rotate_left 2
        ·intro w';go_simp
         with_reducible rfl
        ·simp only [pn];rfl
        refine tb_ 14 31 1 (some 38) (v:=?_) (a':=?_) hHeld ?_ ?_ ?_;rotate_left 2
        ·rintro w' ⟨s0,s1,s2,s3,s4,s5,s6⟩;go_simp
         with_reducible rfl
        ·simp only [pn];rfl
        refine tb_ 14 63 5 (some 42) (v:=?_) (a':=?_) hHeld ?_ ?_ ?_;rotate_left 2
        ·rintro w' ⟨s0,s1,s2,s3,s4,s5,s6⟩;go_simp
         with_reducible rfl
        ·simp only [pn];rfl
        refine pa_ 14 127 6 (some 43) (v:=?_) (a':=?_) ?_ ?_ ?_;rotate_left 2
        ·intro w';go_simp
         with_reducible rfl
        ·simp only [pn];rfl
        refine pa_ 14 255 7 (some 44) (v:=?_) (a':=?_) ?_ ?_ ?_;rotate_left 2
        ·intro w';go_simp
         with_reducible rfl
        ·simp only [pn];rfl
        refine pf_ 14 511 8 (some 45) (a':=?_) ?_ ?_;rotate_left
        ·simp only [pn];rfl
        refine pf_ 14 1023 9 (some 46) (a':=?_) ?_ ?_;rotate_left
        ·simp only [pn];rfl
        refine pf_ 14 2047 10 (some 47) (a':=?_) ?_ ?_;rotate_left
        ·simp only [pn];rfl
        refine pf_ 14 4095 11 (some 48) (a':=?_) ?_ ?_;rotate_left
        ·simp only [pn];rfl
        refine pa_ 14 8191 12 (some 49) (v:=?_) (a':=?_) ?_ ?_ ?_;rotate_left 2
        ·intro w';go_simp
         with_reducible rfl
        ·simp only [pn];rfl
        refine oo_ 14 16383 13 (some 50) (fun K hK=>?_);refine qAO Tryz.func14 (by kernel_rfl) rfl #[.bool false] (by rfl) rfl rfl (by simp only [List.map_toArray,List.map_cons,List.map_nil]; rfl) ?_
        with_reducible refine (qG _).mono ?_
        rintro e u ⟨rfl,rfl⟩;refine ⟨_,rfl,?_⟩;exact ⟨rfl,by rw [HF.out]; rfl,hHeld.2.2.2.2.2.2.out.below⟩
       ·cases t2:(y1==0)
        ·have HF:Hid (chB bs st.length l=false):=Lib.hid (HN.out (by rw [HAB2.out,t1,t2]; rfl));go_wp2;refine qU (n:=14) (S:=fun w'=>w'.cell? ⟨wr.heap.size,0,none⟩=some (.int .i64 x0)∧w'.cell? ⟨wr.heap.size,1,none⟩=some (.string x1)∧w'.cell? ⟨wr.heap.size,2,none⟩=some (.int .i64 x2)∧w'.cell? ⟨w2.heap.size,0,none⟩=some (.int .i64 y0)∧w'.cell? ⟨w2.heap.size,1,none⟩=some (.int .i64 y1)∧w'.cell? ⟨b+2,0,none⟩=some (.int .i64 st.length)∧qB (CH w w' bs st l i av)) (ds:=[]) (mA 14 0) (by kernel_rfl) rfl rfl ⟨k0,k1,k2,k3,k4,k5,qB9 HCH⟩ (fun hHeld=>?_);refine pa_ 14 1 0 (some 37) (v:=?_) (a':=?_) ?_ ?_ ?_;rotate_left 2
         ·intro w';go_simp
          with_reducible rfl
         ·simp only [pn];rfl
         refine pa_ 14 5 2 (some 39) (v:=?_) (a':=?_) ?_ ?_ ?_;rotate_left 2
         ·intro w';go_simp
          with_reducible rfl
         ·simp only [pn];rfl
         refine pa_ 14 13 3 (some 40) (v:=?_) (a':=?_) ?_ ?_ ?_;rotate_left 2
         ·intro w';go_simp
          with_reducible rfl
         ·simp only [pn];rfl
         refine pa_ 14 29 4 (some 41) (v:=?_) (a':=?_) ?_ ?_ ?_;rotate_left 2
         ·intro w';go_simp
          with_reducible rfl
         ·simp only [pn];rfl
         refine tb_ 14 31 1 (some 38) (v:=?_) (a':=?_) hHeld ?_ ?_ ?_;rotate_left 2
         ·rintro w' ⟨s0,s1,s2,s3,s4,s5,s6⟩;go_simp
          with_reducible rfl
         ·simp only [pn];rfl
         refine tb_ 14 63 5 (some 42) (v:=?_) (a':=?_) hHeld ?_ ?_ ?_;rotate_left 2
         ·rintro w' ⟨s0,s1,s2,s3,s4,s5,s6⟩;go_simp
          with_reducible rfl
         ·simp only [pn];rfl
         refine pa_ 14 127 6 (some 43) (v:=?_) (a':=?_) ?_ ?_ ?_;rotate_left 2
         ·intro w';go_simp
          with_reducible rfl
         ·simp only [pn];rfl
         refine pa_ 14 255 7 (some 44) (v:=?_) (a':=?_) ?_ ?_ ?_;rotate_left 2
         ·intro w';go_simp
          with_reducible rfl
         ·simp only [pn];rfl
         refine pa_ 14 511 8 (some 45) (v:=?_) (a':=?_) ?_ ?_ ?_;rotate_left 2
         ·intro w';go_simp
          with_reducible rfl
         ·simp only [pn];rfl
         refine pa_ 14 1535 10 (some 47) (v:=?_) (a':=?_) ?_ ?_ ?_;rotate_left 2
         ·intro w';go_simp
          with_reducible rfl
         ·simp only [pn];rfl
         refine tb_ 14 2047 9 (some 46) (v:=?_) (a':=?_) hHeld ?_ ?_ ?_;rotate_left 2
         ·rintro w' ⟨s0,s1,s2,s3,s4,s5,s6⟩;go_simp
          with_reducible rfl
         ·simp only [pn];rfl
         refine pa_ 14 4095 11 (some 48) (v:=?_) (a':=?_) ?_ ?_ ?_;rotate_left 2
         ·intro w';go_simp
          with_reducible rfl
         ·simp only [pn];rfl
         refine pa_ 14 8191 12 (some 49) (v:=?_) (a':=?_) ?_ ?_ ?_;rotate_left 2
         ·intro w';go_simp
          with_reducible rfl
         ·simp only [pn];rfl
         refine oo_ 14 16383 13 (some 50) (fun K hK=>?_);refine qAO Tryz.func14 (by kernel_rfl) rfl #[.bool false] (by rfl) rfl rfl (by simp only [List.map_toArray,List.map_cons,List.map_nil]; rfl) ?_
         with_reducible refine (qG _).mono ?_
         rintro e u ⟨rfl,rfl⟩;refine ⟨_,rfl,?_⟩;exact ⟨rfl,by rw [HF.out]; rfl,hHeld.2.2.2.2.2.2.out.below⟩
        ·have HTT:=Lib.hid (HT.out (by rw [HAB2.out,t1,t2]; rfl));go_wp2;refine qU (n:=14) (S:=fun w'=>w'.cell? ⟨wr.heap.size,0,none⟩=some (.int .i64 x0)∧w'.cell? ⟨wr.heap.size,1,none⟩=some (.string x1)∧w'.cell? ⟨wr.heap.size,2,none⟩=some (.int .i64 x2)∧w'.cell? ⟨w2.heap.size,0,none⟩=some (.int .i64 y0)∧w'.cell? ⟨w2.heap.size,1,none⟩=some (.int .i64 y1)∧w'.cell? ⟨b+2,0,none⟩=some (.int .i64 st.length)∧qB (CH w w' bs st l i av)) (ds:=[]) (mA 14 0) (by kernel_rfl) rfl rfl ⟨k0,k1,k2,k3,k4,k5,qB9 HCH⟩ (fun hHeld=>?_);refine pa_ 14 1 0 (some 37) (v:=?_) (a':=?_) ?_ ?_ ?_;rotate_left 2
         ·intro w';go_simp
          with_reducible rfl
         ·simp only [pn];rfl
         refine pa_ 14 5 2 (some 39) (v:=?_) (a':=?_) ?_ ?_ ?_;rotate_left 2
         ·intro w';go_simp
          with_reducible rfl
         ·simp only [pn];rfl
         refine pa_ 14 13 3 (some 40) (v:=?_) (a':=?_) ?_ ?_ ?_;rotate_left 2
         ·intro w';go_simp
          with_reducible rfl
         ·simp only [pn];rfl
         refine pa_ 14 29 4 (some 41) (v:=?_) (a':=?_) ?_ ?_ ?_;rotate_left 2
         ·intro w';go_simp
          with_reducible rfl
         ·simp only [pn];rfl
         refine tb_ 14 31 1 (some 38) (v:=?_) (a':=?_) hHeld ?_ ?_ ?_;rotate_left 2
         ·rintro w' ⟨s0,s1,s2,s3,s4,s5,s6⟩;go_simp
          with_reducible rfl
         ·simp only [pn];rfl
         refine tb_ 14 63 5 (some 42) (v:=?_) (a':=?_) hHeld ?_ ?_ ?_;rotate_left 2
         ·rintro w' ⟨s0,s1,s2,s3,s4,s5,s6⟩;go_simp
          with_reducible rfl
         ·simp only [pn];rfl
         refine pa_ 14 127 6 (some 43) (v:=?_) (a':=?_) ?_ ?_ ?_;rotate_left 2
         ·intro w';go_simp
          with_reducible rfl
         ·simp only [pn];rfl
         refine pa_ 14 255 7 (some 44) (v:=?_) (a':=?_) ?_ ?_ ?_;rotate_left 2
         ·intro w';go_simp
          with_reducible rfl
         ·simp only [pn];rfl
         refine pa_ 14 511 8 (some 45) (v:=?_) (a':=?_) ?_ ?_ ?_;rotate_left 2
         ·intro w';go_simp
          with_reducible rfl
         ·simp only [pn];rfl
         refine pa_ 14 1535 10 (some 47) (v:=?_) (a':=?_) ?_ ?_ ?_;rotate_left 2
         ·intro w';go_simp
          with_reducible rfl
         ·simp only [pn];rfl
         refine tb_ 14 2047 9 (some 46) (v:=?_) (a':=?_) hHeld ?_ ?_ ?_;rotate_left 2
         ·rintro w' ⟨s0,s1,s2,s3,s4,s5,s6⟩;go_simp
          with_reducible rfl
         ·simp only [pn];rfl
         refine pa_ 14 4095 11 (some 48) (v:=?_) (a':=?_) ?_ ?_ ?_;rotate_left 2
         ·intro w';go_simp
          with_reducible rfl
         ·simp only [pn];rfl
         refine pa_ 14 8191 12 (some 49) (v:=?_) (a':=?_) ?_ ?_ ?_;rotate_left 2
         ·intro w';go_simp
          with_reducible rfl
         ·simp only [pn];rfl
         refine oo_ 14 16383 13 (some 50) (fun K hK=>?_);refine qR Tryz.func14 (by kernel_rfl) rfl #[.bool true] (by rfl) rfl rfl (by simp only [List.map_toArray,List.map_cons,List.map_nil]; rfl) ?_
         with_reducible refine (qL _).mono ?_
         rintro e u ⟨rfl,rfl⟩;refine ⟨_,rfl,?_⟩;refine hK.out _ _ ⟨hHeld.1,hHeld.2.1,hHeld.2.2.1,hHeld.2.2.2.1,hHeld.2.2.2.2.1,hHeld.2.2.2.2.2.1,hHeld.2.2.2.2.2.2⟩ (fun hHeld=>?_);clear hK K;refine qM (a':=?_) ?_ ?_;rotate_left
         ·show Act.put _ (some 50) _=_
          simp only [pn];rfl
         refine qn (by kernel_rfl) ?_;go_wp2;refine qU (n:=12) (S:=fun w'=>w'.cell? ⟨wr.heap.size,0,none⟩=some (.int .i64 x0)∧w'.cell? ⟨wr.heap.size,1,none⟩=some (.string x1)∧w'.cell? ⟨wr.heap.size,2,none⟩=some (.int .i64 x2)∧w'.cell? ⟨w2.heap.size,0,none⟩=some (.int .i64 y0)∧w'.cell? ⟨w2.heap.size,1,none⟩=some (.int .i64 y1)∧w'.cell? ⟨b+2,0,none⟩=some (.int .i64 st.length)∧qB (CH w w' bs st l i av)) (ds:=[10]) (mA 12 0) (by kernel_rfl) rfl rfl ⟨hHeld.1,hHeld.2.1,hHeld.2.2.1,hHeld.2.2.2.1,hHeld.2.2.2.2.1,hHeld.2.2.2.2.2.1,qB9 hHeld.2.2.2.2.2.2⟩ (fun hHeld=>?_);refine pa_ 12 1 0 (some 51) (v:=?_) (a':=?_) ?_ ?_ ?_;rotate_left 2
         ·intro w';go_simp
          with_reducible rfl
         ·simp only [pn];rfl
         refine pa_ 12 3 1 (some 52) (v:=?_) (a':=?_) ?_ ?_ ?_;rotate_left 2
         ·intro w';go_simp
          with_reducible rfl
         ·simp only [pn];rfl
         refine pa_ 12 11 3 (some 54) (v:=?_) (a':=?_) ?_ ?_ ?_;rotate_left 2
         ·intro w';go_simp
          with_reducible rfl
         ·simp only [pn];rfl
         refine pa_ 12 43 5 (some 56) (v:=?_) (a':=?_) ?_ ?_ ?_;rotate_left 2
         ·intro w';go_simp
          with_reducible rfl
         ·simp only [pn];rfl
         refine tb_ 12 47 2 (some 53) (v:=?_) (a':=?_) hHeld ?_ ?_ ?_;rotate_left 2
         ·rintro w' ⟨s0,s1,s2,s3,s4,s5,s6⟩;go_simp
          with_reducible rfl
         ·simp only [pn];rfl
         refine tb_ 12 63 4 (some 55) (v:=?_) (a':=?_) hHeld ?_ ?_ ?_;rotate_left 2
         ·rintro w' ⟨s0,s1,s2,s3,s4,s5,s6⟩;go_simp
          with_reducible rfl
         ·simp only [pn];rfl
         refine tb_ 12 127 6 (some 57) (v:=?_) (a':=?_) hHeld ?_ ?_ ?_;rotate_left 2
         ·rintro w' ⟨s0,s1,s2,s3,s4,s5,s6⟩;go_simp
          with_reducible rfl
         ·simp only [pn];rfl
         refine oo_ 12 255 7 (some 58) (fun K hK=>?_);refine qR Tryz.func138 (by kernel_rfl) rfl #[.int .i64 0] (by rfl) rfl rfl (by simp only [List.map_toArray,List.map_cons,List.map_nil]; rfl) ?_
         with_reducible refine (qDf 0 _).mono ?_
         rintro e u6 ⟨rfl,hb6⟩;refine ⟨_,rfl,?_⟩;refine hK.out _ _ ⟨qA hb6 hHeld.1,qA hb6 hHeld.2.1,qA hb6 hHeld.2.2.1,qA hb6 hHeld.2.2.2.1,qA hb6 hHeld.2.2.2.2.1,qA hb6 hHeld.2.2.2.2.2.1,⟨hHeld.2.2.2.2.2.2.out.step hb6⟩⟩ (fun hHeld=>?_);clear hK K;refine qM (a':=?_) ?_ ?_;rotate_left
         ·show Act.put _ (some 58) _=_
          simp only [pn];rfl
         refine pa_ 12 511 8 (some 59) (v:=?_) (a':=?_) ?_ ?_ ?_;rotate_left 2
         ·intro w';go_simp
          with_reducible rfl
         ·simp only [pn];rfl
         refine oo_ 12 1023 9 (some 60) (fun K hK=>?_);have HPre:=hHeld.2.2.2.2.2.2;refine Q1 (w1:=?_) (v:=?_) (by rfl) rfl ?_ ?_;rotate_left 2
         ·go_simp;constructor
          ·rfl
          ·rfl
         refine hK.out _ _ ⟨qA (qC (Below.refl _ _) _) hHeld.1,qA (qC (Below.refl _ _) _) hHeld.2.1,qA (qC (Below.refl _ _) _) hHeld.2.2.1,qA (qC (Below.refl _ _) _) hHeld.2.2.2.1,qA (qC (Below.refl _ _) _) hHeld.2.2.2.2.1,qA (qC (Below.refl _ _) _) hHeld.2.2.2.2.2.1,⟨hHeld.2.2.2.2.2.2.out.step (qC (Below.refl _ _) _)⟩⟩ (fun hHeld=>?_);clear hK K;refine qM (a':=?_) ?_ ?_;rotate_left
         ·show Act.put _ (some 60) _=_
          simp only [pn];rfl
         refine la_ 12 2047 10 (some 61) rfl rfl (by kernel_rfl) (by decide) (fun K hK=>?_);refine Kd.R_append_step kPA (w0:=w) w.heap.size (by kernel_rfl) _ _ 172 178 _ _ rfl Tryz.underlying172 infoPA rfl (by decide) (by omega) av (l.take i) ⟨x0,x1,x2,x3⟩ (qAt ⟨x0,x1,x2,x3⟩) (fun _=>True) (fun _=>False) rfl rfl rfl (fun _ h=>h.elim) (fun _ _=>trivial) HPre.out.rows HPre.out.below HPre.out.below.size (by rw [List.length_take]; omega) ?_;intro v1 w5 hR1 hb1 hg1 hat1;refine hK.out _ _ ?_;clear hK K;refine qM (a':=?_) ?_ ?_;rotate_left
         ·show Act.put _ (some 61) _=_
          simp only [pn];rfl
         refine pa_ 12 4095 11 (some 6) (v:=?_) (a':=?_) ?_ ?_ ?_;rotate_left 2
         ·intro w';go_simp
          with_reducible rfl
         ·simp only [pn];rfl
         refine qn (by kernel_rfl) ?_;have HNX:=qB.mk (CH.mk (bs:=bs) (st:=st) (l:=l) (i:=i+1) hb1 (by rw [HTT.out.2]; exact hR1) HTT.out.1);clear hR1 hb1 hg1 hat1;go_wp2;go_roundw
         case rel=>exact ⟨i+1,_,by omega,by go_num,rfl,HNX⟩
         case measure=>simp [intOf]; omega
    ·obtain rfl:i=l.length:=by omega
     have hrow:=HA.out.rows;have hok:=HA.out.ok;rw [List.take_length] at hrow hok;obtain ⟨B,k,rfl,hk,hCC⟩:=Kd.R_reads hrow;have HCC:=Lib.hid hCC;have HE:Hid (chB bs st.length l=QW [] l):=Lib.hid (by unfold chB; rw [hok,decide_eq_true h0,decide_eq_true h40]; rfl);clear hrow hok hCC;go_wp2_with fail;refine (qDf 0 _).mono ?_;rintro e w2 ⟨rfl,hb2⟩;have hb3:=qC hb2 (.cells #[.int .i64 3,.int .i64 0,.string ⟨#[]⟩,.slice none 0 0,.slice none 0 0] 175);have HW:=Lib.hid (qG6 (w2.alloc (.cells #[.int .i64 3,.int .i64 0,.string ⟨#[]⟩,.slice none 0 0,.slice none 0 0] 175)) l B 1 k w2.heap.size hne hk h40 (Kd.C_below HCC.out hb3) HK.out.2 (MapKept.heap_alloc w2 _).1 ((HL.out.below HA.out.below).below hb3));have HB3:=qB.mk (qF HA.out.below hb3);clear hb2 hb3;unfold qB8 at HW;cases hal:QW [] l
     ·rw [hal] at HW HE;clear hal;go_wp2_with fail;refine HW.out.mono ?_;rintro e w4 ⟨rfl,hb4⟩;have HB4:=qB.mk (qF HB3.out hb4);clear hb4;go_wp2_with fail;refine (qG _).mono ?_;rintro e w5 ⟨rfl,rfl⟩;go_wp2;exact ⟨rfl,by rw [HE.out]; rfl,HB4.out⟩
     ·rw [hal] at HW HE;clear hal;go_wp2_with fail;refine HW.out.mono ?_;rintro e w4 ⟨rfl,hb4⟩;have HB4:=qB.mk (qF HB3.out hb4);clear hb4;go_wp2_with fail;refine (qL _).mono ?_;rintro e w5 ⟨rfl,rfl⟩;go_wp2;go_end0;exact ⟨by rw [HE.out]; rfl,HB4.out⟩
  ·have q1:decide ((0:Int)<st.length)=true:=decide_eq_true (by omega);have q2:decide ((l.length:Int)≤40)=false:=decide_eq_false (by omega);have HF:Hid (chB bs st.length l=false):=Lib.hid (by unfold chB; rw [decide_eq_false h40]; simp);go_enter Tryz.func119,Tryz.ntmps119;go_wp2_with fail;refine (qG _).mono ?_;rintro e w1 ⟨rfl,rfl⟩;go_wp2;exact ⟨rfl,by rw [HF.out]; rfl,Below.refl _ _⟩
 ·have q1:decide ((0:Int)<st.length)=false:=decide_eq_false (by omega);have HF:Hid (chB bs st.length l=false):=Lib.hid (by unfold chB; rw [decide_eq_false h0]; simp);go_enter Tryz.func119,Tryz.ntmps119;go_wp2_with fail;refine (qG _).mono ?_;rintro e w1 ⟨rfl,rfl⟩;go_wp2;exact ⟨rfl,by rw [HF.out]; rfl,Below.refl _ _⟩
end Go.Proofs.YtoonkkipnljflaaGreatDoor.CJ
