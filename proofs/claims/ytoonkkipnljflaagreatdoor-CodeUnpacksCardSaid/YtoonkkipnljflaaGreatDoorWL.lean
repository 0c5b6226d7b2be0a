/- Package term: Counter.add, well and IsWell on a case whose parts are the number 0. Conditions: the alternatives lie in memory; there are at most 40. -/
import Derived.Test.YtoonkkipnljflaaGreatDoorAA
namespace Go.Proofs.YtoonkkipnljflaaGreatDoor.CJ
open Go.RowKit Go.Proofs.YtoonkkipnljflaaGreatDoorW.PrintWords Go.Proofs.YtoonkkipnljflaaGreatDoorW.PrintMore Go.Proofs.YtoonkkipnljflaaGreatDoor.PT Go.Proofs.YtoonkkipnljflaaGreatDoor.IMaps
set_option linter.unusedVariables false
set_option linter.unusedSimpArgs false
def QB(w:World)(q:Nat)(n d:Int):Prop:=w.heap[q]? = some (.cells #[.int .i64 n,.int .i64 d] 192 (0,0))
structure QN(q:Nat)(w w':World):Prop where
 below:Below q w w'
 rest:∀b,b≠q→b<w.heap.size→w'.heap[b]? = w.heap[b]?
theorem QN.refl(q:Nat)(w:World):QN q w w:=⟨Below.refl _ _,fun _ _ _=>rfl⟩
theorem QN.trans{q:Nat}{w w1 w2:World}(h1:QN q w w1)(h2:QN q w1 w2):QN q w w2:=
 ⟨h1.below.trans h2.below,fun b hb hl=>(h2.rest b hb (Nat.lt_of_lt_of_le hl h1.below.size)).trans (h1.rest b hb hl)⟩
theorem QN.of_below{q:Nat}{w w1:World}(h:Below w.heap.size w w1)(hq:q≤w.heap.size):QN q w w1:=
 ⟨h.mono hq,fun b _ hl=>h.block b hl⟩
theorem QN.set{w:World}{q i:Nat}(v:Value):QN q w (w.setCell ⟨q,i,none⟩ v):=
 ⟨(Below.refl q w).setCell (p:=⟨q,i,none⟩) (Nat.le_refl _) _,fun b hb _=>Below.heap_setCell _ _ _ _ hb⟩
theorem QN.box{w w':World}{q g:Nat}{cs:Array Value}{t:TypeId}(h:QN q w w')(hg:w.heap[g]? = some (.cells cs t (0,0)))(hne:g≠q):w'.heap[g]? = some (.cells cs t (0,0)):=
 (h.rest g hne (Array.getElem?_eq_some_iff.1 hg).1).trans hg
def mx(a b:Int):Int:=if a<b then b else a
theorem max_run(a b:Int)(ats:Array TypeId)(ty:TypeId)(W:World):(Builtin.max_ ats ty #[.int .i64 a,.int .i64 b]).run Tryz.prog W=.ok (.int .i64 (mx a b)) W:=by
 rw [max_two,max2_int]; rfl
def qIe(w:World)(q:Nat)(n d:Int)(e:Ending)(w':World):Prop:=e=.returned (.bool true)∧QB w' q n d∧QN q w w'
set_option maxHeartbeats 2000000 in
theorem qC7(w:World)(q:Nat)(n d deep:Int)(h:QB w q n d)(h0:0≤n)(h1:n≤1000)(h2:deep≤100):
 Calls Tryz.prog 167 #[.pointer (some ⟨q,0,none⟩),.int .i64 deep] w (qIe w q (n+1) (mx d deep)):=by
 have c0:=qD h (i:=0) rfl;have c1:=qD h (i:=1) rfl;have f0:=qH h 0;have f1:=qH h 1;have hm:=fun ats ty W=>max_run d deep ats ty W
 have hd1:decide (n+1≤4000)=true:=decide_eq_true (by omega);have hd2:decide (deep≤200)=true:=decide_eq_true (by omega);have HQ:=Lib.hid h;clear h;go_enter Tryz.func167,Tryz.ntmps167;go_wp2;go_ret;refine ⟨rfl,?_,(QN.set _).trans (QN.set _)⟩;have:=HQ.out;unfold QB at *;simp [World.setCell,Array.getElem?_modify,this]
def qB8(o B:Option Addr)(n m c k:Nat):Value:=.agg #[.int .i64 8,.int .i64 0,.string ⟨#[]⟩,.slice o n m,.slice B c k]
def leaf:Value:=.agg #[.int .i64 3,.int .i64 0,.string ⟨#[]⟩,.slice none 0 0,.slice none 0 0]
theorem QB_two{w:World}{q:Nat}{n d:Int}(h:QB w q n d)(o1 o2:Obj):QB ((w.alloc o1).alloc o2) q n d:=
 ((qC (qC (Below.refl w.heap.size w) o1) o2).block q (Array.getElem?_eq_some_iff.1 h).1).trans h
theorem qIf(w:World)(cs cs2:Array Value)(t t2:TypeId):((w.alloc (.cells cs t)).alloc (.cells cs2 t2)).heap[w.heap.size]? = some (.cells cs t (0,0)):=
 (Below.heap_alloc _ _ _ (by simp)).trans (MapKept.heap_alloc w _).1
theorem qFd(w:World)(cs cs2:Array Value)(t t2:TypeId):((w.alloc (.cells cs t)).alloc (.cells cs2 t2)).heap[w.heap.size+1]? = some (.cells cs2 t2 (0,0)):=by
 have:=(MapKept.heap_alloc (w.alloc (.cells cs t)) (.cells cs2 t2)).1;simp only [World.size_alloc] at this;exact this
set_option maxRecDepth 100000 in
set_option maxHeartbeats 4000000 in
theorem qFy(w0 w:World)(q:Nat)(n d deep:Int)(h:QB w q n d)(h0:0≤n)(h1:n≤1000)(h2:deep≤100)(hL:LW w0)(hB:Below w0.heap.size w0 w)(hq:w0.heap.size≤q):
 Calls Tryz.prog 156 #[.pointer (some ⟨q,0,none⟩),leaf,.int .i64 deep] w (qIe w q (n+1) (mx d deep)):=by
 obtain ⟨bs,hc,hl⟩:=hL.shape;obtain ⟨ba,hca,hla⟩:=hL.arity;have hql:q<w.heap.size:=(Array.getElem?_eq_some_iff.1 h).1;have HL:=Lib.hid hl;have HA:=Lib.hid hla;have hB1:Below w0.heap.size w0 (w.alloc (.cells #[.int .i64 3,.int .i64 0,.string ⟨#[]⟩,.slice none 0 0,.slice none 0 0] 175)):=qC hB _;obtain ⟨d0,d1,d2⟩:=hl _ hB1;have HB:=Lib.hid (qC hB1 (.cells #[.int .i64 0,.int .i64 0,.bool true,.bool false,.bool false] 203));have HQ:=Lib.hid h;have HN:=Lib.hid (And.intro h0 (And.intro h1 h2));clear hB1 hl hla hc hca d1 h h0 h1 h2;unfold leaf;go_enter Tryz.func156,Tryz.ntmps156;go_wp2_with fail;refine (qC7 _ q n d deep (QB_two HQ.out _ _) HN.out.1 HN.out.2.1 HN.out.2.2).mono ?_;rintro e w1 ⟨rfl,hQ1,hK1⟩;have b0:=hK1.box (g:=w.heap.size) (qIf w _ _ _ _) (by omega);have b1:=hK1.box (g:=w.heap.size+1) (qFd w _ _ _ _) (by omega);have e0:=qD b0 (i:=0) rfl;have e1:=qD b0 (i:=1) rfl;have e2:=qD b0 (i:=2) rfl;have e3:=qD b0 (i:=3) rfl;have e4:=qD b0 (i:=4) rfl;have g0:=qD b1 (i:=0) rfl;have g1:=qD b1 (i:=1) rfl;have g2:=qD b1 (i:=2) rfl;have g3:=qD b1 (i:=3) rfl;have g4:=qD b1 (i:=4) rfl;have hB1:Below w0.heap.size w0 w1:=HB.out.trans (hK1.below.mono hq);obtain ⟨a0,a1⟩:=HA.out w1 hB1;have a2:=a1 ⟨#[]⟩;have hK:QN q w w1:=(QN.of_below (qC (qC (Below.refl _ _) _) _) (by omega)).trans hK1;have H1:=qB.mk (And.intro hQ1 hK)
 have HAA:=Lib.hid (qDT w1 [] none 0 (Nat.le_refl _) (Kd.C_nil kPA w1) (by simp));have hl1:q<w1.heap.size:=Nat.lt_of_lt_of_le hql hK.below.size;clear b0 b1 hB1 a1 hQ1 hK1 hK d0 d2 HL HA HB HQ HN;go_wp2_with fail;refine (qCD 0 0 0 _).mono ?_;rintro e w2 ⟨rfl,rfl⟩;go_wp2_with fail;refine HAA.out.mono ?_;rintro e w2 ⟨rfl,hb2⟩;have H2:=qB.mk (And.intro (show QB w2 q (n+1) (mx d deep) from (hb2.block q hl1).trans H1.out.1) (H1.out.2.trans (QN.of_below hb2 (by omega))));have e3':=qA hb2 e3;have e4':=qA hb2 e4;clear hb2 H1;go_wp2
 go_loop [126] (fun v=>v=.int .i64 0) (fun _=>0)
 case atStart=>rfl
 case round=>
  subst hrel;go_wp2
  go_loop [140] (fun v=>v=.int .i64 0) (fun _=>0)
  case atStart=>rfl
  case round=>
   subst hrel;go_wp2;go_ret;exact ⟨rfl,H2.out.1,H2.out.2⟩
def CQ(w wr:World)(q:Nat)(m:Nat):Prop:=QN q w wr∧∃n d:Int,QB wr q n d∧0≤n∧n≤m
theorem CQ.step{w wr w1:World}{q m:Nat}(h:CQ w wr q m)(hb:Below wr.heap.size wr w1)(hq:q<wr.heap.size):CQ w w1 q m:=by
 obtain ⟨h1,n,d,h2,h3⟩:=h;exact ⟨h1.trans (QN.of_below hb (by omega)),n,d,(hb.block q hq).trans h2,h3⟩
structure CW(w0 w wr:World)(q m g:Nat)(cs:Array Value):Prop where
 cq:CQ w wr q m
 low:Below w0.heap.size w0 wr
 box:wr.heap[g]? = some (.cells cs 175 (0,0))
set_option maxRecDepth 100000 in
set_option maxHeartbeats 8000000 in
theorem qJ9(w0 w:World)(q:Nat)(l:List GAl)(o B:Option Addr)(c k:Nat)(hne:l≠[])(hk:l.length≤k)(h40:l.length≤40)(C1:kPA.C w B l.length l)(hs:∀a∈l,a.f1.size≤maxLen)
 (ga:Nat) (ho:o=some ⟨ga,0,none⟩) (hga:w.heap[ga]? = some (.cells #[.int .i64 3,.int .i64 0,.string ⟨#[]⟩,.slice none 0 0,.slice none 0 0] 175 (0,0))) (hgq:ga≠q)
 (h:QB w q 0 0) (hL:LW w0) (hB:Below w0.heap.size w0 w) (hq:w0.heap.size≤q) (hbq:∀W,QN q w W→kPA.C W B l.length l):
 Calls Tryz.prog 156 #[.pointer (some ⟨q,0,none⟩),qB8 o B 1 c l.length k,.int .i64 1] w fun e w'=>e=.returned (.bool (QW [] l))∧Below q w w':=by
 subst ho;obtain ⟨bs,hc,hl⟩:=hL.shape;obtain ⟨ba,hca,hla⟩:=hL.arity;have hql:q<w.heap.size:=(Array.getElem?_eq_some_iff.1 h).1;have HL:=Lib.hid hl;have HA:=Lib.hid hla;have hB1:Below w0.heap.size w0 (w.alloc (.cells #[.int .i64 8,.int .i64 0,.string ⟨#[]⟩,.slice (some ⟨ga,0,none⟩) 1 c,.slice B l.length k] 175)):=qC hB _;obtain ⟨d0,d1,d2⟩:=hl _ hB1;have HB:=Lib.hid (qC hB1 (.cells #[.int .i64 1,.int .i64 1,.bool false,.bool false,.bool true] 203));have HQ:=Lib.hid h;have hl0:0<l.length:=List.length_pos_iff.2 hne;have HGA:=Lib.hid hga;have HBQ:=Lib.hid hbq;have HS:=Lib.hid hs;have HBB:=Lib.hid hB;clear hB1 hl hla hc hca d2 h hga hbq hs C1 hne hB;unfold qB8;go_enter Tryz.func156,Tryz.ntmps156;go_wp2_with fail;refine (qC7 _ q 0 0 1 (QB_two HQ.out _ _) (by omega) (by omega) (by omega)).mono ?_;rintro e w1 ⟨rfl,hQ1,hK1⟩;have b0:=hK1.box (g:=w.heap.size) (qIf w _ _ _ _) (by omega);have b1:=hK1.box (g:=w.heap.size+1) (qFd w _ _ _ _) (by omega);have e0:=qD b0 (i:=0) rfl;have e1:=qD b0 (i:=1) rfl;have e2:=qD b0 (i:=2) rfl;have e3:=qD b0 (i:=3) rfl;have e4:=qD b0 (i:=4) rfl;have g0:=qD b1 (i:=0) rfl;have g1:=qD b1 (i:=1) rfl;have g2:=qD b1 (i:=2) rfl;have g3:=qD b1 (i:=3) rfl;have g4:=qD b1 (i:=4) rfl;have hB1:Below w0.heap.size w0 w1:=HB.out.trans (hK1.below.mono hq);obtain ⟨a0,a1⟩:=HA.out w1 hB1;have a2:=a1 ⟨#[]⟩
 have hK:QN q w w1:=(QN.of_below (qC (qC (Below.refl _ _) _) _) (by omega)).trans hK1;have H1:=qB.mk (And.intro (show CQ w w1 q 1 from ⟨hK,_,_,hQ1,by omega,by omega⟩) (And.intro hB1 b0));have hl1:q<w1.heap.size:=Nat.lt_of_lt_of_le hql hK.below.size;have HAA:=Lib.hid (qDT w1 l B k hk (HBQ.out w1 hK) HS.out);have hw1:w.heap.size<w1.heap.size:=(Array.getElem?_eq_some_iff.1 b0).1;clear b0 b1 hB1 a1 hQ1 hK1 hK d0 d1 HL HA HB HQ;go_wp2_with fail;refine (qCD 1 1 1 _).mono ?_;rintro e w2 ⟨rfl,rfl⟩;go_wp2_with fail;refine HAA.out.mono ?_;rintro e w2 ⟨rfl,hb2⟩;have H2:=qB.mk (And.intro (H1.out.1.step hb2 hl1) (And.intro (qF H1.out.2.1 hb2) ((hb2.block _ hw1).trans H1.out.2.2)));have e3':=qA hb2 e3;have e4':=qA hb2 e4;have hl2:q<w2.heap.size:=Nat.lt_of_lt_of_le hl1 hb2.size;clear hb2 H1 HAA;have HGA2:Hid (∀W,QN q w W→W.heap[ga]? = some (.cells #[.int .i64 3,.int .i64 0,.string ⟨#[]⟩,.slice none 0 0,.slice none 0 0] 175 (0,0))):=Lib.hid (fun W hW=>hW.box HGA.out hgq);have HL0:=Lib.hid hL;clear hL e0 e1 e2 e3 e4 g0 g1 g2 g3 g4 a0 a2 HGA HS;cases hal:QW [] l
 ·go_wp2;go_ret;exact ⟨by rw [hal]; rfl,H2.out.1.1.below⟩
 ·have HAL:=Lib.hid hal;go_wp2;clear hal
  go_loopw [126] (fun v wr=>∃j:Nat,j≤1∧v=.int .i64 j∧qB (CW w0 w wr q (1+j) w.heap.size #[.int .i64 8,.int .i64 0,.string ⟨#[]⟩,.slice (some ⟨ga,0,none⟩) 1 c,.slice B l.length k])) (fun v _=>1 - (intOf v).toNat)
  case atStart=>exact ⟨0,by omega,rfl,⟨⟨H2.out.1,H2.out.2.1,H2.out.2.2⟩⟩⟩
  case round=>
   obtain ⟨j,hj,rfl,HC⟩:=hrel;clear H2 e3' e4' hl2;by_cases hj0:j<1
   ·obtain rfl:j=0:=by omega
    obtain ⟨hk1,n,d,hq1,hn0,hn1⟩:=HC.out.cq;have hg:=HGA2.out wr hk1;have c0:=qD hg (i:=0) rfl;have c1:=qD hg (i:=1) rfl;have c2:=qD hg (i:=2) rfl;have c3:=qD hg (i:=3) rfl;have c4:=qD hg (i:=4) rfl;have hqr:q<wr.heap.size:=(Array.getElem?_eq_some_iff.1 hq1).1;have HW:=Lib.hid (qFy w0 (wr.alloc (.cells #[.int .i64 3,.int .i64 0,.string ⟨#[]⟩,.slice none 0 0,.slice none 0 0] 175)) q n d 2 ((Below.heap_alloc _ _ _ hqr).trans hq1) hn0 (by omega) (by omega) HL0.out (qC HC.out.low _) hq);have HK:=Lib.hid hk1;have HQR:=Lib.hid hqr;clear hg hq1 hk1 hqr;unfold leaf at HW;go_wp2_with fail;refine HW.out.mono ?_;rintro e w3 ⟨rfl,hQ3,hK3⟩;have hK4:=(QN.of_below (qC (Below.refl _ _) _) (by have:=HQR.out; omega)).trans hK3;have HN:=qB.mk (CW.mk (w0:=w0) (m:=2) ⟨HK.out.trans hK4,n+1,mx d 2,hQ3,by omega,by omega⟩ (HC.out.low.trans (hK4.below.mono hq)) (hK4.box HC.out.box (by omega)));clear hQ3 hK3 hK4;go_wp2;go_roundw
    case rel=>exact ⟨1,by omega,by go_num,HN⟩
    case measure=>simp [intOf]
   ·obtain rfl:j=1:=by omega
    have hbx:=HC.out.box;have f4:=qD hbx (i:=4) rfl;clear hbx;rw [show ((1:Nat):Int)=1 from rfl];go_wp2
    go_loopw [140] (fun v wr=>∃i:Nat,i≤l.length∧v=.int .i64 i∧qB (CW w0 w wr q (2+2*i) w.heap.size #[.int .i64 8,.int .i64 0,.string ⟨#[]⟩,.slice (some ⟨ga,0,none⟩) 1 c,.slice B l.length k])) (fun v _=>l.length - (intOf v).toNat)
    case atStart=>exact ⟨0,by omega,rfl,HC⟩
    case round=>
     obtain ⟨i,hi,rfl,HD⟩:=hrel;clear HC f4;by_cases hlt:i<l.length
     ·obtain ⟨hk1,n,d,hq1,hn0,hn1⟩:=HD.out.cq;obtain ⟨ad,rfl,g0,g1,g2,g3,g4,g5,g6,g7⟩:=at_PA (HBQ.out _ hk1) i hlt;generalize l.getD i zAl=a at *;obtain ⟨x0,x1,x2,x3⟩:=a;simp only at g0 g1 g2;have hqr:q<wr.heap.size:=(Array.getElem?_eq_some_iff.1 hq1).1;have HQ1:=Lib.hid ((Below.heap_alloc wr (.cells (qAt ⟨x0,x1,x2,x3⟩).toArray 178) q hqr).trans hq1);have HK:=Lib.hid hk1;have HQR:=Lib.hid hqr;have HNN:=Lib.hid (And.intro hn0 hn1);have hbox:(wr.alloc (.cells (qAt ⟨x0,x1,x2,x3⟩).toArray 178)).heap[wr.heap.size]? = some (.cells (qAt ⟨x0,x1,x2,x3⟩).toArray 178 (0,0)):=(MapKept.heap_alloc wr _).1;have HBX:=Lib.hid hbox;clear hq1 hk1 hqr hn0 hn1 hbox;go_wp2_with fail;refine (qC7 _ q n d 2 HQ1.out HNN.out.1 (by have:=HNN.out.2; omega) (by omega)).mono ?_;rintro e w3 ⟨rfl,hQ3,hK3⟩;have hb3:=hK3.box HBX.out (by have:=HQR.out; omega);have k3:=qD hb3 (i:=3) rfl;have k4:=qD hb3 (i:=4) rfl;have k5:=qD hb3 (i:=5) rfl;have k6:=qD hb3 (i:=6) rfl;have k7:=qD hb3 (i:=7) rfl;have hK4:=(QN.of_below (qC (Below.refl wr.heap.size wr) (.cells (qAt ⟨x0,x1,x2,x3⟩).toArray 178)) (by have:=HQR.out; omega)).trans hK3;have HW:=Lib.hid (qFy w0 w3 q (n+1) (mx d 2) 3 hQ3 (by have:=HNN.out.1; omega) (by have:=HNN.out.2; omega) (by omega) HL0.out (HD.out.low.trans (hK4.below.mono hq)) hq);have HK4:=Lib.hid hK4;clear hQ3 hK3 hK4 hb3;unfold leaf at HW;go_wp2_with fail;refine HW.out.mono ?_;rintro e w5 ⟨rfl,hQ5,hK5⟩;have hK6:=HK4.out.trans hK5
      have HN:=qB.mk (CW.mk (w0:=w0) (m:=2+2*(i+1)) ⟨HK.out.trans hK6,n+1+1,mx (mx d 2) 3,hQ5,by have:=HNN.out.1; omega,by have:=HNN.out.2; omega⟩ (HD.out.low.trans (hK6.below.mono hq)) (hK6.box HD.out.box (by omega)));clear hQ5 hK5 hK6;go_wp2;go_roundw
      case rel=>exact ⟨i+1,by omega,by go_num,HN⟩
      case measure=>simp [intOf]; omega
     ·go_wp2;go_ret;exact ⟨by rw [HAL.out]; rfl,HD.out.cq.1.below⟩
end Go.Proofs.YtoonkkipnljflaaGreatDoor.CJ
