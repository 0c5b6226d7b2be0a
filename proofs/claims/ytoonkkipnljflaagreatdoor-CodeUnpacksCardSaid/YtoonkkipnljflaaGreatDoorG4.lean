/- The reference's Unpack. Conditions: the string is not too long; the listed variables are laid. -/
import Derived.Test.YtoonkkipnljflaaGreatDoorRG
import Derived.Test.YtoonkkipnljflaaGreatDoorG3
import Derived.Test.YtoonkkipnljflaaGreatDoorRR
import Derived.Test.YtoonkkipnljflaaGreatDoorH8
import Derived.Test.YtoonkkipnljflaaGreatDoorUC
namespace Go.Proofs.YtoonkkipnljflaaGreatDoor.CJ
open Go.RowKit Go.Proofs.YtoonkkipnljflaaGreatDoorW.PrintWords Go.Proofs.YtoonkkipnljflaaGreatDoorW.PrintLast Go.Proofs.YtoonkkipnljflaaGreatDoor.PT Go.Proofs.YtoonkkipnljflaaGreatDoor.IMaps Go.Proofs.YtoonkkipnljflaaGreatDoor.TJ
set_option linter.unusedVariables false
set_option linter.unusedSimpArgs false
structure OB(q p T:Nat)(w W:World)(c:Array Value)(L:List UInt8)(k:Nat)(b:Bool)(s:Option (List UInt8)):Prop where
 hq:q<w.heap.size
 n:w.heap.size≤p
 hl:W.heap[p]? = some (.cells c T (0,0))
 rd:RF W q L k b s
 tch:Tch q w W
section
variable {q p p3 T T3:Nat} {w W W':World} {c c3:Array Value} {L:List UInt8} {k k':Nat} {b b':Bool} {s s':Option (List UInt8)}
theorem OB.call(h:OB q p T w W c L k b s)(hT:Tch q W W')(hR:RF W' q L k' b' s'):OB q p T w W' c L k' b' s':=
 ⟨h.hq,h.n,(hT.block p (qN h.hl) (fun e=>by have:=h.hq; have:=h.n; injection e; omega)).trans h.hl,hR,h.tch.trans hT⟩
theorem OB.two(h:OB q p T w W c L k b s):OT q p W.heap.size T T3 w (W.alloc (.cells c3 T3 (0,0))) c c3 L k b s:=OT.new h.hq h.n h.hl h.rd h.tch
theorem OT.one(h:OT q p p3 T T3 w W c c3 L k b s):OB q p T w W c L k b s:=⟨h.hq,h.n2,h.h2,h.rd,h.tch⟩
theorem OB.set(h:OB q p T w W c L k b s)(i:Nat)(u:Value):OB q p T w (W.setCell ⟨p,i,none⟩ u) (c.setIfInBounds i u) L k b s:=by
 have h1:=h.hq;have h2:=h.n;refine ⟨h.hq,h.n,qQ h.hl i u,⟨qS h.rd.box (show q≠p by omega) u,h.rd.st⟩,h.tch.grow (row:=some p) ⟨rfl,rfl,rfl,by simp [World.setCell],fun k _ hk=>Below.heap_setCell _ _ _ _ (fun e=>hk (by simp [e]))⟩ (fun k hk=>by injection hk; omega)⟩
theorem OB.grown{α:Type}{d:Kd α}{e:Nat}{ok:Nat→Prop}{v:Value}{xs:List α}(h:OB q p T w W c L k b s)(hr:d.R e W w.heap.size ok v xs)(hg:W.grownBy W' v.ownBlock)(n2:e≠T)(nq:e≠51):OB q p T w W' c L k b s:=by
 obtain ⟨inner,ho⟩:=Kd.R_own hr;exact ⟨h.hq,h.n,q9 h.hl hg (Kd.R_ne hr h.hl n2),⟨q9 h.rd.box hg (Kd.R_ne hr h.rd.box nq),h.rd.st⟩,h.tch.grow hg (fun k hk=>Or.inr (qAD ho k hk))⟩
end
def RuPost(w:World):Option (List GBk×List GGl)→Ending→World→Prop
 |some c,e,w'=>∃v,e=.returned (.tuple #[v,.bool true])∧qE2 w.heap.size w' c v∧Below w.heap.size w w'
 |none,e,w'=>e=.returned (.tuple #[.agg #[.slice none 0 0,.slice none 0 0],.bool false])∧Below w.heap.size w w'
theorem qKj{l T:List UInt8}(hT:T=l.take (l.length - 4))(q1:l.length≤200000)(q2:7≤l.length)(q3:(l.take 3==[100,107,49])=true)(q4:(QE T==l)=true):q7 l=unpM l (qB0 (T.drop 3)):=by
 rw [←unpS_eq];unfold unpS;rw [if_pos ⟨q1,q2,by simpa [qx] using q3,by rw [←hT]; simpa using q4⟩,hT]
theorem unpS_end{l:List UInt8}{F:Option (List GBk×List GGl)}{C:Option ((List GBk×List GGl)×List UInt8)}{bs:List GBk}{gl:List GGl}{s:Option (List UInt8)}(hU:F=unpM l C)(hF:C=s.bind fun r=>some ((bs,gl),r)):
 F=if s=some []∧allK bs gl=true∧qp bs gl=l then some (bs,gl) else none:=by
 rw [hU,hF];cases s with
 |none=>rw [if_neg (by simp)]; rfl
 |some r=>
  simp only [Option.bind_some,unpM];by_cases h:r=[]∧allK bs gl=true∧qp bs gl=l
  ·rw [if_pos h,if_pos ⟨by rw [h.1],h.2⟩]
  ·rw [if_neg h,if_neg (by simpa using h)]
theorem codeS_ok{T:List UInt8}{bs:List GBk}{gl:List GGl}(hl:T.length≤200000)(hF:qB0 (T.drop 3)=some ((bs,gl),[])):qAq bs gl∧WfC bs:=by
 have h1:=qGC _ _ hF;have h2:qBJ (T.drop 3)=some ((bs,gl),[]):=by rw [qDq,h1]; simp
 exact qEU (by rw [List.length_drop]; omega) h2
theorem cutS(l:List UInt8)(j:Nat)(hj:j≤l.length)(W:World):(Instr.slice 9 (.string ⟨l.toArray⟩) none (some (.int .i64 (j:Int))) none).run Tryz.prog W=.ok (.string ⟨(l.take j).toArray⟩) W:=by
 rw [run_slice_string_h (P:=Tryz.prog) W 9 ⟨l.toArray⟩ Tryz.underlying9 .i64 (j:Int) (by omega) (by simp [ByteArray.size]; omega),show (⟨(l.take j).toArray⟩:ByteArray)=(⟨l.toArray⟩:ByteArray).extract 0 j from ByteArray.ext (by simp)];rfl
theorem rowE{α β:Type}{d:Kd α}{e B p:Nat}{W W':World}{v:Value}{xs:List α}{d6:Kd β}{e6:Nat}{ok6:Nat→Prop}{v6:Value}{xs6:List β}(hr:d.R e W B (fun k=>k<p) v xs)(h6:d6.R e6 W p ok6 v6 xs6)(hg:W.grownBy W' v6.ownBlock):d.R e W' B (fun k=>k<p) v xs:=by
 obtain ⟨inner,ho⟩:=Kd.R_own h6;exact Kd.R_step hr (fun k hk hlt=>hg.block k hlt (fun e=>by have:=qAD ho k e.symm; omega))
theorem qHf{L:List UInt8}{k:Nat}(hk:k≤L.length):(some (L.drop k)=some ([]:List UInt8))↔k=L.length:=by
 simp [List.drop_eq_nil_iff]; omega
set_option maxRecDepth 100000 in
set_option maxHeartbeats 32000000 in
theorem qFB(w:World)(l:List UInt8)(rl:LR w)(hl:l.length≤1000000):
 Calls Tryz.prog 6 #[.string ⟨l.toArray⟩] w (RuPost w (q7 l)):=by
 have HRL:=Lib.hid rl;obtain ⟨F,hF⟩:∃F,F=q7 l:=⟨_,rfl⟩;rw [←hF];have HF:=Lib.hid hF;clear hF rl;have hcut3:=qHI l;go_enter Tryz.func6,Tryz.ntmps6;go_wp2_with (first|((with_reducible refine qh (N:=2) rfl ?_); refine QJ ?hg (N:=2) ?hd (cs:=#[.slice none 0 0,.slice none 0 0]) (t:=27) ?hr ?_; (case hd=>rfl); (case hg=>rfl); (case hr=>first|(go_simp; done)|(go_simp; rfl)); intro p2 hp2 w1 hbox2 hb1; have hp2':w.heap.size≤p2:=Nat.le_of_eq hp2.symm; clear hp2; have HL:qB (w1.heap[p2]? = some (.cells #[.slice none 0 0,.slice none 0 0] 27 (0,0))∧Below w.heap.size w w1):=⟨hbox2,hb1⟩; clear hbox2 hb1; refine Hid.out ?_));by_cases q1:l.length≤200000;rotate_left
 ·have d1:decide ((200000:Int)<(l.length:Int))=true:=decide_eq_true (by omega);have HE:Hid (F=none):=Lib.hid (HF.out.trans (qEF q1));clear hcut3 HF;refine Lib.hid ?_;have y0:=qD HL.out.1 (i:=0) rfl;have y1:=qD HL.out.1 (i:=1) rfl;have z0:=qH HL.out.1 0;have z1:=qH HL.out.1 1;have HNz:=qB.mk (And.intro (qQ (qQ HL.out.1 0 (.slice none 0 0)) 1 (.slice none 0 0)) ((HL.out.2.setCell (p:=⟨p2,0,none⟩) hp2' (.slice none 0 0)).setCell (p:=⟨p2,1,none⟩) hp2' (.slice none 0 0)));go_wp2;generalize (w1.setCell ⟨p2,0,none⟩ (.slice none 0 0)).setCell ⟨p2,1,none⟩ (.slice none 0 0)=W5 at *;have g5:W5.heap[p2]? = some (.cells #[.slice none 0 0,.slice none 0 0] 27 (0,0)):=HNz.out.1;have x0:=qD g5 (i:=0) rfl;have x1:=qD g5 (i:=1) rfl;refine bodyPost_ret (v:=.tuple #[.agg #[.slice none 0 0,.slice none 0 0],.bool false]) (by simp [results,Tryz.results6,go_sem,x0,x1]) rfl ?_;rw [HE.out];exact ⟨rfl,HNz.out.2⟩
 have d1:decide ((200000:Int)<(l.length:Int))=false:=decide_eq_false (by omega);by_cases q2:7≤l.length;rotate_left
 ·have d2:decide ((l.length:Int)<7)=true:=decide_eq_true (by omega);have HE:Hid (F=none):=Lib.hid (HF.out.trans (qEG q2));clear hcut3 HF;refine Lib.hid ?_;have y0:=qD HL.out.1 (i:=0) rfl;have y1:=qD HL.out.1 (i:=1) rfl;have z0:=qH HL.out.1 0;have z1:=qH HL.out.1 1;have HNz:=qB.mk (And.intro (qQ (qQ HL.out.1 0 (.slice none 0 0)) 1 (.slice none 0 0)) ((HL.out.2.setCell (p:=⟨p2,0,none⟩) hp2' (.slice none 0 0)).setCell (p:=⟨p2,1,none⟩) hp2' (.slice none 0 0)));go_wp2;generalize (w1.setCell ⟨p2,0,none⟩ (.slice none 0 0)).setCell ⟨p2,1,none⟩ (.slice none 0 0)=W5 at *;have g5:W5.heap[p2]? = some (.cells #[.slice none 0 0,.slice none 0 0] 27 (0,0)):=HNz.out.1;have x0:=qD g5 (i:=0) rfl;have x1:=qD g5 (i:=1) rfl;refine bodyPost_ret (v:=.tuple #[.agg #[.slice none 0 0,.slice none 0 0],.bool false]) (by simp [results,Tryz.results6,go_sem,x0,x1]) rfl ?_;rw [HE.out];exact ⟨rfl,HNz.out.2⟩
 have d2:decide ((l.length:Int)<7)=false:=decide_eq_false (by omega);cases q3:(l.take 3==[100,107,49])
 ·have HE:Hid (F=none):=Lib.hid (HF.out.trans (qEH q3));have q5:((l.take 3) != [100,107,49])=true:=by rw [bne,q3]; rfl
  clear HF;refine Lib.hid ?_;have y0:=qD HL.out.1 (i:=0) rfl;have y1:=qD HL.out.1 (i:=1) rfl;have z0:=qH HL.out.1 0;have z1:=qH HL.out.1 1;have HNz:=qB.mk (And.intro (qQ (qQ HL.out.1 0 (.slice none 0 0)) 1 (.slice none 0 0)) ((HL.out.2.setCell (p:=⟨p2,0,none⟩) hp2' (.slice none 0 0)).setCell (p:=⟨p2,1,none⟩) hp2' (.slice none 0 0)));go_wp2;generalize (w1.setCell ⟨p2,0,none⟩ (.slice none 0 0)).setCell ⟨p2,1,none⟩ (.slice none 0 0)=W5 at *;have g5:W5.heap[p2]? = some (.cells #[.slice none 0 0,.slice none 0 0] 27 (0,0)):=HNz.out.1;have x0:=qD g5 (i:=0) rfl;have x1:=qD g5 (i:=1) rfl;refine bodyPost_ret (v:=.tuple #[.agg #[.slice none 0 0,.slice none 0 0],.bool false]) (by simp [results,Tryz.results6,go_sem,x0,x1]) rfl ?_;rw [HE.out];exact ⟨rfl,HNz.out.2⟩
 have q5:((l.take 3) != [100,107,49])=false:=by rw [bne,q3]; rfl
 obtain ⟨T,hT⟩:∃T,T=l.take (l.length - 4):=⟨_,rfl⟩;obtain ⟨kk,hk⟩:∃k:Nat,l.length=k+4:=⟨l.length - 4,by omega⟩;have hTk:T.length=kk:=by rw [hT,List.length_take]; omega
 have hw4:RowKit.wrap64 ((l.length:Int) - 4)=(kk:Int):=by rw [IntWalk.wrap64_in _ (by omega)]; omega
 have hkl:kk≤l.length:=by omega
 have hk3:3≤kk:=by omega
 have hcutT:(⟨l.toArray⟩:ByteArray).extract 0 kk=⟨T.toArray⟩:=by rw [hT,hk]; exact qFf l kk (by omega)
 have hcutM:(⟨l.toArray⟩:ByteArray).extract 3 kk=⟨(T.drop 3).toArray⟩:=by rw [hT,hk]; exact cutMid l kk
 have hcutT2:(⟨l.toArray⟩:ByteArray).extract 0 (l.length - 4)=⟨T.toArray⟩:=by rw [show l.length - 4=kk by omega]; exact hcutT
 have hcutM2:(⟨l.toArray⟩:ByteArray).extract 3 (l.length - 4)=⟨(T.drop 3).toArray⟩:=by rw [show l.length - 4=kk by omega]; exact hcutM
 have hslM:∀W:World,(Instr.slice 9 (.string ⟨l.toArray⟩) (some (.int .i64 3)) (some (.int .i64 ((l.length:Int) - 4))) none).run Tryz.prog W=.ok (.string ⟨(T.drop 3).toArray⟩) W:=fun W=>by
  rw [run_slice_string (P:=Tryz.prog) (w:=W) 9 ⟨l.toArray⟩ .i64 .i64 3 ((l.length:Int) - 4) Tryz.underlying9 (by omega) (by omega) (by simp [ByteArray.size]; omega),show ((l.length:Int) - 4).toNat=l.length - 4 by omega];exact congrArg (fun x=>Result.ok (Value.string x) W) hcutM2
 have HSl:=Lib.hid (qCE T (by omega));have HUR:=Lib.hid (fun q4=>HF.out.trans (qKj hT q1 q2 q3 q4));have HUN:=Lib.hid (fun q4=>HF.out.trans (qEI hT q4));have HK:=Lib.hid (And.intro hT hTk);clear HF hk hT hTk;refine Lib.hid ?_;go_wp2_with fail;refine (HSl.out _).mono ?_;rintro e w2 ⟨rfl,hb2⟩;have HL2:qB (w2.heap[p2]? = some (.cells #[.slice none 0 0,.slice none 0 0] 27 (0,0))∧Below w.heap.size w w2):=⟨(hb2.block _ (qN HL.out.1)).trans HL.out.1,qF HL.out.2 hb2⟩;clear hb2 HL HSl;cases q4:(QE T==l)
 ·have HE:=Lib.hid (HUN.out q4);have q6:(QE T != l)=true:=by rw [bne,q4]; rfl
  clear HUN HUR hcut3 hcutT;have y0:=qD HL2.out.1 (i:=0) rfl;have y1:=qD HL2.out.1 (i:=1) rfl;have z0:=qH HL2.out.1 0;have z1:=qH HL2.out.1 1;have HNz:=qB.mk (And.intro (qQ (qQ HL2.out.1 0 (.slice none 0 0)) 1 (.slice none 0 0)) ((HL2.out.2.setCell (p:=⟨p2,0,none⟩) hp2' (.slice none 0 0)).setCell (p:=⟨p2,1,none⟩) hp2' (.slice none 0 0)));go_wp2;generalize (w2.setCell ⟨p2,0,none⟩ (.slice none 0 0)).setCell ⟨p2,1,none⟩ (.slice none 0 0)=W5 at *;have g5:W5.heap[p2]? = some (.cells #[.slice none 0 0,.slice none 0 0] 27 (0,0)):=HNz.out.1;have x0:=qD g5 (i:=0) rfl;have x1:=qD g5 (i:=1) rfl;refine bodyPost_ret (v:=.tuple #[.agg #[.slice none 0 0,.slice none 0 0],.bool false]) (by simp [results,Tryz.results6,go_sem,x0,x1]) rfl ?_;rw [HE.out];exact ⟨rfl,HNz.out.2⟩
 have HU:=Lib.hid (HUR.out q4);have q6:(QE T != l)=false:=by rw [bne,q4]; rfl
 have hTl:T.length≤200000:=by have:=HK.out.2; omega
 clear HUN HUR hcut3 hcutT;go_wp2_with (first
  |((with_reducible refine qh (N:=44) rfl ?_); refine QJ ?hg (N:=44) ?hd (cs:=#[.string ⟨(T.drop 3).toArray⟩,.int .i64 0,.bool false]) (t:=51) ?hr ?_; (case hd=>rfl); (case hg=>rfl); (case hr=>first|(go_simp; done)|(go_simp; rfl)); intro q hq w3 hbq hb3; have HLq:=qB.mk (And.intro hq (And.intro hbq hb3)); clear hq hbq hb3)
  |((with_reducible refine qh (N:=5) rfl ?_); refine QJ ?hg (N:=5) ?hd (cs:=#[.slice none 0 0,.slice none 0 0]) (t:=27) ?hr ?_; (case hd=>rfl); (case hg=>rfl); (case hr=>first|(go_simp; done)|(go_simp; rfl)); intro p5 hp5 w4 hb5 hb4; have HL5:=qB.mk (And.intro hp5 (And.intro hb5 hb4)); clear hp5 hb5 hb4)
  |fail)
 have HSz:=Lib.hid (fun bs gl (h:qB0 (T.drop 3)=some ((bs,gl),[]))=>codeS_ok hTl h);have hLl:(T.drop 3).length≤200000:=by rw [List.length_drop]; omega
 obtain ⟨C,hC⟩:∃C,C=qB0 (T.drop 3):=⟨_,rfl⟩;have HF:=Lib.hid (hC.trans (show qB0 (T.drop 3)=(some (T.drop 3)).bind (fun l=>qJ (rowS qAH l) fun bs r2=>qJ (rowS Q5 r2) fun gl r4=>some ((bs,gl),r4)) from rfl));rw [←hC] at HU HSz;have HS:qB (OB q p5 27 w3 w4 #[.slice none 0 0,.slice none 0 0] (T.drop 3) 0 false (some (T.drop 3))):=⟨⟨qN HLq.out.2.1,Nat.le_of_eq HL5.out.1.symm,HL5.out.2.1,⟨(HL5.out.2.2.block q (qN HLq.out.2.1)).trans HLq.out.2.1,hLl,Nat.zero_le _,rfl⟩,Tch.of HL5.out.2.2⟩⟩;have HW:=Lib.hid (fun W (hT:Tch q w3 W)=>(And.intro ((hT.block p2 (Nat.lt_of_lt_of_le (qN HL2.out.1) HLq.out.2.2.size) (fun e=>by have:=HLq.out.1; have:=qN HL2.out.1; injection e; omega)).trans ((HLq.out.2.2.block p2 (qN HL2.out.1)).trans HL2.out.1)) ((qF HL2.out.2 HLq.out.2.2).grown hT (Nat.le_trans HL2.out.2.size HLq.out.2.2.size) (fun k e=>by cases e; rw [HLq.out.1]; exact HL2.out.2.size)):W.heap[p2]? = some (.cells #[.slice none 0 0,.slice none 0 0] 27 (0,0))∧Below w.heap.size w W));have HWB:Hid (w.heap.size≤w3.heap.size):=Lib.hid (Nat.le_trans HL2.out.2.size HLq.out.2.2.size);clear hC HLq HL5 HL2 hcutM hcutM2 hcutT2 hslM HK;generalize T.drop 3=L at *;have hc:=qBM w4 q L _ _ _ HS.out.rd;refine hc.mono ?_;rintro e wy ⟨k1,b1,m1,rfl,hnb,hR,hT,hs,-⟩;have HE:=Lib.hid ((HF.out.trans (qCz (f:=qAH) _ _)).trans (QT (f:=szR) (x:=((m1:Nat):Int)) hs))
 have HSy:qB (OB q p5 27 w3 wy #[.slice none 0 0,.slice none 0 0] L k1 b1 (nx szR (some L))):=⟨HS.out.call hT hR⟩;generalize nx szR (some L)=s1 at *;have hn_m1:m1≤200000:=by omega
 simp only [Int.toNat_natCast] at HE;clear hR hT hc hs HS HF hnb hkl hk3 hw4 d1 d2 q5 q6 q1 q2 q3 q4;have HF2:Hid (C=s1.bind fun r=>qJ (qT qAH [] m1 r) (fun bs r2=>qJ (rowS Q5 r2) fun gl r4=>some ((bs,gl),r4))):=Lib.hid (by simp only [Q8]; exact HE.out);have HRB:qB (kBk.R 55 wy w3.heap.size (fun _=>True) (.slice none 0 0) []):=⟨Kd.R_nil _ _ _ _ _⟩;clear HE;go_wp2
 go_loopw [6] (fun v wr=>∃(m:Nat) (bs:List GBk) (AB:Option Addr) (cB ka:Nat) (ba:Bool) (sa:Option (List UInt8)),bs.length+m≤200000∧v=.int .i64 m∧Hid (C=sa.bind fun r=>qJ (qT qAH bs m r) (fun bs r2=>qJ (rowS Q5 r2) fun gl r4=>some ((bs,gl),r4)))∧qB (OB q p5 27 w3 wr #[.slice AB bs.length cB,.slice none 0 0] L ka ba sa)∧qB (kBk.R 55 wr w3.heap.size (fun _=>True) (.slice AB bs.length cB) bs)) (fun v _=>(intOf v).toNat)
 case atStart=>exact ⟨m1,[],none,0,k1,b1,s1,by simpa using hn_m1,rfl,HF2,HSy,HRB⟩
 case round=>
  obtain ⟨m,bs,AB,cB,k1,b1,s1,hi,rfl,HF,HS,HVB⟩:=hrel;clear HSy HRB HF2;by_cases hgo:0<m∧b1=false
  ·obtain ⟨hm0,rfl⟩:=hgo;obtain ⟨m,rfl⟩:∃m',m=m'+1:=⟨m - 1,by omega⟩;have g2:=qD HS.out.rd.box (i:=2) rfl;have hd:decide ((0:Int)<((m+1:Nat):Int))=true:=decide_eq_true (by omega);have hw1:RowKit.wrap64 (((m+1:Nat):Int) - 1)=(m:Int):=by rw [IntWalk.wrap64_in _ (by omega)]; omega
   generalize hmv:((m+1:Nat):Int)=mv at *;have HMV:=Lib.hid hmv;clear hmv;have HY:Hid (∀a s',(∀y r,s1.bind qAH=some (y,r)→a=y)→nx qAH s1=s'→C=s'.bind fun r=>qJ (qT qAH (bs++[a]) m r) (fun bs r2=>qJ (rowS Q5 r2) fun gl r4=>some ((bs,gl),r4))):=Lib.hid (fun a s' h1 h2=>by rw [←h2]; exact HF.out.trans (qCb h1));obtain ⟨AR,hAR⟩:∃AR,AR=s1.bind qAH:=⟨_,rfl⟩;have HA0:=Lib.hid hAR;have HF:=Lib.hid (hAR.trans (show s1.bind qAH=s1.bind (fun l=>qJ (smR l) fun f0 r1=>qJ (smR r1) fun f1 r2=>qJ (rowS opU r2) fun f2 r4=>some ((⟨f0,f1,f2⟩:GBk),r4)) from rfl));clear hAR;go_wp2_with fail;clear g2;have hc:=Qr wr q L _ _ _ HS.out.rd;refine hc.mono ?_;rintro e wy ⟨k2,b2,a0,rfl,hnb,hR,hT,hs,-⟩;have HE:=Lib.hid (HF.out.trans (QT (f:=smR) hs));have HSy:qB (OB q p5 27 w3 wy #[.slice AB bs.length cB,.slice none 0 0] L k2 b2 (nx smR s1)):=⟨HS.out.call hT hR⟩;have HVBy:qB (kBk.R 55 wy w3.heap.size (fun _=>True) (.slice AB bs.length cB) bs):=⟨rowF HVB.out HS.out.rd hT (by decide)⟩;generalize nx smR s1=s2 at *;have HS0:=HSy.out.two (T3:=55) (c3:=#[.int .i64 a0,.int .i64 0,.slice none 0 0]);have HVB0:kBk.R 55 (wy.alloc (.cells #[.int .i64 a0,.int .i64 0,.slice none 0 0] 55)) w3.heap.size (fun k=>k<wy.heap.size) (.slice AB bs.length cB) bs:=Kd.R_below (Kd.R_mono (Kd.R_bound HVBy.out) (fun k hk=>hk.2.2.1)) (qC (Below.refl _ _) (.cells #[.int .i64 a0,.int .i64 0,.slice none 0 0] 55))
   have HMN:Hid (∀(W:World) (x:GBk) (cs:List Value),kBk.M W wy.heap.size (fun _=>True) x cs→kBk.M W w3.heap.size (fun k=>True∧some k≠(Value.slice AB bs.length cB).ownBlock) x cs):=Lib.hid (fun W x cs h=>kBk.M_lower HSy.out.tch.size (Kd.M_new h (Kd.R_own HVBy.out).choose_spec));have HP7:Hid (w3.heap.size≤wy.heap.size):=Lib.hid HSy.out.tch.size;clear hR hT hc hs HS HF HVB HSy HVBy hnb;have HF:=HE;clear HE;go_wp2_with fail;generalize hW:wy.alloc (.cells #[.int .i64 a0,.int .i64 0,.slice none 0 0] 55)=W1 at *;generalize hp7:wy.heap.size=p7 at *;have HS:qB (OT q p5 p7 27 55 w3 W1 #[.slice AB bs.length cB,.slice none 0 0] #[.int .i64 a0,.int .i64 0,.slice none 0 0] L k2 b2 s2):=⟨HS0⟩;have HVB:qB (kBk.R 55 W1 w3.heap.size (fun k=>k<p7) (.slice AB bs.length cB) bs):=⟨HVB0⟩;clear HS0 HVB0 hW hp7;have hc:=Qr W1 q L _ _ _ HS.out.rd;refine hc.mono ?_;rintro e wy ⟨k3,b3,a1,rfl,hnb,hR,hT,hs,-⟩;have HE:=Lib.hid (HF.out.trans (QT (f:=smR) hs));have HSy:qB (OT q p5 p7 27 55 w3 wy #[.slice AB bs.length cB,.slice none 0 0] #[.int .i64 a0,.int .i64 0,.slice none 0 0] L k3 b3 (nx smR s2)):=⟨HS.out.call hT hR⟩;have HVBy:qB (kBk.R 55 wy w3.heap.size (fun k=>k<p7) (.slice AB bs.length cB) bs):=⟨rowF HVB.out HS.out.rd hT (by decide)⟩;generalize nx smR s2=s3 at *;have d:=qD HSy.out.hl (i:=1) rfl;have f:=qH HSy.out.hl 1
   have HS2:qB (OT q p5 p7 27 55 w3 (wy.setCell ⟨p7,1,none⟩ (.int .i64 a1)) #[.slice AB bs.length cB,.slice none 0 0] #[.int .i64 a0,.int .i64 a1,.slice none 0 0] L k3 b3 s3):=⟨HSy.out.set 1 (.int .i64 a1)⟩;have HVB2:qB (kBk.R 55 (wy.setCell ⟨p7,1,none⟩ (.int .i64 a1)) w3.heap.size (fun k=>k<p7) (.slice AB bs.length cB) bs):=⟨Kd.R_far (p:=⟨p7,1,none⟩) HVBy.out (fun k h=>by show k≠p7; omega) _⟩;clear hR hT hc hs HS HF HVB HVBy hnb;have HF:=HE;clear HE;go_wp2_with fail;generalize wy.setCell ⟨p7,1,none⟩ (.int .i64 a1)=W2 at *;clear d f HSy;have hc:=qBM W2 q L _ _ _ HS2.out.rd;refine hc.mono ?_;rintro e wy ⟨k4,b4,m2,rfl,hnb,hR,hT,hs,-⟩;have HE:=Lib.hid ((HF.out.trans (qCz (f:=opU) _ _)).trans (QT (f:=szR) (x:=((m2:Nat):Int)) hs));have HSy:qB (OT q p5 p7 27 55 w3 wy #[.slice AB bs.length cB,.slice none 0 0] #[.int .i64 a0,.int .i64 a1,.slice none 0 0] L k4 b4 (nx szR s3)):=⟨HS2.out.call hT hR⟩;have HVBy:qB (kBk.R 55 wy w3.heap.size (fun k=>k<p7) (.slice AB bs.length cB) bs):=⟨rowF HVB2.out HS2.out.rd hT (by decide)⟩;generalize nx szR s3=s4 at *;have hn_m2:m2≤200000:=by omega
   simp only [Int.toNat_natCast] at HE;clear hR hT hc hs HS2 HVB2 HF hnb;have HF2:Hid (AR=s4.bind fun r=>qJ (qT opU [] m2 r) (fun f2 r4=>some ((⟨(a0:Int),(a1:Int),f2⟩:GBk),r4))):=Lib.hid (by simp only [Q8]; exact HE.out);have HRO:qB (kOp.R 59 wy p7 (fun _=>True) (.slice none 0 0) []):=⟨Kd.R_nil _ _ _ _ _⟩;clear HE;go_wp2
   go_loopw [8] (fun v wr=>∃(m:Nat) (xs:List GOp) (AO:Option Addr) (cO ka:Nat) (ba:Bool) (sa:Option (List UInt8)),xs.length+m≤200000∧v=.int .i64 m∧Hid (AR=sa.bind fun r=>qJ (qT opU xs m r) (fun f2 r4=>some ((⟨(a0:Int),(a1:Int),f2⟩:GBk),r4)))∧qB (OT q p5 p7 27 55 w3 wr #[.slice AB bs.length cB,.slice none 0 0] #[.int .i64 a0,.int .i64 a1,.slice AO xs.length cO] L ka ba sa)∧qB (kBk.R 55 wr w3.heap.size (fun k=>k<p7) (.slice AB bs.length cB) bs)∧qB (kOp.R 59 wr p7 (fun _=>True) (.slice AO xs.length cO) xs)) (fun v _=>(intOf v).toNat)
   case atStart=>exact ⟨m2,[],none,0,k4,b4,s4,by simpa using hn_m2,rfl,HF2,HSy,HVBy,HRO⟩
   case round=>
    obtain ⟨mm,xs,AO,cO,k4,b4,s4,hj,rfl,HF,HS,HVB,HVO⟩:=hrel;clear HSy HVBy HRO HF2;by_cases hgo:0<mm∧b4=false
    ·obtain ⟨hm0,rfl⟩:=hgo;obtain ⟨mn,rfl⟩:∃m',mm=m'+1:=⟨mm - 1,by omega⟩;have g2:=qD HS.out.rd.box (i:=2) rfl;have d2:=qD HS.out.hl (i:=2) rfl;have hd:decide ((0:Int)<((mn+1:Nat):Int))=true:=decide_eq_true (by omega);have hw1:RowKit.wrap64 (((mn+1:Nat):Int) - 1)=(mn:Int):=by rw [IntWalk.wrap64_in _ (by omega)]; omega
     generalize hmv:((mn+1:Nat):Int)=mw at *;have HMW:=Lib.hid hmv;clear hmv;go_wp2_with fail;clear g2 d2;have hc:=qIH wr q L _ _ _ HS.out.rd;refine hc.mono ?_;rintro e wy ⟨k5,b5,g,v,rfl,⟨cs,rfl,hM⟩,hR,hT,hs⟩;obtain ⟨v5,v6,rfl,h5,h6⟩:=qDc hM;obtain ⟨B5,c5,rfl⟩:=Kd.R_slice h5;obtain ⟨B6,c6,rfl⟩:=Kd.R_slice h6;have HE:Hid (AR=(nx opU s4).bind fun r=>qJ (qT opU (xs++[g]) mn r) (fun f2 r4=>some ((⟨(a0:Int),(a1:Int),f2⟩:GBk),r4))):=Lib.hid (HF.out.trans (qCb hs));have HSy:qB (OT q p5 p7 27 55 w3 wy #[.slice AB bs.length cB,.slice none 0 0] #[.int .i64 a0,.int .i64 a1,.slice AO xs.length cO] L k5 b5 (nx opU s4)):=⟨HS.out.call hT hR⟩;have HVBy:qB (kBk.R 55 wy w3.heap.size (fun k=>k<p7) (.slice AB bs.length cB) bs):=⟨rowF HVB.out HS.out.rd hT (by decide)⟩;have HVOy:qB (kOp.R 59 wy p7 (fun _=>True) (.slice AO xs.length cO) xs):=⟨rowF HVO.out HS.out.rd hT (by decide)⟩;have hMn:=kOp.M_lower (Nat.le_of_lt (qN HS.out.hl)) (Kd.M_new hM (Kd.R_own HVO.out).choose_spec);have HM:=qB.mk hMn;generalize nx opU s4=s5 at *;clear hR hT hc hs hM hMn h5 h6 HS HVB HVO HF
     go_wp2_with (refine Kd.R_append kOp (w0:=wy) p7 rfl _ _ 53 59 (.agg #[(.int .i64 0),(.int .i64 0),(.int .i64 0),(.int .i64 0),(.string ⟨#[]⟩),(.slice none 0 0),(.slice none 0 0)]) 96 rfl Tryz.underlying53 qGv rfl (by decide) (by omega) (.slice AO xs.length cO) xs g [.int .i64 g.f0,.int .i64 g.f1,.int .i64 g.f2,.int .i64 g.f3,.string g.f4,.slice B5 g.f5.length c5,.slice B6 g.f6.length c6] (fun _=>True) _ rfl rfl HM.out (fun _ h=>h) (fun _ _=>trivial) HVOy.out (Below.refl _ _) (Nat.le_of_lt (qN HSy.out.hl)) (by omega) ?_);intro v1 wz hrow hb3 hg hat;obtain ⟨A7,c7,rfl⟩:=Kd.R_slice hrow;have HS3:qB (OT q p5 p7 27 55 w3 wz #[.slice AB bs.length cB,.slice none 0 0] #[.int .i64 a0,.int .i64 a1,.slice AO xs.length cO] L k5 b5 s5):=⟨HSy.out.grown (Kd.R_lower HVOy.out HP7.out) hg (by decide) (by decide) (by decide)⟩;have HVB3:qB (kBk.R 55 wz w3.heap.size (fun k=>k<p7) (.slice AB bs.length cB) bs):=⟨rowE HVBy.out HVOy.out hg⟩;have HVO3:qB (kOp.R 59 wz p7 (fun _=>True) (.slice A7 (xs++[g]).length c7) (xs++[g])):=⟨hrow⟩;have hxl:(xs++[g]).length+mn≤200000:=by simp; omega
     clear hrow hb3 hg hat HSy HVBy HVOy HM;generalize xs++[g]=xs2 at *;have d2:=qD HS3.out.hl (i:=2) rfl;have z2:=qH HS3.out.hl 2;go_wp2;go_roundw
     case rel=>exact ⟨mn,xs2,A7,c7,k5,b5,s5,hxl,by first|rfl|rw [hw1],HE,⟨HS3.out.set 2 _⟩,⟨Kd.R_far (p:=⟨p7,2,none⟩) HVB3.out (fun k h=>by show k≠p7; omega) _⟩,⟨Kd.R_set HVO3.out HS3.out.hl (by decide) 2 _⟩⟩
     case measure=>have:=HMW.out; simp [intOf]; omega
    ·have HE:Hid (AR=s4.bind fun r=>some ((⟨(a0:Int),(a1:Int),xs⟩:GBk),r)):=Lib.hid (HF.out.trans (by
      rcases Nat.eq_zero_or_pos mm with rfl|hm
      ·simp only [Q9]; rfl
      ·have hb:b4=true:=by cases b4 with|true=>rfl|false=>exact absurd ⟨hm,rfl⟩ hgo
       have:=HS.out.rd.st.2.2;rw [hb] at this;rw [this]; rfl))
     have hex:mm=0∨(0<mm∧b4=true):=by
      rcases Nat.eq_zero_or_pos mm with h|h
      ·exact .inl h
      ·exact .inr ⟨h,by cases b4 with|true=>rfl|false=>exact absurd ⟨h,rfl⟩ hgo⟩
     have g2:=qD HS.out.rd.box (i:=2) rfl;have hd2:decide ((0:Int)<(mm:Int))=decide (0<mm):=by by_cases h:0<mm<;>simp [h]
     have HQ:Hid ((∀y r,s1.bind qAH=some (y,r)→(⟨(a0:Int),(a1:Int),xs⟩:GBk)=y)∧nx qAH s1=s4):=Lib.hid (qEc (HA0.out.symm.trans HE.out));have HN:=Lib.hid (HY.out _ _ HQ.out.1 HQ.out.2);have d0:=qD HS.out.hl (i:=0) rfl;have d1:=qD HS.out.hl (i:=1) rfl;have d2:=qD HS.out.hl (i:=2) rfl;have x0:=qD HS.out.h2 (i:=0) rfl;have HM:=qB.mk (HMN.out wr _ _ (qD8 wr p7 (fun _=>True) ⟨a0,a1,xs⟩ HVO.out));have HVT:qB (kBk.R 55 wr w3.heap.size (fun _=>True) (.slice AB bs.length cB) bs):=⟨Kd.R_mono HVB.out (fun _ _=>trivial)⟩;clear HF hgo HY HQ HA0 HE HMN HVO HVB;rcases hex with rfl|⟨hm,rfl⟩
     case' inr=>replace hd2:decide ((0:Int)<(mm:Int))=true:=decide_eq_true (by omega)
     all_goals
      go_wp2_with (refine Kd.R_append kBk (w0:=wr) w3.heap.size rfl _ _ 24 55 (.agg #[(.int .i64 0),(.int .i64 0),(.slice none 0 0)]) 40 rfl Tryz.underlying24 qGu rfl (by decide) (by omega) (.slice AB bs.length cB) bs ⟨a0,a1,xs⟩ [.int .i64 a0,.int .i64 a1,.slice AO xs.length cO] (fun _=>True) _ rfl rfl HM.out (fun _ h=>h) (fun _ _=>trivial) HVT.out (Below.refl _ _) HS.out.tch.size (by omega) ?_);intro v1 wz hrow hb3 hg hat;obtain ⟨A7,c7,rfl⟩:=Kd.R_slice hrow;have HS3:qB (OB q p5 27 w3 wz #[.slice AB bs.length cB,.slice none 0 0] L k4 _ s4):=⟨HS.out.one.grown HVT.out hg (by decide) (by decide)⟩;have HV3:qB (kBk.R 55 wz w3.heap.size (fun _=>True) (.slice A7 (bs++[(⟨(a0:Int),(a1:Int),xs⟩:GBk)]).length c7) (bs++[(⟨(a0:Int),(a1:Int),xs⟩:GBk)])):=⟨hrow⟩;have hxl:(bs++[(⟨(a0:Int),(a1:Int),xs⟩:GBk)]).length+m≤200000:=by simp; omega
      clear hrow hb3 hg hat HS HVT HM g2 d0 d1 d2 x0 hd2;generalize bs++[(⟨(a0:Int),(a1:Int),xs⟩:GBk)]=bs2 at *;have x0:=qD HS3.out.hl (i:=0) rfl;have z0:=qH HS3.out.hl 0;go_wp2;go_roundw
      case rel=>exact ⟨m,bs2,A7,c7,k4,_,s4,hxl,by first|rfl|rw [hw1],HN,⟨HS3.out.set 0 _⟩,⟨Kd.R_set HV3.out HS3.out.hl (by decide) 0 _⟩⟩
      case measure=>have:=HMV.out; simp [intOf]; omega
  ·have HE:Hid (C=s1.bind fun r=>(fun bs r2=>qJ (rowS Q5 r2) fun gl r4=>some ((bs,gl),r4)) bs r):=Lib.hid (HF.out.trans (by
    rcases Nat.eq_zero_or_pos m with rfl|hm
    ·simp only [Q9]; rfl
    ·have hb:b1=true:=by cases b1 with|true=>rfl|false=>exact absurd ⟨hm,rfl⟩ hgo
     have:=HS.out.rd.st.2.2;rw [hb] at this;rw [this]; rfl))
   have hex:m=0∨(0<m∧b1=true):=by
    rcases Nat.eq_zero_or_pos m with h|h
    ·exact .inl h
    ·exact .inr ⟨h,by cases b1 with|true=>rfl|false=>exact absurd ⟨h,rfl⟩ hgo⟩
   have g2:=qD HS.out.rd.box (i:=2) rfl;have hd2:decide ((0:Int)<(m:Int))=decide (0<m):=by by_cases h:0<m<;>simp [h]
   clear HF hgo;have HF:=HE;clear HE;rcases hex with rfl|⟨hm,rfl⟩
   case' inr=>replace hd2:decide ((0:Int)<(m:Int))=true:=decide_eq_true (by omega)
   all_goals
    go_wp2_with fail;clear g2 hd2;have hc:=qBM wr q L _ _ _ HS.out.rd;refine hc.mono ?_;rintro e wy ⟨k2,b2,m3,rfl,hnb,hR,hT,hs,-⟩;have HE:=Lib.hid ((HF.out.trans (qCz (f:=Q5) _ _)).trans (QT (f:=szR) (x:=((m3:Nat):Int)) hs));have HSy:qB (OB q p5 27 w3 wy #[.slice AB bs.length cB,.slice none 0 0] L k2 b2 (nx szR s1)):=⟨HS.out.call hT hR⟩;have HVBy:qB (kBk.R 55 wy w3.heap.size (fun _=>True) (.slice AB bs.length cB) bs):=⟨rowF HVB.out HS.out.rd hT (by decide)⟩;generalize nx szR s1=s2 at *;have hn_m3:m3≤200000:=by omega
    simp only [Int.toNat_natCast] at HE;clear hR hT hc hs HS HVB HF hnb;have HF2:Hid (C=s2.bind fun r=>qJ (qT Q5 [] m3 r) (fun gl r4=>some ((bs,gl),r4))):=Lib.hid (by simp only [Q8]; exact HE.out);have HRG:qB (kGl.R 63 wy w3.heap.size (fun _=>True) (.slice none 0 0) []):=⟨Kd.R_nil _ _ _ _ _⟩;clear HE;go_wp2
    go_loopw [11] (fun v wr=>∃(m:Nat) (gl:List GGl) (AG:Option Addr) (cG ka:Nat) (ba:Bool) (sa:Option (List UInt8)),gl.length+m≤200000∧v=.int .i64 m∧Hid (C=sa.bind fun r=>qJ (qT Q5 gl m r) (fun gl r4=>some ((bs,gl),r4)))∧qB (OB q p5 27 w3 wr #[.slice AB bs.length cB,.slice AG gl.length cG] L ka ba sa)∧qB (kBk.R 55 wr w3.heap.size (fun _=>True) (.slice AB bs.length cB) bs)∧qB (kGl.R 63 wr w3.heap.size (fun _=>True) (.slice AG gl.length cG) gl)) (fun v _=>(intOf v).toNat)
    case atStart=>exact ⟨m3,[],none,0,k2,b2,s2,by simpa using hn_m3,rfl,HF2,HSy,HVBy,HRG⟩
    case round=>
     obtain ⟨mm,gl,AG,cG,k2,b2,s2,hj,rfl,HF,HS,HVB,HVG⟩:=hrel;clear HSy HVBy HRG HF2;by_cases hgo:0<mm∧b2=false
     ·obtain ⟨hm0,rfl⟩:=hgo;obtain ⟨mn,rfl⟩:∃m',mm=m'+1:=⟨mm - 1,by omega⟩;have g2:=qD HS.out.rd.box (i:=2) rfl;have hd:decide ((0:Int)<((mn+1:Nat):Int))=true:=decide_eq_true (by omega);have hw1:RowKit.wrap64 (((mn+1:Nat):Int) - 1)=(mn:Int):=by rw [IntWalk.wrap64_in _ (by omega)]; omega
      generalize hmv:((mn+1:Nat):Int)=mw at *;have HMW:=Lib.hid hmv;clear hmv;have HY:Hid (∀a s',(∀y r,s2.bind Q5=some (y,r)→a=y)→nx Q5 s2=s'→C=s'.bind fun r=>qJ (qT Q5 (gl++[a]) mn r) (fun gl r4=>some ((bs,gl),r4))):=Lib.hid (fun a s' h1 h2=>by rw [←h2]; exact HF.out.trans (qCb h1));obtain ⟨AR,hAR⟩:∃AR,AR=s2.bind Q5:=⟨_,rfl⟩;have HA0:=Lib.hid hAR;have HF:=Lib.hid (hAR.trans (show s2.bind Q5=s2.bind (fun l=>qJ (stR l) fun f0 r1=>qJ (smR r1) fun f1 r2=>some ((⟨f0,f1⟩:GGl),r2)) from rfl));clear hAR;go_wp2_with fail;clear g2;have hc:=qDB wr q L _ _ _ HS.out.rd;refine hc.mono ?_;rintro e wy ⟨k3,b3,a0,rfl,hnb,hR,hT,hs⟩;have HE:=Lib.hid (HF.out.trans (QT (f:=stR) hs));have HSy:qB (OB q p5 27 w3 wy #[.slice AB bs.length cB,.slice AG gl.length cG] L k3 b3 (nx stR s2)):=⟨HS.out.call hT hR⟩;have HVBy:qB (kBk.R 55 wy w3.heap.size (fun _=>True) (.slice AB bs.length cB) bs):=⟨rowF HVB.out HS.out.rd hT (by decide)⟩;have HVGy:qB (kGl.R 63 wy w3.heap.size (fun _=>True) (.slice AG gl.length cG) gl):=⟨rowF HVG.out HS.out.rd hT (by decide)⟩;generalize nx stR s2=s3 at *;have HS0:=HSy.out.two (T3:=63) (c3:=#[.string a0,.int .i64 0]);have HVB0:=Kd.R_alloc HVBy.out (.cells #[.string a0,.int .i64 0] 63);have HVG0:=Kd.R_mono (Kd.R_below (Kd.R_elderB HVGy.out wy.heap.size (Nat.le_refl _)) (qC (Below.refl _ _) (.cells #[.string a0,.int .i64 0] 63))) (fun k hk=>hk.2);clear hR hT hc hs HS HF HVB HVG HSy HVBy HVGy hnb;have HF:=HE;clear HE
      go_wp2_with fail;generalize hW:wy.alloc (.cells #[.string a0,.int .i64 0] 63)=W1 at *;generalize hp7:wy.heap.size=p7 at *;have HS:qB (OT q p5 p7 27 63 w3 W1 #[.slice AB bs.length cB,.slice AG gl.length cG] #[.string a0,.int .i64 0] L k3 b3 s3):=⟨HS0⟩;have HVB:qB (kBk.R 55 W1 w3.heap.size (fun _=>True) (.slice AB bs.length cB) bs):=⟨HVB0⟩;have HVG:qB (kGl.R 63 W1 w3.heap.size (fun k=>k≠p7) (.slice AG gl.length cG) gl):=⟨HVG0⟩;clear HS0 HVB0 HVG0 hW hp7;have hc:=Qr W1 q L _ _ _ HS.out.rd;refine hc.mono ?_;rintro e wy ⟨k4,b4,a1,rfl,hnb,hR,hT,hs,-⟩;have HE:=Lib.hid (HF.out.trans (QT (f:=smR) hs));have HSy:qB (OT q p5 p7 27 63 w3 wy #[.slice AB bs.length cB,.slice AG gl.length cG] #[.string a0,.int .i64 0] L k4 b4 (nx smR s3)):=⟨HS.out.call hT hR⟩;have HVBy:qB (kBk.R 55 wy w3.heap.size (fun _=>True) (.slice AB bs.length cB) bs):=⟨rowF HVB.out HS.out.rd hT (by decide)⟩;have HVGy:qB (kGl.R 63 wy w3.heap.size (fun k=>k≠p7) (.slice AG gl.length cG) gl):=⟨rowF HVG.out HS.out.rd hT (by decide)⟩;generalize nx smR s3=s4 at *;have d:=qD HSy.out.hl (i:=1) rfl;have f:=qH HSy.out.hl 1;have HS2:qB (OT q p5 p7 27 63 w3 (wy.setCell ⟨p7,1,none⟩ (.int .i64 a1)) #[.slice AB bs.length cB,.slice AG gl.length cG] #[.string a0,.int .i64 a1] L k4 b4 s4):=⟨HSy.out.set 1 (.int .i64 a1)⟩
      have HVB2:qB (kBk.R 55 (wy.setCell ⟨p7,1,none⟩ (.int .i64 a1)) w3.heap.size (fun _=>True) (.slice AB bs.length cB) bs):=⟨Kd.R_set HVBy.out HSy.out.hl (by decide) 1 _⟩;have HVG2:qB (kGl.R 63 (wy.setCell ⟨p7,1,none⟩ (.int .i64 a1)) w3.heap.size (fun k=>k≠p7) (.slice AG gl.length cG) gl):=⟨Kd.R_far (p:=⟨p7,1,none⟩) HVGy.out (fun _ h=>h) _⟩;clear hR hT hc hs HS HVB HVG HVBy HVGy hnb;have HQ:Hid ((∀y r,s2.bind Q5=some (y,r)→(⟨a0,(a1:Int)⟩:GGl)=y)∧nx Q5 s2=s4):=Lib.hid (qEc (HA0.out.symm.trans HE.out));have HN:=Lib.hid (HY.out _ _ HQ.out.1 HQ.out.2);clear HY HQ HA0 HE HF;go_wp2_with (first|((with_reducible refine qh (N:=112) rfl ?_); refine Hid.out ?_));generalize wy.setCell ⟨p7,1,none⟩ (.int .i64 a1)=WA at *;clear d f HSy;have d0:=qD HS2.out.hl (i:=0) rfl;have d1:=qD HS2.out.hl (i:=1) rfl;have x1:=qD HS2.out.h2 (i:=1) rfl;refine Lib.hid ?_;go_wp2_with (refine Kd.R_append kGl (w0:=WA) w3.heap.size rfl _ _ 25 63 (.agg #[(.string ⟨#[]⟩),(.int .i64 0)]) 24 rfl Tryz.underlying25 qGw rfl (by decide) (by omega) (.slice AG gl.length cG) gl ⟨a0,a1⟩ [.string a0,.int .i64 a1] (fun k=>k≠p7) (fun _=>False) rfl rfl (qFY WA w3.heap.size (fun _=>False) ⟨a0,a1⟩) (fun _ h=>h.elim) (fun k hk=>by have:=qN HS2.out.hl; omega) HVG2.out (Below.refl _ _) HS2.out.tch.size (by omega) ?_);intro v1 wz hrow hb3 hg hat;have hrow':=Kd.R_mono hrow (fun _ _=>trivial);obtain ⟨A7,c7,rfl⟩:=Kd.R_slice hrow
      have HS3:qB (OB q p5 27 w3 wz #[.slice AB bs.length cB,.slice AG gl.length cG] L k4 b4 s4):=⟨HS2.out.one.grown HVG2.out hg (by decide) (by decide)⟩;have HVB3:qB (kBk.R 55 wz w3.heap.size (fun _=>True) (.slice AB bs.length cB) bs):=⟨rowG HVB2.out HVG2.out (by decide) hg⟩;have HVG3:qB (kGl.R 63 wz w3.heap.size (fun _=>True) (.slice A7 (gl++[(⟨a0,(a1:Int)⟩:GGl)]).length c7) (gl++[(⟨a0,(a1:Int)⟩:GGl)])):=⟨hrow'⟩;have hxl:(gl++[(⟨a0,(a1:Int)⟩:GGl)]).length+mn≤200000:=by simp; omega
      clear hrow hrow' hb3 hg hat HS2 HVB2 HVG2;generalize gl++[(⟨a0,(a1:Int)⟩:GGl)]=gl2 at *;clear d0 d1 x1;have x1:=qD HS3.out.hl (i:=1) rfl;have z1:=qH HS3.out.hl 1;go_wp2;go_roundw
      case rel=>exact ⟨mn,gl2,A7,c7,k4,b4,s4,hxl,by first|rfl|rw [hw1],HN,⟨HS3.out.set 1 _⟩,⟨Kd.R_set HVB3.out HS3.out.hl (by decide) 1 _⟩,⟨Kd.R_set HVG3.out HS3.out.hl (by decide) 1 _⟩⟩
      case measure=>have:=HMW.out; simp [intOf]; omega
     ·have HE:Hid (C=s2.bind fun r=>some ((bs,gl),r)):=Lib.hid (HF.out.trans (by
       rcases Nat.eq_zero_or_pos mm with rfl|hm
       ·simp only [Q9]; rfl
       ·have hb:b2=true:=by cases b2 with|true=>rfl|false=>exact absurd ⟨hm,rfl⟩ hgo
        have:=HS.out.rd.st.2.2;rw [hb] at this;rw [this]; rfl))
      have HEn:=Lib.hid (unpS_end HU.out HE.out);have hex:mm=0∨(0<mm∧b2=true):=by
       rcases Nat.eq_zero_or_pos mm with h|h
       ·exact .inl h
       ·exact .inr ⟨h,by cases b2 with|true=>rfl|false=>exact absurd ⟨h,rfl⟩ hgo⟩
      have hd2:decide ((0:Int)<(mm:Int))=decide (0<mm):=by by_cases h:0<mm<;>simp [h]
      have HJ:=qB.mk (HW.out wr HS.out.tch);have g0:=qD HS.out.rd.box (i:=0) rfl;have g1:=qD HS.out.rd.box (i:=1) rfl;have g2:=qD HS.out.rd.box (i:=2) rfl;have hst:=HS.out.rd.st;clear HF hgo;have y0:=qD HS.out.hl (i:=0) rfl;have y1:=qD HS.out.hl (i:=1) rfl;have HSt:=Lib.hid hst;have hkl:=hst.2.1;clear hst;cases b2
      ·obtain rfl:mm=0:=by rcases hex with h|⟨_,h⟩<;>first|exact h|cases h
       have hs2:s2=some (L.drop k2):=by have h:=HSt.out.2.2; simpa using h
       clear hex;by_cases hk:k2=L.length;rotate_left
       ·have HE0:Hid (F=none):=Lib.hid (by
         rw [HEn.out,if_neg];rintro ⟨h,-,-⟩;rw [hs2,qHf hkl] at h;exact hk h)
        have hn1:((k2:Int) != (L.length:Int))=true:=by rw [bne_iff_ne]; omega
        have hn2:((k2:Int)==(L.length:Int))=false:=by rw [beq_eq_false_iff_ne]; omega
        clear hs2 hk HEn HE;go_wp2;refine qU (n:=27) (S:=fun w'=>w'.cell? ⟨q,0,none⟩=some (.string ⟨L.toArray⟩)∧w'.cell? ⟨q,1,none⟩=some (.int .i64 k2)∧w'.cell? ⟨q,2,none⟩=some (.bool false)∧w'.cell? ⟨p5,0,none⟩=some (.slice AB bs.length cB)∧w'.cell? ⟨p5,1,none⟩=some (.slice AG gl.length cG)∧qB (Below wr.heap.size wr w')) (ds:=[]) (mA 27 0) (by kernel_rfl) rfl rfl ⟨qA (qE (Below.refl _ _)) g0,qA (qE (Below.refl _ _)) g1,qA (qE (Below.refl _ _)) g2,qA (qE (Below.refl _ _)) y0,qA (qE (Below.refl _ _)) y1,⟨qE (Below.refl _ _)⟩⟩ (fun hHeld=>?_);refine pa_ 27 1 0 (some 118) (v:=?_) (a':=?_) ?_ ?_ ?_;rotate_left 2
        ·intro w';go_simp
         with_reducible rfl
        ·simp only [pn];rfl
        refine pa_ 27 3 1 (some 119) (v:=?_) (a':=?_) ?_ ?_ ?_;rotate_left 2
        ·intro w';go_simp
         with_reducible rfl
        ·simp only [pn];rfl
        refine pa_ 27 7 2 (some 120) (v:=?_) (a':=?_) ?_ ?_ ?_;rotate_left 2
        ·intro w';go_simp
         with_reducible rfl
        ·simp only [pn];rfl
        refine tb_ 27 15 3 (some 121) (v:=?_) (a':=?_) hHeld ?_ ?_ ?_;rotate_left 2
        ·rintro w' ⟨s0,s1,s2,s3,s4,s5⟩;go_simp
         with_reducible rfl
        ·simp only [pn];rfl
        refine pa_ 27 31 4 (some 122) (v:=?_) (a':=?_) ?_ ?_ ?_;rotate_left 2
        ·intro w';go_simp
         with_reducible rfl
        ·simp only [pn];rfl
        refine pa_ 27 63 5 (some 123) (v:=?_) (a':=?_) ?_ ?_ ?_;rotate_left 2
        ·intro w';go_simp
         with_reducible rfl
        ·simp only [pn];rfl
        refine pa_ 27 127 6 (some 124) (v:=?_) (a':=?_) ?_ ?_ ?_;rotate_left 2
        ·intro w';go_simp
         with_reducible rfl
        ·simp only [pn];rfl
        refine pa_ 27 255 7 (some 125) (v:=?_) (a':=?_) ?_ ?_ ?_;rotate_left 2
        ·intro w';go_simp
         with_reducible rfl
        ·simp only [pn];rfl
        refine pa_ 27 767 9 (some 127) (v:=?_) (a':=?_) ?_ ?_ ?_;rotate_left 2
        ·intro w';go_simp
         with_reducible rfl
        ·simp only [pn];rfl
        refine pa_ 27 1791 10 (some 128) (v:=?_) (a':=?_) ?_ ?_ ?_;rotate_left 2
        ·intro w';go_simp
         with_reducible rfl
        ·simp only [pn];rfl
        refine pa_ 27 3839 11 (some 129) (v:=?_) (a':=?_) ?_ ?_ ?_;rotate_left 2
        ·intro w';go_simp
         with_reducible rfl
        ·simp only [pn];rfl
        refine tb_ 27 4095 8 (some 126) (v:=?_) (a':=?_) hHeld ?_ ?_ ?_;rotate_left 2
        ·rintro w' ⟨s0,s1,s2,s3,s4,s5⟩;go_simp
         with_reducible rfl
        ·simp only [pn];rfl
        refine tb_ 27 8191 12 (some 130) (v:=?_) (a':=?_) hHeld ?_ ?_ ?_;rotate_left 2
        ·rintro w' ⟨s0,s1,s2,s3,s4,s5⟩;go_simp
         with_reducible rfl
        ·simp only [pn];rfl
        refine pa_ 27 16383 13 (some 131) (v:=?_) (a':=?_) ?_ ?_ ?_;rotate_left 2
        ·intro w';go_simp
         with_reducible rfl
        ·simp only [pn];rfl
        refine pa_ 27 32767 14 (some 132) (v:=?_) (a':=?_) ?_ ?_ ?_;rotate_left 2
        ·intro w';go_simp
         with_reducible rfl
        ·simp only [pn];rfl
        refine pa_ 27 65535 15 (some 133) (v:=?_) (a':=?_) ?_ ?_ ?_;rotate_left 2
        ·intro w';go_simp
         with_reducible rfl
        ·simp only [pn];rfl
        refine pa_ 27 131071 16 (some 134) (v:=?_) (a':=?_) ?_ ?_ ?_;rotate_left 2
        ·intro w';go_simp
         with_reducible rfl
        ·simp only [pn];rfl
        refine pf_ 27 262143 17 (some 135) (a':=?_) ?_ ?_;rotate_left
        ·simp only [pn];rfl
        refine pf_ 27 524287 18 (some 136) (a':=?_) ?_ ?_;rotate_left
        ·simp only [pn];rfl
        refine pf_ 27 1048575 19 (some 137) (a':=?_) ?_ ?_;rotate_left
        ·simp only [pn];rfl
        refine pa_ 27 2097151 20 (some 138) (v:=?_) (a':=?_) ?_ ?_ ?_;rotate_left 2
        ·intro w';go_simp
         with_reducible rfl
        ·simp only [pn];rfl
        refine pa_ 27 4194303 21 (some 139) (v:=?_) (a':=?_) ?_ ?_ ?_;rotate_left 2
        ·intro w';go_simp
         with_reducible rfl
        ·simp only [pn];rfl
        refine pf_ 27 8388607 22 (some 140) (a':=?_) ?_ ?_;rotate_left
        ·simp only [pn];rfl
        refine pf_ 27 16777215 23 (some 141) (a':=?_) ?_ ?_;rotate_left
        ·simp only [pn];rfl
        refine pf_ 27 33554431 24 (some 142) (a':=?_) ?_ ?_;rotate_left
        ·simp only [pn];rfl
        refine pf_ 27 67108863 25 (some 143) (a':=?_) ?_ ?_;rotate_left
        ·simp only [pn];rfl
        refine pa_ 27 134217727 26 (some 144) (v:=?_) (a':=?_) ?_ ?_ ?_;rotate_left 2
        ·intro w';go_simp
         with_reducible rfl
        ·simp only [pn];rfl
        refine qn (by kernel_rfl) ?_;have HD:=qB.mk (And.intro ((hHeld.2.2.2.2.2.out.block p2 (qN HJ.out.1)).trans HJ.out.1) (qF HJ.out.2 hHeld.2.2.2.2.2.out));clear hHeld y0 y1 g0 g1 g2;generalize hWD:wr.drew=wd at *;clear hWD;have y0:=qD HD.out.1 (i:=0) rfl;have y1:=qD HD.out.1 (i:=1) rfl;have z0:=qH HD.out.1 0;have z1:=qH HD.out.1 1;have HNz:=qB.mk (And.intro (qQ (qQ HD.out.1 0 (.slice none 0 0)) 1 (.slice none 0 0)) ((HD.out.2.setCell (p:=⟨p2,0,none⟩) hp2' (.slice none 0 0)).setCell (p:=⟨p2,1,none⟩) hp2' (.slice none 0 0)));go_wp2;generalize (wd.setCell ⟨p2,0,none⟩ (.slice none 0 0)).setCell ⟨p2,1,none⟩ (.slice none 0 0)=W5 at *;have g5:W5.heap[p2]? = some (.cells #[.slice none 0 0,.slice none 0 0] 27 (0,0)):=HNz.out.1;have x0:=qD g5 (i:=0) rfl;have x1:=qD g5 (i:=1) rfl;refine bodyPost_ret (v:=.tuple #[.agg #[.slice none 0 0,.slice none 0 0],.bool false]) (by simp [results,Tryz.results6,go_sem,x0,x1]) rfl ?_;rw [HE0.out];exact ⟨rfl,HNz.out.2⟩
       ·have hnil:s2=some []:=hs2.trans ((qHf hkl).2 hk);have hsd:=HSz.out bs gl (by rw [HE.out,hnil]; rfl);have cm:=CM.ofR HVB.out HVG.out;have HK:=Lib.hid (fun W (hb:Below wr.heap.size wr W)=>qFn W AB cB AG cG bs gl (cm.below hb) (HRL.out.below (qF HJ.out.2 hb)) hsd.1);have HQ0:Hid (allK bs gl=true→∀W,Below wr.heap.size wr W→Calls Tryz.prog 24 #[.agg #[.slice AB bs.length cB,.slice AG gl.length cG]] W fun e w'=>e=.returned (.string ⟨(qp bs gl).toArray⟩)∧Below W.heap.size W w'):=Lib.hid (fun hk W hb=>qGd W AB cB AG cG bs gl (cm.below hb) (qHC (Q4 hk) hsd.2) (qDl (Q4 hk) hsd.2));have HR:=HEn.out;rw [hnil] at HR;simp only [true_and] at HR;have hn1:((k2:Int) != (L.length:Int))=false:=by rw [bne_eq_false_iff_eq]; omega
        have hn2:((k2:Int)==(L.length:Int))=true:=by rw [beq_iff_eq]; omega
        clear hs2 hnil hsd cm HEn HE hk;generalize allK bs gl=ok at *;generalize qp bs gl=PB at *;cases ok
        ·have HE0:Hid (F=none):=Lib.hid (by rw [HR,if_neg (by simp)]);clear HR HQ0;go_wp2;refine qU (n:=27) (S:=fun w'=>w'.cell? ⟨q,0,none⟩=some (.string ⟨L.toArray⟩)∧w'.cell? ⟨q,1,none⟩=some (.int .i64 k2)∧w'.cell? ⟨q,2,none⟩=some (.bool false)∧w'.cell? ⟨p5,0,none⟩=some (.slice AB bs.length cB)∧w'.cell? ⟨p5,1,none⟩=some (.slice AG gl.length cG)∧qB (Below wr.heap.size wr w')) (ds:=[]) (mA 27 0) (by kernel_rfl) rfl rfl ⟨qA (qE (Below.refl _ _)) g0,qA (qE (Below.refl _ _)) g1,qA (qE (Below.refl _ _)) g2,qA (qE (Below.refl _ _)) y0,qA (qE (Below.refl _ _)) y1,⟨qE (Below.refl _ _)⟩⟩ (fun hHeld=>?_);refine pa_ 27 1 0 (some 118) (v:=?_) (a':=?_) ?_ ?_ ?_;rotate_left 2
         ·intro w';go_simp
          with_reducible rfl
         ·simp only [pn];rfl
         refine pa_ 27 3 1 (some 119) (v:=?_) (a':=?_) ?_ ?_ ?_;rotate_left 2
         ·intro w';go_simp
          with_reducible rfl
         ·simp only [pn];rfl
         refine pa_ 27 7 2 (some 120) (v:=?_) (a':=?_) ?_ ?_ ?_;rotate_left 2
         ·intro w';go_simp
          with_reducible rfl
         ·simp only [pn];rfl
         refine tb_ 27 15 3 (some 121) (v:=?_) (a':=?_) hHeld ?_ ?_ ?_;rotate_left 2
         ·rintro w' ⟨s0,s1,s2,s3,s4,s5⟩;go_simp
          with_reducible rfl
         ·simp only [pn];rfl
         refine pa_ 27 31 4 (some 122) (v:=?_) (a':=?_) ?_ ?_ ?_;rotate_left 2
         ·intro w';go_simp
          with_reducible rfl
         ·simp only [pn];rfl
         refine pa_ 27 63 5 (some 123) (v:=?_) (a':=?_) ?_ ?_ ?_;rotate_left 2
         ·intro w';go_simp
          with_reducible rfl
         ·simp only [pn];rfl
         refine pa_ 27 127 6 (some 124) (v:=?_) (a':=?_) ?_ ?_ ?_;rotate_left 2
         ·intro w';go_simp
          with_reducible rfl
         ·simp only [pn];rfl
         refine pa_ 27 255 7 (some 125) (v:=?_) (a':=?_) ?_ ?_ ?_;rotate_left 2
         ·intro w';go_simp
          with_reducible rfl
         ·simp only [pn];rfl
         refine pa_ 27 767 9 (some 127) (v:=?_) (a':=?_) ?_ ?_ ?_;rotate_left 2
         ·intro w';go_simp
          with_reducible rfl
         ·simp only [pn];rfl
         refine pa_ 27 1791 10 (some 128) (v:=?_) (a':=?_) ?_ ?_ ?_;rotate_left 2
         ·intro w';go_simp
          with_reducible rfl
         ·simp only [pn];rfl
         refine pa_ 27 3839 11 (some 129) (v:=?_) (a':=?_) ?_ ?_ ?_;rotate_left 2
         ·intro w';go_simp
          with_reducible rfl
         ·simp only [pn];rfl
         refine tb_ 27 4095 8 (some 126) (v:=?_) (a':=?_) hHeld ?_ ?_ ?_;rotate_left 2
         ·rintro w' ⟨s0,s1,s2,s3,s4,s5⟩;go_simp
          with_reducible rfl
         ·simp only [pn];rfl
         refine tb_ 27 8191 12 (some 130) (v:=?_) (a':=?_) hHeld ?_ ?_ ?_;rotate_left 2
         ·rintro w' ⟨s0,s1,s2,s3,s4,s5⟩;go_simp
          with_reducible rfl
         ·simp only [pn];rfl
         refine pa_ 27 16383 13 (some 131) (v:=?_) (a':=?_) ?_ ?_ ?_;rotate_left 2
         ·intro w';go_simp
          with_reducible rfl
         ·simp only [pn];rfl
         refine pa_ 27 32767 14 (some 132) (v:=?_) (a':=?_) ?_ ?_ ?_;rotate_left 2
         ·intro w';go_simp
          with_reducible rfl
         ·simp only [pn];rfl
         refine pa_ 27 65535 15 (some 133) (v:=?_) (a':=?_) ?_ ?_ ?_;rotate_left 2
         ·intro w';go_simp
          with_reducible rfl
         ·simp only [pn];rfl
         refine pa_ 27 131071 16 (some 134) (v:=?_) (a':=?_) ?_ ?_ ?_;rotate_left 2
         ·intro w';go_simp
          with_reducible rfl
         ·simp only [pn];rfl
         refine tb_ 27 262143 17 (some 135) (v:=?_) (a':=?_) hHeld ?_ ?_ ?_;rotate_left 2
         ·rintro w' ⟨s0,s1,s2,s3,s4,s5⟩;go_simp
          with_reducible rfl
         ·simp only [pn];rfl
         refine oo_ 27 524287 18 (some 136) (fun K hK=>?_);refine qR Tryz.func23 (by kernel_rfl) rfl #[.agg #[.slice AB bs.length cB,.slice AG gl.length cG]] (by rfl) rfl rfl (by simp only [List.map_toArray,List.map_cons,List.map_nil]; rfl) ?_
         with_reducible refine (HK.out _ hHeld.2.2.2.2.2.out).mono ?_
         rintro e u1 ⟨rfl,hb1⟩;refine ⟨_,rfl,?_⟩;refine hK.out _ _ ⟨qA hb1 hHeld.1,qA hb1 hHeld.2.1,qA hb1 hHeld.2.2.1,qA hb1 hHeld.2.2.2.1,qA hb1 hHeld.2.2.2.2.1,⟨qF hHeld.2.2.2.2.2.out hb1⟩⟩ (fun hHeld=>?_);clear hK K;refine qM (a':=?_) ?_ ?_;rotate_left
         ·show Act.put _ (some 136) _=_
          simp only [pn];rfl
         refine pa_ 27 1048575 19 (some 137) (v:=?_) (a':=?_) ?_ ?_ ?_;rotate_left 2
         ·intro w';go_simp
          with_reducible rfl
         ·simp only [pn];rfl
         refine pa_ 27 2097151 20 (some 138) (v:=?_) (a':=?_) ?_ ?_ ?_;rotate_left 2
         ·intro w';go_simp
          with_reducible rfl
         ·simp only [pn];rfl
         refine pa_ 27 4194303 21 (some 139) (v:=?_) (a':=?_) ?_ ?_ ?_;rotate_left 2
         ·intro w';go_simp
          with_reducible rfl
         ·simp only [pn];rfl
         refine pf_ 27 8388607 22 (some 140) (a':=?_) ?_ ?_;rotate_left
         ·simp only [pn];rfl
         refine pf_ 27 16777215 23 (some 141) (a':=?_) ?_ ?_;rotate_left
         ·simp only [pn];rfl
         refine pf_ 27 33554431 24 (some 142) (a':=?_) ?_ ?_;rotate_left
         ·simp only [pn];rfl
         refine pf_ 27 67108863 25 (some 143) (a':=?_) ?_ ?_;rotate_left
         ·simp only [pn];rfl
         refine pa_ 27 134217727 26 (some 144) (v:=?_) (a':=?_) ?_ ?_ ?_;rotate_left 2
         ·intro w';go_simp
          with_reducible rfl
         ·simp only [pn];rfl
         refine qn (by kernel_rfl) ?_;have HD:=qB.mk (And.intro ((hHeld.2.2.2.2.2.out.block p2 (qN HJ.out.1)).trans HJ.out.1) (qF HJ.out.2 hHeld.2.2.2.2.2.out));clear hHeld y0 y1 g0 g1 g2;generalize hWD:u1=wd at *;clear hWD;have y0:=qD HD.out.1 (i:=0) rfl;have y1:=qD HD.out.1 (i:=1) rfl;have z0:=qH HD.out.1 0;have z1:=qH HD.out.1 1;have HNz:=qB.mk (And.intro (qQ (qQ HD.out.1 0 (.slice none 0 0)) 1 (.slice none 0 0)) ((HD.out.2.setCell (p:=⟨p2,0,none⟩) hp2' (.slice none 0 0)).setCell (p:=⟨p2,1,none⟩) hp2' (.slice none 0 0)));go_wp2;generalize (wd.setCell ⟨p2,0,none⟩ (.slice none 0 0)).setCell ⟨p2,1,none⟩ (.slice none 0 0)=W5 at *;have g5:W5.heap[p2]? = some (.cells #[.slice none 0 0,.slice none 0 0] 27 (0,0)):=HNz.out.1;have x0:=qD g5 (i:=0) rfl;have x1:=qD g5 (i:=1) rfl;refine bodyPost_ret (v:=.tuple #[.agg #[.slice none 0 0,.slice none 0 0],.bool false]) (by simp [results,Tryz.results6,go_sem,x0,x1]) rfl ?_;rw [HE0.out];exact ⟨rfl,HNz.out.2⟩
        ·have HQ:=Lib.hid (HQ0.out rfl);clear HQ0;cases hp:(PB==l)
         ·have HE0:Hid (F=none):=Lib.hid (by rw [HR,if_neg (fun h=>by rw [h.2] at hp; simp at hp)]);have hp2:(PB != l)=true:=by rw [bne,hp]; rfl
          clear HR;go_wp2;refine qU (n:=27) (S:=fun w'=>w'.cell? ⟨q,0,none⟩=some (.string ⟨L.toArray⟩)∧w'.cell? ⟨q,1,none⟩=some (.int .i64 k2)∧w'.cell? ⟨q,2,none⟩=some (.bool false)∧w'.cell? ⟨p5,0,none⟩=some (.slice AB bs.length cB)∧w'.cell? ⟨p5,1,none⟩=some (.slice AG gl.length cG)∧qB (Below wr.heap.size wr w')) (ds:=[]) (mA 27 0) (by kernel_rfl) rfl rfl ⟨qA (qE (Below.refl _ _)) g0,qA (qE (Below.refl _ _)) g1,qA (qE (Below.refl _ _)) g2,qA (qE (Below.refl _ _)) y0,qA (qE (Below.refl _ _)) y1,⟨qE (Below.refl _ _)⟩⟩ (fun hHeld=>?_);refine pa_ 27 1 0 (some 118) (v:=?_) (a':=?_) ?_ ?_ ?_;rotate_left 2
          ·intro w';go_simp
           with_reducible rfl
          ·simp only [pn];rfl
          refine pa_ 27 3 1 (some 119) (v:=?_) (a':=?_) ?_ ?_ ?_;rotate_left 2
          ·intro w';go_simp
           with_reducible rfl
          ·simp only [pn];rfl
          refine pa_ 27 7 2 (some 120) (v:=?_) (a':=?_) ?_ ?_ ?_;rotate_left 2
          ·intro w';go_simp
           with_reducible rfl
          ·simp only [pn];rfl
          refine tb_ 27 15 3 (some 121) (v:=?_) (a':=?_) hHeld ?_ ?_ ?_;rotate_left 2
          ·rintro w' ⟨s0,s1,s2,s3,s4,s5⟩;go_simp
           with_reducible rfl
          ·simp only [pn];rfl
          refine pa_ 27 31 4 (some 122) (v:=?_) (a':=?_) ?_ ?_ ?_;rotate_left 2
          ·intro w';go_simp
           with_reducible rfl
          ·simp only [pn];rfl
          refine pa_ 27 63 5 (some 123) (v:=?_) (a':=?_) ?_ ?_ ?_;rotate_left 2
          ·intro w';go_simp
           with_reducible rfl
          ·simp only [pn];rfl
          refine pa_ 27 127 6 (some 124) (v:=?_) (a':=?_) ?_ ?_ ?_;rotate_left 2
          ·intro w';go_simp
           with_reducible rfl
          ·simp only [pn];rfl
          refine pa_ 27 255 7 (some 125) (v:=?_) (a':=?_) ?_ ?_ ?_;rotate_left 2
          ·intro w';go_simp
           with_reducible rfl
          ·simp only [pn];rfl
          refine pa_ 27 767 9 (some 127) (v:=?_) (a':=?_) ?_ ?_ ?_;rotate_left 2
          ·intro w';go_simp
           with_reducible rfl
          ·simp only [pn];rfl
          refine pa_ 27 1791 10 (some 128) (v:=?_) (a':=?_) ?_ ?_ ?_;rotate_left 2
          ·intro w';go_simp
           with_reducible rfl
          ·simp only [pn];rfl
          refine pa_ 27 3839 11 (some 129) (v:=?_) (a':=?_) ?_ ?_ ?_;rotate_left 2
          ·intro w';go_simp
           with_reducible rfl
          ·simp only [pn];rfl
          refine tb_ 27 4095 8 (some 126) (v:=?_) (a':=?_) hHeld ?_ ?_ ?_;rotate_left 2
          ·rintro w' ⟨s0,s1,s2,s3,s4,s5⟩;go_simp
           with_reducible rfl
          ·simp only [pn];rfl
          refine tb_ 27 8191 12 (some 130) (v:=?_) (a':=?_) hHeld ?_ ?_ ?_;rotate_left 2
          ·rintro w' ⟨s0,s1,s2,s3,s4,s5⟩;go_simp
           with_reducible rfl
          ·simp only [pn];rfl
          refine pa_ 27 16383 13 (some 131) (v:=?_) (a':=?_) ?_ ?_ ?_;rotate_left 2
          ·intro w';go_simp
           with_reducible rfl
          ·simp only [pn];rfl
          refine pa_ 27 32767 14 (some 132) (v:=?_) (a':=?_) ?_ ?_ ?_;rotate_left 2
          ·intro w';go_simp
           with_reducible rfl
          ·simp only [pn];rfl
          refine pa_ 27 65535 15 (some 133) (v:=?_) (a':=?_) ?_ ?_ ?_;rotate_left 2
          ·intro w';go_simp
           with_reducible rfl
          ·simp only [pn];rfl
          refine pa_ 27 131071 16 (some 134) (v:=?_) (a':=?_) ?_ ?_ ?_;rotate_left 2
          ·intro w';go_simp
           with_reducible rfl
          ·simp only [pn];rfl
          refine tb_ 27 262143 17 (some 135) (v:=?_) (a':=?_) hHeld ?_ ?_ ?_;rotate_left 2
          ·rintro w' ⟨s0,s1,s2,s3,s4,s5⟩;go_simp
           with_reducible rfl
          ·simp only [pn];rfl
          refine oo_ 27 524287 18 (some 136) (fun K hK=>?_);refine qR Tryz.func23 (by kernel_rfl) rfl #[.agg #[.slice AB bs.length cB,.slice AG gl.length cG]] (by rfl) rfl rfl (by simp only [List.map_toArray,List.map_cons,List.map_nil]; rfl) ?_
          with_reducible refine (HK.out _ hHeld.2.2.2.2.2.out).mono ?_
          rintro e u1 ⟨rfl,hb1⟩;refine ⟨_,rfl,?_⟩;refine hK.out _ _ ⟨qA hb1 hHeld.1,qA hb1 hHeld.2.1,qA hb1 hHeld.2.2.1,qA hb1 hHeld.2.2.2.1,qA hb1 hHeld.2.2.2.2.1,⟨qF hHeld.2.2.2.2.2.out hb1⟩⟩ (fun hHeld=>?_);clear hK K;refine qM (a':=?_) ?_ ?_;rotate_left
          ·show Act.put _ (some 136) _=_
           simp only [pn];rfl
          refine pa_ 27 1048575 19 (some 137) (v:=?_) (a':=?_) ?_ ?_ ?_;rotate_left 2
          ·intro w';go_simp
           with_reducible rfl
          ·simp only [pn];rfl
          refine pa_ 27 2097151 20 (some 138) (v:=?_) (a':=?_) ?_ ?_ ?_;rotate_left 2
          ·intro w';go_simp
           with_reducible rfl
          ·simp only [pn];rfl
          refine pa_ 27 4194303 21 (some 139) (v:=?_) (a':=?_) ?_ ?_ ?_;rotate_left 2
          ·intro w';go_simp
           with_reducible rfl
          ·simp only [pn];rfl
          refine pa_ 27 20971519 24 (some 142) (v:=?_) (a':=?_) ?_ ?_ ?_;rotate_left 2
          ·intro w';go_simp
           with_reducible rfl
          ·simp only [pn];rfl
          refine tb_ 27 25165823 22 (some 140) (v:=?_) (a':=?_) hHeld ?_ ?_ ?_;rotate_left 2
          ·rintro w' ⟨s0,s1,s2,s3,s4,s5⟩;go_simp
           with_reducible rfl
          ·simp only [pn];rfl
          refine oo_ 27 33554431 23 (some 141) (fun K hK=>?_);refine qR Tryz.func24 (by kernel_rfl) rfl #[.agg #[.slice AB bs.length cB,.slice AG gl.length cG]] (by rfl) rfl rfl (by simp only [List.map_toArray,List.map_cons,List.map_nil]; rfl) ?_
          with_reducible refine (HQ.out _ hHeld.2.2.2.2.2.out).mono ?_
          rintro e u2 ⟨rfl,hb2⟩;refine ⟨_,rfl,?_⟩;refine hK.out _ _ ⟨qA hb2 hHeld.1,qA hb2 hHeld.2.1,qA hb2 hHeld.2.2.1,qA hb2 hHeld.2.2.2.1,qA hb2 hHeld.2.2.2.2.1,⟨qF hHeld.2.2.2.2.2.out hb2⟩⟩ (fun hHeld=>?_);clear hK K;refine qM (a':=?_) ?_ ?_;rotate_left
          ·show Act.put _ (some 141) _=_
           simp only [pn];rfl
          refine pa_ 27 67108863 25 (some 143) (v:=?_) (a':=?_) ?_ ?_ ?_;rotate_left 2
          ·intro w';go_simp
           with_reducible rfl
          ·simp only [pn];rfl
          refine pa_ 27 134217727 26 (some 144) (v:=?_) (a':=?_) ?_ ?_ ?_;rotate_left 2
          ·intro w';go_simp
           with_reducible rfl
          ·simp only [pn];rfl
          refine qn (by kernel_rfl) ?_;have HD:=qB.mk (And.intro ((hHeld.2.2.2.2.2.out.block p2 (qN HJ.out.1)).trans HJ.out.1) (qF HJ.out.2 hHeld.2.2.2.2.2.out));clear hHeld y0 y1 g0 g1 g2;generalize hWD:u2=wd at *;clear hWD;have y0:=qD HD.out.1 (i:=0) rfl;have y1:=qD HD.out.1 (i:=1) rfl;have z0:=qH HD.out.1 0;have z1:=qH HD.out.1 1;have HNz:=qB.mk (And.intro (qQ (qQ HD.out.1 0 (.slice none 0 0)) 1 (.slice none 0 0)) ((HD.out.2.setCell (p:=⟨p2,0,none⟩) hp2' (.slice none 0 0)).setCell (p:=⟨p2,1,none⟩) hp2' (.slice none 0 0)));go_wp2;generalize (wd.setCell ⟨p2,0,none⟩ (.slice none 0 0)).setCell ⟨p2,1,none⟩ (.slice none 0 0)=W5 at *;have g5:W5.heap[p2]? = some (.cells #[.slice none 0 0,.slice none 0 0] 27 (0,0)):=HNz.out.1;have x0:=qD g5 (i:=0) rfl;have x1:=qD g5 (i:=1) rfl;refine bodyPost_ret (v:=.tuple #[.agg #[.slice none 0 0,.slice none 0 0],.bool false]) (by simp [results,Tryz.results6,go_sem,x0,x1]) rfl ?_;rw [HE0.out];exact ⟨rfl,HNz.out.2⟩
         ·have HE0:Hid (F=some (bs,gl)):=Lib.hid (by rw [HR,if_pos ⟨rfl,by simpa using hp⟩]);have hp2:(PB != l)=false:=by rw [bne,hp]; rfl
          clear HR;go_wp2;refine qU (n:=27) (S:=fun w'=>w'.cell? ⟨q,0,none⟩=some (.string ⟨L.toArray⟩)∧w'.cell? ⟨q,1,none⟩=some (.int .i64 k2)∧w'.cell? ⟨q,2,none⟩=some (.bool false)∧w'.cell? ⟨p5,0,none⟩=some (.slice AB bs.length cB)∧w'.cell? ⟨p5,1,none⟩=some (.slice AG gl.length cG)∧qB (Below wr.heap.size wr w')) (ds:=[]) (mA 27 0) (by kernel_rfl) rfl rfl ⟨qA (qE (Below.refl _ _)) g0,qA (qE (Below.refl _ _)) g1,qA (qE (Below.refl _ _)) g2,qA (qE (Below.refl _ _)) y0,qA (qE (Below.refl _ _)) y1,⟨qE (Below.refl _ _)⟩⟩ (fun hHeld=>?_);refine pa_ 27 1 0 (some 118) (v:=?_) (a':=?_) ?_ ?_ ?_;rotate_left 2
          ·intro w';go_simp
           with_reducible rfl
          ·simp only [pn];rfl
          refine pa_ 27 3 1 (some 119) (v:=?_) (a':=?_) ?_ ?_ ?_;rotate_left 2
          ·intro w';go_simp
           with_reducible rfl
          ·simp only [pn];rfl
          refine pa_ 27 7 2 (some 120) (v:=?_) (a':=?_) ?_ ?_ ?_;rotate_left 2
          ·intro w';go_simp
           with_reducible rfl
          ·simp only [pn];rfl
          refine tb_ 27 15 3 (some 121) (v:=?_) (a':=?_) hHeld ?_ ?_ ?_;rotate_left 2
          ·rintro w' ⟨s0,s1,s2,s3,s4,s5⟩;go_simp
           with_reducible rfl
          ·simp only [pn];rfl
          refine pa_ 27 31 4 (some 122) (v:=?_) (a':=?_) ?_ ?_ ?_;rotate_left 2
          ·intro w';go_simp
           with_reducible rfl
          ·simp only [pn];rfl
          refine pa_ 27 63 5 (some 123) (v:=?_) (a':=?_) ?_ ?_ ?_;rotate_left 2
          ·intro w';go_simp
           with_reducible rfl
          ·simp only [pn];rfl
          refine pa_ 27 127 6 (some 124) (v:=?_) (a':=?_) ?_ ?_ ?_;rotate_left 2
          ·intro w';go_simp
           with_reducible rfl
          ·simp only [pn];rfl
          refine pa_ 27 255 7 (some 125) (v:=?_) (a':=?_) ?_ ?_ ?_;rotate_left 2
          ·intro w';go_simp
           with_reducible rfl
          ·simp only [pn];rfl
          refine pa_ 27 767 9 (some 127) (v:=?_) (a':=?_) ?_ ?_ ?_;rotate_left 2
          ·intro w';go_simp
           with_reducible rfl
          ·simp only [pn];rfl
          refine pa_ 27 1791 10 (some 128) (v:=?_) (a':=?_) ?_ ?_ ?_;rotate_left 2
          ·intro w';go_simp
           with_reducible rfl
          ·simp only [pn];rfl
          refine pa_ 27 3839 11 (some 129) (v:=?_) (a':=?_) ?_ ?_ ?_;rotate_left 2
          ·intro w';go_simp
           with_reducible rfl
          ·simp only [pn];rfl
          refine tb_ 27 4095 8 (some 126) (v:=?_) (a':=?_) hHeld ?_ ?_ ?_;rotate_left 2
          ·rintro w' ⟨s0,s1,s2,s3,s4,s5⟩;go_simp
           with_reducible rfl
          ·simp only [pn];rfl
          refine tb_ 27 8191 12 (some 130) (v:=?_) (a':=?_) hHeld ?_ ?_ ?_;rotate_left 2
          ·rintro w' ⟨s0,s1,s2,s3,s4,s5⟩;go_simp
           with_reducible rfl
          ·simp only [pn];rfl
          refine pa_ 27 16383 13 (some 131) (v:=?_) (a':=?_) ?_ ?_ ?_;rotate_left 2
          ·intro w';go_simp
           with_reducible rfl
          ·simp only [pn];rfl
          refine pa_ 27 32767 14 (some 132) (v:=?_) (a':=?_) ?_ ?_ ?_;rotate_left 2
          ·intro w';go_simp
           with_reducible rfl
          ·simp only [pn];rfl
          refine pa_ 27 65535 15 (some 133) (v:=?_) (a':=?_) ?_ ?_ ?_;rotate_left 2
          ·intro w';go_simp
           with_reducible rfl
          ·simp only [pn];rfl
          refine pa_ 27 131071 16 (some 134) (v:=?_) (a':=?_) ?_ ?_ ?_;rotate_left 2
          ·intro w';go_simp
           with_reducible rfl
          ·simp only [pn];rfl
          refine tb_ 27 262143 17 (some 135) (v:=?_) (a':=?_) hHeld ?_ ?_ ?_;rotate_left 2
          ·rintro w' ⟨s0,s1,s2,s3,s4,s5⟩;go_simp
           with_reducible rfl
          ·simp only [pn];rfl
          refine oo_ 27 524287 18 (some 136) (fun K hK=>?_);refine qR Tryz.func23 (by kernel_rfl) rfl #[.agg #[.slice AB bs.length cB,.slice AG gl.length cG]] (by rfl) rfl rfl (by simp only [List.map_toArray,List.map_cons,List.map_nil]; rfl) ?_
          with_reducible refine (HK.out _ hHeld.2.2.2.2.2.out).mono ?_
          rintro e u1 ⟨rfl,hb1⟩;refine ⟨_,rfl,?_⟩;refine hK.out _ _ ⟨qA hb1 hHeld.1,qA hb1 hHeld.2.1,qA hb1 hHeld.2.2.1,qA hb1 hHeld.2.2.2.1,qA hb1 hHeld.2.2.2.2.1,⟨qF hHeld.2.2.2.2.2.out hb1⟩⟩ (fun hHeld=>?_);clear hK K;refine qM (a':=?_) ?_ ?_;rotate_left
          ·show Act.put _ (some 136) _=_
           simp only [pn];rfl
          refine pa_ 27 1048575 19 (some 137) (v:=?_) (a':=?_) ?_ ?_ ?_;rotate_left 2
          ·intro w';go_simp
           with_reducible rfl
          ·simp only [pn];rfl
          refine pa_ 27 2097151 20 (some 138) (v:=?_) (a':=?_) ?_ ?_ ?_;rotate_left 2
          ·intro w';go_simp
           with_reducible rfl
          ·simp only [pn];rfl
          refine pa_ 27 4194303 21 (some 139) (v:=?_) (a':=?_) ?_ ?_ ?_;rotate_left 2
          ·intro w';go_simp
           with_reducible rfl
          ·simp only [pn];rfl
          refine pa_ 27 20971519 24 (some 142) (v:=?_) (a':=?_) ?_ ?_ ?_;rotate_left 2
          ·intro w';go_simp
           with_reducible rfl
          ·simp only [pn];rfl
          refine tb_ 27 25165823 22 (some 140) (v:=?_) (a':=?_) hHeld ?_ ?_ ?_;rotate_left 2
          ·rintro w' ⟨s0,s1,s2,s3,s4,s5⟩;go_simp
           with_reducible rfl
          ·simp only [pn];rfl
          refine oo_ 27 33554431 23 (some 141) (fun K hK=>?_);refine qR Tryz.func24 (by kernel_rfl) rfl #[.agg #[.slice AB bs.length cB,.slice AG gl.length cG]] (by rfl) rfl rfl (by simp only [List.map_toArray,List.map_cons,List.map_nil]; rfl) ?_
          with_reducible refine (HQ.out _ hHeld.2.2.2.2.2.out).mono ?_
          rintro e u2 ⟨rfl,hb2⟩;refine ⟨_,rfl,?_⟩;refine hK.out _ _ ⟨qA hb2 hHeld.1,qA hb2 hHeld.2.1,qA hb2 hHeld.2.2.1,qA hb2 hHeld.2.2.2.1,qA hb2 hHeld.2.2.2.2.1,⟨qF hHeld.2.2.2.2.2.out hb2⟩⟩ (fun hHeld=>?_);clear hK K;refine qM (a':=?_) ?_ ?_;rotate_left
          ·show Act.put _ (some 141) _=_
           simp only [pn];rfl
          refine pa_ 27 67108863 25 (some 143) (v:=?_) (a':=?_) ?_ ?_ ?_;rotate_left 2
          ·intro w';go_simp
           with_reducible rfl
          ·simp only [pn];rfl
          refine pa_ 27 134217727 26 (some 144) (v:=?_) (a':=?_) ?_ ?_ ?_;rotate_left 2
          ·intro w';go_simp
           with_reducible rfl
          ·simp only [pn];rfl
          refine qn (by kernel_rfl) ?_;have hbu:=hHeld.2.2.2.2.2.out;have HD:=qB.mk (And.intro ((hbu.block p2 (qN HJ.out.1)).trans HJ.out.1) (qF HJ.out.2 hbu));have hp2w:p2<w3.heap.size:=by have:=HW.out w3 (Tch.refl q w3); exact qN this.1
          have y2:=hHeld.2.2.2.1;have y3:=hHeld.2.2.2.2.1;have z0:=qH HD.out.1 0;have z1:=qH HD.out.1 1;have e0:=qD HD.out.1 (i:=0) rfl;have e1:=qD HD.out.1 (i:=1) rfl;have rA:=Kd.R_lower (qAy (qAy (Kd.R_below HVB.out hbu) p2 0 hp2w (.slice AB bs.length cB)) p2 1 hp2w (.slice AG gl.length cG)) HWB.out;have rB:=Kd.R_lower (qAy (qAy (Kd.R_below HVG.out hbu) p2 0 hp2w (.slice AB bs.length cB)) p2 1 hp2w (.slice AG gl.length cG)) HWB.out;have HNz:=qB.mk (And.intro (qQ (qQ HD.out.1 0 (.slice AB bs.length cB)) 1 (.slice AG gl.length cG)) (And.intro ((HD.out.2.setCell (p:=⟨p2,0,none⟩) hp2' (.slice AB bs.length cB)).setCell (p:=⟨p2,1,none⟩) hp2' (.slice AG gl.length cG)) (And.intro rA rB)));clear hHeld y0 y1 g0 g1 g2 rA rB hbu;go_wp2;generalize (u2.setCell ⟨p2,0,none⟩ (.slice AB bs.length cB)).setCell ⟨p2,1,none⟩ (.slice AG gl.length cG)=W5 at *;have g5:W5.heap[p2]? = some (.cells #[.slice AB bs.length cB,.slice AG gl.length cG] 27 (0,0)):=HNz.out.1;have x0:=qD g5 (i:=0) rfl;have x1:=qD g5 (i:=1) rfl;refine bodyPost_ret (v:=.tuple #[.agg #[.slice AB bs.length cB,.slice AG gl.length cG],.bool true]) (by simp [results,Tryz.results6,go_sem,x0,x1]) rfl ?_;rw [HE0.out];exact ⟨_,rfl,⟨_,_,rfl,HNz.out.2.2.1,HNz.out.2.2.2⟩,HNz.out.2.1⟩
      ·have HE0:Hid (F=none):=Lib.hid (by
        have h:=HSt.out.2.2;rw [HEn.out,h,if_neg (by simp)])
       rcases hex with rfl|⟨hm,-⟩
       case' inr=>replace hd2:decide ((0:Int)<(mm:Int))=true:=decide_eq_true (by omega)
       all_goals
        go_wp2;refine qU (n:=27) (S:=fun w'=>w'.cell? ⟨q,0,none⟩=some (.string ⟨L.toArray⟩)∧w'.cell? ⟨q,1,none⟩=some (.int .i64 k2)∧w'.cell? ⟨q,2,none⟩=some (.bool true)∧w'.cell? ⟨p5,0,none⟩=some (.slice AB bs.length cB)∧w'.cell? ⟨p5,1,none⟩=some (.slice AG gl.length cG)∧qB (Below wr.heap.size wr w')) (ds:=[]) (mA 27 0) (by kernel_rfl) rfl rfl ⟨qA (qE (Below.refl _ _)) g0,qA (qE (Below.refl _ _)) g1,qA (qE (Below.refl _ _)) g2,qA (qE (Below.refl _ _)) y0,qA (qE (Below.refl _ _)) y1,⟨qE (Below.refl _ _)⟩⟩ (fun hHeld=>?_);refine pa_ 27 1 0 (some 118) (v:=?_) (a':=?_) ?_ ?_ ?_;rotate_left 2
        ·intro w';go_simp
         with_reducible rfl
        ·simp only [pn];rfl
        refine pa_ 27 3 1 (some 119) (v:=?_) (a':=?_) ?_ ?_ ?_;rotate_left 2
        ·intro w';go_simp
         with_reducible rfl
        ·simp only [pn];rfl
        refine pa_ 27 7 2 (some 120) (v:=?_) (a':=?_) ?_ ?_ ?_;rotate_left 2
        ·intro w';go_simp
         with_reducible rfl
        ·simp only [pn];rfl
        refine tb_ 27 15 3 (some 121) (v:=?_) (a':=?_) hHeld ?_ ?_ ?_;rotate_left 2
        ·rintro w' ⟨s0,s1,s2,s3,s4,s5⟩;go_simp
         with_reducible rfl
        ·simp only [pn];rfl
        refine pa_ 27 31 4 (some 122) (v:=?_) (a':=?_) ?_ ?_ ?_;rotate_left 2
        ·intro w';go_simp
         with_reducible rfl
        ·simp only [pn];rfl
        refine pf_ 27 63 5 (some 123) (a':=?_) ?_ ?_;rotate_left
        ·simp only [pn];rfl
        refine pf_ 27 127 6 (some 124) (a':=?_) ?_ ?_;rotate_left
        ·simp only [pn];rfl
        refine pf_ 27 255 7 (some 125) (a':=?_) ?_ ?_;rotate_left
        ·simp only [pn];rfl
        refine pf_ 27 511 8 (some 126) (a':=?_) ?_ ?_;rotate_left
        ·simp only [pn];rfl
        refine pf_ 27 1023 9 (some 127) (a':=?_) ?_ ?_;rotate_left
        ·simp only [pn];rfl
        refine pf_ 27 2047 10 (some 128) (a':=?_) ?_ ?_;rotate_left
        ·simp only [pn];rfl
        refine pf_ 27 4095 11 (some 129) (a':=?_) ?_ ?_;rotate_left
        ·simp only [pn];rfl
        refine pf_ 27 8191 12 (some 130) (a':=?_) ?_ ?_;rotate_left
        ·simp only [pn];rfl
        refine pf_ 27 16383 13 (some 131) (a':=?_) ?_ ?_;rotate_left
        ·simp only [pn];rfl
        refine pf_ 27 32767 14 (some 132) (a':=?_) ?_ ?_;rotate_left
        ·simp only [pn];rfl
        refine pa_ 27 65535 15 (some 133) (v:=?_) (a':=?_) ?_ ?_ ?_;rotate_left 2
        ·intro w';go_simp
         with_reducible rfl
        ·simp only [pn];rfl
        refine pa_ 27 131071 16 (some 134) (v:=?_) (a':=?_) ?_ ?_ ?_;rotate_left 2
        ·intro w';go_simp
         with_reducible rfl
        ·simp only [pn];rfl
        refine pf_ 27 262143 17 (some 135) (a':=?_) ?_ ?_;rotate_left
        ·simp only [pn];rfl
        refine pf_ 27 524287 18 (some 136) (a':=?_) ?_ ?_;rotate_left
        ·simp only [pn];rfl
        refine pf_ 27 1048575 19 (some 137) (a':=?_) ?_ ?_;rotate_left
        ·simp only [pn];rfl
        refine pa_ 27 2097151 20 (some 138) (v:=?_) (a':=?_) ?_ ?_ ?_;rotate_left 2
        ·intro w';go_simp
         with_reducible rfl
        ·simp only [pn];rfl
        refine pa_ 27 4194303 21 (some 139) (v:=?_) (a':=?_) ?_ ?_ ?_;rotate_left 2
        ·intro w';go_simp
         with_reducible rfl
        ·simp only [pn];rfl
        refine pf_ 27 8388607 22 (some 140) (a':=?_) ?_ ?_;rotate_left
        ·simp only [pn];rfl
        refine pf_ 27 16777215 23 (some 141) (a':=?_) ?_ ?_;rotate_left
        ·simp only [pn];rfl
        refine pf_ 27 33554431 24 (some 142) (a':=?_) ?_ ?_;rotate_left
        ·simp only [pn];rfl
        refine pf_ 27 67108863 25 (some 143) (a':=?_) ?_ ?_;rotate_left
        ·simp only [pn];rfl
        refine pa_ 27 134217727 26 (some 144) (v:=?_) (a':=?_) ?_ ?_ ?_;rotate_left 2
        ·intro w';go_simp
         with_reducible rfl
        ·simp only [pn];rfl
        refine qn (by kernel_rfl) ?_;have HD:=qB.mk (And.intro ((hHeld.2.2.2.2.2.out.block p2 (qN HJ.out.1)).trans HJ.out.1) (qF HJ.out.2 hHeld.2.2.2.2.2.out));clear hHeld y0 y1 g0 g1 g2;generalize hWD:wr.drew=wd at *;clear hWD;have y0:=qD HD.out.1 (i:=0) rfl;have y1:=qD HD.out.1 (i:=1) rfl;have z0:=qH HD.out.1 0;have z1:=qH HD.out.1 1;have HNz:=qB.mk (And.intro (qQ (qQ HD.out.1 0 (.slice none 0 0)) 1 (.slice none 0 0)) ((HD.out.2.setCell (p:=⟨p2,0,none⟩) hp2' (.slice none 0 0)).setCell (p:=⟨p2,1,none⟩) hp2' (.slice none 0 0)));go_wp2;generalize (wd.setCell ⟨p2,0,none⟩ (.slice none 0 0)).setCell ⟨p2,1,none⟩ (.slice none 0 0)=W5 at *;have g5:W5.heap[p2]? = some (.cells #[.slice none 0 0,.slice none 0 0] 27 (0,0)):=HNz.out.1;have x0:=qD g5 (i:=0) rfl;have x1:=qD g5 (i:=1) rfl;refine bodyPost_ret (v:=.tuple #[.agg #[.slice none 0 0,.slice none 0 0],.bool false]) (by simp [results,Tryz.results6,go_sem,x0,x1]) rfl ?_;rw [HE0.out];exact ⟨rfl,HNz.out.2⟩
end Go.Proofs.YtoonkkipnljflaaGreatDoor.CJ
