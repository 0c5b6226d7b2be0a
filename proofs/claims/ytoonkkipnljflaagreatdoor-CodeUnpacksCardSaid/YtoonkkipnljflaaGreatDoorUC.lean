/- The Go function code.Unpack: what its closure does. Conditions: the bytes and the code's box lie in memory; the listed variables are laid. The closure of code.Unpack. Conditions: the bytes and the code's box lie in memory; the listed variables are laid. The Go function code.Unpack. Conditions: the string is not too long; the listed variables are laid. -/
import Derived.Test.YtoonkkipnljflaaGreatDoorRG
import Derived.Test.YtoonkkipnljflaaGreatDoorUB
namespace Go.Proofs.YtoonkkipnljflaaGreatDoor.CJ
open Go.RowKit Go.Proofs.YtoonkkipnljflaaGreatDoorW.PrintWords Go.Proofs.YtoonkkipnljflaaGreatDoorW.PrintLast Go.Proofs.YtoonkkipnljflaaGreatDoor.PT Go.Proofs.YtoonkkipnljflaaGreatDoor.IMaps Go.Proofs.YtoonkkipnljflaaGreatDoor.TJ
set_option linter.unusedVariables false
set_option linter.unusedSimpArgs false
theorem qCB{α:Type}{f:List UInt8→Option (α×List UInt8)}{P:α→Prop}(hl:∀l x r,f l=some (x,r)→r.length<l.length)(N:Nat)(hf:∀l x r,l.length≤N→f l=some (x,r)→P x):∀(n:Nat) (l:List UInt8) (xs:List α) (r:List UInt8),l.length≤N→qY f n l=some (xs,r)→∀x∈xs,P x
 | 0,l,xs,r,_,h=>by simp only [qY,Option.some.injEq,Prod.mk.injEq] at h; obtain ⟨rfl,rfl⟩:=h; simp
 |n+1,l,xs,r,hN,h=>by
  rw [qY] at h;cases hx:f l with
  |none=>rw [hx] at h; cases h
  |some p=>
   obtain ⟨x,r1⟩:=p;rw [hx] at h;simp only at h;cases hy:qY f n r1 with
   |none=>rw [hy] at h; cases h
   |some p=>
    obtain ⟨ys,r2⟩:=p;rw [hy] at h;simp only [Option.some.injEq,Prod.mk.injEq] at h;obtain ⟨rfl,rfl⟩:=h;have h1:=hl _ _ _ hx;have h2:=qCB hl N hf n r1 ys r2 (by omega) hy;intro z hz;rcases List.mem_cons.1 hz with rfl|hz
    ·exact hf l _ _ hN hx
    ·exact h2 z hz
theorem qDo{l:List UInt8}{s:ByteArray}{r:List UInt8}(h:strR l=some (s,r)):s.size≤l.length:=by
 unfold strR at h;cases hb:qW l with
 |none=>rw [hb] at h; cases h
 |some p=>
  obtain ⟨m,r2⟩:=p;rw [hb] at h;simp only [Option.some.injEq,Prod.mk.injEq] at h;have:=QX hb;rw [←h.1];simp only [ByteArray.size,List.size_toArray,List.length_take];omega
theorem qEE{l:List UInt8}{n:Int}{r:List UInt8}(h:qb l=some (n,r)):Ok64 n:=by
 unfold qb at h;cases hb:bigR l with
 |none=>rw [hb] at h; cases h
 |some p=>
  obtain ⟨m,r2⟩:=p;rw [hb] at h;simp only [Option.some.injEq,Prod.mk.injEq] at h;have hm:m<18446744073709551616:=by
   obtain ⟨q,hq,e⟩:=Option.map_eq_some_iff.1 hb;simp only [Prod.mk.injEq] at e;rw [←e.1]; exact Nat.mod_lt _ (by decide)
  rw [←h.1];unfold Ok64 Qd;split<;>omega
def AltOk(a:GAl):Prop:=a.f1.size≤200000∧Ok64 a.f2
theorem altR_ok{l:List UInt8}{a:GAl}{r:List UInt8}(hl:l.length≤200000)(h:altR l=some (a,r)):AltOk a:=by
 unfold altR at h;cases e1:numR l with
 |none=>rw [e1] at h; cases h
 |some p=>
 obtain ⟨x1,r1⟩:=p;rw [qI e1] at h;cases e2:strR r1 with
 |none=>rw [e2] at h; cases h
 |some p=>
 obtain ⟨x2,r2⟩:=p;rw [qI e2] at h;cases e3:qb r2 with
 |none=>rw [e3] at h; cases h
 |some p=>
 obtain ⟨x3,r3⟩:=p;rw [qI e3] at h;cases e4:numR r3 with
 |none=>rw [e4] at h; cases h
 |some p=>
 obtain ⟨x4,r4⟩:=p;rw [qI e4] at h;simp only [Option.some.injEq,Prod.mk.injEq] at h;obtain ⟨rfl,rfl⟩:=h;have:=qDo e2;have:=QM e1;exact ⟨by simp only; omega,qEE e3⟩
def OpOk(g:GOp):Prop:=g.f4.size≤200000∧Ok64 g.f3∧∀a∈g.f6,AltOk a
theorem opR_ok{l:List UInt8}{g:GOp}{r:List UInt8}(hl:l.length≤200000)(h:opR l=some (g,r)):OpOk g:=by
 unfold opR at h;cases e1:Qj l with
 |none=>rw [e1] at h; cases h
 |some p=>
 obtain ⟨x1,r1⟩:=p;rw [qI e1] at h;cases e2:numR r1 with
 |none=>rw [e2] at h; cases h
 |some p=>
 obtain ⟨x2,r2⟩:=p;rw [qI e2] at h;cases e3:numR r2 with
 |none=>rw [e3] at h; cases h
 |some p=>
 obtain ⟨x3,r3⟩:=p;rw [qI e3] at h;cases e4:qb r3 with
 |none=>rw [e4] at h; cases h
 |some p=>
 obtain ⟨x4,r4⟩:=p;rw [qI e4] at h;cases e5:strR r4 with
 |none=>rw [e5] at h; cases h
 |some p=>
 obtain ⟨x5,r5⟩:=p;rw [qI e5] at h;cases e6:qBk r5 with
 |none=>rw [e6] at h; cases h
 |some p=>
 obtain ⟨x6,r6⟩:=p;rw [qI e6] at h;cases e7:qW r6 with
 |none=>rw [e7] at h; cases h
 |some p=>
 obtain ⟨x7,r7⟩:=p;rw [qI e7] at h;cases e8:qY altR x7.toNat r7 with
 |none=>rw [e8] at h; cases h
 |some p=>
 obtain ⟨x8,r8⟩:=p;rw [qI e8] at h;simp only [Option.some.injEq,Prod.mk.injEq] at h;obtain ⟨rfl,rfl⟩:=h;have:=qHG e1;have:=QM e2;have:=QM e3;have:=qBU e4;have:=qBv e5;have:=qET e6;have:=QX e7;have h5:=qDo e5;exact ⟨by simp only; omega,qEE e4,qCB (fun _ _ _ h=>qIl h) 200000 (fun _ _ _ hl h=>altR_ok hl h) _ _ _ _ (by omega) e8⟩
def BlkOk(b:GBk):Prop:=∀g∈b.f2,OpOk g
theorem qKX{l:List UInt8}{b:GBk}{r:List UInt8}(hl:l.length≤200000)(h:QP l=some (b,r)):BlkOk b:=by
 unfold QP at h;cases e1:numR l with
 |none=>rw [e1] at h; cases h
 |some p=>
 obtain ⟨x1,r1⟩:=p;rw [qI e1] at h;cases e2:numR r1 with
 |none=>rw [e2] at h; cases h
 |some p=>
 obtain ⟨x2,r2⟩:=p;rw [qI e2] at h;cases e3:qW r2 with
 |none=>rw [e3] at h; cases h
 |some p=>
 obtain ⟨x3,r3⟩:=p;rw [qI e3] at h;cases e4:qY opR x3.toNat r3 with
 |none=>rw [e4] at h; cases h
 |some p=>
 obtain ⟨x4,r4⟩:=p;rw [qI e4] at h;simp only [Option.some.injEq,Prod.mk.injEq] at h;obtain ⟨rfl,rfl⟩:=h;have:=QM e1;have:=QM e2;have:=QX e3;exact qCB (fun _ _ _ h=>qHH h) 200000 (fun _ _ _ hl h=>opR_ok hl h) _ _ _ _ (by omega) e4
theorem globR_ok{l:List UInt8}{g:GGl}{r:List UInt8}(hl:l.length≤200000)(h:QQ l=some (g,r)):g.f0.size≤200000:=by
 unfold QQ at h;cases e1:strR l with
 |none=>rw [e1] at h; cases h
 |some p=>
 obtain ⟨x1,r1⟩:=p;rw [qI e1] at h;cases e2:numR r1 with
 |none=>rw [e2] at h; cases h
 |some p=>
 obtain ⟨x2,r2⟩:=p;rw [qI e2] at h;simp only [Option.some.injEq,Prod.mk.injEq] at h;obtain ⟨rfl,rfl⟩:=h;have h5:=qDo e1;simp only; omega
theorem qEU{l:List UInt8}{bs:List GBk}{gl:List GGl}{r:List UInt8}(hl:l.length≤200000)(h:qBJ l=some ((bs,gl),r)):qAq bs gl∧WfC bs:=by
 unfold qBJ at h;cases e1:qW l with
 |none=>rw [e1] at h; cases h
 |some p=>
 obtain ⟨x1,r1⟩:=p;rw [qI e1] at h;cases e2:qY QP x1.toNat r1 with
 |none=>rw [e2] at h; cases h
 |some p=>
 obtain ⟨x2,r2⟩:=p;rw [qI e2] at h;cases e3:qW r2 with
 |none=>rw [e3] at h; cases h
 |some p=>
 obtain ⟨x3,r3⟩:=p;rw [qI e3] at h;cases e4:qY QQ x3.toNat r3 with
 |none=>rw [e4] at h; cases h
 |some p=>
 obtain ⟨x4,r4⟩:=p;rw [qI e4] at h;split at h
 ·simp only [Option.some.injEq,Prod.mk.injEq] at h;obtain ⟨⟨rfl,rfl⟩,rfl⟩:=h;have:=QX e1;have:=qCZ (fun _ _ _ h=>qDn h) _ _ _ _ e2;have:=QX e3;have hb:=qCB (fun _ _ _ h=>qDn h) 200000 (fun _ _ _ hl h=>qKX hl h) _ _ _ _ (by omega) e2;have hg:=qCB (fun _ _ _ h=>globR_le h) 200000 (fun _ _ _ hl h=>globR_ok hl h) _ _ _ _ (by omega) e4;have hm:∀n,n≤200000→n≤maxLen:=fun n h=>by unfold maxLen; omega
  exact ⟨⟨fun b hm1 g hm2=>⟨hm _ (hb b hm1 g hm2).1,fun a ha=>hm _ ((hb b hm1 g hm2).2.2 a ha).1⟩,fun g hg1=>hm _ (hg g hg1)⟩,fun b hm1 g hm2=>⟨(hb b hm1 g hm2).2.1,fun a ha=>((hb b hm1 g hm2).2.2 a ha).2⟩⟩
 ·cases h
def q7(l:List UInt8):Option (List GBk×List GGl):=
 if l.length≤200000∧7≤l.length∧l.take 3=qx∧QE (l.take (l.length - 4))=l then
  (match qBJ ((l.take (l.length - 4)).drop 3) with
    |some (c,_)=>if allK c.1 c.2=true∧qp c.1 c.2=l then some c else none
    |none=>none)
 else none
def UnPost(w:World)(p1:Nat):Option (List GBk×List GGl)→Ending→World→Prop
 |some c,e,w'=>e=.returned (.tuple #[])∧(∃A ca A2 cb,w'.heap[p1]? = some (.cells #[.slice A c.1.length ca,.slice A2 c.2.length cb] 27 (0,0))∧kBk.R 55 w' w.heap.size (fun _=>True) (.slice A c.1.length ca) c.1∧kGl.R 63 w' w.heap.size (fun _=>True) (.slice A2 c.2.length cb) c.2)∧Tch p1 w w'
 |none,e,w'=>e=.panicked qAJ∧Tch p1 w w'
theorem CM.ofR{w:World}{B:Nat}{A:Option Addr}{ca:Nat}{A2:Option Addr}{cb:Nat}{bs:List GBk}{gl:List GGl}(h1:kBk.R 55 w B (fun _=>True) (.slice A bs.length ca) bs)(h2:kGl.R 63 w B (fun _=>True) (.slice A2 gl.length cb) gl):CM w A ca A2 cb bs gl:=by
 obtain ⟨A1,c1,e1,l1,C1⟩:=Kd.R_reads h1;obtain ⟨A3,c3,e3,l3,C3⟩:=Kd.R_reads h2;cases e1;cases e3;exact ⟨l1,l3,C1,C3⟩
theorem qAy{α:Type}{d:Kd α}{e B:Nat}{W:World}{v:Value}{xs:List α}(hr:d.R e W B (fun _=>True) v xs)(p j:Nat)(hp:p<B)(u:Value):d.R e (W.setCell ⟨p,j,none⟩ u) B (fun _=>True) v xs:=
 Kd.R_mono (Kd.R_far (p:=⟨p,j,none⟩) (Kd.R_mono (Kd.R_bound hr) (fun k hk=>(show B≤k from hk.2.1))) (fun k hk=>by show k≠p; omega) u) (fun _ _=>trivial)
theorem qHI(l:List UInt8):(⟨l.toArray⟩:ByteArray).extract 0 3=⟨(l.take 3).toArray⟩:=Lib.extract_upto _ _
theorem qEF{l:List UInt8}(h:¬l.length≤200000):q7 l=none:=if_neg (fun hc=>h hc.1)
theorem qEG{l:List UInt8}(h:¬ 7≤l.length):q7 l=none:=if_neg (fun hc=>h hc.2.1)
theorem qEH{l:List UInt8}(h:(l.take 3==[100,107,49])=false):q7 l=none:=if_neg (fun hc=>by rw [hc.2.2.1] at h; exact absurd h (by decide))
theorem qEI{l T:List UInt8}(hT:T=l.take (l.length - 4))(h:(QE T==l)=false):q7 l=none:=if_neg (fun hc=>by rw [hT,hc.2.2.2] at h; simp at h)
theorem qHJ{l T:List UInt8}(hT:T=l.take (l.length - 4))(q1:l.length≤200000)(q2:7≤l.length)(q3:(l.take 3==[100,107,49])=true)(q4:(QE T==l)=true):q7 l=(match qBJ (T.drop 3) with|some (c,_)=>if allK c.1 c.2=true∧qp c.1 c.2=l then some c else none|none=>none):=by
 unfold q7;rw [if_pos ⟨q1,q2,by simpa [qx] using q3,by rw [←hT]; simpa using q4⟩,hT]
theorem qJP(w:World)(T:List UInt8)(hm:T.length≤maxLen):OwnX (Lib.bytesWorld w 5 ⟨T.toArray⟩) w.heap.size (.slice (some ⟨w.heap.size,0,none⟩) T.length (grownCap w T.length 0 5)) T:=by
 have hsz:=Lib.bytesWorld_at_new w 5 ⟨T.toArray⟩;have hge:=grownCap_ge w T.length 0 5;have hle:=grownCap_le_maxLen w T.length 0 5 hm;have es:(⟨T.toArray⟩:ByteArray).size=T.length:=by simp [ByteArray.size]
 have ec:(Lib.bytesCells w 5 ⟨T.toArray⟩).size=grownCap w T.length 0 5:=by
  unfold Lib.bytesCells;rw [es];simp;omega
 refine ⟨w.heap.size,grownCap w T.length 0 5,_,_,rfl,Nat.le_refl _,hsz,Or.inr (Nat.le_refl _),hge,hle,ec,?_⟩;unfold Lib.bytesCells Lib.byteCells;rw [es];simp
theorem qGA(w:World)(T:List UInt8)(hm:T.length≤maxLen):OwnX (Lib.bytesWorld w.drew 5 ⟨T.toArray⟩) w.heap.size (.slice (some ⟨w.heap.size,0,none⟩) T.length (grownCap w.drew T.length 0 5)) T:=qJP w.drew T hm
theorem cutMid(l:List UInt8)(k:Nat):(⟨l.toArray⟩:ByteArray).extract 3 k=⟨((l.take k).drop 3).toArray⟩:=by
 apply ByteArray.ext;simp [List.drop_take]
theorem tch_two{w w6:World}{p:Nat}(h:Tch p w w6)(u v:Value):Tch p w ((w6.setCell ⟨p,0,none⟩ u).setCell ⟨p,1,none⟩ v):=by
 refine ⟨h.os,h.tape,h.output,by simp [World.setCell]; exact h.size,fun k hk hne=>?_⟩;have hkp:k≠p:=fun e=>hne (by rw [e])
 exact ((Below.heap_setCell _ ⟨p,1,none⟩ _ k hkp).trans (Below.heap_setCell _ ⟨p,0,none⟩ _ k hkp)).trans (h.block k hk hne)
set_option maxRecDepth 100000 in
set_option maxHeartbeats 8000000 in
theorem qGc(w0 w:World)(p0 p1:Nat)(l:List UInt8)(h0:w.heap[p0]? = some (.cells #[.string ⟨l.toArray⟩] 9 (0,0)))(h1:w.heap[p1]? = some (.cells #[.slice none 0 0,.slice none 0 0] 27 (0,0)))(hL:LW w0)(hb0:Below w0.heap.size w0 w)(hp1:w0.heap.size≤p1)(hp01:p0≠p1)(hl:l.length≤140737488355328):
 Calls Tryz.prog 13 #[.pointer (some ⟨p0,0,none⟩),.pointer (some ⟨p1,0,none⟩)] w (UnPost w p1 (q7 l)):=by
 have c0:=qD h0 (i:=0) rfl;have hcut3:=qHI l;obtain ⟨F,hF⟩:∃F,F=q7 l:=⟨_,rfl⟩;rw [←hF];have HF:=Lib.hid hF;clear hF;by_cases q1:l.length≤200000
 ·have d1:decide ((l.length:Int)≤200000)=true:=decide_eq_true (by omega);by_cases q2:7≤l.length
  ·have d2:decide ((7:Int)≤l.length)=true:=decide_eq_true (by omega);cases q3:(l.take 3==[100,107,49])
   ·have HE:Hid (F=none):=Lib.hid (HF.out.trans (qEH q3));go_enter Tryz.func13,Tryz.ntmps13;go_wp2_with fail;refine (qG _).mono ?_;rintro e wz ⟨rfl,rfl⟩;go_wp2;exact ⟨rfl,by rw [HE.out]; exact ⟨rfl,Tch.refl _ _⟩⟩
   ·obtain ⟨T,hT⟩:∃T,T=l.take (l.length - 4):=⟨_,rfl⟩;obtain ⟨k,hk⟩:∃k:Nat,l.length=k+4:=⟨l.length - 4,by omega⟩;have hTk:T.length=k:=by rw [hT,List.length_take]; omega
    have hw4:RowKit.wrap64 ((l.length:Int) - 4)=(k:Int):=by rw [IntWalk.wrap64_in _ (by omega)]; omega
    have hkl:k≤l.length:=by omega
    have hcutT:(⟨l.toArray⟩:ByteArray).extract 0 k=⟨T.toArray⟩:=by rw [hT,hk]; exact qFf l k (by omega)
    have HK:=Lib.hid (And.intro hT (And.intro hk hTk));have HQ:=Lib.hid (And.intro q1 q2);clear hk;have kc:=fun W=>Lib.run_convert_string_bytes (P:=Tryz.prog) W 9 39 5 ⟨T.toArray⟩ Tryz.underlying9 Tryz.underlying39 Tryz.underlying5
    cases q4:(QE T==l)
    ·have HE:Hid (F=none):=Lib.hid (HF.out.trans (qEI hT q4));clear hT hTk;go_enter Tryz.func13,Tryz.ntmps13;go_wp2_with fail;refine (qL _).mono ?_;rintro e wz ⟨rfl,rfl⟩;go_wp2;refine qU (n:=9) (S:=fun w'=>w'.cell? ⟨p0,0,none⟩=some (.string ⟨l.toArray⟩)∧qB (Below w.heap.size w w')) (ds:=[]) (mA 9 0) (by kernel_rfl) rfl rfl ⟨c0,⟨qE (Below.refl _ _)⟩⟩ (fun hHeld=>?_);refine pa_ 9 2 1 (some 18) (v:=?_) (a':=?_) ?_ ?_ ?_;rotate_left 2
     ·intro w';go_simp
      with_reducible rfl
     ·simp only [pn];rfl
     refine pa_ 9 6 2 (some 19) (v:=?_) (a':=?_) ?_ ?_ ?_;rotate_left 2
     ·intro w';go_simp
      with_reducible rfl
     ·simp only [pn];rfl
     refine tb_ 9 7 0 (some 17) (v:=?_) (a':=?_) hHeld ?_ ?_ ?_;rotate_left 2
     ·rintro w' ⟨s0,s1⟩;go_simp
      with_reducible rfl
     ·simp only [pn];rfl
     refine pa_ 9 15 3 (some 20) (v:=?_) (a':=?_) ?_ ?_ ?_;rotate_left 2
     ·intro w';go_simp
      with_reducible rfl
     ·simp only [pn];rfl
     refine tb_ 9 79 6 (some 23) (v:=?_) (a':=?_) hHeld ?_ ?_ ?_;rotate_left 2
     ·rintro w' ⟨s0,s1⟩;go_simp
      with_reducible rfl
     ·simp only [pn];rfl
     refine oo_ 9 95 4 (some 21) (fun K hK=>?_);refine Q1 (w1:=?_) (v:=?_) (by rfl) rfl ?_ ?_;rotate_left 2
     ·go_simp;constructor
      ·rfl
      ·rfl
     refine hK.out _ _ ⟨qA (Lib.bytesWorld_below _ _ _) hHeld.1,⟨qF hHeld.2.out (Lib.bytesWorld_below _ _ _)⟩⟩ (fun hHeld=>?_);clear hK K;refine qM (a':=?_) ?_ ?_;rotate_left
     ·show Act.put _ (some 21) _=_
      simp only [pn];rfl
     refine oo_ 9 127 5 (some 22) (fun K hK=>?_);refine qR Tryz.func15 (by kernel_rfl) rfl #[.slice (some ⟨w.heap.size,0,none⟩) T.length (grownCap w.drew T.length 0 5)] (by rfl) rfl rfl (by simp only [List.map_toArray,List.map_cons,List.map_nil]; rfl) ?_
     with_reducible refine (qCW (Lib.bytesWorld w.drew 5 ⟨T.toArray⟩) w.heap.size _ T (qGA w T (by have:=HK.out.2.2; have:=HQ.out; unfold maxLen; omega)) (by have:=HK.out.2.2; have:=HQ.out; omega)).mono ?_
     rintro e u5 ⟨rfl,hb5⟩;refine ⟨_,rfl,?_⟩;refine hK.out _ _ ⟨qA (hHeld.2.out.trans hb5) c0,⟨hHeld.2.out.trans hb5⟩⟩ (fun hHeld=>?_);clear hK K;refine qM (a':=?_) ?_ ?_;rotate_left
     ·show Act.put _ (some 22) _=_
      simp only [pn];rfl
     refine pa_ 9 255 7 (some 24) (v:=?_) (a':=?_) ?_ ?_ ?_;rotate_left 2
     ·intro w';go_simp
      with_reducible rfl
     ·simp only [pn];rfl
     refine oo_ 9 511 8 (some 25) (fun K hK=>?_);refine qAO Tryz.func14 (by kernel_rfl) rfl #[.bool false] (by rfl) rfl rfl (by simp only [List.map_toArray,List.map_cons,List.map_nil]; rfl) ?_
     with_reducible refine (qG _).mono ?_
     rintro e u ⟨rfl,rfl⟩;refine ⟨_,rfl,?_⟩;exact ⟨rfl,by rw [HE.out]; exact ⟨rfl,Tch.of hHeld.2.out⟩⟩
    ·have HP:=Lib.hid (And.intro q3 q4);clear hT hTk;go_enter Tryz.func13,Tryz.ntmps13;go_wp2_with fail;refine (qL _).mono ?_;rintro e wz ⟨rfl,rfl⟩;go_wp2;refine qU (n:=9) (S:=fun w'=>w'.cell? ⟨p0,0,none⟩=some (.string ⟨l.toArray⟩)∧qB (Below w.heap.size w w')) (ds:=[]) (mA 9 0) (by kernel_rfl) rfl rfl ⟨c0,⟨qE (Below.refl _ _)⟩⟩ (fun hHeld=>?_);refine pa_ 9 2 1 (some 18) (v:=?_) (a':=?_) ?_ ?_ ?_;rotate_left 2
     ·intro w';go_simp
      with_reducible rfl
     ·simp only [pn];rfl
     refine pa_ 9 6 2 (some 19) (v:=?_) (a':=?_) ?_ ?_ ?_;rotate_left 2
     ·intro w';go_simp
      with_reducible rfl
     ·simp only [pn];rfl
     refine tb_ 9 7 0 (some 17) (v:=?_) (a':=?_) hHeld ?_ ?_ ?_;rotate_left 2
     ·rintro w' ⟨s0,s1⟩;go_simp
      with_reducible rfl
     ·simp only [pn];rfl
     refine pa_ 9 15 3 (some 20) (v:=?_) (a':=?_) ?_ ?_ ?_;rotate_left 2
     ·intro w';go_simp
      with_reducible rfl
     ·simp only [pn];rfl
     refine tb_ 9 79 6 (some 23) (v:=?_) (a':=?_) hHeld ?_ ?_ ?_;rotate_left 2
     ·rintro w' ⟨s0,s1⟩;go_simp
      with_reducible rfl
     ·simp only [pn];rfl
     refine oo_ 9 95 4 (some 21) (fun K hK=>?_);refine Q1 (w1:=?_) (v:=?_) (by rfl) rfl ?_ ?_;rotate_left 2
     ·go_simp;constructor
      ·rfl
      ·rfl
     refine hK.out _ _ ⟨qA (Lib.bytesWorld_below _ _ _) hHeld.1,⟨qF hHeld.2.out (Lib.bytesWorld_below _ _ _)⟩⟩ (fun hHeld=>?_);clear hK K;refine qM (a':=?_) ?_ ?_;rotate_left
     ·show Act.put _ (some 21) _=_
      simp only [pn];rfl
     refine oo_ 9 127 5 (some 22) (fun K hK=>?_);refine qR Tryz.func15 (by kernel_rfl) rfl #[.slice (some ⟨w.heap.size,0,none⟩) T.length (grownCap w.drew T.length 0 5)] (by rfl) rfl rfl (by simp only [List.map_toArray,List.map_cons,List.map_nil]; rfl) ?_
     with_reducible refine (qCW (Lib.bytesWorld w.drew 5 ⟨T.toArray⟩) w.heap.size _ T (qGA w T (by have:=HK.out.2.2; have:=HQ.out; unfold maxLen; omega)) (by have:=HK.out.2.2; have:=HQ.out; omega)).mono ?_
     rintro e u5 ⟨rfl,hb5⟩;refine ⟨_,rfl,?_⟩;refine hK.out _ _ ⟨qA (hHeld.2.out.trans hb5) c0,⟨hHeld.2.out.trans hb5⟩⟩ (fun hHeld=>?_);clear hK K;refine qM (a':=?_) ?_ ?_;rotate_left
     ·show Act.put _ (some 22) _=_
      simp only [pn];rfl
     refine pa_ 9 255 7 (some 24) (v:=?_) (a':=?_) ?_ ?_ ?_;rotate_left 2
     ·intro w';go_simp
      with_reducible rfl
     ·simp only [pn];rfl
     refine oo_ 9 511 8 (some 25) (fun K hK=>?_);refine qR Tryz.func14 (by kernel_rfl) rfl #[.bool true] (by rfl) rfl rfl (by simp only [List.map_toArray,List.map_cons,List.map_nil]; rfl) ?_
     with_reducible refine (qL _).mono ?_
     rintro e u ⟨rfl,rfl⟩;refine ⟨_,rfl,?_⟩;refine hK.out _ _ ⟨hHeld.1,hHeld.2⟩ (fun hHeld=>?_);clear hK K;refine qM (a':=?_) ?_ ?_;rotate_left
     ·show Act.put _ (some 25) _=_
      simp only [pn];rfl
     refine qn (by kernel_rfl) ?_;have hrd:=HF.out.trans (qHJ HK.out.1 HQ.out.1 HQ.out.2 HP.out.1 HP.out.2);have HU:=Lib.hid hrd;obtain ⟨U,hU⟩:∃U,U=T.drop 3:=⟨_,rfl⟩;have hcutU:(⟨l.toArray⟩:ByteArray).extract 3 k=⟨U.toArray⟩:=by
      rw [hU,HK.out.1,HK.out.2.1,show k+4 - 4=k by omega];exact cutMid l k
     have hk4:(l.length:Int) - 4=(k:Int):=by have:=HK.out.2.1; omega
     have hsl:∀W,(Instr.slice 9 (.string ⟨l.toArray⟩) (some (.int .i64 3)) (some (.int .i64 (k:Int))) none).run Tryz.prog W=.ok (.string ⟨U.toArray⟩) W:=fun W=>by
      rw [run_slice_string (P:=Tryz.prog) W 9 ⟨l.toArray⟩ .i64 .i64 3 (k:Int) Tryz.underlying9 (by omega) (by have:=HK.out.2.1; omega) (by simp [ByteArray.size]; omega),←hcutU];rfl
     have h3k:3≤k:=by have:=HK.out.2.1; omega
     have hUl:U.length≤200000:=by rw [hU,List.length_drop]; have:=HK.out.2.2; omega
     rw [←hU] at HU;have hb5:=hHeld.2.out;have c5:=hHeld.1;have hbU:=qC hb5 (.cells #[.string ⟨U.toArray⟩] 45);have hRD:RD (u5.alloc (.cells #[.string ⟨U.toArray⟩] 45)) u5.heap.size U:=⟨hUl,qV u5 _⟩;have HCR:=Lib.hid (qJO _ _ _ hRD);have hq:w.heap.size≤u5.heap.size:=hb5.size;have HBU:=Lib.hid hbU;simp only [World.size_alloc] at HCR;clear hrd hU hHeld hRD hbU HP;cases hcd:qBJ U with
     |none=>
      rw [hcd] at HCR HU;have HE:Hid (F=none):=HU;clear hcd HU;go_wp2_with (first|((with_reducible refine qh (N:=29) rfl ?_); refine Hid.out ?_));refine Lib.hid ?_;refine Kd.event_run rfl (v:=.string ⟨U.toArray⟩) (w1:=u5) ?hr ?_
      case hr=>
       go_simp
      go_wp2_with fail;refine HCR.out.mono ?_;rintro e wz ⟨rfl,hT⟩;have HT:=qB.mk (HBU.out.trans (hT.below hq (by simp; omega)));clear hT;go_wp2;exact ⟨rfl,by rw [HE.out]; exact ⟨rfl,Tch.of HT.out⟩⟩
     |some p=>
      obtain ⟨⟨bs,gl⟩,r⟩:=p;have hok:=qEU hUl hcd;rw [hcd] at HCR HU;have HOK:=Lib.hid hok;have HU2:Hid (F=if allK bs gl=true∧qp bs gl=l then some (bs,gl) else none):=HU;clear hcd HU hok;go_wp2_with (first|((with_reducible refine qh (N:=29) rfl ?_); refine Hid.out ?_));refine Lib.hid ?_;refine Kd.event_run rfl (v:=.string ⟨U.toArray⟩) (w1:=u5) ?hr ?_
      case hr=>
       go_simp
      go_wp2_with fail;refine HCR.out.mono ?_;rintro e w6 ⟨v,rfl,⟨vA,vB,rfl,rA,rB⟩,hR,hT⟩;obtain ⟨A,ca,rfl⟩:=Kd.R_slice rA;obtain ⟨A2,cb,rfl⟩:=Kd.R_slice rB;have hb6:=HBU.out.trans (hT.below hq (by simp; omega));have h61:=(hb6.block p1 (qN h1)).trans h1;have h60:=(hb6.block p0 (qN h0)).trans h0;have e0:=qD h61 (i:=0) rfl;have e1:=qD h61 (i:=1) rfl;have z0:=qH h61 0;have z1:=qH h61 1;have rA6:=qAy (qAy (Kd.R_lower rA (show w.heap.size≤u5.heap.size+1 by omega)) p1 0 (qN h1) (.slice A bs.length ca)) p1 1 (qN h1) (.slice A2 gl.length cb);have rB6:=qAy (qAy (Kd.R_lower rB (show w.heap.size≤u5.heap.size+1 by omega)) p1 0 (qN h1) (.slice A bs.length ca)) p1 1 (qN h1) (.slice A2 gl.length cb);have h71:=qQ (qQ h61 0 (.slice A bs.length ca)) 1 (.slice A2 gl.length cb);have h70:=qS (p:=⟨p1,1,none⟩) (qS (p:=⟨p1,0,none⟩) h60 hp01 (.slice A bs.length ca)) hp01 (.slice A2 gl.length cb);have hT7:Tch p1 w ((w6.setCell ⟨p1,0,none⟩ (.slice A bs.length ca)).setCell ⟨p1,1,none⟩ (.slice A2 gl.length cb)):=tch_two (Tch.of hb6) _ _;have hB7:Below w0.heap.size w0 ((w6.setCell ⟨p1,0,none⟩ (.slice A bs.length ca)).setCell ⟨p1,1,none⟩ (.slice A2 gl.length cb)):=((hb0.trans (hb6.mono hb0.size)).setCell (p:=⟨p1,0,none⟩) hp1 _).setCell (p:=⟨p1,1,none⟩) hp1 _;have HA:=qB.mk (And.intro h71 (And.intro rA6 (And.intro rB6 (And.intro hT7 hB7))));have H70:=Lib.hid h70;clear rA rB hR hT hb6 h61 h60 rA6 rB6 h71 hT7 hB7 h70 HCR HBU hb5 c5;go_wp2
      generalize (w6.setCell ⟨p1,0,none⟩ (.slice A bs.length ca)).setCell ⟨p1,1,none⟩ (.slice A2 gl.length cb)=W7 at *;clear e0 e1 z0 z1;clear hsl;have g71:W7.heap[p1]? = some (.cells #[.slice A bs.length ca,.slice A2 gl.length cb] 27 (0,0)):=HA.out.1;have G71:=Lib.hid g71;have x0:=qD g71 (i:=0) rfl;have x1:=qD g71 (i:=1) rfl;have y0:=qD H70.out (i:=0) rfl;have HCK:Hid (∀W,Below W7.heap.size W7 W→Calls Tryz.prog 17 #[.agg #[.slice A bs.length ca,.slice A2 gl.length cb]] W fun e w'=>e=.returned (.int .i64 (qBG (allK bs gl)))∧Below W.heap.size W w'):=Lib.hid (fun W hW=>qAP W A ca A2 cb bs gl ((CM.ofR HA.out.2.1 HA.out.2.2.1).below hW) (hL.below (HA.out.2.2.2.2.trans (hW.mono HA.out.2.2.2.2.size))) HOK.out.1);have HPK:Hid (allK bs gl=true→∀W,Below W7.heap.size W7 W→Calls Tryz.prog 18 #[.agg #[.slice A bs.length ca,.slice A2 gl.length cb]] W fun e w'=>e=.returned (.string ⟨(qp bs gl).toArray⟩)∧Below W.heap.size W w'):=Lib.hid (fun hk W hW=>qDj W A ca A2 cb bs gl ((CM.ofR HA.out.2.1 HA.out.2.2.1).below hW) (qHC (Q4 hk) HOK.out.2) (qDl (Q4 hk) HOK.out.2));clear g71 H70;generalize qp bs gl=PB at *;cases hk:allK bs gl
      ·rw [hk] at HCK;have HE:Hid (F=none):=Lib.hid (HU2.out.trans (if_neg (by rw [hk]; simp)));clear hk HPK;simp only [qBG,Bool.false_eq_true,if_false] at HCK;go_wp2;refine qU (n:=10) (S:=fun w'=>w'.cell? ⟨p1,0,none⟩=some (.slice A bs.length ca)∧w'.cell? ⟨p1,1,none⟩=some (.slice A2 gl.length cb)∧w'.cell? ⟨p0,0,none⟩=some (.string ⟨l.toArray⟩)∧qB (Below W7.heap.size W7 w')) (ds:=[]) (mA 10 0) (by kernel_rfl) rfl rfl ⟨x0,x1,y0,⟨qE (Below.refl _ _)⟩⟩ (fun hHeld=>?_);refine tb_ 10 1 0 (some 33) (v:=?_) (a':=?_) hHeld ?_ ?_ ?_;rotate_left 2
       ·rintro w' ⟨s0,s1,s2,s3⟩;go_simp
        with_reducible rfl
       ·simp only [pn];rfl
       refine oo_ 10 3 1 (some 34) (fun K hK=>?_);refine qR Tryz.func17 (by kernel_rfl) rfl #[.agg #[.slice A bs.length ca,.slice A2 gl.length cb]] (by rfl) rfl rfl (by simp only [List.map_toArray,List.map_cons,List.map_nil]; rfl) ?_
       with_reducible refine (HCK.out _ hHeld.2.2.2.out).mono ?_
       rintro e u1 ⟨rfl,hb1⟩;refine ⟨_,rfl,?_⟩;refine hK.out _ _ ⟨qA hb1 hHeld.1,qA hb1 hHeld.2.1,qA hb1 hHeld.2.2.1,⟨qF hHeld.2.2.2.out hb1⟩⟩ (fun hHeld=>?_);clear hK K;refine qM (a':=?_) ?_ ?_;rotate_left
       ·show Act.put _ (some 34) _=_
        simp only [pn];rfl
       refine pa_ 10 7 2 (some 35) (v:=?_) (a':=?_) ?_ ?_ ?_;rotate_left 2
       ·intro w';go_simp
        with_reducible rfl
       ·simp only [pn];rfl
       refine pa_ 10 15 3 (some 36) (v:=?_) (a':=?_) ?_ ?_ ?_;rotate_left 2
       ·intro w';go_simp
        with_reducible rfl
       ·simp only [pn];rfl
       refine pf_ 10 31 4 (some 37) (a':=?_) ?_ ?_;rotate_left
       ·simp only [pn];rfl
       refine pf_ 10 63 5 (some 38) (a':=?_) ?_ ?_;rotate_left
       ·simp only [pn];rfl
       refine pf_ 10 127 6 (some 39) (a':=?_) ?_ ?_;rotate_left
       ·simp only [pn];rfl
       refine pf_ 10 255 7 (some 40) (a':=?_) ?_ ?_;rotate_left
       ·simp only [pn];rfl
       refine pa_ 10 511 8 (some 41) (v:=?_) (a':=?_) ?_ ?_ ?_;rotate_left 2
       ·intro w';go_simp
        with_reducible rfl
       ·simp only [pn];rfl
       refine oo_ 10 1023 9 (some 42) (fun K hK=>?_);refine qAO Tryz.func14 (by kernel_rfl) rfl #[.bool false] (by rfl) rfl rfl (by simp only [List.map_toArray,List.map_cons,List.map_nil]; rfl) ?_
       with_reducible refine (qG _).mono ?_
       rintro e u ⟨rfl,rfl⟩;refine ⟨_,rfl,?_⟩;exact ⟨rfl,by rw [HE.out]; exact ⟨rfl,HA.out.2.2.2.1.trans (Tch.of hHeld.2.2.2.out)⟩⟩
      ·have HPK2:=Lib.hid (HPK.out hk);rw [hk] at HCK;simp only [qBG,if_true] at HCK;cases q5:(PB==l)
       ·have HE:Hid (F=none):=Lib.hid (HU2.out.trans (if_neg (by rintro ⟨_,rfl⟩; simp at q5)));clear hk HPK;go_wp2;refine qU (n:=10) (S:=fun w'=>w'.cell? ⟨p1,0,none⟩=some (.slice A bs.length ca)∧w'.cell? ⟨p1,1,none⟩=some (.slice A2 gl.length cb)∧w'.cell? ⟨p0,0,none⟩=some (.string ⟨l.toArray⟩)∧qB (Below W7.heap.size W7 w')) (ds:=[]) (mA 10 0) (by kernel_rfl) rfl rfl ⟨x0,x1,y0,⟨qE (Below.refl _ _)⟩⟩ (fun hHeld=>?_);refine tb_ 10 1 0 (some 33) (v:=?_) (a':=?_) hHeld ?_ ?_ ?_;rotate_left 2
        ·rintro w' ⟨s0,s1,s2,s3⟩;go_simp
         with_reducible rfl
        ·simp only [pn];rfl
        refine oo_ 10 3 1 (some 34) (fun K hK=>?_);refine qR Tryz.func17 (by kernel_rfl) rfl #[.agg #[.slice A bs.length ca,.slice A2 gl.length cb]] (by rfl) rfl rfl (by simp only [List.map_toArray,List.map_cons,List.map_nil]; rfl) ?_
        with_reducible refine (HCK.out _ hHeld.2.2.2.out).mono ?_
        rintro e u1 ⟨rfl,hb1⟩;refine ⟨_,rfl,?_⟩;refine hK.out _ _ ⟨qA hb1 hHeld.1,qA hb1 hHeld.2.1,qA hb1 hHeld.2.2.1,⟨qF hHeld.2.2.2.out hb1⟩⟩ (fun hHeld=>?_);clear hK K;refine qM (a':=?_) ?_ ?_;rotate_left
        ·show Act.put _ (some 34) _=_
         simp only [pn];rfl
        refine pa_ 10 7 2 (some 35) (v:=?_) (a':=?_) ?_ ?_ ?_;rotate_left 2
        ·intro w';go_simp
         with_reducible rfl
        ·simp only [pn];rfl
        refine pa_ 10 15 3 (some 36) (v:=?_) (a':=?_) ?_ ?_ ?_;rotate_left 2
        ·intro w';go_simp
         with_reducible rfl
        ·simp only [pn];rfl
        refine tb_ 10 31 4 (some 37) (v:=?_) (a':=?_) hHeld ?_ ?_ ?_;rotate_left 2
        ·rintro w' ⟨s0,s1,s2,s3⟩;go_simp
         with_reducible rfl
        ·simp only [pn];rfl
        refine tb_ 10 95 6 (some 39) (v:=?_) (a':=?_) hHeld ?_ ?_ ?_;rotate_left 2
        ·rintro w' ⟨s0,s1,s2,s3⟩;go_simp
         with_reducible rfl
        ·simp only [pn];rfl
        refine oo_ 10 127 5 (some 38) (fun K hK=>?_);refine qR Tryz.func18 (by kernel_rfl) rfl #[.agg #[.slice A bs.length ca,.slice A2 gl.length cb]] (by rfl) rfl rfl (by simp only [List.map_toArray,List.map_cons,List.map_nil]; rfl) ?_
        with_reducible refine (HPK2.out _ hHeld.2.2.2.out).mono ?_
        rintro e u5 ⟨rfl,hb5⟩;refine ⟨_,rfl,?_⟩;refine hK.out _ _ ⟨qA hb5 hHeld.1,qA hb5 hHeld.2.1,qA hb5 hHeld.2.2.1,⟨qF hHeld.2.2.2.out hb5⟩⟩ (fun hHeld=>?_);clear hK K;refine qM (a':=?_) ?_ ?_;rotate_left
        ·show Act.put _ (some 38) _=_
         simp only [pn];rfl
        refine pa_ 10 255 7 (some 40) (v:=?_) (a':=?_) ?_ ?_ ?_;rotate_left 2
        ·intro w';go_simp
         with_reducible rfl
        ·simp only [pn];rfl
        refine pa_ 10 511 8 (some 41) (v:=?_) (a':=?_) ?_ ?_ ?_;rotate_left 2
        ·intro w';go_simp
         with_reducible rfl
        ·simp only [pn];rfl
        refine oo_ 10 1023 9 (some 42) (fun K hK=>?_);refine qAO Tryz.func14 (by kernel_rfl) rfl #[.bool false] (by rfl) rfl rfl (by simp only [List.map_toArray,List.map_cons,List.map_nil]; rfl) ?_
        with_reducible refine (qG _).mono ?_
        rintro e u ⟨rfl,rfl⟩;refine ⟨_,rfl,?_⟩;exact ⟨rfl,by rw [HE.out]; exact ⟨rfl,HA.out.2.2.2.1.trans (Tch.of hHeld.2.2.2.out)⟩⟩
       ·have HE:Hid (F=some (bs,gl)):=Lib.hid (HU2.out.trans (if_pos ⟨hk,by simpa using q5⟩));clear hk HPK;go_wp2;refine qU (n:=10) (S:=fun w'=>w'.cell? ⟨p1,0,none⟩=some (.slice A bs.length ca)∧w'.cell? ⟨p1,1,none⟩=some (.slice A2 gl.length cb)∧w'.cell? ⟨p0,0,none⟩=some (.string ⟨l.toArray⟩)∧qB (Below W7.heap.size W7 w')) (ds:=[]) (mA 10 0) (by kernel_rfl) rfl rfl ⟨x0,x1,y0,⟨qE (Below.refl _ _)⟩⟩ (fun hHeld=>?_);refine tb_ 10 1 0 (some 33) (v:=?_) (a':=?_) hHeld ?_ ?_ ?_;rotate_left 2
        ·rintro w' ⟨s0,s1,s2,s3⟩;go_simp
         with_reducible rfl
        ·simp only [pn];rfl
        refine oo_ 10 3 1 (some 34) (fun K hK=>?_);refine qR Tryz.func17 (by kernel_rfl) rfl #[.agg #[.slice A bs.length ca,.slice A2 gl.length cb]] (by rfl) rfl rfl (by simp only [List.map_toArray,List.map_cons,List.map_nil]; rfl) ?_
        with_reducible refine (HCK.out _ hHeld.2.2.2.out).mono ?_
        rintro e u1 ⟨rfl,hb1⟩;refine ⟨_,rfl,?_⟩;refine hK.out _ _ ⟨qA hb1 hHeld.1,qA hb1 hHeld.2.1,qA hb1 hHeld.2.2.1,⟨qF hHeld.2.2.2.out hb1⟩⟩ (fun hHeld=>?_);clear hK K;refine qM (a':=?_) ?_ ?_;rotate_left
        ·show Act.put _ (some 34) _=_
         simp only [pn];rfl
        refine pa_ 10 7 2 (some 35) (v:=?_) (a':=?_) ?_ ?_ ?_;rotate_left 2
        ·intro w';go_simp
         with_reducible rfl
        ·simp only [pn];rfl
        refine pa_ 10 15 3 (some 36) (v:=?_) (a':=?_) ?_ ?_ ?_;rotate_left 2
        ·intro w';go_simp
         with_reducible rfl
        ·simp only [pn];rfl
        refine tb_ 10 31 4 (some 37) (v:=?_) (a':=?_) hHeld ?_ ?_ ?_;rotate_left 2
        ·rintro w' ⟨s0,s1,s2,s3⟩;go_simp
         with_reducible rfl
        ·simp only [pn];rfl
        refine tb_ 10 95 6 (some 39) (v:=?_) (a':=?_) hHeld ?_ ?_ ?_;rotate_left 2
        ·rintro w' ⟨s0,s1,s2,s3⟩;go_simp
         with_reducible rfl
        ·simp only [pn];rfl
        refine oo_ 10 127 5 (some 38) (fun K hK=>?_);refine qR Tryz.func18 (by kernel_rfl) rfl #[.agg #[.slice A bs.length ca,.slice A2 gl.length cb]] (by rfl) rfl rfl (by simp only [List.map_toArray,List.map_cons,List.map_nil]; rfl) ?_
        with_reducible refine (HPK2.out _ hHeld.2.2.2.out).mono ?_
        rintro e u5 ⟨rfl,hb5⟩;refine ⟨_,rfl,?_⟩;refine hK.out _ _ ⟨qA hb5 hHeld.1,qA hb5 hHeld.2.1,qA hb5 hHeld.2.2.1,⟨qF hHeld.2.2.2.out hb5⟩⟩ (fun hHeld=>?_);clear hK K;refine qM (a':=?_) ?_ ?_;rotate_left
        ·show Act.put _ (some 38) _=_
         simp only [pn];rfl
        refine pa_ 10 255 7 (some 40) (v:=?_) (a':=?_) ?_ ?_ ?_;rotate_left 2
        ·intro w';go_simp
         with_reducible rfl
        ·simp only [pn];rfl
        refine pa_ 10 511 8 (some 41) (v:=?_) (a':=?_) ?_ ?_ ?_;rotate_left 2
        ·intro w';go_simp
         with_reducible rfl
        ·simp only [pn];rfl
        refine oo_ 10 1023 9 (some 42) (fun K hK=>?_);refine qR Tryz.func14 (by kernel_rfl) rfl #[.bool true] (by rfl) rfl rfl (by simp only [List.map_toArray,List.map_cons,List.map_nil]; rfl) ?_
        with_reducible refine (qL _).mono ?_
        rintro e u ⟨rfl,rfl⟩;refine ⟨_,rfl,?_⟩;refine hK.out _ _ ⟨hHeld.1,hHeld.2.1,hHeld.2.2.1,hHeld.2.2.2⟩ (fun hHeld=>?_);clear hK K;refine qM (a':=?_) ?_ ?_;rotate_left
        ·show Act.put _ (some 42) _=_
         simp only [pn];rfl
        refine qn (by kernel_rfl) ?_;go_wp2;go_end0;have hbf:=hHeld.2.2.2.out;rw [HE.out];exact ⟨rfl,⟨A,ca,A2,cb,(hbf.block p1 (qN G71.out)).trans G71.out,Kd.R_below HA.out.2.1 hbf,Kd.R_below HA.out.2.2.1 hbf⟩,HA.out.2.2.2.1.trans (Tch.of hbf)⟩
  ·have d2:decide ((7:Int)≤l.length)=false:=decide_eq_false (by omega);have HE:Hid (F=none):=Lib.hid (HF.out.trans (qEG q2));go_enter Tryz.func13,Tryz.ntmps13;go_wp2_with fail;refine (qG _).mono ?_;rintro e wz ⟨rfl,rfl⟩;go_wp2;exact ⟨rfl,by rw [HE.out]; exact ⟨rfl,Tch.refl _ _⟩⟩
 ·have d1:decide ((l.length:Int)≤200000)=false:=decide_eq_false (by omega);have HE:Hid (F=none):=Lib.hid (HF.out.trans (qEF q1));go_enter Tryz.func13,Tryz.ntmps13;go_wp2_with fail;refine (qG _).mono ?_;rintro e wz ⟨rfl,rfl⟩;go_wp2;exact ⟨rfl,by rw [HE.out]; exact ⟨rfl,Tch.refl _ _⟩⟩
def UkPost(w:World):Option (List GBk×List GGl)→Ending→World→Prop
 |some c,e,w'=>∃v,e=.returned (.tuple #[v,.int .i64 0])∧qE2 w.heap.size w' c v∧Below w.heap.size w w'
 |none,e,w'=>e=.returned (.tuple #[.agg #[.slice none 0 0,.slice none 0 0],.int .i64 42])∧Below w.heap.size w w'
structure UG(w w3:World)(p0 p2 p1:Nat)(l:List UInt8):Prop where
 low:Below w.heap.size w w3
 n0:w.heap.size≤p0
 n2:p0<p2
 n1:p2<p1
 h0:w3.heap[p0]? = some (.cells #[.string ⟨l.toArray⟩] 9 (0,0))
 h2:w3.heap[p2]? = some (.cells #[.slice none 0 0,.slice none 0 0] 27 (0,0))
 h1:w3.heap[p1]? = some (.cells #[.slice none 0 0,.slice none 0 0] 27 (0,0))
def UGPost(w w3:World)(p2 p1:Nat):Option (List GBk×List GGl)→Ending→World→Prop
 |some c,e,w'=>e=.returned (.bool true)∧Below w.heap.size w w'∧w'.heap[p2]? = some (.cells #[.slice none 0 0,.slice none 0 0] 27 (0,0))∧∃A ca A2 cb,w'.heap[p1]? = some (.cells #[.slice A c.1.length ca,.slice A2 c.2.length cb] 27 (0,0))∧kBk.R 55 w' (w3.heap.size+1) (fun _=>True) (.slice A c.1.length ca) c.1∧kGl.R 63 w' (w3.heap.size+1) (fun _=>True) (.slice A2 c.2.length cb) c.2
 |none,e,w'=>e=.returned (.bool false)∧Below w.heap.size w w'∧w'.heap[p2]? = some (.cells #[.slice none 0 0,.slice none 0 0] 27 (0,0))
theorem unguard(w w3:World)(p0 p2 p1:Nat)(l:List UInt8)(h:UG w w3 p0 p2 p1 l)(hL:LW w)(hl:l.length≤140737488355328):
 Calls Tryz.prog 12 #[.func (.func 13) #[] #[.pointer (some ⟨p0,0,none⟩),.pointer (some ⟨p1,0,none⟩)]] w3 (UGPost w w3 p2 p1 (q7 l)):=by
 have hb1:=qC (Below.refl w3.heap.size w3) (.cells #[.bool false] 4);have hl0:=qN h.h0;have hl1:=qN h.h1;have hl2:=qN h.h2;have n0:=h.n0;have n1:=h.n1;have n2:=h.n2;have hw:=h.low.size;have hU:=qGc w (w3.alloc (.cells #[.bool false] 4)) p0 p1 l (qK h.h0 hb1) (qK h.h1 hb1) hL (qF h.low hb1) (by omega) (by omega) hl;have hgo:∀args w,(callFunc 13 args).run Tryz.prog w=.ok (.enter 13 args) w:=qCw Tryz.func13 (by kernel_rfl) rfl;have hsz:(w3.alloc (.cells #[.bool false] 4)).heap.size=w3.heap.size+1:=by simp
 have hkeep:∀w',Tch p1 (w3.alloc (.cells #[.bool false] 4)) w'→w'.heap[w3.heap.size]? = some (.cells #[.bool false] 4 (0,0)):=fun w' hT=>
  (hT.block w3.heap.size (by omega) (fun e=>by injection e; omega)).trans (qV w3 _)
 have hlow:∀w',Tch p1 (w3.alloc (.cells #[.bool false] 4)) w'→Below w.heap.size w w':=fun w' hT=>(qF h.low hb1).trans (hT.below (by omega) (by omega))
 have hp2:∀w',Tch p1 (w3.alloc (.cells #[.bool false] 4)) w'→w'.heap[p2]? = some (.cells #[.slice none 0 0,.slice none 0 0] 27 (0,0)):=fun w' hT=>
  (hT.block p2 (by omega) (fun e=>by injection e; omega)).trans (qK h.h2 hb1)
 cases hu:q7 l with
 |none=>
  rw [hu] at hU;refine (qCV 13 #[] #[.pointer (some ⟨p0,0,none⟩),.pointer (some ⟨p1,0,none⟩)] w3 (fun w'=>Tch p1 (w3.alloc (.cells #[.bool false] 4)) w') hgo (hU.mono fun e w' hh=>⟨hh.1,hkeep w' hh.2,hh.2⟩)).mono ?_;rintro e w' ⟨rfl,w1,hp,hlt,rfl⟩;have hbx:=qC (Below.refl w1.heap.size w1) (.cells #[] 72);exact ⟨rfl,(qF (hlow w1 hp) hbx).setCell (p:=⟨w3.heap.size,0,none⟩) hw _,qS (qK (hp2 w1 hp) hbx) (show p2≠w3.heap.size by omega) _⟩
 |some c=>
  rw [hu] at hU;refine (qCq 13 #[] #[.pointer (some ⟨p0,0,none⟩),.pointer (some ⟨p1,0,none⟩)] w3 (fun w'=>(∃A ca A2 cb,w'.heap[p1]? = some (.cells #[.slice A c.1.length ca,.slice A2 c.2.length cb] 27 (0,0))∧kBk.R 55 w' (w3.heap.size+1) (fun _=>True) (.slice A c.1.length ca) c.1∧kGl.R 63 w' (w3.heap.size+1) (fun _=>True) (.slice A2 c.2.length cb) c.2)∧Tch p1 (w3.alloc (.cells #[.bool false] 4)) w') hgo (hU.mono fun e w' hh=>⟨hh.1,hkeep w' hh.2.2,by rw [←hsz]; exact hh.2.1,hh.2.2⟩)).mono ?_;rintro e w' ⟨rfl,w1,⟨⟨A,ca,A2,cb,hx,rA,rB⟩,hp⟩,hlt,rfl⟩;exact ⟨rfl,(hlow w1 hp).setCell (p:=⟨w3.heap.size,0,none⟩) hw _,qS (hp2 w1 hp) (show p2≠w3.heap.size by omega) _,A,ca,A2,cb,qS hx (show p1≠w3.heap.size by omega) _,qAy rA _ _ (by omega) _,qAy rB _ _ (by omega) _⟩
set_option maxRecDepth 100000 in
set_option maxHeartbeats 4000000 in
theorem qDp(w:World)(l:List UInt8)(hL:LW w)(hl:l.length≤140737488355328):
 Calls Tryz.prog 5 #[.string ⟨l.toArray⟩] w (UkPost w (q7 l)):=by
 have hmf:∀(fn:Fn) (first cap:Array Value) (w:World),(Instr.makeFunc fn first cap).run Tryz.prog w=.ok (.func fn first cap) w:=fun _ _ _ _=>rfl
 have HG:=Lib.hid (fun w3 p0 p2 p1 (h:UG w w3 p0 p2 p1 l)=>unguard w w3 p0 p2 p1 l h hL hl);clear hL hl;generalize q7 l=F at *;go_enter Tryz.func5,Tryz.ntmps5;go_wp2_with (first
  |((with_reducible refine qh (N:=1) rfl ?_); refine QJ ?hg (N:=1) ?hd (cs:=#[.string ⟨l.toArray⟩]) (t:=9) ?hr ?_; (case hd=>rfl); (case hg=>rfl); (case hr=>first|(go_simp; done)|(go_simp; rfl)); intro p0 hp0 w1 hx0 hb1; have hp0':w.heap.size≤p0:=Nat.le_of_eq hp0.symm; clear hp0)
  |((with_reducible refine qh (N:=2) rfl ?_); refine QJ ?hg (N:=2) ?hd (cs:=#[.slice none 0 0,.slice none 0 0]) (t:=27) ?hr ?_; (case hd=>rfl); (case hg=>rfl); (case hr=>first|(go_simp; done)|(go_simp; rfl)); intro p2 hp2 w2 hx2 hb2; have hp2':w1.heap.size≤p2:=Nat.le_of_eq hp2.symm; clear hp2)
  |((with_reducible refine qh (N:=4) rfl ?_); refine QJ ?hg (N:=4) ?hd (cs:=#[.slice none 0 0,.slice none 0 0]) (t:=27) ?hr ?_; (case hd=>rfl); (case hg=>rfl); (case hr=>first|(go_simp; done)|(go_simp; rfl)); intro p1 hp1 w3 hx1 hb3; have hp1':w2.heap.size≤p1:=Nat.le_of_eq hp1.symm; clear hp1))
 have HU:qB (UG w w3 p0 p2 p1 l):=⟨⟨qF (qF hb1 hb2) hb3,hp0',by have:=qN hx0; omega,by have:=qN hx2; omega,qK (qK hx0 hb2) hb3,qK hx2 hb3,hx1⟩⟩;clear hx0 hx2 hx1 hb1 hb2 hb3 hp0' hp2' hp1';have hc:=HG.out w3 p0 p2 p1 HU.out;cases F with
 |none=>
  refine hc.mono ?_;rintro e w4 ⟨rfl,hb4,h42⟩;have e0:=qD h42 (i:=0) rfl;have e1:=qD h42 (i:=1) rfl;have z0:=qH h42 0;have z1:=qH h42 1;have h52:=qQ (qQ h42 0 (.slice none 0 0)) 1 (.slice none 0 0);have hp2:w.heap.size≤p2:=by have:=HU.out.n0; have:=HU.out.n2; omega
  have hb5:=(hb4.setCell (p:=⟨p2,0,none⟩) hp2 (.slice none 0 0)).setCell (p:=⟨p2,1,none⟩) hp2 (.slice none 0 0);have HN:=qB.mk (And.intro h52 hb5);clear hb4 h42 h52 hb5 hc HG HU;go_wp2;generalize (w4.setCell ⟨p2,0,none⟩ (.slice none 0 0)).setCell ⟨p2,1,none⟩ (.slice none 0 0)=W5 at *;have g:W5.heap[p2]? = some (.cells #[.slice none 0 0,.slice none 0 0] 27 (0,0)):=HN.out.1;have x0:=qD g (i:=0) rfl;have x1:=qD g (i:=1) rfl;refine bodyPost_ret (v:=.tuple #[.agg #[.slice none 0 0,.slice none 0 0],.int .i64 42]) (by simp [results,Tryz.results5,go_sem,x0,x1]) rfl ?_;exact ⟨rfl,HN.out.2⟩
 |some c=>
  obtain ⟨bs,gl⟩:=c;refine hc.mono ?_;rintro e w4 ⟨rfl,hb4,h42,A,ca,A2,cb,h41,rA,rB⟩;have e0:=qD h42 (i:=0) rfl;have e1:=qD h42 (i:=1) rfl;have z0:=qH h42 0;have z1:=qH h42 1;have y0:=qD h41 (i:=0) rfl;have y1:=qD h41 (i:=1) rfl;have h52:=qQ (qQ h42 0 (.slice A bs.length ca)) 1 (.slice A2 gl.length cb);have hp2:w.heap.size≤p2:=by have:=HU.out.n0; have:=HU.out.n2; omega
  have hp3:p2<w3.heap.size+1:=by have:=qN HU.out.h2; omega
  have hw3:=HU.out.low.size;have hb5:=(hb4.setCell (p:=⟨p2,0,none⟩) hp2 (.slice A bs.length ca)).setCell (p:=⟨p2,1,none⟩) hp2 (.slice A2 gl.length cb);have rA5:=Kd.R_lower (qAy (qAy rA p2 0 hp3 (.slice A bs.length ca)) p2 1 hp3 (.slice A2 gl.length cb)) (show w.heap.size≤w3.heap.size+1 by omega);have rB5:=Kd.R_lower (qAy (qAy rB p2 0 hp3 (.slice A bs.length ca)) p2 1 hp3 (.slice A2 gl.length cb)) (show w.heap.size≤w3.heap.size+1 by omega);have HN:=qB.mk (And.intro h52 (And.intro hb5 (And.intro rA5 rB5)));clear hb4 h42 h52 hb5 hc HG HU rA rB rA5 rB5 h41;go_wp2;generalize (w4.setCell ⟨p2,0,none⟩ (.slice A bs.length ca)).setCell ⟨p2,1,none⟩ (.slice A2 gl.length cb)=W5 at *;have g:W5.heap[p2]? = some (.cells #[.slice A bs.length ca,.slice A2 gl.length cb] 27 (0,0)):=HN.out.1;have x0:=qD g (i:=0) rfl;have x1:=qD g (i:=1) rfl;refine bodyPost_ret (v:=.tuple #[.agg #[.slice A bs.length ca,.slice A2 gl.length cb],.int .i64 0]) (by simp [results,Tryz.results5,go_sem,x0,x1]) rfl ?_;exact ⟨_,rfl,⟨_,_,rfl,HN.out.2.2.1,HN.out.2.2.2⟩,HN.out.2.1⟩
end Go.Proofs.YtoonkkipnljflaaGreatDoor.CJ
