/- What is packed is read back. Conditions: the code is small. Packed codes: unpacked again; cut off or changed they are none. Conditions: the code is valid. -/
import Derived.Test.YtoonkkipnljflaaGreatDoorUC
namespace Go.Proofs.YtoonkkipnljflaaGreatDoor.CJ
open Go.RowKit Go.Proofs.YtoonkkipnljflaaGreatDoorW.PrintWords Go.Proofs.YtoonkkipnljflaaGreatDoorW.PrintLast Go.Proofs.YtoonkkipnljflaaGreatDoor.PT Go.Proofs.YtoonkkipnljflaaGreatDoor.IMaps Go.Proofs.YtoonkkipnljflaaGreatDoor.TJ
set_option linter.unusedVariables false
set_option linter.unusedSimpArgs false
theorem qAS(n:Nat)(h:n<256):(UInt8.ofNat n).toNat=n:=by simp; omega
theorem qHK:∀(k n:Nat) (r:List UInt8),n<128 ^ (k+1)→bigF (k+1) (bigB n++r)=some (n,r)
 | 0,n,r,h=>by
  have:n≤127:=by simp at h; omega
  rw [bigB,if_pos this];simp only [List.cons_append,List.nil_append,bigF];rw [qAS n (by omega),if_pos (by omega)]
 |k+1,n,r,h=>by
  rw [bigB];split
  ·simp only [List.cons_append,List.nil_append,bigF];rw [qAS n (by omega),if_pos (by omega)]
  ·have hd:n / 128<128 ^ (k+1):=by
    rw [Nat.div_lt_iff_lt_mul (by decide)];rw [Nat.pow_succ] at h;exact h
   rw [List.cons_append,bigF,qAS _ (by omega),if_neg (by omega),qHK k _ r hd];simp only [Option.map_some,Option.some.injEq,Prod.mk.injEq,and_true];omega
theorem qEV(n:Nat)(r:List UInt8)(h:n<18446744073709551616):bigR (bigB n++r)=some (n,r):=by
 unfold bigR;rw [qHK 9 n r (by omega)];simp only [Option.map_some,Option.some.injEq,Prod.mk.injEq,and_true];exact Nat.mod_eq_of_lt h
theorem qBZ(n:Nat):1≤(bigB n).length:=by
 rw [bigB]; split<;>simp
theorem qAi(n:Int)(r:List UInt8)(h0:0≤n)(h1:n≤4611686018427387904):numR (numB n++r)=some (n,r):=by
 unfold numR numB;rw [qEV _ _ (by omega)];simp only;rw [if_pos (by omega)]
 congr 2; omega
theorem qIG(n:Int):Qd (Qf n)=n:=by
 unfold Qd Qf;split<;>split<;>omega
theorem foldN_lt(n:Int)(h:Ok64 n):Qf n<18446744073709551616:=by
 unfold Ok64 at h; unfold Qf; split<;>omega
theorem qAj(n:Int)(r:List UInt8)(h:Ok64 n):qb (QG n++r)=some (n,r):=by
 unfold qb QG;rw [qEV _ _ (foldN_lt n h)];simp only;rw [qIG]
theorem qBK(n:Nat)(r:List UInt8)(h:n≤r.length)(h1:n≤4611686018427387904):qW (numB n++r)=some ((n:Int),r):=by
 unfold qW;rw [qAi n r (by omega) (by omega)];simp only;rw [if_pos (by omega)]
theorem qEW(s:ByteArray)(r:List UInt8)(h1:s.data.toList.length≤4611686018427387904):strR (strB s.data.toList++r)=some (s,r):=by
 unfold strR strB;rw [List.append_assoc,qBK _ _ (by simp) h1];simp
theorem qAk{α:Type}{f:List UInt8→Option (α×List UInt8)}{enc:α→List UInt8}:∀(xs:List α) (r:List UInt8),(∀x∈xs,∀r,f (enc x++r)=some (x,r))→qY f xs.length (xs.flatMap enc++r)=some (xs,r)
 | [],r,_=>by simp [qY]
 |x::xs,r,h=>by
  rw [List.flatMap_cons,List.append_assoc,List.length_cons,qY,h x (by simp)];simp only;rw [qAk xs r (fun y hy=>h y (by simp [hy]))]
theorem qBa{α:Type}(enc:α→List UInt8):∀(xs:List α),(∀x∈xs,1≤(enc x).length)→xs.length≤(xs.flatMap enc).length
 | [],_=>by simp
 |x::xs,h=>by
  rw [List.flatMap_cons,List.length_append,List.length_cons];have:=qBa enc xs (fun y hy=>h y (by simp [hy]));have:=h x (by simp);omega
theorem qJQ(l:List Int)(r:List UInt8)(h:∀n∈l,0≤n∧n≤4611686018427387904)(hl:l.length≤4611686018427387904):qBk (numB l.length++(qi l++r))=some (l,r):=by
 unfold qBk rowR;rw [qBK _ _ (by have:=qBa numB l (fun n _=>qBZ _); unfold qi; rw [List.length_append]; omega) hl];simp only [Int.toNat_natCast];exact qAk l r (fun x hx r=>qAi x r (h x hx).1 (h x hx).2)
theorem altR_alt(a:GAl)(nb:Nat)(hn:nb≤1500)(r:List UInt8)(h:SmAl nb a)(hw:Ok64 a.f2):altR (altB a++r)=some (a,r):=by
 unfold altR altB altP;simp only [List.flatten_cons,List.flatten_nil,List.append_nil,List.append_assoc];rw [qI (qAi _ _ (by have:=h.n0; omega) (by have:=h.n0; omega)),qI (qEW _ _ (by have:=h.s1; omega)),qI (qAj _ _ hw),qI (qAi _ _ (by have:=h.n3; omega) (by have:=h.n3; omega))]
theorem qHL(a:GAl):1≤(altB a).length:=by
 have:=qBZ a.f0.toNat;unfold altB altP numB;simp only [List.flatten_cons,List.length_append];omega
theorem opR_op(g:GOp)(nb:Nat)(hn:nb≤1500)(r:List UInt8)(h:SmOp nb g)(hw:Ok64 g.f3∧∀a∈g.f6,Ok64 a.f2):opR (opB g++r)=some (g,r):=by
 unfold opR opB opP;simp only [List.flatten_cons,List.flatten_nil,List.append_nil,List.append_assoc,List.cons_append,List.nil_append];have h0:(((UInt8.ofNat g.f0.toNat).toNat:Nat):Int)=g.f0:=by
  rw [qAS _ (by have:=h.n0; omega)]; have:=h.n0; omega
 have h6:=qBa altB g.f6 (fun a _=>qHL a);rw [Qj,qI rfl,qI (qAi _ _ (by have:=h.n1; omega) (by have:=h.n1; omega)),qI (qAi _ _ (by have:=h.n2; omega) (by have:=h.n2; omega)),qI (qAj _ _ hw.1),qI (qEW _ _ (by have:=h.s4; omega)),
  qI (qJQ _ _ (fun n hn=>by have:=h.l5.2 n hn; omega) (by have:=h.l5.1; omega)),qI (qBK _ _ (by rw [List.length_append]; omega) (by have:=h.l6.1; omega))]
 rw [Int.toNat_natCast,qI (qAk g.f6 r (fun a ha r=>altR_alt a nb hn r (h.l6.2 a ha) (hw.2 a ha))),h0]
theorem qIm(g:GOp):1≤(opB g).length:=by
 unfold opB opP;simp only [List.flatten_cons,List.length_append,List.length_cons];omega
theorem qJR(b:GBk)(nb:Nat)(hn:nb≤1500)(r:List UInt8)(h:SmBk nb b)(hw:∀g∈b.f2,Ok64 g.f3∧∀a∈g.f6,Ok64 a.f2):QP (blkB b++r)=some (b,r):=by
 unfold QP blkB hdB;simp only [List.append_assoc];have h6:=qBa opB b.f2 (fun a _=>qIm a);rw [qI (qAi _ _ (by have:=h.n0; omega) (by have:=h.n0; omega)),qI (qAi _ _ (by have:=h.n1; omega) (by have:=h.n1; omega)),qI (qBK _ _ (by rw [List.length_append]; omega) (by have:=h.l2; omega))];rw [Int.toNat_natCast,qI (qAk b.f2 r (fun a ha r=>opR_op a nb hn r (h.ops a ha) (hw a ha)))]
theorem qKZ(g:GGl)(nb:Nat)(hn:nb≤1500)(r:List UInt8)(h:g.f0.data.toList.length≤60∧0≤g.f1∧g.f1<nb):QQ (glbB g++r)=some (g,r):=by
 unfold QQ glbB;rw [List.append_assoc,qI (qEW _ _ (by omega)),qI (qAi _ _ (by omega) (by omega))]
theorem qHM(b:GBk):1≤(blkB b).length:=by
 have:=qBZ b.f0.toNat;unfold blkB hdB numB;simp only [List.length_append];omega
theorem qHN(g:GGl):1≤(glbB g).length:=by
 have:=qBZ g.f1.toNat;unfold glbB numB;simp only [List.length_append];omega
def qCQ(l:List UInt8):Option ((List GBk×List GGl)×List UInt8):=qJ (qW l) fun n r1=>qJ (qY QP n.toNat r1) fun bs r2=>qJ (qW r2) fun n r3=>qJ (qY QQ n.toNat r3) fun gl r4=>some ((bs,gl),r4)
theorem qDq(l:List UInt8):qBJ l=match qCQ l with|some (c,r)=>if r=[] then some (c,r) else none|none=>none:=by
 unfold qBJ qCQ;cases h1:qW l with
 |none=>simp [qJ]
 |some p=>
  simp only [qJ];cases h2:qY QP p.1.toNat p.2 with
  |none=>simp
  |some p2=>
   simp only;cases h3:qW p2.2 with
   |none=>simp
   |some p3=>
    simp only;cases h4:qY QQ p3.1.toNat p3.2 with
    |none=>simp
    |some p4=>simp
def qAW(bs:List GBk)(gl:List GGl):List UInt8:=numB bs.length++(bs.flatMap blkB++(numB gl.length++gl.flatMap glbB))
theorem qHO(bs:List GBk)(gl:List GGl):Q3 bs gl=qx++qAW bs gl:=by unfold Q3 qAW; rw [List.append_assoc]
theorem qHP(bs:List GBk)(gl:List GGl)(s:List UInt8)(h:SmC bs gl)(hw:WfC bs):qCQ (qAW bs gl++s)=some ((bs,gl),s):=by
 unfold qCQ qAW;simp only [List.append_assoc];have h1:=qBa blkB bs (fun a _=>qHM a);have h2:=qBa glbB gl (fun a _=>qHN a);have nb:=h.nb;rw [qI (qBK _ _ (by rw [List.length_append]; omega) (by omega)),Int.toNat_natCast,qI (qAk bs _ (fun b hb r=>qJR b bs.length nb.2 r (h.blocks b hb) (hw b hb))),
  qI (qBK _ _ (by rw [List.length_append]; omega) (by have:=h.ng; omega)),Int.toNat_natCast,qI (qAk gl _ (fun g hg r=>qKZ g bs.length nb.2 r (h.globs g hg)))]
theorem qJS(bs:List GBk)(gl:List GGl)(h:SmC bs gl)(hw:WfC bs):qBJ (qAW bs gl)=some ((bs,gl),[]):=by
 have:=qHP bs gl [] h hw;rw [List.append_nil] at this;rw [qDq,this]; simp
theorem sum4_len(n:Nat):(sum4 n).length=4:=rfl
theorem qDr(P:List UInt8):(QE P).length=P.length+4:=by unfold QE; rw [List.length_append,sum4_len]
theorem qHQ(P:List UInt8):(QE P).take ((QE P).length - 4)=P:=by
 rw [qDr,Nat.add_sub_cancel]; unfold QE; simp
theorem qKa(bs:List GBk)(gl:List GGl):2≤(qAW bs gl).length:=by
 have h1:=qBZ (bs.length:Int).toNat;have h2:=qBZ (gl.length:Int).toNat;unfold qAW numB;simp only [List.length_append];omega
theorem qHR(bs:List GBk)(gl:List GGl)(hk:allK bs gl=true)(hw:WfC bs)(hl:(qp bs gl).length≤200000):q7 (qp bs gl)=some (bs,gl):=by
 have e:qp bs gl=QE (qx++qAW bs gl):=by unfold qp; rw [qHO]
 have hc:(qp bs gl).take ((qp bs gl).length - 4)=qx++qAW bs gl:=by rw [e]; exact qHQ _
 have h7:7≤(qp bs gl).length:=by rw [e,qDr,List.length_append]; have:=qKa bs gl; have:qx.length=3:=rfl; omega
 have h3:(qp bs gl).take 3=qx:=by rw [e]; rfl
 unfold q7;rw [hc,if_pos ⟨hl,h7,h3,e.symm⟩];have:(qx++qAW bs gl).drop 3=qAW bs gl:=rfl;rw [this,qJS bs gl (Q4 hk) hw];exact if_pos ⟨hk,rfl⟩
theorem qHS{l:List UInt8}{c:List GBk×List GGl}(h:q7 l=some c):allK c.1 c.2=true∧qp c.1 c.2=l∧l.length≤200000∧WfC c.1:=by
 unfold q7 at h;split at h
 ·rename_i hc
  cases hr:qBJ ((l.take (l.length - 4)).drop 3) with
  |none=>rw [hr] at h; cases h
  |some p=>
   obtain ⟨⟨b1,g1⟩,r⟩:=p;rw [hr] at h;simp only at h;split at h
   ·rename_i hc2
    simp only [Option.some.injEq] at h;subst h;refine ⟨hc2.1,hc2.2,hc.1,(qEU ?_ hr).2⟩;rw [List.length_drop,List.length_take]; omega
   ·cases h
 ·cases h
end Go.Proofs.YtoonkkipnljflaaGreatDoor.CJ
