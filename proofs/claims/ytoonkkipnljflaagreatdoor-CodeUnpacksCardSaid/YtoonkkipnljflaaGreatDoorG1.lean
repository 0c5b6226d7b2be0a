/- The reference's Unpack as a plain function, and that it is the code's. Conditions: none. -/
import Derived.Test.YtoonkkipnljflaaGreatDoorZZ
namespace Go.Proofs.YtoonkkipnljflaaGreatDoor.CJ
open Go.RowKit Go.Proofs.YtoonkkipnljflaaGreatDoorW.PrintWords Go.Proofs.YtoonkkipnljflaaGreatDoorW.PrintLast Go.Proofs.YtoonkkipnljflaaGreatDoor.PT Go.Proofs.YtoonkkipnljflaaGreatDoor.IMaps Go.Proofs.YtoonkkipnljflaaGreatDoor.TJ
set_option linter.unusedVariables false
set_option linter.unusedSimpArgs false
def smR(l:List UInt8):Option (Int×List UInt8):=match bigR l with|some (n,r)=>if n≤1000000 then some ((n:Int),r) else none|none=>none
def szR(l:List UInt8):Option (Int×List UInt8):=match smR l with|some (n,r)=>if n≤r.length then some (n,r) else none|none=>none
def stR(l:List UInt8):Option (ByteArray×List UInt8):=match szR l with|some (n,r)=>some (⟨(r.take n.toNat).toArray⟩,r.drop n.toNat)|none=>none
def altS(l:List UInt8):Option (GAl×List UInt8):=qJ (smR l) fun f0 r1=>qJ (stR r1) fun f1 r2=>qJ (qb r2) fun f2 r3=>qJ (smR r3) fun f3 r4=>some (⟨f0,f1,f2,f3⟩,r4)
def rowS{α:Type}(f:List UInt8→Option (α×List UInt8))(l:List UInt8):Option (List α×List UInt8):=match szR l with|some (n,r)=>qY f n.toNat r|none=>none
def opU(l:List UInt8):Option (GOp×List UInt8):=qJ (Qj l) fun b r1=>qJ (smR r1) fun f1 r2=>qJ (smR r2) fun f2 r3=>qJ (qb r3) fun f3 r4=>qJ (stR r4) fun f4 r5=>qJ (rowS smR r5) fun f5 r6=>qJ (rowS altS r6) fun f6 r8=>some (⟨b.toNat,f1,f2,f3,f4,f5,f6⟩,r8)
def qAH(l:List UInt8):Option (GBk×List UInt8):=qJ (smR l) fun f0 r1=>qJ (smR r1) fun f1 r2=>qJ (rowS opU r2) fun f2 r4=>some (⟨f0,f1,f2⟩,r4)
def Q5(l:List UInt8):Option (GGl×List UInt8):=qJ (stR l) fun f0 r1=>qJ (smR r1) fun f1 r2=>some (⟨f0,f1⟩,r2)
def qB0(l:List UInt8):Option ((List GBk×List GGl)×List UInt8):=qJ (rowS qAH l) fun bs r2=>qJ (rowS Q5 r2) fun gl r4=>some ((bs,gl),r4)
def unpM(l:List UInt8):Option ((List GBk×List GGl)×List UInt8)→Option (List GBk×List GGl)
 |some (c,r)=>if r=[]∧allK c.1 c.2=true∧qp c.1 c.2=l then some c else none
 |none=>none
def unpS(l:List UInt8):Option (List GBk×List GGl):=
 if l.length≤200000∧7≤l.length∧l.take 3=qx∧QE (l.take (l.length - 4))=l then unpM l (qB0 ((l.take (l.length - 4)).drop 3)) else none
theorem qm{α β:Type}{o o':Option (α×List UInt8)}{f f':α→List UInt8→Option (β×List UInt8)}(h:∀p,o=some p→o'=some p)(hf:∀x r p,f x r=some p→f' x r=some p):∀p,qJ o f=some p→qJ o' f'=some p:=fun p hp=>by
 cases ho:o with
 |none=>rw [ho] at hp; cases hp
 |some q=>obtain ⟨x,r⟩:=q; rw [h _ ho,qI rfl]; rw [ho] at hp; exact hf x r p hp
theorem qE3{α:Type}{f g:List UInt8→Option (α×List UInt8)}(h:∀l p,f l=some p→g l=some p):∀(n:Nat) (l:List UInt8) p,qY f n l=some p→qY g n l=some p
 | 0,l,p,hp=>hp
 |n+1,l,p,hp=>by
  rw [qY] at hp ⊢;cases hx:f l with
  |none=>rw [hx] at hp; cases hp
  |some q=>
   obtain ⟨x,r⟩:=q;rw [hx] at hp;rw [h _ _ hx];simp only at hp ⊢;cases hy:qY f n r with
   |none=>rw [hy] at hp; cases hp
   |some q2=>rw [hy] at hp; rw [qE3 h n r _ hy]; exact hp
theorem qBL(l:List UInt8):∀p,smR l=some p→numR l=some p:=fun p hp=>by
 unfold smR at hp;unfold numR;cases hb:bigR l with
 |none=>rw [hb] at hp; cases hp
 |some q=>
  obtain ⟨n,r⟩:=q;rw [hb] at hp;simp only at hp ⊢;split at hp
  ·rw [if_pos (by omega)]; exact hp
  ·cases hp
theorem qGB(l:List UInt8):∀p,szR l=some p→qW l=some p:=fun p hp=>by
 unfold szR at hp;unfold qW;cases hb:smR l with
 |none=>rw [hb] at hp; cases hp
 |some q=>
  rw [hb] at hp;rw [qBL l _ hb];exact hp
theorem qFg(l:List UInt8):∀p,stR l=some p→strR l=some p:=fun p hp=>by
 unfold stR at hp;unfold strR;cases hb:szR l with
 |none=>rw [hb] at hp; cases hp
 |some q=>rw [hb] at hp; rw [qGB l _ hb]; exact hp
theorem qCa{α:Type}{f g:List UInt8→Option (α×List UInt8)}(h:∀l p,f l=some p→g l=some p)(l:List UInt8):∀p,rowS f l=some p→(qJ (qW l) fun n r=>qY g n.toNat r)=some p:=fun p hp=>by
 unfold rowS at hp;cases hb:szR l with
 |none=>rw [hb] at hp; cases hp
 |some q=>obtain ⟨n,r⟩:=q; rw [hb] at hp; rw [qI (qGB l _ hb)]; exact qE3 h _ _ _ hp
theorem qE4{α β γ:Type}(o:Option (α×List UInt8))(f:α→List UInt8→Option (β×List UInt8))(g:β→List UInt8→Option (γ×List UInt8)):qJ (qJ o f) g=qJ o fun x r=>qJ (f x r) g:=by
 cases o with
 |none=>rfl
 |some p=>rfl
theorem altS_alt:∀l p,altS l=some p→altR l=some p:=fun l=>qm (qBL l) fun _ r1=>qm (qFg r1) fun _ r2=>qm (fun _ h=>h) fun _ r3=>qm (qBL r3) fun _ _ _ h=>h
theorem numsR_eq(l:List UInt8):qBk l=qJ (qW l) fun n r=>qY numR n.toNat r:=by unfold qBk rowR; cases qW l<;>rfl
theorem opS_op:∀l p,opU l=some p→opR l=some p:=fun l p hp=>by
 unfold opR;have e:∀b f1 f2 f3 f4 f5 r6,(qJ (qW r6) fun n r7=>qJ (qY altR n.toNat r7) fun f6 r8=>some ((⟨b,f1,f2,f3,f4,f5,f6⟩:GOp),r8))=qJ (qJ (qW r6) fun n r7=>qY altR n.toNat r7) fun f6 r8=>some (⟨b,f1,f2,f3,f4,f5,f6⟩,r8):=fun b f1 f2 f3 f4 f5 r6=>(qE4 _ _ _).symm
 simp only [e,numsR_eq];exact qm (fun _ h=>h) (fun _ r1=>qm (qBL r1) fun _ r2=>qm (qBL r2) fun _ r3=>qm (fun _ h=>h) fun _ r4=>qm (qFg r4) fun _ r5=>qm (qCa qBL r5) fun _ r6=>qm (qCa altS_alt r6) fun _ _ _ h=>h) p hp
theorem qHT:∀l p,qAH l=some p→QP l=some p:=fun l p hp=>by
 unfold QP;have e:∀f0 f1 r2,(qJ (qW r2) fun n r3=>qJ (qY opR n.toNat r3) fun f2 r4=>some ((⟨f0,f1,f2⟩:GBk),r4))=qJ (qJ (qW r2) fun n r3=>qY opR n.toNat r3) fun f2 r4=>some (⟨f0,f1,f2⟩,r4):=fun f0 f1 r2=>(qE4 _ _ _).symm
 simp only [e];exact qm (qBL l) (fun _ r1=>qm (qBL r1) fun _ r2=>qm (qCa opS_op r2) fun _ _ _ h=>h) p hp
theorem qJT:∀l p,Q5 l=some p→QQ l=some p:=fun l=>qm (qFg l) fun _ r1=>qm (qBL r1) fun _ _ _ h=>h
theorem qGC:∀l p,qB0 l=some p→qCQ l=some p:=fun l p hp=>by
 unfold qCQ;have e:∀(bs:List GBk) r2,(qJ (qW r2) fun n r3=>qJ (qY QQ n.toNat r3) fun gl r4=>some ((bs,gl),r4))=qJ (qJ (qW r2) fun n r3=>qY QQ n.toNat r3) fun gl r4=>some ((bs,gl),r4):=fun bs r2=>(qE4 _ _ _).symm
 simp only [e];rw [←qE4];exact qm (qCa qHT l) (fun _ r2=>qm (qCa qJT r2) fun _ _ _ h=>h) p hp
theorem qAl(n:Int)(r:List UInt8)(h0:0≤n)(h1:n≤1000000):smR (numB n++r)=some (n,r):=by
 unfold smR numB;rw [qEV _ _ (by omega)];simp only;rw [if_pos (by omega)]
 congr 2; omega
theorem qIn(n:Nat)(r:List UInt8)(h:n≤r.length)(h1:n≤1000000):szR (numB n++r)=some ((n:Int),r):=by
 unfold szR;rw [qAl n r (by omega) (by omega)];simp only;rw [if_pos (by omega)]
theorem qEX(s:ByteArray)(r:List UInt8)(h1:s.data.toList.length≤1000000):stR (strB s.data.toList++r)=some (s,r):=by
 unfold stR strB;rw [List.append_assoc,qIn _ _ (by simp) h1];simp
theorem qCC{α:Type}{f:List UInt8→Option (α×List UInt8)}{enc:α→List UInt8}(xs:List α)(r:List UInt8)(hl:xs.length≤1000000)(hp:∀x∈xs,1≤(enc x).length)(h:∀x∈xs,∀r,f (enc x++r)=some (x,r)):rowS f (numB xs.length++(xs.flatMap enc++r))=some (xs,r):=by
 unfold rowS;rw [qIn _ _ (by have:=qBa enc xs hp; rw [List.length_append]; omega) hl];simp only [Int.toNat_natCast];exact qAk xs r h
theorem altS_B(a:GAl)(nb:Nat)(hn:nb≤1500)(r:List UInt8)(h:SmAl nb a)(hw:Ok64 a.f2):altS (altB a++r)=some (a,r):=by
 unfold altS altB altP;simp only [List.flatten_cons,List.flatten_nil,List.append_nil,List.append_assoc];rw [qI (qAl _ _ (by have:=h.n0; omega) (by have:=h.n0; omega)),qI (qEX _ _ (by have:=h.s1; omega)),qI (qAj _ _ hw),qI (qAl _ _ (by have:=h.n3; omega) (by have:=h.n3; omega))]
theorem opS_B(g:GOp)(nb:Nat)(hn:nb≤1500)(r:List UInt8)(h:SmOp nb g)(hw:Ok64 g.f3∧∀a∈g.f6,Ok64 a.f2):opU (opB g++r)=some (g,r):=by
 unfold opU opB opP;simp only [List.flatten_cons,List.flatten_nil,List.append_nil,List.append_assoc,List.cons_append,List.nil_append];have h0:(((UInt8.ofNat g.f0.toNat).toNat:Nat):Int)=g.f0:=by
  rw [qAS _ (by have:=h.n0; omega)]; have:=h.n0; omega
 rw [Qj,qI rfl,qI (qAl _ _ (by have:=h.n1; omega) (by have:=h.n1; omega)),qI (qAl _ _ (by have:=h.n2; omega) (by have:=h.n2; omega)),qI (qAj _ _ hw.1),qI (qEX _ _ (by have:=h.s4; omega)),
  show qi g.f5=g.f5.flatMap numB from rfl,qI (qCC (enc:=numB) g.f5 _ (by have:=h.l5.1; omega) (fun n _=>qBZ _) (fun x hx r=>qAl x r (by have:=h.l5.2 x hx; omega) (by have:=h.l5.2 x hx; omega))),qI (qCC g.f6 r (by have:=h.l6.1; omega) (fun a _=>qHL a) (fun a ha r=>altS_B a nb hn r (h.l6.2 a ha) (hw.2 a ha))),h0]
theorem blockS_B(b:GBk)(nb:Nat)(hn:nb≤1500)(r:List UInt8)(h:SmBk nb b)(hw:∀g∈b.f2,Ok64 g.f3∧∀a∈g.f6,Ok64 a.f2):qAH (blkB b++r)=some (b,r):=by
 unfold qAH blkB hdB;simp only [List.append_assoc];rw [qI (qAl _ _ (by have:=h.n0; omega) (by have:=h.n0; omega)),qI (qAl _ _ (by have:=h.n1; omega) (by have:=h.n1; omega)),qI (qCC b.f2 r (by have:=h.l2; omega) (fun a _=>qIm a) (fun a ha r=>opS_B a nb hn r (h.ops a ha) (hw a ha)))]
theorem globS_B(g:GGl)(nb:Nat)(hn:nb≤1500)(r:List UInt8)(h:g.f0.data.toList.length≤60∧0≤g.f1∧g.f1<nb):Q5 (glbB g++r)=some (g,r):=by
 unfold Q5 glbB;rw [List.append_assoc,qI (qEX _ _ (by omega)),qI (qAl _ _ (by omega) (by omega))]
theorem qJU(bs:List GBk)(gl:List GGl)(h:SmC bs gl)(hw:WfC bs):qB0 (qAW bs gl)=some ((bs,gl),[]):=by
 unfold qB0 qAW;have nb:=h.nb;rw [qI (qCC bs _ (by omega) (fun a _=>qHM a) (fun b hb r=>blockS_B b bs.length nb.2 r (h.blocks b hb) (hw b hb)))];have:=qCC gl [] (by have:=h.ng; omega) (fun a _=>qHN a) (fun g hg r=>globS_B g bs.length nb.2 r (h.globs g hg));rw [List.append_nil] at this;rw [qI this]
theorem unpS_eq(l:List UInt8):unpS l=q7 l:=by
 cases hu:q7 l with
 |some c=>
  obtain ⟨bs,gl⟩:=c;obtain ⟨hk,hp,hl,hw⟩:=qHS hu;simp only at hk hp hw;have hc:l.length≤200000∧7≤l.length∧l.take 3=qx∧QE (l.take (l.length - 4))=l:=by
   unfold q7 at hu;split at hu
   ·assumption
   ·cases hu
  have e2:(l.take (l.length - 4)).drop 3=qAW bs gl:=by
   have e:l=QE (qx++qAW bs gl):=by rw [←hp]; unfold qp; rw [qHO]
   have:l.take (l.length - 4)=qx++qAW bs gl:=by
    conv=>lhs; rw [e]
    exact qHQ _
   rw [this]; rfl
  unfold unpS;rw [if_pos hc,e2,qJU bs gl (Q4 hk) hw];exact if_pos ⟨rfl,hk,hp⟩
 |none=>
  cases hs:unpS l with
  |none=>rfl
  |some c=>
   exfalso
   unfold unpS at hs;split at hs
   ·rename_i hc
    cases hr:qB0 ((l.take (l.length - 4)).drop 3) with
    |none=>rw [hr] at hs; cases hs
    |some q=>
     obtain ⟨c',r⟩:=q;rw [hr] at hs;unfold unpM at hs;simp only at hs;split at hs
     ·rename_i h2
      obtain ⟨rfl,h3,h4⟩:=h2;unfold q7 at hu;rw [if_pos hc,qDq,qGC _ _ hr] at hu;simp only [if_true] at hu;rw [if_pos ⟨h3,h4⟩] at hu;cases hu
     ·cases hs
   ·cases hs
end Go.Proofs.YtoonkkipnljflaaGreatDoor.CJ
