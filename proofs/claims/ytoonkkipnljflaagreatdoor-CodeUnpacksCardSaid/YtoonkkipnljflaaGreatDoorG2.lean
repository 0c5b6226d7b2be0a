/- The reference's reader: its small methods. Conditions: the reader lies in memory; its bytes take at most 200000. -/
import Derived.Test.YtoonkkipnljflaaGreatDoorG1
namespace Go.Proofs.YtoonkkipnljflaaGreatDoor.CJ
open Go.RowKit Go.Proofs.YtoonkkipnljflaaGreatDoorW.PrintWords Go.Proofs.YtoonkkipnljflaaGreatDoorW.PrintLast Go.Proofs.YtoonkkipnljflaaGreatDoor.PT Go.Proofs.YtoonkkipnljflaaGreatDoor.IMaps Go.Proofs.YtoonkkipnljflaaGreatDoor.TJ
set_option linter.unusedVariables false
set_option linter.unusedSimpArgs false
def StU(L:List UInt8)(k:Nat)(b:Bool)(s:Option (List UInt8)):Prop:=L.length≤200000∧k≤L.length∧s=if b then none else some (L.drop k)
def nx{α:Type}(f:List UInt8→Option (α×List UInt8))(s:Option (List UInt8)):Option (List UInt8):=(s.bind f).map (·.2)
structure RF(w:World)(q:Nat)(L:List UInt8)(k:Nat)(b:Bool)(s:Option (List UInt8)):Prop where
 box:w.heap[q]? = some (.cells #[.string ⟨L.toArray⟩,.int .i64 k,.bool b] 51 (0,0))
 st:StU L k b s
theorem RF.lt{w:World}{q:Nat}{L:List UInt8}{k:Nat}{b:Bool}{s:Option (List UInt8)}(h:RF w q L k b s):q<w.heap.size:=(Array.getElem?_eq_some_iff.1 h.box).1
theorem RF.far{w w':World}{q:Nat}{L:List UInt8}{k:Nat}{b:Bool}{s:Option (List UInt8)}(h:RF w q L k b s)(hb:Below w.heap.size w w'):RF w' q L k b s:=⟨(hb.block _ h.lt).trans h.box,h.st⟩
theorem Tch.set(w:World)(q i:Nat)(u:Value):Tch q w (w.setCell ⟨q,i,none⟩ u):=⟨rfl,rfl,rfl,by simp [World.setCell],fun k _ hk=>Below.heap_setCell _ _ _ _ (fun e=>hk (by simp [e]))⟩
theorem RF.bad{w:World}{q:Nat}{L:List UInt8}{k:Nat}{b:Bool}{s:Option (List UInt8)}(h:RF w q L k b s):RF (w.setCell ⟨q,2,none⟩ (.bool true)) q L k true none∧Tch q w (w.setCell ⟨q,2,none⟩ (.bool true)):=
 ⟨⟨qQ h.box 2 (.bool true),h.st.1,h.st.2.1,rfl⟩,Tch.set _ _ _ _⟩
theorem RF.move{w:World}{q:Nat}{L:List UInt8}{k:Nat}{b:Bool}{s:Option (List UInt8)}(h:RF w q L k b s)(j:Nat)(hj:j≤L.length):RF (w.setCell ⟨q,1,none⟩ (.int .i64 j)) q L j b (if b then none else some (L.drop j))∧Tch q w (w.setCell ⟨q,1,none⟩ (.int .i64 j)):=
 ⟨⟨qQ h.box 1 (.int .i64 j),h.st.1,hj,rfl⟩,Tch.set _ _ _ _⟩
theorem RF.step{w:World}{q:Nat}{L:List UInt8}{k:Nat}{s:Option (List UInt8)}(h:RF w q L k false s)(j:Nat)(hj:j≤L.length):RF (w.setCell ⟨q,1,none⟩ (.int .i64 j)) q L j false (some (L.drop j))∧Tch q w (w.setCell ⟨q,1,none⟩ (.int .i64 j)):=
 ⟨⟨qQ h.box 1 (.int .i64 j),h.st.1,hj,rfl⟩,Tch.set _ _ _ _⟩
def BytePost(q:Nat)(w:World)(L:List UInt8)(k:Nat)(s:Option (List UInt8))(e:Ending)(w':World):Prop:=
 ∃(k':Nat) (b':Bool) (n:Nat),e=.returned (.int .i64 n)∧n<256∧RF w' q L k' b' (nx Qj s)∧Tch q w w'∧(∀x r,s.bind Qj=some (x,r)→n=x.toNat)∧(s.bind Qj=none→n=0∧k'=k)
theorem dropC(L:List UInt8)(k:Nat)(h:k<L.length):L.drop k=L[k]::L.drop (k+1):=List.drop_eq_getElem_cons h
theorem Qq{α:Type}{f:List UInt8→Option (α×List UInt8)}{s:Option (List UInt8)}(h:s.bind f=none):nx f s=none:=by unfold nx; rw [h]; rfl
theorem Qv{α:Type}{f:List UInt8→Option (α×List UInt8)}{s:Option (List UInt8)}{x:α}{r:List UInt8}(h:s.bind f=some (x,r)):nx f s=some r:=by unfold nx; rw [h]; rfl
set_option maxRecDepth 100000 in
set_option maxHeartbeats 2000000 in
theorem qE5(w:World)(q:Nat)(L:List UInt8)(k:Nat)(b:Bool)(s:Option (List UInt8))(h:RF w q L k b s):
 Calls Tryz.prog 41 #[.pointer (some ⟨q,0,none⟩)] w (BytePost q w L k s):=by
 have h1:=qE (Below.refl w.heap.size w);have H:=qB.mk (And.intro (h.far h1) (Tch.of (q:=q) h1));have d0:=qD h.box (i:=0) rfl;have d1:=qD h.box (i:=1) rfl;have d2:=qD h.box (i:=2) rfl;have e0:=qD H.out.1.box (i:=0) rfl;have e1:=qD H.out.1.box (i:=1) rfl;have e2:=qD H.out.1.box (i:=2) rfl;have z1:=qH H.out.1.box 1;have z2:=qH H.out.1.box 2;have hl:=h.st.1;have hk:=h.st.2.1;have HS:=Lib.hid h.st.2.2;cases b
 ·by_cases hlt:k<L.length
  ·have t0:decide ((L.length:Int)≤k)=false:=decide_eq_false (by omega);have hN:s.bind Qj=some (L[k],L.drop (k+1)):=by rw [HS.out,if_neg (by decide),dropC L k hlt]; rfl
   have HN:=Lib.hid hN;have hw1:RowKit.wrap64 ((k:Int)+1)=(k:Int)+1:=IntWalk.wrap64_in _ (by omega);have hw2:RowKit.wrap64 ((k:Int)+1 - 1)=(k:Int):=by rw [IntWalk.wrap64_in _ (by omega)]; omega
   have hlt':k<(⟨L.toArray⟩:ByteArray).size:=hlt;have hix:∀W:World,(Instr.index 9 (.string ⟨L.toArray⟩) (.int .i64 (k:Int))).run Tryz.prog W=.ok (.int .u8 (L[k].toNat:Int)) W:=fun W=>by
    rw [run_index_string (P:=Tryz.prog) (w:=W) 9 ⟨L.toArray⟩ .i64 (k:Int) Tryz.underlying9,dif_pos ⟨by omega,by omega⟩];rfl
   generalize hx:L[k]=x at *;have hx1:RowKit.wrap64 (x.toNat:Int)=x.toNat:=IntWalk.wrap64_in _ (by have:=x.toNat_lt; omega);clear h1 h hN hx;go_enter Tryz.func41,Tryz.ntmps41;go_wp2;go_region
   all_goals
    clear d0 d1 d2;generalize w.drew=w1 at *;go_wp2;have HY:qB (RF (w1.setCell ⟨q,1,none⟩ (.int .i64 ((k:Int)+1))) q L (k+1) false (some (L.drop (k+1)))∧Tch q w1 (w1.setCell ⟨q,1,none⟩ (.int .i64 ((k:Int)+1)))):=⟨H.out.1.step (k+1) hlt⟩;generalize w1.setCell ⟨q,1,none⟩ (.int .i64 ((k:Int)+1))=w2 at *;have d0:=qD HY.out.1.box (i:=0) rfl;have d1:=qD HY.out.1.box (i:=1) rfl;clear e0 e1 e2 z1 z2;go_region
    all_goals
     have HZ:=qB.mk (And.intro (HY.out.1.far (qE (Below.refl _ _))) (H.out.2.trans (HY.out.2.trans (Tch.of (q:=q) (qE (Below.refl w2.heap.size w2))))));clear d0 d1;generalize w2.drew=w3 at *;go_wp2;go_ret;exact ⟨k+1,false,x.toNat,by show Ending.returned (.int .i64 (RowKit.wrap64 (x.toNat:Int)))=_; rw [hx1],x.toNat_lt,by rw [Qv HN.out]; exact HZ.out.1,HZ.out.2,fun x2 r e=>by rw [HN.out] at e; (cases e); rfl,fun e=>by rw [HN.out] at e; (cases e)⟩
  ·have t0:decide ((L.length:Int)≤k)=true:=decide_eq_true (by omega);have hN:s.bind Qj=none:=by rw [HS.out,if_neg (by decide),List.drop_eq_nil_of_le (by omega)]; rfl
   have HN:=Lib.hid hN;clear h1 h hN;go_enter Tryz.func41,Tryz.ntmps41;go_wp2;go_region
   all_goals
    clear d0 d1 d2;generalize w.drew=w1 at *;go_wp2;go_ret;exact ⟨k,true,0,rfl,by decide,by rw [Qq HN.out]; exact H.out.1.bad.1,H.out.2.trans H.out.1.bad.2,fun x r e=>by rw [HN.out] at e; (cases e),fun _=>⟨rfl,rfl⟩⟩
 ·have hN:s.bind Qj=none:=by rw [HS.out]; rfl
  have HN:=Lib.hid hN;clear h1 h hN;go_enter Tryz.func41,Tryz.ntmps41;go_wp2;go_region
  all_goals
   clear d0 d1 d2;generalize w.drew=w1 at *;go_wp2;go_ret;exact ⟨k,true,0,rfl,by decide,by rw [Qq HN.out]; exact H.out.1.bad.1,H.out.2.trans H.out.1.bad.2,fun x r e=>by rw [HN.out] at e; (cases e),fun _=>⟨rfl,rfl⟩⟩
theorem qE6{st:Option (List UInt8)}{x:UInt8}{r:List UInt8}(h:st.bind Qj=some (x,r)):st=some (x::r):=by
 cases st with
 |none=>cases h
 |some l=>cases l with
  |nil=>cases h
  |cons a m=>simp only [Option.bind_some,Qj,Option.some.injEq,Prod.mk.injEq] at h; obtain ⟨rfl,rfl⟩:=h; rfl
theorem qHU{st:Option (List UInt8)}(h:st.bind Qj=none):st=none∨st=some []:=by
 cases st with
 |none=>exact .inl rfl
 |some l=>cases l with
  |nil=>exact .inr rfl
  |cons a m=>cases h
theorem bigS_end{st:Option (List UInt8)}(h:st.bind Qj=none)(i acc:Nat):st.bind (bigS i acc)=none:=by
 rcases qHU h with rfl|rfl
 ·rfl
 ·exact qHF i acc
theorem add_fact(k acc:Nat)(b:UInt8):IntKind.u64.wrap ((acc:Int)+IntKind.u64.wrap ((b.toNat:Int) % 128*2 ^ (7*k)))=(orN k acc b:Int):=by
 show ((acc:Int)+(b.toNat:Int) % 128*2 ^ (7*k) % 18446744073709551616) % 18446744073709551616=_
 have hp:(128:Nat) ^ k=2 ^ (7*k):=by rw [Nat.pow_mul]
 have ec:((b.toNat:Int) % 128*2 ^ (7*k))=((128 ^ k*(b.toNat % 128):Nat):Int):=by rw [hp]; simp; exact Int.mul_comm _ _
 rw [ec];unfold orN;omega
def RawPost(q:Nat)(w:World)(L:List UInt8)(s:Option (List UInt8))(e:Ending)(w':World):Prop:=
 ∃(k':Nat) (b':Bool) (n:Nat),e=.returned (.int .u64 n)∧n<18446744073709551616∧RF w' q L k' b' (nx bigR s)∧Tch q w w'∧(∀x r,s.bind bigR=some (x,r)→n=x)∧(s.bind bigR=none→n=0∨k'=L.length)
def RawIn(s st:Option (List UInt8))(i acc:Nat):Prop:=s.bind bigR=st.bind (bigS i acc)∧acc<18446744073709551616∧(st=none→acc=0)
set_option maxRecDepth 100000 in
set_option maxHeartbeats 4000000 in
theorem qGD(w:World)(q:Nat)(L:List UInt8)(k:Nat)(b:Bool)(s:Option (List UInt8))(h:RF w q L k b s):
 Calls Tryz.prog 40 #[.pointer (some ⟨q,0,none⟩)] w (RawPost q w L s):=by
 have H:=qB.mk (And.intro h (Tch.refl q w));clear h;go_enter Tryz.func40,Tryz.ntmps40;go_wp2
 go_loopw [3,4] (fun av v wr=>∃(i acc kk:Nat) (bb:Bool) (st:Option (List UInt8)),i≤10∧av=.int .u64 acc∧v=.int .i64 i∧Hid (RawIn s st i acc)∧qB (RF wr q L kk bb st∧Tch q w wr)) (fun _ v _=>10 - (intOf v).toNat)
 case atStart=>exact ⟨0,0,k,b,s,by omega,rfl,rfl,Lib.hid ⟨by congr 1; funext l; exact (qF6 l).symm,by decide,fun _=>rfl⟩,H⟩
 case round=>
  obtain ⟨i,acc,kk,bb,st,hi,rfl,rfl,HK,HP⟩:=hrel;clear H;by_cases hlt:i<10
  ·have hn:=Lib.hid (qE5 wr q L kk bb st HP.out.1);have hm:RowKit.wrap64 (7*(i:Int))=7*i:=IntWalk.wrap64_in _ (by omega);go_wp2_with fail;refine hn.out.mono ?_;rintro e w2 ⟨k',b',n,rfl,hn2,hR,hT,hs,hz⟩;obtain ⟨c,rfl⟩:∃c:UInt8,n=c.toNat:=⟨UInt8.ofNat n,(qAS n hn2).symm⟩;have hnw:(c.toNat:Int) % 18446744073709551616=c.toNat:=by omega
   have hor:=add_fact i acc c;have HA:=qB.mk (And.intro hR (And.intro (HP.out.2.trans hT) (And.intro hs hz)));have HN:=qHE i acc c;clear hR hT hs hz hn;by_cases hb:c.toNat<128
   ·have hdb:decide ((c.toNat:Int)<128)=true:=decide_eq_true (by omega);go_wp2;go_ret;cases hq:st.bind Qj with
    |none=>
     have hF:s.bind bigR=none:=HK.out.1.trans (bigS_end hq i acc);obtain ⟨h0,hkk⟩:=HA.out.2.2.2 hq;refine ⟨k',b',orN i acc c,rfl,HN,by rw [Qq hF,←Qq hq]; exact HA.out.1,HA.out.2.1,fun x r e=>by rw [hF] at e; (cases e),fun _=>?_⟩;rcases qHU hq with e|e
     ·left;unfold orN;rw [HK.out.2.2 e,h0];simp
     ·right;rw [hkk];have hst:=HP.out.1.st;rw [e] at hst;have:=hst.2.2;cases bb
      ·simp only [Bool.false_eq_true,if_false,Option.some.injEq] at this;have:=List.drop_eq_nil_iff.1 this.symm;have:=hst.2.1;omega
      ·simp at this
    |some p=>
     obtain ⟨x,r⟩:=p;have hx:=HA.out.2.2.1 x r hq;obtain rfl:x=c:=UInt8.toNat_inj.1 hx.symm;have hF:s.bind bigR=some (orN i acc x,r):=HK.out.1.trans (by rw [qE6 hq]; exact qF8 i acc x r hlt hb);exact ⟨k',b',orN i acc x,rfl,HN,by rw [Qv hF,←Qv hq]; exact HA.out.1,HA.out.2.1,fun y r2 e=>by rw [hF] at e; (cases e); rfl,fun e=>by rw [hF] at e; (cases e)⟩
   ·have hdb:decide ((c.toNat:Int)<128)=false:=decide_eq_false (by omega);have hi1:RowKit.wrap64 ((i:Int)+1)=(i:Int)+1:=IntWalk.wrap64_in _ (by omega);obtain ⟨r,hq⟩:∃r,st.bind Qj=some (c,r):=by
     cases hq:st.bind Qj with
     |none=>have:=(HA.out.2.2.2 hq).1; omega
     |some p=>obtain ⟨x,r⟩:=p; have hx:=HA.out.2.2.1 x r hq; obtain rfl:x=c:=UInt8.toNat_inj.1 hx.symm; exact ⟨r,rfl⟩
    have HK2:Hid (RawIn s (some r) (i+1) (orN i acc c)):=Lib.hid ⟨HK.out.1.trans (by rw [qE6 hq]; exact qF7 i acc c r hlt hb),HN,fun e=>by cases e⟩;have HP2:qB (RF w2 q L k' b' (some r)∧Tch q w w2):=⟨by rw [←Qv hq]; exact HA.out.1,HA.out.2.1⟩;clear HA HP HK hq;go_wp2;go_roundw
    case rel=>exact ⟨i+1,orN i acc c,k',b',some r,by omega,rfl,by go_num,HK2,HP2⟩
    case measure=>simp [intOf]; omega
  ·obtain rfl:i=10:=by omega
   have d2:=qD HP.out.1.box (i:=2) rfl;have z2:=qH HP.out.1.box 2;go_wp2;go_ret;have hn:s.bind bigR=none:=by rw [HK.out.1]; cases st<;>rfl
   exact ⟨kk,true,0,rfl,by decide,by rw [Qq hn]; exact HP.out.1.bad.1,HP.out.2.trans HP.out.1.bad.2,fun x r e=>by rw [hn] at e; (cases e),fun _=>.inl rfl⟩
theorem qEY{s:Option (List UInt8)}(h:s.bind bigR=none):s.bind smR=none:=by
 cases s with
 |none=>rfl
 |some l=>have h:bigR l=none:=h; show smR l=none; unfold smR; rw [h]
theorem smB_big{s:Option (List UInt8)}{n:Nat}{r:List UInt8}(h:s.bind bigR=some (n,r))(hn:¬n≤1000000):s.bind smR=none:=by
 cases s with
 |none=>cases h
 |some l=>have h:bigR l=some (n,r):=h; show smR l=none; unfold smR; rw [h]; exact if_neg hn
theorem qEZ{s:Option (List UInt8)}{n:Nat}{r:List UInt8}(h:s.bind bigR=some (n,r))(hn:n≤1000000):s.bind smR=some ((n:Int),r):=by
 cases s with
 |none=>cases h
 |some l=>have h:bigR l=some (n,r):=h; show smR l=_; unfold smR; rw [h]; exact if_pos hn
def qKb(q:Nat)(w:World)(L:List UInt8)(s:Option (List UInt8))(e:Ending)(w':World):Prop:=
 ∃(k':Nat) (b':Bool) (n:Nat),e=.returned (.int .i64 n)∧n≤1000000∧RF w' q L k' b' (nx smR s)∧Tch q w w'∧(∀x r,s.bind smR=some (x,r)→(n:Int)=x)∧(s.bind smR=none→n=0∨k'=L.length)
set_option maxRecDepth 100000 in
set_option maxHeartbeats 2000000 in
theorem Qr(w:World)(q:Nat)(L:List UInt8)(k:Nat)(b:Bool)(s:Option (List UInt8))(h:RF w q L k b s):
 Calls Tryz.prog 20 #[.pointer (some ⟨q,0,none⟩)] w (qKb q w L s):=by
 have HR:=Lib.hid (qGD w q L k b s h);clear h;go_enter Tryz.func20,Tryz.ntmps20;go_wp2_with fail;refine HR.out.mono ?_;rintro e w1 ⟨k',b',n,rfl,hn,hR,hT,hs,hz⟩;have HA:=qB.mk (And.intro hR (And.intro hT (And.intro hs hz)));have d2:=qD hR.box (i:=2) rfl;have z2:=qH hR.box 2;clear hR hT hs hz HR;by_cases h1:n≤1000000
 ·have hd:decide ((1000000:Int)<(n:Int))=false:=decide_eq_false (by omega);have hw:RowKit.wrap64 (n:Int)=n:=IntWalk.wrap64_in _ (by omega);go_wp2;go_ret;cases hb:s.bind bigR with
  |none=>
   exact ⟨k',b',n,rfl,h1,by rw [Qq (qEY hb),←Qq hb]; exact HA.out.1,HA.out.2.1,fun x r e=>by rw [qEY hb] at e; (cases e),fun _=>HA.out.2.2.2 hb⟩
  |some p=>
   obtain ⟨x,r⟩:=p;obtain rfl:=HA.out.2.2.1 x r hb;exact ⟨k',b',n,rfl,h1,by rw [Qv (qEZ hb h1),←Qv hb]; exact HA.out.1,HA.out.2.1,fun x r e=>by rw [qEZ hb h1] at e; (cases e); rfl,fun e=>by rw [qEZ hb h1] at e; (cases e)⟩
 ·have hd:decide ((1000000:Int)<(n:Int))=true:=decide_eq_true (by omega);go_wp2;go_ret;have hb:s.bind smR=none:=by
   cases hb:s.bind bigR with
   |none=>exact qEY hb
   |some p=>
    obtain ⟨x,r⟩:=p;obtain rfl:=HA.out.2.2.1 x r hb;exact smB_big hb h1
  exact ⟨k',true,0,rfl,by decide,by rw [Qq hb]; exact HA.out.1.bad.1,HA.out.2.1.trans HA.out.1.bad.2,fun x r e=>by rw [hb] at e; (cases e),fun _=>.inl rfl⟩
theorem qEa{s:Option (List UInt8)}(h:s.bind smR=none):s.bind szR=none:=by
 cases s with
 |none=>rfl
 |some l=>have h:smR l=none:=h; show szR l=none; unfold szR; rw [h]
theorem szB_big{s:Option (List UInt8)}{n:Nat}{r:List UInt8}(h:s.bind smR=some ((n:Int),r))(hn:¬n≤r.length):s.bind szR=none:=by
 cases s with
 |none=>cases h
 |some l=>have h:smR l=some ((n:Int),r):=h; show szR l=none; unfold szR; rw [h]; exact if_neg (by omega)
theorem qEb{s:Option (List UInt8)}{n:Nat}{r:List UInt8}(h:s.bind smR=some ((n:Int),r))(hn:n≤r.length):s.bind szR=some ((n:Int),r):=by
 cases s with
 |none=>cases h
 |some l=>have h:smR l=some ((n:Int),r):=h; show szR l=_; unfold szR; rw [h]; exact if_pos (by omega)
def SizePost(q:Nat)(w:World)(L:List UInt8)(s:Option (List UInt8))(e:Ending)(w':World):Prop:=
 ∃(k':Nat) (b':Bool) (n:Nat),e=.returned (.int .i64 n)∧k'+n≤L.length∧RF w' q L k' b' (nx szR s)∧Tch q w w'∧(∀x r,s.bind szR=some (x,r)→(n:Int)=x)∧(s.bind szR=none→n=0)
theorem RF.good{w:World}{q:Nat}{L:List UInt8}{k:Nat}{b:Bool}{s:Option (List UInt8)}{r:List UInt8}(h:RF w q L k b s)(hs:s=some r):b=false∧r=L.drop k:=by
 have:=h.st.2.2;rw [hs] at this;cases b
 ·exact ⟨rfl,Option.some.inj this⟩
 ·simp at this
theorem RF.none{w:World}{q:Nat}{L:List UInt8}{k:Nat}{b:Bool}{s:Option (List UInt8)}(h:RF w q L k b s)(hs:s=none):b=true:=by
 have:=h.st.2.2;rw [hs] at this;cases b
 ·simp at this
 ·rfl
set_option maxRecDepth 100000 in
set_option maxHeartbeats 2000000 in
theorem qBM(w:World)(q:Nat)(L:List UInt8)(k:Nat)(b:Bool)(s:Option (List UInt8))(h:RF w q L k b s):
 Calls Tryz.prog 19 #[.pointer (some ⟨q,0,none⟩)] w (SizePost q w L s):=by
 have HR:=Lib.hid (Qr w q L k b s h);clear h;go_enter Tryz.func19,Tryz.ntmps19;go_wp2_with fail;refine HR.out.mono ?_;rintro e w1 ⟨k',b',n,rfl,hn,hR,hT,hs,hz⟩;have HA:=qB.mk (And.intro (hR.far (qE (Below.refl _ _))) (And.intro (hT.trans (Tch.of (q:=q) (qE (Below.refl w1.heap.size w1)))) (And.intro hs hz)));have d0:=qD hR.box (i:=0) rfl;have d1:=qD hR.box (i:=1) rfl;have hl:=hR.st.1;have hk:=hR.st.2.1;have hw:RowKit.wrap64 ((L.length:Int) - k')=(L.length:Int) - k':=IntWalk.wrap64_in _ (by omega);clear hR hT hs hz HR;by_cases h1:k'+n≤L.length
 ·have hd:decide ((L.length:Int) - k'<(n:Int))=false:=decide_eq_false (by omega);go_wp2;go_region
  all_goals
   go_wp2;go_ret;cases hb:s.bind smR with
   |none=>
    have hn0:n=0:=by rcases HA.out.2.2.2 hb with e|e<;>omega
    exact ⟨k',b',n,rfl,h1,by rw [Qq (qEa hb),←Qq hb]; exact HA.out.1,HA.out.2.1,fun x r e=>by rw [qEa hb] at e; (cases e),fun _=>hn0⟩
   |some p=>
    obtain ⟨x,r⟩:=p;obtain rfl:=HA.out.2.2.1 x r hb;have hr:=(HA.out.1.good (Qv hb)).2;have hrl:n≤r.length:=by rw [hr,List.length_drop]; omega
    exact ⟨k',b',n,rfl,h1,by rw [Qv (qEb hb hrl),←Qv hb]; exact HA.out.1,HA.out.2.1,fun x r e=>by rw [qEb hb hrl] at e; (cases e); rfl,fun e=>by rw [qEb hb hrl] at e; (cases e)⟩
 ·have hd:decide ((L.length:Int) - k'<(n:Int))=true:=decide_eq_true (by omega);go_wp2;go_region
  all_goals
   clear d0 d1;generalize w1.drew=w2 at *;have d2:=qD HA.out.1.box (i:=2) rfl;have z2:=qH HA.out.1.box 2;go_wp2;go_ret;have hb:s.bind szR=none:=by
    cases hb:s.bind smR with
    |none=>exact qEa hb
    |some p=>
     obtain ⟨x,r⟩:=p;obtain rfl:=HA.out.2.2.1 x r hb;have hr:=(HA.out.1.good (Qv hb)).2;exact szB_big hb (by rw [hr,List.length_drop]; omega)
   exact ⟨k',true,0,rfl,hk,by rw [Qq hb]; exact HA.out.1.bad.1,HA.out.2.1.trans HA.out.1.bad.2,fun x r e=>by rw [hb] at e; (cases e),fun _=>rfl⟩
theorem qHV{s:Option (List UInt8)}(h:s.bind bigR=none):s.bind qb=none:=by
 cases s with
 |none=>rfl
 |some l=>have h:bigR l=none:=h; show qb l=none; unfold qb; rw [h]
theorem qHW{s:Option (List UInt8)}{n:Nat}{r:List UInt8}(h:s.bind bigR=some (n,r)):s.bind qb=some (Qd n,r):=by
 cases s with
 |none=>cases h
 |some l=>have h:bigR l=some (n,r):=h; show qb l=_; unfold qb; rw [h]
def qIo(q:Nat)(w:World)(L:List UInt8)(s:Option (List UInt8))(e:Ending)(w':World):Prop:=
 ∃(k':Nat) (b':Bool) (z:Int),e=.returned (.int .i64 z)∧Ok64 z∧RF w' q L k' b' (nx qb s)∧Tch q w w'∧(∀x r,s.bind qb=some (x,r)→z=x)
set_option maxRecDepth 100000 in
set_option maxHeartbeats 2000000 in
theorem qGE(w:World)(q:Nat)(L:List UInt8)(k:Nat)(b:Bool)(s:Option (List UInt8))(h:RF w q L k b s):
 Calls Tryz.prog 42 #[.pointer (some ⟨q,0,none⟩)] w (qIo q w L s):=by
 have HR:=Lib.hid (qGD w q L k b s h);clear h;go_enter Tryz.func42,Tryz.ntmps42;go_wp2_with fail;refine HR.out.mono ?_;rintro e w1 ⟨k',b',n,rfl,hn,hR,hT,hs,hz⟩;have HA:=qB.mk (And.intro hR (And.intro hT hs));have hfin:qIo q w L s (.returned (.int .i64 (Qd n))) w1:=by
  have hok:Ok64 (Qd n):=by unfold Ok64 Qd; split<;>omega
  cases hb:s.bind bigR with
  |none=>exact ⟨k',b',Qd n,rfl,hok,by rw [Qq (qHV hb),←Qq hb]; exact hR,hT,fun x r e=>by rw [qHV hb] at e; (cases e)⟩
  |some p=>
   obtain ⟨x,r⟩:=p;obtain rfl:=hs x r hb;exact ⟨k',b',Qd n,rfl,hok,by rw [Qv (qHW hb),←Qv hb]; exact hR,hT,fun x r e=>by rw [qHW hb] at e; (cases e); rfl⟩
 have HF:=Lib.hid hfin;clear hR hT hs hz HR hfin HA;have hw:RowKit.wrap64 ((n:Int) / 2)=(n:Int) / 2:=IntWalk.wrap64_in _ (by omega);by_cases h1:n % 2=1
 ·have hd:((n:Int) % 2==1)=true:=by rw [beq_iff_eq]; omega
  have hu:Qd n = -((n:Int) / 2) - 1:=by unfold Qd; rw [if_pos h1]; omega
  have hw2:RowKit.wrap64 (-((n:Int) / 2)) = -((n:Int) / 2):=IntWalk.wrap64_in _ (by omega);have hw3:RowKit.wrap64 (-((n:Int) / 2) - 1) = -((n:Int) / 2) - 1:=IntWalk.wrap64_in _ (by omega);go_wp2;go_ret;rw [hu] at HF;exact HF.out
 ·have hd:((n:Int) % 2==1)=false:=by rw [beq_eq_false_iff_ne]; omega
  have hu:Qd n=(n:Int) / 2:=by unfold Qd; rw [if_neg h1]; omega
  go_wp2;go_ret;rw [hu] at HF;exact HF.out
theorem qHX{s:Option (List UInt8)}(h:s.bind szR=none):s.bind stR=none:=by
 cases s with
 |none=>rfl
 |some l=>have h:szR l=none:=h; show stR l=none; unfold stR; rw [h]
theorem qHY{s:Option (List UInt8)}{n:Nat}{r:List UInt8}(h:s.bind szR=some ((n:Int),r)):s.bind stR=some (⟨(r.take n).toArray⟩,r.drop n):=by
 cases s with
 |none=>cases h
 |some l=>have h:szR l=some ((n:Int),r):=h; show stR l=_; unfold stR; rw [h]; rfl
def StrPost(q:Nat)(w:World)(L:List UInt8)(s:Option (List UInt8))(e:Ending)(w':World):Prop:=
 ∃(k':Nat) (b':Bool) (z:ByteArray),e=.returned (.string z)∧z.size≤200000∧RF w' q L k' b' (nx stR s)∧Tch q w w'∧(∀x r,s.bind stR=some (x,r)→z=x)
theorem cutMidN(L:List UInt8)(k n:Nat):(⟨L.toArray⟩:ByteArray).extract k (k+n)=⟨((L.drop k).take n).toArray⟩:=by
 apply ByteArray.ext;simp [List.take_drop,Nat.add_comm]
set_option maxRecDepth 100000 in
set_option maxHeartbeats 2000000 in
theorem qDB(w:World)(q:Nat)(L:List UInt8)(k:Nat)(b:Bool)(s:Option (List UInt8))(h:RF w q L k b s):
 Calls Tryz.prog 22 #[.pointer (some ⟨q,0,none⟩)] w (StrPost q w L s):=by
 have HR:=Lib.hid (qBM w q L k b s h);clear h;go_enter Tryz.func22,Tryz.ntmps22;go_wp2_with fail;refine HR.out.mono ?_;rintro e w1 ⟨k',b',n,rfl,hn,hR,hT,hs,hz⟩;have hl:=hR.st.1;have d1:=qD hR.box (i:=1) rfl;have z1:=qH hR.box 1;have hw1:RowKit.wrap64 ((k':Int)+n)=(k':Int)+n:=IntWalk.wrap64_in _ (by omega);have hw2:RowKit.wrap64 ((k':Int)+n - n)=(k':Int):=by rw [IntWalk.wrap64_in _ (by omega)]; omega
 have HM:qB (RF (w1.setCell ⟨q,1,none⟩ (.int .i64 ((k':Int)+n))) q L (k'+n) b' (if b' then none else some (L.drop (k'+n)))∧Tch q w (w1.setCell ⟨q,1,none⟩ (.int .i64 ((k':Int)+n)))):=⟨(hR.move (k'+n) hn).1,hT.trans (hR.move (k'+n) hn).2⟩;have HQ:Hid ((if b' then none else some (L.drop (k'+n)))=nx stR s∧∀x r,s.bind stR=some (x,r)→(⟨((L.drop k').take n).toArray⟩:ByteArray)=x):=Lib.hid (by
  cases hb:s.bind szR with
  |none=>
   rw [hR.none (Qq hb),Qq (qHX hb)];exact ⟨rfl,fun x r e=>by rw [qHX hb] at e; cases e⟩
  |some p=>
   obtain ⟨x,r⟩:=p;obtain rfl:=hs x r hb;obtain ⟨rfl,rfl⟩:=hR.good (Qv hb);rw [Qv (qHY hb)];exact ⟨by simp,fun x r e=>by rw [qHY hb] at e; cases e; rfl⟩)
 have hsl:∀W:World,(Instr.slice 9 (.string ⟨L.toArray⟩) (some (.int .i64 (k':Int))) (some (.int .i64 ((k':Int)+n))) none).run Tryz.prog W=.ok (.string ⟨((L.drop k').take n).toArray⟩) W:=fun W=>by
  rw [←cutMidN,run_slice_string (P:=Tryz.prog) (w:=W) 9 ⟨L.toArray⟩ .i64 .i64 (k':Int) ((k':Int)+n) Tryz.underlying9 (by omega) (by omega) (by simp [ByteArray.size]; omega)];rfl
 have hsz:(⟨((L.drop k').take n).toArray⟩:ByteArray).size≤200000:=by simp [ByteArray.size]; omega
 generalize (⟨((L.drop k').take n).toArray⟩:ByteArray)=z at *;clear hR hT hs hz HR;go_wp2;generalize w1.setCell ⟨q,1,none⟩ (.int .i64 ((k':Int)+n))=w2 at *;clear d1 z1 hw1;have d0:=qD HM.out.1.box (i:=0) rfl;have d1:=qD HM.out.1.box (i:=1) rfl;have HZ:=qB.mk (And.intro (HM.out.1.far (qE (Below.refl _ _))) (HM.out.2.trans (Tch.of (q:=q) (qE (Below.refl w2.heap.size w2)))));go_region
 all_goals
  clear d0 d1;generalize w2.drew=w3 at *;go_wp2;go_ret;exact ⟨k'+n,b',z,rfl,hsz,by rw [←HQ.out.1]; exact HZ.out.1,HZ.out.2,HQ.out.2⟩
end Go.Proofs.YtoonkkipnljflaaGreatDoor.CJ
