/- The reference's look at a block: its room as plain data and in memory; the methods has, filled, add, fill and block. Conditions: the look lies in memory, and what lay there before it, the code. The reference's look at the alternatives of a switch. Conditions: the look, the alternatives and the code lie in memory; the listed variables are laid. -/
import Derived.Test.YtoonkkipnljflaaGreatDoorHA
import Derived.Test.YtoonkkipnljflaaGreatDoorKA
import Derived.Test.YtoonkkipnljflaaGreatDoorC7
namespace Go.Proofs.YtoonkkipnljflaaGreatDoor.CJ
open Go.RowKit Go.Proofs.YtoonkkipnljflaaGreatDoorW.PrintWords Go.Proofs.YtoonkkipnljflaaGreatDoorW.PrintLast Go.Proofs.YtoonkkipnljflaaGreatDoor.PT Go.Proofs.YtoonkkipnljflaaGreatDoor.IMaps
set_option linter.unusedVariables false
set_option linter.unusedSimpArgs false
def iC(st:List Int):List Value:=st.map (Value.int .i64)
structure LX(w0 w:World)(q:Nat)(A:Option Addr)(ca:Nat)(A2:Option Addr)(cb:Nat)(bs:List GBk)(gl:List GGl)(m:Nat)(st:List Int):Prop where
 hB:w0.heap.size≤q
 box:∃v,w.heap[q]? = some (.cells #[.slice A bs.length ca,.slice A2 gl.length cb,v,.int .i64 m,.bool false] 119 (0,0))∧w.ownsRow w0.heap.size 3 1 v st.length (iC st)∧v.ownBlock≠some q
 cm:CM w0 A ca A2 cb bs gl
 rl:LR w0
 bel:Below w0.heap.size w0 w
section
variable {w0 w w':World} {q:Nat} {A:Option Addr} {ca:Nat} {A2:Option Addr} {cb:Nat} {bs:List GBk} {gl:List GGl} {m:Nat} {st:List Int}
theorem LX.below(h:LX w0 w q A ca A2 cb bs gl m st)(hb:Below w.heap.size w w'):LX w0 w' q A ca A2 cb bs gl m st:=by
 obtain ⟨h0,⟨v,h1,h2,h3⟩,h4,h5,h6⟩:=h;exact ⟨h0,⟨v,(hb.block _ (Array.getElem?_eq_some_iff.1 h1).1).trans h1,h2.kept (row:=none) ⟨hb.os,hb.tape,hb.output,hb.size,fun i hi _=>hb.block i hi⟩ (by cases v.ownBlock<;>simp),h3⟩,h4,h5,qF h6 hb⟩
theorem LX.lt(h:LX w0 w q A ca A2 cb bs gl m st):q<w.heap.size:=by obtain ⟨v,h1,_⟩:=h.box; exact (Array.getElem?_eq_some_iff.1 h1).1
theorem LX.cms(h:LX w0 w q A ca A2 cb bs gl m st):CM w A ca A2 cb bs gl:=h.cm.below h.bel
theorem LX.rls(h:LX w0 w q A ca A2 cb bs gl m st):LR w:=h.rl.below h.bel
theorem LX.open(h:LX w0 w q A ca A2 cb bs gl m st):∃a c,w.cell? ⟨q,0,none⟩=some (.slice A bs.length ca)∧w.cell? ⟨q,1,none⟩=some (.slice A2 gl.length cb)∧w.cell? ⟨q,2,none⟩=some (.slice a st.length c)∧w.cell? ⟨q,3,none⟩=some (.int .i64 m)∧(∀i,w.frozen? ⟨q,i,none⟩=false)∧st.length≤9223372036854775807 ∧
 ∀j:Nat,(hj:j<st.length)→∃g,a=some ⟨g,0,none⟩∧w.cell? ⟨g,j,none⟩=some (.int .i64 st[j])∧w.frozen? ⟨g,j,none⟩=false:=by
 obtain ⟨v,h1,h2,h3⟩:=h.box;have key:∃a c,v=.slice a st.length c∧st.length≤9223372036854775807∧∀j:Nat,(hj:j<st.length)→∃g,a=some ⟨g,0,none⟩∧w.cell? ⟨g,j,none⟩=some (.int .i64 st[j])∧w.frozen? ⟨g,j,none⟩=false:=by
  rcases h2.2 with ⟨hv,hn⟩|⟨g,cap,cur,hv,_,_,hn,hc,_⟩
  ·exact ⟨none,0,by rw [hv,hn],by omega,fun j hj=>by omega⟩
  ·refine ⟨some ⟨g,0,none⟩,cap,hv,by unfold maxLen at hc; omega,fun j hj=>⟨g,rfl,?_,?_⟩⟩
   ·rw [hv] at h2;rw [h2.cellAt j (by omega)];simp [iC,hj]
   ·rw [hv] at h2;exact h2.frozenAt j
 obtain ⟨a,c,rfl,hl,hk⟩:=key;exact ⟨a,c,qD h1 rfl,qD h1 rfl,qD h1 rfl,qD h1 rfl,qH h1,hl,hk⟩
end
set_option maxHeartbeats 4000000 in
theorem qCF{w0 w:World}{q:Nat}{A:Option Addr}{ca:Nat}{A2:Option Addr}{cb:Nat}{bs:List GBk}{gl:List GGl}{m:Nat}{st:List Int}(h:LX w0 w q A ca A2 cb bs gl m st)(l:List Int)(A1:Option Addr)(c1:Nat)(hc:l.length≤c1)(C1:(Kd.int .i64).C w A1 l.length l):
 Calls Tryz.prog 96 #[.pointer (some ⟨q,0,none⟩),.slice A1 l.length c1] w fun e w'=>e=.returned (.bool (l.all (hasC st)))∧Below w.heap.size w w':=by
 obtain ⟨a,c,d0,d1,d2,d3,df,hl,hk⟩:=h.open;have hlt:=h.lt;have HC:=Lib.hid C1;have hl1:=C1.2.1;have HR:Hid (∀i:Nat,i<l.length→∃ad,A1=some ad∧w.cell? (ad.add i)=some (.int .i64 (l.getD i 0))):=Lib.hid fun i hi=>by
  obtain ⟨ad,cs,hA,hcs,hK,hcell⟩:=Kd.C_get C1 0 (i:Int) (by omega) (by omega);have hK':cs=[.int .i64 (l.getD i 0)]:=hK;subst hK';have hsz:(Kd.int .i64).sz=1:=rfl;have g0:=hcell 0 _ rfl;simp only [Int.toNat_natCast,Nat.add_zero,hsz,Nat.mul_one] at g0;exact ⟨ad,hA,g0⟩
 clear h C1 hk d0 d1 d3 df;go_enter Tryz.func96,Tryz.ntmps96;go_wp2
 go_loopw [5] (fun v wr=>∃i:Nat,i≤l.length∧v=.int .i64 i∧qBz st l i∧qB (Below w.heap.size w wr)) (fun v _=>l.length - (intOf v).toNat)
 case atStart=>exact ⟨0,by omega,rfl,by simp [qBz],⟨Below.refl _ _⟩⟩
 case round=>
  obtain ⟨i,hi,rfl,HA,HB⟩:=hrel;by_cases hlt:i<l.length
  ·obtain ⟨ad,rfl,g0⟩:=HR.out i hlt;have g1:=qA HB.out g0;have e2:=qA HB.out d2;clear g0 d2;have HF:=Lib.hid (@qFw st l i hlt);have HN:=Lib.hid (HA.next hlt);generalize l.getD i 0=k at *;have hk:hasC st k=(decide (0≤k)&&decide (k<st.length)):=rfl;by_cases k0:k<0
   ·have t0:decide (k<0)=true:=decide_eq_true k0;have HR2:=Lib.hid (HF.out (by rw [hk]; simp; omega));clear HF HN hk;go_wp2;go_region
    all_goals
     go_wp2;go_ret;exact ⟨by rw [HR2.out]; rfl,by repeat (first|exact HB.out|apply qE|apply qO)⟩
   have t0:decide (k<0)=false:=decide_eq_false k0;by_cases k1:k<st.length
   ·have t1:decide ((st.length:Int)≤k)=false:=decide_eq_false (by omega);have HR2:=Lib.hid (HN.out (by rw [hk]; simp; omega));clear HF HN hk;go_wp2;go_region
    all_goals
     go_wp2;go_roundw
     case rel=>exact ⟨i+1,by omega,by go_num,HR2.out,⟨by repeat (first|exact HB.out|apply qE|apply qO)⟩⟩
     case measure=>simp [intOf]; omega
   ·have t1:decide ((st.length:Int)≤k)=true:=decide_eq_true (by omega);have HR2:=Lib.hid (HF.out (by rw [hk]; simp; omega));clear HF HN hk;go_wp2;go_region
    all_goals
     go_wp2;go_ret;exact ⟨by rw [HR2.out]; rfl,by repeat (first|exact HB.out|apply qE|apply qO)⟩
  ·obtain rfl:i=l.length:=by omega
   go_wp2;go_ret;unfold qBz at HA;rw [List.take_length] at HA;exact ⟨by rw [HA]; rfl,HB.out⟩
def qCd(st:List Int)(i:Nat):Prop:=qz (st.take i)=true
theorem qCd.next{st:List Int}{i:Nat}(h:qCd st i)(hi:i<st.length)(hk:(st[i]==1)=false):qCd st (i+1):=by
 unfold qCd qz at *;rw [List.take_succ_eq_append_getElem hi,List.all_append,h];simpa using hk
theorem full_not{st:List Int}{i:Nat}(hi:i<st.length)(hk:(st[i]==1)=true):qz st=false:=by
 unfold qz;rw [List.all_eq_false];exact ⟨st[i],List.getElem_mem _,by simpa using hk⟩
set_option maxHeartbeats 4000000 in
theorem qCe{w0 w:World}{q:Nat}{A:Option Addr}{ca:Nat}{A2:Option Addr}{cb:Nat}{bs:List GBk}{gl:List GGl}{m:Nat}{st:List Int}(h:LX w0 w q A ca A2 cb bs gl m st):
 Calls Tryz.prog 97 #[.pointer (some ⟨q,0,none⟩)] w fun e w'=>e=.returned (.bool (qz st))∧w=w':=by
 obtain ⟨a,c,d0,d1,d2,d3,df,hl,hk⟩:=h.open;clear d0 d1 d3 df h;have HK:=Lib.hid hk;clear hk;go_enter Tryz.func97,Tryz.ntmps97;go_wp2
 go_loop [3] (fun v=>∃i:Nat,i≤st.length∧v=.int .i64 i∧qCd st i) (fun v=>st.length - (intOf v).toNat)
 case atStart=>exact ⟨0,by omega,rfl,by simp [qCd,qz]⟩
 case round=>
  obtain ⟨i,hi,rfl,HA⟩:=hrel;by_cases hlt:i<st.length
  ·obtain ⟨g,rfl,e0,_⟩:=HK.out i hlt;have HF:=Lib.hid (full_not hlt);have HN:=Lib.hid (HA.next hlt);generalize st[i]=k at *;cases hq:(k==1)
   ·go_wp2;go_round
    case rel=>exact ⟨i+1,by omega,by go_num,HN.out hq⟩
    case measure=>simp [intOf]; omega
   ·go_wp2;go_ret;exact ⟨by rw [HF.out hq]; rfl,rfl⟩
  ·obtain rfl:i=st.length:=by omega
   go_wp2;go_ret;unfold qCd at HA;rw [List.take_length] at HA;exact ⟨by rw [HA]; rfl,rfl⟩
theorem LX.push{w0 w W w2:World}{q:Nat}{A:Option Addr}{ca:Nat}{A2:Option Addr}{cb:Nat}{bs:List GBk}{gl:List GGl}{m:Nat}{st st':List Int}{v v':Value}(h:LX w0 w q A ca A2 cb bs gl m st)
 (hq:w.heap[q]? = some (.cells #[.slice A bs.length ca,.slice A2 gl.length cb,v,.int .i64 m,.bool false] 119 (0,0))) (hne:v.ownBlock≠some q) (hown0:w.ownsRow w0.heap.size 3 1 v st.length (iC st))
 (hW:Below w.heap.size w W) (hg:W.grownBy w2 v.ownBlock) (hown:w2.ownsRow w0.heap.size 3 1 v' st'.length (iC st')):
 w2.frozen? ⟨q,2,none⟩=false∧(∃u,w2.cell? ⟨q,2,none⟩=some u)∧(∃a k c,v'=.slice a k c)∧LX w0 (w2.setCell ⟨q,2,none⟩ v') q A ca A2 cb bs gl m st':=by
 have hlt:=(Array.getElem?_eq_some_iff.1 hq).1;have hWq:=(hW.block q hlt).trans hq;have h2:=(hg.block q (Array.getElem?_eq_some_iff.1 hWq).1 (fun e=>hne e.symm)).trans hWq;have hne2:=Lib.ownBlock_ne hown h2 (by decide);have hB:=h.hB;refine ⟨qH h2 2,⟨_,qD h2 (i:=2) rfl⟩,QS hown,hB,⟨v',?_,?_,hne2⟩,h.cm,h.rl,?_⟩
 ·simp [World.setCell,Array.getElem?_modify,h2]
 ·exact hown.kept (row:=some q) ⟨rfl,rfl,rfl,by simp [World.setCell],fun k _ hk=>Below.heap_setCell _ _ _ _ (fun e=>hk (by simp [e]))⟩ (Or.inr hne2)
 ·exact ((qF h.bel hW).grown hg (Nat.le_trans h.bel.size hW.size) (fun k hk=>(hown0.lt k hk).1)).setCell (p:=⟨q,2,none⟩) hB _
theorem iC_snoc(st:List Int)(s:Int):iC (st++[s])=iC st++[.int .i64 s]:=by simp [iC]
set_option maxHeartbeats 4000000 in
theorem wp_room{ops:Array Oper}{rest:List Oper}{o:Oper}{ac:Act}{Q:Exit→Act→World→Prop}(hgd:o.guard=none)(os ox:Operand)
 (ho:o.op=.call { callee:=.builtin .append,args:=#[os,ox],argTypes:=#[56,56] })
 {w0 w:World} {q:Nat} {A:Option Addr} {ca:Nat} {A2:Option Addr} {cb:Nat} {bs:List GBk} {gl:List GGl} {m:Nat} {st:List Int} (h:LX w0 w q A ca A2 cb bs gl m st) (s:Int) (hl:st.length≤1000)
 (v:Value) (hs:w.cell? ⟨q,2,none⟩=some v) (hev:ac.eval os=v) (hx:ac.eval ox=.slice (some ⟨w.heap.size,0,none⟩) 1 1)
 (hh:Hid (∀v' w2,qB (w2.frozen? ⟨q,2,none⟩=false∧(∃u,w2.cell? ⟨q,2,none⟩=some u)∧(∃a k c,v'=.slice a k c)∧LX w0 (w2.setCell ⟨q,2,none⟩ v') q A ca A2 cb bs gl m (st++[s]))→wpList Tryz.prog ops Q rest (ac.put o.dst v') w2)):
 wpList Tryz.prog ops Q (o::rest) ac (w.alloc (.cells #[.int .i64 s] 3)):=by
 obtain ⟨i0,hi0,hz0,hz1,hz2⟩:=info_parts info3;obtain ⟨v1,hq,hown,hne⟩:=h.box;obtain rfl:v=v1:=by
  have:=qD hq (i:=2) rfl;rw [hs] at this;exact Option.some.inj this
 have hcell:=qD (MapKept.heap_alloc w (.cells #[.int .i64 s] 3)).1 (i:=0) rfl;have hb:=qC (Below.refl w.heap.size w) (.cells #[.int .i64 s] 3);refine wpList_append_own _ hgd os ox 56 ho w0.heap.size 3 i0 (.int .i64 0) 1 8 Tryz.underlying56 hi0 hz0 hz1 hz2 rfl (by decide) _ st.length (iC st) hev (hown.alloc _) ⟨w.heap.size,0,none⟩ 1 1 [.int .i64 s] hx rfl ?_ ?_ ?_ ?_ ?_ ?_
 ·intro j u hu
  match j,hu with
  | 0,hu=>simp at hu; subst hu; exact hcell
  |j+1,hu=>simp at hu
 ·intro u hu; rw [List.mem_singleton.1 hu]; rfl
 ·unfold maxLen; omega
 ·omega
 ·have:=h.bel.size; simp; omega
 ·intro v' w2 hown' hg _;refine hh.out v' w2 ⟨h.push hq hne hown hb hg ?_⟩;rw [iC_snoc,List.length_append];exact hown'
theorem LX.most{w0 w:World}{q:Nat}{A:Option Addr}{ca:Nat}{A2:Option Addr}{cb:Nat}{bs:List GBk}{gl:List GGl}{m:Nat}{st:List Int}(h:LX w0 w q A ca A2 cb bs gl m st)(n:Nat):LX w0 (w.setCell ⟨q,3,none⟩ (.int .i64 n)) q A ca A2 cb bs gl n st:=by
 obtain ⟨hB,⟨v,h1,h2,h3⟩,h4,h5,h6⟩:=h;refine ⟨hB,⟨v,?_,?_,h3⟩,h4,h5,h6.setCell (p:=⟨q,3,none⟩) hB _⟩
 ·simp [World.setCell,Array.getElem?_modify,h1]
 ·exact h2.kept (row:=some q) ⟨rfl,rfl,rfl,by simp [World.setCell],fun k _ hk=>Below.heap_setCell _ _ _ _ (fun e=>hk (by simp [e]))⟩ (Or.inr h3)
set_option maxRecDepth 100000 in
set_option maxHeartbeats 4000000 in
theorem qCG{w0 w:World}{q:Nat}{A:Option Addr}{ca:Nat}{A2:Option Addr}{cb:Nat}{bs:List GBk}{gl:List GGl}{st:List Int}(h:LX w0 w q A ca A2 cb bs gl st.length st)(n:Nat)(s:Int)(hs:st.length≤100)(hn:n≤100):
 Calls Tryz.prog 68 #[.pointer (some ⟨q,0,none⟩),.int .i64 n,.int .i64 s] w fun e w'=>e=.returned (.tuple #[])∧LX w0 w' q A ca A2 cb bs gl (st++List.replicate n s).length (st++List.replicate n s):=by
 have H:=qB.mk h;clear h;go_enter Tryz.func68,Tryz.ntmps68;go_wp2
 go_loopw [6] (fun v wr=>∃i:Nat,i≤n∧v=.int .i64 i∧qB (LX w0 wr q A ca A2 cb bs gl st.length (st++List.replicate i s))) (fun v _=>n - (intOf v).toNat)
 case atStart=>exact ⟨0,by omega,rfl,by simpa using H⟩
 case round=>
  obtain ⟨i,hi,rfl,HA⟩:=hrel;clear H;obtain ⟨a,c,d0,d1,d2,d3,df,hl,hk⟩:=HA.out.open;clear d0 d1 hk;have f2:=df 2;have f3:=df 3;obtain ⟨L,hL⟩:∃L,L=(st++List.replicate i s).length:=⟨_,rfl⟩;rw [←hL] at d2;have HL:Hid (L=(st++List.replicate i s).length):=Lib.hid hL;have HL2:Hid (L=st.length+i):=Lib.hid (by rw [hL]; simp);clear hL;by_cases hlt:i<n
  ·clear df;have hl1:(st++List.replicate i s).length≤1000:=by have:=HL.out; have:=HL2.out; omega
   go_wp2_with (refine wp_room rfl _ _ rfl HA.out s hl1 _ d2 rfl rfl ?_);refine Lib.hid ?_;intro v' w2 hA;obtain ⟨g0,⟨u,g1⟩,⟨a1,k1,c1,rfl⟩,hL⟩:=hA.out
   first|rw [←List.replicate_succ'] at hL|rw [←qEM] at hL
   have HN:=qB.mk hL;clear hL hA;go_wp2;go_roundw
   case rel=>exact ⟨i+1,by omega,by go_num,HN⟩
   case measure=>simp [intOf]; omega
  ·obtain rfl:i=n:=by omega
   have HM:qB (LX w0 (wr.setCell ⟨q,3,none⟩ (.int .i64 (max (st.length:Int) (L:Int)))) q A ca A2 cb bs gl (st++List.replicate i s).length (st++List.replicate i s)):=by
    rw [show max (st.length:Int) (L:Int)=((st++List.replicate i s).length:Nat) by rw [←HL.out]; have:=HL2.out; omega];exact ⟨HA.out.most _⟩
   go_wp2;go_region
   all_goals
    go_wp2;go_end0;exact ⟨rfl,HM.out.below (by repeat (first|exact Below.refl _ _|apply qE|apply qO))⟩
theorem LX.set{w0 w:World}{q:Nat}{A:Option Addr}{ca:Nat}{A2:Option Addr}{cb:Nat}{bs:List GBk}{gl:List GGl}{m:Nat}{st:List Int}(h:LX w0 w q A ca A2 cb bs gl m st)(g c:Nat)(hc:w.cell? ⟨q,2,none⟩=some (.slice (some ⟨g,0,none⟩) st.length c))(k:Nat)(hk:k<st.length)(x:Int):
 LX w0 (w.setCell ⟨g,k,none⟩ (.int .i64 x)) q A ca A2 cb bs gl m (st.set k x):=by
 obtain ⟨v,h1,h2,h3⟩:=h.box;obtain rfl:v=.slice (some ⟨g,0,none⟩) st.length c:=by
  have:=qD h1 (i:=2) rfl;rw [hc] at this;exact (Option.some.inj this).symm
 have hg:q≠g:=fun e=>h3 (by rw [e]; rfl)
 have hB:=(h2.lt g rfl).1;have h4:=h2.stored k (.int .i64 x);refine ⟨h.hB,⟨.slice (some ⟨g,0,none⟩) st.length c,?_,?_,h3⟩,h.cm,h.rl,h.bel.setCell (p:=⟨g,k,none⟩) hB _⟩
 ·exact (Below.heap_setCell _ _ _ _ (fun e=>hg e)).trans h1
 ·rw [List.length_set];have e:iC (st.set k x)=(iC st).set k (.int .i64 x):=by simp [iC,List.map_set]
  rw [e];exact h4.1
def KeepI(w w':World):Prop:=∀(k:Nat) (cs:Array Value) (T:TypeId) (fr:Nat×Nat),w.heap[k]? = some (.cells cs T fr)→T≠3→w'.heap[k]? = some (.cells cs T fr)
theorem LX.keep{w0 w:World}{q:Nat}{A:Option Addr}{ca:Nat}{A2:Option Addr}{cb:Nat}{bs:List GBk}{gl:List GGl}{m:Nat}{st:List Int}(h:LX w0 w q A ca A2 cb bs gl m st)(g c:Nat)(hc:w.cell? ⟨q,2,none⟩=some (.slice (some ⟨g,0,none⟩) st.length c))(k:Nat)(x:Int):KeepI w (w.setCell ⟨g,k,none⟩ (.int .i64 x)):=by
 intro j cs T fr hj hT;obtain ⟨v,h1,h2,h3⟩:=h.box;obtain rfl:v=.slice (some ⟨g,0,none⟩) st.length c:=by
  have:=qD h1 (i:=2) rfl;rw [hc] at this;exact (Option.some.inj this).symm
 refine (Below.heap_setCell _ _ _ _ (fun e=>?_)).trans hj;rcases h2.2 with ⟨hv,_⟩|⟨g',cap,cur,hv,_,hg,_⟩
 ·simp at hv
 ·simp only [Value.slice.injEq,Option.some.injEq,Addr.mk.injEq,and_true,true_and] at hv;rw [←hv.1] at hg;rw [show j=g from e,hg] at hj;simp only [Option.some.injEq,Obj.cells.injEq] at hj;exact hT hj.2.1.symm
set_option maxRecDepth 100000 in
set_option maxHeartbeats 4000000 in
theorem qAa{w0 w:World}{q:Nat}{A:Option Addr}{ca:Nat}{A2:Option Addr}{cb:Nat}{bs:List GBk}{gl:List GGl}{m:Nat}{st:List Int}(h:LX w0 w q A ca A2 cb bs gl m st)(k v:Int):
 Calls Tryz.prog 99 #[.pointer (some ⟨q,0,none⟩),.int .i64 k,.int .i64 v] w fun e w'=>e=.returned (.bool (qX st k v).isSome)∧LX w0 w' q A ca A2 cb bs gl m ((qX st k v).getD st)∧KeepI w w':=by
 obtain ⟨a,c,d0,d1,d2,d3,df,hl,hk⟩:=h.open;rw [qEN];clear d0 d1 d3 df;have H:=qB.mk h;have hi:isC st k 1=(decide (0≤k)&&st[k.toNat]? == some 1):=rfl;by_cases k0:k<0
 ·have t0:decide (k<0)=true:=decide_eq_true k0;have e:isC st k 1=false:=by rw [hi]; simp; omega
  rw [e];clear hi e h;go_enter Tryz.func99,Tryz.ntmps99;go_wp2;go_ret;exact ⟨rfl,H.out,fun _ _ _ _ hj _=>hj⟩
 have t0:decide (k<0)=false:=decide_eq_false k0;by_cases k1:k<st.length;rotate_left
 ·have t1:decide ((st.length:Int)≤k)=true:=decide_eq_true (by omega);have e:isC st k 1=false:=by rw [hi,List.getElem?_eq_none (by omega)]; simp
  rw [e];clear hi e h;go_enter Tryz.func99,Tryz.ntmps99;go_wp2;go_ret;exact ⟨rfl,H.out,fun _ _ _ _ hj _=>hj⟩
 have t1:decide ((st.length:Int)≤k)=false:=decide_eq_false (by omega);have kl:k.toNat<st.length:=by omega
 obtain ⟨g,rfl,e0,f0⟩:=hk k.toNat kl;have e:isC st k 1=(st[k.toNat]==1):=by rw [hi,List.getElem?_eq_getElem kl]; simp; omega
 rw [e];clear hi e hk;cases hq:(st[k.toNat]==1)
 ·generalize st[k.toNat]=y at *;clear h;go_enter Tryz.func99,Tryz.ntmps99;go_wp2;go_ret;exact ⟨rfl,H.out,fun _ _ _ _ hj _=>hj⟩
 ·have HN:=qB.mk (h.set g c d2 k.toNat kl v);have HK:=qB.mk (h.keep g c d2 k.toNat v);generalize st[k.toNat]=y at *;clear h;go_enter Tryz.func99,Tryz.ntmps99;go_wp2;go_ret;exact ⟨rfl,HN.out,HK.out⟩
def LbPost(w:World):Option GBk→Ending→World→Prop
 |some b,e,w'=>∃A c,e=.returned (.tuple #[.agg #[.int .i64 b.f0,.int .i64 b.f1,.slice A b.f2.length c],.bool true])∧b.f2.length≤c∧kOp.C w' A b.f2.length b.f2∧Below w.heap.size w w'
 |none,e,w'=>e=.returned (.tuple #[.agg #[.int .i64 0,.int .i64 0,.slice none 0 0],.bool false])∧Below w.heap.size w w'
set_option maxHeartbeats 4000000 in
set_option maxRecDepth 100000 in
theorem qA0{w0 w:World}{q:Nat}{A:Option Addr}{ca:Nat}{A2:Option Addr}{cb:Nat}{bs:List GBk}{gl:List GGl}{m:Nat}{st:List Int}(h:LX w0 w q A ca A2 cb bs gl m st)(n:Int):
 Calls Tryz.prog 98 #[.pointer (some ⟨q,0,none⟩),.int .i64 n] w (LbPost w (blkC bs n)):=by
 obtain ⟨a,c,d0,d1,d2,d3,df,hl,hk⟩:=h.open;have hm:=h.cms.ma;have hm2:=hm.2.1;clear hk d1 d2 d3 df;have e0:=qC (Below.refl w.heap.size w) (.cells #[.int .i64 0,.int .i64 0,.slice none 0 0] 55);have d0':=qA e0 d0;by_cases k0:n<0
 ·have e:blkC bs n=none:=by unfold blkC; rw [if_neg (by omega)]
  have t0:decide (n<0)=true:=decide_eq_true k0;rw [e];have HB:=Lib.hid e0;clear e h hm e0;go_enter Tryz.func98,Tryz.ntmps98;go_wp2;exact bodyPost_ret (v:=.tuple #[.agg #[.int .i64 0,.int .i64 0,.slice none 0 0],.bool false]) (by simp [results,Tryz.results98,go_sem]) rfl ⟨rfl,HB.out⟩
 have t0:decide (n<0)=false:=decide_eq_false k0;by_cases k1:n<bs.length;rotate_left
 ·have e:blkC bs n=none:=by unfold blkC; rw [if_pos (by omega),List.getElem?_eq_none (by omega)]
  have t1:decide ((bs.length:Int)≤n)=true:=decide_eq_true (by omega);rw [e];have HB:=Lib.hid e0;clear e h hm e0;go_enter Tryz.func98,Tryz.ntmps98;go_wp2;exact bodyPost_ret (v:=.tuple #[.agg #[.int .i64 0,.int .i64 0,.slice none 0 0],.bool false]) (by simp [results,Tryz.results98,go_sem]) rfl ⟨rfl,HB.out⟩
 have t1:decide ((bs.length:Int)≤n)=false:=decide_eq_false (by omega);have hlt:n.toNat<bs.length:=by omega
 obtain ⟨ad,A1,c1,rfl,g0,g1,g2,l1,C1⟩:=qAN hm n (by omega) (by omega);obtain ⟨b,hb⟩:∃b,b=qo bs n:=⟨_,rfl⟩;have e:blkC bs n=some b:=by
  unfold blkC;rw [if_pos (by omega),List.getElem?_eq_getElem hlt,hb];simp [qo,List.getD_eq_getElem?_getD,List.getElem?_eq_getElem hlt]
 rw [←hb] at g0 g1 g2 l1 C1;rw [e];have q0:=fun o=>qA (qC (Below.refl w.heap.size w) o) g0
 have q1:=fun o=>qA (qC (Below.refl w.heap.size w) o) g1
 have q2:=fun o=>qA (qC (Below.refl w.heap.size w) o) g2
 have H:=Lib.hid (And.intro l1 C1);clear e hb hm h e0 l1 C1 g0 g1 g2;go_enter Tryz.func98,Tryz.ntmps98;go_wp2;have hb:=(qC (Below.refl w.heap.size w) (.cells #[.int .i64 b.f0,.int .i64 b.f1,.slice A1 b.f2.length c1] 55));exact bodyPost_ret (v:=.tuple #[.agg #[.int .i64 b.f0,.int .i64 b.f1,.slice A1 b.f2.length c1],.bool true]) (by simp [results,Tryz.results98,go_sem]) rfl ⟨A1,c1,rfl,H.out.1,Kd.C_below H.out.2 hb,hb⟩
def qBP(bs:List GBk)(n:Nat)(l:List GAl)(i:Nat):Bool:=(l.drop i).all (Qo bs n)&&QW (l.take i) (l.drop i)
theorem restB_at(bs:List GBk)(n:Nat)(l:List GAl)(i:Nat)(hi:i<l.length):qBP bs n l i=(Qo bs n (l.getD i zAl)&&Q2 (l.take i) (l.getD i zAl) (decide (i+1=l.length))&&qBP bs n l (i+1)):=by
 have e:l.getD i zAl=l[i]:=by simp [List.getD_eq_getElem?_getD,List.getElem?_eq_getElem hi]
 unfold qBP;rw [e,qG5 l i hi]
 conv=>lhs; rw [List.drop_eq_getElem_cons hi]
 rw [List.all_cons];cases Qo bs n l[i]<;>cases Q2 (l.take i) l[i] (decide (i+1=l.length))<;>simp
theorem qKh(bs:List GBk)(n:Nat)(l:List GAl):qBP bs n l l.length=true:=by unfold qBP; simp [QW]
def Qs(a b:GAl):Bool:=b.f0==a.f0 && !(a.f0==2&&b.f1.data.toList==a.f1.data.toList) && !(a.f0==3&&b.f2==a.f2)
theorem ok2{bef:List GAl}{a:GAl}{last:Bool}(h:a.f0=2):Q2 bef a last=(qe a.f1.data.toList&&inB a.f2 0 12&&bef.all (Qs a)):=by
 unfold Q2 Qs inB;rw [if_neg (by omega),if_pos h,h];simp [bne,Bool.and_assoc]
theorem ok3{bef:List GAl}{a:GAl}{last:Bool}(h:a.f0=3):Q2 bef a last=(a.f1.data.toList==[]&&bef.all (Qs a)):=by
 unfold Q2 Qs;rw [if_neg (by omega),if_neg (by omega),if_pos h,h];simp [bne]
theorem qHd{l:List GAl}{a:GAl}{k:Nat}(hk:k<l.length)(h:(l.take k).all (Qs a)=true)(h2:Qs a (l.getD k zAl)=true):(l.take (k+1)).all (Qs a)=true:=by
 have e:l.getD k zAl=l[k]:=by simp [List.getD_eq_getElem?_getD,List.getElem?_eq_getElem hk]
 rw [e] at h2;rw [List.take_succ_eq_append_getElem hk,List.all_append,h];simp [h2]
theorem qIq{l:List GAl}{a:GAl}{k i:Nat}(hk:k<i)(hi:i<l.length)(h2:Qs a (l.getD k zAl)=false):(l.take i).all (Qs a)=false:=by
 have e:l.getD k zAl=l[k]:=by simp [List.getD_eq_getElem?_getD,List.getElem?_eq_getElem (show k<l.length by omega)]
 rw [e] at h2;rw [List.all_eq_false];refine ⟨l[k],?_,by rw [h2]; simp⟩;rw [List.mem_iff_getElem];exact ⟨k,by simp; omega,by simp⟩
theorem qDt{w0 w:World}{q:Nat}{A:Option Addr}{ca:Nat}{A2:Option Addr}{cb:Nat}{bs:List GBk}{gl:List GGl}{m:Nat}{st:List Int}(h:LX w0 w q A ca A2 cb bs gl m st)(a:GAl):
 Calls Tryz.prog 98 #[.pointer (some ⟨q,0,none⟩),.int .i64 a.f3] w fun e w'=>∃(y0 y1:Int) (A3:Option Addr) (n c:Nat) (ok:Bool),e=.returned (.tuple #[.agg #[.int .i64 y0,.int .i64 y1,.slice A3 n c],.bool ok]) ∧
  Qo bs st.length a=(ok&&y0==(st.length:Int)&&y1==(if a.f0=2 then a.f2 else 0))∧Below w.heap.size w w':=by
 refine (qA0 h a.f3).mono ?_;intro e w' hp;unfold Qo;cases hb:blkC bs a.f3 with
 |none=>
  rw [hb] at hp;exact ⟨0,0,none,0,0,false,hp.1,rfl,hp.2⟩
 |some b=>
  rw [hb] at hp;obtain ⟨A3,c,h1,h2,h3,h4⟩:=hp;exact ⟨b.f0,b.f1,A3,b.f2.length,c,true,h1,by simp,h4⟩
theorem qAb{x y:Int}{b:Bool}(h:(x==y)=b):(x != y) = !b:=by rw [←h]; rfl
theorem qIr{R ab r ok b1 b2:Bool}(hR:R=(ab&&r))(hab:ab=(ok&&b1&&b2)):(R=false∧(ok=false∨ok=true∧b1=false∨ok=true∧b1=true∧b2=false))∨(ok=true∧b1=true∧b2=true∧R=r):=by
 subst hab hR;cases ok<;>cases b1<;>cases b2<;>simp
set_option maxRecDepth 100000 in
set_option maxHeartbeats 16000000 in
theorem qFl{w0 w:World}{q:Nat}{A:Option Addr}{ca:Nat}{A2:Option Addr}{cb:Nat}{bs:List GBk}{gl:List GGl}{m:Nat}{st:List Int}(h:LX w0 w q A ca A2 cb bs gl m st)(l:List GAl)(A6:Option Addr)(c6:Nat)(l6:l.length≤c6)(m6:kAl.C w A6 l.length l)(s6:∀a∈l,a.f1.size≤maxLen):
 Calls Tryz.prog 102 #[.pointer (some ⟨q,0,none⟩),.slice A6 l.length c6] w fun e w'=>e=.returned (.bool (!l.isEmpty&&chB bs st.length l))∧Below w.heap.size w w':=by
 obtain ⟨a0,c0,d0,d1,d2,d3,df,hl,hk⟩:=h.open;clear d0 d1 d3 df hk;have hl6:=m6.2.1;have HX:=Lib.hid h;have HM:=Lib.hid m6;have HS:=Lib.hid s6;have HR:Hid (1≤l.length→l.length≤40→st≠[]→(!l.isEmpty&&chB bs st.length l)=qBP bs st.length l 0):=Lib.hid fun h1 h2 h3=>by
  have e1:l.isEmpty=false:=by cases l with|nil=>simp at h1|cons=>rfl
  have e2:0<st.length:=List.length_pos_iff.2 h3;unfold chB qBP;simp [e1,h2,e2]
 have HN:Hid (l.length<1∨40<l.length∨st=[]→(!l.isEmpty&&chB bs st.length l)=false):=Lib.hid fun hh=>by
  unfold chB;rcases hh with hh|hh|hh
  ·cases l with|nil=>rfl|cons=>simp at hh
  ·simp; omega
  ·simp [hh]
 generalize (!l.isEmpty&&chB bs st.length l)=R at *;have hle:st.length=0→st=[]:=List.eq_nil_of_length_eq_zero;generalize hsl:st.length=sl at *;clear h m6 s6;go_enter Tryz.func102,Tryz.ntmps102;go_wp2
 ·rename_i hh
  go_ret;exact ⟨by rw [HN.out (.inr (.inr (hle (by rcases hh with hh|hh; omega; simpa using hh))))]; rfl,Below.refl _ _⟩
 rotate_left
 ·rename_i hh
  go_ret;exact ⟨by rw [HN.out (.inr (.inl (by omega)))]; rfl,Below.refl _ _⟩
 ·rename_i hh
  go_ret;exact ⟨by rw [HN.out (.inl (by omega))]; rfl,Below.refl _ _⟩
 rename_i h1 h2 h3 _ _
 have HR2:=Lib.hid (HR.out (by omega) (by omega) (fun e=>by subst e; simp at hsl; subst hsl; simp at h3));clear HR HN hle h1 h2 h3;subst hsl
 go_loopw [5] (fun v wr=>∃i:Nat,i≤l.length∧v=.int .i64 i∧qB (Below w.heap.size w wr∧R=qBP bs st.length l i)) (fun v _=>l.length - (intOf v).toNat)
 case atStart=>exact ⟨0,by omega,rfl,⟨Below.refl _ _,HR2.out⟩⟩
 case round=>
  obtain ⟨i,hi,rfl,HA⟩:=hrel;clear HR2;by_cases hlt:i<l.length;rotate_left
  ·obtain rfl:i=l.length:=by omega
   have HB:=Lib.hid HA.out.1;have HE:Hid (R=true):=Lib.hid (HA.out.2.trans (qKh _ _ _));clear HA;go_wp2;go_ret;exact ⟨by rw [HE.out]; rfl,HB.out⟩
  obtain ⟨ad,rfl,g0,g1,g2,g3⟩:=qA2 HM.out (i:Int) (by omega) (by omega);have hrd:QK l (i:Int)=l.getD i zAl:=by simp [QK]; rfl
  rw [hrd] at g0 g1 g2 g3;simp only [Int.toNat_natCast] at g0 g1 g2 g3;have HT:=Lib.hid (HA.out.2.trans (restB_at bs st.length l i hlt));have hsz:(l.getD i zAl).f1.size≤maxLen:=by
   have e:l.getD i zAl=l[i]:=by simp [List.getD_eq_getElem?_getD,List.getElem?_eq_getElem hlt]
   rw [e]; exact HS.out _ (List.getElem_mem hlt)
  have HSZ:=Lib.hid hsz;generalize hga:l.getD i zAl=ga at *;clear hga hrd hsz;obtain ⟨x0,x1,x2,x3⟩:=ga;simp only at g0 g1 g2 g3;have HBw:=HA.out.1;replace g0:=qA HBw g0;replace g1:=qA HBw g1;replace g2:=qA HBw g2;replace g3:=qA HBw g3;have hb1:=qC HBw (.cells #[.int .i64 x0,.string x1,.int .i64 x2,.int .i64 x3] 86);have HBK:=Lib.hid (qDt (HX.out.below hb1) ⟨x0,x1,x2,x3⟩);have HBX:=Lib.hid (MapKept.heap_alloc wr (.cells #[.int .i64 x0,.string x1,.int .i64 x2,.int .i64 x3] 86)).1;have HB1:=Lib.hid hb1;clear hb1 HBw HA;go_wp2_with fail;refine HBK.out.mono ?_;rintro e w2 ⟨y0,y1,A3,n,c,ok,rfl,hAB,hb2⟩;have e0:=qA hb2 (qD HBX.out (i:=0) rfl);have e1:=qA hb2 (qD HBX.out (i:=1) rfl);have e2:=qA hb2 (qD HBX.out (i:=2) rfl);have e3:=qA hb2 (qD HBX.out (i:=3) rfl);have HB2:=Lib.hid (qF HB1.out hb2);have HAB:=Lib.hid hAB;clear hb2 hAB HBK HBX HB1 g0 g1 g2 g3;generalize hwb:wr.heap.size=xb at *;have hb3:=qC HB2.out (.cells #[.int .i64 y0,.int .i64 y1,.slice A3 n c] 55);have d2':=qA hb3 d2;have k0:=qA (qC (Below.refl w2.heap.size w2) (.cells #[.int .i64 y0,.int .i64 y1,.slice A3 n c] 55)) e0;have k1:=qA (qC (Below.refl w2.heap.size w2) (.cells #[.int .i64 y0,.int .i64 y1,.slice A3 n c] 55)) e1
  have k2:=qA (qC (Below.refl w2.heap.size w2) (.cells #[.int .i64 y0,.int .i64 y1,.slice A3 n c] 55)) e2;have k3:=qA (qC (Below.refl w2.heap.size w2) (.cells #[.int .i64 y0,.int .i64 y1,.slice A3 n c] 55)) e3;have y0c:=qD (MapKept.heap_alloc w2 (.cells #[.int .i64 y0,.int .i64 y1,.slice A3 n c] 55)).1 (i:=0) rfl;have y1c:=qD (MapKept.heap_alloc w2 (.cells #[.int .i64 y0,.int .i64 y1,.slice A3 n c] 55)).1 (i:=1) rfl;have HB3:=Lib.hid hb3;clear hb3 e0 e1 e2 e3 HB2;obtain ⟨W2,hW2⟩:∃W,W=(w2.alloc (.cells #[.int .i64 y0,.int .i64 y1,.slice A3 n c] 55)):=⟨_,rfl⟩;by_cases t2:x0=2
  ·subst t2;have hAB:=HAB.out;simp only [if_true] at hAB;rcases qIr (HT.out.trans (by rw [Bool.and_assoc])) hAB with ⟨hF,hc⟩|⟨rfl,b1,b2,hP⟩
   ·have HF:=Lib.hid hF;clear hAB hF HAB HT;rcases hc with rfl|⟨rfl,b1⟩|⟨rfl,b1,b2⟩
    all_goals
     try have n1:=qAb b1
     try have n2:=qAb b2
     go_wp2;go_region
     all_goals
      go_wp2;go_ret;exact ⟨by rw [HF.out]; rfl,by repeat (first|exact HB3.out|apply qE|apply qO)⟩
   ·have HNm:=Lib.hid (fun w=>qBl x1 HSZ.out w);have hP2:=hP;rw [ok2 rfl] at hP2;simp only at hP2;generalize qe x1.data.toList=nm at *;have HP0:=Lib.hid hP2;clear hP hP2 hAB HAB HT;have n1:=qAb b1;have n2:=qAb b2;go_wp2;go_region;go_wp2_with fail;refine (HNm.out _).mono ?_;rintro e w5 ⟨rfl,rfl⟩;cases nm
    ·have HF:Hid (R=false):=Lib.hid (by rw [HP0.out]; rfl);go_wp2;go_ret;exact ⟨by rw [HF.out]; rfl,by repeat (first|exact HB3.out|apply qE|apply qO)⟩
    by_cases hr:0≤x2∧x2≤12;rotate_left
    ·have HF:Hid (R=false):=Lib.hid (by rw [HP0.out]; have:inB x2 0 12=false:=(by unfold inB; simp; omega); rw [this]; rfl);clear HP0;by_cases r1:x2<0
     ·have r1':decide (x2<0)=true:=decide_eq_true r1;go_wp2;go_ret;exact ⟨by rw [HF.out]; rfl,by repeat (first|exact HB3.out|apply qE|apply qO)⟩
     ·have r1':decide (x2<0)=false:=decide_eq_false r1;have r2':decide (12<x2)=true:=decide_eq_true (by omega);go_wp2;go_ret;exact ⟨by rw [HF.out]; rfl,by repeat (first|exact HB3.out|apply qE|apply qO)⟩
    have r1':decide (x2<0)=false:=decide_eq_false (by omega);have r2':decide (12<x2)=false:=decide_eq_false (by omega);obtain ⟨GA,hGA⟩:∃g:GAl,g=⟨2,x1,x2,x3⟩:=⟨_,rfl⟩;have HP:Hid (R=((l.take i).all (Qs GA)&&qBP bs st.length l (i+1))):=Lib.hid (by rw [HP0.out,hGA]; have:inB x2 0 12=true:=(by unfold inB; simp; omega); rw [this]; rfl);clear HP0 hr;go_wp2;have HW3:Hid (Below w.heap.size w W2):=Lib.hid (hW2▸HB3.out);rw [←hW2] at k0 k1 k2 ⊢
    go_loopw [10] (fun v wq=>∃k:Nat,k≤i∧v=.int .i64 k∧qB (Below W2.heap.size W2 wq∧(l.take k).all (Qs GA)=true)) (fun v _=>i - (intOf v).toNat)
    case atStart=>exact ⟨0,by omega,rfl,⟨by repeat (first|exact Below.refl _ _|apply qE|apply qO),rfl⟩⟩
    case round=>
     rename_i wq _
     obtain ⟨k,hk,rfl,HK⟩:=hrel;have HB4:=Lib.hid (qF HW3.out HK.out.1);have j0:=qA HK.out.1 k0;have j1:=qA HK.out.1 k1;have j2:=qA HK.out.1 k2;by_cases hkl:k<i;rotate_left
     ·obtain rfl:k=i:=by omega
      have HE:Hid (R=qBP bs st.length l (k+1)):=Lib.hid (by rw [HP.out,HK.out.2]; rfl);clear HK;go_wp2;go_roundw
      case rel=>exact ⟨k+1,by omega,by go_num,⟨HB4.out,HE.out⟩⟩
      case measure=>simp [intOf]; omega
     obtain ⟨ad2,hA2,g0,g1,g2,g3⟩:=qA2 HM.out (k:Int) (by omega) (by omega);obtain rfl:=Option.some.inj hA2;have hrd:QK l (k:Int)=l.getD k zAl:=by simp [QK]; rfl
     rw [hrd] at g0 g1 g2;simp only [Int.toNat_natCast] at g0 g1 g2;have HY:=Lib.hid (qHd (a:=GA) (show k<l.length by omega) HK.out.2);have HZ:=Lib.hid (qIq (a:=GA) hkl hlt);generalize l.getD k zAl=z at *;obtain ⟨z0,z1,z2,z3⟩:=z;simp only at g0 g1 g2;replace g0:=qA HB4.out g0;replace g1:=qA HB4.out g1;replace g2:=qA HB4.out g2;unfold Qs at HY HZ;have HK1:=Lib.hid HK.out.1;clear HK g3 hA2 hrd;rw [hGA] at HY HZ;simp only at HY HZ;have u0:∀b,(z0==2)=b→(z0 != 2) = !b:=fun b=>qAb
     cases c0:(z0==2)
     ·have n0:=u0 _ c0;have HF:Hid (R=false):=Lib.hid (by rw [HP.out,hGA]; have:=HZ.out (by rw [c0]; rfl); unfold Qs; rw [this]; rfl);clear HY HZ u0;go_wp2;go_region;go_wp2;go_ret;exact ⟨by rw [HF.out]; rfl,by repeat (first|exact HB4.out|apply qE|apply qO)⟩
     have n0:=u0 _ c0;cases hs:(z1.data.toList==x1.data.toList)
     ·have s1:(z1.toList==x1.toList)=false:=by rw [ByteArray.toList_eq,ByteArray.toList_eq]; exact hs
      have HG:Hid ((l.take (k+1)).all (Qs GA)=true):=Lib.hid (by rw [hGA]; exact HY.out (by rw [c0,hs]; rfl));clear HY HZ u0 hs;go_wp2;go_region;go_wp2;go_roundw
      case rel=>exact ⟨k+1,by omega,by go_num,⟨by repeat (first|exact HK1.out|apply qE|apply qO),HG.out⟩⟩
      case measure=>simp [intOf]; omega
     ·have s1:(z1.toList==x1.toList)=true:=by rw [ByteArray.toList_eq,ByteArray.toList_eq]; exact hs
      have HF:Hid (R=false):=Lib.hid (by rw [HP.out,hGA]; have:=HZ.out (by rw [c0,hs]; rfl); unfold Qs; rw [this]; rfl);clear HY HZ u0 hs;go_wp2;go_region;go_wp2;go_ret;exact ⟨by rw [HF.out]; rfl,by repeat (first|exact HB4.out|apply qE|apply qO)⟩
  ·have t2':(x0==2)=false:=beq_eq_false_iff_ne.2 t2;have hAB:=HAB.out;simp only [if_neg t2] at hAB;rcases qIr (HT.out.trans (by rw [Bool.and_assoc])) hAB with ⟨hF,hc⟩|⟨rfl,b1,b2,hP⟩
   ·have HF:=Lib.hid hF;clear hAB hF HAB HT t2;rcases hc with rfl|⟨rfl,b1⟩|⟨rfl,b1,b2⟩
    all_goals
     try have n1:=qAb b1
     try have n2:=qAb b2
     go_wp2;go_region
     all_goals
      go_wp2;go_ret;exact ⟨by rw [HF.out]; rfl,by repeat (first|exact HB3.out|apply qE|apply qO)⟩
   have n1:=qAb b1;have n2:=qAb b2;clear hAB HAB HT;by_cases t1:x0=1
   ·subst t1;have hP2:=hP;rw [ok_one rfl] at hP2;simp only at hP2;clear hP t2';cases hs:(x1.data.toList==[])
    ·have s1:(x1.toList==[])=false:=by rw [ByteArray.toList_eq]; exact hs
     have HF:Hid (R=false):=Lib.hid (by rw [hP2,hs]; simp);clear hP2 hs t2;by_cases hl1:i<l.length - 1
     ·have l1:decide ((i:Int)<(l.length:Int) - 1)=true:=decide_eq_true (by omega);go_wp2;go_region;go_wp2;go_ret;exact ⟨by rw [HF.out]; rfl,by repeat (first|exact HB3.out|apply qE|apply qO)⟩
     ·have l1:decide ((i:Int)<(l.length:Int) - 1)=false:=decide_eq_false (by omega);go_wp2;go_region;go_wp2;go_ret;exact ⟨by rw [HF.out]; rfl,by repeat (first|exact HB3.out|apply qE|apply qO)⟩
    have s1:(x1.toList==[])=true:=by rw [ByteArray.toList_eq]; exact hs
    by_cases hl1:i<l.length - 1
    ·have l1:decide ((i:Int)<(l.length:Int) - 1)=true:=decide_eq_true (by omega);have HF:Hid (R=false):=Lib.hid (by rw [hP2,decide_eq_false (show ¬i+1=l.length by omega)]; rfl);clear hP2 hs t2;go_wp2;go_region;go_wp2;go_ret;exact ⟨by rw [HF.out]; rfl,by repeat (first|exact HB3.out|apply qE|apply qO)⟩
    have l1:decide ((i:Int)<(l.length:Int) - 1)=false:=decide_eq_false (by omega);rw [decide_eq_true (show i+1=l.length by omega),hs] at hP2;cases c2:(x2==0)
    ·have n3:=qAb c2;have HF:Hid (R=false):=Lib.hid (by rw [hP2,c2]; rfl);clear hP2 hs t2;go_wp2;go_region;go_wp2;go_ret;exact ⟨by rw [HF.out]; rfl,by repeat (first|exact HB3.out|apply qE|apply qO)⟩
    ·have n3:=qAb c2;have HE:Hid (R=qBP bs st.length l (i+1)):=Lib.hid (by rw [hP2,c2]; rfl);clear hP2 hs t2;go_wp2;go_region;go_wp2;go_roundw
     case rel=>exact ⟨i+1,by omega,by go_num,⟨by repeat (first|exact HB3.out|apply qE|apply qO),HE.out⟩⟩
     case measure=>simp [intOf]; omega
   have t1':(x0==1)=false:=beq_eq_false_iff_ne.2 t1;by_cases t3:x0=3;rotate_left
   ·have HF:Hid (R=false):=Lib.hid (by rw [hP,qId t1 t2 t3]; rfl);have t3':(x0==3)=false:=beq_eq_false_iff_ne.2 t3;clear t1 t2 t3 hP;go_wp2;go_region;go_wp2;go_ret;exact ⟨by rw [HF.out]; rfl,by repeat (first|exact HB3.out|apply qE|apply qO)⟩
   subst t3;have hP2:=hP;rw [ok3 rfl] at hP2;simp only at hP2;clear hP t1 t2 t1' t2';cases hs:(x1.data.toList==[])
   ·have s1:(x1.toList==[])=false:=by rw [ByteArray.toList_eq]; exact hs
    have HF:Hid (R=false):=Lib.hid (by rw [hP2,hs]; rfl);clear hP2 hs;go_wp2;go_region;go_wp2;go_ret;exact ⟨by rw [HF.out]; rfl,by repeat (first|exact HB3.out|apply qE|apply qO)⟩
   ·have s1:(x1.toList==[])=true:=by rw [ByteArray.toList_eq]; exact hs
    obtain ⟨GA,hGA⟩:∃g:GAl,g=⟨3,x1,x2,x3⟩:=⟨_,rfl⟩;have HP:Hid (R=((l.take i).all (Qs GA)&&qBP bs st.length l (i+1))):=Lib.hid (by rw [hP2,hGA,hs]; rfl);clear hP2 hs;go_wp2;go_region;go_wp2;have HW3:Hid (Below w.heap.size w W2):=Lib.hid (hW2▸HB3.out);rw [←hW2] at k0 k1 k2 ⊢
    go_loopw [10] (fun v wq=>∃k:Nat,k≤i∧v=.int .i64 k∧qB (Below W2.heap.size W2 wq∧(l.take k).all (Qs GA)=true)) (fun v _=>i - (intOf v).toNat)
    case atStart=>exact ⟨0,by omega,rfl,⟨by repeat (first|exact Below.refl _ _|apply qE|apply qO),rfl⟩⟩
    case round=>
     rename_i wq _
     obtain ⟨k,hk,rfl,HK⟩:=hrel;have HB4:=Lib.hid (qF HW3.out HK.out.1);have j0:=qA HK.out.1 k0;have j1:=qA HK.out.1 k1;have j2:=qA HK.out.1 k2;by_cases hkl:k<i;rotate_left
     ·obtain rfl:k=i:=by omega
      have HE:Hid (R=qBP bs st.length l (k+1)):=Lib.hid (by rw [HP.out,HK.out.2]; rfl);clear HK;go_wp2;go_roundw
      case rel=>exact ⟨k+1,by omega,by go_num,⟨HB4.out,HE.out⟩⟩
      case measure=>simp [intOf]; omega
     obtain ⟨ad2,hA2,g0,g1,g2,g3⟩:=qA2 HM.out (k:Int) (by omega) (by omega);obtain rfl:=Option.some.inj hA2;have hrd:QK l (k:Int)=l.getD k zAl:=by simp [QK]; rfl
     rw [hrd] at g0 g1 g2;simp only [Int.toNat_natCast] at g0 g1 g2;have HY:=Lib.hid (qHd (a:=GA) (show k<l.length by omega) HK.out.2);have HZ:=Lib.hid (qIq (a:=GA) hkl hlt);generalize l.getD k zAl=z at *;obtain ⟨z0,z1,z2,z3⟩:=z;simp only at g0 g1 g2;replace g0:=qA HB4.out g0;replace g1:=qA HB4.out g1;replace g2:=qA HB4.out g2;unfold Qs at HY HZ;have HK1:=Lib.hid HK.out.1;clear HK g3 hA2 hrd;rw [hGA] at HY HZ;simp only at HY HZ;cases c0:(z0==3)
     ·have n0:=qAb c0;have HF:Hid (R=false):=Lib.hid (by rw [HP.out,hGA]; have:=HZ.out (by rw [c0]; rfl); unfold Qs; rw [this]; rfl);clear HY HZ;go_wp2;go_region;go_wp2;go_ret;exact ⟨by rw [HF.out]; rfl,by repeat (first|exact HB4.out|apply qE|apply qO)⟩
     have n0:=qAb c0;cases s1:(z2==x2)
     ·have HG:Hid ((l.take (k+1)).all (Qs GA)=true):=Lib.hid (by rw [hGA]; exact HY.out (by rw [c0,s1]; rfl));clear HY HZ;go_wp2;go_region;go_wp2;go_roundw
      case rel=>exact ⟨k+1,by omega,by go_num,⟨by repeat (first|exact HK1.out|apply qE|apply qO),HG.out⟩⟩
      case measure=>simp [intOf]; omega
     ·have HF:Hid (R=false):=Lib.hid (by rw [HP.out,hGA]; have:=HZ.out (by rw [c0,s1]; rfl); unfold Qs; rw [this]; rfl);clear HY HZ;go_wp2;go_region;go_wp2;go_ret;exact ⟨by rw [HF.out]; rfl,by repeat (first|exact HB4.out|apply qE|apply qO)⟩
end Go.Proofs.YtoonkkipnljflaaGreatDoor.CJ
