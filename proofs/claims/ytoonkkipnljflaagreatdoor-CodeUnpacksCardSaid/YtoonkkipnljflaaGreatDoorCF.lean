/- The room of a block: its cells as plain data and in memory; the methods add, has and fill. Conditions: the room lies in memory; numbers are small. The checker of a code in memory, and its method block. Conditions: the checker lies in memory. -/
import Derived.Test.YtoonkkipnljflaaGreatDoorCC
import Derived.Test.YtoonkkipnljflaaGreatDoorIMM
import Derived.BigRegion
namespace Go.Proofs.YtoonkkipnljflaaGreatDoor.CJ
open Go.RowKit Go.Proofs.YtoonkkipnljflaaGreatDoorW.PrintWords Go.Proofs.YtoonkkipnljflaaGreatDoor.PT Go.Proofs.YtoonkkipnljflaaGreatDoor.IMaps
set_option linter.unusedVariables false
set_option linter.unusedSimpArgs false
def isC(st:List Int)(k v:Int):Bool:=decide (0≤k)&&st[k.toNat]? == some v
structure RM(w:World)(b:Nat)(st:List Int):Prop where
 box:w.heap[b+2]? = some (.cells #[.int .i64 st.length,.map (some b),.map (some (b+1))] 140 (0,0))
 emp:∃l,IM w b l∧∀k,lk k l=if isC st k 1 then some (.bool true) else none
 val:∃l,IM w (b+1) l∧∀k,lk k l=if isC st k 3 then some (.bool true) else none
theorem RM.lt{w:World}{b:Nat}{st:List Int}(h:RM w b st):b+2<w.heap.size:=(Array.getElem?_eq_some_iff.1 h.box).1
theorem RM.below{w w':World}{b:Nat}{st:List Int}(h:RM w b st)(hb:Below w.heap.size w w'):RM w' b st:=by
 have hl:=h.lt;obtain ⟨h1,⟨l1,i1,e1⟩,⟨l2,i2,e2⟩⟩:=h;exact ⟨(hb.block _ hl).trans h1,⟨l1,i1.below hb,e1⟩,⟨l2,i2.below hb,e2⟩⟩
theorem qD{w:World}{g:Nat}{cs:Array Value}{t:TypeId}{f:Nat×Nat}(h:w.heap[g]? = some (.cells cs t f)){i:Nat}{v:Value}(hv:cs[i]? = some v):w.cell? ⟨g,i,none⟩=some v:=by
 simp [World.cell?,h,hv]
theorem qH{w:World}{g:Nat}{cs:Array Value}{t:TypeId}(h:w.heap[g]? = some (.cells cs t (0,0)))(i:Nat):w.frozen? ⟨g,i,none⟩=false:=by
 simp [World.frozen?,h]
theorem RM.facts{w:World}{b:Nat}{st:List Int}(h:RM w b st):w.cell? ⟨b+2,0,none⟩=some (.int .i64 st.length)∧w.cell? ⟨b+2,1,none⟩=some (.map (some b))∧w.cell? ⟨b+2,2,none⟩=some (.map (some (b+1)))∧w.frozen? ⟨b+2,0,none⟩=false:=
 ⟨qD h.box rfl,qD h.box rfl,qD h.box rfl,qH h.box 0⟩
theorem qC6(st:List Int)(k u v:Int):isC (st++[u]) k v=(isC st k v||(k==st.length&&u==v)):=by
 unfold isC;by_cases h0:0≤k
 ·simp only [h0,decide_true,Bool.true_and];rcases Nat.lt_trichotomy k.toNat st.length with h|h|h
  ·have:(k==(st.length:Int))=false:=beq_eq_false_iff_ne.2 (by omega);rw [List.getElem?_append_left h,this]; simp
  ·have:(k==(st.length:Int))=true:=beq_iff_eq.2 (by omega);rw [h,List.getElem?_append_right (Nat.le_refl _),this];have hn:st[st.length]? = none:=List.getElem?_eq_none (Nat.le_refl _);simp [hn]
  ·have:(k==(st.length:Int))=false:=beq_eq_false_iff_ne.2 (by omega);rw [List.getElem?_eq_none (by simp; omega),List.getElem?_eq_none (by omega),this]; simp
 ·have:(k==(st.length:Int))=false:=beq_eq_false_iff_ne.2 (by omega);simp [h0,this]
theorem qD9(st:List Int)(n:Nat)(hn:n<st.length)(k u v:Int):isC (st.set n u) k v=if k=(n:Int) then u==v else isC st k v:=by
 unfold isC;by_cases h0:0≤k
 ·by_cases h:k=(n:Int)
  ·subst h;simp [List.getElem?_set,hn]
  ·have:¬n=k.toNat:=by omega
   simp [List.getElem?_set,this,h,h0]
 ·have:¬k=(n:Int):=by omega
  simp [h0,this]
theorem RM.push0{w:World}{b:Nat}{st:List Int}(h:RM w b st):RM (w.setCell ⟨b+2,0,none⟩ (.int .i64 (st.length+1))) b (st++[0])∧Below b w (w.setCell ⟨b+2,0,none⟩ (.int .i64 (st.length+1))):=by
 obtain ⟨h1,⟨l1,i1,e1⟩,⟨l2,i2,e2⟩⟩:=h;refine ⟨⟨?_,⟨l1,i1.setCell _ (by show b+2≠b; omega),fun k=>?_⟩,⟨l2,i2.setCell _ (by show b+2≠b+1; omega),fun k=>?_⟩⟩,(Below.refl _ _).setCell (by show b≤b+2; omega) _⟩
 ·simp [World.setCell,Array.getElem?_modify,h1]
 ·rw [e1,qC6]; simp
 ·rw [e2,qC6]; simp
theorem RM.push1{w:World}{b:Nat}{st:List Int}(h:RM w b st):∃w2,(Instr.mapUpdate 75 (.map (some b)) (.int .i64 st.length) (.bool true)).run Tryz.prog w=.ok () w2∧w2.cell? ⟨b+2,0,none⟩=some (.int .i64 st.length)∧w2.frozen? ⟨b+2,0,none⟩=false ∧
 RM (w2.setCell ⟨b+2,0,none⟩ (.int .i64 (st.length+1))) b (st++[1])∧Below b w (w2.setCell ⟨b+2,0,none⟩ (.int .i64 (st.length+1))):=by
 have hl:=h.lt;obtain ⟨h1,⟨l1,i1,e1⟩,⟨l2,i2,e2⟩⟩:=h;obtain ⟨w2,hrun,hI,hg,_⟩:=run_mapUpdate (P:=Tryz.prog) i1 Tryz.underlying75 Tryz.underlying3 (st.length:Int) (.bool true);have k1:w2.heap[b+2]? = some (.cells #[.int .i64 st.length,.map (some b),.map (some (b+1))] 140 (0,0)):=(hg.block _ hl (fun e=>by injection e with e; omega)).trans h1;have k2:IM w2 (b+1) l2:=i2.grown hg (fun e=>by injection e with e; omega);refine ⟨w2,hrun,qD k1 rfl,qH k1 0,⟨?_,⟨_,hI.setCell _ (by show b+2≠b; omega),fun k=>?_⟩,⟨l2,k2.setCell _ (by show b+2≠b+1; omega),fun k=>?_⟩⟩,?_⟩
 ·simp [World.setCell,Array.getElem?_modify,k1]
 ·rw [lk_put,e1,qC6];by_cases hk:(st.length:Int)=k
  ·simp [hk]
  ·simp [hk,Ne.symm hk]
 ·rw [e2,qC6]; simp
 ·exact ((Below.refl b w).grown hg (by omega) (fun k hk=>by injection hk with hk; omega)).setCell (by show b≤b+2; omega) _
def Done(b:Nat)(w:World):Option (List Int)→Ending→World→Prop
 |some st,e,w'=>e=.returned (.tuple #[])∧RM w' b st∧Below b w w'
 |none,e,w'=>e=.panicked qAJ∧Below b w w'
structure Adds(w wr:World)(b:Nat)(st:List Int):Prop where
 rm:RM wr b st
 below:Below b w wr
theorem qEM(st:List Int)(n:Nat)(v:Int):st++List.replicate (n+1) v=(st++List.replicate n v)++[v]:=by
 rw [List.replicate_succ',List.append_assoc]
theorem RM.drew{w:World}{b:Nat}{st:List Int}(h:RM w b st):RM w.drew b st:=h.below (qE (Below.refl _ _))
theorem qIc(w wr:World)(b:Nat)(st:List Int)(n:Nat)(v:Int)(h:Adds w wr b (st++List.replicate n v))(hs:st.length≤1000000)(hn:n≤1000000):
 (decide (((st++List.replicate n v).length:Int)≤60)=true∧∀e w',e=.returned (.tuple #[])→wr=w'→Done b w (addC st n v) e w')∨(decide (((st++List.replicate n v).length:Int)≤60)=false∧∀e w',e=.panicked qAJ→wr=w'→Done b w (addC st n v) e w'):=by
 unfold addC;by_cases hl:st.length+n≤60
 ·refine .inl ⟨decide_eq_true (by simp; omega),?_⟩;rintro e w' rfl rfl;rw [if_pos hl];exact ⟨rfl,h.rm,h.below⟩
 ·refine .inr ⟨decide_eq_false (by simp; omega),?_⟩;rintro e w' rfl rfl;rw [if_neg hl];exact ⟨rfl,h.below⟩
set_option maxHeartbeats 2000000 in
theorem qFv(w:World)(b:Nat)(st:List Int)(n:Nat)(h:RM w b st)(hs:st.length≤1000000)(hn:n≤1000000):
 Calls Tryz.prog 91 #[.pointer (some ⟨b+2,0,none⟩),.int .i64 n,.bool false] w (Done b w (addC st n 0)):=by
 have H:=qB.mk (Adds.mk h (Below.refl b w));clear h;go_enter Tryz.func91,Tryz.ntmps91;go_wp2
 go_loopw [7] (fun v wr=>∃i:Nat,i≤n∧v=.int .i64 i∧qB (Adds w wr b (st++List.replicate i 0))) (fun v _=>n - (intOf v).toNat)
 case atStart=>exact ⟨0,by omega,rfl,by simpa using H⟩
 case round=>
  obtain ⟨i,hi,rfl,HA⟩:=hrel;clear H;by_cases hlt:i<n
  ·obtain ⟨d0,d1,d2,d3⟩:=HA.out.rm.facts;have hb:=HA.out.rm.push0;have HN:qB (Adds w (wr.setCell ⟨b+2,0,none⟩ (.int .i64 ((st++List.replicate i 0).length+1))) b (st++List.replicate (i+1) 0)):=by
    rw [qEM]; exact ⟨⟨hb.1,HA.out.below.trans hb.2⟩⟩
   have hlen:((st++List.replicate i (0:Int)).length:Int)≤2000000:=by simp; omega
   clear hb HA;generalize (st++List.replicate i (0:Int)).length=L at *;go_wp2;go_roundw
   case rel=>exact ⟨i+1,by omega,by go_num,HN⟩
   case measure=>simp [intOf]; omega
  ·obtain rfl:i=n:=by omega
   obtain ⟨d0,d1,d2,d3⟩:=HA.out.rm.facts;rcases qIc w wr b st i 0 HA.out hs hn with ⟨hd,hE⟩|⟨hd,hE⟩
   ·have HE:=Lib.hid hE;clear hE HA;generalize (st++List.replicate i (0:Int)).length=L at *;go_wp2_with fail;refine (qL _).mono ?_;rintro e w1 ⟨rfl,rfl⟩;go_wp2;go_end0;exact HE.out _ _ rfl rfl
   ·have HE:=Lib.hid hE;clear hE HA;generalize (st++List.replicate i (0:Int)).length=L at *;go_wp2_with fail;refine (qG _).mono ?_;rintro e w1 ⟨rfl,rfl⟩;go_wp2;exact ⟨rfl,HE.out _ _ rfl rfl⟩
set_option maxHeartbeats 2000000 in
theorem qJ5(w:World)(b:Nat)(st:List Int)(n:Nat)(h:RM w b st)(hs:st.length≤1000000)(hn:n≤1000000):
 Calls Tryz.prog 91 #[.pointer (some ⟨b+2,0,none⟩),.int .i64 n,.bool true] w (Done b w (addC st n 1)):=by
 have H:=qB.mk (Adds.mk h (Below.refl b w));clear h;go_enter Tryz.func91,Tryz.ntmps91;go_wp2
 go_loopw [7] (fun v wr=>∃i:Nat,i≤n∧v=.int .i64 i∧qB (Adds w wr b (st++List.replicate i 1))) (fun v _=>n - (intOf v).toNat)
 case atStart=>exact ⟨0,by omega,rfl,by simpa using H⟩
 case round=>
  obtain ⟨i,hi,rfl,HA⟩:=hrel;clear H;by_cases hlt:i<n
  ·obtain ⟨d0,d1,d2,d3⟩:=HA.out.rm.facts;obtain ⟨w2,hrun,k0,k1,hR,hB⟩:=HA.out.rm.drew.push1;have HN:qB (Adds w (w2.setCell ⟨b+2,0,none⟩ (.int .i64 ((st++List.replicate i 1).length+1))) b (st++List.replicate (i+1) 1)):=by
    rw [qEM]; exact ⟨⟨hR,(qE HA.out.below).trans hB⟩⟩
   have hlen:((st++List.replicate i (1:Int)).length:Int)≤2000000:=by simp; omega
   clear hR hB HA;generalize (st++List.replicate i (1:Int)).length=L at *;go_wp2;go_region
   all_goals
    go_wp2;go_roundw
    case rel=>exact ⟨i+1,by omega,by go_num,HN⟩
    case measure=>simp [intOf]; omega
  ·obtain rfl:i=n:=by omega
   obtain ⟨d0,d1,d2,d3⟩:=HA.out.rm.facts;rcases qIc w wr b st i 1 HA.out hs hn with ⟨hd,hE⟩|⟨hd,hE⟩
   ·have HE:=Lib.hid hE;clear hE HA;generalize (st++List.replicate i (1:Int)).length=L at *;go_wp2_with fail;refine (qL _).mono ?_;rintro e w1 ⟨rfl,rfl⟩;go_wp2;go_end0;exact HE.out _ _ rfl rfl
   ·have HE:=Lib.hid hE;clear hE HA;generalize (st++List.replicate i (1:Int)).length=L at *;go_wp2_with fail;refine (qG _).mono ?_;rintro e w1 ⟨rfl,rfl⟩;go_wp2;exact ⟨rfl,HE.out _ _ rfl rfl⟩
def inB(n lo hi:Int):Bool:=decide (lo≤n)&&decide (n≤hi)
theorem qCo(n lo hi:Int)(w:World)(h:inB n lo hi=true):Calls Tryz.prog 59 #[.int .i64 n,.int .i64 lo,.int .i64 hi] w fun e w'=>e=.returned (.bool true)∧w=w':=by
 simp only [inB,Bool.and_eq_true,decide_eq_true_eq] at h;obtain ⟨h1,h2⟩:=h;have h1':decide (lo≤n)=true:=decide_eq_true h1;have h2':decide (n≤hi)=true:=decide_eq_true h2;go_enter Tryz.func59,Tryz.ntmps59;go_wp2;go_ret;exact ⟨rfl,rfl⟩
theorem qCU(n lo hi:Int)(w:World)(h:inB n lo hi=false):Calls Tryz.prog 59 #[.int .i64 n,.int .i64 lo,.int .i64 hi] w fun e w'=>e=.returned (.bool false)∧w=w':=by
 simp only [inB,Bool.and_eq_false_iff,decide_eq_false_iff_not] at h;by_cases h1:lo≤n
 ·have h2:¬n≤hi:=by rcases h with h|h; exact absurd h1 h; exact h
  have h1':decide (lo≤n)=true:=decide_eq_true h1;have h2':decide (n≤hi)=false:=decide_eq_false h2;go_enter Tryz.func59,Tryz.ntmps59;go_wp2;go_ret;exact ⟨rfl,rfl⟩
 ·have h1':decide (lo≤n)=false:=decide_eq_false h1;go_enter Tryz.func59,Tryz.ntmps59;go_wp2;go_ret;exact ⟨rfl,rfl⟩
theorem qAF(n lo hi:Int)(w:World):Calls Tryz.prog 59 #[.int .i64 n,.int .i64 lo,.int .i64 hi] w fun e w'=>e=.returned (.bool (inB n lo hi))∧w=w':=by
 cases h:inB n lo hi
 ·exact qCU n lo hi w h
 ·exact qCo n lo hi w h
def checked(ok:Bool):Ending:=if ok then .returned (.tuple #[]) else .panicked qAJ
theorem has_step(st:List Int)(k:Int)(n:Int)(hn:n=st.length):inB k 0 (n - 1)=hasC st k:=by
 unfold inB hasC;have:decide (k≤n - 1)=decide (k<(st.length:Int)):=decide_eq_decide.2 (by omega);rw [this]
def qBz(st l:List Int)(i:Nat):Prop:=(l.take i).all (hasC st)=true
theorem qBz.next{st l:List Int}{i:Nat}(h:qBz st l i)(hi:i<l.length)(hk:hasC st (l.getD i 0)=true):qBz st l (i+1):=by
 unfold qBz at *;rw [List.take_succ_eq_append_getElem hi,List.all_append,h];simpa [List.getD_eq_getElem?_getD,List.getElem?_eq_getElem hi] using hk
theorem qFw{st l:List Int}{i:Nat}(hi:i<l.length)(hk:hasC st (l.getD i 0)=false):l.all (hasC st)=false:=by
 rw [List.all_eq_false];refine ⟨l[i],List.getElem_mem _,?_⟩;simpa [List.getD_eq_getElem?_getD,List.getElem?_eq_getElem hi] using hk
set_option maxHeartbeats 2000000 in
theorem QL(w:World)(b:Nat)(st:List Int)(l:List Int)(A:Option Addr)(c:Nat)(hc:l.length≤c)(C1:(Kd.int .i64).C w A l.length l)(h:RM w b st)(hs:st.length≤1000000):
 Calls Tryz.prog 114 #[.pointer (some ⟨b+2,0,none⟩),.slice A l.length c] w fun e w'=>e=checked (l.all (hasC st))∧w=w':=by
 obtain ⟨d0,d1,d2,d3⟩:=h.facts;clear h;have HC:=Lib.hid C1;have hl:=C1.2.1;clear C1;go_enter Tryz.func114,Tryz.ntmps114;go_wp2
 go_loop [8] (fun v=>∃i:Nat,i≤l.length∧v=.int .i64 i∧qBz st l i) (fun v=>l.length - (intOf v).toNat)
 case atStart=>exact ⟨0,by omega,rfl,by simp [qBz]⟩
 case round=>
  obtain ⟨i,hi,rfl,HA⟩:=hrel;by_cases hlt:i<l.length
  ·obtain ⟨ad,cs,rfl,hcs,hK,hcell⟩:=Kd.C_get HC.out 0 (i:Int) (by omega) (by omega);have hK':cs=[.int .i64 (l.getD i 0)]:=hK;subst hK';have g0:=hcell 0 _ rfl;have hsz:(Kd.int .i64).sz=1:=rfl;simp only [Int.toNat_natCast,Nat.add_zero,hsz,Nat.mul_one] at g0;have g1:w.cell? (ad.add i)=some (.int .i64 (l.getD i 0)):=g0;clear g0 hcell hK hcs;have HG:=Lib.hid g1;clear g1;generalize hk:l.getD i 0=k at *;have g1:=HG.out;clear HG;have HW:=Lib.hid (fun W=>qAF k 0 ((st.length:Int) - 1) W);rw [has_step st k _ rfl] at HW;cases hb:hasC st k
   ·rw [hb] at HW;have HF:=Lib.hid (qFw hlt (hk▸hb));clear hb hk;go_wp2_with fail;refine (HW.out _).mono ?_;rintro e w1 ⟨rfl,rfl⟩;go_wp2_with fail;refine (qG _).mono ?_;rintro e w1 ⟨rfl,rfl⟩;go_wp2;exact ⟨rfl,by rw [HF.out]; rfl,rfl⟩
   ·rw [hb] at HW;have HN:=HA.next hlt (hk▸hb);clear hb hk;go_wp2_with fail;refine (HW.out _).mono ?_;rintro e w1 ⟨rfl,rfl⟩;go_wp2_with fail;refine (qL _).mono ?_;rintro e w1 ⟨rfl,rfl⟩;go_wp2;go_round
    case rel=>exact ⟨i+1,by omega,by go_num,HN⟩
    case measure=>simp [intOf]; omega
  ·obtain rfl:i=l.length:=by omega
   go_wp2;go_end0;unfold qBz at HA;rw [List.take_length] at HA;exact ⟨by rw [HA]; rfl,rfl⟩
theorem RM.lookup{w:World}{b:Nat}{st:List Int}(h:RM w b st)(k:Int):(Instr.lookup 75 (.map (some b)) (.int .i64 k) false).run Tryz.prog w=.ok (.bool (isC st k 1)) w:=by
 obtain ⟨l,i1,e1⟩:=h.emp;rw [run_lookup i1 Tryz.underlying75 Tryz.underlying3 (z:=.bool false) (by kernel_rfl) k false,e1];cases isC st k 1<;>rfl
theorem RM.lookupV{w:World}{b:Nat}{st:List Int}(h:RM w b st)(k:Int):(Instr.lookup 75 (.map (some (b+1))) (.int .i64 k) false).run Tryz.prog w=.ok (.bool (isC st k 3)) w:=by
 obtain ⟨l,i1,e1⟩:=h.val;rw [run_lookup i1 Tryz.underlying75 Tryz.underlying3 (z:=.bool false) (by kernel_rfl) k false,e1];cases isC st k 3<;>rfl
theorem qDd{st:List Int}{k v:Int}(h:isC st k v=true):0≤k∧k.toNat<st.length∧st[k.toNat]? = some v:=by
 simp only [isC,Bool.and_eq_true,decide_eq_true_eq,beq_iff_eq] at h;exact ⟨h.1,(List.getElem?_eq_some_iff.1 h.2).1,h.2⟩
theorem qEN(st:List Int)(k v:Int):qX st k v=if isC st k 1 then some (st.set k.toNat v) else none:=by
 unfold qX;by_cases h:isC st k 1=true
 ·obtain ⟨h0,h1,h2⟩:=qDd h;rw [if_pos h,if_pos];have:hasC st k=true:=by unfold hasC; simp; omega
  simp [this,h2]
 ·rw [if_neg h,if_neg];intro hh;apply h;simp only [Bool.and_eq_true,beq_iff_eq] at hh;have h0:=hh.1;unfold hasC at h0;simp only [Bool.and_eq_true,decide_eq_true_eq] at h0;simp [isC,h0.1,hh.2]
theorem RM.drop{w:World}{b:Nat}{st:List Int}(h:RM w b st)(k:Int)(hk:isC st k 1=true):∃w2,(Builtin.delete_ #[75,3] 0 #[.map (some b),.int .i64 k]).run Tryz.prog w=.ok (.tuple #[]) w2∧RM w2 b (st.set k.toNat 2)∧Below b w w2:=by
 have hl:=h.lt;obtain ⟨h0,hlt,hv⟩:=qDd hk;obtain ⟨h1,⟨l1,i1,e1⟩,⟨l2,i2,e2⟩⟩:=h;obtain ⟨w2,hrun,hI,hg,_⟩:=qI5 (P:=Tryz.prog) i1 Tryz.underlying75 Tryz.underlying3 k 0;have hkn:((k.toNat:Nat):Int)=k:=by omega
 refine ⟨w2,hrun,⟨?_,⟨_,hI,fun j=>?_⟩,⟨l2,i2.grown hg (fun e=>by injection e with e; omega),fun j=>?_⟩⟩,(Below.refl b w).grown hg (by omega) (fun k hk=>by injection hk with hk; omega)⟩
 ·rw [List.length_set];exact (hg.block _ hl (fun e=>by injection e with e; omega)).trans h1
 ·rw [qEp _ _ _ i1.keys,e1,qD9 st _ hlt,hkn];by_cases hj:k=j
  ·simp [hj]
  ·rw [if_neg hj,if_neg (Ne.symm hj)]
 ·rw [e2,qD9 st _ hlt,hkn];by_cases hj:j=k
  ·subst hj;have:isC st j 3=false:=by simp [isC,hv]
   rw [this]; simp
  ·rw [if_neg hj]
theorem RM.value{w:World}{b:Nat}{st:List Int}(h:RM w b st)(k:Int)(h0:0≤k)(hlt:k.toNat<st.length)(hv:st[k.toNat]? = some 2):∃w2,(Instr.mapUpdate 75 (.map (some (b+1))) (.int .i64 k) (.bool true)).run Tryz.prog w=.ok () w2∧RM w2 b (st.set k.toNat 3)∧Below b w w2:=by
 have hl:=h.lt;obtain ⟨h1,⟨l1,i1,e1⟩,⟨l2,i2,e2⟩⟩:=h;obtain ⟨w2,hrun,hI,hg,_⟩:=run_mapUpdate (P:=Tryz.prog) i2 Tryz.underlying75 Tryz.underlying3 k (.bool true);have hkn:((k.toNat:Nat):Int)=k:=by omega
 refine ⟨w2,hrun,⟨?_,⟨_,i1.grown hg (fun e=>by injection e with e; omega),fun j=>?_⟩,⟨_,hI,fun j=>?_⟩⟩,(Below.refl b w).grown hg (by omega) (fun k hk=>by injection hk with hk; omega)⟩
 ·rw [List.length_set];exact (hg.block _ hl (fun e=>by injection e with e; omega)).trans h1
 ·rw [e1,qD9 st _ hlt,hkn];by_cases hj:j=k
  ·subst hj;have:isC st j 1=false:=by simp [isC,hv]
   rw [this]; simp
  ·rw [if_neg hj]
 ·rw [lk_put,e2,qD9 st _ hlt,hkn];by_cases hj:k=j
  ·simp [hj]
  ·rw [if_neg hj,if_neg (Ne.symm hj)]
theorem RM.fills{w:World}{b:Nat}{st:List Int}(h:RM w b st)(k:Int)(hk:isC st k 1=true):∃w2,(Builtin.delete_ #[75,3] 0 #[.map (some b),.int .i64 k]).run Tryz.prog w=.ok (.tuple #[]) w2∧RM w2 b (st.set k.toNat 2)∧Below b w w2∧∃w3,(Instr.mapUpdate 75 (.map (some (b+1))) (.int .i64 k) (.bool true)).run Tryz.prog w2=.ok () w3∧RM w3 b (st.set k.toNat 3)∧Below b w w3:=by
 obtain ⟨h0,hlt,hv⟩:=qDd hk;obtain ⟨w2,hrun,hR,hB⟩:=h.drop k hk;obtain ⟨w3,hrun3,hR3,hB3⟩:=hR.value k h0 (by simpa using hlt) (by simp [hlt]);rw [List.set_set] at hR3;exact ⟨w2,hrun,hR,hB,w3,hrun3,hR3,hB.trans hB3⟩
set_option maxRecDepth 100000 in
set_option maxHeartbeats 2000000 in
theorem qBi(w:World)(b:Nat)(st:List Int)(k:Int)(v:Bool)(h:RM w b st):
 Calls Tryz.prog 115 #[.pointer (some ⟨b+2,0,none⟩),.int .i64 k,.bool v] w (Done b w (qX st k (if v then 3 else 2))):=by
 obtain ⟨d0,d1,d2,d3⟩:=h.facts;have hlk:=h.lookup k;cases hk:isC st k 1
 ·rw [qEN,hk];rw [hk] at hlk;clear hk h;go_enter Tryz.func115,Tryz.ntmps115;go_wp2_with fail;refine (qG _).mono ?_;rintro e w1 ⟨rfl,rfl⟩;go_wp2;exact ⟨rfl,rfl,Below.refl _ _⟩
 ·rw [qEN,hk];rw [hk] at hlk;obtain ⟨w2,hrun,hR,hB,w3,hrun3,hR3,hB3⟩:=h.fills k hk;have e1:=hR.facts.2.2.1;have H2:=qB.mk (And.intro hR hB);have H3:=qB.mk (And.intro hR3 hB3);clear hk h hR hB hR3 hB3;cases v
  ·go_enter Tryz.func115,Tryz.ntmps115;go_wp2_with fail;refine (qL _).mono ?_;rintro e w1 ⟨rfl,rfl⟩;go_wp2;go_end0;exact ⟨rfl,H2.out.1,H2.out.2⟩
  ·go_enter Tryz.func115,Tryz.ntmps115;go_wp2_with fail;refine (qL _).mono ?_;rintro e w1 ⟨rfl,rfl⟩;go_wp2;go_end0;exact ⟨rfl,H3.out.1,H3.out.2⟩
abbrev kOp:Kd GOp:=k59
abbrev kAl:Kd GAl:=k86
abbrev kBk:Kd GBk:=k55
abbrev kGl:Kd GGl:=k63
structure CM(w:World)(A:Option Addr)(ca:Nat)(A2:Option Addr)(cb:Nat)(bs:List GBk)(gl:List GGl):Prop where
 la:bs.length≤ca
 lb:gl.length≤cb
 ma:kBk.C w A bs.length bs
 mb:kGl.C w A2 gl.length gl
theorem CM.below{w w':World}{A:Option Addr}{ca:Nat}{A2:Option Addr}{cb:Nat}{bs:List GBk}{gl:List GGl}(h:CM w A ca A2 cb bs gl)(hb:Below w.heap.size w w'):CM w' A ca A2 cb bs gl:=
 ⟨h.la,h.lb,Kd.C_below h.ma hb,Kd.C_below h.mb hb⟩
structure CK(w:World)(p m:Nat)(A:Option Addr)(ca:Nat)(A2:Option Addr)(cb:Nat)(bs:List GBk)(gl:List GGl):Prop where
 box:w.heap[p]? = some (.cells #[.slice A bs.length ca,.slice A2 gl.length cb,.map (some m)] 77 (0,0))
 cm:CM w A ca A2 cb bs gl
theorem CK.lt{w:World}{p m:Nat}{A:Option Addr}{ca:Nat}{A2:Option Addr}{cb:Nat}{bs:List GBk}{gl:List GGl}(h:CK w p m A ca A2 cb bs gl):p<w.heap.size:=(Array.getElem?_eq_some_iff.1 h.box).1
theorem CK.below{w w':World}{p m:Nat}{A:Option Addr}{ca:Nat}{A2:Option Addr}{cb:Nat}{bs:List GBk}{gl:List GGl}(h:CK w p m A ca A2 cb bs gl)(hb:Below w.heap.size w w'):CK w' p m A ca A2 cb bs gl:=
 ⟨(hb.block _ h.lt).trans h.box,h.cm.below hb⟩
def BlkPost(w:World):Option GBk→Ending→World→Prop
 |some b,e,w'=>∃A c,e=.returned (.agg #[.int .i64 b.f0,.int .i64 b.f1,.slice A b.f2.length c])∧b.f2.length≤c∧kOp.C w' A b.f2.length b.f2∧Below w.heap.size w w'
 |none,e,w'=>e=.panicked qAJ∧Below w.heap.size w w'
theorem blk_in(bs:List GBk)(n:Int)(k:Int)(hk:k=bs.length):inB n 0 (k - 1)=(blkC bs n).isSome:=by
 unfold inB blkC;by_cases h0:0≤n
 ·simp only [h0,decide_true,Bool.true_and,if_true];by_cases h1:n≤k - 1
  ·have:n.toNat<bs.length:=by omega
   simp [h1,this]
  ·have:bs[n.toNat]? = none:=List.getElem?_eq_none (by omega);simp [h1,this]
 ·simp [h0]
set_option maxHeartbeats 2000000 in
set_option maxRecDepth 100000 in
theorem qBT(w:World)(p m:Nat)(A:Option Addr)(ca:Nat)(A2:Option Addr)(cb:Nat)(bs:List GBk)(gl:List GGl)(n:Int)(h:CK w p m A ca A2 cb bs gl):
 Calls Tryz.prog 63 #[.pointer (some ⟨p,0,none⟩),.int .i64 n] w (BlkPost w (blkC bs n)):=by
 have c0:=qD h.box (i:=0) rfl;have hm:bs.length≤9223372036854775807:=h.cm.ma.2.1;have hp:=h.lt;have HW:=Lib.hid (fun W=>qAF n 0 ((bs.length:Int) - 1) W);rw [blk_in bs n _ rfl] at HW;cases hb:blkC bs n with
 |none=>
  rw [hb] at HW;clear h hb;go_enter Tryz.func63,Tryz.ntmps63;go_wp2_with fail;refine (HW.out _).mono ?_;rintro e w1 ⟨rfl,rfl⟩;go_wp2_with fail;refine (qG _).mono ?_;rintro e w1 ⟨rfl,rfl⟩;go_wp2;exact ⟨rfl,rfl,qC (Below.refl _ _) _⟩
 |some b=>
  rw [hb] at HW;have h0:0≤n∧bs[n.toNat]? = some b:=by
   unfold blkC at hb;split at hb
   ·exact ⟨by assumption,hb⟩
   ·cases hb
  obtain ⟨hn0,hget⟩:=h0;have hlt:n.toNat<bs.length:=(List.getElem?_eq_some_iff.1 hget).1;obtain ⟨ad,A1,c1,rfl,g0,g1,g2,l1,C1⟩:=qAN h.cm.ma n hn0 (by omega);have hrd:qo bs n=b:=by simp [qo,List.getD_eq_getElem?_getD,hget]
  rw [hrd] at g0 g1 g2 l1 C1;have q0:=fun o=>qA (qC (Below.refl w.heap.size w) o) g0
  have q1:=fun o=>qA (qC (Below.refl w.heap.size w) o) g1
  have q2:=fun o=>qA (qC (Below.refl w.heap.size w) o) g2
  have H:=Lib.hid (And.intro l1 C1);clear h hb hrd hget l1 C1 g0 g1 g2;go_enter Tryz.func63,Tryz.ntmps63;go_wp2_with fail;refine (HW.out _).mono ?_;rintro e w1 ⟨rfl,rfl⟩;go_wp2_with fail;refine (qL _).mono ?_;rintro e w1 ⟨rfl,rfl⟩;go_wp2;refine bodyPost_ret (v:=.agg #[.int .i64 b.f0,.int .i64 b.f1,.slice A1 b.f2.length c1]) (by simp [results,Tryz.results63,go_sem]) rfl ?_;have hb:=(qC (Below.refl w.heap.size w) (.cells #[.int .i64 b.f0,.int .i64 b.f1,.slice A1 b.f2.length c1] 55));exact ⟨A1,c1,rfl,H.out.1,Kd.C_below H.out.2 hb,hb⟩
end Go.Proofs.YtoonkkipnljflaaGreatDoor.CJ
