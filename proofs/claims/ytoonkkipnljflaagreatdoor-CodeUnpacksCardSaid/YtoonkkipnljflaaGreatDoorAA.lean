/- Package term: areAlts: whether alternatives fit together. Conditions: the alternatives lie in memory, each with the number 0 as its body. Package term: areAlts, walked. Conditions: the alternatives lie in memory, each with the number 0 as its body. -/
import Derived.Test.YtoonkkipnljflaaGreatDoorTT
namespace Go.Proofs.YtoonkkipnljflaaGreatDoor.CJ
open Go.RowKit Go.Proofs.YtoonkkipnljflaaGreatDoorW.PrintWords Go.Proofs.YtoonkkipnljflaaGreatDoor.PT Go.Proofs.YtoonkkipnljflaaGreatDoor.IMaps
set_option linter.unusedVariables false
set_option linter.unusedSimpArgs false
def qAt(x:GAl):List Value:=[.int .i64 x.f0,.string x.f1,.int .i64 x.f2,.int .i64 3,.int .i64 0,.string ⟨#[]⟩,.slice none 0 0,.slice none 0 0]
def kPA:Kd GAl where
 sz:=8
 E:=[]
 K:=fun _ x cs=>cs=qAt x
 M:=fun _ _ _ x cs=>cs=qAt x
 K_len:=fun h=>by rw [h]; rfl
 K_one:=fun h u hu=>by
  rw [h] at hu;simp only [qAt,List.mem_cons,List.not_mem_nil,or_false] at hu;rcases hu with rfl|rfl|rfl|rfl|rfl|rfl|rfl|rfl<;>rfl
 K_below:=fun _ h=>h
 K_of_M:=fun h=>h
 M_mono:=fun _ h=>h
 M_bound:=fun h=>h
 M_move:=fun _ h=>h
 M_lower:=fun _ h=>h
def Q2(bef:List GAl)(a:GAl)(last:Bool):Bool:=
 if a.f0=1 then last&&a.f1.data.toList==[]&&a.f2==0
 else if a.f0=2 then qe a.f1.data.toList&&decide (0≤a.f2)&&decide (a.f2≤12)&&bef.all (fun b=>b.f0==2&&b.f1.data.toList != a.f1.data.toList)
 else if a.f0=3 then a.f1.data.toList==[]&&bef.all (fun b=>b.f0==3&&b.f2 != a.f2)
 else false
theorem qEt(bef:List GAl)(a:GAl)(r:List GAl):QW bef (a::r)=(Q2 bef a r.isEmpty&&QW (bef++[a]) r):=rfl
theorem qG5(l:List GAl)(i:Nat)(hi:i<l.length):QW (l.take i) (l.drop i)=(Q2 (l.take i) l[i] (decide (i+1=l.length))&&QW (l.take (i+1)) (l.drop (i+1))):=by
 rw [List.drop_eq_getElem_cons hi,qEt,List.take_succ_eq_append_getElem hi]
 congr 2
 by_cases h:i+1=l.length
 ·rw [decide_eq_true h,List.isEmpty_iff]; exact List.drop_eq_nil_of_le (by omega)
 ·rw [decide_eq_false h,←Bool.not_eq_true,List.isEmpty_iff,List.drop_eq_nil_iff]; omega
def qBD(bef:List GAl)(s:ByteArray):Bool:=bef.any fun b=>b.f0==2&&b.f1.data.toList==s.data.toList
def qBj(bef:List GAl)(n:Int):Bool:=bef.any fun b=>b.f0==3&&b.f2==n
structure AM(w wr:World)(bef:List GAl)(kind:Int):Prop where
 kinds:∀b∈bef,b.f0=kind
 none_:bef=[]↔kind=0
 two:kind=0∨kind=2∨kind=3
 names:∃l,SMaps.SM wr w.heap.size l∧∀s:ByteArray,SMaps.lk s l=if qBD bef s then some (.bool true) else none
 nums:∃l,IM wr (w.heap.size+1) l∧∀n,lk n l=if qBj bef n then some (.bool true) else none
 below:Below w.heap.size w wr
theorem AM.start(w:World):AM w ((w.alloc (.map #[] 0)).alloc (.map #[] 0)) [] 0:=by
 have h2:=IM.made (w.alloc (.map #[] 0));simp only [World.size_alloc] at h2;exact ⟨by simp,by simp,.inl rfl,⟨[],(SMaps.SM.made w).alloc _,fun _=>rfl⟩,⟨[],h2,fun _=>rfl⟩,qC (qC (Below.refl _ _) _) _⟩
theorem AM.step{w w1 w2:World}{bef:List GAl}{kind:Int}(h:AM w w1 bef kind)(hb:Below w1.heap.size w1 w2):AM w w2 bef kind:=by
 obtain ⟨h1,h2,h3,⟨ln,n1,n2⟩,⟨lm,m1,m2⟩,h6⟩:=h;exact ⟨h1,h2,h3,⟨ln,n1.below hb,n2⟩,⟨lm,m1.below hb,m2⟩,qF h6 hb⟩
theorem AM.name{w wr:World}{bef:List GAl}{kind:Int}(h:AM w wr bef kind)(s:ByteArray):(Instr.lookup 112 (.map (some w.heap.size)) (.string s) false).run Tryz.prog wr=.ok (.bool (qBD bef s)) wr:=by
 obtain ⟨l,i1,e1⟩:=h.names;rw [SMaps.run_lookup i1 Tryz.underlying112 Tryz.underlying9 (z:=.bool false) (by kernel_rfl) s false,e1];cases qBD bef s<;>rfl
theorem AM.num{w wr:World}{bef:List GAl}{kind:Int}(h:AM w wr bef kind)(n:Int):(Instr.lookup 75 (.map (some (w.heap.size+1))) (.int .i64 n) false).run Tryz.prog wr=.ok (.bool (qBj bef n)) wr:=by
 obtain ⟨l,i1,e1⟩:=h.nums;rw [run_lookup i1 Tryz.underlying75 Tryz.underlying3 (z:=.bool false) (by kernel_rfl) n false,e1];cases qBj bef n<;>rfl
theorem qFc{α:Type}{p q:α→Bool}:∀ {l:List α},(∀b∈l,p b=q b)→l.all p=l.all q
 | [],_=>rfl
 |x::r,h=>by
  rw [List.all_cons,List.all_cons,h x List.mem_cons_self,qFc (fun b hb=>h b (List.mem_cons_of_mem _ hb))]
theorem AM.two_ok{w wr:World}{bef:List GAl}{kind:Int}(h:AM w wr bef kind)(a:GAl):bef.all (fun b=>b.f0==2&&b.f1.data.toList != a.f1.data.toList)=((kind==0||kind==2) && !qBD bef a.f1):=by
 have e:∀b∈bef,(b.f0==2&&b.f1.data.toList != a.f1.data.toList)=(kind==2 && !(b.f0==2&&b.f1.data.toList==a.f1.data.toList)):=by
  intro b hb;have:=h.kinds b hb;rw [this];cases hk:kind==2<;>simp [bne]
 rw [qFc e];unfold qBD;rcases h.two with hk|hk|hk
 ·have:=h.none_.2 hk;subst this; simp [hk]
 ·subst hk;simp only [beq_self_eq_true,Bool.true_and];rw [List.any_eq_not_all_not];simp
 ·subst hk;have hne:bef≠[]:=fun e=>by have:=h.none_.1 e; omega
  cases bef with
  |nil=>exact absurd rfl hne
  |cons x r=>simp
theorem AM.three_ok{w wr:World}{bef:List GAl}{kind:Int}(h:AM w wr bef kind)(a:GAl):bef.all (fun b=>b.f0==3&&b.f2 != a.f2)=((kind==0||kind==3) && !qBj bef a.f2):=by
 have e:∀b∈bef,(b.f0==3&&b.f2 != a.f2)=(kind==3 && !(b.f0==3&&b.f2==a.f2)):=by
  intro b hb;have:=h.kinds b hb;rw [this];cases hk:kind==3<;>simp [bne]
 rw [qFc e];unfold qBj;rcases h.two with hk|hk|hk
 ·have:=h.none_.2 hk;subst this; simp [hk]
 ·subst hk;have hne:bef≠[]:=fun e=>by have:=h.none_.1 e; omega
  cases bef with
  |nil=>exact absurd rfl hne
  |cons x r=>simp
 ·subst hk;simp only [beq_self_eq_true,Bool.true_and];rw [List.any_eq_not_all_not];simp
theorem AM.putName{w wr:World}{bef:List GAl}{kind:Int}(h:AM w wr bef kind)(a:GAl)(ha:a.f0=2)(hk:kind=0∨kind=2):∃w2,(Instr.mapUpdate 112 (.map (some w.heap.size)) (.string a.f1) (.bool true)).run Tryz.prog wr=.ok () w2∧AM w w2 (bef++[a]) 2∧∀b,b≠w.heap.size→b<wr.heap.size→w2.heap[b]? = wr.heap[b]? := by
 obtain ⟨h1,h2,h3,⟨ln,n1,n2⟩,⟨lm,m1,m2⟩,h6⟩:=h;obtain ⟨w2,hrun,hI,hg,_⟩:=SMaps.run_mapUpdate (P:=Tryz.prog) n1 Tryz.underlying112 Tryz.underlying9 a.f1 (.bool true);refine ⟨w2,hrun,⟨?_,by simp,.inr (.inl rfl),⟨_,hI,fun s=>?_⟩,⟨lm,m1.grown hg (fun e=>by injection e with e; omega),fun n=>?_⟩,h6.grown hg h6.size (fun k hk=>by injection hk with hk; omega)⟩,fun b hb hlt=>hg.block b hlt (fun e=>by injection e with e; exact hb e)⟩
 ·intro b hb;rcases List.mem_append.1 hb with hb|hb
  ·have:=h1 b hb;rcases hk with hk|hk
   ·have:=h2.2 hk; subst this; simp at hb
   ·omega
  ·rw [List.mem_singleton.1 hb,ha]
 ·rw [SMaps.lk_put,n2];unfold qBD;rw [List.any_append];by_cases hs:a.f1=s
  ·subst hs; simp [ha]
  ·have:(a.f1.data.toList==s.data.toList)=false:=beq_eq_false_iff_ne.2 (fun e=>hs (Go.WideShapes.bytes_inj e));rw [if_neg hs];simp only [List.any_cons,List.any_nil,this,Bool.and_false,Bool.or_false]
 ·rw [m2];unfold qBj;rw [List.any_append];simp [ha]
theorem AM.putNum{w wr:World}{bef:List GAl}{kind:Int}(h:AM w wr bef kind)(a:GAl)(ha:a.f0=3)(hk:kind=0∨kind=3):∃w2,(Instr.mapUpdate 75 (.map (some (w.heap.size+1))) (.int .i64 a.f2) (.bool true)).run Tryz.prog wr=.ok () w2∧AM w w2 (bef++[a]) 3∧∀b,b≠w.heap.size+1→b<wr.heap.size→w2.heap[b]? = wr.heap[b]? := by
 obtain ⟨h1,h2,h3,⟨ln,n1,n2⟩,⟨lm,m1,m2⟩,h6⟩:=h;obtain ⟨w2,hrun,hI,hg,_⟩:=run_mapUpdate (P:=Tryz.prog) m1 Tryz.underlying75 Tryz.underlying3 a.f2 (.bool true);refine ⟨w2,hrun,⟨?_,by simp,.inr (.inr rfl),⟨ln,n1.grown hg (fun e=>by injection e with e; omega),fun s=>?_⟩,⟨_,hI,fun n=>?_⟩,h6.grown hg h6.size (fun k hk=>by injection hk with hk; omega)⟩,fun b hb hlt=>hg.block b hlt (fun e=>by injection e with e; exact hb e)⟩
 ·intro b hb;rcases List.mem_append.1 hb with hb|hb
  ·have:=h1 b hb;rcases hk with hk|hk
   ·have:=h2.2 hk; subst this; simp at hb
   ·omega
  ·rw [List.mem_singleton.1 hb,ha]
 ·rw [n2];unfold qBD;rw [List.any_append];simp [ha]
 ·rw [lk_put,m2];unfold qBj;rw [List.any_append];by_cases hs:a.f2=n
  ·subst hs; simp [ha]
  ·have:(a.f2==n)=false:=beq_eq_false_iff_ne.2 hs;simp [hs,this]
theorem AM.putNameAny{w wr:World}{bef:List GAl}{kind:Int}(h:AM w wr bef kind)(s:ByteArray):∃w2,(Instr.mapUpdate 112 (.map (some w.heap.size)) (.string s) (.bool true)).run Tryz.prog wr=.ok () w2∧Below w.heap.size w w2∧∀b,b≠w.heap.size→b<wr.heap.size→w2.heap[b]? = wr.heap[b]? := by
 obtain ⟨h1,h2,h3,⟨ln,n1,n2⟩,⟨lm,m1,m2⟩,h6⟩:=h;obtain ⟨w2,hrun,hI,hg,_⟩:=SMaps.run_mapUpdate (P:=Tryz.prog) n1 Tryz.underlying112 Tryz.underlying9 s (.bool true);exact ⟨w2,hrun,h6.grown hg h6.size (fun k hk=>by injection hk with hk; omega),fun b hb hlt=>hg.block b hlt (fun e=>by injection e with e; exact hb e)⟩
theorem AM.putNumAny{w wr:World}{bef:List GAl}{kind:Int}(h:AM w wr bef kind)(n:Int):∃w2,(Instr.mapUpdate 75 (.map (some (w.heap.size+1))) (.int .i64 n) (.bool true)).run Tryz.prog wr=.ok () w2∧Below w.heap.size w w2∧∀b,b≠w.heap.size+1→b<wr.heap.size→w2.heap[b]? = wr.heap[b]? := by
 obtain ⟨h1,h2,h3,⟨ln,n1,n2⟩,⟨lm,m1,m2⟩,h6⟩:=h;obtain ⟨w2,hrun,hI,hg,_⟩:=run_mapUpdate (P:=Tryz.prog) m1 Tryz.underlying75 Tryz.underlying3 n (.bool true);exact ⟨w2,hrun,h6.grown hg h6.size (fun k hk=>by injection hk with hk; omega),fun b hb hlt=>hg.block b hlt (fun e=>by injection e with e; exact hb e)⟩
def zAl:GAl:=⟨0,⟨#[]⟩,0,0⟩
theorem at_PA{w:World}{A:Option Addr}{n:Nat}{xs:List GAl}(h:Kd.C kPA w A n xs)(i:Nat)(h1:i<n):∃ad,A=some ad∧w.cell? (ad.add (i*8))=some (.int .i64 (xs.getD i zAl).f0)∧w.cell? ⟨(ad.add (i*8)).block,(ad.add (i*8)).off+1,none⟩=some (.string (xs.getD i zAl).f1)∧w.cell? ⟨(ad.add (i*8)).block,(ad.add (i*8)).off+2,none⟩=some (.int .i64 (xs.getD i zAl).f2) ∧
 w.cell? ⟨(ad.add (i*8)).block,(ad.add (i*8)).off+3,none⟩=some (.int .i64 3)∧w.cell? ⟨(ad.add (i*8)).block,(ad.add (i*8)).off+4,none⟩=some (.int .i64 0)∧w.cell? ⟨(ad.add (i*8)).block,(ad.add (i*8)).off+5,none⟩=some (.string ⟨#[]⟩)∧w.cell? ⟨(ad.add (i*8)).block,(ad.add (i*8)).off+6,none⟩=some (.slice none 0 0)∧w.cell? ⟨(ad.add (i*8)).block,(ad.add (i*8)).off+7,none⟩=some (.slice none 0 0):=by
 obtain ⟨ad,c,e,_,hK,hc0⟩:=Kd.C_get h zAl (i:Int) (by omega) (by omega);have hc:∀j u,c[j]? = some u→w.cell? (ad.add (i*8+j))=some u:=hc0;have hK':c=qAt (xs.getD i zAl):=hK;subst hK';exact ⟨ad,e,hc 0 _ rfl,by rw [←qy _ _ 1 (by omega)]; exact hc 1 _ rfl,by rw [←qy _ _ 2 (by omega)]; exact hc 2 _ rfl,by rw [←qy _ _ 3 (by omega)]; exact hc 3 _ rfl,by rw [←qy _ _ 4 (by omega)]; exact hc 4 _ rfl,by rw [←qy _ _ 5 (by omega)]; exact hc 5 _ rfl,by rw [←qy _ _ 6 (by omega)]; exact hc 6 _ rfl,by rw [←qy _ _ 7 (by omega)]; exact hc 7 _ rfl⟩
structure AT(w wr:World)(l:List GAl)(i:Nat)(kind:Int):Prop where
 below:Below w.heap.size w wr
 run:QW [] l=QW (l.take i) (l.drop i)
 maps:i<l.length→AM w wr (l.take i) kind
theorem AT.round{w wr:World}{l:List GAl}{i:Nat}{kind:Int}(h:AT w wr l i kind)(hi:i<l.length):QW [] l=(Q2 (l.take i) (l.getD i zAl) (decide (i+1=l.length))&&QW (l.take (i+1)) (l.drop (i+1)))∧l.take (i+1)=l.take i++[l.getD i zAl]∧AM w wr (l.take i) kind:=by
 have e:l.getD i zAl=l[i]:=by simp [List.getD_eq_getElem?_getD,List.getElem?_eq_getElem hi]
 rw [e];exact ⟨h.run.trans (qG5 l i hi),List.take_succ_eq_append_getElem hi,h.maps hi⟩
theorem AT.last{w wr:World}{l:List GAl}{kind:Int}(h:AT w wr l l.length kind):QW [] l=true:=by
 rw [h.run,List.drop_length]; cases hh:l.take l.length<;>rfl
theorem ok_one{bef:List GAl}{a:GAl}{last:Bool}(h:a.f0=1):Q2 bef a last=(last&&a.f1.data.toList==[]&&a.f2==0):=by unfold Q2; rw [if_pos h]
theorem ok_two{w wr:World}{bef:List GAl}{kind:Int}(hm:AM w wr bef kind){a:GAl}{last:Bool}(h:a.f0=2):Q2 bef a last=(qe a.f1.data.toList&&inB a.f2 0 12&&((kind==0||kind==2) && !qBD bef a.f1)):=by
 unfold Q2 inB;rw [if_neg (by omega),if_pos h,hm.two_ok a,Bool.and_assoc (qe _)]
theorem ok_three{w wr:World}{bef:List GAl}{kind:Int}(hm:AM w wr bef kind){a:GAl}{last:Bool}(h:a.f0=3):Q2 bef a last=(a.f1.data.toList==[]&&((kind==0||kind==3) && !qBj bef a.f2)):=by
 unfold Q2;rw [if_neg (by omega),if_neg (by omega),if_pos h,hm.three_ok a]
theorem qId{bef:List GAl}{a:GAl}{last:Bool}(h1:¬a.f0=1)(h2:¬a.f0=2)(h3:¬a.f0=3):Q2 bef a last=false:=by
 unfold Q2; rw [if_neg h1,if_neg h2,if_neg h3]
set_option maxRecDepth 100000 in
set_option maxHeartbeats 8000000 in
theorem qDT(w:World)(l:List GAl)(A:Option Addr)(c:Nat)(hc:l.length≤c)(C1:kPA.C w A l.length l)(hs:∀a∈l,a.f1.size≤maxLen):
 Calls Tryz.prog 169 #[.slice A l.length c] w fun e w'=>e=.returned (.bool (QW [] l))∧Below w.heap.size w w':=by
 have hmm:=@run_makeMap Tryz.prog;have hm:l.length≤9223372036854775807:=C1.2.1;have HC:=Lib.hid C1;have HS:=Lib.hid hs;clear C1 hs;go_enter Tryz.func169,Tryz.ntmps169;go_wp2
 go_loopw [3,12] (fun kv v wr=>∃i:Nat,∃kind:Int,i≤l.length∧v=.int .i64 i∧kv=.int .i64 kind∧qB (AT w wr l i kind)) (fun _ v _=>l.length - (intOf v).toNat)
 case atStart=>exact ⟨0,0,by omega,rfl,rfl,⟨⟨qC (qC (Below.refl _ _) _) _,by simp,fun _=>AM.start w⟩⟩⟩
 case round=>
  obtain ⟨i,kind,hi,rfl,rfl,HA⟩:=hrel;clear hmm;by_cases hlt:i<l.length
  ·obtain ⟨ad,rfl,g0,g1,g2,g3,g4,g5,g6,g7⟩:=at_PA HC.out i hlt;obtain ⟨r1,r2,r3⟩:=HA.out.round hlt;have HBw:=HA.out.below;have hsz:(l.getD i zAl).f1.size≤maxLen:=HS.out _ (by simp [List.getD_eq_getElem?_getD,List.getElem?_eq_getElem hlt]);generalize l.getD i zAl=a at *;obtain ⟨x0,x1,x2,x3⟩:=a;simp only at g0 g1 g2;replace g0:=qA HBw g0;replace g1:=qA HBw g1;replace g2:=qA HBw g2;replace g3:=qA HBw g3;replace g4:=qA HBw g4;replace g5:=qA HBw g5;replace g6:=qA HBw g6;replace g7:=qA HBw g7;have HR:=Lib.hid (And.intro r1 r2);have HM:=Lib.hid r3;have HSz:=Lib.hid hsz;clear r1 r2 r3 hsz HBw;have h12:x0=1∨x0=2∨x0=3∨(¬x0=1∧¬x0=2∧¬x0=3):=by omega
   rcases h12 with rfl|rfl|rfl|⟨n1,n2,n3⟩
   ·have HO:=Lib.hid (ok_one (bef:=l.take i) (a:=⟨1,x1,x2,x3⟩) (last:=decide (i+1=l.length)) rfl);simp only at HO;rw [←ByteArray.toList_eq] at HO;have hbe:=qC HA.out.below (.cells #[.int .i64 1,.string x1,.int .i64 x2,.int .i64 3,.int .i64 0,.string ⟨#[]⟩,.slice none 0 0,.slice none 0 0] 178);have HB:=qB.mk hbe;clear hbe;by_cases hla:i+1=l.length
    ·have HL:=Lib.hid hla;have hd:((i:Int) != (l.length:Int) - 1)=false:=by simp; omega
     clear hla;go_wp2
     all_goals
      first
      | (go_ret
         refine ⟨?_,HB.out⟩;rw [HR.out.1,HO.out]
         simp_all
         done)
      | (go_roundw
         case rel=>exact ⟨i+1,kind,by omega,by go_num,rfl,⟨HB.out,by rw [HR.out.1,HO.out]; have:=HL.out; simp_all,fun hh=>by have:=HL.out; omega⟩⟩
         case measure=>simp [intOf]; omega)
    ·have HF:Hid (QW [] l=false):=Lib.hid (by rw [HR.out.1,HO.out,decide_eq_false hla]; rfl);have hd:((i:Int) != (l.length:Int) - 1)=true:=by simp; omega
     clear hla;go_wp2;go_ret;exact ⟨by rw [HF.out]; rfl,HB.out⟩
   ·have HO:=Lib.hid (ok_two (bef:=l.take i) (a:=⟨2,x1,x2,x3⟩) (last:=decide (i+1=l.length)) HM.out rfl);simp only at HO;have hbe:=qC (Below.refl wr.heap.size wr) (.cells #[.int .i64 2,.string x1,.int .i64 x2,.int .i64 3,.int .i64 0,.string ⟨#[]⟩,.slice none 0 0,.slice none 0 0] 178);have hM1:=HM.out.step hbe;have hnm:=hM1.name x1;have HB:=qB.mk (qF HA.out.below hbe);have HN:=Lib.hid (qA5 x1 HSz.out);have HW:=Lib.hid (qCD x2 0 12);have HP:=Lib.hid (fun hk=>hM1.putName ⟨2,x1,x2,x3⟩ rfl hk);have HQ:=Lib.hid (hM1.putNameAny x1);have h0:(wr.alloc (.cells #[.int .i64 2,.string x1,.int .i64 x2,.int .i64 3,.int .i64 0,.string ⟨#[]⟩,.slice none 0 0,.slice none 0 0] 178)).heap[wr.heap.size]? = some (.cells #[.int .i64 2,.string x1,.int .i64 x2,.int .i64 3,.int .i64 0,.string ⟨#[]⟩,.slice none 0 0,.slice none 0 0] 178 (0,0)):=(MapKept.heap_alloc wr _).1;have H0:=Lib.hid h0;have Hw:=Lib.hid HA.out.below.size;clear hbe hM1 h0;generalize qBD (l.take i) x1=hn at *;generalize qe x1.data.toList=nb at *;generalize inB x2 0 12=ib at *;cases nb
    ·have HF:Hid (QW [] l=false):=Lib.hid (by rw [HR.out.1,HO.out]; rfl);go_wp2_with fail;refine (HN.out _).mono ?_;rintro e w1 ⟨rfl,rfl⟩;go_wp2;go_ret;exact ⟨by rw [HF.out]; rfl,HB.out⟩
    ·cases hn
     ·cases ib
      ·have HF:Hid (QW [] l=false):=Lib.hid (by rw [HR.out.1,HO.out]; rfl);go_wp2_with fail;refine (HN.out _).mono ?_;rintro e w1 ⟨rfl,rfl⟩;go_wp2_with fail;refine (HW.out _).mono ?_;rintro e w1 ⟨rfl,rfl⟩;go_wp2;go_ret;exact ⟨by rw [HF.out]; rfl,HB.out⟩
      ·rcases HM.out.two with hk|hk|hk
       ·obtain ⟨w2,hrun,hA2,hfr⟩:=HP.out (.inl hk);have k0:w2.cell? ⟨wr.heap.size,0,none⟩=some (.int .i64 2):=qD ((hfr _ (by have:=Hw.out; have:=HM.out.below.size; obtain ⟨ln,n1,_⟩:=HM.out.names; have:=n1.lt; omega) (by simp)).trans H0.out) rfl;have HA2:=Lib.hid hA2;clear hA2 hfr HP;subst hk;go_wp2_with fail;refine (HN.out _).mono ?_;rintro e w1 ⟨rfl,rfl⟩;go_wp2_with fail;refine (HW.out _).mono ?_;rintro e w1 ⟨rfl,rfl⟩;go_wp2;go_roundw
        case rel=>exact ⟨i+1,2,by omega,by go_num,rfl,⟨⟨HA2.out.below,by rw [HR.out.1,HO.out]; rfl,fun _=>by rw [HR.out.2]; exact HA2.out⟩⟩⟩
        case measure=>simp [intOf]; omega
       ·obtain ⟨w2,hrun,hA2,hfr⟩:=HP.out (.inr hk);have k0:w2.cell? ⟨wr.heap.size,0,none⟩=some (.int .i64 2):=qD ((hfr _ (by have:=Hw.out; have:=HM.out.below.size; obtain ⟨ln,n1,_⟩:=HM.out.names; have:=n1.lt; omega) (by simp)).trans H0.out) rfl;have HA2:=Lib.hid hA2;clear hA2 hfr HP;subst hk;go_wp2_with fail;refine (HN.out _).mono ?_;rintro e w1 ⟨rfl,rfl⟩;go_wp2_with fail;refine (HW.out _).mono ?_;rintro e w1 ⟨rfl,rfl⟩;go_wp2;go_roundw
        case rel=>exact ⟨i+1,2,by omega,by go_num,rfl,⟨⟨HA2.out.below,by rw [HR.out.1,HO.out]; rfl,fun _=>by rw [HR.out.2]; exact HA2.out⟩⟩⟩
        case measure=>simp [intOf]; omega
       ·have HF:Hid (QW [] l=false):=Lib.hid (by rw [HR.out.1,HO.out,hk]; rfl);obtain ⟨w2,hrun,hB2,hfr⟩:=HQ.out;have k0:w2.cell? ⟨wr.heap.size,0,none⟩=some (.int .i64 2):=qD ((hfr _ (by have:=Hw.out; have:=HM.out.below.size; obtain ⟨ln,n1,_⟩:=HM.out.names; have:=n1.lt; omega) (by simp)).trans H0.out) rfl;have HB2:=qB.mk hB2;clear hB2 hfr HP HQ;subst hk;go_wp2_with fail;refine (HN.out _).mono ?_;rintro e w1 ⟨rfl,rfl⟩;go_wp2_with fail;refine (HW.out _).mono ?_;rintro e w1 ⟨rfl,rfl⟩;go_wp2;go_ret;exact ⟨by rw [HF.out]; rfl,HB2.out⟩
     ·have HF:Hid (QW [] l=false):=Lib.hid (by rw [HR.out.1,HO.out]; simp);go_wp2_with fail;refine (HN.out _).mono ?_;rintro e w1 ⟨rfl,rfl⟩;go_wp2;go_ret;exact ⟨by rw [HF.out]; rfl,HB.out⟩
   ·have HO:=Lib.hid (ok_three (bef:=l.take i) (a:=⟨3,x1,x2,x3⟩) (last:=decide (i+1=l.length)) HM.out rfl);simp only at HO;rw [←ByteArray.toList_eq] at HO;have hbe:=qC (Below.refl wr.heap.size wr) (.cells #[.int .i64 3,.string x1,.int .i64 x2,.int .i64 3,.int .i64 0,.string ⟨#[]⟩,.slice none 0 0,.slice none 0 0] 178);have hM1:=HM.out.step hbe;have hnm:=hM1.num x2;have HB:=qB.mk (qF HA.out.below hbe);have HP:=Lib.hid (fun hk=>hM1.putNum ⟨3,x1,x2,x3⟩ rfl hk);have HQ:=Lib.hid (hM1.putNumAny x2);have h0:(wr.alloc (.cells #[.int .i64 3,.string x1,.int .i64 x2,.int .i64 3,.int .i64 0,.string ⟨#[]⟩,.slice none 0 0,.slice none 0 0] 178)).heap[wr.heap.size]? = some (.cells #[.int .i64 3,.string x1,.int .i64 x2,.int .i64 3,.int .i64 0,.string ⟨#[]⟩,.slice none 0 0,.slice none 0 0] 178 (0,0)):=(MapKept.heap_alloc wr _).1;have H0:=Lib.hid h0;clear hbe hM1 h0;generalize qBj (l.take i) x2=hn at *;by_cases hs:x1.toList=[]
    ·have HO2:Hid (Q2 (l.take i) ⟨3,x1,x2,x3⟩ (decide (i+1=l.length))=((kind==0||kind==3) && !hn)):=Lib.hid (by rw [HO.out,hs]; rfl);cases hn
     ·have HL:Hid (wr.heap.size≠w.heap.size+1):=Lib.hid (by obtain ⟨ln,n1,_⟩:=HM.out.nums; have:=n1.lt; omega);rcases HM.out.two with hk|hk|hk
      ·obtain ⟨w2,hrun,hA2,hfr⟩:=HP.out (.inl hk);have k0:w2.cell? ⟨wr.heap.size,0,none⟩=some (.int .i64 3):=qD ((hfr _ HL.out (by simp)).trans H0.out) rfl;have HA2:=Lib.hid hA2;clear hA2 hfr HP HQ;subst hk;go_wp2;go_roundw
       case rel=>exact ⟨i+1,3,by omega,by go_num,rfl,⟨⟨HA2.out.below,by rw [HR.out.1,HO2.out]; rfl,fun _=>by rw [HR.out.2]; exact HA2.out⟩⟩⟩
       case measure=>simp [intOf]; omega
      ·have HF:Hid (QW [] l=false):=Lib.hid (by rw [HR.out.1,HO2.out,hk]; rfl);obtain ⟨w2,hrun,hB2,hfr⟩:=HQ.out;have k0:w2.cell? ⟨wr.heap.size,0,none⟩=some (.int .i64 3):=qD ((hfr _ HL.out (by simp)).trans H0.out) rfl;have HB2:=qB.mk hB2;clear hB2 hfr HP HQ;subst hk;go_wp2;go_ret;exact ⟨by rw [HF.out]; rfl,HB2.out⟩
      ·obtain ⟨w2,hrun,hA2,hfr⟩:=HP.out (.inr hk);have k0:w2.cell? ⟨wr.heap.size,0,none⟩=some (.int .i64 3):=qD ((hfr _ HL.out (by simp)).trans H0.out) rfl;have HA2:=Lib.hid hA2;clear hA2 hfr HP HQ;subst hk;go_wp2;go_roundw
       case rel=>exact ⟨i+1,3,by omega,by go_num,rfl,⟨⟨HA2.out.below,by rw [HR.out.1,HO2.out]; rfl,fun _=>by rw [HR.out.2]; exact HA2.out⟩⟩⟩
       case measure=>simp [intOf]; omega
     ·have HF:Hid (QW [] l=false):=Lib.hid (by rw [HR.out.1,HO2.out]; simp);go_wp2;go_ret;exact ⟨by rw [HF.out]; rfl,HB.out⟩
    ·have HF:Hid (QW [] l=false):=Lib.hid (by rw [HR.out.1,HO.out,beq_eq_false_iff_ne.2 hs]; rfl);go_wp2;go_ret;exact ⟨by rw [HF.out]; rfl,HB.out⟩
   ·have HO:=Lib.hid (qId (bef:=l.take i) (a:=⟨x0,x1,x2,x3⟩) (last:=decide (i+1=l.length)) n1 n2 n3);have HF:Hid (QW [] l=false):=Lib.hid (by rw [HR.out.1,HO.out]; rfl);go_wp2;go_ret;exact ⟨by rw [HF.out]; rfl,qC HA.out.below _⟩
  ·obtain rfl:i=l.length:=by omega
   have HF:=Lib.hid HA.out.last;go_wp2;go_ret;exact ⟨by rw [HF.out]; rfl,HA.out.below⟩
end Go.Proofs.YtoonkkipnljflaaGreatDoor.CJ
