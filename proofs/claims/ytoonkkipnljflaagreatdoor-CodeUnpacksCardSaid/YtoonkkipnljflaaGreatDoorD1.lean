/- What the checker's method all goes by: its maps, as plain data. Conditions: none beyond the blocks' being such maps. The checker's method all: a whole code. Conditions: the checker and the code lie in memory; strings are not too long; the listed variables are laid. -/
import Derived.Test.YtoonkkipnljflaaGreatDoorC9
namespace Go.Proofs.YtoonkkipnljflaaGreatDoor.CJ
open Go.RowKit Go.Proofs.YtoonkkipnljflaaGreatDoorW.PrintWords Go.Proofs.YtoonkkipnljflaaGreatDoorW.PrintLast Go.Proofs.YtoonkkipnljflaaGreatDoor.PT Go.Proofs.YtoonkkipnljflaaGreatDoor.IMaps
set_option linter.unusedVariables false
set_option linter.unusedSimpArgs false
def hasG(bef:List GGl)(s:ByteArray):Bool:=bef.any fun b=>b.f0.data.toList==s.data.toList
structure NM(wr:World)(N:Nat)(bef:List GGl):Prop where
 names:∃l,SMaps.SM wr N l∧∀s:ByteArray,SMaps.lk s l=if hasG bef s then some (.bool true) else none
theorem NM.below{w w':World}{N:Nat}{bef:List GGl}(h:NM w N bef)(hb:Below w.heap.size w w'):NM w' N bef:=by
 obtain ⟨l,h1,h2⟩:=h.names;exact ⟨l,h1.below hb,h2⟩
theorem NM.made(w:World):NM (w.alloc (.map #[] 0)) w.heap.size []:=⟨[],SMaps.SM.made w,fun _=>rfl⟩
theorem NM.lookup{w:World}{N:Nat}{bef:List GGl}(h:NM w N bef)(s:ByteArray):(Instr.lookup 112 (.map (some N)) (.string s) false).run Tryz.prog w=.ok (.bool (hasG bef s)) w:=by
 obtain ⟨l,i1,e1⟩:=h.names;rw [SMaps.run_lookup i1 Tryz.underlying112 Tryz.underlying9 (z:=.bool false) (by kernel_rfl) s false,e1];cases hasG bef s<;>rfl
theorem NM.put{w:World}{N:Nat}{bef:List GGl}(h:NM w N bef)(g:GGl):∃w2,(Instr.mapUpdate 112 (.map (some N)) (.string g.f0) (.bool true)).run Tryz.prog w=.ok () w2∧NM w2 N (bef++[g])∧w.grownBy w2 (some N):=by
 obtain ⟨l,i1,e1⟩:=h.names;obtain ⟨w2,hrun,hI,hg,_⟩:=SMaps.run_mapUpdate (P:=Tryz.prog) i1 Tryz.underlying112 Tryz.underlying9 g.f0 (.bool true);refine ⟨w2,hrun,⟨_,hI,fun s=>?_⟩,hg⟩;rw [SMaps.lk_put,e1];unfold hasG;rw [List.any_append];by_cases hs:g.f0=s
 ·subst hs; simp
 ·have:(g.f0.data.toList==s.data.toList)=false:=beq_eq_false_iff_ne.2 (fun e=>hs (Go.WideShapes.bytes_inj e));rw [if_neg hs];simp only [List.any_cons,List.any_nil,this,Bool.or_false]
structure SN(wr:World)(m:Nat)(seen:List Int):Prop where
 alts:∃l,IM wr m l∧∀n,lk n l=if seen.contains n then some (.bool true) else none
theorem SN.below{w w':World}{m:Nat}{seen:List Int}(h:SN w m seen)(hb:Below w.heap.size w w'):SN w' m seen:=by
 obtain ⟨l,h1,h2⟩:=h.alts;exact ⟨l,h1.below hb,h2⟩
theorem SN.of_block{w w':World}{m:Nat}{seen:List Int}(h:SN w m seen)(hb:w'.heap[m]? = w.heap[m]?):SN w' m seen:=by
 obtain ⟨l,h1,h2⟩:=h.alts;exact ⟨l,h1.of_block hb,h2⟩
theorem SN.lt{w:World}{m:Nat}{seen:List Int}(h:SN w m seen):m<w.heap.size:=by obtain ⟨l,h1,_⟩:=h.alts; exact h1.lt
theorem SN.lookup{w:World}{m:Nat}{seen:List Int}(h:SN w m seen)(n:Int):(Instr.lookup 75 (.map (some m)) (.int .i64 n) false).run Tryz.prog w=.ok (.bool (seen.contains n)) w:=by
 obtain ⟨l,i1,e1⟩:=h.alts;rw [run_lookup i1 Tryz.underlying75 Tryz.underlying3 (z:=.bool false) (by kernel_rfl) n false,e1];cases seen.contains n<;>rfl
theorem SN.put{w:World}{m:Nat}{seen:List Int}(h:SN w m seen)(k:Int):∃w2,(Instr.mapUpdate 75 (.map (some m)) (.int .i64 k) (.bool true)).run Tryz.prog w=.ok () w2∧SN w2 m (seen++[k])∧w.grownBy w2 (some m):=by
 obtain ⟨l,i1,e1⟩:=h.alts;obtain ⟨w2,hrun,hI,hg,_⟩:=run_mapUpdate (P:=Tryz.prog) i1 Tryz.underlying75 Tryz.underlying3 k (.bool true);refine ⟨w2,hrun,⟨_,hI,fun n=>?_⟩,hg⟩;rw [lk_put,e1];by_cases hn:k=n
 ·subst hn; simp
 ·have:¬n=k:=fun e=>hn e.symm
  rw [if_neg hn];simp [List.contains_eq_any_beq,List.any_append,this]
def qAp(l:List GOp):List Int:=l.flatMap fun g=>g.f6.map (·.f3)
def qAZ(bs:List GBk):List Int:=bs.flatMap fun b=>qAp b.f2
theorem qKO(bs:List GBk)(n:Int):(qAZ bs).contains n=qAB bs n:=by
 unfold qAZ qAp qAB;rw [Bool.eq_iff_iff];simp only [List.contains_iff_mem,List.mem_flatMap,List.mem_map,List.any_eq_true,beq_iff_eq]
theorem Qc{α β:Type}(f:α→List β)(l:List α)(i:Nat)(hi:i<l.length):(l.take (i+1)).flatMap f=(l.take i).flatMap f++f l[i]:=by
 rw [List.take_succ_eq_append_getElem hi,List.flatMap_append]; simp
def LK(w0 ws:World)(m:Nat)(w:World):Prop:=Below w0.heap.size w0 w∧QN m ws w
theorem LK.step{w0 ws w w':World}{m:Nat}(h:LK w0 ws m w)(hm:m≤w.heap.size)(hb:Below w.heap.size w w'):LK w0 ws m w':=⟨qF h.1 hb,h.2.trans (QN.of_below hb hm)⟩
structure CA(w0 ws wr:World)(p m:Nat)(A:Option Addr)(ca:Nat)(A2:Option Addr)(cb:Nat)(bs:List GBk)(gl:List GGl)(seen:List Int):Prop where
 box:wr.heap[p]? = some (.cells #[.slice A bs.length ca,.slice A2 gl.length cb,.map (some m)] 77 (0,0))
 low:Below w0.heap.size w0 wr
 cm:CM w0 A ca A2 cb bs gl
 sn:SN wr m seen
 hm:w0.heap.size≤m
 ne:p≠m
 keep:QN m ws wr
section
variable {w0 ws w w':World} {p m:Nat} {A:Option Addr} {ca:Nat} {A2:Option Addr} {cb:Nat} {bs:List GBk} {gl:List GGl} {seen:List Int}
theorem CA.ck(h:CA w0 ws w p m A ca A2 cb bs gl seen):CK w p m A ca A2 cb bs gl:=⟨h.box,h.cm.below h.low⟩
theorem CA.lk(h:CA w0 ws w p m A ca A2 cb bs gl seen):LK w0 ws m w:=⟨h.low,h.keep⟩
theorem CA.lt(h:CA w0 ws w p m A ca A2 cb bs gl seen):p<w.heap.size:=(Array.getElem?_eq_some_iff.1 h.box).1
theorem CA.below(h:CA w0 ws w p m A ca A2 cb bs gl seen)(hb:Below w.heap.size w w'):CA w0 ws w' p m A ca A2 cb bs gl seen:=
 ⟨(hb.block _ h.lt).trans h.box,qF h.low hb,h.cm,h.sn.below hb,h.hm,h.ne,h.keep.trans (QN.of_below hb (Nat.le_of_lt h.sn.lt))⟩
theorem CA.grown(h:CA w0 ws w p m A ca A2 cb bs gl seen){N:Nat}(hg:w.grownBy w' (some N))(h1:w0.heap.size≤N)(h2:N≠p)(h3:N≠m)(h4:ws.heap.size≤N)(h5:m<N):CA w0 ws w' p m A ca A2 cb bs gl seen:=
 ⟨(hg.block _ h.lt (fun e => by injection e with e; exact h2 e.symm)).trans h.box, h.low.grown hg h.low.size (fun k hk => by injection hk with hk; omega), h.cm, h.sn.of_block (hg.block _ h.sn.lt (fun e => by injection e with e; exact h3 e.symm)), h.hm, h.ne,
   ⟨h.keep.below.grown hg (Nat.le_of_lt h.sn.lt) (fun k hk=>by injection hk with hk; omega),fun b hb hl=>(hg.block b (Nat.lt_of_lt_of_le hl h.keep.below.size) (fun e=>by injection e with e; omega)).trans (h.keep.rest b hb hl)⟩⟩
theorem CA.put(h:CA w0 ws w p m A ca A2 cb bs gl seen)(k:Int):∃w2,(Instr.mapUpdate 75 (.map (some m)) (.int .i64 k) (.bool true)).run Tryz.prog w=.ok () w2∧CA w0 ws w2 p m A ca A2 cb bs gl (seen++[k])∧w.grownBy w2 (some m):=by
 obtain ⟨w2,hrun,hS,hg⟩:=h.sn.put k;exact ⟨w2,hrun,⟨(hg.block _ h.lt (fun e=>by injection e with e; exact h.ne e)).trans h.box,h.low.grown hg h.low.size (fun k hk=>by injection hk with hk; have:=h.hm; omega),h.cm,hS,h.hm,h.ne,
  ⟨h.keep.below.grown hg (Nat.le_of_lt h.sn.lt) (fun k hk=>by injection hk with hk; omega),fun b hb hl=>(hg.block b (Nat.lt_of_lt_of_le hl h.keep.below.size) (fun e=>by injection e with e; exact hb e)).trans (h.keep.rest b hb hl)⟩⟩,hg⟩
end
def qAV(bs:List GBk)(gs:Nat):Nat→List GBk→Bool
 |_,[]=>true
 |i,b::r=>qAo bs gs (qAB bs (i:Int)) b&&qAV bs gs (i+1) r
def allK(bs:List GBk)(gl:List GGl):Bool:=inB bs.length 1 1500&&decide (gl.length≤400)&&Qb bs [] gl&&qAV bs gl.length 0 bs
def okG(bs:List GBk)(bef:List GGl)(g:GGl):Bool:=qe g.f0.data.toList && !hasG bef g.f0&&(match blkC bs g.f1 with|some b=>b.f0==0&&b.f1==0|none=>false)
theorem qEv(bs:List GBk)(bef:List GGl)(g:GGl)(r:List GGl):Qb bs bef (g::r)=(okG bs bef g&&Qb bs (bef++[g]) r):=by
 have:bef.all (fun b=>b.f0.data.toList != g.f0.data.toList) = !hasG bef g.f0:=by
  unfold hasG;rw [List.any_eq_not_all_not];simp [bne]
 show (qe g.f0.data.toList&&bef.all (fun b=>b.f0.data.toList != g.f0.data.toList)&&_&&Qb bs (bef++[g]) r)=_
 rw [this];rfl
theorem qHA(bs:List GBk)(gl:List GGl)(i:Nat)(hi:i<gl.length):Qb bs (gl.take i) (gl.drop i)=(okG bs (gl.take i) (gl.getD i z63)&&Qb bs (gl.take (i+1)) (gl.drop (i+1)))∧gl.take (i+1)=gl.take i++[gl.getD i z63]:=by
 have e:gl.getD i z63=gl[i]:=by simp [List.getD_eq_getElem?_getD,List.getElem?_eq_getElem hi]
 rw [e,List.drop_eq_getElem_cons hi,qEv,List.take_succ_eq_append_getElem hi];exact ⟨rfl,rfl⟩
theorem blksK_at(bs:List GBk)(gs:Nat)(l:List GBk)(i:Nat)(hi:i<l.length):qAV bs gs i (l.drop i)=(qAo bs gs (qAB bs (i:Int)) (l.getD i z55)&&qAV bs gs (i+1) (l.drop (i+1))):=by
 have e:l.getD i z55=l[i]:=by simp [List.getD_eq_getElem?_getD,List.getElem?_eq_getElem hi]
 rw [e,List.drop_eq_getElem_cons hi];rfl
def qAq(bs:List GBk)(gl:List GGl):Prop:=(∀b∈bs,qEP b.f2)∧∀g∈gl,g.f0.size≤maxLen
structure A1(w0 ws wr:World)(p m:Nat)(A:Option Addr)(ca:Nat)(A2:Option Addr)(cb:Nat)(bs:List GBk)(gl:List GGl)(N i:Nat):Prop where
 ck:CA w0 ws wr p m A ca A2 cb bs gl []
 nm:NM wr N (gl.take i)
 run:Qb bs [] gl=Qb bs (gl.take i) (gl.drop i)
theorem A1.below{w0 ws w w':World}{p m:Nat}{A:Option Addr}{ca:Nat}{A2:Option Addr}{cb:Nat}{bs:List GBk}{gl:List GGl}{N i:Nat}(h:A1 w0 ws w p m A ca A2 cb bs gl N i)(hb:Below w.heap.size w w'):A1 w0 ws w' p m A ca A2 cb bs gl N i:=⟨h.ck.below hb,h.nm.below hb,h.run⟩
set_option maxRecDepth 100000 in
set_option maxHeartbeats 16000000 in
theorem qKP(w0 w:World)(p m:Nat)(A:Option Addr)(ca:Nat)(A2:Option Addr)(cb:Nat)(bs:List GBk)(gl:List GGl)(h:CA w0 w w p m A ca A2 cb bs gl [])(hL:LW w0)(hs:qAq bs gl):
 Calls Tryz.prog 36 #[.pointer (some ⟨p,0,none⟩)] w fun e w'=>e=checked (allK bs gl)∧LK w0 w m w':=by
 have hmm:=@run_makeMap Tryz.prog;have hmb:bs.length≤9223372036854775807:=h.cm.ma.2.1;have hmg:gl.length≤9223372036854775807:=h.cm.mb.2.1;have hpl:=h.lt;have hml:=h.sn.lt;have hlow:=h.low.size;have hmn:=h.hm;have hne:=h.ne;have c0:=qD h.box (i:=0) rfl;have c1:=qD h.box (i:=1) rfl;have HCM:=Lib.hid h.cm;have HW1:=Lib.hid (fun W=>qAF bs.length 1 1500 W);have HAK:Hid (allK bs gl=(inB bs.length 1 1500&&decide (gl.length≤400)&&Qb bs [] gl&&qAV bs gl.length 0 bs)):=Lib.hid rfl;have HS:=Lib.hid hs;have HL:=Lib.hid hL;have HLOW:=Lib.hid h.lk;have HA0:qB (A1 w0 w (w.alloc (.map #[] 0)) p m A ca A2 cb bs gl w.heap.size 0):=⟨⟨h.below (qC (Below.refl _ _) _),NM.made w,rfl⟩⟩;clear h hs hL;generalize allK bs gl=res at *;cases t1:inB bs.length 1 1500
 ·have HF:Hid (res=false):=Lib.hid (by rw [HAK.out,t1]; rfl);rw [t1] at HW1;clear t1;go_enter Tryz.func36,Tryz.ntmps36;go_wp2_with fail;refine (HW1.out _).mono ?_;rintro e w1 ⟨rfl,rfl⟩;go_wp2_with fail;refine (qG _).mono ?_;rintro e w1 ⟨rfl,rfl⟩;go_wp2;exact ⟨rfl,by rw [HF.out]; rfl,HLOW.out⟩
 ·by_cases h400:gl.length≤400;rotate_left
  ·have HF:Hid (res=false):=Lib.hid (by rw [HAK.out,t1,decide_eq_false h400]; rfl);have hd:decide ((gl.length:Int)≤400)=false:=decide_eq_false (by omega);rw [t1] at HW1;clear t1 h400;go_enter Tryz.func36,Tryz.ntmps36;go_wp2_with fail;refine (HW1.out _).mono ?_;rintro e w1 ⟨rfl,rfl⟩;go_wp2_with fail;refine (qG _).mono ?_;rintro e w1 ⟨rfl,rfl⟩;go_wp2;exact ⟨rfl,by rw [HF.out]; rfl,HLOW.out⟩
  have hd:decide ((gl.length:Int)≤400)=true:=decide_eq_true (by omega);rw [t1] at HW1;rw [t1,decide_eq_true h400] at HAK;clear t1 h400;go_enter Tryz.func36,Tryz.ntmps36;go_wp2_with fail;refine (HW1.out _).mono ?_;rintro e w1 ⟨rfl,rfl⟩;go_wp2_with fail;refine (qL _).mono ?_;rintro e w1 ⟨rfl,rfl⟩;go_wp2
  go_loopw [38] (fun v wr=>∃i:Nat,i≤gl.length∧v=.int .i64 i∧qB (A1 w0 w wr p m A ca A2 cb bs gl w.heap.size i)) (fun v _=>gl.length - (intOf v).toNat)
  case atStart=>exact ⟨0,by omega,rfl,HA0⟩
  case round=>
   obtain ⟨i,hi,rfl,HJ⟩:=hrel;clear HA0 hmm;by_cases hlt:i<gl.length
   ·obtain ⟨ad,e3,hx0,hx1⟩:=qB6 (Kd.C_below HCM.out.mb HJ.out.ck.low) (i:Int) (by omega) (by omega);have hrd:Qn gl (i:Int)=gl.getD i z63:=by simp [Qn]
    have hsz:=HS.out.2 (gl.getD i z63) (by simp [List.getD_eq_getElem?_getD,List.getElem?_eq_getElem hlt]);obtain ⟨r1,r2⟩:=qHA bs gl i hlt;rw [hrd] at hx0 hx1;generalize gl.getD i z63=g at *;obtain ⟨x0,x1⟩:=g;simp only at hx0 hx1 hsz;cases e3;simp only [Int.toNat_natCast] at hx0 hx1;have hb1:=qC (Below.refl wr.heap.size wr) (.cells #[.string x0,.int .i64 x1] 63);have hbx:(wr.alloc (.cells #[.string x0,.int .i64 x1] 63)).heap[wr.heap.size]? = some (.cells #[.string x0,.int .i64 x1] 63 (0,0)):=(MapKept.heap_alloc wr _).1;have HBK:=Lib.hid (qBT (wr.alloc (.cells #[.string x0,.int .i64 x1] 63)) p m A ca _ cb bs gl x1 (HJ.out.below hb1).ck.ck);have HBX:=Lib.hid hbx;have HBB:=Lib.hid hb1;have HN:=Lib.hid (qA5 x0 hsz);have HRun:=Lib.hid (And.intro (HJ.out.run.trans r1) r2);clear hbx hb1 hrd r1 r2 hsz;cases hbk:blkC bs x1 with
    |none=>
     rw [hbk] at HBK;have HF:Hid (res=false):=Lib.hid (by rw [HAK.out,HRun.out.1]; unfold okG; simp [hbk]);clear hbk;go_wp2_with fail;refine HBK.out.mono ?_;rintro e w2 ⟨rfl,hb2⟩;have HBE:=qB.mk (HJ.out.ck.lk.step (Nat.le_of_lt HJ.out.ck.sn.lt) (HBB.out.trans (hb2.mono (by simp))));clear hb2;go_wp2;exact ⟨rfl,by rw [HF.out]; rfl,HBE.out⟩
    |some y=>
     rw [hbk] at HBK;obtain ⟨y0,y1,y2⟩:=y;have HOK:Hid (okG bs (gl.take i) ⟨x0,x1⟩=(qe x0.data.toList && !hasG (gl.take i) x0&&(y0==0&&y1==0))):=Lib.hid (by unfold okG; simp [hbk]);clear hbk;go_wp2_with fail;refine HBK.out.mono ?_;rintro e w2 ⟨A3,c3,rfl,hc3,hC3,hb2⟩;have hb2':=HBB.out.trans (hb2.mono (by simp));have e0:=qA hb2 (qD HBX.out (i:=0) rfl);have hw2:wr.heap.size<w2.heap.size:=World.block_lt_of_cell? _ _ e0;have hb3:=hb2'.trans ((qC (Below.refl w2.heap.size w2) (.cells #[.int .i64 y0,.int .i64 y1,.slice A3 y2.length c3] 55)).mono hb2'.size);have HJ3:=Lib.hid (HJ.out.below hb3);have hnl:=HJ3.out.nm.lookup x0;obtain ⟨w4,hrun,hN4,hg4⟩:=HJ3.out.nm.put ⟨x0,x1⟩;have HBE:=qB.mk HJ3.out.ck.lk;have HA4:qB (okG bs (gl.take i) ⟨x0,x1⟩=true→A1 w0 w w4 p m A ca (some ad) cb bs gl w.heap.size (i+1)):=⟨fun ho=>⟨HJ3.out.ck.grown hg4 hlow (by omega) (by omega) (Nat.le_refl _) hml,by rw [HRun.out.2]; exact hN4,by rw [HRun.out.1,ho]; rfl⟩⟩;clear hb2 hb2' hb3 hN4 hg4 HJ3 hx0 hx1 hc3 hC3 HBK HBX HBB;generalize hasG (gl.take i) x0=nm at *;cases t2:qe x0.data.toList
     ·have HF:Hid (res=false):=Lib.hid (by rw [HAK.out,HRun.out.1,HOK.out,t2]; rfl);rw [t2] at HN;clear t2;go_wp2_with fail;refine (HN.out _).mono ?_;rintro e w3 ⟨rfl,rfl⟩;go_wp2_with fail;refine (qG _).mono ?_;rintro e w3 ⟨rfl,rfl⟩;go_wp2;exact ⟨rfl,by rw [HF.out]; rfl,HBE.out⟩
     ·rw [t2] at HN HOK;clear t2;cases nm
      ·by_cases n0:y0=0
       ·by_cases n1:y1=0
        ·have HN5:=qB.mk (HA4.out (by rw [HOK.out,n0,n1]; rfl));subst n0 n1;clear HA4;go_wp2_with fail;refine (HN.out _).mono ?_;rintro e w3 ⟨rfl,rfl⟩;go_wp2_with fail;refine (qL _).mono ?_;rintro e w3 ⟨rfl,rfl⟩;go_wp2;go_roundw
         case rel=>exact ⟨i+1,by omega,by go_num,HN5⟩
         case measure=>simp [intOf]; omega
        ·have HF:Hid (res=false):=Lib.hid (by rw [HAK.out,HRun.out.1,HOK.out,n0,beq_eq_false_iff_ne.2 n1]; rfl);have q1:(y1==0)=false:=beq_eq_false_iff_ne.2 n1;subst n0;clear n1;go_wp2_with fail;refine (HN.out _).mono ?_;rintro e w3 ⟨rfl,rfl⟩;go_wp2_with fail;refine (qG _).mono ?_;rintro e w3 ⟨rfl,rfl⟩;go_wp2;exact ⟨rfl,by rw [HF.out]; rfl,HBE.out⟩
       ·have HF:Hid (res=false):=Lib.hid (by rw [HAK.out,HRun.out.1,HOK.out,beq_eq_false_iff_ne.2 n0]; rfl);have q1:(y0==0)=false:=beq_eq_false_iff_ne.2 n0;clear n0;go_wp2_with fail;refine (HN.out _).mono ?_;rintro e w3 ⟨rfl,rfl⟩;go_wp2_with fail;refine (qG _).mono ?_;rintro e w3 ⟨rfl,rfl⟩;go_wp2;exact ⟨rfl,by rw [HF.out]; rfl,HBE.out⟩
      ·have HF:Hid (res=false):=Lib.hid (by rw [HAK.out,HRun.out.1,HOK.out]; rfl);go_wp2_with fail;refine (HN.out _).mono ?_;rintro e w3 ⟨rfl,rfl⟩;go_wp2_with fail;refine (qG _).mono ?_;rintro e w3 ⟨rfl,rfl⟩;go_wp2;exact ⟨rfl,by rw [HF.out]; rfl,HBE.out⟩
   ·obtain rfl:i=gl.length:=by omega
    have HC2:=qB.mk HJ.out.ck;have hgt:Qb bs [] gl=true:=by
     rw [HJ.out.run,List.drop_length];cases gl.take gl.length<;>rfl
    rw [hgt] at HAK;have d0:=qD HC2.out.box (i:=0) rfl;clear hgt HJ;go_wp2;clear d0
    go_loopw [77] (fun v wr=>∃i:Nat,i≤bs.length∧v=.int .i64 i∧qB (CA w0 w wr p m A ca A2 cb bs gl (qAZ (bs.take i)))) (fun v _=>bs.length - (intOf v).toNat)
    case atStart=>exact ⟨0,by omega,rfl,HC2⟩
    case round=>
     obtain ⟨i,hi,rfl,HC⟩:=hrel;clear HC2;by_cases hlt:i<bs.length
     ·obtain ⟨ad,A3,c3,e3,hx0,hx1,hx2,g3,C3⟩:=qAN HCM.out.ma (i:Int) (by omega) (by omega);have hrd:qo bs (i:Int)=bs[i]:=by simp [qo,List.getD_eq_getElem?_getD,List.getElem?_eq_getElem hlt]
      have hta:=Qc (fun b:GBk=>qAp b.f2) bs i hlt;rw [hrd] at hx0 hx1 hx2 g3 C3;generalize bs[i]=y at *;obtain ⟨y0,y1,ops⟩:=y;simp only at hx0 hx1 hx2 g3 C3 hta;cases e3;simp only [Int.toNat_natCast] at hx0 hx1 hx2;replace hx0:=qA HC.out.low hx0;replace hx1:=qA HC.out.low hx1;replace hx2:=qA HC.out.low hx2;have hmo:ops.length≤9223372036854775807:=C3.2.1;have HCO:=Lib.hid C3;have HTA:Hid (qAZ (bs.take (i+1))=qAZ (bs.take i)++qAp ops):=Lib.hid hta;have HC3:qB (CA w0 w (wr.alloc (.cells #[.int .i64 y0,.int .i64 y1,.slice A3 ops.length c3] 55)) p m (some ad) ca A2 cb bs gl (qAZ (bs.take i)++qAp (ops.take 0))):=⟨by simp only [List.take_zero,qAp,List.flatMap_nil,List.append_nil]; exact HC.out.below (qC (Below.refl _ _) _)⟩;clear hta hrd C3 g3 HC;generalize qAZ (bs.take i)=seen at *;go_wp2;clear hx0 hx1 hx2;obtain ⟨wo,rfl⟩:∃wo:World,wo=wr:=⟨_,rfl⟩
      go_loopw [84] (fun v wr=>∃j:Nat,j≤ops.length∧v=.int .i64 j∧qB (CA w0 w wr p m (some ad) ca A2 cb bs gl (seen++qAp (ops.take j)))) (fun v _=>ops.length - (intOf v).toNat)
      case atStart=>exact ⟨0,by omega,rfl,HC3⟩
      case round=>
       obtain ⟨j,hj,rfl,HD⟩:=hrel;clear HC3;by_cases hlj:j<ops.length
       ·obtain ⟨ad2,A5,c5,A6,c6,e5,hx0,hx1,hx2,hx3,hx4,hx5,hx6,g5,C5,g6,C6⟩:=qA3 HCO.out (j:Int) (by omega) (by omega);have hrd:qj ops (j:Int)=ops[j]:=by simp [qj,List.getD_eq_getElem?_getD,List.getElem?_eq_getElem hlj]
        have hta:=Qc (fun g:GOp=>g.f6.map (·.f3)) ops j hlj;rw [hrd] at hx0 hx1 hx2 hx3 hx4 hx5 hx6 g6 C6;generalize ops[j]=g at *;obtain ⟨x0,x1,x2,x3,x4,x5,x6⟩:=g;simp only at hx0 hx1 hx2 hx3 hx4 hx5 hx6 g6 C6 hta;cases e5;simp only [Int.toNat_natCast] at hx0 hx1 hx2 hx3 hx4 hx5 hx6;replace hx0:=qA HD.out.low hx0;replace hx1:=qA HD.out.low hx1;replace hx2:=qA HD.out.low hx2;replace hx3:=qA HD.out.low hx3;replace hx4:=qA HD.out.low hx4;replace hx5:=qA HD.out.low hx5;replace hx6:=qA HD.out.low hx6;have hma:x6.length≤9223372036854775807:=C6.2.1;have HCA:=Lib.hid C6;have HTO:Hid (qAp (ops.take (j+1))=qAp (ops.take j)++x6.map (·.f3)):=Lib.hid hta;have HD3:qB (CA w0 w (wr.alloc (.cells #[.int .i64 x0,.int .i64 x1,.int .i64 x2,.int .i64 x3,.string x4,.slice A5 x5.length c5,.slice A6 x6.length c6] 59)) p m (some ad) ca A2 cb bs gl (seen++qAp (ops.take j)++(x6.take 0).map (·.f3))):=⟨by simp only [List.take_zero,List.map_nil,List.append_nil]; exact HD.out.below (qC (Below.refl _ _) _)⟩;clear hta hrd C6 g6 C5 g5 HD;generalize hse:seen++qAp (ops.take j)=seen2 at *;go_wp2;clear hx0 hx1 hx2 hx3 hx4 hx5 hx6;obtain ⟨wo2,rfl⟩:∃wo2:World,wo2=wr:=⟨_,rfl⟩
        go_loopw [91] (fun v wr=>∃k:Nat,k≤x6.length∧v=.int .i64 k∧qB (CA w0 w wr p m (some ad) ca A2 cb bs gl (seen2++(x6.take k).map (·.f3)))) (fun v _=>x6.length - (intOf v).toNat)
        case atStart=>exact ⟨0,by omega,rfl,HD3⟩
        case round=>
         obtain ⟨k,hk,rfl,HE⟩:=hrel;clear HD3;by_cases hlk:k<x6.length
         ·obtain ⟨ad3,e6,hz0,hz1,hz2,hz3⟩:=qA2 HCA.out (k:Int) (by omega) (by omega);have hrd:QK x6 (k:Int)=x6[k]:=by simp [QK,List.getD_eq_getElem?_getD,List.getElem?_eq_getElem hlk]
          have hta:(x6.take (k+1)).map (·.f3)=(x6.take k).map (·.f3)++[x6[k].f3]:=by rw [List.take_succ_eq_append_getElem hlk,List.map_append]; rfl
          rw [hrd] at hz0 hz1 hz2 hz3;generalize x6[k]=al at *;obtain ⟨z0,z1,z2,z3⟩:=al;simp only at hz0 hz1 hz2 hz3 hta;cases e6;simp only [Int.toNat_natCast] at hz0 hz1 hz2 hz3;replace hz0:=qA HE.out.low hz0;replace hz1:=qA HE.out.low hz1;replace hz2:=qA HE.out.low hz2;replace hz3:=qA HE.out.low hz3;have HTK:=Lib.hid hta;have hE1:=HE.out.below (qE (qC (Below.refl wr.heap.size wr) (.cells #[.int .i64 z0,.string z1,.int .i64 z2,.int .i64 z3] 86)));obtain ⟨w3,hrun,hC3,hg3⟩:=hE1.put z3;have k2:=qD hE1.box (i:=2) rfl;have hz:(wr.alloc (.cells #[.int .i64 z0,.string z1,.int .i64 z2,.int .i64 z3] 86)).heap[wr.heap.size]? = some (.cells #[.int .i64 z0,.string z1,.int .i64 z2,.int .i64 z3] 86 (0,0)):=(MapKept.heap_alloc wr _).1;have HN:qB (CA w0 w w3 p m (some ad) ca A2 cb bs gl (seen2++(x6.take (k+1)).map (·.f3))):=⟨by rw [HTK.out,←List.append_assoc]; exact hC3⟩;clear hta hrd hC3 hg3 hE1 hz HE;go_wp2;go_region
          all_goals
           go_wp2;go_roundw
           case rel=>exact ⟨k+1,by omega,by go_num,HN⟩
           case measure=>simp [intOf]; omega
         ·obtain rfl:k=x6.length:=by omega
          have HN:qB (CA w0 w wr p m (some ad) ca A2 cb bs gl (seen++qAp (ops.take (j+1)))):=⟨by have:=HE.out; rw [List.take_length,←hse,List.append_assoc,←HTO.out] at this; exact this⟩;clear HE hse;go_wp2;go_roundw
          case rel=>exact ⟨j+1,by omega,by go_num,HN⟩
          case measure=>simp [intOf]; omega
       ·obtain rfl:j=ops.length:=by omega
        have HN:qB (CA w0 w wr p m (some ad) ca A2 cb bs gl (qAZ (bs.take (i+1)))):=⟨by have:=HD.out; rw [List.take_length] at this; rw [HTA.out]; exact this⟩;clear HD;go_wp2;go_roundw
        case rel=>exact ⟨i+1,by omega,by go_num,HN⟩
        case measure=>simp [intOf]; omega
     ·obtain rfl:i=bs.length:=by omega
      have HE:qB (CA w0 w wr p m A ca A2 cb bs gl (qAZ bs)):=⟨by have:=HC.out; rw [List.take_length] at this; exact this⟩;have d0:=qD HE.out.box (i:=0) rfl;clear HC;go_wp2;clear d0
      go_loopw [110] (fun v wr=>∃i:Nat,i≤bs.length∧v=.int .i64 i∧qB (CA w0 w wr p m A ca A2 cb bs gl (qAZ bs)∧qAV bs gl.length 0 bs=qAV bs gl.length i (bs.drop i))) (fun v _=>bs.length - (intOf v).toNat)
      case atStart=>exact ⟨0,by omega,rfl,⟨HE.out,rfl⟩⟩
      case round=>
       obtain ⟨i,hi,rfl,HC⟩:=hrel;clear HE;by_cases hlt:i<bs.length
       ·obtain ⟨ad,A3,c3,e3,hx0,hx1,hx2,g3,C3⟩:=qAN HCM.out.ma (i:Int) (by omega) (by omega);have hrd:qo bs (i:Int)=bs.getD i z55:=by simp [qo]
        have hra:=blksK_at bs gl.length bs i hlt;have hso:=HS.out.1 (bs.getD i z55) (by simp [List.getD_eq_getElem?_getD,List.getElem?_eq_getElem hlt]);rw [hrd] at hx0 hx1 hx2 g3 C3;generalize bs.getD i z55=y at *;have hlowr:=HC.out.1.low;have hck:=HC.out.1.below (qC (Below.refl wr.heap.size wr) (.cells #[.int .i64 y.f0,.int .i64 y.f1,.slice A3 y.f2.length c3] 55));have hlk:∀W,Below (wr.alloc (.cells #[.int .i64 y.f0,.int .i64 y.f1,.slice A3 y.f2.length c3] 55)).heap.size (wr.alloc (.cells #[.int .i64 y.f0,.int .i64 y.f1,.slice A3 y.f2.length c3] 55)) W→(Instr.lookup 75 (.map (some m)) (.int .i64 (i:Int)) false).run Tryz.prog W=.ok (.bool (qAB bs (i:Int))) W:=fun W hW=>by
         rw [←qKO]; exact (hck.below hW).sn.lookup _
        have HCh:=Lib.hid (qIC _ p m A ca A2 cb bs gl (i:Int) (qAB bs (i:Int)) y A3 c3 hck.ck (HL.out.below hck.low) hlk g3 (Kd.C_below C3 hck.low) hso);have HRA:=Lib.hid (HC.out.2.trans hra);have HLW:=Lib.hid hck;cases e3;simp only [Int.toNat_natCast] at hx0 hx1 hx2;replace hx0:=qA hlowr hx0;replace hx1:=qA hlowr hx1;replace hx2:=qA hlowr hx2;clear hlk hck hlowr hso hra hrd g3 C3 HC;cases t3:qAo bs gl.length (qAB bs (i:Int)) y
        ·have HF:Hid (res=false):=Lib.hid (by rw [HAK.out,HRA.out,t3]; rfl);rw [t3] at HCh;clear t3;go_wp2_with fail;refine HCh.out.mono ?_;rintro e w2 ⟨rfl,hb2⟩;have HBE:=qB.mk (HLW.out.below hb2).lk;clear hb2;simp only [checked];go_wp2;exact ⟨rfl,by rw [HF.out]; rfl,HBE.out⟩
        ·rw [t3] at HCh HRA;clear t3;go_wp2_with fail;refine HCh.out.mono ?_;rintro e w2 ⟨rfl,hb2⟩;have HN:qB (CA w0 w w2 p m (some ad) ca A2 cb bs gl (qAZ bs)∧qAV bs gl.length 0 bs=qAV bs gl.length (i+1) (bs.drop (i+1))):=⟨HLW.out.below hb2,HRA.out⟩;clear hb2;simp only [checked,if_true];go_wp2;go_roundw
         case rel=>exact ⟨i+1,by omega,by go_num,HN⟩
         case measure=>simp [intOf]; omega
       ·obtain rfl:i=bs.length:=by omega
        have HF:Hid (res=true):=Lib.hid (by rw [HAK.out,HC.out.2,List.drop_length]; rfl);go_wp2;go_end0;exact ⟨by rw [HF.out]; rfl,HC.out.1.lk⟩
end Go.Proofs.YtoonkkipnljflaaGreatDoor.CJ
