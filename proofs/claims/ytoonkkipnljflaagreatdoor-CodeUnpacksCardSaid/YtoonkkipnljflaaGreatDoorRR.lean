/- The reference's Sum and Seal. Conditions: the string is not too long. The reference's packing of numbers and strings: bytes, folded, str. Conditions: the bytes lie in a slice of the call's own. The reference's Pack. Conditions: the code lies in memory; numbers are as a valid code has them; the bytes are not too many. -/
import Derived.Test.YtoonkkipnljflaaGreatDoorRG
import Derived.Test.YtoonkkipnljflaaGreatDoorKC
import Derived.Test.YtoonkkipnljflaaGreatDoorK7
namespace Go.Proofs.YtoonkkipnljflaaGreatDoor.CJ
open Go.RowKit Go.Proofs.YtoonkkipnljflaaGreatDoorW.PrintWords Go.Proofs.YtoonkkipnljflaaGreatDoorW.PrintLast Go.Proofs.YtoonkkipnljflaaGreatDoor.PT Go.Proofs.YtoonkkipnljflaaGreatDoor.IMaps Go.Proofs.YtoonkkipnljflaaGreatDoor.TJ
set_option linter.unusedVariables false
set_option linter.unusedSimpArgs false
set_option maxRecDepth 100000 in
set_option maxHeartbeats 2000000 in
theorem qDs(s:ByteArray)(hs:s.size≤maxLen)(w:World):Calls Tryz.prog 8 #[.string s] w fun e w'=>e=.returned (.int .i64 (sumB s.data.toList))∧w=w':=by
 unfold maxLen at hs;go_enter Tryz.func8,Tryz.ntmps8;go_wp2
 go_loop [3,4,5] (fun av bv v=>∃i:Nat,∃p q:Nat,i≤s.size∧v=.int .i64 i∧av=.int .i64 p∧bv=.int .i64 q∧p<65521∧q<65521∧Hid (sumP (s.data.toList.take i)=(p,q))) (fun _ _ v=>s.size - (intOf v).toNat)
 case atStart=>exact ⟨0,1,0,by omega,rfl,rfl,rfl,by decide,by decide,Lib.hid rfl⟩
 case round=>
  obtain ⟨i,p,q,hi,rfl,rfl,rfl,hp,hq,HS⟩:=hrel;by_cases hlt:i<s.size
  ·have hl:i<s.data.toList.length:=by simpa using hlt
   have hstep:sumP (s.data.toList.take (i+1))=qBt (p,q) s[i]:=by
    rw [List.take_succ_eq_append_getElem hl,qF2,HS.out,qB7 s i hlt]
   have HN:=Lib.hid hstep;have hc:s[i].toNat<256:=s[i].toNat_lt;clear hstep;go_wp2;go_round
   case rel=>exact ⟨i+1,(p+s[i].toNat) % 65521,(q+(p+s[i].toNat) % 65521) % 65521,by omega,by go_num,by go_num,by go_num,Nat.mod_lt _ (by decide),Nat.mod_lt _ (by decide),HN⟩
   case measure=>simp [intOf]; omega
  ·obtain rfl:i=s.size:=by omega
   have hf:sumP s.data.toList=(p,q):=by
    have:=HS.out
    rwa [List.take_of_length_le (by simp)] at this
   have HF:=Lib.hid hf;clear hf;go_wp2;go_ret;exact ⟨by unfold sumB; rw [HF.out]; simp only; rw [show (((q*65536+p:Nat)):Int)=65536*(q:Int)+p by omega]; rfl,rfl⟩
set_option maxRecDepth 100000 in
set_option maxHeartbeats 2000000 in
theorem qCE(l:List UInt8)(hl:l.length≤1000000000)(w:World):Calls Tryz.prog 4 #[.string ⟨l.toArray⟩] w fun e w'=>e=.returned (.string ⟨(QE l).toArray⟩)∧Below w.heap.size w w':=by
 have hS:=Lib.hid (qDs ⟨l.toArray⟩ (by unfold maxLen; simp [ByteArray.size]; omega) w);have hlt:=qIh l;have e0:(⟨l.toArray⟩:ByteArray).data.toList=l:=rfl;rw [e0] at hS;have HSB:Hid (QE l=l++sum4 (sumB l)):=Lib.hid rfl;clear e0;generalize sumB l=n at *;have hcv:(convert 39 9 (.slice (some ⟨w.heap.size,0,none⟩) 4 4)).run Tryz.prog (w.alloc (.cells #[.int .u8 ((n:Int) / 16777216),.int .u8 ((n:Int) / 65536 % 256),.int .u8 ((n:Int) / 256 % 256),.int .u8 ((n:Int) % 256)] 5))=.ok (.string ⟨(sum4 n).toArray⟩) (w.alloc (.cells #[.int .u8 ((n:Int) / 16777216),.int .u8 ((n:Int) / 65536 % 256),.int .u8 ((n:Int) / 256 % 256),.int .u8 ((n:Int) % 256)] 5)):=by
  refine run_convert_bytes_back _ 39 9 5 ⟨w.heap.size,0,none⟩ 4 (sum4 n) Tryz.underlying39 Tryz.underlying5 Tryz.underlying9 ?_;intro j hj;have hj4:j=0∨j=1∨j=2∨j=3:=by have:(sum4 n).length=4:=rfl; omega
  have ea:(⟨w.heap.size,0,none⟩:Addr).add j=⟨w.heap.size,j,none⟩:=by simp [Addr.add]; omega
  rw [ea,World.cell?_alloc_mark];rcases hj4 with rfl|rfl|rfl|rfl
  ·show some (Value.int .u8 ((n:Int) / 16777216))=some (Value.int .u8 ((UInt8.ofNat (n / 16777216)).toNat:Int))
   rw [UInt8.toNat_ofNat']; congr 2; omega
  ·show some (Value.int .u8 ((n:Int) / 65536 % 256))=some (Value.int .u8 ((UInt8.ofNat (n / 65536)).toNat:Int))
   rw [UInt8.toNat_ofNat']; congr 2
  ·show some (Value.int .u8 ((n:Int) / 256 % 256))=some (Value.int .u8 ((UInt8.ofNat (n / 256)).toNat:Int))
   rw [UInt8.toNat_ofNat']; congr 2
  ·show some (Value.int .u8 ((n:Int) % 256))=some (Value.int .u8 ((UInt8.ofNat n).toNat:Int))
   rw [UInt8.toNat_ofNat']; congr 2
 have eN:((⟨l.toArray⟩:ByteArray)++⟨(sum4 n).toArray⟩)=⟨(QE l).toArray⟩:=by rw [HSB.out]; apply ByteArray.ext; simp
 have ng:(9223372036854775807<l.length+(sum4 n).length)=False:=eq_false (by have:(sum4 n).length=4:=rfl; omega);have HBz:=qB.mk (qC (Below.refl w.heap.size w) (.cells #[.int .u8 ((n:Int) / 16777216),.int .u8 ((n:Int) / 65536 % 256),.int .u8 ((n:Int) / 256 % 256),.int .u8 ((n:Int) % 256)] 5));go_enter Tryz.func4,Tryz.ntmps4;go_wp2_with fail;refine hS.out.mono ?_;rintro e w1 ⟨rfl,rfl⟩;go_wp2;go_ret;exact ⟨rfl,HBz.out⟩
def ql(w w':World):Prop:=∀(k:Nat) (cs:Array Value) (T:TypeId) (fr:Nat×Nat),w.heap[k]? = some (.cells cs T fr)→T≠5→w'.heap[k]? = w.heap[k]?
theorem ql.refl(w:World):ql w w:=fun _ _ _ _ _ _=>rfl
theorem ql.trans{w w1 w2:World}(h:ql w w1)(h2:ql w1 w2):ql w w2:=fun k cs T fr hc hT=>by
 have e:=h k cs T fr hc hT;exact (h2 k cs T fr (e.trans hc) hT).trans e
theorem ql.below{w w':World}(h:Below w.heap.size w w'):ql w w':=fun k _ _ _ hc _=>h.block k (Array.getElem?_eq_some_iff.1 hc).1
structure UP(B:Nat)(w w':World)(v:Value)(bs:List UInt8):Prop where
 own:w'.ownsRow B 5 1 v bs.length (Lib.byteCells bs)
 low:Below B w w'
 keep:ql w w'
 hB:B≤w'.heap.size
theorem UP.below{B:Nat}{w w1 w2:World}{v:Value}{bs:List UInt8}(h:UP B w w1 v bs)(hb:Below w1.heap.size w1 w2):UP B w w2 v bs:=
 ⟨h.own.kept (row:=none) ⟨hb.os,hb.tape,hb.output,hb.size,fun i hi _=>hb.block i hi⟩ (by cases v.ownBlock<;>simp),h.low.trans (hb.mono h.hB),h.keep.trans (ql.below hb),Nat.le_trans h.hB hb.size⟩
theorem UP.grow{B:Nat}{w w1 W w2:World}{v v':Value}{bs b2:List UInt8}(h:UP B w w1 v bs)(hW:Below w1.heap.size w1 W)(hg:W.grownBy w2 v.ownBlock)(hown:OwnB w2 B v' b2):UP B w w2 v' b2:=by
 have hw:UP B w W v bs:=h.below hW;refine ⟨hown,hw.low.trans ((Below.refl B W).grown hg hw.hB (fun k hk=>(hw.own.lt k hk).1)),hw.keep.trans ?_,Nat.le_trans hw.hB hg.size⟩;intro k cs T fr hc hT;refine hg.block k (Array.getElem?_eq_some_iff.1 hc).1 (fun e=>?_);rcases hw.own.2 with ⟨hv,_⟩|⟨g,cap,cur,hv,_,hgg,_⟩
 ·rw [hv] at e; simp [Value.ownBlock] at e
 ·rw [hv] at e;simp only [Value.ownBlock,Option.some.injEq] at e;rw [←e,hc] at hgg;simp only [Option.some.injEq,Obj.cells.injEq] at hgg;exact hT hgg.2.1
structure UQ(B:Nat)(w w':World)(v:Value)(bs:List UInt8):Prop where
 own:w'.ownsRow B 5 1 v bs.length (Lib.byteCells bs)∨MarkB w' B v bs
 low:Below B w w'
 keep:ql w w'
 hB:B≤w'.heap.size
theorem UP.q{B:Nat}{w w1:World}{v:Value}{bs:List UInt8}(h:UP B w w1 v bs):UQ B w w1 v bs:=⟨.inl h.own,h.low,h.keep,h.hB⟩
theorem UQ.shape{B:Nat}{w w1:World}{v:Value}{bs:List UInt8}(h:UQ B w w1 v bs):∃a k c,v=.slice a k c:=by
 rcases h.own with h|⟨g,rfl,_⟩
 ·exact QS h
 ·exact ⟨_,_,_,rfl⟩
theorem qEd{ops:Array Oper}{rest:List Oper}{o:Oper}{a:Act}{Q:Exit→Act→World→Prop}{w0 w:World}(hgd:o.guard=none)(s x:Operand)
 (ho:o.op=.call { callee:=.builtin .append,args:=#[s,x],argTypes:=#[39,39] }) (B:Nat) (v:Value) (bs:List UInt8) (hs:a.eval s=v) (hq:UQ B w0 w v bs)
 (c:UInt8) (n:Int) (hc:n=c.toNat) (hx:a.eval x=.slice (some ⟨w.heap.size,0,none⟩) 1 1) (hlen:LE47 (bs.length+1))
 (h:Hid (∀v' w',qB (UP B w0 w' v' (bs++[c]))→wpList Tryz.prog ops Q rest (a.put o.dst v') w')):
 wpList Tryz.prog ops Q (o::rest) a (w.alloc (.cells #[.int .u8 n] 5)):=by
 obtain ⟨hown,hlow,hkeep,hB⟩:=hq;have hb:=qC (Below.refl w.heap.size w) (.cells #[.int .u8 n] 5);rcases hown with hown|hown
 ·refine qCy hgd s x ho B v bs hs hown c n hc hx hlen hB (Lib.hid fun v' w' hA=>h.out v' w' ⟨?_⟩);exact (UP.mk hown hlow hkeep hB).grow hb hA.out.2 hA.out.1
 ·refine qEQ hgd s x ho B v bs hs hown c n hc hx hlen hB (Lib.hid fun v' w' hA=>h.out v' w' ⟨?_⟩);have hg:=hA.out.2;refine ⟨hA.out.1,(hlow.trans (hb.mono hB)).trans ((Below.refl B _).grown hg (Nat.le_trans hB hb.size) (fun k hk=>by cases hk)),(hkeep.trans (ql.below hb)).trans (fun k cs T fr hk hT=>hg.block k (Array.getElem?_eq_some_iff.1 hk).1 (by simp)),Nat.le_trans (Nat.le_trans hB hb.size) hg.size⟩
def UPost(B:Nat)(w:World)(bs:List UInt8)(e:Ending)(w':World):Prop:=∃v,e=.returned v∧UP B w w' v bs
set_option maxRecDepth 100000 in
set_option maxHeartbeats 4000000 in
theorem qBN(w:World)(B:Nat)(v:Value)(bs:List UInt8)(n:Nat)(h:UQ B w w v bs)(hn:n≤18446744073709551615)(hlen:LE47 (bs++bigB n).length):
 Calls Tryz.prog 47 #[v,.int .u64 n] w (UPost B w (bs++bigB n)):=by
 have H:=qB.mk h;have HL:=Lib.hid hlen;have HN:=Lib.hid hn;obtain ⟨a1,l1,c1,rfl⟩:=h.shape;clear h hn hlen;go_enter Tryz.func47,Tryz.ntmps47;go_wp2
 go_loopw [0,1] (fun u x wr=>∃k:Nat,∃pre:List UInt8,x=.int .u64 k∧Hid (k≤18446744073709551615∧bigB n=pre++bigB k)∧qB (UQ B w wr u (bs++pre))) (fun _ x _=>(intOf x).toNat)
 case atStart=>exact ⟨n,[],rfl,Lib.hid ⟨HN.out,rfl⟩,by simpa using H⟩
 case round=>
  obtain ⟨k,pre,rfl,HK,HP⟩:=hrel;clear H;obtain ⟨a0,l0,c0,rfl⟩:=HP.out.shape;by_cases hk:127<k
  ·have hd:decide ((127:Int)<(k:Int))=true:=decide_eq_true (by omega);obtain ⟨c,hstep,hc⟩:∃c:UInt8,bigB k=c::bigB (k / 128)∧(128+(k:Int) % 128)=(c.toNat:Int):=⟨UInt8.ofNat (128+k % 128),by rw [bigB,if_neg (by omega)],by rw [UInt8.toNat_ofNat',Nat.mod_eq_of_lt (by omega)]; omega⟩;have HST:=Lib.hid (And.intro hstep hc);have hwq:IntKind.u64.wrap ((k:Int) / 128)=(k:Int) / 128:=IntWalk.u64_in _ (by have:=HK.out.1; omega);have hl1:LE47 ((bs++pre).length+1):=by
    have h1:=HL.out;rw [HK.out.2,hstep] at h1;unfold LE47 at *;simp only [List.length_append,List.length_cons] at h1 ⊢;omega
   clear hstep hc;go_wp2_with (refine qEd rfl _ _ rfl B _ (bs++pre) rfl HP.out c _ HST.out.2 rfl hl1 ?_);refine Lib.hid ?_;intro v' w2 hA;have HN2:=hA;clear hA;go_wp2;go_roundw
   case rel=>exact ⟨k / 128,pre++[c],by go_num,Lib.hid ⟨by have:=HK.out.1; omega,by rw [HK.out.2,HST.out.1]; simp⟩,⟨by have:=HN2.out.q; simpa only [List.append_assoc] using this⟩⟩
   case measure=>simp [intOf]; omega
  ·have hd:decide ((127:Int)<(k:Int))=false:=decide_eq_false (by omega);obtain ⟨c,hstep,hc⟩:∃c:UInt8,bigB k=[c]∧(k:Int)=(c.toNat:Int):=⟨UInt8.ofNat k,by rw [bigB,if_pos (by omega)],by rw [UInt8.toNat_ofNat',Nat.mod_eq_of_lt (by omega)]⟩;have HST:=Lib.hid (And.intro hstep hc);have hl1:LE47 ((bs++pre).length+1):=by
    have h1:=HL.out;rw [HK.out.2,hstep] at h1;unfold LE47 at *;simp only [List.length_append,List.length_cons,List.length_nil] at h1 ⊢;omega
   clear hstep hc;go_wp2_with (refine qEd rfl _ _ rfl B _ (bs++pre) rfl HP.out c _ HST.out.2 rfl hl1 ?_);refine Lib.hid ?_;intro v' w2 hA;have HN2:=hA;clear hA;go_wp2;go_ret;exact ⟨v',rfl,by have:=HN2.out; rw [HK.out.2,HST.out.1]; simpa only [List.append_assoc] using this⟩
set_option maxRecDepth 100000 in
set_option maxHeartbeats 4000000 in
theorem qCk(n:Int)(h0:Ok64 n)(w:World):Calls Tryz.prog 48 #[.int .i64 n] w fun e w'=>e=.returned (.int .u64 (Qf n))∧w=w':=by
 obtain ⟨h0,h1⟩:=h0;by_cases hn:n<0
 ·obtain ⟨k,hk⟩:∃k:Nat,n = -(k:Int) - 1:=⟨(-(n+1)).toNat,by omega⟩;have hf:((Qf n:Nat):Int)=2*(k:Int)+1:=by unfold Qf; rw [if_pos hn]; omega
  have hd:decide (n<0)=true:=decide_eq_true hn;have w1:IntKind.i64.wrap (n+1)=n+1:=IntWalk.i64_in _ (by omega);have w2:IntKind.i64.wrap (-(n+1))=(k:Int):=by rw [IntWalk.i64_in _ (by omega)]; omega
  have w3:IntKind.u64.wrap (k:Int)=(k:Int):=IntWalk.u64_in _ (by omega);have w4:IntKind.u64.wrap (2*(k:Int))=2*(k:Int):=IntWalk.u64_in _ (by omega);have w5:IntKind.u64.wrap (2*(k:Int)+1)=2*(k:Int)+1:=IntWalk.u64_in _ (by omega);rw [hf];clear hf hn;go_enter Tryz.func48,Tryz.ntmps48;go_wp2;go_ret;exact ⟨rfl,rfl⟩
 ·obtain ⟨k,rfl⟩:∃k:Nat,n=(k:Int):=⟨n.toNat,by omega⟩;have hf:((Qf k:Nat):Int)=2*(k:Int):=by unfold Qf; rw [if_neg hn]; omega
  have hd:decide ((k:Int)<0)=false:=decide_eq_false hn;have w3:IntKind.u64.wrap (k:Int)=(k:Int):=IntWalk.u64_in _ (by omega);have w4:IntKind.u64.wrap (2*(k:Int))=2*(k:Int):=IntWalk.u64_in _ (by omega);rw [hf];clear hf hn;go_enter Tryz.func48,Tryz.ntmps48;go_wp2;go_ret;exact ⟨rfl,rfl⟩
set_option maxRecDepth 100000 in
set_option maxHeartbeats 4000000 in
theorem qCc(w:World)(B:Nat)(v:Value)(bs:List UInt8)(s:ByteArray)(h:UP B w w v bs)(hs:s.size≤1000000000)(hlen:LE47 (bs++strB s.data.toList).length):
 Calls Tryz.prog 49 #[v,.string s] w (UPost B w (bs++strB s.data.toList)):=by
 have hsz:s.data.toList.length=s.size:=by rw [Array.length_toList]; rfl
 have hnb:numB (s.data.toList.length:Int)=bigB s.size:=by unfold numB; rw [hsz]; rfl
 have hl1:LE47 (bs++bigB s.size).length:=by
  unfold strB at hlen;rw [hnb] at hlen;unfold LE47 at *;simp only [List.length_append] at *;omega
 have hl2:LE47 ((bs++bigB s.size).length+s.size):=by
  unfold strB at hlen;rw [hnb] at hlen;unfold LE47 at *;simp only [List.length_append] at *;omega
 have HC:=Lib.hid (qBN w B v bs s.size h.q (by omega) hl1);have hw:IntKind.u64.wrap (s.size:Int)=(s.size:Int):=IntWalk.u64_in _ (by omega);have HE:Hid ((bs++bigB s.size)++s.data.toList=bs++strB s.data.toList):=Lib.hid (by unfold strB; rw [hnb,List.append_assoc]);clear h hlen hl1 hnb;go_enter Tryz.func49,Tryz.ntmps49;go_wp2_with fail;refine HC.out.mono ?_;rintro e w1 ⟨u,rfl,hP⟩;obtain ⟨a0,l0,c0,rfl⟩:=QS hP.own;have HP:=qB.mk hP;have hBw:=hP.hB;clear hP HC;go_wp2_with (refine qF1 rfl _ _ rfl B _ (bs++bigB s.size) rfl HP.out.own s rfl hl2 hBw ?_);refine Lib.hid ?_;intro v' w2 hA;have HN2:=qB.mk (HP.out.grow (Below.refl _ _) hA.out.2 hA.out.1);clear hA;go_wp2;go_ret;exact ⟨v',rfl,by have:=HN2.out; rw [←HE.out]; simpa only [List.append_assoc] using this⟩
theorem qa{W w':World}{p i:Nat}{cs:Array Value}{T:TypeId}{v:Value}(hk:ql W w')(h:W.heap[p]? = some (.cells cs T (0,0)))(hT:T≠5)(hi:cs[i]? = some v):w'.cell? ⟨p,i,none⟩=some v:=
 qD ((hk p _ _ _ h hT).trans h) hi
theorem UP.self{B:Nat}{w0 w:World}{v:Value}{bs:List UInt8}(h:UP B w0 w v bs):UP B w w v bs:=⟨h.own,Below.refl _ _,ql.refl _,h.hB⟩
theorem QH(w:World)(B:Nat)(v:Value)(bs:List UInt8)(x:Int)(h:UQ B w w v bs)(hx:OkN x)(hlen:LE47 (bs++numB x).length):
 Calls Tryz.prog 47 #[v,.int .u64 x] w (UPost B w (bs++numB x)):=by
 obtain ⟨h0,h1⟩:=hx;obtain ⟨k,rfl⟩:∃k:Nat,x=(k:Int):=⟨x.toNat,by omega⟩;have e:numB (k:Int)=bigB k:=by unfold numB; rw [Int.toNat_natCast]
 rw [e] at hlen ⊢;exact qBN w B v bs k h (by omega) hlen
theorem u64N{x:Int}(h:OkN x):IntKind.u64.wrap x=x:=IntWalk.u64_in _ (by have:=h.1; have:=h.2; omega)
theorem qKe{ops:Array Oper}{rest:List Oper}{o:Oper}{a:Act}{Q:Exit→Act→World→Prop}{w0 w:World}(hgd:o.guard=none)(s x:Operand)
 (ho:o.op=.call { callee:=.builtin .append,args:=#[s,x],argTypes:=#[39,39] }) (B:Nat) (v:Value) (bs:List UInt8) (hs:a.eval s=v) (hq:UQ B w0 w v bs)
 (c:UInt8) (n:Int) (hc:n=c.toNat) (m:Nat) (hx:a.eval x=.slice (some ⟨m,0,none⟩) 1 1) (hm:m=w.heap.size) (hlen:LE47 (bs.length+1))
 (h:Hid (∀v' w',qB (UP B w0 w' v' (bs++[c]))→wpList Tryz.prog ops Q rest (a.put o.dst v') w')):
 wpList Tryz.prog ops Q (o::rest) a (w.alloc (.cells #[.int .u8 n] 5)):=by
 subst hm;exact qEd hgd s x ho B v bs hs hq c n hc hx hlen h
structure PZ(w wr:World)(u:Value)(acc:List UInt8)(box:Array Value):Prop where
 up:UP w.heap.size wr wr u acc
 low:Below w.heap.size w wr
 box:wr.heap[w.heap.size]? = some (.cells box 27 (0,0))
theorem PZ.next{w wr w2:World}{u v:Value}{acc acc2:List UInt8}{box:Array Value}(h:PZ w wr u acc box)(hP:UP w.heap.size wr w2 v acc2):PZ w w2 v acc2 box:=
 ⟨hP.self,h.low.trans hP.low,(hP.keep _ _ _ _ h.box (by decide)).trans h.box⟩
theorem PZ.below{w wr w2:World}{u:Value}{acc:List UInt8}{box:Array Value}(h:PZ w wr u acc box)(hb:Below wr.heap.size wr w2):PZ w w2 u acc box:=
 ⟨(h.up.below hb).self,h.low.trans (hb.mono h.up.hB),qK h.box hb⟩
theorem le3{T acc a b c r:List UInt8}(h:T=acc++(a++(b++c))++r)(hl:∀p r,T=p++r→LE47 p.length):LE47 (acc++a).length∧LE47 (acc++a++b).length∧LE47 (acc++a++b++c).length:=
 ⟨hl _ (b++(c++r)) (by rw [h]; simp),hl _ (c++r) (by rw [h]; simp),hl _ r (by rw [h]; simp)⟩
set_option maxRecDepth 100000 in
set_option maxHeartbeats 16000000 in
theorem qGd(w:World)(A:Option Addr)(ca:Nat)(A2:Option Addr)(cb:Nat)(bs:List GBk)(gl:List GGl)(hc:CM w A ca A2 cb bs gl)(hok:OkC bs gl)(hlen:(Q3 bs gl).length≤1000000000):
 Calls Tryz.prog 24 #[qw A bs.length ca A2 gl.length cb] w fun e w'=>e=.returned (.string ⟨(qp bs gl).toArray⟩)∧Below w.heap.size w w':=by
 have hmb:bs.length≤9223372036854775807:=hc.ma.2.1;have hmg:gl.length≤9223372036854775807:=hc.mb.2.1;have HC:=Lib.hid hc;have HO:=Lib.hid hok;have HLp:Hid (∀p r,Q3 bs gl=p++r→LE47 p.length):=Lib.hid (fun p r e=>by rw [e,List.length_append] at hlen; unfold LE47; omega);have HT:Hid (Q3 bs gl=(qx++numB bs.length)++(bs.flatMap blkB++(numB gl.length++gl.flatMap glbB))):=Lib.hid rfl;have HPB:Hid (qp bs gl=QE (Q3 bs gl)∧(Q3 bs gl).length≤1000000000):=Lib.hid ⟨rfl,hlen⟩;have kc:=Joins.run_convert_bytes_const_at (P:=Tryz.prog) (w.alloc (.cells #[.slice A bs.length ca,.slice A2 gl.length cb] 27)) 39 5 #[.int .u8 100,.int .u8 107,.int .u8 49] 3 3 (w.heap.size+1) (by simp) Tryz.underlying39 Tryz.underlying5;obtain ⟨W2,hW2⟩:∃W2,W2=(w.alloc (.cells #[.slice A bs.length ca,.slice A2 gl.length cb] 27)).alloc (.cells #[.int .u8 100,.int .u8 107,.int .u8 49] 5 (3,4)):=⟨_,rfl⟩;have hN2:W2.heap[w.heap.size]? = some (.cells #[.slice A bs.length ca,.slice A2 gl.length cb] 27 (0,0))∧W2.heap[w.heap.size+1]? = some (.cells #[.int .u8 100,.int .u8 107,.int .u8 49] 5 (3,4)):=by
  have h2:=(MapKept.heap_alloc (w.alloc (.cells #[.slice A bs.length ca,.slice A2 gl.length cb] 27)) (.cells #[.int .u8 100,.int .u8 107,.int .u8 49] 5 (3,4))).1;simp only [World.size_alloc] at h2;rw [hW2];exact ⟨qK (qV w _) (qC (Below.refl _ _) _),h2⟩
 have hb2:Below w.heap.size w W2:=by rw [hW2]; exact qC (qC (Below.refl _ _) _) _
 have hsz:W2.heap.size=w.heap.size+2:=by rw [hW2]; simp
 have HU:qB (UQ w.heap.size W2 W2 (.slice (some ⟨w.heap.size+1,0,none⟩) 3 3) qx):=
  ⟨⟨.inr ⟨w.heap.size+1,rfl,by omega,hN2.2⟩,Below.refl _ _,ql.refl _,by omega⟩⟩
 have HROW0:=qB.mk hN2.1;have HB2:=qB.mk hb2;have hwb:=u64N (x:=(bs.length:Int)) ⟨by omega,by omega⟩;have HNM:=Lib.hid (QH _ w.heap.size _ qx (bs.length:Int) HU.out ⟨by omega,by omega⟩ (HLp.out _ _ HT.out));clear hc hok hlen hb2 hsz hN2;generalize Q3 bs gl=T at *;generalize qp bs gl=R at *;unfold qw;subst hW2;go_enter Tryz.func24,Tryz.ntmps24;go_wp2_with fail;refine HNM.out.mono ?_;rintro e w1 ⟨v0,rfl,hP⟩;have HP:=qB.mk hP;have HROW1:=qB.mk ((hP.keep _ _ _ _ HROW0.out (by decide)).trans HROW0.out);have HB1:=qB.mk (HB2.out.trans hP.low);have f0:=qD HROW1.out (i:=0) rfl;clear hP HNM HU HROW0 HB2 hwb kc;generalize (w.alloc (.cells #[.slice A bs.length ca,.slice A2 gl.length cb] 27)).alloc (.cells #[.int .u8 100,.int .u8 107,.int .u8 49] 5 (3,4))=W2 at *;go_wp2;clear f0;have HJ0:qB (PZ w w1 v0 (qx++numB bs.length) #[.slice A bs.length ca,.slice A2 gl.length cb]):=⟨⟨HP.out.self,HB1.out,HROW1.out⟩⟩;clear HP HROW1 HB1
 go_loopw [3,4] (fun u iv wr=>∃i:Nat,i≤bs.length∧iv=.int .i64 i∧qB (PZ w wr u ((qx++numB bs.length)++(bs.take i).flatMap blkB) #[.slice A bs.length ca,.slice A2 gl.length cb])) (fun _ iv _=>bs.length - (intOf iv).toNat)
 case atStart=>exact ⟨0,by omega,rfl,by simpa using HJ0⟩
 case round=>
  obtain ⟨i,hi,rfl,HJ⟩:=hrel;clear HJ0;have f0:=qD HJ.out.box (i:=0) rfl;by_cases hlt:i<bs.length
  ·obtain ⟨ad,A3,c3,e3,hx0,hx1,hx2,g3,C3⟩:=qAN HC.out.ma (i:Int) (by omega) (by omega);have hrd:qo bs (i:Int)=bs[i]:=by simp [qo,List.getD_eq_getElem?_getD,List.getElem?_eq_getElem hlt]
   have hob:=HO.out.blocks bs[i] (List.getElem_mem hlt);have hta:=Qc blkB bs i hlt;have htt:=HT.out;rw [qBY blkB bs i hlt] at htt;rw [hrd] at hx0 hx1 hx2 g3 C3;generalize bs[i]=y at *;obtain ⟨y0,y1,ops⟩:=y;simp only at hx0 hx1 hx2 g3 C3 hob;cases e3;simp only [Int.toNat_natCast] at hx0 hx1 hx2;replace hx0:=qA HJ.out.low hx0;replace hx1:=qA HJ.out.low hx1;replace hx2:=qA HJ.out.low hx2;have hmo:ops.length≤9223372036854775807:=C3.2.1;have HOB:=Lib.hid hob;have HTA:=Lib.hid hta;have HC3:=Lib.hid C3;generalize hacc:(qx++numB bs.length)++(bs.take i).flatMap blkB=acc at *;have HTA3:Hid ((qx++numB bs.length)++(bs.take (i+1)).flatMap blkB=acc++blkB ⟨y0,y1,ops⟩):=Lib.hid (by rw [hta,←hacc]; simp only [List.append_assoc]);generalize hrest:(bs.drop (i+1)).flatMap blkB=rest at *;have HTT:Hid (T=acc++(numB y0++(numB y1++numB (ops.length:Int)))++(ops.flatMap opB++(rest++(numB gl.length++gl.flatMap glbB)))):=Lib.hid (by rw [htt,←hacc]; simp [blkB,hdB]);have HN:Hid (OkN y0∧OkN y1∧OkN (ops.length:Int)):=Lib.hid ⟨hob.1,hob.2.1,by omega,by omega⟩;have HL:=Lib.hid (le3 HTT.out HLp.out);have hw0:=u64N HN.out.1;have hw1:=u64N HN.out.2.1;have hw2:=u64N HN.out.2.2;have hbz:=qC (Below.refl wr.heap.size wr) (.cells #[.int .i64 y0,.int .i64 y1,.slice A3 ops.length c3] 55);have HJ1:=qB.mk (HJ.out.below hbz);have HROW:=qB.mk (qV wr (.cells #[.int .i64 y0,.int .i64 y1,.slice A3 ops.length c3] 55))
   have z1:(0≤(i:Int))=True:=eq_true (by omega);have z2:((i:Int)<(bs.length:Int))=True:=eq_true (by omega);clear hob hta htt g3 C3 hbz hrd HJ;go_wp2;generalize wr.alloc (.cells #[.int .i64 y0,.int .i64 y1,.slice A3 ops.length c3] 55)=wS at *;generalize wr.heap.size=p5 at *;have HP0:qB (UP w.heap.size wS.drew wS.drew u3 acc):=⟨(HJ1.out.up.below (qE (Below.refl _ _))).self⟩;clear hx0 hx1 hx2 f0 z1 z2;refine qU (n:=15) (S:=fun w'=>w'.cell? ⟨p5,0,none⟩=some (.int .i64 y0)∧w'.cell? ⟨p5,1,none⟩=some (.int .i64 y1)∧w'.cell? ⟨p5,2,none⟩=some (.slice A3 ops.length c3)∧qB (ql wS w')) (ds:=[]) (mA 15 0) (by kernel_rfl) rfl rfl ⟨qa ((ql.below (qE (Below.refl _ _)))) HROW.out (by decide) (i:=0) rfl,qa ((ql.below (qE (Below.refl _ _)))) HROW.out (by decide) (i:=1) rfl,qa ((ql.below (qE (Below.refl _ _)))) HROW.out (by decide) (i:=2) rfl,⟨(ql.below (qE (Below.refl _ _)))⟩⟩ (fun hHeld=>?_);refine pa_ 15 1 0 (some 31) (v:=?_) (a':=?_) ?_ ?_ ?_;rotate_left 2
   ·intro w';go_simp
    with_reducible rfl
   ·simp only [pn];rfl
   refine pa_ 15 3 1 (some 32) (v:=?_) (a':=?_) ?_ ?_ ?_;rotate_left 2
   ·intro w';go_simp
    with_reducible rfl
   ·simp only [pn];rfl
   refine pa_ 15 35 5 (some 36) (v:=?_) (a':=?_) ?_ ?_ ?_;rotate_left 2
   ·intro w';go_simp
    with_reducible rfl
   ·simp only [pn];rfl
   refine pa_ 15 547 9 (some 40) (v:=?_) (a':=?_) ?_ ?_ ?_;rotate_left 2
   ·intro w';go_simp
    with_reducible rfl
   ·simp only [pn];rfl
   refine tb_ 15 551 2 (some 33) (v:=?_) (a':=?_) hHeld ?_ ?_ ?_;rotate_left 2
   ·rintro w' ⟨s0,s1,s2,s3⟩;go_simp
    with_reducible rfl
   ·simp only [pn];rfl
   refine pa_ 15 559 3 (some 34) (v:=?_) (a':=?_) ?_ ?_ ?_;rotate_left 2
   ·intro w';go_simp
    with_reducible rfl
   ·simp only [pn];rfl
   refine tb_ 15 623 6 (some 37) (v:=?_) (a':=?_) hHeld ?_ ?_ ?_;rotate_left 2
   ·rintro w' ⟨s0,s1,s2,s3⟩;go_simp
    with_reducible rfl
   ·simp only [pn];rfl
   refine pa_ 15 751 7 (some 38) (v:=?_) (a':=?_) ?_ ?_ ?_;rotate_left 2
   ·intro w';go_simp
    with_reducible rfl
   ·simp only [pn];rfl
   refine tb_ 15 1775 10 (some 41) (v:=?_) (a':=?_) hHeld ?_ ?_ ?_;rotate_left 2
   ·rintro w' ⟨s0,s1,s2,s3⟩;go_simp
    with_reducible rfl
   ·simp only [pn];rfl
   refine pa_ 15 3823 11 (some 42) (v:=?_) (a':=?_) ?_ ?_ ?_;rotate_left 2
   ·intro w';go_simp
    with_reducible rfl
   ·simp only [pn];rfl
   refine pa_ 15 7919 12 (some 43) (v:=?_) (a':=?_) ?_ ?_ ?_;rotate_left 2
   ·intro w';go_simp
    with_reducible rfl
   ·simp only [pn];rfl
   refine oo_ 15 7935 4 (some 35) (fun K hK=>?_);refine qR Tryz.func47 (by kernel_rfl) rfl #[u3,.int .u64 y0] (by rfl) rfl rfl (by simp only [List.map_toArray,List.map_cons,List.map_nil]; rfl) ?_
   with_reducible refine (QH _ _ _ _ _ HP0.out.self.q HN.out.1 HL.out.1).mono ?_
   rintro e m1 ⟨v1,rfl,h1⟩;refine ⟨_,rfl,?_⟩;refine hK.out _ _ ⟨qa ((hHeld.2.2.2.out.trans h1.keep)) HROW.out (by decide) (i:=0) rfl,qa ((hHeld.2.2.2.out.trans h1.keep)) HROW.out (by decide) (i:=1) rfl,qa ((hHeld.2.2.2.out.trans h1.keep)) HROW.out (by decide) (i:=2) rfl,⟨(hHeld.2.2.2.out.trans h1.keep)⟩⟩ (fun hHeld=>?_);clear hK K;refine qM (a':=?_) ?_ ?_;rotate_left
   ·show Act.put _ (some 35) _=_
    simp only [pn];rfl
   refine oo_ 15 8191 8 (some 39) (fun K hK=>?_);refine qR Tryz.func47 (by kernel_rfl) rfl #[v1,.int .u64 y1] (by rfl) rfl rfl (by simp only [List.map_toArray,List.map_cons,List.map_nil]; rfl) ?_
   with_reducible refine (QH _ _ _ _ _ h1.self.q HN.out.2.1 HL.out.2.1).mono ?_
   rintro e m2 ⟨v2,rfl,h2⟩;refine ⟨_,rfl,?_⟩;refine hK.out _ _ ⟨qa ((hHeld.2.2.2.out.trans h2.keep)) HROW.out (by decide) (i:=0) rfl,qa ((hHeld.2.2.2.out.trans h2.keep)) HROW.out (by decide) (i:=1) rfl,qa ((hHeld.2.2.2.out.trans h2.keep)) HROW.out (by decide) (i:=2) rfl,⟨(hHeld.2.2.2.out.trans h2.keep)⟩⟩ (fun hHeld=>?_);clear hK K;refine qM (a':=?_) ?_ ?_;rotate_left
   ·show Act.put _ (some 39) _=_
    simp only [pn];rfl
   refine oo_ 15 16383 13 (some 44) (fun K hK=>?_);refine qR Tryz.func47 (by kernel_rfl) rfl #[v2,.int .u64 (ops.length:Int)] (by rfl) rfl rfl (by simp only [List.map_toArray,List.map_cons,List.map_nil]; rfl) ?_
   with_reducible refine (QH _ _ _ _ _ h2.self.q HN.out.2.2 HL.out.2.2).mono ?_
   rintro e m3 ⟨v3,rfl,h3⟩;refine ⟨_,rfl,?_⟩;refine hK.out _ _ ⟨qa ((hHeld.2.2.2.out.trans h3.keep)) HROW.out (by decide) (i:=0) rfl,qa ((hHeld.2.2.2.out.trans h3.keep)) HROW.out (by decide) (i:=1) rfl,qa ((hHeld.2.2.2.out.trans h3.keep)) HROW.out (by decide) (i:=2) rfl,⟨(hHeld.2.2.2.out.trans h3.keep)⟩⟩ (fun hHeld=>?_);clear hK K;refine qM (a':=?_) ?_ ?_;rotate_left
   ·show Act.put _ (some 44) _=_
    simp only [pn];rfl
   refine pa_ 15 32767 14 (some 3) (v:=?_) (a':=?_) ?_ ?_ ?_;rotate_left 2
   ·intro w';go_simp
    with_reducible rfl
   ·simp only [pn];rfl
   refine qn (by kernel_rfl) ?_;have hkw:ql wS m3:=hHeld.2.2.2.out;have HJ2:qB (PZ w m3 v3 (acc++numB y0++numB y1++numB (ops.length:Int)) #[.slice (some ad) bs.length ca,.slice A2 gl.length cb]∧m3.heap[p5]? = some (.cells #[.int .i64 y0,.int .i64 y1,.slice A3 ops.length c3] 55 (0,0))):=
    ⟨⟨(((HJ1.out.below (qE (Below.refl _ _))).next h1).next h2).next h3,(hkw _ _ _ _ HROW.out (by decide)).trans HROW.out⟩⟩
   have HTO:Hid (T=acc++numB y0++numB y1++numB (ops.length:Int)++(ops.flatMap opB++(rest++(numB gl.length++gl.flatMap glbB)))):=Lib.hid (by rw [HTT.out]; simp);have HTA2:Hid (∀l,acc++numB y0++numB y1++numB (ops.length:Int)++l=acc++(hdB ⟨y0,y1,ops⟩++l)):=Lib.hid (fun l=>by simp [hdB]);generalize hac5:acc++numB y0++numB y1++numB (ops.length:Int)=ac5 at *;have k2:=qD HJ2.out.2 (i:=2) rfl;clear hHeld h1 h2 h3 hkw HP0 HROW HJ1 HL HTT hw0 hw1 hw2 HN hac5;go_wp2;clear k2;obtain ⟨wo,rfl⟩:∃wo:World,wo=wr:=⟨_,rfl⟩
   go_loopw [3,6] (fun u jv wr=>∃j:Nat,j≤ops.length∧jv=.int .i64 j∧qB (PZ w wr u (ac5++(ops.take j).flatMap opB) #[.slice (some ad) bs.length ca,.slice A2 gl.length cb]∧wr.heap[p5]? = some (.cells #[.int .i64 y0,.int .i64 y1,.slice A3 ops.length c3] 55 (0,0)))) (fun _ jv _=>ops.length - (intOf jv).toNat)
   case atStart=>exact ⟨0,by omega,rfl,by simpa using HJ2⟩
   case round=>
    obtain ⟨j,hj,rfl,HD⟩:=hrel;clear HJ2;have k2:=qD HD.out.2 (i:=2) rfl;by_cases hlj:j<ops.length
    ·obtain ⟨ad2,A5,c5,A6,c6,e5,hz0,hz1,hz2,hz3,hz4,hz5,hz6,g5,C5,g6,C6⟩:=qA3 HC3.out (j:Int) (by omega) (by omega);have hrd:qj ops (j:Int)=ops[j]:=by simp [qj,List.getD_eq_getElem?_getD,List.getElem?_eq_getElem hlj]
     have hoo:=HOB.out.2.2 ops[j] (List.getElem_mem hlj);have hto:=Qc opB ops j hlj;have htt:=HTO.out;rw [qBY opB ops j hlj] at htt;rw [hrd] at hz0 hz1 hz2 hz3 hz4 hz5 hz6 g5 C5 g6 C6;generalize ops[j]=g at *;obtain ⟨g0,g1,g2,g3,g4,l5,l6⟩:=g;simp only at hz0 hz1 hz2 hz3 hz4 hz5 hz6 g5 C5 g6 C6;cases e5;simp only [Int.toNat_natCast] at hz0 hz1 hz2 hz3 hz4 hz5 hz6;have hlw:=HD.out.1.low;replace hz0:=qA hlw hz0;replace hz1:=qA hlw hz1;replace hz2:=qA hlw hz2;replace hz3:=qA hlw hz3;replace hz4:=qA hlw hz4;replace hz5:=qA hlw hz5;replace hz6:=qA hlw hz6;have hm5:l5.length≤9223372036854775807:=C5.2.1;have hm6:l6.length≤9223372036854775807:=C6.2.1;have HC5:=Lib.hid (And.intro C5 C6);obtain ⟨cb0,hcb⟩:∃c:UInt8,c=UInt8.ofNat g0.toNat:=⟨_,rfl⟩;have hg0:=hoo.n0;simp only at hg0;have hcn:g0=(cb0.toNat:Int):=by rw [hcb,UInt8.toNat_ofNat',Nat.mod_eq_of_lt (by omega)]; omega
     have HCN:=Lib.hid hcn;have hw8:IntKind.u8.wrap g0=g0:=IntWalk.u8_in _ (by omega);have HN:Hid (True∧OkN g1∧OkN g2∧Ok64 g3∧g4.size≤1000000000∧OkN (l5.length:Int)∧OkN (l6.length:Int)∧OkNs l5∧∀a∈l6,OkAl a):=Lib.hid ⟨trivial,hoo.n1,hoo.n2,hoo.n3,hoo.s4,⟨by omega,by omega⟩,⟨by omega,by omega⟩,hoo.l5,hoo.l6⟩;have HFN:Hid (Qf g3≤18446744073709551615):=Lib.hid (by have:=hoo.n3; obtain ⟨q1,q2⟩:=this; simp only at q1 q2; unfold Qf; split<;>omega);generalize hac:ac5++(ops.take j).flatMap opB=ac at *;generalize hr9:(ops.drop (j+1)).flatMap opB++(rest++(numB gl.length++gl.flatMap glbB))=r9 at *;have hopB:opB ⟨g0,g1,g2,g3,g4,l5,l6⟩=[cb0]++(numB g1++(numB g2++(QG g3++(strB g4.data.toList++(numB (l5.length:Int)++(qi l5++(numB (l6.length:Int)++l6.flatMap altB))))))):=by simp [opB,opP,hcb]
     have hTl:ac.length+(1+((numB g1).length+((numB g2).length+((QG g3).length+((strB g4.data.toList).length+((numB (l5.length:Int)).length+((qi l5).length+((numB (l6.length:Int)).length+(l6.flatMap altB).length))))))))≤1000000000:=by
      have h1:=HPB.out.2;have h2:T=ac++(opB ⟨g0,g1,g2,g3,g4,l5,l6⟩++r9):=by rw [htt,←hac,←hr9]; simp
      rw [h2,hopB] at h1;simp only [List.length_append,List.length_cons,List.length_nil] at h1;omega
     have hib:(bigB (Qf g3)).length=(QG g3).length:=rfl;have HLN:∀l:List UInt8,l.length≤1000000000→LE47 l.length:=fun l h=>by unfold LE47; omega
     have HTP:Hid ((ac5++(ops.take (j+1)).flatMap opB)=ac++([cb0]++(numB g1++(numB g2++(QG g3++(strB g4.data.toList++(numB (l5.length:Int)++(qi l5++(numB (l6.length:Int)++l6.flatMap altB))))))))):=Lib.hid (by rw [hto,←hopB,←hac,List.append_assoc]);have hw1:=u64N HN.out.2.1;have hw2:=u64N HN.out.2.2.1;have hw5:=u64N HN.out.2.2.2.2.2.1;have hw6:=u64N HN.out.2.2.2.2.2.2.1;have z1:(0≤(j:Int))=True:=eq_true (by omega);have z2:((j:Int)<(ops.length:Int))=True:=eq_true (by omega);have hbz:=qC (Below.refl wr.heap.size wr) (.cells #[.int .i64 g0,.int .i64 g1,.int .i64 g2,.int .i64 g3,.string g4,.slice A5 l5.length c5,.slice A6 l6.length c6] 59);have HD1:=qB.mk (And.intro (HD.out.1.below hbz) (qK HD.out.2 hbz));have HR7:=qB.mk (qV wr (.cells #[.int .i64 g0,.int .i64 g1,.int .i64 g2,.int .i64 g3,.string g4,.slice A5 l5.length c5,.slice A6 l6.length c6] 59));have q0:=qD HR7.out (i:=0) rfl;obtain ⟨a0,k0,cc0,rfl⟩:=HD.out.1.up.q.shape;have hb9:=HLN (ac++[cb0]) (by simp only [List.length_append,List.length_cons,List.length_nil]; omega);have hb10:LE47 (ac.length+1):=by rw [List.length_append] at hb9; exact hb9
     clear hoo hto htt hopB hcn hcb hg0 g5 C5 g6 C6 hrd hlw hbz HD hb9 hac hr9;go_wp2_with (refine qKe rfl _ _ rfl _ _ ac rfl HD1.out.1.up.q cb0 _ HCN.out _ rfl (by simp) hb10 ?_);refine Lib.hid ?_;intro vq wS hA;have HD2:qB (PZ w wS vq (ac++[cb0]) #[.slice (some ad) bs.length ca,.slice A2 gl.length cb]∧wS.heap[p5]? = some (.cells #[.int .i64 y0,.int .i64 y1,.slice (some ad2) ops.length c3] 55 (0,0))):=⟨⟨HD1.out.1.next hA.out,(hA.out.keep _ _ _ _ HD1.out.2 (by decide)).trans HD1.out.2⟩⟩;have HROW:qB (wS.heap[wr.heap.size]? = some (.cells #[.int .i64 g0,.int .i64 g1,.int .i64 g2,.int .i64 g3,.string g4,.slice A5 l5.length c5,.slice A6 l6.length c6] 59 (0,0))):=⟨(hA.out.keep _ _ _ _ HR7.out (by decide)).trans HR7.out⟩;have HP0:qB (UP w.heap.size wS.drew wS.drew vq (ac++[cb0])):=⟨(HD2.out.1.up.below (qE (Below.refl _ _))).self⟩;clear hA HD1 HR7 hz0 hz1 hz2 hz3 hz4 hz5 hz6 q0 k2 hw8 hb10 z1 z2;go_wp2;generalize wr.heap.size=p7 at *
     refine qU (n:=14) (S:=fun w'=>w'.cell? ⟨p7,1,none⟩=some (.int .i64 g1)∧w'.cell? ⟨p7,2,none⟩=some (.int .i64 g2)∧w'.cell? ⟨p7,3,none⟩=some (.int .i64 g3)∧qB (ql wS w')) (ds:=[]) (mA 14 0) (by kernel_rfl) rfl rfl ⟨qa ((ql.below (qE (Below.refl _ _)))) HROW.out (by decide) (i:=1) rfl,qa ((ql.below (qE (Below.refl _ _)))) HROW.out (by decide) (i:=2) rfl,qa ((ql.below (qE (Below.refl _ _)))) HROW.out (by decide) (i:=3) rfl,⟨(ql.below (qE (Below.refl _ _)))⟩⟩ (fun hHeld=>?_);refine pa_ 14 1 0 (some 63) (v:=?_) (a':=?_) ?_ ?_ ?_;rotate_left 2
     ·intro w';go_simp
      with_reducible rfl
     ·simp only [pn];rfl
     refine pa_ 14 3 1 (some 64) (v:=?_) (a':=?_) ?_ ?_ ?_;rotate_left 2
     ·intro w';go_simp
      with_reducible rfl
     ·simp only [pn];rfl
     refine pa_ 14 35 5 (some 68) (v:=?_) (a':=?_) ?_ ?_ ?_;rotate_left 2
     ·intro w';go_simp
      with_reducible rfl
     ·simp only [pn];rfl
     refine pa_ 14 547 9 (some 72) (v:=?_) (a':=?_) ?_ ?_ ?_;rotate_left 2
     ·intro w';go_simp
      with_reducible rfl
     ·simp only [pn];rfl
     refine tb_ 14 551 2 (some 65) (v:=?_) (a':=?_) hHeld ?_ ?_ ?_;rotate_left 2
     ·rintro w' ⟨s0,s1,s2,s3⟩;go_simp
      with_reducible rfl
     ·simp only [pn];rfl
     refine pa_ 14 559 3 (some 66) (v:=?_) (a':=?_) ?_ ?_ ?_;rotate_left 2
     ·intro w';go_simp
      with_reducible rfl
     ·simp only [pn];rfl
     refine tb_ 14 623 6 (some 69) (v:=?_) (a':=?_) hHeld ?_ ?_ ?_;rotate_left 2
     ·rintro w' ⟨s0,s1,s2,s3⟩;go_simp
      with_reducible rfl
     ·simp only [pn];rfl
     refine pa_ 14 751 7 (some 70) (v:=?_) (a':=?_) ?_ ?_ ?_;rotate_left 2
     ·intro w';go_simp
      with_reducible rfl
     ·simp only [pn];rfl
     refine tb_ 14 1775 10 (some 73) (v:=?_) (a':=?_) hHeld ?_ ?_ ?_;rotate_left 2
     ·rintro w' ⟨s0,s1,s2,s3⟩;go_simp
      with_reducible rfl
     ·simp only [pn];rfl
     refine oo_ 14 1791 4 (some 67) (fun K hK=>?_);refine qR Tryz.func47 (by kernel_rfl) rfl #[vq,.int .u64 g1] (by rfl) rfl rfl (by simp only [List.map_toArray,List.map_cons,List.map_nil]; rfl) ?_
     with_reducible refine (QH _ _ _ _ _ HP0.out.self.q HN.out.2.1 (HLN _ (by simp only [List.length_append,List.length_cons,List.length_nil]; omega))).mono ?_
     rintro e m1 ⟨v1,rfl,h1⟩;refine ⟨_,rfl,?_⟩;refine hK.out _ _ ⟨qa ((hHeld.2.2.2.out.trans h1.keep)) HROW.out (by decide) (i:=1) rfl,qa ((hHeld.2.2.2.out.trans h1.keep)) HROW.out (by decide) (i:=2) rfl,qa ((hHeld.2.2.2.out.trans h1.keep)) HROW.out (by decide) (i:=3) rfl,⟨(hHeld.2.2.2.out.trans h1.keep)⟩⟩ (fun hHeld=>?_);clear hK K;refine qM (a':=?_) ?_ ?_;rotate_left
     ·show Act.put _ (some 67) _=_
      simp only [pn];rfl
     refine oo_ 14 2047 8 (some 71) (fun K hK=>?_);refine qR Tryz.func47 (by kernel_rfl) rfl #[v1,.int .u64 g2] (by rfl) rfl rfl (by simp only [List.map_toArray,List.map_cons,List.map_nil]; rfl) ?_
     with_reducible refine (QH _ _ _ _ _ h1.self.q HN.out.2.2.1 (HLN _ (by simp only [List.length_append,List.length_cons,List.length_nil]; omega))).mono ?_
     rintro e m2 ⟨v2,rfl,h2⟩;refine ⟨_,rfl,?_⟩;refine hK.out _ _ ⟨qa ((hHeld.2.2.2.out.trans h2.keep)) HROW.out (by decide) (i:=1) rfl,qa ((hHeld.2.2.2.out.trans h2.keep)) HROW.out (by decide) (i:=2) rfl,qa ((hHeld.2.2.2.out.trans h2.keep)) HROW.out (by decide) (i:=3) rfl,⟨(hHeld.2.2.2.out.trans h2.keep)⟩⟩ (fun hHeld=>?_);clear hK K;refine qM (a':=?_) ?_ ?_;rotate_left
     ·show Act.put _ (some 71) _=_
      simp only [pn];rfl
     refine oo_ 14 4095 11 (some 74) (fun K hK=>?_);refine qR Tryz.func48 (by kernel_rfl) rfl #[.int .i64 g3] (by rfl) rfl rfl (by simp only [List.map_toArray,List.map_cons,List.map_nil]; rfl) ?_
     with_reducible refine (qCk g3 HN.out.2.2.2.1 _).mono ?_
     rintro e uf3 ⟨rfl,rfl⟩;refine ⟨_,rfl,?_⟩;refine hK.out _ _ ⟨hHeld.1,hHeld.2.1,hHeld.2.2.1,hHeld.2.2.2⟩ (fun hHeld=>?_);clear hK K;refine qM (a':=?_) ?_ ?_;rotate_left
     ·show Act.put _ (some 74) _=_
      simp only [pn];rfl
     refine oo_ 14 8191 12 (some 75) (fun K hK=>?_);refine qR Tryz.func47 (by kernel_rfl) rfl #[v2,.int .u64 ((Qf g3:Nat):Int)] (by rfl) rfl rfl (by simp only [List.map_toArray,List.map_cons,List.map_nil]; rfl) ?_
     with_reducible refine (qBN _ _ _ _ _ h2.self.q HFN.out (HLN _ (by simp only [List.length_append,List.length_cons,List.length_nil]; omega))).mono ?_
     rintro e m3 ⟨v3,rfl,h3⟩;refine ⟨_,rfl,?_⟩;refine hK.out _ _ ⟨qa ((hHeld.2.2.2.out.trans h3.keep)) HROW.out (by decide) (i:=1) rfl,qa ((hHeld.2.2.2.out.trans h3.keep)) HROW.out (by decide) (i:=2) rfl,qa ((hHeld.2.2.2.out.trans h3.keep)) HROW.out (by decide) (i:=3) rfl,⟨(hHeld.2.2.2.out.trans h3.keep)⟩⟩ (fun hHeld=>?_);clear hK K;refine qM (a':=?_) ?_ ?_;rotate_left
     ·show Act.put _ (some 75) _=_
      simp only [pn];rfl
     refine pa_ 14 16383 13 (some 3) (v:=?_) (a':=?_) ?_ ?_ ?_;rotate_left 2
     ·intro w';go_simp
      with_reducible rfl
     ·simp only [pn];rfl
     refine qn (by kernel_rfl) ?_;have hkw:ql wS m3:=hHeld.2.2.2.out;have HD3:qB (PZ w m3 v3 (ac++[cb0]++numB g1++numB g2++QG g3) #[.slice (some ad) bs.length ca,.slice A2 gl.length cb]∧m3.heap[p5]? = some (.cells #[.int .i64 y0,.int .i64 y1,.slice (some ad2) ops.length c3] 55 (0,0))):=
      ⟨⟨(((HD2.out.1.below (qE (Below.refl _ _))).next h1).next h2).next h3,(hkw _ _ _ _ HD2.out.2 (by decide)).trans HD2.out.2⟩⟩
     have HROW3:qB (m3.heap[p7]? = some (.cells #[.int .i64 g0,.int .i64 g1,.int .i64 g2,.int .i64 g3,.string g4,.slice A5 l5.length c5,.slice A6 l6.length c6] 59 (0,0))):=⟨(hkw _ _ _ _ HROW.out (by decide)).trans HROW.out⟩;have HP3:qB (UP w.heap.size m3.drew m3.drew v3 (ac++[cb0]++numB g1++numB g2++QG g3)):=⟨(HD3.out.1.up.below (qE (Below.refl _ _))).self⟩;clear hHeld h1 h2 h3 hkw HD2 HROW HP0 hw1 hw2;go_wp2;refine qU (n:=10) (S:=fun w'=>w'.cell? ⟨p7,4,none⟩=some (.string g4)∧w'.cell? ⟨p7,5,none⟩=some (.slice A5 l5.length c5)∧qB (ql m3 w')) (ds:=[]) (mA 10 0) (by kernel_rfl) rfl rfl ⟨qa ((ql.below (qE (Below.refl _ _)))) HROW3.out (by decide) (i:=4) rfl,qa ((ql.below (qE (Below.refl _ _)))) HROW3.out (by decide) (i:=5) rfl,⟨(ql.below (qE (Below.refl _ _)))⟩⟩ (fun hHeld=>?_);refine pa_ 10 1 0 (some 76) (v:=?_) (a':=?_) ?_ ?_ ?_;rotate_left 2
     ·intro w';go_simp
      with_reducible rfl
     ·simp only [pn];rfl
     refine pa_ 10 3 1 (some 77) (v:=?_) (a':=?_) ?_ ?_ ?_;rotate_left 2
     ·intro w';go_simp
      with_reducible rfl
     ·simp only [pn];rfl
     refine pa_ 10 19 4 (some 80) (v:=?_) (a':=?_) ?_ ?_ ?_;rotate_left 2
     ·intro w';go_simp
      with_reducible rfl
     ·simp only [pn];rfl
     refine tb_ 10 23 2 (some 78) (v:=?_) (a':=?_) hHeld ?_ ?_ ?_;rotate_left 2
     ·rintro w' ⟨s0,s1,s2⟩;go_simp
      with_reducible rfl
     ·simp only [pn];rfl
     refine tb_ 10 55 5 (some 81) (v:=?_) (a':=?_) hHeld ?_ ?_ ?_;rotate_left 2
     ·rintro w' ⟨s0,s1,s2⟩;go_simp
      with_reducible rfl
     ·simp only [pn];rfl
     refine pa_ 10 119 6 (some 82) (v:=?_) (a':=?_) ?_ ?_ ?_;rotate_left 2
     ·intro w';go_simp
      with_reducible rfl
     ·simp only [pn];rfl
     refine pa_ 10 247 7 (some 83) (v:=?_) (a':=?_) ?_ ?_ ?_;rotate_left 2
     ·intro w';go_simp
      with_reducible rfl
     ·simp only [pn];rfl
     refine oo_ 10 255 3 (some 79) (fun K hK=>?_);refine qR Tryz.func49 (by kernel_rfl) rfl #[v3,.string g4] (by rfl) rfl rfl (by simp only [List.map_toArray,List.map_cons,List.map_nil]; rfl) ?_
     with_reducible refine (qCc _ _ _ _ _ HP3.out.self HN.out.2.2.2.2.1 (HLN _ (by simp only [List.length_append,List.length_cons,List.length_nil]; omega))).mono ?_
     rintro e m4 ⟨v4,rfl,h4⟩;refine ⟨_,rfl,?_⟩;refine hK.out _ _ ⟨qa ((hHeld.2.2.out.trans h4.keep)) HROW3.out (by decide) (i:=4) rfl,qa ((hHeld.2.2.out.trans h4.keep)) HROW3.out (by decide) (i:=5) rfl,⟨(hHeld.2.2.out.trans h4.keep)⟩⟩ (fun hHeld=>?_);clear hK K;refine qM (a':=?_) ?_ ?_;rotate_left
     ·show Act.put _ (some 79) _=_
      simp only [pn];rfl
     refine oo_ 10 511 8 (some 84) (fun K hK=>?_);refine qR Tryz.func47 (by kernel_rfl) rfl #[v4,.int .u64 (l5.length:Int)] (by rfl) rfl rfl (by simp only [List.map_toArray,List.map_cons,List.map_nil]; rfl) ?_
     with_reducible refine (QH _ _ _ _ _ h4.self.q HN.out.2.2.2.2.2.1 (HLN _ (by simp only [List.length_append,List.length_cons,List.length_nil]; omega))).mono ?_
     rintro e m5 ⟨v5,rfl,h5⟩;refine ⟨_,rfl,?_⟩;refine hK.out _ _ ⟨qa ((hHeld.2.2.out.trans h5.keep)) HROW3.out (by decide) (i:=4) rfl,qa ((hHeld.2.2.out.trans h5.keep)) HROW3.out (by decide) (i:=5) rfl,⟨(hHeld.2.2.out.trans h5.keep)⟩⟩ (fun hHeld=>?_);clear hK K;refine qM (a':=?_) ?_ ?_;rotate_left
     ·show Act.put _ (some 84) _=_
      simp only [pn];rfl
     refine pa_ 10 1023 9 (some 3) (v:=?_) (a':=?_) ?_ ?_ ?_;rotate_left 2
     ·intro w';go_simp
      with_reducible rfl
     ·simp only [pn];rfl
     refine qn (by kernel_rfl) ?_;have hkw:ql m3 m5:=hHeld.2.2.out;have HD5:qB (PZ w m5 v5 (ac++[cb0]++numB g1++numB g2++QG g3++strB g4.data.toList++numB (l5.length:Int)) #[.slice (some ad) bs.length ca,.slice A2 gl.length cb]∧m5.heap[p5]? = some (.cells #[.int .i64 y0,.int .i64 y1,.slice (some ad2) ops.length c3] 55 (0,0))∧m5.heap[p7]? = some (.cells #[.int .i64 g0,.int .i64 g1,.int .i64 g2,.int .i64 g3,.string g4,.slice A5 l5.length c5,.slice A6 l6.length c6] 59 (0,0))):=
      ⟨⟨((HD3.out.1.below (qE (Below.refl _ _))).next h4).next h5,(hkw _ _ _ _ HD3.out.2 (by decide)).trans HD3.out.2,(hkw _ _ _ _ HROW3.out (by decide)).trans HROW3.out⟩⟩
     generalize hac8:ac++[cb0]++numB g1++numB g2++QG g3++strB g4.data.toList++numB (l5.length:Int)=ac8 at *;have HL8:Hid (ac8.length+((qi l5).length+((numB (l6.length:Int)).length+(l6.flatMap altB).length))≤1000000000):=Lib.hid (by rw [←hac8]; simp only [List.length_append,List.length_cons,List.length_nil]; omega);have HTP8:Hid ((ac5++(ops.take (j+1)).flatMap opB)=ac8++(qi l5++(numB (l6.length:Int)++l6.flatMap altB))):=Lib.hid (by rw [HTP.out,←hac8]; simp);have q5:=qD HD5.out.2.2 (i:=5) rfl;clear hHeld h4 h5 hkw HD3 HROW3 HP3 hw5 hTl HTP HFN hac8;go_wp2;clear q5;obtain ⟨wo2,rfl⟩:∃wo2:World,wo2=wr:=⟨_,rfl⟩
     go_loopw [3,8] (fun u kv wr=>∃k:Nat,k≤l5.length∧kv=.int .i64 k∧qB (PZ w wr u (ac8++qi (l5.take k)) #[.slice (some ad) bs.length ca,.slice A2 gl.length cb]∧wr.heap[p5]? = some (.cells #[.int .i64 y0,.int .i64 y1,.slice (some ad2) ops.length c3] 55 (0,0))∧wr.heap[p7]? = some (.cells #[.int .i64 g0,.int .i64 g1,.int .i64 g2,.int .i64 g3,.string g4,.slice A5 l5.length c5,.slice A6 l6.length c6] 59 (0,0)))) (fun _ kv _=>l5.length - (intOf kv).toNat)
     case atStart=>exact ⟨0,by omega,rfl,by simpa [qi] using HD5⟩
     case round=>
      obtain ⟨k,hk,rfl,HE⟩:=hrel;clear HD5;have q5:=qD HE.out.2.2 (i:=5) rfl;by_cases hlk:k<l5.length
      ·obtain ⟨ad5,e5,hx0⟩:=Kd.at_int HC5.out.1 (k:Int) (by omega) (by omega);cases e5;replace hx0:=qA HE.out.1.low hx0;simp only [Int.toNat_natCast] at hx0;have eX:rd l5 (k:Int)=l5.getD k 0:=rfl;rw [eX] at hx0;have hnt:=qEz l5 k hlk;have hnk:OkN (l5.getD k 0):=HN.out.2.2.2.2.2.2.2.1 _ (by simp [List.getD_eq_getElem?_getD,List.getElem?_eq_getElem hlk]);generalize l5.getD k 0=x at *;have hlt8:(qi (l5.take k)).length+(numB x).length≤(qi l5).length:=by
        have e1:qi l5=qi (l5.take (k+1))++qi (l5.drop (k+1)):=by unfold qi; exact fm_take numB l5 (k+1)
        rw [e1,hnt];simp only [List.length_append];omega
       have HC:=Lib.hid (QH wr w.heap.size u3 (ac8++qi (l5.take k)) x HE.out.1.up.q hnk (HLN _ (by have:=HL8.out; simp only [List.length_append]; omega)));have hwx:=u64N hnk;have HNT:=Lib.hid hnt;have z1:(0≤(k:Int))=True:=eq_true (by omega);have z2:((k:Int)<(l5.length:Int))=True:=eq_true (by omega);clear hnt hnk hlt8 eX;go_wp2_with fail;refine HC.out.mono ?_;rintro e wn ⟨vn,rfl,hPn⟩;have HF:qB (PZ w wn vn (ac8++qi (l5.take (k+1))) #[.slice (some ad) bs.length ca,.slice A2 gl.length cb]∧wn.heap[p5]? = some (.cells #[.int .i64 y0,.int .i64 y1,.slice (some ad2) ops.length c3] 55 (0,0))∧wn.heap[p7]? = some (.cells #[.int .i64 g0,.int .i64 g1,.int .i64 g2,.int .i64 g3,.string g4,.slice (some ad5) l5.length c5,.slice A6 l6.length c6] 59 (0,0))):=
        ⟨⟨by rw [HNT.out,←List.append_assoc]; exact HE.out.1.next hPn,(hPn.keep _ _ _ _ HE.out.2.1 (by decide)).trans HE.out.2.1,(hPn.keep _ _ _ _ HE.out.2.2 (by decide)).trans HE.out.2.2⟩⟩
       clear hPn HC HE hwx z1 z2 hx0 q5;go_wp2;go_roundw
       case rel=>exact ⟨k+1,by omega,by go_num,HF⟩
       case measure=>simp [intOf]; omega
      ·obtain rfl:k=l5.length:=by omega
       rw [List.take_length] at HE;have HC6:=Lib.hid (QH wr w.heap.size u3 (ac8++qi l5) (l6.length:Int) HE.out.1.up.q HN.out.2.2.2.2.2.2.1 (HLN _ (by have:=HL8.out; simp only [List.length_append]; omega)));have q6:=qD HE.out.2.2 (i:=6) rfl;go_wp2_with fail;refine HC6.out.mono ?_;rintro e wn ⟨vn,rfl,hPn⟩;have HF:qB (PZ w wn vn (ac8++qi l5++numB (l6.length:Int)) #[.slice (some ad) bs.length ca,.slice A2 gl.length cb]∧wn.heap[p5]? = some (.cells #[.int .i64 y0,.int .i64 y1,.slice (some ad2) ops.length c3] 55 (0,0))∧wn.heap[p7]? = some (.cells #[.int .i64 g0,.int .i64 g1,.int .i64 g2,.int .i64 g3,.string g4,.slice A5 l5.length c5,.slice A6 l6.length c6] 59 (0,0))):=
        ⟨⟨HE.out.1.next hPn,(hPn.keep _ _ _ _ HE.out.2.1 (by decide)).trans HE.out.2.1,(hPn.keep _ _ _ _ HE.out.2.2 (by decide)).trans HE.out.2.2⟩⟩
       generalize hac9:ac8++qi l5++numB (l6.length:Int)=ac9 at *;have HL9:Hid (ac9.length+(l6.flatMap altB).length≤1000000000):=Lib.hid (by have:=HL8.out; rw [←hac9]; simp only [List.length_append]; omega);have HTP9:Hid ((ac5++(ops.take (j+1)).flatMap opB)=ac9++l6.flatMap altB):=Lib.hid (by rw [HTP8.out,←hac9]; simp);clear hPn HC6 HE q5 q6 hw6 HL8 HTP8 hac9;have q6:=qD HF.out.2.2 (i:=6) rfl;go_wp2;clear q6;obtain ⟨wo3,rfl⟩:∃wo3:World,wo3=wr:=⟨_,rfl⟩
       go_loopw [3,9] (fun u kv wr=>∃k:Nat,k≤l6.length∧kv=.int .i64 k∧qB (PZ w wr u (ac9++(l6.take k).flatMap altB) #[.slice (some ad) bs.length ca,.slice A2 gl.length cb]∧wr.heap[p5]? = some (.cells #[.int .i64 y0,.int .i64 y1,.slice (some ad2) ops.length c3] 55 (0,0))∧wr.heap[p7]? = some (.cells #[.int .i64 g0,.int .i64 g1,.int .i64 g2,.int .i64 g3,.string g4,.slice A5 l5.length c5,.slice A6 l6.length c6] 59 (0,0)))) (fun _ kv _=>l6.length - (intOf kv).toNat)
       case atStart=>exact ⟨0,by omega,rfl,by simpa using HF⟩
       case round=>
        obtain ⟨k,hk,rfl,HE⟩:=hrel;clear HF;have q6:=qD HE.out.2.2 (i:=6) rfl;by_cases hlk:k<l6.length
        ·obtain ⟨ad6,e6,hx0,hx1,hx2,hx3⟩:=qA2 HC5.out.2 (k:Int) (by omega) (by omega);have hrd:QK l6 (k:Int)=l6[k]:=by simp [QK,List.getD_eq_getElem?_getD,List.getElem?_eq_getElem hlk]
         have hoa:=HN.out.2.2.2.2.2.2.2.2 l6[k] (List.getElem_mem hlk);have hta6:=Qc altB l6 k hlk;have htt6:=qBY altB l6 k hlk;rw [hrd] at hx0 hx1 hx2 hx3;generalize l6[k]=x at *;obtain ⟨x0,x1,x2,x3⟩:=x;simp only at hx0 hx1 hx2 hx3;cases e6;simp only [Int.toNat_natCast] at hx0 hx1 hx2 hx3;replace hx0:=qA HE.out.1.low hx0;replace hx1:=qA HE.out.1.low hx1;replace hx2:=qA HE.out.1.low hx2;replace hx3:=qA HE.out.1.low hx3;have HA:=Lib.hid hoa;have haB:altB ⟨x0,x1,x2,x3⟩=numB x0++(strB x1.data.toList++(QG x2++numB x3)):=by simp [altB,altP]
         generalize haa:ac9++(l6.take k).flatMap altB=aa at *;have hTl:aa.length+((numB x0).length+((strB x1.data.toList).length+((QG x2).length+(numB x3).length)))≤1000000000:=by
          have h1:=HL9.out;rw [htt6,haB] at h1;rw [←haa];simp only [List.length_append] at h1 ⊢;omega
         have hib:(bigB (Qf x2)).length=(QG x2).length:=rfl;have HFA:Hid (Qf x2≤18446744073709551615):=Lib.hid (by have:=hoa.n2; obtain ⟨q1,q2⟩:=this; simp only at q1 q2; unfold Qf; split<;>omega);have HTA6:Hid (ac9++(l6.take (k+1)).flatMap altB=aa++numB x0++strB x1.data.toList++QG x2++numB x3):=Lib.hid (by rw [hta6,haB,←haa]; simp);have hwx0:=u64N hoa.n0;have hwx3:=u64N hoa.n3;simp only at hwx0 hwx3;have z1:(0≤(k:Int))=True:=eq_true (by omega);have z2:((k:Int)<(l6.length:Int))=True:=eq_true (by omega);have hbz:=qC (Below.refl wr.heap.size wr) (.cells #[.int .i64 x0,.string x1,.int .i64 x2,.int .i64 x3] 86);have HE1:qB (PZ w (wr.alloc (.cells #[.int .i64 x0,.string x1,.int .i64 x2,.int .i64 x3] 86)) u3 aa #[.slice (some ad) bs.length ca,.slice A2 gl.length cb]∧(wr.alloc (.cells #[.int .i64 x0,.string x1,.int .i64 x2,.int .i64 x3] 86)).heap[p5]? = some (.cells #[.int .i64 y0,.int .i64 y1,.slice (some ad2) ops.length c3] 55 (0,0))∧(wr.alloc (.cells #[.int .i64 x0,.string x1,.int .i64 x2,.int .i64 x3] 86)).heap[p7]? = some (.cells #[.int .i64 g0,.int .i64 g1,.int .i64 g2,.int .i64 g3,.string g4,.slice A5 l5.length c5,.slice (some ad6) l6.length c6] 59 (0,0))):=⟨⟨HE.out.1.below hbz,qK HE.out.2.1 hbz,qK HE.out.2.2 hbz⟩⟩;have HROW2:=qB.mk (qV wr (.cells #[.int .i64 x0,.string x1,.int .i64 x2,.int .i64 x3] 86));clear hoa hta6 htt6 haB hbz hrd HE haa;go_wp2
         generalize wr.alloc (.cells #[.int .i64 x0,.string x1,.int .i64 x2,.int .i64 x3] 86)=wS2 at *;generalize wr.heap.size=p10 at *;have HPA:qB (UP w.heap.size wS2.drew wS2.drew u3 aa):=⟨(HE1.out.1.up.below (qE (Below.refl _ _))).self⟩;clear hx0 hx1 hx2 hx3 q6 z1 z2;refine qU (n:=17) (S:=fun w'=>w'.cell? ⟨p10,0,none⟩=some (.int .i64 x0)∧w'.cell? ⟨p10,1,none⟩=some (.string x1)∧w'.cell? ⟨p10,2,none⟩=some (.int .i64 x2)∧w'.cell? ⟨p10,3,none⟩=some (.int .i64 x3)∧qB (ql wS2 w')) (ds:=[]) (mA 17 0) (by kernel_rfl) rfl rfl ⟨qa ((ql.below (qE (Below.refl _ _)))) HROW2.out (by decide) (i:=0) rfl,qa ((ql.below (qE (Below.refl _ _)))) HROW2.out (by decide) (i:=1) rfl,qa ((ql.below (qE (Below.refl _ _)))) HROW2.out (by decide) (i:=2) rfl,qa ((ql.below (qE (Below.refl _ _)))) HROW2.out (by decide) (i:=3) rfl,⟨(ql.below (qE (Below.refl _ _)))⟩⟩ (fun hHeld=>?_);refine pa_ 17 1 0 (some 118) (v:=?_) (a':=?_) ?_ ?_ ?_;rotate_left 2
         ·intro w';go_simp
          with_reducible rfl
         ·simp only [pn];rfl
         refine pa_ 17 3 1 (some 119) (v:=?_) (a':=?_) ?_ ?_ ?_;rotate_left 2
         ·intro w';go_simp
          with_reducible rfl
         ·simp only [pn];rfl
         refine pa_ 17 35 5 (some 123) (v:=?_) (a':=?_) ?_ ?_ ?_;rotate_left 2
         ·intro w';go_simp
          with_reducible rfl
         ·simp only [pn];rfl
         refine pa_ 17 291 8 (some 126) (v:=?_) (a':=?_) ?_ ?_ ?_;rotate_left 2
         ·intro w';go_simp
          with_reducible rfl
         ·simp only [pn];rfl
         refine pa_ 17 4387 12 (some 130) (v:=?_) (a':=?_) ?_ ?_ ?_;rotate_left 2
         ·intro w';go_simp
          with_reducible rfl
         ·simp only [pn];rfl
         refine tb_ 17 4391 2 (some 120) (v:=?_) (a':=?_) hHeld ?_ ?_ ?_;rotate_left 2
         ·rintro w' ⟨s0,s1,s2,s3,s4⟩;go_simp
          with_reducible rfl
         ·simp only [pn];rfl
         refine pa_ 17 4399 3 (some 121) (v:=?_) (a':=?_) ?_ ?_ ?_;rotate_left 2
         ·intro w';go_simp
          with_reducible rfl
         ·simp only [pn];rfl
         refine tb_ 17 4463 6 (some 124) (v:=?_) (a':=?_) hHeld ?_ ?_ ?_;rotate_left 2
         ·rintro w' ⟨s0,s1,s2,s3,s4⟩;go_simp
          with_reducible rfl
         ·simp only [pn];rfl
         refine tb_ 17 4975 9 (some 127) (v:=?_) (a':=?_) hHeld ?_ ?_ ?_;rotate_left 2
         ·rintro w' ⟨s0,s1,s2,s3,s4⟩;go_simp
          with_reducible rfl
         ·simp only [pn];rfl
         refine tb_ 17 13167 13 (some 131) (v:=?_) (a':=?_) hHeld ?_ ?_ ?_;rotate_left 2
         ·rintro w' ⟨s0,s1,s2,s3,s4⟩;go_simp
          with_reducible rfl
         ·simp only [pn];rfl
         refine pa_ 17 29551 14 (some 132) (v:=?_) (a':=?_) ?_ ?_ ?_;rotate_left 2
         ·intro w';go_simp
          with_reducible rfl
         ·simp only [pn];rfl
         refine oo_ 17 29567 4 (some 122) (fun K hK=>?_);refine qR Tryz.func47 (by kernel_rfl) rfl #[u3,.int .u64 x0] (by rfl) rfl rfl (by simp only [List.map_toArray,List.map_cons,List.map_nil]; rfl) ?_
         with_reducible refine (QH _ _ _ _ _ HPA.out.self.q HA.out.n0 (HLN _ (by simp only [List.length_append,List.length_cons,List.length_nil]; omega))).mono ?_
         rintro e m6 ⟨v6,rfl,h6⟩;refine ⟨_,rfl,?_⟩;refine hK.out _ _ ⟨qa ((hHeld.2.2.2.2.out.trans h6.keep)) HROW2.out (by decide) (i:=0) rfl,qa ((hHeld.2.2.2.2.out.trans h6.keep)) HROW2.out (by decide) (i:=1) rfl,qa ((hHeld.2.2.2.2.out.trans h6.keep)) HROW2.out (by decide) (i:=2) rfl,qa ((hHeld.2.2.2.2.out.trans h6.keep)) HROW2.out (by decide) (i:=3) rfl,⟨(hHeld.2.2.2.2.out.trans h6.keep)⟩⟩ (fun hHeld=>?_);clear hK K;refine qM (a':=?_) ?_ ?_;rotate_left
         ·show Act.put _ (some 122) _=_
          simp only [pn];rfl
         refine oo_ 17 29695 7 (some 125) (fun K hK=>?_);refine qR Tryz.func49 (by kernel_rfl) rfl #[v6,.string x1] (by rfl) rfl rfl (by simp only [List.map_toArray,List.map_cons,List.map_nil]; rfl) ?_
         with_reducible refine (qCc _ _ _ _ _ h6.self HA.out.s1 (HLN _ (by simp only [List.length_append,List.length_cons,List.length_nil]; omega))).mono ?_
         rintro e m7 ⟨v7,rfl,h7⟩;refine ⟨_,rfl,?_⟩;refine hK.out _ _ ⟨qa ((hHeld.2.2.2.2.out.trans h7.keep)) HROW2.out (by decide) (i:=0) rfl,qa ((hHeld.2.2.2.2.out.trans h7.keep)) HROW2.out (by decide) (i:=1) rfl,qa ((hHeld.2.2.2.2.out.trans h7.keep)) HROW2.out (by decide) (i:=2) rfl,qa ((hHeld.2.2.2.2.out.trans h7.keep)) HROW2.out (by decide) (i:=3) rfl,⟨(hHeld.2.2.2.2.out.trans h7.keep)⟩⟩ (fun hHeld=>?_);clear hK K;refine qM (a':=?_) ?_ ?_;rotate_left
         ·show Act.put _ (some 125) _=_
          simp only [pn];rfl
         refine oo_ 17 30719 10 (some 128) (fun K hK=>?_);refine qR Tryz.func48 (by kernel_rfl) rfl #[.int .i64 x2] (by rfl) rfl rfl (by simp only [List.map_toArray,List.map_cons,List.map_nil]; rfl) ?_
         with_reducible refine (qCk x2 HA.out.n2 _).mono ?_
         rintro e uf3 ⟨rfl,rfl⟩;refine ⟨_,rfl,?_⟩;refine hK.out _ _ ⟨hHeld.1,hHeld.2.1,hHeld.2.2.1,hHeld.2.2.2.1,hHeld.2.2.2.2⟩ (fun hHeld=>?_);clear hK K;refine qM (a':=?_) ?_ ?_;rotate_left
         ·show Act.put _ (some 128) _=_
          simp only [pn];rfl
         refine oo_ 17 32767 11 (some 129) (fun K hK=>?_);refine qR Tryz.func47 (by kernel_rfl) rfl #[v7,.int .u64 ((Qf x2:Nat):Int)] (by rfl) rfl rfl (by simp only [List.map_toArray,List.map_cons,List.map_nil]; rfl) ?_
         with_reducible refine (qBN _ _ _ _ _ h7.self.q HFA.out (HLN _ (by simp only [List.length_append,List.length_cons,List.length_nil]; omega))).mono ?_
         rintro e m8 ⟨v8,rfl,h8⟩;refine ⟨_,rfl,?_⟩;refine hK.out _ _ ⟨qa ((hHeld.2.2.2.2.out.trans h8.keep)) HROW2.out (by decide) (i:=0) rfl,qa ((hHeld.2.2.2.2.out.trans h8.keep)) HROW2.out (by decide) (i:=1) rfl,qa ((hHeld.2.2.2.2.out.trans h8.keep)) HROW2.out (by decide) (i:=2) rfl,qa ((hHeld.2.2.2.2.out.trans h8.keep)) HROW2.out (by decide) (i:=3) rfl,⟨(hHeld.2.2.2.2.out.trans h8.keep)⟩⟩ (fun hHeld=>?_);clear hK K;refine qM (a':=?_) ?_ ?_;rotate_left
         ·show Act.put _ (some 129) _=_
          simp only [pn];rfl
         refine oo_ 17 65535 15 (some 133) (fun K hK=>?_);refine qR Tryz.func47 (by kernel_rfl) rfl #[v8,.int .u64 x3] (by rfl) rfl rfl (by simp only [List.map_toArray,List.map_cons,List.map_nil]; rfl) ?_
         with_reducible refine (QH _ _ _ _ _ h8.self.q HA.out.n3 (HLN _ (by simp only [List.length_append,List.length_cons,List.length_nil]; omega))).mono ?_
         rintro e m9 ⟨v9,rfl,h9⟩;refine ⟨_,rfl,?_⟩;refine hK.out _ _ ⟨qa ((hHeld.2.2.2.2.out.trans h9.keep)) HROW2.out (by decide) (i:=0) rfl,qa ((hHeld.2.2.2.2.out.trans h9.keep)) HROW2.out (by decide) (i:=1) rfl,qa ((hHeld.2.2.2.2.out.trans h9.keep)) HROW2.out (by decide) (i:=2) rfl,qa ((hHeld.2.2.2.2.out.trans h9.keep)) HROW2.out (by decide) (i:=3) rfl,⟨(hHeld.2.2.2.2.out.trans h9.keep)⟩⟩ (fun hHeld=>?_);clear hK K;refine qM (a':=?_) ?_ ?_;rotate_left
         ·show Act.put _ (some 133) _=_
          simp only [pn];rfl
         refine pa_ 17 131071 16 (some 3) (v:=?_) (a':=?_) ?_ ?_ ?_;rotate_left 2
         ·intro w';go_simp
          with_reducible rfl
         ·simp only [pn];rfl
         refine qn (by kernel_rfl) ?_;have hkw:ql wS2 m9:=hHeld.2.2.2.2.out;have HF:qB (PZ w m9 v9 (ac9++(l6.take (k+1)).flatMap altB) #[.slice (some ad) bs.length ca,.slice A2 gl.length cb]∧m9.heap[p5]? = some (.cells #[.int .i64 y0,.int .i64 y1,.slice (some ad2) ops.length c3] 55 (0,0))∧m9.heap[p7]? = some (.cells #[.int .i64 g0,.int .i64 g1,.int .i64 g2,.int .i64 g3,.string g4,.slice A5 l5.length c5,.slice (some ad6) l6.length c6] 59 (0,0))):=
          ⟨⟨by rw [HTA6.out]; exact ((((HE1.out.1.below (qE (Below.refl _ _))).next h6).next h7).next h8).next h9,(hkw _ _ _ _ HE1.out.2.1 (by decide)).trans HE1.out.2.1,(hkw _ _ _ _ HE1.out.2.2 (by decide)).trans HE1.out.2.2⟩⟩
         clear hHeld h6 h7 h8 h9 hkw HE1 HROW2 HPA hTl hib hwx0 hwx3;go_wp2;go_roundw
         case rel=>exact ⟨k+1,by omega,by go_num,HF⟩
         case measure=>simp [intOf]; omega
        ·obtain rfl:k=l6.length:=by omega
         rw [List.take_length,←HTP9.out] at HE;have HF:=qB.mk (And.intro HE.out.1 HE.out.2.1);clear HE;go_wp2;go_roundw
         case rel=>exact ⟨j+1,by omega,by go_num,HF⟩
         case measure=>simp [intOf]; omega
    ·obtain rfl:j=ops.length:=by omega
     rw [List.take_length] at HD;have HF:qB (PZ w wr u3 ((qx++numB bs.length)++(bs.take (i+1)).flatMap blkB) #[.slice (some ad) bs.length ca,.slice A2 gl.length cb]):=⟨by have h1:=HD.out.1; rw [HTA2.out] at h1; rw [HTA3.out]; exact h1⟩;clear HD;go_wp2;go_roundw
     case rel=>exact ⟨i+1,by omega,by go_num,HF⟩
     case measure=>simp [intOf]; omega
  ·obtain rfl:i=bs.length:=by omega
   rw [List.take_length] at HJ;have HTG:Hid (T=(qx++numB bs.length)++bs.flatMap blkB++numB (gl.length:Int)++gl.flatMap glbB):=Lib.hid (by rw [HT.out]; simp);have HC6:=Lib.hid (QH wr w.heap.size u3 ((qx++numB bs.length)++bs.flatMap blkB) (gl.length:Int) HJ.out.up.q ⟨by omega,by omega⟩ (HLp.out _ _ HTG.out));have hwg:=u64N (x:=(gl.length:Int)) ⟨by omega,by omega⟩;have f1:=qD HJ.out.box (i:=1) rfl;go_wp2_with fail;refine HC6.out.mono ?_;rintro e wn ⟨vn,rfl,hPn⟩;have HF:=qB.mk (HJ.out.next hPn);generalize haz:(qx++numB bs.length)++bs.flatMap blkB++numB (gl.length:Int)=az at *;clear hPn HC6 HJ f0 f1 hwg haz;have f1:=qD HF.out.box (i:=1) rfl;go_wp2;clear f1;obtain ⟨wo3,rfl⟩:∃wo3:World,wo3=wr:=⟨_,rfl⟩
   go_loopw [3,11] (fun u kv wr=>∃k:Nat,k≤gl.length∧kv=.int .i64 k∧qB (PZ w wr u (az++(gl.take k).flatMap glbB) #[.slice A bs.length ca,.slice A2 gl.length cb])) (fun _ kv _=>gl.length - (intOf kv).toNat)
   case atStart=>exact ⟨0,by omega,rfl,by simpa using HF⟩
   case round=>
    obtain ⟨k,hk,rfl,HE⟩:=hrel;clear HF;have f1:=qD HE.out.box (i:=1) rfl;by_cases hlk:k<gl.length
    ·obtain ⟨gd,e6,hy0,hy1⟩:=qB6 HC.out.mb (k:Int) (by omega) (by omega);have hrd:Qn gl (k:Int)=gl[k]:=by simp [Qn,List.getD_eq_getElem?_getD,List.getElem?_eq_getElem hlk]
     have hog:=HO.out.globs gl[k] (List.getElem_mem hlk);have htg:=Qc glbB gl k hlk;have htt:=HTG.out;rw [qBY glbB gl k hlk] at htt;rw [hrd] at hy0 hy1;generalize gl[k]=y at *;obtain ⟨s0,n1⟩:=y;simp only at hy0 hy1;cases e6;simp only [Int.toNat_natCast] at hy0 hy1;have HG:=Lib.hid hog;generalize haa:az++(gl.take k).flatMap glbB=aa at *;have hTl:aa.length+((strB s0.data.toList).length+(numB n1).length)≤1000000000:=by
      have h1:=HPB.out.2;rw [htt] at h1;rw [←haa];simp only [List.length_append,glbB] at h1 ⊢;omega
     have HLN:∀l:List UInt8,l.length≤1000000000→LE47 l.length:=fun l h=>by unfold LE47; omega
     have HTA6:Hid (az++(gl.take (k+1)).flatMap glbB=aa++strB s0.data.toList++numB n1):=Lib.hid (by rw [htg,←haa]; simp [glbB]);have hwx:=u64N hog.2;simp only at hwx;have z1:(0≤(k:Int))=True:=eq_true (by omega);have z2:((k:Int)<(gl.length:Int))=True:=eq_true (by omega);have HPG:qB (UP w.heap.size wr.drew wr.drew u3 aa):=⟨(HE.out.up.below (qE (Below.refl _ _))).self⟩;clear hog htg htt hrd haa;go_wp2;refine qU (n:=17) (S:=fun w'=>w'.cell? ⟨w.heap.size,1,none⟩=some (.slice (some gd) gl.length cb)∧w'.cell? (gd.add (k*2))=some (.string s0)∧w'.cell? ⟨(gd.add (k*2)).block,(gd.add (k*2)).off+1,none⟩=some (.int .i64 n1)∧qB (ql wr w'∧Below w.heap.size w w')) (ds:=[]) (mA 17 0) (by kernel_rfl) rfl rfl ⟨qa (ql.below (qE (Below.refl _ _))) HE.out.box (by decide) (i:=1) rfl,qA (HE.out.low.trans ((qE (Below.refl _ _)).mono HE.out.up.hB)) hy0,qA (HE.out.low.trans ((qE (Below.refl _ _)).mono HE.out.up.hB)) hy1,⟨⟨ql.below (qE (Below.refl _ _)),HE.out.low.trans ((qE (Below.refl _ _)).mono HE.out.up.hB)⟩⟩⟩ (fun hHeld=>?_);refine pa_ 17 1 0 (some 147) (v:=?_) (a':=?_) ?_ ?_ ?_;rotate_left 2
     ·intro w';go_simp
      with_reducible rfl
     ·simp only [pn];rfl
     refine pa_ 17 3 1 (some 148) (v:=?_) (a':=?_) ?_ ?_ ?_;rotate_left 2
     ·intro w';go_simp
      with_reducible rfl
     ·simp only [pn];rfl
     refine pa_ 17 11 3 (some 150) (v:=?_) (a':=?_) ?_ ?_ ?_;rotate_left 2
     ·intro w';go_simp
      with_reducible rfl
     ·simp only [pn];rfl
     refine pa_ 17 267 8 (some 155) (v:=?_) (a':=?_) ?_ ?_ ?_;rotate_left 2
     ·intro w';go_simp
      with_reducible rfl
     ·simp only [pn];rfl
     refine pa_ 17 1291 10 (some 157) (v:=?_) (a':=?_) ?_ ?_ ?_;rotate_left 2
     ·intro w';go_simp
      with_reducible rfl
     ·simp only [pn];rfl
     refine tb_ 17 1295 2 (some 149) (v:=?_) (a':=?_) hHeld ?_ ?_ ?_;rotate_left 2
     ·rintro w' ⟨s0,s1,s2,s3⟩;go_simp
      with_reducible rfl
     ·simp only [pn];rfl
     refine pa_ 17 1311 4 (some 151) (v:=?_) (a':=?_) ?_ ?_ ?_;rotate_left 2
     ·intro w';go_simp
      with_reducible rfl
     ·simp only [pn];rfl
     refine pa_ 17 1343 5 (some 152) (v:=?_) (a':=?_) ?_ ?_ ?_;rotate_left 2
     ·intro w';go_simp
      with_reducible rfl
     ·simp only [pn];rfl
     refine tb_ 17 1407 6 (some 153) (v:=?_) (a':=?_) hHeld ?_ ?_ ?_;rotate_left 2
     ·rintro w' ⟨s0,s1,s2,s3⟩;go_simp
      with_reducible rfl
     ·simp only [pn];rfl
     refine tb_ 17 1919 9 (some 156) (v:=?_) (a':=?_) hHeld ?_ ?_ ?_;rotate_left 2
     ·rintro w' ⟨s0,s1,s2,s3⟩;go_simp
      with_reducible rfl
     ·simp only [pn];rfl
     refine pa_ 17 3967 11 (some 158) (v:=?_) (a':=?_) ?_ ?_ ?_;rotate_left 2
     ·intro w';go_simp
      with_reducible rfl
     ·simp only [pn];rfl
     refine pa_ 17 8063 12 (some 159) (v:=?_) (a':=?_) ?_ ?_ ?_;rotate_left 2
     ·intro w';go_simp
      with_reducible rfl
     ·simp only [pn];rfl
     refine tb_ 17 16255 13 (some 160) (v:=?_) (a':=?_) hHeld ?_ ?_ ?_;rotate_left 2
     ·rintro w' ⟨s0,s1,s2,s3⟩;go_simp
      with_reducible rfl
     ·simp only [pn];rfl
     refine pa_ 17 32639 14 (some 161) (v:=?_) (a':=?_) ?_ ?_ ?_;rotate_left 2
     ·intro w';go_simp
      with_reducible rfl
     ·simp only [pn];rfl
     refine oo_ 17 32767 7 (some 154) (fun K hK=>?_);refine qR Tryz.func49 (by kernel_rfl) rfl #[u3,.string s0] (by rfl) rfl rfl (by simp only [List.map_toArray,List.map_cons,List.map_nil]; rfl) ?_
     with_reducible refine (qCc _ _ _ _ _ HPG.out.self HG.out.1 (HLN _ (by simp only [List.length_append,List.length_cons,List.length_nil]; omega))).mono ?_
     rintro e m1 ⟨v1,rfl,h1⟩;refine ⟨_,rfl,?_⟩;refine hK.out _ _ ⟨qa (hHeld.2.2.2.out.1.trans h1.keep) HE.out.box (by decide) (i:=1) rfl,qA (hHeld.2.2.2.out.2.trans h1.low) hy0,qA (hHeld.2.2.2.out.2.trans h1.low) hy1,⟨⟨hHeld.2.2.2.out.1.trans h1.keep,hHeld.2.2.2.out.2.trans h1.low⟩⟩⟩ (fun hHeld=>?_);clear hK K;refine qM (a':=?_) ?_ ?_;rotate_left
     ·show Act.put _ (some 154) _=_
      simp only [pn];rfl
     refine oo_ 17 65535 15 (some 162) (fun K hK=>?_);refine qR Tryz.func47 (by kernel_rfl) rfl #[v1,.int .u64 n1] (by rfl) rfl rfl (by simp only [List.map_toArray,List.map_cons,List.map_nil]; rfl) ?_
     with_reducible refine (QH _ _ _ _ _ h1.self.q HG.out.2 (HLN _ (by simp only [List.length_append,List.length_cons,List.length_nil]; omega))).mono ?_
     rintro e m2 ⟨v2,rfl,h2⟩;refine ⟨_,rfl,?_⟩;refine hK.out _ _ ⟨qa (hHeld.2.2.2.out.1.trans h2.keep) HE.out.box (by decide) (i:=1) rfl,qA (hHeld.2.2.2.out.2.trans h2.low) hy0,qA (hHeld.2.2.2.out.2.trans h2.low) hy1,⟨⟨hHeld.2.2.2.out.1.trans h2.keep,hHeld.2.2.2.out.2.trans h2.low⟩⟩⟩ (fun hHeld=>?_);clear hK K;refine qM (a':=?_) ?_ ?_;rotate_left
     ·show Act.put _ (some 162) _=_
      simp only [pn];rfl
     refine pa_ 17 131071 16 (some 3) (v:=?_) (a':=?_) ?_ ?_ ?_;rotate_left 2
     ·intro w';go_simp
      with_reducible rfl
     ·simp only [pn];rfl
     refine qn (by kernel_rfl) ?_;have HF:qB (PZ w m2 v2 (az++(gl.take (k+1)).flatMap glbB) #[.slice A bs.length ca,.slice (some gd) gl.length cb]):=⟨by rw [HTA6.out]; exact ((HE.out.below (qE (Below.refl _ _))).next h1).next h2⟩;clear hHeld h1 h2 HE HPG hTl hwx z1 z2 hy0 hy1 f1;go_wp2;go_roundw
     case rel=>exact ⟨k+1,by omega,by go_num,HF⟩
     case measure=>simp [intOf]; omega
    ·obtain rfl:k=gl.length:=by omega
     rw [List.take_length] at HE;have hT:az++gl.flatMap glbB=T:=by rw [HTG.out]
     rw [hT] at HE;have hne:T≠[]:=by rw [HT.out]; simp [qx]
     have hcv:=(OwnB.x HE.out.up.own hne).string;have HS:=Lib.hid (qCE T (by have:=HPB.out.2; omega) wr);obtain ⟨a0,k0,cc0,rfl⟩:=HE.out.up.q.shape;clear hT hne;go_wp2_with fail;refine HS.out.mono ?_;rintro e wz ⟨rfl,hbz⟩;have HBZ:=qB.mk (HE.out.low.trans (hbz.mono HE.out.up.hB));clear hbz hcv HE;go_wp2;go_ret;exact ⟨by rw [HPB.out.1]; rfl,HBZ.out⟩
end Go.Proofs.YtoonkkipnljflaaGreatDoor.CJ
