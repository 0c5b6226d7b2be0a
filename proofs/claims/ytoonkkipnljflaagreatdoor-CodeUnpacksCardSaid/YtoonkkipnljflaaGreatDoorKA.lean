/- The packer: its bytes as plain data and in memory; the method big. Conditions: the packer lies in memory; the bytes take at most 2^47. The packer's methods num, integer, str. Conditions: the packer lies in memory; numbers are not negative; the bytes take at most 2^47. -/
import Derived.Test.YtoonkkipnljflaaGreatDoorDD
import Derived.Test.YtoonkkipnljflaaGreatDoorB
namespace Go.Proofs.YtoonkkipnljflaaGreatDoor.CJ
open Go.RowKit Go.Proofs.YtoonkkipnljflaaGreatDoorW.PrintWords Go.Proofs.YtoonkkipnljflaaGreatDoorW.PrintLast Go.Proofs.YtoonkkipnljflaaGreatDoor.PT Go.Proofs.YtoonkkipnljflaaGreatDoor.IMaps Go.Proofs.YtoonkkipnljflaaGreatDoor.TJ
set_option linter.unusedVariables false
set_option linter.unusedSimpArgs false
def bigB(n:Nat):List UInt8:=if n≤127 then [UInt8.ofNat n] else UInt8.ofNat (128+n % 128)::bigB (n / 128)
termination_by n
decreasing_by omega
def OwnB(w:World)(B:Nat)(v:Value)(bs:List UInt8):Prop:=w.ownsRow B 5 1 v bs.length (Lib.byteCells bs)
structure PW(w:World)(B q:Nat)(bs:List UInt8):Prop where
 hB:B≤q
 box:∃v,w.heap[q]? = some (.cells #[v] 80 (0,0))∧w.ownsRow B 5 1 v bs.length (Lib.byteCells bs)∧v.ownBlock≠some q
theorem PW.lt{w:World}{B q:Nat}{bs:List UInt8}(h:PW w B q bs):q<w.heap.size:=by obtain ⟨v,h1,_⟩:=h.box; exact (Array.getElem?_eq_some_iff.1 h1).1
theorem PW.below{w w':World}{B q:Nat}{bs:List UInt8}(h:PW w B q bs)(hb:Below w.heap.size w w'):PW w' B q bs:=by
 obtain ⟨h0,v,h1,h2,h3⟩:=h;exact ⟨h0,v,(hb.block _ (Array.getElem?_eq_some_iff.1 h1).1).trans h1,h2.kept (row:=none) ⟨hb.os,hb.tape,hb.output,hb.size,fun i hi _=>hb.block i hi⟩ (by cases v.ownBlock<;>simp),h3⟩
structure PK(B q:Nat)(w w':World)(bs:List UInt8):Prop where
 pw:PW w' B q bs
 below:Below B w w'
 keep:Qi q w w'
theorem PK.lift{B q:Nat}{w W w':World}{bs:List UInt8}(hB:B≤w.heap.size)(hb:Below w.heap.size w W)(h:PK B q W w' bs):PK B q w w' bs:=
 ⟨h.pw,(hb.mono hB).trans h.below,Qi.trans (fun k cs T fr hk hc hT=>hb.block k (Array.getElem?_eq_some_iff.1 hc).1) h.keep⟩
theorem PK.trans{B q:Nat}{w w1 w2:World}{bs bs2:List UInt8}(h1:PK B q w w1 bs)(h2:PK B q w1 w2 bs2):PK B q w w2 bs2:=⟨h2.pw,h1.below.trans h2.below,Qi.trans h1.keep h2.keep⟩
theorem PK.refl{B q:Nat}{w:World}{bs:List UInt8}(h:PW w B q bs):PK B q w w bs:=⟨h,Below.refl _ _,Qi.refl _ _⟩
theorem PK.put{w w2:World}{B q:Nat}{bs bs':List UInt8}{v v':Value}(hB:B≤q)(hq:w.heap[q]? = some (.cells #[v] 80 (0,0)))(hown0:w.ownsRow B 5 1 v bs.length (Lib.byteCells bs))(hne:v.ownBlock≠some q)
 (W:World) (hW:Below w.heap.size w W) (hg:W.grownBy w2 v.ownBlock) (hown1:OwnB w2 B v' bs'):
 w2.heap[q]? = some (.cells #[v] 80 (0,0))∧PK B q w (w2.setCell ⟨q,0,none⟩ v') bs':=by
 have hown:w2.ownsRow B 5 1 v' bs'.length (Lib.byteCells bs'):=hown1;have hlt:=(Array.getElem?_eq_some_iff.1 hq).1;have hWq:=(hW.block q hlt).trans hq;have h2:w2.heap[q]? = some (.cells #[v] 80 (0,0)):=(hg.block q (Array.getElem?_eq_some_iff.1 hWq).1 (fun e=>hne e.symm)).trans hWq;have hBw:B≤w.heap.size:=by omega
 have hk:Qi q w w2:=by
  intro k cs T fr hk hc hT;have hkl:=(Array.getElem?_eq_some_iff.1 hc).1;have hWk:=(hW.block k hkl).trans hc;refine (hg.block k (Array.getElem?_eq_some_iff.1 hWk).1 (fun e=>?_)).trans (hWk.trans hc.symm);rcases hown0.2 with ⟨hv,_⟩|⟨g,cap,cur,hv,_,hgg,_⟩
  ·rw [hv] at e; simp [Value.ownBlock] at e
  ·rw [hv] at e;simp only [Value.ownBlock,Option.some.injEq] at e;rw [←e,hc] at hgg;simp only [Option.some.injEq,Obj.cells.injEq] at hgg;exact hT hgg.2.1
 have hne2:=Lib.ownBlock_ne hown h2 (by decide);refine ⟨h2,⟨⟨hB,v',?_,?_,hne2⟩,?_,Qi.trans hk (Qi.set _ _ _ _)⟩⟩
 ·simp [World.setCell,Array.getElem?_modify,h2]
 ·exact hown.kept (row:=some q) ⟨rfl,rfl,rfl,by simp [World.setCell],fun k _ hk=>Below.heap_setCell _ _ _ _ (fun e=>hk (by simp [e]))⟩ (Or.inr hne2)
 ·exact (((hW.mono hBw).grown hg (Nat.le_trans hBw hW.size) (fun k hk=>(hown0.lt k hk).1))).setCell (p:=⟨q,0,none⟩) hB _
theorem QS{w:World}{B e n:Nat}{v:Value}{xs:List Value}(h:w.ownsRow B e 1 v n xs):∃a k c,v=.slice a k c:=by
 rcases h.2 with ⟨hv,_⟩|⟨g,cap,cur,hv,_⟩
 ·exact ⟨_,_,_,hv⟩
 ·exact ⟨_,_,_,hv⟩
def LE47(n:Nat):Prop:=n≤140737488355328
theorem qCy{ops:Array Oper}{rest:List Oper}{o:Oper}{a:Act}{Q:Exit→Act→World→Prop}{w:World}(hgd:o.guard=none)(s x:Operand)
 (ho:o.op=.call { callee:=.builtin .append,args:=#[s,x],argTypes:=#[39,39] }) (B:Nat) (v:Value) (bs:List UInt8) (hs:a.eval s=v) (hown:w.ownsRow B 5 1 v bs.length (Lib.byteCells bs))
 (c:UInt8) (n:Int) (hc:n=c.toNat) (hx:a.eval x=.slice (some ⟨w.heap.size,0,none⟩) 1 1) (hlen:LE47 (bs.length+1)) (hB:B≤w.heap.size)
 (h:Hid (∀v' w',qB (OwnB w' B v' (bs++[c])∧(w.alloc (.cells #[.int .u8 n] 5)).grownBy w' v.ownBlock)→wpList Tryz.prog ops Q rest (a.put o.dst v') w')):
 wpList Tryz.prog ops Q (o::rest) a (w.alloc (.cells #[.int .u8 n] 5)):=by
 obtain ⟨i0,hi0,hz0,hz1,hz2⟩:=info_parts qA7;unfold LE47 at hlen;have hcell:=qD (MapKept.heap_alloc w (.cells #[.int .u8 n] 5)).1 (i:=0) rfl;refine wpList_append_own _ hgd s x 39 ho B 5 i0 (.int .u8 0) 1 1 Tryz.underlying39 hi0 hz0 hz1 hz2 rfl (by decide) v bs.length (Lib.byteCells bs) hs (hown.alloc _) ⟨w.heap.size,0,none⟩ 1 1 [.int .u8 n] hx rfl ?_ ?_ ?_ ?_ ?_ ?_
 ·intro j u hu
  match j,hu with
  | 0,hu=>simp at hu; subst hu; exact hcell
  |j+1,hu=>simp at hu
 ·intro u hu; rw [List.mem_singleton.1 hu]; rfl
 ·unfold maxLen; omega
 ·omega
 ·simp; omega
 ·intro v' w' hown' hg _;refine h.out v' w' ⟨⟨?_,hg⟩⟩;have e:Lib.byteCells (bs++[c])=Lib.byteCells bs++[.int .u8 n]:=by rw [Lib.byteCells_append,hc]; rfl
  unfold OwnB;rw [e,List.length_append];exact hown'
set_option maxRecDepth 100000 in
set_option maxHeartbeats 4000000 in
theorem qFz(w:World)(B q:Nat)(bs:List UInt8)(n:Nat)(h:PW w B q bs)(hn:n≤18446744073709551615)(hlen:LE47 (bs++bigB n).length):
 Calls Tryz.prog 66 #[.pointer (some ⟨q,0,none⟩),.int .u64 n] w fun e w'=>e=.returned (.tuple #[])∧PK B q w w' (bs++bigB n):=by
 obtain ⟨i0,hi0,hz0,hz1,hz2⟩:=info_parts qA7;have H:=qB.mk (PK.refl h);have HL:=Lib.hid hlen;have HN:=Lib.hid hn;clear h hn hlen;go_enter Tryz.func66,Tryz.ntmps66;go_wp2
 go_loopw [1] (fun v wr=>∃k:Nat,∃pre:List UInt8,v=.int .u64 k∧Hid (k≤18446744073709551615∧bigB n=pre++bigB k)∧qB (PK B q w wr (bs++pre))) (fun v _=>(intOf v).toNat)
 case atStart=>exact ⟨n,[],rfl,Lib.hid ⟨HN.out,rfl⟩,by simpa using H⟩
 case round=>
  obtain ⟨k,pre,rfl,HK,HP⟩:=hrel;clear H;obtain ⟨hB,v,hbk,hown,hne⟩:=HP.out.pw;obtain ⟨a0,l0,c0,rfl⟩:=QS hown;have d0:=qD hbk (i:=0) rfl;have hlt:=(Array.getElem?_eq_some_iff.1 hbk).1;by_cases hk:127<k
  ·have hd:decide ((127:Int)<(k:Int))=true:=decide_eq_true (by omega);obtain ⟨c,hstep,hc⟩:∃c:UInt8,bigB k=c::bigB (k / 128)∧(128+(k:Int) % 128)=(c.toNat:Int):=⟨UInt8.ofNat (128+k % 128),by rw [bigB,if_neg (by omega)],by rw [UInt8.toNat_ofNat',Nat.mod_eq_of_lt (by omega)]; omega⟩;have HST:=Lib.hid (And.intro hstep hc);have hwq:IntKind.u64.wrap ((k:Int) / 128)=(k:Int) / 128:=IntWalk.u64_in _ (by have:=HK.out.1; omega);have HOW:=Lib.hid (And.intro hown hne);have HBK:=Lib.hid hbk;have hl1:LE47 ((bs++pre).length+1):=by
    have h1:=HL.out;rw [HK.out.2,hstep] at h1;unfold LE47 at *;simp only [List.length_append,List.length_cons] at h1 ⊢;omega
   clear hstep hc hown hne hbk;go_wp2_with (refine qCy rfl _ _ rfl B _ (bs++pre) rfl HOW.out.1 c _ HST.out.2 rfl hl1 (by omega) ?_);refine Lib.hid ?_;intro v' w2 hA;obtain ⟨hown',hg⟩:=hA.out;obtain ⟨h2,hP⟩:=PK.put hB HBK.out HOW.out.1 HOW.out.2 _ (qC (Below.refl _ _) _) hg hown';have f0:=qH h2 0;have k0:=qD h2 (i:=0) rfl;have HN2:=qB.mk (HP.out.trans hP);obtain ⟨a1,l1,c1,rfl⟩:=QS hown';clear h2 hP hown' hg;go_wp2;go_roundw
   case rel=>exact ⟨k / 128,pre++[c],by go_num,Lib.hid ⟨by have:=HK.out.1; omega,by rw [HK.out.2,HST.out.1]; simp⟩,⟨by have:=HN2.out; simpa only [List.append_assoc] using this⟩⟩
   case measure=>simp [intOf]; omega
  ·have hd:decide ((127:Int)<(k:Int))=false:=decide_eq_false (by omega);obtain ⟨c,hstep,hc⟩:∃c:UInt8,bigB k=[c]∧(k:Int)=(c.toNat:Int):=⟨UInt8.ofNat k,by rw [bigB,if_pos (by omega)],by rw [UInt8.toNat_ofNat',Nat.mod_eq_of_lt (by omega)]⟩;have HST:=Lib.hid (And.intro hstep hc);have HOW:=Lib.hid (And.intro hown hne);have HBK:=Lib.hid hbk;have hl1:LE47 ((bs++pre).length+1):=by
    have h1:=HL.out;rw [HK.out.2,hstep] at h1;unfold LE47 at *;simp only [List.length_append,List.length_cons,List.length_nil] at h1 ⊢;omega
   clear hstep hc hown hne hbk;go_wp2_with (refine qCy rfl _ _ rfl B _ (bs++pre) rfl HOW.out.1 c _ HST.out.2 rfl hl1 (by omega) ?_);refine Lib.hid ?_;intro v' w2 hA;obtain ⟨hown',hg⟩:=hA.out;obtain ⟨h2,hP⟩:=PK.put hB HBK.out HOW.out.1 HOW.out.2 _ (qC (Below.refl _ _) _) hg hown';have f0:=qH h2 0;have k0:=qD h2 (i:=0) rfl;have HN2:=qB.mk (HP.out.trans hP);obtain ⟨a1,l1,c1,rfl⟩:=QS hown';clear h2 hP hown' hg;go_wp2;go_end0;exact ⟨rfl,by have:=HN2.out; rw [HK.out.2,HST.out.1]; simpa only [List.append_assoc] using this⟩
def numB(n:Int):List UInt8:=bigB n.toNat
def qi(l:List Int):List UInt8:=l.flatMap numB
def OkN(n:Int):Prop:=0≤n∧n≤9223372036854775807
def OkNs(l:List Int):Prop:=∀n∈l,OkN n
def Qf(n:Int):Nat:=if n<0 then 2*(-(n+1)).toNat+1 else 2*n.toNat
def QG(n:Int):List UInt8:=bigB (Qf n)
def strB(s:List UInt8):List UInt8:=numB s.length++s
theorem qEz(l:List Int)(i:Nat)(hi:i<l.length):qi (l.take (i+1))=qi (l.take i)++numB (l.getD i 0):=by
 have e:l.getD i 0=l[i]:=by simp [List.getD_eq_getElem?_getD,List.getElem?_eq_getElem hi]
 rw [e];exact Qc numB l i hi
theorem numsB_le(l:List Int)(i:Nat):(qi (l.take i)).length≤(qi l).length:=by
 have:qi l=qi (l.take i)++qi (l.drop i):=by
  unfold qi; rw [←List.flatMap_append,List.take_append_drop]
 rw [this,List.length_append]; omega
set_option maxRecDepth 100000 in
set_option maxHeartbeats 4000000 in
theorem qF0(w:World)(B q:Nat)(bs:List UInt8)(l:List Int)(A:Option Addr)(c:Nat)(h:PW w B q bs)(hc:l.length≤c)(HCg:(Kd.int .i64).C w A l.length l)
 (hkeep:∀w' bs',PK B q w w' bs'→(Kd.int .i64).C w' A l.length l) (hok:OkNs l) (hlen:LE47 (bs++qi l).length):
 Calls Tryz.prog 37 #[.pointer (some ⟨q,0,none⟩),.slice A l.length c] w fun e w'=>e=.returned (.tuple #[])∧PK B q w w' (bs++qi l):=by
 have hm:l.length≤9223372036854775807:=HCg.2.1;have H:=qB.mk (PK.refl h);have HL:=Lib.hid hlen;have HO:=Lib.hid hok;have HK:=Lib.hid hkeep;have hBw:B≤w.heap.size:=by have:=h.lt; have:=h.hB; omega
 clear h hlen hok HCg hkeep;go_enter Tryz.func37,Tryz.ntmps37;go_wp2
 go_loopw [8] (fun v wr=>∃i:Nat,i≤l.length∧v=.int .i64 i∧qB (PK B q w wr (bs++qi (l.take i)))) (fun v _=>l.length - (intOf v).toNat)
 case atStart=>exact ⟨0,by omega,rfl,by simpa [qi] using H⟩
 case round=>
  obtain ⟨i,hi,rfl,HP⟩:=hrel;clear H;by_cases hlt:i<l.length
  ·obtain ⟨ad,cs,rfl,hcs,hK,hcell⟩:=Kd.C_get (HK.out _ _ HP.out) 0 (i:Int) (by omega) (by omega);have hK':cs=[.int .i64 (l.getD i 0)]:=hK;subst hK';have g0:=hcell 0 _ rfl;have hsz:(Kd.int .i64).sz=1:=rfl;simp only [Int.toNat_natCast,Nat.add_zero,hsz,Nat.mul_one] at g0;have hst:=qEz l i hlt;have hn:=HO.out (l.getD i 0) (by simp [List.getD_eq_getElem?_getD,List.getElem?_eq_getElem hlt]);have hle:=numsB_le l (i+1);have HG:=Lib.hid g0;clear g0 hcell hK hcs hsz;generalize l.getD i 0=x at *;obtain ⟨m,rfl⟩:∃m:Nat,x=m:=⟨x.toNat,by have:=hn.1; omega⟩;have g0:=HG.out;have hwr:IntKind.u64.wrap (m:Int)=(m:Int):=IntWalk.u64_in _ (by have:=hn.2; omega);have HST:=Lib.hid hst;have hbig:=qFz wr B q (bs++qi (l.take i)) m HP.out.pw (by have:=hn.2; omega) (by
    have h1:=HL.out;rw [HST.out] at hle;unfold LE47 numB at *;simp only [List.length_append,Int.toNat_natCast] at hle h1 ⊢;omega)
   have HB:=Lib.hid hbig;clear HG hst hn hle hbig;go_wp2_with fail;refine HB.out.mono ?_;rintro e w2 ⟨rfl,hP⟩;have HN:qB (PK B q w w2 (bs++qi (l.take (i+1)))):=⟨by rw [HST.out,←List.append_assoc]; exact HP.out.trans hP⟩;clear hP;go_wp2;go_roundw
   case rel=>exact ⟨i+1,by omega,by go_num,HN⟩
   case measure=>simp [intOf]; omega
  ·obtain rfl:i=l.length:=by omega
   go_wp2;go_end0;exact ⟨rfl,by have:=HP.out; rwa [List.take_length] at this⟩
theorem qHB(w:World)(xs:List Int)(hx:0<xs.length)(hl:xs.length≤1000)(W:World)(h:W.heap[w.heap.size]? = some (.cells (xs.map (Value.int .i64)).toArray 3 (0,0))):(Kd.int .i64).C W (some ⟨w.heap.size,0,none⟩) xs.length xs:=by
 refine ⟨rfl,by omega,fun _=>⟨_,rfl,fun j p hj=>?_⟩⟩;refine ⟨[.int .i64 p],rfl,rfl,fun i u hu=>?_⟩
 match i,hu with
 | 0,hu=>
  simp at hu; subst hu
  have:(⟨w.heap.size,0,none⟩:Addr).add (j*(Kd.int .i64).sz+0)=⟨w.heap.size,j,none⟩:=by
   have hsz:(Kd.int .i64).sz=1:=rfl;simp [Addr.add,hsz];exact fun h=>h.symm
  rw [this];exact qD h (by simp [hj])
 |i+1,hu=>simp at hu
theorem qC8(w:World)(B q:Nat)(bs:List UInt8)(xs:List Int)(h:PW w B q bs)(hx:0<xs.length)(hl:xs.length≤1000)(hok:OkNs xs)(hlen:LE47 (bs++qi xs).length):
 Calls Tryz.prog 37 #[.pointer (some ⟨q,0,none⟩),.slice (some ⟨w.heap.size,0,none⟩) xs.length xs.length] (w.alloc (.cells (xs.map (Value.int .i64)).toArray 3)) fun e w'=>e=.returned (.tuple #[])∧PK B q w w' (bs++qi xs):=by
 have hlt:=h.lt;have hB:=h.hB;have hb1:=qC (Below.refl w.heap.size w) (.cells (xs.map (Value.int .i64)).toArray 3);have hh:(w.alloc (.cells (xs.map (Value.int .i64)).toArray 3)).heap[w.heap.size]? = some (.cells (xs.map (Value.int .i64)).toArray 3 (0,0)):=(MapKept.heap_alloc w _).1;refine (qF0 _ B q bs xs (some ⟨w.heap.size,0,none⟩) xs.length (h.below hb1) (Nat.le_refl _) (qHB w xs hx hl _ hh) (fun w' bs' hP=>qHB w xs hx hl _ ((hP.keep w.heap.size _ _ _ (by omega) hh (by decide)).trans hh)) hok hlen).mono ?_;rintro e w' ⟨rfl,hP⟩;exact ⟨rfl,hP.lift (by omega) hb1⟩
theorem qAg(w:World)(B q:Nat)(bs:List UInt8)(x:Int)(h:PW w B q bs)(hok:OkN x)(hlen:LE47 (bs++numB x).length):
 Calls Tryz.prog 37 #[.pointer (some ⟨q,0,none⟩),.slice (some ⟨w.heap.size,0,none⟩) 1 1] (w.alloc (.cells #[.int .i64 x] 3)) fun e w'=>e=.returned (.tuple #[])∧PK B q w w' (bs++numB x):=by
 have e:qi [x]=numB x:=by simp [qi]
 have:=qC8 w B q bs [x] h (by simp) (by simp) (by intro n hn; rw [List.mem_singleton.1 hn]; exact hok) (by rw [e]; exact hlen);rw [e] at this;exact this
theorem qJC(w:World)(B q:Nat)(bs:List UInt8)(x y:Int)(h:PW w B q bs)(hx:OkN x)(hy:OkN y)(hlen:LE47 (bs++(numB x++numB y)).length):
 Calls Tryz.prog 37 #[.pointer (some ⟨q,0,none⟩),.slice (some ⟨w.heap.size,0,none⟩) 2 2] (w.alloc (.cells #[.int .i64 x,.int .i64 y] 3)) fun e w'=>e=.returned (.tuple #[])∧PK B q w w' (bs++(numB x++numB y)):=by
 have e:qi [x,y]=numB x++numB y:=by simp [qi]
 have:=qC8 w B q bs [x,y] h (by simp) (by simp) (by intro n hn; simp at hn; rcases hn with rfl|rfl<;>assumption) (by rw [e]; exact hlen);rw [e] at this;exact this
theorem qJD(w:World)(B q:Nat)(bs:List UInt8)(x y z:Int)(h:PW w B q bs)(hx:OkN x)(hy:OkN y)(hz:OkN z)(hlen:LE47 (bs++(numB x++(numB y++numB z))).length):
 Calls Tryz.prog 37 #[.pointer (some ⟨q,0,none⟩),.slice (some ⟨w.heap.size,0,none⟩) 3 3] (w.alloc (.cells #[.int .i64 x,.int .i64 y,.int .i64 z] 3)) fun e w'=>e=.returned (.tuple #[])∧PK B q w w' (bs++(numB x++(numB y++numB z))):=by
 have e:qi [x,y,z]=numB x++(numB y++numB z):=by simp [qi]
 have:=qC8 w B q bs [x,y,z] h (by simp) (by simp) (by intro n hn; simp at hn; rcases hn with rfl|rfl|rfl<;>assumption) (by rw [e]; exact hlen);rw [e] at this;exact this
set_option maxRecDepth 100000 in
set_option maxHeartbeats 4000000 in
theorem qDU(w:World)(B q:Nat)(bs:List UInt8)(n:Int)(h:PW w B q bs)(h0 : -9223372036854775808≤n)(h1:n≤9223372036854775807)(hlen:LE47 (bs++QG n).length):
 Calls Tryz.prog 67 #[.pointer (some ⟨q,0,none⟩),.int .i64 n] w fun e w'=>e=.returned (.tuple #[])∧PK B q w w' (bs++QG n):=by
 have HB:=Lib.hid (qFz w B q bs (Qf n) h (by unfold Qf; split<;>omega) hlen);unfold QG;by_cases hn:n<0
 ·obtain ⟨k,hk⟩:∃k:Nat,n = -(k:Int) - 1:=⟨(-(n+1)).toNat,by omega⟩;have hf:Qf n=2*k+1:=by unfold Qf; rw [if_pos hn]; omega
  have hd:decide (n<0)=true:=decide_eq_true hn;have w1:IntKind.i64.wrap (n+1)=n+1:=IntWalk.i64_in _ (by omega);have w2:IntKind.i64.wrap (-(n+1))=(k:Int):=by rw [IntWalk.i64_in _ (by omega)]; omega
  have w3:IntKind.u64.wrap (k:Int)=(k:Int):=IntWalk.u64_in _ (by omega);have w4:IntKind.u64.wrap (2*(k:Int))=2*(k:Int):=IntWalk.u64_in _ (by omega);have w5:IntKind.u64.wrap (2*(k:Int)+1)=2*(k:Int)+1:=IntWalk.u64_in _ (by omega);have HF:=Lib.hid hf;rw [hf,show ((2*k+1:Nat):Int)=2*(k:Int)+1 from by omega] at HB;clear hf hn h;go_enter Tryz.func67,Tryz.ntmps67;go_wp2_with fail;refine HB.out.mono ?_;rintro e w2 ⟨rfl,hP⟩;have HP:=qB.mk hP;clear hP;go_wp2;exact bodyPost_ret (v:=.tuple #[]) (by simp [results,Tryz.results67,go_sem]) rfl ⟨rfl,by rw [HF.out]; exact HP.out⟩
 ·obtain ⟨k,rfl⟩:∃k:Nat,n=(k:Int):=⟨n.toNat,by omega⟩;have hf:Qf k=2*k:=by unfold Qf; rw [if_neg hn]; omega
  have hd:decide ((k:Int)<0)=false:=decide_eq_false hn;have w3:IntKind.u64.wrap (k:Int)=(k:Int):=IntWalk.u64_in _ (by omega);have w4:IntKind.u64.wrap (2*(k:Int))=2*(k:Int):=IntWalk.u64_in _ (by omega);have HF:=Lib.hid hf;rw [hf,show ((2*k:Nat):Int)=2*(k:Int) from by omega] at HB;clear hf hn h;go_enter Tryz.func67,Tryz.ntmps67;go_wp2_with fail;refine HB.out.mono ?_;rintro e w2 ⟨rfl,hP⟩;have HP:=qB.mk hP;clear hP;go_wp2;go_end0;exact ⟨rfl,by rw [HF.out]; exact HP.out⟩
theorem qF1{ops:Array Oper}{rest:List Oper}{o:Oper}{a:Act}{Q:Exit→Act→World→Prop}{w:World}(hgd:o.guard=none)(s x:Operand)
 (ho:o.op=.call { callee:=.builtin .append,args:=#[s,x],argTypes:=#[39,9] }) (B:Nat) (v:Value) (bs:List UInt8) (hs:a.eval s=v) (hown:w.ownsRow B 5 1 v bs.length (Lib.byteCells bs))
 (c:ByteArray) (hx:a.eval x=.string c) (hlen:LE47 (bs.length+c.size)) (hB:B≤w.heap.size)
 (h:Hid (∀v' w',qB (OwnB w' B v' (bs++c.data.toList)∧w.grownBy w' v.ownBlock)→wpList Tryz.prog ops Q rest (a.put o.dst v') w')):
 wpList Tryz.prog ops Q (o::rest) a w:=by
 obtain ⟨i0,hi0,hz0,hz1,hz2⟩:=info_parts qA7;unfold LE47 at hlen;refine Lib.wpList_append_own_string _ hgd s x 39 9 ho B 5 i0 Tryz.underlying39 Tryz.underlying9 hi0 hz0 hz1 hz2 v bs.length (Lib.byteCells bs) hs hown c hx ?_ ?_ ?_ ?_
 ·unfold maxLen; omega
 ·omega
 ·exact hB
 ·intro v' w' hown' hg _;refine h.out v' w' ⟨⟨?_,hg⟩⟩;have e:Lib.byteCells (bs++c.data.toList)=Lib.byteCells bs++Lib.strCells c:=by rw [Lib.byteCells_append]; rfl
  have e2:c.data.toList.length=c.size:=by simp
  unfold OwnB;rw [e,List.length_append,e2];exact hown'
set_option maxRecDepth 100000 in
set_option maxHeartbeats 4000000 in
theorem qDh(w:World)(B q:Nat)(bs:List UInt8)(s:ByteArray)(h:PW w B q bs)(hs:s.size≤1000000000)(hlen:LE47 (bs++strB s.data.toList).length):
 Calls Tryz.prog 39 #[.pointer (some ⟨q,0,none⟩),.string s] w fun e w'=>e=.returned (.tuple #[])∧PK B q w w' (bs++strB s.data.toList):=by
 have e2:s.data.toList.length=s.size:=by simp
 have hl1:LE47 (bs++numB s.size).length:=by unfold LE47 strB at *; rw [e2] at hlen; simp only [List.length_append] at hlen ⊢; omega
 have hl2:LE47 ((bs++numB s.size).length+s.size):=by unfold LE47 strB at *; rw [e2] at hlen; simp only [List.length_append] at hlen ⊢; omega
 have hBw:B≤w.heap.size:=by have:=h.lt; have:=h.hB; omega
 have HB:=Lib.hid (qAg w B q bs (s.size:Int) h ⟨by omega,by omega⟩ hl1);have HE:Hid (strB s.data.toList=numB s.size++s.data.toList):=Lib.hid (by unfold strB; rw [e2]);clear h e2 hl1 hlen;go_enter Tryz.func39,Tryz.ntmps39;go_wp2_with fail;refine HB.out.mono ?_;rintro e w2 ⟨rfl,hP⟩;obtain ⟨hB,v,hbk,hown,hne⟩:=hP.pw;obtain ⟨a0,l0,c0,rfl⟩:=QS hown;have d0:=qD hbk (i:=0) rfl;have hlt:=(Array.getElem?_eq_some_iff.1 hbk).1;have HP:=qB.mk hP;have HOW:=Lib.hid (And.intro hown hne);have HBK:=Lib.hid hbk;clear hown hne hbk hP;go_wp2_with (refine qF1 rfl _ _ rfl B _ (bs++numB s.size) rfl HOW.out.1 s rfl hl2 (by omega) ?_);refine Lib.hid ?_;intro v' w3 hA;obtain ⟨hown',hg⟩:=hA.out;obtain ⟨h2,hP2⟩:=PK.put hB HBK.out HOW.out.1 HOW.out.2 _ (Below.refl _ _) hg hown';have f0:=qH h2 0;have k0:=qD h2 (i:=0) rfl;have HN2:=qB.mk (HP.out.trans hP2);obtain ⟨a1,l1,c1,rfl⟩:=QS hown';clear h2 hP2 hown' hg;go_wp2;go_end0;exact ⟨rfl,by have:=HN2.out; rw [HE.out]; simpa only [List.append_assoc] using this⟩
end Go.Proofs.YtoonkkipnljflaaGreatDoor.CJ
