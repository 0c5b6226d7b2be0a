/- The packer that holds the mark alone: its first number. Conditions: the packer lies in memory; its bytes are those of a constant. Sums of bytes: code.Sum. Conditions: the string is not too long. code.sealed: bytes with their sum behind them. Conditions: the bytes lie in a slice of the call's own. -/
import Derived.Test.YtoonkkipnljflaaGreatDoorK3
namespace Go.Proofs.YtoonkkipnljflaaGreatDoor.CJ
open Go.RowKit Go.Proofs.YtoonkkipnljflaaGreatDoorW.PrintWords Go.Proofs.YtoonkkipnljflaaGreatDoorW.PrintLast Go.Proofs.YtoonkkipnljflaaGreatDoor.PT Go.Proofs.YtoonkkipnljflaaGreatDoor.IMaps Go.Proofs.YtoonkkipnljflaaGreatDoor.TJ
set_option linter.unusedVariables false
set_option linter.unusedSimpArgs false
def MarkB(w:World)(B:Nat)(v:Value)(bs:List UInt8):Prop:=∃g,v=.slice (some ⟨g,0,none⟩) bs.length bs.length∧B≤g∧w.heap[g]? = some (.cells (Lib.byteCells bs).toArray 5 (bs.length,bs.length+1))
structure PM(w:World)(B q:Nat)(bs:List UInt8):Prop where
 hB:B≤q
 box:∃v,w.heap[q]? = some (.cells #[v] 80 (0,0))∧MarkB w B v bs
theorem PM.lt{w:World}{B q:Nat}{bs:List UInt8}(h:PM w B q bs):q<w.heap.size:=by obtain ⟨v,h1,_⟩:=h.box; exact (Array.getElem?_eq_some_iff.1 h1).1
theorem PM.below{w w':World}{B q:Nat}{bs:List UInt8}(h:PM w B q bs)(hb:Below w.heap.size w w'):PM w' B q bs:=by
 obtain ⟨h0,v,h1,g,e1,e2,e3⟩:=h;exact ⟨h0,v,(hb.block _ (Array.getElem?_eq_some_iff.1 h1).1).trans h1,g,e1,e2,(hb.block _ (Array.getElem?_eq_some_iff.1 e3).1).trans e3⟩
theorem PM.put{w w2:World}{B q:Nat}{bs':List UInt8}{v v':Value}(hB:B≤q)(hq:w.heap[q]? = some (.cells #[v] 80 (0,0)))
 (W:World) (hW:Below w.heap.size w W) (hg:W.grownBy w2 none) (hown1:OwnB w2 B v' bs'):
 w2.heap[q]? = some (.cells #[v] 80 (0,0))∧PK B q w (w2.setCell ⟨q,0,none⟩ v') bs':=by
 have hown:w2.ownsRow B 5 1 v' bs'.length (Lib.byteCells bs'):=hown1;have hlt:=(Array.getElem?_eq_some_iff.1 hq).1;have hWq:=(hW.block q hlt).trans hq;have h2:w2.heap[q]? = some (.cells #[v] 80 (0,0)):=(hg.block q (Array.getElem?_eq_some_iff.1 hWq).1 (by simp)).trans hWq;have hBw:B≤w.heap.size:=by omega
 have hk:Qi q w w2:=by
  intro k cs T fr hk hc hT;have hkl:=(Array.getElem?_eq_some_iff.1 hc).1;have hWk:=(hW.block k hkl).trans hc;exact (hg.block k (Array.getElem?_eq_some_iff.1 hWk).1 (by simp)).trans (hWk.trans hc.symm)
 have hne2:=Lib.ownBlock_ne hown h2 (by decide);refine ⟨h2,⟨⟨hB,v',?_,?_,hne2⟩,?_,Qi.trans hk (Qi.set _ _ _ _)⟩⟩
 ·simp [World.setCell,Array.getElem?_modify,h2]
 ·exact hown.kept (row:=some q) ⟨rfl,rfl,rfl,by simp [World.setCell],fun k _ hk=>Below.heap_setCell _ _ _ _ (fun e=>hk (by simp [e]))⟩ (Or.inr hne2)
 ·exact (((hW.mono hBw).grown hg (Nat.le_trans hBw hW.size) (fun k hk=>by cases hk))).setCell (p:=⟨q,0,none⟩) hB _
theorem qEQ{ops:Array Oper}{rest:List Oper}{o:Oper}{a:Act}{Q:Exit→Act→World→Prop}{w:World}(hgd:o.guard=none)(s x:Operand)
 (ho:o.op=.call { callee:=.builtin .append,args:=#[s,x],argTypes:=#[39,39] }) (B:Nat) (v:Value) (bs:List UInt8) (hs:a.eval s=v) (hown:MarkB w B v bs)
 (c:UInt8) (n:Int) (hc:n=c.toNat) (hx:a.eval x=.slice (some ⟨w.heap.size,0,none⟩) 1 1) (hlen:LE47 (bs.length+1)) (hB:B≤w.heap.size)
 (h:Hid (∀v' w',qB (OwnB w' B v' (bs++[c])∧(w.alloc (.cells #[.int .u8 n] 5)).grownBy w' none)→wpList Tryz.prog ops Q rest (a.put o.dst v') w')):
 wpList Tryz.prog ops Q (o::rest) a (w.alloc (.cells #[.int .u8 n] 5)):=by
 obtain ⟨i0,hi0,hz0,hz1,hz2⟩:=info_parts qA7;unfold LE47 at hlen;have hcell:=qD (MapKept.heap_alloc w (.cells #[.int .u8 n] 5)).1 (i:=0) rfl;obtain ⟨g,rfl,hg1,hg2⟩:=hown;have hgl:=(Array.getElem?_eq_some_iff.1 hg2).1;have hgW:(w.alloc (.cells #[.int .u8 n] 5)).heap[g]? = some (.cells (Lib.byteCells bs).toArray 5 (bs.length,bs.length+1)):=(Below.heap_alloc _ _ _ hgl).trans hg2;refine wpList_append_grows _ hgd s x 39 ho 5 i0 (.int .u8 0) 1 1 Tryz.underlying39 hi0 hz0 hz1 hz2 rfl (by decide) (some ⟨g,0,none⟩) bs.length bs.length (Lib.byteCells bs) hs (fun e=>by cases e) (by rw [Lib.byteCells_length]; omega) ?_ ⟨w.heap.size,0,none⟩ 1 1 [.int .u8 n] hx rfl ?_ ?_ (by omega) ?_ ?_ ?_
 ·intro b hb j u hu;cases hb;have:(⟨g,0,none⟩:Addr).add j=⟨g,j,none⟩:=by simp [Addr.add]; try exact fun h=>h.symm
  rw [this];exact qD hgW (by simpa using hu)
 ·intro j u hu
  match j,hu with
  | 0,hu=>simp at hu; subst hu; exact hcell
  |j+1,hu=>simp at hu
 ·intro u hu; rw [List.mem_singleton.1 hu]; rfl
 ·unfold maxLen; omega
 ·omega
 ·intro v' w' hown' hg;refine h.out v' w' ⟨⟨?_,hg⟩⟩;have e:Lib.byteCells (bs++[c])=Lib.byteCells bs++[.int .u8 n]:=by rw [Lib.byteCells_append,hc]; rfl
  unfold OwnB;rw [e,List.length_append];exact qC2 hown' (by simp; omega)
def BigAt(B q:Nat)(w wr:World)(bs pre:List UInt8):Prop:=(pre=[]∧wr=w)∨PK B q w wr (bs++pre)
set_option maxRecDepth 100000 in
set_option maxHeartbeats 4000000 in
theorem qJF(w:World)(B q:Nat)(bs:List UInt8)(n:Nat)(h:PM w B q bs)(hn:n≤18446744073709551615)(hlen:LE47 (bs++bigB n).length):
 Calls Tryz.prog 66 #[.pointer (some ⟨q,0,none⟩),.int .u64 n] w fun e w'=>e=.returned (.tuple #[])∧PK B q w w' (bs++bigB n):=by
 obtain ⟨i0,hi0,hz0,hz1,hz2⟩:=info_parts qA7;have HM:=Lib.hid h;have HL:=Lib.hid hlen;have HN:=Lib.hid hn;clear h hn hlen;go_enter Tryz.func66,Tryz.ntmps66;go_wp2
 go_loopw [1] (fun v wr=>∃k:Nat,∃pre:List UInt8,v=.int .u64 k∧Hid (k≤18446744073709551615∧bigB n=pre++bigB k)∧qB (BigAt B q w wr bs pre)) (fun v _=>(intOf v).toNat)
 case atStart=>exact ⟨n,[],rfl,Lib.hid ⟨HN.out,rfl⟩,⟨.inl ⟨rfl,rfl⟩⟩⟩
 case round=>
  obtain ⟨k,pre,rfl,HK,HP⟩:=hrel;rcases HP.out with ⟨rfl,rfl⟩|hPP
  rotate_left
  ·replace HP:=qB.mk hPP;clear hPP;obtain ⟨hB,v,hbk,hown,hne⟩:=HP.out.pw;obtain ⟨a0,l0,c0,rfl⟩:=QS hown;have d0:=qD hbk (i:=0) rfl;have hlt:=(Array.getElem?_eq_some_iff.1 hbk).1;by_cases hk:127<k
   ·have hd:decide ((127:Int)<(k:Int))=true:=decide_eq_true (by omega);obtain ⟨c,hstep,hc⟩:∃c:UInt8,bigB k=c::bigB (k / 128)∧(128+(k:Int) % 128)=(c.toNat:Int):=⟨UInt8.ofNat (128+k % 128),by rw [bigB,if_neg (by omega)],by rw [UInt8.toNat_ofNat',Nat.mod_eq_of_lt (by omega)]; omega⟩;have HST:=Lib.hid (And.intro hstep hc);have hwq:IntKind.u64.wrap ((k:Int) / 128)=(k:Int) / 128:=IntWalk.u64_in _ (by have:=HK.out.1; omega);have HOW:=Lib.hid (And.intro hown hne);have HBK:=Lib.hid hbk;have hl1:LE47 ((bs++pre).length+1):=by
     have h1:=HL.out;rw [HK.out.2,hstep] at h1;unfold LE47 at *;simp only [List.length_append,List.length_cons] at h1 ⊢;omega
    clear hstep hc hown hne hbk;go_wp2_with (refine qCy rfl _ _ rfl B _ (bs++pre) rfl HOW.out.1 c _ HST.out.2 rfl hl1 (by omega) ?_);refine Lib.hid ?_;intro v' w2 hA;obtain ⟨hown',hg⟩:=hA.out;obtain ⟨h2,hP⟩:=PK.put hB HBK.out HOW.out.1 HOW.out.2 _ (qC (Below.refl _ _) _) hg hown';have f0:=qH h2 0;have k0:=qD h2 (i:=0) rfl;have HN2:=qB.mk (HP.out.trans hP);obtain ⟨a1,l1,c1,rfl⟩:=QS hown';clear h2 hP hown' hg;go_wp2;go_roundw
    case rel=>exact ⟨k / 128,pre++[c],by go_num,Lib.hid ⟨by have:=HK.out.1; omega,by rw [HK.out.2,HST.out.1]; simp⟩,⟨.inr (by have:=HN2.out; simpa only [List.append_assoc] using this)⟩⟩
    case measure=>simp [intOf]; omega
   ·have hd:decide ((127:Int)<(k:Int))=false:=decide_eq_false (by omega);obtain ⟨c,hstep,hc⟩:∃c:UInt8,bigB k=[c]∧(k:Int)=(c.toNat:Int):=⟨UInt8.ofNat k,by rw [bigB,if_pos (by omega)],by rw [UInt8.toNat_ofNat',Nat.mod_eq_of_lt (by omega)]⟩;have HST:=Lib.hid (And.intro hstep hc);have HOW:=Lib.hid (And.intro hown hne);have HBK:=Lib.hid hbk;have hl1:LE47 ((bs++pre).length+1):=by
     have h1:=HL.out;rw [HK.out.2,hstep] at h1;unfold LE47 at *;simp only [List.length_append,List.length_cons,List.length_nil] at h1 ⊢;omega
    clear hstep hc hown hne hbk;go_wp2_with (refine qCy rfl _ _ rfl B _ (bs++pre) rfl HOW.out.1 c _ HST.out.2 rfl hl1 (by omega) ?_);refine Lib.hid ?_;intro v' w2 hA;obtain ⟨hown',hg⟩:=hA.out;obtain ⟨h2,hP⟩:=PK.put hB HBK.out HOW.out.1 HOW.out.2 _ (qC (Below.refl _ _) _) hg hown';have f0:=qH h2 0;have k0:=qD h2 (i:=0) rfl;have HN2:=qB.mk (HP.out.trans hP);obtain ⟨a1,l1,c1,rfl⟩:=QS hown';clear h2 hP hown' hg;go_wp2;go_end0;exact ⟨rfl,by have:=HN2.out; rw [HK.out.2,HST.out.1]; simpa only [List.append_assoc] using this⟩
  ·obtain ⟨hB,v,hbk,hown⟩:=HM.out;obtain ⟨a0,l0,c0,rfl⟩:∃a0 l0 c0,v=.slice a0 l0 c0:=by obtain ⟨g,e,_⟩:=hown; exact ⟨_,_,_,e⟩
   have d0:=qD hbk (i:=0) rfl;have hlt:=(Array.getElem?_eq_some_iff.1 hbk).1;by_cases hk:127<k
   ·have hd:decide ((127:Int)<(k:Int))=true:=decide_eq_true (by omega);obtain ⟨c,hstep,hc⟩:∃c:UInt8,bigB k=c::bigB (k / 128)∧(128+(k:Int) % 128)=(c.toNat:Int):=⟨UInt8.ofNat (128+k % 128),by rw [bigB,if_neg (by omega)],by rw [UInt8.toNat_ofNat',Nat.mod_eq_of_lt (by omega)]; omega⟩;have HST:=Lib.hid (And.intro hstep hc);have hwq:IntKind.u64.wrap ((k:Int) / 128)=(k:Int) / 128:=IntWalk.u64_in _ (by have:=HK.out.1; omega);have HOW:=Lib.hid hown;have HBK:=Lib.hid hbk;have hl1:LE47 (bs.length+1):=by
     have h1:=HL.out;rw [HK.out.2,hstep] at h1;unfold LE47 at *;simp only [List.length_append,List.length_cons] at h1 ⊢;omega
    clear hstep hc hown hbk;go_wp2_with (refine qEQ rfl _ _ rfl B _ bs rfl HOW.out c _ HST.out.2 rfl hl1 (by omega) ?_);refine Lib.hid ?_;intro v' w2 hA;obtain ⟨hown',hg⟩:=hA.out;obtain ⟨h2,hP⟩:=PM.put hB HBK.out _ (qC (Below.refl _ _) _) hg hown';have f0:=qH h2 0;have k0:=qD h2 (i:=0) rfl;have HN2:=qB.mk hP;obtain ⟨a1,l1,c1,rfl⟩:=QS hown';clear h2 hP hown' hg;go_wp2;go_roundw
    case rel=>exact ⟨k / 128,[c],by go_num,Lib.hid ⟨by have:=HK.out.1; omega,by rw [HK.out.2,HST.out.1]; simp⟩,⟨.inr HN2.out⟩⟩
    case measure=>simp [intOf]; omega
   ·have hd:decide ((127:Int)<(k:Int))=false:=decide_eq_false (by omega);obtain ⟨c,hstep,hc⟩:∃c:UInt8,bigB k=[c]∧(k:Int)=(c.toNat:Int):=⟨UInt8.ofNat k,by rw [bigB,if_pos (by omega)],by rw [UInt8.toNat_ofNat',Nat.mod_eq_of_lt (by omega)]⟩;have HST:=Lib.hid (And.intro hstep hc);have HOW:=Lib.hid hown;have HBK:=Lib.hid hbk;have hl1:LE47 (bs.length+1):=by
     have h1:=HL.out;rw [HK.out.2,hstep] at h1;unfold LE47 at *;simp only [List.length_append,List.length_cons,List.length_nil] at h1 ⊢;omega
    clear hstep hc hown hbk;go_wp2_with (refine qEQ rfl _ _ rfl B _ bs rfl HOW.out c _ HST.out.2 rfl hl1 (by omega) ?_);refine Lib.hid ?_;intro v' w2 hA;obtain ⟨hown',hg⟩:=hA.out;obtain ⟨h2,hP⟩:=PM.put hB HBK.out _ (qC (Below.refl _ _) _) hg hown';have f0:=qH h2 0;have k0:=qD h2 (i:=0) rfl;have HN2:=qB.mk hP;obtain ⟨a1,l1,c1,rfl⟩:=QS hown';clear h2 hP hown' hg;go_wp2;go_end0;exact ⟨rfl,by have:=HN2.out; rw [HK.out.2,HST.out.1]; simpa only [List.nil_append] using this⟩
def NumAt(B q:Nat)(w wr:World)(bs ds:List UInt8)(i:Nat):Prop:=(i=0∧wr=w)∨(i=1∧PK B q w wr (bs++ds))
set_option maxRecDepth 100000 in
set_option maxHeartbeats 4000000 in
theorem qJG(w:World)(B q:Nat)(bs:List UInt8)(x:Int)(h:PM w B q bs)(hok:OkN x)(hlen:LE47 (bs++numB x).length):
 Calls Tryz.prog 37 #[.pointer (some ⟨q,0,none⟩),.slice (some ⟨w.heap.size,0,none⟩) 1 1] (w.alloc (.cells #[.int .i64 x] 3)) fun e w'=>e=.returned (.tuple #[])∧PK B q w w' (bs++numB x):=by
 have hlt:=h.lt;have hB:=h.hB;have hb1:=qC (Below.refl w.heap.size w) (.cells #[.int .i64 x] 3);have c0:(w.alloc (.cells #[.int .i64 x] 3)).cell? ⟨w.heap.size,0,none⟩=some (.int .i64 x):=qD (MapKept.heap_alloc w _).1 (i:=0) rfl;obtain ⟨m,rfl⟩:∃m:Nat,x=m:=⟨x.toNat,by have:=hok.1; omega⟩;have hwr:IntKind.u64.wrap (m:Int)=(m:Int):=IntWalk.u64_in _ (by have:=hok.2; omega);have HB:=Lib.hid (qJF (w.alloc (.cells #[.int .i64 (m:Int)] 3)) B q bs m (h.below hb1) (by have:=hok.2; omega) hlen);have HE:Hid (numB (m:Int)=bigB m):=Lib.hid (by unfold numB; rw [Int.toNat_natCast]);have HL:Hid (∀w',PK B q (w.alloc (.cells #[.int .i64 (m:Int)] 3)) w' (bs++bigB m)→PK B q w w' (bs++numB (m:Int))):=Lib.hid (fun w' hp=>by rw [HE.out]; exact hp.lift (by omega) hb1);clear hb1 h hlen hok;generalize hW:w.alloc (.cells #[.int .i64 (m:Int)] 3)=W at *;go_enter Tryz.func37,Tryz.ntmps37;go_wp2
 go_loopw [8] (fun v wr=>∃i:Nat,v=.int .i64 i∧qB (NumAt B q W wr bs (bigB m) i)) (fun v _=>1 - (intOf v).toNat)
 case atStart=>exact ⟨0,rfl,⟨.inl ⟨rfl,rfl⟩⟩⟩
 case round=>
  obtain ⟨i,rfl,HA⟩:=hrel;rcases HA.out with ⟨rfl,rfl⟩|⟨rfl,hP⟩
  ·clear HA;go_wp2_with fail;refine HB.out.mono ?_;rintro e w2 ⟨rfl,hP⟩;have HN:qB (NumAt B q wr w2 bs (bigB m) 1):=⟨.inr ⟨rfl,hP⟩⟩;clear hP;go_wp2;go_roundw
   case rel=>exact ⟨1,by go_num,HN⟩
   case measure=>simp [intOf]
  ·have HP:=qB.mk hP;clear hP HA;go_wp2;go_end0;exact ⟨rfl,HL.out _ HP.out⟩
def qBt(p:Nat×Nat)(c:UInt8):Nat×Nat:=((p.1+c.toNat) % 65521,(p.2+(p.1+c.toNat) % 65521) % 65521)
def sumP(l:List UInt8):Nat×Nat:=l.foldl qBt (1,0)
def sumB(l:List UInt8):Nat:=(sumP l).2*65536+(sumP l).1
theorem qF2(l:List UInt8)(c:UInt8):sumP (l++[c])=qBt (sumP l) c:=by unfold sumP; rw [List.foldl_append]; rfl
theorem qF3:∀(l:List UInt8) (p:Nat×Nat),p.1<65521→p.2<65521→(l.foldl qBt p).1<65521∧(l.foldl qBt p).2<65521
 | [],_,h1,h2=>⟨h1,h2⟩
 |c::r,p,_,_=>qF3 r (qBt p c) (Nat.mod_lt _ (by decide)) (Nat.mod_lt _ (by decide))
theorem sumP_lt(l:List UInt8):(sumP l).1<65521∧(sumP l).2<65521:=qF3 l (1,0) (by decide) (by decide)
theorem qIh(l:List UInt8):sumB l<4294967296:=by
 have:=sumP_lt l;unfold sumB; omega
set_option maxRecDepth 100000 in
set_option maxHeartbeats 2000000 in
theorem qDi(s:ByteArray)(hs:s.size≤maxLen)(w:World):Calls Tryz.prog 7 #[.string s] w fun e w'=>e=.returned (.int .i64 (sumB s.data.toList))∧w=w':=by
 unfold maxLen at hs;go_enter Tryz.func7,Tryz.ntmps7;go_wp2
 go_loop [3,4,8] (fun av bv v=>∃i:Nat,∃p q:Nat,i≤s.size∧v=.int .i64 i∧av=.int .i64 p∧bv=.int .i64 q∧p<65521∧q<65521∧Hid (sumP (s.data.toList.take i)=(p,q))) (fun _ _ v=>s.size - (intOf v).toNat)
 case atStart=>exact ⟨0,1,0,by omega,rfl,rfl,rfl,by decide,by decide,Lib.hid rfl⟩
 case round=>
  obtain ⟨i,p,q,hi,rfl,rfl,rfl,hp,hq,HS⟩:=hrel;by_cases hlt:i<s.size
  ·have hl:i<s.data.toList.length:=by simpa using hlt
   have hstep:sumP (s.data.toList.take (i+1))=qBt (p,q) s[i]:=by
    rw [List.take_succ_eq_append_getElem hl,qF2,HS.out,qB7 s i hlt]
   have HN:=Lib.hid hstep;have hc:s[i].toNat<256:=s[i].toNat_lt;clear hstep;go_wp2;go_round
   case rel=>exact ⟨i+1,(p+s[i].toNat) % 65521,(q+(p+s[i].toNat) % 65521) % 65521,by omega,by go_num,by go_num,by go_num,Nat.mod_lt _ (by decide),Nat.mod_lt _ (by decide),HN⟩
   case measure=>simp [intOf]; omega
  ·obtain rfl:i=s.size:=by omega
   have hf:sumP s.data.toList=(p,q):=by
    have:=HS.out
    rwa [List.take_of_length_le (by simp)] at this
   have HF:=Lib.hid hf;clear hf;go_wp2;go_ret;exact ⟨by unfold sumB; rw [HF.out]; congr 1,rfl⟩
def OwnX(w:World)(B:Nat)(v:Value)(bs:List UInt8):Prop:=
 ∃g cap cur fr,v=.slice (some ⟨g,0,none⟩) bs.length cap∧B≤g∧w.heap[g]? = some (.cells cur 5 fr)∧(fr=(0,0)∨cur.size≤fr.1)∧bs.length≤cap∧cap≤maxLen∧cur.size=cap∧cur.toList.take bs.length=Lib.byteCells bs
theorem OwnB.x{w:World}{B:Nat}{v:Value}{bs:List UInt8}(h:w.ownsRow B 5 1 v bs.length (Lib.byteCells bs))(hne:bs≠[]):OwnX w B v bs:=by
 rcases h.2 with ⟨_,h0⟩|⟨g,cap,cur,hv,hg,hh,h1,h2,h3,h4⟩
 ·exact absurd (List.length_eq_zero_iff.1 h0) hne
 ·exact ⟨g,cap,cur,(0,0),hv,hg,hh,.inl rfl,h1,h2,by omega,by simpa using h4⟩
theorem OwnX.cells{w:World}{B:Nat}{v:Value}{bs:List UInt8}(h:OwnX w B v bs):∃g cap,v=.slice (some ⟨g,0,none⟩) bs.length cap∧g<w.heap.size∧∀j (hj:j<bs.length),w.cell? ((⟨g,0,none⟩:Addr).add j)=some (.int .u8 (bs[j].toNat:Int)):=by
 obtain ⟨g,cap,cur,fr,hv,hg,hh,hf,h1,h2,h3,h4⟩:=h;refine ⟨g,cap,hv,(Array.getElem?_eq_some_iff.1 hh).1,fun j hj=>?_⟩;have e:(⟨g,0,none⟩:Addr).add j=⟨g,j,none⟩:=by simp [Addr.add]; try exact fun h=>h.symm
 rw [e];refine qD hh ?_;have:(cur.toList.take bs.length)[j]? = some (.int .u8 (bs[j].toNat:Int)):=by rw [h4]; simp [Lib.byteCells,List.getElem?_eq_getElem hj]
 rw [List.getElem?_take,if_pos hj] at this;simpa using this
theorem OwnX.string{w:World}{B:Nat}{v:Value}{bs:List UInt8}(h:OwnX w B v bs):(convert 39 9 v).run Tryz.prog w=.ok (.string ⟨bs.toArray⟩) w:=by
 obtain ⟨g,cap,rfl,_,hc⟩:=h.cells;exact run_convert_bytes_back w 39 9 5 ⟨g,0,none⟩ cap bs Tryz.underlying39 Tryz.underlying5 Tryz.underlying9 hc
theorem qC9{ops:Array Oper}{rest:List Oper}{o:Oper}{a:Act}{Q:Exit→Act→World→Prop}{w0 w:World}(hgd:o.guard=none)(s x:Operand)
 (ho:o.op=.call { callee:=.builtin .append,args:=#[s,x],argTypes:=#[39,39] }) (B:Nat) (v:Value) (bs:List UInt8) (hs:a.eval s=v) (hown:OwnX w B v bs)
 (c:UInt8) (n:Int) (hc:n=c.toNat) (hx:a.eval x=.slice (some ⟨w.heap.size,0,none⟩) 1 1) (hlen:LE47 (bs.length+1)) (hB:B≤w.heap.size) (hlow:Below B w0 w)
 (h:Hid (∀v' w',qB (OwnX w' B v' (bs++[c])∧Below B w0 w')→wpList Tryz.prog ops Q rest (a.put o.dst v') w')):
 wpList Tryz.prog ops Q (o::rest) a (w.alloc (.cells #[.int .u8 n] 5)):=by
 obtain ⟨i0,hi0,hz0,hz1,hz2⟩:=info_parts qA7;unfold LE47 at hlen;have hcell:=qD (MapKept.heap_alloc w (.cells #[.int .u8 n] 5)).1 (i:=0) rfl;obtain ⟨g,cap,hv0,hgl,hcells⟩:=hown.cells;have hown2:=hown;obtain ⟨g2,cap2,cur,fr,hv,hg,hh,hf,h1,h2,h3,h4⟩:=hown;rw [hv0] at hv;injection hv with e1 e2 e3;injection e1 with e1;injection e1 with e1;subst e1 e3;have hgW:(w.alloc (.cells #[.int .u8 n] 5)).heap[g]? = some (.cells cur 5 fr):=(Below.heap_alloc _ _ _ hgl).trans hh;have eb:Lib.byteCells (bs++[c])=Lib.byteCells bs++[.int .u8 n]:=by rw [Lib.byteCells_append,hc]; rfl
 have hlowW:Below B w0 (w.alloc (.cells #[.int .u8 n] 5)):=hlow.alloc hB _;refine wpList_append_arg _ hgd s x 39 ho 5 i0 (.int .u8 0) 1 1 Tryz.underlying39 hi0 hz0 hz1 hz2 rfl (by decide) g 0 bs.length cap (Lib.byteCells bs) (hs.trans hv0) (by rw [Lib.byteCells_length]; omega) ?_ ⟨w.heap.size,0,none⟩ 1 1 [.int .u8 n] hx rfl ?_ ?_ ?_ ?_ ?_ ?_ ?_
 ·intro j u hu;have hj:j<bs.length:=by have:=(List.getElem?_eq_some_iff.1 hu).1; rwa [Lib.byteCells_length] at this
  have hcj:=hcells j hj;have e:(⟨g,0,none⟩:Addr).add j=⟨g,0+j,none⟩:=by simp [Addr.add]; try exact fun h=>h.symm
  rw [e] at hcj;rw [qA (qC (Below.refl _ _) _) hcj];simp [Lib.byteCells,List.getElem?_eq_getElem hj] at hu;rw [hu]
 ·intro j u hu
  match j,hu with
  | 0,hu=>simp at hu; subst hu; exact hcell
  |j+1,hu=>simp at hu
 ·intro u hu; rw [List.mem_singleton.1 hu]; rfl
 ·intro hr j hj;simp at hj;subst hj;have hlt:bs.length<cur.size:=by omega
  refine ⟨?_,?_⟩
  ·simp [World.cell?,hgW,hlt]
  ·rcases hf with rfl|hf
   ·simp [World.frozen?,hgW]
   ·simp [World.frozen?,hgW]; omega
 ·unfold maxLen; omega
 ·omega
 ·intro hr;refine h.out _ _ ⟨⟨?_,?_⟩⟩
  ·refine ⟨g,cap,cur.setIfInBounds bs.length (.int .u8 n),fr,by simp,hg,?_,?_,by simp; omega,h2,by simpa using h3,?_⟩
   ·simp [World.setCells,World.setCell,Array.getElem?_modify,hgW]
   ·simpa using hf
   ·rw [eb];simp only [Array.toList_setIfInBounds,List.length_append,List.length_cons,List.length_nil];have hlt:bs.length<(cur.toList.set bs.length (.int .u8 n)).length:=by simp; omega
    rw [List.take_succ_eq_append_getElem hlt];simp [h4,List.take_set_of_le]
  ·exact hlowW.setCell (p:=⟨g,0+bs.length*1,none⟩) hg _
 ·intro _ v' w' hown' hg';refine h.out v' w' ⟨⟨?_,hlowW.grown hg' (by simp; omega) (fun k hk=>by cases hk)⟩⟩;have:w'.ownsRow B 5 1 v' (bs++[c]).length (Lib.byteCells (bs++[c])):=by
   rw [eb,List.length_append];exact qC2 hown' (by simp; omega)
  exact OwnB.x this (by simp)
def sum4(n:Nat):List UInt8:=[UInt8.ofNat (n / 16777216),UInt8.ofNat (n / 65536),UInt8.ofNat (n / 256),UInt8.ofNat n]
theorem qEA(m:Nat):IntKind.u8.wrap (m:Int)=((UInt8.ofNat m).toNat:Int):=by rw [IntKind.wrap_u8,UInt8.toNat_ofNat']; omega
def QE(bs:List UInt8):List UInt8:=bs++sum4 (sumB bs)
structure SX(w wr:World)(B:Nat)(v:Value)(bs:List UInt8):Prop where
 own:OwnX wr B v bs
 low:Below B w wr
set_option maxRecDepth 100000 in
set_option maxHeartbeats 4000000 in
theorem qCW(w:World)(B:Nat)(v:Value)(bs:List UInt8)(h:OwnX w B v bs)(hlen:bs.length≤1000000000):
 Calls Tryz.prog 15 #[v] w fun e w'=>e=.returned (.string ⟨(QE bs).toArray⟩)∧Below B w w':=by
 have hcv:=h.string;have hS:=Lib.hid (qDi ⟨bs.toArray⟩ (by unfold maxLen; simp [ByteArray.size]; omega) w);have hlt:=qIh bs;have HX:=qB.mk (SX.mk (w:=w) h (Below.refl _ _));obtain ⟨g,cap,rfl,hgw,_⟩:=h.cells;have hBw:B≤w.heap.size:=by
  obtain ⟨g2,cap2,cur,fr,hv,hg,hh,_⟩:=h;injection hv with e1 _ _;injection e1 with e1;injection e1 with e1;omega
 have e0:(⟨bs.toArray⟩:ByteArray).data.toList=bs:=rfl;rw [e0] at hS;have HSB:Hid (QE bs=bs++sum4 (sumB bs)):=Lib.hid rfl;clear h e0;generalize sumB bs=n at *;go_enter Tryz.func15,Tryz.ntmps15;go_wp2_with fail;refine hS.out.mono ?_;rintro e w1 ⟨rfl,rfl⟩;go_wp2
 go_loopw [0,8] (fun v iv wr=>∃i:Nat,∃u:Value,i≤4∧iv=.int .i64 i∧u=v∧qB (SX w wr B u (bs++(sum4 n).take i))) (fun _ iv _=>4 - (intOf iv).toNat)
 case atStart=>exact ⟨0,_,by omega,rfl,rfl,by simpa using HX⟩
 case round=>
  obtain ⟨i,u,hi,rfl,rfl,HA⟩:=hrel;clear HX hcv;obtain ⟨g2,cap2,rfl,hgr,_⟩:=HA.out.own.cells;by_cases hi4:i<4
  ·have hc:i=0∨i=1∨i=2∨i=3:=by omega
   have HBl:=Lib.hid (show LE47 ((bs++(sum4 n).take i).length+1) from by unfold LE47; rw [List.length_append]; have:=List.length_take_le i (sum4 n); have h4:(sum4 n).length=4:=rfl; omega);have hBr:B≤wr.heap.size:=by have:=HA.out.low.size; omega
   rcases hc with rfl|rfl|rfl|rfl
   ·obtain ⟨c,hc1,hc2⟩:∃c:UInt8,IntKind.u8.wrap ((n:Int) / 16777216)=(c.toNat:Int)∧(sum4 n).take 1=(sum4 n).take 0++[c]:=⟨UInt8.ofNat (n / 16777216),qEA (n / 16777216),rfl⟩;have HC2:=Lib.hid hc2;have hcc:(n:Int) / 16777216=(c.toNat:Int):=by rw [←hc1]; exact (IntWalk.u8_in _ (by omega)).symm
    have HCC:=Lib.hid hcc;clear hcc hc1;clear hc2;go_wp2_with (refine qC9 rfl _ _ rfl B _ (bs++(sum4 n).take 0) rfl HA.out.own c _ HCC.out rfl HBl.out hBr HA.out.low ?_);refine Lib.hid ?_;intro v' w3 hA;have HN:qB (SX w w3 B v' (bs++(sum4 n).take 1)):=⟨by rw [HC2.out]; exact ⟨hA.out.1,hA.out.2⟩⟩;clear hA;go_wp2;go_roundw
    case rel=>exact ⟨1,_,by omega,by go_num,rfl,HN⟩
    case measure=>simp [intOf]
   ·obtain ⟨c,hc1,hc2⟩:∃c:UInt8,IntKind.u8.wrap ((n:Int) / 65536)=(c.toNat:Int)∧(sum4 n).take 2=(sum4 n).take 1++[c]:=⟨UInt8.ofNat (n / 65536),qEA (n / 65536),rfl⟩;have HC2:=Lib.hid hc2;clear hc2;go_wp2_with (refine qC9 rfl _ _ rfl B _ (bs++(sum4 n).take 1) rfl HA.out.own c _ rfl rfl HBl.out hBr HA.out.low ?_);refine Lib.hid ?_;intro v' w3 hA;have HN:qB (SX w w3 B v' (bs++(sum4 n).take 2)):=⟨by rw [HC2.out]; exact ⟨hA.out.1,hA.out.2⟩⟩;clear hA;go_wp2;go_roundw
    case rel=>exact ⟨2,_,by omega,by go_num,rfl,HN⟩
    case measure=>simp [intOf]
   ·obtain ⟨c,hc1,hc2⟩:∃c:UInt8,IntKind.u8.wrap ((n:Int) / 256)=(c.toNat:Int)∧(sum4 n).take 3=(sum4 n).take 2++[c]:=⟨UInt8.ofNat (n / 256),qEA (n / 256),rfl⟩;have HC2:=Lib.hid hc2;clear hc2;go_wp2_with (refine qC9 rfl _ _ rfl B _ (bs++(sum4 n).take 2) rfl HA.out.own c _ rfl rfl HBl.out hBr HA.out.low ?_);refine Lib.hid ?_;intro v' w3 hA;have HN:qB (SX w w3 B v' (bs++(sum4 n).take 3)):=⟨by rw [HC2.out]; exact ⟨hA.out.1,hA.out.2⟩⟩;clear hA;go_wp2;go_roundw
    case rel=>exact ⟨3,_,by omega,by go_num,rfl,HN⟩
    case measure=>simp [intOf]
   ·obtain ⟨c,hc1,hc2⟩:∃c:UInt8,IntKind.u8.wrap ((n:Int))=(c.toNat:Int)∧(sum4 n).take 4=(sum4 n).take 3++[c]:=⟨UInt8.ofNat (n),qEA (n),rfl⟩;have HC2:=Lib.hid hc2;clear hc2;go_wp2_with (refine qC9 rfl _ _ rfl B _ (bs++(sum4 n).take 3) rfl HA.out.own c _ rfl rfl HBl.out hBr HA.out.low ?_);refine Lib.hid ?_;intro v' w3 hA;have HN:qB (SX w w3 B v' (bs++(sum4 n).take 4)):=⟨by rw [HC2.out]; exact ⟨hA.out.1,hA.out.2⟩⟩;clear hA;go_wp2;go_roundw
    case rel=>exact ⟨4,_,by omega,by go_num,rfl,HN⟩
    case measure=>simp [intOf]
  ·obtain rfl:i=4:=by omega
   have hcv:=HA.out.own.string;have e4:bs++(sum4 n).take 4=QE bs:=by rw [HSB.out]; rfl
   rw [e4] at hcv HA;have hlen4:(bs++(sum4 n).take 4).length=(QE bs).length:=by rw [e4]
   clear e4;go_wp2;go_ret;exact ⟨rfl,HA.out.low⟩
end Go.Proofs.YtoonkkipnljflaaGreatDoor.CJ
