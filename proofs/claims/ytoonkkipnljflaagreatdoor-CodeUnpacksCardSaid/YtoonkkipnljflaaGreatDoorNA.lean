/- The scanner of a line: next, int; numbers and strings in a text. Conditions: parts are not too long; the listed variables are laid. The scanner's list of numbers; strings.Split at one byte. Conditions: parts are not too long; the listed variables are laid. -/
import Derived.Test.YtoonkkipnljflaaGreatDoorYY
import Derived.Test.YtoonkkipnljflaaGreatDoorSh
namespace Go.Proofs.YtoonkkipnljflaaGreatDoor.CJ
open Go.RowKit Go.Proofs.YtoonkkipnljflaaGreatDoorW.PrintWords Go.Proofs.YtoonkkipnljflaaGreatDoorW.PrintLast Go.Proofs.YtoonkkipnljflaaGreatDoor.PT Go.Proofs.YtoonkkipnljflaaGreatDoor.IMaps Go.Proofs.YtoonkkipnljflaaGreatDoor.TJ
set_option linter.unusedVariables false
set_option linter.unusedSimpArgs false
structure RW(w:World):Prop where
 lw:LW w
 tens:Tens w
 max:∃m,w.cell? ⟨3,0,none⟩=some (.int .i64 m)
 es:∃te pe,w.cell? ⟨12,0,none⟩=some (.iface te pe)
 er:∃te pe,w.cell? ⟨13,0,none⟩=some (.iface te pe)
theorem RW.below{w w':World}(h:RW w)(hb:Below w.heap.size w w'):RW w':=by
 obtain ⟨m,hm⟩:=h.max;obtain ⟨t1,p1,h1⟩:=h.es;obtain ⟨t2,p2,h2⟩:=h.er;exact ⟨h.lw.below hb,h.tens.below hb,⟨m,qA hb hm⟩,⟨t1,p1,qA hb h1⟩,⟨t2,p2,qA hb h2⟩⟩
def qHn{α:Type}(w:World)(P:World→α→Value→Prop):Option α→Ending→World→Prop
 |some x,e,w'=>∃v,e=.returned v∧P w' x v∧Below w.heap.size w w'
 |none,e,w'=>e=.panicked qAJ∧Below w.heap.size w w'
theorem qEL{w w1:World}{t:TypeId}(h:w1=w∨∃s,w1=Lib.bytesWorld w t s):Below w.heap.size w w1:=by
 rcases h with rfl|⟨s,rfl⟩
 ·exact Below.refl _ _
 ·exact Lib.bytesWorld_below _ _ _
set_option maxRecDepth 100000 in
set_option maxHeartbeats 2000000 in
theorem qBA(w:World)(p:List UInt8)(hp:p.length≤1000000)(h:RW w):
 Calls Tryz.prog 113 #[.string ⟨p.toArray⟩] w (qHn w pInt (numT p)):=by
 have hn0:∀w:World,(binOp BinOp.eql 99 .nilIface .nilIface).run Tryz.prog w=.ok (.bool true) w:=fun _=>by kernel_rfl
 have hn1:∀(w:World) (N:Nat),(binOp BinOp.eql 99 (.iface 198 (.pointer (some ⟨N,0,none⟩))) .nilIface).run Tryz.prog w=.ok (.bool false) w:=fun _ _=>by kernel_rfl
 have hsz:(⟨p.toArray⟩:ByteArray).size=p.length:=by simp [ByteArray.size]
 obtain ⟨F,hF⟩:∃F,F=numT p:=⟨_,rfl⟩;rw [←hF];rcases ha:Lib.atoiAll p with v|_|_
 ·have HA:=Lib.hid (Tryz.strconv_Atoi_ok ⟨p.toArray⟩ (by omega) v ha w);have hv:=Lib.atoiAll_bounds ha;have HF:Hid (F=if Lib.itoa v=p then some v else none):=Lib.hid (by rw [hF]; unfold numT; rw [ha]);have HT:=Lib.hid h.tens;clear hF ha h hsz;cases hq:(Lib.itoa v==p)
  ·have HE:Hid (F=none):=Lib.hid (by rw [HF.out,if_neg (fun e=>by rw [e] at hq; simp at hq)]);clear HF;go_enter Tryz.func113,Tryz.ntmps113;go_wp2_with fail;refine HA.out.mono ?_;rintro e w1 ⟨rfl,hw⟩;have HB:=qB.mk (qEL hw);clear hw HA;go_wp2_with fail;refine (Qg v hv w1 (HT.out.below HB.out)).mono ?_;rintro e w2 ⟨rfl,hb⟩;have HB2:=qB.mk (qF HB.out hb);clear hb HB;go_wp2_with fail;refine (qG _).mono ?_;rintro e w3 ⟨rfl,rfl⟩;go_wp2;exact ⟨rfl,by rw [HE.out]; exact ⟨rfl,HB2.out⟩⟩
  ·have HE:Hid (F=some v):=Lib.hid (by rw [HF.out,if_pos (beq_iff_eq.1 hq)]);clear HF;go_enter Tryz.func113,Tryz.ntmps113;go_wp2_with fail;refine HA.out.mono ?_;rintro e w1 ⟨rfl,hw⟩;have HB:=qB.mk (qEL hw);clear hw HA;go_wp2_with fail;refine (Qg v hv w1 (HT.out.below HB.out)).mono ?_;rintro e w2 ⟨rfl,hb⟩;have HB2:=qB.mk (qF HB.out hb);clear hb HB;go_wp2_with fail;refine (qL _).mono ?_;rintro e w3 ⟨rfl,rfl⟩;go_wp2;go_ret;rw [HE.out];exact ⟨_,rfl,rfl,HB2.out⟩
 ·obtain ⟨te,pe,hes⟩:=h.es;have HA:Hid (Calls Tryz.prog 137 #[.string ⟨p.toArray⟩] w fun e w'=>∃N,e=.returned (.tuple #[.int .i64 0,.iface 198 (.pointer (some ⟨N,0,none⟩))])∧w.heap.size≤N∧w'.heap[N]? = some (.cells #[.string ⟨#[65,116,111,105]⟩,.string ⟨p.toArray⟩,.iface te pe] 216 (0,0))∧Below w.heap.size w w'):=Lib.hid (Any.strconv_Atoi_syntax Tryz.laysC172 ⟨p.toArray⟩ (by omega) ha _ w hes (.inr ⟨te,pe,rfl⟩));have HE:Hid (F=none):=Lib.hid (by rw [hF]; unfold numT; rw [ha]);clear hF ha h hsz hes;go_enter Tryz.func113,Tryz.ntmps113;go_wp2_with fail;refine HA.out.mono ?_;rintro e w1 ⟨N,rfl,_,_,hb⟩;have HB:=qB.mk hb;clear hb HA;go_wp2_with fail;refine (qG _).mono ?_;rintro e w3 ⟨rfl,rfl⟩;go_wp2;exact ⟨rfl,by rw [HE.out]; exact ⟨rfl,HB.out⟩⟩
 ·obtain ⟨te,pe,hes⟩:=h.er;have HA:=Lib.hid (Tryz.strconv_Atoi_range ⟨p.toArray⟩ (by omega) ha _ w hes (.inr ⟨te,pe,rfl⟩));have HE:Hid (F=none):=Lib.hid (by rw [hF]; unfold numT; rw [ha]);clear hF ha h hsz hes;go_enter Tryz.func113,Tryz.ntmps113;go_wp2_with fail;refine HA.out.mono ?_;rintro e w1 ⟨N,rfl,_,_,hb⟩;have HB:=qB.mk hb;clear hb HA;go_wp2_with fail;refine (qG _).mono ?_;rintro e w3 ⟨rfl,rfl⟩;go_wp2;exact ⟨rfl,by rw [HE.out]; exact ⟨rfl,HB.out⟩⟩
def pText(_:World)(s:ByteArray)(v:Value):Prop:=v=.string s
set_option maxRecDepth 100000 in
set_option maxHeartbeats 2000000 in
theorem qHo(w:World)(p:List UInt8)(hp:p.length≤1000000):
 Calls Tryz.prog 110 #[.string ⟨p.toArray⟩] w (qHn w pText (strT p)):=by
 obtain ⟨F,hF⟩:∃F,F=strT p:=⟨_,rfl⟩;rw [←hF];have hsz:(⟨p.toArray⟩:ByteArray).size=p.length:=by simp [ByteArray.size]
 cases hq:(p==[45])
 ·have HN:=Lib.hid (qA5 ⟨p.toArray⟩ (by unfold maxLen; omega) w);have hne:¬p=[45]:=fun e=>by rw [e] at hq; simp at hq
  cases hn:qe p
  ·have HE:Hid (F=none):=Lib.hid (by rw [hF]; unfold strT; rw [if_neg hne,hn]; rfl);have HN:=Lib.hid (by have:=HN.out; simp only [hn] at this; exact this);clear hF hn hne hsz;go_enter Tryz.func110,Tryz.ntmps110;go_wp2_with fail;refine HN.out.mono ?_;rintro e w1 ⟨rfl,rfl⟩;go_wp2_with fail;refine (qG _).mono ?_;rintro e w3 ⟨rfl,rfl⟩;go_wp2;exact ⟨rfl,by rw [HE.out]; exact ⟨rfl,Below.refl _ _⟩⟩
  ·have HE:Hid (F=some ⟨p.toArray⟩):=Lib.hid (by rw [hF]; unfold strT; rw [if_neg hne,hn]; rfl);have HN:=Lib.hid (by have:=HN.out; simp only [hn] at this; exact this);clear hF hn hne hsz;go_enter Tryz.func110,Tryz.ntmps110;go_wp2_with fail;refine HN.out.mono ?_;rintro e w1 ⟨rfl,rfl⟩;go_wp2_with fail;refine (qL _).mono ?_;rintro e w3 ⟨rfl,rfl⟩;go_wp2;go_ret;rw [HE.out];exact ⟨_,rfl,rfl,Below.refl _ _⟩
 ·have HE:Hid (F=some ⟨#[]⟩):=Lib.hid (by rw [hF]; unfold strT; rw [if_pos (beq_iff_eq.1 hq)]);clear hF hsz;go_enter Tryz.func110,Tryz.ntmps110;go_wp2;go_ret;rw [HE.out];exact ⟨_,rfl,rfl,Below.refl _ _⟩
structure SD(w:World)(q:Nat)(ps:List (List UInt8)):Prop where
 small:∀x∈ps,x.length≤1000000
 many:ps.length≤1000001
 lies:∃A c,w.heap[q]? = some (.cells #[.slice A ps.length c] 135 (0,0))∧ps.length≤c∧(ps=[]∨∃b o cs,A=some ⟨b,o,none⟩∧w.heap[b]? = some (.cells cs 9 (0,0))∧∀j x,ps[j]? = some x→cs[o+j]? = some (.string ⟨x.toArray⟩))
theorem SD.lt{w:World}{q:Nat}{ps:List (List UInt8)}(h:SD w q ps):q<w.heap.size:=by
 obtain ⟨A,c,h1,_⟩:=h.lies;exact qN h1
theorem SD.move{w w':World}{q:Nat}{ps:List (List UInt8)}(h:SD w q ps)(hm:∀(k:Nat) (cs:Array Value) (T:Nat),w.heap[k]? = some (.cells cs T (0,0))→T=135∨T=9→w'.heap[k]? = w.heap[k]?):SD w' q ps:=by
 obtain ⟨A,c,h1,h2,h3⟩:=h.lies;refine ⟨h.small,h.many,A,c,(hm _ _ _ h1 (.inl rfl)).trans h1,h2,?_⟩;rcases h3 with h3|⟨b,o,cs,e1,e2,e3⟩
 ·exact .inl h3
 ·exact .inr ⟨b,o,cs,e1,(hm _ _ _ e2 (.inr rfl)).trans e2,e3⟩
theorem SD.below{w w':World}{q:Nat}{ps:List (List UInt8)}(h:SD w q ps)(hb:Below w.heap.size w w'):SD w' q ps:=
 h.move (fun k _ _ hk _=>hb.block k (qN hk))
theorem SD.grown{α:Type}{d:Kd α}{e B:Nat}{ok:Nat→Prop}{v:Value}{xs:List α}{w w':World}{q:Nat}{ps:List (List UInt8)}(h:SD w q ps)(hr:d.R e w B ok v xs)(hg:w.grownBy w' v.ownBlock)(n1:e≠135)(n2:e≠9):SD w' q ps:=
 h.move (fun k _ _ hk hT=>hg.block k (qN hk) (by
  rcases hT with rfl|rfl
  ·exact Kd.R_ne hr hk n1
  ·exact Kd.R_ne hr hk n2))
theorem SD.set{w:World}{q g t:Nat}{cells:Array Value}{ps:List (List UInt8)}(h:SD w q ps)(hx:w.heap[g]? = some (.cells cells t (0,0)))(n1:t≠135)(n2:t≠9)(i:Nat)(u:Value):SD (w.setCell ⟨g,i,none⟩ u) q ps:=
 h.move (fun k _ _ hk hT=>Below.heap_setCell _ _ _ _ (by
  rcases hT with rfl|rfl
  ·exact qDZ hk hx (Ne.symm n1)
  ·exact qDZ hk hx (Ne.symm n2)))
theorem SD.box{w:World}{q:Nat}{ps:List (List UInt8)}(h:SD w q ps):∃A c,w.heap[q]? = some (.cells #[.slice A ps.length c] 135 (0,0)):=by
 obtain ⟨A,c,h1,_⟩:=h.lies;exact ⟨A,c,h1⟩
def qFL{α:Type}(q:Nat)(w:World)(P:World→α→Value→Prop):Option (α×List (List UInt8))→Ending→World→Prop
 |some (x,r),e,w'=>∃v,e=.returned v∧P w' x v∧SD w' q r∧Tch q w w'
 |none,e,w'=>e=.panicked qAJ∧Tch q w w'
def qAm:List (List UInt8)→Option (List UInt8×List (List UInt8))
 | []=>none
 |x::r=>some (x,r)
def pPart(_:World)(x:List UInt8)(v:Value):Prop:=v=.string ⟨x.toArray⟩∧x.length≤1000000
theorem SD.put{w:World}{q:Nat}{x:List UInt8}{r:List (List UInt8)}(h:SD w q (x::r))(A:Option Addr)(c:Nat)(hc:r.length≤c)
 (hl:r=[]∨∃b o cs,A=some ⟨b,o,none⟩∧w.heap[b]? = some (.cells cs 9 (0,0))∧∀j x,r[j]? = some x→cs[o+j]? = some (.string ⟨x.toArray⟩)):
 SD (w.setCell ⟨q,0,none⟩ (.slice A r.length c)) q r∧Tch q w (w.setCell ⟨q,0,none⟩ (.slice A r.length c)):=by
 have hm:=h.many;simp only [List.length_cons] at hm;obtain ⟨A0,c0,h1,_⟩:=h.lies;refine ⟨⟨fun y hy=>h.small y (by simp [hy]),by omega,A,c,qQ h1 0 _,hc,?_⟩,rfl,rfl,rfl,by simp [World.setCell],fun k _ hk=>Below.heap_setCell _ _ _ _ (fun e=>hk (by simp [e]))⟩;rcases hl with hl|⟨b,o,cs,e1,e2,e3⟩
 ·exact .inl hl
 ·exact .inr ⟨b,o,cs,e1,(Below.heap_setCell _ _ _ _ (qDZ e2 h1 (by decide))).trans e2,e3⟩
set_option maxRecDepth 100000 in
set_option maxHeartbeats 2000000 in
theorem qAT(w:World)(q:Nat)(ps:List (List UInt8))(h:SD w q ps):
 Calls Tryz.prog 83 #[.pointer (some ⟨q,0,none⟩)] w (qFL q w pPart (qAm ps)):=by
 have hm:=h.many;obtain ⟨A,c,hx,hc,hl⟩:=h.lies;have d0:=qD hx (i:=0) rfl;have f0:=qH hx 0;cases ps with
 |nil=>
  simp only [List.length_nil] at d0;clear hl h hx;go_enter Tryz.func83,Tryz.ntmps83;go_wp2_with fail;refine (qG _).mono ?_;rintro e w1 ⟨rfl,rfl⟩;go_wp2;exact ⟨rfl,rfl,Tch.refl _ _⟩
 |cons x r=>
  rcases hl with hl|⟨b,o,cs,rfl,hb,hl⟩
  ·cases hl
  have hcell:=qD hb (hl 0 x rfl);rw [Nat.add_zero] at hcell;have HX:=Lib.hid (h.small x (by simp));simp only [List.length_cons] at d0 hm hc;by_cases h1:c=1
  ·subst h1;have hr0:r.length=0:=by omega
   obtain rfl:=List.length_eq_zero_iff.1 hr0;have HN:=Lib.hid (h.put (some ⟨b,o,none⟩) 0 (Nat.le_refl _) (.inl rfl));clear h hl hx hc hm hr0 hb;simp only [List.length_nil] at d0 HN;go_enter Tryz.func83,Tryz.ntmps83;go_wp2_with fail;refine (qL _).mono ?_;rintro e w1 ⟨rfl,rfl⟩;go_wp2;go_ret;exact ⟨_,rfl,⟨rfl,HX.out⟩,HN.out.1,HN.out.2⟩
  ·have HN:=Lib.hid (h.put (some ⟨b,o+1,none⟩) (c - 1) (by omega) (.inr ⟨b,o+1,cs,rfl,hb,fun j y hy=>by
    have:=hl (j+1) y (by simpa using hy)
    rwa [show o+1+j=o+(j+1) from by omega]⟩))
   have h2:1<c:=by omega
   clear h hl hx hb;go_enter Tryz.func83,Tryz.ntmps83;go_wp2_with fail;refine (qL _).mono ?_;rintro e w1 ⟨rfl,rfl⟩;go_wp2;go_ret;exact ⟨_,rfl,⟨rfl,HX.out⟩,HN.out.1,HN.out.2⟩
def Qx{α:Type}(f:List UInt8→Option α)(ps:List (List UInt8)):Option (α×List (List UInt8)):=match ps with | []=>none|x::r=>(f x).map fun n=>(n,r)
theorem Qm{α:Type}(f:List UInt8→Option α)(x:List UInt8)(r:List (List UInt8)):Qx f (x::r)=(f x).map fun n=>(n,r):=rfl
def intS(ps:List (List UInt8)):Option (Int×List (List UInt8)):=Qx numT ps
set_option maxRecDepth 100000 in
set_option maxHeartbeats 2000000 in
theorem qBQ(w:World)(q:Nat)(ps:List (List UInt8))(h:SD w q ps)(w0:World)(hR0:RW w0)(hb0:Below w0.heap.size w0 w)(hq0:w0.heap.size≤q):
 Calls Tryz.prog 84 #[.pointer (some ⟨q,0,none⟩)] w (qFL q w pInt (intS ps)):=by
 have HC:=Lib.hid (qAT w q ps h);clear h;cases ps with
 |nil=>
  go_enter Tryz.func84,Tryz.ntmps84;go_wp2_with fail;refine HC.out.mono ?_;rintro e w1 ⟨rfl,hT⟩;go_wp2;exact ⟨rfl,rfl,hT⟩
 |cons x r=>
  obtain ⟨F,hF⟩:∃F,F=intS (x::r):=⟨_,rfl⟩;rw [←hF];have HF:=Lib.hid hF;clear hF;go_enter Tryz.func84,Tryz.ntmps84;go_wp2_with fail;refine HC.out.mono ?_;rintro e w1 ⟨v,rfl,⟨rfl,hx⟩,hS,hT⟩;have hR1:=hR0.below (hb0.trans (hT.below hq0 hb0.size));have HN:=Lib.hid (qBA w1 x hx hR1);have HT:=Lib.hid (And.intro hS hT);clear hS hT HC;go_wp2_with fail;refine HN.out.mono ?_;cases hn:numT x with
  |none=>
   have HE:Hid (F=none):=Lib.hid (by rw [HF.out]; unfold intS; rw [Qm,hn]; rfl);rintro e w2 ⟨rfl,hb⟩;have HB:=qB.mk hb;clear hb HN;go_wp2;exact ⟨rfl,by rw [HE.out]; exact ⟨rfl,HT.out.2.trans (Tch.of HB.out)⟩⟩
  |some n=>
   have HE:Hid (F=some (n,r)):=Lib.hid (by rw [HF.out]; unfold intS; rw [Qm,hn]; rfl);rintro e w2 ⟨v,rfl,rfl,hb⟩;have HB:=qB.mk hb;clear hb HN;go_wp2;go_ret;rw [HE.out];exact ⟨_,rfl,rfl,HT.out.1.below HB.out,HT.out.2.trans (Tch.of HB.out)⟩
theorem map_back(xs:List ByteArray)(ys:List (List UInt8))(h:xs.map (·.data.toList)=ys):xs=ys.map (fun y=>(⟨y.toArray⟩:ByteArray)):=by
 subst h;rw [List.map_map]
 conv=>lhs; rw [←List.map_id xs]
 apply List.map_congr_left;intro x _;rfl
theorem qFM(c:UInt8)(l:List UInt8):Lib.splitB ⟨#[c]⟩ 0 (Lib.countB ⟨l.toArray⟩ ⟨#[c]⟩) ⟨l.toArray⟩=(spl c l).map (fun y=>(⟨y.toArray⟩:ByteArray)):=
 map_back _ _ ((Lib.splitB_data _ _ _ _).trans (qGJ c _ l rfl))
theorem qJl(c:UInt8)(l:List UInt8):Lib.countB ⟨l.toArray⟩ ⟨#[c]⟩+1=(spl c l).length:=by
 have h1:=Lib.splitB_all ⟨#[c]⟩ (by simp [ByteArray.size]) 0 _ ⟨l.toArray⟩ rfl;rw [qFM,List.length_map] at h1;exact h1.symm
theorem qCu(c:UInt8)(l:List UInt8)(w:World)(hl:l.length≤1000000)(h:RW w):
 Calls Tryz.prog 81 #[.string ⟨l.toArray⟩,.string ⟨#[c]⟩] w fun e w'=>e=.returned (.slice (some ⟨w.heap.size,0,none⟩) (spl c l).length (spl c l).length)∧w.alloc (.cells ((spl c l).map strW).toArray 9)=w':=by
 obtain ⟨m,hm⟩:=h.max;refine (Tryz.strings_Split ⟨l.toArray⟩ ⟨#[c]⟩ m w (by simp [ByteArray.size]; omega) hm (by simp [ByteArray.size])).mono ?_;rintro e w' ⟨rfl,rfl⟩;rw [qJl,qFM,List.map_map];exact ⟨rfl,rfl⟩
theorem qDy(c:UInt8):∀(l:List UInt8),(∀x∈spl c l,x.length≤l.length)∧(spl c l).length≤l.length+1
 | []=>by simp [spl]
 |b::l=>by
  have ih:=qDy c l;obtain ⟨x,r,e⟩:=qHh c l;rw [e] at ih;rw [spl,e];simp only [List.length_cons] at ih;split
  ·refine ⟨fun y hy=>?_,by simp only [List.length_cons]; omega⟩;rcases List.mem_cons.1 hy with rfl|hy
   ·simp
   ·have:=ih.1 y hy;simp only [List.length_cons]; omega
  ·refine ⟨fun y hy=>?_,by simp only [List.headD_cons,List.tail_cons,List.length_cons]; omega⟩;simp only [List.headD_cons,List.tail_cons] at hy;rcases List.mem_cons.1 hy with rfl|hy
   ·have:=ih.1 x (by simp);simp only [List.length_cons]; omega
   ·have:=ih.1 y (by simp [hy]);simp only [List.length_cons]; omega
theorem strW_at(ps:List (List UInt8))(i:Nat)(hi:i<ps.length):((ps.map strW).toArray:Array Value)[i]? = some (strW ps[i]):=by
 rw [List.getElem?_toArray,List.getElem?_map,List.getElem?_eq_getElem hi]; rfl
def qBo(xs:List Int)(ps:List (List UInt8)):Option (List Int):=match Q6 ps with|some ys=>some (xs++ys)|none=>none
theorem qKs(xs:List Int):qBo xs []=some xs:=by simp [qBo,Q6]
theorem qJm(xs:List Int)(p:List UInt8)(r:List (List UInt8))(n:Int)(h:numT p=some n):qBo xs (p::r)=qBo (xs++[n]) r:=by
 unfold qBo;rw [Q6,h];simp only;cases Q6 r with
 |none=>rfl
 |some ys=>simp
theorem qJn(xs:List Int)(p:List UInt8)(r:List (List UInt8))(h:numT p=none):qBo xs (p::r)=none:=by
 unfold qBo;rw [Q6,h]
theorem qIO(ps:List (List UInt8)):qBo [] ps=Q6 ps:=by
 unfold qBo;cases Q6 ps<;>rfl
def pNums(B:Nat)(w:World)(xs:List Int)(v:Value):Prop:=(Kd.int .i64).R 3 w B (fun _=>True) v xs∧xs.length≤1000001
structure SL(q B:Nat)(w wr:World)(g:Nat)(cs:Array Value)(av:Value)(xs:List Int)(r:List (List UInt8)):Prop where
 row:(Kd.int .i64).R 3 wr B (fun _=>True) av xs
 sd:SD wr q r
 tch:Tch q w wr
 box:wr.heap[g]? = some (.cells cs 9 (0,0))
theorem row_tch{α:Type}{d:Kd α}{e B q:Nat}{ok:Nat→Prop}{W W':World}{v:Value}{xs:List α}{ps:List (List UInt8)}(hr:d.R e W B ok v xs)(hS:SD W q ps)(hT:Tch q W W')(hne:∀t,t∈e::d.E→t≠135):d.R e W' B ok v xs:=by
 obtain ⟨A,c,hx⟩:=hS.box;exact Kd.R_mono (Kd.R_step (Kd.R_types hr hx hne) (fun k hk hlt=>hT.block k hlt (fun e=>hk.2 (by injection e)))) (fun _ hk=>hk.1)
set_option maxRecDepth 100000 in
set_option maxHeartbeats 8000000 in
theorem qIP(w:World)(q:Nat)(ps:List (List UInt8))(h:SD w q ps)(w0:World)(hR0:RW w0)(hb0:Below w0.heap.size w0 w)(hq0:w0.heap.size≤q):
 Calls Tryz.prog 111 #[.pointer (some ⟨q,0,none⟩)] w (qFL q w (pNums w.heap.size) (Qx qA1 ps)):=by
 have hql:=h.lt;have HC:=Lib.hid (qAT w q ps h);clear h;cases ps with
 |nil=>
  go_enter Tryz.func111,Tryz.ntmps111;go_wp2_with fail;refine HC.out.mono ?_;rintro e w1 ⟨rfl,hT⟩;go_wp2;exact ⟨rfl,rfl,hT⟩
 |cons x r=>
  obtain ⟨F,hF⟩:∃F,F=Qx qA1 (x::r):=⟨_,rfl⟩;rw [←hF];have HF:=Lib.hid hF;clear hF;go_enter Tryz.func111,Tryz.ntmps111;go_wp2_with fail;refine HC.out.mono ?_;rintro e w1 ⟨v,rfl,⟨rfl,hx⟩,hS,hT⟩;have hR1:=Lib.hid (hR0.below (hb0.trans (hT.below hq0 hb0.size)));have HST:=Lib.hid (And.intro hS hT);have hsz1:=hT.size;clear hS hT HC;go_wp2_with fail;refine (Tryz.strings_CutPrefix ⟨x.toArray⟩ ⟨#[91]⟩ w1).mono ?_;rintro e w' ⟨rfl,rfl⟩;generalize hp1:Lib.hasPrefix x [91]=b1 at *;generalize hp2:Lib.trimPrefix x [91]=y at *;have hyl:y.length≤1000000:=by
   rw [←hp2]; unfold Lib.trimPrefix
   split
   ·rw [List.length_drop]; omega
   ·exact hx
  have HP:=Lib.hid (And.intro hp1 hp2);clear hp1 hp2;go_wp2_with fail;refine (Tryz.strings_CutSuffix ⟨y.toArray⟩ ⟨#[93]⟩ w' (by simp [ByteArray.size]; omega)).mono ?_;rintro e w1 ⟨rfl,rfl⟩;generalize hp3:Lib.hasSuffix y [93]=b2 at *;generalize hp4:Lib.trimSuffix y [93]=z at *;have hzl:z.length≤1000000:=by
   rw [←hp4]; unfold Lib.trimSuffix
   split
   ·rw [List.length_take]; omega
   ·exact hyl
  have HL:Hid (qA1 x=if b1&&b2 then (if z=[] then some [] else Q6 (spl 44 z)) else none):=Lib.hid (by
   unfold qA1;rw [HP.out.1,HP.out.2,hp3,hp4])
  clear hp3 hp4 HP;cases hbb:(b1&&b2)
  ·have HE:Hid (F=none):=Lib.hid (by rw [HF.out]; rw [Qm,HL.out,hbb]; rfl);clear HL HF;have hbb2:b1=false∨b2=false:=by
    cases b1
    ·exact .inl rfl
    ·right; simpa using hbb
   clear hbb;rcases hbb2 with rfl|rfl
   ·go_wp2_with fail;refine (qG _).mono ?_;rintro e w3 ⟨rfl,rfl⟩;go_wp2;exact ⟨rfl,by rw [HE.out]; exact ⟨rfl,HST.out.2⟩⟩
   ·cases b1
    ·go_wp2_with fail;refine (qG _).mono ?_;rintro e w3 ⟨rfl,rfl⟩;go_wp2;exact ⟨rfl,by rw [HE.out]; exact ⟨rfl,HST.out.2⟩⟩
    ·go_wp2_with fail;refine (qG _).mono ?_;rintro e w3 ⟨rfl,rfl⟩;go_wp2;exact ⟨rfl,by rw [HE.out]; exact ⟨rfl,HST.out.2⟩⟩
  ·obtain ⟨rfl,rfl⟩:b1=true∧b2=true:=by simpa using hbb
   clear hbb;cases z with
   |nil=>
    have HE:Hid (F=some ([],r)):=Lib.hid (by rw [HF.out]; rw [Qm,HL.out]; rfl);clear HL HF;go_wp2_with fail;refine (qL _).mono ?_;rintro e w3 ⟨rfl,rfl⟩;go_wp2;go_ret;rw [HE.out];exact ⟨_,rfl,⟨Kd.R_nil _ _ _ _ _,by simp⟩,HST.out.1,HST.out.2⟩
   |cons z0 zr=>
    have HL2:Hid (qA1 x=Q6 (spl 44 (z0::zr))):=Lib.hid (by rw [HL.out]; rfl);clear HL;obtain ⟨Z,hZ⟩:∃Z,Z=z0::zr:=⟨_,rfl⟩;have hZe:Z.toArray.toList.isEmpty=false:=by rw [hZ]; rfl
    have HSP:=Lib.hid (qCu 44 Z w1 (by rw [hZ]; exact hzl) hR1.out);obtain ⟨hs1,hs2⟩:=qDy 44 Z;have hzl':Z.length≤1000000:=by rw [hZ]; exact hzl
    rw [←hZ] at HL2;rw [←hZ];clear hZ hzl;obtain ⟨Q,hQ⟩:∃Q,Q=spl 44 Z:=⟨_,rfl⟩;rw [←hQ] at HSP HL2 hs1 hs2;have HQS:Hid (∀x∈Q,x.length≤1000000):=Lib.hid (fun x hx=>by have:=hs1 x hx; omega);have hql2:Q.length≤1000001:=by omega
    have HE:Hid (F=(Q6 Q).map fun l=>(l,r)):=Lib.hid (by rw [HF.out]; rw [Qm,HL2.out]);clear hs1 hs2 HF HL2 hQ;have hne0:(Z==[])=false:=by cases Z with
     |nil=>simp at hZe
     |cons a b=>rfl
    go_wp2_with fail;refine (qL _).mono ?_;rintro e w3 ⟨rfl,rfl⟩;go_wp2_with fail;refine HSP.out.mono ?_;rintro e w3 ⟨rfl,rfl⟩;have hb3:=qC (Below.refl w1.heap.size w1) (.cells (Q.map strW).toArray 9);have HS0:qB (SL q w.heap.size w (w1.alloc (.cells (Q.map strW).toArray 9)) w1.heap.size (Q.map strW).toArray (.slice none 0 0) [] r):=⟨⟨Kd.R_nil _ _ _ _ _,HST.out.1.below hb3,HST.out.2.trans (Tch.of hb3),qV w1 _⟩⟩;clear hb3 HSP HST;go_wp2;generalize w1.alloc (.cells (Q.map strW).toArray 9)=w2 at *;generalize w1.heap.size=g at *
    go_loopw [8,34] (fun av v wr=>∃(i:Nat) (xs:List Int),i≤Q.length∧xs.length=i∧v=.int .i64 i∧Hid (Q6 Q=qBo xs (Q.drop i))∧qB (SL q w.heap.size w wr g (Q.map strW).toArray av xs r)) (fun _ v _=>Q.length - (intOf v).toNat)
    case atStart=>exact ⟨0,[],by omega,rfl,rfl,Lib.hid (by rw [List.drop_zero,qIO]),HS0⟩
    case round=>
     obtain ⟨i,xs,hi,hxl,rfl,HN,HP⟩:=hrel;clear HS0;by_cases hlt:i<Q.length
     ·have hcell:=qD HP.out.box (strW_at Q i hlt);have hpl:=HQS.out Q[i] (List.getElem_mem hlt);have HD:Hid (Q.drop i=Q[i]::Q.drop (i+1)):=Lib.hid (List.drop_eq_getElem_cons hlt);generalize Q[i]=p at *;unfold strW at hcell;have hRr:=hR0.below (hb0.trans (HP.out.tch.below hq0 hb0.size));have HNB:=Lib.hid (qBA _ p hpl hRr);clear hRr hpl;go_wp2_with fail;refine HNB.out.mono ?_;cases hn:numT p with
      |none=>
       have HE2:Hid (F=none):=Lib.hid (by rw [HE.out,HN.out,HD.out,qJn _ _ _ hn]; rfl);rintro e w4 ⟨rfl,hb⟩;have HB:=qB.mk (HP.out.tch.trans (Tch.of hb));clear hb HNB hn HN HD HP;go_wp2;exact ⟨rfl,by rw [HE2.out]; exact ⟨rfl,HB.out⟩⟩
      |some n=>
       have HN1:Hid (Q6 Q=qBo (xs++[n]) (Q.drop (i+1))):=Lib.hid (by rw [HN.out,HD.out,qJm _ _ _ _ hn]);rintro e w4 ⟨v,rfl,rfl,hb⟩;have HP4:qB (SL q w.heap.size w w4 g (Q.map strW).toArray u8 xs r):=⟨⟨Kd.R_below HP.out.row hb,HP.out.sd.below hb,HP.out.tch.trans (Tch.of hb),qK HP.out.box hb⟩⟩;have hBw:w.heap.size≤w4.heap.size:=HP4.out.tch.size;clear hb HNB hn HN HD HP hcell;go_wp2_with (refine Kd.R_append (Kd.int .i64) (w0:=w4) w.heap.size rfl _ _ 56 3 (.int .i64 0) 8 rfl Tryz.underlying56 info3 rfl (by decide) (by omega) u8 xs n [.int .i64 n] (fun _=>True) (fun _=>False) rfl rfl rfl (fun _ h=>h.elim) (fun _ _=>trivial) HP4.out.row (Below.refl _ _) hBw (by omega) ?_);intro v1 w5 hrow hb5 hg hat;have hS5:SD w5 q r:=HP4.out.sd.grown HP4.out.row hg (by decide) (by decide);have hT5:Tch q w w5:=HP4.out.tch.grow hg (fun k hk=>Or.inr ((qAD (Kd.R_own HP4.out.row).choose_spec) k hk));have hx5:=q9 HP4.out.box hg (Kd.R_ne HP4.out.row HP4.out.box (by decide));have HP5:qB (SL q w.heap.size w w5 g (Q.map strW).toArray v1 (xs++[n]) r):=⟨⟨hrow,hS5,hT5,hx5⟩⟩;clear hrow hb5 hg hat hS5 hT5 hx5 HP4;go_wp2;go_roundw
       case rel=>exact ⟨i+1,_,by omega,by simp [hxl],by go_num,HN1,HP5⟩
       case measure=>simp [intOf]; omega
     ·obtain rfl:i=Q.length:=by omega
      have HE2:Hid (F=some (xs,r)):=Lib.hid (by rw [HE.out,HN.out,List.drop_length,qKs]; rfl);clear HN;go_wp2;go_ret;rw [HE2.out];exact ⟨_,rfl,⟨HP.out.row,by omega⟩,HP.out.sd,HP.out.tch⟩
end Go.Proofs.YtoonkkipnljflaaGreatDoor.CJ
