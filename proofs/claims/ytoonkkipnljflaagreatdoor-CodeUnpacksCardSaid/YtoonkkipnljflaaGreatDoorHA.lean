/- The reference's Check of a code as a plain function, and that it tells the same as the checker. Conditions: none. The reference's names and primitives: IsName, Prim, Arity, Name. Conditions: the listed variables are laid. The reference's look at an instruction. Conditions: the look, the instruction and the code lie in memory; the listed variables are laid. The reference's chosen and Global. Conditions: the code lies in memory. -/
import Derived.Test.YtoonkkipnljflaaGreatDoorD1
import Derived.Test.YtoonkkipnljflaaGreatDoorTT
namespace Go.Proofs.YtoonkkipnljflaaGreatDoor.CJ
open Go.RowKit Go.Proofs.YtoonkkipnljflaaGreatDoorW.PrintWords Go.Proofs.YtoonkkipnljflaaGreatDoorW.PrintLast Go.Proofs.YtoonkkipnljflaaGreatDoor.PT Go.Proofs.YtoonkkipnljflaaGreatDoor.IMaps
set_option linter.unusedVariables false
set_option linter.unusedSimpArgs false
def zX(g:GOp):Bool:=(qq g.f0||g.f1==0)&&(qr g.f0||g.f2==0)&&(qs g.f0||g.f3==0)&&(qt g.f0||g.f4.data.toList==[])&&(qu g.f0||g.f5.isEmpty)&&(g.f0==11||g.f6.isEmpty)
def opY(bs:List GBk)(gs:Nat)(st:List Int)(g:GOp):Option (List Int):=
 if g.f0=1 then (if inB g.f3 1 12 then some (st++List.replicate g.f3.toNat 1) else none)
 else if g.f0=2 then (match blkC bs g.f2 with|some c=>if c.f1=0∧c.f0=g.f5.length then qX st g.f1 2 else none|none=>none)
 else if g.f0=3 then (match blkC bs g.f2 with|some c=>if 1≤c.f1∧c.f1≤8∧c.f0=g.f5.length then qX st g.f1 3 else none|none=>none)
 else if g.f0=4 then opR4 st g.f1 g.f4.data.toList g.f5.length
 else if g.f0=5 then opR5 st g.f1
 else if g.f0=6 then opR6 st g.f1 g.f4.data.toList g.f5.length
 else if g.f0=7 then (if inB g.f3 0 ((gs:Int) - 1) then some (st++[0]) else none)
 else if g.f0=8 then (match blkC bs g.f2 with|some c=>if c.f1=1∧c.f0=g.f5.length then some st else none|none=>none)
 else if g.f0=9 then opR9 st g.f1 g.f5.length
 else if g.f0=10 then qBE st g.f1
 else if g.f0=11 then (if g.f6=[] then none else qBW bs st g.f6)
 else if g.f0=12 then qAf st g.f1 g.f2 g.f4.data.toList
 else qBF st g.f1
def opX(bs:List GBk)(gs:Nat)(st:List Int)(g:GOp):Option (List Int):=
 if !(inB g.f0 1 13&&zX g&&g.f5.all (hasC st)&&(!(g.f0==8||qv g.f0)||qz st)) then none
 else opY bs gs st g
def capX:Option (List Int)→Option (List Int)
 |some st=>if st.length≤60 then some st else none
 |none=>none
def opsX(bs:List GBk)(gs:Nat):List Int→List GOp→Option (List Int)
 |st,[]=>some st
 |st,g::r=>if qv g.f0==r.isEmpty then (match capX (opX bs gs st g) with|some st'=>opsX bs gs st' r|none=>none) else none
def qBO(bs:List GBk)(gs:Nat)(b:GBk):Option (List Int):=
 if inB b.f0 0 40&&inB b.f1 0 12&&inB b.f2.length 1 60 then opsX bs gs (List.replicate (b.f0+b.f1).toNat 0) b.f2 else none
def qAz(bs:List GBk)(gs:Nat):Nat→List GBk→Bool
 |_,[]=>true
 |i,b::r=>(qBO bs gs b).isSome&&(decide (b.f1≤8)||qAB bs (i:Int))&&qAz bs gs (i+1) r
def allX(bs:List GBk)(gl:List GGl):Bool:=inB bs.length 1 1500&&decide (gl.length≤400)&&qAz bs gl.length 0 bs&&Qb bs [] gl
def qC0(bs:List GBk):Prop:=∀b∈bs,0≤b.f1
theorem blk_mem{bs:List GBk}{n:Int}{c:GBk}(h:blkC bs n=some c):c∈bs:=by
 unfold blkC at h;split at h
 ·exact List.mem_of_getElem? h
 ·cases h
theorem qDC{o:Option (List Int)}(h:∀st,o=some st→st.length≤60):capX o=o:=by
 cases o with
 |none=>rfl
 |some s=>simp [capX,h s rfl]
theorem qGF{st:List Int}{k v:Int}(hs:st.length≤60):capX (qX st k v)=qX st k v:=qDC fun s h=>qBr h hs
theorem qHZ{st:List Int}{n:Nat}{v:Int}:capX (some (st++List.replicate n v))=addC st n v:=by
 unfold capX addC;simp only [List.length_append,List.length_replicate]
theorem opX_K(bs:List GBk)(gs:Nat)(st:List Int)(g:GOp)(hb:qC0 bs)(hs:st.length≤60):capX (opX bs gs st g)=if qf g&&(!qv g.f0||qz st) then opK bs gs st g else none:=by
 obtain ⟨x0,x1,x2,x3,x4,x5,x6⟩:=g;by_cases hx:1≤x0∧x0≤13;rotate_left
 ·have h1:inB x0 1 13=false:=by simp only [inB,Bool.and_eq_false_iff,decide_eq_false_iff_not]; omega
  have h2:qf ⟨x0,x1,x2,x3,x4,x5,x6⟩=false:=by
   unfold qf;have:(decide (1≤x0)&&decide (x0≤13))=false:=by simp only [Bool.and_eq_false_iff,decide_eq_false_iff_not]; omega
   simp [this]
  simp [opX,h1,h2,capX]
 have h1:inB x0 1 13=true:=by simp only [inB,Bool.and_eq_true,decide_eq_true_eq]; exact hx
 have hz:qf ⟨x0,x1,x2,x3,x4,x5,x6⟩=(zX ⟨x0,x1,x2,x3,x4,x5,x6⟩ && !(x0==11&&x6.isEmpty)):=by
  unfold qf zX;have:(decide (1≤x0)&&decide (x0≤13))=true:=by simp only [Bool.and_eq_true,decide_eq_true_eq]; exact hx
  simp only [this,Bool.true_and];cases x0==11<;>cases x6.isEmpty<;>simp
 unfold opX opY;rw [hz];simp only [h1,Bool.true_and];cases hZ:zX ⟨x0,x1,x2,x3,x4,x5,x6⟩
 ·simp [capX]
 have hcap:∀ {o:Option (List Int)},(∀st',o=some st'→st'.length≤60)→capX o=o:=fun h=>qDC h
 have hL:∀st',opK bs gs st ⟨x0,x1,x2,x3,x4,x5,x6⟩=some st'→st'.length≤60:=fun st' h=>qBc h hs
 cases hall:x5.all (hasC st)
 ·simp [opK,hall,capX]
 have hK:∀P:Option (List Int),opK bs gs st ⟨x0,x1,x2,x3,x4,x5,x6⟩=P→(∀st',P=some st'→st'.length≤60):=fun P h=>h▸hL
 have hx':x0=1∨x0=2∨x0=3∨x0=4∨x0=5∨x0=6∨x0=7∨x0=8∨x0=9∨x0=10∨x0=11∨x0=12∨x0=13:=by omega
 have hC:∀P Q:Option (List Int),opK bs gs st ⟨x0,x1,x2,x3,x4,x5,x6⟩=P→P=Q→capX Q=P:=by
  intro P Q h1 h2; subst h2; exact qDC (hK _ h1)
 rcases hx' with rfl|rfl|rfl|rfl|rfl|rfl|rfl|rfl|rfl|rfl|rfl|rfl|rfl
 ·simp [opK,hall,qv,opR1];split
  ·exact qHZ
  ·rfl
 ·simp [opK,hall,qv,opR2];cases hk:blkC bs x2 with
  |none=>rfl
  |some c=>
   simp only;by_cases h:c.f1=0∧c.f0=(x5.length:Int)
   ·rw [if_pos h,if_pos ⟨h.2,h.1,by omega⟩]; exact qGF hs
   ·rw [if_neg h,if_neg (fun hh=>h ⟨hh.2.1,hh.1⟩)]; rfl
 ·simp [opK,hall,qv,opR3];cases hk:blkC bs x2 with
  |none=>rfl
  |some c=>
   have h0:=hb c (blk_mem hk);simp only;by_cases h:1≤c.f1∧c.f1≤8∧c.f0=(x5.length:Int)
   ·rw [if_pos h,if_pos ⟨h.2.2,by omega,h.2.1⟩]; exact qGF hs
   ·rw [if_neg h,if_neg (fun hh=>h ⟨by omega,hh.2.2,hh.1⟩)]; rfl
 ·simp [opK,hall,qv]; exact hC _ _ (by simp [opK,hall]) rfl
 ·simp [opK,hall,qv]; exact hC _ _ (by simp [opK,hall]) rfl
 ·simp [opK,hall,qv]; exact hC _ _ (by simp [opK,hall]) rfl
 ·simp [opK,hall,qv,opR7];split
  ·exact qHZ (n:=1)
  ·rfl
 ·simp [opK,hall,qv,opR8];cases hf:qz st
  ·simp [capX]; cases blkC bs x2<;>rfl
  ·cases hk:blkC bs x2 with
   |none=>rfl
   |some c=>
    by_cases h1:c.f1=1<;>by_cases h2:c.f0=(x5.length:Int)<;>simp [h1,h2,capX,hs]
 all_goals
  cases hf:qz st
  ·simp [qv,capX]
  ·simp only [qv,opK,hall];by_cases h11:x6=[]
   ·subst h11
    first
    |(simp [capX]; done)
    |(simp; exact hC _ _ (by simp [opK,hall]) rfl)
   ·simp [h11]; exact hC _ _ (by simp [opK,hall]) rfl
theorem opsX_K(bs:List GBk)(gs:Nat)(hb:qC0 bs):∀(l:List GOp) (st:List Int),st.length≤60→(opsX bs gs st l).isSome=opsK bs gs st l
 | [],st,hs=>rfl
 |g::r,st,hs=>by
  unfold opsX opsK;rw [opX_K bs gs st g hb hs];cases qv g.f0==r.isEmpty
  ·simp
  ·cases hz:qf g
   ·simp
   ·cases hf:(!qv g.f0||qz st)
    ·simp
    ·simp only [Bool.and_self,if_true];cases hk:opK bs gs st g with
     |none=>rfl
     |some st'=>simpa using opsX_K bs gs hb r st' (qBc hk hs)
theorem roomX_K(bs:List GBk)(gs:Nat)(hb:qC0 bs)(b:GBk)(ch:Bool):((qBO bs gs b).isSome&&(decide (b.f1≤8)||ch))=qAo bs gs ch b:=by
 unfold qBO qAo;by_cases h:(inB b.f0 0 40&&inB b.f1 0 12&&inB b.f2.length 1 60)=true
 ·rw [if_pos h,opsX_K bs gs hb _ _ (by simp only [Bool.and_eq_true,inB,decide_eq_true_eq] at h; simp; omega)];simp only [Bool.and_eq_true] at h;rw [h.1.1,h.2];have h2:=h.1.2;simp only [inB,Bool.and_eq_true,decide_eq_true_eq] at h2;have:inB b.f1 0 (if ch then 12 else 8)=(decide (b.f1≤8)||ch):=by
   unfold inB;cases ch<;>simp [h2.1,h2.2]
  rw [this];simp [Bool.and_comm]
 ·rw [if_neg h];have h':(inB b.f0 0 40&&inB b.f1 0 12&&inB b.f2.length 1 60)=false:=by simpa using h
  have hi:inB b.f1 0 12=false→inB b.f1 0 (if ch then 12 else 8)=false:=by
   unfold inB;simp only [Bool.and_eq_false_iff,decide_eq_false_iff_not];cases ch<;>simp<;>omega
  simp only [Bool.and_eq_false_iff] at h';rcases h' with (h1|h1)|h1
  ·simp [h1]
  ·simp [hi h1]
  ·simp [h1]
theorem qIp(bs:List GBk)(gs:Nat)(hb:qC0 bs):∀(l:List GBk) (i:Nat),qAz bs gs i l=qAV bs gs i l
 | [],_=>rfl
 |b::r,i=>by
  unfold qAz qAV;rw [roomX_K bs gs hb,qIp bs gs hb r]
theorem qGG(bs:List GBk)(gs:Nat)(b:GBk)(h0:¬ 0≤b.f1):∀(l:List GBk) (i:Nat),b∈l→qAz bs gs i l=false∧qAV bs gs i l=false
 |x::r,i,hm=>by
  unfold qAz qAV;rcases List.mem_cons.1 hm with rfl|hm
  ·have h1:∀n,inB b.f1 0 n=false:=fun n=>by simp [inB,h0]
   simp [qBO,qAo,h1]
  ·simp [qGG bs gs b h0 r (i+1) hm]
theorem allX_K(bs:List GBk)(gl:List GGl):allX bs gl=allK bs gl:=by
 unfold allX allK;by_cases hb:qC0 bs
 ·rw [qIp bs _ hb];cases inB bs.length 1 1500<;>cases decide (gl.length≤400)<;>cases Qb bs [] gl<;>simp
 ·unfold qC0 at hb;simp only [Classical.not_forall] at hb;obtain ⟨b,hm,h0⟩:=hb;obtain ⟨h1,h2⟩:=qGG bs gl.length b h0 bs 0 hm;simp [h1,h2]
end Go.Proofs.YtoonkkipnljflaaGreatDoor.CJ
namespace Go.Proofs.YtoonkkipnljflaaGreatDoor.CJ
open Go.RowKit Go.Proofs.YtoonkkipnljflaaGreatDoorW.PrintWords Go.Proofs.YtoonkkipnljflaaGreatDoor.PT Go.Proofs.YtoonkkipnljflaaGreatDoor.IMaps
set_option linter.unusedVariables false
set_option linter.unusedSimpArgs false
def brN(n:Int):Bool:=n==40||n==41||n==91||n==93||n==123||n==125
def anyB(s:ByteArray)(c:UInt8):Bool:=s.data.toList.any (· == c)
theorem take_any{s:ByteArray}{c:UInt8}{i:Nat}(hi:i<s.size):(s.data.toList.take (i+1)).any (· == c)=((s.data.toList.take i).any (· == c)||s[i]==c):=by
 have hl:i<s.data.toList.length:=by simpa using hi
 rw [List.take_succ_eq_append_getElem hl,List.any_append,qB7 s i hi];simp
theorem any_at{s:ByteArray}{c:UInt8}{i:Nat}(hi:i<s.size)(h:(s[i]==c)=true):anyB s c=true:=by
 have hl:i<s.data.toList.length:=by simpa using hi
 exact List.any_eq_true.2 ⟨_,List.getElem_mem hl,by rw [qB7 s i hi]; exact h⟩
set_option maxHeartbeats 2000000 in
theorem qHa(s:ByteArray)(hs:s.size≤maxLen)(c:UInt8)(w:World):Calls Tryz.prog 121 #[.string s,.int .u8 c.toNat] w fun e w'=>e=.returned (.bool (anyB s c))∧w=w':=by
 unfold maxLen at hs;go_enter Tryz.func121,Tryz.ntmps121;go_wp2
 go_loop [5] (fun v=>∃i:Nat,i≤s.size∧v=.int .i64 i∧qB ((s.data.toList.take i).any (· == c)=false)) (fun v=>s.size - (intOf v).toNat)
 case atStart=>exact ⟨0,by omega,rfl,⟨rfl⟩⟩
 case round=>
  obtain ⟨i,hi,rfl,HA⟩:=hrel;by_cases hlt:i<s.size
  ·have HT:=Lib.hid (take_any (c:=c) hlt);have HN:=Lib.hid (any_at (c:=c) hlt);rw [qG0] at HT HN;cases hq:((s[i].toNat:Int)==(c.toNat:Int))
   ·go_wp2;go_round
    case rel=>exact ⟨i+1,by omega,by go_num,⟨by rw [HT.out,HA.out,hq]; rfl⟩⟩
    case measure=>simp [intOf]; omega
   ·go_wp2;go_ret;exact ⟨by rw [HN.out hq]; rfl,rfl⟩
  ·obtain rfl:i=s.size:=by omega
   go_wp2;go_ret;have:=HA.out;rw [List.take_of_length_le (by simp)] at this;exact ⟨by rw [show anyB s c=false from this]; rfl,rfl⟩
theorem qGe(c:UInt8)(w:World):Calls Tryz.prog 103 #[.int .u8 c.toNat] w fun e w'=>e=.returned (.bool (brN c.toNat))∧w=w':=by
 have HH:=Lib.hid (qHa ⟨#[40,41,91,93,123,125]⟩ (by decide) c);have e:anyB ⟨#[40,41,91,93,123,125]⟩ c=brN c.toNat:=by
  have h:∀k:Int,(k==(c.toNat:Int))=((c.toNat:Int)==k):=fun k=>Bool.beq_comm
  unfold anyB brN;simp only [List.any_cons,List.any_nil,Bool.or_false,qG0,Bool.or_assoc,h];rfl
 rw [e] at HH;go_enter Tryz.func103,Tryz.ntmps103;go_wp2_with fail;refine (HH.out _).mono ?_;rintro e w1 ⟨rfl,rfl⟩;go_wp2;go_ret;exact ⟨rfl,rfl⟩
theorem qGf(c:UInt8)(w:World):Calls Tryz.prog 73 #[.int .u8 c.toNat] w fun e w'=>e=.returned (.bool (qAU c))∧w=w':=by
 rw [qG1];have HH:=Lib.hid (qGe c);generalize (c.toNat:Int)=n at *;have e:partN n=(decide (33≤n)&&decide (n≤126) && !brN n):=rfl;rw [e];clear e;go_enter Tryz.func73,Tryz.ntmps73;go_wp2_with fail
 ·refine (HH.out _).mono ?_;rintro e w1 ⟨rfl,rfl⟩;go_wp2;go_ret
  simp_all
 all_goals
  go_wp2;go_ret
  simp_all
  try omega
theorem qE7(c:UInt8)(w:World):Calls Tryz.prog 72 #[.int .u8 c.toNat] w fun e w'=>e=.returned (.bool (qAs c.toNat))∧w=w':=by
 generalize (c.toNat:Int)=n;go_enter Tryz.func72,Tryz.ntmps72;go_wp2
 all_goals
  go_ret;refine ⟨?_,rfl⟩
  congr 2
  unfold qAs
  simp_all
 all_goals omega
theorem qGg(s:ByteArray)(w:World):Calls Tryz.prog 71 #[.string s] w fun e w'=>e=.returned (.bool (qBh s.data.toList))∧w=w':=by
 rw [←ByteArray.toList_eq];go_enter Tryz.func71,Tryz.ntmps71;go_wp2
 all_goals
  go_ret
  simp_all [qBh]
theorem qHb{s:ByteArray}(h:0<s.size)(hl:qAs s[0].toNat=false):qe s.data.toList=false:=by
 have hd:0<s.data.toList.length:=by simpa using h
 rw [←qEq,←qB7 s 0 h,←qG4 _ hd] at hl;show (_&&_&&_&&headB s.data.toList&&_)=false
 rw [hl]; simp
set_option maxRecDepth 100000 in
set_option maxHeartbeats 2000000 in
theorem qBl(s:ByteArray)(hs:s.size≤maxLen)(w:World):Calls Tryz.prog 45 #[.string s] w fun e w'=>e=.returned (.bool (qe s.data.toList))∧w=w':=by
 unfold maxLen at hs;have HW:=Lib.hid (qGg s);have HE:Hid (1≤s.size→s.size≤60→qBh s.data.toList=false→qAL s s.size→∀h:0<s.size,qAs s[0].toNat=true→qe s.data.toList=true):=Lib.hid fun h1 h2 hw hp h hl=>(qFx h1 h2 hw hp).trans hl
 have HS:=Lib.hid (@qCp s);have HWn:=Lib.hid (@qEr s);have HLn:=Lib.hid (@qHb s);have HPn:Hid (∀i,(hi:i<s.size)→qAU s[i]=false→qe s.data.toList=false):=Lib.hid (fun i hi hp=>qEs (qG3 hi hp));generalize qe s.data.toList=R at *;generalize qBh s.data.toList=W at *;go_enter Tryz.func45,Tryz.ntmps45;go_wp2_with fail;rotate_left
 ·rename_i h1 h2
  go_ret;exact ⟨by rw [HS.out (.inr (by omega))]; rfl,rfl⟩
 ·rename_i h1
  go_ret;exact ⟨by rw [HS.out (.inl (by omega))]; rfl,rfl⟩
 rename_i h1 h2
 have h0:0<s.size:=by omega
 have HL:=Lib.hid (qE7 s[0]);have HE2:=Lib.hid fun hw hp=>HE.out (by omega) (by omega) hw hp h0
 have HLn2:=Lib.hid (HLn.out h0);clear HE HLn;generalize qAs s[0].toNat=L at *;refine (HW.out _).mono ?_;rintro e w1 ⟨rfl,rfl⟩;cases W;rotate_left
 ·go_wp2;go_ret;exact ⟨by rw [HWn.out (by trivial)]; rfl,rfl⟩
 go_wp2_with fail;refine (HL.out _).mono ?_;rintro e w1 ⟨rfl,rfl⟩;cases L
 ·go_wp2;go_ret;exact ⟨by rw [HLn2.out (by trivial)]; rfl,rfl⟩
 go_wp2
 go_loop [3] (fun v=>∃i:Nat,i≤s.size∧v=.int .i64 i∧qAL s i) (fun v=>s.size - (intOf v).toNat)
 case atStart=>exact ⟨0,by omega,rfl,by simp [qAL]⟩
 case round=>
  obtain ⟨i,hi,rfl,HA⟩:=hrel;by_cases hlt:i<s.size
  ·have HB:=Lib.hid (fun w=>qGf s[i] w);have HF:=Lib.hid (HPn.out i hlt);have HN:=Lib.hid fun hp=>HA.next hlt hp
   generalize qAU s[i]=p at *;go_wp2_with fail;refine (HB.out _).mono ?_;rintro e w1 ⟨rfl,rfl⟩;cases p
   ·go_wp2;go_ret;exact ⟨by rw [HF.out (by trivial)]; rfl,rfl⟩
   ·go_wp2;go_round
    case rel=>exact ⟨i+1,by omega,by go_num,HN.out (by trivial)⟩
    case measure=>simp [intOf]; omega
  ·obtain rfl:i=s.size:=by omega
   go_wp2;go_ret;exact ⟨by rw [HE2.out (by trivial) HA (by trivial)]; rfl,rfl⟩
set_option maxHeartbeats 2000000 in
theorem qFh(w:World):Calls Tryz.prog 120 #[] w fun e w'=>e=.returned (.slice (some ⟨w.heap.size,0,none⟩) 27 27)∧w.alloc (.cells ((QC.map fun p=>Value.string ⟨p.1.toArray⟩).toArray) 9)=w':=by
 go_enter Tryz.func120,Tryz.ntmps120;go_wp2;go_ret;exact ⟨rfl,rfl⟩
def Qa(s:List UInt8):Int:=match Qu s with|some k=>k|none => -1
def qBm(s:List UInt8)(i:Nat):Prop:=Qa s=match (QC.drop i).findIdx? (fun p=>p.1==s) with|some k=>((k+i:Nat):Int)|none => -1
theorem qBm.eq{s:List UInt8}{i:Nat}(h:qBm s i)(hi:i<QC.length)(he:(QC[i].1==s)=true):Qa s=i:=by
 unfold qBm at h;rw [h,List.drop_eq_getElem_cons hi,List.findIdx?_cons,he];simp
theorem qBm.next{s:List UInt8}{i:Nat}(h:qBm s i)(hi:i<QC.length)(he:(QC[i].1==s)=false):qBm s (i+1):=by
 unfold qBm at *;rw [h,List.drop_eq_getElem_cons hi,List.findIdx?_cons,he];cases (QC.drop (i+1)).findIdx? (fun p=>p.1==s) with
 |none=>rfl
 |some k=>simp only [Option.map_some,Bool.false_eq_true,if_false]; congr 1; omega
set_option maxHeartbeats 2000000 in
theorem qAr(s:ByteArray)(w:World):Calls Tryz.prog 101 #[.string s] w fun e w'=>e=.returned (.int .i64 (Qa s.data.toList))∧Below w.heap.size w w':=by
 have HP:=Lib.hid (qFh w);go_enter Tryz.func101,Tryz.ntmps101;go_wp2_with fail;refine HP.out.mono ?_;rintro e w1 ⟨rfl,hw1⟩;have HB:=Lib.hid (hw1▸qC (Below.refl _ _) _:Below w.heap.size w w1);have HC:Hid (∀i:Nat,(hi:i<QC.length)→w1.cell? ⟨w.heap.size,i,none⟩=some (.string ⟨QC[i].1.toArray⟩)):=Lib.hid fun i hi=>by
  rw [←hw1];refine qD (MapKept.heap_alloc w _).1 ?_;simp [hi]
 clear hw1;go_wp2
 go_loop [4] (fun v=>∃i:Nat,i≤27∧v=.int .i64 i∧qB (qBm s.data.toList i)) (fun v=>27 - (intOf v).toNat)
 case atStart=>exact ⟨0,by omega,rfl,⟨by unfold qBm Qa Qu; simp⟩⟩
 case round=>
  obtain ⟨i,hi,rfl,HA⟩:=hrel;by_cases hlt:i<27
  ·have g:=HC.out i hlt;have HN:=Lib.hid (HA.out.next hlt);have HE:=Lib.hid (HA.out.eq hlt);generalize QC[i].1=p at *;go_wp2
   ·rename_i hq _
    go_ret;exact ⟨by rw [HE.out (by rw [←ByteArray.toList_eq]; exact hq)]; rfl,HB.out⟩
   ·rename_i hq
    go_round
    case rel=>exact ⟨i+1,by omega,by go_num,⟨HN.out (by rw [←ByteArray.toList_eq]; exact hq)⟩⟩
    case measure=>simp [intOf]; omega
  ·obtain rfl:i=27:=by omega
   have HE:Hid (Qa s.data.toList = -1):=Lib.hid HA.out;go_wp2;go_ret;exact ⟨by rw [HE.out]; rfl,HB.out⟩
structure LR(w:World):Prop where
 ar:∀i:Nat,(hi:i<QC.length)→w.cell? ⟨2,i,none⟩=some (.int .i64 QC[i].2)
 nm:∀i:Nat,(hi:i<qAK.length)→w.cell? ⟨1,i,none⟩=some (.string ⟨qAK[i].toArray⟩)
theorem LR.below{w w':World}(h:LR w)(hb:Below w.heap.size w w'):LR w':=⟨fun i hi=>qA hb (h.ar i hi),fun i hi=>qA hb (h.nm i hi)⟩
theorem qE8{s:List UInt8}(h:0≤Qa s):∃k:Nat,∃hk:k<QC.length,Qa s=k∧arL s=some (QC[k]).2:=by
 unfold Qa at *;cases hp:Qu s with
 |none=>rw [hp] at h; simp at h
 |some k=>
  unfold Qu at hp;obtain ⟨hlt,hk,hm⟩:=List.findIdx?_eq_some_iff_getElem.1 hp;refine ⟨k,hlt,rfl,?_⟩;unfold arL;rw [(List.find?_eq_some_iff_getElem (p:=fun p:List UInt8×Int=>p.1==s)).2 ⟨hk,k,hlt,rfl,fun j hj=>by simpa using hm j hj⟩];rfl
theorem qJW{s:List UInt8}(h:¬ 0≤Qa s):arL s=none:=by
 unfold Qa at h;cases hp:Qu s with
 |some k=>rw [hp] at h; simp at h
 |none=>
  unfold Qu at hp;unfold arL;rw [List.findIdx?_eq_none_iff] at hp;rw [List.find?_eq_none.2 (fun x hx=>by simpa using hp x hx)];rfl
theorem qFi(s:ByteArray)(w:World)(h:LR w):Calls Tryz.prog 100 #[.string s] w fun e w'=>e=.returned (.tuple #[.int .i64 ((arL s.data.toList).getD 0),.bool (arL s.data.toList).isSome])∧Below w.heap.size w w':=by
 have HP:=Lib.hid (qAr s w);have HR:=Lib.hid h;clear h;by_cases h0:0≤Qa s.data.toList
 ·obtain ⟨k,hk,e1,e2⟩:=qE8 h0;rw [e2];rw [e1] at HP;clear e1 e2 h0;go_enter Tryz.func100,Tryz.ntmps100;go_wp2_with fail;refine HP.out.mono ?_;rintro e w1 ⟨rfl,hb⟩;have g:=(HR.out.below hb).ar k hk;have hk2:k<27:=hk;have HB:=Lib.hid hb;clear hb;go_wp2
  go_ret2
  exact ⟨rfl,HB.out⟩
 ·rw [qJW h0];have hd:decide (Qa s.data.toList<0)=true:=decide_eq_true (by omega);generalize Qa s.data.toList=v at *;clear h0;go_enter Tryz.func100,Tryz.ntmps100;go_wp2_with fail;refine HP.out.mono ?_;rintro e w1 ⟨rfl,hb⟩;have HB:=Lib.hid hb;clear hb;go_wp2
  go_ret2
  exact ⟨rfl,HB.out⟩
theorem qGh(n:Int)(w:World)(h:LR w):Calls Tryz.prog 94 #[.int .i64 n] w fun e w'=>e=.returned (.string ⟨(qg n).toArray⟩)∧w=w':=by
 have HR:=Lib.hid h;clear h;cases hn:isOp n
 ·have e:qg n=[]:=by unfold qg; rw [hn]; rfl
  rw [e];have hx:n<1∨13<n:=by unfold isOp at hn; simp only [Bool.and_eq_false_iff,decide_eq_false_iff_not] at hn; omega
  clear hn e;go_enter Tryz.func94,Tryz.ntmps94;go_wp2
  all_goals first
  |omega
  |(go_ret; exact ⟨rfl,rfl⟩)
 ·have hx:1≤n∧n≤13:=by unfold isOp at hn; simpa using hn
  obtain ⟨k,rfl⟩:∃k:Nat,n=(k:Int)+1:=⟨n.toNat - 1,by omega⟩;have hk:k<qAK.length:=by show k<13; omega
  have e:qg ((k:Int)+1)=qAK[k]:=by unfold qg; rw [hn]; simp [List.getD_eq_getElem?_getD,List.getElem?_eq_getElem hk]
  rw [e];have g:=HR.out.nm k hk;have hk2:k<13:=hk;clear hn e;generalize qAK[k]=v at *;go_enter Tryz.func94,Tryz.ntmps94;go_wp2
  all_goals first
  |omega
  |(go_ret; exact ⟨rfl,rfl⟩)
theorem qE9(n:Int)(w:World):Calls Tryz.prog 69 #[.int .i64 n] w fun e w'=>e=.returned (.bool (qv n))∧w=w':=by
 unfold qv;go_enter Tryz.func69,Tryz.ntmps69;go_wp2
 all_goals
  go_ret;refine ⟨?_,rfl⟩
  congr 2
  simp_all
 all_goals omega
end Go.Proofs.YtoonkkipnljflaaGreatDoor.CJ
namespace Go.Proofs.YtoonkkipnljflaaGreatDoor.CJ
open Go.RowKit Go.Proofs.YtoonkkipnljflaaGreatDoorW.PrintWords Go.Proofs.YtoonkkipnljflaaGreatDoorW.PrintLast Go.Proofs.YtoonkkipnljflaaGreatDoor.PT Go.Proofs.YtoonkkipnljflaaGreatDoor.IMaps
set_option linter.unusedVariables false
set_option linter.unusedSimpArgs false
theorem zX_eq(x0 x1 x2 x3:Int)(x4:ByteArray)(x5:List Int)(x6:List GAl):zX ⟨x0,x1,x2,x3,x4,x5,x6⟩=((qq x0||x1==0)&&(qr x0||x2==0)&&(qs x0||x3==0)&&(qt x0||x4.toList==[])&&(qu x0||(x5.length:Int)==0)&&(x0==11||(x6.length:Int)==0)):=by
 have e1:∀ {α:Type} (l:List α),l.isEmpty=((l.length:Int)==0):=fun l=>by cases l<;>simp; omega
 unfold zX;simp only [e1,ByteArray.toList_eq]
set_option maxRecDepth 100000 in
set_option maxHeartbeats 16000000 in
theorem qJX(w:World)(x0 x1 x2 x3:Int)(x4:ByteArray)(x5:List Int)(x6:List GAl)(A5 A6:Option Addr)(c5 c6:Nat)(hx:1≤x0∧x0≤13):
 Calls Tryz.prog 95 #[gOp ⟨x0,x1,x2,x3,x4,x5,x6⟩ A5 A6 c5 c6] w fun e w'=>e=.returned (.bool (zX ⟨x0,x1,x2,x3,x4,x5,x6⟩))∧Below w.heap.size w w':=by
 have hx':x0=1∨x0=2∨x0=3∨x0=4∨x0=5∨x0=6∨x0=7∨x0=8∨x0=9∨x0=10∨x0=11∨x0=12∨x0=13:=by omega
 clear hx;rw [zX_eq];unfold gOp;simp only;rcases hx' with rfl|rfl|rfl|rfl|rfl|rfl|rfl|rfl|rfl|rfl|rfl|rfl|rfl
 all_goals
  go_enter Tryz.func95,Tryz.ntmps95;go_wp2
  all_goals
   go_ret;refine ⟨?_,qC (Below.refl _ _) _⟩
   congr 2
   simp_all [qq,qr,qs,qt,qu]
theorem qBd{α:Type}{l:List α}{z:α}{i:Nat}(hi:i<l.length):l.getD i z=l[i]:=by simp [List.getD_eq_getElem?_getD,List.getElem?_eq_getElem hi]
theorem qEe{α:Type}{p:α→Bool}{l:List α}{z:α}{i:Nat}(hi:i<l.length)(h:(l.take i).any p=false)(h2:p (l.getD i z)=false):(l.take (i+1)).any p=false:=by
 rw [qBd hi] at h2;rw [List.take_succ_eq_append_getElem hi,List.any_append,h];simp [h2]
theorem qFj{α:Type}{p:α→Bool}{l:List α}{z:α}{i:Nat}(hi:i<l.length)(h2:p (l.getD i z)=true):l.any p=true:=by
 rw [qBd hi] at h2;exact List.any_eq_true.2 ⟨_,List.getElem_mem hi,h2⟩
theorem qFk{α:Type}{p:α→Bool}{l:List α}(h:(l.take l.length).any p=false):l.any p=false:=by rwa [List.take_length] at h
set_option maxRecDepth 100000 in
set_option maxHeartbeats 8000000 in
theorem qHc(w:World)(A:Option Addr)(ca:Nat)(A2:Option Addr)(cb:Nat)(bs:List GBk)(gl:List GGl)(cm:CM w A ca A2 cb bs gl)(n:Int):
 Calls Tryz.prog 44 #[.agg #[.slice A bs.length ca,.slice A2 gl.length cb],.int .i64 n] w fun e w'=>e=.returned (.bool (qAB bs n))∧Below w.heap.size w w':=by
 have hb:=qC (Below.refl w.heap.size w) (.cells #[.slice A bs.length ca,.slice A2 gl.length cb] 27);have HC:=Lib.hid (Kd.C_below cm.ma hb);have HB:=Lib.hid hb;have hm:=cm.ma.2.1;unfold qAB;generalize hP:(fun b:GBk=>b.f2.any fun g=>g.f6.any fun a=>a.f3==n)=P;have HPd:Hid (∀b,P b=b.f2.any fun g=>g.f6.any fun a=>a.f3==n):=Lib.hid fun b=>by rw [←hP]
 clear cm hb hP;go_enter Tryz.func44,Tryz.ntmps44;go_wp2
 go_loop [5] (fun v=>∃i:Nat,i≤bs.length∧v=.int .i64 i∧qB ((bs.take i).any P=false)) (fun v=>bs.length - (intOf v).toNat)
 case atStart=>exact ⟨0,by omega,rfl,⟨rfl⟩⟩
 case round=>
  obtain ⟨i,hi,rfl,HA⟩:=hrel;by_cases hlt:i<bs.length;rotate_left
  ·obtain rfl:i=bs.length:=by omega
   have HE:=Lib.hid (qFk HA.out);go_wp2;go_ret;exact ⟨by rw [HE.out]; rfl,HB.out⟩
  obtain ⟨ad,A1,c1,rfl,g0,g1,g2,l1,C1⟩:=qAN HC.out (i:Int) (by omega) (by omega);have hrd:qo bs (i:Int)=bs.getD i z55:=by simp [qo]
  rw [hrd] at g0 g1 g2 l1 C1;simp only [Int.toNat_natCast] at g2;have HN:=Lib.hid (qEe (z:=z55) hlt HA.out);have HH:=Lib.hid (qFj (p:=P) (z:=z55) hlt);rw [HPd.out] at HN HH;generalize (bs.getD i z55).f2=ops at *;have HC1:=Lib.hid C1;have hm1:=C1.2.1;clear g0 g1 l1 C1 hrd HA;generalize hQ:(fun g:GOp=>g.f6.any fun a=>a.f3==n)=Q at *;have HQd:Hid (∀g,Q g=g.f6.any fun a=>a.f3==n):=Lib.hid fun g=>by rw [←hQ]
  clear hQ;go_wp2
  go_loop [6] (fun v=>∃k:Nat,k≤ops.length∧v=.int .i64 k∧qB ((ops.take k).any Q=false)) (fun v=>ops.length - (intOf v).toNat)
  case atStart=>exact ⟨0,by omega,rfl,⟨rfl⟩⟩
  case round=>
   obtain ⟨k,hk,rfl,HA⟩:=hrel;by_cases hlk:k<ops.length;rotate_left
   ·obtain rfl:k=ops.length:=by omega
    have HE:=Lib.hid (HN.out (qFk HA.out));go_wp2;go_round
    case rel=>exact ⟨i+1,by omega,by go_num,⟨HE.out⟩⟩
    case measure=>simp [intOf]; omega
   obtain ⟨od,A5,c5,A6,c6,rfl,e0,e1,e2,e3,e4,e5,e6,l5,m5,l6,m6⟩:=qA3 HC1.out (k:Int) (by omega) (by omega);have hrd:qj ops (k:Int)=ops.getD k z59:=by simp [qj]
   rw [hrd] at e6 m6;simp only [Int.toNat_natCast] at e6;have HN2:=Lib.hid (qEe (z:=z59) hlk HA.out);have HH2:=Lib.hid (qFj (p:=Q) (z:=z59) hlk);rw [HQd.out] at HN2 HH2;generalize (ops.getD k z59).f6=al at *;have HC2:=Lib.hid m6;have hm2:=m6.2.1;clear e0 e1 e2 e3 e4 e5 l5 m5 l6 m6 hrd HA;go_wp2
   go_loop [8] (fun v=>∃j:Nat,j≤al.length∧v=.int .i64 j∧qB ((al.take j).any (fun a=>a.f3==n)=false)) (fun v=>al.length - (intOf v).toNat)
   case atStart=>exact ⟨0,by omega,rfl,⟨rfl⟩⟩
   case round=>
    obtain ⟨j,hj,rfl,HA⟩:=hrel;by_cases hlj:j<al.length;rotate_left
    ·obtain rfl:j=al.length:=by omega
     have HE:=Lib.hid (HN2.out (qFk HA.out));go_wp2;go_round
     case rel=>exact ⟨k+1,by omega,by go_num,⟨HE.out⟩⟩
     case measure=>simp [intOf]; omega
    obtain ⟨qd,rfl,q0,q1,q2,q3⟩:=qA2 HC2.out (j:Int) (by omega) (by omega);have hrd:QK al (j:Int)=al.getD j z86:=by simp [QK]
    rw [hrd] at q3;simp only [Int.toNat_natCast] at q3;have HN3:=Lib.hid (qEe (z:=z86) hlj HA.out);have HH3:=Lib.hid (qFj (p:=fun a:GAl=>a.f3==n) (z:=z86) hlj);generalize (al.getD j z86).f3=y at *;clear q0 q1 q2 hrd HA;cases hq:(y==n)
    ·have HE:=Lib.hid (HN3.out hq);go_wp2;go_round
     case rel=>exact ⟨j+1,by omega,by go_num,⟨HE.out⟩⟩
     case measure=>simp [intOf]; omega
    ·have HE:=Lib.hid (HH.out (HH2.out (HH3.out hq)));go_wp2;go_ret;exact ⟨by rw [HE.out]; rfl,HB.out⟩
def gix(gl:List GGl)(s:ByteArray):Int:=match gl.findIdx? (fun g=>g.f0.data.toList==s.data.toList) with|some k=>k|none => -1
def qCL(gl:List GGl)(s:ByteArray)(i:Nat):Prop:=gix gl s=match (gl.drop i).findIdx? (fun g=>g.f0.data.toList==s.data.toList) with|some k=>((k+i:Nat):Int)|none => -1
theorem qCL.eq{gl:List GGl}{s:ByteArray}{i:Nat}(h:qCL gl s i)(hi:i<gl.length)(he:((gl.getD i z63).f0.data.toList==s.data.toList)=true):gix gl s=i:=by
 rw [qBd hi] at he;unfold qCL at h;rw [h,List.drop_eq_getElem_cons hi,List.findIdx?_cons,he];simp
theorem qCL.next{gl:List GGl}{s:ByteArray}{i:Nat}(h:qCL gl s i)(hi:i<gl.length)(he:((gl.getD i z63).f0.data.toList==s.data.toList)=false):qCL gl s (i+1):=by
 rw [qBd hi] at he;unfold qCL at *;rw [h,List.drop_eq_getElem_cons hi,List.findIdx?_cons,he];cases (gl.drop (i+1)).findIdx? (fun g=>g.f0.data.toList==s.data.toList) with
 |none=>rfl
 |some k=>simp only [Option.map_some,Bool.false_eq_true,if_false]; congr 1; omega
theorem gix_has(gl:List GGl)(i:Nat)(hi:i<gl.length):decide (gix gl (gl.getD i z63).f0<i)=hasG (gl.take i) (gl.getD i z63).f0:=by
 rw [qBd hi];unfold gix;cases h:gl.findIdx? (fun g=>g.f0.data.toList==gl[i].f0.data.toList) with
 |none=>
  rw [List.findIdx?_eq_none_iff] at h;have:=h gl[i] (List.getElem_mem hi);simp at this
 |some k=>
  obtain ⟨hlt,hk,hm⟩:=List.findIdx?_eq_some_iff_getElem.1 h;show decide ((k:Int)<(i:Int))=_
  have hki:k≤i:=by
   by_cases hh:k≤i
   ·exact hh
   ·have:=hm i (by omega); simp at this
  by_cases hh:k<i
  ·rw [decide_eq_true (by omega)];symm;unfold hasG;rw [List.any_eq_true];refine ⟨gl[k],?_,by simpa using hk⟩;rw [List.mem_iff_getElem];exact ⟨k,by simp; omega,by simp⟩
  ·rw [decide_eq_false (by omega)];symm;unfold hasG;rw [List.any_eq_false];intro x hx;obtain ⟨j,hj,rfl⟩:=List.mem_iff_getElem.1 hx;simp only [List.length_take] at hj;have:=hm j (by omega);simpa using this
set_option maxHeartbeats 4000000 in
theorem qFA(w:World)(A:Option Addr)(ca:Nat)(A2:Option Addr)(cb:Nat)(bs:List GBk)(gl:List GGl)(cm:CM w A ca A2 cb bs gl)(s:ByteArray):
 Calls Tryz.prog 46 #[.agg #[.slice A bs.length ca,.slice A2 gl.length cb],.string s] w fun e w'=>e=.returned (.int .i64 (gix gl s))∧Below w.heap.size w w':=by
 have hb:=qC (Below.refl w.heap.size w) (.cells #[.slice A bs.length ca,.slice A2 gl.length cb] 27);have HC:=Lib.hid (Kd.C_below cm.mb hb);have HB:=Lib.hid hb;have hm:=cm.mb.2.1;clear cm hb;go_enter Tryz.func46,Tryz.ntmps46;go_wp2
 go_loop [5] (fun v=>∃i:Nat,i≤gl.length∧v=.int .i64 i∧qB (qCL gl s i)) (fun v=>gl.length - (intOf v).toNat)
 case atStart=>exact ⟨0,by omega,rfl,⟨by unfold qCL gix; simp⟩⟩
 case round=>
  obtain ⟨i,hi,rfl,HA⟩:=hrel;by_cases hlt:i<gl.length;rotate_left
  ·obtain rfl:i=gl.length:=by omega
   have HE:Hid (gix gl s = -1):=Lib.hid (HA.out.trans (by rw [List.drop_length]; rfl));go_wp2;go_ret;exact ⟨by rw [HE.out]; rfl,HB.out⟩
  obtain ⟨ad,rfl,g0,g1⟩:=qB6 HC.out (i:Int) (by omega) (by omega);have hrd:Qn gl (i:Int)=gl.getD i z63:=by simp [Qn]
  rw [hrd] at g0;simp only [Int.toNat_natCast] at g0;have HN:=Lib.hid (HA.out.next hlt);have HE:=Lib.hid (HA.out.eq hlt);generalize (gl.getD i z63).f0=y at *;clear g1 hrd HA;cases hq:(y.data.toList==s.data.toList)
  ·have s1:(y.toList==s.toList)=false:=by rw [ByteArray.toList_eq,ByteArray.toList_eq]; exact hq
   have HN2:=Lib.hid (HN.out hq);clear hq HN HE;go_wp2;go_round
   case rel=>exact ⟨i+1,by omega,by go_num,⟨HN2.out⟩⟩
   case measure=>simp [intOf]; omega
  ·have s1:(y.toList==s.toList)=true:=by rw [ByteArray.toList_eq,ByteArray.toList_eq]; exact hq
   have HE2:=Lib.hid (HE.out hq);clear hq HN HE;go_wp2;go_ret;exact ⟨by rw [HE2.out]; rfl,HB.out⟩
end Go.Proofs.YtoonkkipnljflaaGreatDoor.CJ
