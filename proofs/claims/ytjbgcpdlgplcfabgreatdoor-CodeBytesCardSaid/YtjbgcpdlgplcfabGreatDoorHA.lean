/- The reference's Check of a code as a plain function, and that it tells the same as the checker. Conditions: none. The reference's names and primitives: IsName, Prim, Arity, Name. Conditions: the listed variables are laid. The reference's look at an instruction. Conditions: the look, the instruction and the code lie in memory; the listed variables are laid. The reference's chosen and Global. Conditions: the code lies in memory. -/
import Derived.Test.YtjbgcpdlgplcfabGreatDoorD1
import Derived.Test.YtjbgcpdlgplcfabGreatDoorTT
namespace Go.Proofs.YtjbgcpdlgplcfabGreatDoor.CJ
open Go.RowKit Go.Proofs.YtjbgcpdlgplcfabGreatDoorW.PrintWords Go.Proofs.YtjbgcpdlgplcfabGreatDoorW.PrintLast Go.Proofs.YtjbgcpdlgplcfabGreatDoor.PT Go.Proofs.YtjbgcpdlgplcfabGreatDoor.IMaps
set_option linter.unusedVariables false
set_option linter.unusedSimpArgs false
def zX(g:GOp):Bool:=(opHasA g.f0||g.f1==0)&&(opHasB g.f0||g.f2==0)&&(opHasN g.f0||g.f3==0)&&(opHasS g.f0||g.f4.data.toList==[])&&(opHasL g.f0||g.f5.isEmpty)&&(g.f0==11||g.f6.isEmpty)
def opY(bs:List GBk)(gs:Nat)(st:List Int)(g:GOp):Option (List Int):=
 if g.f0=1 then (if inB g.f3 1 12 then some (st++List.replicate g.f3.toNat 1) else none)
 else if g.f0=2 then (match blkC bs g.f2 with|some c=>if c.f1=0∧c.f0=g.f5.length then fillC st g.f1 2 else none|none=>none)
 else if g.f0=3 then (match blkC bs g.f2 with|some c=>if 1≤c.f1∧c.f1≤8∧c.f0=g.f5.length then fillC st g.f1 3 else none|none=>none)
 else if g.f0=4 then opR4 st g.f1 g.f4.data.toList g.f5.length
 else if g.f0=5 then opR5 st g.f1
 else if g.f0=6 then opR6 st g.f1 g.f4.data.toList g.f5.length
 else if g.f0=7 then (if inB g.f3 0 ((gs:Int) - 1) then some (st++[0]) else none)
 else if g.f0=8 then (match blkC bs g.f2 with|some c=>if c.f1=1∧c.f0=g.f5.length then some st else none|none=>none)
 else if g.f0=9 then opR9 st g.f1 g.f5.length
 else if g.f0=10 then opR10 st g.f1
 else if g.f0=11 then (if g.f6=[] then none else opR11 bs st g.f6)
 else if g.f0=12 then opR12 st g.f1 g.f2 g.f4.data.toList
 else opR13 st g.f1
def opX(bs:List GBk)(gs:Nat)(st:List Int)(g:GOp):Option (List Int):=
 if !(inB g.f0 1 13&&zX g&&g.f5.all (hasC st)&&(!(g.f0==8||opEnds g.f0)||fullC st)) then none
 else opY bs gs st g
def capX:Option (List Int)→Option (List Int)
 |some st=>if st.length≤60 then some st else none
 |none=>none
def opsX(bs:List GBk)(gs:Nat):List Int→List GOp→Option (List Int)
 |st,[]=>some st
 |st,g::r=>if opEnds g.f0==r.isEmpty then (match capX (opX bs gs st g) with|some st'=>opsX bs gs st' r|none=>none) else none
def roomX(bs:List GBk)(gs:Nat)(b:GBk):Option (List Int):=
 if inB b.f0 0 40&&inB b.f1 0 12&&inB b.f2.length 1 60 then opsX bs gs (List.replicate (b.f0+b.f1).toNat 0) b.f2 else none
def blksX(bs:List GBk)(gs:Nat):Nat→List GBk→Bool
 |_,[]=>true
 |i,b::r=>(roomX bs gs b).isSome&&(decide (b.f1≤8)||chosenB bs (i:Int))&&blksX bs gs (i+1) r
def allX(bs:List GBk)(gl:List GGl):Bool:=inB bs.length 1 1500&&decide (gl.length≤400)&&blksX bs gl.length 0 bs&&globB bs [] gl
def NonNeg(bs:List GBk):Prop:=∀b∈bs,0≤b.f1
theorem blk_mem{bs:List GBk}{n:Int}{c:GBk}(h:blkC bs n=some c):c∈bs:=by
 unfold blkC at h;split at h
 ·exact List.mem_of_getElem? h
 ·cases h
theorem capX_small{o:Option (List Int)}(h:∀st,o=some st→st.length≤60):capX o=o:=by
 cases o with
 |none=>rfl
 |some s=>simp [capX,h s rfl]
theorem capX_fill{st:List Int}{k v:Int}(hs:st.length≤60):capX (fillC st k v)=fillC st k v:=capX_small fun s h=>fill_len h hs
theorem capX_add{st:List Int}{n:Nat}{v:Int}:capX (some (st++List.replicate n v))=addC st n v:=by
 unfold capX addC;simp only [List.length_append,List.length_replicate]
theorem opX_K(bs:List GBk)(gs:Nat)(st:List Int)(g:GOp)(hb:NonNeg bs)(hs:st.length≤60):capX (opX bs gs st g)=if zeroB g&&(!opEnds g.f0||fullC st) then opK bs gs st g else none:=by
 obtain ⟨x0,x1,x2,x3,x4,x5,x6⟩:=g;by_cases hx:1≤x0∧x0≤13;rotate_left
 ·have h1:inB x0 1 13=false:=by simp only [inB,Bool.and_eq_false_iff,decide_eq_false_iff_not]; omega
  have h2:zeroB ⟨x0,x1,x2,x3,x4,x5,x6⟩=false:=by
   unfold zeroB;have:(decide (1≤x0)&&decide (x0≤13))=false:=by simp only [Bool.and_eq_false_iff,decide_eq_false_iff_not]; omega
   simp [this]
  simp [opX,h1,h2,capX]
 have h1:inB x0 1 13=true:=by simp only [inB,Bool.and_eq_true,decide_eq_true_eq]; exact hx
 have hz:zeroB ⟨x0,x1,x2,x3,x4,x5,x6⟩=(zX ⟨x0,x1,x2,x3,x4,x5,x6⟩ && !(x0==11&&x6.isEmpty)):=by
  unfold zeroB zX;have:(decide (1≤x0)&&decide (x0≤13))=true:=by simp only [Bool.and_eq_true,decide_eq_true_eq]; exact hx
  simp only [this,Bool.true_and];cases x0==11<;>cases x6.isEmpty<;>simp
 unfold opX opY;rw [hz];simp only [h1,Bool.true_and];cases hZ:zX ⟨x0,x1,x2,x3,x4,x5,x6⟩
 ·simp [capX]
 have hcap:∀ {o:Option (List Int)},(∀st',o=some st'→st'.length≤60)→capX o=o:=fun h=>capX_small h
 have hL:∀st',opK bs gs st ⟨x0,x1,x2,x3,x4,x5,x6⟩=some st'→st'.length≤60:=fun st' h=>opK_len h hs
 cases hall:x5.all (hasC st)
 ·simp [opK,hall,capX]
 have hK:∀P:Option (List Int),opK bs gs st ⟨x0,x1,x2,x3,x4,x5,x6⟩=P→(∀st',P=some st'→st'.length≤60):=fun P h=>h▸hL
 have hx':x0=1∨x0=2∨x0=3∨x0=4∨x0=5∨x0=6∨x0=7∨x0=8∨x0=9∨x0=10∨x0=11∨x0=12∨x0=13:=by omega
 have hC:∀P Q:Option (List Int),opK bs gs st ⟨x0,x1,x2,x3,x4,x5,x6⟩=P→P=Q→capX Q=P:=by
  intro P Q h1 h2; subst h2; exact capX_small (hK _ h1)
 rcases hx' with rfl|rfl|rfl|rfl|rfl|rfl|rfl|rfl|rfl|rfl|rfl|rfl|rfl
 ·simp [opK,hall,opEnds,opR1];split
  ·exact capX_add
  ·rfl
 ·simp [opK,hall,opEnds,opR2];cases hk:blkC bs x2 with
  |none=>rfl
  |some c=>
   simp only;by_cases h:c.f1=0∧c.f0=(x5.length:Int)
   ·rw [if_pos h,if_pos ⟨h.2,h.1,by omega⟩]; exact capX_fill hs
   ·rw [if_neg h,if_neg (fun hh=>h ⟨hh.2.1,hh.1⟩)]; rfl
 ·simp [opK,hall,opEnds,opR3];cases hk:blkC bs x2 with
  |none=>rfl
  |some c=>
   have h0:=hb c (blk_mem hk);simp only;by_cases h:1≤c.f1∧c.f1≤8∧c.f0=(x5.length:Int)
   ·rw [if_pos h,if_pos ⟨h.2.2,by omega,h.2.1⟩]; exact capX_fill hs
   ·rw [if_neg h,if_neg (fun hh=>h ⟨by omega,hh.2.2,hh.1⟩)]; rfl
 ·simp [opK,hall,opEnds]; exact hC _ _ (by simp [opK,hall]) rfl
 ·simp [opK,hall,opEnds]; exact hC _ _ (by simp [opK,hall]) rfl
 ·simp [opK,hall,opEnds]; exact hC _ _ (by simp [opK,hall]) rfl
 ·simp [opK,hall,opEnds,opR7];split
  ·exact capX_add (n:=1)
  ·rfl
 ·simp [opK,hall,opEnds,opR8];cases hf:fullC st
  ·simp [capX]; cases blkC bs x2<;>rfl
  ·cases hk:blkC bs x2 with
   |none=>rfl
   |some c=>
    by_cases h1:c.f1=1<;>by_cases h2:c.f0=(x5.length:Int)<;>simp [h1,h2,capX,hs]
 all_goals
  cases hf:fullC st
  ·simp [opEnds,capX]
  ·simp only [opEnds,opK,hall];by_cases h11:x6=[]
   ·subst h11
    first
    |(simp [capX]; done)
    |(simp; exact hC _ _ (by simp [opK,hall]) rfl)
   ·simp [h11]; exact hC _ _ (by simp [opK,hall]) rfl
theorem opsX_K(bs:List GBk)(gs:Nat)(hb:NonNeg bs):∀(l:List GOp) (st:List Int),st.length≤60→(opsX bs gs st l).isSome=opsK bs gs st l
 | [],st,hs=>rfl
 |g::r,st,hs=>by
  unfold opsX opsK;rw [opX_K bs gs st g hb hs];cases opEnds g.f0==r.isEmpty
  ·simp
  ·cases hz:zeroB g
   ·simp
   ·cases hf:(!opEnds g.f0||fullC st)
    ·simp
    ·simp only [Bool.and_self,if_true];cases hk:opK bs gs st g with
     |none=>rfl
     |some st'=>simpa using opsX_K bs gs hb r st' (opK_len hk hs)
theorem roomX_K(bs:List GBk)(gs:Nat)(hb:NonNeg bs)(b:GBk)(ch:Bool):((roomX bs gs b).isSome&&(decide (b.f1≤8)||ch))=blockK bs gs ch b:=by
 unfold roomX blockK;by_cases h:(inB b.f0 0 40&&inB b.f1 0 12&&inB b.f2.length 1 60)=true
 ·rw [if_pos h,opsX_K bs gs hb _ _ (by simp only [Bool.and_eq_true,inB,decide_eq_true_eq] at h; simp; omega)];simp only [Bool.and_eq_true] at h;rw [h.1.1,h.2];have h2:=h.1.2;simp only [inB,Bool.and_eq_true,decide_eq_true_eq] at h2;have:inB b.f1 0 (if ch then 12 else 8)=(decide (b.f1≤8)||ch):=by
   unfold inB;cases ch<;>simp [h2.1,h2.2]
  rw [this];simp [Bool.and_comm]
 ·rw [if_neg h];have h':(inB b.f0 0 40&&inB b.f1 0 12&&inB b.f2.length 1 60)=false:=by simpa using h
  have hi:inB b.f1 0 12=false→inB b.f1 0 (if ch then 12 else 8)=false:=by
   unfold inB;simp only [Bool.and_eq_false_iff,decide_eq_false_iff_not];cases ch<;>simp<;>omega
  simp only [Bool.and_eq_false_iff] at h';rcases h' with (h1|h1)|h1
  ·simp [h1]
  ·simp [hi h1]
  ·simp [h1]
theorem blksX_K(bs:List GBk)(gs:Nat)(hb:NonNeg bs):∀(l:List GBk) (i:Nat),blksX bs gs i l=blksK bs gs i l
 | [],_=>rfl
 |b::r,i=>by
  unfold blksX blksK;rw [roomX_K bs gs hb,blksX_K bs gs hb r]
theorem blksX_neg(bs:List GBk)(gs:Nat)(b:GBk)(h0:¬ 0≤b.f1):∀(l:List GBk) (i:Nat),b∈l→blksX bs gs i l=false∧blksK bs gs i l=false
 |x::r,i,hm=>by
  unfold blksX blksK;rcases List.mem_cons.1 hm with rfl|hm
  ·have h1:∀n,inB b.f1 0 n=false:=fun n=>by simp [inB,h0]
   simp [roomX,blockK,h1]
  ·simp [blksX_neg bs gs b h0 r (i+1) hm]
theorem allX_K(bs:List GBk)(gl:List GGl):allX bs gl=allK bs gl:=by
 unfold allX allK;by_cases hb:NonNeg bs
 ·rw [blksX_K bs _ hb];cases inB bs.length 1 1500<;>cases decide (gl.length≤400)<;>cases globB bs [] gl<;>simp
 ·unfold NonNeg at hb;simp only [Classical.not_forall] at hb;obtain ⟨b,hm,h0⟩:=hb;obtain ⟨h1,h2⟩:=blksX_neg bs gl.length b h0 bs 0 hm;simp [h1,h2]
end Go.Proofs.YtjbgcpdlgplcfabGreatDoor.CJ
namespace Go.Proofs.YtjbgcpdlgplcfabGreatDoor.CJ
open Go.RowKit Go.Proofs.YtjbgcpdlgplcfabGreatDoorW.PrintWords Go.Proofs.YtjbgcpdlgplcfabGreatDoor.PT Go.Proofs.YtjbgcpdlgplcfabGreatDoor.IMaps
set_option linter.unusedVariables false
set_option linter.unusedSimpArgs false
def brN(n:Int):Bool:=n==40||n==41||n==91||n==93||n==123||n==125
def anyB(s:ByteArray)(c:UInt8):Bool:=s.data.toList.any (· == c)
theorem take_any{s:ByteArray}{c:UInt8}{i:Nat}(hi:i<s.size):(s.data.toList.take (i+1)).any (· == c)=((s.data.toList.take i).any (· == c)||s[i]==c):=by
 have hl:i<s.data.toList.length:=by simpa using hi
 rw [List.take_succ_eq_append_getElem hl,List.any_append,dataAt s i hi];simp
theorem any_at{s:ByteArray}{c:UInt8}{i:Nat}(hi:i<s.size)(h:(s[i]==c)=true):anyB s c=true:=by
 have hl:i<s.data.toList.length:=by simpa using hi
 exact List.any_eq_true.2 ⟨_,List.getElem_mem hl,by rw [dataAt s i hi]; exact h⟩
set_option maxHeartbeats 2000000 in
theorem refHas_calls(s:ByteArray)(hs:s.size≤maxLen)(c:UInt8)(w:World):Calls Tryz.prog 105 #[.string s,.int .u8 c.toNat] w fun e w'=>e=.returned (.bool (anyB s c))∧w=w':=by
 unfold maxLen at hs;go_enter Tryz.func105,Tryz.ntmps105;go_wp2
 go_loop [5] (fun v=>∃i:Nat,i≤s.size∧v=.int .i64 i∧Aside0 ((s.data.toList.take i).any (· == c)=false)) (fun v=>s.size - (intOf v).toNat)
 case atStart=>exact ⟨0,by omega,rfl,⟨rfl⟩⟩
 case round=>
  obtain ⟨i,hi,rfl,HA⟩:=hrel;by_cases hlt:i<s.size
  ·have HT:=Lib.hid (take_any (c:=c) hlt);have HN:=Lib.hid (any_at (c:=c) hlt);rw [u8_beq] at HT HN;cases hq:((s[i].toNat:Int)==(c.toNat:Int))
   ·go_wp2;go_round
    case rel=>exact ⟨i+1,by omega,by go_num,⟨by rw [HT.out,HA.out,hq]; rfl⟩⟩
    case measure=>simp [intOf]; omega
   ·go_wp2;go_ret;exact ⟨by rw [HN.out hq]; rfl,rfl⟩
  ·obtain rfl:i=s.size:=by omega
   go_wp2;go_ret;have:=HA.out;rw [List.take_of_length_le (by simp)] at this;exact ⟨by rw [show anyB s c=false from this]; rfl,rfl⟩
theorem bracket_calls(c:UInt8)(w:World):Calls Tryz.prog 85 #[.int .u8 c.toNat] w fun e w'=>e=.returned (.bool (brN c.toNat))∧w=w':=by
 have HH:=Lib.hid (refHas_calls ⟨#[40,41,91,93,123,125]⟩ (by decide) c);have e:anyB ⟨#[40,41,91,93,123,125]⟩ c=brN c.toNat:=by
  have h:∀k:Int,(k==(c.toNat:Int))=((c.toNat:Int)==k):=fun k=>Bool.beq_comm
  unfold anyB brN;simp only [List.any_cons,List.any_nil,Bool.or_false,u8_beq,Bool.or_assoc,h];rfl
 rw [e] at HH;go_enter Tryz.func85,Tryz.ntmps85;go_wp2_with fail;refine (HH.out _).mono ?_;rintro e w1 ⟨rfl,rfl⟩;go_wp2;go_ret;exact ⟨rfl,rfl⟩
theorem refPart_calls(c:UInt8)(w:World):Calls Tryz.prog 52 #[.int .u8 c.toNat] w fun e w'=>e=.returned (.bool (partB c))∧w=w':=by
 rw [partB_eq];have HH:=Lib.hid (bracket_calls c);generalize (c.toNat:Int)=n at *;have e:partN n=(decide (33≤n)&&decide (n≤126) && !brN n):=rfl;rw [e];clear e;go_enter Tryz.func52,Tryz.ntmps52;go_wp2_with fail
 ·refine (HH.out _).mono ?_;rintro e w1 ⟨rfl,rfl⟩;go_wp2;go_ret
  simp_all
 all_goals
  go_wp2;go_ret
  simp_all
  try omega
theorem refLetter_calls(c:UInt8)(w:World):Calls Tryz.prog 51 #[.int .u8 c.toNat] w fun e w'=>e=.returned (.bool (letterN c.toNat))∧w=w':=by
 generalize (c.toNat:Int)=n;go_enter Tryz.func51,Tryz.ntmps51;go_wp2
 all_goals
  go_ret;refine ⟨?_,rfl⟩
  congr 2
  unfold letterN
  simp_all
 all_goals omega
theorem refWord_calls(s:ByteArray)(w:World):Calls Tryz.prog 50 #[.string s] w fun e w'=>e=.returned (.bool (wordB s.data.toList))∧w=w':=by
 rw [←ByteArray.toList_eq];go_enter Tryz.func50,Tryz.ntmps50;go_wp2
 all_goals
  go_ret
  simp_all [wordB]
theorem nameB_letter{s:ByteArray}(h:0<s.size)(hl:letterN s[0].toNat=false):nameB s.data.toList=false:=by
 have hd:0<s.data.toList.length:=by simpa using h
 rw [←letterB_eq,←dataAt s 0 h,←headB_eq _ hd] at hl;show (_&&_&&_&&headB s.data.toList&&_)=false
 rw [hl]; simp
set_option maxRecDepth 100000 in
set_option maxHeartbeats 2000000 in
theorem refIsName_calls(s:ByteArray)(hs:s.size≤maxLen)(w:World):Calls Tryz.prog 22 #[.string s] w fun e w'=>e=.returned (.bool (nameB s.data.toList))∧w=w':=by
 unfold maxLen at hs;have HW:=Lib.hid (refWord_calls s);have HE:Hid (1≤s.size→s.size≤60→wordB s.data.toList=false→PartsTo s s.size→∀h:0<s.size,letterN s[0].toNat=true→nameB s.data.toList=true):=Lib.hid fun h1 h2 hw hp h hl=>(nameB_end h1 h2 hw hp).trans hl
 have HS:=Lib.hid (@nameB_short s);have HWn:=Lib.hid (@nameB_word s);have HLn:=Lib.hid (@nameB_letter s);have HPn:Hid (∀i,(hi:i<s.size)→partB s[i]=false→nameB s.data.toList=false):=Lib.hid (fun i hi hp=>nameB_part (part_not hi hp));generalize nameB s.data.toList=R at *;generalize wordB s.data.toList=W at *;go_enter Tryz.func22,Tryz.ntmps22;go_wp2_with fail;rotate_left
 ·rename_i h1 h2
  go_ret;exact ⟨by rw [HS.out (.inr (by omega))]; rfl,rfl⟩
 ·rename_i h1
  go_ret;exact ⟨by rw [HS.out (.inl (by omega))]; rfl,rfl⟩
 rename_i h1 h2
 have h0:0<s.size:=by omega
 have HL:=Lib.hid (refLetter_calls s[0]);have HE2:=Lib.hid fun hw hp=>HE.out (by omega) (by omega) hw hp h0
 have HLn2:=Lib.hid (HLn.out h0);clear HE HLn;generalize letterN s[0].toNat=L at *;refine (HW.out _).mono ?_;rintro e w1 ⟨rfl,rfl⟩;cases W;rotate_left
 ·go_wp2;go_ret;exact ⟨by rw [HWn.out (by trivial)]; rfl,rfl⟩
 go_wp2_with fail;refine (HL.out _).mono ?_;rintro e w1 ⟨rfl,rfl⟩;cases L
 ·go_wp2;go_ret;exact ⟨by rw [HLn2.out (by trivial)]; rfl,rfl⟩
 go_wp2
 go_loop [3] (fun v=>∃i:Nat,i≤s.size∧v=.int .i64 i∧PartsTo s i) (fun v=>s.size - (intOf v).toNat)
 case atStart=>exact ⟨0,by omega,rfl,by simp [PartsTo]⟩
 case round=>
  obtain ⟨i,hi,rfl,HA⟩:=hrel;by_cases hlt:i<s.size
  ·have HB:=Lib.hid (fun w=>refPart_calls s[i] w);have HF:=Lib.hid (HPn.out i hlt);have HN:=Lib.hid fun hp=>HA.next hlt hp
   generalize partB s[i]=p at *;go_wp2_with fail;refine (HB.out _).mono ?_;rintro e w1 ⟨rfl,rfl⟩;cases p
   ·go_wp2;go_ret;exact ⟨by rw [HF.out (by trivial)]; rfl,rfl⟩
   ·go_wp2;go_round
    case rel=>exact ⟨i+1,by omega,by go_num,HN.out (by trivial)⟩
    case measure=>simp [intOf]; omega
  ·obtain rfl:i=s.size:=by omega
   go_wp2;go_ret;exact ⟨by rw [HE2.out (by trivial) HA (by trivial)]; rfl,rfl⟩
set_option maxHeartbeats 2000000 in
theorem refPrims_calls(w:World):Calls Tryz.prog 104 #[] w fun e w'=>e=.returned (.slice (some ⟨w.heap.size,0,none⟩) 27 27)∧w.alloc (.cells ((primL.map fun p=>Value.string ⟨p.1.toArray⟩).toArray) 9)=w':=by
 go_enter Tryz.func104,Tryz.ntmps104;go_wp2;go_ret;exact ⟨rfl,rfl⟩
def primI(s:List UInt8):Int:=match primK s with|some k=>k|none => -1
def PrimAt(s:List UInt8)(i:Nat):Prop:=primI s=match (primL.drop i).findIdx? (fun p=>p.1==s) with|some k=>((k+i:Nat):Int)|none => -1
theorem PrimAt.eq{s:List UInt8}{i:Nat}(h:PrimAt s i)(hi:i<primL.length)(he:(primL[i].1==s)=true):primI s=i:=by
 unfold PrimAt at h;rw [h,List.drop_eq_getElem_cons hi,List.findIdx?_cons,he];simp
theorem PrimAt.next{s:List UInt8}{i:Nat}(h:PrimAt s i)(hi:i<primL.length)(he:(primL[i].1==s)=false):PrimAt s (i+1):=by
 unfold PrimAt at *;rw [h,List.drop_eq_getElem_cons hi,List.findIdx?_cons,he];cases (primL.drop (i+1)).findIdx? (fun p=>p.1==s) with
 |none=>rfl
 |some k=>simp only [Option.map_some,Bool.false_eq_true,if_false]; congr 1; omega
set_option maxHeartbeats 2000000 in
theorem refPrim_calls(s:ByteArray)(w:World):Calls Tryz.prog 83 #[.string s] w fun e w'=>e=.returned (.int .i64 (primI s.data.toList))∧Below w.heap.size w w':=by
 have HP:=Lib.hid (refPrims_calls w);go_enter Tryz.func83,Tryz.ntmps83;go_wp2_with fail;refine HP.out.mono ?_;rintro e w1 ⟨rfl,hw1⟩;have HB:=Lib.hid (hw1▸below_alloc (Below.refl _ _) _:Below w.heap.size w w1);have HC:Hid (∀i:Nat,(hi:i<primL.length)→w1.cell? ⟨w.heap.size,i,none⟩=some (.string ⟨primL[i].1.toArray⟩)):=Lib.hid fun i hi=>by
  rw [←hw1];refine cellH (MapKept.heap_alloc w _).1 ?_;simp [hi]
 clear hw1;go_wp2
 go_loop [4] (fun v=>∃i:Nat,i≤27∧v=.int .i64 i∧Aside0 (PrimAt s.data.toList i)) (fun v=>27 - (intOf v).toNat)
 case atStart=>exact ⟨0,by omega,rfl,⟨by unfold PrimAt primI primK; simp⟩⟩
 case round=>
  obtain ⟨i,hi,rfl,HA⟩:=hrel;by_cases hlt:i<27
  ·have g:=HC.out i hlt;have HN:=Lib.hid (HA.out.next hlt);have HE:=Lib.hid (HA.out.eq hlt);generalize primL[i].1=p at *;go_wp2
   ·rename_i hq _
    go_ret;exact ⟨by rw [HE.out (by rw [←ByteArray.toList_eq]; exact hq)]; rfl,HB.out⟩
   ·rename_i hq
    go_round
    case rel=>exact ⟨i+1,by omega,by go_num,⟨HN.out (by rw [←ByteArray.toList_eq]; exact hq)⟩⟩
    case measure=>simp [intOf]; omega
  ·obtain rfl:i=27:=by omega
   have HE:Hid (primI s.data.toList = -1):=Lib.hid HA.out;go_wp2;go_ret;exact ⟨by rw [HE.out]; rfl,HB.out⟩
structure LR(w:World):Prop where
 ar:∀i:Nat,(hi:i<primL.length)→w.cell? ⟨2,i,none⟩=some (.int .i64 primL[i].2)
 nm:∀i:Nat,(hi:i<opNames.length)→w.cell? ⟨1,i,none⟩=some (.string ⟨opNames[i].toArray⟩)
theorem LR.below{w w':World}(h:LR w)(hb:Below w.heap.size w w'):LR w':=⟨fun i hi=>pw_cell_below hb (h.ar i hi),fun i hi=>pw_cell_below hb (h.nm i hi)⟩
theorem primI_some{s:List UInt8}(h:0≤primI s):∃k:Nat,∃hk:k<primL.length,primI s=k∧arL s=some (primL[k]).2:=by
 unfold primI at *;cases hp:primK s with
 |none=>rw [hp] at h; simp at h
 |some k=>
  unfold primK at hp;obtain ⟨hlt,hk,hm⟩:=List.findIdx?_eq_some_iff_getElem.1 hp;refine ⟨k,hlt,rfl,?_⟩;unfold arL;rw [(List.find?_eq_some_iff_getElem (p:=fun p:List UInt8×Int=>p.1==s)).2 ⟨hk,k,hlt,rfl,fun j hj=>by simpa using hm j hj⟩];rfl
theorem primI_none{s:List UInt8}(h:¬ 0≤primI s):arL s=none:=by
 unfold primI at h;cases hp:primK s with
 |some k=>rw [hp] at h; simp at h
 |none=>
  unfold primK at hp;unfold arL;rw [List.findIdx?_eq_none_iff] at hp;rw [List.find?_eq_none.2 (fun x hx=>by simpa using hp x hx)];rfl
theorem refArity_calls(s:ByteArray)(w:World)(h:LR w):Calls Tryz.prog 82 #[.string s] w fun e w'=>e=.returned (.tuple #[.int .i64 ((arL s.data.toList).getD 0),.bool (arL s.data.toList).isSome])∧Below w.heap.size w w':=by
 have HP:=Lib.hid (refPrim_calls s w);have HR:=Lib.hid h;clear h;by_cases h0:0≤primI s.data.toList
 ·obtain ⟨k,hk,e1,e2⟩:=primI_some h0;rw [e2];rw [e1] at HP;clear e1 e2 h0;go_enter Tryz.func82,Tryz.ntmps82;go_wp2_with fail;refine HP.out.mono ?_;rintro e w1 ⟨rfl,hb⟩;have g:=(HR.out.below hb).ar k hk;have hk2:k<27:=hk;have HB:=Lib.hid hb;clear hb;go_wp2
  go_ret2
  exact ⟨rfl,HB.out⟩
 ·rw [primI_none h0];have hd:decide (primI s.data.toList<0)=true:=decide_eq_true (by omega);generalize primI s.data.toList=v at *;clear h0;go_enter Tryz.func82,Tryz.ntmps82;go_wp2_with fail;refine HP.out.mono ?_;rintro e w1 ⟨rfl,hb⟩;have HB:=Lib.hid hb;clear hb;go_wp2
  go_ret2
  exact ⟨rfl,HB.out⟩
theorem refName_calls(n:Int)(w:World)(h:LR w):Calls Tryz.prog 76 #[.int .i64 n] w fun e w'=>e=.returned (.string ⟨(opName n).toArray⟩)∧w=w':=by
 have HR:=Lib.hid h;clear h;cases hn:isOp n
 ·have e:opName n=[]:=by unfold opName; rw [hn]; rfl
  rw [e];have hx:n<1∨13<n:=by unfold isOp at hn; simp only [Bool.and_eq_false_iff,decide_eq_false_iff_not] at hn; omega
  clear hn e;go_enter Tryz.func76,Tryz.ntmps76;go_wp2
  all_goals first
  |omega
  |(go_ret; exact ⟨rfl,rfl⟩)
 ·have hx:1≤n∧n≤13:=by unfold isOp at hn; simpa using hn
  obtain ⟨k,rfl⟩:∃k:Nat,n=(k:Int)+1:=⟨n.toNat - 1,by omega⟩;have hk:k<opNames.length:=by show k<13; omega
  have e:opName ((k:Int)+1)=opNames[k]:=by unfold opName; rw [hn]; simp [List.getD_eq_getElem?_getD,List.getElem?_eq_getElem hk]
  rw [e];have g:=HR.out.nm k hk;have hk2:k<13:=hk;clear hn e;generalize opNames[k]=v at *;go_enter Tryz.func76,Tryz.ntmps76;go_wp2
  all_goals first
  |omega
  |(go_ret; exact ⟨rfl,rfl⟩)
theorem ends_calls(n:Int)(w:World):Calls Tryz.prog 48 #[.int .i64 n] w fun e w'=>e=.returned (.bool (opEnds n))∧w=w':=by
 unfold opEnds;go_enter Tryz.func48,Tryz.ntmps48;go_wp2
 all_goals
  go_ret;refine ⟨?_,rfl⟩
  congr 2
  simp_all
 all_goals omega
end Go.Proofs.YtjbgcpdlgplcfabGreatDoor.CJ
namespace Go.Proofs.YtjbgcpdlgplcfabGreatDoor.CJ
open Go.RowKit Go.Proofs.YtjbgcpdlgplcfabGreatDoorW.PrintWords Go.Proofs.YtjbgcpdlgplcfabGreatDoorW.PrintLast Go.Proofs.YtjbgcpdlgplcfabGreatDoor.PT Go.Proofs.YtjbgcpdlgplcfabGreatDoor.IMaps
set_option linter.unusedVariables false
set_option linter.unusedSimpArgs false
theorem zX_eq(x0 x1 x2 x3:Int)(x4:ByteArray)(x5:List Int)(x6:List GAl):zX ⟨x0,x1,x2,x3,x4,x5,x6⟩=((opHasA x0||x1==0)&&(opHasB x0||x2==0)&&(opHasN x0||x3==0)&&(opHasS x0||x4.toList==[])&&(opHasL x0||(x5.length:Int)==0)&&(x0==11||(x6.length:Int)==0)):=by
 have e1:∀ {α:Type} (l:List α),l.isEmpty=((l.length:Int)==0):=fun l=>by cases l<;>simp; omega
 unfold zX;simp only [e1,ByteArray.toList_eq]
set_option maxRecDepth 100000 in
set_option maxHeartbeats 16000000 in
theorem zero_calls(w:World)(x0 x1 x2 x3:Int)(x4:ByteArray)(x5:List Int)(x6:List GAl)(A5 A6:Option Addr)(c5 c6:Nat)(hx:1≤x0∧x0≤13):
 Calls Tryz.prog 77 #[gOp ⟨x0,x1,x2,x3,x4,x5,x6⟩ A5 A6 c5 c6] w fun e w'=>e=.returned (.bool (zX ⟨x0,x1,x2,x3,x4,x5,x6⟩))∧Below w.heap.size w w':=by
 have hx':x0=1∨x0=2∨x0=3∨x0=4∨x0=5∨x0=6∨x0=7∨x0=8∨x0=9∨x0=10∨x0=11∨x0=12∨x0=13:=by omega
 clear hx;rw [zX_eq];unfold gOp;simp only;rcases hx' with rfl|rfl|rfl|rfl|rfl|rfl|rfl|rfl|rfl|rfl|rfl|rfl|rfl
 all_goals
  go_enter Tryz.func77,Tryz.ntmps77;go_wp2
  all_goals
   go_ret;refine ⟨?_,below_alloc (Below.refl _ _) _⟩
   congr 2
   simp_all [opHasA,opHasB,opHasN,opHasS,opHasL]
theorem getD_at{α:Type}{l:List α}{z:α}{i:Nat}(hi:i<l.length):l.getD i z=l[i]:=by simp [List.getD_eq_getElem?_getD,List.getElem?_eq_getElem hi]
theorem any_next{α:Type}{p:α→Bool}{l:List α}{z:α}{i:Nat}(hi:i<l.length)(h:(l.take i).any p=false)(h2:p (l.getD i z)=false):(l.take (i+1)).any p=false:=by
 rw [getD_at hi] at h2;rw [List.take_succ_eq_append_getElem hi,List.any_append,h];simp [h2]
theorem any_hit{α:Type}{p:α→Bool}{l:List α}{z:α}{i:Nat}(hi:i<l.length)(h2:p (l.getD i z)=true):l.any p=true:=by
 rw [getD_at hi] at h2;exact List.any_eq_true.2 ⟨_,List.getElem_mem hi,h2⟩
theorem any_end{α:Type}{p:α→Bool}{l:List α}(h:(l.take l.length).any p=false):l.any p=false:=by rwa [List.take_length] at h
set_option maxRecDepth 100000 in
set_option maxHeartbeats 8000000 in
theorem chosen_calls(w:World)(A:Option Addr)(ca:Nat)(A2:Option Addr)(cb:Nat)(bs:List GBk)(gl:List GGl)(cm:CM w A ca A2 cb bs gl)(n:Int):
 Calls Tryz.prog 21 #[.agg #[.slice A bs.length ca,.slice A2 gl.length cb],.int .i64 n] w fun e w'=>e=.returned (.bool (chosenB bs n))∧Below w.heap.size w w':=by
 have hb:=below_alloc (Below.refl w.heap.size w) (.cells #[.slice A bs.length ca,.slice A2 gl.length cb] 25);have HC:=Lib.hid (Kd.C_below cm.ma hb);have HB:=Lib.hid hb;have hm:=cm.ma.2.1;unfold chosenB;generalize hP:(fun b:GBk=>b.f2.any fun g=>g.f6.any fun a=>a.f3==n)=P;have HPd:Hid (∀b,P b=b.f2.any fun g=>g.f6.any fun a=>a.f3==n):=Lib.hid fun b=>by rw [←hP]
 clear cm hb hP;go_enter Tryz.func21,Tryz.ntmps21;go_wp2
 go_loop [5] (fun v=>∃i:Nat,i≤bs.length∧v=.int .i64 i∧Aside0 ((bs.take i).any P=false)) (fun v=>bs.length - (intOf v).toNat)
 case atStart=>exact ⟨0,by omega,rfl,⟨rfl⟩⟩
 case round=>
  obtain ⟨i,hi,rfl,HA⟩:=hrel;by_cases hlt:i<bs.length;rotate_left
  ·obtain rfl:i=bs.length:=by omega
   have HE:=Lib.hid (any_end HA.out);go_wp2;go_ret;exact ⟨by rw [HE.out]; rfl,HB.out⟩
  obtain ⟨ad,A1,c1,rfl,g0,g1,g2,l1,C1⟩:=at_T50 HC.out (i:Int) (by omega) (by omega);have hrd:rd_T50 bs (i:Int)=bs.getD i z50:=by simp [rd_T50]
  rw [hrd] at g0 g1 g2 l1 C1;simp only [Int.toNat_natCast] at g2;have HN:=Lib.hid (any_next (z:=z50) hlt HA.out);have HH:=Lib.hid (any_hit (p:=P) (z:=z50) hlt);rw [HPd.out] at HN HH;generalize (bs.getD i z50).f2=ops at *;have HC1:=Lib.hid C1;have hm1:=C1.2.1;clear g0 g1 l1 C1 hrd HA;generalize hQ:(fun g:GOp=>g.f6.any fun a=>a.f3==n)=Q at *;have HQd:Hid (∀g,Q g=g.f6.any fun a=>a.f3==n):=Lib.hid fun g=>by rw [←hQ]
  clear hQ;go_wp2
  go_loop [6] (fun v=>∃k:Nat,k≤ops.length∧v=.int .i64 k∧Aside0 ((ops.take k).any Q=false)) (fun v=>ops.length - (intOf v).toNat)
  case atStart=>exact ⟨0,by omega,rfl,⟨rfl⟩⟩
  case round=>
   obtain ⟨k,hk,rfl,HA⟩:=hrel;by_cases hlk:k<ops.length;rotate_left
   ·obtain rfl:k=ops.length:=by omega
    have HE:=Lib.hid (HN.out (any_end HA.out));go_wp2;go_round
    case rel=>exact ⟨i+1,by omega,by go_num,⟨HE.out⟩⟩
    case measure=>simp [intOf]; omega
   obtain ⟨od,A5,c5,A6,c6,rfl,e0,e1,e2,e3,e4,e5,e6,l5,m5,l6,m6⟩:=at_T61 HC1.out (k:Int) (by omega) (by omega);have hrd:rd_T61 ops (k:Int)=ops.getD k z61:=by simp [rd_T61]
   rw [hrd] at e6 m6;simp only [Int.toNat_natCast] at e6;have HN2:=Lib.hid (any_next (z:=z61) hlk HA.out);have HH2:=Lib.hid (any_hit (p:=Q) (z:=z61) hlk);rw [HQd.out] at HN2 HH2;generalize (ops.getD k z61).f6=al at *;have HC2:=Lib.hid m6;have hm2:=m6.2.1;clear e0 e1 e2 e3 e4 e5 l5 m5 l6 m6 hrd HA;go_wp2
   go_loop [8] (fun v=>∃j:Nat,j≤al.length∧v=.int .i64 j∧Aside0 ((al.take j).any (fun a=>a.f3==n)=false)) (fun v=>al.length - (intOf v).toNat)
   case atStart=>exact ⟨0,by omega,rfl,⟨rfl⟩⟩
   case round=>
    obtain ⟨j,hj,rfl,HA⟩:=hrel;by_cases hlj:j<al.length;rotate_left
    ·obtain rfl:j=al.length:=by omega
     have HE:=Lib.hid (HN2.out (any_end HA.out));go_wp2;go_round
     case rel=>exact ⟨k+1,by omega,by go_num,⟨HE.out⟩⟩
     case measure=>simp [intOf]; omega
    obtain ⟨qd,rfl,q0,q1,q2,q3⟩:=at_T65 HC2.out (j:Int) (by omega) (by omega);have hrd:rd_T65 al (j:Int)=al.getD j z65:=by simp [rd_T65]
    rw [hrd] at q3;simp only [Int.toNat_natCast] at q3;have HN3:=Lib.hid (any_next (z:=z65) hlj HA.out);have HH3:=Lib.hid (any_hit (p:=fun a:GAl=>a.f3==n) (z:=z65) hlj);generalize (al.getD j z65).f3=y at *;clear q0 q1 q2 hrd HA;cases hq:(y==n)
    ·have HE:=Lib.hid (HN3.out hq);go_wp2;go_round
     case rel=>exact ⟨j+1,by omega,by go_num,⟨HE.out⟩⟩
     case measure=>simp [intOf]; omega
    ·have HE:=Lib.hid (HH.out (HH2.out (HH3.out hq)));go_wp2;go_ret;exact ⟨by rw [HE.out]; rfl,HB.out⟩
def gix(gl:List GGl)(s:ByteArray):Int:=match gl.findIdx? (fun g=>g.f0.data.toList==s.data.toList) with|some k=>k|none => -1
def GixAt(gl:List GGl)(s:ByteArray)(i:Nat):Prop:=gix gl s=match (gl.drop i).findIdx? (fun g=>g.f0.data.toList==s.data.toList) with|some k=>((k+i:Nat):Int)|none => -1
theorem GixAt.eq{gl:List GGl}{s:ByteArray}{i:Nat}(h:GixAt gl s i)(hi:i<gl.length)(he:((gl.getD i z53).f0.data.toList==s.data.toList)=true):gix gl s=i:=by
 rw [getD_at hi] at he;unfold GixAt at h;rw [h,List.drop_eq_getElem_cons hi,List.findIdx?_cons,he];simp
theorem GixAt.next{gl:List GGl}{s:ByteArray}{i:Nat}(h:GixAt gl s i)(hi:i<gl.length)(he:((gl.getD i z53).f0.data.toList==s.data.toList)=false):GixAt gl s (i+1):=by
 rw [getD_at hi] at he;unfold GixAt at *;rw [h,List.drop_eq_getElem_cons hi,List.findIdx?_cons,he];cases (gl.drop (i+1)).findIdx? (fun g=>g.f0.data.toList==s.data.toList) with
 |none=>rfl
 |some k=>simp only [Option.map_some,Bool.false_eq_true,if_false]; congr 1; omega
theorem gix_has(gl:List GGl)(i:Nat)(hi:i<gl.length):decide (gix gl (gl.getD i z53).f0<i)=hasG (gl.take i) (gl.getD i z53).f0:=by
 rw [getD_at hi];unfold gix;cases h:gl.findIdx? (fun g=>g.f0.data.toList==gl[i].f0.data.toList) with
 |none=>
  rw [List.findIdx?_eq_none_iff] at h;have:=h gl[i] (List.getElem_mem hi);simp at this
 |some k=>
  obtain ⟨hlt,hk,hm⟩:=List.findIdx?_eq_some_iff_getElem.1 h;show decide ((k:Int)<(i:Int))=_
  have hki:k≤i:=by
   by_cases hh:k≤i
   ·exact hh
   ·have:=hm i (by omega); simp at this
  by_cases hh:k<i
  ·rw [decide_eq_true (by omega)];symm;unfold hasG;rw [List.any_eq_true];refine ⟨gl[k],?_,by simpa using hk⟩;rw [List.mem_iff_getElem];exact ⟨k,by simp; omega,by simp⟩
  ·rw [decide_eq_false (by omega)];symm;unfold hasG;rw [List.any_eq_false];intro x hx;obtain ⟨j,hj,rfl⟩:=List.mem_iff_getElem.1 hx;simp only [List.length_take] at hj;have:=hm j (by omega);simpa using this
set_option maxHeartbeats 4000000 in
theorem refGlobal_calls(w:World)(A:Option Addr)(ca:Nat)(A2:Option Addr)(cb:Nat)(bs:List GBk)(gl:List GGl)(cm:CM w A ca A2 cb bs gl)(s:ByteArray):
 Calls Tryz.prog 23 #[.agg #[.slice A bs.length ca,.slice A2 gl.length cb],.string s] w fun e w'=>e=.returned (.int .i64 (gix gl s))∧Below w.heap.size w w':=by
 have hb:=below_alloc (Below.refl w.heap.size w) (.cells #[.slice A bs.length ca,.slice A2 gl.length cb] 25);have HC:=Lib.hid (Kd.C_below cm.mb hb);have HB:=Lib.hid hb;have hm:=cm.mb.2.1;clear cm hb;go_enter Tryz.func23,Tryz.ntmps23;go_wp2
 go_loop [5] (fun v=>∃i:Nat,i≤gl.length∧v=.int .i64 i∧Aside0 (GixAt gl s i)) (fun v=>gl.length - (intOf v).toNat)
 case atStart=>exact ⟨0,by omega,rfl,⟨by unfold GixAt gix; simp⟩⟩
 case round=>
  obtain ⟨i,hi,rfl,HA⟩:=hrel;by_cases hlt:i<gl.length;rotate_left
  ·obtain rfl:i=gl.length:=by omega
   have HE:Hid (gix gl s = -1):=Lib.hid (HA.out.trans (by rw [List.drop_length]; rfl));go_wp2;go_ret;exact ⟨by rw [HE.out]; rfl,HB.out⟩
  obtain ⟨ad,rfl,g0,g1⟩:=at_T53 HC.out (i:Int) (by omega) (by omega);have hrd:rd_T53 gl (i:Int)=gl.getD i z53:=by simp [rd_T53]
  rw [hrd] at g0;simp only [Int.toNat_natCast] at g0;have HN:=Lib.hid (HA.out.next hlt);have HE:=Lib.hid (HA.out.eq hlt);generalize (gl.getD i z53).f0=y at *;clear g1 hrd HA;cases hq:(y.data.toList==s.data.toList)
  ·have s1:(y.toList==s.toList)=false:=by rw [ByteArray.toList_eq,ByteArray.toList_eq]; exact hq
   have HN2:=Lib.hid (HN.out hq);clear hq HN HE;go_wp2;go_round
   case rel=>exact ⟨i+1,by omega,by go_num,⟨HN2.out⟩⟩
   case measure=>simp [intOf]; omega
  ·have s1:(y.toList==s.toList)=true:=by rw [ByteArray.toList_eq,ByteArray.toList_eq]; exact hq
   have HE2:=Lib.hid (HE.out hq);clear hq HN HE;go_wp2;go_ret;exact ⟨by rw [HE2.out]; rfl,HB.out⟩
end Go.Proofs.YtjbgcpdlgplcfabGreatDoor.CJ
