/- Package term: IsWord, IsByte, IsName, Arity, IsAction, IsBinary, within, Int. Conditions: the listed variables are laid. Package term: IsName. Conditions: none. -/
import Derived.Test.YtoonkkipnljflaaGreatDoorLW
namespace Go.Proofs.YtoonkkipnljflaaGreatDoor.CJ
open Go.RowKit Go.Proofs.YtoonkkipnljflaaGreatDoorW.PrintWords Go.Proofs.YtoonkkipnljflaaGreatDoor.PT Go.Proofs.YtoonkkipnljflaaGreatDoor.IMaps
set_option linter.unusedVariables false
set_option linter.unusedSimpArgs false
theorem qGz(s:ByteArray)(w:World):Calls Tryz.prog 89 #[.string s] w fun e w'=>e=.returned (.bool (qBh s.data.toList))∧w=w':=by
 rw [←ByteArray.toList_eq];go_enter Tryz.func89,Tryz.ntmps89;go_wp2
 all_goals
  go_ret
  simp_all [qBh]
def partN(n:Int):Bool:=decide (33≤n)&&decide (n≤126) && !(n==40||n==41||n==91||n==93||n==123||n==125)
theorem qG0(c d:UInt8):(c==d)=((c.toNat:Int)==(d.toNat:Int)):=by
 by_cases h:c=d
 ·subst h; simp
 ·have h2:¬c.toNat=d.toNat:=fun e=>h (UInt8.toNat_inj.1 e)
  have h3:¬(c.toNat:Int)=(d.toNat:Int):=by omega
  rw [beq_eq_false_iff_ne.2 h,beq_eq_false_iff_ne.2 h3]
theorem u8_le(c d:UInt8):decide (c≤d)=decide ((c.toNat:Int)≤(d.toNat:Int)):=decide_eq_decide.2 (by rw [UInt8.le_iff_toNat_le]; omega)
theorem qG1(c:UInt8):qAU c=partN c.toNat:=by
 unfold qAU partN;simp only [u8_le,qG0];rfl
theorem qG2(c:UInt8)(w:World):Calls Tryz.prog 90 #[.int .u8 c.toNat] w fun e w'=>e=.returned (.bool (qAU c))∧w=w':=by
 rw [qG1];generalize (c.toNat:Int)=n;go_enter Tryz.func90,Tryz.ntmps90;go_wp2
 all_goals
  go_ret;refine ⟨?_,rfl⟩
  congr 2
  unfold partN
  simp_all
 all_goals omega
theorem qH9(s:ByteArray)(w:World)(h:LW w):Calls Tryz.prog 116 #[.string s] w fun e w'=>e=.returned (.tuple #[.int .i64 ((arL s.data.toList).getD 0),.bool (arL s.data.toList).isSome])∧w=w':=by
 obtain ⟨b,hc,hl⟩:=h.arity;have hk:=(hl w (Below.refl _ _)).2 s;clear hl h;go_enter Tryz.func116,Tryz.ntmps116;go_wp2
 go_ret2
 exact ⟨rfl,rfl⟩
def qBb(s:List UInt8):Bool:=(arL s).isSome && !qBV s
theorem qFa(s:ByteArray)(w:World)(h:LW w):Calls Tryz.prog 117 #[.string s] w fun e w'=>e=.returned (.bool (qBb s.data.toList))∧w=w':=by
 obtain ⟨b,hc,hl⟩:=h.arity;have hk:=(hl w (Below.refl _ _)).2 s;obtain ⟨b2,hc2,hl2⟩:=h.pur;have hk2:=(hl2 w (Below.refl _ _)).2 s;clear hl h hl2;unfold qBb;generalize arL s.data.toList=a at *;generalize qBV s.data.toList=p at *;cases a<;>cases p<;>simp only [Option.getD_none,Option.getD_some,Option.isSome_none,Option.isSome_some] at hk
 all_goals
  go_enter Tryz.func117,Tryz.ntmps117;go_wp2;go_ret;exact ⟨rfl,rfl⟩
theorem qIA(s:List UInt8):qBB s=(qBV s && !(s==[115,101,113]) && !(s==[116,104,114,111,119])):=by
 unfold qBB qBV;cases h:Qu s with
 |none=>rfl
 |some k=>
  unfold Qu at h;have h2:=List.findIdx?_eq_some_iff_getElem.1 h;obtain ⟨hlt,hk,_⟩:=h2;have hs:(QC[k]).1=s:=by simpa using hk
  have hlen:QC.length=27:=rfl;have key:∀k:Fin 27,(decide (k.val<8))=(decide (k.val<10) && !((QC[k.val]'k.isLt).1==[115,101,113]) && !((QC[k.val]'k.isLt).1==[116,104,114,111,119])):=by decide
  have hk27:k<27:=hlt;have:=key ⟨k,hk27⟩;subst hs;exact this
set_option maxRecDepth 100000 in
theorem qFb(s:ByteArray)(w:World)(h:LW w):Calls Tryz.prog 118 #[.string s] w fun e w'=>e=.returned (.bool (qBB s.data.toList))∧w=w':=by
 obtain ⟨b2,hc2,hl2⟩:=h.pur;have hk2:=(hl2 w (Below.refl _ _)).2 s;rw [qIA];rw [←ByteArray.toList_eq] at *;clear h hl2;generalize qBV s.toList=p at *;cases p
 all_goals
  go_enter Tryz.func118,Tryz.ntmps118;go_wp2
  all_goals
   go_ret
   simp_all
theorem qDf(n:Int)(w:World):Calls Tryz.prog 138 #[.int .i64 n] w fun e w'=>e=.returned (.agg #[.int .i64 3,.int .i64 n,.string ⟨#[]⟩,.slice none 0 0,.slice none 0 0])∧Below w.heap.size w w':=by
 go_enter Tryz.func138,Tryz.ntmps138;go_wp2;exact bodyPost_ret (v:=.agg #[.int .i64 3,.int .i64 n,.string ⟨#[]⟩,.slice none 0 0,.slice none 0 0]) (by simp [results,Tryz.results138,go_sem]) rfl ⟨rfl,qC (Below.refl _ _) _⟩
theorem qCD(n lo hi:Int)(w:World):Calls Tryz.prog 168 #[.int .i64 n,.int .i64 lo,.int .i64 hi] w fun e w'=>e=.returned (.bool (inB n lo hi))∧w=w':=by
 unfold inB;go_enter Tryz.func168,Tryz.ntmps168;go_wp2
 all_goals
  go_ret;refine ⟨?_,rfl⟩
  congr 2
  simp_all
 all_goals omega
def qAL(s:ByteArray)(i:Nat):Prop:=(s.data.toList.take i).all qAU=true
theorem qB7(s:ByteArray)(i:Nat)(hi:i<s.size):s.data.toList[i]'(by simpa using hi)=s[i]:=by rw [Array.getElem_toList]; rfl
theorem qAL.next{s:ByteArray}{i:Nat}(h:qAL s i)(hi:i<s.size)(hp:qAU s[i]=true):qAL s (i+1):=by
 unfold qAL at *;have hl:i<s.data.toList.length:=by simpa using hi
 rw [List.take_succ_eq_append_getElem hl,List.all_append,h,qB7 s i hi];simp [hp]
theorem qG3{s:ByteArray}{i:Nat}(hi:i<s.size)(hp:qAU s[i]=false):s.data.toList.all qAU=false:=by
 rw [List.all_eq_false];have hl:i<s.data.toList.length:=by simpa using hi
 refine ⟨s.data.toList[i],List.getElem_mem hl,?_⟩;rw [qB7 s i hi,hp];simp
def qAs(n:Int):Bool:=decide (97≤n)&&decide (n≤122)||decide (65≤n)&&decide (n≤90)
theorem qEq(c:UInt8):qCx c=qAs c.toNat:=by
 unfold qCx qAs;simp only [u8_le];rfl
theorem qCp{s:ByteArray}(h:s.size<1∨60<s.size):qe s.data.toList=false:=by
 have hl:s.data.toList.length=s.size:=by simp
 unfold qe;rw [hl];rcases h with h|h
 ·have:decide (1≤s.size)=false:=decide_eq_false (by omega);rw [this]; rfl
 ·have:decide (s.size≤60)=false:=decide_eq_false (by omega);rw [this]; simp
theorem qEr{s:ByteArray}(h:qBh s.data.toList=true):qe s.data.toList=false:=by
 unfold qe; rw [h]; simp
theorem qEs{s:ByteArray}(h:s.data.toList.all qAU=false):qe s.data.toList=false:=by
 unfold qe; rw [h]; simp
def headB:List UInt8→Bool
 | []=>false
 |c::_=>qCx c
theorem qG4(l:List UInt8)(h:0<l.length):headB l=qCx (l[0]'h):=by
 cases l with
 |nil=>simp at h
 |cons a r=>rfl
theorem qFx{s:ByteArray}(h1:1≤s.size)(h2:s.size≤60)(hw:qBh s.data.toList=false)(hp:qAL s s.size):qe s.data.toList=qAs s[0].toNat:=by
 have hl:s.data.toList.length=s.size:=by simp
 have hp':s.data.toList.all qAU=true:=by
  unfold qAL at hp;rw [←hl,List.take_length] at hp;exact hp
 unfold qe;rw [hw,hp',hl,decide_eq_true h1,decide_eq_true h2,←qEq];have h0:0<s.data.toList.length:=by omega
 rw [←qB7 s 0 h1];show (true&&true && !false&&headB s.data.toList&&true)=_
 rw [qG4 _ h0];simp
set_option maxRecDepth 100000 in
set_option maxHeartbeats 2000000 in
theorem qA5(s:ByteArray)(hs:s.size≤maxLen)(w:World):Calls Tryz.prog 64 #[.string s] w fun e w'=>e=.returned (.bool (qe s.data.toList))∧w=w':=by
 unfold maxLen at hs;have HW:=Lib.hid (qGz s);by_cases h1:s.size<1
 ·have HN:=Lib.hid (qCp (.inl h1));have hd1:decide ((s.size:Int)<1)=true:=decide_eq_true (by omega);go_enter Tryz.func64,Tryz.ntmps64;go_wp2;go_ret;exact ⟨by rw [HN.out]; rfl,rfl⟩
 ·by_cases h2:60<s.size
  ·have HN:=Lib.hid (qCp (.inr h2));have hd1:decide ((s.size:Int)<1)=false:=decide_eq_false (by omega);have hd2:decide ((60:Int)<s.size)=true:=decide_eq_true (by omega);go_enter Tryz.func64,Tryz.ntmps64;go_wp2;go_ret;exact ⟨by rw [HN.out]; rfl,rfl⟩
  ·have hd1:decide ((s.size:Int)<1)=false:=decide_eq_false (by omega);have hd2:decide ((60:Int)<s.size)=false:=decide_eq_false (by omega);have h1':1≤s.size:=by omega
   have h2':s.size≤60:=by omega
   have HE:Hid (qBh s.data.toList=false→qAL s s.size→qe s.data.toList=qAs s[0].toNat):=Lib.hid (qFx h1' h2');have HWn:=Lib.hid (@qEr s);have HPn:Hid (∀i,(hi:i<s.size)→qAU s[i]=false→qe s.data.toList=false):=Lib.hid (fun i hi hp=>qEs (qG3 hi hp));cases hw:qBh s.data.toList
   ·rw [hw] at HW;have HW0:=Lib.hid (HE.out hw);clear hw HE HWn h1 h2;go_enter Tryz.func64,Tryz.ntmps64;go_wp2_with fail;refine (HW.out _).mono ?_;rintro e w1 ⟨rfl,rfl⟩;go_wp2
    go_loop [18] (fun v=>∃i:Nat,i≤s.size∧v=.int .i64 i∧qAL s i) (fun v=>s.size - (intOf v).toNat)
    case atStart=>exact ⟨0,by omega,rfl,by simp [qAL]⟩
    case round=>
     obtain ⟨i,hi,rfl,HA⟩:=hrel;by_cases hlt:i<s.size
     ·have HB:=Lib.hid (fun w=>qG2 s[i] w);cases hp:qAU s[i]
      ·rw [hp] at HB;have HF:=Lib.hid (HPn.out i hlt hp);clear hp;go_wp2_with fail;refine (HB.out _).mono ?_;rintro e w1 ⟨rfl,rfl⟩;go_wp2;go_ret;exact ⟨by rw [HF.out]; rfl,rfl⟩
      ·rw [hp] at HB;have HN:=HA.next hlt hp;clear hp;go_wp2_with fail;refine (HB.out _).mono ?_;rintro e w1 ⟨rfl,rfl⟩;go_wp2;go_round
       case rel=>exact ⟨i+1,by omega,by go_num,HN⟩
       case measure=>simp [intOf]; omega
     ·obtain rfl:i=s.size:=by omega
      have HZ:=Lib.hid (HW0.out HA);have h0:0<s.size:=by omega
      generalize hc:s[0]=c at *;go_wp2
      all_goals
       go_ret;refine ⟨?_,rfl⟩;rw [HZ.out]
       congr 2
       unfold qAs
       simp_all
      all_goals omega
   ·rw [hw] at HW;have HF:=Lib.hid (HWn.out hw);clear hw HE HWn h1 h2;go_enter Tryz.func64,Tryz.ntmps64;go_wp2_with fail;refine (HW.out _).mono ?_;rintro e w1 ⟨rfl,rfl⟩;go_wp2;go_ret;exact ⟨by rw [HF.out]; rfl,rfl⟩
end Go.Proofs.YtoonkkipnljflaaGreatDoor.CJ
