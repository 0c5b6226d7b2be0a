/- Package term: IsWord, IsByte, IsName, Arity, IsAction, IsBinary, within, Int. Conditions: the listed variables are laid. Package term: IsName. Conditions: none. -/
import Derived.Test.YtjbgcpdlgplcfabGreatDoorLW
namespace Go.Proofs.YtjbgcpdlgplcfabGreatDoor.CJ
open Go.RowKit Go.Proofs.YtjbgcpdlgplcfabGreatDoorW.PrintWords Go.Proofs.YtjbgcpdlgplcfabGreatDoor.PT Go.Proofs.YtjbgcpdlgplcfabGreatDoor.IMaps
set_option linter.unusedVariables false
set_option linter.unusedSimpArgs false
theorem isWord_calls(s:ByteArray)(w:World):Calls Tryz.prog 99 #[.string s] w fun e w'=>e=.returned (.bool (wordB s.data.toList))∧w=w':=by
 rw [←ByteArray.toList_eq];go_enter Tryz.func99,Tryz.ntmps99;go_wp2
 all_goals
  go_ret
  simp_all [wordB]
def partN(n:Int):Bool:=decide (33≤n)&&decide (n≤126) && !(n==40||n==41||n==91||n==93||n==123||n==125)
theorem u8_beq(c d:UInt8):(c==d)=((c.toNat:Int)==(d.toNat:Int)):=by
 by_cases h:c=d
 ·subst h; simp
 ·have h2:¬c.toNat=d.toNat:=fun e=>h (UInt8.toNat_inj.1 e)
  have h3:¬(c.toNat:Int)=(d.toNat:Int):=by omega
  rw [beq_eq_false_iff_ne.2 h,beq_eq_false_iff_ne.2 h3]
theorem u8_le(c d:UInt8):decide (c≤d)=decide ((c.toNat:Int)≤(d.toNat:Int)):=decide_eq_decide.2 (by rw [UInt8.le_iff_toNat_le]; omega)
theorem partB_eq(c:UInt8):partB c=partN c.toNat:=by
 unfold partB partN;simp only [u8_le,u8_beq];rfl
theorem isByte_calls(c:UInt8)(w:World):Calls Tryz.prog 100 #[.int .u8 c.toNat] w fun e w'=>e=.returned (.bool (partB c))∧w=w':=by
 rw [partB_eq];generalize (c.toNat:Int)=n;go_enter Tryz.func100,Tryz.ntmps100;go_wp2
 all_goals
  go_ret;refine ⟨?_,rfl⟩
  congr 2
  unfold partN
  simp_all
 all_goals omega
theorem arity_calls(s:ByteArray)(w:World)(h:LW w):Calls Tryz.prog 128 #[.string s] w fun e w'=>e=.returned (.tuple #[.int .i64 ((arL s.data.toList).getD 0),.bool (arL s.data.toList).isSome])∧w=w':=by
 obtain ⟨b,hc,hl⟩:=h.arity;have hk:=(hl w (Below.refl _ _)).2 s;clear hl h;go_enter Tryz.func128,Tryz.ntmps128;go_wp2
 go_ret2
 exact ⟨rfl,rfl⟩
def actionB(s:List UInt8):Bool:=(arL s).isSome && !pureB s
theorem isAction_calls(s:ByteArray)(w:World)(h:LW w):Calls Tryz.prog 129 #[.string s] w fun e w'=>e=.returned (.bool (actionB s.data.toList))∧w=w':=by
 obtain ⟨b,hc,hl⟩:=h.arity;have hk:=(hl w (Below.refl _ _)).2 s;obtain ⟨b2,hc2,hl2⟩:=h.pur;have hk2:=(hl2 w (Below.refl _ _)).2 s;clear hl h hl2;unfold actionB;generalize arL s.data.toList=a at *;generalize pureB s.data.toList=p at *;cases a<;>cases p<;>simp only [Option.getD_none,Option.getD_some,Option.isSome_none,Option.isSome_some] at hk
 all_goals
  go_enter Tryz.func129,Tryz.ntmps129;go_wp2;go_ret;exact ⟨rfl,rfl⟩
theorem pure_binary(s:List UInt8):binaryB s=(pureB s && !(s==[115,101,113]) && !(s==[116,104,114,111,119])):=by
 unfold binaryB pureB;cases h:primK s with
 |none=>rfl
 |some k=>
  unfold primK at h;have h2:=List.findIdx?_eq_some_iff_getElem.1 h;obtain ⟨hlt,hk,_⟩:=h2;have hs:(primL[k]).1=s:=by simpa using hk
  have hlen:primL.length=27:=rfl;have key:∀k:Fin 27,(decide (k.val<8))=(decide (k.val<10) && !((primL[k.val]'k.isLt).1==[115,101,113]) && !((primL[k.val]'k.isLt).1==[116,104,114,111,119])):=by decide
  have hk27:k<27:=hlt;have:=key ⟨k,hk27⟩;subst hs;exact this
set_option maxRecDepth 100000 in
theorem isBinary_calls(s:ByteArray)(w:World)(h:LW w):Calls Tryz.prog 130 #[.string s] w fun e w'=>e=.returned (.bool (binaryB s.data.toList))∧w=w':=by
 obtain ⟨b2,hc2,hl2⟩:=h.pur;have hk2:=(hl2 w (Below.refl _ _)).2 s;rw [pure_binary];rw [←ByteArray.toList_eq] at *;clear h hl2;generalize pureB s.toList=p at *;cases p
 all_goals
  go_enter Tryz.func130,Tryz.ntmps130;go_wp2
  all_goals
   go_ret
   simp_all
theorem int_calls(n:Int)(w:World):Calls Tryz.prog 148 #[.int .i64 n] w fun e w'=>e=.returned (.agg #[.int .i64 3,.int .i64 n,.string ⟨#[]⟩,.slice none 0 0,.slice none 0 0])∧Below w.heap.size w w':=by
 go_enter Tryz.func148,Tryz.ntmps148;go_wp2;exact bodyPost_ret (v:=.agg #[.int .i64 3,.int .i64 n,.string ⟨#[]⟩,.slice none 0 0,.slice none 0 0]) (by simp [results,Tryz.results148,go_sem]) rfl ⟨rfl,below_alloc (Below.refl _ _) _⟩
theorem within2_calls(n lo hi:Int)(w:World):Calls Tryz.prog 164 #[.int .i64 n,.int .i64 lo,.int .i64 hi] w fun e w'=>e=.returned (.bool (inB n lo hi))∧w=w':=by
 unfold inB;go_enter Tryz.func164,Tryz.ntmps164;go_wp2
 all_goals
  go_ret;refine ⟨?_,rfl⟩
  congr 2
  simp_all
 all_goals omega
def PartsTo(s:ByteArray)(i:Nat):Prop:=(s.data.toList.take i).all partB=true
theorem dataAt(s:ByteArray)(i:Nat)(hi:i<s.size):s.data.toList[i]'(by simpa using hi)=s[i]:=by rw [Array.getElem_toList]; rfl
theorem PartsTo.next{s:ByteArray}{i:Nat}(h:PartsTo s i)(hi:i<s.size)(hp:partB s[i]=true):PartsTo s (i+1):=by
 unfold PartsTo at *;have hl:i<s.data.toList.length:=by simpa using hi
 rw [List.take_succ_eq_append_getElem hl,List.all_append,h,dataAt s i hi];simp [hp]
theorem part_not{s:ByteArray}{i:Nat}(hi:i<s.size)(hp:partB s[i]=false):s.data.toList.all partB=false:=by
 rw [List.all_eq_false];have hl:i<s.data.toList.length:=by simpa using hi
 refine ⟨s.data.toList[i],List.getElem_mem hl,?_⟩;rw [dataAt s i hi,hp];simp
def letterN(n:Int):Bool:=decide (97≤n)&&decide (n≤122)||decide (65≤n)&&decide (n≤90)
theorem letterB_eq(c:UInt8):letterB c=letterN c.toNat:=by
 unfold letterB letterN;simp only [u8_le];rfl
theorem nameB_short{s:ByteArray}(h:s.size<1∨60<s.size):nameB s.data.toList=false:=by
 have hl:s.data.toList.length=s.size:=by simp
 unfold nameB;rw [hl];rcases h with h|h
 ·have:decide (1≤s.size)=false:=decide_eq_false (by omega);rw [this]; rfl
 ·have:decide (s.size≤60)=false:=decide_eq_false (by omega);rw [this]; simp
theorem nameB_word{s:ByteArray}(h:wordB s.data.toList=true):nameB s.data.toList=false:=by
 unfold nameB; rw [h]; simp
theorem nameB_part{s:ByteArray}(h:s.data.toList.all partB=false):nameB s.data.toList=false:=by
 unfold nameB; rw [h]; simp
def headB:List UInt8→Bool
 | []=>false
 |c::_=>letterB c
theorem headB_eq(l:List UInt8)(h:0<l.length):headB l=letterB (l[0]'h):=by
 cases l with
 |nil=>simp at h
 |cons a r=>rfl
theorem nameB_end{s:ByteArray}(h1:1≤s.size)(h2:s.size≤60)(hw:wordB s.data.toList=false)(hp:PartsTo s s.size):nameB s.data.toList=letterN s[0].toNat:=by
 have hl:s.data.toList.length=s.size:=by simp
 have hp':s.data.toList.all partB=true:=by
  unfold PartsTo at hp;rw [←hl,List.take_length] at hp;exact hp
 unfold nameB;rw [hw,hp',hl,decide_eq_true h1,decide_eq_true h2,←letterB_eq];have h0:0<s.data.toList.length:=by omega
 rw [←dataAt s 0 h1];show (true&&true && !false&&headB s.data.toList&&true)=_
 rw [headB_eq _ h0];simp
set_option maxRecDepth 100000 in
set_option maxHeartbeats 2000000 in
theorem isName_calls(s:ByteArray)(hs:s.size≤maxLen)(w:World):Calls Tryz.prog 70 #[.string s] w fun e w'=>e=.returned (.bool (nameB s.data.toList))∧w=w':=by
 unfold maxLen at hs;have HW:=Lib.hid (isWord_calls s);by_cases h1:s.size<1
 ·have HN:=Lib.hid (nameB_short (.inl h1));have hd1:decide ((s.size:Int)<1)=true:=decide_eq_true (by omega);go_enter Tryz.func70,Tryz.ntmps70;go_wp2;go_ret;exact ⟨by rw [HN.out]; rfl,rfl⟩
 ·by_cases h2:60<s.size
  ·have HN:=Lib.hid (nameB_short (.inr h2));have hd1:decide ((s.size:Int)<1)=false:=decide_eq_false (by omega);have hd2:decide ((60:Int)<s.size)=true:=decide_eq_true (by omega);go_enter Tryz.func70,Tryz.ntmps70;go_wp2;go_ret;exact ⟨by rw [HN.out]; rfl,rfl⟩
  ·have hd1:decide ((s.size:Int)<1)=false:=decide_eq_false (by omega);have hd2:decide ((60:Int)<s.size)=false:=decide_eq_false (by omega);have h1':1≤s.size:=by omega
   have h2':s.size≤60:=by omega
   have HE:Hid (wordB s.data.toList=false→PartsTo s s.size→nameB s.data.toList=letterN s[0].toNat):=Lib.hid (nameB_end h1' h2');have HWn:=Lib.hid (@nameB_word s);have HPn:Hid (∀i,(hi:i<s.size)→partB s[i]=false→nameB s.data.toList=false):=Lib.hid (fun i hi hp=>nameB_part (part_not hi hp));cases hw:wordB s.data.toList
   ·rw [hw] at HW;have HW0:=Lib.hid (HE.out hw);clear hw HE HWn h1 h2;go_enter Tryz.func70,Tryz.ntmps70;go_wp2_with fail;refine (HW.out _).mono ?_;rintro e w1 ⟨rfl,rfl⟩;go_wp2
    go_loop [18] (fun v=>∃i:Nat,i≤s.size∧v=.int .i64 i∧PartsTo s i) (fun v=>s.size - (intOf v).toNat)
    case atStart=>exact ⟨0,by omega,rfl,by simp [PartsTo]⟩
    case round=>
     obtain ⟨i,hi,rfl,HA⟩:=hrel;by_cases hlt:i<s.size
     ·have HB:=Lib.hid (fun w=>isByte_calls s[i] w);cases hp:partB s[i]
      ·rw [hp] at HB;have HF:=Lib.hid (HPn.out i hlt hp);clear hp;go_wp2_with fail;refine (HB.out _).mono ?_;rintro e w1 ⟨rfl,rfl⟩;go_wp2;go_ret;exact ⟨by rw [HF.out]; rfl,rfl⟩
      ·rw [hp] at HB;have HN:=HA.next hlt hp;clear hp;go_wp2_with fail;refine (HB.out _).mono ?_;rintro e w1 ⟨rfl,rfl⟩;go_wp2;go_round
       case rel=>exact ⟨i+1,by omega,by go_num,HN⟩
       case measure=>simp [intOf]; omega
     ·obtain rfl:i=s.size:=by omega
      have HZ:=Lib.hid (HW0.out HA);have h0:0<s.size:=by omega
      generalize hc:s[0]=c at *;go_wp2
      all_goals
       go_ret;refine ⟨?_,rfl⟩;rw [HZ.out]
       congr 2
       unfold letterN
       simp_all
      all_goals omega
   ·rw [hw] at HW;have HF:=Lib.hid (HWn.out hw);clear hw HE HWn h1 h2;go_enter Tryz.func70,Tryz.ntmps70;go_wp2_with fail;refine (HW.out _).mono ?_;rintro e w1 ⟨rfl,rfl⟩;go_wp2;go_ret;exact ⟨by rw [HF.out]; rfl,rfl⟩
end Go.Proofs.YtjbgcpdlgplcfabGreatDoor.CJ
