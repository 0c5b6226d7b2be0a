/- The reader: it lies in memory with the bytes that are left; the methods next, big. Conditions: the reader lies in memory; its bytes take at most 200000. The reader's methods num, integer, count, str, nums. Conditions: the reader lies in memory; its bytes take at most 200000. -/
import Derived.Test.YtoonkkipnljflaaGreatDoorK8
import Derived.Test.YtoonkkipnljflaaGreatDoorSh
namespace Go.Proofs.YtoonkkipnljflaaGreatDoor.CJ
open Go.RowKit Go.Proofs.YtoonkkipnljflaaGreatDoorW.PrintWords Go.Proofs.YtoonkkipnljflaaGreatDoorW.PrintLast Go.Proofs.YtoonkkipnljflaaGreatDoor.PT Go.Proofs.YtoonkkipnljflaaGreatDoor.IMaps Go.Proofs.YtoonkkipnljflaaGreatDoor.TJ
set_option linter.unusedVariables false
set_option linter.unusedSimpArgs false
def LE20(n:Nat):Prop:=n≤200000
def RD(w:World)(q:Nat)(l:List UInt8):Prop:=LE20 l.length∧w.heap[q]? = some (.cells #[.string ⟨l.toArray⟩] 45 (0,0))
def Tch(q:Nat)(w w':World):Prop:=w.grownBy w' (some q)
theorem Tch.refl(q:Nat)(w:World):Tch q w w:=⟨rfl,rfl,rfl,Nat.le_refl _,fun _ _ _=>rfl⟩
theorem Tch.trans{q:Nat}{w w1 w2:World}(h1:Tch q w w1)(h2:Tch q w1 w2):Tch q w w2:=
 ⟨h2.os.trans h1.os,h2.tape.trans h1.tape,h2.output.trans h1.output,Nat.le_trans h1.size h2.size,fun k hk hn=>(h2.block k (Nat.lt_of_lt_of_le hk h1.size) hn).trans (h1.block k hk hn)⟩
theorem Tch.of{q:Nat}{w w1:World}(h:Below w.heap.size w w1):Tch q w w1:=⟨h.os,h.tape,h.output,h.size,fun k hk _=>h.block k hk⟩
theorem Tch.grow{q:Nat}{w w1 w2:World}{row:Option Nat}(h:Tch q w w1)(hg:w1.grownBy w2 row)(hr:∀k,row=some k→k=q∨w.heap.size≤k):Tch q w w2:=
 ⟨hg.os.trans h.os,hg.tape.trans h.tape,hg.output.trans h.output,Nat.le_trans h.size hg.size,fun k hk hn=>(hg.block k (Nat.lt_of_lt_of_le hk h.size) (fun e=>by
  rcases hr k e.symm with e2|e2
  ·exact hn (by rw [e2])
  ·omega)).trans (h.block k hk hn)⟩
theorem Tch.below{q B:Nat}{w w1:World}(h:Tch q w w1)(hq:B≤q)(hB:B≤w.heap.size):Below B w w1:=by
 have:=h.size;exact (Below.refl B w).grown h hB (fun k e=>by cases e; exact hq)
theorem RD.lt{w:World}{q:Nat}{l:List UInt8}(h:RD w q l):q<w.heap.size:=(Array.getElem?_eq_some_iff.1 h.2).1
theorem RD.below{w w':World}{q:Nat}{l:List UInt8}(h:RD w q l)(hb:Below w.heap.size w w'):RD w' q l:=⟨h.1,(hb.block _ h.lt).trans h.2⟩
theorem RD.put{w:World}{q:Nat}{l:List UInt8}(h:RD w q l)(l':List UInt8)(hl:LE20 l'.length):RD (w.setCell ⟨q,0,none⟩ (.string ⟨l'.toArray⟩)) q l'∧Tch q w (w.setCell ⟨q,0,none⟩ (.string ⟨l'.toArray⟩)):=by
 refine ⟨⟨hl,?_⟩,rfl,rfl,rfl,by simp [World.setCell],fun k _ hk=>Below.heap_setCell _ _ _ _ (fun e=>hk (by simp [e]))⟩;simp [World.setCell,Array.getElem?_modify,h.2]
def qA8{α:Type}(q:Nat)(w:World)(P:World→α→Value→Prop):Option (α×List UInt8)→Ending→World→Prop
 |some (x,r),e,w'=>∃v,e=.returned v∧P w' x v∧RD w' q r∧Tch q w w'
 |none,e,w'=>e=.panicked qAJ∧Tch q w w'
def Qj:List UInt8→Option (UInt8×List UInt8)
 | []=>none
 |b::r=>some (b,r)
def pByte(_:World)(b:UInt8)(v:Value):Prop:=v=.int .u8 b.toNat
def pNat(_:World)(n:Nat)(v:Value):Prop:=v=.int .u64 n∧n≤18446744073709551615
def pInt(_:World)(n:Int)(v:Value):Prop:=v=.int .i64 n
theorem cut1(b:UInt8)(r:List UInt8):(⟨(b::r).toArray⟩:ByteArray).extract 1 (⟨(b::r).toArray⟩:ByteArray).size=⟨r.toArray⟩:=by
 rw [Lib.extract_from]; rfl
set_option maxRecDepth 100000 in
set_option maxHeartbeats 2000000 in
theorem qDA(w:World)(q:Nat)(l:List UInt8)(h:RD w q l):
 Calls Tryz.prog 85 #[.pointer (some ⟨q,0,none⟩)] w (qA8 q w pByte (Qj l)):=by
 have d0:=qD h.2 (i:=0) rfl;have f0:=qH h.2 0;have hl:=h.1;unfold LE20 at hl;cases l with
 |nil=>
  go_enter Tryz.func85,Tryz.ntmps85;go_wp2_with fail;refine (qG _).mono ?_;rintro e w1 ⟨rfl,rfl⟩;go_wp2;exact ⟨rfl,rfl,Tch.refl _ _⟩
 |cons b r=>
  have hN:=Lib.hid (h.put r (by have:=h.1; unfold LE20 at *; simp only [List.length_cons] at this; omega));have hcut:=cut1 b r;simp only [ByteArray.size,List.size_toArray,List.length_cons] at hcut;clear h;go_enter Tryz.func85,Tryz.ntmps85;go_wp2_with fail;refine (qL _).mono ?_;rintro e w1 ⟨rfl,rfl⟩;go_wp2;go_ret;exact ⟨_,rfl,rfl,hN.out.1,hN.out.2⟩
def bigF:Nat→List UInt8→Option (Nat×List UInt8)
 | 0,_=>none
 |_+1,[]=>none
 |n+1,b::r=>if b.toNat<128 then some (b.toNat,r) else (bigF n r).map fun p=>(b.toNat % 128+128*p.1,p.2)
def bigR(l:List UInt8):Option (Nat×List UInt8):=(bigF 10 l).map fun p=>(p.1 % 18446744073709551616,p.2)
def bigS(k acc:Nat)(l:List UInt8):Option (Nat×List UInt8):=(bigF (10 - k) l).map fun p=>((acc+128 ^ k*p.1) % 18446744073709551616,p.2)
theorem qF6(l:List UInt8):bigS 0 0 l=bigR l:=by unfold bigS bigR; simp
def orN(k acc:Nat)(b:UInt8):Nat:=(acc+128 ^ k*(b.toNat % 128)) % 18446744073709551616
theorem or_nat(k acc c:Nat)(hk:k<10)(h1:acc<128 ^ k):acc ||| (c*2 ^ (7*k) % 18446744073709551616)=(acc+128 ^ k*c) % 18446744073709551616:=by
 have hp:(128:Nat) ^ k=2 ^ (7*k):=by rw [Nat.pow_mul]
 have h64:(18446744073709551616:Nat)=2 ^ (7*k)*2 ^ (64 - 7*k):=by rw [←Nat.pow_add,show 7*k+(64 - 7*k)=64 from by omega]
 have e1:c*2 ^ (7*k) % 18446744073709551616=2 ^ (7*k)*(c % 2 ^ (64 - 7*k)):=by
  rw [Nat.mul_comm,h64,Nat.mul_mod_mul_left]
 have e4:acc+2 ^ (7*k)*(c % 2 ^ (64 - 7*k))<18446744073709551616:=by
  have hc:c % 2 ^ (64 - 7*k)+1≤2 ^ (64 - 7*k):=Nat.mod_lt _ (Nat.two_pow_pos _);have:=Nat.mul_le_mul_left (2 ^ (7*k)) hc;rw [Nat.mul_add,Nat.mul_one,←h64] at this;rw [hp] at h1;omega
 have e3:(2 ^ (7*k)*(c % 2 ^ (64 - 7*k))) ||| acc=2 ^ (7*k)*(c % 2 ^ (64 - 7*k))+acc:=(Nat.two_pow_add_eq_or_of_lt (by rw [←hp]; exact h1) _).symm
 rw [e1,Nat.or_comm,e3,hp,Nat.mul_comm (2 ^ (7*k)) c,←Nat.add_mod_mod,e1,Nat.mod_eq_of_lt e4,Nat.add_comm]
theorem wrap64(n:Nat):IntKind.u64.wrap (n:Int)=((n % 18446744073709551616:Nat):Int):=by
 simp [IntKind.wrap,IntKind.bits,IntKind.signed]
theorem or_fact(k acc:Nat)(b:UInt8)(hk:k<10)(h1:acc<128 ^ k)(h2:acc<18446744073709551616):bits BinOp.or IntKind.u64 (acc:Int) (IntKind.u64.wrap ((b.toNat:Int) % 128*2 ^ (7*k)))=(orN k acc b:Int):=by
 have ec:((b.toNat:Int) % 128*2 ^ (7*k))=(((b.toNat % 128)*2 ^ (7*k):Nat):Int):=by simp
 have hor:=or_nat k acc (b.toNat % 128) hk h1;have hlt:(acc+128 ^ k*(b.toNat % 128)) % 18446744073709551616<18446744073709551616:=Nat.mod_lt _ (by decide);rw [ec,wrap64];unfold orN;have hy:b.toNat % 128*2 ^ (7*k) % 18446744073709551616<18446744073709551616:=Nat.mod_lt _ (by decide);generalize b.toNat % 128*2 ^ (7*k) % 18446744073709551616=y at *;rw [←hor] at hlt ⊢;have e:bits BinOp.or IntKind.u64 (acc:Int) (y:Int)=IntKind.u64.wrap (((BitVec.ofInt 64 (acc:Int)) ||| (BitVec.ofInt 64 (y:Int))).toNat:Int):=rfl;rw [e,BitVec.ofInt_natCast,BitVec.ofInt_natCast,BitVec.toNat_or,BitVec.toNat_ofNat,BitVec.toNat_ofNat,Nat.mod_eq_of_lt h2,Nat.mod_eq_of_lt hy,wrap64,Nat.mod_eq_of_lt hlt]
theorem qHE(k acc:Nat)(b:UInt8):orN k acc b<18446744073709551616:=Nat.mod_lt _ (by decide)
theorem orN_pow(k acc:Nat)(b:UInt8)(h:acc<128 ^ k):orN k acc b<128 ^ (k+1):=by
 have h1:orN k acc b≤acc+128 ^ k*(b.toNat % 128):=Nat.mod_le _ _;have h2:b.toNat % 128≤127:=by omega
 have h3:=Nat.mul_le_mul_left (128 ^ k) h2;rw [Nat.pow_succ];omega
theorem qF7(k acc:Nat)(b:UInt8)(r:List UInt8)(hk:k<10)(hb:¬b.toNat<128):bigS k acc (b::r)=bigS (k+1) (orN k acc b) r:=by
 unfold bigS orN;obtain ⟨m,hm⟩:∃m,10 - k=m+1:=⟨9 - k,by omega⟩;have hm2:10 - (k+1)=m:=by omega
 rw [hm,hm2];show ((if b.toNat<128 then some (b.toNat,r) else (bigF m r).map fun p=>(b.toNat % 128+128*p.1,p.2)).map _)=_
 rw [if_neg hb,Option.map_map]
 congr 1
 funext p
 simp only [Function.comp]
 congr 1
 rw [Nat.mod_add_mod,Nat.mul_add,Nat.pow_succ,Nat.mul_assoc,Nat.add_assoc]
theorem qF8(k acc:Nat)(b:UInt8)(r:List UInt8)(hk:k<10)(hb:b.toNat<128):bigS k acc (b::r)=some (orN k acc b,r):=by
 unfold bigS orN;obtain ⟨m,hm⟩:∃m,10 - k=m+1:=⟨9 - k,by omega⟩;rw [hm];show ((if b.toNat<128 then some (b.toNat,r) else (bigF m r).map fun p=>(b.toNat % 128+128*p.1,p.2)).map _)=_
 rw [if_pos hb,Option.map_some,Nat.mod_eq_of_lt hb]
theorem qHF(k acc:Nat):bigS k acc []=none:=by
 unfold bigS;cases 10 - k<;>rfl
theorem bigS_ten(acc:Nat)(r:List UInt8):bigS 10 acc r=none:=rfl
set_option maxRecDepth 100000 in
set_option maxHeartbeats 4000000 in
theorem qF9(w:World)(q:Nat)(l:List UInt8)(h:RD w q l):
 Calls Tryz.prog 62 #[.pointer (some ⟨q,0,none⟩)] w (qA8 q w pNat (bigR l)):=by
 have H:=qB.mk (And.intro h (Tch.refl q w));clear h;go_enter Tryz.func62,Tryz.ntmps62;go_wp2
 go_loopw [3,6] (fun av v wr=>∃k acc:Nat,∃r:List UInt8,k≤10∧av=.int .u64 acc∧v=.int .i64 k∧Hid (bigR l=bigS k acc r∧acc<128 ^ k∧acc<18446744073709551616)∧qB (RD wr q r∧Tch q w wr)) (fun _ v _=>10 - (intOf v).toNat)
 case atStart=>exact ⟨0,0,l,by omega,rfl,rfl,Lib.hid ⟨(qF6 l).symm,by decide,by decide⟩,H⟩
 case round=>
  obtain ⟨k,acc,r,hk,rfl,rfl,HK,HP⟩:=hrel;clear H;by_cases hlt:k<10
  ·have hn:=Lib.hid (qDA wr q r HP.out.1);cases r with
   |nil=>
    have HE:=Lib.hid ((HK.out.1).trans (qHF k acc));generalize bigR l=R at *;go_wp2_with fail;refine hn.out.mono ?_;rintro e w2 ⟨rfl,hT⟩;go_wp2;refine ⟨rfl,?_⟩;rw [HE.out];exact ⟨rfl,HP.out.2.trans hT⟩
   |cons b r=>
    have hor:=or_fact k acc b hlt HK.out.2.1 HK.out.2.2;by_cases hb:b.toNat<128
    ·have HE:=Lib.hid ((HK.out.1).trans (qF8 k acc b r hlt hb));have hN:=qHE k acc b;have hdb:decide ((b.toNat:Int)<128)=true:=decide_eq_true (by omega);generalize bigR l=R at *;generalize orN k acc b=N at *;clear HK;go_wp2_with fail;refine hn.out.mono ?_;rintro e w2 ⟨v,rfl,rfl,hR,hT⟩;have HR:=qB.mk (And.intro hR (HP.out.2.trans hT));clear hR hT;go_wp2;go_ret;rw [HE.out];exact ⟨_,rfl,⟨rfl,by omega⟩,HR.out.1,HR.out.2⟩
    ·have HN:=Lib.hid (And.intro ((HK.out.1).trans (qF7 k acc b r hlt hb)) (And.intro (orN_pow k acc b HK.out.2.1) (qHE k acc b)));have hdb:decide ((b.toNat:Int)<128)=false:=decide_eq_false (by omega);generalize bigR l=R at *;generalize orN k acc b=N at *;clear HK;go_wp2_with fail;refine hn.out.mono ?_;rintro e w2 ⟨v,rfl,rfl,hR,hT⟩;have HR:=qB.mk (And.intro hR (HP.out.2.trans hT));clear hR hT;go_wp2;go_roundw
     case rel=>exact ⟨k+1,N,r,by omega,rfl,by go_num,HN,HR⟩
     case measure=>simp [intOf]; omega
  ·obtain rfl:k=10:=by omega
   have HE:=Lib.hid ((HK.out.1).trans (bigS_ten acc r));generalize bigR l=R at *;go_wp2;refine ⟨rfl,?_⟩;rw [HE.out];exact ⟨rfl,HP.out.2⟩
def qJ{α β:Type}(o:Option (α×List UInt8))(f:α→List UInt8→Option (β×List UInt8)):Option (β×List UInt8):=match o with|some p=>f p.1 p.2|none=>none
def numR(l:List UInt8):Option (Int×List UInt8):=match bigR l with|some (n,r)=>if n≤4611686018427387904 then some ((n:Int),r) else none|none=>none
def Qd(n:Nat):Int:=if n % 2=1 then -((n / 2:Nat):Int) - 1 else ((n / 2:Nat):Int)
def qb(l:List UInt8):Option (Int×List UInt8):=match bigR l with|some (n,r)=>some (Qd n,r)|none=>none
def qW(l:List UInt8):Option (Int×List UInt8):=match numR l with|some (n,r)=>if n≤r.length then some (n,r) else none|none=>none
def strR(l:List UInt8):Option (ByteArray×List UInt8):=match qW l with|some (n,r)=>some (⟨(r.take n.toNat).toArray⟩,r.drop n.toNat)|none=>none
def pNum(_:World)(n:Int)(v:Value):Prop:=v=.int .i64 n∧0≤n∧n≤4611686018427387904
def pI64(_:World)(n:Int)(v:Value):Prop:=v=.int .i64 n ∧ -9223372036854775808≤n∧n≤9223372036854775807
def pCount(l:List UInt8)(_:World)(n:Int)(v:Value):Prop:=v=.int .i64 n∧0≤n∧n≤l.length
theorem qIj:∀(n:Nat) (l:List UInt8) (p:Nat×List UInt8),bigF n l=some p→p.2.length<l.length
 | 0,_,_,h=>by simp [bigF] at h
 |n+1,[],_,h=>by simp [bigF] at h
 |n+1,b::r,p,h=>by
  unfold bigF at h;split at h
  ·simp only [Option.some.injEq] at h; subst h; simp
  ·obtain ⟨q,hq,rfl⟩:=Option.map_eq_some_iff.1 h;have:=qIj n r q hq;simp only [List.length_cons]; omega
theorem qIk{l:List UInt8}{n:Nat}{r:List UInt8}(h:bigR l=some (n,r)):r.length<l.length:=by
 obtain ⟨q,hq,e⟩:=Option.map_eq_some_iff.1 h;have:=qIj _ _ _ hq;simp only [Prod.mk.injEq] at e;rw [←e.2]; exact this
theorem QM{l:List UInt8}{n:Int}{r:List UInt8}(h:numR l=some (n,r)):r.length<l.length:=by
 unfold numR at h;cases hb:bigR l with
 |none=>rw [hb] at h; cases h
 |some p=>
  obtain ⟨m,r2⟩:=p;rw [hb] at h;simp only at h;split at h
  ·simp only [Option.some.injEq,Prod.mk.injEq] at h; rw [←h.2]; exact qIk hb
  ·cases h
theorem qBU{l:List UInt8}{n:Int}{r:List UInt8}(h:qb l=some (n,r)):r.length<l.length:=by
 unfold qb at h;cases hb:bigR l with
 |none=>rw [hb] at h; cases h
 |some p=>
  obtain ⟨m,r2⟩:=p;rw [hb] at h;simp only [Option.some.injEq,Prod.mk.injEq] at h;rw [←h.2]; exact qIk hb
theorem QX{l:List UInt8}{n:Int}{r:List UInt8}(h:qW l=some (n,r)):r.length<l.length:=by
 unfold qW at h;cases hb:numR l with
 |none=>rw [hb] at h; cases h
 |some p=>
  obtain ⟨m,r2⟩:=p;rw [hb] at h;simp only at h;split at h
  ·simp only [Option.some.injEq,Prod.mk.injEq] at h; rw [←h.2]; exact QM hb
  ·cases h
theorem qBv{l:List UInt8}{s:ByteArray}{r:List UInt8}(h:strR l=some (s,r)):r.length<l.length:=by
 unfold strR at h;cases hb:qW l with
 |none=>rw [hb] at h; cases h
 |some p=>
  obtain ⟨m,r2⟩:=p;rw [hb] at h;simp only [Option.some.injEq,Prod.mk.injEq] at h;rw [←h.2,List.length_drop]; have:=QX hb; omega
set_option maxRecDepth 100000 in
set_option maxHeartbeats 2000000 in
theorem Q7(w:World)(q:Nat)(l:List UInt8)(h:RD w q l):
 Calls Tryz.prog 35 #[.pointer (some ⟨q,0,none⟩)] w (qA8 q w pNum (numR l)):=by
 have hbig:=qF9 w q l h;clear h;unfold numR;cases hb:bigR l with
 |none=>
  rw [hb] at hbig;have HB:=Lib.hid hbig;clear hbig hb;go_enter Tryz.func35,Tryz.ntmps35;go_wp2_with fail;refine HB.out.mono ?_;rintro e w1 ⟨rfl,hT⟩;go_wp2;exact ⟨rfl,rfl,hT⟩
 |some p=>
  obtain ⟨n,r⟩:=p;rw [hb] at hbig;have HB:=Lib.hid hbig;clear hbig hb;by_cases hn:n≤4611686018427387904
  ·have hd:decide ((n:Int)≤4611686018427387904)=true:=decide_eq_true (by omega);simp only [if_pos hn];go_enter Tryz.func35,Tryz.ntmps35;go_wp2_with fail;refine HB.out.mono ?_;rintro e w1 ⟨v,rfl,⟨rfl,_⟩,hR,hT⟩;go_wp2_with fail;refine (qL _).mono ?_;rintro e w2 ⟨rfl,rfl⟩;go_wp2;go_ret;exact ⟨_,rfl,⟨by go_num,by omega,by omega⟩,hR,hT⟩
  ·have hd:decide ((n:Int)≤4611686018427387904)=false:=decide_eq_false (by omega);simp only [if_neg hn];go_enter Tryz.func35,Tryz.ntmps35;go_wp2_with fail;refine HB.out.mono ?_;rintro e w1 ⟨v,rfl,⟨rfl,_⟩,hR,hT⟩;go_wp2_with fail;refine (qG _).mono ?_;rintro e w2 ⟨rfl,rfl⟩;go_wp2;exact ⟨rfl,rfl,hT⟩
set_option maxRecDepth 100000 in
set_option maxHeartbeats 2000000 in
theorem qDV(w:World)(q:Nat)(l:List UInt8)(h:RD w q l):
 Calls Tryz.prog 86 #[.pointer (some ⟨q,0,none⟩)] w (qA8 q w pI64 (qb l)):=by
 have hbig:=qF9 w q l h;clear h;unfold qb;cases hb:bigR l with
 |none=>
  rw [hb] at hbig;have HB:=Lib.hid hbig;clear hbig hb;go_enter Tryz.func86,Tryz.ntmps86;go_wp2_with fail;refine HB.out.mono ?_;rintro e w1 ⟨rfl,hT⟩;go_wp2;exact ⟨rfl,rfl,hT⟩
 |some p=>
  obtain ⟨n,r⟩:=p;rw [hb] at hbig;have HB:=Lib.hid hbig;clear hbig hb;by_cases hn:n % 2=1
  ·have hd:decide ((n:Int) % 2=1)=true:=decide_eq_true (by omega);have hd2:((n:Int) % 2==1)=true:=by simp; omega
   have hu:Qd n = -((n / 2:Nat):Int) - 1:=by unfold Qd; rw [if_pos hn]
   go_enter Tryz.func86,Tryz.ntmps86;go_wp2_with fail;refine HB.out.mono ?_;rintro e w1 ⟨v,rfl,⟨rfl,hle⟩,hR,hT⟩;go_wp2;go_ret;exact ⟨_,rfl,⟨by rw [hu]; go_num,by rw [hu]; omega,by rw [hu]; omega⟩,hR,hT⟩
  ·have hd:decide ((n:Int) % 2=1)=false:=decide_eq_false (by omega);have hd2:((n:Int) % 2==1)=false:=by simp; omega
   have hu:Qd n=((n / 2:Nat):Int):=by unfold Qd; rw [if_neg hn]
   go_enter Tryz.func86,Tryz.ntmps86;go_wp2_with fail;refine HB.out.mono ?_;rintro e w1 ⟨v,rfl,⟨rfl,hle⟩,hR,hT⟩;go_wp2;go_ret;exact ⟨_,rfl,⟨by rw [hu]; go_num,by rw [hu]; omega,by rw [hu]; omega⟩,hR,hT⟩
set_option maxRecDepth 100000 in
set_option maxHeartbeats 2000000 in
theorem qAu(w:World)(q:Nat)(l:List UInt8)(h:RD w q l):
 Calls Tryz.prog 33 #[.pointer (some ⟨q,0,none⟩)] w (qA8 q w (pCount l) (qW l)):=by
 have hnum:=Q7 w q l h;clear h;unfold qW;cases hb:numR l with
 |none=>
  rw [hb] at hnum;have HB:=Lib.hid hnum;clear hnum hb;go_enter Tryz.func33,Tryz.ntmps33;go_wp2_with fail;refine HB.out.mono ?_;rintro e w1 ⟨rfl,hT⟩;go_wp2;exact ⟨rfl,rfl,hT⟩
 |some p=>
  obtain ⟨n,r⟩:=p;rw [hb] at hnum;have HB:=Lib.hid hnum;have hrl:=QM hb;clear hnum hb;by_cases hn:n≤r.length
  ·have hd:decide (n≤(r.length:Int))=true:=decide_eq_true (by omega);simp only [if_pos hn];go_enter Tryz.func33,Tryz.ntmps33;go_wp2_with fail;refine HB.out.mono ?_;rintro e w1 ⟨v,rfl,⟨rfl,h0,_⟩,hR,hT⟩;have d0:=qD hR.2 (i:=0) rfl;have hl:=hR.1;unfold LE20 at hl;have HR:=qB.mk (And.intro hR hT);clear hR hT;go_wp2_with fail;refine (qL _).mono ?_;rintro e w2 ⟨rfl,rfl⟩;go_wp2;go_ret;exact ⟨_,rfl,⟨rfl,by omega,by omega⟩,HR.out.1,HR.out.2⟩
  ·have hd:decide (n≤(r.length:Int))=false:=decide_eq_false (by omega);simp only [if_neg hn];go_enter Tryz.func33,Tryz.ntmps33;go_wp2_with fail;refine HB.out.mono ?_;rintro e w1 ⟨v,rfl,⟨rfl,h0,_⟩,hR,hT⟩;have d0:=qD hR.2 (i:=0) rfl;have hl:=hR.1;unfold LE20 at hl;have HR:=qB.mk (And.intro hR hT);clear hR hT;go_wp2_with fail;refine (qG _).mono ?_;rintro e w2 ⟨rfl,rfl⟩;go_wp2;exact ⟨rfl,rfl,HR.out.2⟩
set_option maxRecDepth 100000 in
set_option maxHeartbeats 2000000 in
theorem qIE(s:ByteArray)(w:World)(hs:s.size≤281474976710656):Calls Tryz.prog 61 #[.string s] w fun e w'=>e=.returned (.string s)∧Below w.heap.size w w':=by
 have HB:=Lib.hid (Tryz.stringslite_Clone s w hs);clear hs;go_enter Tryz.func61,Tryz.ntmps61;go_wp2_with fail;refine HB.out.mono ?_;rintro e w1 ⟨rfl,hb⟩;go_wp2;go_ret;exact ⟨rfl,hb⟩
theorem qFf(r:List UInt8)(k:Nat)(h:k≤r.length):(⟨r.toArray⟩:ByteArray).extract 0 k=⟨(r.take k).toArray⟩:=Lib.extract_upto _ _
theorem cutTail(r:List UInt8)(k:Nat):(⟨r.toArray⟩:ByteArray).extract k r.length=⟨(r.drop k).toArray⟩:=Lib.extract_from (⟨r.toArray⟩:ByteArray) k
def pStr(n:Nat)(_:World)(s:ByteArray)(v:Value):Prop:=v=.string s∧s.size≤n
set_option maxRecDepth 100000 in
set_option maxHeartbeats 2000000 in
theorem qDm(w:World)(q:Nat)(l:List UInt8)(h:RD w q l):
 Calls Tryz.prog 34 #[.pointer (some ⟨q,0,none⟩)] w (qA8 q w (pStr l.length) (strR l)):=by
 have hcnt:=qAu w q l h;clear h;unfold strR;cases hb:qW l with
 |none=>
  rw [hb] at hcnt;have HB:=Lib.hid hcnt;clear hcnt hb;go_enter Tryz.func34,Tryz.ntmps34;go_wp2_with fail;refine HB.out.mono ?_;rintro e w1 ⟨rfl,hT⟩;go_wp2;exact ⟨rfl,rfl,hT⟩
 |some p=>
  obtain ⟨n,r⟩:=p;rw [hb] at hcnt;have HB:=Lib.hid hcnt;have hrl:=QX hb;have hn:0≤n∧n≤r.length:=by
   unfold qW at hb;cases hb2:numR l with
   |none=>rw [hb2] at hb; cases hb
   |some p=>
    obtain ⟨m,r2⟩:=p;rw [hb2] at hb;simp only at hb;split at hb
    ·simp only [Option.some.injEq,Prod.mk.injEq] at hb;obtain ⟨rfl,rfl⟩:=hb;refine ⟨?_,by assumption⟩;unfold numR at hb2;cases hb3:bigR l with
     |none=>rw [hb3] at hb2; cases hb2
     |some p=>
      obtain ⟨m3,r3⟩:=p;rw [hb3] at hb2;simp only at hb2;split at hb2
      ·simp only [Option.some.injEq,Prod.mk.injEq] at hb2; omega
      ·cases hb2
    ·cases hb
  obtain ⟨h0,h1⟩:=hn;obtain ⟨k,rfl⟩:∃k:Nat,n=(k:Int):=⟨n.toNat,by omega⟩;clear hcnt hb;have hk1:k≤r.length:=by omega
  have hcH:=qFf r k hk1;have hcT:=cutTail r k;go_enter Tryz.func34,Tryz.ntmps34;go_wp2_with fail;refine HB.out.mono ?_;rintro e w1 ⟨v,rfl,⟨rfl,_,_⟩,hR,hT⟩;have d0:=qD hR.2 (i:=0) rfl;have hl:=hR.1;unfold LE20 at hl;have HR:=qB.mk (And.intro hR hT);have hsz:(⟨(r.take k).toArray⟩:ByteArray).size≤k:=by simp [ByteArray.size]; omega
  have HC:=Lib.hid (qIE ⟨(r.take k).toArray⟩ w1 (by omega));have HS:=Lib.hid (And.intro hsz hrl);clear hR hT hsz;go_wp2_with fail;refine HC.out.mono ?_;rintro e w2 ⟨rfl,hb⟩;have hR2:=HR.out.1.below hb;have d1:=qD hR2.2 (i:=0) rfl;have f1:=qH hR2.2 0;have hP:=hR2.put (r.drop k) (by unfold LE20; rw [List.length_drop]; omega);have HN:=qB.mk (And.intro hP.1 ((HR.out.2.trans (Tch.of hb)).trans hP.2));clear d0 hP hR2 hb;go_wp2;go_ret;exact ⟨_,rfl,⟨rfl,by have:=HS.out; simp only [Int.toNat_natCast]; omega⟩,HN.out.1,HN.out.2⟩
def qY{α:Type}(f:List UInt8→Option (α×List UInt8)):Nat→List UInt8→Option (List α×List UInt8)
 | 0,l=>some ([],l)
 |n+1,l=>match f l with
  |some (x,r)=>(match qY f n r with|some (xs,r2)=>some (x::xs,r2)|none=>none)
  |none=>none
def qT{α:Type}(f:List UInt8→Option (α×List UInt8))(xs:List α)(n:Nat)(l:List UInt8):Option (List α×List UInt8):=match qY f n l with|some (ys,r)=>some (xs++ys,r)|none=>none
theorem Q8{α:Type}(f:List UInt8→Option (α×List UInt8))(n:Nat)(l:List UInt8):qT f [] n l=qY f n l:=by
 unfold qT;cases qY f n l<;>rfl
theorem Q9{α:Type}(f:List UInt8→Option (α×List UInt8))(xs:List α)(l:List UInt8):qT f xs 0 l=some (xs,l):=by simp [qT,qY]
theorem qBH{α:Type}(f:List UInt8→Option (α×List UInt8))(xs:List α)(n:Nat)(l:List UInt8){x:α}{r:List UInt8}(h:f l=some (x,r)):qT f xs (n+1) l=qT f (xs++[x]) n r:=by
 unfold qT;rw [qY,h];simp only;cases qY f n r with
 |none=>rfl
 |some p=>obtain ⟨ys,r2⟩:=p; simp
theorem qBI{α:Type}(f:List UInt8→Option (α×List UInt8))(xs:List α)(n:Nat)(l:List UInt8)(h:f l=none):qT f xs (n+1) l=none:=by
 unfold qT;rw [qY,h]
def rowR{α:Type}(f:List UInt8→Option (α×List UInt8))(l:List UInt8):Option (List α×List UInt8):=match qW l with|some (n,r)=>qY f n.toNat r|none=>none
def qBk(l:List UInt8):Option (List Int×List UInt8):=rowR numR l
def pRow{α:Type}(d:Kd α)(e B:Nat)(w:World)(xs:List α)(v:Value):Prop:=d.R e w B (fun _=>True) v xs∧xs.length≤200000
theorem qCZ{α:Type}{f:List UInt8→Option (α×List UInt8)}(hf:∀l x r,f l=some (x,r)→r.length<l.length):∀(n:Nat) (l:List UInt8) (xs:List α) (r:List UInt8),qY f n l=some (xs,r)→r.length+xs.length≤l.length
 | 0,l,xs,r,h=>by simp only [qY,Option.some.injEq,Prod.mk.injEq] at h; obtain ⟨rfl,rfl⟩:=h; simp
 |n+1,l,xs,r,h=>by
  rw [qY] at h;cases hx:f l with
  |none=>rw [hx] at h; cases h
  |some p=>
   obtain ⟨x,r1⟩:=p;rw [hx] at h;simp only at h;cases hy:qY f n r1 with
   |none=>rw [hy] at h; cases h
   |some p=>
    obtain ⟨ys,r2⟩:=p;rw [hy] at h;simp only [Option.some.injEq,Prod.mk.injEq] at h;obtain ⟨rfl,rfl⟩:=h;have h1:=hf _ _ _ hx;have h2:=qCZ hf n r1 ys r2 hy;simp only [List.length_cons]; omega
theorem qCA{l:List UInt8}{n:Int}{r:List UInt8}(hb:qW l=some (n,r)):∃k:Nat,n=k∧k≤r.length∧r.length<l.length:=by
 have hrl:=QX hb;unfold qW at hb;cases hb2:numR l with
 |none=>rw [hb2] at hb; cases hb
 |some p=>
  obtain ⟨m,r2⟩:=p;rw [hb2] at hb;simp only at hb;split at hb
  ·simp only [Option.some.injEq,Prod.mk.injEq] at hb;obtain ⟨rfl,rfl⟩:=hb;unfold numR at hb2;cases hb3:bigR l with
   |none=>rw [hb3] at hb2; cases hb2
   |some p=>
    obtain ⟨m3,r3⟩:=p;rw [hb3] at hb2;simp only at hb2;split at hb2
    ·simp only [Option.some.injEq,Prod.mk.injEq] at hb2;exact ⟨m3,hb2.1.symm,by omega,hrl⟩
    ·cases hb2
  ·cases hb
set_option maxRecDepth 100000 in
set_option maxHeartbeats 4000000 in
theorem qJN(w:World)(q:Nat)(l:List UInt8)(h:RD w q l):
 Calls Tryz.prog 87 #[.pointer (some ⟨q,0,none⟩)] w (qA8 q w (pRow (Kd.int .i64) 3 w.heap.size) (qBk l)):=by
 have hcnt:=qAu w q l h;have hl0:=h.1;unfold LE20 at hl0;have hq0:=h.lt;clear h;unfold qBk rowR;cases hb:qW l with
 |none=>
  rw [hb] at hcnt;have HB:=Lib.hid hcnt;clear hcnt hb;go_enter Tryz.func87,Tryz.ntmps87;go_wp2_with fail;refine HB.out.mono ?_;rintro e w1 ⟨rfl,hT⟩;go_wp2;exact ⟨rfl,rfl,hT⟩
 |some p=>
  obtain ⟨n,r⟩:=p;rw [hb] at hcnt;obtain ⟨k,rfl,hk,hrl⟩:=qCA hb;have HB:=Lib.hid hcnt;clear hcnt hb;have hF:Hid (qY numR ((k:Nat):Int).toNat r=qT numR [] k r):=Lib.hid (by rw [Q8]; simp);show Calls _ _ _ _ (qA8 q w _ (qY numR ((k:Nat):Int).toNat r))
  generalize qY numR ((k:Nat):Int).toNat r=F at *;go_enter Tryz.func87,Tryz.ntmps87;go_wp2_with fail;refine HB.out.mono ?_;rintro e w1 ⟨v,rfl,⟨rfl,_,_⟩,hR,hT⟩;have H:=qB.mk (And.intro (Kd.R_nil (Kd.int .i64) 3 w1 w.heap.size (fun _=>True)) (And.intro hR hT));clear hR hT;go_wp2
  go_loopw [3,7] (fun av v wr=>∃(i:Nat) (xs:List Int) (rr:List UInt8),i≤k∧xs.length=i∧v=.int .i64 i∧Hid (F=qT numR xs (k - i) rr)∧qB ((Kd.int .i64).R 3 wr w.heap.size (fun _=>True) av xs∧RD wr q rr∧Tch q w wr)) (fun _ v _=>k - (intOf v).toNat)
  case atStart=>exact ⟨0,[],r,by omega,rfl,rfl,hF,H⟩
  case round=>
   obtain ⟨i,xs,rr,hi,hxl,rfl,HF,HP⟩:=hrel;clear H hF;by_cases hlt:i<k
   ·have hn:=Q7 wr q rr HP.out.2.1;cases hb:numR rr with
    |none=>
     rw [hb] at hn;have HE:=Lib.hid (HF.out.trans (show qT numR xs (k - i) rr=none by rw [show k - i=(k - i - 1)+1 from by omega]; exact qBI _ _ _ _ hb));have HN:=Lib.hid hn;clear hn hb HF;go_wp2_with fail;refine HN.out.mono ?_;rintro e w2 ⟨rfl,hT⟩;go_wp2;refine ⟨rfl,?_⟩;rw [HE.out];exact ⟨rfl,HP.out.2.2.trans hT⟩
    |some p=>
     obtain ⟨x,r3⟩:=p;rw [hb] at hn;have HE:=Lib.hid (HF.out.trans (show qT numR xs (k - i) rr=qT numR (xs++[x]) (k - (i+1)) r3 by rw [show k - i=(k - (i+1))+1 from by omega]; exact qBH _ _ _ _ hb));have HN:=Lib.hid hn;clear hn hb HF;go_wp2_with fail;refine HN.out.mono ?_;rintro e w2 ⟨v,rfl,⟨rfl,_,_⟩,hR,hT⟩;have hT2:=HP.out.2.2.trans hT;have hrow:(Kd.int .i64).R 3 w2 w.heap.size (fun _=>True) u3 xs:=Kd.R_mono (Kd.R_step (Kd.R_types HP.out.1 HP.out.2.1.2 (by decide)) (fun k hk hlt=>hT.block k hlt (fun e=>hk.2 (by injection e)))) (fun _ _=>trivial);have HR:=qB.mk (And.intro hrow (And.intro hR hT2));clear hR hT hT2 hrow;have hBw:w.heap.size≤w2.heap.size:=HR.out.2.2.size;go_wp2_with (refine Kd.R_append (Kd.int .i64) (w0:=w2) w.heap.size rfl _ _ 56 3 (.int .i64 0) 8 rfl Tryz.underlying56 info3 rfl (by decide) (by omega) u3 xs x [.int .i64 x] (fun _=>True) (fun _=>False) rfl rfl rfl (fun _ h=>h.elim) (fun _ _=>trivial) HR.out.1 (Below.refl _ _) hBw (by omega) ?_);intro v1 w3 hrow hb3 hg hat;have hRD:RD w3 q r3:=⟨HR.out.2.1.1,(hg.block q HR.out.2.1.lt (Kd.R_ne HR.out.1 HR.out.2.1.2 (by decide))).trans HR.out.2.1.2⟩;have hT3:Tch q w w3:=HR.out.2.2.grow hg (fun k hk=>Or.inr ((qAD (Kd.R_own HR.out.1).choose_spec) k hk));have HN2:=qB.mk (And.intro hrow (And.intro hRD hT3));clear hrow hb3 hg hat hRD hT3 HR;go_wp2;go_roundw
     case rel=>exact ⟨i+1,xs++[x],r3,by omega,by simp [hxl],by go_num,HE,HN2⟩
     case measure=>simp [intOf]; omega
   ·obtain rfl:i=k:=by omega
    have HE:=Lib.hid (HF.out.trans (show qT numR xs (i - i) rr=some (xs,rr) by rw [Nat.sub_self]; exact Q9 _ _ _));go_wp2;go_ret;rw [HE.out];exact ⟨_,rfl,⟨HP.out.1,by omega⟩,HP.out.2.1,HP.out.2.2⟩
end Go.Proofs.YtoonkkipnljflaaGreatDoor.CJ
