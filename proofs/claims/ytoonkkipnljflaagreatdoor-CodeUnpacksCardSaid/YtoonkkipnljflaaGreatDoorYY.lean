/- Texts: numbers, parts between bytes. Conditions: none. A code and its text: what a text says. Conditions: none. The text of a code is read back, and the other way round. Conditions: the code is valid. -/
import Derived.Test.YtoonkkipnljflaaGreatDoorW1
import Derived.Lib.AtoiAll
import Derived.Lib.SplitLaws
import Derived.Lib.CutLaws
import Derived.Lib.LastIndexLaws
namespace Go.Proofs.YtoonkkipnljflaaGreatDoor.CJ
open Go.RowKit Go.Proofs.YtoonkkipnljflaaGreatDoorW.PrintWords Go.Proofs.YtoonkkipnljflaaGreatDoorW.PrintLast Go.Proofs.YtoonkkipnljflaaGreatDoor.PT Go.Proofs.YtoonkkipnljflaaGreatDoor.IMaps Go.Proofs.YtoonkkipnljflaaGreatDoor.TJ
set_option linter.unusedVariables false
set_option linter.unusedSimpArgs false
theorem qCl:∀(l r:List UInt8) (acc a:Nat),Lib.parseUint10 acc l=.ok a→Lib.parseUint10 acc (l++r)=Lib.parseUint10 a r
 | [],r,acc,a,h=>by
  simp only [Lib.parseUint10] at h;injection h with h; subst h; rfl
 |c::l,r,acc,a,h=>by
  simp only [Lib.parseUint10,List.cons_append] at h ⊢;split at h
  ·rename_i h1
   rw [if_pos h1];split at h
   ·cases h
   ·rename_i h2
    rw [if_neg h2];split at h
    ·cases h
    ·rename_i h3
     rw [if_neg h3];exact qCl l r _ a h
  ·cases h
theorem qDF(k:Nat)(h:k<10):(UInt8.ofNat (48+k)).toNat=48+k:=by rw [UInt8.toNat_ofNat']; omega
theorem qDv(u:Nat)(h:u<18446744073709551616):Lib.parseUint10 0 (Lib.decDigits u)=.ok u:=by
 rw [Lib.decDigits];split
 ·rename_i h1
  simp only [Lib.parseUint10,qDF u h1];rw [if_pos (by omega),if_neg (by omega),if_neg (by omega)]
  congr 1; omega
 ·rename_i h1
  rw [qCl _ _ _ _ (qDv (u / 10) (by omega))];simp only [Lib.parseUint10,qDF (u % 10) (by omega)];rw [if_pos (by omega),if_neg (by omega),if_neg (by omega)]
  congr 1; omega
termination_by u
decreasing_by omega
def numC(c:UInt8):Prop:=c.toNat=45∨(48≤c.toNat∧c.toNat≤57)
theorem qCm(u:Nat):∀c∈Lib.decDigits u,48≤c.toNat∧c.toNat≤57:=by
 rw [Lib.decDigits];split
 ·rename_i h1
  intro c hc;simp only [List.mem_singleton] at hc;subst hc;rw [qDF u h1]; omega
 ·rename_i h1
  intro c hc;rcases List.mem_append.1 hc with hc|hc
  ·exact qCm (u / 10) c hc
  ·simp only [List.mem_singleton] at hc;subst hc;rw [qDF _ (by omega)]; omega
termination_by u
decreasing_by omega
theorem qFD(u:Nat):Lib.decDigits u≠[]:=by
 rw [Lib.decDigits];split<;>simp
theorem qDG(n:Int):∀c∈Lib.itoa n,numC c:=by
 intro c hc;unfold Lib.itoa at hc;split at hc
 ·rcases List.mem_cons.1 hc with rfl|hc
  ·left; rfl
  ·right; exact qCm _ c hc
 ·right; exact qCm _ c hc
theorem itoa_ne(n:Int):Lib.itoa n≠[]:=by
 unfold Lib.itoa;split
 ·simp
 ·exact qFD _
def numT(p:List UInt8):Option Int:=match Lib.atoiAll p with | .ok v=>if Lib.itoa v=p then some v else none|_=>none
theorem qKk(n:Int)(h:Ok64 n):Lib.atoiAll (Lib.itoa n)=.ok n:=by
 unfold Ok64 at h;unfold Lib.itoa;split
 ·rename_i hn
  have hp:Lib.parseMag (Lib.decDigits n.natAbs)=.ok n.natAbs:=by
   unfold Lib.parseMag;rw [if_neg (qFD _),qDv _ (by omega)]
  simp only [Lib.atoiAll];rw [if_pos (by right; rfl),hp];simp only;have e45:(45:UInt8).toNat=45:=rfl;simp only [e45,not_true_eq_false,false_and,true_and,if_true,if_false];rw [if_neg (by omega)]
  congr 1; omega
 ·rename_i hn
  obtain ⟨c,r,e⟩:∃c r,Lib.decDigits n.toNat=c::r:=by
   cases hd:Lib.decDigits n.toNat with
   |nil=>exact absurd hd (qFD _)
   |cons c r=>exact ⟨c,r,rfl⟩
  have hc:=qCm n.toNat c (by rw [e]; simp);have hp:Lib.parseMag (Lib.decDigits n.toNat)=.ok n.toNat:=by
   unfold Lib.parseMag;rw [if_neg (qFD _),qDv _ (by omega)]
  rw [e] at hp ⊢;simp only [Lib.atoiAll];rw [if_neg (by omega),hp];simp only;rw [if_neg (by omega),if_neg (by omega),if_neg (by omega)]
  congr 1; omega
theorem qAA(n:Int)(h:Ok64 n):numT (Lib.itoa n)=some n:=by
 unfold numT;rw [qKk n h];exact if_pos rfl
def spl(c:UInt8):List UInt8→List (List UInt8)
 | []=>[[]]
 |b::l=>if b=c then []::spl c l else (b::(spl c l).headD [])::(spl c l).tail
theorem spl_ne(c:UInt8):∀l,spl c l≠[]
 | []=>by simp [spl]
 |b::l=>by unfold spl; split<;>simp
theorem qHh(c:UInt8)(l:List UInt8):∃x r,spl c l=x::r:=by
 cases h:spl c l with
 |nil=>exact absurd h (spl_ne c l)
 |cons x r=>exact ⟨x,r,rfl⟩
theorem qDH(c:UInt8):∀(x:List UInt8),c∉x→spl c x=[x]
 | [],_=>rfl
 |b::x,h=>by
  have h1:b≠c:=fun e=>h (by simp [e])
  have h2:c∉x:=fun e=>h (by simp [e])
  rw [spl,if_neg h1,qDH c x h2]; rfl
theorem qBy(c:UInt8):∀(x l:List UInt8),c∉x→spl c (x++c::l)=x::spl c l
 | [],l,_=>by rw [List.nil_append,spl,if_pos rfl]
 |b::x,l,h=>by
  have h1:b≠c:=fun e=>h (by simp [e])
  have h2:c∉x:=fun e=>h (by simp [e])
  rw [List.cons_append,spl,if_neg h1,qBy c x l h2]; rfl
theorem qAe(x sep:List UInt8):Lib.join [x] sep=x:=by simp [Lib.join,List.intercalate]
theorem Q0(x y:List UInt8)(r:List (List UInt8))(sep:List UInt8):Lib.join (x::y::r) sep=x++(sep++Lib.join (y::r) sep):=by simp [Lib.join,List.intercalate,List.intersperse]
theorem qCg(c:UInt8):∀(xs:List (List UInt8)),xs≠[]→(∀x∈xs,c∉x)→spl c (Lib.join xs [c])=xs
 | [],h,_=>absurd rfl h
 | [x],_,h=>by rw [qAe,qDH c x (h x (by simp))]
 |x::y::r,_,h=>by
  rw [Q0,List.singleton_append,qBy c x _ (h x (by simp)),qCg c (y::r) (by simp) (fun z hz=>h z (by simp [hz]))]
theorem qCn(c:UInt8):∀(l:List UInt8),(c∉l∧Lib.index l [c] = -1)∨∃x r,l=x++c::r∧c∉x∧Lib.index l [c]=x.length
 | []=>.inl ⟨by simp,by simp [Lib.index]⟩
 |b::l=>by
  by_cases h:b=c
  ·subst h;exact .inr ⟨[],l,rfl,by simp,by simp [Lib.index,List.isPrefixOf]⟩
  ·have hp:([c]:List UInt8).isPrefixOf (b::l)=false:=by simp [List.isPrefixOf,Ne.symm h]
   have e:Lib.index (b::l) [c]=if Lib.index l [c] == -1 then -1 else Lib.index l [c]+1:=by rw [Lib.index,hp]; simp
   rcases qCn c l with ⟨h1,h2⟩|⟨x,r,h1,h2,h3⟩
   ·left;refine ⟨fun hm=>?_,by rw [e,h2]; rfl⟩;rcases List.mem_cons.1 hm with e2|hm
    ·exact h e2.symm
    ·exact h1 hm
   ·right;refine ⟨b::x,r,by rw [h1]; rfl,fun hm=>?_,?_⟩
    ·rcases List.mem_cons.1 hm with e2|hm
     ·exact h e2.symm
     ·exact h2 hm
    ·rw [e,h3,if_neg (by rw [beq_iff_eq]; omega)]; simp
theorem qFo(c:UInt8)(l:List UInt8):(c∉l∧Lib.cut l [c]=(l,[],false))∨∃x r,l=x++c::r∧c∉x∧Lib.cut l [c]=(x,r,true):=by
 unfold Lib.cut;rcases qCn c l with ⟨h1,h2⟩|⟨x,r,h1,h2,h3⟩
 ·left;exact ⟨h1,by rw [h2]; rfl⟩
 ·right;refine ⟨x,r,h1,h2,?_⟩;rw [h3,if_pos (by omega),Int.toNat_natCast,h1];simp
theorem qGJ(c:UInt8):∀(k:Nat) (l:List UInt8),Lib.count l [c]=k→Lib.splitK [c] 0 k l=spl c l
 | 0,l,h=>by
  rw [Lib.splitK];rw [Lib.count_one] at h;rw [qDH c l (fun hm=>by have:=List.count_pos_iff.2 hm; omega)]
 |k+1,l,h=>by
  rw [Lib.splitK];rcases qCn c l with ⟨h1,h2⟩|⟨x,r,h1,h2,h3⟩
  ·rw [Lib.count_one,List.count_eq_zero.2 h1] at h; omega
  ·rw [h3,if_neg (by rw [beq_iff_eq]; omega),Int.toNat_natCast];subst h1;rw [qBy c x r h2];have hk:Lib.count r [c]=k:=by
    rw [Lib.count_one] at h ⊢;rw [List.count_append,List.count_eq_zero.2 h2,List.count_cons_self] at h;omega
   have e1:(x++c::r).take (x.length+0)=x:=by simp
   have e2:(x++c::r).drop (x.length+[c].length)=r:=by simp
   rw [e1,e2,qGJ c k r hk]
theorem qFE(c:UInt8)(l:List UInt8)(h:c∉l):∀k,Lib.lastOcc l [c] k = -1
 | 0=>rfl
 |k+1=>by
  have:Lib.occAt l [c] k=false:=by
   unfold Lib.occAt;cases hd:l.drop k with
   |nil=>rfl
   |cons b r=>
    have hm:b∈l:=List.mem_of_mem_drop (by rw [hd]; simp:b∈l.drop k);have:b≠c:=fun e=>h (e▸hm)
    simp [List.isPrefixOf,Ne.symm this]
  rw [Lib.lastOcc_miss _ _ _ this,qFE c l h k]
theorem occ_at(c:UInt8)(x r:List UInt8):Lib.occAt (x++c::r) [c] x.length=true:=by
 unfold Lib.occAt; simp [List.isPrefixOf]
theorem qJd(c:UInt8)(x r:List UInt8)(h:c∉r)(j:Nat)(hj:x.length<j):Lib.occAt (x++c::r) [c] j=false:=by
 unfold Lib.occAt;obtain ⟨t,rfl⟩:∃t,j=x.length+(t+1):=⟨j - x.length - 1,by omega⟩;rw [←List.drop_drop];simp only [List.drop_left,List.drop_succ_cons];cases hd:r.drop t with
 |nil=>rfl
 |cons b q=>
  have hm:b∈r:=List.mem_of_mem_drop (by rw [hd]; simp:b∈r.drop t);have:b≠c:=fun e=>h (e▸hm)
  simp [List.isPrefixOf,Ne.symm this]
theorem qFF(c:UInt8)(x r:List UInt8)(h:c∉r):∀k,Lib.lastOcc (x++c::r) [c] (x.length+1+k)=x.length
 | 0=>by rw [Nat.add_zero,Lib.lastOcc_hit _ _ _ (occ_at c x r)]
 |k+1=>by rw [←Nat.add_assoc,Lib.lastOcc_miss _ _ _ (qJd c x r h _ (by omega)),qFF c x r h k]
theorem qKl(c:UInt8)(l:List UInt8)(h:c∉l):Lib.lastIndex l [c] = -1:=by
 unfold Lib.lastIndex;split
 ·exact qFE c l h _
 ·rfl
theorem qDw(c:UInt8)(x r:List UInt8)(h:c∉r):Lib.lastIndex (x++c::r) [c]=x.length:=by
 unfold Lib.lastIndex;rw [if_pos (by simp; omega)];have e:(x++c::r).length - ([c]:List UInt8).length+1=x.length+1+r.length:=by simp; omega
 rw [e]; exact qFF c x r h _
theorem qHi(c:UInt8)(l:List UInt8):(c∉l∧Lib.lastIndex l [c] = -1)∨∃x r,l=x++c::r∧c∉r∧Lib.lastIndex l [c]=x.length:=by
 by_cases h:c∈l
 ·right;have h':c∈l.reverse:=by simpa using h
  obtain ⟨s,t,e,hs⟩:∃s t,l.reverse=s++c::t∧c∉s:=by
   rcases qCn c l.reverse with ⟨h1,_⟩|⟨x,r,h1,h2,_⟩
   ·exact absurd h' h1
   ·exact ⟨x,r,h1,h2⟩
  have e2:l=t.reverse++c::s.reverse:=by
   have:=congrArg List.reverse e;rw [List.reverse_reverse] at this;rw [this]; simp
  refine ⟨t.reverse,s.reverse,e2,by simpa using hs,?_⟩;rw [e2]; exact qDw c _ _ (by simpa using hs)
 ·exact .inl ⟨h,qKl c l h⟩
abbrev St:=List GBk×List GGl
def strT(p:List UInt8):Option ByteArray:=if p=[45] then some ⟨#[]⟩ else if qe p then some ⟨p.toArray⟩ else none
def Q6:List (List UInt8)→Option (List Int)
 | []=>some []
 |p::r=>match numT p with|some n=>(match Q6 r with|some l=>some (n::l)|none=>none)|none=>none
def qA1(p:List UInt8):Option (List Int):=
 if Lib.hasPrefix p [91]&&Lib.hasSuffix (Lib.trimPrefix p [91]) [93] then
  (if Lib.trimSuffix (Lib.trimPrefix p [91]) [93]=[] then some [] else Q6 (spl 44 (Lib.trimSuffix (Lib.trimPrefix p [91]) [93])))
 else none
def qDI(o s n b:List UInt8):Option GAl:=match numT o,strT s,numT n,numT b with|some f0,some f1,some f2,some f3=>some ⟨f0,f1,f2,f3⟩|_,_,_,_=>none
def altT(p:List UInt8):Option GAl:=
 let c:=Lib.cut p [58]
 let k:=Lib.lastIndex c.2.1 [58]
 if 0<k then
  (let k2:=Lib.lastIndex (c.2.1.take k.toNat) [58]
  if 0<k2 then qDI c.1 ((c.2.1.take k.toNat).take k2.toNat) ((c.2.1.take k.toNat).drop (k2+1).toNat) (c.2.1.drop (k+1).toNat) else none)
 else none
def qAQ:List (List UInt8)→Option (List GAl)
 | []=>some []
 |p::r=>match altT p with|some n=>(match qAQ r with|some l=>some (n::l)|none=>none)|none=>none
def Qh(p:List UInt8):Int:=match qAK.findIdx? (· == p) with|some k=>(k:Int)+1|none=>0
def opT:List (List UInt8)→Option GOp
 |o::a::b::n::s::l::r=>
  if Qh o=0 then none else
  match numT a,numT b,numT n,strT s,qA1 l,qAQ r with
  |some f1,some f2,some f3,some f4,some f5,some f6=>some ⟨Qh o,f1,f2,f3,f4,f5,f6⟩
  |_,_,_,_,_,_=>none
 |_=>none
def qA9(bs:List GBk)(g:GOp):List GBk:=match bs.getLast? with|some b=>bs.dropLast++[⟨b.f0,b.f1,b.f2++[g]⟩]|none=>[]
def Qw(c:St):List (List UInt8)→Option St
 | [h,a,b]=>
  if h=[98,108,111,99,107] then (match numT a,numT b with|some f0,some f1=>if c.2=[] then some (c.1++[⟨f0,f1,[]⟩],c.2) else none|_,_=>none)
  else if h=[103,108,111,98,97,108] then (match numT b with|some f1=>if qe a then some (c.1,c.2++[⟨⟨a.toArray⟩,f1⟩]) else none|none=>none)
  else none
 |_=>none
def addT(c:St)(l:List UInt8):Option St:=
 if Lib.hasPrefix l [32,32] then
  (if c.1=[]∨c.2≠[] then none else match opT (spl 32 (l.drop 2)) with|some g=>some (qA9 c.1 g,c.2)|none=>none)
 else Qw c (spl 32 l)
def qCh:Nat→St→List (List UInt8)→Except Nat St
 |_,c,[]=>.ok c
 |at_,c,[l]=>if l=[] then .ok c else .error at_
 |at_,c,l::r=>match addT c l with|some c'=>qCh (at_+1) c' r|none=>.error at_
inductive RdEnd where
 |ok (c:St)
 |err (at_:Nat) (e:Int)
def qDJ(t:List UInt8):RdEnd:=match qCh 1 ([],[]) (spl 10 t) with | .ok c=>if allK c.1 c.2 then .ok c else .err 0 41 | .error k=>.err k 4
def QF(b:GBk):List UInt8:=(Lib.join [[98,108,111,99,107],Lib.itoa b.f0,Lib.itoa b.f1] [32]++[10])++b.f2.flatMap (fun g=>q8 g++[10])
def QY(g:GGl):List UInt8:=Lib.join [[103,108,111,98,97,108],g.f0.data.toList,Lib.itoa g.f1] [32]++[10]
def qB1(bs:List GBk)(gl:List GGl):List UInt8:=bs.flatMap QF++gl.flatMap QY
def qAc(a:GAl):List UInt8:=Lib.join (QO a) [58]
theorem qEf(c:UInt8):∀(xs ys:List (List UInt8)),xs≠[]→Lib.join (xs++ys) [c]=Lib.join xs [c]++ys.flatMap (fun y=>c::y)
 | [],_,h=>absurd rfl h
 | [x],[],_=>by simp [qAe]
 | [x],y::ys,_=>by
  rw [List.cons_append,List.nil_append,Q0,qAe];have:=qEf c [y] ys (by simp);rw [List.singleton_append] at this;rw [this,qAe]; simp
 |x::y::r,ys,_=>by
  have:=qEf c (y::r) ys (by simp);rw [List.cons_append] at this;rw [List.cons_append,List.cons_append,Q0,Q0,this]; simp
theorem qCt(g:GOp):q8 g=[32,32]++Lib.join (Qe g++g.f6.map qAc) [32]:=by
 unfold q8 qAC;rw [qEf 32 _ _ (by simp [Qe]),List.append_assoc,List.flatMap_map];rfl
def nsp(p:List UInt8):Prop:=∀c∈p,32<c.toNat
theorem qAR{p:List UInt8}(h:nsp p)(c:UInt8)(hc:c.toNat≤32):c∉p:=fun hm=>by have:=h c hm; omega
theorem Ql(n:Int):nsp (Lib.itoa n):=fun c hc=>by rcases qDG n c hc with h|h<;>omega
theorem qAv{a b:List UInt8}(ha:nsp a)(hb:nsp b):nsp (a++b):=fun c hc=>by
 rcases List.mem_append.1 hc with h|h
 ·exact ha c h
 ·exact hb c h
theorem qEg{s:List UInt8}(h:qe s=true):nsp s:=fun c hc=>by
 unfold qe at h;simp only [Bool.and_eq_true,List.all_eq_true] at h;have:=h.2 c hc;unfold qAU at this;simp only [Bool.and_eq_true,decide_eq_true_eq] at this;have h33:(33:UInt8)≤c:=this.1.1;have:=UInt8.le_iff_toNat_le.1 h33;have e:(33:UInt8).toNat=33:=rfl;omega
theorem qIu{s:List UInt8}(h:qe s=true):s≠[]:=by
 rintro rfl;simp [qe] at h
theorem qKm:qe [45]=false:=by decide
def qDK(s:List UInt8):Prop:=s=[]∨qe s=true
theorem qHj{s:List UInt8}(h:qDK s):nsp (qAX s):=by
 unfold qAX;split
 ·intro c hc;simp only [List.mem_singleton] at hc;subst hc; decide
 ·rcases h with h|h
  ·contradiction
  ·exact qEg h
theorem qGK(s:ByteArray)(h:qDK s.data.toList):strT (qAX s.data.toList)=some s:=by
 obtain ⟨⟨l⟩⟩:=s;simp only at h ⊢;unfold strT qAX;rcases h with rfl|h
 ·rfl
 ·rw [if_neg (qIu h),if_neg (fun e=>by rw [e,qKm] at h; cases h),if_pos h]
theorem qGL{p:List UInt8}{s:ByteArray}(h:strT p=some s):qAX s.data.toList=p∧qDK s.data.toList:=by
 unfold strT at h;split at h
 ·rename_i e
  injection h with h; subst h
  subst e;exact ⟨rfl,.inl rfl⟩
 ·split at h
  ·rename_i hn
   injection h with h; subst h
   exact ⟨by unfold qAX; rw [if_neg (qIu hn)],.inr hn⟩
  ·cases h
theorem qGM:∀(l:List Int),(∀n∈l,Ok64 n)→Q6 (l.map Lib.itoa)=some l
 | [],_=>rfl
 |n::l,h=>by
  rw [List.map_cons,Q6,qAA n (h n (by simp)),qGM l (fun m hm=>h m (by simp [hm]))]
theorem qEK(x:List UInt8)(c:UInt8):Lib.hasSuffix (x++[c]) [c]=true:=by
 unfold Lib.hasSuffix; simp [List.isSuffixOf_iff_suffix]
theorem qJe(x:List UInt8)(c:UInt8):Lib.trimSuffix (x++[c]) [c]=x:=by
 unfold Lib.trimSuffix;rw [qEK]; simp
theorem qIL(x:List UInt8)(c:UInt8):Lib.hasPrefix (c::x) [c]=true∧Lib.trimPrefix (c::x) [c]=x:=by
 have:Lib.hasPrefix (c::x) [c]=true:=by simp [Lib.hasPrefix,List.isPrefixOf]
 exact ⟨this,by unfold Lib.trimPrefix; rw [this]; simp⟩
theorem join_ne(c:UInt8):∀(xs:List (List UInt8)),xs≠[]→(∀x∈xs,x≠[])→Lib.join xs [c]≠[]
 | [],h,_=>absurd rfl h
 | [x],_,h=>by rw [qAe]; exact h x (by simp)
 |x::y::r,_,h=>by
  rw [Q0];intro e;exact h x (by simp) (List.append_eq_nil_iff.1 e).1
def qDL(l:List Int):List UInt8:=91::(QU l++[93])
theorem qJf(l:List Int)(h:∀n∈l,Ok64 n):qA1 (qDL l)=some l:=by
 unfold qA1 qDL;obtain ⟨p1,p2⟩:=qIL (QU l++[93]) 91;rw [p1,p2,qEK,qJe];simp only [Bool.and_self,if_true];unfold QU;cases l with
 |nil=>rfl
 |cons n r=>
  have hne:Lib.join ((n::r).map Lib.itoa) [44]≠[]:=join_ne 44 _ (by simp) (fun x hx=>by
   obtain ⟨m,_,rfl⟩:=List.mem_map.1 hx;exact itoa_ne m)
  rw [if_neg hne,qCg 44 _ (by simp) (fun x hx=>by
   obtain ⟨m,_,rfl⟩:=List.mem_map.1 hx;intro hm;rcases qDG m 44 hm with h|h
   ·exact absurd h (by decide)
   ·exact absurd h.1 (by decide))]
  exact qGM _ h
theorem qGN:∀(l:List GAl),(∀a∈l,altT (qAc a)=some a)→qAQ (l.map qAc)=some l
 | [],_=>rfl
 |n::l,h=>by
  rw [List.map_cons,qAQ,h n (by simp),qGN l (fun m hm=>h m (by simp [hm]))]
theorem qFG(a:GAl):qAc a=Lib.itoa a.f0++58::(qAX a.f1.data.toList++58::(Lib.itoa a.f2++58::Lib.itoa a.f3)):=by
 unfold qAc QO;rw [Q0,Q0,Q0,qAe]; rfl
theorem no58(n:Int):(58:UInt8)∉Lib.itoa n:=fun h=>by
 rcases qDG n 58 h with h|h
 ·exact absurd h (by decide)
 ·exact absurd h.2 (by decide)
theorem textS_ne(s:List UInt8):qAX s≠[]:=by
 unfold qAX; split
 ·simp
 ·assumption
theorem qFH(o s n b:List UInt8)(ho:(58:UInt8)∉o)(hn:(58:UInt8)∉n)(hb:(58:UInt8)∉b)(hs:s≠[]):altT (o++58::(s++58::(n++58::b)))=qDI o s n b:=by
 have hc:Lib.cut (o++58::(s++58::(n++58::b))) [58]=(o,s++58::(n++58::b),true):=by
  rcases qFo 58 (o++58::(s++58::(n++58::b))) with ⟨h1,_⟩|⟨x,r,h1,h2,h3⟩
  ·exact absurd (by simp) h1
  ·have h4:=qBy 58 o (s++58::(n++58::b)) ho;have h5:=qBy 58 x r h2;rw [←h1,h4] at h5;injection h5 with h5 h6;subst h5;have h7:=List.append_cancel_left h1;injection h7 with _ h7;rw [h3,←h7]
 have e1:s++58::(n++58::b)=(s++58::n)++58::b:=by simp
 have hl1:Lib.lastIndex (s++58::(n++58::b)) [58]=((s++58::n).length:Int):=by rw [e1]; exact qDw 58 _ _ hb
 have ht:(s++58::(n++58::b)).take (s++58::n).length=s++58::n:=by rw [e1]; exact List.take_left
 have hd:(s++58::(n++58::b)).drop ((s++58::n).length+1)=b:=by rw [e1,←List.drop_drop,List.drop_left]; rfl
 have hl2:Lib.lastIndex (s++58::n) [58]=(s.length:Int):=qDw 58 _ _ hn;have hpos:0<s.length:=List.length_pos_iff.2 hs;unfold altT;simp only [hc];rw [hl1,Int.toNat_natCast,if_pos (by simp; omega),ht,hl2,if_pos (by omega),Int.toNat_natCast,show (((s++58::n).length:Int)+1).toNat=(s++58::n).length+1 from by omega,hd,show ((s.length:Int)+1).toNat=s.length+1 from by omega];simp
theorem qKn(a:GAl)(h0:Ok64 a.f0)(h1:qDK a.f1.data.toList)(h2:Ok64 a.f2)(h3:Ok64 a.f3):altT (qAc a)=some a:=by
 rw [qFG,qFH _ _ _ _ (no58 _) (no58 _) (no58 _) (textS_ne _)];unfold qDI;rw [qAA _ h0,qGK _ h1,qAA _ h2,qAA _ h3]
structure TAl(a:GAl):Prop where
 n0:Ok64 a.f0
 s1:qDK a.f1.data.toList
 n2:Ok64 a.f2
 n3:Ok64 a.f3
structure TOp(g:GOp):Prop where
 n0:1≤g.f0∧g.f0≤13
 n1:Ok64 g.f1
 n2:Ok64 g.f2
 n3:Ok64 g.f3
 s4:qDK g.f4.data.toList
 l5:∀n∈g.f5,Ok64 n
 l6:∀a∈g.f6,TAl a
structure TBk(b:GBk):Prop where
 n0:Ok64 b.f0
 n1:Ok64 b.f1
 ops:∀g∈b.f2,TOp g
structure TGl(g:GGl):Prop where
 s0:qe g.f0.data.toList=true
 n1:Ok64 g.f1
theorem op13{n:Int}(h:1≤n∧n≤13):∃k:Fin 13,n=(k.1:Int)+1:=⟨⟨(n - 1).toNat,by omega⟩,by simp; omega⟩
theorem qFI{n:Int}(h:1≤n∧n≤13):Qh (qg n)=n:=by
 obtain ⟨k,rfl⟩:=op13 h;clear h
 revert k
 decide
theorem qJg{n:Int}(h:1≤n∧n≤13):nsp (qg n):=by
 obtain ⟨k,rfl⟩:=op13 h;clear h
 revert k
 unfold nsp;decide
theorem qJh{p:List UInt8}(h:Qh p≠0):qg (Qh p)=p:=by
 unfold Qh at h ⊢;cases hk:qAK.findIdx? (· == p) with
 |none=>rw [hk] at h; exact absurd rfl h
 |some k=>
  simp only;obtain ⟨hlt,hp,_⟩:=List.findIdx?_eq_some_iff_getElem.1 hk;have h13:k<13:=hlt;have e:qg ((k:Int)+1)=qAK.getD k []:=by
   unfold qg isOp;have d1:decide (1≤(k:Int)+1)=true:=decide_eq_true (by omega);have d2:decide ((k:Int)+1≤13)=true:=decide_eq_true (by omega);rw [d1,d2];simp only [Bool.and_self,if_true]
   congr 1
  rw [e,List.getD_eq_getElem?_getD,List.getElem?_eq_getElem hlt];exact beq_iff_eq.1 hp
theorem qIM(l:List Int):nsp (QU l):=by
 unfold QU
 induction l with
 |nil=>intro c hc; simp [Lib.join,List.intercalate] at hc
 |cons n r ih=>
  cases r with
  |nil=>rw [List.map_cons,List.map_nil,qAe]; exact Ql n
  |cons m r=>
   rw [List.map_cons,List.map_cons,Q0];refine qAv (Ql n) (qAv ?_ ih);intro c hc;simp only [List.mem_singleton] at hc;subst hc; decide
theorem qEh(c:UInt8)(h:32<c.toNat):nsp [c]:=fun d hd=>by simp only [List.mem_singleton] at hd; subst hd; exact h
theorem list_nsp(l:List Int):nsp (qDL l):=qAv (qEh 91 (by decide)) (qAv (qIM l) (qEh 93 (by decide)))
theorem alt_nsp{a:GAl}(h:TAl a):nsp (qAc a):=by
 rw [qFG];have c58:nsp [58]:=qEh 58 (by decide);exact qAv (Ql _) (qAv c58 (qAv (qHj h.s1) (qAv c58 (qAv (Ql _) (qAv c58 (Ql _))))))
theorem qGO{g:GOp}(h:TOp g):∀p∈Qe g++g.f6.map qAc,nsp p:=by
 intro p hp;rcases List.mem_append.1 hp with hp|hp
 ·unfold Qe at hp;simp only [List.mem_cons,List.not_mem_nil,or_false] at hp;rcases hp with rfl|rfl|rfl|rfl|rfl|rfl
  ·exact qJg h.n0
  ·exact Ql _
  ·exact Ql _
  ·exact Ql _
  ·exact qHj h.s4
  ·exact list_nsp _
 ·obtain ⟨a,ha,rfl⟩:=List.mem_map.1 hp;exact alt_nsp (h.l6 a ha)
theorem qKo{g:GOp}(h:TOp g):opT (Qe g++g.f6.map qAc)=some g:=by
 unfold Qe;simp only [List.cons_append,List.nil_append,opT];rw [qFI h.n0,if_neg (by have:=h.n0; omega),qAA _ h.n1,qAA _ h.n2,qAA _ h.n3,qGK _ h.s4];have:=qJf g.f5 h.l5;unfold qDL at this;rw [this,qGN _ (fun a ha=>qKn a (h.l6 a ha).n0 (h.l6 a ha).s1 (h.l6 a ha).n2 (h.l6 a ha).n3)]
theorem qHk{g:GOp}(h:TOp g):spl 32 ((q8 g).drop 2)=Qe g++g.f6.map qAc:=by
 rw [qCt];show spl 32 (Lib.join (Qe g++g.f6.map qAc) [32])=_
 exact qCg 32 _ (by simp [Qe]) (fun p hp=>qAR (qGO h p hp) 32 (by decide))
theorem qJi(g:GOp):Lib.hasPrefix (q8 g) [32,32]=true:=by
 rw [qCt]; simp [Lib.hasPrefix,List.isPrefixOf]
theorem addT_op{g:GOp}(h:TOp g)(bs:List GBk)(hb:bs≠[]):addT (bs,[]) (q8 g)=some (qA9 bs g,[]):=by
 unfold addT;rw [qJi,if_pos rfl,if_neg (by simp [hb]),qHk h,qKo h]
def qk(b:GBk):List UInt8:=Lib.join [[98,108,111,99,107],Lib.itoa b.f0,Lib.itoa b.f1] [32]
def QV(g:GGl):List UInt8:=Lib.join [[103,108,111,98,97,108],g.f0.data.toList,Lib.itoa g.f1] [32]
theorem qHl:nsp [98,108,111,99,107]:=by unfold nsp; decide
theorem qHm:nsp [103,108,111,98,97,108]:=by unfold nsp; decide
theorem qJj(b:GBk):spl 32 (qk b)=[[98,108,111,99,107],Lib.itoa b.f0,Lib.itoa b.f1]:=
 qCg 32 _ (by simp) (fun p hp=>by
  simp only [List.mem_cons,List.not_mem_nil,or_false] at hp;rcases hp with rfl|rfl|rfl
  ·exact qAR qHl 32 (by decide)
  ·exact qAR (Ql _) 32 (by decide)
  ·exact qAR (Ql _) 32 (by decide))
theorem qJk{g:GGl}(h:TGl g):spl 32 (QV g)=[[103,108,111,98,97,108],g.f0.data.toList,Lib.itoa g.f1]:=
 qCg 32 _ (by simp) (fun p hp=>by
  simp only [List.mem_cons,List.not_mem_nil,or_false] at hp;rcases hp with rfl|rfl|rfl
  ·exact qAR qHm 32 (by decide)
  ·exact qAR (qEg h.s0) 32 (by decide)
  ·exact qAR (Ql _) 32 (by decide))
theorem head_pre(b:GBk):Lib.hasPrefix (qk b) [32,32]=false:=by
 unfold qk; rw [Q0]; rfl
theorem glob_pre(g:GGl):Lib.hasPrefix (QV g) [32,32]=false:=by
 unfold QV; rw [Q0]; rfl
theorem qKp{b:GBk}(h:TBk b)(bs:List GBk):addT (bs,[]) (qk b)=some (bs++[⟨b.f0,b.f1,[]⟩],[]):=by
 unfold addT;rw [head_pre,if_neg (by simp),qJj];simp only [Qw,if_true];rw [qAA _ h.n0,qAA _ h.n1]
theorem qKq{g:GGl}(h:TGl g)(bs:List GBk)(gl:List GGl):addT (bs,gl) (QV g)=some (bs,gl++[g]):=by
 unfold addT;rw [glob_pre,if_neg (by simp),qJk h];have hne:¬([103,108,111,98,97,108]:List UInt8)=[98,108,111,99,107]:=by decide
 simp only [Qw,hne,if_false,if_true];rw [qAA _ h.n1];simp only [h.s0,if_true]
def qBe(bs:List GBk)(gl:List GGl):List (List UInt8):=bs.flatMap (fun b=>qk b::b.f2.map q8)++gl.map QV
def qBn(xs:List (List UInt8)):List UInt8:=xs.flatMap (fun x=>x++[10])
theorem qGP(a b:List (List UInt8)):qBn (a++b)=qBn a++qBn b:=by unfold qBn; rw [List.flatMap_append]
theorem qIN(bs:List GBk)(gl:List GGl):qB1 bs gl=qBn (qBe bs gl):=by
 unfold qB1 qBe;rw [qGP]
 congr 1
 ·induction bs with
  |nil=>rfl
  |cons b r ih=>
   rw [List.flatMap_cons,List.flatMap_cons,qGP,ih]
   congr 1
   unfold QF qBn;rw [List.flatMap_cons,List.flatMap_map];rfl
 ·unfold qBn;rw [List.flatMap_map];rfl
theorem qGQ:∀(xs:List (List UInt8)),(∀x∈xs,(10:UInt8)∉x)→spl 10 (qBn xs)=xs++[[]]
 | [],_=>rfl
 |x::r,h=>by
  have e:qBn (x::r)=x++10::qBn r:=by unfold qBn; rw [List.flatMap_cons,List.append_assoc]; rfl
  rw [e,qBy 10 x _ (h x (by simp)),qGQ r (fun y hy=>h y (by simp [hy]))];rfl
def Qp:St→List (List UInt8)→Option St
 |c,[]=>some c
 |c,l::r=>match addT c l with|some c'=>Qp c' r|none=>none
theorem qDM:∀(xs ys:List (List UInt8)) (c c':St),Qp c xs=some c'→Qp c (xs++ys)=Qp c' ys
 | [],ys,c,c',h=>by cases h; rfl
 |x::xs,ys,c,c',h=>by
  rw [Qp] at h;rw [List.cons_append,Qp];cases ha:addT c x with
  |none=>rw [ha] at h; cases h
  |some c1=>
   rw [ha] at h;exact qDM xs ys c1 c' h
theorem qFJ:∀(xs:List (List UInt8)) (k:Nat) (c c':St),Qp c xs=some c'→qCh k c (xs++[[]])=.ok c'
 | [],k,c,c',h=>by cases h; rfl
 |x::xs,k,c,c',h=>by
  rw [Qp] at h;cases ha:addT c x with
  |none=>rw [ha] at h; cases h
  |some c1=>
   rw [ha] at h;have hx:xs++[[]]≠[]:=by simp
   rw [List.cons_append];cases hxs:xs++[[]] with
   |nil=>exact absurd hxs hx
   |cons y r=>
    rw [qCh,ha]
    ·simp only;rw [←hxs]; exact qFJ xs (k+1) c1 c' h
    ·intro h; cases h
theorem qDx(bs:List GBk)(f0 f1:Int)(os:List GOp)(g:GOp):qA9 (bs++[⟨f0,f1,os⟩]) g=bs++[⟨f0,f1,os++[g]⟩]:=by
 unfold qA9;rw [List.getLast?_append];simp
theorem qIv(bs:List GBk)(f0 f1:Int):∀(l os:List GOp),(∀g∈l,TOp g)→Qp (bs++[⟨f0,f1,os⟩],[]) (l.map q8)=some (bs++[⟨f0,f1,os++l⟩],[])
 | [],os,_=>by simp [Qp]
 |g::l,os,h=>by
  rw [List.map_cons,Qp,addT_op (h g (by simp)) _ (by simp),qDx];simp only;rw [qIv bs f0 f1 l (os++[g]) (fun x hx=>h x (by simp [hx]))];simp
theorem qFt(bs:List GBk){b:GBk}(h:TBk b):Qp (bs,[]) (qk b::b.f2.map q8)=some (bs++[b],[]):=by
 rw [Qp,qKp h];simp only;have:=qIv bs b.f0 b.f1 b.f2 [] h.ops;rw [List.nil_append] at this;exact this
theorem qFK:∀(l bs:List GBk),(∀b∈l,TBk b)→Qp (bs,[]) (l.flatMap (fun b=>qk b::b.f2.map q8))=some (bs++l,[])
 | [],bs,_=>by simp [Qp]
 |b::l,bs,h=>by
  rw [List.flatMap_cons,qDM _ _ _ _ (qFt bs (h b (by simp))),qFK l (bs++[b]) (fun x hx=>h x (by simp [hx]))];simp
theorem qGR(bs:List GBk):∀(l gl:List GGl),(∀g∈l,TGl g)→Qp (bs,gl) (l.map QV)=some (bs,gl++l)
 | [],gl,_=>by simp [Qp]
 |g::l,gl,h=>by
  rw [List.map_cons,Qp,qKq (h g (by simp))];simp only;rw [qGR bs l (gl++[g]) (fun x hx=>h x (by simp [hx]))];simp
theorem qEB(c sep:UInt8)(hs:c≠sep):∀(xs:List (List UInt8)),(∀x∈xs,c∉x)→c∉Lib.join xs [sep]
 | [],_=>by simp [Lib.join,List.intercalate]
 | [x],h=>by rw [qAe]; exact h x (by simp)
 |x::y::r,h=>by
  rw [Q0];intro hm;rcases List.mem_append.1 hm with hm|hm
  ·exact h x (by simp) hm
  ·rcases List.mem_append.1 hm with hm|hm
   ·simp only [List.mem_singleton] at hm; exact hs hm
   ·exact qEB c sep hs (y::r) (fun z hz=>h z (by simp [hz])) hm
theorem lines_no{bs:List GBk}{gl:List GGl}(hb:∀b∈bs,TBk b)(hg:∀g∈gl,TGl g):∀x∈qBe bs gl,(10:UInt8)∉x:=by
 intro x hx;have d:(10:UInt8)≠32:=by decide
 unfold qBe at hx;rcases List.mem_append.1 hx with hx|hx
 ·obtain ⟨b,hb1,hx⟩:=List.mem_flatMap.1 hx;rcases List.mem_cons.1 hx with rfl|hx
  ·refine qEB 10 32 d _ (fun p hp=>?_);simp only [List.mem_cons,List.not_mem_nil,or_false] at hp;rcases hp with rfl|rfl|rfl
   ·exact qAR qHl 10 (by decide)
   ·exact qAR (Ql _) 10 (by decide)
   ·exact qAR (Ql _) 10 (by decide)
  ·obtain ⟨g,hg1,rfl⟩:=List.mem_map.1 hx;rw [qCt];intro hm;rcases List.mem_append.1 hm with hm|hm
   ·exact absurd hm (by decide)
   ·exact qEB 10 32 d _ (fun p hp=>qAR (qGO ((hb b hb1).ops g hg1) p hp) 10 (by decide)) hm
 ·obtain ⟨g,hg1,rfl⟩:=List.mem_map.1 hx;refine qEB 10 32 d _ (fun p hp=>?_);simp only [List.mem_cons,List.not_mem_nil,or_false] at hp;rcases hp with rfl|rfl|rfl
  ·exact qAR qHm 10 (by decide)
  ·exact qAR (qEg (hg g hg1).s0) 10 (by decide)
  ·exact qAR (Ql _) 10 (by decide)
theorem qKr{bs:List GBk}{gl:List GGl}(hk:allK bs gl=true)(hb:∀b∈bs,TBk b)(hg:∀g∈gl,TGl g):qDJ (qB1 bs gl)=.ok (bs,gl):=by
 unfold qDJ;rw [qIN,qGQ _ (lines_no hb hg)];have h1:=qFK bs [] hb;have h2:=qGR bs gl [] hg;rw [List.nil_append] at h1 h2;rw [qFJ (qBe bs gl) 1 ([],[]) (bs,gl) (by unfold qBe; rw [qDM _ _ _ _ h1,h2])];simp only [hk,if_true]
end Go.Proofs.YtoonkkipnljflaaGreatDoor.CJ
