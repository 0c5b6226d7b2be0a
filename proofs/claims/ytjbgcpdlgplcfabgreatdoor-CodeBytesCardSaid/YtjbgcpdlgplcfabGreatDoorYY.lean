/- Texts: numbers, parts between bytes. Conditions: none. A code and its text: what a text says. Conditions: none. The text of a code is read back, and the other way round. Conditions: the code is valid. -/
import Derived.Test.YtjbgcpdlgplcfabGreatDoorW1
import Derived.Lib.AtoiAll
import Derived.Lib.SplitLaws
import Derived.Lib.CutLaws
import Derived.Lib.LastIndexLaws
namespace Go.Proofs.YtjbgcpdlgplcfabGreatDoor.CJ
open Go.RowKit Go.Proofs.YtjbgcpdlgplcfabGreatDoorW.PrintWords Go.Proofs.YtjbgcpdlgplcfabGreatDoorW.PrintLast Go.Proofs.YtjbgcpdlgplcfabGreatDoor.PT Go.Proofs.YtjbgcpdlgplcfabGreatDoor.IMaps Go.Proofs.YtjbgcpdlgplcfabGreatDoor.TJ
set_option linter.unusedVariables false
set_option linter.unusedSimpArgs false
theorem parseUint10_app:∀(l r:List UInt8) (acc a:Nat),Lib.parseUint10 acc l=.ok a→Lib.parseUint10 acc (l++r)=Lib.parseUint10 a r
 | [],r,acc,a,h=>by
  simp only [Lib.parseUint10] at h;injection h with h; subst h; rfl
 |c::l,r,acc,a,h=>by
  simp only [Lib.parseUint10,List.cons_append] at h ⊢;split at h
  ·rename_i h1
   rw [if_pos h1];split at h
   ·cases h
   ·rename_i h2
    rw [if_neg h2];split at h
    ·cases h
    ·rename_i h3
     rw [if_neg h3];exact parseUint10_app l r _ a h
  ·cases h
theorem dig_byte(k:Nat)(h:k<10):(UInt8.ofNat (48+k)).toNat=48+k:=by rw [UInt8.toNat_ofNat']; omega
theorem parse_dec(u:Nat)(h:u<18446744073709551616):Lib.parseUint10 0 (Lib.decDigits u)=.ok u:=by
 rw [Lib.decDigits];split
 ·rename_i h1
  simp only [Lib.parseUint10,dig_byte u h1];rw [if_pos (by omega),if_neg (by omega),if_neg (by omega)]
  congr 1; omega
 ·rename_i h1
  rw [parseUint10_app _ _ _ _ (parse_dec (u / 10) (by omega))];simp only [Lib.parseUint10,dig_byte (u % 10) (by omega)];rw [if_pos (by omega),if_neg (by omega),if_neg (by omega)]
  congr 1; omega
termination_by u
decreasing_by omega
def numC(c:UInt8):Prop:=c.toNat=45∨(48≤c.toNat∧c.toNat≤57)
theorem dec_bytes(u:Nat):∀c∈Lib.decDigits u,48≤c.toNat∧c.toNat≤57:=by
 rw [Lib.decDigits];split
 ·rename_i h1
  intro c hc;simp only [List.mem_singleton] at hc;subst hc;rw [dig_byte u h1]; omega
 ·rename_i h1
  intro c hc;rcases List.mem_append.1 hc with hc|hc
  ·exact dec_bytes (u / 10) c hc
  ·simp only [List.mem_singleton] at hc;subst hc;rw [dig_byte _ (by omega)]; omega
termination_by u
decreasing_by omega
theorem dec_ne(u:Nat):Lib.decDigits u≠[]:=by
 rw [Lib.decDigits];split<;>simp
theorem itoa_bytes(n:Int):∀c∈Lib.itoa n,numC c:=by
 intro c hc;unfold Lib.itoa at hc;split at hc
 ·rcases List.mem_cons.1 hc with rfl|hc
  ·left; rfl
  ·right; exact dec_bytes _ c hc
 ·right; exact dec_bytes _ c hc
theorem itoa_ne(n:Int):Lib.itoa n≠[]:=by
 unfold Lib.itoa;split
 ·simp
 ·exact dec_ne _
def numT(p:List UInt8):Option Int:=match Lib.atoiAll p with | .ok v=>if Lib.itoa v=p then some v else none|_=>none
theorem atoi_itoa(n:Int)(h:Ok64 n):Lib.atoiAll (Lib.itoa n)=.ok n:=by
 unfold Ok64 at h;unfold Lib.itoa;split
 ·rename_i hn
  have hp:Lib.parseMag (Lib.decDigits n.natAbs)=.ok n.natAbs:=by
   unfold Lib.parseMag;rw [if_neg (dec_ne _),parse_dec _ (by omega)]
  simp only [Lib.atoiAll];rw [if_pos (by right; rfl),hp];simp only;have e45:(45:UInt8).toNat=45:=rfl;simp only [e45,not_true_eq_false,false_and,true_and,if_true,if_false];rw [if_neg (by omega)]
  congr 1; omega
 ·rename_i hn
  obtain ⟨c,r,e⟩:∃c r,Lib.decDigits n.toNat=c::r:=by
   cases hd:Lib.decDigits n.toNat with
   |nil=>exact absurd hd (dec_ne _)
   |cons c r=>exact ⟨c,r,rfl⟩
  have hc:=dec_bytes n.toNat c (by rw [e]; simp);have hp:Lib.parseMag (Lib.decDigits n.toNat)=.ok n.toNat:=by
   unfold Lib.parseMag;rw [if_neg (dec_ne _),parse_dec _ (by omega)]
  rw [e] at hp ⊢;simp only [Lib.atoiAll];rw [if_neg (by omega),hp];simp only;rw [if_neg (by omega),if_neg (by omega),if_neg (by omega)]
  congr 1; omega
theorem numT_itoa(n:Int)(h:Ok64 n):numT (Lib.itoa n)=some n:=by
 unfold numT;rw [atoi_itoa n h];exact if_pos rfl
def spl(c:UInt8):List UInt8→List (List UInt8)
 | []=>[[]]
 |b::l=>if b=c then []::spl c l else (b::(spl c l).headD [])::(spl c l).tail
theorem spl_ne(c:UInt8):∀l,spl c l≠[]
 | []=>by simp [spl]
 |b::l=>by unfold spl; split<;>simp
theorem spl_cons(c:UInt8)(l:List UInt8):∃x r,spl c l=x::r:=by
 cases h:spl c l with
 |nil=>exact absurd h (spl_ne c l)
 |cons x r=>exact ⟨x,r,rfl⟩
theorem spl_none(c:UInt8):∀(x:List UInt8),c∉x→spl c x=[x]
 | [],_=>rfl
 |b::x,h=>by
  have h1:b≠c:=fun e=>h (by simp [e])
  have h2:c∉x:=fun e=>h (by simp [e])
  rw [spl,if_neg h1,spl_none c x h2]; rfl
theorem spl_app(c:UInt8):∀(x l:List UInt8),c∉x→spl c (x++c::l)=x::spl c l
 | [],l,_=>by rw [List.nil_append,spl,if_pos rfl]
 |b::x,l,h=>by
  have h1:b≠c:=fun e=>h (by simp [e])
  have h2:c∉x:=fun e=>h (by simp [e])
  rw [List.cons_append,spl,if_neg h1,spl_app c x l h2]; rfl
theorem join_one'(x sep:List UInt8):Lib.join [x] sep=x:=by simp [Lib.join,List.intercalate]
theorem join_two(x y:List UInt8)(r:List (List UInt8))(sep:List UInt8):Lib.join (x::y::r) sep=x++(sep++Lib.join (y::r) sep):=by simp [Lib.join,List.intercalate,List.intersperse]
theorem spl_join(c:UInt8):∀(xs:List (List UInt8)),xs≠[]→(∀x∈xs,c∉x)→spl c (Lib.join xs [c])=xs
 | [],h,_=>absurd rfl h
 | [x],_,h=>by rw [join_one',spl_none c x (h x (by simp))]
 |x::y::r,_,h=>by
  rw [join_two,List.singleton_append,spl_app c x _ (h x (by simp)),spl_join c (y::r) (by simp) (fun z hz=>h z (by simp [hz]))]
theorem index_one(c:UInt8):∀(l:List UInt8),(c∉l∧Lib.index l [c] = -1)∨∃x r,l=x++c::r∧c∉x∧Lib.index l [c]=x.length
 | []=>.inl ⟨by simp,by simp [Lib.index]⟩
 |b::l=>by
  by_cases h:b=c
  ·subst h;exact .inr ⟨[],l,rfl,by simp,by simp [Lib.index,List.isPrefixOf]⟩
  ·have hp:([c]:List UInt8).isPrefixOf (b::l)=false:=by simp [List.isPrefixOf,Ne.symm h]
   have e:Lib.index (b::l) [c]=if Lib.index l [c] == -1 then -1 else Lib.index l [c]+1:=by rw [Lib.index,hp]; simp
   rcases index_one c l with ⟨h1,h2⟩|⟨x,r,h1,h2,h3⟩
   ·left;refine ⟨fun hm=>?_,by rw [e,h2]; rfl⟩;rcases List.mem_cons.1 hm with e2|hm
    ·exact h e2.symm
    ·exact h1 hm
   ·right;refine ⟨b::x,r,by rw [h1]; rfl,fun hm=>?_,?_⟩
    ·rcases List.mem_cons.1 hm with e2|hm
     ·exact h e2.symm
     ·exact h2 hm
    ·rw [e,h3,if_neg (by rw [beq_iff_eq]; omega)]; simp
theorem cut_one(c:UInt8)(l:List UInt8):(c∉l∧Lib.cut l [c]=(l,[],false))∨∃x r,l=x++c::r∧c∉x∧Lib.cut l [c]=(x,r,true):=by
 unfold Lib.cut;rcases index_one c l with ⟨h1,h2⟩|⟨x,r,h1,h2,h3⟩
 ·left;exact ⟨h1,by rw [h2]; rfl⟩
 ·right;refine ⟨x,r,h1,h2,?_⟩;rw [h3,if_pos (by omega),Int.toNat_natCast,h1];simp
theorem split_spl(c:UInt8):∀(k:Nat) (l:List UInt8),Lib.count l [c]=k→Lib.splitK [c] 0 k l=spl c l
 | 0,l,h=>by
  rw [Lib.splitK];rw [Lib.count_one] at h;rw [spl_none c l (fun hm=>by have:=List.count_pos_iff.2 hm; omega)]
 |k+1,l,h=>by
  rw [Lib.splitK];rcases index_one c l with ⟨h1,h2⟩|⟨x,r,h1,h2,h3⟩
  ·rw [Lib.count_one,List.count_eq_zero.2 h1] at h; omega
  ·rw [h3,if_neg (by rw [beq_iff_eq]; omega),Int.toNat_natCast];subst h1;rw [spl_app c x r h2];have hk:Lib.count r [c]=k:=by
    rw [Lib.count_one] at h ⊢;rw [List.count_append,List.count_eq_zero.2 h2,List.count_cons_self] at h;omega
   have e1:(x++c::r).take (x.length+0)=x:=by simp
   have e2:(x++c::r).drop (x.length+[c].length)=r:=by simp
   rw [e1,e2,split_spl c k r hk]
theorem lastOcc_no(c:UInt8)(l:List UInt8)(h:c∉l):∀k,Lib.lastOcc l [c] k = -1
 | 0=>rfl
 |k+1=>by
  have:Lib.occAt l [c] k=false:=by
   unfold Lib.occAt;cases hd:l.drop k with
   |nil=>rfl
   |cons b r=>
    have hm:b∈l:=List.mem_of_mem_drop (by rw [hd]; simp:b∈l.drop k);have:b≠c:=fun e=>h (e▸hm)
    simp [List.isPrefixOf,Ne.symm this]
  rw [Lib.lastOcc_miss _ _ _ this,lastOcc_no c l h k]
theorem occ_at(c:UInt8)(x r:List UInt8):Lib.occAt (x++c::r) [c] x.length=true:=by
 unfold Lib.occAt; simp [List.isPrefixOf]
theorem occ_behind(c:UInt8)(x r:List UInt8)(h:c∉r)(j:Nat)(hj:x.length<j):Lib.occAt (x++c::r) [c] j=false:=by
 unfold Lib.occAt;obtain ⟨t,rfl⟩:∃t,j=x.length+(t+1):=⟨j - x.length - 1,by omega⟩;rw [←List.drop_drop];simp only [List.drop_left,List.drop_succ_cons];cases hd:r.drop t with
 |nil=>rfl
 |cons b q=>
  have hm:b∈r:=List.mem_of_mem_drop (by rw [hd]; simp:b∈r.drop t);have:b≠c:=fun e=>h (e▸hm)
  simp [List.isPrefixOf,Ne.symm this]
theorem lastOcc_to(c:UInt8)(x r:List UInt8)(h:c∉r):∀k,Lib.lastOcc (x++c::r) [c] (x.length+1+k)=x.length
 | 0=>by rw [Nat.add_zero,Lib.lastOcc_hit _ _ _ (occ_at c x r)]
 |k+1=>by rw [←Nat.add_assoc,Lib.lastOcc_miss _ _ _ (occ_behind c x r h _ (by omega)),lastOcc_to c x r h k]
theorem last_none(c:UInt8)(l:List UInt8)(h:c∉l):Lib.lastIndex l [c] = -1:=by
 unfold Lib.lastIndex;split
 ·exact lastOcc_no c l h _
 ·rfl
theorem last_some(c:UInt8)(x r:List UInt8)(h:c∉r):Lib.lastIndex (x++c::r) [c]=x.length:=by
 unfold Lib.lastIndex;rw [if_pos (by simp; omega)];have e:(x++c::r).length - ([c]:List UInt8).length+1=x.length+1+r.length:=by simp; omega
 rw [e]; exact lastOcc_to c x r h _
theorem last_one(c:UInt8)(l:List UInt8):(c∉l∧Lib.lastIndex l [c] = -1)∨∃x r,l=x++c::r∧c∉r∧Lib.lastIndex l [c]=x.length:=by
 by_cases h:c∈l
 ·right;have h':c∈l.reverse:=by simpa using h
  obtain ⟨s,t,e,hs⟩:∃s t,l.reverse=s++c::t∧c∉s:=by
   rcases index_one c l.reverse with ⟨h1,_⟩|⟨x,r,h1,h2,_⟩
   ·exact absurd h' h1
   ·exact ⟨x,r,h1,h2⟩
  have e2:l=t.reverse++c::s.reverse:=by
   have:=congrArg List.reverse e;rw [List.reverse_reverse] at this;rw [this]; simp
  refine ⟨t.reverse,s.reverse,e2,by simpa using hs,?_⟩;rw [e2]; exact last_some c _ _ (by simpa using hs)
 ·exact .inl ⟨h,last_none c l h⟩
abbrev St:=List GBk×List GGl
def strT(p:List UInt8):Option ByteArray:=if p=[45] then some ⟨#[]⟩ else if nameB p then some ⟨p.toArray⟩ else none
def numsT:List (List UInt8)→Option (List Int)
 | []=>some []
 |p::r=>match numT p with|some n=>(match numsT r with|some l=>some (n::l)|none=>none)|none=>none
def listT(p:List UInt8):Option (List Int):=
 if Lib.hasPrefix p [91]&&Lib.hasSuffix (Lib.trimPrefix p [91]) [93] then
  (if Lib.trimSuffix (Lib.trimPrefix p [91]) [93]=[] then some [] else numsT (spl 44 (Lib.trimSuffix (Lib.trimPrefix p [91]) [93])))
 else none
def altT4(o s n b:List UInt8):Option GAl:=match numT o,strT s,numT n,numT b with|some f0,some f1,some f2,some f3=>some ⟨f0,f1,f2,f3⟩|_,_,_,_=>none
def altT(p:List UInt8):Option GAl:=
 let c:=Lib.cut p [58]
 let k:=Lib.lastIndex c.2.1 [58]
 if 0<k then
  (let k2:=Lib.lastIndex (c.2.1.take k.toNat) [58]
  if 0<k2 then altT4 c.1 ((c.2.1.take k.toNat).take k2.toNat) ((c.2.1.take k.toNat).drop (k2+1).toNat) (c.2.1.drop (k+1).toNat) else none)
 else none
def altsT:List (List UInt8)→Option (List GAl)
 | []=>some []
 |p::r=>match altT p with|some n=>(match altsT r with|some l=>some (n::l)|none=>none)|none=>none
def opNum(p:List UInt8):Int:=match opNames.findIdx? (· == p) with|some k=>(k:Int)+1|none=>0
def opT:List (List UInt8)→Option GOp
 |o::a::b::n::s::l::r=>
  if opNum o=0 then none else
  match numT a,numT b,numT n,strT s,listT l,altsT r with
  |some f1,some f2,some f3,some f4,some f5,some f6=>some ⟨opNum o,f1,f2,f3,f4,f5,f6⟩
  |_,_,_,_,_,_=>none
 |_=>none
def pushOp(bs:List GBk)(g:GOp):List GBk:=match bs.getLast? with|some b=>bs.dropLast++[⟨b.f0,b.f1,b.f2++[g]⟩]|none=>[]
def lineT(c:St):List (List UInt8)→Option St
 | [h,a,b]=>
  if h=[98,108,111,99,107] then (match numT a,numT b with|some f0,some f1=>if c.2=[] then some (c.1++[⟨f0,f1,[]⟩],c.2) else none|_,_=>none)
  else if h=[103,108,111,98,97,108] then (match numT b with|some f1=>if nameB a then some (c.1,c.2++[⟨⟨a.toArray⟩,f1⟩]) else none|none=>none)
  else none
 |_=>none
def addT(c:St)(l:List UInt8):Option St:=
 if Lib.hasPrefix l [32,32] then
  (if c.1=[]∨c.2≠[] then none else match opT (spl 32 (l.drop 2)) with|some g=>some (pushOp c.1 g,c.2)|none=>none)
 else lineT c (spl 32 l)
def linesT:Nat→St→List (List UInt8)→Except Nat St
 |_,c,[]=>.ok c
 |at_,c,[l]=>if l=[] then .ok c else .error at_
 |at_,c,l::r=>match addT c l with|some c'=>linesT (at_+1) c' r|none=>.error at_
inductive RdEnd where
 |ok (c:St)
 |err (at_:Nat) (e:Int)
def readT(t:List UInt8):RdEnd:=match linesT 1 ([],[]) (spl 10 t) with | .ok c=>if allK c.1 c.2 then .ok c else .err 0 41 | .error k=>.err k 4
def blockTextB(b:GBk):List UInt8:=(Lib.join [[98,108,111,99,107],Lib.itoa b.f0,Lib.itoa b.f1] [32]++[10])++b.f2.flatMap (fun g=>opLineB g++[10])
def globTextB(g:GGl):List UInt8:=Lib.join [[103,108,111,98,97,108],g.f0.data.toList,Lib.itoa g.f1] [32]++[10]
def textB(bs:List GBk)(gl:List GGl):List UInt8:=bs.flatMap blockTextB++gl.flatMap globTextB
def altText(a:GAl):List UInt8:=Lib.join (altParts a) [58]
theorem joinMore(c:UInt8):∀(xs ys:List (List UInt8)),xs≠[]→Lib.join (xs++ys) [c]=Lib.join xs [c]++ys.flatMap (fun y=>c::y)
 | [],_,h=>absurd rfl h
 | [x],[],_=>by simp [join_one']
 | [x],y::ys,_=>by
  rw [List.cons_append,List.nil_append,join_two,join_one'];have:=joinMore c [y] ys (by simp);rw [List.singleton_append] at this;rw [this,join_one']; simp
 |x::y::r,ys,_=>by
  have:=joinMore c (y::r) ys (by simp);rw [List.cons_append] at this;rw [List.cons_append,List.cons_append,join_two,join_two,this]; simp
theorem opLine_join(g:GOp):opLineB g=[32,32]++Lib.join (opParts g++g.f6.map altText) [32]:=by
 unfold opLineB opHeadB;rw [joinMore 32 _ _ (by simp [opParts]),List.append_assoc,List.flatMap_map];rfl
def nsp(p:List UInt8):Prop:=∀c∈p,32<c.toNat
theorem nsp_no{p:List UInt8}(h:nsp p)(c:UInt8)(hc:c.toNat≤32):c∉p:=fun hm=>by have:=h c hm; omega
theorem itoa_nsp(n:Int):nsp (Lib.itoa n):=fun c hc=>by rcases itoa_bytes n c hc with h|h<;>omega
theorem nsp_app{a b:List UInt8}(ha:nsp a)(hb:nsp b):nsp (a++b):=fun c hc=>by
 rcases List.mem_append.1 hc with h|h
 ·exact ha c h
 ·exact hb c h
theorem name_nsp{s:List UInt8}(h:nameB s=true):nsp s:=fun c hc=>by
 unfold nameB at h;simp only [Bool.and_eq_true,List.all_eq_true] at h;have:=h.2 c hc;unfold partB at this;simp only [Bool.and_eq_true,decide_eq_true_eq] at this;have h33:(33:UInt8)≤c:=this.1.1;have:=UInt8.le_iff_toNat_le.1 h33;have e:(33:UInt8).toNat=33:=rfl;omega
theorem name_ne{s:List UInt8}(h:nameB s=true):s≠[]:=by
 rintro rfl;simp [nameB] at h
theorem name_dash:nameB [45]=false:=by decide
def StrOk(s:List UInt8):Prop:=s=[]∨nameB s=true
theorem text_nsp{s:List UInt8}(h:StrOk s):nsp (textS s):=by
 unfold textS;split
 ·intro c hc;simp only [List.mem_singleton] at hc;subst hc; decide
 ·rcases h with h|h
  ·contradiction
  ·exact name_nsp h
theorem strT_text(s:ByteArray)(h:StrOk s.data.toList):strT (textS s.data.toList)=some s:=by
 obtain ⟨⟨l⟩⟩:=s;simp only at h ⊢;unfold strT textS;rcases h with rfl|h
 ·rfl
 ·rw [if_neg (name_ne h),if_neg (fun e=>by rw [e,name_dash] at h; cases h),if_pos h]
theorem strT_some{p:List UInt8}{s:ByteArray}(h:strT p=some s):textS s.data.toList=p∧StrOk s.data.toList:=by
 unfold strT at h;split at h
 ·rename_i e
  injection h with h; subst h
  subst e;exact ⟨rfl,.inl rfl⟩
 ·split at h
  ·rename_i hn
   injection h with h; subst h
   exact ⟨by unfold textS; rw [if_neg (name_ne hn)],.inr hn⟩
  ·cases h
theorem numsT_map:∀(l:List Int),(∀n∈l,Ok64 n)→numsT (l.map Lib.itoa)=some l
 | [],_=>rfl
 |n::l,h=>by
  rw [List.map_cons,numsT,numT_itoa n (h n (by simp)),numsT_map l (fun m hm=>h m (by simp [hm]))]
theorem suffix_snoc(x:List UInt8)(c:UInt8):Lib.hasSuffix (x++[c]) [c]=true:=by
 unfold Lib.hasSuffix; simp [List.isSuffixOf_iff_suffix]
theorem trimS_snoc(x:List UInt8)(c:UInt8):Lib.trimSuffix (x++[c]) [c]=x:=by
 unfold Lib.trimSuffix;rw [suffix_snoc]; simp
theorem prefix_cons(x:List UInt8)(c:UInt8):Lib.hasPrefix (c::x) [c]=true∧Lib.trimPrefix (c::x) [c]=x:=by
 have:Lib.hasPrefix (c::x) [c]=true:=by simp [Lib.hasPrefix,List.isPrefixOf]
 exact ⟨this,by unfold Lib.trimPrefix; rw [this]; simp⟩
theorem join_ne(c:UInt8):∀(xs:List (List UInt8)),xs≠[]→(∀x∈xs,x≠[])→Lib.join xs [c]≠[]
 | [],h,_=>absurd rfl h
 | [x],_,h=>by rw [join_one']; exact h x (by simp)
 |x::y::r,_,h=>by
  rw [join_two];intro e;exact h x (by simp) (List.append_eq_nil_iff.1 e).1
def listText(l:List Int):List UInt8:=91::(numbersB l++[93])
theorem listT_text(l:List Int)(h:∀n∈l,Ok64 n):listT (listText l)=some l:=by
 unfold listT listText;obtain ⟨p1,p2⟩:=prefix_cons (numbersB l++[93]) 91;rw [p1,p2,suffix_snoc,trimS_snoc];simp only [Bool.and_self,if_true];unfold numbersB;cases l with
 |nil=>rfl
 |cons n r=>
  have hne:Lib.join ((n::r).map Lib.itoa) [44]≠[]:=join_ne 44 _ (by simp) (fun x hx=>by
   obtain ⟨m,_,rfl⟩:=List.mem_map.1 hx;exact itoa_ne m)
  rw [if_neg hne,spl_join 44 _ (by simp) (fun x hx=>by
   obtain ⟨m,_,rfl⟩:=List.mem_map.1 hx;intro hm;rcases itoa_bytes m 44 hm with h|h
   ·exact absurd h (by decide)
   ·exact absurd h.1 (by decide))]
  exact numsT_map _ h
theorem altsT_map:∀(l:List GAl),(∀a∈l,altT (altText a)=some a)→altsT (l.map altText)=some l
 | [],_=>rfl
 |n::l,h=>by
  rw [List.map_cons,altsT,h n (by simp),altsT_map l (fun m hm=>h m (by simp [hm]))]
theorem altText_eq(a:GAl):altText a=Lib.itoa a.f0++58::(textS a.f1.data.toList++58::(Lib.itoa a.f2++58::Lib.itoa a.f3)):=by
 unfold altText altParts;rw [join_two,join_two,join_two,join_one']; rfl
theorem no58(n:Int):(58:UInt8)∉Lib.itoa n:=fun h=>by
 rcases itoa_bytes n 58 h with h|h
 ·exact absurd h (by decide)
 ·exact absurd h.2 (by decide)
theorem textS_ne(s:List UInt8):textS s≠[]:=by
 unfold textS; split
 ·simp
 ·assumption
theorem altT_parts(o s n b:List UInt8)(ho:(58:UInt8)∉o)(hn:(58:UInt8)∉n)(hb:(58:UInt8)∉b)(hs:s≠[]):altT (o++58::(s++58::(n++58::b)))=altT4 o s n b:=by
 have hc:Lib.cut (o++58::(s++58::(n++58::b))) [58]=(o,s++58::(n++58::b),true):=by
  rcases cut_one 58 (o++58::(s++58::(n++58::b))) with ⟨h1,_⟩|⟨x,r,h1,h2,h3⟩
  ·exact absurd (by simp) h1
  ·have h4:=spl_app 58 o (s++58::(n++58::b)) ho;have h5:=spl_app 58 x r h2;rw [←h1,h4] at h5;injection h5 with h5 h6;subst h5;have h7:=List.append_cancel_left h1;injection h7 with _ h7;rw [h3,←h7]
 have e1:s++58::(n++58::b)=(s++58::n)++58::b:=by simp
 have hl1:Lib.lastIndex (s++58::(n++58::b)) [58]=((s++58::n).length:Int):=by rw [e1]; exact last_some 58 _ _ hb
 have ht:(s++58::(n++58::b)).take (s++58::n).length=s++58::n:=by rw [e1]; exact List.take_left
 have hd:(s++58::(n++58::b)).drop ((s++58::n).length+1)=b:=by rw [e1,←List.drop_drop,List.drop_left]; rfl
 have hl2:Lib.lastIndex (s++58::n) [58]=(s.length:Int):=last_some 58 _ _ hn;have hpos:0<s.length:=List.length_pos_iff.2 hs;unfold altT;simp only [hc];rw [hl1,Int.toNat_natCast,if_pos (by simp; omega),ht,hl2,if_pos (by omega),Int.toNat_natCast,show (((s++58::n).length:Int)+1).toNat=(s++58::n).length+1 from by omega,hd,show ((s.length:Int)+1).toNat=s.length+1 from by omega];simp
theorem altT_text(a:GAl)(h0:Ok64 a.f0)(h1:StrOk a.f1.data.toList)(h2:Ok64 a.f2)(h3:Ok64 a.f3):altT (altText a)=some a:=by
 rw [altText_eq,altT_parts _ _ _ _ (no58 _) (no58 _) (no58 _) (textS_ne _)];unfold altT4;rw [numT_itoa _ h0,strT_text _ h1,numT_itoa _ h2,numT_itoa _ h3]
structure TAl(a:GAl):Prop where
 n0:Ok64 a.f0
 s1:StrOk a.f1.data.toList
 n2:Ok64 a.f2
 n3:Ok64 a.f3
structure TOp(g:GOp):Prop where
 n0:1≤g.f0∧g.f0≤13
 n1:Ok64 g.f1
 n2:Ok64 g.f2
 n3:Ok64 g.f3
 s4:StrOk g.f4.data.toList
 l5:∀n∈g.f5,Ok64 n
 l6:∀a∈g.f6,TAl a
structure TBk(b:GBk):Prop where
 n0:Ok64 b.f0
 n1:Ok64 b.f1
 ops:∀g∈b.f2,TOp g
structure TGl(g:GGl):Prop where
 s0:nameB g.f0.data.toList=true
 n1:Ok64 g.f1
theorem op13{n:Int}(h:1≤n∧n≤13):∃k:Fin 13,n=(k.1:Int)+1:=⟨⟨(n - 1).toNat,by omega⟩,by simp; omega⟩
theorem opNum_name{n:Int}(h:1≤n∧n≤13):opNum (opName n)=n:=by
 obtain ⟨k,rfl⟩:=op13 h;clear h
 revert k
 decide
theorem opName_nsp{n:Int}(h:1≤n∧n≤13):nsp (opName n):=by
 obtain ⟨k,rfl⟩:=op13 h;clear h
 revert k
 unfold nsp;decide
theorem opName_num{p:List UInt8}(h:opNum p≠0):opName (opNum p)=p:=by
 unfold opNum at h ⊢;cases hk:opNames.findIdx? (· == p) with
 |none=>rw [hk] at h; exact absurd rfl h
 |some k=>
  simp only;obtain ⟨hlt,hp,_⟩:=List.findIdx?_eq_some_iff_getElem.1 hk;have h13:k<13:=hlt;have e:opName ((k:Int)+1)=opNames.getD k []:=by
   unfold opName isOp;have d1:decide (1≤(k:Int)+1)=true:=decide_eq_true (by omega);have d2:decide ((k:Int)+1≤13)=true:=decide_eq_true (by omega);rw [d1,d2];simp only [Bool.and_self,if_true]
   congr 1
  rw [e,List.getD_eq_getElem?_getD,List.getElem?_eq_getElem hlt];exact beq_iff_eq.1 hp
theorem numbers_nsp(l:List Int):nsp (numbersB l):=by
 unfold numbersB
 induction l with
 |nil=>intro c hc; simp [Lib.join,List.intercalate] at hc
 |cons n r ih=>
  cases r with
  |nil=>rw [List.map_cons,List.map_nil,join_one']; exact itoa_nsp n
  |cons m r=>
   rw [List.map_cons,List.map_cons,join_two];refine nsp_app (itoa_nsp n) (nsp_app ?_ ih);intro c hc;simp only [List.mem_singleton] at hc;subst hc; decide
theorem byte_nsp(c:UInt8)(h:32<c.toNat):nsp [c]:=fun d hd=>by simp only [List.mem_singleton] at hd; subst hd; exact h
theorem list_nsp(l:List Int):nsp (listText l):=nsp_app (byte_nsp 91 (by decide)) (nsp_app (numbers_nsp l) (byte_nsp 93 (by decide)))
theorem alt_nsp{a:GAl}(h:TAl a):nsp (altText a):=by
 rw [altText_eq];have c58:nsp [58]:=byte_nsp 58 (by decide);exact nsp_app (itoa_nsp _) (nsp_app c58 (nsp_app (text_nsp h.s1) (nsp_app c58 (nsp_app (itoa_nsp _) (nsp_app c58 (itoa_nsp _))))))
theorem parts_nsp{g:GOp}(h:TOp g):∀p∈opParts g++g.f6.map altText,nsp p:=by
 intro p hp;rcases List.mem_append.1 hp with hp|hp
 ·unfold opParts at hp;simp only [List.mem_cons,List.not_mem_nil,or_false] at hp;rcases hp with rfl|rfl|rfl|rfl|rfl|rfl
  ·exact opName_nsp h.n0
  ·exact itoa_nsp _
  ·exact itoa_nsp _
  ·exact itoa_nsp _
  ·exact text_nsp h.s4
  ·exact list_nsp _
 ·obtain ⟨a,ha,rfl⟩:=List.mem_map.1 hp;exact alt_nsp (h.l6 a ha)
theorem opT_parts{g:GOp}(h:TOp g):opT (opParts g++g.f6.map altText)=some g:=by
 unfold opParts;simp only [List.cons_append,List.nil_append,opT];rw [opNum_name h.n0,if_neg (by have:=h.n0; omega),numT_itoa _ h.n1,numT_itoa _ h.n2,numT_itoa _ h.n3,strT_text _ h.s4];have:=listT_text g.f5 h.l5;unfold listText at this;rw [this,altsT_map _ (fun a ha=>altT_text a (h.l6 a ha).n0 (h.l6 a ha).s1 (h.l6 a ha).n2 (h.l6 a ha).n3)]
theorem opLine_parts{g:GOp}(h:TOp g):spl 32 ((opLineB g).drop 2)=opParts g++g.f6.map altText:=by
 rw [opLine_join];show spl 32 (Lib.join (opParts g++g.f6.map altText) [32])=_
 exact spl_join 32 _ (by simp [opParts]) (fun p hp=>nsp_no (parts_nsp h p hp) 32 (by decide))
theorem opLine_pre(g:GOp):Lib.hasPrefix (opLineB g) [32,32]=true:=by
 rw [opLine_join]; simp [Lib.hasPrefix,List.isPrefixOf]
theorem addT_op{g:GOp}(h:TOp g)(bs:List GBk)(hb:bs≠[]):addT (bs,[]) (opLineB g)=some (pushOp bs g,[]):=by
 unfold addT;rw [opLine_pre,if_pos rfl,if_neg (by simp [hb]),opLine_parts h,opT_parts h]
def blockHead(b:GBk):List UInt8:=Lib.join [[98,108,111,99,107],Lib.itoa b.f0,Lib.itoa b.f1] [32]
def globLine(g:GGl):List UInt8:=Lib.join [[103,108,111,98,97,108],g.f0.data.toList,Lib.itoa g.f1] [32]
theorem lit_nsp1:nsp [98,108,111,99,107]:=by unfold nsp; decide
theorem lit_nsp2:nsp [103,108,111,98,97,108]:=by unfold nsp; decide
theorem head_parts(b:GBk):spl 32 (blockHead b)=[[98,108,111,99,107],Lib.itoa b.f0,Lib.itoa b.f1]:=
 spl_join 32 _ (by simp) (fun p hp=>by
  simp only [List.mem_cons,List.not_mem_nil,or_false] at hp;rcases hp with rfl|rfl|rfl
  ·exact nsp_no lit_nsp1 32 (by decide)
  ·exact nsp_no (itoa_nsp _) 32 (by decide)
  ·exact nsp_no (itoa_nsp _) 32 (by decide))
theorem glob_parts{g:GGl}(h:TGl g):spl 32 (globLine g)=[[103,108,111,98,97,108],g.f0.data.toList,Lib.itoa g.f1]:=
 spl_join 32 _ (by simp) (fun p hp=>by
  simp only [List.mem_cons,List.not_mem_nil,or_false] at hp;rcases hp with rfl|rfl|rfl
  ·exact nsp_no lit_nsp2 32 (by decide)
  ·exact nsp_no (name_nsp h.s0) 32 (by decide)
  ·exact nsp_no (itoa_nsp _) 32 (by decide))
theorem head_pre(b:GBk):Lib.hasPrefix (blockHead b) [32,32]=false:=by
 unfold blockHead; rw [join_two]; rfl
theorem glob_pre(g:GGl):Lib.hasPrefix (globLine g) [32,32]=false:=by
 unfold globLine; rw [join_two]; rfl
theorem addT_head{b:GBk}(h:TBk b)(bs:List GBk):addT (bs,[]) (blockHead b)=some (bs++[⟨b.f0,b.f1,[]⟩],[]):=by
 unfold addT;rw [head_pre,if_neg (by simp),head_parts];simp only [lineT,if_true];rw [numT_itoa _ h.n0,numT_itoa _ h.n1]
theorem addT_glob{g:GGl}(h:TGl g)(bs:List GBk)(gl:List GGl):addT (bs,gl) (globLine g)=some (bs,gl++[g]):=by
 unfold addT;rw [glob_pre,if_neg (by simp),glob_parts h];have hne:¬([103,108,111,98,97,108]:List UInt8)=[98,108,111,99,107]:=by decide
 simp only [lineT,hne,if_false,if_true];rw [numT_itoa _ h.n1];simp only [h.s0,if_true]
def codeLines(bs:List GBk)(gl:List GGl):List (List UInt8):=bs.flatMap (fun b=>blockHead b::b.f2.map opLineB)++gl.map globLine
def nlAll(xs:List (List UInt8)):List UInt8:=xs.flatMap (fun x=>x++[10])
theorem nlAll_app(a b:List (List UInt8)):nlAll (a++b)=nlAll a++nlAll b:=by unfold nlAll; rw [List.flatMap_append]
theorem textB_lines(bs:List GBk)(gl:List GGl):textB bs gl=nlAll (codeLines bs gl):=by
 unfold textB codeLines;rw [nlAll_app]
 congr 1
 ·induction bs with
  |nil=>rfl
  |cons b r ih=>
   rw [List.flatMap_cons,List.flatMap_cons,nlAll_app,ih]
   congr 1
   unfold blockTextB nlAll;rw [List.flatMap_cons,List.flatMap_map];rfl
 ·unfold nlAll;rw [List.flatMap_map];rfl
theorem spl_lines:∀(xs:List (List UInt8)),(∀x∈xs,(10:UInt8)∉x)→spl 10 (nlAll xs)=xs++[[]]
 | [],_=>rfl
 |x::r,h=>by
  have e:nlAll (x::r)=x++10::nlAll r:=by unfold nlAll; rw [List.flatMap_cons,List.append_assoc]; rfl
  rw [e,spl_app 10 x _ (h x (by simp)),spl_lines r (fun y hy=>h y (by simp [hy]))];rfl
def addAll:St→List (List UInt8)→Option St
 |c,[]=>some c
 |c,l::r=>match addT c l with|some c'=>addAll c' r|none=>none
theorem addAll_app:∀(xs ys:List (List UInt8)) (c c':St),addAll c xs=some c'→addAll c (xs++ys)=addAll c' ys
 | [],ys,c,c',h=>by cases h; rfl
 |x::xs,ys,c,c',h=>by
  rw [addAll] at h;rw [List.cons_append,addAll];cases ha:addT c x with
  |none=>rw [ha] at h; cases h
  |some c1=>
   rw [ha] at h;exact addAll_app xs ys c1 c' h
theorem linesT_all:∀(xs:List (List UInt8)) (k:Nat) (c c':St),addAll c xs=some c'→linesT k c (xs++[[]])=.ok c'
 | [],k,c,c',h=>by cases h; rfl
 |x::xs,k,c,c',h=>by
  rw [addAll] at h;cases ha:addT c x with
  |none=>rw [ha] at h; cases h
  |some c1=>
   rw [ha] at h;have hx:xs++[[]]≠[]:=by simp
   rw [List.cons_append];cases hxs:xs++[[]] with
   |nil=>exact absurd hxs hx
   |cons y r=>
    rw [linesT,ha]
    ·simp only;rw [←hxs]; exact linesT_all xs (k+1) c1 c' h
    ·intro h; cases h
theorem push_last(bs:List GBk)(f0 f1:Int)(os:List GOp)(g:GOp):pushOp (bs++[⟨f0,f1,os⟩]) g=bs++[⟨f0,f1,os++[g]⟩]:=by
 unfold pushOp;rw [List.getLast?_append];simp
theorem add_ops(bs:List GBk)(f0 f1:Int):∀(l os:List GOp),(∀g∈l,TOp g)→addAll (bs++[⟨f0,f1,os⟩],[]) (l.map opLineB)=some (bs++[⟨f0,f1,os++l⟩],[])
 | [],os,_=>by simp [addAll]
 |g::l,os,h=>by
  rw [List.map_cons,addAll,addT_op (h g (by simp)) _ (by simp),push_last];simp only;rw [add_ops bs f0 f1 l (os++[g]) (fun x hx=>h x (by simp [hx]))];simp
theorem add_block(bs:List GBk){b:GBk}(h:TBk b):addAll (bs,[]) (blockHead b::b.f2.map opLineB)=some (bs++[b],[]):=by
 rw [addAll,addT_head h];simp only;have:=add_ops bs b.f0 b.f1 b.f2 [] h.ops;rw [List.nil_append] at this;exact this
theorem add_blocks:∀(l bs:List GBk),(∀b∈l,TBk b)→addAll (bs,[]) (l.flatMap (fun b=>blockHead b::b.f2.map opLineB))=some (bs++l,[])
 | [],bs,_=>by simp [addAll]
 |b::l,bs,h=>by
  rw [List.flatMap_cons,addAll_app _ _ _ _ (add_block bs (h b (by simp))),add_blocks l (bs++[b]) (fun x hx=>h x (by simp [hx]))];simp
theorem add_globs(bs:List GBk):∀(l gl:List GGl),(∀g∈l,TGl g)→addAll (bs,gl) (l.map globLine)=some (bs,gl++l)
 | [],gl,_=>by simp [addAll]
 |g::l,gl,h=>by
  rw [List.map_cons,addAll,addT_glob (h g (by simp))];simp only;rw [add_globs bs l (gl++[g]) (fun x hx=>h x (by simp [hx]))];simp
theorem join_no(c sep:UInt8)(hs:c≠sep):∀(xs:List (List UInt8)),(∀x∈xs,c∉x)→c∉Lib.join xs [sep]
 | [],_=>by simp [Lib.join,List.intercalate]
 | [x],h=>by rw [join_one']; exact h x (by simp)
 |x::y::r,h=>by
  rw [join_two];intro hm;rcases List.mem_append.1 hm with hm|hm
  ·exact h x (by simp) hm
  ·rcases List.mem_append.1 hm with hm|hm
   ·simp only [List.mem_singleton] at hm; exact hs hm
   ·exact join_no c sep hs (y::r) (fun z hz=>h z (by simp [hz])) hm
theorem lines_no{bs:List GBk}{gl:List GGl}(hb:∀b∈bs,TBk b)(hg:∀g∈gl,TGl g):∀x∈codeLines bs gl,(10:UInt8)∉x:=by
 intro x hx;have d:(10:UInt8)≠32:=by decide
 unfold codeLines at hx;rcases List.mem_append.1 hx with hx|hx
 ·obtain ⟨b,hb1,hx⟩:=List.mem_flatMap.1 hx;rcases List.mem_cons.1 hx with rfl|hx
  ·refine join_no 10 32 d _ (fun p hp=>?_);simp only [List.mem_cons,List.not_mem_nil,or_false] at hp;rcases hp with rfl|rfl|rfl
   ·exact nsp_no lit_nsp1 10 (by decide)
   ·exact nsp_no (itoa_nsp _) 10 (by decide)
   ·exact nsp_no (itoa_nsp _) 10 (by decide)
  ·obtain ⟨g,hg1,rfl⟩:=List.mem_map.1 hx;rw [opLine_join];intro hm;rcases List.mem_append.1 hm with hm|hm
   ·exact absurd hm (by decide)
   ·exact join_no 10 32 d _ (fun p hp=>nsp_no (parts_nsp ((hb b hb1).ops g hg1) p hp) 10 (by decide)) hm
 ·obtain ⟨g,hg1,rfl⟩:=List.mem_map.1 hx;refine join_no 10 32 d _ (fun p hp=>?_);simp only [List.mem_cons,List.not_mem_nil,or_false] at hp;rcases hp with rfl|rfl|rfl
  ·exact nsp_no lit_nsp2 10 (by decide)
  ·exact nsp_no (name_nsp (hg g hg1).s0) 10 (by decide)
  ·exact nsp_no (itoa_nsp _) 10 (by decide)
theorem read_text{bs:List GBk}{gl:List GGl}(hk:allK bs gl=true)(hb:∀b∈bs,TBk b)(hg:∀g∈gl,TGl g):readT (textB bs gl)=.ok (bs,gl):=by
 unfold readT;rw [textB_lines,spl_lines _ (lines_no hb hg)];have h1:=add_blocks bs [] hb;have h2:=add_globs bs gl [] hg;rw [List.nil_append] at h1 h2;rw [linesT_all (codeLines bs gl) 1 ([],[]) (bs,gl) (by unfold codeLines; rw [addAll_app _ _ _ _ h1,h2])];simp only [hk,if_true]
end Go.Proofs.YtjbgcpdlgplcfabGreatDoor.CJ
