/- What is packed is read back. Conditions: the code is small. Packed codes: unpacked again; cut off or changed they are none. Conditions: the code is valid. -/
import Derived.Test.YtjbgcpdlgplcfabGreatDoorUC
namespace Go.Proofs.YtjbgcpdlgplcfabGreatDoor.CJ
open Go.RowKit Go.Proofs.YtjbgcpdlgplcfabGreatDoorW.PrintWords Go.Proofs.YtjbgcpdlgplcfabGreatDoorW.PrintLast Go.Proofs.YtjbgcpdlgplcfabGreatDoor.PT Go.Proofs.YtjbgcpdlgplcfabGreatDoor.IMaps Go.Proofs.YtjbgcpdlgplcfabGreatDoor.TJ
set_option linter.unusedVariables false
set_option linter.unusedSimpArgs false
theorem ofNat_toNat(n:Nat)(h:n<256):(UInt8.ofNat n).toNat=n:=by simp; omega
theorem bigF_big:∀(k n:Nat) (r:List UInt8),n<128 ^ (k+1)→bigF (k+1) (bigB n++r)=some (n,r)
 | 0,n,r,h=>by
  have:n≤127:=by simp at h; omega
  rw [bigB,if_pos this];simp only [List.cons_append,List.nil_append,bigF];rw [ofNat_toNat n (by omega),if_pos (by omega)]
 |k+1,n,r,h=>by
  rw [bigB];split
  ·simp only [List.cons_append,List.nil_append,bigF];rw [ofNat_toNat n (by omega),if_pos (by omega)]
  ·have hd:n / 128<128 ^ (k+1):=by
    rw [Nat.div_lt_iff_lt_mul (by decide)];rw [Nat.pow_succ] at h;exact h
   rw [List.cons_append,bigF,ofNat_toNat _ (by omega),if_neg (by omega),bigF_big k _ r hd];simp only [Option.map_some,Option.some.injEq,Prod.mk.injEq,and_true];omega
theorem bigR_big(n:Nat)(r:List UInt8)(h:n<18446744073709551616):bigR (bigB n++r)=some (n,r):=by
 unfold bigR;rw [bigF_big 9 n r (by omega)];simp only [Option.map_some,Option.some.injEq,Prod.mk.injEq,and_true];exact Nat.mod_eq_of_lt h
theorem bigB_pos(n:Nat):1≤(bigB n).length:=by
 rw [bigB]; split<;>simp
theorem numR_num(n:Int)(r:List UInt8)(h0:0≤n)(h1:n≤4611686018427387904):numR (numB n++r)=some (n,r):=by
 unfold numR numB;rw [bigR_big _ _ (by omega)];simp only;rw [if_pos (by omega)]
 congr 2; omega
theorem unfold_fold(n:Int):unfoldN (foldN n)=n:=by
 unfold unfoldN foldN;split<;>split<;>omega
theorem foldN_lt(n:Int)(h:Ok64 n):foldN n<18446744073709551616:=by
 unfold Ok64 at h; unfold foldN; split<;>omega
theorem integerR_integer(n:Int)(r:List UInt8)(h:Ok64 n):integerR (integerB n++r)=some (n,r):=by
 unfold integerR integerB;rw [bigR_big _ _ (foldN_lt n h)];simp only;rw [unfold_fold]
theorem countR_num(n:Nat)(r:List UInt8)(h:n≤r.length)(h1:n≤4611686018427387904):countR (numB n++r)=some ((n:Int),r):=by
 unfold countR;rw [numR_num n r (by omega) (by omega)];simp only;rw [if_pos (by omega)]
theorem strR_str(s:ByteArray)(r:List UInt8)(h1:s.data.toList.length≤4611686018427387904):strR (strB s.data.toList++r)=some (s,r):=by
 unfold strR strB;rw [List.append_assoc,countR_num _ _ (by simp) h1];simp
theorem listR_flat{α:Type}{f:List UInt8→Option (α×List UInt8)}{enc:α→List UInt8}:∀(xs:List α) (r:List UInt8),(∀x∈xs,∀r,f (enc x++r)=some (x,r))→listR f xs.length (xs.flatMap enc++r)=some (xs,r)
 | [],r,_=>by simp [listR]
 |x::xs,r,h=>by
  rw [List.flatMap_cons,List.append_assoc,List.length_cons,listR,h x (by simp)];simp only;rw [listR_flat xs r (fun y hy=>h y (by simp [hy]))]
theorem flat_pos{α:Type}(enc:α→List UInt8):∀(xs:List α),(∀x∈xs,1≤(enc x).length)→xs.length≤(xs.flatMap enc).length
 | [],_=>by simp
 |x::xs,h=>by
  rw [List.flatMap_cons,List.length_append,List.length_cons];have:=flat_pos enc xs (fun y hy=>h y (by simp [hy]));have:=h x (by simp);omega
theorem numsR_nums(l:List Int)(r:List UInt8)(h:∀n∈l,0≤n∧n≤4611686018427387904)(hl:l.length≤4611686018427387904):numsR (numB l.length++(numsB l++r))=some (l,r):=by
 unfold numsR rowR;rw [countR_num _ _ (by have:=flat_pos numB l (fun n _=>bigB_pos _); unfold numsB; rw [List.length_append]; omega) hl];simp only [Int.toNat_natCast];exact listR_flat l r (fun x hx r=>numR_num x r (h x hx).1 (h x hx).2)
theorem altR_alt(a:GAl)(nb:Nat)(hn:nb≤1500)(r:List UInt8)(h:SmAl nb a)(hw:Ok64 a.f2):altR (altB a++r)=some (a,r):=by
 unfold altR altB altP;simp only [List.flatten_cons,List.flatten_nil,List.append_nil,List.append_assoc];rw [rdBind_some (numR_num _ _ (by have:=h.n0; omega) (by have:=h.n0; omega)),rdBind_some (strR_str _ _ (by have:=h.s1; omega)),rdBind_some (integerR_integer _ _ hw),rdBind_some (numR_num _ _ (by have:=h.n3; omega) (by have:=h.n3; omega))]
theorem altB_pos(a:GAl):1≤(altB a).length:=by
 have:=bigB_pos a.f0.toNat;unfold altB altP numB;simp only [List.flatten_cons,List.length_append];omega
theorem opR_op(g:GOp)(nb:Nat)(hn:nb≤1500)(r:List UInt8)(h:SmOp nb g)(hw:Ok64 g.f3∧∀a∈g.f6,Ok64 a.f2):opR (opB g++r)=some (g,r):=by
 unfold opR opB opP;simp only [List.flatten_cons,List.flatten_nil,List.append_nil,List.append_assoc,List.cons_append,List.nil_append];have h0:(((UInt8.ofNat g.f0.toNat).toNat:Nat):Int)=g.f0:=by
  rw [ofNat_toNat _ (by have:=h.n0; omega)]; have:=h.n0; omega
 have h6:=flat_pos altB g.f6 (fun a _=>altB_pos a);rw [nextR,rdBind_some rfl,rdBind_some (numR_num _ _ (by have:=h.n1; omega) (by have:=h.n1; omega)),rdBind_some (numR_num _ _ (by have:=h.n2; omega) (by have:=h.n2; omega)),rdBind_some (integerR_integer _ _ hw.1),rdBind_some (strR_str _ _ (by have:=h.s4; omega)),
  rdBind_some (numsR_nums _ _ (fun n hn=>by have:=h.l5.2 n hn; omega) (by have:=h.l5.1; omega)),rdBind_some (countR_num _ _ (by rw [List.length_append]; omega) (by have:=h.l6.1; omega))]
 rw [Int.toNat_natCast,rdBind_some (listR_flat g.f6 r (fun a ha r=>altR_alt a nb hn r (h.l6.2 a ha) (hw.2 a ha))),h0]
theorem opB_pos(g:GOp):1≤(opB g).length:=by
 unfold opB opP;simp only [List.flatten_cons,List.length_append,List.length_cons];omega
theorem blockR_blk(b:GBk)(nb:Nat)(hn:nb≤1500)(r:List UInt8)(h:SmBk nb b)(hw:∀g∈b.f2,Ok64 g.f3∧∀a∈g.f6,Ok64 a.f2):blockR (blkB b++r)=some (b,r):=by
 unfold blockR blkB hdB;simp only [List.append_assoc];have h6:=flat_pos opB b.f2 (fun a _=>opB_pos a);rw [rdBind_some (numR_num _ _ (by have:=h.n0; omega) (by have:=h.n0; omega)),rdBind_some (numR_num _ _ (by have:=h.n1; omega) (by have:=h.n1; omega)),rdBind_some (countR_num _ _ (by rw [List.length_append]; omega) (by have:=h.l2; omega))];rw [Int.toNat_natCast,rdBind_some (listR_flat b.f2 r (fun a ha r=>opR_op a nb hn r (h.ops a ha) (hw a ha)))]
theorem globR_glb(g:GGl)(nb:Nat)(hn:nb≤1500)(r:List UInt8)(h:g.f0.data.toList.length≤60∧0≤g.f1∧g.f1<nb):globR (glbB g++r)=some (g,r):=by
 unfold globR glbB;rw [List.append_assoc,rdBind_some (strR_str _ _ (by omega)),rdBind_some (numR_num _ _ (by omega) (by omega))]
theorem blkB_pos(b:GBk):1≤(blkB b).length:=by
 have:=bigB_pos b.f0.toNat;unfold blkB hdB numB;simp only [List.length_append];omega
theorem glbB_pos(g:GGl):1≤(glbB g).length:=by
 have:=bigB_pos g.f1.toNat;unfold glbB numB;simp only [List.length_append];omega
def codeRaw(l:List UInt8):Option ((List GBk×List GGl)×List UInt8):=rdBind (countR l) fun n r1=>rdBind (listR blockR n.toNat r1) fun bs r2=>rdBind (countR r2) fun n r3=>rdBind (listR globR n.toNat r3) fun gl r4=>some ((bs,gl),r4)
theorem codeR_raw(l:List UInt8):codeR l=match codeRaw l with|some (c,r)=>if r=[] then some (c,r) else none|none=>none:=by
 unfold codeR codeRaw;cases h1:countR l with
 |none=>simp [rdBind]
 |some p=>
  simp only [rdBind];cases h2:listR blockR p.1.toNat p.2 with
  |none=>simp
  |some p2=>
   simp only;cases h3:countR p2.2 with
   |none=>simp
   |some p3=>
    simp only;cases h4:listR globR p3.1.toNat p3.2 with
    |none=>simp
    |some p4=>simp
def packQ(bs:List GBk)(gl:List GGl):List UInt8:=numB bs.length++(bs.flatMap blkB++(numB gl.length++gl.flatMap glbB))
theorem packP_eq(bs:List GBk)(gl:List GGl):packP bs gl=markB++packQ bs gl:=by unfold packP packQ; rw [List.append_assoc]
theorem codeRaw_pack(bs:List GBk)(gl:List GGl)(s:List UInt8)(h:SmC bs gl)(hw:WfC bs):codeRaw (packQ bs gl++s)=some ((bs,gl),s):=by
 unfold codeRaw packQ;simp only [List.append_assoc];have h1:=flat_pos blkB bs (fun a _=>blkB_pos a);have h2:=flat_pos glbB gl (fun a _=>glbB_pos a);have nb:=h.nb;rw [rdBind_some (countR_num _ _ (by rw [List.length_append]; omega) (by omega)),Int.toNat_natCast,rdBind_some (listR_flat bs _ (fun b hb r=>blockR_blk b bs.length nb.2 r (h.blocks b hb) (hw b hb))),
  rdBind_some (countR_num _ _ (by rw [List.length_append]; omega) (by have:=h.ng; omega)),Int.toNat_natCast,rdBind_some (listR_flat gl _ (fun g hg r=>globR_glb g bs.length nb.2 r (h.globs g hg)))]
theorem codeR_pack(bs:List GBk)(gl:List GGl)(h:SmC bs gl)(hw:WfC bs):codeR (packQ bs gl)=some ((bs,gl),[]):=by
 have:=codeRaw_pack bs gl [] h hw;rw [List.append_nil] at this;rw [codeR_raw,this]; simp
theorem sum4_len(n:Nat):(sum4 n).length=4:=rfl
theorem sealB_len(P:List UInt8):(sealB P).length=P.length+4:=by unfold sealB; rw [List.length_append,sum4_len]
theorem seal_cut(P:List UInt8):(sealB P).take ((sealB P).length - 4)=P:=by
 rw [sealB_len,Nat.add_sub_cancel]; unfold sealB; simp
theorem packQ_pos(bs:List GBk)(gl:List GGl):2≤(packQ bs gl).length:=by
 have h1:=bigB_pos (bs.length:Int).toNat;have h2:=bigB_pos (gl.length:Int).toNat;unfold packQ numB;simp only [List.length_append];omega
theorem unpackR_pack(bs:List GBk)(gl:List GGl)(hk:allK bs gl=true)(hw:WfC bs)(hl:(packB bs gl).length≤200000):unpackR (packB bs gl)=some (bs,gl):=by
 have e:packB bs gl=sealB (markB++packQ bs gl):=by unfold packB; rw [packP_eq]
 have hc:(packB bs gl).take ((packB bs gl).length - 4)=markB++packQ bs gl:=by rw [e]; exact seal_cut _
 have h7:7≤(packB bs gl).length:=by rw [e,sealB_len,List.length_append]; have:=packQ_pos bs gl; have:markB.length=3:=rfl; omega
 have h3:(packB bs gl).take 3=markB:=by rw [e]; rfl
 unfold unpackR;rw [hc,if_pos ⟨hl,h7,h3,e.symm⟩];have:(markB++packQ bs gl).drop 3=packQ bs gl:=rfl;rw [this,codeR_pack bs gl (allK_small hk) hw];exact if_pos ⟨hk,rfl⟩
theorem unpackR_some{l:List UInt8}{c:List GBk×List GGl}(h:unpackR l=some c):allK c.1 c.2=true∧packB c.1 c.2=l∧l.length≤200000∧WfC c.1:=by
 unfold unpackR at h;split at h
 ·rename_i hc
  cases hr:codeR ((l.take (l.length - 4)).drop 3) with
  |none=>rw [hr] at h; cases h
  |some p=>
   obtain ⟨⟨b1,g1⟩,r⟩:=p;rw [hr] at h;simp only at h;split at h
   ·rename_i hc2
    simp only [Option.some.injEq] at h;subst h;refine ⟨hc2.1,hc2.2,hc.1,(codeR_ok ?_ hr).2⟩;rw [List.length_drop,List.length_take]; omega
   ·cases h
 ·cases h
theorem unpackR_cut(bs:List GBk)(gl:List GGl)(hk:allK bs gl=true)(hw:WfC bs)(at_:Nat)(ha:at_<(packB bs gl).length):unpackR ((packB bs gl).take at_)=none:=by
 cases hu:unpackR ((packB bs gl).take at_) with
 |none=>rfl
 |some c=>
  exfalso
  obtain ⟨h1,h2,h3,h4⟩:=unpackR_some hu;obtain ⟨cb,cg⟩:=c;simp only at h1 h2 h4;have e1:packB cb cg=markB++packQ cb cg++sum4 (sumB (packP cb cg)):=by unfold packB sealB; rw [packP_eq]
  have e2:packB bs gl=markB++packQ bs gl++sum4 (sumB (packP bs gl)):=by unfold packB sealB; rw [packP_eq]
  have hlen:(packB cb cg).length=at_:=by rw [h2,List.length_take]; omega
  have l1:(packB cb cg).length=3+(packQ cb cg).length+4:=by rw [e1]; simp [List.length_append,sum4_len,markB]; omega
  have l2:(packB bs gl).length=3+(packQ bs gl).length+4:=by rw [e2]; simp [List.length_append,sum4_len,markB]; omega
  have hq:packQ bs gl=packQ cb cg++(packQ bs gl).drop (packQ cb cg).length:=by
   have h5:(packB cb cg).drop 3=((packB bs gl).drop 3).take (at_ - 3):=by rw [h2,List.drop_take]
   have h6:(packQ cb cg)=((packB cb cg).drop 3).take (packQ cb cg).length:=by
    rw [e1,List.append_assoc]; simp [markB]
   have h7:(packB bs gl).drop 3=packQ bs gl++sum4 (sumB (packP bs gl)):=by rw [e2,List.append_assoc]; rfl
   rw [h5,h7,List.take_take,Nat.min_eq_left (by omega),List.take_append_of_le_length (by omega)] at h6
   conv=>rhs; rw [h6]
   rw [List.length_take,Nat.min_eq_left (by omega),List.take_append_drop]
  have r1:=codeRaw_pack cb cg ((packQ bs gl).drop (packQ cb cg).length) (allK_small h1) h4;rw [←hq] at r1;have r2:=codeRaw_pack bs gl [] (allK_small hk) hw;rw [List.append_nil,r1] at r2;simp only [Option.some.injEq,Prod.mk.injEq] at r2;have:=congrArg List.length r2.2;rw [List.length_drop,List.length_nil] at this;omega
def byteSum(l:List UInt8):Nat:=(l.map (·.toNat)).sum
theorem sum_fst:∀(l:List UInt8) (p:Nat×Nat),p.1<65521→(l.foldl sumStep p).1=(p.1+byteSum l) % 65521
 | [],p,h=>by simp [byteSum,Nat.mod_eq_of_lt h]
 |c::r,p,h=>by
  rw [List.foldl_cons,sum_fst r _ (by unfold sumStep; exact Nat.mod_lt _ (by decide))];unfold sumStep byteSum;simp only [List.map_cons,List.sum_cons];omega
theorem sum_snd:∀(l:List UInt8) (p:Nat×Nat),p.2<65521→(l.foldl sumStep p).2<65521
 | [],p,h=>h
 |c::r,p,h=>by
  rw [List.foldl_cons];exact sum_snd r _ (by unfold sumStep; exact Nat.mod_lt _ (by decide))
theorem sumB_lt4(l:List UInt8):sumB l<4294967296:=by
 have h1:=sum_fst l (1,0) (by decide);have h2:=sum_snd l (1,0) (by decide);have h3:(1+byteSum l) % 65521<65521:=Nat.mod_lt _ (by decide);unfold sumB sumP;omega
theorem sum4_inj(a b:Nat)(ha:a<4294967296)(hb:b<4294967296)(h:sum4 a=sum4 b):a=b:=by
 unfold sum4 at h;simp only [List.cons.injEq,and_true] at h;obtain ⟨h1,h2,h3,h4⟩:=h;have f:=fun {x y:Nat} (e:UInt8.ofNat x=UInt8.ofNat y)=>congrArg UInt8.toNat e
 have g1:=f h1;have g2:=f h2;have g3:=f h3;have g4:=f h4;simp only [UInt8.toNat_ofNat'] at g1 g2 g3 g4;omega
theorem byteSum_set:∀(l:List UInt8) (k:Nat) (x y:UInt8),l[k]? = some x→byteSum (l.set k y)+x.toNat=byteSum l+y.toNat
 | [],k,x,y,h=>by simp at h
 |c::r,0,x,y,h=>by
  simp only [List.getElem?_cons_zero,Option.some.injEq] at h;subst h;simp [byteSum]; omega
 |c::r,k+1,x,y,h=>by
  have:=byteSum_set r k x y (by simpa using h);simp only [byteSum,List.set_cons_succ,List.map_cons,List.sum_cons] at this ⊢;omega
theorem sumB_set(l:List UInt8)(k:Nat)(x y:UInt8)(h:l[k]? = some x)(hne:x≠y):sumB (l.set k y)≠sumB l:=by
 intro e;have s1:=sum_fst l (1,0) (by decide);have s2:=sum_fst (l.set k y) (1,0) (by decide);have hb:=byteSum_set l k x y h;have hx:=x.toNat_lt;have hy:=y.toNat_lt;have hn:x.toNat≠y.toNat:=fun e=>hne (UInt8.toNat_inj.1 e)
 have m1:(1+byteSum l) % 65521<65521:=Nat.mod_lt _ (by decide);have m2:(1+byteSum (l.set k y)) % 65521<65521:=Nat.mod_lt _ (by decide);unfold sumB sumP at e;omega
theorem unpackR_change(bs:List GBk)(gl:List GGl)(at_:Nat)(x y:UInt8)(hx:(packB bs gl)[at_]? = some x)(hne:x≠y):unpackR ((packB bs gl).set at_ y)=none:=by
 have e2:packB bs gl=sealB (packP bs gl):=rfl;have hlen:=sealB_len (packP bs gl);have hat:=(List.getElem?_eq_some_iff.1 hx).1;cases hu:unpackR ((packB bs gl).set at_ y) with
 |none=>rfl
 |some c=>
  exfalso
  unfold unpackR at hu;split at hu
  ·rename_i hc
   have hs:=hc.2.2.2;rw [List.length_set] at hs;by_cases hlt:at_<(packP bs gl).length
   ·have h1:((packB bs gl).set at_ y).take ((packB bs gl).length - 4)=(packP bs gl).set at_ y:=by
     rw [List.take_set,e2,seal_cut]
    have h2:(packB bs gl).set at_ y=(packP bs gl).set at_ y++sum4 (sumB (packP bs gl)):=by
     rw [e2]; unfold sealB; rw [List.set_append_left _ _ hlt]
    rw [h1,h2] at hs;unfold sealB at hs;have h3:=sum4_inj _ _ (sumB_lt4 _) (sumB_lt4 _) (List.append_cancel_left hs);have h4:(packP bs gl)[at_]? = some x:=by
     rw [e2] at hx; unfold sealB at hx
     rwa [List.getElem?_append_left hlt] at hx
    exact sumB_set _ _ x y h4 hne h3
   ·have h1:((packB bs gl).set at_ y).take ((packB bs gl).length - 4)=packP bs gl:=by
     rw [List.take_set,e2,seal_cut,List.set_eq_of_length_le (by omega)]
    rw [h1,←e2] at hs;have h5:(packB bs gl)[at_]? = ((packB bs gl).set at_ y)[at_]? := by rw [←hs]
    rw [hx,List.getElem?_set_self hat] at h5;injection h5 with h5;exact hne h5
  ·cases hu
end Go.Proofs.YtjbgcpdlgplcfabGreatDoor.CJ
