/- A code that grows, in memory: blocks, instructions and globals are added. Conditions: the code lies in memory. The Go function code.add: what a line says. Conditions: the code lies in memory; the line is not too long; the listed variables are laid. The Go function code.add: blocks and globals; every line. Conditions: the code lies in memory; the line is not too long; the listed variables are laid. -/
import Derived.Test.YtoonkkipnljflaaGreatDoorRG
import Derived.Test.YtoonkkipnljflaaGreatDoorN4
namespace Go.Proofs.YtoonkkipnljflaaGreatDoor.CJ
open Go.RowKit Go.Proofs.YtoonkkipnljflaaGreatDoorW.PrintWords Go.Proofs.YtoonkkipnljflaaGreatDoorW.PrintLast Go.Proofs.YtoonkkipnljflaaGreatDoor.PT Go.Proofs.YtoonkkipnljflaaGreatDoor.IMaps Go.Proofs.YtoonkkipnljflaaGreatDoor.TJ
set_option linter.unusedVariables false
set_option linter.unusedSimpArgs false
def QI(p:Nat)(w w':World):Prop:=∀(k:Nat) (cs:Array Value) (T:Nat),k≠p→w.heap[k]? = some (.cells cs T (0,0))→T≠55→T≠59→T≠63→w'.heap[k]? = w.heap[k]?
theorem QI.below{p:Nat}{w w':World}(h:Below w.heap.size w w'):QI p w w':=fun k _ _ _ hk _ _ _=>h.block k (qN hk)
theorem QI.trans{p:Nat}{w w1 w2:World}(h:QI p w w1)(h2:QI p w1 w2):QI p w w2:=fun k cs T hk hc h3 h4 h5=>by
 have e:=h k cs T hk hc h3 h4 h5;exact (h2 k cs T hk (e.trans hc) h3 h4 h5).trans e
structure GL(W:World)(B p:Nat)(vA vB:Value)(bs:List GBk)(gl:List GGl):Prop where
 box:W.heap[p]? = some (.cells #[vA,vB] 27 (0,0))
 hB:B≤p
 rA:Kd.S kBk 55 W B (fun _=>True) vA bs
 rB:kGl.R 63 W B (fun _=>True) vB gl
def GC(W:World)(B p:Nat)(bs:List GBk)(gl:List GGl):Prop:=∃vA vB,GL W B p vA vB bs gl
theorem GL.size{W:World}{B p:Nat}{vA vB:Value}{bs:List GBk}{gl:List GGl}(h:GL W B p vA vB bs gl):B≤W.heap.size:=by
 have:=qN h.box;have:=h.hB;omega
theorem GL.below{W W':World}{B p:Nat}{vA vB:Value}{bs:List GBk}{gl:List GGl}(h:GL W B p vA vB bs gl)(hb:Below W.heap.size W W'):GL W' B p vA vB bs gl:=
 ⟨qK h.box hb,h.hB,Kd.S_below h.rA hb,Kd.R_below h.rB hb⟩
def qFO(w:World)(B p:Nat):Option St→Ending→World→Prop
 |some c,e,w'=>e=.returned (.tuple #[])∧GC w' B p c.1 c.2∧Below B w w'∧QI p w w'
 |none,e,w'=>e=.panicked qAJ∧Below B w w'∧QI p w w'
theorem GL.pushB{W w1:World}{B p:Nat}{vA vB v1:Value}{bs:List GBk}{gl:List GGl}{b:GBk}(h:GL W B p vA vB bs gl)(h1:Kd.S kBk 55 w1 B (fun _=>True) v1 (bs++[b]))(hg:W.grownBy w1 vA.ownBlock):
 GL (w1.setCell ⟨p,0,none⟩ v1) B p v1 vB (bs++[b]) gl∧Below B W (w1.setCell ⟨p,0,none⟩ v1)∧QI p W (w1.setCell ⟨p,0,none⟩ v1):=by
 have hx1:=q9 h.box hg (Kd.S_ne h.rA h.box (by decide));have hb1:Below B W w1:=(Below.refl B W).grown hg h.size (fun k hk=>Kd.S_base h.rA k hk);have hR1:kGl.R 63 w1 B (fun _=>True) vB gl:=Kd.R_over' h.rB (Kd.S_typed h.rA) (by decide) hg;refine ⟨⟨qQ hx1 0 v1,h.hB,Kd.S_set h1 hx1 (by decide) 0 v1,Kd.R_set hR1 hx1 (by decide) 0 v1⟩,hb1.setCell (p:=⟨p,0,none⟩) h.hB v1,fun k cs T hk hc n1 n2 n3=>?_⟩;exact (Below.heap_setCell _ _ _ _ hk).trans (hg.block k (qN hc) (Kd.S_ne h.rA hc (Ne.symm n1)))
theorem GL.pushG{W w1:World}{B p:Nat}{vA vB v1:Value}{bs:List GBk}{gl:List GGl}{g:GGl}(h:GL W B p vA vB bs gl)(h1:kGl.R 63 w1 B (fun _=>True) v1 (gl++[g]))(hg:W.grownBy w1 vB.ownBlock):
 GL (w1.setCell ⟨p,1,none⟩ v1) B p vA v1 bs (gl++[g])∧Below B W (w1.setCell ⟨p,1,none⟩ v1)∧QI p W (w1.setCell ⟨p,1,none⟩ v1):=by
 have hx1:=q9 h.box hg (Kd.R_ne h.rB h.box (by decide));have hb1:Below B W w1:=(Below.refl B W).grown hg h.size (fun k hk=>Kd.R_base h.rB k hk);have hS1:Kd.S kBk 55 w1 B (fun _=>True) vA bs:=Kd.S_over' h.rA (Kd.R_typed h.rB) (by decide) hg;refine ⟨⟨qQ hx1 1 v1,h.hB,Kd.S_set hS1 hx1 (by decide) 1 v1,Kd.R_set h1 hx1 (by decide) 1 v1⟩,hb1.setCell (p:=⟨p,1,none⟩) h.hB v1,fun k cs T hk hc n1 n2 n3=>?_⟩;exact (Below.heap_setCell _ _ _ _ hk).trans (hg.block k (qN hc) (Kd.R_ne h.rB hc (Ne.symm n3)))
structure GO(W:World)(B p B0:Nat)(g cap m:Nat)(v2 vB:Value)(pre:List GBk)(b:GBk)(gl:List GGl)(oki:Nat→Prop):Prop where
 box:W.heap[p]? = some (.cells #[.slice (some ⟨g,0,none⟩) (m+1) cap,vB] 27 (0,0))
 hB:B≤p
 hm:m=pre.length
 low:B≤B0∧B0≤W.heap.size
 cell:W.cell? ⟨g,m*3+2,none⟩=some v2
 free:W.frozen? ⟨g,m*3+2,none⟩=false
 typed:∃cells,W.heap[g]? = some (.cells cells 55 (0,0))
 ops:kOp.R 59 W B (fun k=>oki k∨B0≤k) v2 b.f2
 own:∀k,v2.ownBlock=some k→oki k
 sub:∀k,oki k→k<B0∧k≠g
 hH:Kd.H kBk 55 W B (fun k=>True∧¬B0≤k) (.slice (some ⟨g,0,none⟩) (m+1) cap) (pre++[b]) (m:Int) oki [.int .i64 b.f0,.int .i64 b.f1,v2]
 gB:B≤g∧g<B0
 rB:kGl.R 63 W B (fun _=>True) vB gl
theorem GL.lend{W0 W:World}{B p:Nat}{vA vB:Value}{pre:List GBk}{b:GBk}{gl:List GGl}(h:GL W0 B p vA vB (pre++[b]) gl)(hb:Below W0.heap.size W0 W):
 ∃g cap m v2 oki,vA=.slice (some ⟨g,0,none⟩) (m+1) cap∧GO W B p W0.heap.size g cap m v2 vB pre b gl oki:=by
 obtain ⟨g,cap,hv,hg1,hg2,cells,hgc⟩:=Kd.S_form h.rA (by simp);subst hv;have hS:Kd.S kBk 55 W B (fun k=>True∧¬W0.heap.size≤k) (.slice (some ⟨g,0,none⟩) (pre++[b]).length cap) (pre++[b]):=
  Kd.S_mono (Kd.S_step (Kd.S_bound h.rA) (fun k hk hlt=>hb.block k hk.2.2.1)) (fun k hk=>⟨trivial,by have:=hk.2.2.1; omega⟩)
 obtain ⟨oki,c,hcl,hM,hcc,hfr,hoki,hH⟩:=Kd.S_elem hS z55 (pre.length:Int) (by omega) (by simp; omega);have hget:(pre++[b]).getD ((pre.length:Int)).toNat z55=b:=by simp
 rw [hget] at hM;obtain ⟨v2,rfl,hR2⟩:=qFu hM;have hlen:(pre++[b]).length=pre.length+1:=by simp
 rw [hlen] at hH;have hc2:=hcc 2 v2 rfl;have hf2:=hfr 2;have hsz3:kBk.sz=3:=rfl;rw [hsz3,Int.toNat_natCast] at hc2 hf2;have hbx:=qK h.box hb;rw [hlen] at hbx;refine ⟨g,cap,pre.length,v2,oki,by rw [hlen],hbx,h.hB,rfl,⟨h.size,hb.size⟩,hc2,hf2,⟨cells,qK hgc hb⟩,Kd.R_mono hR2 (fun _ hk=>.inl hk),fun k hk=>hR2.1 k hk,fun k hk=>⟨by have:=(hoki k hk).1; omega,(hoki k hk).2⟩,hH,⟨hg1,hg2⟩,Kd.R_below h.rB hb⟩
theorem GO.below{W W':World}{B p B0 g cap m:Nat}{v2 vB:Value}{pre:List GBk}{b:GBk}{gl:List GGl}{oki:Nat→Prop}(h:GO W B p B0 g cap m v2 vB pre b gl oki)(hb:Below W.heap.size W W'):GO W' B p B0 g cap m v2 vB pre b gl oki:=by
 obtain ⟨cells,hgc⟩:=h.typed;refine ⟨qK h.box hb,h.hB,h.hm,⟨h.low.1,Nat.le_trans h.low.2 hb.size⟩,qA hb h.cell,(hb.frozen (p:=⟨g,m*3+2,none⟩) (qN hgc)).trans h.free,⟨cells,qK hgc hb⟩,Kd.R_below h.ops hb,h.own,h.sub,Kd.H_below h.hH hb,h.gB,Kd.R_below h.rB hb⟩
theorem GO.back{W w1:World}{B p B0 g cap m:Nat}{v2 v1 vB:Value}{pre:List GBk}{b:GBk}{gl:List GGl}{oki:Nat→Prop}{x:GOp}(h:GO W B p B0 g cap m v2 vB pre b gl oki)(h1:kOp.R 59 w1 B (fun k=>oki k∨B0≤k) v1 (b.f2++[x]))(hg:W.grownBy w1 v2.ownBlock):
 w1.cell? ⟨g,m*3+2,none⟩=some v2∧w1.frozen? ⟨g,m*3+2,none⟩=false∧GL (w1.setCell ⟨g,m*3+2,none⟩ v1) B p (.slice (some ⟨g,0,none⟩) (m+1) cap) vB (pre++[⟨b.f0,b.f1,b.f2++[x]⟩]) gl∧Below B W (w1.setCell ⟨g,m*3+2,none⟩ v1)∧QI p W (w1.setCell ⟨g,m*3+2,none⟩ v1):=by
 obtain ⟨cells,hgc⟩:=h.typed;have hgne:some g≠v2.ownBlock:=fun e=>(h.sub g (h.own g e.symm)).2 rfl
 have hgb:=hg.block g (qN hgc) hgne;have hx1:=q9 h.box hg (Kd.R_ne h.ops h.box (by decide));have hpg:p≠g:=qDZ h.box hgc (by decide);have hH1:=Kd.H_grown h.hH hg (fun k hk=>h.own k hk);have hM:kBk.M w1 B (fun k=>oki k∨B0≤k) (⟨b.f0,b.f1,b.f2++[x]⟩:GBk) [.int .i64 b.f0,.int .i64 b.f1,v1]:=qD8 w1 B _ ⟨b.f0,b.f1,b.f2++[x]⟩ h1;have hone:v1.oneCell'=true:=(Kd.R_val h1).2;obtain ⟨hS2,hg2⟩:=Kd.S_seg (okg:=fun k=>B0≤k) hH1 (Int.natCast_nonneg m) (by omega) (seg:=[v1]) (j:=2) (show 2+1≤3 from Nat.le_refl 3) (x':=⟨b.f0,b.f1,b.f2++[x]⟩) hM (fun k hk=>hk) (fun k hk=>⟨trivial,by have:=h.gB.2; omega⟩);have hset:(pre++[b]).set ((m:Int)).toNat (⟨b.f0,b.f1,b.f2++[x]⟩:GBk)=pre++[⟨b.f0,b.f1,b.f2++[x]⟩]:=by
  rw [Int.toNat_natCast,h.hm,List.set_append_right _ _ (Nat.le_refl _),Nat.sub_self]; rfl
 rw [hset,Int.toNat_natCast] at hS2;rw [Int.toNat_natCast] at hg2;have hsz3:kBk.sz=3:=rfl;rw [hsz3] at hS2 hg2;have hR1:kGl.R 63 w1 B (fun _=>True) vB gl:=Kd.R_over' h.rB (Kd.R_typed h.ops) (by decide) hg;have hb1:Below B W w1:=(Below.refl B W).grown hg (Nat.le_trans h.low.1 h.low.2) (fun k hk=>Kd.R_base h.ops k hk);have hgc1:=hgb.trans hgc;refine ⟨?_,?_,⟨qS hx1 hpg v1,h.hB,hS2,Kd.R_set hR1 hgc1 (by decide) _ v1⟩,hb1.setCell (p:=⟨g,m*3+2,none⟩) h.gB.1 v1,fun k cs T hk hc n1 n2 n3=>?_⟩
 ·have:=h.cell;unfold World.cell? at this ⊢;rw [hgb]; exact this
 ·have:=h.free;unfold World.frozen? at this ⊢;rw [hgb]; exact this
 ·have hkg:k≠g:=fun e=>by
   rw [e,hgc] at hc;injection hc with hc;injection hc with _ hT;exact n1 hT.symm
  exact (Below.heap_setCell _ _ _ _ hkg).trans (hg.block k (qN hc) (Kd.R_ne h.ops hc (Ne.symm n2)))
theorem qIw{α:Type}{d:Kd α}{W W':World}{B:Nat}{x:α}{cs:List Value}(h:d.M W B (fun _=>True) x cs)(hb:Below W.heap.size W W'):d.M W' B (fun _=>True) x cs:=
 d.M_mono (fun _ _=>trivial) (d.M_move (fun k hk=>hb.block k hk.2.2.1) (d.M_bound h))
theorem m_lower{α:Type}{d:Kd α}{W:World}{B0 B:Nat}{x:α}{cs:List Value}(h:d.M W B0 (fun _=>True) x cs)(hB:B≤B0):d.M W B (fun k=>B0≤k) x cs:=
 d.M_lower hB (d.M_mono (fun _ hk=>hk.2.1) (d.M_bound h))
theorem qFq{α:Type}{d:Kd α}{e B:Nat}{ok:Nat→Prop}{W:World}{v:Value}{xs:List α}(h:d.R e W B ok v xs):∃A n c,v=.slice A n c:=by
 obtain ⟨A,c,rfl⟩:=Kd.R_slice h;exact ⟨A,_,c,rfl⟩
structure AW(w W:World)(q:Nat)(ps:Pts):Prop where
 sd:SD W q ps
 low:Below w.heap.size w W
 nq:w.heap.size≤q
theorem AW.call{w W W':World}{q:Nat}{ps r:Pts}(h:AW w W q ps)(hS:SD W' q r)(hT:Tch q W W'):AW w W' q r:=⟨hS,h.low.trans (hT.below h.nq h.low.size),h.nq⟩
theorem AW.below{w W W':World}{q:Nat}{ps:Pts}(h:AW w W q ps)(hb:Below W.heap.size W W'):AW w W' q ps:=⟨h.sd.below hb,qF h.low hb,h.nq⟩
theorem spl_sd{w:World}{l:List UInt8}(hl:l.length≤1000000)(c:UInt8):AW w ((w.alloc (.cells ((spl c l).map strW).toArray 9)).alloc (.cells #[.slice (some ⟨w.heap.size,0,none⟩) (spl c l).length (spl c l).length] 135)) (w.heap.size+1) (spl c l):=by
 obtain ⟨h1,h2⟩:=qDy c l;have hb:=qC (qC (Below.refl w.heap.size w) (.cells ((spl c l).map strW).toArray 9)) (.cells #[.slice (some ⟨w.heap.size,0,none⟩) (spl c l).length (spl c l).length] 135);refine ⟨⟨fun x hx=>by have:=h1 x hx; omega,by omega,some ⟨w.heap.size,0,none⟩,(spl c l).length,?_,Nat.le_refl _,.inr ⟨w.heap.size,0,((spl c l).map strW).toArray,rfl,?_,fun j x hx=>?_⟩⟩,hb,by omega⟩
 ·have:=qV (w.alloc (.cells ((spl c l).map strW).toArray 9)) (.cells #[.slice (some ⟨w.heap.size,0,none⟩) (spl c l).length (spl c l).length] 135);simpa using this
 ·exact qK (qV w _) (qC (Below.refl _ _) _)
 ·rw [Nat.zero_add,List.getElem?_toArray,List.getElem?_map,hx]; rfl
theorem pre_two(l:List UInt8)(h:Lib.hasPrefix l [32,32]=true):Lib.trimPrefix l [32,32]=l.drop 2:=by
 unfold Lib.trimPrefix; rw [if_pos h]; rfl
theorem pre_none(l:List UInt8)(h:Lib.hasPrefix l [32,32]=false):Lib.trimPrefix l [32,32]=l:=by
 unfold Lib.trimPrefix; rw [h]; rfl
theorem qAI{w W:World}{B p:Nat}(h:Below w.heap.size w W)(hB:B≤w.heap.size):Below B w W∧QI p w W:=⟨h.mono hB,QI.below h⟩
set_option maxRecDepth 100000 in
set_option maxHeartbeats 16000000 in
theorem qIR(w:World)(B p:Nat)(bs:List GBk)(gl:List GGl)(l:List UInt8)(hG:GC w B p bs gl)(w0:World)(hR0:RW w0)(hb0:Below w0.heap.size w0 w)(hB0:w0.heap.size≤B)(hl:l.length≤1000000)(hbn:∀b∈bs,b.f2.length≤1000000)(hpre:Lib.hasPrefix l [32,32]=true):
 Calls Tryz.prog 58 #[.pointer (some ⟨p,0,none⟩),.string ⟨l.toArray⟩] w (qFO w B p (addT (bs,gl) l)):=by
 obtain ⟨F,hF⟩:∃F,F=addT (bs,gl) l:=⟨_,rfl⟩;rw [←hF];obtain ⟨vA,vB,hG⟩:=hG;have hBw:=hG.size;have HBw:=Lib.hid hBw;have hF2:Hid (F=if bs=[]∨gl≠[] then none else match opT (spl 32 (l.drop 2)) with|some g=>some (qA9 bs g,gl)|none=>none):=Lib.hid (by rw [hF]; unfold addT; rw [hpre]; rfl);have HCP:=Lib.hid (Tryz.strings_CutPrefix ⟨l.toArray⟩ ⟨#[32,32]⟩ w);have hcut:=pre_two l hpre;have HCP:=Lib.hid (by have:=HCP.out; simp only [hcut,hpre] at this; exact this);have HSP:=Lib.hid (qCu 32 (l.drop 2) w (by rw [List.length_drop]; omega) (hR0.below hb0));have hAW:=spl_sd (w:=w) (l:=l.drop 2) (by rw [List.length_drop]; omega) 32;generalize l.drop 2=l2 at *;generalize spl 32 l2=ps at *;have HG:=qB.mk hG;have HR0:=Lib.hid hR0;have Hb0:=qB.mk hb0;have HAW:=qB.mk hAW;have hnA:=Kd.S_slice hG.rA;have hnB:=Kd.R_slice hG.rB;have dA0:=qD hG.box (i:=0) rfl;have dB0:=qD hG.box (i:=1) rfl;clear hF hAW hcut hR0 hb0 hpre hG;go_enter Tryz.func58,Tryz.ntmps58;go_wp2_with fail;refine HCP.out.mono ?_;rintro e w1 ⟨rfl,rfl⟩;go_wp2_with fail;refine HSP.out.mono ?_;rintro e w2 ⟨rfl,rfl⟩;clear HCP HSP;obtain ⟨A,ca,rfl⟩:=hnA;obtain ⟨A2,cb,rfl⟩:=hnB;have hbx:=qC (qC (Below.refl w1.heap.size w1) (.cells (ps.map strW).toArray 9)) (.cells #[.slice (some ⟨w1.heap.size,0,none⟩) ps.length ps.length] 135);have dA:=qA hbx dA0;have dB:=qA hbx dB0;have HBX:=qB.mk hbx;clear dA0 dB0 hbx;rcases List.eq_nil_or_concat bs with rfl|⟨pre,b,rfl⟩
 ·have HE:Hid (F=none):=Lib.hid (hF2.out.trans (if_pos (.inl rfl)));simp only [List.length_nil] at dA;go_wp2_with fail;refine (qG _).mono ?_;rintro e wz ⟨rfl,rfl⟩;go_wp2;exact ⟨rfl,by rw [HE.out]; exact ⟨rfl,qAI HBX.out HBw.out⟩⟩
 ·rw [List.concat_eq_append] at *;have hlen:(pre++[b]).length=pre.length+1:=by simp
  rw [hlen] at dA;have hmA:pre.length+1≤9223372036854775807:=by
   have:=(Kd.S_reads HG.out.rA).choose_spec.choose_spec.2.2.2.1;rw [hlen] at this; exact this
  cases gl with
  |cons g0 gr=>
   have HE:Hid (F=none):=Lib.hid (hF2.out.trans (if_pos (.inr (by simp))));have hmB:(g0::gr).length≤9223372036854775807:=(Kd.R_reads HG.out.rB).choose_spec.choose_spec.2.2.2.1;simp only [List.length_cons] at dB hmB;go_wp2_with fail;refine (qG _).mono ?_;rintro e wz ⟨rfl,rfl⟩;go_wp2;exact ⟨rfl,by rw [HE.out]; exact ⟨rfl,qAI HBX.out HBw.out⟩⟩
  |nil=>
   have HF:Hid (F=match opT ps with|some g=>some (qA9 (pre++[b]) g,[])|none=>none):=Lib.hid (by rw [hF2.out,if_neg (by simp)]);simp only [List.length_nil] at dB;clear hF2;go_wp2_with fail;refine (qL _).mono ?_;rintro e wz ⟨rfl,rfl⟩;go_wp2_with fail;generalize (w1.alloc (.cells (ps.map strW).toArray 9)).alloc (.cells #[.slice (some ⟨w1.heap.size,0,none⟩) ps.length ps.length] 135)=W at *;generalize w1.heap.size+1=q at *;have hc:=qKz W q ps HAW.out.sd w0 HR0.out (qF Hb0.out HBX.out) (Nat.le_trans hB0 (Nat.le_trans HBw.out HAW.out.nq));rw [opS_eq] at hc;cases ho:opT ps with
   |none=>
    rw [ho] at hc;have HE:Hid (F=none):=Lib.hid (by rw [HF.out,ho]);refine hc.mono ?_;rintro e wz ⟨rfl,hT⟩;have HZ:=qB.mk (HBX.out.trans (hT.below HAW.out.nq HBX.out.size));clear hT;go_wp2;exact ⟨rfl,by rw [HE.out]; exact ⟨rfl,qAI HZ.out HBw.out⟩⟩
   |some x=>
    rw [ho] at hc;have HE:Hid (F=some (pre++[⟨b.f0,b.f1,b.f2++[x]⟩],[])):=Lib.hid (by rw [HF.out,ho]; simp only; rw [show pre++[b]=pre++[⟨b.f0,b.f1,b.f2⟩] from rfl,qDx]);refine hc.mono ?_;rintro e wy ⟨v,rfl,⟨cs,rfl,hM⟩,hS,hT⟩;obtain ⟨v5,v6,rfl,hr5,hr6⟩:=qDc hM;have hM2:kOp.M wy w1.heap.size (fun _=>True) x [.int .i64 x.f0,.int .i64 x.f1,.int .i64 x.f2,.int .i64 x.f3,.string x.f4,v5,v6]:=kOp.M_lower HBX.out.size hM;have hlow:=HBX.out.trans (hT.below HAW.out.nq HBX.out.size);obtain ⟨A5,c5,rfl⟩:=Kd.R_slice hr5;obtain ⟨A6,c6,rfl⟩:=Kd.R_slice hr6;have hb8:=qC (Below.refl wy.heap.size wy) (.cells #[.int .i64 x.f0,.int .i64 x.f1,.int .i64 x.f2,.int .i64 x.f3,.string x.f4,.slice A5 x.f5.length c5,.slice A6 x.f6.length c6] 59);have hx8:=qV wy (.cells #[.int .i64 x.f0,.int .i64 x.f1,.int .i64 x.f2,.int .i64 x.f3,.string x.f4,.slice A5 x.f5.length c5,.slice A6 x.f6.length c6] 59);obtain ⟨g,cap,m,v2,oki,hvA,hGO⟩:=HG.out.lend (qF hlow hb8);injection hvA with hA1 hA2 hA3;have hmm:pre.length+1=m+1:=by rw [←hA2,hlen]
    have hm':m=pre.length:=by omega
    subst hA1 hA3 hm';have HGG:qB (GO (wy.alloc (.cells #[.int .i64 x.f0,.int .i64 x.f1,.int .i64 x.f2,.int .i64 x.f3,.string x.f4,.slice A5 x.f5.length c5,.slice A6 x.f6.length c6] 59)) B p w1.heap.size g ca pre.length v2 (.slice A2 0 cb) pre b [] oki∧kOp.M (wy.alloc (.cells #[.int .i64 x.f0,.int .i64 x.f1,.int .i64 x.f2,.int .i64 x.f3,.string x.f4,.slice A5 x.f5.length c5,.slice A6 x.f6.length c6] 59)) w1.heap.size (fun _=>True) x [.int .i64 x.f0,.int .i64 x.f1,.int .i64 x.f2,.int .i64 x.f3,.string x.f4,.slice A5 x.f5.length c5,.slice A6 x.f6.length c6]∧Below w1.heap.size w1 (wy.alloc (.cells #[.int .i64 x.f0,.int .i64 x.f1,.int .i64 x.f2,.int .i64 x.f3,.string x.f4,.slice A5 x.f5.length c5,.slice A6 x.f6.length c6] 59))):=⟨⟨hGO,qIw hM2 hb8,qF hlow hb8⟩⟩;have hbl:b.f2.length≤1000000:=hbn b (by simp);have HX8:=Lib.hid hx8;have H8n:Hid (w1.heap.size≤wy.heap.size):=Lib.hid hlow.size;clear hM hM2 hlow hb8 hGO hr5 hr6 hS hT hc ho hA2 hmm hlen HAW HG hbn HF dB HBX hx8 dA;go_wp2;generalize wy.alloc (.cells #[.int .i64 x.f0,.int .i64 x.f1,.int .i64 x.f2,.int .i64 x.f3,.string x.f4,.slice A5 x.f5.length c5,.slice A6 x.f6.length c6] 59)=W8 at *;generalize wy.heap.size=p8 at *;have HG:=HGG;clear HGG;have dA:=qD HG.out.1.box (i:=0) rfl;have dO:=HG.out.1.cell;have k0:=qD HX8.out (i:=0) rfl;have k1:=qD HX8.out (i:=1) rfl;have k2:=qD HX8.out (i:=2) rfl;have k3:=qD HX8.out (i:=3) rfl;have k4:=qD HX8.out (i:=4) rfl;have k5:=qD HX8.out (i:=5) rfl
    have k6:=qD HX8.out (i:=6) rfl;generalize hv5:(Value.slice A5 x.f5.length c5)=v5 at *;generalize hv6:(Value.slice A6 x.f6.length c6)=v6 at *;generalize hvB:(Value.slice A2 0 cb)=vB at *;clear hv5 hv6 hvB;obtain ⟨w,rfl⟩:∃w:World,w=w1:=⟨_,rfl⟩;generalize ([]:List GGl)=gl at *;have hidx:(pre.length:Int)<(pre.length:Int)+1:=by omega
    have HD:qB (GO W8.drew B p w.heap.size g ca pre.length v2 vB pre b gl oki∧kOp.M W8.drew w.heap.size (fun _=>True) x [.int .i64 x.f0,.int .i64 x.f1,.int .i64 x.f2,.int .i64 x.f3,.string x.f4,v5,v6]∧Below w.heap.size w W8.drew):=⟨⟨HG.out.1.below (qE (Below.refl _ _)),qIw HG.out.2.1 (qE (Below.refl _ _)),qF HG.out.2.2 (qE (Below.refl _ _))⟩⟩;have HX8D:Hid (W8.drew.heap[p8]? = some (.cells #[.int .i64 x.f0,.int .i64 x.f1,.int .i64 x.f2,.int .i64 x.f3,.string x.f4,v5,v6] 59 (0,0))):=Lib.hid HX8.out;refine qU (n:=19) (S:=fun w'=>w'.cell? ⟨p,0,none⟩=some (.slice (some ⟨g,0,none⟩) (pre.length+1) ca)∧w'.cell? ⟨g,pre.length*3+2,none⟩=some v2∧w'.cell? ⟨p8,0,none⟩=some (.int .i64 x.f0)∧w'.cell? ⟨p8,1,none⟩=some (.int .i64 x.f1)∧w'.cell? ⟨p8,2,none⟩=some (.int .i64 x.f2)∧w'.cell? ⟨p8,3,none⟩=some (.int .i64 x.f3)∧w'.cell? ⟨p8,4,none⟩=some (.string x.f4)∧w'.cell? ⟨p8,5,none⟩=some (v5)∧w'.cell? ⟨p8,6,none⟩=some (v6)) (ds:=[18]) (mA 19 0) (by kernel_rfl) rfl rfl ⟨dA,dO,k0,k1,k2,k3,k4,k5,k6⟩ (fun hHeld=>?_);refine pa_ 19 1 0 (some 40) (v:=?_) (a':=?_) ?_ ?_ ?_;rotate_left 2
    ·intro w';go_simp
     with_reducible rfl
    ·simp only [pn];rfl
    refine pa_ 19 3 1 (some 41) (v:=?_) (a':=?_) ?_ ?_ ?_;rotate_left 2
    ·intro w';go_simp
     with_reducible rfl
    ·simp only [pn];rfl
    refine pa_ 19 7 2 (some 42) (v:=?_) (a':=?_) ?_ ?_ ?_;rotate_left 2
    ·intro w';go_simp
     with_reducible rfl
    ·simp only [pn];rfl
    refine pa_ 19 23 4 (some 44) (v:=?_) (a':=?_) ?_ ?_ ?_;rotate_left 2
    ·intro w';go_simp
     with_reducible rfl
    ·simp only [pn];rfl
    refine pa_ 19 55 5 (some 45) (v:=?_) (a':=?_) ?_ ?_ ?_;rotate_left 2
    ·intro w';go_simp
     with_reducible rfl
    ·simp only [pn];rfl
    refine pa_ 19 119 6 (some 46) (v:=?_) (a':=?_) ?_ ?_ ?_;rotate_left 2
    ·intro w';go_simp
     with_reducible rfl
    ·simp only [pn];rfl
    refine pa_ 19 247 7 (some 47) (v:=?_) (a':=?_) ?_ ?_ ?_;rotate_left 2
    ·intro w';go_simp
     with_reducible rfl
    ·simp only [pn];rfl
    refine pa_ 19 759 9 (some 49) (v:=?_) (a':=?_) ?_ ?_ ?_;rotate_left 2
    ·intro w';go_simp
     with_reducible rfl
    ·simp only [pn];rfl
    refine tb_ 19 767 3 (some 43) (v:=?_) (a':=?_) hHeld ?_ ?_ ?_;rotate_left 2
    ·rintro w' ⟨s0,s1,s2,s3,s4,s5,s6,s7,s8⟩;go_simp
     with_reducible rfl
    ·simp only [pn];rfl
    refine tb_ 19 1023 8 (some 48) (v:=?_) (a':=?_) hHeld ?_ ?_ ?_;rotate_left 2
    ·rintro w' ⟨s0,s1,s2,s3,s4,s5,s6,s7,s8⟩;go_simp
     with_reducible rfl
    ·simp only [pn];rfl
    refine pa_ 19 2047 10 (some 50) (v:=?_) (a':=?_) ?_ ?_ ?_;rotate_left 2
    ·intro w';go_simp
     with_reducible rfl
    ·simp only [pn];rfl
    refine pa_ 19 4095 11 (some 51) (v:=?_) (a':=?_) ?_ ?_ ?_;rotate_left 2
    ·intro w';go_simp
     with_reducible rfl
    ·simp only [pn];rfl
    refine tb_ 19 8191 12 (some 52) (v:=?_) (a':=?_) hHeld ?_ ?_ ?_;rotate_left 2
    ·rintro w' ⟨s0,s1,s2,s3,s4,s5,s6,s7,s8⟩;go_simp
     with_reducible rfl
    ·simp only [pn];rfl
    refine tb_ 19 16383 13 (some 53) (v:=?_) (a':=?_) hHeld ?_ ?_ ?_;rotate_left 2
    ·rintro w' ⟨s0,s1,s2,s3,s4,s5,s6,s7,s8⟩;go_simp
     with_reducible rfl
    ·simp only [pn];rfl
    refine oo_ 19 32767 14 (some 54) (fun K hK=>?_);refine Q1 (w1:=?_) (v:=?_) (by rfl) rfl ?_ ?_;rotate_left 2
    ·go_simp;constructor
     ·rfl
     ·rfl
    refine hK.out _ _ ⟨qA (qC (Below.refl _ _) _) hHeld.1,qA (qC (Below.refl _ _) _) hHeld.2.1,qA (qC (Below.refl _ _) _) hHeld.2.2.1,qA (qC (Below.refl _ _) _) hHeld.2.2.2.1,qA (qC (Below.refl _ _) _) hHeld.2.2.2.2.1,qA (qC (Below.refl _ _) _) hHeld.2.2.2.2.2.1,qA (qC (Below.refl _ _) _) hHeld.2.2.2.2.2.2.1,qA (qC (Below.refl _ _) _) hHeld.2.2.2.2.2.2.2.1,qA (qC (Below.refl _ _) _) hHeld.2.2.2.2.2.2.2.2⟩ (fun hHeld=>?_);clear hK K;refine qM (a':=?_) ?_ ?_;rotate_left
    ·show Act.put _ (some 54) _=_
     simp only [pn];rfl
    refine oo_ 19 65535 15 (some 55) (fun K hK=>?_);refine Kd.R_append_step kOp (w0:=w) B (by kernel_rfl) _ _ 53 59 _ _ rfl Tryz.underlying53 qGv rfl (show 0<7 by decide) (by omega) v2 b.f2 x [.int .i64 x.f0,.int .i64 x.f1,.int .i64 x.f2,.int .i64 x.f3,.string x.f4,v5,v6] (fun k=>oki k∨w.heap.size≤k) (fun k=>w.heap.size≤k) rfl rfl (m_lower HD.out.2.1 HBw.out) (fun k hk=>⟨.inr hk,fun e=>by have:=(HD.out.1.sub k (HD.out.1.own k e.symm)).1; omega⟩) (fun k hk=>.inr (Nat.le_trans HD.out.2.2.size hk)) HD.out.1.ops (HD.out.2.2.mono HBw.out) (Nat.le_trans HBw.out HD.out.2.2.size) (by omega) ?_;intro v1 w5 hR5 hb5 hg5 hat5;obtain ⟨A7,n7,c7,rfl⟩:=qFq hR5;obtain ⟨d5,z5,hP5⟩:=HD.out.1.back hR5 hg5;have hL5:=HD.out.2.2;have hx5:=q9 HD.out.1.box hg5 (Kd.R_ne HD.out.1.ops HD.out.1.box (by decide));have hx85:=q9 HX8D.out hg5 (fun e=>by have:=(HD.out.1.sub p8 (HD.out.1.own p8 e.symm)).1; have:=H8n.out; omega);refine hK.out _ _ ⟨qD hx5 (i:=0) rfl,d5,qD hx85 (i:=0) rfl,qD hx85 (i:=1) rfl,qD hx85 (i:=2) rfl,qD hx85 (i:=3) rfl,qD hx85 (i:=4) rfl,qD hx85 (i:=5) rfl,qD hx85 (i:=6) rfl⟩ (fun hHeld=>?_);clear hK K;refine qM (a':=?_) ?_ ?_;rotate_left
    ·show Act.put _ (some 55) _=_
     simp only [pn];rfl
    refine pa_ 19 131071 16 (some 56) (v:=?_) (a':=?_) ?_ ?_ ?_;rotate_left 2
    ·intro w';go_simp
     with_reducible rfl
    ·simp only [pn];rfl
    refine pa_ 19 262143 17 (some 57) (v:=?_) (a':=?_) ?_ ?_ ?_;rotate_left 2
    ·intro w';go_simp
     with_reducible rfl
    ·simp only [pn];rfl
    refine la_ 19 524287 18 none rfl rfl (by kernel_rfl) (by decide) (fun K hK=>?_);refine qC4 (w1:=?_) (by rfl) rfl ?_ ?_;rotate_left
    ·go_simp;rfl
    refine hK.out _ _ ?_;clear hK K;refine qn (by kernel_rfl) ?_;have hQ:qB (GL (w5.setCell ⟨g,pre.length*3+2,none⟩ (.slice A7 n7 c7)) B p (.slice (some ⟨g,0,none⟩) (pre.length+1) ca) vB (pre++[⟨b.f0,b.f1,b.f2++[x]⟩]) gl∧Below B w (w5.setCell ⟨g,pre.length*3+2,none⟩ (.slice A7 n7 c7))∧QI p w (w5.setCell ⟨g,pre.length*3+2,none⟩ (.slice A7 n7 c7))):=⟨⟨hP5.1,(hL5.mono HBw.out).trans hP5.2.1,(QI.below hL5).trans hP5.2.2⟩⟩;clear hHeld dA dO k0 k1 k2 k3 k4 k5 k6 d5 z5 hP5 hL5 hR5 hb5 hg5 hat5 HG HD hx5 hx85;go_wp2;go_end0;rw [HE.out];exact ⟨rfl,⟨_,_,hQ.out.1⟩,hQ.out.2⟩
theorem qCN(c:St)(h a b x:List UInt8)(r:Pts):Qw c (h::a::b::x::r)=none:=rfl
theorem qIS(c:St)(h:List UInt8)(r:Pts)(h1:(h==[98,108,111,99,107])=false)(h2:(h==[103,108,111,98,97,108])=false):Qw c (h::r)=none:=by
 have n1:¬h=[98,108,111,99,107]:=fun e=>by rw [e] at h1; simp at h1
 have n2:¬h=[103,108,111,98,97,108]:=fun e=>by rw [e] at h2; simp at h2
 unfold Qw;split
 ·rename_i hh a b heq
  injection heq with heq _;subst heq;rw [if_neg n1,if_neg n2]
 ·rfl
theorem qK1{r:Pts}{c:St}(h:intS r=none)(H:List UInt8)(hH:H=[98,108,111,99,107]):Qw c (H::r)=none:=by
 subst hH;unfold Qw;split
 ·rename_i hh a b heq
  injection heq with h1 h2;subst h1 h2;rw [if_pos rfl];unfold intS at h;rw [Qm] at h;have:numT a=none:=by
   cases hn:numT a with
   |none=>rfl
   |some v=>rw [hn] at h; cases h
  rw [this]
 ·rfl
theorem qJr{r:Pts}{c:St}{a:List UInt8}{f0:Int}(ha:numT a=some f0)(h:intS r=none)(H:List UInt8)(hH:H=[98,108,111,99,107]):Qw c (H::a::r)=none:=by
 subst hH;unfold Qw;split
 ·rename_i hh a' b heq
  injection heq with h1 h2;injection h2 with h2 h3;subst h1 h2 h3;rw [if_pos rfl];unfold intS at h;rw [Qm] at h;have:numT b=none:=by
   cases hn:numT b with
   |none=>rfl
   |some v=>rw [hn] at h; cases h
  rw [ha,this]
 ·rfl
theorem qK2{r:Pts}{c:St}{a:List UInt8}(h:intS r=none):Qw c ([103,108,111,98,97,108]::a::r)=none:=by
 unfold Qw;split
 ·rename_i hh a' b heq
  injection heq with h1 h2;injection h2 with h2 h3;subst h1 h2 h3;rw [if_neg (by decide),if_pos rfl];unfold intS at h;rw [Qm] at h;have:numT b=none:=by
   cases hn:numT b with
   |none=>rfl
   |some v=>rw [hn] at h; cases h
  rw [this]
 ·rfl
theorem qD2{r r2:Pts}{f:Int}(h:intS r=some (f,r2)):∃a,r=a::r2∧numT a=some f:=by
 unfold intS at h;cases r with
 |nil=>cases h
 |cons a q=>
  rw [Qm] at h;cases hn:numT a with
  |none=>rw [hn] at h; cases h
  |some v=>
   rw [hn] at h;simp only [Option.map_some,Option.some.injEq,Prod.mk.injEq] at h;obtain ⟨rfl,rfl⟩:=h;exact ⟨a,rfl,hn⟩
set_option maxRecDepth 100000 in
set_option maxHeartbeats 16000000 in
theorem qIT(w:World)(B p:Nat)(bs:List GBk)(gl:List GGl)(l:List UInt8)(hG:GC w B p bs gl)(w0:World)(hR0:RW w0)(hb0:Below w0.heap.size w0 w)(hB0:w0.heap.size≤B)(hl:l.length≤1000000)(hbn:bs.length≤1000000)(hgn:gl.length≤1000000)(hpre:Lib.hasPrefix l [32,32]=false):
 Calls Tryz.prog 58 #[.pointer (some ⟨p,0,none⟩),.string ⟨l.toArray⟩] w (qFO w B p (addT (bs,gl) l)):=by
 obtain ⟨F,hF⟩:∃F,F=addT (bs,gl) l:=⟨_,rfl⟩;rw [←hF];obtain ⟨vA,vB,hG⟩:=hG;have hBw:=hG.size;have HBw:=Lib.hid hBw;have hF2:Hid (F=Qw (bs,gl) (spl 32 l)):=Lib.hid (by rw [hF]; unfold addT; rw [hpre]; rfl);have HCP:=Lib.hid (Tryz.strings_CutPrefix ⟨l.toArray⟩ ⟨#[32,32]⟩ w);have hcut:=pre_none l hpre;have HCP:=Lib.hid (by have:=HCP.out; simp only [hcut,hpre] at this; exact this);have HSP:=Lib.hid (qCu 32 l w hl (hR0.below hb0));have hAW:=spl_sd (w:=w) (l:=l) hl 32;generalize spl 32 l=ps at *;have HG0:=qB.mk hG;have HR0:=Lib.hid hR0;have Hb0:=qB.mk hb0;have HAW:=qB.mk hAW;clear hF hAW hcut hR0 hb0 hpre hG;go_enter Tryz.func58,Tryz.ntmps58;go_wp2_with fail;refine HCP.out.mono ?_;rintro e w1 ⟨rfl,rfl⟩;go_wp2_with fail;refine HSP.out.mono ?_;rintro e w2 ⟨rfl,rfl⟩;clear HCP HSP;obtain ⟨w,rfl⟩:∃w:World,w=w1:=⟨_,rfl⟩;go_wp2_with fail;generalize (w.alloc (.cells (ps.map strW).toArray 9)).alloc (.cells #[.slice (some ⟨w.heap.size,0,none⟩) ps.length ps.length] 135)=W at *;generalize w.heap.size+1=q at *;have hc:=qAT W q ps HAW.out.sd;cases ps with
 |nil=>
  have HE:Hid (F=none):=Lib.hid (hF2.out.trans rfl);refine hc.mono ?_;rintro e wz ⟨rfl,hT⟩;have HZ:=qB.mk (HAW.out.low.trans (hT.below HAW.out.nq HAW.out.low.size));clear hT;go_wp2;exact ⟨rfl,by rw [HE.out]; exact ⟨rfl,qAI HZ.out HBw.out⟩⟩
 |cons hd r1=>
  refine hc.mono ?_;rintro e W1 ⟨v,rfl,⟨rfl,hhl⟩,hS,hT⟩;have HA:=qB.mk (HAW.out.call hS hT);clear hS hT hc HAW hhl;cases hq1:(hd==[98,108,111,99,107])
  ·cases hq2:(hd==[103,108,111,98,97,108])
   ·have HE:Hid (F=none):=Lib.hid (hF2.out.trans (qIS _ _ _ hq1 hq2));go_wp2_with fail;refine (qG _).mono ?_;rintro e wz ⟨rfl,rfl⟩;go_wp2;exact ⟨rfl,by rw [HE.out]; exact ⟨rfl,qAI HA.out.low HBw.out⟩⟩
   ·have hhd:hd=[103,108,111,98,97,108]:=beq_iff_eq.1 hq2;have HF:Hid (F=Qw (bs,gl) ([103,108,111,98,97,108]::r1)):=Lib.hid (by rw [hF2.out,hhd]);clear hF2 hhd;go_wp2_with fail;have hc:=qAT W1 q r1 HA.out.sd;cases r1 with
    |nil=>
     have HE:Hid (F=none):=Lib.hid (HF.out.trans rfl);refine hc.mono ?_;rintro e wz ⟨rfl,hT⟩;have HZ:=qB.mk (HA.out.low.trans (hT.below HA.out.nq HA.out.low.size));clear hT;go_wp2;exact ⟨rfl,by rw [HE.out]; exact ⟨rfl,qAI HZ.out HBw.out⟩⟩
    |cons a r2=>
     refine hc.mono ?_;rintro e wy ⟨v,rfl,⟨rfl,hal⟩,hS,hT⟩;have hAy:=HA.out.call hS hT;have hb9:=qC (Below.refl wy.heap.size wy) (.cells #[.string ⟨a.toArray⟩,.int .i64 0] 63);have hx9:=qV wy (.cells #[.string ⟨a.toArray⟩,.int .i64 0] 63);have HA2:qB (AW w (wy.alloc (.cells #[.string ⟨a.toArray⟩,.int .i64 0] 63)) q r2):=⟨hAy.below hb9⟩;have HX9:Hid ((wy.alloc (.cells #[.string ⟨a.toArray⟩,.int .i64 0] 63)).heap[wy.heap.size]? = some (.cells #[.string ⟨a.toArray⟩,.int .i64 0] 63 (0,0))∧q≠wy.heap.size∧w.heap.size≤wy.heap.size):=Lib.hid ⟨hx9,by have:=hAy.sd.lt; omega,hAy.low.size⟩;clear hS hT hc HA hb9 hx9 hAy;go_wp2_with fail;generalize wy.alloc (.cells #[.string ⟨a.toArray⟩,.int .i64 0] 63)=W2 at *;generalize wy.heap.size=p9 at *;have hc:=qBQ W2 q r2 HA2.out.sd w0 HR0.out (qF Hb0.out HA2.out.low) (Nat.le_trans hB0 (Nat.le_trans HBw.out HA2.out.nq));cases hn:intS r2 with
     |none=>
      rw [hn] at hc;have HE:Hid (F=none):=Lib.hid (HF.out.trans (qK2 hn));refine hc.mono ?_;rintro e wz ⟨rfl,hT⟩;have HZ:=qB.mk (HA2.out.low.trans (hT.below HA2.out.nq HA2.out.low.size));clear hT;go_wp2;exact ⟨rfl,by rw [HE.out]; exact ⟨rfl,qAI HZ.out HBw.out⟩⟩
     |some pr=>
      obtain ⟨f1,rr⟩:=pr;rw [hn] at hc;obtain ⟨b,rfl,hnb⟩:=qD2 hn;refine hc.mono ?_;rintro e W3 ⟨v,rfl,rfl,hS,hT⟩;have hA3:=HA2.out.call hS hT;have hx3:=(hT.block p9 (qN HX9.out.1) (fun e=>HX9.out.2.1 (by injection e with e; exact e.symm))).trans HX9.out.1;have d1:=qD hx3 (i:=1) rfl;have z1:=qH hx3 1;have HB4:qB (AW w (W3.setCell ⟨p9,1,none⟩ (.int .i64 f1)) q rr):=⟨⟨hA3.sd.set hx3 (by decide) (by decide) 1 _,hA3.low.setCell (p:=⟨p9,1,none⟩) HX9.out.2.2 _,hA3.nq⟩⟩;have HX4:Hid ((W3.setCell ⟨p9,1,none⟩ (.int .i64 f1)).heap[p9]? = some (.cells #[.string ⟨a.toArray⟩,.int .i64 f1] 63 (0,0))):=Lib.hid (qQ hx3 1 _);have d0':(W3.setCell ⟨p9,1,none⟩ (.int .i64 f1)).cell? ⟨p9,0,none⟩=some (.string ⟨a.toArray⟩):=qD HX4.out (i:=0) rfl;have HNM:=Lib.hid (qA5 ⟨a.toArray⟩ (by simp [maxLen,ByteArray.size]; omega));clear hS hT hc hn HA2 hA3 hx3 HX9;go_wp2_with fail;refine (HNM.out _).mono ?_;rintro e wz ⟨rfl,rfl⟩;generalize W3.setCell ⟨p9,1,none⟩ (.int .i64 f1)=W4 at *;clear d1 z1 HNM;cases hnm:qe a
      ·have HE:Hid (F=none):=Lib.hid (by
        rw [HF.out];cases rr with
        |nil=>simp only [Qw]; rw [if_neg (by decide),if_pos trivial,hnb]; simp [hnm]
        |cons y ys=>exact qCN _ _ _ _ _ _)
       simp only [hnm];go_wp2_with fail;refine (qG _).mono ?_;rintro e wz ⟨rfl,rfl⟩;go_wp2;exact ⟨rfl,by rw [HE.out]; exact ⟨rfl,qAI HB4.out.low HBw.out⟩⟩
      ·simp only [hnm];go_wp2_with fail;refine (qL _).mono ?_;rintro e wz ⟨rfl,rfl⟩;clear d0';have HG:qB (GL W4 B p vA vB bs gl∧SD W4 q rr∧Below w.heap.size w W4):=⟨⟨HG0.out.below HB4.out.low,HB4.out.sd,HB4.out.low⟩⟩;have dA:=qD HG.out.1.box (i:=1) rfl;have k0:=qD HX4.out (i:=0) rfl;have k1:=qD HX4.out (i:=1) rfl;clear HB4 HX4;go_wp2;refine qU (n:=11) (S:=fun w'=>w'.cell? ⟨p,1,none⟩=some vB∧w'.cell? ⟨p9,0,none⟩=some (.string ⟨a.toArray⟩)∧w'.cell? ⟨p9,1,none⟩=some (.int .i64 f1)∧qB (GL w' B p vA vB bs gl∧SD w' q rr∧Below w.heap.size w w')) (ds:=[7,10]) (mA 11 0) (by kernel_rfl) rfl rfl ⟨dA,k0,k1,⟨⟨HG.out.1.below (qE (Below.refl _ _)),HG.out.2.1.below (qE (Below.refl _ _)),qF HG.out.2.2 (qE (Below.refl _ _))⟩⟩⟩ (fun hHeld=>?_);refine pa_ 11 1 0 (some 98) (v:=?_) (a':=?_) ?_ ?_ ?_;rotate_left 2
       ·intro w';go_simp
        with_reducible rfl
       ·simp only [pn];rfl
       refine pa_ 11 3 1 (some 99) (v:=?_) (a':=?_) ?_ ?_ ?_;rotate_left 2
       ·intro w';go_simp
        with_reducible rfl
       ·simp only [pn];rfl
       refine pa_ 11 7 2 (some 100) (v:=?_) (a':=?_) ?_ ?_ ?_;rotate_left 2
       ·intro w';go_simp
        with_reducible rfl
       ·simp only [pn];rfl
       refine pa_ 11 15 3 (some 101) (v:=?_) (a':=?_) ?_ ?_ ?_;rotate_left 2
       ·intro w';go_simp
        with_reducible rfl
       ·simp only [pn];rfl
       refine tb_ 11 31 4 (some 102) (v:=?_) (a':=?_) hHeld ?_ ?_ ?_;rotate_left 2
       ·rintro w' ⟨s0,s1,s2,s3⟩;go_simp
        with_reducible rfl
       ·simp only [pn];rfl
       refine tb_ 11 63 5 (some 103) (v:=?_) (a':=?_) hHeld ?_ ?_ ?_;rotate_left 2
       ·rintro w' ⟨s0,s1,s2,s3⟩;go_simp
        with_reducible rfl
       ·simp only [pn];rfl
       refine oo_ 11 127 6 (some 104) (fun K hK=>?_);have HPre:=hHeld;refine Q1 (w1:=?_) (v:=?_) (by rfl) rfl ?_ ?_;rotate_left 2
       ·go_simp;constructor
        ·rfl
        ·rfl
       refine hK.out _ _ ⟨qA (qC (Below.refl _ _) _) hHeld.1,qA (qC (Below.refl _ _) _) hHeld.2.1,qA (qC (Below.refl _ _) _) hHeld.2.2.1,⟨⟨hHeld.2.2.2.out.1.below (qC (Below.refl _ _) _),hHeld.2.2.2.out.2.1.below (qC (Below.refl _ _) _),qF hHeld.2.2.2.out.2.2 (qC (Below.refl _ _) _)⟩⟩⟩ (fun hHeld=>?_);clear hK K;refine qM (a':=?_) ?_ ?_;rotate_left
       ·show Act.put _ (some 104) _=_
        simp only [pn];rfl
       refine la_ 11 255 7 (some 105) rfl rfl (by kernel_rfl) (by decide) (fun K hK=>?_);refine Kd.R_append_step kGl (w0:=w) B (by kernel_rfl) _ _ 25 63 _ _ rfl Tryz.underlying25 qGw rfl (show 0<2 by decide) (by omega) vB gl (⟨⟨a.toArray⟩,f1⟩:GGl) [.string ⟨a.toArray⟩,.int .i64 f1] (fun _=>True) (fun _=>False) rfl rfl (qFY _ B _ (⟨⟨a.toArray⟩,f1⟩:GGl)) (fun _ h=>h.elim) (fun _ _=>trivial) HPre.2.2.2.out.1.rB (HPre.2.2.2.out.2.2.mono HBw.out) HPre.2.2.2.out.1.size (by omega) ?_;intro v1 w5 hS5 hb5 hg5 hat5;obtain ⟨A7,n7,c7,rfl⟩:=qFq hS5;have hP5:=HPre.2.2.2.out.1.pushG hS5 hg5;have hD5:=HPre.2.2.2.out.2.1.grown HPre.2.2.2.out.1.rB hg5 (by decide) (by decide);have hL5:=HPre.2.2.2.out.2.2;have hx5:=q9 HPre.2.2.2.out.1.box hg5 (Kd.R_ne HPre.2.2.2.out.1.rB HPre.2.2.2.out.1.box (by decide));have d5:=qD hx5 (i:=1) rfl;have z5:=qH hx5 1;refine hK.out _ _ ?_;clear hK K;refine qM (a':=?_) ?_ ?_;rotate_left
       ·show Act.put _ (some 105) _=_
        simp only [pn];rfl
       refine pa_ 11 511 8 (some 106) (v:=?_) (a':=?_) ?_ ?_ ?_;rotate_left 2
       ·intro w';go_simp
        with_reducible rfl
       ·simp only [pn];rfl
       refine pa_ 11 1023 9 (some 107) (v:=?_) (a':=?_) ?_ ?_ ?_;rotate_left 2
       ·intro w';go_simp
        with_reducible rfl
       ·simp only [pn];rfl
       refine la_ 11 2047 10 none rfl rfl (by kernel_rfl) (by decide) (fun K hK=>?_);refine qC4 (w1:=?_) (by rfl) rfl ?_ ?_;rotate_left
       ·go_simp;rfl
       refine hK.out _ _ ?_;clear hK K;refine qn (by kernel_rfl) ?_;have hx6:=hP5.1.box;obtain ⟨As,cs,hbx⟩:=hD5.box;have hD6:=hD5.set hx5 (by decide) (by decide) 1 (.slice A7 n7 c7);have hQ:qB (GL (w5.setCell ⟨p,1,none⟩ (.slice A7 n7 c7)) B p vA (.slice A7 n7 c7) bs (gl++[⟨⟨a.toArray⟩,f1⟩])∧Below B w (w5.setCell ⟨p,1,none⟩ (.slice A7 n7 c7))∧QI p w (w5.setCell ⟨p,1,none⟩ (.slice A7 n7 c7))):=⟨⟨hP5.1,(hL5.mono HBw.out).trans hP5.2.1,(QI.below hL5).trans hP5.2.2⟩⟩;obtain ⟨As6,cs6,hbx6⟩:=hD6.box;have dq:=qD hbx6 (i:=0) rfl;clear hHeld HPre dA k0 k1 d5 z5 hP5 hL5 hS5 hb5 hg5 hat5 HG hx5 hx6 hbx hD5 hbx6 hD6;cases rr with
       |nil=>
        have HE:Hid (F=some (bs,gl++[⟨⟨a.toArray⟩,f1⟩])):=Lib.hid (by rw [HF.out]; simp only [Qw]; rw [if_neg (by decide),if_pos trivial,hnb]; simp [hnm]);simp only [List.length_nil] at dq;go_wp2_with fail;refine (qL _).mono ?_;rintro e wz ⟨rfl,rfl⟩;go_wp2;go_end0;rw [HE.out];exact ⟨rfl,⟨_,_,hQ.out.1⟩,hQ.out.2⟩
       |cons y ys=>
        have HE:Hid (F=none):=Lib.hid (by rw [HF.out]; exact qCN _ _ _ _ _ _);simp only [List.length_cons] at dq;go_wp2_with fail;refine (qG _).mono ?_;rintro e wz ⟨rfl,rfl⟩;go_wp2;exact ⟨rfl,by rw [HE.out]; exact ⟨rfl,hQ.out.2⟩⟩
  ·have hhd:hd=[98,108,111,99,107]:=beq_iff_eq.1 hq1;have HF:Hid (F=Qw (bs,gl) ([98,108,111,99,107]::r1)):=Lib.hid (by rw [hF2.out,hhd]);clear hF2 hhd;go_wp2_with fail;have hc:=qBQ W1 q r1 HA.out.sd w0 HR0.out (qF Hb0.out HA.out.low) (Nat.le_trans hB0 (Nat.le_trans HBw.out HA.out.nq));cases hn:intS r1 with
   |none=>
    rw [hn] at hc;have HE:Hid (F=none):=Lib.hid (HF.out.trans (qK1 hn _ rfl));refine hc.mono ?_;rintro e wz ⟨rfl,hT⟩;have HZ:=qB.mk (HA.out.low.trans (hT.below HA.out.nq HA.out.low.size));clear hT;go_wp2;exact ⟨rfl,by rw [HE.out]; exact ⟨rfl,qAI HZ.out HBw.out⟩⟩
   |some pr=>
    obtain ⟨f0,r2⟩:=pr;rw [hn] at hc;obtain ⟨a,rfl,hna⟩:=qD2 hn;refine hc.mono ?_;rintro e wy ⟨v,rfl,rfl,hS,hT⟩;have hAy:=HA.out.call hS hT;have hb9:=qC (Below.refl wy.heap.size wy) (.cells #[.int .i64 f0,.int .i64 0,.slice none 0 0] 55);have hx9:=qV wy (.cells #[.int .i64 f0,.int .i64 0,.slice none 0 0] 55);have HA2:qB (AW w (wy.alloc (.cells #[.int .i64 f0,.int .i64 0,.slice none 0 0] 55)) q r2):=⟨hAy.below hb9⟩;have HX9:Hid ((wy.alloc (.cells #[.int .i64 f0,.int .i64 0,.slice none 0 0] 55)).heap[wy.heap.size]? = some (.cells #[.int .i64 f0,.int .i64 0,.slice none 0 0] 55 (0,0))∧q≠wy.heap.size∧w.heap.size≤wy.heap.size):=Lib.hid ⟨hx9,by have:=hAy.sd.lt; omega,hAy.low.size⟩;clear hS hT hc hn HA hb9 hx9 hAy;go_wp2_with fail;generalize wy.alloc (.cells #[.int .i64 f0,.int .i64 0,.slice none 0 0] 55)=W2 at *;generalize wy.heap.size=p9 at *;have hc:=qBQ W2 q r2 HA2.out.sd w0 HR0.out (qF Hb0.out HA2.out.low) (Nat.le_trans hB0 (Nat.le_trans HBw.out HA2.out.nq));cases hn:intS r2 with
    |none=>
     rw [hn] at hc;have HE:Hid (F=none):=Lib.hid (HF.out.trans (qJr hna hn _ rfl));refine hc.mono ?_;rintro e wz ⟨rfl,hT⟩;have HZ:=qB.mk (HA2.out.low.trans (hT.below HA2.out.nq HA2.out.low.size));clear hT;go_wp2;exact ⟨rfl,by rw [HE.out]; exact ⟨rfl,qAI HZ.out HBw.out⟩⟩
    |some pr=>
     obtain ⟨f1,rr⟩:=pr;rw [hn] at hc;obtain ⟨b,rfl,hnb⟩:=qD2 hn;refine hc.mono ?_;rintro e W3 ⟨v,rfl,rfl,hS,hT⟩;have hA3:=HA2.out.call hS hT;have hx3:=(hT.block p9 (qN HX9.out.1) (fun e=>HX9.out.2.1 (by injection e with e; exact e.symm))).trans HX9.out.1;have d1:=qD hx3 (i:=1) rfl;have z1:=qH hx3 1;have HB4:qB (AW w (W3.setCell ⟨p9,1,none⟩ (.int .i64 f1)) q rr):=⟨⟨hA3.sd.set hx3 (by decide) (by decide) 1 _,hA3.low.setCell (p:=⟨p9,1,none⟩) HX9.out.2.2 _,hA3.nq⟩⟩;have HX4:Hid ((W3.setCell ⟨p9,1,none⟩ (.int .i64 f1)).heap[p9]? = some (.cells #[.int .i64 f0,.int .i64 f1,.slice none 0 0] 55 (0,0))):=Lib.hid (qQ hx3 1 _);have HG4:qB (GL (W3.setCell ⟨p9,1,none⟩ (.int .i64 f1)) B p vA vB bs gl):=⟨HG0.out.below HB4.out.low⟩;have dB:=qD HG4.out.box (i:=1) rfl;obtain ⟨A2,cb,hvB⟩:=Kd.R_slice HG4.out.rB;have hmB:gl.length≤9223372036854775807:=by omega
     have HVB:=Lib.hid hvB;rw [hvB] at dB;clear hS hT hc hn HA2 hA3 hx3 HX9 hvB;cases gl with
     |cons g0 gr=>
      have HE:Hid (F=none):=Lib.hid (by
       rw [HF.out];cases rr with
       |nil=>simp only [Qw]; rw [if_pos trivial,hna,hnb]; simp
       |cons y ys=>exact qCN _ _ _ _ _ _)
      simp only [List.length_cons] at dB hmB;go_wp2_with fail;refine (qG _).mono ?_;rintro e wz ⟨rfl,rfl⟩;go_wp2;exact ⟨rfl,by rw [HE.out]; exact ⟨rfl,qAI HB4.out.low HBw.out⟩⟩
     |nil=>
      simp only [List.length_nil] at dB;go_wp2_with fail;refine (qL _).mono ?_;rintro e wz ⟨rfl,rfl⟩;generalize W3.setCell ⟨p9,1,none⟩ (.int .i64 f1)=W4 at *;clear d1 z1 dB;generalize hgl:([]:List GGl)=gl at *;have Hgl:=Lib.hid hgl;have HG:qB (GL W4 B p vA vB bs gl∧SD W4 q rr∧Below w.heap.size w W4):=⟨⟨HG4.out,HB4.out.sd,HB4.out.low⟩⟩;have dA:=qD HG.out.1.box (i:=0) rfl;have k0:=qD HX4.out (i:=0) rfl;have k1:=qD HX4.out (i:=1) rfl;have k2:=qD HX4.out (i:=2) rfl;clear HB4 HX4 hgl HG4;go_wp2;refine qU (n:=11) (S:=fun w'=>w'.cell? ⟨p,0,none⟩=some vA∧w'.cell? ⟨p9,0,none⟩=some (.int .i64 f0)∧w'.cell? ⟨p9,1,none⟩=some (.int .i64 f1)∧w'.cell? ⟨p9,2,none⟩=some (.slice none 0 0)∧qB (GL w' B p vA vB bs gl∧SD w' q rr∧Below w.heap.size w w')) (ds:=[7,10]) (mA 11 0) (by kernel_rfl) rfl rfl ⟨dA,k0,k1,k2,⟨⟨HG.out.1.below (qE (Below.refl _ _)),HG.out.2.1.below (qE (Below.refl _ _)),qF HG.out.2.2 (qE (Below.refl _ _))⟩⟩⟩ (fun hHeld=>?_);refine pa_ 11 1 0 (some 76) (v:=?_) (a':=?_) ?_ ?_ ?_;rotate_left 2
      ·intro w';go_simp
       with_reducible rfl
      ·simp only [pn];rfl
      refine pa_ 11 3 1 (some 77) (v:=?_) (a':=?_) ?_ ?_ ?_;rotate_left 2
      ·intro w';go_simp
       with_reducible rfl
      ·simp only [pn];rfl
      refine pa_ 11 7 2 (some 78) (v:=?_) (a':=?_) ?_ ?_ ?_;rotate_left 2
      ·intro w';go_simp
       with_reducible rfl
      ·simp only [pn];rfl
      refine pa_ 11 15 3 (some 79) (v:=?_) (a':=?_) ?_ ?_ ?_;rotate_left 2
      ·intro w';go_simp
       with_reducible rfl
      ·simp only [pn];rfl
      refine tb_ 11 31 4 (some 80) (v:=?_) (a':=?_) hHeld ?_ ?_ ?_;rotate_left 2
      ·rintro w' ⟨s0,s1,s2,s3,s4⟩;go_simp
       with_reducible rfl
      ·simp only [pn];rfl
      refine tb_ 11 63 5 (some 81) (v:=?_) (a':=?_) hHeld ?_ ?_ ?_;rotate_left 2
      ·rintro w' ⟨s0,s1,s2,s3,s4⟩;go_simp
       with_reducible rfl
      ·simp only [pn];rfl
      refine oo_ 11 127 6 (some 82) (fun K hK=>?_);have HPre:=hHeld;refine Q1 (w1:=?_) (v:=?_) (by rfl) rfl ?_ ?_;rotate_left 2
      ·go_simp;constructor
       ·rfl
       ·rfl
      refine hK.out _ _ ⟨qA (qC (Below.refl _ _) _) hHeld.1,qA (qC (Below.refl _ _) _) hHeld.2.1,qA (qC (Below.refl _ _) _) hHeld.2.2.1,qA (qC (Below.refl _ _) _) hHeld.2.2.2.1,⟨⟨hHeld.2.2.2.2.out.1.below (qC (Below.refl _ _) _),hHeld.2.2.2.2.out.2.1.below (qC (Below.refl _ _) _),qF hHeld.2.2.2.2.out.2.2 (qC (Below.refl _ _) _)⟩⟩⟩ (fun hHeld=>?_);clear hK K;refine qM (a':=?_) ?_ ?_;rotate_left
      ·show Act.put _ (some 82) _=_
       simp only [pn];rfl
      refine la_ 11 255 7 (some 83) rfl rfl (by kernel_rfl) (by decide) (fun K hK=>?_);refine Kd.S_append_step kBk (w0:=w) B (by kernel_rfl) _ _ 24 55 _ _ rfl Tryz.underlying24 qGu rfl (show 0<3 by decide) (by omega) vA bs (⟨f0,f1,[]⟩:GBk) [.int .i64 f0,.int .i64 f1,.slice none 0 0] (fun _=>True) (fun _=>False) rfl rfl (qD8 _ B _ (⟨f0,f1,[]⟩:GBk) (Kd.R_nil _ _ _ _ _)) (fun _ h=>h.elim) (fun _ _=>trivial) (Kd.S_mono HPre.2.2.2.2.out.1.rA (fun _ _=>⟨trivial,fun h=>h⟩)) (HPre.2.2.2.2.out.2.2.mono HBw.out) HPre.2.2.2.2.out.1.size (by omega) ?_;intro v1 w5 hS5 hb5 hg5 hat5;obtain ⟨A7,n7,c7,rfl⟩:=qFq (Kd.S_R hS5);have hP5:=HPre.2.2.2.2.out.1.pushB hS5 hg5;have hD5:=HPre.2.2.2.2.out.2.1.grown (Kd.S_R HPre.2.2.2.2.out.1.rA) hg5 (by decide) (by decide);have hL5:=HPre.2.2.2.2.out.2.2;have hx5:=q9 HPre.2.2.2.2.out.1.box hg5 (Kd.S_ne HPre.2.2.2.2.out.1.rA HPre.2.2.2.2.out.1.box (by decide));have d5:=qD hx5 (i:=0) rfl;have z5:=qH hx5 0;refine hK.out _ _ ?_;clear hK K;refine qM (a':=?_) ?_ ?_;rotate_left
      ·show Act.put _ (some 83) _=_
       simp only [pn];rfl
      refine pa_ 11 511 8 (some 84) (v:=?_) (a':=?_) ?_ ?_ ?_;rotate_left 2
      ·intro w';go_simp
       with_reducible rfl
      ·simp only [pn];rfl
      refine pa_ 11 1023 9 (some 85) (v:=?_) (a':=?_) ?_ ?_ ?_;rotate_left 2
      ·intro w';go_simp
       with_reducible rfl
      ·simp only [pn];rfl
      refine la_ 11 2047 10 none rfl rfl (by kernel_rfl) (by decide) (fun K hK=>?_);refine qC4 (w1:=?_) (by rfl) rfl ?_ ?_;rotate_left
      ·go_simp;rfl
      refine hK.out _ _ ?_;clear hK K;refine qn (by kernel_rfl) ?_;have hD6:=hD5.set hx5 (by decide) (by decide) 0 (.slice A7 n7 c7);have hQ:qB (GL (w5.setCell ⟨p,0,none⟩ (.slice A7 n7 c7)) B p (.slice A7 n7 c7) vB (bs++[⟨f0,f1,[]⟩]) gl∧Below B w (w5.setCell ⟨p,0,none⟩ (.slice A7 n7 c7))∧QI p w (w5.setCell ⟨p,0,none⟩ (.slice A7 n7 c7))):=⟨⟨hP5.1,(hL5.mono HBw.out).trans hP5.2.1,(QI.below hL5).trans hP5.2.2⟩⟩;obtain ⟨As6,cs6,hbx6⟩:=hD6.box;have dq:=qD hbx6 (i:=0) rfl;clear hHeld HPre dA k0 k1 k2 d5 z5 hP5 hL5 hS5 hb5 hg5 hat5 HG hx5 hD5 hbx6 hD6;cases rr with
      |nil=>
       have HE:Hid (F=some (bs++[⟨f0,f1,[]⟩],gl)):=Lib.hid (by rw [HF.out,←Hgl.out]; simp only [Qw]; rw [if_pos trivial,hna,hnb]; rfl);simp only [List.length_nil] at dq;go_wp2_with fail;refine (qL _).mono ?_;rintro e wz ⟨rfl,rfl⟩;go_wp2;go_end0;rw [HE.out];exact ⟨rfl,⟨_,_,hQ.out.1⟩,hQ.out.2⟩
      |cons y ys=>
       have HE:Hid (F=none):=Lib.hid (by rw [HF.out]; exact qCN _ _ _ _ _ _);simp only [List.length_cons] at dq;go_wp2_with fail;refine (qG _).mono ?_;rintro e wz ⟨rfl,rfl⟩;go_wp2;exact ⟨rfl,by rw [HE.out]; exact ⟨rfl,hQ.out.2⟩⟩
theorem qK3(w:World)(B p:Nat)(bs:List GBk)(gl:List GGl)(l:List UInt8)(hG:GC w B p bs gl)(w0:World)(hR0:RW w0)(hb0:Below w0.heap.size w0 w)(hB0:w0.heap.size≤B)(hl:l.length≤1000000)(hbn:bs.length≤1000000∧∀b∈bs,b.f2.length≤1000000)(hgn:gl.length≤1000000):
 Calls Tryz.prog 58 #[.pointer (some ⟨p,0,none⟩),.string ⟨l.toArray⟩] w (qFO w B p (addT (bs,gl) l)):=by
 cases hpre:Lib.hasPrefix l [32,32]
 ·exact qIT w B p bs gl l hG w0 hR0 hb0 hB0 hl hbn.1 hgn hpre
 ·exact qIR w B p bs gl l hG w0 hR0 hb0 hB0 hl hbn.2 hpre
end Go.Proofs.YtoonkkipnljflaaGreatDoor.CJ
