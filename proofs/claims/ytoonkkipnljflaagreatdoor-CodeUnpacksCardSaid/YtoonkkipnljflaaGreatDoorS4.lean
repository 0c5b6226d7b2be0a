/- The reference's comparison of two codes answers as eqC. Conditions: the codes lie in memory. -/
import Derived.Test.YtoonkkipnljflaaGreatDoorRG
import Derived.Test.YtoonkkipnljflaaGreatDoorSA
import Derived.Test.YtoonkkipnljflaaGreatDoorN3
namespace Go.Proofs.YtoonkkipnljflaaGreatDoor.CJ
open Go.RowKit Go.Proofs.YtoonkkipnljflaaGreatDoorW.PrintWords Go.Proofs.YtoonkkipnljflaaGreatDoorW.PrintLast Go.Proofs.YtoonkkipnljflaaGreatDoor.PT Go.Proofs.YtoonkkipnljflaaGreatDoor.IMaps
set_option linter.unusedVariables false
set_option linter.unusedSimpArgs false
attribute [local go_sem high] al_eq gl_eq
structure BX(w W:World)(u v:Array Value):Prop where
 low:Below w.heap.size w W
 x:W.heap[w.heap.size]? = some (.cells u 27 (0,0))
 y:W.heap[w.heap.size+1]? = some (.cells v 27 (0,0))
theorem BX.lt{w W:World}{u v:Array Value}(h:BX w W u v):w.heap.size+1<W.heap.size:=qN h.y
theorem BX.below{w W W':World}{u v:Array Value}(h:BX w W u v)(hb:Below W.heap.size W W'):BX w W' u v:=⟨qF h.low hb,qK h.x hb,qK h.y hb⟩
structure BR(w W:World)(u v:Array Value)(p q:Nat)(r s:Array Value):Prop extends BX w W u v where
 a:W.heap[p]? = some (.cells r 55 (0,0))
 b:W.heap[q]? = some (.cells s 55 (0,0))
theorem BR.below{w W W':World}{u v:Array Value}{p q:Nat}{r s:Array Value}(h:BR w W u v p q r s)(hb:Below W.heap.size W W'):BR w W' u v p q r s:=⟨h.toBX.below hb,qK h.a hb,qK h.b hb⟩
set_option maxRecDepth 100000 in
set_option maxHeartbeats 8000000 in
theorem qGl(w:World)(A A2 B B2:Option Addr)(ca cb da db:Nat)(bs b2:List GBk)(gl g2:List GGl)(h1:CM w A ca A2 cb bs gl)(h2:CM w B da B2 db b2 g2):
 Calls Tryz.prog 9 #[qw A bs.length ca A2 gl.length cb,qw B b2.length da B2 g2.length db] w fun e w'=>e=.returned (.bool (eqC bs b2 gl g2))∧Below w.heap.size w w':=by
 have hm1:=h1.ma.2.1;have hm2:=h1.mb.2.1;have hm3:=h2.ma.2.1;have hm4:=h2.mb.2.1;have K1:=qB.mk h1.ma;have K2:=qB.mk h2.ma;have M1:=qB.mk h1.mb;have M2:=qB.mk h2.mb;have HV:=Lib.hid (show eqC bs b2 gl g2=(eqL eqGl gl g2&&eqL eqBk bs b2) from rfl);clear h1 h2;generalize eqC bs b2 gl g2=r at *;have HN:=qB.mk (qIt w #[.slice A bs.length ca,.slice A2 gl.length cb] #[.slice B b2.length da,.slice B2 g2.length db] 27 27);have HB0:qB (BX w ((w.alloc (.cells #[.slice A bs.length ca,.slice A2 gl.length cb] 27)).alloc (.cells #[.slice B b2.length da,.slice B2 g2.length db] 27)) #[.slice A bs.length ca,.slice A2 gl.length cb] #[.slice B b2.length da,.slice B2 g2.length db]):=⟨⟨qC (qC (Below.refl _ _) _) _,HN.out.1,HN.out.2⟩⟩;clear HN;unfold qw;rcases Classical.em (bs.length=b2.length) with hl1|hl1
 ·have d1:((bs.length:Int) != (b2.length:Int))=false:=by rw [bne_eq_false_iff_eq]; omega
  have HL1:=Lib.hid hl1;clear hl1;rcases Classical.em (gl.length=g2.length) with hl2|hl2
  ·have d2:((gl.length:Int) != (g2.length:Int))=false:=by rw [bne_eq_false_iff_eq]; omega
   have HL2:=Lib.hid hl2;clear hl2;go_enter Tryz.func9,Tryz.ntmps9;go_wp2;clear d1 d2
   go_loopw [5] (fun i wr=>∃j:Nat,j≤bs.length∧i=.int .i64 j∧qB (eqL eqBk (bs.drop j) (b2.drop j)=eqL eqBk bs b2)∧qB (BX w wr #[.slice A bs.length ca,.slice A2 gl.length cb] #[.slice B b2.length da,.slice B2 g2.length db])) (fun i _=>bs.length - (intOf i).toNat)
   case atStart=>exact ⟨0,by omega,rfl,⟨rfl⟩,HB0⟩
   case round=>
    obtain ⟨j,hj,rfl,HA,HC⟩:=hrel;clear HB0;have k0:=qD HC.out.x (i:=0) rfl;have q0:=qD HC.out.y (i:=0) rfl;by_cases hlt:j<bs.length
    ·have hlt2:j<b2.length:=by have:=HL1.out; omega
     obtain ⟨ad,A3,c3,e3,hx0,hx1,hx2,g3,C3⟩:=qAN K1.out (j:Int) (by omega) (by omega);obtain ⟨bd,B3,d3,f3,hy0,hy1,hy2,g4,D3⟩:=qAN K2.out (j:Int) (by omega) (by omega);cases e3;cases f3;replace hx0:=qA HC.out.low hx0;replace hx1:=qA HC.out.low hx1;replace hx2:=qA HC.out.low hx2;replace hy0:=qA HC.out.low hy0;replace hy1:=qA HC.out.low hy1;replace hy2:=qA HC.out.low hy2;simp only [Int.toNat_natCast] at hx0 hx1 hx2 hy0 hy1 hy2;have HS:qB (eqL eqBk (bs.drop j) (b2.drop j)=(eqBk (qo bs (j:Int)) (qo b2 (j:Int))&&eqL eqBk (bs.drop (j+1)) (b2.drop (j+1)))):=⟨qCf eqBk z55 bs b2 j hlt hlt2⟩;generalize hX:qo bs (j:Int)=X at *;generalize hY:qo b2 (j:Int)=Y at *;clear hX hY;obtain ⟨x0,x1,xo⟩:=X;obtain ⟨y0,y1,yo⟩:=Y;simp only at hx0 hx1 hx2 hy0 hy1 hy2 g3 C3 g4 D3;have hmx:=C3.2.1;have hmy:=D3.2.1;have K3:=qB.mk C3;have L3:=qB.mk D3;have HSB:=Lib.hid (show eqBk ⟨x0,x1,xo⟩ ⟨y0,y1,yo⟩=(x0==y0&&(x1==y1&&eqL eqOp xo yo)) from rfl);have z1:(0≤(j:Int))=True:=eq_true (by omega);have z2:((j:Int)<(bs.length:Int))=True:=eq_true (by omega);have z3:((j:Int)<(b2.length:Int))=True:=eq_true (by omega);have hbx:=HC.out.lt;clear g3 C3 g4 D3;go_wp2
     refine qU (n:=14) (S:=fun w'=>w'.cell? ⟨w.heap.size,0,none⟩=some (.slice (some ad) bs.length ca)∧w'.cell? ⟨w.heap.size+1,0,none⟩=some (.slice (some bd) b2.length da)∧w'.cell? (ad.add (j*3))=some (.int .i64 x0)∧w'.cell? ⟨(ad.add (j*3)).block,(ad.add (j*3)).off+1,none⟩=some (.int .i64 x1)∧w'.cell? ⟨(ad.add (j*3)).block,(ad.add (j*3)).off+2,none⟩=some (.slice A3 xo.length c3)∧w'.cell? (bd.add (j*3))=some (.int .i64 y0)∧w'.cell? ⟨(bd.add (j*3)).block,(bd.add (j*3)).off+1,none⟩=some (.int .i64 y1)∧w'.cell? ⟨(bd.add (j*3)).block,(bd.add (j*3)).off+2,none⟩=some (.slice B3 yo.length d3)∧qB (Below wr.heap.size wr w')) (ds:=[13]) (mA 14 0) (by kernel_rfl) rfl rfl ⟨qA (qE (Below.refl _ _)) k0,qA (qE (Below.refl _ _)) q0,qA (qE (Below.refl _ _)) hx0,qA (qE (Below.refl _ _)) hx1,qA (qE (Below.refl _ _)) hx2,qA (qE (Below.refl _ _)) hy0,qA (qE (Below.refl _ _)) hy1,qA (qE (Below.refl _ _)) hy2,⟨qE (Below.refl _ _)⟩⟩ (fun hHeld=>?_);refine pa_ 14 1 0 (some 33) (v:=?_) (a':=?_) ?_ ?_ ?_;rotate_left 2
     ·intro w';go_simp
      with_reducible rfl
     ·simp only [pn];rfl
     refine pa_ 14 5 2 (some 35) (v:=?_) (a':=?_) ?_ ?_ ?_;rotate_left 2
     ·intro w';go_simp
      with_reducible rfl
     ·simp only [pn];rfl
     refine pa_ 14 37 5 (some 38) (v:=?_) (a':=?_) ?_ ?_ ?_;rotate_left 2
     ·intro w';go_simp
      with_reducible rfl
     ·simp only [pn];rfl
     refine pa_ 14 165 7 (some 40) (v:=?_) (a':=?_) ?_ ?_ ?_;rotate_left 2
     ·intro w';go_simp
      with_reducible rfl
     ·simp only [pn];rfl
     refine tb_ 14 167 1 (some 34) (v:=?_) (a':=?_) hHeld ?_ ?_ ?_;rotate_left 2
     ·rintro w' ⟨s0,s1,s2,s3,s4,s5,s6,s7,s8⟩;go_simp
      with_reducible rfl
     ·simp only [pn];rfl
     refine pa_ 14 175 3 (some 36) (v:=?_) (a':=?_) ?_ ?_ ?_;rotate_left 2
     ·intro w';go_simp
      with_reducible rfl
     ·simp only [pn];rfl
     refine tb_ 14 191 4 (some 37) (v:=?_) (a':=?_) hHeld ?_ ?_ ?_;rotate_left 2
     ·rintro w' ⟨s0,s1,s2,s3,s4,s5,s6,s7,s8⟩;go_simp
      with_reducible rfl
     ·simp only [pn];rfl
     refine tb_ 14 255 6 (some 39) (v:=?_) (a':=?_) hHeld ?_ ?_ ?_;rotate_left 2
     ·rintro w' ⟨s0,s1,s2,s3,s4,s5,s6,s7,s8⟩;go_simp
      with_reducible rfl
     ·simp only [pn];rfl
     refine pa_ 14 511 8 (some 41) (v:=?_) (a':=?_) ?_ ?_ ?_;rotate_left 2
     ·intro w';go_simp
      with_reducible rfl
     ·simp only [pn];rfl
     refine tb_ 14 1023 9 (some 42) (v:=?_) (a':=?_) hHeld ?_ ?_ ?_;rotate_left 2
     ·rintro w' ⟨s0,s1,s2,s3,s4,s5,s6,s7,s8⟩;go_simp
      with_reducible rfl
     ·simp only [pn];rfl
     refine join_ (σ:=Nat×Nat) 2 (mA 14 4095) (fun s=>[(6,.pointer (some ⟨s.1,0,none⟩)),(7,.pointer (some ⟨s.2,0,none⟩))]) (fun s w'=>qB (Below wr.heap.size wr w'∧w'.heap[s.1]? = some (.cells #[.int .i64 0,.int .i64 0,.slice none 0 0] 55 (0,0))∧w'.heap[s.2]? = some (.cells #[.int .i64 0,.int .i64 0,.slice none 0 0] 55 (0,0))∧wr.heap.size≤s.1∧wr.heap.size≤s.2∧s.1≠s.2)) ?_ ?_;rotate_left
     ·intro hCont;refine two_ (i:=10) (j:=11) (Ni:=some 6) (Nj:=some 7) (mA 14 2047) (mA 14 3071) rfl rfl rfl rfl (by kernel_rfl) (by decide) (by decide) (fun K hK=>?_) (fun K hK=>?_)
      ·skip
       have hsz10:=hHeld.2.2.2.2.2.2.2.2.out.size;have hlq10:=@qN;refine qAw (o:=.cells #[.int .i64 0,.int .i64 0,.slice none 0 0] 55 (0,0)) (by rfl) rfl (by go_simp) ?_;intro p10 w10 hp10 hz10 hb10;have hn10:wr.heap.size≤p10:=by omega
       refine hK.out _ _ ⟨qA (qF hHeld.2.2.2.2.2.2.2.2.out hb10) k0,qA (qF hHeld.2.2.2.2.2.2.2.2.out hb10) q0,qA (qF hHeld.2.2.2.2.2.2.2.2.out hb10) hx0,qA (qF hHeld.2.2.2.2.2.2.2.2.out hb10) hx1,qA (qF hHeld.2.2.2.2.2.2.2.2.out hb10) hx2,qA (qF hHeld.2.2.2.2.2.2.2.2.out hb10) hy0,qA (qF hHeld.2.2.2.2.2.2.2.2.out hb10) hy1,qA (qF hHeld.2.2.2.2.2.2.2.2.out hb10) hy2,⟨qF hHeld.2.2.2.2.2.2.2.2.out hb10⟩⟩ (fun hHeld=>?_);clear hK K;refine qM (a':=?_) ?_ ?_;rotate_left
       ·show Act.put _ (some 6) _=_
        simp only [pn];rfl
       refine oo_ 14 4095 11 (some 7) (fun K hK=>?_);have hsz11:=hHeld.2.2.2.2.2.2.2.2.out.size;have hlq11:=@qN;refine qAw (o:=.cells #[.int .i64 0,.int .i64 0,.slice none 0 0] 55 (0,0)) (by rfl) rfl (by go_simp) ?_;intro p11 w11 hp11 hz11 hb11;have hn11:wr.heap.size≤p11:=by omega
       have hne:p10≠p11:=by have:=qN hz10; omega
       refine hK.out _ _ ⟨qA (qF hHeld.2.2.2.2.2.2.2.2.out hb11) k0,qA (qF hHeld.2.2.2.2.2.2.2.2.out hb11) q0,qA (qF hHeld.2.2.2.2.2.2.2.2.out hb11) hx0,qA (qF hHeld.2.2.2.2.2.2.2.2.out hb11) hx1,qA (qF hHeld.2.2.2.2.2.2.2.2.out hb11) hx2,qA (qF hHeld.2.2.2.2.2.2.2.2.out hb11) hy0,qA (qF hHeld.2.2.2.2.2.2.2.2.out hb11) hy1,qA (qF hHeld.2.2.2.2.2.2.2.2.out hb11) hy2,⟨qF hHeld.2.2.2.2.2.2.2.2.out hb11⟩⟩ (fun hHeld=>?_);clear hK K;refine qM (a':=?_) ?_ ?_;rotate_left
       ·show Act.put _ (some 7) _=_
        simp only [pn];rfl
       exact qM (by simp only [qBS,Act.put,List.setIfInBounds_toArray,List.set_cons_zero,List.set_cons_succ]) (hCont (p10,p11) _ ⟨⟨hHeld.2.2.2.2.2.2.2.2.out,qK hz10 hb11,hz11,hn10,hn11,hne⟩⟩)
      ·skip
       have hsz11:=hHeld.2.2.2.2.2.2.2.2.out.size;have hlq11:=@qN;refine qAw (o:=.cells #[.int .i64 0,.int .i64 0,.slice none 0 0] 55 (0,0)) (by rfl) rfl (by go_simp) ?_;intro p11 w11 hp11 hz11 hb11;have hn11:wr.heap.size≤p11:=by omega
       refine hK.out _ _ ⟨qA (qF hHeld.2.2.2.2.2.2.2.2.out hb11) k0,qA (qF hHeld.2.2.2.2.2.2.2.2.out hb11) q0,qA (qF hHeld.2.2.2.2.2.2.2.2.out hb11) hx0,qA (qF hHeld.2.2.2.2.2.2.2.2.out hb11) hx1,qA (qF hHeld.2.2.2.2.2.2.2.2.out hb11) hx2,qA (qF hHeld.2.2.2.2.2.2.2.2.out hb11) hy0,qA (qF hHeld.2.2.2.2.2.2.2.2.out hb11) hy1,qA (qF hHeld.2.2.2.2.2.2.2.2.out hb11) hy2,⟨qF hHeld.2.2.2.2.2.2.2.2.out hb11⟩⟩ (fun hHeld=>?_);clear hK K;refine qM (a':=?_) ?_ ?_;rotate_left
       ·show Act.put _ (some 7) _=_
        simp only [pn];rfl
       refine oo_ 14 4095 10 (some 6) (fun K hK=>?_);have hsz10:=hHeld.2.2.2.2.2.2.2.2.out.size;have hlq10:=@qN;refine qAw (o:=.cells #[.int .i64 0,.int .i64 0,.slice none 0 0] 55 (0,0)) (by rfl) rfl (by go_simp) ?_;intro p10 w10 hp10 hz10 hb10;have hn10:wr.heap.size≤p10:=by omega
       have hne:p11≠p10:=by have:=qN hz11; omega
       refine hK.out _ _ ⟨qA (qF hHeld.2.2.2.2.2.2.2.2.out hb10) k0,qA (qF hHeld.2.2.2.2.2.2.2.2.out hb10) q0,qA (qF hHeld.2.2.2.2.2.2.2.2.out hb10) hx0,qA (qF hHeld.2.2.2.2.2.2.2.2.out hb10) hx1,qA (qF hHeld.2.2.2.2.2.2.2.2.out hb10) hx2,qA (qF hHeld.2.2.2.2.2.2.2.2.out hb10) hy0,qA (qF hHeld.2.2.2.2.2.2.2.2.out hb10) hy1,qA (qF hHeld.2.2.2.2.2.2.2.2.out hb10) hy2,⟨qF hHeld.2.2.2.2.2.2.2.2.out hb10⟩⟩ (fun hHeld=>?_);clear hK K;refine qM (a':=?_) ?_ ?_;rotate_left
       ·show Act.put _ (some 6) _=_
        simp only [pn];rfl
       exact qM (by simp only [qBS,Act.put,List.setIfInBounds_toArray,List.set_cons_zero,List.set_cons_succ]) (hCont (p10,p11) _ ⟨⟨hHeld.2.2.2.2.2.2.2.2.out,hz10,qK hz11 hb10,hn10,hn11,(Ne.symm hne)⟩⟩)
     rintro ⟨p6,p7⟩ wj HJ;dsimp only at HJ ⊢;have hn6:wr.heap.size≤p6:=HJ.out.2.2.2.1;have hn7:wr.heap.size≤p7:=HJ.out.2.2.2.2.1;have hne:p6≠p7:=HJ.out.2.2.2.2.2;have hne':p7≠p6:=hne.symm;have hHeld:wj.cell? ⟨w.heap.size,0,none⟩=some (.slice (some ad) bs.length ca)∧wj.cell? ⟨w.heap.size+1,0,none⟩=some (.slice (some bd) b2.length da)∧wj.cell? (ad.add (j*3))=some (.int .i64 x0)∧wj.cell? ⟨(ad.add (j*3)).block,(ad.add (j*3)).off+1,none⟩=some (.int .i64 x1)∧wj.cell? ⟨(ad.add (j*3)).block,(ad.add (j*3)).off+2,none⟩=some (.slice A3 xo.length c3)∧wj.cell? (bd.add (j*3))=some (.int .i64 y0)∧wj.cell? ⟨(bd.add (j*3)).block,(bd.add (j*3)).off+1,none⟩=some (.int .i64 y1)∧wj.cell? ⟨(bd.add (j*3)).block,(bd.add (j*3)).off+2,none⟩=some (.slice B3 yo.length d3)∧qB (Below wr.heap.size wr wj):=⟨qA (HJ.out.1) k0,qA (HJ.out.1) q0,qA (HJ.out.1) hx0,qA (HJ.out.1) hx1,qA (HJ.out.1) hx2,qA (HJ.out.1) hy0,qA (HJ.out.1) hy1,qA (HJ.out.1) hy2,⟨HJ.out.1⟩⟩;have a0:=qD HJ.out.2.1 (i:=0) rfl;have a1:=qD HJ.out.2.1 (i:=1) rfl;have a2:=qD HJ.out.2.1 (i:=2) rfl;have az0:=qH HJ.out.2.1 0;have az1:=qH HJ.out.2.1 1;have az2:=qH HJ.out.2.1 2;have c0_:=qD (qS (p:=⟨p6,2,none⟩) (qS (p:=⟨p6,1,none⟩) (qS (p:=⟨p6,0,none⟩) (HJ.out.2.2.1) hne' (.int .i64 x0)) hne' (.int .i64 x1)) hne' (.slice A3 xo.length c3)) (i:=0) rfl
     have c1_:=qD (qS (p:=⟨p6,2,none⟩) (qS (p:=⟨p6,1,none⟩) (qS (p:=⟨p6,0,none⟩) (HJ.out.2.2.1) hne' (.int .i64 x0)) hne' (.int .i64 x1)) hne' (.slice A3 xo.length c3)) (i:=1) rfl;have c2_:=qD (qS (p:=⟨p6,2,none⟩) (qS (p:=⟨p6,1,none⟩) (qS (p:=⟨p6,0,none⟩) (HJ.out.2.2.1) hne' (.int .i64 x0)) hne' (.int .i64 x1)) hne' (.slice A3 xo.length c3)) (i:=2) rfl;have cz0_:=qH (qS (p:=⟨p6,2,none⟩) (qS (p:=⟨p6,1,none⟩) (qS (p:=⟨p6,0,none⟩) (HJ.out.2.2.1) hne' (.int .i64 x0)) hne' (.int .i64 x1)) hne' (.slice A3 xo.length c3)) 0;have cz1_:=qH (qS (p:=⟨p6,2,none⟩) (qS (p:=⟨p6,1,none⟩) (qS (p:=⟨p6,0,none⟩) (HJ.out.2.2.1) hne' (.int .i64 x0)) hne' (.int .i64 x1)) hne' (.slice A3 xo.length c3)) 1;have cz2_:=qH (qS (p:=⟨p6,2,none⟩) (qS (p:=⟨p6,1,none⟩) (qS (p:=⟨p6,0,none⟩) (HJ.out.2.2.1) hne' (.int .i64 x0)) hne' (.int .i64 x1)) hne' (.slice A3 xo.length c3)) 2;refine qM (a':=?_) ?_ ?_;rotate_left
     ·simp only [qBS,Act.put,List.setIfInBounds_toArray,List.set_cons_zero,List.set_cons_succ];rfl
     refine oo_ 14 8191 12 none (fun K hK=>?_);refine qC4 (w1:=?_) (by rfl) rfl ?_ ?_;rotate_left
     ·go_simp;rfl
     refine hK.out _ _ ⟨qA ((((HJ.out.1).setCell (p:=⟨p6,0,none⟩) hn6 (.int .i64 x0)).setCell (p:=⟨p6,1,none⟩) hn6 (.int .i64 x1)).setCell (p:=⟨p6,2,none⟩) hn6 (.slice A3 xo.length c3)) k0,qA ((((HJ.out.1).setCell (p:=⟨p6,0,none⟩) hn6 (.int .i64 x0)).setCell (p:=⟨p6,1,none⟩) hn6 (.int .i64 x1)).setCell (p:=⟨p6,2,none⟩) hn6 (.slice A3 xo.length c3)) q0,qA ((((HJ.out.1).setCell (p:=⟨p6,0,none⟩) hn6 (.int .i64 x0)).setCell (p:=⟨p6,1,none⟩) hn6 (.int .i64 x1)).setCell (p:=⟨p6,2,none⟩) hn6 (.slice A3 xo.length c3)) hx0,qA ((((HJ.out.1).setCell (p:=⟨p6,0,none⟩) hn6 (.int .i64 x0)).setCell (p:=⟨p6,1,none⟩) hn6 (.int .i64 x1)).setCell (p:=⟨p6,2,none⟩) hn6 (.slice A3 xo.length c3)) hx1,qA ((((HJ.out.1).setCell (p:=⟨p6,0,none⟩) hn6 (.int .i64 x0)).setCell (p:=⟨p6,1,none⟩) hn6 (.int .i64 x1)).setCell (p:=⟨p6,2,none⟩) hn6 (.slice A3 xo.length c3)) hx2,qA ((((HJ.out.1).setCell (p:=⟨p6,0,none⟩) hn6 (.int .i64 x0)).setCell (p:=⟨p6,1,none⟩) hn6 (.int .i64 x1)).setCell (p:=⟨p6,2,none⟩) hn6 (.slice A3 xo.length c3)) hy0,qA ((((HJ.out.1).setCell (p:=⟨p6,0,none⟩) hn6 (.int .i64 x0)).setCell (p:=⟨p6,1,none⟩) hn6 (.int .i64 x1)).setCell (p:=⟨p6,2,none⟩) hn6 (.slice A3 xo.length c3)) hy1,qA ((((HJ.out.1).setCell (p:=⟨p6,0,none⟩) hn6 (.int .i64 x0)).setCell (p:=⟨p6,1,none⟩) hn6 (.int .i64 x1)).setCell (p:=⟨p6,2,none⟩) hn6 (.slice A3 xo.length c3)) hy2,⟨(((HJ.out.1).setCell (p:=⟨p6,0,none⟩) hn6 (.int .i64 x0)).setCell (p:=⟨p6,1,none⟩) hn6 (.int .i64 x1)).setCell (p:=⟨p6,2,none⟩) hn6 (.slice A3 xo.length c3)⟩⟩ (fun hHeld=>?_)
     clear hK K;refine la_ 14 16383 13 none rfl rfl (by kernel_rfl) (by decide) (fun K hK=>?_);refine qC4 (w1:=?_) (by rfl) rfl ?_ ?_;rotate_left
     ·go_simp;rfl
     refine hK.out _ _ ?_;clear hK K;refine qn (by kernel_rfl) ?_
     have HD0:qB (BR w ((((((wj.setCell ⟨p6,0,none⟩ (.int .i64 x0)).setCell ⟨p6,1,none⟩ (.int .i64 x1)).setCell ⟨p6,2,none⟩ (.slice A3 xo.length c3)).setCell ⟨p7,0,none⟩ (.int .i64 y0)).setCell ⟨p7,1,none⟩ (.int .i64 y1)).setCell ⟨p7,2,none⟩ (.slice B3 yo.length d3)) #[.slice (some ad) bs.length ca,.slice A2 gl.length cb] #[.slice (some bd) b2.length da,.slice B2 g2.length db] p6 p7 #[.int .i64 x0,.int .i64 x1,.slice A3 xo.length c3] #[.int .i64 y0,.int .i64 y1,.slice B3 yo.length d3]):=⟨{ low:=qF HC.out.low (((((((HJ.out.1).setCell (p:=⟨p6,0,none⟩) hn6 (.int .i64 x0)).setCell (p:=⟨p6,1,none⟩) hn6 (.int .i64 x1)).setCell (p:=⟨p6,2,none⟩) hn6 (.slice A3 xo.length c3)).setCell (p:=⟨p7,0,none⟩) hn7 (.int .i64 y0)).setCell (p:=⟨p7,1,none⟩) hn7 (.int .i64 y1)).setCell (p:=⟨p7,2,none⟩) hn7 (.slice B3 yo.length d3)),x:=qK HC.out.x (((((((HJ.out.1).setCell (p:=⟨p6,0,none⟩) hn6 (.int .i64 x0)).setCell (p:=⟨p6,1,none⟩) hn6 (.int .i64 x1)).setCell (p:=⟨p6,2,none⟩) hn6 (.slice A3 xo.length c3)).setCell (p:=⟨p7,0,none⟩) hn7 (.int .i64 y0)).setCell (p:=⟨p7,1,none⟩) hn7 (.int .i64 y1)).setCell (p:=⟨p7,2,none⟩) hn7 (.slice B3 yo.length d3)),y:=qK HC.out.y (((((((HJ.out.1).setCell (p:=⟨p6,0,none⟩) hn6 (.int .i64 x0)).setCell (p:=⟨p6,1,none⟩) hn6 (.int .i64 x1)).setCell (p:=⟨p6,2,none⟩) hn6 (.slice A3 xo.length c3)).setCell (p:=⟨p7,0,none⟩) hn7 (.int .i64 y0)).setCell (p:=⟨p7,1,none⟩) hn7 (.int .i64 y1)).setCell (p:=⟨p7,2,none⟩) hn7 (.slice B3 yo.length d3)),a:=qS (p:=⟨p7,2,none⟩) (qS (p:=⟨p7,1,none⟩) (qS (p:=⟨p7,0,none⟩) (qQ (qQ (qQ (HJ.out.2.1) 0 (.int .i64 x0)) 1 (.int .i64 x1)) 2 (.slice A3 xo.length c3)) hne (.int .i64 y0)) hne (.int .i64 y1)) hne (.slice B3 yo.length d3),b:=qQ (qQ (qQ (qS (p:=⟨p6,2,none⟩) (qS (p:=⟨p6,1,none⟩) (qS (p:=⟨p6,0,none⟩) (HJ.out.2.2.1) hne' (.int .i64 x0)) hne' (.int .i64 x1)) hne' (.slice A3 xo.length c3)) 0 (.int .i64 y0)) 1 (.int .i64 y1)) 2 (.slice B3 yo.length d3) }⟩
     clear hHeld a0 a1 a2 az0 az1 az2 c0_ c1_ c2_ cz0_ cz1_ cz2_ hx0 hx1 hx2 hy0 hy1 hy2 k0 q0 HJ hn6 hn7 hne hne' hbx z1 z2 z3;generalize ((((((wj.setCell ⟨p6,0,none⟩ (.int .i64 x0)).setCell ⟨p6,1,none⟩ (.int .i64 x1)).setCell ⟨p6,2,none⟩ (.slice A3 xo.length c3)).setCell ⟨p7,0,none⟩ (.int .i64 y0)).setCell ⟨p7,1,none⟩ (.int .i64 y1)).setCell ⟨p7,2,none⟩ (.slice B3 yo.length d3))=w7 at *;have k0:=qD HD0.out.a (i:=0) rfl;have k1:=qD HD0.out.a (i:=1) rfl;have k2:=qD HD0.out.a (i:=2) rfl;have q0:=qD HD0.out.b (i:=0) rfl;have q1:=qD HD0.out.b (i:=1) rfl;have q2:=qD HD0.out.b (i:=2) rfl;cases hd0:(x0==y0)
     ·have n0:(x0 != y0)=true:=by unfold bne; rw [hd0]; rfl
      have HR1:=qB.mk (show r=false by rw [HV.out,←HA.out,HS.out,HSB.out,hd0]; simp);go_wp2;go_ret;exact ⟨by rw [HR1.out]; rfl,HD0.out.low⟩
     ·have n0:(x0 != y0)=false:=by unfold bne; rw [hd0]; rfl
      cases hd1:(x1==y1)
      ·have n1:(x1 != y1)=true:=by unfold bne; rw [hd1]; rfl
       have HR1:=qB.mk (show r=false by rw [HV.out,←HA.out,HS.out,HSB.out,hd1]; simp);go_wp2;go_ret;exact ⟨by rw [HR1.out]; rfl,HD0.out.low⟩
      ·have n1:(x1 != y1)=false:=by unfold bne; rw [hd1]; rfl
       have HSO:=Lib.hid (show eqL eqBk (bs.drop j) (b2.drop j)=(eqL eqOp xo yo&&eqL eqBk (bs.drop (j+1)) (b2.drop (j+1))) by rw [HS.out,HSB.out,hd0,hd1]; simp);clear HSB HS;rcases Classical.em (xo.length=yo.length) with hl3|hl3
       ·have d3:((xo.length:Int) != (yo.length:Int))=false:=by rw [bne_eq_false_iff_eq]; omega
        have HL3:=Lib.hid hl3;clear hl3;go_wp2;clear d3 n0 n1 hd0 hd1 k0 k1 k2 q0 q1 q2
        go_loopw [8] (fun i wr=>∃k:Nat,k≤xo.length∧i=.int .i64 k∧qB (eqL eqOp (xo.drop k) (yo.drop k)=eqL eqOp xo yo)∧qB (BR w wr #[.slice (some ad) bs.length ca,.slice A2 gl.length cb] #[.slice (some bd) b2.length da,.slice B2 g2.length db] p6 p7 #[.int .i64 x0,.int .i64 x1,.slice A3 xo.length c3] #[.int .i64 y0,.int .i64 y1,.slice B3 yo.length d3])) (fun i _=>xo.length - (intOf i).toNat)
        case atStart=>exact ⟨0,by omega,rfl,⟨rfl⟩,HD0⟩
        case round=>
         obtain ⟨k,hk,rfl,HAk,HD⟩:=hrel;clear HD0;have kp:=qD HD.out.a (i:=2) rfl;have kq:=qD HD.out.b (i:=2) rfl;by_cases hlk:k<xo.length
         ·have hlk2:k<yo.length:=by have:=HL3.out; omega
          obtain ⟨ed,A5,c5,A6,c6,e5,hz0,hz1,hz2,hz3,hz4,hz5,hz6,g5,C5,g6,C6⟩:=qA3 K3.out (k:Int) (by omega) (by omega);obtain ⟨fd,B5,d5,B6,d6,f5,hv0,hv1,hv2,hv3,hv4,hv5,hv6,u5,D5,u6,D6⟩:=qA3 L3.out (k:Int) (by omega) (by omega);cases e5;cases f5;replace hz0:=qA HD.out.low hz0;replace hz1:=qA HD.out.low hz1;replace hz2:=qA HD.out.low hz2;replace hz3:=qA HD.out.low hz3;replace hz4:=qA HD.out.low hz4;replace hz5:=qA HD.out.low hz5;replace hz6:=qA HD.out.low hz6;replace hv0:=qA HD.out.low hv0;replace hv1:=qA HD.out.low hv1;replace hv2:=qA HD.out.low hv2;replace hv3:=qA HD.out.low hv3;replace hv4:=qA HD.out.low hv4;replace hv5:=qA HD.out.low hv5;replace hv6:=qA HD.out.low hv6;simp only [Int.toNat_natCast] at hz0 hz1 hz2 hz3 hz4 hz5 hz6 hv0 hv1 hv2 hv3 hv4 hv5 hv6;have HSk:qB (eqL eqOp (xo.drop k) (yo.drop k)=(eqOp (qj xo (k:Int)) (qj yo (k:Int))&&eqL eqOp (xo.drop (k+1)) (yo.drop (k+1)))):=⟨qCf eqOp z59 xo yo k hlk hlk2⟩;generalize hX:qj xo (k:Int)=u at *;generalize hY:qj yo (k:Int)=v at *;clear hX hY;have HE:=Lib.hid (fun W (hb:Below w.heap.size w W)=>qIK u v W A5 A6 B5 B6 c5 c6 d5 d6 (Kd.C_below C5 hb) (Kd.C_below C6 hb) (Kd.C_below D5 hb) (Kd.C_below D6 hb));have z1:(0≤(k:Int))=True:=eq_true (by omega);have z2:((k:Int)<(xo.length:Int))=True:=eq_true (by omega)
          have z3:((k:Int)<(yo.length:Int))=True:=eq_true (by omega);clear g5 C5 g6 C6 u5 D5 u6 D6;go_wp2
          refine qU (n:=12) (S:=fun w'=>w'.cell? ⟨p6,2,none⟩=some (.slice (some ed) xo.length c3)∧w'.cell? ⟨p7,2,none⟩=some (.slice (some fd) yo.length d3)∧w'.cell? (ed.add (k*7))=some (.int .i64 u.f0)∧w'.cell? ⟨(ed.add (k*7)).block,(ed.add (k*7)).off+1,none⟩=some (.int .i64 u.f1)∧w'.cell? ⟨(ed.add (k*7)).block,(ed.add (k*7)).off+2,none⟩=some (.int .i64 u.f2)∧w'.cell? ⟨(ed.add (k*7)).block,(ed.add (k*7)).off+3,none⟩=some (.int .i64 u.f3)∧w'.cell? ⟨(ed.add (k*7)).block,(ed.add (k*7)).off+4,none⟩=some (.string u.f4)∧w'.cell? ⟨(ed.add (k*7)).block,(ed.add (k*7)).off+5,none⟩=some (.slice A5 u.f5.length c5)∧w'.cell? ⟨(ed.add (k*7)).block,(ed.add (k*7)).off+6,none⟩=some (.slice A6 u.f6.length c6)∧w'.cell? (fd.add (k*7))=some (.int .i64 v.f0)∧w'.cell? ⟨(fd.add (k*7)).block,(fd.add (k*7)).off+1,none⟩=some (.int .i64 v.f1)∧w'.cell? ⟨(fd.add (k*7)).block,(fd.add (k*7)).off+2,none⟩=some (.int .i64 v.f2)∧w'.cell? ⟨(fd.add (k*7)).block,(fd.add (k*7)).off+3,none⟩=some (.int .i64 v.f3)∧w'.cell? ⟨(fd.add (k*7)).block,(fd.add (k*7)).off+4,none⟩=some (.string v.f4)∧w'.cell? ⟨(fd.add (k*7)).block,(fd.add (k*7)).off+5,none⟩=some (.slice B5 v.f5.length d5)∧w'.cell? ⟨(fd.add (k*7)).block,(fd.add (k*7)).off+6,none⟩=some (.slice B6 v.f6.length d6)) (ds:=[10]) (mA 12 0) (by kernel_rfl) rfl rfl ⟨qA (qE (Below.refl _ _)) kp,qA (qE (Below.refl _ _)) kq,qA (qE (Below.refl _ _)) hz0,qA (qE (Below.refl _ _)) hz1,qA (qE (Below.refl _ _)) hz2,qA (qE (Below.refl _ _)) hz3,qA (qE (Below.refl _ _)) hz4,qA (qE (Below.refl _ _)) hz5,qA (qE (Below.refl _ _)) hz6,qA (qE (Below.refl _ _)) hv0,qA (qE (Below.refl _ _)) hv1,qA (qE (Below.refl _ _)) hv2,qA (qE (Below.refl _ _)) hv3,qA (qE (Below.refl _ _)) hv4,qA (qE (Below.refl _ _)) hv5,qA (qE (Below.refl _ _)) hv6⟩ (fun hHeld=>?_)
          refine pa_ 12 1 0 (some 71) (v:=?_) (a':=?_) ?_ ?_ ?_;rotate_left 2
          ·intro w';go_simp
           with_reducible rfl
          ·simp only [pn];rfl
          refine pa_ 12 5 2 (some 73) (v:=?_) (a':=?_) ?_ ?_ ?_;rotate_left 2
          ·intro w';go_simp
           with_reducible rfl
          ·simp only [pn];rfl
          refine pa_ 12 37 5 (some 76) (v:=?_) (a':=?_) ?_ ?_ ?_;rotate_left 2
          ·intro w';go_simp
           with_reducible rfl
          ·simp only [pn];rfl
          refine pa_ 12 165 7 (some 78) (v:=?_) (a':=?_) ?_ ?_ ?_;rotate_left 2
          ·intro w';go_simp
           with_reducible rfl
          ·simp only [pn];rfl
          refine tb_ 12 167 1 (some 72) (v:=?_) (a':=?_) hHeld ?_ ?_ ?_;rotate_left 2
          ·rintro w' ⟨s0,s1,s2,s3,s4,s5,s6,s7,s8,s9,s10,s11,s12,s13,s14,s15⟩;go_simp
           with_reducible rfl
          ·simp only [pn];rfl
          refine pa_ 12 175 3 (some 74) (v:=?_) (a':=?_) ?_ ?_ ?_;rotate_left 2
          ·intro w';go_simp
           with_reducible rfl
          ·simp only [pn];rfl
          refine tb_ 12 191 4 (some 75) (v:=?_) (a':=?_) hHeld ?_ ?_ ?_;rotate_left 2
          ·rintro w' ⟨s0,s1,s2,s3,s4,s5,s6,s7,s8,s9,s10,s11,s12,s13,s14,s15⟩;go_simp
           with_reducible rfl
          ·simp only [pn];rfl
          refine tb_ 12 255 6 (some 77) (v:=?_) (a':=?_) hHeld ?_ ?_ ?_;rotate_left 2
          ·rintro w' ⟨s0,s1,s2,s3,s4,s5,s6,s7,s8,s9,s10,s11,s12,s13,s14,s15⟩;go_simp
           with_reducible rfl
          ·simp only [pn];rfl
          refine pa_ 12 511 8 (some 79) (v:=?_) (a':=?_) ?_ ?_ ?_;rotate_left 2
          ·intro w';go_simp
           with_reducible rfl
          ·simp only [pn];rfl
          refine tb_ 12 1023 9 (some 80) (v:=?_) (a':=?_) hHeld ?_ ?_ ?_;rotate_left 2
          ·rintro w' ⟨s0,s1,s2,s3,s4,s5,s6,s7,s8,s9,s10,s11,s12,s13,s14,s15⟩;go_simp
           with_reducible rfl
          ·simp only [pn];rfl
          refine la_ 12 2047 10 (some 81) rfl rfl (by kernel_rfl) (by decide) (fun K hK=>?_);refine qR Tryz.func25 (by kernel_rfl) rfl #[.agg #[.int .i64 u.f0,.int .i64 u.f1,.int .i64 u.f2,.int .i64 u.f3,.string u.f4,.slice A5 u.f5.length c5,.slice A6 u.f6.length c6],.agg #[.int .i64 v.f0,.int .i64 v.f1,.int .i64 v.f2,.int .i64 v.f3,.string v.f4,.slice B5 v.f5.length d5,.slice B6 v.f6.length d6]] (by rfl) rfl rfl (by simp only [List.map_toArray,List.map_cons,List.map_nil]; rfl) ?_
          with_reducible refine (HE.out _ (qE HD.out.low)).mono ?_
          rintro e w1 ⟨rfl,hb1⟩;refine ⟨_,rfl,?_⟩;refine hK.out _ _ ?_;clear hK K;refine qM (a':=?_) ?_ ?_;rotate_left
          ·show Act.put _ (some 81) _=_
           simp only [pn];rfl
          refine pa_ 12 4095 11 (some 82) (v:=?_) (a':=?_) ?_ ?_ ?_;rotate_left 2
          ·intro w';go_simp
           with_reducible rfl
          ·simp only [pn];rfl
          refine qn (by kernel_rfl) ?_;have HD1:=qB.mk ((HD.out.below (qE (Below.refl _ _))).below hb1);clear hb1 hHeld hz0 hz1 hz2 hz3 hz4 hz5 hz6 hv0 hv1 hv2 hv3 hv4 hv5 hv6 kp kq z1 z2 z3 HE;cases hr:eqOp u v
          ·have HR1:=qB.mk (show r=false by rw [HV.out,←HA.out,HSO.out,←HAk.out,HSk.out,hr]; simp);clear hr;go_wp2;go_ret;exact ⟨by rw [HR1.out]; rfl,HD1.out.low⟩
          ·have HR1:=qB.mk (show eqL eqOp (xo.drop (k+1)) (yo.drop (k+1))=eqL eqOp xo yo by rw [←HAk.out,HSk.out,hr]; simp);clear hr;go_wp2;go_roundw
           case rel=>exact ⟨k+1,by omega,by go_num,HR1,HD1⟩
           case measure=>simp [intOf]; omega
         ·have hje:k=xo.length:=by omega
          subst hje;have HR1:=qB.mk (show eqL eqBk (bs.drop (j+1)) (b2.drop (j+1))=eqL eqBk bs b2 by rw [←HA.out,HSO.out,←HAk.out,qC1 _ _ _ HL3.out]; simp);go_wp2;go_roundw
          case rel=>exact ⟨j+1,by omega,by go_num,HR1,⟨HD.out.toBX⟩⟩
          case measure=>simp [intOf]; omega
       ·have d3:((xo.length:Int) != (yo.length:Int))=true:=by rw [bne_iff_ne]; omega
        have HR1:=qB.mk (show r=false by rw [HV.out,←HA.out,HSO.out,qCR eqOp xo yo hl3]; simp);have d4:(xo.length != yo.length)=true:=by rw [bne_iff_ne]; exact hl3
        clear hl3;go_wp2;go_ret;exact ⟨by rw [HR1.out]; rfl,HD0.out.low⟩
    ·have hje:j=bs.length:=by omega
     subst hje;have HV2:Hid (r=eqL eqGl gl g2):=Lib.hid (by rw [HV.out,←HA.out,qC1 _ _ _ HL1.out]; simp);go_wp2;clear k0 q0 HA
     go_loopw [9] (fun i wr=>∃m:Nat,m≤gl.length∧i=.int .i64 m∧qB (eqL eqGl (gl.drop m) (g2.drop m)=eqL eqGl gl g2)∧qB (BX w wr #[.slice A bs.length ca,.slice A2 gl.length cb] #[.slice B b2.length da,.slice B2 g2.length db])) (fun i _=>gl.length - (intOf i).toNat)
     case atStart=>exact ⟨0,by omega,rfl,⟨rfl⟩,HC⟩
     case round=>
      obtain ⟨j,hj,rfl,HA,HC⟩:=hrel;have k0:=qD HC.out.x (i:=1) rfl;have q0:=qD HC.out.y (i:=1) rfl;by_cases hlt:j<gl.length
      ·have hlt2:j<g2.length:=by have:=HL2.out; omega
       obtain ⟨ad,e3,hx0,hx1⟩:=qB6 M1.out (j:Int) (by omega) (by omega);obtain ⟨bd,f3,hy0,hy1⟩:=qB6 M2.out (j:Int) (by omega) (by omega);cases e3;cases f3;replace hx0:=qA HC.out.low hx0;replace hx1:=qA HC.out.low hx1;replace hy0:=qA HC.out.low hy0;replace hy1:=qA HC.out.low hy1;simp only [Int.toNat_natCast] at hx0 hx1 hy0 hy1;have HS:qB (eqL eqGl (gl.drop j) (g2.drop j)=(eqGl (Qn gl (j:Int)) (Qn g2 (j:Int))&&eqL eqGl (gl.drop (j+1)) (g2.drop (j+1)))):=⟨qCf eqGl z63 gl g2 j hlt hlt2⟩;generalize hX:Qn gl (j:Int)=X at *;generalize hY:Qn g2 (j:Int)=Y at *;clear hX hY;have z1:(0≤(j:Int))=True:=eq_true (by omega);have z2:((j:Int)<(gl.length:Int))=True:=eq_true (by omega);have z3:((j:Int)<(g2.length:Int))=True:=eq_true (by omega);cases hr:eqGl X Y
       ·have HR1:=qB.mk (show r=false by rw [HV2.out,←HA.out,HS.out,hr]; rfl);go_wp2
        repeat (go_quiet (fail); try go_wp2)
        go_ret;exact ⟨by rw [HR1.out]; rfl,by repeat (first|exact HC.out.low|apply qO|apply below_drew1)⟩
       ·have HR1:=qB.mk (show eqL eqGl (gl.drop (j+1)) (g2.drop (j+1))=eqL eqGl gl g2 by rw [←HA.out,HS.out,hr]; simp);go_wp2
        repeat (go_quiet (fail); try go_wp2)
        go_roundw
        case rel=>exact ⟨j+1,by omega,by go_num,HR1,⟨HC.out.below (qO (Below.refl _ _) _)⟩⟩
        case measure=>simp [intOf]; omega
      ·have hje:j=gl.length:=by omega
       subst hje;have HR1:=qB.mk (show r=true by rw [HV2.out,←HA.out]; exact qC1 _ _ _ HL2.out);go_wp2;go_ret;exact ⟨by rw [HR1.out]; rfl,HC.out.low⟩
  ·have d2:((gl.length:Int) != (g2.length:Int))=true:=by rw [bne_iff_ne]; omega
   have HR1:=qB.mk (show r=false by rw [HV.out,qCR eqGl gl g2 hl2]; rfl);have d4:(gl.length != g2.length)=true:=by rw [bne_iff_ne]; exact hl2
   clear hl2;go_enter Tryz.func9,Tryz.ntmps9;go_wp2;go_ret;exact ⟨by rw [HR1.out]; rfl,HB0.out.low⟩
 ·have d1:((bs.length:Int) != (b2.length:Int))=true:=by rw [bne_iff_ne]; omega
  have HR1:=qB.mk (show r=false by rw [HV.out,qCR eqBk bs b2 hl1]; simp);have d4:(bs.length != b2.length)=true:=by rw [bne_iff_ne]; exact hl1
  clear hl1;go_enter Tryz.func9,Tryz.ntmps9;go_wp2;go_ret;exact ⟨by rw [HR1.out]; rfl,HB0.out.low⟩
end Go.Proofs.YtoonkkipnljflaaGreatDoor.CJ
