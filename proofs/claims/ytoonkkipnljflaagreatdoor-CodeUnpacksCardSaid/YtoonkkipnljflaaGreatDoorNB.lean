/- What a text holds: numbers of 64 bits, names; a code that is read has no others. Conditions: none. The Go function code.Read. Conditions: the text is not too long; the listed variables are laid. -/
import Derived.Test.YtoonkkipnljflaaGreatDoorND
namespace Go.Proofs.YtoonkkipnljflaaGreatDoor.CJ
open Go.RowKit Go.Proofs.YtoonkkipnljflaaGreatDoorW.PrintWords Go.Proofs.YtoonkkipnljflaaGreatDoorW.PrintLast Go.Proofs.YtoonkkipnljflaaGreatDoor.PT Go.Proofs.YtoonkkipnljflaaGreatDoor.IMaps Go.Proofs.YtoonkkipnljflaaGreatDoor.TJ
set_option linter.unusedVariables false
set_option linter.unusedSimpArgs false
theorem qAx{p:List UInt8}{v:Int}(h:numT p=some v):Ok64 v:=by
 unfold numT at h;rcases ha:Lib.atoiAll p with u|_|_
 ·rw [ha] at h;simp only at h;split at h
  ·injection h with h;subst h;exact Lib.atoiAll_bounds ha
  ·cases h
 ·rw [ha] at h; cases h
 ·rw [ha] at h; cases h
theorem qHr:∀ {ps:List (List UInt8)} {l:List Int},Q6 ps=some l→∀n∈l,Ok64 n
 | [],l,h=>by cases h; simp
 |p::r,l,h=>by
  rw [Q6] at h;cases h1:numT p with
  |none=>rw [h1] at h; cases h
  |some n=>
   rw [h1] at h;cases h2:Q6 r with
   |none=>rw [h2] at h; cases h
   |some l2=>
    rw [h2] at h;simp only [Option.some.injEq] at h;subst h;intro m hm;rcases List.mem_cons.1 hm with rfl|hm
    ·exact qAx h1
    ·exact qHr h2 m hm
theorem listT_64{p:List UInt8}{l:List Int}(h:qA1 p=some l):∀n∈l,Ok64 n:=by
 unfold qA1 at h;split at h
 ·split at h
  ·cases h; simp
  ·exact qHr h
 ·cases h
theorem altT4_ok{o s n b:List UInt8}{a:GAl}(h:qDI o s n b=some a):TAl a:=by
 unfold qDI at h;cases g0:numT o with
 |none=>rw [g0] at h; cases h
 |some f0=>
 cases g1:strT s with
 |none=>rw [g0,g1] at h; cases h
 |some f1=>
 cases g2:numT n with
 |none=>rw [g0,g1,g2] at h; cases h
 |some f2=>
 cases g3:numT b with
 |none=>rw [g0,g1,g2,g3] at h; cases h
 |some f3=>
 rw [g0,g1,g2,g3] at h;simp only [Option.some.injEq] at h;subst h;exact ⟨qAx g0,(qGL g1).2,qAx g2,qAx g3⟩
theorem altT_ok{p:List UInt8}{a:GAl}(h:altT p=some a):TAl a:=by
 unfold altT at h;simp only at h;split at h
 ·split at h
  ·exact altT4_ok h
  ·cases h
 ·cases h
theorem qHs:∀ {ps:List (List UInt8)} {l:List GAl},qAQ ps=some l→∀a∈l,TAl a
 | [],l,h=>by cases h; simp
 |p::r,l,h=>by
  rw [qAQ] at h;cases h1:altT p with
  |none=>rw [h1] at h; cases h
  |some n=>
   rw [h1] at h;cases h2:qAQ r with
   |none=>rw [h2] at h; cases h
   |some l2=>
    rw [h2] at h;simp only [Option.some.injEq] at h;subst h;intro m hm;rcases List.mem_cons.1 hm with rfl|hm
    ·exact altT_ok h1
    ·exact qHs h2 m hm
theorem opT_ok{ps:List (List UInt8)}{g:GOp}(h:opT ps=some g):TOp g:=by
 unfold opT at h;split at h
 ·rename_i o a b n s l r
  split at h
  ·cases h
  ·rename_i ho
   cases h1:numT a with
   |none=>rw [h1] at h; cases h
   |some f1=>
   cases h2:numT b with
   |none=>rw [h1,h2] at h; cases h
   |some f2=>
   cases h3:numT n with
   |none=>rw [h1,h2,h3] at h; cases h
   |some f3=>
   cases h4:strT s with
   |none=>rw [h1,h2,h3,h4] at h; cases h
   |some f4=>
   cases h5:qA1 l with
   |none=>rw [h1,h2,h3,h4,h5] at h; cases h
   |some f5=>
   cases h6:qAQ r with
   |none=>rw [h1,h2,h3,h4,h5,h6] at h; cases h
   |some f6=>
   rw [h1,h2,h3,h4,h5,h6] at h;simp only [Option.some.injEq] at h;subst h;exact ⟨qDz ho,qAx h1,qAx h2,qAx h3,(qGL h4).2,listT_64 h5,qHs h6⟩
 ·cases h
def TSt(c:St):Prop:=(∀b∈c.1,TBk b)∧∀g∈c.2,TGl g
def LSt(n:Nat)(c:St):Prop:=c.1.length≤n∧(∀b∈c.1,b.f2.length≤n)∧c.2.length≤n
theorem qHt{bs:List GBk}{g:GOp}{P:GBk→Prop}(h:∀b∈bs,P b)(hg:∀b∈bs,P ⟨b.f0,b.f1,b.f2++[g]⟩):(∀b∈qA9 bs g,P b)∧(qA9 bs g).length≤bs.length:=by
 rcases List.eq_nil_or_concat bs with rfl|⟨r,b,rfl⟩
 ·exact ⟨by simp [qA9],by simp [qA9]⟩
 ·rw [List.concat_eq_append] at *;have e:qA9 (r++[b]) g=r++[⟨b.f0,b.f1,b.f2++[g]⟩]:=by
   rw [show r++[b]=r++[⟨b.f0,b.f1,b.f2⟩] from rfl,qDx]
  rw [e];refine ⟨fun x hx=>?_,by simp⟩;rcases List.mem_append.1 hx with hx|hx
  ·exact h x (by simp [hx])
  ·simp only [List.mem_singleton] at hx;subst hx;exact hg b (by simp)
theorem qJs{c c':St}{l:List UInt8}{n:Nat}(h:addT c l=some c')(ht:TSt c)(hl:LSt n c):TSt c'∧LSt (n+1) c':=by
 obtain ⟨bs,gl⟩:=c;obtain ⟨t1,t2⟩:=ht;obtain ⟨l1,l2,l3⟩:=hl;simp only at t1 t2 l1 l2 l3;unfold addT at h;split at h
 ·split at h
  ·cases h
  ·cases ho:opT (spl 32 (l.drop 2)) with
   |none=>rw [ho] at h; cases h
   |some g=>
    rw [ho] at h;simp only [Option.some.injEq] at h;subst h;have p1:=qHt (g:=g) (P:=TBk) t1 (fun b hb=>⟨(t1 b hb).n0,(t1 b hb).n1,fun x hx=>by
     rcases List.mem_append.1 hx with hx|hx
     ·exact (t1 b hb).ops x hx
     ·simp only [List.mem_singleton] at hx;subst hx;exact opT_ok ho⟩)
    have p2:=qHt (g:=g) (P:=fun b=>b.f2.length≤n+1) (fun b hb=>by have:=l2 b hb; omega) (fun b hb=>by have:=l2 b hb; simp; omega);exact ⟨⟨p1.1,t2⟩,by have:=p1.2; simp only; omega,p2.1,by simp only; omega⟩
 ·generalize spl 32 l=ps at *;unfold Qw at h;split at h
  ·rename_i hd a b
   split at h
   ·cases h1:numT a with
    |none=>rw [h1] at h; cases h
    |some f0=>
    cases h2:numT b with
    |none=>rw [h1,h2] at h; cases h
    |some f1=>
    rw [h1,h2] at h;simp only at h;split at h
    ·simp only [Option.some.injEq] at h;subst h;refine ⟨⟨fun b hb=>?_,t2⟩,by simp; omega,fun b hb=>?_,by simp only; omega⟩
     ·simp only at hb;rcases List.mem_append.1 hb with hb|hb
      ·exact t1 b hb
      ·simp only [List.mem_singleton] at hb;subst hb;exact ⟨qAx h1,qAx h2,by simp⟩
     ·simp only at hb;rcases List.mem_append.1 hb with hb|hb
      ·have:=l2 b hb; omega
      ·simp only [List.mem_singleton] at hb;subst hb;simp
    ·cases h
   ·split at h
    ·cases h2:numT b with
     |none=>rw [h2] at h; cases h
     |some f1=>
     rw [h2] at h;simp only at h;split at h
     ·rename_i hn
      simp only [Option.some.injEq] at h;subst h;refine ⟨⟨t1,fun g hg=>?_⟩,by simp only; omega,fun b hb=>by have:=l2 b hb; omega,by simp; omega⟩;simp only at hg;rcases List.mem_append.1 hg with hg|hg
      ·exact t2 g hg
      ·simp only [List.mem_singleton] at hg;subst hg;exact ⟨hn,qAx h2⟩
     ·cases h
    ·cases h
  ·cases h
theorem qDO{s:ByteArray}(h:qDK s.data.toList):s.size≤maxLen:=by
 have:s.data.toList.length≤60:=by
  rcases h with h|h
  ·rw [h]; simp
  ·exact qCj h
 simp only [Array.length_toList] at this;show s.data.size≤_
 unfold maxLen;omega
theorem qK4{c:St}(h:TSt c):qAq c.1 c.2∧WfC c.1:=
 ⟨⟨fun b hb g hg=>⟨qDO ((h.1 b hb).ops g hg).s4,fun a ha=>qDO (((h.1 b hb).ops g hg).l6 a ha).s1⟩,fun g hg=>qDO (.inr (h.2 g hg).s0)⟩,fun b hb g hg=>⟨((h.1 b hb).ops g hg).n3,fun a ha=>(((h.1 b hb).ops g hg).l6 a ha).n2⟩⟩
def qB2(k:Nat)(c:St)(ls:List (List UInt8)):RdEnd:=match qCh k c ls with | .ok c=>if allK c.1 c.2 then .ok c else .err 0 41 | .error k=>.err k 4
theorem qIU(t:List UInt8):qDJ t=qB2 1 ([],[]) (spl 10 t):=rfl
theorem qK5(k:Nat)(c:St):qB2 k c (spl 10 [])=if allK c.1 c.2 then .ok c else .err 0 41:=rfl
theorem qJt(k:Nat)(c:St)(l:List UInt8)(h:(10:UInt8)∉l)(hne:l≠[]):qB2 k c (spl 10 l)=.err k 4:=by
 unfold qB2;rw [qDH 10 l h,qCh,if_neg hne]
def nextT(k:Nat)(r:List UInt8):Option St→RdEnd
 |some c'=>qB2 (k+1) c' (spl 10 r)
 |none=>.err k 4
theorem qJv(k:Nat)(c:St)(x r:List UInt8)(h:(10:UInt8)∉x):qB2 k c (spl 10 (x++10::r))=nextT k r (addT c x):=by
 unfold qB2 nextT;rw [qBy 10 x r h];obtain ⟨y,ys,e⟩:=qHh 10 r;rw [e,qCh]
 ·cases addT c x<;>rfl
 ·intro h; cases h
set_option maxRecDepth 100000 in
set_option maxHeartbeats 2000000 in
theorem qIV(w:World)(B p pl:Nat)(bs:List GBk)(gl:List GGl)(l:List UInt8)(hx:w.heap[pl]? = some (.cells #[.string ⟨l.toArray⟩] 9 (0,0)))(hG:GC w B p bs gl)(w0:World)(hR0:RW w0)(hb0:Below w0.heap.size w0 w)(hB0:w0.heap.size≤B)(hl:l.length≤1000000)(hbn:bs.length≤1000000∧∀b∈bs,b.f2.length≤1000000)(hgn:gl.length≤1000000):
 Calls Tryz.prog 57 #[.pointer (some ⟨p,0,none⟩),.pointer (some ⟨pl,0,none⟩)] w (qFO w B p (addT (bs,gl) l)):=by
 have HA:=Lib.hid (qK3 w B p bs gl l hG w0 hR0 hb0 hB0 hl hbn hgn);have d:=qD hx (i:=0) rfl;clear hG hR0 hb0 hB0 hl hbn hgn hx;generalize addT (bs,gl) l=F at *;go_enter Tryz.func57,Tryz.ntmps57;go_wp2_with fail;refine HA.out.mono ?_;cases F with
 |none=>
  rintro e w1 ⟨rfl,h⟩;have H:=qB.mk h;clear h;go_wp2;exact ⟨rfl,rfl,H.out⟩
 |some c=>
  rintro e w1 ⟨rfl,h⟩;have H:=qB.mk h;clear h;go_wp2;go_end0;exact ⟨rfl,H.out⟩
def GdPost(w:World)(B p:Nat):Option St→Ending→World→Prop
 |some c,e,w'=>e=.returned (.bool true)∧GC w' B p c.1 c.2∧Below B w w'∧QI p w w'
 |none,e,w'=>e=.returned (.bool false)∧Below B w w'∧QI p w w'
theorem GL.setB{W:World}{B p k:Nat}{vA vB:Value}{bs:List GBk}{gl:List GGl}{cs:Array Value}(h:GL W B p vA vB bs gl)(hx:W.heap[k]? = some (.cells cs 4 (0,0)))(u:Value):GL (W.setCell ⟨k,0,none⟩ u) B p vA vB bs gl:=
 ⟨qS h.box (qDZ h.box hx (by decide)) u,h.hB,Kd.S_set h.rA hx (by decide) 0 u,Kd.R_set h.rB hx (by decide) 0 u⟩
theorem QI.setB{W:World}{p k N:Nat}(h:N≤k)(hN:N≤W.heap.size)(u:Value){w:World}(hw:QI p w W)(hs:w.heap.size≤N):QI p w (W.setCell ⟨k,0,none⟩ u):=fun i cs T hi hc n1 n2 n3=>
 (Below.heap_setCell _ _ _ _ (by have:=qN hc; show i≠k; omega)).trans (hw i cs T hi hc n1 n2 n3)
theorem qK6(w:World)(B p pl:Nat)(bs:List GBk)(gl:List GGl)(l:List UInt8)(hx:w.heap[pl]? = some (.cells #[.string ⟨l.toArray⟩] 9 (0,0)))(hG:GC w B p bs gl)(w0:World)(hR0:RW w0)(hb0:Below w0.heap.size w0 w)(hB0:w0.heap.size≤B)(hl:l.length≤1000000)(hbn:bs.length≤1000000∧∀b∈bs,b.f2.length≤1000000)(hgn:gl.length≤1000000):
 Calls Tryz.prog 12 #[.func (.func 57) #[] #[.pointer (some ⟨p,0,none⟩),.pointer (some ⟨pl,0,none⟩)]] w (GdPost w B p (addT (bs,gl) l)):=by
 have hb1:=qC (Below.refl w.heap.size w) (.cells #[.bool false] 4);obtain ⟨vA,vB,hG⟩:=hG;have hpl:=qN hG.box;have hBs:=hG.size;have hU:=qIV (w.alloc (.cells #[.bool false] 4)) B p pl bs gl l (qK hx hb1) ⟨_,_,hG.below hb1⟩ w0 hR0 (qF hb0 hb1) hB0 hl hbn hgn;have hgo:∀args w,(callFunc 57 args).run Tryz.prog w=.ok (.enter 57 args) w:=qCw Tryz.func57 (by kernel_rfl) rfl;have hbl:=qV w (.cells #[.bool false] 4);have hkeep:∀w',QI p (w.alloc (.cells #[.bool false] 4)) w'→w'.heap[w.heap.size]? = some (.cells #[.bool false] 4 (0,0)):=fun w' hT=>
  (hT w.heap.size _ _ (by omega) hbl (by decide) (by decide) (by decide)).trans hbl
 cases hu:addT (bs,gl) l with
 |none=>
  rw [hu] at hU;refine (qCV 57 #[] #[.pointer (some ⟨p,0,none⟩),.pointer (some ⟨pl,0,none⟩)] w (fun w'=>Below B (w.alloc (.cells #[.bool false] 4)) w'∧QI p (w.alloc (.cells #[.bool false] 4)) w') hgo (hU.mono fun e w' hh=>⟨hh.1,hkeep w' hh.2.2,hh.2⟩)).mono ?_;rintro e w' ⟨rfl,w1,hp,hlt,rfl⟩;have hbx:=qC (Below.refl w1.heap.size w1) (.cells #[] 72);have hk:QI p w (w1.alloc (.cells #[] 72)):=((QI.below hb1).trans hp.2).trans (QI.below hbx);have hb:Below B w (w1.alloc (.cells #[] 72)):=((hb1.mono hBs).trans hp.1).trans (hbx.mono (by omega));exact ⟨rfl,hb.setCell (p:=⟨w.heap.size,0,none⟩) hBs _,hk.setB (N:=w.heap.size) (Nat.le_refl _) (by simp; omega) _ (Nat.le_refl _)⟩
 |some c=>
  rw [hu] at hU;refine (qCq 57 #[] #[.pointer (some ⟨p,0,none⟩),.pointer (some ⟨pl,0,none⟩)] w (fun w'=>GC w' B p c.1 c.2∧Below B (w.alloc (.cells #[.bool false] 4)) w'∧QI p (w.alloc (.cells #[.bool false] 4)) w') hgo (hU.mono fun e w' hh=>⟨hh.1,hkeep w' hh.2.2.2,hh.2⟩)).mono ?_;rintro e w' ⟨rfl,w1,⟨⟨vA1,vB1,hG1⟩,hp⟩,hlt,rfl⟩;have hk:QI p w w1:=(QI.below hb1).trans hp.2;have hb:Below B w w1:=(hb1.mono hBs).trans hp.1;exact ⟨rfl,⟨_,_,hG1.setB (hkeep w1 hp.2) _⟩,hb.setCell (p:=⟨w.heap.size,0,none⟩) hBs _,hk.setB (N:=w.heap.size) (Nat.le_refl _) (by omega) _ (Nat.le_refl _)⟩
def ReadPost(w:World):RdEnd→Ending→World→Prop
 | .ok c,e,w'=>∃v,e=.returned (.tuple #[v,.int .i64 0,.int .i64 0])∧qE2 w.heap.size w' c v∧TSt c∧allK c.1 c.2=true∧Below w.heap.size w w'
 | .err k r,e,w'=>e=.returned (.tuple #[.agg #[.slice none 0 0,.slice none 0 0],.int .i64 k,.int .i64 r])∧Below w.heap.size w w'
def qIx:Value→Nat
 | .string s=>s.size
 |_=>0
structure RL(w W:World)(p2 p5:Nat)(c:St):Prop where
 gc:GC W w.heap.size p5 c.1 c.2
 low:Below w.heap.size w W
 h2:W.heap[p2]? = some (.cells #[.slice none 0 0,.slice none 0 0] 27 (0,0))
 n2:w.heap.size≤p2
 ne:p2≠p5
theorem RL.below{w W W':World}{p2 p5:Nat}{c:St}(h:RL w W p2 p5 c)(hb:Below W.heap.size W W'):RL w W' p2 p5 c:=by
 obtain ⟨vA,vB,hG⟩:=h.gc;exact ⟨⟨vA,vB,hG.below hb⟩,qF h.low hb,qK h.h2 hb,h.n2,h.ne⟩
set_option maxRecDepth 100000 in
set_option maxHeartbeats 16000000 in
theorem qJw(w:World)(t:List UInt8)(hR:RW w)(ht:t.length≤900000):
 Calls Tryz.prog 28 #[.string ⟨t.toArray⟩] w (ReadPost w (qDJ t)):=by
 have hmf:∀(fn:Fn) (first cap:Array Value) (w:World),(Instr.makeFunc fn first cap).run Tryz.prog w=.ok (.func fn first cap) w:=fun _ _ _ _=>rfl
 have HR:=Lib.hid hR;have HF:Hid (qDJ t=qB2 1 ([],[]) (spl 10 t)):=Lib.hid (qIU t);have HT0:Hid (TSt (([],[]):St)∧LSt 0 (([],[]):St)):=Lib.hid ⟨⟨by simp,by simp⟩,by simp,by simp,by simp⟩;generalize qDJ t=F at *;clear hR;go_enter Tryz.func28,Tryz.ntmps28;go_wp2_with (first
  |((with_reducible refine qh (N:=2) rfl ?_); refine QJ ?hg (N:=2) ?hd (cs:=#[.slice none 0 0,.slice none 0 0]) (t:=27) ?hr ?_; (case hd=>rfl); (case hg=>rfl); (case hr=>first|(go_simp; done)|(go_simp; rfl)); intro p2 hp2 w1 hx2 hb1; have hp2':w.heap.size≤p2:=Nat.le_of_eq hp2.symm; clear hp2)
  |((with_reducible refine qh (N:=5) rfl ?_); refine QJ ?hg (N:=5) ?hd (cs:=#[.slice none 0 0,.slice none 0 0]) (t:=27) ?hr ?_; (case hd=>rfl); (case hg=>rfl); (case hr=>first|(go_simp; done)|(go_simp; rfl)); intro p5 hp5 w2 hx5 hb2; have hp5':w1.heap.size≤p5:=Nat.le_of_eq hp5.symm; clear hp5))
 have hRL:qB (RL w w2 p2 p5 ([],[])):=⟨⟨⟨_,_,hx5,by have:=hb1.size; omega,Kd.S_nil _ _ _ _ _,Kd.R_nil _ _ _ _ _⟩,qF hb1 hb2,qK hx2 hb2,hp2',by have:=qN hx2; omega⟩⟩;clear hx2 hx5 hb1 hb2 hp2' hp5'
 go_loopw [0,6] (fun tv av wr=>∃(tt:List UInt8) (k:Nat) (c:St),tv=.string ⟨tt.toArray⟩∧av=.int .i64 (k+1)∧k+tt.length≤900000∧Hid (F=qB2 (k+1) c (spl 10 tt))∧Hid (TSt c∧LSt k c)∧qB (RL w wr p2 p5 c)) (fun tv _ _=>qIx tv)
 case atStart=>exact ⟨t,0,([],[]),rfl,rfl,by omega,HF,HT0,hRL⟩
 case round=>
  clear hRL HT0 HF;obtain ⟨tt,k,c,rfl,rfl,hk,HF,HT,HL⟩:=hrel;cases hnil:(tt==[])
  ·have hne:tt≠[]:=fun e=>by rw [e] at hnil; simp at hnil
   have HC:=Lib.hid (qGS tt 10 wr (by omega) (HR.out.below HL.out.low));rcases qFo 10 tt with ⟨h10,hc⟩|⟨x,r,he,hx10,hc⟩
   ·have HE:Hid (F=.err (k+1) 4):=Lib.hid (HF.out.trans (qJt _ _ _ h10 hne));rw [hc] at HC;clear hc h10 hne HF HT;go_wp2_with fail;refine HC.out.mono ?_;rintro e w3 ⟨rfl,hb⟩;have hb2:=qF hb (qC (Below.refl _ _) (.cells #[.string ⟨tt.toArray⟩] 9));have HL2:=qB.mk (HL.out.below hb2);have e0:=qD HL2.out.h2 (i:=0) rfl;have e1:=qD HL2.out.h2 (i:=1) rfl;have z0:=qH HL2.out.h2 0;have z1:=qH HL2.out.h2 1;have HB5:qB (Below w.heap.size w (((w3.alloc (.cells #[.string ⟨tt.toArray⟩] 9)).setCell ⟨p2,0,none⟩ (.slice none 0 0)).setCell ⟨p2,1,none⟩ (.slice none 0 0))∧(((w3.alloc (.cells #[.string ⟨tt.toArray⟩] 9)).setCell ⟨p2,0,none⟩ (.slice none 0 0)).setCell ⟨p2,1,none⟩ (.slice none 0 0)).heap[p2]? = some (.cells #[.slice none 0 0,.slice none 0 0] 27 (0,0))):=
     ⟨⟨(HL2.out.low.setCell (p:=⟨p2,0,none⟩) HL2.out.n2 _).setCell (p:=⟨p2,1,none⟩) HL2.out.n2 _,qQ (qQ HL2.out.h2 0 _) 1 _⟩⟩
    clear hb hb2 HC HL HL2;go_wp2;generalize ((w3.alloc (.cells #[.string ⟨tt.toArray⟩] 9)).setCell ⟨p2,0,none⟩ (.slice none 0 0)).setCell ⟨p2,1,none⟩ (.slice none 0 0)=W5 at *;have x0:=qD HB5.out.2 (i:=0) rfl;have x1:=qD HB5.out.2 (i:=1) rfl;refine bodyPost_ret (v:=.tuple #[.agg #[.slice none 0 0,.slice none 0 0],.int .i64 (k+1),.int .i64 4]) (by simp [results,Tryz.results28,go_sem,x0,x1]) rfl ?_;rw [HE.out];exact ⟨rfl,HB5.out.1⟩
   ·have hxl:x.length≤900000∧r.length+1≤tt.length∧k+1+r.length≤900000:=by
     rw [he] at hk;simp only [List.length_append,List.length_cons] at hk;refine ⟨by omega,?_,by omega⟩;rw [he,List.length_append,List.length_cons]; omega
    obtain ⟨hxl1,hxl2,hxl3⟩:=hxl;have HF2:Hid (F=nextT (k+1) r (addT c x)):=Lib.hid (HF.out.trans (by rw [he]; exact qJv (k+1) c x r hx10));rw [hc] at HC;clear hc HF hx10 he hne;go_wp2_with fail;refine HC.out.mono ?_;rintro e w3 ⟨rfl,hb⟩;have hb2:=qF hb (qC (Below.refl _ _) (.cells #[.string ⟨x.toArray⟩] 9));have HL2:=qB.mk (HL.out.below hb2);have HX:=Lib.hid (qV w3 (.cells #[.string ⟨x.toArray⟩] 9));have hLS:=HT.out.2;have HG:=Lib.hid (qK6 (w3.alloc (.cells #[.string ⟨x.toArray⟩] 9)) w.heap.size p5 w3.heap.size c.1 c.2 x HX.out HL2.out.gc w HR.out HL2.out.low (Nat.le_refl _) (by omega) ⟨by have:=hLS.1; omega,fun b hb=>by have:=hLS.2.1 b hb; omega⟩ (by have:=hLS.2.2; omega));clear hb hb2 HC HL hLS;go_wp2_with fail;refine HG.out.mono ?_;cases ha:addT c x with
    |none=>
     have HE:Hid (F=.err (k+1) 4):=Lib.hid (by rw [HF2.out,ha]; rfl);rintro e w4 ⟨rfl,hb4,hk4⟩;have h24:=(hk4 p2 _ _ HL2.out.ne HL2.out.h2 (by decide) (by decide) (by decide)).trans HL2.out.h2;have e0:=qD h24 (i:=0) rfl;have e1:=qD h24 (i:=1) rfl;have z0:=qH h24 0;have z1:=qH h24 1;have HB5:qB (Below w.heap.size w ((w4.setCell ⟨p2,0,none⟩ (.slice none 0 0)).setCell ⟨p2,1,none⟩ (.slice none 0 0))∧((w4.setCell ⟨p2,0,none⟩ (.slice none 0 0)).setCell ⟨p2,1,none⟩ (.slice none 0 0)).heap[p2]? = some (.cells #[.slice none 0 0,.slice none 0 0] 27 (0,0))):=
      ⟨⟨((HL2.out.low.trans hb4).setCell (p:=⟨p2,0,none⟩) HL2.out.n2 _).setCell (p:=⟨p2,1,none⟩) HL2.out.n2 _,qQ (qQ h24 0 _) 1 _⟩⟩
     clear hb4 hk4 h24 HG HL2 HX HF2;go_wp2;generalize (w4.setCell ⟨p2,0,none⟩ (.slice none 0 0)).setCell ⟨p2,1,none⟩ (.slice none 0 0)=W5 at *;have x0:=qD HB5.out.2 (i:=0) rfl;have x1:=qD HB5.out.2 (i:=1) rfl;refine bodyPost_ret (v:=.tuple #[.agg #[.slice none 0 0,.slice none 0 0],.int .i64 (k+1),.int .i64 4]) (by simp [results,Tryz.results28,go_sem,x0,x1]) rfl ?_;rw [HE.out];exact ⟨rfl,HB5.out.1⟩
    |some c'=>
     have HE:Hid (F=qB2 (k+1+1) c' (spl 10 r)):=Lib.hid (by rw [HF2.out,ha]; rfl);have HT2:=Lib.hid (qJs ha HT.out.1 HT.out.2);rintro e w4 ⟨rfl,hG4,hb4,hk4⟩;have HL4:qB (RL w w4 p2 p5 c'):=⟨⟨hG4,HL2.out.low.trans hb4,(hk4 p2 _ _ HL2.out.ne HL2.out.h2 (by decide) (by decide) (by decide)).trans HL2.out.h2,HL2.out.n2,HL2.out.ne⟩⟩;clear hG4 hb4 hk4 HG HL2 HX HF2 ha HT;go_wp2;go_roundw
     case rel=>exact ⟨r,k+1,c',rfl,by go_num,by omega,HE,HT2,HL4⟩
     case measure=>simp [qIx,ByteArray.size]; omega
  ·have hne:tt=[]:=by simpa using hnil
   subst hne;have HF2:=Lib.hid (HF.out.trans (qK5 _ _));obtain ⟨vA,vB,hG⟩:=HL.out.gc;obtain ⟨A,ca,hla,hA⟩:∃A ca,c.1.length≤ca∧vA=.slice A c.1.length ca:=by
    obtain ⟨A,ca,h1,h2,_⟩:=Kd.S_reads hG.rA;exact ⟨A,ca,h2,h1⟩
   obtain ⟨A2,cb,hlb,hB⟩:∃A cb,c.2.length≤cb∧vB=.slice A c.2.length cb:=by
    obtain ⟨A,ca,h1,h2,_⟩:=Kd.R_reads hG.rB;exact ⟨A,ca,h2,h1⟩
   subst hA hB;have hSz:=qK4 HT.out.1;have hcm:CM wr A ca A2 cb c.1 c.2:=CM.ofR (Kd.S_R hG.rA) hG.rB;have HCK:=Lib.hid (qAP wr A ca A2 cb c.1 c.2 hcm (HR.out.lw.below HL.out.low) hSz.1);have d0:=qD hG.box (i:=0) rfl;have d1:=qD hG.box (i:=1) rfl;have HGL:=qB.mk hG;clear hG hcm HF hSz hla hlb;unfold qw at HCK;go_wp2_with fail;refine HCK.out.mono ?_;rintro e w4 ⟨rfl,hb⟩;have HL4:=qB.mk (HL.out.below hb);have HG4:=qB.mk (HGL.out.below hb);clear hb HCK HGL HL d0 d1;have e0:=qD HL4.out.h2 (i:=0) rfl;have e1:=qD HL4.out.h2 (i:=1) rfl;have z0:=qH HL4.out.h2 0;have z1:=qH HL4.out.h2 1;cases hall:allK c.1 c.2
   ·have HE:Hid (F=.err 0 41):=Lib.hid (by rw [HF2.out,hall]; rfl);have HB5:qB (Below w.heap.size w ((w4.setCell ⟨p2,0,none⟩ (.slice none 0 0)).setCell ⟨p2,1,none⟩ (.slice none 0 0))∧((w4.setCell ⟨p2,0,none⟩ (.slice none 0 0)).setCell ⟨p2,1,none⟩ (.slice none 0 0)).heap[p2]? = some (.cells #[.slice none 0 0,.slice none 0 0] 27 (0,0))):=
     ⟨⟨(HL4.out.low.setCell (p:=⟨p2,0,none⟩) HL4.out.n2 _).setCell (p:=⟨p2,1,none⟩) HL4.out.n2 _,qQ (qQ HL4.out.h2 0 _) 1 _⟩⟩
    clear HL4 HG4 HF2;simp only [qBG];go_wp2;generalize (w4.setCell ⟨p2,0,none⟩ (.slice none 0 0)).setCell ⟨p2,1,none⟩ (.slice none 0 0)=W5 at *;have x0:=qD HB5.out.2 (i:=0) rfl;have x1:=qD HB5.out.2 (i:=1) rfl;refine bodyPost_ret (v:=.tuple #[.agg #[.slice none 0 0,.slice none 0 0],.int .i64 0,.int .i64 41]) (by simp [results,Tryz.results28,go_sem,x0,x1]) rfl ?_;rw [HE.out];exact ⟨rfl,HB5.out.1⟩
   ·have HE:Hid (F=.ok c):=Lib.hid (by rw [HF2.out,hall]; rfl);have HALL:=Lib.hid hall;have y0:=qD HG4.out.box (i:=0) rfl;have y1:=qD HG4.out.box (i:=1) rfl;have hS5:=Kd.R_set (Kd.R_set (Kd.S_R HG4.out.rA) HL4.out.h2 (by decide) 0 (.slice A c.1.length ca)) (qQ HL4.out.h2 0 (.slice A c.1.length ca)) (by decide) 1 (.slice A2 c.2.length cb);have hR5:=Kd.R_set (Kd.R_set HG4.out.rB HL4.out.h2 (by decide) 0 (.slice A c.1.length ca)) (qQ HL4.out.h2 0 (.slice A c.1.length ca)) (by decide) 1 (.slice A2 c.2.length cb);have HB5:qB (Below w.heap.size w ((w4.setCell ⟨p2,0,none⟩ (.slice A c.1.length ca)).setCell ⟨p2,1,none⟩ (.slice A2 c.2.length cb))∧((w4.setCell ⟨p2,0,none⟩ (.slice A c.1.length ca)).setCell ⟨p2,1,none⟩ (.slice A2 c.2.length cb)).heap[p2]? = some (.cells #[.slice A c.1.length ca,.slice A2 c.2.length cb] 27 (0,0))∧kBk.R 55 ((w4.setCell ⟨p2,0,none⟩ (.slice A c.1.length ca)).setCell ⟨p2,1,none⟩ (.slice A2 c.2.length cb)) w.heap.size (fun _=>True) (.slice A c.1.length ca) c.1∧kGl.R 63 ((w4.setCell ⟨p2,0,none⟩ (.slice A c.1.length ca)).setCell ⟨p2,1,none⟩ (.slice A2 c.2.length cb)) w.heap.size (fun _=>True) (.slice A2 c.2.length cb) c.2):=
     ⟨⟨(HL4.out.low.setCell (p:=⟨p2,0,none⟩) HL4.out.n2 _).setCell (p:=⟨p2,1,none⟩) HL4.out.n2 _,qQ (qQ HL4.out.h2 0 _) 1 _,hS5,hR5⟩⟩
    clear HL4 HG4 HF2 hS5 hR5 hall;simp only [qBG];go_wp2;generalize (w4.setCell ⟨p2,0,none⟩ (.slice A c.1.length ca)).setCell ⟨p2,1,none⟩ (.slice A2 c.2.length cb)=W5 at *;have x0:=qD HB5.out.2.1 (i:=0) rfl;have x1:=qD HB5.out.2.1 (i:=1) rfl;refine bodyPost_ret (v:=.tuple #[.agg #[.slice A c.1.length ca,.slice A2 c.2.length cb],.int .i64 0,.int .i64 0]) (by simp [results,Tryz.results28,go_sem,x0,x1]) rfl ?_;rw [HE.out];exact ⟨_,rfl,⟨_,_,rfl,HB5.out.2.2.1,HB5.out.2.2.2⟩,HT.out.1,HALL.out,HB5.out.1⟩
end Go.Proofs.YtoonkkipnljflaaGreatDoor.CJ
