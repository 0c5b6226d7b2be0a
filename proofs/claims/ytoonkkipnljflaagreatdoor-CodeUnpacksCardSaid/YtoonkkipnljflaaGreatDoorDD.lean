/- guard on a method value. Conditions: the method returns, or a check of it fails. The Go function code.Check answers as the plain function allK. Conditions: the code lies in memory; strings are not too long; the listed variables are laid. -/
import Derived.Test.YtoonkkipnljflaaGreatDoorCC
import Derived.Test.YtoonkkipnljflaaGreatDoorD1
namespace Go.Proofs.YtoonkkipnljflaaGreatDoor.CJ
open Go.RowKit Go.Proofs.YtoonkkipnljflaaGreatDoorW.PrintWords Go.Proofs.YtoonkkipnljflaaGreatDoor.PT
set_option linter.unusedVariables false
theorem qCq(g:FuncId)(first caps:Array Value)(w:World)(P:World→Prop)(hg:∀args w,(callFunc g args).run Tryz.prog w=.ok (.enter g args) w)
 (hf:Calls Tryz.prog g (first++caps) (w.alloc (.cells #[.bool false] 4)) fun e w'=>e=.returned (.tuple #[])∧w'.heap[w.heap.size]? = some (.cells #[.bool false] 4 (0,0))∧P w'):
 Calls Tryz.prog 12 #[.func (.func g) first caps] w fun e w'=>e=.returned (.bool true)∧∃w1,P w1∧w.heap.size<w1.heap.size∧w1.setCell ⟨w.heap.size,0,none⟩ (.bool true)=w':=by
 have hmf:∀(fn:Fn) (first cap:Array Value) (w:World),(Instr.makeFunc fn first cap).run Tryz.prog w=.ok (.func fn first cap) w:=fun _ _ _ _=>rfl
 have hbox:=(MapKept.heap_alloc w (.cells #[.bool false] 4)).1
 go_enter_defers Tryz.func12,Tryz.ntmps12
 go_wp2_with fail;refine hf.mono ?_;rintro e w1 ⟨rfl,hblk,hp⟩;have hb:=(Array.getElem?_eq_some_iff.1 hblk).1;have hc:w1.cell? ⟨w.heap.size,0,none⟩=some (.bool false):=by simp [World.cell?,hblk]
 have hz:w1.frozen? ⟨w.heap.size,0,none⟩=false:=by simp [World.frozen?,hblk]
 go_wp2;refine leaves_cons (f:=31) (args:=#[.pointer (some ⟨w.heap.size,0,none⟩)]) (by simp) (by simp [go_sem]) ?_;refine (qI4 _ _).mono ?_;rintro e u' w'' ⟨rfl,rfl,rfl⟩;simp [Leaves,settle,results,Tryz.results12,go_sem];have hsame:(w1.setCell ⟨w.heap.size,0,none⟩ (.bool true)).cell? ⟨w.heap.size,0,none⟩=some (.bool true):=by
  simp [World.cell?,World.setCell,Array.getElem?_modify,hblk]
 rw [hsame];exact ⟨_,rfl,rfl,w1,hp,hb,rfl⟩
theorem qCV(g:FuncId)(first caps:Array Value)(w:World)(P:World→Prop)(hg:∀args w,(callFunc g args).run Tryz.prog w=.ok (.enter g args) w)
 (hf:Calls Tryz.prog g (first++caps) (w.alloc (.cells #[.bool false] 4)) fun e w'=>e=.panicked [{ v:=.iface 72 (.agg #[]),recovered:=false }]∧w'.heap[w.heap.size]? = some (.cells #[.bool false] 4 (0,0))∧P w'):
 Calls Tryz.prog 12 #[.func (.func g) first caps] w fun e w'=>e=.returned (.bool false)∧∃w1,P w1∧w.heap.size<w1.heap.size∧(w1.alloc (.cells #[] 72)).setCell ⟨w.heap.size,0,none⟩ (.bool false)=w':=by
 have hmf:∀(fn:Fn) (first cap:Array Value) (w:World),(Instr.makeFunc fn first cap).run Tryz.prog w=.ok (.func fn first cap) w:=fun _ _ _ _=>rfl
 have hbox:=(MapKept.heap_alloc w (.cells #[.bool false] 4)).1
 go_enter_defers Tryz.func12,Tryz.ntmps12
 go_wp2_with fail;refine hf.mono ?_;rintro e w1 ⟨rfl,hblk,hp⟩;have hb:=(Array.getElem?_eq_some_iff.1 hblk).1;have hc:w1.cell? ⟨w.heap.size,0,none⟩=some (.bool false):=by simp [World.cell?,hblk]
 have hz:w1.frozen? ⟨w.heap.size,0,none⟩=false:=by simp [World.frozen?,hblk]
 refine leaves_cons (f:=31) (args:=#[.pointer (some ⟨w.heap.size,0,none⟩)]) (by simp) (by simp [go_sem]) ?_;refine (qGa _ _ _ _ hc hz).mono ?_;rintro e u' w'' ⟨rfl,rfl,rfl⟩;simp [Leaves,settle,results,Tryz.results12,go_sem];have hblk2:(w1.alloc (.cells #[] 72)).heap[w.heap.size]? = some (.cells #[.bool false] 4):=((qC (Below.refl w1.heap.size w1) _).block w.heap.size (Array.getElem?_eq_some_iff.1 hblk).1).trans hblk;have hsame:((w1.alloc (.cells #[] 72)).setCell ⟨w.heap.size,0,none⟩ (.bool false)).cell? ⟨w.heap.size,0,none⟩=some (.bool false):=by
  simp [World.cell?,World.setCell,Array.getElem?_modify,hblk2]
 rw [hsame];exact ⟨_,rfl,rfl,w1,hp,hb,rfl⟩
end Go.Proofs.YtoonkkipnljflaaGreatDoor.CJ
namespace Go.Proofs.YtoonkkipnljflaaGreatDoor.CJ
open Go.RowKit Go.Proofs.YtoonkkipnljflaaGreatDoorW.PrintWords Go.Proofs.YtoonkkipnljflaaGreatDoorW.PrintLast Go.Proofs.YtoonkkipnljflaaGreatDoor.PT Go.Proofs.YtoonkkipnljflaaGreatDoor.IMaps
set_option linter.unusedVariables false
set_option linter.unusedSimpArgs false
def qw(A:Option Addr)(n ca:Nat)(A2:Option Addr)(k cb:Nat):Value:=.agg #[.slice A n ca,.slice A2 k cb]
def qBG(ok:Bool):Int:=if ok then 0 else 41
theorem SN.made(w:World):SN (w.alloc (.map #[] 0)) w.heap.size []:=⟨[],IM.made w,fun _=>rfl⟩
def chkW(w:World)(A:Option Addr)(n ca:Nat)(A2:Option Addr)(k cb:Nat):World:=
 ((w.alloc (.cells #[.slice A n ca,.slice A2 k cb] 27)).alloc (.map #[] 0)).alloc (.cells #[.slice A n ca,.slice A2 k cb,.map (some (w.heap.size+1))] 77)
theorem qKQ(w:World)(A:Option Addr)(n ca:Nat)(A2:Option Addr)(k cb:Nat):(chkW w A n ca A2 k cb).heap.size=w.heap.size+3:=by simp [chkW]
theorem qJB(w:World)(A:Option Addr)(n ca:Nat)(A2:Option Addr)(k cb:Nat):Below w.heap.size w (chkW w A n ca A2 k cb):=qC (qC (qC (Below.refl _ _) _) _) _
theorem chkW_box(w:World)(A:Option Addr)(n ca:Nat)(A2:Option Addr)(k cb:Nat):(chkW w A n ca A2 k cb).heap[w.heap.size+2]? = some (.cells #[.slice A n ca,.slice A2 k cb,.map (some (w.heap.size+1))] 77 (0,0)):=by
 have:=(MapKept.heap_alloc ((w.alloc (.cells #[.slice A n ca,.slice A2 k cb] 27)).alloc (.map #[] 0)) (.cells #[.slice A n ca,.slice A2 k cb,.map (some (w.heap.size+1))] 77)).1;simp only [World.size_alloc] at this;exact this
theorem chkW_sn(w:World)(A:Option Addr)(n ca:Nat)(A2:Option Addr)(k cb:Nat):SN (chkW w A n ca A2 k cb) (w.heap.size+1) []:=by
 have:=SN.made (w.alloc (.cells #[.slice A n ca,.slice A2 k cb] 27));simp only [World.size_alloc] at this;exact this.below (qC (Below.refl _ _) _)
theorem guardAll(w:World)(A:Option Addr)(ca:Nat)(A2:Option Addr)(cb:Nat)(bs:List GBk)(gl:List GGl)(hc:CM w A ca A2 cb bs gl)(hL:LW w)(hs:qAq bs gl):
 Calls Tryz.prog 12 #[.func (.func 36) #[.pointer (some ⟨w.heap.size+2,0,none⟩)] #[]] (chkW w A bs.length ca A2 gl.length cb) fun e w'=>e=.returned (.bool (allK bs gl))∧Below w.heap.size w w':=by
 have hsz:=qKQ w A bs.length ca A2 gl.length cb;have hbel:=qJB w A bs.length ca A2 gl.length cb;have hbox:=chkW_box w A bs.length ca A2 gl.length cb;have hsn:=chkW_sn w A bs.length ca A2 gl.length cb;generalize chkW w A bs.length ca A2 gl.length cb=W at *;have hb1:=qC (Below.refl W.heap.size W) (.cells #[.bool false] 4);have hall:=qKP w (W.alloc (.cells #[.bool false] 4)) (w.heap.size+2) (w.heap.size+1) A ca A2 cb bs gl
  ⟨(hb1.block _ (by omega)).trans hbox,qF hbel hb1,hc,hsn.below hb1,by omega,by omega,QN.refl _ _⟩ hL hs
 have hgo:∀args w,(callFunc 36 args).run Tryz.prog w=.ok (.enter 36 args) w:=qCw Tryz.func36 (by kernel_rfl) rfl;have hkeep:∀w',LK w (W.alloc (.cells #[.bool false] 4)) (w.heap.size+1) w'→w'.heap[W.heap.size]? = some (.cells #[.bool false] 4 (0,0))∧Below w.heap.size w w':=fun w' h=>
  ⟨(h.2.rest W.heap.size (by omega) (by simp)).trans (MapKept.heap_alloc W _).1,h.1⟩
 cases hk:allK bs gl
 ·rw [hk] at hall;refine (qCV 36 #[.pointer (some ⟨w.heap.size+2,0,none⟩)] #[] W (fun w'=>Below w.heap.size w w') hgo (hall.mono fun e w' h=>⟨h.1,hkeep w' h.2⟩)).mono ?_;rintro e w' ⟨rfl,w1,hp,hlt,rfl⟩;exact ⟨rfl,(hp.alloc hp.size _).setCell (by show w.heap.size≤W.heap.size; omega) _⟩
 ·rw [hk] at hall;refine (qCq 36 #[.pointer (some ⟨w.heap.size+2,0,none⟩)] #[] W (fun w'=>Below w.heap.size w w') hgo (hall.mono fun e w' h=>⟨h.1,hkeep w' h.2⟩)).mono ?_;rintro e w' ⟨rfl,w1,hp,hlt,rfl⟩;exact ⟨rfl,hp.setCell (by show w.heap.size≤W.heap.size; omega) _⟩
set_option maxRecDepth 100000 in
set_option maxHeartbeats 2000000 in
theorem qAP(w:World)(A:Option Addr)(ca:Nat)(A2:Option Addr)(cb:Nat)(bs:List GBk)(gl:List GGl)(hc:CM w A ca A2 cb bs gl)(hL:LW w)(hs:qAq bs gl):
 Calls Tryz.prog 17 #[qw A bs.length ca A2 gl.length cb] w fun e w'=>e=.returned (.int .i64 (qBG (allK bs gl)))∧Below w.heap.size w w':=by
 have hmm:=@run_makeMap Tryz.prog;have hmf:∀(fn:Fn) (first cap:Array Value) (w:World),(Instr.makeFunc fn first cap).run Tryz.prog w=.ok (.func fn first cap) w:=fun _ _ _ _=>rfl
 have HG:=Lib.hid (guardAll w A ca A2 cb bs gl hc hL hs);clear hc hL hs;unfold qw;generalize allK bs gl=res at *;go_enter Tryz.func17,Tryz.ntmps17;go_wp2_with fail;refine HG.out.mono ?_;rintro e w1 ⟨rfl,hb⟩;have HB:=qB.mk hb;clear hb;cases res
 ·go_wp2;go_ret;exact ⟨rfl,HB.out⟩
 ·go_wp2;go_ret;exact ⟨rfl,HB.out⟩
end Go.Proofs.YtoonkkipnljflaaGreatDoor.CJ
