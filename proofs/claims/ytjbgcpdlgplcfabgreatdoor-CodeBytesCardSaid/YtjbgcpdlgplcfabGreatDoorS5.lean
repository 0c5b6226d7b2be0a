/- The few simple results that the laws on codes look at: the Go function awake answers true. Conditions: the listed variables are laid. -/
import Derived.Test.YtjbgcpdlgplcfabGreatDoorRG
import Derived.Test.YtjbgcpdlgplcfabGreatDoorS4
import Derived.Test.YtjbgcpdlgplcfabGreatDoorNB
import Derived.Test.YtjbgcpdlgplcfabGreatDoorW3
import Derived.Test.YtjbgcpdlgplcfabGreatDoorZZ
import Derived.Test.YtjbgcpdlgplcfabGreatDoorK8
namespace Go.Proofs.YtjbgcpdlgplcfabGreatDoor.CJ
open Go.RowKit Go.Proofs.YtjbgcpdlgplcfabGreatDoorW.PrintWords Go.Proofs.YtjbgcpdlgplcfabGreatDoorW.PrintLast Go.Proofs.YtjbgcpdlgplcfabGreatDoorW.PrintMore Go.Proofs.YtjbgcpdlgplcfabGreatDoor.PT Go.Proofs.YtjbgcpdlgplcfabGreatDoor.IMaps Go.Proofs.YtjbgcpdlgplcfabGreatDoor.TJ
set_option linter.unusedVariables false
set_option linter.unusedSimpArgs false
def damasklaw21_five.f  : Option ((List (S50))×(List (S53))):=some ((([(⟨0,0,(([(⟨1,0,0,1,(⟨#[]⟩:ByteArray),([]:List Int),([]:List (S65))⟩:S61),(⟨5,0,0,5,(⟨#[]⟩:ByteArray),([]:List Int),([]:List (S65))⟩:S61),(⟨10,0,0,0,(⟨#[]⟩:ByteArray),([]:List Int),([]:List (S65))⟩:S61)]:List (S61)))⟩:S50)]:List (S50))),(([(⟨(⟨#[102,105,118,101]⟩:ByteArray),0⟩:S53)]:List (S53))))
set_option maxHeartbeats 8000000 in
set_option maxRecDepth 100000 in
theorem damasklaw21_five.calls  (r1:List (S50)) (r2:List (S53)) (w:World) (h:damasklaw21_five.f  = some (r1,r2)):
 Calls Tryz.prog 13 #[] w fun e w'=>∃v0_ v1_:Value,e=.returned (.agg #[v0_,v1_])∧Kd.N k50 50 w' w.heap.size (fun k_=>(w.heap.size≤k_)∧some k_≠(v1_:Value).ownBlock) v0_ r1∧Kd.R k53 53 w' w.heap.size (fun k_=>(w.heap.size≤k_)) v1_ r2∧Below w.heap.size w w':=by
 have hu25:=Tryz.underlying25;have hu75:=Tryz.underlying61;have hu71:=Tryz.underlying50;have hu52:=Tryz.underlying53;have HB:=Aside0.mk (Below.refl w.heap.size w);have H:(some ((([(⟨0,0,(([(⟨1,0,0,1,(⟨#[]⟩:ByteArray),([]:List Int),([]:List (S65))⟩:S61),(⟨5,0,0,5,(⟨#[]⟩:ByteArray),([]:List Int),([]:List (S65))⟩:S61),(⟨10,0,0,0,(⟨#[]⟩:ByteArray),([]:List Int),([]:List (S65))⟩:S61)]:List (S61)))⟩:S50)]:List (S50))),(([(⟨(⟨#[102,105,118,101]⟩:ByteArray),0⟩:S53)]:List (S53)))))=some (r1,r2):=h;clear h;obtain ⟨y126,hy126⟩:∃y_:List (S61),y_=(([(⟨1,0,0,1,(⟨#[]⟩:ByteArray),([]:List Int),([]:List (S65))⟩:S61),(⟨5,0,0,5,(⟨#[]⟩:ByteArray),([]:List Int),([]:List (S65))⟩:S61),(⟨10,0,0,0,(⟨#[]⟩:ByteArray),([]:List Int),([]:List (S65))⟩:S61)]:List (S61))):=⟨_,rfl⟩;replace H:(some ((([(⟨0,0,y126⟩:S50)]:List (S50))),(([(⟨(⟨#[102,105,118,101]⟩:ByteArray),0⟩:S53)]:List (S53)))))=some (r1,r2):=by first|(rw [hy126]; with_reducible exact H)|(have H2_:=(Option.bind_some _ _).symm.trans H; rw [hy126]; with_reducible exact H2_)|(have H2_:=(Option.bind_some _ _).symm.trans H; with_reducible exact H2_)|with_reducible exact H|(rw [hy126]; exact H)|exact H
 have Ny126:=Aside0.mk hy126;clear hy126;obtain ⟨y129,hy129⟩:∃y_:List (S50),y_=(([(⟨0,0,y126⟩:S50)]:List (S50))):=⟨_,rfl⟩;replace H:(some (y129,(([(⟨(⟨#[102,105,118,101]⟩:ByteArray),0⟩:S53)]:List (S53)))))=some (r1,r2):=by first|(rw [hy129]; with_reducible exact H)|(have H2_:=(Option.bind_some _ _).symm.trans H; rw [hy129]; with_reducible exact H2_)|(have H2_:=(Option.bind_some _ _).symm.trans H; with_reducible exact H2_)|with_reducible exact H|(rw [hy129]; exact H)|exact H
 have Ny129:=Aside0.mk hy129;clear hy129;obtain ⟨y132,hy132⟩:∃y_:List (S53),y_=(([(⟨(⟨#[102,105,118,101]⟩:ByteArray),0⟩:S53)]:List (S53))):=⟨_,rfl⟩;replace H:(some (y129,y132))=some (r1,r2):=by first|(rw [hy132]; with_reducible exact H)|(have H2_:=(Option.bind_some _ _).symm.trans H; rw [hy132]; with_reducible exact H2_)|(have H2_:=(Option.bind_some _ _).symm.trans H; with_reducible exact H2_)|with_reducible exact H|(rw [hy132]; exact H)|exact H
 have Ny132:=Aside0.mk hy132;clear hy132;simp only [Option.some.injEq,Prod.mk.injEq] at H;obtain ⟨rfl,rfl⟩:=H;go_enter Tryz.func13,Tryz.ntmps13
 go_wp2_with (first|((with_reducible refine gate_dst (N:=0) rfl ?_); refine box_event ?hg (N:=0) ?hd (cs:=#[.slice none 0 0,.slice none 0 0]) (t:=25) ?hr ?_; (case hd=>rfl); (case hg=>rfl); (case hr=>first|(go_simp; done)|(go_simp; rfl)); intro gb125 hg w1 hbox hb; have n0_:=Aside0.mk (below_step (by repeat (first|(with_reducible first|exact HB.out|apply below_alloc|apply pw_below_drewN|apply below_drew1)|exact HB.out)) hb); have n1_:=Aside0.mk (hbox); have n2_:=Aside0.mk ((by rw [hg]; exact (below_size (by repeat (first|(with_reducible first|exact HB.out|apply below_alloc|apply pw_below_drewN|apply below_drew1)|exact HB.out))):w.heap.size≤gb125)); have n3_:=Aside0.mk ((by rw [hg]; exact (below_size (by repeat (first|(with_reducible first|exact HB.out|apply below_alloc|apply pw_below_drewN|apply below_drew1)|exact HB.out))):w.heap.size≤gb125)); clear HB; have HB:=n0_; have BK125:=n1_; have GW125:=n2_; have GE125:=n3_; clear n0_ n1_ n2_ n3_; clear hb hbox hg)|((with_reducible refine gate_dst (N:=5) rfl ?_); refine Kd.N_lit k61 _ 61 ?hg (N':=5) ?hd (xs:=([(⟨1,0,0,1,(⟨#[]⟩:ByteArray),([]:List Int),([]:List (S65))⟩:S61),(⟨5,0,0,5,(⟨#[]⟩:ByteArray),([]:List Int),([]:List (S65))⟩:S61),(⟨10,0,0,0,(⟨#[]⟩:ByteArray),([]:List Int),([]:List (S65))⟩:S61)]:List (S61))) (inner:=[.int .i64 1,.int .i64 0,.int .i64 0,.int .i64 1,.string (⟨#[]⟩:ByteArray),.slice none 0 0,.slice none 0 0,.int .i64 5,.int .i64 0,.int .i64 0,.int .i64 5,.string (⟨#[]⟩:ByteArray),.slice none 0 0,.slice none 0 0,.int .i64 10,.int .i64 0,.int .i64 0,.int .i64 0,.string (⟨#[]⟩:ByteArray),.slice none 0 0,.slice none 0 0]) (ok:=(fun k_=>(w.heap.size≤k_)∧k_≠gb125)) (okp:=(fun k_=>(w.heap.size≤k_)∧k_≠gb125)) ?hr ?hp (fun _ hk=>hk) ((show ∀k_,w1.heap.size≤k_→(fun k_=>(w.heap.size≤k_)∧k_≠gb125) k_ from fun k_ hk=>⟨(Nat.le_trans (below_size (by repeat (first|(with_reducible first|exact HB.out|apply below_alloc|apply pw_below_drewN|apply below_drew1|refine below_set ?_ GE125.out)|exact HB.out))) hk),Kd.freshB (g:=gb125) (o:=.cells #[.slice none 0 0,.slice none 0 0] 25 (0,0)) (by (with_reducible repeat (first|refine blk_drewN ?_ _|refine blk_drew ?_|refine blk_alloc ?_ _)); exact BK125.out) k_ hk⟩) _ (Nat.le_refl _)) (Below.refl _ _) (Nat.le_refl _) (by simp) ?_; (case hd=>rfl); (case hg=>rfl); (case hr=>first|(go_simp; done)|(go_simp; rfl)); (case hp=>exact (Reps.c7 (show Kd.FK k61 _ _ (⟨1,0,0,1,(⟨#[]⟩:ByteArray),([]:List Int),([]:List (S65))⟩:S61) [.int .i64 1,.int .i64 0,.int .i64 0,.int .i64 1,.string (⟨#[]⟩:ByteArray),.slice none 0 0,.slice none 0 0] from (k61_mkF _ _ (⟨1,0,0,1,(⟨#[]⟩:ByteArray),([]:List Int),([]:List (S65))⟩:S61) (Nat.le_refl _) (Kd.F_nil _ _ _) (Nat.le_refl _) (Kd.F_nil _ _ _))) (Reps.c7 (show Kd.FK k61 _ _ (⟨5,0,0,5,(⟨#[]⟩:ByteArray),([]:List Int),([]:List (S65))⟩:S61) [.int .i64 5,.int .i64 0,.int .i64 0,.int .i64 5,.string (⟨#[]⟩:ByteArray),.slice none 0 0,.slice none 0 0] from (k61_mkF _ _ (⟨5,0,0,5,(⟨#[]⟩:ByteArray),([]:List Int),([]:List (S65))⟩:S61) (Nat.le_refl _) (Kd.F_nil _ _ _) (Nat.le_refl _) (Kd.F_nil _ _ _))) (Reps.c7 (show Kd.FK k61 _ _ (⟨10,0,0,0,(⟨#[]⟩:ByteArray),([]:List Int),([]:List (S65))⟩:S61) [.int .i64 10,.int .i64 0,.int .i64 0,.int .i64 0,.string (⟨#[]⟩:ByteArray),.slice none 0 0,.slice none 0 0] from (k61_mkF _ _ (⟨10,0,0,0,(⟨#[]⟩:ByteArray),([]:List Int),([]:List (S65))⟩:S61) (Nat.le_refl _) (Kd.F_nil _ _ _) (Nat.le_refl _) (Kd.F_nil _ _ _))) (Reps.none _ _))))); intro v127 w2 ho3 hb hg_ hnew_; clear hg_ hnew_; (first|rw [←Ny126.out] at ho3|(simp only [Int.reduceToNat] at ho3; rw [←Ny126.out] at ho3)); have n0_:=Aside0.mk (Kd.N_lower ho3 (below_size (by repeat (first|(with_reducible first|exact HB.out|apply below_alloc|apply pw_below_drewN|apply below_drew1|refine below_set ?_ GE125.out)|exact HB.out)))); have n1_:=Aside0.mk (blk_below (g:=gb125) (o:=.cells #[.slice none 0 0,.slice none 0 0] 25 (0,0)) (by (with_reducible repeat (first|refine blk_drewN ?_ _|refine blk_drew ?_|refine blk_alloc ?_ _)); exact BK125.out) hb); have n2_:=Aside0.mk (below_step (by repeat (first|(with_reducible first|exact HB.out|apply below_alloc|apply pw_below_drewN|apply below_drew1|refine below_set ?_ GE125.out)|exact HB.out)) hb); clear BK125; clear HB; have HO128:=n0_; have BK125:=n1_; have HB:=n2_; clear n0_ n1_ n2_; clear hb ho3; obtain ⟨Ao4,co4,eo4⟩:=Kd.N_slice HO128.out; subst eo4)|((with_reducible refine gate_dst (N:=8) rfl ?_); refine Kd.N_lit k50 _ 50 ?hg (N':=8) ?hd (xs:=([(⟨0,0,y126⟩:S50)]:List (S50))) (inner:=[.int .i64 0,.int .i64 0,.slice Ao4 y126.length co4]) (ok:=(fun k_=>(w.heap.size≤k_)∧k_≠gb125)) (okp:=(fun k_=>(w.heap.size≤k_)∧k_≠gb125)) ?hr ?hp (fun _ hk=>hk) ((show ∀k_,w2.heap.size≤k_→(fun k_=>(w.heap.size≤k_)∧k_≠gb125) k_ from fun k_ hk=>⟨(Nat.le_trans (below_size (by repeat (first|(with_reducible first|exact HB.out|apply below_alloc|apply pw_below_drewN|apply below_drew1|refine below_set ?_ GE125.out)|exact HB.out))) hk),Kd.freshB (g:=gb125) (o:=.cells #[.slice none 0 0,.slice none 0 0] 25 (0,0)) (by (with_reducible repeat (first|refine blk_drewN ?_ _|refine blk_drew ?_|refine blk_alloc ?_ _)); exact BK125.out) k_ hk⟩) _ (Nat.le_refl _)) (Below.refl _ _) (Nat.le_refl _) (by simp) ?_; (case hd=>rfl); (case hg=>rfl); (case hr=>first|(go_simp; done)|(go_simp; rfl)); (case hp=>exact (Reps.c3 (show Kd.FK k50 _ _ (⟨0,0,y126⟩:S50) [.int .i64 0,.int .i64 0,.slice Ao4 y126.length co4] from (k50_mkF _ _ (⟨0,0,y126⟩:S50) (Kd.N_reads' (Kd.N_mono (ok':=(fun k_=>(w.heap.size≤k_)∧k_≠gb125)) (HO128.out) (fun k_ hk=>⟨hk.1,hk.2⟩))).2.1 (Kd.N_F (Kd.N_mono (ok':=(fun k_=>(w.heap.size≤k_)∧k_≠gb125)) (HO128.out) (fun k_ hk=>⟨hk.1,hk.2⟩))))) (Reps.none _ _))); intro v130 w5 ho6 hb hg_ hnew_; clear hg_ hnew_; (first|rw [←Ny129.out] at ho6|(simp only [Int.reduceToNat] at ho6; rw [←Ny129.out] at ho6)); have n0_:=Aside0.mk (Kd.N_lower ho6 (below_size (by repeat (first|(with_reducible first|exact HB.out|apply below_alloc|apply pw_below_drewN|apply below_drew1|refine below_set ?_ GE125.out)|exact HB.out)))); have n1_:=Aside0.mk (blk_below (g:=gb125) (o:=.cells #[.slice none 0 0,.slice none 0 0] 25 (0,0)) (by (with_reducible repeat (first|refine blk_drewN ?_ _|refine blk_drew ?_|refine blk_alloc ?_ _)); exact BK125.out) hb); have n2_:=Aside0.mk (below_step (by repeat (first|(with_reducible first|exact HB.out|apply below_alloc|apply pw_below_drewN|apply below_drew1|refine below_set ?_ GE125.out)|exact HB.out)) hb); clear BK125; clear HB; clear HO128; have HO131:=n0_; have BK125:=n1_; have HB:=n2_; clear n0_ n1_ n2_; clear hb ho6)|((with_reducible refine gate_dst (N:=10) rfl ?_); refine Kd.R_lit k53 _ 53 ?hg (N:=10) ?hd (xs:=([(⟨(⟨#[102,105,118,101]⟩:ByteArray),0⟩:S53)]:List (S53))) (inner:=[.string (⟨#[102,105,118,101]⟩:ByteArray),.int .i64 0]) (ok:=fun _=>True) (okp:=fun _=>True) ?hr ?hp (fun _ hk=>hk) trivial (Below.refl _ _) (Nat.le_refl _) (by simp) ?_; (case hd=>rfl); (case hg=>rfl); (case hr=>first|(go_simp; done)|(go_simp; rfl)); (case hp=>exact (Reps.c2 (show Kd.M k53 _ _ _ (⟨(⟨#[102,105,118,101]⟩:ByteArray),0⟩:S53) [.string (⟨#[102,105,118,101]⟩:ByteArray),.int .i64 0] from (k53_mkM _ _ _ (⟨(⟨#[102,105,118,101]⟩:ByteArray),0⟩:S53) )) (Reps.none _ _))); intro v133 w7 ho8 hb hg_ hnew_; clear hg_ hnew_; (first|rw [←Ny132.out] at ho8|(simp only [Int.reduceToNat] at ho8; rw [←Ny132.out] at ho8)); have n0_:=Aside0.mk (Kd.N_elder' (by (with_reducible repeat (first|apply Kd.N_alloc|apply Kd.N_drewN|apply Kd.N_drew)); exact HO131.out) (Kd.R_base ho8) hb); have n1_:=Aside0.mk (Kd.R_lower (Kd.R_newM (M:=fun k_=>(w.heap.size≤k_)) ho8 (below_size (by repeat (first|(with_reducible first|exact HB.out|apply below_alloc|apply pw_below_drewN|apply below_drew1|refine below_set ?_ GE125.out)|exact HB.out))) (fun k_ h_=>h_)) (below_size (by repeat (first|(with_reducible first|exact HB.out|apply below_alloc|apply pw_below_drewN|apply below_drew1|refine below_set ?_ GE125.out)|exact HB.out)))); have n2_:=Aside0.mk (blk_below (g:=gb125) (o:=.cells #[.slice none 0 0,.slice none 0 0] 25 (0,0)) (by (with_reducible repeat (first|refine blk_drewN ?_ _|refine blk_drew ?_|refine blk_alloc ?_ _)); exact BK125.out) hb); have n3_:=Aside0.mk (below_step (by repeat (first|(with_reducible first|exact HB.out|apply below_alloc|apply pw_below_drewN|apply below_drew1|refine below_set ?_ GE125.out)|exact HB.out)) hb); clear HO131; clear BK125; clear HB; have HO131:=n0_; have HO134:=n1_; have BK125:=n2_; have HB:=n3_; clear n0_ n1_ n2_ n3_; clear hb ho8; obtain ⟨Ao9,co9,eo9⟩:=Kd.R_slice HO134.out; subst eo9; obtain ⟨Ao10,co10,eo10⟩:=Kd.N_slice HO131.out; subst eo10; have hcz11_0:w7.cell? ⟨gb125,0,none⟩=some (.slice none 0 0):=(blk_cell BK125.out 0).trans rfl; have hcz11_1:w7.cell? ⟨gb125,1,none⟩=some (.slice none 0 0):=(blk_cell BK125.out 1).trans rfl; have hfz11_0:=blk_frozen BK125.out 0; have hfz11_1:=blk_frozen BK125.out 1))
 refine bodyPost_ret (results_cell_row rfl _ _ gb125 25 #[.slice Ao10 y129.length co10,.slice Ao9 y132.length co9] (0,0) _ rfl (by (with_reducible repeat (first|refine blk_drewN ?_ _|refine blk_drew ?_|refine blk_alloc ?_ _)); refine blk_put (cs:=#[.slice Ao10 y129.length co10,.slice none 0 0]) ?_ 1 _ rfl; (with_reducible repeat (first|refine blk_drewN ?_ _|refine blk_drew ?_|refine blk_alloc ?_ _)); refine blk_put (cs:=#[.slice none 0 0,.slice none 0 0]) ?_ 0 _ rfl; (with_reducible repeat (first|refine blk_drewN ?_ _|refine blk_drew ?_|refine blk_alloc ?_ _)); exact BK125.out) Tryz.underlying25 rfl (by kernel_rfl)) rfl ?_
 exact ⟨_,_,by first|rfl|(simp [errW_none,errW_some]<;>rfl)|(simp [*,errW_none,errW_some]<;>rfl),by (with_reducible repeat (first|apply Kd.N_alloc|apply Kd.N_drewN|apply Kd.N_drew)); exact Kd.N_mono (Kd.N_far (p:=⟨gb125,1,none⟩) (Kd.N_far (p:=⟨gb125,0,none⟩) (Kd.N_mono HO131.out (fun k_ hk=>(⟨hk,hk.1.2⟩:_∧k_≠gb125))) (fun _ hk=>hk.2) (.slice Ao10 y129.length co10)) (fun _ hk=>hk.2) (.slice Ao9 y132.length co9)) (fun _ hk=>⟨hk.1.1.1,hk.1.2⟩),by (with_reducible repeat (first|apply Kd.R_alloc|apply Kd.R_drewN|apply Kd.R_drew)); exact Kd.R_mono (Kd.R_far (p:=⟨gb125,1,none⟩) (Kd.R_far (p:=⟨gb125,0,none⟩) (Kd.R_types HO134.out BK125.out (by decide)) (fun _ hk=>hk.2) (.slice Ao10 y129.length co10)) (fun _ hk=>hk.2) (.slice Ao9 y132.length co9)) (fun _ hk=>hk.1.1),by repeat (first|(with_reducible first|exact HB.out|apply below_alloc|apply pw_below_drewN|apply below_drew1|refine below_set ?_ GE125.out)|exact HB.out)⟩
def fvB:List GBk:=[⟨0,0,[⟨1,0,0,1,⟨#[]⟩,[],[]⟩,⟨5,0,0,5,⟨#[]⟩,[],[]⟩,⟨10,0,0,0,⟨#[]⟩,[],[]⟩]⟩]
def fvG:List GGl:=[⟨⟨#[102,105,118,101]⟩,0⟩]
def FivePost(w:World)(e:Ending)(w':World):Prop:=∃A ca A2 cb,e=.returned (codeV A fvB.length ca A2 fvG.length cb)∧CM w' A ca A2 cb fvB fvG∧Below w.heap.size w w'
theorem five_calls(w:World):Calls Tryz.prog 13 #[] w (FivePost w):=by
 refine (damasklaw21_five.calls fvB fvG w rfl).mono ?_;rintro e w' ⟨v0,v1,rfl,h0,h1,hb⟩;obtain ⟨A,ca,rfl,la,Ca⟩:=Kd.N_reads h0;obtain ⟨A2,cb,rfl,lb,Cb⟩:=Kd.R_reads h1;exact ⟨A,ca,A2,cb,rfl,⟨la,lb,Ca,Cb⟩,hb⟩
theorem pCode_cm{B:Nat}{W:World}{c:List GBk×List GGl}{v:Value}(h:pCode B W c v):∃A ca A2 cb,v=codeV A c.1.length ca A2 c.2.length cb∧CM W A ca A2 cb c.1 c.2:=by
 obtain ⟨vA,vB,rfl,h0,h1⟩:=h;obtain ⟨A,ca,rfl,la,Ca⟩:=Kd.R_reads h0;obtain ⟨A2,cb,rfl,lb,Cb⟩:=Kd.R_reads h1;exact ⟨A,ca,A2,cb,rfl,⟨la,lb,Ca,Cb⟩⟩
theorem fv_all:allK fvB fvG=true:=by decide +kernel
theorem fv_wf:WfC fvB:=by
 intro b hb g hg;simp only [fvB,List.mem_singleton] at hb;subst hb;simp only [List.mem_cons,List.not_mem_nil,or_false] at hg;rcases hg with rfl|rfl|rfl<;>exact ⟨by unfold Ok64; decide,by simp⟩
theorem fv_sized:SizedC fvB fvG:=⟨fun b hb=>by
 simp only [fvB,List.mem_singleton] at hb;subst hb;intro g hg;simp only [List.mem_cons,List.not_mem_nil,or_false] at hg;rcases hg with rfl|rfl|rfl<;>exact ⟨by decide,by simp⟩,fun g hg=>by
 simp only [fvG,List.mem_singleton] at hg;subst hg;decide⟩
theorem dec1(u:Nat)(h:u<10):Lib.decDigits u=[UInt8.ofNat (48+u)]:=by rw [Lib.decDigits,dif_pos h]
theorem itoa0:Lib.itoa 0=[48]:=by rw [Lib.itoa,if_neg (by decide)]; exact dec1 0 (by decide)
theorem itoa1:Lib.itoa 1=[49]:=by rw [Lib.itoa,if_neg (by decide)]; exact dec1 1 (by decide)
theorem itoa5:Lib.itoa 5=[53]:=by rw [Lib.itoa,if_neg (by decide)]; exact dec1 5 (by decide)
theorem fv_text:textB fvB fvG=[98,108,111,99,107,32,48,32,48,10,32,32,99,101,108,108,115,32,48,32,48,32,49,32,45,32,91,93,10,32,32,110,117,109,32,48,32,48,32,53,32,45,32,91,93,10,32,32,103,105,118,101,32,48,32,48,32,48,32,45,32,91,93,10,103,108,111,98,97,108,32,102,105,118,101,32,48,10]:=by
 simp only [textB,fvB,fvG,blockTextB,globTextB,opLineB,opHeadB,opParts,numbersB,List.flatMap_cons,List.flatMap_nil,List.map_nil,itoa0,itoa1,itoa5];decide +kernel
theorem fv_tb:∀b∈fvB,TBk b:=by
 intro b hb;simp only [fvB,List.mem_singleton] at hb;subst hb;refine ⟨by unfold Ok64; decide,by unfold Ok64; decide,fun g hg=>?_⟩;simp only [List.mem_cons,List.not_mem_nil,or_false] at hg;rcases hg with rfl|rfl|rfl<;>exact ⟨by decide,by unfold Ok64; decide,by unfold Ok64; decide,by unfold Ok64; decide,Or.inl rfl,by simp,by simp⟩
theorem fv_tg:∀g∈fvG,TGl g:=by
 intro g hg;simp only [fvG,List.mem_singleton] at hg;subst hg;exact ⟨by decide,by unfold Ok64; decide⟩
theorem fv_read:readT (textB fvB fvG)=.ok (fvB,fvG):=read_text fv_all fv_tb fv_tg
theorem fv_len:(packB fvB fvG).length≤200000:=by decide +kernel
theorem fvText_calls(w:World)(A A2:Option Addr)(ca cb:Nat)(hc:CM w A ca A2 cb fvB fvG)(hR:RW w):
 Calls Tryz.prog 12 #[codeV A fvB.length ca A2 fvG.length cb] w fun e w'=>e=.returned (.tuple #[.string ⟨#[98,108,111,99,107,32,48,32,48,10,32,32,99,101,108,108,115,32,48,32,48,32,49,32,45,32,91,93,10,32,32,110,117,109,32,48,32,48,32,53,32,45,32,91,93,10,32,32,103,105,118,101,32,48,32,48,32,48,32,45,32,91,93,10,103,108,111,98,97,108,32,102,105,118,101,32,48,10]⟩,.int .i64 0])∧Below w.heap.size w w':=by
 refine (text_calls w A ca A2 cb fvB fvG hc hR.lw hR.tens fv_sized fv_wf).mono ?_;rintro e w' ⟨rfl,hb⟩;refine ⟨?_,hb⟩;unfold textR;rw [fv_all,fv_text];rfl
theorem fvRead_calls(w:World)(hR:RW w):Calls Tryz.prog 14 #[.string ⟨#[98,108,111,99,107,32,48,32,48,10,32,32,99,101,108,108,115,32,48,32,48,32,49,32,45,32,91,93,10,32,32,110,117,109,32,48,32,48,32,53,32,45,32,91,93,10,32,32,103,105,118,101,32,48,32,48,32,48,32,45,32,91,93,10,103,108,111,98,97,108,32,102,105,118,101,32,48,10]⟩] w fun e w'=>(∃A ca A2 cb,e=.returned (.tuple #[codeV A fvB.length ca A2 fvG.length cb,.int .i64 0,.int .i64 0])∧CM w' A ca A2 cb fvB fvG)∧Below w.heap.size w w':=by
 have h:=read_calls w (textB fvB fvG) hR (by rw [fv_text]; decide);rw [fv_read,fv_text] at h;refine h.mono ?_;rintro e w' ⟨v,rfl,hp,-,-,hb⟩;obtain ⟨A,ca,A2,cb,rfl,hc⟩:=pCode_cm hp;exact ⟨⟨A,ca,A2,cb,rfl,hc⟩,hb⟩
theorem fvPack_calls(w:World)(A A2:Option Addr)(ca cb:Nat)(hc:CM w A ca A2 cb fvB fvG)(hR:RW w):
 Calls Tryz.prog 6 #[codeV A fvB.length ca A2 fvG.length cb] w fun e w'=>e=.returned (.tuple #[.string ⟨(packB fvB fvG).toArray⟩,.int .i64 0])∧Below w.heap.size w w':=by
 refine (pack_calls w A ca A2 cb fvB fvG hc hR.lw fv_sized fv_wf).mono ?_;rintro e w' ⟨rfl,hb⟩;refine ⟨?_,hb⟩;rw [packR_eq,if_pos fv_all,if_pos fv_len]
theorem fvUnpack_calls(w:World)(hR:RW w):Calls Tryz.prog 10 #[.string ⟨(packB fvB fvG).toArray⟩] w fun e w'=>(∃A ca A2 cb,e=.returned (.tuple #[codeV A fvB.length ca A2 fvG.length cb,.int .i64 0])∧CM w' A ca A2 cb fvB fvG)∧Below w.heap.size w w':=by
 have h:=unpack_calls w (packB fvB fvG) hR.lw (by have:=fv_len; omega);rw [unpackR_pack fvB fvG fv_all fv_wf fv_len] at h;refine h.mono ?_;rintro e w' ⟨v,rfl,hp,hb⟩;obtain ⟨A,ca,A2,cb,rfl,hc⟩:=pCode_cm hp;exact ⟨⟨A,ca,A2,cb,rfl,hc⟩,hb⟩
theorem fvRoom_calls(w:World)(A A2:Option Addr)(ca cb:Nat)(hc:CM w A ca A2 cb fvB fvG)(hR:RW w):
 Calls Tryz.prog 15 #[codeV A fvB.length ca A2 fvG.length cb,.int .i64 0] w fun e w'=>e=.returned (.tuple #[.int .i64 1,.int .i64 0])∧Below w.heap.size w w':=by
 refine (room_calls w A ca A2 cb fvB fvG 0 hc hR.lw fv_sized).mono ?_;rintro e w' ⟨rfl,hb⟩;refine ⟨?_,hb⟩;unfold roomR;rw [if_pos fv_all];rfl
theorem sum_a(w:World):Calls Tryz.prog 17 #[.string ⟨#[97]⟩] w fun e w'=>e=.returned (.int .i64 6422626)∧Below w.heap.size w w':=by
 refine (sum_calls ⟨#[97]⟩ (by decide) w).mono ?_;rintro e w' ⟨rfl,rfl⟩;exact ⟨by rw [show sumB (⟨#[97]⟩:ByteArray).data.toList=6422626 from by decide]; rfl,Below.refl _ _⟩
theorem same_true{w:World}{A A2 B B2:Option Addr}{ca cb da db:Nat}{bs:List GBk}{gl:List GGl}(h1:CM w A ca A2 cb bs gl)(h2:CM w B da B2 db bs gl):
 Calls Tryz.prog 16 #[codeV A bs.length ca A2 gl.length cb,codeV B bs.length da B2 gl.length db] w fun e w'=>e=.returned (.bool true)∧Below w.heap.size w w':=by
 have h:=refSame_calls w A A2 B B2 ca cb da db bs bs gl gl h1 h2;rw [eqC_refl] at h;exact h
structure AQ(w w':World)(A3:Option Addr)(c3:Nat)(A4:Option Addr)(c4:Nat)(A8:Option Addr)(c8:Nat)(A9:Option Addr)(c9:Nat):Prop where
 low:Below w.heap.size w w'
 a:CM w' A3 c3 A4 c4 fvB fvG
 b:CM w' A8 c8 A9 c9 fvB fvG
theorem AQ.below{w w1 w2:World}{A3:Option Addr}{c3:Nat}{A4:Option Addr}{c4:Nat}{A8:Option Addr}{c8:Nat}{A9:Option Addr}{c9:Nat}(h:AQ w w1 A3 c3 A4 c4 A8 c8 A9 c9)(hb:Below w1.heap.size w1 w2):AQ w w2 A3 c3 A4 c4 A8 c8 A9 c9:=⟨below_step h.low hb,h.a.below hb,h.b.below hb⟩
set_option maxRecDepth 100000 in
set_option maxHeartbeats 4000000 in
theorem awake_calls(w:World)(hR:RW w):Calls Tryz.prog 5 #[] w fun e w'=>e=.returned (.bool true)∧Below w.heap.size w w':=by
 have HR:=Lib.hid hR;clear hR;go_enter Tryz.func5,Tryz.ntmps5;go_wp2_with fail;refine (five_calls _).mono ?_;rintro e w1 ⟨A1,a1,A2,a2,rfl,hc1,hb1⟩;have HC1:=Aside0.mk hc1;have HB1:=Aside0.mk hb1;clear hc1 hb1;unfold codeV;go_wp2_with fail;refine (fvText_calls _ _ _ _ _ HC1.out (HR.out.below HB1.out)).mono ?_;rintro e w2 ⟨rfl,hb2⟩;have HB2:=Aside0.mk (below_step HB1.out hb2);clear hb2 HB1 HC1;go_wp2_with fail;refine (fvRead_calls _ (HR.out.below HB2.out)).mono ?_;rintro e w3 ⟨⟨A3,c3,A4,c4,rfl,hc3⟩,hb3⟩;have HB3:=Aside0.mk (below_step HB2.out hb3);have HC3:=Aside0.mk hc3;have HX3:=Aside0.mk (blk_new w3 (.cells #[.slice A3 fvB.length c3,.slice A4 fvG.length c4] 25));clear hb3 HB2 hc3;have HB3':=Aside0.mk (below_alloc HB3.out (.cells #[.slice A3 fvB.length c3,.slice A4 fvG.length c4] 25));have HC3':=Aside0.mk (HC3.out.below (below_alloc (Below.refl _ _) (.cells #[.slice A3 fvB.length c3,.slice A4 fvG.length c4] 25)));clear HB3 HC3;unfold codeV;go_wp2_with fail;generalize w3.alloc (.cells #[.slice A3 fvB.length c3,.slice A4 fvG.length c4] 25)=w4 at *;generalize w3.heap.size=b3 at *;refine (five_calls _).mono ?_;rintro e w5 ⟨A5,a5,A6,a6,rfl,hc5,hb5⟩;have HC5:=Aside0.mk hc5;have HB5:=Aside0.mk (below_step HB3'.out hb5);have HC3:=Aside0.mk (HC3'.out.below hb5);have HX5:=Aside0.mk (blk_below HX3.out hb5);clear hc5 hb5 HX3 HB3' HC3';unfold codeV;go_wp2_with fail;refine (fvPack_calls _ _ _ _ _ HC5.out (HR.out.below HB5.out)).mono ?_;rintro e w6 ⟨rfl,hb6⟩
 have HB6:=Aside0.mk (below_step HB5.out hb6);have HC6:=Aside0.mk (HC3.out.below hb6);have HX6:=Aside0.mk (blk_below HX5.out hb6);clear hb6 HX5 HB5 HC3 HC5;generalize hP:(packB fvB fvG).toArray=P;go_wp2_with fail;have hu:=fvUnpack_calls w6 (HR.out.below HB6.out);rw [hP] at hu;refine hu.mono ?_;clear hu hP;rintro e w7 ⟨⟨A8,c8,A9,c9,rfl,hc7⟩,hb7⟩;have HB7:=Aside0.mk (below_alloc (below_step HB6.out hb7) (.cells #[.slice A8 fvB.length c8,.slice A9 fvG.length c9] 25));have HC7:=Aside0.mk ((HC6.out.below hb7).below (below_alloc (Below.refl _ _) (.cells #[.slice A8 fvB.length c8,.slice A9 fvG.length c9] 25)));have HD7:=Aside0.mk (hc7.below (below_alloc (Below.refl _ _) (.cells #[.slice A8 fvB.length c8,.slice A9 fvG.length c9] 25)));have HX7:=Aside0.mk (blk_below (blk_below HX6.out hb7) (below_alloc (Below.refl _ _) (.cells #[.slice A8 fvB.length c8,.slice A9 fvG.length c9] 25)));have HY7:=Aside0.mk (blk_new w7 (.cells #[.slice A8 fvB.length c8,.slice A9 fvG.length c9] 25));clear hb7 hc7 HB6 HC6 HX6;unfold codeV;go_wp2_with fail;generalize w7.alloc (.cells #[.slice A8 fvB.length c8,.slice A9 fvG.length c9] 25)=w8 at *;generalize w7.heap.size=b8 at *;refine (five_calls _).mono ?_;rintro e w9 ⟨Aa,aa,Ab,ab,rfl,hc9,hb9⟩;have HC9:=Aside0.mk hc9;have HB9:=Aside0.mk (below_step HB7.out hb9);have HC3:=Aside0.mk (HC7.out.below hb9);have HD9:=Aside0.mk (HD7.out.below hb9);have HX9:=Aside0.mk (blk_below HX7.out hb9);have HY9:=Aside0.mk (blk_below HY7.out hb9);clear hc9 hb9 HX7 HY7 HB7 HC7 HD7
 unfold codeV;go_wp2_with fail;refine (fvRoom_calls _ _ _ _ _ HC9.out (HR.out.below HB9.out)).mono ?_;rintro e wa ⟨rfl,hba⟩;have HW:Aside0 (AQ w wa A3 c3 A4 c4 A8 c8 A9 c9):=⟨⟨below_step HB9.out hba,HC3.out.below hba,HD9.out.below hba⟩⟩;have x0:=cellH (blk_below HX9.out hba) (i:=0) rfl;have x1:=cellH (blk_below HX9.out hba) (i:=1) rfl;have x2:=cellH (blk_below HY9.out hba) (i:=0) rfl;have x3:=cellH (blk_below HY9.out hba) (i:=1) rfl;clear hba HX9 HY9 HB9 HC3 HD9 HC9;go_wp2;refine start_ (n:=42) (S:=fun w'=>w'.cell? ⟨b3,0,none⟩=some (.slice A3 fvB.length c3)∧w'.cell? ⟨b3,1,none⟩=some (.slice A4 fvG.length c4)∧w'.cell? ⟨b8,0,none⟩=some (.slice A8 fvB.length c8)∧w'.cell? ⟨b8,1,none⟩=some (.slice A9 fvG.length c9)∧Aside0 (AQ w w' A3 c3 A4 c4 A8 c8 A9 c9)) (ds:=[]) (mA 42 0) (by kernel_rfl) rfl rfl ⟨pw_cell_below (below_drew (Below.refl _ _)) x0,pw_cell_below (below_drew (Below.refl _ _)) x1,pw_cell_below (below_drew (Below.refl _ _)) x2,pw_cell_below (below_drew (Below.refl _ _)) x3,⟨HW.out.below (below_drew (Below.refl _ _))⟩⟩ (fun hHeld=>?_);refine pa_ 42 1 0 (some 38) (v:=?_) (a':=?_) ?_ ?_ ?_;rotate_left 2
 ·intro w';go_simp
  with_reducible rfl
 ·simp only [pn];rfl
 refine pa_ 42 3 1 (some 39) (v:=?_) (a':=?_) ?_ ?_ ?_;rotate_left 2
 ·intro w';go_simp
  with_reducible rfl
 ·simp only [pn];rfl
 refine pa_ 42 7 2 (some 40) (v:=?_) (a':=?_) ?_ ?_ ?_;rotate_left 2
 ·intro w';go_simp
  with_reducible rfl
 ·simp only [pn];rfl
 refine pa_ 42 15 3 (some 41) (v:=?_) (a':=?_) ?_ ?_ ?_;rotate_left 2
 ·intro w';go_simp
  with_reducible rfl
 ·simp only [pn];rfl
 refine pa_ 42 31 4 (some 42) (v:=?_) (a':=?_) ?_ ?_ ?_;rotate_left 2
 ·intro w';go_simp
  with_reducible rfl
 ·simp only [pn];rfl
 refine pa_ 42 63 5 (some 43) (v:=?_) (a':=?_) ?_ ?_ ?_;rotate_left 2
 ·intro w';go_simp
  with_reducible rfl
 ·simp only [pn];rfl
 refine pa_ 42 127 6 (some 44) (v:=?_) (a':=?_) ?_ ?_ ?_;rotate_left 2
 ·intro w';go_simp
  with_reducible rfl
 ·simp only [pn];rfl
 refine pa_ 42 255 7 (some 45) (v:=?_) (a':=?_) ?_ ?_ ?_;rotate_left 2
 ·intro w';go_simp
  with_reducible rfl
 ·simp only [pn];rfl
 refine pa_ 42 511 8 (some 46) (v:=?_) (a':=?_) ?_ ?_ ?_;rotate_left 2
 ·intro w';go_simp
  with_reducible rfl
 ·simp only [pn];rfl
 refine pa_ 42 1023 9 (some 47) (v:=?_) (a':=?_) ?_ ?_ ?_;rotate_left 2
 ·intro w';go_simp
  with_reducible rfl
 ·simp only [pn];rfl
 refine pa_ 42 2047 10 (some 48) (v:=?_) (a':=?_) ?_ ?_ ?_;rotate_left 2
 ·intro w';go_simp
  with_reducible rfl
 ·simp only [pn];rfl
 refine tb_ 42 4095 11 (some 49) (v:=?_) (a':=?_) hHeld ?_ ?_ ?_;rotate_left 2
 ·rintro w' ⟨s0,s1,s2,s3,s4⟩;go_simp
  with_reducible rfl
 ·simp only [pn];rfl
 refine oo_ 42 8191 12 (some 50) (fun K hK=>?_);refine goes_ Tryz.func13 (by kernel_rfl) rfl #[] (by rfl) rfl rfl (by simp only [List.map_toArray,List.map_cons,List.map_nil]) ?_
 with_reducible refine (five_calls _).mono ?_
 rintro e u1 ⟨Ax1,cx1,Ay1,cy1,rfl,hcm1,hb1⟩;refine ⟨_,rfl,?_⟩;refine hK.out _ _ ⟨pw_cell_below hb1 hHeld.1,pw_cell_below hb1 hHeld.2.1,pw_cell_below hb1 hHeld.2.2.1,pw_cell_below hb1 hHeld.2.2.2.1,⟨hHeld.2.2.2.2.out.below hb1⟩⟩ (fun hHeld=>?_);clear hK K;refine norm_ (a':=?_) ?_ ?_;rotate_left
 ·show Act.put _ (some 50) _=_
  simp only [pn];rfl
 refine oo_ 42 16383 13 (some 51) (fun K hK=>?_);refine goes_ Tryz.func16 (by kernel_rfl) rfl #[codeV A3 fvB.length c3 A4 fvG.length c4,codeV Ax1 fvB.length cx1 Ay1 fvG.length cy1] (by rfl) rfl rfl (by simp only [List.map_toArray,List.map_cons,List.map_nil]; rfl) ?_
 with_reducible refine (same_true (hHeld.2.2.2.2.out.a) hcm1).mono ?_
 rintro e u2 ⟨rfl,hb2⟩;refine ⟨_,rfl,?_⟩;refine hK.out _ _ ⟨pw_cell_below hb2 hHeld.1,pw_cell_below hb2 hHeld.2.1,pw_cell_below hb2 hHeld.2.2.1,pw_cell_below hb2 hHeld.2.2.2.1,⟨hHeld.2.2.2.2.out.below hb2⟩⟩ (fun hHeld=>?_);clear hK K;refine norm_ (a':=?_) ?_ ?_;rotate_left
 ·show Act.put _ (some 51) _=_
  simp only [pn];rfl
 refine pa_ 42 32767 14 (some 52) (v:=?_) (a':=?_) ?_ ?_ ?_;rotate_left 2
 ·intro w';go_simp
  with_reducible rfl
 ·simp only [pn];rfl
 refine pa_ 42 65535 15 (some 53) (v:=?_) (a':=?_) ?_ ?_ ?_;rotate_left 2
 ·intro w';go_simp
  with_reducible rfl
 ·simp only [pn];rfl
 refine pa_ 42 131071 16 (some 54) (v:=?_) (a':=?_) ?_ ?_ ?_;rotate_left 2
 ·intro w';go_simp
  with_reducible rfl
 ·simp only [pn];rfl
 refine pa_ 42 262143 17 (some 55) (v:=?_) (a':=?_) ?_ ?_ ?_;rotate_left 2
 ·intro w';go_simp
  with_reducible rfl
 ·simp only [pn];rfl
 refine pa_ 42 524287 18 (some 56) (v:=?_) (a':=?_) ?_ ?_ ?_;rotate_left 2
 ·intro w';go_simp
  with_reducible rfl
 ·simp only [pn];rfl
 refine pa_ 42 1048575 19 (some 57) (v:=?_) (a':=?_) ?_ ?_ ?_;rotate_left 2
 ·intro w';go_simp
  with_reducible rfl
 ·simp only [pn];rfl
 refine pa_ 42 2097151 20 (some 58) (v:=?_) (a':=?_) ?_ ?_ ?_;rotate_left 2
 ·intro w';go_simp
  with_reducible rfl
 ·simp only [pn];rfl
 refine pa_ 42 4194303 21 (some 59) (v:=?_) (a':=?_) ?_ ?_ ?_;rotate_left 2
 ·intro w';go_simp
  with_reducible rfl
 ·simp only [pn];rfl
 refine pa_ 42 8388607 22 (some 60) (v:=?_) (a':=?_) ?_ ?_ ?_;rotate_left 2
 ·intro w';go_simp
  with_reducible rfl
 ·simp only [pn];rfl
 refine pa_ 42 16777215 23 (some 61) (v:=?_) (a':=?_) ?_ ?_ ?_;rotate_left 2
 ·intro w';go_simp
  with_reducible rfl
 ·simp only [pn];rfl
 refine pa_ 42 33554431 24 (some 62) (v:=?_) (a':=?_) ?_ ?_ ?_;rotate_left 2
 ·intro w';go_simp
  with_reducible rfl
 ·simp only [pn];rfl
 refine tb_ 42 67108863 25 (some 63) (v:=?_) (a':=?_) hHeld ?_ ?_ ?_;rotate_left 2
 ·rintro w' ⟨s0,s1,s2,s3,s4⟩;go_simp
  with_reducible rfl
 ·simp only [pn];rfl
 refine oo_ 42 134217727 26 (some 64) (fun K hK=>?_);refine goes_ Tryz.func13 (by kernel_rfl) rfl #[] (by rfl) rfl rfl (by simp only [List.map_toArray,List.map_cons,List.map_nil]) ?_
 with_reducible refine (five_calls _).mono ?_
 rintro e u3 ⟨Ax3,cx3,Ay3,cy3,rfl,hcm3,hb3⟩;refine ⟨_,rfl,?_⟩;refine hK.out _ _ ⟨pw_cell_below hb3 hHeld.1,pw_cell_below hb3 hHeld.2.1,pw_cell_below hb3 hHeld.2.2.1,pw_cell_below hb3 hHeld.2.2.2.1,⟨hHeld.2.2.2.2.out.below hb3⟩⟩ (fun hHeld=>?_);clear hK K;refine norm_ (a':=?_) ?_ ?_;rotate_left
 ·show Act.put _ (some 64) _=_
  simp only [pn];rfl
 refine oo_ 42 268435455 27 (some 65) (fun K hK=>?_);refine goes_ Tryz.func16 (by kernel_rfl) rfl #[codeV A8 fvB.length c8 A9 fvG.length c9,codeV Ax3 fvB.length cx3 Ay3 fvG.length cy3] (by rfl) rfl rfl (by simp only [List.map_toArray,List.map_cons,List.map_nil]; rfl) ?_
 with_reducible refine (same_true (hHeld.2.2.2.2.out.b) hcm3).mono ?_
 rintro e u4 ⟨rfl,hb4⟩;refine ⟨_,rfl,?_⟩;refine hK.out _ _ ⟨pw_cell_below hb4 hHeld.1,pw_cell_below hb4 hHeld.2.1,pw_cell_below hb4 hHeld.2.2.1,pw_cell_below hb4 hHeld.2.2.2.1,⟨hHeld.2.2.2.2.out.below hb4⟩⟩ (fun hHeld=>?_);clear hK K;refine norm_ (a':=?_) ?_ ?_;rotate_left
 ·show Act.put _ (some 65) _=_
  simp only [pn];rfl
 refine pa_ 42 536870911 28 (some 66) (v:=?_) (a':=?_) ?_ ?_ ?_;rotate_left 2
 ·intro w';go_simp
  with_reducible rfl
 ·simp only [pn];rfl
 refine pa_ 42 1073741823 29 (some 67) (v:=?_) (a':=?_) ?_ ?_ ?_;rotate_left 2
 ·intro w';go_simp
  with_reducible rfl
 ·simp only [pn];rfl
 refine pa_ 42 2147483647 30 (some 68) (v:=?_) (a':=?_) ?_ ?_ ?_;rotate_left 2
 ·intro w';go_simp
  with_reducible rfl
 ·simp only [pn];rfl
 refine pa_ 42 4294967295 31 (some 69) (v:=?_) (a':=?_) ?_ ?_ ?_;rotate_left 2
 ·intro w';go_simp
  with_reducible rfl
 ·simp only [pn];rfl
 refine pa_ 42 8589934591 32 (some 70) (v:=?_) (a':=?_) ?_ ?_ ?_;rotate_left 2
 ·intro w';go_simp
  with_reducible rfl
 ·simp only [pn];rfl
 refine pa_ 42 17179869183 33 (some 71) (v:=?_) (a':=?_) ?_ ?_ ?_;rotate_left 2
 ·intro w';go_simp
  with_reducible rfl
 ·simp only [pn];rfl
 refine pa_ 42 34359738367 34 (some 72) (v:=?_) (a':=?_) ?_ ?_ ?_;rotate_left 2
 ·intro w';go_simp
  with_reducible rfl
 ·simp only [pn];rfl
 refine pa_ 42 68719476735 35 (some 73) (v:=?_) (a':=?_) ?_ ?_ ?_;rotate_left 2
 ·intro w';go_simp
  with_reducible rfl
 ·simp only [pn];rfl
 refine pa_ 42 137438953471 36 (some 74) (v:=?_) (a':=?_) ?_ ?_ ?_;rotate_left 2
 ·intro w';go_simp
  with_reducible rfl
 ·simp only [pn];rfl
 refine pa_ 42 274877906943 37 (some 75) (v:=?_) (a':=?_) ?_ ?_ ?_;rotate_left 2
 ·intro w';go_simp
  with_reducible rfl
 ·simp only [pn];rfl
 refine pa_ 42 549755813887 38 (some 76) (v:=?_) (a':=?_) ?_ ?_ ?_;rotate_left 2
 ·intro w';go_simp
  with_reducible rfl
 ·simp only [pn];rfl
 refine oo_ 42 1099511627775 39 (some 77) (fun K hK=>?_);refine goes_ Tryz.func17 (by kernel_rfl) rfl #[.string ⟨#[97]⟩] (by rfl) rfl rfl (by simp only [List.map_toArray,List.map_cons,List.map_nil]; rfl) ?_
 with_reducible refine (sum_a _).mono ?_
 rintro e u5 ⟨rfl,hb5⟩;refine ⟨_,rfl,?_⟩;refine hK.out _ _ ⟨pw_cell_below hb5 hHeld.1,pw_cell_below hb5 hHeld.2.1,pw_cell_below hb5 hHeld.2.2.1,pw_cell_below hb5 hHeld.2.2.2.1,⟨hHeld.2.2.2.2.out.below hb5⟩⟩ (fun hHeld=>?_);clear hK K;refine norm_ (a':=?_) ?_ ?_;rotate_left
 ·show Act.put _ (some 77) _=_
  simp only [pn];rfl
 refine pa_ 42 2199023255551 40 (some 78) (v:=?_) (a':=?_) ?_ ?_ ?_;rotate_left 2
 ·intro w';go_simp
  with_reducible rfl
 ·simp only [pn];rfl
 refine pa_ 42 4398046511103 41 (some 79) (v:=?_) (a':=?_) ?_ ?_ ?_;rotate_left 2
 ·intro w';go_simp
  with_reducible rfl
 ·simp only [pn];rfl
 refine done_ (by kernel_rfl) ?_;have HE:=Aside0.mk hHeld.2.2.2.2.out.low;clear hHeld HW x0 x1 x2 x3;go_wp2;go_ret;exact ⟨rfl,HE.out⟩
end Go.Proofs.YtjbgcpdlgplcfabGreatDoor.CJ
