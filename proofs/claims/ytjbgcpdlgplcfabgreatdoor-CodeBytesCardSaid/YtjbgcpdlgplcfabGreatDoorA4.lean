/- The law CodeBytes: the Go function answers true for all codes and numbers. Conditions: the code lies in memory; the listed variables are laid. -/
import Derived.Test.YtjbgcpdlgplcfabGreatDoorRG
import Derived.Test.YtjbgcpdlgplcfabGreatDoorRR
import Derived.Test.YtjbgcpdlgplcfabGreatDoorH8
import Derived.Test.YtjbgcpdlgplcfabGreatDoorS5
import Derived.Lib.ConvBytes
namespace Go.Proofs.YtjbgcpdlgplcfabGreatDoor.CJ
open Go.RowKit Go.Proofs.YtjbgcpdlgplcfabGreatDoorW.PrintWords Go.Proofs.YtjbgcpdlgplcfabGreatDoorW.PrintLast Go.Proofs.YtjbgcpdlgplcfabGreatDoor.PT Go.Proofs.YtjbgcpdlgplcfabGreatDoor.IMaps
set_option linter.unusedVariables false
set_option linter.unusedSimpArgs false
structure BRow(w wr:World)(b:Nat)(bs:List UInt8):Prop where
 below:Below w.heap.size w wr
 new:w.heap.size≤b
 row:∃cs m,wr.heap[b]? = some (.cells cs 5 (m,m+1))∧bs.length≤m∧∀j (h:j<bs.length),cs[j]? = some (.int .u8 (bs[j].toNat:Int))
theorem BRow.cell{w wr:World}{b:Nat}{bs:List UInt8}(h:BRow w wr b bs)(j:Nat)(hj:j<bs.length):wr.cell? ⟨b,j,none⟩=some (.int .u8 (bs[j].toNat:Int)):=by
 obtain ⟨cs,m,h1,h2,h3⟩:=h.row;simp [World.cell?,h1,h3 j hj]
theorem BRow.free{w wr:World}{b:Nat}{bs:List UInt8}(h:BRow w wr b bs)(j:Nat)(hj:j<bs.length):wr.frozen? ⟨b,j,none⟩=false:=by
 obtain ⟨cs,m,h1,h2,h3⟩:=h.row;simp [World.frozen?,h1];omega
theorem BRow.set{w wr:World}{b:Nat}{bs:List UInt8}(h:BRow w wr b bs)(j:Nat)(hj:j<bs.length)(c:UInt8):BRow w (wr.setCell ⟨b,j,none⟩ (.int .u8 (c.toNat:Int))) b (bs.set j c):=by
 obtain ⟨cs,m,h1,h2,h3⟩:=h.row;refine ⟨h.below.setCell (p:=⟨b,j,none⟩) h.new _,h.new,cs.setIfInBounds j (.int .u8 (c.toNat:Int)),m,Lib.heap_setCell_same (i:=j) h1 _,by rw [List.length_set]; exact h2,fun i hi=>?_⟩;rw [List.length_set] at hi;have hcs:=h3 i hi;have hlt:=(Array.getElem?_eq_some_iff.1 hcs).1;by_cases he:j=i
 ·subst he;rw [Array.getElem?_setIfInBounds_self_of_lt hlt];simp
 ·rw [Array.getElem?_setIfInBounds_ne he,hcs];simp [List.getElem_set,he]
theorem BRow.far{w wr w2:World}{b:Nat}{bs:List UInt8}(h:BRow w wr b bs)(hb:Below wr.heap.size wr w2):BRow w w2 b bs:=by
 obtain ⟨cs,m,h1,h2,h3⟩:=h.row;exact ⟨below_step h.below hb,h.new,cs,m,(hb.block _ (Array.getElem?_eq_some_iff.1 h1).1).trans h1,h2,h3⟩
theorem brow_made(w W:World)(hb:Below w.heap.size w W)(l:List UInt8):BRow w (Lib.bytesWorld W 5 ⟨l.toArray⟩) W.heap.size l:=by
 refine ⟨?_,hb.size,Lib.bytesCells W 5 ⟨l.toArray⟩,(Lib.bytesCells W 5 ⟨l.toArray⟩).size,Lib.bytesWorld_at_new _ _ _,?_,fun j hj=>?_⟩
 ·refine below_step hb ?_;refine ⟨rfl,rfl,rfl,by rw [Lib.bytesWorld_size]; omega,fun i hi=>Lib.bytesWorld_at_old W _ _ i hi⟩
 ·simp [Lib.bytesCells]
 ·simp [Lib.bytesCells,Array.getElem?_append,hj]
theorem BRow.back{w wr:World}{b:Nat}{l:List UInt8}(h:BRow w wr b l)(cap:Nat):(convert 32 9 (.slice (some ⟨b,0,none⟩) l.length cap)).run Tryz.prog wr=.ok (.string ⟨l.toArray⟩) wr:=by
 refine run_convert_bytes_back wr 32 9 5 ⟨b,0,none⟩ cap l Tryz.underlying32 Tryz.underlying5 Tryz.underlying9 ?_;intro j hj;have ea:(⟨b,0,none⟩:Addr).add j=⟨b,j,none⟩:=by simp [Addr.add]; omega
 rw [ea];exact h.cell j hj
theorem cutTo4(l:List UInt8)(k:Nat)(hk:k≤l.length)(W:World):(Instr.slice 9 (.string ⟨l.toArray⟩) none (some (.int .i64 (k:Int))) none).run Tryz.prog W=.ok (.string ⟨(l.take k).toArray⟩) W:=by
 rw [run_slice_string_h (P:=Tryz.prog) W 9 ⟨l.toArray⟩ Tryz.underlying9 .i64 (k:Int) (by omega) (by simp [ByteArray.size]; omega),show (⟨(l.take k).toArray⟩:ByteArray)=(⟨l.toArray⟩:ByteArray).extract 0 k from ByteArray.ext (by simp)];rfl
theorem mod_calls(x:Int)(n:Nat)(h0:0<n)(h1:n≤1000000000)(w:World):Calls Tryz.prog 9 #[.int .i64 x,.int .i64 n] w fun e w'=>(∃k:Nat,k<n∧e=.returned (.int .i64 k))∧w=w':=by
 have e1:∀y:Int,IntKind.u64.wrap y=y % 18446744073709551616:=fun y=>rfl
 go_enter Tryz.func9,Tryz.ntmps9;go_wp2;go_ret;refine ⟨⟨(x % 18446744073709551616 % n).toNat,?_,?_⟩,rfl⟩
 ·have:=Int.emod_lt_of_pos (x % 18446744073709551616) (show (0:Int)<n by omega);have:=Int.emod_nonneg (x % 18446744073709551616) (show (n:Int)≠0 by omega);omega
 ·have e2:(n:Int) % 18446744073709551616=n:=by omega
  have h2:=Int.emod_lt_of_pos (x % 18446744073709551616) (show (0:Int)<n by omega);have h3:=Int.emod_nonneg (x % 18446744073709551616) (show (n:Int)≠0 by omega);show Ending.returned (.int .i64 (RowKit.wrap64 (x % 18446744073709551616 % ((n:Int) % 18446744073709551616))))=_
  rw [e2,IntWalk.wrap64_in _ (by omega),Int.toNat_of_nonneg h3]
theorem mod255(x:Int)(w:World):Calls Tryz.prog 9 #[.int .i64 x,.int .i64 255] w fun e w'=>(∃k:Nat,k<255∧e=.returned (.int .i64 k))∧w=w':=mod_calls x 255 (by decide) (by decide) w
theorem unpackNo(w:World)(T:List UInt8)(hR:LW w)(ht:T.length≤140737488355328)(hn:unpackR T=none):Calls Tryz.prog 10 #[.string ⟨T.toArray⟩] w fun e w'=>e=.returned (.tuple #[codeV none 0 0 none 0 0,.int .i64 42])∧Below w.heap.size w w':=by
 have h:=unpack_calls w T hR ht;rw [hn] at h;exact h
theorem packB_pos(bs:List GBk)(gl:List GGl):4≤(packB bs gl).length:=by unfold packB; rw [sealB_len]; omega
set_option maxRecDepth 100000 in
set_option maxHeartbeats 8000000 in
theorem lawBytes_calls(w:World)(A A2:Option Addr)(ca cb:Nat)(bs:List GBk)(gl:List GGl)(at_ by_:Int)(h1:CM w A ca A2 cb bs gl)(hR:RW w)(rl:LR w)(hs:SizedC bs gl)(hw:WfC bs):
 Calls Tryz.prog 3 #[codeV A bs.length ca A2 gl.length cb,.int .i64 at_,.int .i64 by_] w fun e w'=>e=.returned (.bool true)∧Below w.heap.size w w':=by
 have HR:=Lib.hid hR;have HM:=Lib.hid (fun W (hb:Below w.heap.size w W)=>small_calls W A A2 ca cb bs gl (h1.below hb));have HP:=Lib.hid (fun W (hb:Below w.heap.size w W)=>pack_calls W A ca A2 cb bs gl (h1.below hb) (hR.below hb).lw hs hw);have HK:=Lib.hid (fun W (hb:Below w.heap.size w W)=>refCheck_calls W A ca A2 cb bs gl (h1.below hb) (rl.below hb) hs);have HQ:Hid (allK bs gl=true→∀W,Below w.heap.size w W→Calls Tryz.prog 8 #[codeV A bs.length ca A2 gl.length cb] W fun e w'=>e=.returned (.string ⟨(packB bs gl).toArray⟩)∧Below W.heap.size W w'):=Lib.hid fun hk W hb=>refPack_calls W A ca A2 cb bs gl (h1.below hb) (okC_of (allK_small hk) hw) (packP_len (allK_small hk) hw)
 have HE:=Lib.hid (packR_eq bs gl);have HX:=Lib.hid (fun (k:Nat) (x y:UInt8)=>unpackR_change bs gl k x y);have HC:=Lib.hid (fun (hk:allK bs gl=true) (k:Nat)=>unpackR_cut bs gl hk hw k);have HN:=Lib.hid (packB_pos bs gl);generalize packR bs gl=PR at *;generalize packB bs gl=T at *;generalize allK bs gl=ok at *;have HB:=Aside0.mk (below_alloc (Below.refl w.heap.size w) (.cells #[.slice A bs.length ca,.slice A2 gl.length cb] 25));have HY:=Aside0.mk (blk_new w (.cells #[.slice A bs.length ca,.slice A2 gl.length cb] 25));clear h1 hR rl hs hw;unfold codeV;unfold codeV at HM HP HQ;go_enter Tryz.func3,Tryz.ntmps3;go_wp2_with fail;generalize w.alloc (.cells #[.slice A bs.length ca,.slice A2 gl.length cb] 25)=w1 at *;refine (HM.out _ HB.out).mono ?_;rintro e w2 ⟨⟨sm,rfl⟩,hb2⟩;have HB2:=Aside0.mk (below_step HB.out hb2);have HY2:=Aside0.mk (blk_below HY.out hb2);clear hb2 HB HY;cases sm
 ·go_wp2_with fail;refine (awake_calls _ (HR.out.below HB2.out)).mono ?_;rintro e wz ⟨rfl,hbz⟩;have HBz:=Aside0.mk (below_step HB2.out hbz);clear hbz;go_wp2;go_ret;exact ⟨rfl,HBz.out⟩
 have x0:=cellH HY2.out (i:=0) rfl;have x1:=cellH HY2.out (i:=1) rfl;go_wp2_with fail;refine (HP.out _ HB2.out).mono ?_;rintro e w3 ⟨rfl,hb3⟩;have HB3:=Aside0.mk (below_step HB2.out hb3);have HY3:=Aside0.mk (blk_below HY2.out hb3);clear hb3 HB2 HY2 x0 x1;have x0:=cellH HY3.out (i:=0) rfl;have x1:=cellH HY3.out (i:=1) rfl;cases ok
 ·have e1:e=.returned (.tuple #[.string ⟨#[]⟩,.int .i64 41]):=HE.out;subst e1;go_wp2_with fail;refine (awake_calls _ (HR.out.below HB3.out)).mono ?_;rintro e wz ⟨rfl,hbz⟩;have HBz:=Aside0.mk (below_step HB3.out hbz);clear hbz;go_wp2;go_ret;exact ⟨rfl,HBz.out⟩
 have HQ2:=Lib.hid (HQ.out rfl);by_cases hl:T.length≤200000;rotate_left
 ·have e1:e=.returned (.tuple #[.string ⟨#[]⟩,.int .i64 5]):=HE.out.trans (by rw [if_pos rfl,if_neg hl]);subst e1;go_wp2_with fail;refine (HK.out _ HB3.out).mono ?_;rintro e w4 ⟨rfl,hb4⟩;have HB4:=Aside0.mk (below_step HB3.out hb4);have HY4:=Aside0.mk (blk_below HY3.out hb4);clear hb4 HB3 HY3 x0 x1;have x0:=cellH HY4.out (i:=0) rfl;have x1:=cellH HY4.out (i:=1) rfl;go_wp2_with fail;refine (HQ2.out _ HB4.out).mono ?_;rintro e w5 ⟨rfl,hb5⟩;have HB5:=Aside0.mk (below_step HB4.out hb5);have hz:decide ((200000:Int)<(T.length:Int))=true:=decide_eq_true (by omega);clear hb5 HB4 x0 x1 hl;go_wp2_with fail;refine (awake_calls _ (HR.out.below HB5.out)).mono ?_;rintro e wz ⟨rfl,hbz⟩;have HBz:=Aside0.mk (below_step HB5.out hbz);clear hbz;go_wp2;go_ret;exact ⟨rfl,HBz.out⟩
 have e1:e=.returned (.tuple #[.string ⟨T.toArray⟩,.int .i64 0]):=HE.out.trans (by rw [if_pos rfl,if_pos hl]);subst e1;have hn4:=HN.out;have hconv:=Lib.run_convert_string_bytes (P:=Tryz.prog) w3 9 32 5 ⟨T.toArray⟩ Tryz.underlying9 Tryz.underlying32 Tryz.underlying5;have hsz:(⟨T.toArray⟩:ByteArray).size=T.length:=by simp [ByteArray.size]
 rw [hsz] at hconv;have HG:=Aside0.mk (brow_made w w3 HB3.out T);generalize grownCap w3 T.length 0 5=cap at hconv;generalize hg:w3.heap.size=g at *;generalize Lib.bytesWorld w3 5 ⟨T.toArray⟩=w4 at *;clear hsz HB3 HY3 x0 x1 HQ HQ2 HK HM HP HE;have hz0:((T.length:Int)==0)=false:=by rw [beq_eq_false_iff_ne]; omega
 go_wp2_with fail;refine (mod_calls at_ T.length (by omega) (by omega) _).mono ?_;rintro e w5 ⟨⟨k,hk,rfl⟩,rfl⟩;have HD:=Aside0.mk (HG.out.far (below_drew (Below.refl _ _)));have x0:=HD.out.cell k hk;have x1:=HD.out.free k hk;obtain ⟨x,hx⟩:∃x,x=T[k]:=⟨_,rfl⟩;rw [←hx] at x0;have HX0:=Lib.hid hx;clear hconv hz0 hx;go_wp2_with fail;refine start_ (n:=13) (S:=fun w'=>w'.cell? ⟨g,k,none⟩=some (.int .u8 (x.toNat:Int))∧w'.frozen? ⟨g,k,none⟩=false∧Aside0 (BRow w w' g T)) (ds:=[12]) (mA 13 0) (by kernel_rfl) rfl rfl ⟨x0,x1,HD⟩ (fun hHeld=>?_);refine pa_ 13 1 0 (some 53) (v:=?_) (a':=?_) ?_ ?_ ?_;rotate_left 2
 ·intro w';go_simp
  with_reducible rfl
 ·simp only [pn];rfl
 refine pa_ 13 3 1 (some 54) (v:=?_) (a':=?_) ?_ ?_ ?_;rotate_left 2
 ·intro w';go_simp
  with_reducible rfl
 ·simp only [pn];rfl
 refine pa_ 13 7 2 (some 55) (v:=?_) (a':=?_) ?_ ?_ ?_;rotate_left 2
 ·intro w';go_simp
  with_reducible rfl
 ·simp only [pn];rfl
 refine pa_ 13 15 3 (some 56) (v:=?_) (a':=?_) ?_ ?_ ?_;rotate_left 2
 ·intro w';go_simp
  with_reducible rfl
 ·simp only [pn];rfl
 refine pa_ 13 31 4 (some 57) (v:=?_) (a':=?_) ?_ ?_ ?_;rotate_left 2
 ·intro w';go_simp
  with_reducible rfl
 ·simp only [pn];rfl
 refine pa_ 13 95 6 (some 59) (v:=?_) (a':=?_) ?_ ?_ ?_;rotate_left 2
 ·intro w';go_simp
  with_reducible rfl
 ·simp only [pn];rfl
 refine tb_ 13 127 5 (some 58) (v:=?_) (a':=?_) hHeld ?_ ?_ ?_;rotate_left 2
 ·rintro w' ⟨s0,s1,s2⟩;go_simp
  with_reducible rfl
 ·simp only [pn];rfl
 refine oo_ 13 255 7 (some 60) (fun K hK=>?_);refine goes_ Tryz.func9 (by kernel_rfl) rfl #[.int .i64 by_,.int .i64 255] (by rfl) rfl rfl (by simp only [List.map_toArray,List.map_cons,List.map_nil]; rfl) ?_
 with_reducible refine (mod255 by_ _).mono ?_
 rintro e u1 ⟨⟨j,hj,rfl⟩,rfl⟩;have hz1:RowKit.wrap64 (1+(j:Int))=1+j:=IntWalk.wrap64_in _ (by omega);refine ⟨_,rfl,?_⟩;refine hK.out _ _ ⟨hHeld.1,hHeld.2.1,hHeld.2.2⟩ (fun hHeld=>?_);clear hK K;refine norm_ (a':=?_) ?_ ?_;rotate_left
 ·show Act.put _ (some 60) _=_
  simp only [pn];rfl
 refine pa_ 13 511 8 (some 61) (v:=?_) (a':=?_) ?_ ?_ ?_;rotate_left 2
 ·intro w';go_simp
  with_reducible rfl
 ·simp only [pn];rfl
 refine pa_ 13 1023 9 (some 62) (v:=?_) (a':=?_) ?_ ?_ ?_;rotate_left 2
 ·intro w';go_simp
  with_reducible rfl
 ·simp only [pn];rfl
 refine pa_ 13 2047 10 (some 63) (v:=?_) (a':=?_) ?_ ?_ ?_;rotate_left 2
 ·intro w';go_simp
  with_reducible rfl
 ·simp only [pn];rfl
 refine pa_ 13 4095 11 (some 64) (v:=?_) (a':=?_) ?_ ?_ ?_;rotate_left 2
 ·intro w';go_simp
  with_reducible rfl
 ·simp only [pn];rfl
 refine la_ 13 8191 12 none rfl rfl (by kernel_rfl) (by decide) (fun K hK=>?_);refine skip_ (w1:=?_) (by rfl) rfl ?_ ?_;rotate_left
 ·go_simp;rfl
 refine hK.out _ _ ?_;clear hK K;refine done_ (by kernel_rfl) ?_;obtain ⟨y,hy⟩:∃y:UInt8,y=UInt8.ofNat (x.toNat+1+j):=⟨_,rfl⟩;have hyn:y.toNat=(x.toNat+1+j) % 256:=by rw [hy]; simp
 have hyv:IntKind.u8.wrap ((x.toNat:Int)+IntKind.u8.wrap (1+(j:Int)))=(y.toNat:Int):=by
  show ((x.toNat:Int)+(1+(j:Int)) % 256) % 256=_
  rw [hyn]; omega
 have hne:x≠y:=fun e=>by have:=congrArg UInt8.toNat e; rw [hyn] at this; have:=x.toNat_lt; omega
 have HU:=Lib.hid (HX.out k x y (by rw [HX0.out]; simp [hk]) hne);have HUC:=Lib.hid (HC.out (by first|trivial|rfl) k hk);have HT2:=Aside0.mk ((HG.out.set k hk y).far (below_drew (Below.refl _ _)));rw [←hyv] at HT2;have hl2:(T.set k y).length=T.length:=List.length_set;generalize (w4.setCell ⟨g,k,none⟩ (.int .u8 (IntKind.u8.wrap ((x.toNat:Int)+IntKind.u8.wrap (1+(j:Int)))))).drew=w6 at *;generalize T.set k y=T2 at *;have hback:=HT2.out.back cap;rw [hl2] at hback;have HB6:=Aside0.mk HT2.out.below;clear hHeld HX HX0 HC HG HD hy hyn hyv hne HT2 hz1;go_wp2_with fail;refine (unpackNo _ T2 ((HR.out.below HB6.out).lw) (by omega) HU.out).mono ?_;rintro e w7 ⟨rfl,hb7⟩;have HB7:=Aside0.mk (below_alloc (below_step HB6.out hb7) (.cells #[.slice none 0 0,.slice none 0 0] 25));have hsl:=fun W=>cutTo4 T k (by omega) W
 clear hb7 hback;unfold codeV;go_wp2_with fail;generalize w7.alloc (.cells #[.slice none 0 0,.slice none 0 0] 25)=w8 at *;refine (unpackNo _ (T.take k) ((HR.out.below HB7.out).lw) (by rw [List.length_take]; omega) HUC.out).mono ?_;rintro e w9 ⟨rfl,hb9⟩;have HB8:=Aside0.mk (below_alloc (below_step HB7.out hb9) (.cells #[.slice none 0 0,.slice none 0 0] 25));clear hb9 hsl;unfold codeV;go_wp2_with fail;refine (awake_calls _ (HR.out.below HB8.out)).mono ?_;rintro e wz ⟨rfl,hbz⟩;have HBz:=Aside0.mk (below_step HB8.out hbz);clear hbz;go_wp2;go_ret;exact ⟨rfl,HBz.out⟩
end Go.Proofs.YtjbgcpdlgplcfabGreatDoor.CJ
