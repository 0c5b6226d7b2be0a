/- Functions of the program as plain functions, and that each Go function answers as its plain one, as the kit's printer wrote them, cut down to what this claim leans on. Conditions: as each states. -/
import Derived.Test.YtjbgcpdlgplcfabGreatDoorProg
import Derived.Below
import Derived.Deep.Draws
import Derived.Deep.AppendLies
import Derived.Maps.AppendAt
import Derived.OwnWalk
import Derived.Laws.BytesArg
import Derived.Laws.MakeOwn
import Derived.Laws.OwnMore
import Derived.Deep.OwnRows
import Derived.Tactics
import Derived.Lib.ConvBytes
import Derived.Laws.Slices
import Derived.WalkKit
import Derived.KernelRfl
import Derived.RowKit3
import Derived.Deep.LoopGhost
import Derived.Deep.QuietTactic
import Derived.BigQuiet
import Derived.WideLaws
import Derived.Deep.DeepCutAuto
import Derived.Deep.CutBlock
import Derived.Deep.RegionHeld3
import Derived.Laws.Rows
import Derived.Lib.AppendStr
import Derived.ArgAppend
import Derived.Laws.IdiomCopy
import Derived.OrdersHeld
import Derived.Laws.BitsLemmas
import Derived.RowKit
import Derived.Test.YtjbgcpdlgplcfabGreatDoorWW
namespace Go.Proofs.YtjbgcpdlgplcfabGreatDoorW.PrintMore
end Go.Proofs.YtjbgcpdlgplcfabGreatDoorW.PrintMore
namespace Go.Proofs.YtjbgcpdlgplcfabGreatDoor.PT
open Go.RowKit Go.Proofs.YtjbgcpdlgplcfabGreatDoorW.PrintWords Go.Proofs.YtjbgcpdlgplcfabGreatDoorW.PrintLast Go.Proofs.YtjbgcpdlgplcfabGreatDoorW.PrintMore
set_option linter.unusedVariables false
set_option linter.unusedSimpArgs false
def errW:Option Int→Value
 |none=>.nilIface
 |some c=>.iface 0 (.int .i64 c)
theorem errW_none:errW none=.nilIface:=rfl
theorem errW_some(c:Int):errW (some c)=.iface 0 (.int .i64 c):=rfl
theorem info50:(Tryz.prog.info? 50).map (fun i=>(i.zero,i.size,i.bytes))=some (some (.agg #[(.int .i64 0),(.int .i64 0),(.slice none 0 0)]),3,40):=by kernel_rfl
theorem info53:(Tryz.prog.info? 53).map (fun i=>(i.zero,i.size,i.bytes))=some (some (.agg #[(.string ⟨#[]⟩),(.int .i64 0)]),2,24):=by kernel_rfl
theorem info61:(Tryz.prog.info? 61).map (fun i=>(i.zero,i.size,i.bytes))=some (some (.agg #[(.int .i64 0),(.int .i64 0),(.int .i64 0),(.int .i64 0),(.string ⟨#[]⟩),(.slice none 0 0),(.slice none 0 0)]),7,96):=by kernel_rfl
structure S65 where
 f0:Int
 f1:ByteArray
 f2:Int
 f3:Int
def z65:S65:=⟨(0:Int),(⟨#[]⟩:ByteArray),(0:Int),(0:Int)⟩
def k65:Kd S65:=Kd.iso (Kd.pair (Kd.int .i64) (Kd.pair Kd.string (Kd.pair (Kd.int .i64) (Kd.int .i64)))) (fun x:S65=>(x.f0,x.f1,x.f2,x.f3))
theorem k65_open{w:World}{x:S65}{cs:List Value}(h:k65.K w x cs):cs=[.int .i64 x.f0,.string x.f1,.int .i64 x.f2,.int .i64 x.f3]:=by
 obtain ⟨_,_,rfl,rfl,⟨_,_,rfl,rfl,⟨_,_,rfl,rfl,rfl⟩⟩⟩:=h;exact rfl
theorem k65_mk(w:World)(x:S65)  : k65.K w x [.int .i64 x.f0,.string x.f1,.int .i64 x.f2,.int .i64 x.f3]:=⟨[.int .i64 x.f0],[.string x.f1,.int .i64 x.f2,.int .i64 x.f3],rfl,rfl,⟨[.string x.f1],[.int .i64 x.f2,.int .i64 x.f3],rfl,rfl,⟨[.int .i64 x.f2],[.int .i64 x.f3],rfl,rfl,rfl⟩⟩⟩
theorem k65_mkM(w:World)(base:Nat)(ok:Nat→Prop)(x:S65)  : k65.M w base ok x [.int .i64 x.f0,.string x.f1,.int .i64 x.f2,.int .i64 x.f3]:=⟨[.int .i64 x.f0],[.string x.f1,.int .i64 x.f2,.int .i64 x.f3],rfl,rfl,⟨[.string x.f1],[.int .i64 x.f2,.int .i64 x.f3],rfl,rfl,⟨[.int .i64 x.f2],[.int .i64 x.f3],rfl,rfl,rfl⟩⟩⟩
def rd_T65(xs:List S65)(i:Int):S65:=xs.getD i.toNat z65
theorem at_T65{w:World}{A:Option Addr}{n:Nat}{xs:List S65}(h:Kd.C k65 w A n xs)(i:Int)(h0:0≤i)(h1:i<n):∃ad ,A=some ad∧w.cell? (ad.add (i.toNat*4))=some (.int .i64 (rd_T65 xs i).f0)∧w.cell? ⟨(ad.add (i.toNat*4)).block,(ad.add (i.toNat*4)).off+1,none⟩=some (.string (rd_T65 xs i).f1)∧w.cell? ⟨(ad.add (i.toNat*4)).block,(ad.add (i.toNat*4)).off+2,none⟩=some (.int .i64 (rd_T65 xs i).f2)∧w.cell? ⟨(ad.add (i.toNat*4)).block,(ad.add (i.toNat*4)).off+3,none⟩=some (.int .i64 (rd_T65 xs i).f3):=by
 obtain ⟨ad,c,e,_,hK,hc0⟩:=Kd.C_get h z65 i h0 h1;have hc:∀j u,c[j]? = some u→w.cell? (ad.add (i.toNat*4+j))=some u:=hc0;obtain rfl:=k65_open hK;exact ⟨ad,e,hc 0 _ rfl,by rw [←add_field _ _ 1 (by omega)]; exact hc 1 _ rfl,by rw [←add_field _ _ 2 (by omega)]; exact hc 2 _ rfl,by rw [←add_field _ _ 3 (by omega)]; exact hc 3 _ rfl⟩
structure S61 where
 f0:Int
 f1:Int
 f2:Int
 f3:Int
 f4:ByteArray
 f5:(List Int)
 f6:(List S65)
def z61:S61:=⟨(0:Int),(0:Int),(0:Int),(0:Int),(⟨#[]⟩:ByteArray),([]:List Int),([]:List S65)⟩
def k61:Kd S61:=Kd.iso (Kd.pair (Kd.int .i64) (Kd.pair (Kd.int .i64) (Kd.pair (Kd.int .i64) (Kd.pair (Kd.int .i64) (Kd.pair Kd.string (Kd.pair (Kd.slice 3 (Kd.int .i64)) (Kd.slice 65 k65))))))) (fun x:S61=>(x.f0,x.f1,x.f2,x.f3,x.f4,x.f5,x.f6))
theorem k61_open{w:World}{x:S61}{cs:List Value}(h:k61.K w x cs):∃A5 c5 A6 c6,cs=[.int .i64 x.f0,.int .i64 x.f1,.int .i64 x.f2,.int .i64 x.f3,.string x.f4,.slice A5 x.f5.length c5,.slice A6 x.f6.length c6]∧x.f5.length≤c5∧(Kd.int .i64).C w A5 x.f5.length x.f5∧x.f6.length≤c6∧k65.C w A6 x.f6.length x.f6:=by
 obtain ⟨_,_,rfl,rfl,⟨_,_,rfl,rfl,⟨_,_,rfl,rfl,⟨_,_,rfl,rfl,⟨_,_,rfl,rfl,⟨_,_,rfl,⟨A5,c5,rfl,l5,g5⟩,⟨A6,c6,rfl,l6,g6⟩⟩⟩⟩⟩⟩⟩:=h;exact ⟨A5,c5,A6,c6,rfl,l5,g5,l6,g6⟩
theorem k61_openM{w:World}{base:Nat}{ok:Nat→Prop}{x:S61}{cs:List Value}(h:k61.M w base ok x cs):∃v5 v6,cs=[.int .i64 x.f0,.int .i64 x.f1,.int .i64 x.f2,.int .i64 x.f3,.string x.f4,v5,v6]∧(Kd.int .i64).R 3 w base ok v5 x.f5∧k65.R 65 w base ok v6 x.f6:=by
 obtain ⟨_,_,rfl,rfl,⟨_,_,rfl,rfl,⟨_,_,rfl,rfl,⟨_,_,rfl,rfl,⟨_,_,rfl,rfl,⟨_,_,rfl,⟨v5,rfl,g5⟩,⟨v6,rfl,g6⟩⟩⟩⟩⟩⟩⟩:=h;exact ⟨v5,v6,rfl,g5,g6⟩
theorem k61_mk(w:World)(x:S61){A5:Option Addr}{c5:Nat}(l5:x.f5.length≤c5)(g5:(Kd.int .i64).C w A5 x.f5.length x.f5){A6:Option Addr}{c6:Nat}(l6:x.f6.length≤c6)(g6:k65.C w A6 x.f6.length x.f6):k61.K w x [.int .i64 x.f0,.int .i64 x.f1,.int .i64 x.f2,.int .i64 x.f3,.string x.f4,.slice A5 x.f5.length c5,.slice A6 x.f6.length c6]:=⟨[.int .i64 x.f0],[.int .i64 x.f1,.int .i64 x.f2,.int .i64 x.f3,.string x.f4,.slice A5 x.f5.length c5,.slice A6 x.f6.length c6],rfl,rfl,⟨[.int .i64 x.f1],[.int .i64 x.f2,.int .i64 x.f3,.string x.f4,.slice A5 x.f5.length c5,.slice A6 x.f6.length c6],rfl,rfl,⟨[.int .i64 x.f2],[.int .i64 x.f3,.string x.f4,.slice A5 x.f5.length c5,.slice A6 x.f6.length c6],rfl,rfl,⟨[.int .i64 x.f3],[.string x.f4,.slice A5 x.f5.length c5,.slice A6 x.f6.length c6],rfl,rfl,⟨[.string x.f4],[.slice A5 x.f5.length c5,.slice A6 x.f6.length c6],rfl,rfl,⟨[.slice A5 x.f5.length c5],[.slice A6 x.f6.length c6],rfl,⟨A5,c5,rfl,l5,g5⟩,⟨A6,c6,rfl,l6,g6⟩⟩⟩⟩⟩⟩⟩
theorem k61_mkM(w:World)(base:Nat)(ok:Nat→Prop)(x:S61){v5:Value}(g5:(Kd.int .i64).R 3 w base ok v5 x.f5){v6:Value}(g6:k65.R 65 w base ok v6 x.f6):k61.M w base ok x [.int .i64 x.f0,.int .i64 x.f1,.int .i64 x.f2,.int .i64 x.f3,.string x.f4,v5,v6]:=⟨[.int .i64 x.f0],[.int .i64 x.f1,.int .i64 x.f2,.int .i64 x.f3,.string x.f4,v5,v6],rfl,rfl,⟨[.int .i64 x.f1],[.int .i64 x.f2,.int .i64 x.f3,.string x.f4,v5,v6],rfl,rfl,⟨[.int .i64 x.f2],[.int .i64 x.f3,.string x.f4,v5,v6],rfl,rfl,⟨[.int .i64 x.f3],[.string x.f4,v5,v6],rfl,rfl,⟨[.string x.f4],[v5,v6],rfl,rfl,⟨[v5],[v6],rfl,⟨v5,rfl,g5⟩,⟨v6,rfl,g6⟩⟩⟩⟩⟩⟩⟩
theorem k61_mkF(W:World)(ok:Nat→Prop)(x:S61){A5:Option Addr}{c5:Nat}(l5:x.f5.length≤c5)(g5:Kd.F (Kd.int .i64) W ok A5 x.f5.length x.f5){A6:Option Addr}{c6:Nat}(l6:x.f6.length≤c6)(g6:Kd.F k65 W ok A6 x.f6.length x.f6):Kd.FK k61 W ok x [.int .i64 x.f0,.int .i64 x.f1,.int .i64 x.f2,.int .i64 x.f3,.string x.f4,.slice A5 x.f5.length c5,.slice A6 x.f6.length c6]:=fun W2 hW=>k61_mk W2 x l5 (g5 W2 hW) l6 (g6 W2 hW)
def rd_T61(xs:List S61)(i:Int):S61:=xs.getD i.toNat z61
theorem at_T61{w:World}{A:Option Addr}{n:Nat}{xs:List S61}(h:Kd.C k61 w A n xs)(i:Int)(h0:0≤i)(h1:i<n):∃ad A5 c5 A6 c6,A=some ad∧w.cell? (ad.add (i.toNat*7))=some (.int .i64 (rd_T61 xs i).f0)∧w.cell? ⟨(ad.add (i.toNat*7)).block,(ad.add (i.toNat*7)).off+1,none⟩=some (.int .i64 (rd_T61 xs i).f1)∧w.cell? ⟨(ad.add (i.toNat*7)).block,(ad.add (i.toNat*7)).off+2,none⟩=some (.int .i64 (rd_T61 xs i).f2)∧w.cell? ⟨(ad.add (i.toNat*7)).block,(ad.add (i.toNat*7)).off+3,none⟩=some (.int .i64 (rd_T61 xs i).f3)∧w.cell? ⟨(ad.add (i.toNat*7)).block,(ad.add (i.toNat*7)).off+4,none⟩=some (.string (rd_T61 xs i).f4)∧w.cell? ⟨(ad.add (i.toNat*7)).block,(ad.add (i.toNat*7)).off+5,none⟩=some (.slice A5 (rd_T61 xs i).f5.length c5)∧w.cell? ⟨(ad.add (i.toNat*7)).block,(ad.add (i.toNat*7)).off+6,none⟩=some (.slice A6 (rd_T61 xs i).f6.length c6)∧(rd_T61 xs i).f5.length≤c5∧(Kd.int .i64).C w A5 (rd_T61 xs i).f5.length (rd_T61 xs i).f5∧(rd_T61 xs i).f6.length≤c6∧k65.C w A6 (rd_T61 xs i).f6.length (rd_T61 xs i).f6:=by
 obtain ⟨ad,c,e,_,hK,hc0⟩:=Kd.C_get h z61 i h0 h1;have hc:∀j u,c[j]? = some u→w.cell? (ad.add (i.toNat*7+j))=some u:=hc0;obtain ⟨A5,c5,A6,c6,rfl,l5,g5,l6,g6⟩:=k61_open hK;exact ⟨ad,A5,c5,A6,c6,e,hc 0 _ rfl,by rw [←add_field _ _ 1 (by omega)]; exact hc 1 _ rfl,by rw [←add_field _ _ 2 (by omega)]; exact hc 2 _ rfl,by rw [←add_field _ _ 3 (by omega)]; exact hc 3 _ rfl,by rw [←add_field _ _ 4 (by omega)]; exact hc 4 _ rfl,by rw [←add_field _ _ 5 (by omega)]; exact hc 5 _ rfl,by rw [←add_field _ _ 6 (by omega)]; exact hc 6 _ rfl,l5,g5,l6,g6⟩
structure S50 where
 f0:Int
 f1:Int
 f2:(List S61)
def z50:S50:=⟨(0:Int),(0:Int),([]:List S61)⟩
def k50:Kd S50:=Kd.iso (Kd.pair (Kd.int .i64) (Kd.pair (Kd.int .i64) (Kd.slice 61 k61))) (fun x:S50=>(x.f0,x.f1,x.f2))
theorem k50_open{w:World}{x:S50}{cs:List Value}(h:k50.K w x cs):∃A2 c2,cs=[.int .i64 x.f0,.int .i64 x.f1,.slice A2 x.f2.length c2]∧x.f2.length≤c2∧k61.C w A2 x.f2.length x.f2:=by
 obtain ⟨_,_,rfl,rfl,⟨_,_,rfl,rfl,⟨A2,c2,rfl,l2,g2⟩⟩⟩:=h;exact ⟨A2,c2,rfl,l2,g2⟩
theorem k50_openM{w:World}{base:Nat}{ok:Nat→Prop}{x:S50}{cs:List Value}(h:k50.M w base ok x cs):∃v2,cs=[.int .i64 x.f0,.int .i64 x.f1,v2]∧k61.R 61 w base ok v2 x.f2:=by
 obtain ⟨_,_,rfl,rfl,⟨_,_,rfl,rfl,⟨v2,rfl,g2⟩⟩⟩:=h;exact ⟨v2,rfl,g2⟩
theorem k50_mk(w:World)(x:S50){A2:Option Addr}{c2:Nat}(l2:x.f2.length≤c2)(g2:k61.C w A2 x.f2.length x.f2):k50.K w x [.int .i64 x.f0,.int .i64 x.f1,.slice A2 x.f2.length c2]:=⟨[.int .i64 x.f0],[.int .i64 x.f1,.slice A2 x.f2.length c2],rfl,rfl,⟨[.int .i64 x.f1],[.slice A2 x.f2.length c2],rfl,rfl,⟨A2,c2,rfl,l2,g2⟩⟩⟩
theorem k50_mkM(w:World)(base:Nat)(ok:Nat→Prop)(x:S50){v2:Value}(g2:k61.R 61 w base ok v2 x.f2):k50.M w base ok x [.int .i64 x.f0,.int .i64 x.f1,v2]:=⟨[.int .i64 x.f0],[.int .i64 x.f1,v2],rfl,rfl,⟨[.int .i64 x.f1],[v2],rfl,rfl,⟨v2,rfl,g2⟩⟩⟩
theorem k50_mkF(W:World)(ok:Nat→Prop)(x:S50){A2:Option Addr}{c2:Nat}(l2:x.f2.length≤c2)(g2:Kd.F k61 W ok A2 x.f2.length x.f2):Kd.FK k50 W ok x [.int .i64 x.f0,.int .i64 x.f1,.slice A2 x.f2.length c2]:=fun W2 hW=>k50_mk W2 x l2 (g2 W2 hW)
def rd_T50(xs:List S50)(i:Int):S50:=xs.getD i.toNat z50
theorem at_T50{w:World}{A:Option Addr}{n:Nat}{xs:List S50}(h:Kd.C k50 w A n xs)(i:Int)(h0:0≤i)(h1:i<n):∃ad A2 c2,A=some ad∧w.cell? (ad.add (i.toNat*3))=some (.int .i64 (rd_T50 xs i).f0)∧w.cell? ⟨(ad.add (i.toNat*3)).block,(ad.add (i.toNat*3)).off+1,none⟩=some (.int .i64 (rd_T50 xs i).f1)∧w.cell? ⟨(ad.add (i.toNat*3)).block,(ad.add (i.toNat*3)).off+2,none⟩=some (.slice A2 (rd_T50 xs i).f2.length c2)∧(rd_T50 xs i).f2.length≤c2∧k61.C w A2 (rd_T50 xs i).f2.length (rd_T50 xs i).f2:=by
 obtain ⟨ad,c,e,_,hK,hc0⟩:=Kd.C_get h z50 i h0 h1;have hc:∀j u,c[j]? = some u→w.cell? (ad.add (i.toNat*3+j))=some u:=hc0;obtain ⟨A2,c2,rfl,l2,g2⟩:=k50_open hK;exact ⟨ad,A2,c2,e,hc 0 _ rfl,by rw [←add_field _ _ 1 (by omega)]; exact hc 1 _ rfl,by rw [←add_field _ _ 2 (by omega)]; exact hc 2 _ rfl,l2,g2⟩
structure S53 where
 f0:ByteArray
 f1:Int
def z53:S53:=⟨(⟨#[]⟩:ByteArray),(0:Int)⟩
def k53:Kd S53:=Kd.iso (Kd.pair Kd.string (Kd.int .i64)) (fun x:S53=>(x.f0,x.f1))
theorem k53_open{w:World}{x:S53}{cs:List Value}(h:k53.K w x cs):cs=[.string x.f0,.int .i64 x.f1]:=by
 obtain ⟨_,_,rfl,rfl,rfl⟩:=h;exact rfl
theorem k53_mk(w:World)(x:S53)  : k53.K w x [.string x.f0,.int .i64 x.f1]:=⟨[.string x.f0],[.int .i64 x.f1],rfl,rfl,rfl⟩
theorem k53_mkM(w:World)(base:Nat)(ok:Nat→Prop)(x:S53)  : k53.M w base ok x [.string x.f0,.int .i64 x.f1]:=⟨[.string x.f0],[.int .i64 x.f1],rfl,rfl,rfl⟩
def rd_T53(xs:List S53)(i:Int):S53:=xs.getD i.toNat z53
theorem at_T53{w:World}{A:Option Addr}{n:Nat}{xs:List S53}(h:Kd.C k53 w A n xs)(i:Int)(h0:0≤i)(h1:i<n):∃ad ,A=some ad∧w.cell? (ad.add (i.toNat*2))=some (.string (rd_T53 xs i).f0)∧w.cell? ⟨(ad.add (i.toNat*2)).block,(ad.add (i.toNat*2)).off+1,none⟩=some (.int .i64 (rd_T53 xs i).f1):=by
 obtain ⟨ad,c,e,_,hK,hc0⟩:=Kd.C_get h z53 i h0 h1;have hc:∀j u,c[j]? = some u→w.cell? (ad.add (i.toNat*2+j))=some u:=hc0;obtain rfl:=k53_open hK;exact ⟨ad,e,hc 0 _ rfl,by rw [←add_field _ _ 1 (by omega)]; exact hc 1 _ rfl⟩
theorem info3:(Tryz.prog.info? 3).map (fun i=>(i.zero,i.size,i.bytes))=some (some (.int .i64 0),1,8):=by kernel_rfl
theorem info9:(Tryz.prog.info? 9).map (fun i=>(i.zero,i.size,i.bytes))=some (some (.string ⟨#[]⟩),1,16):=by kernel_rfl
end Go.Proofs.YtjbgcpdlgplcfabGreatDoor.PT
