/- Functions of the program as plain functions, and that each Go function answers as its plain one, as the kit's printer wrote them, cut down to what this claim leans on. Conditions: as each states. -/
import Derived.Test.YtjbgcpdlgplcfaaGreatDoorProg
import Derived.Below
import Derived.Deep.Draws
import Derived.Deep.AppendLies
import Derived.Maps.AppendAt
import Derived.OwnWalk
import Derived.Laws.BytesArg
import Derived.Laws.MakeOwn
import Derived.Laws.OwnMore
import Derived.Deep.OwnRows
import Derived.Tactics
import Derived.Lib.ConvBytes
import Derived.Laws.Slices
import Derived.WalkKit
import Derived.KernelRfl
import Derived.RowKit3
import Derived.Deep.LoopGhost
import Derived.Deep.QuietTactic
import Derived.BigQuiet
import Derived.WideLaws
import Derived.Deep.DeepCutAuto
import Derived.Deep.CutBlock
import Derived.Deep.RegionHeld3
import Derived.Laws.Rows
import Derived.Lib.AppendStr
import Derived.ArgAppend
import Derived.Laws.IdiomCopy
import Derived.OrdersHeld
import Derived.Laws.BitsLemmas
import Derived.RowKit
import Derived.Test.YtjbgcpdlgplcfaaGreatDoorWW
namespace Go.Proofs.YtjbgcpdlgplcfaaGreatDoorW.PrintMore
end Go.Proofs.YtjbgcpdlgplcfaaGreatDoorW.PrintMore
namespace Go.Proofs.YtjbgcpdlgplcfaaGreatDoor.PT
open Go.RowKit Go.Proofs.YtjbgcpdlgplcfaaGreatDoorW.PrintWords Go.Proofs.YtjbgcpdlgplcfaaGreatDoorW.PrintLast Go.Proofs.YtjbgcpdlgplcfaaGreatDoorW.PrintMore
set_option linter.unusedVariables false
set_option linter.unusedSimpArgs false
def errW:Option Int→Value
 |none=>.nilIface
 |some c=>.iface 0 (.int .i64 c)
theorem errW_none:errW none=.nilIface:=rfl
theorem errW_some(c:Int):errW (some c)=.iface 0 (.int .i64 c):=rfl
theorem info35:(Tryz.prog.info? 35).map (fun i=>(i.zero,i.size,i.bytes))=some (some (.agg #[(.int .i64 0),(.int .i64 0),(.slice none 0 0)]),3,40):=by kernel_rfl
theorem info39:(Tryz.prog.info? 39).map (fun i=>(i.zero,i.size,i.bytes))=some (some (.agg #[(.int .i64 0),(.int .i64 0),(.int .i64 0),(.int .i64 0),(.string ⟨#[]⟩),(.slice none 0 0),(.slice none 0 0)]),7,96):=by kernel_rfl
theorem info54:(Tryz.prog.info? 54).map (fun i=>(i.zero,i.size,i.bytes))=some (some (.agg #[(.string ⟨#[]⟩),(.int .i64 0)]),2,24):=by kernel_rfl
structure S63 where
 f0:Int
 f1:ByteArray
 f2:Int
 f3:Int
def z63:S63:=⟨(0:Int),(⟨#[]⟩:ByteArray),(0:Int),(0:Int)⟩
def k63:Kd S63:=Kd.iso (Kd.pair (Kd.int .i64) (Kd.pair Kd.string (Kd.pair (Kd.int .i64) (Kd.int .i64)))) (fun x:S63=>(x.f0,x.f1,x.f2,x.f3))
theorem k63_open{w:World}{x:S63}{cs:List Value}(h:k63.K w x cs):cs=[.int .i64 x.f0,.string x.f1,.int .i64 x.f2,.int .i64 x.f3]:=by
 obtain ⟨_,_,rfl,rfl,⟨_,_,rfl,rfl,⟨_,_,rfl,rfl,rfl⟩⟩⟩:=h;exact rfl
theorem k63_mk(w:World)(x:S63)  : k63.K w x [.int .i64 x.f0,.string x.f1,.int .i64 x.f2,.int .i64 x.f3]:=⟨[.int .i64 x.f0],[.string x.f1,.int .i64 x.f2,.int .i64 x.f3],rfl,rfl,⟨[.string x.f1],[.int .i64 x.f2,.int .i64 x.f3],rfl,rfl,⟨[.int .i64 x.f2],[.int .i64 x.f3],rfl,rfl,rfl⟩⟩⟩
theorem k63_mkM(w:World)(base:Nat)(ok:Nat→Prop)(x:S63)  : k63.M w base ok x [.int .i64 x.f0,.string x.f1,.int .i64 x.f2,.int .i64 x.f3]:=⟨[.int .i64 x.f0],[.string x.f1,.int .i64 x.f2,.int .i64 x.f3],rfl,rfl,⟨[.string x.f1],[.int .i64 x.f2,.int .i64 x.f3],rfl,rfl,⟨[.int .i64 x.f2],[.int .i64 x.f3],rfl,rfl,rfl⟩⟩⟩
def rd_T63(xs:List S63)(i:Int):S63:=xs.getD i.toNat z63
theorem at_T63{w:World}{A:Option Addr}{n:Nat}{xs:List S63}(h:Kd.C k63 w A n xs)(i:Int)(h0:0≤i)(h1:i<n):∃ad ,A=some ad∧w.cell? (ad.add (i.toNat*4))=some (.int .i64 (rd_T63 xs i).f0)∧w.cell? ⟨(ad.add (i.toNat*4)).block,(ad.add (i.toNat*4)).off+1,none⟩=some (.string (rd_T63 xs i).f1)∧w.cell? ⟨(ad.add (i.toNat*4)).block,(ad.add (i.toNat*4)).off+2,none⟩=some (.int .i64 (rd_T63 xs i).f2)∧w.cell? ⟨(ad.add (i.toNat*4)).block,(ad.add (i.toNat*4)).off+3,none⟩=some (.int .i64 (rd_T63 xs i).f3):=by
 obtain ⟨ad,c,e,_,hK,hc0⟩:=Kd.C_get h z63 i h0 h1;have hc:∀j u,c[j]? = some u→w.cell? (ad.add (i.toNat*4+j))=some u:=hc0;obtain rfl:=k63_open hK;exact ⟨ad,e,hc 0 _ rfl,by rw [←add_field _ _ 1 (by omega)]; exact hc 1 _ rfl,by rw [←add_field _ _ 2 (by omega)]; exact hc 2 _ rfl,by rw [←add_field _ _ 3 (by omega)]; exact hc 3 _ rfl⟩
structure S39 where
 f0:Int
 f1:Int
 f2:Int
 f3:Int
 f4:ByteArray
 f5:(List Int)
 f6:(List S63)
def z39:S39:=⟨(0:Int),(0:Int),(0:Int),(0:Int),(⟨#[]⟩:ByteArray),([]:List Int),([]:List S63)⟩
def k39:Kd S39:=Kd.iso (Kd.pair (Kd.int .i64) (Kd.pair (Kd.int .i64) (Kd.pair (Kd.int .i64) (Kd.pair (Kd.int .i64) (Kd.pair Kd.string (Kd.pair (Kd.slice 3 (Kd.int .i64)) (Kd.slice 63 k63))))))) (fun x:S39=>(x.f0,x.f1,x.f2,x.f3,x.f4,x.f5,x.f6))
theorem k39_open{w:World}{x:S39}{cs:List Value}(h:k39.K w x cs):∃A5 c5 A6 c6,cs=[.int .i64 x.f0,.int .i64 x.f1,.int .i64 x.f2,.int .i64 x.f3,.string x.f4,.slice A5 x.f5.length c5,.slice A6 x.f6.length c6]∧x.f5.length≤c5∧(Kd.int .i64).C w A5 x.f5.length x.f5∧x.f6.length≤c6∧k63.C w A6 x.f6.length x.f6:=by
 obtain ⟨_,_,rfl,rfl,⟨_,_,rfl,rfl,⟨_,_,rfl,rfl,⟨_,_,rfl,rfl,⟨_,_,rfl,rfl,⟨_,_,rfl,⟨A5,c5,rfl,l5,g5⟩,⟨A6,c6,rfl,l6,g6⟩⟩⟩⟩⟩⟩⟩:=h;exact ⟨A5,c5,A6,c6,rfl,l5,g5,l6,g6⟩
theorem k39_openM{w:World}{base:Nat}{ok:Nat→Prop}{x:S39}{cs:List Value}(h:k39.M w base ok x cs):∃v5 v6,cs=[.int .i64 x.f0,.int .i64 x.f1,.int .i64 x.f2,.int .i64 x.f3,.string x.f4,v5,v6]∧(Kd.int .i64).R 3 w base ok v5 x.f5∧k63.R 63 w base ok v6 x.f6:=by
 obtain ⟨_,_,rfl,rfl,⟨_,_,rfl,rfl,⟨_,_,rfl,rfl,⟨_,_,rfl,rfl,⟨_,_,rfl,rfl,⟨_,_,rfl,⟨v5,rfl,g5⟩,⟨v6,rfl,g6⟩⟩⟩⟩⟩⟩⟩:=h;exact ⟨v5,v6,rfl,g5,g6⟩
theorem k39_mk(w:World)(x:S39){A5:Option Addr}{c5:Nat}(l5:x.f5.length≤c5)(g5:(Kd.int .i64).C w A5 x.f5.length x.f5){A6:Option Addr}{c6:Nat}(l6:x.f6.length≤c6)(g6:k63.C w A6 x.f6.length x.f6):k39.K w x [.int .i64 x.f0,.int .i64 x.f1,.int .i64 x.f2,.int .i64 x.f3,.string x.f4,.slice A5 x.f5.length c5,.slice A6 x.f6.length c6]:=⟨[.int .i64 x.f0],[.int .i64 x.f1,.int .i64 x.f2,.int .i64 x.f3,.string x.f4,.slice A5 x.f5.length c5,.slice A6 x.f6.length c6],rfl,rfl,⟨[.int .i64 x.f1],[.int .i64 x.f2,.int .i64 x.f3,.string x.f4,.slice A5 x.f5.length c5,.slice A6 x.f6.length c6],rfl,rfl,⟨[.int .i64 x.f2],[.int .i64 x.f3,.string x.f4,.slice A5 x.f5.length c5,.slice A6 x.f6.length c6],rfl,rfl,⟨[.int .i64 x.f3],[.string x.f4,.slice A5 x.f5.length c5,.slice A6 x.f6.length c6],rfl,rfl,⟨[.string x.f4],[.slice A5 x.f5.length c5,.slice A6 x.f6.length c6],rfl,rfl,⟨[.slice A5 x.f5.length c5],[.slice A6 x.f6.length c6],rfl,⟨A5,c5,rfl,l5,g5⟩,⟨A6,c6,rfl,l6,g6⟩⟩⟩⟩⟩⟩⟩
theorem k39_mkM(w:World)(base:Nat)(ok:Nat→Prop)(x:S39){v5:Value}(g5:(Kd.int .i64).R 3 w base ok v5 x.f5){v6:Value}(g6:k63.R 63 w base ok v6 x.f6):k39.M w base ok x [.int .i64 x.f0,.int .i64 x.f1,.int .i64 x.f2,.int .i64 x.f3,.string x.f4,v5,v6]:=⟨[.int .i64 x.f0],[.int .i64 x.f1,.int .i64 x.f2,.int .i64 x.f3,.string x.f4,v5,v6],rfl,rfl,⟨[.int .i64 x.f1],[.int .i64 x.f2,.int .i64 x.f3,.string x.f4,v5,v6],rfl,rfl,⟨[.int .i64 x.f2],[.int .i64 x.f3,.string x.f4,v5,v6],rfl,rfl,⟨[.int .i64 x.f3],[.string x.f4,v5,v6],rfl,rfl,⟨[.string x.f4],[v5,v6],rfl,rfl,⟨[v5],[v6],rfl,⟨v5,rfl,g5⟩,⟨v6,rfl,g6⟩⟩⟩⟩⟩⟩⟩
theorem k39_mkF(W:World)(ok:Nat→Prop)(x:S39){A5:Option Addr}{c5:Nat}(l5:x.f5.length≤c5)(g5:Kd.F (Kd.int .i64) W ok A5 x.f5.length x.f5){A6:Option Addr}{c6:Nat}(l6:x.f6.length≤c6)(g6:Kd.F k63 W ok A6 x.f6.length x.f6):Kd.FK k39 W ok x [.int .i64 x.f0,.int .i64 x.f1,.int .i64 x.f2,.int .i64 x.f3,.string x.f4,.slice A5 x.f5.length c5,.slice A6 x.f6.length c6]:=fun W2 hW=>k39_mk W2 x l5 (g5 W2 hW) l6 (g6 W2 hW)
def rd_T39(xs:List S39)(i:Int):S39:=xs.getD i.toNat z39
theorem at_T39{w:World}{A:Option Addr}{n:Nat}{xs:List S39}(h:Kd.C k39 w A n xs)(i:Int)(h0:0≤i)(h1:i<n):∃ad A5 c5 A6 c6,A=some ad∧w.cell? (ad.add (i.toNat*7))=some (.int .i64 (rd_T39 xs i).f0)∧w.cell? ⟨(ad.add (i.toNat*7)).block,(ad.add (i.toNat*7)).off+1,none⟩=some (.int .i64 (rd_T39 xs i).f1)∧w.cell? ⟨(ad.add (i.toNat*7)).block,(ad.add (i.toNat*7)).off+2,none⟩=some (.int .i64 (rd_T39 xs i).f2)∧w.cell? ⟨(ad.add (i.toNat*7)).block,(ad.add (i.toNat*7)).off+3,none⟩=some (.int .i64 (rd_T39 xs i).f3)∧w.cell? ⟨(ad.add (i.toNat*7)).block,(ad.add (i.toNat*7)).off+4,none⟩=some (.string (rd_T39 xs i).f4)∧w.cell? ⟨(ad.add (i.toNat*7)).block,(ad.add (i.toNat*7)).off+5,none⟩=some (.slice A5 (rd_T39 xs i).f5.length c5)∧w.cell? ⟨(ad.add (i.toNat*7)).block,(ad.add (i.toNat*7)).off+6,none⟩=some (.slice A6 (rd_T39 xs i).f6.length c6)∧(rd_T39 xs i).f5.length≤c5∧(Kd.int .i64).C w A5 (rd_T39 xs i).f5.length (rd_T39 xs i).f5∧(rd_T39 xs i).f6.length≤c6∧k63.C w A6 (rd_T39 xs i).f6.length (rd_T39 xs i).f6:=by
 obtain ⟨ad,c,e,_,hK,hc0⟩:=Kd.C_get h z39 i h0 h1;have hc:∀j u,c[j]? = some u→w.cell? (ad.add (i.toNat*7+j))=some u:=hc0;obtain ⟨A5,c5,A6,c6,rfl,l5,g5,l6,g6⟩:=k39_open hK;exact ⟨ad,A5,c5,A6,c6,e,hc 0 _ rfl,by rw [←add_field _ _ 1 (by omega)]; exact hc 1 _ rfl,by rw [←add_field _ _ 2 (by omega)]; exact hc 2 _ rfl,by rw [←add_field _ _ 3 (by omega)]; exact hc 3 _ rfl,by rw [←add_field _ _ 4 (by omega)]; exact hc 4 _ rfl,by rw [←add_field _ _ 5 (by omega)]; exact hc 5 _ rfl,by rw [←add_field _ _ 6 (by omega)]; exact hc 6 _ rfl,l5,g5,l6,g6⟩
structure S35 where
 f0:Int
 f1:Int
 f2:(List S39)
def z35:S35:=⟨(0:Int),(0:Int),([]:List S39)⟩
def k35:Kd S35:=Kd.iso (Kd.pair (Kd.int .i64) (Kd.pair (Kd.int .i64) (Kd.slice 39 k39))) (fun x:S35=>(x.f0,x.f1,x.f2))
theorem k35_open{w:World}{x:S35}{cs:List Value}(h:k35.K w x cs):∃A2 c2,cs=[.int .i64 x.f0,.int .i64 x.f1,.slice A2 x.f2.length c2]∧x.f2.length≤c2∧k39.C w A2 x.f2.length x.f2:=by
 obtain ⟨_,_,rfl,rfl,⟨_,_,rfl,rfl,⟨A2,c2,rfl,l2,g2⟩⟩⟩:=h;exact ⟨A2,c2,rfl,l2,g2⟩
theorem k35_openM{w:World}{base:Nat}{ok:Nat→Prop}{x:S35}{cs:List Value}(h:k35.M w base ok x cs):∃v2,cs=[.int .i64 x.f0,.int .i64 x.f1,v2]∧k39.R 39 w base ok v2 x.f2:=by
 obtain ⟨_,_,rfl,rfl,⟨_,_,rfl,rfl,⟨v2,rfl,g2⟩⟩⟩:=h;exact ⟨v2,rfl,g2⟩
theorem k35_mk(w:World)(x:S35){A2:Option Addr}{c2:Nat}(l2:x.f2.length≤c2)(g2:k39.C w A2 x.f2.length x.f2):k35.K w x [.int .i64 x.f0,.int .i64 x.f1,.slice A2 x.f2.length c2]:=⟨[.int .i64 x.f0],[.int .i64 x.f1,.slice A2 x.f2.length c2],rfl,rfl,⟨[.int .i64 x.f1],[.slice A2 x.f2.length c2],rfl,rfl,⟨A2,c2,rfl,l2,g2⟩⟩⟩
theorem k35_mkM(w:World)(base:Nat)(ok:Nat→Prop)(x:S35){v2:Value}(g2:k39.R 39 w base ok v2 x.f2):k35.M w base ok x [.int .i64 x.f0,.int .i64 x.f1,v2]:=⟨[.int .i64 x.f0],[.int .i64 x.f1,v2],rfl,rfl,⟨[.int .i64 x.f1],[v2],rfl,rfl,⟨v2,rfl,g2⟩⟩⟩
theorem k35_mkF(W:World)(ok:Nat→Prop)(x:S35){A2:Option Addr}{c2:Nat}(l2:x.f2.length≤c2)(g2:Kd.F k39 W ok A2 x.f2.length x.f2):Kd.FK k35 W ok x [.int .i64 x.f0,.int .i64 x.f1,.slice A2 x.f2.length c2]:=fun W2 hW=>k35_mk W2 x l2 (g2 W2 hW)
def rd_T35(xs:List S35)(i:Int):S35:=xs.getD i.toNat z35
theorem at_T35{w:World}{A:Option Addr}{n:Nat}{xs:List S35}(h:Kd.C k35 w A n xs)(i:Int)(h0:0≤i)(h1:i<n):∃ad A2 c2,A=some ad∧w.cell? (ad.add (i.toNat*3))=some (.int .i64 (rd_T35 xs i).f0)∧w.cell? ⟨(ad.add (i.toNat*3)).block,(ad.add (i.toNat*3)).off+1,none⟩=some (.int .i64 (rd_T35 xs i).f1)∧w.cell? ⟨(ad.add (i.toNat*3)).block,(ad.add (i.toNat*3)).off+2,none⟩=some (.slice A2 (rd_T35 xs i).f2.length c2)∧(rd_T35 xs i).f2.length≤c2∧k39.C w A2 (rd_T35 xs i).f2.length (rd_T35 xs i).f2:=by
 obtain ⟨ad,c,e,_,hK,hc0⟩:=Kd.C_get h z35 i h0 h1;have hc:∀j u,c[j]? = some u→w.cell? (ad.add (i.toNat*3+j))=some u:=hc0;obtain ⟨A2,c2,rfl,l2,g2⟩:=k35_open hK;exact ⟨ad,A2,c2,e,hc 0 _ rfl,by rw [←add_field _ _ 1 (by omega)]; exact hc 1 _ rfl,by rw [←add_field _ _ 2 (by omega)]; exact hc 2 _ rfl,l2,g2⟩
structure S54 where
 f0:ByteArray
 f1:Int
def z54:S54:=⟨(⟨#[]⟩:ByteArray),(0:Int)⟩
def k54:Kd S54:=Kd.iso (Kd.pair Kd.string (Kd.int .i64)) (fun x:S54=>(x.f0,x.f1))
theorem k54_open{w:World}{x:S54}{cs:List Value}(h:k54.K w x cs):cs=[.string x.f0,.int .i64 x.f1]:=by
 obtain ⟨_,_,rfl,rfl,rfl⟩:=h;exact rfl
theorem k54_mk(w:World)(x:S54)  : k54.K w x [.string x.f0,.int .i64 x.f1]:=⟨[.string x.f0],[.int .i64 x.f1],rfl,rfl,rfl⟩
theorem k54_mkM(w:World)(base:Nat)(ok:Nat→Prop)(x:S54)  : k54.M w base ok x [.string x.f0,.int .i64 x.f1]:=⟨[.string x.f0],[.int .i64 x.f1],rfl,rfl,rfl⟩
def rd_T54(xs:List S54)(i:Int):S54:=xs.getD i.toNat z54
theorem at_T54{w:World}{A:Option Addr}{n:Nat}{xs:List S54}(h:Kd.C k54 w A n xs)(i:Int)(h0:0≤i)(h1:i<n):∃ad ,A=some ad∧w.cell? (ad.add (i.toNat*2))=some (.string (rd_T54 xs i).f0)∧w.cell? ⟨(ad.add (i.toNat*2)).block,(ad.add (i.toNat*2)).off+1,none⟩=some (.int .i64 (rd_T54 xs i).f1):=by
 obtain ⟨ad,c,e,_,hK,hc0⟩:=Kd.C_get h z54 i h0 h1;have hc:∀j u,c[j]? = some u→w.cell? (ad.add (i.toNat*2+j))=some u:=hc0;obtain rfl:=k54_open hK;exact ⟨ad,e,hc 0 _ rfl,by rw [←add_field _ _ 1 (by omega)]; exact hc 1 _ rfl⟩
theorem info3:(Tryz.prog.info? 3).map (fun i=>(i.zero,i.size,i.bytes))=some (some (.int .i64 0),1,8):=by kernel_rfl
theorem info9:(Tryz.prog.info? 9).map (fun i=>(i.zero,i.size,i.bytes))=some (some (.string ⟨#[]⟩),1,16):=by kernel_rfl
end Go.Proofs.YtjbgcpdlgplcfaaGreatDoor.PT
