/- Functions of the program as plain functions, and that each Go function answers as its plain one, as the kit's printer wrote them, cut down to what this claim leans on. Conditions: as each states. -/
import Derived.Test.YtoonkkipnljflaaGreatDoorProg
import Derived.Below
import Derived.Deep.Draws
import Derived.Deep.AppendLies
import Derived.Maps.AppendAt
import Derived.OwnWalk
import Derived.Laws.BytesArg
import Derived.Laws.MakeOwn
import Derived.Laws.OwnMore
import Derived.Deep.OwnRows
import Derived.Tactics
import Derived.Lib.ConvBytes
import Derived.Laws.Slices
import Derived.WalkKit
import Derived.KernelRfl
import Derived.RowKit3
import Derived.Deep.LoopGhost
import Derived.Deep.QuietTactic
import Derived.BigQuiet
import Derived.WideLaws
import Derived.Deep.DeepCutAuto
import Derived.Deep.CutBlock
import Derived.Deep.RegionHeld3
import Derived.Laws.Rows
import Derived.Lib.AppendStr
import Derived.ArgAppend
import Derived.Laws.IdiomCopy
import Derived.OrdersHeld
import Derived.Laws.BitsLemmas
import Derived.RowKit
import Derived.Test.YtoonkkipnljflaaGreatDoorWW
namespace Go.Proofs.YtoonkkipnljflaaGreatDoorW.PrintMore
end Go.Proofs.YtoonkkipnljflaaGreatDoorW.PrintMore
namespace Go.Proofs.YtoonkkipnljflaaGreatDoor.PT
open Go.RowKit Go.Proofs.YtoonkkipnljflaaGreatDoorW.PrintWords Go.Proofs.YtoonkkipnljflaaGreatDoorW.PrintLast Go.Proofs.YtoonkkipnljflaaGreatDoorW.PrintMore
set_option linter.unusedVariables false
set_option linter.unusedSimpArgs false
theorem qGu:(Tryz.prog.info? 55).map (fun i=>(i.zero,i.size,i.bytes))=some (some (.agg #[(.int .i64 0),(.int .i64 0),(.slice none 0 0)]),3,40):=by kernel_rfl
theorem qGv:(Tryz.prog.info? 59).map (fun i=>(i.zero,i.size,i.bytes))=some (some (.agg #[(.int .i64 0),(.int .i64 0),(.int .i64 0),(.int .i64 0),(.string ⟨#[]⟩),(.slice none 0 0),(.slice none 0 0)]),7,96):=by kernel_rfl
theorem qGw:(Tryz.prog.info? 63).map (fun i=>(i.zero,i.size,i.bytes))=some (some (.agg #[(.string ⟨#[]⟩),(.int .i64 0)]),2,24):=by kernel_rfl
structure S86 where
 f0:Int
 f1:ByteArray
 f2:Int
 f3:Int
def z86:S86:=⟨(0:Int),(⟨#[]⟩:ByteArray),(0:Int),(0:Int)⟩
def k86:Kd S86:=Kd.iso (Kd.pair (Kd.int .i64) (Kd.pair Kd.string (Kd.pair (Kd.int .i64) (Kd.int .i64)))) (fun x:S86=>(x.f0,x.f1,x.f2,x.f3))
theorem k86_open{w:World}{x:S86}{cs:List Value}(h:k86.K w x cs):cs=[.int .i64 x.f0,.string x.f1,.int .i64 x.f2,.int .i64 x.f3]:=by
 obtain ⟨_,_,rfl,rfl,⟨_,_,rfl,rfl,⟨_,_,rfl,rfl,rfl⟩⟩⟩:=h;exact rfl
theorem qFW(w:World)(base:Nat)(ok:Nat→Prop)(x:S86)  : k86.M w base ok x [.int .i64 x.f0,.string x.f1,.int .i64 x.f2,.int .i64 x.f3]:=⟨[.int .i64 x.f0],[.string x.f1,.int .i64 x.f2,.int .i64 x.f3],rfl,rfl,⟨[.string x.f1],[.int .i64 x.f2,.int .i64 x.f3],rfl,rfl,⟨[.int .i64 x.f2],[.int .i64 x.f3],rfl,rfl,rfl⟩⟩⟩
def QK(xs:List S86)(i:Int):S86:=xs.getD i.toNat z86
theorem qA2{w:World}{A:Option Addr}{n:Nat}{xs:List S86}(h:Kd.C k86 w A n xs)(i:Int)(h0:0≤i)(h1:i<n):∃ad ,A=some ad∧w.cell? (ad.add (i.toNat*4))=some (.int .i64 (QK xs i).f0)∧w.cell? ⟨(ad.add (i.toNat*4)).block,(ad.add (i.toNat*4)).off+1,none⟩=some (.string (QK xs i).f1)∧w.cell? ⟨(ad.add (i.toNat*4)).block,(ad.add (i.toNat*4)).off+2,none⟩=some (.int .i64 (QK xs i).f2)∧w.cell? ⟨(ad.add (i.toNat*4)).block,(ad.add (i.toNat*4)).off+3,none⟩=some (.int .i64 (QK xs i).f3):=by
 obtain ⟨ad,c,e,_,hK,hc0⟩:=Kd.C_get h z86 i h0 h1;have hc:∀j u,c[j]? = some u→w.cell? (ad.add (i.toNat*4+j))=some u:=hc0;obtain rfl:=k86_open hK;exact ⟨ad,e,hc 0 _ rfl,by rw [←qy _ _ 1 (by omega)]; exact hc 1 _ rfl,by rw [←qy _ _ 2 (by omega)]; exact hc 2 _ rfl,by rw [←qy _ _ 3 (by omega)]; exact hc 3 _ rfl⟩
structure S59 where
 f0:Int
 f1:Int
 f2:Int
 f3:Int
 f4:ByteArray
 f5:(List Int)
 f6:(List S86)
def z59:S59:=⟨(0:Int),(0:Int),(0:Int),(0:Int),(⟨#[]⟩:ByteArray),([]:List Int),([]:List S86)⟩
def k59:Kd S59:=Kd.iso (Kd.pair (Kd.int .i64) (Kd.pair (Kd.int .i64) (Kd.pair (Kd.int .i64) (Kd.pair (Kd.int .i64) (Kd.pair Kd.string (Kd.pair (Kd.slice 3 (Kd.int .i64)) (Kd.slice 86 k86))))))) (fun x:S59=>(x.f0,x.f1,x.f2,x.f3,x.f4,x.f5,x.f6))
theorem k59_open{w:World}{x:S59}{cs:List Value}(h:k59.K w x cs):∃A5 c5 A6 c6,cs=[.int .i64 x.f0,.int .i64 x.f1,.int .i64 x.f2,.int .i64 x.f3,.string x.f4,.slice A5 x.f5.length c5,.slice A6 x.f6.length c6]∧x.f5.length≤c5∧(Kd.int .i64).C w A5 x.f5.length x.f5∧x.f6.length≤c6∧k86.C w A6 x.f6.length x.f6:=by
 obtain ⟨_,_,rfl,rfl,⟨_,_,rfl,rfl,⟨_,_,rfl,rfl,⟨_,_,rfl,rfl,⟨_,_,rfl,rfl,⟨_,_,rfl,⟨A5,c5,rfl,l5,g5⟩,⟨A6,c6,rfl,l6,g6⟩⟩⟩⟩⟩⟩⟩:=h;exact ⟨A5,c5,A6,c6,rfl,l5,g5,l6,g6⟩
theorem qDc{w:World}{base:Nat}{ok:Nat→Prop}{x:S59}{cs:List Value}(h:k59.M w base ok x cs):∃v5 v6,cs=[.int .i64 x.f0,.int .i64 x.f1,.int .i64 x.f2,.int .i64 x.f3,.string x.f4,v5,v6]∧(Kd.int .i64).R 3 w base ok v5 x.f5∧k86.R 86 w base ok v6 x.f6:=by
 obtain ⟨_,_,rfl,rfl,⟨_,_,rfl,rfl,⟨_,_,rfl,rfl,⟨_,_,rfl,rfl,⟨_,_,rfl,rfl,⟨_,_,rfl,⟨v5,rfl,g5⟩,⟨v6,rfl,g6⟩⟩⟩⟩⟩⟩⟩:=h;exact ⟨v5,v6,rfl,g5,g6⟩
theorem qGx(w:World)(x:S59){A5:Option Addr}{c5:Nat}(l5:x.f5.length≤c5)(g5:(Kd.int .i64).C w A5 x.f5.length x.f5){A6:Option Addr}{c6:Nat}(l6:x.f6.length≤c6)(g6:k86.C w A6 x.f6.length x.f6):k59.K w x [.int .i64 x.f0,.int .i64 x.f1,.int .i64 x.f2,.int .i64 x.f3,.string x.f4,.slice A5 x.f5.length c5,.slice A6 x.f6.length c6]:=⟨[.int .i64 x.f0],[.int .i64 x.f1,.int .i64 x.f2,.int .i64 x.f3,.string x.f4,.slice A5 x.f5.length c5,.slice A6 x.f6.length c6],rfl,rfl,⟨[.int .i64 x.f1],[.int .i64 x.f2,.int .i64 x.f3,.string x.f4,.slice A5 x.f5.length c5,.slice A6 x.f6.length c6],rfl,rfl,⟨[.int .i64 x.f2],[.int .i64 x.f3,.string x.f4,.slice A5 x.f5.length c5,.slice A6 x.f6.length c6],rfl,rfl,⟨[.int .i64 x.f3],[.string x.f4,.slice A5 x.f5.length c5,.slice A6 x.f6.length c6],rfl,rfl,⟨[.string x.f4],[.slice A5 x.f5.length c5,.slice A6 x.f6.length c6],rfl,rfl,⟨[.slice A5 x.f5.length c5],[.slice A6 x.f6.length c6],rfl,⟨A5,c5,rfl,l5,g5⟩,⟨A6,c6,rfl,l6,g6⟩⟩⟩⟩⟩⟩⟩
theorem qFX(w:World)(base:Nat)(ok:Nat→Prop)(x:S59){v5:Value}(g5:(Kd.int .i64).R 3 w base ok v5 x.f5){v6:Value}(g6:k86.R 86 w base ok v6 x.f6):k59.M w base ok x [.int .i64 x.f0,.int .i64 x.f1,.int .i64 x.f2,.int .i64 x.f3,.string x.f4,v5,v6]:=⟨[.int .i64 x.f0],[.int .i64 x.f1,.int .i64 x.f2,.int .i64 x.f3,.string x.f4,v5,v6],rfl,rfl,⟨[.int .i64 x.f1],[.int .i64 x.f2,.int .i64 x.f3,.string x.f4,v5,v6],rfl,rfl,⟨[.int .i64 x.f2],[.int .i64 x.f3,.string x.f4,v5,v6],rfl,rfl,⟨[.int .i64 x.f3],[.string x.f4,v5,v6],rfl,rfl,⟨[.string x.f4],[v5,v6],rfl,rfl,⟨[v5],[v6],rfl,⟨v5,rfl,g5⟩,⟨v6,rfl,g6⟩⟩⟩⟩⟩⟩⟩
def qj(xs:List S59)(i:Int):S59:=xs.getD i.toNat z59
theorem qA3{w:World}{A:Option Addr}{n:Nat}{xs:List S59}(h:Kd.C k59 w A n xs)(i:Int)(h0:0≤i)(h1:i<n):∃ad A5 c5 A6 c6,A=some ad∧w.cell? (ad.add (i.toNat*7))=some (.int .i64 (qj xs i).f0)∧w.cell? ⟨(ad.add (i.toNat*7)).block,(ad.add (i.toNat*7)).off+1,none⟩=some (.int .i64 (qj xs i).f1)∧w.cell? ⟨(ad.add (i.toNat*7)).block,(ad.add (i.toNat*7)).off+2,none⟩=some (.int .i64 (qj xs i).f2)∧w.cell? ⟨(ad.add (i.toNat*7)).block,(ad.add (i.toNat*7)).off+3,none⟩=some (.int .i64 (qj xs i).f3)∧w.cell? ⟨(ad.add (i.toNat*7)).block,(ad.add (i.toNat*7)).off+4,none⟩=some (.string (qj xs i).f4)∧w.cell? ⟨(ad.add (i.toNat*7)).block,(ad.add (i.toNat*7)).off+5,none⟩=some (.slice A5 (qj xs i).f5.length c5)∧w.cell? ⟨(ad.add (i.toNat*7)).block,(ad.add (i.toNat*7)).off+6,none⟩=some (.slice A6 (qj xs i).f6.length c6)∧(qj xs i).f5.length≤c5∧(Kd.int .i64).C w A5 (qj xs i).f5.length (qj xs i).f5∧(qj xs i).f6.length≤c6∧k86.C w A6 (qj xs i).f6.length (qj xs i).f6:=by
 obtain ⟨ad,c,e,_,hK,hc0⟩:=Kd.C_get h z59 i h0 h1;have hc:∀j u,c[j]? = some u→w.cell? (ad.add (i.toNat*7+j))=some u:=hc0;obtain ⟨A5,c5,A6,c6,rfl,l5,g5,l6,g6⟩:=k59_open hK;exact ⟨ad,A5,c5,A6,c6,e,hc 0 _ rfl,by rw [←qy _ _ 1 (by omega)]; exact hc 1 _ rfl,by rw [←qy _ _ 2 (by omega)]; exact hc 2 _ rfl,by rw [←qy _ _ 3 (by omega)]; exact hc 3 _ rfl,by rw [←qy _ _ 4 (by omega)]; exact hc 4 _ rfl,by rw [←qy _ _ 5 (by omega)]; exact hc 5 _ rfl,by rw [←qy _ _ 6 (by omega)]; exact hc 6 _ rfl,l5,g5,l6,g6⟩
structure S55 where
 f0:Int
 f1:Int
 f2:(List S59)
def z55:S55:=⟨(0:Int),(0:Int),([]:List S59)⟩
def k55:Kd S55:=Kd.iso (Kd.pair (Kd.int .i64) (Kd.pair (Kd.int .i64) (Kd.slice 59 k59))) (fun x:S55=>(x.f0,x.f1,x.f2))
theorem k55_open{w:World}{x:S55}{cs:List Value}(h:k55.K w x cs):∃A2 c2,cs=[.int .i64 x.f0,.int .i64 x.f1,.slice A2 x.f2.length c2]∧x.f2.length≤c2∧k59.C w A2 x.f2.length x.f2:=by
 obtain ⟨_,_,rfl,rfl,⟨_,_,rfl,rfl,⟨A2,c2,rfl,l2,g2⟩⟩⟩:=h;exact ⟨A2,c2,rfl,l2,g2⟩
theorem qFu{w:World}{base:Nat}{ok:Nat→Prop}{x:S55}{cs:List Value}(h:k55.M w base ok x cs):∃v2,cs=[.int .i64 x.f0,.int .i64 x.f1,v2]∧k59.R 59 w base ok v2 x.f2:=by
 obtain ⟨_,_,rfl,rfl,⟨_,_,rfl,rfl,⟨v2,rfl,g2⟩⟩⟩:=h;exact ⟨v2,rfl,g2⟩
theorem k55_mk(w:World)(x:S55){A2:Option Addr}{c2:Nat}(l2:x.f2.length≤c2)(g2:k59.C w A2 x.f2.length x.f2):k55.K w x [.int .i64 x.f0,.int .i64 x.f1,.slice A2 x.f2.length c2]:=⟨[.int .i64 x.f0],[.int .i64 x.f1,.slice A2 x.f2.length c2],rfl,rfl,⟨[.int .i64 x.f1],[.slice A2 x.f2.length c2],rfl,rfl,⟨A2,c2,rfl,l2,g2⟩⟩⟩
theorem qD8(w:World)(base:Nat)(ok:Nat→Prop)(x:S55){v2:Value}(g2:k59.R 59 w base ok v2 x.f2):k55.M w base ok x [.int .i64 x.f0,.int .i64 x.f1,v2]:=⟨[.int .i64 x.f0],[.int .i64 x.f1,v2],rfl,rfl,⟨[.int .i64 x.f1],[v2],rfl,rfl,⟨v2,rfl,g2⟩⟩⟩
def qo(xs:List S55)(i:Int):S55:=xs.getD i.toNat z55
theorem qAN{w:World}{A:Option Addr}{n:Nat}{xs:List S55}(h:Kd.C k55 w A n xs)(i:Int)(h0:0≤i)(h1:i<n):∃ad A2 c2,A=some ad∧w.cell? (ad.add (i.toNat*3))=some (.int .i64 (qo xs i).f0)∧w.cell? ⟨(ad.add (i.toNat*3)).block,(ad.add (i.toNat*3)).off+1,none⟩=some (.int .i64 (qo xs i).f1)∧w.cell? ⟨(ad.add (i.toNat*3)).block,(ad.add (i.toNat*3)).off+2,none⟩=some (.slice A2 (qo xs i).f2.length c2)∧(qo xs i).f2.length≤c2∧k59.C w A2 (qo xs i).f2.length (qo xs i).f2:=by
 obtain ⟨ad,c,e,_,hK,hc0⟩:=Kd.C_get h z55 i h0 h1;have hc:∀j u,c[j]? = some u→w.cell? (ad.add (i.toNat*3+j))=some u:=hc0;obtain ⟨A2,c2,rfl,l2,g2⟩:=k55_open hK;exact ⟨ad,A2,c2,e,hc 0 _ rfl,by rw [←qy _ _ 1 (by omega)]; exact hc 1 _ rfl,by rw [←qy _ _ 2 (by omega)]; exact hc 2 _ rfl,l2,g2⟩
structure S63 where
 f0:ByteArray
 f1:Int
def z63:S63:=⟨(⟨#[]⟩:ByteArray),(0:Int)⟩
def k63:Kd S63:=Kd.iso (Kd.pair Kd.string (Kd.int .i64)) (fun x:S63=>(x.f0,x.f1))
theorem k63_open{w:World}{x:S63}{cs:List Value}(h:k63.K w x cs):cs=[.string x.f0,.int .i64 x.f1]:=by
 obtain ⟨_,_,rfl,rfl,rfl⟩:=h;exact rfl
theorem k63_mk(w:World)(x:S63)  : k63.K w x [.string x.f0,.int .i64 x.f1]:=⟨[.string x.f0],[.int .i64 x.f1],rfl,rfl,rfl⟩
theorem qFY(w:World)(base:Nat)(ok:Nat→Prop)(x:S63)  : k63.M w base ok x [.string x.f0,.int .i64 x.f1]:=⟨[.string x.f0],[.int .i64 x.f1],rfl,rfl,rfl⟩
def Qn(xs:List S63)(i:Int):S63:=xs.getD i.toNat z63
theorem qB6{w:World}{A:Option Addr}{n:Nat}{xs:List S63}(h:Kd.C k63 w A n xs)(i:Int)(h0:0≤i)(h1:i<n):∃ad ,A=some ad∧w.cell? (ad.add (i.toNat*2))=some (.string (Qn xs i).f0)∧w.cell? ⟨(ad.add (i.toNat*2)).block,(ad.add (i.toNat*2)).off+1,none⟩=some (.int .i64 (Qn xs i).f1):=by
 obtain ⟨ad,c,e,_,hK,hc0⟩:=Kd.C_get h z63 i h0 h1;have hc:∀j u,c[j]? = some u→w.cell? (ad.add (i.toNat*2+j))=some u:=hc0;obtain rfl:=k63_open hK;exact ⟨ad,e,hc 0 _ rfl,by rw [←qy _ _ 1 (by omega)]; exact hc 1 _ rfl⟩
theorem info3:(Tryz.prog.info? 3).map (fun i=>(i.zero,i.size,i.bytes))=some (some (.int .i64 0),1,8):=by kernel_rfl
theorem info9:(Tryz.prog.info? 9).map (fun i=>(i.zero,i.size,i.bytes))=some (some (.string ⟨#[]⟩),1,16):=by kernel_rfl
end Go.Proofs.YtoonkkipnljflaaGreatDoor.PT
