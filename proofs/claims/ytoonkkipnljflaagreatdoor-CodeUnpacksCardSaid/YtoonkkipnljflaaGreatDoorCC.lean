/- Graph code as plain data: when a code is valid, as one plain function. Conditions: none. The checks of package code: demand returns or panics. Conditions: none. The closure that guard defers: it finds nothing, or a failed check, which it takes up. Conditions: none beyond the variable that it writes. guard: it calls a function and tells whether nothing was wrong. Conditions: the function returns, or a check of it fails. -/
import Derived.Test.YtoonkkipnljflaaGreatDoorPTx0
import Derived.WalkSmall
import Derived.Lib.Hide
import Derived.Defers
import Derived.Recover
namespace Go.Proofs.YtoonkkipnljflaaGreatDoor.CJ
open Go.RowKit Go.Proofs.YtoonkkipnljflaaGreatDoorW.PrintWords Go.Proofs.YtoonkkipnljflaaGreatDoor.PT
set_option linter.unusedVariables false
abbrev GOp:=S59
abbrev GAl:=S86
abbrev GBk:=S55
abbrev GGl:=S63
def qAU(c:UInt8):Bool:=decide (33≤c)&&decide (c≤126) && !(c==40||c==41||c==91||c==93||c==123||c==125)
def qCx(c:UInt8):Bool:=decide (97≤c)&&decide (c≤122)||decide (65≤c)&&decide (c≤90)
def qBh(s:List UInt8):Bool:=s==[108,101,116]||s==[105,110]||s==[99,97,115,101]||s==[112,114,105,109]
def qe(s:List UInt8):Bool:=decide (1≤s.length)&&decide (s.length≤60) && !qBh s&&(match s with | []=>false|c::_=>qCx c)&&s.all qAU
def QC:List (List UInt8×Int):=
 [([97,100,100],2),([115,117,98],2),([109,117,108],2),([100,105,118],2),([109,111,100],2),([101,113],2),([108,116],2),([108,101],2),([115,101,113],2),([116,104,114,111,119],1),
  ([114,101,116,117,114,110,73,79],1),([98,105,110,100,73,79],2),([112,117,116],1),([103,101,116],0),([99,97,116,99,104],2),([102,111,114,107],1),([107,105,108,108],2),([109,97,115,107],1),([121,105,101,108,100],0),([97,116,111,109,105,99,97,108,108,121],1),
  ([114,101,116,117,114,110,83,84,77],1),([98,105,110,100,83,84,77],2),([110,101,119,84,86,97,114],1),([114,101,97,100,84,86,97,114],1),([119,114,105,116,101,84,86,97,114],2),([114,101,116,114,121],0),([111,114,69,108,115,101],2)]
def Qu(s:List UInt8):Option Nat:=QC.findIdx? (fun p=>p.1==s)
def qBB(s:List UInt8):Bool:=match Qu s with|some k=>decide (k<8)|none=>false
def qq(o:Int):Bool:=(decide (2≤o)&&decide (o≤6))||o==9||o==10||o==12||o==13
def qr(o:Int):Bool:=o==2||o==3||o==8||o==12
def qs(o:Int):Bool:=o==1||o==5||o==7
def qt(o:Int):Bool:=o==4||o==6||o==12
def qu(o:Int):Bool:=o==2||o==3||o==4||o==6||o==8||o==9
def qv(o:Int):Bool:=decide (9≤o)&&decide (o≤13)
def qf(g:GOp):Bool:=decide (1≤g.f0)&&decide (g.f0≤13)&&(qq g.f0||g.f1==0)&&(qr g.f0||g.f2==0)&&(qs g.f0||g.f3==0)&&(qt g.f0||g.f4.data.toList==[])&&(qu g.f0||g.f5.isEmpty)&&((g.f0==11) == !g.f6.isEmpty)
def hasC(st:List Int)(k:Int):Bool:=decide (0≤k)&&decide (k<st.length)
def qz(st:List Int):Bool:=st.all (· != 1)
def qX(st:List Int)(k v:Int):Option (List Int):=if hasC st k&&st[k.toNat]? == some 1 then some (st.set k.toNat v) else none
def addC(st:List Int)(n:Nat)(v:Int):Option (List Int):=if st.length+n≤60 then some (st++List.replicate n v) else none
def blkC(bs:List GBk)(n:Int):Option GBk:=if 0≤n then bs[n.toNat]? else none
def QW:List GAl→List GAl→Bool
 |_,[]=>true
 |before,a::r=>(if a.f0=1 then r.isEmpty&&a.f1.data.toList==[]&&a.f2==0
  else if a.f0=2 then qe a.f1.data.toList&&decide (0≤a.f2)&&decide (a.f2≤12)&&before.all (fun b=>b.f0==2&&b.f1.data.toList != a.f1.data.toList)
  else if a.f0=3 then a.f1.data.toList==[]&&before.all (fun b=>b.f0==3&&b.f2 != a.f2)
  else false)&&QW (before++[a]) r
def Qo(bs:List GBk)(n:Nat)(a:GAl):Bool:=match blkC bs a.f3 with
 |some b=>b.f0==(n:Int)&&b.f1==(if a.f0=2 then a.f2 else 0)
 |none=>false
def qAB(bs:List GBk)(n:Int):Bool:=bs.any fun b=>b.f2.any fun g=>g.f6.any fun a=>a.f3==n
def Qb(bs:List GBk):List GGl→List GGl→Bool
 |_,[]=>true
 |before,g::r=>qe g.f0.data.toList&&before.all (fun b=>b.f0.data.toList != g.f0.data.toList)&&(match blkC bs g.f1 with|some b=>b.f0==0&&b.f1==0|none=>false)&&Qb bs (before++[g]) r
def qAJ:List PanicEntry:=[{ v:=.iface 72 (.agg #[]),recovered:=false }]
theorem qL(w:World):Calls Tryz.prog 14 #[.bool true] w fun e w'=>e=.returned (.tuple #[])∧w=w':=by
 go_enter Tryz.func14,Tryz.ntmps14;go_wp2;go_end0;exact ⟨rfl,rfl⟩
theorem qG(w:World):Calls Tryz.prog 14 #[.bool false] w fun e w'=>e=.panicked qAJ∧w=w':=by
 go_enter Tryz.func14,Tryz.ntmps14;go_wp2
 first
 |exact ⟨rfl,rfl⟩
 |(unfold bodyPost; exact ⟨rfl,rfl⟩)
 |(simp [bodyPost,qAJ]; done)
theorem qI4(p:Addr)(w:World):
 CallsD Tryz.prog 31 #[.pointer (some p)] .returning w fun e u' w'=>e=.returned (.tuple #[])∧u'=.returning∧w=w':=by
 refine callsD_of_wpS Tryz.func31 rfl fun c₀ cs hu=>?_
 apply wpS_seq;apply wpS_region;simp [wpOpsS,go_sem,recoverD,hu,Tryz.ntmps31,Exit.thenS];refine wpS_of_wp ?_;have hn:∀w:World,(binOp BinOp.eql 20 .nilIface .nilIface).run Tryz.prog w=.ok (.bool true) w:=fun _=>by kernel_rfl
 go_wp2;cases c₀
 simp_all [bodyPostS,results,Tryz.results31]
theorem qGa(g:Nat)(x:Bool)(older:List PanicEntry)(w:World)(hc:w.cell? ⟨g,0,none⟩=some (.bool x))(hz:w.frozen? ⟨g,0,none⟩=false):
 CallsD Tryz.prog 31 #[.pointer (some ⟨g,0,none⟩)] (.panicking ({ v:=.iface 72 (.agg #[]),recovered:=false }::older)) w fun e u' w'=>e=.returned (.tuple #[])∧u'=.panicking ({ v:=.iface 72 (.agg #[]),recovered:=true }::older)∧(w.alloc (.cells #[] 72)).setCell ⟨g,0,none⟩ (.bool false)=w':=by
 refine callsD_of_wpS Tryz.func31 rfl fun c₀ cs hu=>?_
 apply wpS_seq;apply wpS_region;simp [wpOpsS,go_sem,recoverD,hu,Tryz.ntmps31,Exit.thenS];refine wpS_of_wp ?_;have hn:∀w:World,(binOp BinOp.eql 20 (.iface 72 (.agg #[])) .nilIface).run Tryz.prog w=.ok (.bool false) w:=fun _=>by kernel_rfl
 have ht:∀w:World,(Instr.typeAssert (.iface 72 (.agg #[])) 20 72 true).run Tryz.prog w=.ok (.tuple #[.agg #[],.bool true]) w:=fun _=>by kernel_rfl
 have hlt:=World.block_lt_of_cell? w _ hc;have hc2:=fun o=>qA (qC (Below.refl w.heap.size w) o) hc
 have hz2:∀o,(w.alloc o).frozen? ⟨g,0,none⟩=false:=fun o=>((qC (Below.refl w.heap.size w) o).frozen (p:=⟨g,0,none⟩) hlt).trans hz
 go_wp2;cases c₀
 simp_all [bodyPostS,results,Tryz.results31]
end Go.Proofs.YtoonkkipnljflaaGreatDoor.CJ
