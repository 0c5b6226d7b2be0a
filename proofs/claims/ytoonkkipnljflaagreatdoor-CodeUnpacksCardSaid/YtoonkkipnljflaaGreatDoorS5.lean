/- The few simple results that the laws on codes look at: the Go function awake answers true. Conditions: the listed variables are laid. -/
import Derived.Test.YtoonkkipnljflaaGreatDoorRG
import Derived.Test.YtoonkkipnljflaaGreatDoorS4
import Derived.Test.YtoonkkipnljflaaGreatDoorNB
import Derived.Test.YtoonkkipnljflaaGreatDoorW3
import Derived.Test.YtoonkkipnljflaaGreatDoorZZ
import Derived.Test.YtoonkkipnljflaaGreatDoorK8
namespace Go.Proofs.YtoonkkipnljflaaGreatDoor.CJ
open Go.RowKit Go.Proofs.YtoonkkipnljflaaGreatDoorW.PrintWords Go.Proofs.YtoonkkipnljflaaGreatDoorW.PrintLast Go.Proofs.YtoonkkipnljflaaGreatDoorW.PrintMore Go.Proofs.YtoonkkipnljflaaGreatDoor.PT Go.Proofs.YtoonkkipnljflaaGreatDoor.IMaps Go.Proofs.YtoonkkipnljflaaGreatDoor.TJ
set_option linter.unusedVariables false
set_option linter.unusedSimpArgs false
def fvB:List GBk:=[⟨0,0,[⟨1,0,0,1,⟨#[]⟩,[],[]⟩,⟨5,0,0,5,⟨#[]⟩,[],[]⟩,⟨10,0,0,0,⟨#[]⟩,[],[]⟩]⟩]
def fvG:List GGl:=[⟨⟨#[102,105,118,101]⟩,0⟩]
def FivePost(w:World)(e:Ending)(w':World):Prop:=∃A ca A2 cb,e=.returned (qw A fvB.length ca A2 fvG.length cb)∧CM w' A ca A2 cb fvB fvG∧Below w.heap.size w w'
theorem qHx{α:Type}{R:α→List Value→Prop}{size T b:Nat}{W:World}{cs:Array Value}{ps:List α}(hb:W.heap[b]? = some (.cells cs T (0,0)))(hn:ps.length≤9223372036854775807)(h:∀j p,ps[j]? = some p→((cs.toList.drop (j*size)).take size).length=size∧R p ((cs.toList.drop (j*size)).take size)):Qy R size W (some ⟨b,0,none⟩) ps.length ps:=
 ⟨rfl,hn,fun _=>⟨_,rfl,fun j p hp=>⟨_,(h j p hp).1,(h j p hp).2,fun i u hu=>by
  rw [show (⟨b,0,none⟩:Addr).add (j*size+i)=⟨b,j*size+i,none⟩ by simp [Addr.add]; omega];refine qD hb ?_;rw [List.getElem?_take] at hu;split at hu
  ·rw [List.getElem?_drop] at hu; simpa using hu
  ·cases hu⟩⟩⟩
theorem qCS{α:Type}{R:α→List Value→Prop}{size:Nat}{W:World}:Qy R size W none 0 ([]:List α):=⟨rfl,by decide,fun h=>absurd h (by decide)⟩
theorem five_cm{W:World}{a b c:Nat}(h1:W.heap[a]? = some (.cells #[.int .i64 1,.int .i64 0,.int .i64 0,.int .i64 1,.string ⟨#[]⟩,.slice none 0 0,.slice none 0 0,.int .i64 5,.int .i64 0,.int .i64 0,.int .i64 5,.string ⟨#[]⟩,.slice none 0 0,.slice none 0 0,.int .i64 10,.int .i64 0,.int .i64 0,.int .i64 0,.string ⟨#[]⟩,.slice none 0 0,.slice none 0 0] 59 (0,0)))
 (h2:W.heap[b]? = some (.cells #[.int .i64 0,.int .i64 0,.slice (some ⟨a,0,none⟩) 3 3] 55 (0,0))) (h3:W.heap[c]? = some (.cells #[.string ⟨#[102,105,118,101]⟩,.int .i64 0] 63 (0,0))):CM W (some ⟨b,0,none⟩) 1 (some ⟨c,0,none⟩) 1 fvB fvG:=by
 refine ⟨by decide,by decide,?_,?_⟩
 ·refine qHx h2 (by decide) (fun j p hp=>?_);rcases j with _|j
  ·cases hp;refine ⟨rfl,k55_mk W ⟨0,0,_⟩ (c2:=3) (by decide) ?_⟩;refine qHx h1 (by decide) (fun j p hp=>?_);rcases j with _|_|_|j
   ·cases hp; exact ⟨rfl,qGx W ⟨1,0,0,1,⟨#[]⟩,[],[]⟩ (c5:=0) (by decide) qCS (c6:=0) (by decide) qCS⟩
   ·cases hp; exact ⟨rfl,qGx W ⟨5,0,0,5,⟨#[]⟩,[],[]⟩ (c5:=0) (by decide) qCS (c6:=0) (by decide) qCS⟩
   ·cases hp; exact ⟨rfl,qGx W ⟨10,0,0,0,⟨#[]⟩,[],[]⟩ (c5:=0) (by decide) qCS (c6:=0) (by decide) qCS⟩
   ·simp at hp
  ·simp [fvB] at hp
 ·refine qHx h3 (by decide) (fun j p hp=>?_);rcases j with _|j
  ·cases hp; exact ⟨rfl,k63_mk W ⟨⟨#[102,105,118,101]⟩,0⟩⟩
  ·simp [fvG] at hp
theorem five_put{w W:World}{p0 a b c:Nat}(h0:W.heap[p0]? = some (.cells #[.slice none 0 0,.slice none 0 0] 27 (0,0)))(h1:W.heap[a]? = some (.cells #[.int .i64 1,.int .i64 0,.int .i64 0,.int .i64 1,.string ⟨#[]⟩,.slice none 0 0,.slice none 0 0,.int .i64 5,.int .i64 0,.int .i64 0,.int .i64 5,.string ⟨#[]⟩,.slice none 0 0,.slice none 0 0,.int .i64 10,.int .i64 0,.int .i64 0,.int .i64 0,.string ⟨#[]⟩,.slice none 0 0,.slice none 0 0] 59 (0,0)))
 (h2:W.heap[b]? = some (.cells #[.int .i64 0,.int .i64 0,.slice (some ⟨a,0,none⟩) 3 3] 55 (0,0))) (h3:W.heap[c]? = some (.cells #[.string ⟨#[102,105,118,101]⟩,.int .i64 0] 63 (0,0))) (hb:Below w.heap.size w W) (hp:w.heap.size≤p0) (ha:a≠p0) (hb':b≠p0) (hc:c≠p0):
 ((W.setCell ⟨p0, 0, none⟩ (.slice (some ⟨b, 0, none⟩) 1 1)).setCell ⟨p0, 1, none⟩ (.slice (some ⟨c, 0, none⟩) 1 1)).heap[p0]? = some (.cells #[.slice (some ⟨b, 0, none⟩) 1 1, .slice (some ⟨c, 0, none⟩) 1 1] 27 (0, 0)) ∧
   CM ((W.setCell ⟨p0,0,none⟩ (.slice (some ⟨b,0,none⟩) 1 1)).setCell ⟨p0,1,none⟩ (.slice (some ⟨c,0,none⟩) 1 1)) (some ⟨b,0,none⟩) 1 (some ⟨c,0,none⟩) 1 fvB fvG∧Below w.heap.size w ((W.setCell ⟨p0,0,none⟩ (.slice (some ⟨b,0,none⟩) 1 1)).setCell ⟨p0,1,none⟩ (.slice (some ⟨c,0,none⟩) 1 1)):=
 ⟨qQ (qQ h0 0 _) 1 _,five_cm (qS (p:=⟨p0,1,none⟩) (qS (p:=⟨p0,0,none⟩) h1 ha _) ha _) (qS (p:=⟨p0,1,none⟩) (qS (p:=⟨p0,0,none⟩) h2 hb' _) hb' _) (qS (p:=⟨p0,1,none⟩) (qS (p:=⟨p0,0,none⟩) h3 hc _) hc _),(hb.setCell (p:=⟨p0,0,none⟩) hp _).setCell (p:=⟨p0,1,none⟩) hp _⟩
set_option maxRecDepth 100000 in
set_option maxHeartbeats 4000000 in
theorem qBq(w:World):Calls Tryz.prog 27 #[] w (FivePost w):=by
 go_enter Tryz.func27,Tryz.ntmps27;go_wp2_with (first|((with_reducible refine qh (N:=0) rfl ?_); refine QJ ?hg (N:=0) ?hd (cs:=#[.slice none 0 0,.slice none 0 0]) (t:=27) ?hr ?_; (case hd=>rfl); (case hg=>rfl); (case hr=>first|(go_simp; done)|(go_simp; rfl)); intro p0 hp0 w1 hbox hb; have HB:=qB.mk (And.intro hp0 (And.intro hbox hb)); clear hp0 hbox hb)|((with_reducible refine qh (N:=2) rfl ?_); refine Hid.out ?_));have hb4:Below w1.heap.size w1 (((w1.alloc (.cells #[.int .i64 1,.int .i64 0,.int .i64 0,.int .i64 1,.string ⟨#[]⟩,.slice none 0 0,.slice none 0 0,.int .i64 5,.int .i64 0,.int .i64 0,.int .i64 5,.string ⟨#[]⟩,.slice none 0 0,.slice none 0 0,.int .i64 10,.int .i64 0,.int .i64 0,.int .i64 0,.string ⟨#[]⟩,.slice none 0 0,.slice none 0 0] 59)).alloc (.cells #[.int .i64 0,.int .i64 0,.slice (some ⟨w1.heap.size,0,none⟩) 3 3] 55)).alloc (.cells #[.string ⟨#[102,105,118,101]⟩,.int .i64 0] 63)):=qC (qC (qC (Below.refl _ _) _) _) _;have s1:(w1.alloc (.cells #[.int .i64 1,.int .i64 0,.int .i64 0,.int .i64 1,.string ⟨#[]⟩,.slice none 0 0,.slice none 0 0,.int .i64 5,.int .i64 0,.int .i64 0,.int .i64 5,.string ⟨#[]⟩,.slice none 0 0,.slice none 0 0,.int .i64 10,.int .i64 0,.int .i64 0,.int .i64 0,.string ⟨#[]⟩,.slice none 0 0,.slice none 0 0] 59)).heap.size=w1.heap.size+1:=by simp
 have s2:((w1.alloc (.cells #[.int .i64 1,.int .i64 0,.int .i64 0,.int .i64 1,.string ⟨#[]⟩,.slice none 0 0,.slice none 0 0,.int .i64 5,.int .i64 0,.int .i64 0,.int .i64 5,.string ⟨#[]⟩,.slice none 0 0,.slice none 0 0,.int .i64 10,.int .i64 0,.int .i64 0,.int .i64 0,.string ⟨#[]⟩,.slice none 0 0,.slice none 0 0] 59)).alloc (.cells #[.int .i64 0,.int .i64 0,.slice (some ⟨w1.heap.size,0,none⟩) 3 3] 55)).heap.size=w1.heap.size+1+1:=by simp
 have h1:(((w1.alloc (.cells #[.int .i64 1,.int .i64 0,.int .i64 0,.int .i64 1,.string ⟨#[]⟩,.slice none 0 0,.slice none 0 0,.int .i64 5,.int .i64 0,.int .i64 0,.int .i64 5,.string ⟨#[]⟩,.slice none 0 0,.slice none 0 0,.int .i64 10,.int .i64 0,.int .i64 0,.int .i64 0,.string ⟨#[]⟩,.slice none 0 0,.slice none 0 0] 59)).alloc (.cells #[.int .i64 0,.int .i64 0,.slice (some ⟨w1.heap.size,0,none⟩) 3 3] 55)).alloc (.cells #[.string ⟨#[102,105,118,101]⟩,.int .i64 0] 63)).heap[w1.heap.size]? = some (.cells #[.int .i64 1,.int .i64 0,.int .i64 0,.int .i64 1,.string ⟨#[]⟩,.slice none 0 0,.slice none 0 0,.int .i64 5,.int .i64 0,.int .i64 0,.int .i64 5,.string ⟨#[]⟩,.slice none 0 0,.slice none 0 0,.int .i64 10,.int .i64 0,.int .i64 0,.int .i64 0,.string ⟨#[]⟩,.slice none 0 0,.slice none 0 0] 59 (0,0)):=qK (qK (qV w1 _) (qC (Below.refl _ _) _)) (qC (Below.refl _ _) _);have h2:(((w1.alloc (.cells #[.int .i64 1,.int .i64 0,.int .i64 0,.int .i64 1,.string ⟨#[]⟩,.slice none 0 0,.slice none 0 0,.int .i64 5,.int .i64 0,.int .i64 0,.int .i64 5,.string ⟨#[]⟩,.slice none 0 0,.slice none 0 0,.int .i64 10,.int .i64 0,.int .i64 0,.int .i64 0,.string ⟨#[]⟩,.slice none 0 0,.slice none 0 0] 59)).alloc (.cells #[.int .i64 0,.int .i64 0,.slice (some ⟨w1.heap.size,0,none⟩) 3 3] 55)).alloc (.cells #[.string ⟨#[102,105,118,101]⟩,.int .i64 0] 63)).heap[w1.heap.size+1]? = some (.cells #[.int .i64 0,.int .i64 0,.slice (some ⟨w1.heap.size,0,none⟩) 3 3] 55 (0,0)):=by
  have:=qK (qV (w1.alloc (.cells #[.int .i64 1,.int .i64 0,.int .i64 0,.int .i64 1,.string ⟨#[]⟩,.slice none 0 0,.slice none 0 0,.int .i64 5,.int .i64 0,.int .i64 0,.int .i64 5,.string ⟨#[]⟩,.slice none 0 0,.slice none 0 0,.int .i64 10,.int .i64 0,.int .i64 0,.int .i64 0,.string ⟨#[]⟩,.slice none 0 0,.slice none 0 0] 59)) (.cells #[.int .i64 0,.int .i64 0,.slice (some ⟨w1.heap.size,0,none⟩) 3 3] 55)) (qC (Below.refl _ _) (.cells #[.string ⟨#[102,105,118,101]⟩,.int .i64 0] 63))
  rwa [s1] at this
 have h3:(((w1.alloc (.cells #[.int .i64 1,.int .i64 0,.int .i64 0,.int .i64 1,.string ⟨#[]⟩,.slice none 0 0,.slice none 0 0,.int .i64 5,.int .i64 0,.int .i64 0,.int .i64 5,.string ⟨#[]⟩,.slice none 0 0,.slice none 0 0,.int .i64 10,.int .i64 0,.int .i64 0,.int .i64 0,.string ⟨#[]⟩,.slice none 0 0,.slice none 0 0] 59)).alloc (.cells #[.int .i64 0,.int .i64 0,.slice (some ⟨w1.heap.size,0,none⟩) 3 3] 55)).alloc (.cells #[.string ⟨#[102,105,118,101]⟩,.int .i64 0] 63)).heap[w1.heap.size+1+1]? = some (.cells #[.string ⟨#[102,105,118,101]⟩,.int .i64 0] 63 (0,0)):=by
  have:=qV ((w1.alloc (.cells #[.int .i64 1,.int .i64 0,.int .i64 0,.int .i64 1,.string ⟨#[]⟩,.slice none 0 0,.slice none 0 0,.int .i64 5,.int .i64 0,.int .i64 0,.int .i64 5,.string ⟨#[]⟩,.slice none 0 0,.slice none 0 0,.int .i64 10,.int .i64 0,.int .i64 0,.int .i64 0,.string ⟨#[]⟩,.slice none 0 0,.slice none 0 0] 59)).alloc (.cells #[.int .i64 0,.int .i64 0,.slice (some ⟨w1.heap.size,0,none⟩) 3 3] 55)) (.cells #[.string ⟨#[102,105,118,101]⟩,.int .i64 0] 63)
  rwa [s2] at this
 have h0:=qK HB.out.2.1 hb4;have hp:p0<w1.heap.size:=qN HB.out.2.1;have c0:=qD h0 (i:=0) rfl;have c1:=qD h0 (i:=1) rfl;have z0:=qH h0 0;have z1:=qH h0 1;have HQ:=qB.mk (five_put h0 h1 h2 h3 (qF HB.out.2.2 hb4) (Nat.le_of_eq HB.out.1.symm) (show w1.heap.size≠p0 by omega) (show w1.heap.size+1≠p0 by omega) (show w1.heap.size+1+1≠p0 by omega));clear hb4 s1 s2 h0 h1 h2 h3 hp;refine Lib.hid ?_;go_wp2;generalize hW5:(World.setCell (World.setCell _ ⟨p0,0,none⟩ (.slice (some ⟨w1.heap.size+1,0,none⟩) 1 1)) ⟨p0,1,none⟩ (.slice (some ⟨w1.heap.size+1+1,0,none⟩) 1 1))=W5 at *;have x0:=qD HQ.out.1 (i:=0) rfl;have x1:=qD HQ.out.1 (i:=1) rfl;refine bodyPost_ret (v:=.agg #[.slice (some ⟨w1.heap.size+1,0,none⟩) 1 1,.slice (some ⟨w1.heap.size+1+1,0,none⟩) 1 1]) (by simp [results,Tryz.results27,go_sem,x0,x1]) rfl ?_;exact ⟨_,_,_,_,rfl,HQ.out.2.1,HQ.out.2.2⟩
theorem qDQ{B:Nat}{W:World}{c:List GBk×List GGl}{v:Value}(h:qE2 B W c v):∃A ca A2 cb,v=qw A c.1.length ca A2 c.2.length cb∧CM W A ca A2 cb c.1 c.2:=by
 obtain ⟨vA,vB,rfl,h0,h1⟩:=h;obtain ⟨A,ca,rfl,la,Ca⟩:=Kd.R_reads h0;obtain ⟨A2,cb,rfl,lb,Cb⟩:=Kd.R_reads h1;exact ⟨A,ca,A2,cb,rfl,⟨la,lb,Ca,Cb⟩⟩
theorem qD4:allK fvB fvG=true:=by decide +kernel
theorem fv_wf:WfC fvB:=by
 intro b hb g hg;simp only [fvB,List.mem_singleton] at hb;subst hb;simp only [List.mem_cons,List.not_mem_nil,or_false] at hg;rcases hg with rfl|rfl|rfl<;>exact ⟨by unfold Ok64; decide,by simp⟩
theorem qEi:qAq fvB fvG:=⟨fun b hb=>by
 simp only [fvB,List.mem_singleton] at hb;subst hb;intro g hg;simp only [List.mem_cons,List.not_mem_nil,or_false] at hg;rcases hg with rfl|rfl|rfl<;>exact ⟨by decide,by simp⟩,fun g hg=>by
 simp only [fvG,List.mem_singleton] at hg;subst hg;decide⟩
theorem dec1(u:Nat)(h:u<10):Lib.decDigits u=[UInt8.ofNat (48+u)]:=by rw [Lib.decDigits,dif_pos h]
theorem itoa0:Lib.itoa 0=[48]:=by rw [Lib.itoa,if_neg (by decide)]; exact dec1 0 (by decide)
theorem itoa1:Lib.itoa 1=[49]:=by rw [Lib.itoa,if_neg (by decide)]; exact dec1 1 (by decide)
theorem itoa5:Lib.itoa 5=[53]:=by rw [Lib.itoa,if_neg (by decide)]; exact dec1 5 (by decide)
theorem qFr:qB1 fvB fvG=[98,108,111,99,107,32,48,32,48,10,32,32,99,101,108,108,115,32,48,32,48,32,49,32,45,32,91,93,10,32,32,110,117,109,32,48,32,48,32,53,32,45,32,91,93,10,32,32,103,105,118,101,32,48,32,48,32,48,32,45,32,91,93,10,103,108,111,98,97,108,32,102,105,118,101,32,48,10]:=by
 simp only [qB1,fvB,fvG,QF,QY,q8,qAC,Qe,QU,List.flatMap_cons,List.flatMap_nil,List.map_nil,itoa0,itoa1,itoa5];decide +kernel
theorem fv_tb:∀b∈fvB,TBk b:=by
 intro b hb;simp only [fvB,List.mem_singleton] at hb;subst hb;refine ⟨by unfold Ok64; decide,by unfold Ok64; decide,fun g hg=>?_⟩;simp only [List.mem_cons,List.not_mem_nil,or_false] at hg;rcases hg with rfl|rfl|rfl<;>exact ⟨by decide,by unfold Ok64; decide,by unfold Ok64; decide,by unfold Ok64; decide,Or.inl rfl,by simp,by simp⟩
theorem fv_tg:∀g∈fvG,TGl g:=by
 intro g hg;simp only [fvG,List.mem_singleton] at hg;subst hg;exact ⟨by decide,by unfold Ok64; decide⟩
theorem fv_read:qDJ (qB1 fvB fvG)=.ok (fvB,fvG):=qKr qD4 fv_tb fv_tg
theorem qHy:(qp fvB fvG).length≤200000:=by decide +kernel
theorem qHz(w:World)(A A2:Option Addr)(ca cb:Nat)(hc:CM w A ca A2 cb fvB fvG)(hR:RW w):
 Calls Tryz.prog 26 #[qw A fvB.length ca A2 fvG.length cb] w fun e w'=>e=.returned (.tuple #[.string ⟨#[98,108,111,99,107,32,48,32,48,10,32,32,99,101,108,108,115,32,48,32,48,32,49,32,45,32,91,93,10,32,32,110,117,109,32,48,32,48,32,53,32,45,32,91,93,10,32,32,103,105,118,101,32,48,32,48,32,48,32,45,32,91,93,10,103,108,111,98,97,108,32,102,105,118,101,32,48,10]⟩,.int .i64 0])∧Below w.heap.size w w':=by
 refine (qJx w A ca A2 cb fvB fvG hc hR.lw hR.tens qEi fv_wf).mono ?_;rintro e w' ⟨rfl,hb⟩;refine ⟨?_,hb⟩;unfold qEC;rw [qD4,qFr];rfl
theorem qH0(w:World)(hR:RW w):Calls Tryz.prog 28 #[.string ⟨#[98,108,111,99,107,32,48,32,48,10,32,32,99,101,108,108,115,32,48,32,48,32,49,32,45,32,91,93,10,32,32,110,117,109,32,48,32,48,32,53,32,45,32,91,93,10,32,32,103,105,118,101,32,48,32,48,32,48,32,45,32,91,93,10,103,108,111,98,97,108,32,102,105,118,101,32,48,10]⟩] w fun e w'=>(∃A ca A2 cb,e=.returned (.tuple #[qw A fvB.length ca A2 fvG.length cb,.int .i64 0,.int .i64 0])∧CM w' A ca A2 cb fvB fvG)∧Below w.heap.size w w':=by
 have h:=qJw w (qB1 fvB fvG) hR (by rw [qFr]; decide);rw [fv_read,qFr] at h;refine h.mono ?_;rintro e w' ⟨v,rfl,hp,-,-,hb⟩;obtain ⟨A,ca,A2,cb,rfl,hc⟩:=qDQ hp;exact ⟨⟨A,ca,A2,cb,rfl,hc⟩,hb⟩
theorem qH1(w:World)(A A2:Option Addr)(ca cb:Nat)(hc:CM w A ca A2 cb fvB fvG)(hR:RW w):
 Calls Tryz.prog 29 #[qw A fvB.length ca A2 fvG.length cb] w fun e w'=>e=.returned (.tuple #[.string ⟨(qp fvB fvG).toArray⟩,.int .i64 0])∧Below w.heap.size w w':=by
 refine (qJJ w A ca A2 cb fvB fvG hc hR.lw qEi fv_wf).mono ?_;rintro e w' ⟨rfl,hb⟩;refine ⟨?_,hb⟩;rw [qHD,if_pos qD4,if_pos qHy]
theorem qFs(w:World)(hR:RW w):Calls Tryz.prog 5 #[.string ⟨(qp fvB fvG).toArray⟩] w fun e w'=>(∃A ca A2 cb,e=.returned (.tuple #[qw A fvB.length ca A2 fvG.length cb,.int .i64 0])∧CM w' A ca A2 cb fvB fvG)∧Below w.heap.size w w':=by
 have h:=qDp w (qp fvB fvG) hR.lw (by have:=qHy; omega);rw [qHR fvB fvG qD4 fv_wf qHy] at h;refine h.mono ?_;rintro e w' ⟨v,rfl,hp,hb⟩;obtain ⟨A,ca,A2,cb,rfl,hc⟩:=qDQ hp;exact ⟨⟨A,ca,A2,cb,rfl,hc⟩,hb⟩
theorem qH2(w:World)(A A2:Option Addr)(ca cb:Nat)(hc:CM w A ca A2 cb fvB fvG)(hR:RW w):
 Calls Tryz.prog 30 #[qw A fvB.length ca A2 fvG.length cb,.int .i64 0] w fun e w'=>e=.returned (.tuple #[.int .i64 1,.int .i64 0])∧Below w.heap.size w w':=by
 refine (qJM w A ca A2 cb fvB fvG 0 hc hR.lw qEi).mono ?_;rintro e w' ⟨rfl,hb⟩;refine ⟨?_,hb⟩;unfold roomR;rw [if_pos qD4];rfl
theorem sum_a(w:World):Calls Tryz.prog 7 #[.string ⟨#[97]⟩] w fun e w'=>e=.returned (.int .i64 6422626)∧Below w.heap.size w w':=by
 refine (qDi ⟨#[97]⟩ (by decide) w).mono ?_;rintro e w' ⟨rfl,rfl⟩;exact ⟨by rw [show sumB (⟨#[97]⟩:ByteArray).data.toList=6422626 from by decide]; rfl,Below.refl _ _⟩
theorem qD5{w:World}{A A2 B B2:Option Addr}{ca cb da db:Nat}{bs:List GBk}{gl:List GGl}(h1:CM w A ca A2 cb bs gl)(h2:CM w B da B2 db bs gl):
 Calls Tryz.prog 9 #[qw A bs.length ca A2 gl.length cb,qw B bs.length da B2 gl.length db] w fun e w'=>e=.returned (.bool true)∧Below w.heap.size w w':=by
 have h:=qGl w A A2 B B2 ca cb da db bs bs gl gl h1 h2;rw [eqC_refl] at h;exact h
structure AQ(w w':World)(A3:Option Addr)(c3:Nat)(A4:Option Addr)(c4:Nat)(A8:Option Addr)(c8:Nat)(A9:Option Addr)(c9:Nat):Prop where
 low:Below w.heap.size w w'
 a:CM w' A3 c3 A4 c4 fvB fvG
 b:CM w' A8 c8 A9 c9 fvB fvG
theorem AQ.below{w w1 w2:World}{A3:Option Addr}{c3:Nat}{A4:Option Addr}{c4:Nat}{A8:Option Addr}{c8:Nat}{A9:Option Addr}{c9:Nat}(h:AQ w w1 A3 c3 A4 c4 A8 c8 A9 c9)(hb:Below w1.heap.size w1 w2):AQ w w2 A3 c3 A4 c4 A8 c8 A9 c9:=⟨qF h.low hb,h.a.below hb,h.b.below hb⟩
set_option maxRecDepth 100000 in
set_option maxHeartbeats 4000000 in
theorem qIX(w:World)(hR:RW w):Calls Tryz.prog 11 #[] w fun e w'=>e=.returned (.bool true)∧Below w.heap.size w w':=by
 have HR:=Lib.hid hR;clear hR;go_enter Tryz.func11,Tryz.ntmps11;go_wp2_with fail;refine (qBq _).mono ?_;rintro e w1 ⟨A1,a1,A2,a2,rfl,hc1,hb1⟩;have HC1:=qB.mk hc1;have HB1:=qB.mk hb1;clear hc1 hb1;unfold qw;go_wp2_with fail;refine (qHz _ _ _ _ _ HC1.out (HR.out.below HB1.out)).mono ?_;rintro e w2 ⟨rfl,hb2⟩;have HB2:=qB.mk (qF HB1.out hb2);clear hb2 HB1 HC1;go_wp2_with fail;refine (qH0 _ (HR.out.below HB2.out)).mono ?_;rintro e w3 ⟨⟨A3,c3,A4,c4,rfl,hc3⟩,hb3⟩;have HB3:=qB.mk (qF HB2.out hb3);have HC3:=qB.mk hc3;have HX3:=qB.mk (qV w3 (.cells #[.slice A3 fvB.length c3,.slice A4 fvG.length c4] 27));clear hb3 HB2 hc3;have HB3':=qB.mk (qC HB3.out (.cells #[.slice A3 fvB.length c3,.slice A4 fvG.length c4] 27));have HC3':=qB.mk (HC3.out.below (qC (Below.refl _ _) (.cells #[.slice A3 fvB.length c3,.slice A4 fvG.length c4] 27)));clear HB3 HC3;unfold qw;go_wp2_with fail;generalize w3.alloc (.cells #[.slice A3 fvB.length c3,.slice A4 fvG.length c4] 27)=w4 at *;generalize w3.heap.size=b3 at *;refine (qBq _).mono ?_;rintro e w5 ⟨A5,a5,A6,a6,rfl,hc5,hb5⟩;have HC5:=qB.mk hc5;have HB5:=qB.mk (qF HB3'.out hb5);have HC3:=qB.mk (HC3'.out.below hb5);have HX5:=qB.mk (qK HX3.out hb5);clear hc5 hb5 HX3 HB3' HC3';unfold qw;go_wp2_with fail;refine (qH1 _ _ _ _ _ HC5.out (HR.out.below HB5.out)).mono ?_;rintro e w6 ⟨rfl,hb6⟩
 have HB6:=qB.mk (qF HB5.out hb6);have HC6:=qB.mk (HC3.out.below hb6);have HX6:=qB.mk (qK HX5.out hb6);clear hb6 HX5 HB5 HC3 HC5;generalize hP:(qp fvB fvG).toArray=P;go_wp2_with fail;have hu:=qFs w6 (HR.out.below HB6.out);rw [hP] at hu;refine hu.mono ?_;clear hu hP;rintro e w7 ⟨⟨A8,c8,A9,c9,rfl,hc7⟩,hb7⟩;have HB7:=qB.mk (qC (qF HB6.out hb7) (.cells #[.slice A8 fvB.length c8,.slice A9 fvG.length c9] 27));have HC7:=qB.mk ((HC6.out.below hb7).below (qC (Below.refl _ _) (.cells #[.slice A8 fvB.length c8,.slice A9 fvG.length c9] 27)));have HD7:=qB.mk (hc7.below (qC (Below.refl _ _) (.cells #[.slice A8 fvB.length c8,.slice A9 fvG.length c9] 27)));have HX7:=qB.mk (qK (qK HX6.out hb7) (qC (Below.refl _ _) (.cells #[.slice A8 fvB.length c8,.slice A9 fvG.length c9] 27)));have HY7:=qB.mk (qV w7 (.cells #[.slice A8 fvB.length c8,.slice A9 fvG.length c9] 27));clear hb7 hc7 HB6 HC6 HX6;unfold qw;go_wp2_with fail;generalize w7.alloc (.cells #[.slice A8 fvB.length c8,.slice A9 fvG.length c9] 27)=w8 at *;generalize w7.heap.size=b8 at *;refine (qBq _).mono ?_;rintro e w9 ⟨Aa,aa,Ab,ab,rfl,hc9,hb9⟩;have HC9:=qB.mk hc9;have HB9:=qB.mk (qF HB7.out hb9);have HC3:=qB.mk (HC7.out.below hb9);have HD9:=qB.mk (HD7.out.below hb9);have HX9:=qB.mk (qK HX7.out hb9);have HY9:=qB.mk (qK HY7.out hb9);clear hc9 hb9 HX7 HY7 HB7 HC7 HD7
 unfold qw;go_wp2_with fail;refine (qH2 _ _ _ _ _ HC9.out (HR.out.below HB9.out)).mono ?_;rintro e wa ⟨rfl,hba⟩;have HW:qB (AQ w wa A3 c3 A4 c4 A8 c8 A9 c9):=⟨⟨qF HB9.out hba,HC3.out.below hba,HD9.out.below hba⟩⟩;have x0:=qD (qK HX9.out hba) (i:=0) rfl;have x1:=qD (qK HX9.out hba) (i:=1) rfl;have x2:=qD (qK HY9.out hba) (i:=0) rfl;have x3:=qD (qK HY9.out hba) (i:=1) rfl;clear hba HX9 HY9 HB9 HC3 HD9 HC9;go_wp2;refine qU (n:=42) (S:=fun w'=>w'.cell? ⟨b3,0,none⟩=some (.slice A3 fvB.length c3)∧w'.cell? ⟨b3,1,none⟩=some (.slice A4 fvG.length c4)∧w'.cell? ⟨b8,0,none⟩=some (.slice A8 fvB.length c8)∧w'.cell? ⟨b8,1,none⟩=some (.slice A9 fvG.length c9)∧qB (AQ w w' A3 c3 A4 c4 A8 c8 A9 c9)) (ds:=[]) (mA 42 0) (by kernel_rfl) rfl rfl ⟨qA (qE (Below.refl _ _)) x0,qA (qE (Below.refl _ _)) x1,qA (qE (Below.refl _ _)) x2,qA (qE (Below.refl _ _)) x3,⟨HW.out.below (qE (Below.refl _ _))⟩⟩ (fun hHeld=>?_);refine pa_ 42 1 0 (some 38) (v:=?_) (a':=?_) ?_ ?_ ?_;rotate_left 2
 ·intro w';go_simp
  with_reducible rfl
 ·simp only [pn];rfl
 refine pa_ 42 3 1 (some 39) (v:=?_) (a':=?_) ?_ ?_ ?_;rotate_left 2
 ·intro w';go_simp
  with_reducible rfl
 ·simp only [pn];rfl
 refine pa_ 42 7 2 (some 40) (v:=?_) (a':=?_) ?_ ?_ ?_;rotate_left 2
 ·intro w';go_simp
  with_reducible rfl
 ·simp only [pn];rfl
 refine pa_ 42 15 3 (some 41) (v:=?_) (a':=?_) ?_ ?_ ?_;rotate_left 2
 ·intro w';go_simp
  with_reducible rfl
 ·simp only [pn];rfl
 refine pa_ 42 31 4 (some 42) (v:=?_) (a':=?_) ?_ ?_ ?_;rotate_left 2
 ·intro w';go_simp
  with_reducible rfl
 ·simp only [pn];rfl
 refine pa_ 42 63 5 (some 43) (v:=?_) (a':=?_) ?_ ?_ ?_;rotate_left 2
 ·intro w';go_simp
  with_reducible rfl
 ·simp only [pn];rfl
 refine pa_ 42 127 6 (some 44) (v:=?_) (a':=?_) ?_ ?_ ?_;rotate_left 2
 ·intro w';go_simp
  with_reducible rfl
 ·simp only [pn];rfl
 refine pa_ 42 255 7 (some 45) (v:=?_) (a':=?_) ?_ ?_ ?_;rotate_left 2
 ·intro w';go_simp
  with_reducible rfl
 ·simp only [pn];rfl
 refine pa_ 42 511 8 (some 46) (v:=?_) (a':=?_) ?_ ?_ ?_;rotate_left 2
 ·intro w';go_simp
  with_reducible rfl
 ·simp only [pn];rfl
 refine pa_ 42 1023 9 (some 47) (v:=?_) (a':=?_) ?_ ?_ ?_;rotate_left 2
 ·intro w';go_simp
  with_reducible rfl
 ·simp only [pn];rfl
 refine pa_ 42 2047 10 (some 48) (v:=?_) (a':=?_) ?_ ?_ ?_;rotate_left 2
 ·intro w';go_simp
  with_reducible rfl
 ·simp only [pn];rfl
 refine tb_ 42 4095 11 (some 49) (v:=?_) (a':=?_) hHeld ?_ ?_ ?_;rotate_left 2
 ·rintro w' ⟨s0,s1,s2,s3,s4⟩;go_simp
  with_reducible rfl
 ·simp only [pn];rfl
 refine oo_ 42 8191 12 (some 50) (fun K hK=>?_);refine qR Tryz.func27 (by kernel_rfl) rfl #[] (by rfl) rfl rfl (by simp only [List.map_toArray,List.map_cons,List.map_nil]) ?_
 with_reducible refine (qBq _).mono ?_
 rintro e u1 ⟨Ax1,cx1,Ay1,cy1,rfl,hcm1,hb1⟩;refine ⟨_,rfl,?_⟩;refine hK.out _ _ ⟨qA hb1 hHeld.1,qA hb1 hHeld.2.1,qA hb1 hHeld.2.2.1,qA hb1 hHeld.2.2.2.1,⟨hHeld.2.2.2.2.out.below hb1⟩⟩ (fun hHeld=>?_);clear hK K;refine qM (a':=?_) ?_ ?_;rotate_left
 ·show Act.put _ (some 50) _=_
  simp only [pn];rfl
 refine oo_ 42 16383 13 (some 51) (fun K hK=>?_);refine qR Tryz.func9 (by kernel_rfl) rfl #[qw A3 fvB.length c3 A4 fvG.length c4,qw Ax1 fvB.length cx1 Ay1 fvG.length cy1] (by rfl) rfl rfl (by simp only [List.map_toArray,List.map_cons,List.map_nil]; rfl) ?_
 with_reducible refine (qD5 (hHeld.2.2.2.2.out.a) hcm1).mono ?_
 rintro e u2 ⟨rfl,hb2⟩;refine ⟨_,rfl,?_⟩;refine hK.out _ _ ⟨qA hb2 hHeld.1,qA hb2 hHeld.2.1,qA hb2 hHeld.2.2.1,qA hb2 hHeld.2.2.2.1,⟨hHeld.2.2.2.2.out.below hb2⟩⟩ (fun hHeld=>?_);clear hK K;refine qM (a':=?_) ?_ ?_;rotate_left
 ·show Act.put _ (some 51) _=_
  simp only [pn];rfl
 refine pa_ 42 32767 14 (some 52) (v:=?_) (a':=?_) ?_ ?_ ?_;rotate_left 2
 ·intro w';go_simp
  with_reducible rfl
 ·simp only [pn];rfl
 refine pa_ 42 65535 15 (some 53) (v:=?_) (a':=?_) ?_ ?_ ?_;rotate_left 2
 ·intro w';go_simp
  with_reducible rfl
 ·simp only [pn];rfl
 refine pa_ 42 131071 16 (some 54) (v:=?_) (a':=?_) ?_ ?_ ?_;rotate_left 2
 ·intro w';go_simp
  with_reducible rfl
 ·simp only [pn];rfl
 refine pa_ 42 262143 17 (some 55) (v:=?_) (a':=?_) ?_ ?_ ?_;rotate_left 2
 ·intro w';go_simp
  with_reducible rfl
 ·simp only [pn];rfl
 refine pa_ 42 524287 18 (some 56) (v:=?_) (a':=?_) ?_ ?_ ?_;rotate_left 2
 ·intro w';go_simp
  with_reducible rfl
 ·simp only [pn];rfl
 refine pa_ 42 1048575 19 (some 57) (v:=?_) (a':=?_) ?_ ?_ ?_;rotate_left 2
 ·intro w';go_simp
  with_reducible rfl
 ·simp only [pn];rfl
 refine pa_ 42 2097151 20 (some 58) (v:=?_) (a':=?_) ?_ ?_ ?_;rotate_left 2
 ·intro w';go_simp
  with_reducible rfl
 ·simp only [pn];rfl
 refine pa_ 42 4194303 21 (some 59) (v:=?_) (a':=?_) ?_ ?_ ?_;rotate_left 2
 ·intro w';go_simp
  with_reducible rfl
 ·simp only [pn];rfl
 refine pa_ 42 8388607 22 (some 60) (v:=?_) (a':=?_) ?_ ?_ ?_;rotate_left 2
 ·intro w';go_simp
  with_reducible rfl
 ·simp only [pn];rfl
 refine pa_ 42 16777215 23 (some 61) (v:=?_) (a':=?_) ?_ ?_ ?_;rotate_left 2
 ·intro w';go_simp
  with_reducible rfl
 ·simp only [pn];rfl
 refine pa_ 42 33554431 24 (some 62) (v:=?_) (a':=?_) ?_ ?_ ?_;rotate_left 2
 ·intro w';go_simp
  with_reducible rfl
 ·simp only [pn];rfl
 refine tb_ 42 67108863 25 (some 63) (v:=?_) (a':=?_) hHeld ?_ ?_ ?_;rotate_left 2
 ·rintro w' ⟨s0,s1,s2,s3,s4⟩;go_simp
  with_reducible rfl
 ·simp only [pn];rfl
 refine oo_ 42 134217727 26 (some 64) (fun K hK=>?_);refine qR Tryz.func27 (by kernel_rfl) rfl #[] (by rfl) rfl rfl (by simp only [List.map_toArray,List.map_cons,List.map_nil]) ?_
 with_reducible refine (qBq _).mono ?_
 rintro e u3 ⟨Ax3,cx3,Ay3,cy3,rfl,hcm3,hb3⟩;refine ⟨_,rfl,?_⟩;refine hK.out _ _ ⟨qA hb3 hHeld.1,qA hb3 hHeld.2.1,qA hb3 hHeld.2.2.1,qA hb3 hHeld.2.2.2.1,⟨hHeld.2.2.2.2.out.below hb3⟩⟩ (fun hHeld=>?_);clear hK K;refine qM (a':=?_) ?_ ?_;rotate_left
 ·show Act.put _ (some 64) _=_
  simp only [pn];rfl
 refine oo_ 42 268435455 27 (some 65) (fun K hK=>?_);refine qR Tryz.func9 (by kernel_rfl) rfl #[qw A8 fvB.length c8 A9 fvG.length c9,qw Ax3 fvB.length cx3 Ay3 fvG.length cy3] (by rfl) rfl rfl (by simp only [List.map_toArray,List.map_cons,List.map_nil]; rfl) ?_
 with_reducible refine (qD5 (hHeld.2.2.2.2.out.b) hcm3).mono ?_
 rintro e u4 ⟨rfl,hb4⟩;refine ⟨_,rfl,?_⟩;refine hK.out _ _ ⟨qA hb4 hHeld.1,qA hb4 hHeld.2.1,qA hb4 hHeld.2.2.1,qA hb4 hHeld.2.2.2.1,⟨hHeld.2.2.2.2.out.below hb4⟩⟩ (fun hHeld=>?_);clear hK K;refine qM (a':=?_) ?_ ?_;rotate_left
 ·show Act.put _ (some 65) _=_
  simp only [pn];rfl
 refine pa_ 42 536870911 28 (some 66) (v:=?_) (a':=?_) ?_ ?_ ?_;rotate_left 2
 ·intro w';go_simp
  with_reducible rfl
 ·simp only [pn];rfl
 refine pa_ 42 1073741823 29 (some 67) (v:=?_) (a':=?_) ?_ ?_ ?_;rotate_left 2
 ·intro w';go_simp
  with_reducible rfl
 ·simp only [pn];rfl
 refine pa_ 42 2147483647 30 (some 68) (v:=?_) (a':=?_) ?_ ?_ ?_;rotate_left 2
 ·intro w';go_simp
  with_reducible rfl
 ·simp only [pn];rfl
 refine pa_ 42 4294967295 31 (some 69) (v:=?_) (a':=?_) ?_ ?_ ?_;rotate_left 2
 ·intro w';go_simp
  with_reducible rfl
 ·simp only [pn];rfl
 refine pa_ 42 8589934591 32 (some 70) (v:=?_) (a':=?_) ?_ ?_ ?_;rotate_left 2
 ·intro w';go_simp
  with_reducible rfl
 ·simp only [pn];rfl
 refine pa_ 42 17179869183 33 (some 71) (v:=?_) (a':=?_) ?_ ?_ ?_;rotate_left 2
 ·intro w';go_simp
  with_reducible rfl
 ·simp only [pn];rfl
 refine pa_ 42 34359738367 34 (some 72) (v:=?_) (a':=?_) ?_ ?_ ?_;rotate_left 2
 ·intro w';go_simp
  with_reducible rfl
 ·simp only [pn];rfl
 refine pa_ 42 68719476735 35 (some 73) (v:=?_) (a':=?_) ?_ ?_ ?_;rotate_left 2
 ·intro w';go_simp
  with_reducible rfl
 ·simp only [pn];rfl
 refine pa_ 42 137438953471 36 (some 74) (v:=?_) (a':=?_) ?_ ?_ ?_;rotate_left 2
 ·intro w';go_simp
  with_reducible rfl
 ·simp only [pn];rfl
 refine pa_ 42 274877906943 37 (some 75) (v:=?_) (a':=?_) ?_ ?_ ?_;rotate_left 2
 ·intro w';go_simp
  with_reducible rfl
 ·simp only [pn];rfl
 refine pa_ 42 549755813887 38 (some 76) (v:=?_) (a':=?_) ?_ ?_ ?_;rotate_left 2
 ·intro w';go_simp
  with_reducible rfl
 ·simp only [pn];rfl
 refine oo_ 42 1099511627775 39 (some 77) (fun K hK=>?_);refine qR Tryz.func7 (by kernel_rfl) rfl #[.string ⟨#[97]⟩] (by rfl) rfl rfl (by simp only [List.map_toArray,List.map_cons,List.map_nil]; rfl) ?_
 with_reducible refine (sum_a _).mono ?_
 rintro e u5 ⟨rfl,hb5⟩;refine ⟨_,rfl,?_⟩;refine hK.out _ _ ⟨qA hb5 hHeld.1,qA hb5 hHeld.2.1,qA hb5 hHeld.2.2.1,qA hb5 hHeld.2.2.2.1,⟨hHeld.2.2.2.2.out.below hb5⟩⟩ (fun hHeld=>?_);clear hK K;refine qM (a':=?_) ?_ ?_;rotate_left
 ·show Act.put _ (some 77) _=_
  simp only [pn];rfl
 refine pa_ 42 2199023255551 40 (some 78) (v:=?_) (a':=?_) ?_ ?_ ?_;rotate_left 2
 ·intro w';go_simp
  with_reducible rfl
 ·simp only [pn];rfl
 refine pa_ 42 4398046511103 41 (some 79) (v:=?_) (a':=?_) ?_ ?_ ?_;rotate_left 2
 ·intro w';go_simp
  with_reducible rfl
 ·simp only [pn];rfl
 refine qn (by kernel_rfl) ?_;have HE:=qB.mk hHeld.2.2.2.2.out.low;clear hHeld HW x0 x1 x2 x3;go_wp2;go_ret;exact ⟨rfl,HE.out⟩
end Go.Proofs.YtoonkkipnljflaaGreatDoor.CJ
