/- Code's alternatives in a text: code.alt. Conditions: the part is not too long; the listed variables are laid. -/
import Derived.Test.YtoonkkipnljflaaGreatDoorRG
import Derived.Test.YtoonkkipnljflaaGreatDoorNA
import Derived.Test.YtoonkkipnljflaaGreatDoorC7
namespace Go.Proofs.YtoonkkipnljflaaGreatDoor.CJ
open Go.RowKit Go.Proofs.YtoonkkipnljflaaGreatDoorW.PrintWords Go.Proofs.YtoonkkipnljflaaGreatDoorW.PrintLast Go.Proofs.YtoonkkipnljflaaGreatDoor.PT Go.Proofs.YtoonkkipnljflaaGreatDoor.IMaps Go.Proofs.YtoonkkipnljflaaGreatDoor.TJ
set_option linter.unusedVariables false
set_option linter.unusedSimpArgs false
theorem qAw{P:Program}{ops:Array Oper}{Q:Exit→Act→World→Prop}{oi:Oper}{N:Tmp}{a:Act}{w:World}{K:Act→World→Prop}{o:Obj}(hw:Region.wanted oi (yielded ops a.tmps)=true)(hN:oi.dst=some N)
 (hrun:(execOp a.eval oi).run P w=.ok (.value (.pointer (some ⟨w.heap.size,0,none⟩))) (w.alloc o))
 (h:∀p w1,w.heap.size≤p→w1.heap[p]? = some o→Below w.heap.size w w1→K (a.put (some N) (.pointer (some ⟨p,0,none⟩))) w1):
 if Region.wanted oi (yielded ops a.tmps)=true then Oper.wp P oi a w K Q else K (a.put (some N) undef) w:=
 Q1 hw hN hrun (h _ _ (Nat.le_refl _) (qV w o) (qC (Below.refl _ _) o))
theorem qHp{p o r:List UInt8}{f:Bool}(hc:Lib.cut p [58]=(o,r,f))(hk:¬ 0<Lib.lastIndex r [58]):altT p=none:=by
 unfold altT;simp only [hc];exact if_neg hk
theorem qHq{p o r:List UInt8}{f:Bool}{n:Nat}(hc:Lib.cut p [58]=(o,r,f))(hk:Lib.lastIndex r [58]=n)(hk2:¬ 0<Lib.lastIndex (r.take n) [58]):altT p=none:=by
 unfold altT;simp only [hc,hk,Int.toNat_natCast,hk2,if_false,ite_self]
structure AL(w w':World)(p2 p8:Nat):Prop where
 low:Below w.heap.size w w'
 h2:w'.heap[p2]? = some (.cells #[.int .i64 0,.string ⟨#[]⟩,.int .i64 0,.int .i64 0] 86 (0,0))
 h8:w'.heap[p8]? = some (.cells #[.int .i64 0,.string ⟨#[]⟩,.int .i64 0,.int .i64 0] 86 (0,0))
 n8:w.heap.size≤p8
 ne:p2≠p8
structure AX(w w':World)(p2 p8:Nat)(c8:Array Value):Prop where
 low:Below w.heap.size w w'
 h2:w'.heap[p2]? = some (.cells #[.int .i64 0,.string ⟨#[]⟩,.int .i64 0,.int .i64 0] 86 (0,0))
 h8:w'.heap[p8]? = some (.cells c8 86 (0,0))
 n2:w.heap.size≤p2
 n8:w.heap.size≤p8
 ne:p2≠p8
theorem AX.set{w w':World}{p2 p8:Nat}{c8:Array Value}(h:AX w w' p2 p8 c8)(i:Nat)(u:Value):AX w (w'.setCell ⟨p8,i,none⟩ u) p2 p8 (c8.setIfInBounds i u):=
 ⟨h.low.setCell (p:=⟨p8,i,none⟩) h.n8 u,qS h.h2 h.ne u,qQ h.h8 i u,h.n2,h.n8,h.ne⟩
theorem AX.step{w w' w2:World}{p2 p8:Nat}{c8:Array Value}(h:AX w w' p2 p8 c8)(hb:Below w'.heap.size w' w2):AX w w2 p2 p8 c8:=
 ⟨qF h.low hb,qK h.h2 hb,qK h.h8 hb,h.n2,h.n8,h.ne⟩
def pAlt(_:World)(a:GAl)(v:Value):Prop:=v=.agg #[.int .i64 a.f0,.string a.f1,.int .i64 a.f2,.int .i64 a.f3]
theorem qGS(l:List UInt8)(c:UInt8)(w:World)(hl:l.length≤1000000)(h:RW w):Calls Tryz.prog 56 #[.string ⟨l.toArray⟩,.string ⟨#[c]⟩] w fun e w'=>e=.returned (.tuple #[.string ⟨(Lib.cut l [c]).1.toArray⟩,.string ⟨(Lib.cut l [c]).2.1.toArray⟩,.bool (Lib.cut l [c]).2.2])∧Below w.heap.size w w':=by
 obtain ⟨m,hm⟩:=h.max;refine (Tryz.strings_Cut ⟨l.toArray⟩ ⟨#[c]⟩ m w (by simp [ByteArray.size]; omega) hm).mono ?_;rintro e w' ⟨rfl,n,rfl⟩;exact ⟨rfl,qO (Below.refl _ _) n⟩
theorem qFN(l:List UInt8)(c:UInt8)(w:World)(hl:l.length≤1000000):Calls Tryz.prog 136 #[.string ⟨l.toArray⟩,.string ⟨#[c]⟩] w fun e w'=>e=.returned (.int .i64 (Lib.lastIndex l [c]))∧w=w':=by
 refine (Tryz.strings_LastIndex ⟨l.toArray⟩ ⟨#[c]⟩ (by simp [ByteArray.size]; omega) w).mono ?_;rintro e w' ⟨rfl,rfl⟩;exact ⟨rfl,rfl⟩
set_option maxRecDepth 100000 in
set_option maxHeartbeats 16000000 in
theorem qKt(w:World)(p:List UInt8)(hp:p.length≤1000000)(h:RW w):
 Calls Tryz.prog 112 #[.string ⟨p.toArray⟩] w (qHn w pAlt (altT p)):=by
 obtain ⟨F,hF⟩:∃F,F=altT p:=⟨_,rfl⟩;rw [←hF];have HF:=Lib.hid hF;have hR:=Lib.hid h;clear hF h;go_enter Tryz.func112,Tryz.ntmps112;go_wp2_with (first|((with_reducible refine qh (N:=2) rfl ?_); refine QJ ?hg (N:=2) ?hd (cs:=#[.int .i64 0,.string ⟨#[]⟩,.int .i64 0,.int .i64 0]) (t:=86) ?hr ?_; (case hd=>rfl); (case hg=>rfl); (case hr=>first|(go_simp; done)|(go_simp; rfl)); intro p2 hp2 w1 hbox2 hb1; have hp2':w.heap.size≤p2:=Nat.le_of_eq hp2.symm; clear hp2));have HB0:=qB.mk (And.intro hb1 hbox2);have HC:=Lib.hid (qGS p 58 w1 hp (hR.out.below hb1));clear hb1 hbox2;obtain ⟨o,r,f,hc⟩:∃o r f,Lib.cut p [58]=(o,r,f):=⟨_,_,_,rfl⟩;have hro:r.length≤1000000∧o.length≤1000000∧(f=true→(58:UInt8)∉o∧p=o++58::r)∧(f=false→r=[]):=by
  rcases qFo 58 p with ⟨h1,h2⟩|⟨x,y,h1,h2,h3⟩
  ·rw [hc] at h2;injection h2 with h2 h4;injection h4 with h4 h5;subst h2 h4 h5;exact ⟨by simp,hp,(fun h=>by cases h),fun _=>rfl⟩
  ·rw [hc] at h3;injection h3 with h2 h4;injection h4 with h4 h5;subst h2 h4 h5;rw [h1] at hp;simp only [List.length_append,List.length_cons] at hp;exact ⟨by omega,by omega,fun _=>⟨by assumption,h1⟩,(fun h=>by cases h)⟩
 obtain ⟨hrl,hol,hft,hff⟩:=hro;have HC:=Lib.hid (by have:=HC.out; rw [hc] at this; exact this);simp only at HC;have HO:=Lib.hid (And.intro hft (And.intro hff hol));have HCC:=Lib.hid hc;clear hft hff hc hol;refine HC.out.mono ?_;rintro e w2 ⟨rfl,hb2⟩;have HB1:qB (Below w.heap.size w w2∧w2.heap[p2]? = some (.cells #[.int .i64 0,.string ⟨#[]⟩,.int .i64 0,.int .i64 0] 86 (0,0))):=⟨⟨qF HB0.out.1 hb2,qK HB0.out.2 hb2⟩⟩;clear hb2 HB0 HC;go_wp2_with fail;refine (qFN r 58 _ hrl).mono ?_;rintro e w3 ⟨rfl,rfl⟩;rcases qHi 58 r with ⟨_,hk⟩|⟨x,b,hrx,hnb,hk⟩
 ·have HE:Hid (F=none):=Lib.hid (HF.out.trans (qHp HCC.out (by omega)));rw [hk];go_wp2_with fail;refine (qG _).mono ?_;rintro e wz ⟨rfl,rfl⟩;go_wp2;exact ⟨rfl,by rw [HE.out]; exact ⟨rfl,HB1.out.1⟩⟩
 ·rw [hk];by_cases hx0:x.length=0
  ·have HE:Hid (F=none):=Lib.hid (HF.out.trans (qHp HCC.out (by omega)));rw [hx0];clear hk;go_wp2_with fail;refine (qG _).mono ?_;rintro e wz ⟨rfl,rfl⟩;go_wp2;exact ⟨rfl,by rw [HE.out]; exact ⟨rfl,HB1.out.1⟩⟩
  ·have hf:f=true:=by
    cases f
    ·have:=HO.out.2.1 rfl;rw [this] at hrx;have:=congrArg List.length hrx;simp at this
    ·rfl
   subst hf;obtain ⟨ho58,hpo⟩:=HO.out.1 rfl;have hol:=HO.out.2.2;obtain ⟨n,hn⟩:∃n,n=x.length:=⟨_,rfl⟩;have htake:r.take n=x:=by rw [hn,hrx]; exact List.take_left
   have hdrop:r.drop (n+1)=b:=by rw [hn,hrx,←List.drop_drop,List.drop_left]; rfl
   have hrlen:r.length=n+1+b.length:=by rw [hn,hrx]; simp; omega
   have hA:(⟨r.toArray⟩:ByteArray).extract (n+1) r.length=⟨b.toArray⟩:=by rw [←hdrop]; exact Lib.extract_from (⟨r.toArray⟩:ByteArray) (n+1)
   have hB:(⟨r.toArray⟩:ByteArray).extract 0 n=⟨x.toArray⟩:=by rw [←htake]; exact Lib.extract_upto _ _
   have hxl:x.length≤1000000:=by omega
   have hbl:b.length≤1000000:=by omega
   have hn1:n+1≤r.length:=by omega
   have hnr:n≤r.length:=by omega
   have hn0:0<n:=by omega
   have HX:=Lib.hid (And.intro hrx (And.intro hnb (And.intro hn (And.intro htake (And.intro ho58 (And.intro hpo hk))))));have HL:=Lib.hid (And.intro hxl (And.intro hbl hol));rw [←hn];clear hk hrx hnb htake hdrop hrlen hx0 ho58 hpo hxl hbl hol hn;go_wp2_with fail;refine (qL _).mono ?_;rintro e wz ⟨rfl,rfl⟩;go_wp2_with fail;refine (qFN x 58 _ HL.out.1).mono ?_;rintro e w3 ⟨rfl,rfl⟩;rcases qHi 58 x with ⟨_,hk⟩|⟨s,m,hxs,hnm,hk⟩
   ·have HE:Hid (F=none):=Lib.hid (HF.out.trans (qHq (n:=n) HCC.out (by rw [HX.out.2.2.2.2.2.2,HX.out.2.2.1]) (by rw [HX.out.2.2.2.1]; omega)));rw [hk];clear hA hB;go_wp2_with fail;refine (qG _).mono ?_;rintro e wz ⟨rfl,rfl⟩;go_wp2;exact ⟨rfl,by rw [HE.out]; exact ⟨rfl,HB1.out.1⟩⟩
   ·rw [hk];by_cases hs0:s.length=0
    ·have HE:Hid (F=none):=Lib.hid (HF.out.trans (qHq (n:=n) HCC.out (by rw [HX.out.2.2.2.2.2.2,HX.out.2.2.1]) (by rw [HX.out.2.2.2.1]; omega)));rw [hs0];clear hk hA hB;go_wp2_with fail;refine (qG _).mono ?_;rintro e wz ⟨rfl,rfl⟩;go_wp2;exact ⟨rfl,by rw [HE.out]; exact ⟨rfl,HB1.out.1⟩⟩
    ·have HV:Hid (F=qDI o s m b):=Lib.hid (by
      rw [HF.out,HX.out.2.2.2.2.2.1,HX.out.1,hxs];rw [show s++58::m++58::b=s++58::(m++58::b) from by simp];exact qFH o s m b HX.out.2.2.2.2.1 hnm HX.out.2.1 (fun e=>hs0 (by rw [e]; rfl)))
     obtain ⟨k,hk'⟩:∃k,k=s.length:=⟨_,rfl⟩;have htake:x.take k=s:=by rw [hk',hxs]; exact List.take_left
     have hdrop:x.drop (k+1)=m:=by rw [hk',hxs,←List.drop_drop,List.drop_left]; rfl
     have hxlen:x.length=k+1+m.length:=by rw [hk',hxs]; simp; omega
     have hC:(⟨x.toArray⟩:ByteArray).extract (k+1) x.length=⟨m.toArray⟩:=by rw [←hdrop]; exact Lib.extract_from (⟨x.toArray⟩:ByteArray) (k+1)
     have hD:(⟨x.toArray⟩:ByteArray).extract 0 k=⟨s.toArray⟩:=by rw [←htake]; exact Lib.extract_upto _ _
     have hxl:=HL.out.1;have hk1:k+1≤x.length:=by omega
     have hkx:k≤x.length:=by omega
     have hk0:0<k:=by omega
     have hml:m.length≤1000000:=by omega
     have hsl:s.length≤1000000:=by omega
     have HN0:=Lib.hid (fun W hW=>qBA W o HL.out.2.2 hW);have HN2:=Lib.hid (fun W hW=>qBA W m hml hW);have HN3:=Lib.hid (fun W hW=>qBA W b HL.out.2.1 hW);have HS1:=Lib.hid (fun W=>qHo W s hsl);rw [←hk'];clear hk htake hdrop hxlen hs0 hk' hml hsl HF HX HO HCC hxs hnm;go_wp2_with fail;refine (qL _).mono ?_;rintro e wz ⟨rfl,rfl⟩;go_wp2;clear hA hB;unfold qDI at HV;cases g0:numT o with
     |none=>
      have HE:Hid (F=none):=Lib.hid (by rw [HV.out,g0]);rw [g0] at HN0;refine qU (n:=9) (S:=fun w'=>qB (Below w.heap.size w w'∧w'.heap[p2]? = some (.cells #[.int .i64 0,.string ⟨#[]⟩,.int .i64 0,.int .i64 0] 86 (0,0)))) (ds:=[]) (mA 9 0) (by kernel_rfl) rfl rfl (⟨⟨qE HB1.out.1,qK HB1.out.2 (qE (Below.refl _ _))⟩⟩) (fun hHeld=>?_);refine pa_ 9 1 0 (some 32) (v:=?_) (a':=?_) ?_ ?_ ?_;rotate_left 2
      ·intro w';go_simp
       with_reducible rfl
      ·simp only [pn];rfl
      refine pa_ 9 5 2 (some 34) (v:=?_) (a':=?_) ?_ ?_ ?_;rotate_left 2
      ·intro w';go_simp
       with_reducible rfl
      ·simp only [pn];rfl
      refine pa_ 9 13 3 (some 35) (v:=?_) (a':=?_) ?_ ?_ ?_;rotate_left 2
      ·intro w';go_simp
       with_reducible rfl
      ·simp only [pn];rfl
      refine pa_ 9 29 4 (some 36) (v:=?_) (a':=?_) ?_ ?_ ?_;rotate_left 2
      ·intro w';go_simp
       with_reducible rfl
      ·simp only [pn];rfl
      refine two_ (i:=1) (j:=7) (Ni:=some 33) (Nj:=some 8) (mA 9 31) (mA 9 157) rfl rfl rfl rfl (by kernel_rfl) (by decide) (by decide) (fun K hK=>?_) (fun K hK=>?_)
      ·skip
       refine qAO Tryz.func113 (by kernel_rfl) rfl #[.string ⟨o.toArray⟩] (by rfl) rfl rfl (by simp only [List.map_toArray,List.map_cons,List.map_nil]; rfl) ?_
       with_reducible refine (HN0.out _ (hR.out.below hHeld.out.1)).mono ?_
       rintro e u1 ⟨rfl,hb1⟩;refine ⟨_,rfl,?_⟩;exact ⟨rfl,by rw [HE.out]; exact ⟨rfl,qF hHeld.out.1 hb1⟩⟩
      ·skip
       have hlt8:=qN hHeld.out.2;have hsz8:=hHeld.out.1.size;refine qAw (o:=.cells #[.int .i64 0,.string ⟨#[]⟩,.int .i64 0,.int .i64 0] 86 (0,0)) (by rfl) rfl (by go_simp) ?_;intro p8 w8 hp8 hz8 hb8;have hn8:w.heap.size≤p8∧p2≠p8:=⟨by omega,by omega⟩;refine hK.out _ _ (⟨⟨qF hHeld.out.1 hb8,qK hHeld.out.2 hb8⟩⟩) (fun hHeld=>?_);clear hK K;refine qM (a':=?_) ?_ ?_;rotate_left
       ·show Act.put _ (some 8) _=_
        simp only [pn];rfl
       refine oo_ 9 159 1 (some 33) (fun K hK=>?_);refine qAO Tryz.func113 (by kernel_rfl) rfl #[.string ⟨o.toArray⟩] (by rfl) rfl rfl (by simp only [List.map_toArray,List.map_cons,List.map_nil]; rfl) ?_
       with_reducible refine (HN0.out _ (hR.out.below hHeld.out.1)).mono ?_
       rintro e u1 ⟨rfl,hb1⟩;refine ⟨_,rfl,?_⟩;exact ⟨rfl,by rw [HE.out]; exact ⟨rfl,qF hHeld.out.1 hb1⟩⟩
     |some n0=>
      rw [g0] at HN0;cases g1:strT s with
      |none=>
       have HE:Hid (F=none):=Lib.hid (by rw [HV.out,g0,g1]);rw [g1] at HS1;refine qU (n:=9) (S:=fun w'=>qB (Below w.heap.size w w'∧w'.heap[p2]? = some (.cells #[.int .i64 0,.string ⟨#[]⟩,.int .i64 0,.int .i64 0] 86 (0,0)))) (ds:=[]) (mA 9 0) (by kernel_rfl) rfl rfl (⟨⟨qE HB1.out.1,qK HB1.out.2 (qE (Below.refl _ _))⟩⟩) (fun hHeld=>?_);refine pa_ 9 1 0 (some 32) (v:=?_) (a':=?_) ?_ ?_ ?_;rotate_left 2
       ·intro w';go_simp
        with_reducible rfl
       ·simp only [pn];rfl
       refine pa_ 9 5 2 (some 34) (v:=?_) (a':=?_) ?_ ?_ ?_;rotate_left 2
       ·intro w';go_simp
        with_reducible rfl
       ·simp only [pn];rfl
       refine pa_ 9 13 3 (some 35) (v:=?_) (a':=?_) ?_ ?_ ?_;rotate_left 2
       ·intro w';go_simp
        with_reducible rfl
       ·simp only [pn];rfl
       refine pa_ 9 29 4 (some 36) (v:=?_) (a':=?_) ?_ ?_ ?_;rotate_left 2
       ·intro w';go_simp
        with_reducible rfl
       ·simp only [pn];rfl
       refine two_ (i:=1) (j:=7) (Ni:=some 33) (Nj:=some 8) (mA 9 31) (mA 9 157) rfl rfl rfl rfl (by kernel_rfl) (by decide) (by decide) (fun K hK=>?_) (fun K hK=>?_)
       ·skip
        refine qR Tryz.func113 (by kernel_rfl) rfl #[.string ⟨o.toArray⟩] (by rfl) rfl rfl (by simp only [List.map_toArray,List.map_cons,List.map_nil]; rfl) ?_
        with_reducible refine (HN0.out _ (hR.out.below hHeld.out.1)).mono ?_
        rintro e u1 ⟨v1,rfl,rfl,hb1⟩;refine ⟨_,rfl,?_⟩;refine hK.out _ _ (⟨⟨qF hHeld.out.1 hb1,qK hHeld.out.2 hb1⟩⟩) (fun hHeld=>?_);clear hK K;refine qM (a':=?_) ?_ ?_;rotate_left
        ·show Act.put _ (some 33) _=_
         simp only [pn];rfl
        refine two_ (i:=5) (j:=7) (Ni:=some 37) (Nj:=some 8) (mA 9 63) (mA 9 159) rfl rfl rfl rfl (by kernel_rfl) (by decide) (by decide) (fun K hK=>?_) (fun K hK=>?_)
        ·skip
         refine qAO Tryz.func110 (by kernel_rfl) rfl #[.string ⟨s.toArray⟩] (by rfl) rfl rfl (by simp only [List.map_toArray,List.map_cons,List.map_nil]; rfl) ?_
         with_reducible refine (HS1.out _).mono ?_
         rintro e u2 ⟨rfl,hb2⟩;refine ⟨_,rfl,?_⟩;exact ⟨rfl,by rw [HE.out]; exact ⟨rfl,qF hHeld.out.1 hb2⟩⟩
        ·skip
         have hlt8:=qN hHeld.out.2;have hsz8:=hHeld.out.1.size;refine qAw (o:=.cells #[.int .i64 0,.string ⟨#[]⟩,.int .i64 0,.int .i64 0] 86 (0,0)) (by rfl) rfl (by go_simp) ?_;intro p8 w8 hp8 hz8 hb8;have hn8:w.heap.size≤p8∧p2≠p8:=⟨by omega,by omega⟩;refine hK.out _ _ (⟨⟨qF hHeld.out.1 hb8,qK hHeld.out.2 hb8⟩⟩) (fun hHeld=>?_);clear hK K;refine qM (a':=?_) ?_ ?_;rotate_left
         ·show Act.put _ (some 8) _=_
          simp only [pn];rfl
         refine oo_ 9 191 5 (some 37) (fun K hK=>?_);refine qAO Tryz.func110 (by kernel_rfl) rfl #[.string ⟨s.toArray⟩] (by rfl) rfl rfl (by simp only [List.map_toArray,List.map_cons,List.map_nil]; rfl) ?_
         with_reducible refine (HS1.out _).mono ?_
         rintro e u2 ⟨rfl,hb2⟩;refine ⟨_,rfl,?_⟩;exact ⟨rfl,by rw [HE.out]; exact ⟨rfl,qF hHeld.out.1 hb2⟩⟩
       ·skip
        have hlt8:=qN hHeld.out.2;have hsz8:=hHeld.out.1.size;refine qAw (o:=.cells #[.int .i64 0,.string ⟨#[]⟩,.int .i64 0,.int .i64 0] 86 (0,0)) (by rfl) rfl (by go_simp) ?_;intro p8 w8 hp8 hz8 hb8;have hn8:w.heap.size≤p8∧p2≠p8:=⟨by omega,by omega⟩;refine hK.out _ _ (⟨⟨qF hHeld.out.1 hb8,qK hHeld.out.2 hb8⟩⟩) (fun hHeld=>?_);clear hK K;refine qM (a':=?_) ?_ ?_;rotate_left
        ·show Act.put _ (some 8) _=_
         simp only [pn];rfl
        refine oo_ 9 159 1 (some 33) (fun K hK=>?_);refine qR Tryz.func113 (by kernel_rfl) rfl #[.string ⟨o.toArray⟩] (by rfl) rfl rfl (by simp only [List.map_toArray,List.map_cons,List.map_nil]; rfl) ?_
        with_reducible refine (HN0.out _ (hR.out.below hHeld.out.1)).mono ?_
        rintro e u1 ⟨v1,rfl,rfl,hb1⟩;refine ⟨_,rfl,?_⟩;refine hK.out _ _ (⟨⟨qF hHeld.out.1 hb1,qK hHeld.out.2 hb1⟩⟩) (fun hHeld=>?_);clear hK K;refine qM (a':=?_) ?_ ?_;rotate_left
        ·show Act.put _ (some 33) _=_
         simp only [pn];rfl
        refine oo_ 9 191 5 (some 37) (fun K hK=>?_);refine qAO Tryz.func110 (by kernel_rfl) rfl #[.string ⟨s.toArray⟩] (by rfl) rfl rfl (by simp only [List.map_toArray,List.map_cons,List.map_nil]; rfl) ?_
        with_reducible refine (HS1.out _).mono ?_
        rintro e u2 ⟨rfl,hb2⟩;refine ⟨_,rfl,?_⟩;exact ⟨rfl,by rw [HE.out]; exact ⟨rfl,qF hHeld.out.1 hb2⟩⟩
      |some s1=>
       rw [g1] at HS1;refine qU (n:=9) (S:=fun w'=>qB (Below w.heap.size w w'∧w'.heap[p2]? = some (.cells #[.int .i64 0,.string ⟨#[]⟩,.int .i64 0,.int .i64 0] 86 (0,0)))) (ds:=[]) (mA 9 0) (by kernel_rfl) rfl rfl (⟨⟨qE HB1.out.1,qK HB1.out.2 (qE (Below.refl _ _))⟩⟩) (fun hHeld=>?_);refine pa_ 9 1 0 (some 32) (v:=?_) (a':=?_) ?_ ?_ ?_;rotate_left 2
       ·intro w';go_simp
        with_reducible rfl
       ·simp only [pn];rfl
       refine pa_ 9 5 2 (some 34) (v:=?_) (a':=?_) ?_ ?_ ?_;rotate_left 2
       ·intro w';go_simp
        with_reducible rfl
       ·simp only [pn];rfl
       refine pa_ 9 13 3 (some 35) (v:=?_) (a':=?_) ?_ ?_ ?_;rotate_left 2
       ·intro w';go_simp
        with_reducible rfl
       ·simp only [pn];rfl
       refine pa_ 9 29 4 (some 36) (v:=?_) (a':=?_) ?_ ?_ ?_;rotate_left 2
       ·intro w';go_simp
        with_reducible rfl
       ·simp only [pn];rfl
       refine join_ (σ:=Nat) 1 (mA 9 255) (fun p=>[(33,.int .i64 n0),(37,.string s1),(8,.pointer (some ⟨p,0,none⟩)),(38,.agg #[.int .i64 n0,.string s1,.int .i64 0,.int .i64 0])]) (fun p w'=>qB (AL w w' p2 p)) ?_ ?_;rotate_left
       ·intro hCont;refine two_ (i:=1) (j:=7) (Ni:=some 33) (Nj:=some 8) (mA 9 31) (mA 9 157) rfl rfl rfl rfl (by kernel_rfl) (by decide) (by decide) (fun K hK=>?_) (fun K hK=>?_)
        ·skip
         refine qR Tryz.func113 (by kernel_rfl) rfl #[.string ⟨o.toArray⟩] (by rfl) rfl rfl (by simp only [List.map_toArray,List.map_cons,List.map_nil]; rfl) ?_
         with_reducible refine (HN0.out _ (hR.out.below hHeld.out.1)).mono ?_
         rintro e u1 ⟨v1,rfl,rfl,hb1⟩;refine ⟨_,rfl,?_⟩;refine hK.out _ _ (⟨⟨qF hHeld.out.1 hb1,qK hHeld.out.2 hb1⟩⟩) (fun hHeld=>?_);clear hK K;refine qM (a':=?_) ?_ ?_;rotate_left
         ·show Act.put _ (some 33) _=_
          simp only [pn];rfl
         refine two_ (i:=5) (j:=7) (Ni:=some 37) (Nj:=some 8) (mA 9 63) (mA 9 159) rfl rfl rfl rfl (by kernel_rfl) (by decide) (by decide) (fun K hK=>?_) (fun K hK=>?_)
         ·skip
          refine qR Tryz.func110 (by kernel_rfl) rfl #[.string ⟨s.toArray⟩] (by rfl) rfl rfl (by simp only [List.map_toArray,List.map_cons,List.map_nil]; rfl) ?_
          with_reducible refine (HS1.out _).mono ?_
          rintro e u2 ⟨v2,rfl,rfl,hb2⟩;refine ⟨_,rfl,?_⟩;refine hK.out _ _ (⟨⟨qF hHeld.out.1 hb2,qK hHeld.out.2 hb2⟩⟩) (fun hHeld=>?_);clear hK K;refine qM (a':=?_) ?_ ?_;rotate_left
          ·show Act.put _ (some 37) _=_
           simp only [pn];rfl
          refine pa_ 9 127 6 (some 38) (v:=?_) (a':=?_) ?_ ?_ ?_;rotate_left 2
          ·intro w';go_simp
           with_reducible rfl
          ·simp only [pn];rfl
          refine oo_ 9 255 7 (some 8) (fun K hK=>?_);have hlt8:=qN hHeld.out.2;have hsz8:=hHeld.out.1.size;refine qAw (o:=.cells #[.int .i64 0,.string ⟨#[]⟩,.int .i64 0,.int .i64 0] 86 (0,0)) (by rfl) rfl (by go_simp) ?_;intro p8 w8 hp8 hz8 hb8;have hn8:w.heap.size≤p8∧p2≠p8:=⟨by omega,by omega⟩;refine hK.out _ _ (⟨⟨qF hHeld.out.1 hb8,qK hHeld.out.2 hb8⟩⟩) (fun hHeld=>?_);clear hK K;refine qM (a':=?_) ?_ ?_;rotate_left
          ·show Act.put _ (some 8) _=_
           simp only [pn];rfl
          exact qM (by simp only [qBS,Act.put,List.setIfInBounds_toArray,List.set_cons_zero,List.set_cons_succ]) (hCont p8 _ ⟨⟨hHeld.out.1,hHeld.out.2,hz8,hn8.1,hn8.2⟩⟩)
         ·skip
          have hlt8:=qN hHeld.out.2;have hsz8:=hHeld.out.1.size;refine qAw (o:=.cells #[.int .i64 0,.string ⟨#[]⟩,.int .i64 0,.int .i64 0] 86 (0,0)) (by rfl) rfl (by go_simp) ?_;intro p8 w8 hp8 hz8 hb8;have hn8:w.heap.size≤p8∧p2≠p8:=⟨by omega,by omega⟩;refine hK.out _ _ (⟨⟨qF hHeld.out.1 hb8,qK hHeld.out.2 hb8⟩⟩) (fun hHeld=>?_);clear hK K;refine qM (a':=?_) ?_ ?_;rotate_left
          ·show Act.put _ (some 8) _=_
           simp only [pn];rfl
          refine oo_ 9 191 5 (some 37) (fun K hK=>?_);refine qR Tryz.func110 (by kernel_rfl) rfl #[.string ⟨s.toArray⟩] (by rfl) rfl rfl (by simp only [List.map_toArray,List.map_cons,List.map_nil]; rfl) ?_
          with_reducible refine (HS1.out _).mono ?_
          rintro e u2 ⟨v2,rfl,rfl,hb2⟩;refine ⟨_,rfl,?_⟩;refine hK.out _ _ (⟨⟨qF hHeld.out.1 hb2,qK hHeld.out.2 hb2⟩⟩) (fun hHeld=>?_);clear hK K;refine qM (a':=?_) ?_ ?_;rotate_left
          ·show Act.put _ (some 37) _=_
           simp only [pn];rfl
          refine pa_ 9 255 6 (some 38) (v:=?_) (a':=?_) ?_ ?_ ?_;rotate_left 2
          ·intro w';go_simp
           with_reducible rfl
          ·simp only [pn];rfl
          exact qM (by simp only [qBS,Act.put,List.setIfInBounds_toArray,List.set_cons_zero,List.set_cons_succ]) (hCont p8 _ ⟨⟨hHeld.out.1,hHeld.out.2,qK (hz8) hb2,hn8.1,hn8.2⟩⟩)
        ·skip
         have hlt8:=qN hHeld.out.2;have hsz8:=hHeld.out.1.size;refine qAw (o:=.cells #[.int .i64 0,.string ⟨#[]⟩,.int .i64 0,.int .i64 0] 86 (0,0)) (by rfl) rfl (by go_simp) ?_;intro p8 w8 hp8 hz8 hb8;have hn8:w.heap.size≤p8∧p2≠p8:=⟨by omega,by omega⟩;refine hK.out _ _ (⟨⟨qF hHeld.out.1 hb8,qK hHeld.out.2 hb8⟩⟩) (fun hHeld=>?_);clear hK K;refine qM (a':=?_) ?_ ?_;rotate_left
         ·show Act.put _ (some 8) _=_
          simp only [pn];rfl
         refine oo_ 9 159 1 (some 33) (fun K hK=>?_);refine qR Tryz.func113 (by kernel_rfl) rfl #[.string ⟨o.toArray⟩] (by rfl) rfl rfl (by simp only [List.map_toArray,List.map_cons,List.map_nil]; rfl) ?_
         with_reducible refine (HN0.out _ (hR.out.below hHeld.out.1)).mono ?_
         rintro e u1 ⟨v1,rfl,rfl,hb1⟩;refine ⟨_,rfl,?_⟩;refine hK.out _ _ (⟨⟨qF hHeld.out.1 hb1,qK hHeld.out.2 hb1⟩⟩) (fun hHeld=>?_);clear hK K;refine qM (a':=?_) ?_ ?_;rotate_left
         ·show Act.put _ (some 33) _=_
          simp only [pn];rfl
         refine oo_ 9 191 5 (some 37) (fun K hK=>?_);refine qR Tryz.func110 (by kernel_rfl) rfl #[.string ⟨s.toArray⟩] (by rfl) rfl rfl (by simp only [List.map_toArray,List.map_cons,List.map_nil]; rfl) ?_
         with_reducible refine (HS1.out _).mono ?_
         rintro e u2 ⟨v2,rfl,rfl,hb2⟩;refine ⟨_,rfl,?_⟩;refine hK.out _ _ (⟨⟨qF hHeld.out.1 hb2,qK hHeld.out.2 hb2⟩⟩) (fun hHeld=>?_);clear hK K;refine qM (a':=?_) ?_ ?_;rotate_left
         ·show Act.put _ (some 37) _=_
          simp only [pn];rfl
         refine pa_ 9 255 6 (some 38) (v:=?_) (a':=?_) ?_ ?_ ?_;rotate_left 2
         ·intro w';go_simp
          with_reducible rfl
         ·simp only [pn];rfl
         exact qM (by simp only [qBS,Act.put,List.setIfInBounds_toArray,List.set_cons_zero,List.set_cons_succ]) (hCont p8 _ ⟨⟨hHeld.out.1,hHeld.out.2,qK (qK (hz8) hb1) hb2,hn8.1,hn8.2⟩⟩)
       rintro p8 wj HJ;have hHeld:qB (Below w.heap.size w wj∧wj.heap[p2]? = some (.cells #[.int .i64 0,.string ⟨#[]⟩,.int .i64 0,.int .i64 0] 86 (0,0))):=⟨⟨HJ.out.low,HJ.out.h2⟩⟩;have k0:=qD HJ.out.h8 (i:=0) rfl;have k1:=qD HJ.out.h8 (i:=1) rfl;have k2:=qD HJ.out.h8 (i:=2) rfl;have k3:=qD HJ.out.h8 (i:=3) rfl;have z0:=qH HJ.out.h8 0;have z1:=qH HJ.out.h8 1;have z2:=qH HJ.out.h8 2;have z3:=qH HJ.out.h8 3;have hJne:=HJ.out.ne;have hJn8:=HJ.out.n8;refine qM (a':=?_) ?_ ?_;rotate_left
       ·simp only [qBS,Act.put,List.setIfInBounds_toArray,List.set_cons_zero,List.set_cons_succ];rfl
       refine oo_ 9 511 8 none (fun K hK=>?_);refine qC4 (w1:=?_) (by rfl) rfl ?_ ?_;rotate_left
       ·go_simp;rfl
       refine hK.out _ _ (⟨⟨((((hHeld.out.1).setCell (p:=⟨p8,0,none⟩) hJn8 (.int .i64 n0)).setCell (p:=⟨p8,1,none⟩) hJn8 (.string s1)).setCell (p:=⟨p8,2,none⟩) hJn8 (.int .i64 0)).setCell (p:=⟨p8,3,none⟩) hJn8 (.int .i64 0),qS (qS (qS (qS (hHeld.out.2) hJne (.int .i64 n0)) hJne (.string s1)) hJne (.int .i64 0)) hJne (.int .i64 0)⟩⟩) (fun hHeld=>?_);clear hK K;refine qn (by kernel_rfl) ?_;have HA0:qB (AX w wj p2 p8 #[.int .i64 0,.string ⟨#[]⟩,.int .i64 0,.int .i64 0]):=⟨⟨HJ.out.low,HJ.out.h2,HJ.out.h8,hp2',HJ.out.n8,HJ.out.ne⟩⟩;have HA:qB (AX w ((((wj.setCell ⟨p8,0,none⟩ (.int .i64 n0)).setCell ⟨p8,1,none⟩ (.string s1)).setCell ⟨p8,2,none⟩ (.int .i64 0)).setCell ⟨p8,3,none⟩ (.int .i64 0)) p2 p8 #[.int .i64 n0,.string s1,.int .i64 0,.int .i64 0]):=⟨(((HA0.out.set 0 (.int .i64 n0)).set 1 (.string s1)).set 2 (.int .i64 0)).set 3 (.int .i64 0)⟩;clear HA0 HJ hHeld k0 k1 k2 k3 z0 z1 z2 z3 hJne hJn8 HN0 HS1 HB1;generalize ((((wj.setCell ⟨p8,0,none⟩ (.int .i64 n0)).setCell ⟨p8,1,none⟩ (.string s1)).setCell ⟨p8,2,none⟩ (.int .i64 0)).setCell ⟨p8,3,none⟩ (.int .i64 0))=W at *;go_wp2_with fail;refine (HN2.out _ (hR.out.below HA.out.low)).mono ?_;cases g2:numT m with
       |none=>
        have HE:Hid (F=none):=Lib.hid (by rw [HV.out,g0,g1,g2]);rintro e wz ⟨rfl,hb⟩;have HZ:=qB.mk (qF HA.out.low hb);clear hb;go_wp2;exact ⟨rfl,by rw [HE.out]; exact ⟨rfl,HZ.out⟩⟩
       |some n2=>
        rintro e wy ⟨v,rfl,rfl,hb⟩;have HAy:=qB.mk (HA.out.step hb);have d:=qD HAy.out.h8 (i:=2) rfl;have z:=qH HAy.out.h8 2;have HA2:qB (AX w (wy.setCell ⟨p8,2,none⟩ (.int .i64 n2)) p2 p8 #[.int .i64 n0,.string s1,.int .i64 n2,.int .i64 0]):=⟨HAy.out.set 2 (.int .i64 n2)⟩;clear hb HA HN2 hC hD hk1 hkx;go_wp2_with fail;generalize wy.setCell ⟨p8,2,none⟩ (.int .i64 n2)=W2 at *;clear d z HAy;refine (HN3.out _ (hR.out.below HA2.out.low)).mono ?_;cases g3:numT b with
        |none=>
         have HE:Hid (F=none):=Lib.hid (by rw [HV.out,g0,g1,g2,g3]);rintro e wz ⟨rfl,hb⟩;have HZ:=qB.mk (qF HA2.out.low hb);clear hb;go_wp2;exact ⟨rfl,by rw [HE.out]; exact ⟨rfl,HZ.out⟩⟩
        |some n3=>
         have HE:Hid (F=some ⟨n0,s1,n2,n3⟩):=Lib.hid (by rw [HV.out,g0,g1,g2,g3]);rintro e wx ⟨v,rfl,rfl,hb⟩;have HAx:=qB.mk (HA2.out.step hb);have d3:=qD HAx.out.h8 (i:=3) rfl;have z3:=qH HAx.out.h8 3;have HA3:qB (AX w (wx.setCell ⟨p8,3,none⟩ (.int .i64 n3)) p2 p8 #[.int .i64 n0,.string s1,.int .i64 n2,.int .i64 n3]):=⟨HAx.out.set 3 (.int .i64 n3)⟩;clear hb HA2 HN3;go_wp2_with (first|((with_reducible refine qh (N:=48) rfl ?_); refine Hid.out ?_));generalize wx.setCell ⟨p8,3,none⟩ (.int .i64 n3)=W3 at *;clear d3 z3 HAx;have d0:=qD HA3.out.h8 (i:=0) rfl;have e0:=qD HA3.out.h2 (i:=0) rfl;have z0:=qH HA3.out.h2 0;have d1:=qD HA3.out.h8 (i:=1) rfl;have e1:=qD HA3.out.h2 (i:=1) rfl;have z1:=qH HA3.out.h2 1;have d2:=qD HA3.out.h8 (i:=2) rfl;have e2:=qD HA3.out.h2 (i:=2) rfl;have z2:=qH HA3.out.h2 2;have d3:=qD HA3.out.h8 (i:=3) rfl;have e3:=qD HA3.out.h2 (i:=3) rfl;have z3:=qH HA3.out.h2 3
         have HBf:qB (Below w.heap.size w ((((W3.setCell ⟨p2,0,none⟩ (.int .i64 n0)).setCell ⟨p2,1,none⟩ (.string s1)).setCell ⟨p2,2,none⟩ (.int .i64 n2)).setCell ⟨p2,3,none⟩ (.int .i64 n3))∧((((W3.setCell ⟨p2,0,none⟩ (.int .i64 n0)).setCell ⟨p2,1,none⟩ (.string s1)).setCell ⟨p2,2,none⟩ (.int .i64 n2)).setCell ⟨p2,3,none⟩ (.int .i64 n3)).heap[p2]? = some (.cells #[.int .i64 n0,.string s1,.int .i64 n2,.int .i64 n3] 86 (0,0))):=⟨⟨((((HA3.out.low.setCell (p:=⟨p2,0,none⟩) hp2' (.int .i64 n0)).setCell (p:=⟨p2,1,none⟩) hp2' (.string s1)).setCell (p:=⟨p2,2,none⟩) hp2' (.int .i64 n2)).setCell (p:=⟨p2,3,none⟩) hp2' (.int .i64 n3)),(qQ (qQ (qQ (qQ HA3.out.h2 0 (.int .i64 n0)) 1 (.string s1)) 2 (.int .i64 n2)) 3 (.int .i64 n3))⟩⟩;clear HA3;refine Lib.hid ?_;go_wp2;generalize ((((W3.setCell ⟨p2,0,none⟩ (.int .i64 n0)).setCell ⟨p2,1,none⟩ (.string s1)).setCell ⟨p2,2,none⟩ (.int .i64 n2)).setCell ⟨p2,3,none⟩ (.int .i64 n3))=WF at *;have x0:=qD HBf.out.2 (i:=0) rfl;have x1:=qD HBf.out.2 (i:=1) rfl;have x2:=qD HBf.out.2 (i:=2) rfl;have x3:=qD HBf.out.2 (i:=3) rfl;refine bodyPost_ret (v:=.agg #[.int .i64 n0,.string s1,.int .i64 n2,.int .i64 n3]) (by simp [results,Tryz.results112,go_sem,x0,x1,x2,x3]) rfl ?_;rw [HE.out];exact ⟨_,rfl,rfl,HBf.out.1⟩
end Go.Proofs.YtoonkkipnljflaaGreatDoor.CJ
