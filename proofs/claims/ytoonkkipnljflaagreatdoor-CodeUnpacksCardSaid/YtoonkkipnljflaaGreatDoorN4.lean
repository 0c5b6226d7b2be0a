/- The scanner's method op: an instruction in a text. Conditions: the scanner lies in memory; the listed variables are laid. -/
import Derived.Test.YtoonkkipnljflaaGreatDoorNA
import Derived.Test.YtoonkkipnljflaaGreatDoorN3
import Derived.Maps.RangeRun
namespace Go.Proofs.YtoonkkipnljflaaGreatDoor.CJ
open Go.ChangeMaps (setBlock)
open Go.RowKit Go.MapKept Go.Proofs.YtoonkkipnljflaaGreatDoorW.PrintWords Go.Proofs.YtoonkkipnljflaaGreatDoorW.PrintLast Go.Proofs.YtoonkkipnljflaaGreatDoor.PT Go.Proofs.YtoonkkipnljflaaGreatDoor.IMaps Go.Proofs.YtoonkkipnljflaaGreatDoor.TJ
set_option linter.unusedVariables false
set_option linter.unusedSimpArgs false
abbrev Pts:=List (List UInt8)
def Qt{α β:Type}(o:Option (α×Pts))(f:α→Pts→Option (β×Pts)):Option (β×Pts):=match o with|some p=>f p.1 p.2|none=>none
theorem qBp{α β:Type}{o:Option (α×Pts)}{f:α→Pts→Option (β×Pts)}(h:o=none):Qt o f=none:=by rw [h]; rfl
theorem qBR{α β:Type}{o:Option (α×Pts)}{f:α→Pts→Option (β×Pts)}{x:α}{r:Pts}(h:o=some (x,r)):Qt o f=f x r:=by rw [h]; rfl
def opS(ps:Pts):Option (GOp×Pts):=Qt (qAm ps) fun o r1=>if Qh o=0 then none else Qt (intS r1) fun f1 r2=>Qt (intS r2) fun f2 r3=>Qt (intS r3) fun f3 r4=>Qt (Qx strT r4) fun f4 r5=>Qt (Qx qA1 r5) fun f5 r6=>(qAQ r6).map fun f6=>(⟨Qh o,f1,f2,f3,f4,f5,f6⟩,[])
theorem opS_eq(ps:Pts):opS ps=(opT ps).map fun g=>(g,[]):=by
 rcases ps with _|⟨o,r1⟩
 ·rfl
 by_cases ho:Qh o=0
 ·have h1:opS (o::r1)=none:=by simp [opS,qAm,Qt,ho]
  have h2:opT (o::r1)=none:=by
   unfold opT;split
   ·rename_i h
    injection h with h _;subst h;rw [if_pos ho]
   ·rfl
  rw [h1,h2]; rfl
 rcases r1 with _|⟨a,r2⟩
 ·simp [opS,opT,qAm,intS,Qx,Qt]
 rcases h1:numT a with _|f1
 ·rcases r2 with _|⟨b,_|⟨n,_|⟨s,_|⟨l,r⟩⟩⟩⟩<;>simp [opS,opT,qAm,intS,Qx,Qt,ho,h1]
 rcases r2 with _|⟨b,r3⟩
 ·simp [opS,opT,qAm,intS,Qx,Qt,h1]
 rcases h2:numT b with _|f2
 ·rcases r3 with _|⟨n,_|⟨s,_|⟨l,r⟩⟩⟩<;>simp [opS,opT,qAm,intS,Qx,Qt,ho,h1,h2]
 rcases r3 with _|⟨n,r4⟩
 ·simp [opS,opT,qAm,intS,Qx,Qt,h1,h2]
 rcases h3:numT n with _|f3
 ·rcases r4 with _|⟨s,_|⟨l,r⟩⟩<;>simp [opS,opT,qAm,intS,Qx,Qt,ho,h1,h2,h3]
 rcases r4 with _|⟨s,r5⟩
 ·simp [opS,opT,qAm,intS,Qx,Qt,h1,h2,h3]
 rcases h4:strT s with _|f4
 ·rcases r5 with _|⟨l,r⟩<;>simp [opS,opT,qAm,intS,Qx,Qt,ho,h1,h2,h3,h4]
 rcases r5 with _|⟨l,r6⟩
 ·simp [opS,opT,qAm,intS,Qx,Qt,h1,h2,h3,h4]
 rcases h5:qA1 l with _|f5
 ·simp [opS,opT,qAm,intS,Qx,Qt,ho,h1,h2,h3,h4,h5]
 rcases h6:qAQ r6 with _|f6<;>simp [opS,opT,qAm,intS,Qx,Qt,ho,h1,h2,h3,h4,h5,h6]
def qBX(xs:List GAl)(ps:Pts):Option (List GAl):=(qAQ ps).map fun ys=>xs++ys
theorem qKu(xs:List GAl):qBX xs []=some xs:=by simp [qBX,qAQ]
theorem qIQ(ps:Pts):qBX [] ps=qAQ ps:=by
 unfold qBX;cases qAQ ps<;>rfl
theorem qJo(xs:List GAl)(p:List UInt8)(r:Pts)(a:GAl)(h:altT p=some a):qBX xs (p::r)=qBX (xs++[a]) r:=by
 unfold qBX;rw [qAQ,h];simp only;cases qAQ r with
 |none=>rfl
 |some ys=>simp
theorem qJp(xs:List GAl)(p:List UInt8)(r:Pts)(h:altT p=none):qBX xs (p::r)=none:=by
 unfold qBX;rw [qAQ,h]; rfl
structure OZ(q p2 p3:Nat)(w W:World)(c2 c3:Array Value)(ps:Pts):Prop where
 hq:q<w.heap.size
 n2:w.heap.size≤p2
 n3:p2<p3
 h2:W.heap[p2]? = some (.cells c2 59 (0,0))
 hl:W.heap[p3]? = some (.cells c3 59 (0,0))
 sd:SD W q ps
 tch:Tch q w W
section
variable {q p2 p3:Nat} {w W W':World} {c2 c3:Array Value} {ps r:Pts}
theorem OZ.call(h:OZ q p2 p3 w W c2 c3 ps)(hT:Tch q W W')(hS:SD W' q r):OZ q p2 p3 w W' c2 c3 r:=
 ⟨h.hq,h.n2,h.n3,(hT.block p2 (qN h.h2) (fun e=>by have:=h.hq; have:=h.n2; injection e; omega)).trans h.h2,(hT.block p3 (qN h.hl) (fun e=>by have:=h.hq; have:=h.n2; have:=h.n3; injection e; omega)).trans h.hl,hS,h.tch.trans hT⟩
theorem OZ.below(h:OZ q p2 p3 w W c2 c3 ps)(hb:Below W.heap.size W W'):OZ q p2 p3 w W' c2 c3 ps:=h.call (Tch.of hb) (h.sd.below hb)
theorem OZ.set(h:OZ q p2 p3 w W c2 c3 ps)(i:Nat)(u:Value):OZ q p2 p3 w (W.setCell ⟨p3,i,none⟩ u) c2 (c3.setIfInBounds i u) ps:=by
 have h1:=h.hq;have h2:=h.n2;have h3:=h.n3;exact ⟨h.hq,h.n2,h.n3,qS h.h2 (show p2≠p3 by omega) u,qQ h.hl i u,h.sd.set h.hl (by decide) (by decide) i u,h.tch.grow (row:=some p3) ⟨rfl,rfl,rfl,by simp [World.setCell],fun k _ hk=>Below.heap_setCell _ _ _ _ (fun e=>hk (by simp [e]))⟩ (fun k hk=>by injection hk; omega)⟩
theorem OZ.set2(h:OZ q p2 p3 w W c2 c3 ps)(i:Nat)(u:Value):OZ q p2 p3 w (W.setCell ⟨p2,i,none⟩ u) (c2.setIfInBounds i u) c3 ps:=by
 have h1:=h.hq;have h2:=h.n2;have h3:=h.n3;exact ⟨h.hq,h.n2,h.n3,qQ h.h2 i u,qS h.hl (show p3≠p2 by omega) u,h.sd.set h.h2 (by decide) (by decide) i u,h.tch.grow (row:=some p2) ⟨rfl,rfl,rfl,by simp [World.setCell],fun k _ hk=>Below.heap_setCell _ _ _ _ (fun e=>hk (by simp [e]))⟩ (fun k hk=>by injection hk; omega)⟩
theorem OZ.grown{α:Type}{d:Kd α}{e:Nat}{ok:Nat→Prop}{v:Value}{xs:List α}(h:OZ q p2 p3 w W c2 c3 ps)(hr:d.R e W w.heap.size ok v xs)(hg:W.grownBy W' v.ownBlock)(n1:e≠59)(n2:e≠135)(n3:e≠9):OZ q p2 p3 w W' c2 c3 ps:=by
 obtain ⟨inner,ho⟩:=Kd.R_own hr;exact ⟨h.hq,h.n2,h.n3,q9 h.h2 hg (Kd.R_ne hr h.h2 n1),q9 h.hl hg (Kd.R_ne hr h.hl n1),h.sd.grown hr hg n2 n3,h.tch.grow hg (fun k hk=>Or.inr (qAD ho k hk))⟩
end
theorem rowZ{α:Type}{d:Kd α}{e B q:Nat}{ok:Nat→Prop}{W W':World}{v:Value}{xs:List α}{ps:Pts}(hr:d.R e W B ok v xs)(hS:SD W q ps)(hT:Tch q W W')(hne:∀t,t∈e::d.E→t≠135):d.R e W' B ok v xs:=row_tch hr hS hT hne
theorem lk_mem:∀ {l:List (Int×Value)} {p:Int×Value},Keys l→p∈l→lk p.1 l=some p.2
 |q::r,p,hk,h=>by
  unfold Keys at hk;rw [List.map_cons,List.nodup_cons] at hk;rcases List.mem_cons.1 h with rfl|h
  ·simp [lk]
  ·have hne:¬q.1=p.1:=fun e=>hk.1 (by rw [e]; exact List.mem_map_of_mem h)
   simp only [lk,if_neg hne];exact lk_mem hk.2 h
theorem lk_get:∀ {l:List (Int×Value)} {n:Int} {v:Value},lk n l=some v→∃p∈l,p.1=n
 |q::r,n,v,h=>by
  by_cases he:q.1=n
  ·exact ⟨q,by simp,he⟩
  ·simp only [lk,if_neg he] at h;obtain ⟨p,hp,e⟩:=lk_get h;exact ⟨p,by simp [hp],e⟩
structure OpEs(es:Array MapEntry)(clock:Nat):Prop where
 val:∀e∈es.toList,∃n:Int,(1≤n∧n≤13)∧e.key=.int .i64 n∧e.val=QD n
 all:∀n:Int,1≤n→n≤13→∃e∈es.toList,e.key=.int .i64 n
 borns:(es.toList.map (·.born)).Nodup
 old:∀x∈es.toList,x.born<clock
theorem opEs_of{w:World}(h:LW w):∃b es clock,w.cell? ⟨0,0,none⟩=some (.map (some b))∧w.heap[b]? = some (.map es clock)∧OpEs es clock:=by
 obtain ⟨b,lv,hc,hIM,hV⟩:=h.ops;have hK:=hIM.keys;obtain ⟨es,clock,hb,⟨st1,st2,st3⟩,hl⟩:=hIM;refine ⟨b,es,clock,hc,hb,fun e he=>?_,fun n h1 h2=>?_,st2,st1⟩
 ·have hm:(e.key,e.val)∈lv.map (fun p=>(Value.int .i64 p.1,p.2)):=by
   rw [←hl]; exact List.mem_map_of_mem (f:=fun e:MapEntry=>(e.key,e.val)) he
  obtain ⟨p,hp,hpe⟩:=List.mem_map.1 hm;simp only [Prod.mk.injEq] at hpe;have hv:=hV p.1;rw [lk_mem hK hp] at hv;unfold opV at hv;split at hv
  ·rename_i ho
   unfold isOp at ho;simp only [Bool.and_eq_true,decide_eq_true_eq] at ho;injection hv with hv;exact ⟨p.1,ho,hpe.1.symm,hpe.2.symm.trans hv⟩
  ·cases hv
 ·have hv:=hV n;have ho:isOp n=true:=by unfold isOp; simp [h1,h2]
  unfold opV at hv;rw [if_pos ho] at hv;obtain ⟨p,hp,he⟩:=lk_get hv;have hm:(Value.int .i64 p.1,p.2)∈es.toList.map (fun e=>(e.key,e.val)):=by
   rw [hl]; exact List.mem_map_of_mem (f:=fun p:Int×Value=>(Value.int .i64 p.1,p.2)) hp
  obtain ⟨e,hee,hq⟩:=List.mem_map.1 hm;injection hq with hq1 hq2;exact ⟨e,hee,by rw [hq1,he]⟩
theorem qJq{P:Program}{w:World}{b clock:Nat}{es:Array MapEntry}{t k e:TypeId}(hb:w.heap[b]? = some (.map es clock))(ht:P.underlying t=some (.map k e)):
 (Instr.range t (.map (some b))).run P w=.ok (.pointer (some ⟨w.heap.size,0,none⟩)) (w.alloc (.mapIter (some b) clock #[] clock)):=by
 simp [Instr.range,run_underlying ht,MapKept.run_getObj_map hb,Result.andThen]
def qFp(es:Array MapEntry)(w:World)(r:Nat):Nat:=match w.heap[r]? with|some (.mapIter _ _ seen _)=>(leftOf es seen).size|_=>0
theorem qDN{es:Array MapEntry}{w:World}{r c c0:Nat}{b:Option Nat}{seen:Array Nat}(h:w.heap[r]? = some (.mapIter b c seen c0)):qFp es w r=(leftOf es seen).size:=by unfold qFp; rw [h]
structure MR(q p2 p3 mb r:Nat)(w W:World)(c2:Array Value)(es:Array MapEntry)(clock:Nat)(o:List UInt8)(ps:Pts)(seen:Array Nat)(k:Int):Prop where
 oz:OZ q p2 p3 w W c2 #[.int .i64 k,.int .i64 0,.int .i64 0,.int .i64 0,.string ⟨#[]⟩,.slice none 0 0,.slice none 0 0] ps
 nr:p3<r
 hit:∃c0,clock≤c0∧W.heap[r]? = some (.mapIter (some mb) clock seen c0)
 hmap:W.heap[mb]? = some (.map es clock)
 nm:mb<w.heap.size
 nq:mb≠q
 k0:k=0∨k=Qh o
 told:∀e∈es.toList,e.born∈seen→e.key=.int .i64 (Qh o)→k=Qh o
theorem left_all{es:Array MapEntry}{seen:Array Nat}(h:(leftOf es seen).size=0):∀e∈es.toList,e.born∈seen:=by
 intro e he;have h1:leftOf es seen=#[]:=Array.eq_empty_of_size_eq_zero h;unfold leftOf at h1;rw [Array.filter_eq_empty_iff] at h1;have:=h1 e (by simpa using he);simpa using this
theorem left_mem{es:Array MapEntry}{seen:Array Nat}{e:MapEntry}(h:e∈(leftOf es seen).toList):e∈es.toList∧e.born∉seen:=by
 unfold leftOf at h;simp at h;exact ⟨by simpa using h.1,h.2⟩
theorem born_inj{es:List MapEntry}(hn:(es.map (·.born)).Nodup){a b:MapEntry}(ha:a∈es)(hb:b∈es)(h:a.born=b.born):a=b:=by
 induction es with
 |nil=>cases ha
 |cons x r ih=>
  rw [List.map_cons,List.nodup_cons] at hn;rcases List.mem_cons.1 ha with rfl|ha
  ·rcases List.mem_cons.1 hb with rfl|hb
   ·rfl
   ·exact absurd (by rw [h]; exact List.mem_map_of_mem hb) hn.1
  ·rcases List.mem_cons.1 hb with e|hb
   ·exact absurd (by rw [←e,←h]; exact List.mem_map_of_mem ha) hn.1
   ·exact ih hn.2 ha hb
theorem qGT{w wn:World}{r:Nat}(o:Obj)(hwn:wn=w∨wn=w.drew)(hr:r<w.heap.size):(setBlock wn r o).heap[r]? = some o∧(∀k,k≠r→(setBlock wn r o).heap[k]? = w.heap[k]?)∧(setBlock wn r o).heap.size=w.heap.size:=by
 refine ⟨?_,fun k hkr=>?_,?_⟩
 ·rcases hwn with rfl|rfl<;>simp [setBlock,World.drew,hr,-World.drew_eq]
 ·rcases hwn with rfl|rfl<;>simp [setBlock,World.drew,Array.getElem?_setIfInBounds,Ne.symm hkr,-World.drew_eq]
 ·rcases hwn with rfl|rfl<;>simp [setBlock,World.drew,-World.drew_eq]
theorem next_tch{q r:Nat}{w W wn:World}(o:Obj)(hwn:wn=W∨wn=W.drew)(hr:r<W.heap.size)(h:Tch q w W)(hw:w.heap.size≤r):Tch q w (setBlock wn r o):=by
 obtain ⟨h1,h2,h3⟩:=qGT o hwn hr;refine h.grow (row:=some r) ⟨?_,?_,?_,by rw [h3]; exact Nat.le_refl _,fun k _ hk=>h2 k (fun e=>hk (by rw [e]))⟩ (fun k hk=>by injection hk with hk; exact .inr (by omega))
 ·rcases hwn with rfl|rfl<;>rfl
 ·rcases hwn with rfl|rfl<;>rfl
 ·rcases hwn with rfl|rfl<;>rfl
theorem OZ.move{q p2 p3 r:Nat}{w W W':World}{c2 c3:Array Value}{ps:Pts}(h:OZ q p2 p3 w W c2 c3 ps)(hm:∀k,k≠r→W'.heap[k]? = W.heap[k]?)(hr:p3<r)(hi:∃b c s c0,W.heap[r]? = some (.mapIter b c s c0))(hT:Tch q w W'):OZ q p2 p3 w W' c2 c3 ps:=by
 have h1:=h.n3;obtain ⟨b,c,s,c0,hi⟩:=hi;refine ⟨h.hq,h.n2,h.n3,(hm p2 (by omega)).trans h.h2,(hm p3 (by omega)).trans h.hl,h.sd.move (fun k cs T hk _=>hm k (fun e=>by rw [e,hi] at hk; cases hk)),hT⟩
theorem qKx{es:Array MapEntry}{seen:Array Nat}{e:MapEntry}(h:e∈(leftOf es seen).toList):(leftOf es (seen.push e.born)).size<(leftOf es seen).size:=by
 have hl:∀s:Array Nat,(leftOf es s).size=(es.toList.filter (fun x => !s.contains x.born)).length:=fun s=>by
  unfold leftOf;rw [←Array.length_toList,Array.toList_filter]
 have he:e∈es.toList.filter (fun x => !seen.contains x.born):=by
  unfold leftOf at h
  rwa [Array.toList_filter] at h
 have hf:es.toList.filter (fun x => !(seen.push e.born).contains x.born)=(es.toList.filter (fun x => !seen.contains x.born)).filter (fun x => !(x.born==e.born)):=by
  rw [List.filter_filter];apply List.filter_congr;intro x _;rw [Bool.eq_iff_iff];simp [and_comm,not_or]
 rw [hl,hl,hf];exact List.length_filter_lt_length_iff_exists.2 ⟨e,he,by simp⟩
theorem qKy(n:Int):∃y1 y2 y3 y4 y5 y6,QD n=.agg #[.string ⟨(qg n).toArray⟩,.bool y1,.bool y2,.bool y3,.bool y4,.bool y5,.bool y6]:=⟨_,_,_,_,_,_,rfl⟩
theorem infoAl2:(Tryz.prog.info? 86).map (fun i=>(i.zero,i.size,i.bytes))=some (some (.agg #[(.int .i64 0),(.string ⟨#[]⟩),(.int .i64 0),(.int .i64 0)]),4,40):=by kernel_rfl
theorem qDz{p:List UInt8}(h:Qh p≠0):1≤Qh p∧Qh p≤13:=by
 unfold Qh at h ⊢;cases hk:qAK.findIdx? (· == p) with
 |none=>rw [hk] at h; exact absurd rfl h
 |some k=>
  obtain ⟨hlt,_⟩:=List.findIdx?_eq_some_iff_getElem.1 hk;have h13:k<13:=hlt;simp only;omega
def qD0(w:World)(q:Nat):Nat:=match w.cell? ⟨q,0,none⟩ with|some (.slice _ n _)=>n|_=>0
theorem qD1{w:World}{q n c:Nat}{A:Option Addr}(h:w.heap[q]? = some (.cells #[.slice A n c] 135 (0,0))):qD0 w q=n:=by
 have:=qD h (i:=0) rfl;unfold qD0;rw [show w.cell? ⟨q,0,none⟩=some (.slice A n c) from this]
set_option maxRecDepth 100000 in
set_option maxHeartbeats 16000000 in
theorem qKz(w:World)(q:Nat)(ps:Pts)(h:SD w q ps)(w0:World)(hR0:RW w0)(hb0:Below w0.heap.size w0 w)(hq0:w0.heap.size≤q):
 Calls Tryz.prog 82 #[.pointer (some ⟨q,0,none⟩)] w (qFL q w (pOp w.heap.size) (opS ps)):=by
 obtain ⟨F,hF⟩:∃F,F=opS ps:=⟨_,rfl⟩;rw [←hF];have HF:=Lib.hid hF;have hql:=h.lt;obtain ⟨mb,es,clock,hmc,hmm,hOE⟩:=opEs_of (hR0.lw.below hb0);have hmlt:=qN hmm;have hu:=Tryz.underlying127;have hmq:mb≠q:=fun e=>by obtain ⟨A,c,hx⟩:=h.box; rw [←e,hmm] at hx; cases hx
 have hR0:=Lib.hid hR0;have hb0:=Lib.hid hb0;have HE:=Lib.hid hOE;clear hF hOE;unfold opS at HF;go_enter Tryz.func82,Tryz.ntmps82;go_wp2_with (first|((with_reducible refine qh (N:=2) rfl ?_); refine QJ ?hg (N:=2) ?hd (cs:=#[.int .i64 0,.int .i64 0,.int .i64 0,.int .i64 0,.string ⟨#[]⟩,.slice none 0 0,.slice none 0 0]) (t:=59) ?hr ?_; (case hd=>rfl); (case hg=>rfl); (case hr=>first|(go_simp; done)|(go_simp; rfl)); intro p2 hp2 w1 hbox2 hb1; have hp2':w.heap.size≤p2:=Nat.le_of_eq hp2.symm; clear hp2));have HS1:=h.below hb1;have hT1:Tch q w w1:=Tch.of hb1;have hcm1:=qA hb1 hmc;have hmm1:=qK hmm hb1;clear h;have hc:=qAT w1 q ps HS1;cases hn:qAm ps with
 |none=>
  rw [hn] at hc;have HE:=Lib.hid (HF.out.trans (qBp hn));refine hc.mono ?_;rintro e wz ⟨rfl,hT⟩;go_wp2;exact ⟨rfl,by rw [HE.out]; exact ⟨rfl,hT1.trans hT⟩⟩
 |some p=>
  obtain ⟨o,r1⟩:=p;rw [hn] at hc;have HFE:=Lib.hid (HF.out.trans (qBR hn));refine hc.mono ?_;rintro e w2 ⟨v,rfl,⟨rfl,hol⟩,hS,hT⟩;have hbox2':=(hT.block p2 (qN hbox2) (fun e=>by injection e; omega)).trans hbox2;have hg:0<w1.heap.size:=World.block_lt_of_cell? w1 _ hcm1;have hcm2:w2.cell? ⟨0,0,none⟩=some (.map (some mb)):=by
   have hq9:0≠q:=by
    intro e;obtain ⟨A,c,hx⟩:=HS1.box;have:=qD hx (i:=0) rfl;rw [←e,hcm1] at this;cases this
   have hk:=hT.block 0 hg (fun e=>hq9 (by injection e));unfold World.cell? at hcm1 ⊢;rw [hk]; exact hcm1
  have hmm2:=(hT.block mb (qN hmm1) (fun e=>hmq (by injection e))).trans hmm1;have hT2:=hT1.trans hT;have hb3:=qC (Below.refl w2.heap.size w2) (.cells #[.int .i64 0,.int .i64 0,.int .i64 0,.int .i64 0,.string ⟨#[]⟩,.slice none 0 0,.slice none 0 0] 59);have hOZ:OZ q p2 w2.heap.size w (w2.alloc (.cells #[.int .i64 0,.int .i64 0,.int .i64 0,.int .i64 0,.string ⟨#[]⟩,.slice none 0 0,.slice none 0 0] 59)) #[.int .i64 0,.int .i64 0,.int .i64 0,.int .i64 0,.string ⟨#[]⟩,.slice none 0 0,.slice none 0 0] #[.int .i64 0,.int .i64 0,.int .i64 0,.int .i64 0,.string ⟨#[]⟩,.slice none 0 0,.slice none 0 0] r1:=⟨hql,hp2',qN hbox2',qK hbox2' hb3,qV w2 _,hS.below hb3,hT2.trans (Tch.of hb3)⟩;have hcm3:=qA hb3 hcm2;have hmm3:=qK hmm2 hb3;have hrg:=qJq (P:=Tryz.prog) hmm3 hu;have hb4:=qC (Below.refl _ (w2.alloc (.cells #[.int .i64 0,.int .i64 0,.int .i64 0,.int .i64 0,.string ⟨#[]⟩,.slice none 0 0,.slice none 0 0] 59))) (.mapIter (some mb) clock #[] clock);have hMR:MR q p2 w2.heap.size mb (w2.alloc (.cells #[.int .i64 0,.int .i64 0,.int .i64 0,.int .i64 0,.string ⟨#[]⟩,.slice none 0 0,.slice none 0 0] 59)).heap.size w ((w2.alloc (.cells #[.int .i64 0,.int .i64 0,.int .i64 0,.int .i64 0,.string ⟨#[]⟩,.slice none 0 0,.slice none 0 0] 59)).alloc (.mapIter (some mb) clock #[] clock)) #[.int .i64 0,.int .i64 0,.int .i64 0,.int .i64 0,.string ⟨#[]⟩,.slice none 0 0,.slice none 0 0] es clock o r1 #[] 0:=
   ⟨hOZ.below hb4,qN hOZ.hl,⟨clock,Nat.le_refl _,qV _ _⟩,qK hmm3 hb4,hmlt,hmq,.inl rfl,fun e _ h=>by simp at h⟩
  have HM:=qB.mk hMR;clear hbox2 hbox2' hS hT hT1 hT2 HS1 hb1 hn HF hc hmc hmm hcm1 hmm1 hmm2 hb3 hb4 hOZ hMR hmm3 hg;simp only [World.size_alloc] at hrg HM;go_wp2;generalize (w2.alloc (.cells #[.int .i64 0,.int .i64 0,.int .i64 0,.int .i64 0,.string ⟨#[]⟩,.slice none 0 0,.slice none 0 0] 59)).alloc (.mapIter (some mb) clock #[] clock)=W3 at *;clear hrg hcm3 hcm2;generalize hrr:w2.heap.size+1=r at *;generalize w2.heap.size=p3 at *
  go_loopw [5] (fun _ wr=>∃(seen:Array Nat) (k:Int),qB (MR q p2 p3 mb r w wr #[.int .i64 0,.int .i64 0,.int .i64 0,.int .i64 0,.string ⟨#[]⟩,.slice none 0 0,.slice none 0 0] es clock o r1 seen k)) (fun _ wr=>qFp es wr r)
  case atStart=>exact ⟨#[],0,HM⟩
  case round=>
   clear HM;obtain ⟨seen,k,HR⟩:=hrel;obtain ⟨c0,hc0,hit⟩:=HR.out.hit;rcases run_next_at (P:=Tryz.prog) wr 0 r mb clock c0 seen es clock hit HR.out.hmap HE.out.old hc0 with ⟨h0,hn⟩|⟨e,he,wn,hwn,hn⟩
   ·have hall:=left_all h0;have hk:k=Qh o:=by
     rcases HR.out.k0 with h|h
     ·by_cases hz:Qh o=0
      ·rw [h,hz]
      ·obtain ⟨e,he,hek⟩:=HE.out.all (Qh o) (qDz hz).1 (qDz hz).2;exact HR.out.told e he (hall e he) hek
     ·exact h
    subst hk;have HS0:=HR.out.oz;have HS:qB (OZ q p2 p3 w wr #[.int .i64 0,.int .i64 0,.int .i64 0,.int .i64 0,.string ⟨#[]⟩,.slice none 0 0,.slice none 0 0] #[.int .i64 (Qh o),.int .i64 0,.int .i64 0,.int .i64 0,.string ⟨#[]⟩,.slice none 0 0,.slice none 0 0] r1):=⟨HS0⟩;have d:=qD HS0.hl (i:=0) rfl;clear hall HR hit h0 HE HS0 hc0;generalize Qh o=k0 at *;by_cases hz:k0=0
    ·subst hz;have HE:=Lib.hid (HFE.out.trans (if_pos rfl));go_wp2_with fail;refine (qG _).mono ?_;rintro e wz ⟨rfl,rfl⟩;go_wp2;exact ⟨rfl,by rw [HE.out]; exact ⟨rfl,HS.out.tch⟩⟩
    ·have HF:=Lib.hid (HFE.out.trans (if_neg hz));have hzb:((k0:Int) != 0)=true:=by simpa using hz
     clear HFE hz;go_wp2_with fail;refine (qL _).mono ?_;rintro e wz ⟨rfl,rfl⟩;clear hzb d hn;go_wp2_with fail;have hc:=qBQ wr q r1 HS.out.sd w0 hR0.out (hb0.out.trans (HS.out.tch.below hq0 hb0.out.size)) hq0;cases hn:intS r1 with
     |none=>
      rw [hn] at hc;have HE:=Lib.hid (HF.out.trans (qBp hn));refine hc.mono ?_;rintro e wz ⟨rfl,hT⟩;go_wp2;exact ⟨rfl,by rw [HE.out]; exact ⟨rfl,HS.out.tch.trans hT⟩⟩
     |some p=>
      obtain ⟨f1,r2⟩:=p;rw [hn] at hc;have HE:=Lib.hid (HF.out.trans (qBR hn));refine hc.mono ?_;rintro e wy ⟨v,rfl,hv,hR,hT⟩;obtain rfl:=hv;have HSy:qB (OZ q p2 p3 w wy #[.int .i64 0,.int .i64 0,.int .i64 0,.int .i64 0,.string ⟨#[]⟩,.slice none 0 0,.slice none 0 0] #[.int .i64 k0,.int .i64 0,.int .i64 0,.int .i64 0,.string ⟨#[]⟩,.slice none 0 0,.slice none 0 0] r2):=⟨HS.out.call hT hR⟩;have d:=qD HSy.out.hl (i:=1) rfl;have f:=qH HSy.out.hl 1;have HS2:qB (OZ q p2 p3 w (wy.setCell ⟨p3,1,none⟩ (.int .i64 f1)) #[.int .i64 0,.int .i64 0,.int .i64 0,.int .i64 0,.string ⟨#[]⟩,.slice none 0 0,.slice none 0 0] #[.int .i64 k0,.int .i64 f1,.int .i64 0,.int .i64 0,.string ⟨#[]⟩,.slice none 0 0,.slice none 0 0] r2):=⟨HSy.out.set 1 (.int .i64 f1)⟩;clear hR hT hc hn HS HF ;have HF:=HE;clear HE;go_wp2_with (fail);generalize wy.setCell ⟨p3,1,none⟩ (.int .i64 f1)=W1 at *;clear d f HSy;have HS:=HS2;clear HS2;have hc:=qBQ W1 q r2 HS.out.sd w0 hR0.out (hb0.out.trans (HS.out.tch.below hq0 hb0.out.size)) hq0;cases hn:intS r2 with
      |none=>
       rw [hn] at hc;have HE:=Lib.hid (HF.out.trans (qBp hn));refine hc.mono ?_;rintro e wz ⟨rfl,hT⟩;go_wp2;exact ⟨rfl,by rw [HE.out]; exact ⟨rfl,HS.out.tch.trans hT⟩⟩
      |some p=>
       obtain ⟨f2,r3⟩:=p;rw [hn] at hc;have HE:=Lib.hid (HF.out.trans (qBR hn));refine hc.mono ?_;rintro e wy ⟨v,rfl,hv,hR,hT⟩;obtain rfl:=hv;have HSy:qB (OZ q p2 p3 w wy #[.int .i64 0,.int .i64 0,.int .i64 0,.int .i64 0,.string ⟨#[]⟩,.slice none 0 0,.slice none 0 0] #[.int .i64 k0,.int .i64 f1,.int .i64 0,.int .i64 0,.string ⟨#[]⟩,.slice none 0 0,.slice none 0 0] r3):=⟨HS.out.call hT hR⟩;have d:=qD HSy.out.hl (i:=2) rfl;have f:=qH HSy.out.hl 2;have HS2:qB (OZ q p2 p3 w (wy.setCell ⟨p3,2,none⟩ (.int .i64 f2)) #[.int .i64 0,.int .i64 0,.int .i64 0,.int .i64 0,.string ⟨#[]⟩,.slice none 0 0,.slice none 0 0] #[.int .i64 k0,.int .i64 f1,.int .i64 f2,.int .i64 0,.string ⟨#[]⟩,.slice none 0 0,.slice none 0 0] r3):=⟨HSy.out.set 2 (.int .i64 f2)⟩;clear hR hT hc hn HS HF ;have HF:=HE;clear HE;go_wp2_with (fail);generalize wy.setCell ⟨p3,2,none⟩ (.int .i64 f2)=W2 at *;clear d f HSy;have HS:=HS2;clear HS2;have hc:=qBQ W2 q r3 HS.out.sd w0 hR0.out (hb0.out.trans (HS.out.tch.below hq0 hb0.out.size)) hq0;cases hn:intS r3 with
       |none=>
        rw [hn] at hc;have HE:=Lib.hid (HF.out.trans (qBp hn));refine hc.mono ?_;rintro e wz ⟨rfl,hT⟩;go_wp2;exact ⟨rfl,by rw [HE.out]; exact ⟨rfl,HS.out.tch.trans hT⟩⟩
       |some p=>
        obtain ⟨f3,r4⟩:=p;rw [hn] at hc;have HE:=Lib.hid (HF.out.trans (qBR hn));refine hc.mono ?_;rintro e wy ⟨v,rfl,hv,hR,hT⟩;obtain rfl:=hv;have HSy:qB (OZ q p2 p3 w wy #[.int .i64 0,.int .i64 0,.int .i64 0,.int .i64 0,.string ⟨#[]⟩,.slice none 0 0,.slice none 0 0] #[.int .i64 k0,.int .i64 f1,.int .i64 f2,.int .i64 0,.string ⟨#[]⟩,.slice none 0 0,.slice none 0 0] r4):=⟨HS.out.call hT hR⟩;have d:=qD HSy.out.hl (i:=3) rfl;have f:=qH HSy.out.hl 3;have HS2:qB (OZ q p2 p3 w (wy.setCell ⟨p3,3,none⟩ (.int .i64 f3)) #[.int .i64 0,.int .i64 0,.int .i64 0,.int .i64 0,.string ⟨#[]⟩,.slice none 0 0,.slice none 0 0] #[.int .i64 k0,.int .i64 f1,.int .i64 f2,.int .i64 f3,.string ⟨#[]⟩,.slice none 0 0,.slice none 0 0] r4):=⟨HSy.out.set 3 (.int .i64 f3)⟩;clear hR hT hc hn HS HF ;have HF:=HE;clear HE;go_wp2_with (fail);generalize wy.setCell ⟨p3,3,none⟩ (.int .i64 f3)=W3 at *;clear d f HSy;have HS:=HS2;clear HS2;have hc:=qAT W3 q r4 HS.out.sd;cases r4 with
        |nil=>
         have HE:Hid (F=none):=Lib.hid (HF.out.trans rfl);refine hc.mono ?_;rintro e wz ⟨rfl,hT⟩;go_wp2;exact ⟨rfl,by rw [HE.out]; exact ⟨rfl,HS.out.tch.trans hT⟩⟩
        |cons s r5=>
         refine hc.mono ?_;rintro e wx ⟨v,rfl,⟨rfl,hsl⟩,hR,hT⟩;have HSx:qB (OZ q p2 p3 w wx #[.int .i64 0,.int .i64 0,.int .i64 0,.int .i64 0,.string ⟨#[]⟩,.slice none 0 0,.slice none 0 0] #[.int .i64 k0,.int .i64 f1,.int .i64 f2,.int .i64 f3,.string ⟨#[]⟩,.slice none 0 0,.slice none 0 0] r5):=⟨HS.out.call hT hR⟩;have HS:=HSx;clear HSx hR hT hc;go_wp2_with fail;have hc:=qHo wx s hsl;cases hs:strT s with
         |none=>
          rw [hs] at hc;have HE:Hid (F=none):=Lib.hid (by rw [HF.out]; show Qt (Qx strT (s::r5)) _=none; rw [Qm,hs]; rfl);refine hc.mono ?_;rintro e wz ⟨rfl,hb⟩;have HB:=qB.mk (HS.out.below hb);clear hb;go_wp2;exact ⟨rfl,by rw [HE.out]; exact ⟨rfl,HB.out.tch⟩⟩
         |some f4=>
          rw [hs] at hc;have hn:Qx strT (s::r5)=some (f4,r5):=by rw [Qm,hs]; rfl
          have HE:=Lib.hid (HF.out.trans (qBR hn));refine hc.mono ?_;rintro e wy ⟨v,rfl,hv,hb⟩;obtain rfl:=hv;have hT:=Tch.of (q:=q) hb;have hR:=HS.out.sd.below hb;clear hb hs;have HSy:qB (OZ q p2 p3 w wy #[.int .i64 0,.int .i64 0,.int .i64 0,.int .i64 0,.string ⟨#[]⟩,.slice none 0 0,.slice none 0 0] #[.int .i64 k0,.int .i64 f1,.int .i64 f2,.int .i64 f3,.string ⟨#[]⟩,.slice none 0 0,.slice none 0 0] r5):=⟨HS.out.call hT hR⟩;have d:=qD HSy.out.hl (i:=4) rfl;have f:=qH HSy.out.hl 4;have HS2:qB (OZ q p2 p3 w (wy.setCell ⟨p3,4,none⟩ (.string f4)) #[.int .i64 0,.int .i64 0,.int .i64 0,.int .i64 0,.string ⟨#[]⟩,.slice none 0 0,.slice none 0 0] #[.int .i64 k0,.int .i64 f1,.int .i64 f2,.int .i64 f3,.string f4,.slice none 0 0,.slice none 0 0] r5):=⟨HSy.out.set 4 (.string f4)⟩;clear hR hT hc hn HS HF ;have HF:=HE;clear HE;go_wp2_with (fail);generalize wy.setCell ⟨p3,4,none⟩ (.string f4)=W4 at *;clear d f HSy;have HS:=HS2;clear HS2;have hc:=qIP W4 q r5 HS.out.sd w0 hR0.out (hb0.out.trans (HS.out.tch.below hq0 hb0.out.size)) hq0;cases hn:Qx qA1 r5 with
          |none=>
           rw [hn] at hc;have HE:=Lib.hid (HF.out.trans (qBp hn));refine hc.mono ?_;rintro e wz ⟨rfl,hT⟩;go_wp2;exact ⟨rfl,by rw [HE.out]; exact ⟨rfl,HS.out.tch.trans hT⟩⟩
          |some p=>
           obtain ⟨f5,r6⟩:=p;rw [hn] at hc;have HE:=Lib.hid (HF.out.trans (qBR hn));refine hc.mono ?_;rintro e wy ⟨v,rfl,hv,hR,hT⟩;obtain ⟨hrow,hlen5⟩:=hv;obtain ⟨A5,c5,rfl⟩:=Kd.R_slice hrow;have HSy:qB (OZ q p2 p3 w wy #[.int .i64 0,.int .i64 0,.int .i64 0,.int .i64 0,.string ⟨#[]⟩,.slice none 0 0,.slice none 0 0] #[.int .i64 k0,.int .i64 f1,.int .i64 f2,.int .i64 f3,.string f4,.slice none 0 0,.slice none 0 0] r6):=⟨HS.out.call hT hR⟩;have d:=qD HSy.out.hl (i:=5) rfl;have f:=qH HSy.out.hl 5;have HS2:qB (OZ q p2 p3 w (wy.setCell ⟨p3,5,none⟩ (.slice A5 f5.length c5)) #[.int .i64 0,.int .i64 0,.int .i64 0,.int .i64 0,.string ⟨#[]⟩,.slice none 0 0,.slice none 0 0] #[.int .i64 k0,.int .i64 f1,.int .i64 f2,.int .i64 f3,.string f4,.slice A5 f5.length c5,.slice none 0 0] r6):=⟨HSy.out.set 5 (.slice A5 f5.length c5)⟩;have HV52:qB ((Kd.int .i64).R 3 (wy.setCell ⟨p3,5,none⟩ (.slice A5 f5.length c5)) w.heap.size (fun _=>True) (.slice A5 f5.length c5) f5):=⟨Kd.R_set (Kd.R_lower hrow HS.out.tch.size) HSy.out.hl (by decide) 5 _⟩;clear hrow hlen5;clear hR hT hc hn HS HF ;have HF:=HE;clear HE;go_wp2_with (fail);generalize wy.setCell ⟨p3,5,none⟩ (.slice A5 f5.length c5)=W5 at *;clear d f HSy;have HS:=HS2;clear HS2;have HV5:=HV52;clear HV52;have HF2:Hid (F=(qBX [] r6).map (fun f6=>((⟨k0,f1,f2,f3,f4,f5,f6⟩:GOp),([]:Pts)))):=Lib.hid (by rw [qIQ]; exact HF.out);have HV6:qB (kAl.R 86 W5 w.heap.size (fun _=>True) (.slice none 0 0) []):=⟨Kd.R_nil _ _ _ _ _⟩
           have hrm:r6.length≤1000001:=HS.out.sd.many;clear HF
           go_loopw [7] (fun _ wr=>∃(xs:List GAl) (rr:Pts) (A6:Option Addr) (c6:Nat),xs.length+rr.length≤1000001∧Hid (F=(qBX xs rr).map (fun f6=>((⟨k0,f1,f2,f3,f4,f5,f6⟩:GOp),([]:Pts))))∧qB (OZ q p2 p3 w wr #[.int .i64 0,.int .i64 0,.int .i64 0,.int .i64 0,.string ⟨#[]⟩,.slice none 0 0,.slice none 0 0] #[.int .i64 k0,.int .i64 f1,.int .i64 f2,.int .i64 f3,.string f4,.slice A5 f5.length c5,.slice A6 xs.length c6] rr)∧qB ((Kd.int .i64).R 3 wr w.heap.size (fun _=>True) (.slice A5 f5.length c5) f5)∧qB (kAl.R 86 wr w.heap.size (fun _=>True) (.slice A6 xs.length c6) xs)) (fun _ wr=>qD0 wr q)
           case atStart=>exact ⟨[],r6,none,0,by simpa using hrm,HF2,HS,HV5,HV6⟩
           case round=>
            clear HS HV5 HV6 HF2 hrm;obtain ⟨xs,rr,A6,c6,hxl,HF,HS,HV5,HV6⟩:=hrel;obtain ⟨As,cs,hbx⟩:=HS.out.sd.box;have dq:=qD hbx (i:=0) rfl;have HPL:=Lib.hid (qD1 hbx);clear hbx;cases rr with
            |nil=>
             have HE:Hid (F=some (⟨k0,f1,f2,f3,f4,f5,xs⟩,[])):=Lib.hid (by rw [HF.out,qKu]; rfl);simp only [List.length_nil] at dq;have d0:=qD HS.out.hl (i:=0) rfl;have e0:=qD HS.out.h2 (i:=0) rfl;have z0:=qH HS.out.h2 0;have d1:=qD HS.out.hl (i:=1) rfl;have e1:=qD HS.out.h2 (i:=1) rfl;have z1:=qH HS.out.h2 1;have d2:=qD HS.out.hl (i:=2) rfl;have e2:=qD HS.out.h2 (i:=2) rfl;have z2:=qH HS.out.h2 2;have d3:=qD HS.out.hl (i:=3) rfl;have e3:=qD HS.out.h2 (i:=3) rfl;have z3:=qH HS.out.h2 3;have d4:=qD HS.out.hl (i:=4) rfl;have e4:=qD HS.out.h2 (i:=4) rfl;have z4:=qH HS.out.h2 4;have d5:=qD HS.out.hl (i:=5) rfl;have e5:=qD HS.out.h2 (i:=5) rfl;have z5:=qH HS.out.h2 5;have d6:=qD HS.out.hl (i:=6) rfl;have e6:=qD HS.out.h2 (i:=6) rfl;have z6:=qH HS.out.h2 6
             have HV5f:qB ((Kd.int .i64).R 3 (((((((wr.setCell ⟨p2,0,none⟩ (.int .i64 k0)).setCell ⟨p2,1,none⟩ (.int .i64 f1)).setCell ⟨p2,2,none⟩ (.int .i64 f2)).setCell ⟨p2,3,none⟩ (.int .i64 f3)).setCell ⟨p2,4,none⟩ (.string f4)).setCell ⟨p2,5,none⟩ (.slice A5 f5.length c5)).setCell ⟨p2,6,none⟩ (.slice A6 xs.length c6)) w.heap.size (fun _=>True) (.slice A5 f5.length c5) f5):=⟨(Kd.R_set (Kd.R_set (Kd.R_set (Kd.R_set (Kd.R_set (Kd.R_set (Kd.R_set HV5.out HS.out.h2 (by decide) 0 (.int .i64 k0)) (HS.out.set2 0 (.int .i64 k0)).h2 (by decide) 1 (.int .i64 f1)) ((HS.out.set2 0 (.int .i64 k0)).set2 1 (.int .i64 f1)).h2 (by decide) 2 (.int .i64 f2)) (((HS.out.set2 0 (.int .i64 k0)).set2 1 (.int .i64 f1)).set2 2 (.int .i64 f2)).h2 (by decide) 3 (.int .i64 f3)) ((((HS.out.set2 0 (.int .i64 k0)).set2 1 (.int .i64 f1)).set2 2 (.int .i64 f2)).set2 3 (.int .i64 f3)).h2 (by decide) 4 (.string f4)) (((((HS.out.set2 0 (.int .i64 k0)).set2 1 (.int .i64 f1)).set2 2 (.int .i64 f2)).set2 3 (.int .i64 f3)).set2 4 (.string f4)).h2 (by decide) 5 (.slice A5 f5.length c5)) ((((((HS.out.set2 0 (.int .i64 k0)).set2 1 (.int .i64 f1)).set2 2 (.int .i64 f2)).set2 3 (.int .i64 f3)).set2 4 (.string f4)).set2 5 (.slice A5 f5.length c5)).h2 (by decide) 6 (.slice A6 xs.length c6))⟩
             have HV6f:qB (kAl.R 86 (((((((wr.setCell ⟨p2,0,none⟩ (.int .i64 k0)).setCell ⟨p2,1,none⟩ (.int .i64 f1)).setCell ⟨p2,2,none⟩ (.int .i64 f2)).setCell ⟨p2,3,none⟩ (.int .i64 f3)).setCell ⟨p2,4,none⟩ (.string f4)).setCell ⟨p2,5,none⟩ (.slice A5 f5.length c5)).setCell ⟨p2,6,none⟩ (.slice A6 xs.length c6)) w.heap.size (fun _=>True) (.slice A6 xs.length c6) xs):=⟨(Kd.R_set (Kd.R_set (Kd.R_set (Kd.R_set (Kd.R_set (Kd.R_set (Kd.R_set HV6.out HS.out.h2 (by decide) 0 (.int .i64 k0)) (HS.out.set2 0 (.int .i64 k0)).h2 (by decide) 1 (.int .i64 f1)) ((HS.out.set2 0 (.int .i64 k0)).set2 1 (.int .i64 f1)).h2 (by decide) 2 (.int .i64 f2)) (((HS.out.set2 0 (.int .i64 k0)).set2 1 (.int .i64 f1)).set2 2 (.int .i64 f2)).h2 (by decide) 3 (.int .i64 f3)) ((((HS.out.set2 0 (.int .i64 k0)).set2 1 (.int .i64 f1)).set2 2 (.int .i64 f2)).set2 3 (.int .i64 f3)).h2 (by decide) 4 (.string f4)) (((((HS.out.set2 0 (.int .i64 k0)).set2 1 (.int .i64 f1)).set2 2 (.int .i64 f2)).set2 3 (.int .i64 f3)).set2 4 (.string f4)).h2 (by decide) 5 (.slice A5 f5.length c5)) ((((((HS.out.set2 0 (.int .i64 k0)).set2 1 (.int .i64 f1)).set2 2 (.int .i64 f2)).set2 3 (.int .i64 f3)).set2 4 (.string f4)).set2 5 (.slice A5 f5.length c5)).h2 (by decide) 6 (.slice A6 xs.length c6))⟩
             have HSf:qB (OZ q p2 p3 w (((((((wr.setCell ⟨p2,0,none⟩ (.int .i64 k0)).setCell ⟨p2,1,none⟩ (.int .i64 f1)).setCell ⟨p2,2,none⟩ (.int .i64 f2)).setCell ⟨p2,3,none⟩ (.int .i64 f3)).setCell ⟨p2,4,none⟩ (.string f4)).setCell ⟨p2,5,none⟩ (.slice A5 f5.length c5)).setCell ⟨p2,6,none⟩ (.slice A6 xs.length c6)) #[.int .i64 k0,.int .i64 f1,.int .i64 f2,.int .i64 f3,.string f4,.slice A5 f5.length c5,.slice A6 xs.length c6] #[.int .i64 k0,.int .i64 f1,.int .i64 f2,.int .i64 f3,.string f4,.slice A5 f5.length c5,.slice A6 xs.length c6] []):=⟨(((((((HS.out.set2 0 (.int .i64 k0)).set2 1 (.int .i64 f1)).set2 2 (.int .i64 f2)).set2 3 (.int .i64 f3)).set2 4 (.string f4)).set2 5 (.slice A5 f5.length c5)).set2 6 (.slice A6 xs.length c6))⟩;clear HF HS HV5 HV6;go_wp2;generalize (((((((wr.setCell ⟨p2,0,none⟩ (.int .i64 k0)).setCell ⟨p2,1,none⟩ (.int .i64 f1)).setCell ⟨p2,2,none⟩ (.int .i64 f2)).setCell ⟨p2,3,none⟩ (.int .i64 f3)).setCell ⟨p2,4,none⟩ (.string f4)).setCell ⟨p2,5,none⟩ (.slice A5 f5.length c5)).setCell ⟨p2,6,none⟩ (.slice A6 xs.length c6))=WF at *;have x0:=qD HSf.out.h2 (i:=0) rfl;have x1:=qD HSf.out.h2 (i:=1) rfl;have x2:=qD HSf.out.h2 (i:=2) rfl;have x3:=qD HSf.out.h2 (i:=3) rfl;have x4:=qD HSf.out.h2 (i:=4) rfl;have x5:=qD HSf.out.h2 (i:=5) rfl;have x6:=qD HSf.out.h2 (i:=6) rfl
             refine bodyPost_ret (v:=.agg #[.int .i64 k0,.int .i64 f1,.int .i64 f2,.int .i64 f3,.string f4,.slice A5 f5.length c5,.slice A6 xs.length c6]) (by simp [results,Tryz.results82,go_sem,x0,x1,x2,x3,x4,x5,x6]) rfl ?_;rw [HE.out];exact ⟨_,rfl,⟨_,rfl,qFX WF w.heap.size (fun _=>True) ⟨k0,f1,f2,f3,f4,f5,xs⟩ HV5f.out HV6f.out⟩,HSf.out.sd,HSf.out.tch⟩
            |cons p r8=>
             simp only [List.length_cons] at dq;have hrp:r8.length≤1000001:=by simp only [List.length_cons] at hxl; omega
             have hc:=qAT wr q (p::r8) HS.out.sd;go_wp2_with fail;refine hc.mono ?_;rintro e wx ⟨v,rfl,⟨rfl,hpl⟩,hR,hT⟩;have HSx:qB (OZ q p2 p3 w wx #[.int .i64 0,.int .i64 0,.int .i64 0,.int .i64 0,.string ⟨#[]⟩,.slice none 0 0,.slice none 0 0] #[.int .i64 k0,.int .i64 f1,.int .i64 f2,.int .i64 f3,.string f4,.slice A5 f5.length c5,.slice A6 xs.length c6] r8):=⟨HS.out.call hT hR⟩;have HV5x:qB ((Kd.int .i64).R 3 wx w.heap.size (fun _=>True) (.slice A5 f5.length c5) f5):=⟨rowZ HV5.out HS.out.sd hT (by decide)⟩;have HV6x:qB (kAl.R 86 wx w.heap.size (fun _=>True) (.slice A6 xs.length c6) xs):=⟨rowZ HV6.out HS.out.sd hT (by decide)⟩;clear HS HV5 HV6 hR hT hc dq;go_wp2_with fail;have hc:=qKt wx p hpl (hR0.out.below (hb0.out.trans (HSx.out.tch.below hq0 hb0.out.size)));cases ha:altT p with
             |none=>
              rw [ha] at hc;have HE:Hid (F=none):=Lib.hid (by rw [HF.out,qJp _ _ _ ha]; rfl);refine hc.mono ?_;rintro e wz ⟨rfl,hb⟩;have HB:=qB.mk (HSx.out.below hb);clear hb;go_wp2;exact ⟨rfl,by rw [HE.out]; exact ⟨rfl,HB.out.tch⟩⟩
             |some a=>
              rw [ha] at hc;have HN:Hid (F=(qBX (xs++[a]) r8).map (fun f6=>((⟨k0,f1,f2,f3,f4,f5,f6⟩:GOp),([]:Pts)))):=Lib.hid (by rw [HF.out,qJo _ _ _ _ ha]);refine hc.mono ?_;rintro e wy ⟨v,rfl,hv,hb⟩;obtain rfl:=hv;have hb2:=qF hb (qC (Below.refl _ _) (.cells #[.int .i64 a.f0,.string a.f1,.int .i64 a.f2,.int .i64 a.f3] 86));have hx4:=qV wy (.cells #[.int .i64 a.f0,.string a.f1,.int .i64 a.f2,.int .i64 a.f3] 86);have HS:qB (OZ q p2 p3 w (wy.alloc (.cells #[.int .i64 a.f0,.string a.f1,.int .i64 a.f2,.int .i64 a.f3] 86)) #[.int .i64 0,.int .i64 0,.int .i64 0,.int .i64 0,.string ⟨#[]⟩,.slice none 0 0,.slice none 0 0] #[.int .i64 k0,.int .i64 f1,.int .i64 f2,.int .i64 f3,.string f4,.slice A5 f5.length c5,.slice A6 xs.length c6] r8):=⟨HSx.out.below hb2⟩;have HV5:qB ((Kd.int .i64).R 3 (wy.alloc (.cells #[.int .i64 a.f0,.string a.f1,.int .i64 a.f2,.int .i64 a.f3] 86)) w.heap.size (fun _=>True) (.slice A5 f5.length c5) f5):=⟨Kd.R_below HV5x.out hb2⟩;have HV6:qB (kAl.R 86 (wy.alloc (.cells #[.int .i64 a.f0,.string a.f1,.int .i64 a.f2,.int .i64 a.f3] 86)) w.heap.size (fun k=>k≠wy.heap.size) (.slice A6 xs.length c6) xs):=⟨Kd.R_mono (Kd.R_below (Kd.R_elderB (Kd.R_below HV6x.out hb) wy.heap.size (Nat.le_refl _)) (qC (Below.refl _ _) _)) (fun k hk=>hk.2)⟩;clear HSx HV5x HV6x hb hb2 hc ha HF;go_wp2_with (first|((with_reducible refine qh (N:=52) rfl ?_); refine Hid.out ?_))
              generalize wy.alloc (.cells #[.int .i64 a.f0,.string a.f1,.int .i64 a.f2,.int .i64 a.f3] 86)=WA at *;generalize wy.heap.size=p4 at *;have d6:=qD HS.out.hl (i:=6) rfl;have d0:=qD hx4 (i:=0) rfl;have d1:=qD hx4 (i:=1) rfl;have d2:=qD hx4 (i:=2) rfl;have d3:=qD hx4 (i:=3) rfl;have hxs4:=qN hx4;have HX4:=Lib.hid hx4;clear hx4;refine Lib.hid ?_;go_wp2_with (refine Kd.R_append kAl (w0:=WA) w.heap.size rfl _ _ 57 86 (.agg #[.int .i64 0,.string ⟨#[]⟩,.int .i64 0,.int .i64 0]) 40 rfl Tryz.underlying57 infoAl2 rfl (by decide) (by omega) (.slice A6 xs.length c6) xs a [.int .i64 a.f0,.string a.f1,.int .i64 a.f2,.int .i64 a.f3] (fun k=>k≠p4) (fun _=>False) rfl rfl (qFW WA w.heap.size (fun _=>False) a) (fun _ h=>h.elim) (fun k hk=>by omega) HV6.out (Below.refl _ _) HS.out.tch.size (by omega) ?_);intro v1 w3 hrow hb3 hg hat;have hrow':=Kd.R_mono hrow (fun _ _=>trivial);obtain ⟨A7,c7,rfl⟩:=Kd.R_slice hrow;have HS3:qB (OZ q p2 p3 w w3 #[.int .i64 0,.int .i64 0,.int .i64 0,.int .i64 0,.string ⟨#[]⟩,.slice none 0 0,.slice none 0 0] #[.int .i64 k0,.int .i64 f1,.int .i64 f2,.int .i64 f3,.string f4,.slice A5 f5.length c5,.slice A6 xs.length c6] r8):=⟨HS.out.grown HV6.out hg (by decide) (by decide) (by decide)⟩;have HV53:qB ((Kd.int .i64).R 3 w3 w.heap.size (fun _=>True) (.slice A5 f5.length c5) f5):=⟨rowG HV5.out HV6.out (by decide) hg⟩;have HV63:qB (kAl.R 86 w3 w.heap.size (fun _=>True) (.slice A7 (xs++[a]).length c7) (xs++[a])):=⟨hrow'⟩
              have hxk:(xs++[a]).length+r8.length≤1000001:=by simp only [List.length_append,List.length_cons,List.length_nil] at hxl ⊢; omega
              clear hrow hrow' hb3 hg hat HS HV5 HV6 d0 d1 d2 d3 d6 HX4 hxs4 hxl;generalize xs++[a]=xs2 at *;have d6:=qD HS3.out.hl (i:=6) rfl;have z6:=qH HS3.out.hl 6;have HS4:=qB.mk (HS3.out.set 6 (.slice A7 xs2.length c7));have HPL2:=Lib.hid (qD1 HS4.out.sd.box.choose_spec.choose_spec);go_wp2;go_roundw
              case rel=>exact ⟨xs2,r8,A7,c7,hxk,HN,HS4,⟨Kd.R_set HV53.out HS3.out.hl (by decide) 6 _⟩,⟨Kd.R_set HV63.out HS3.out.hl (by decide) 6 _⟩⟩
              case measure=>rw [HPL.out,HPL2.out]; simp
   ·obtain ⟨he1,he2⟩:=left_mem he;obtain ⟨n,hn13,hek,hev⟩:=HE.out.val e he1;have hlt:=qKx he;have hrlt:r<wr.heap.size:=qN hit;obtain ⟨g1,g2,g3⟩:=qGT (.mapIter (some mb) clock (seen.push e.born) clock) hwn hrlt;have hTn:=next_tch (.mapIter (some mb) clock (seen.push e.born) clock) hwn hrlt HR.out.oz.tch (by have:=HR.out.oz.n2; have:=HR.out.oz.n3; have:=HR.out.nr; omega);have hmr:mb≠r:=by have:=HR.out.nm; have:=HR.out.oz.n2; have:=HR.out.oz.n3; have:=HR.out.nr; omega
    have hmN:=(g2 mb hmr).trans HR.out.hmap;have hen:=run_entry_at (P:=Tryz.prog) _ r mb clock seen es clock e g1 hmN he1 HE.out.borns;have hOZ:=HR.out.oz.move g2 HR.out.nr ⟨_,_,_,_,hit⟩ hTn;obtain ⟨y1,y2,y3,y4,y5,y6,hva⟩:=qKy n;rw [hek,hev,hva] at hn hen;have hll:=qDN (es:=es) hit;have hkey:=hek;have hbi:=fun a ha=>born_inj HE.out.borns (a:=a) (b:=e) ha he1
    have HK:=Lib.hid (And.intro HR.out.nr (And.intro HR.out.nm (And.intro HR.out.nq (And.intro HR.out.k0 (And.intro HR.out.told (And.intro hn13 (And.intro hek (And.intro hbi (And.intro hlt hll)))))))));generalize setBlock wn r (.mapIter (some mb) clock (seen.push e.born) clock)=N at *;have HN:=qB.mk (And.intro hOZ (And.intro g1 hmN));clear hOZ g1 g2 g3 hTn hmN he he1 he2 hek hev hkey hbi hlt hll hn13 hwn hit hc0 HR hva hmr hrlt;have hbN:=qC (Below.refl N.heap.size N) (.cells #[.string ⟨(qg n).toArray⟩,.bool y1,.bool y2,.bool y3,.bool y4,.bool y5,.bool y6] 126);have HN2:qB (OZ q p2 p3 w (N.alloc (.cells #[.string ⟨(qg n).toArray⟩,.bool y1,.bool y2,.bool y3,.bool y4,.bool y5,.bool y6] 126)) #[.int .i64 0,.int .i64 0,.int .i64 0,.int .i64 0,.string ⟨#[]⟩,.slice none 0 0,.slice none 0 0] #[.int .i64 k,.int .i64 0,.int .i64 0,.int .i64 0,.string ⟨#[]⟩,.slice none 0 0,.slice none 0 0] r1∧(N.alloc (.cells #[.string ⟨(qg n).toArray⟩,.bool y1,.bool y2,.bool y3,.bool y4,.bool y5,.bool y6] 126)).heap[r]? = some (.mapIter (some mb) clock (seen.push e.born) clock)∧(N.alloc (.cells #[.string ⟨(qg n).toArray⟩,.bool y1,.bool y2,.bool y3,.bool y4,.bool y5,.bool y6] 126)).heap[mb]? = some (.map es clock)):=⟨⟨HN.out.1.below hbN,qK HN.out.2.1 hbN,qK HN.out.2.2 hbN⟩⟩;have hx0:=qV N (.cells #[.string ⟨(qg n).toArray⟩,.bool y1,.bool y2,.bool y3,.bool y4,.bool y5,.bool y6] 126);have cn:=qD hx0 (i:=0) rfl;have d:=qD HN2.out.1.hl (i:=0) rfl
    have z:=qH HN2.out.1.hl 0;clear hx0 hbN HN;have hx3:qg n=o→Qh o=n:=fun h=>by rw [←h]; exact qFI HK.out.2.2.2.2.2.1
    cases hq:(qg n==o)
    ·have hne:qg n≠o:=fun h=>by rw [h] at hq; simp at hq
     have htold:∀a∈es.toList,a.born∈seen.push e.born→a.key=.int .i64 (Qh o)→k=Qh o:=by
      intro a ha hb hk;rcases Array.mem_push.1 hb with hb|hb
      ·exact HK.out.2.2.2.2.1 a ha hb hk
      ·exfalso
       have:=HK.out.2.2.2.2.2.2.2.1 a ha hb;subst this;rw [HK.out.2.2.2.2.2.2.1] at hk;injection hk with _ hk;have hz:Qh o≠0:=by rw [←hk]; have:=HK.out.2.2.2.2.2.1; omega
       exact hne (by rw [hk]; exact qJh hz)
     have HTo:=Lib.hid htold;clear htold hne hx3;go_wp2;go_roundw
     case rel=>exact ⟨seen.push e.born,k,⟨⟨HN2.out.1,HK.out.1,⟨clock,Nat.le_refl _,HN2.out.2.1⟩,HN2.out.2.2,HK.out.2.1,HK.out.2.2.1,HK.out.2.2.2.1,HTo.out⟩⟩⟩
     case measure=>rw [qDN HN2.out.2.1,HK.out.2.2.2.2.2.2.2.2.2]; exact HK.out.2.2.2.2.2.2.2.2.1
    ·have hno:=hx3 (beq_iff_eq.1 hq);have HNO:=Lib.hid hno;have HN3:qB (OZ q p2 p3 w ((N.alloc (.cells #[.string ⟨(qg n).toArray⟩,.bool y1,.bool y2,.bool y3,.bool y4,.bool y5,.bool y6] 126)).setCell ⟨p3,0,none⟩ (.int .i64 n)) #[.int .i64 0,.int .i64 0,.int .i64 0,.int .i64 0,.string ⟨#[]⟩,.slice none 0 0,.slice none 0 0] #[.int .i64 n,.int .i64 0,.int .i64 0,.int .i64 0,.string ⟨#[]⟩,.slice none 0 0,.slice none 0 0] r1∧((N.alloc (.cells #[.string ⟨(qg n).toArray⟩,.bool y1,.bool y2,.bool y3,.bool y4,.bool y5,.bool y6] 126)).setCell ⟨p3,0,none⟩ (.int .i64 n)).heap[r]? = some (.mapIter (some mb) clock (seen.push e.born) clock)∧((N.alloc (.cells #[.string ⟨(qg n).toArray⟩,.bool y1,.bool y2,.bool y3,.bool y4,.bool y5,.bool y6] 126)).setCell ⟨p3,0,none⟩ (.int .i64 n)).heap[mb]? = some (.map es clock)):=
      ⟨⟨HN2.out.1.set 0 (.int .i64 n),(Below.heap_setCell _ _ _ _ (by have:=HK.out.1; show r≠p3; omega)).trans HN2.out.2.1,(Below.heap_setCell _ _ _ _ (by have:=HK.out.2.1; have:=HN2.out.1.n2; have:=HN2.out.1.n3; show mb≠p3; omega)).trans HN2.out.2.2⟩⟩
     clear hno hx3;go_wp2;go_roundw
     case rel=>exact ⟨seen.push e.born,n,⟨⟨HN3.out.1,HK.out.1,⟨clock,Nat.le_refl _,HN3.out.2.1⟩,HN3.out.2.2,HK.out.2.1,HK.out.2.2.1,.inr HNO.out.symm,fun _ _ _ _=>HNO.out.symm⟩⟩⟩
     case measure=>rw [qDN HN3.out.2.1,HK.out.2.2.2.2.2.2.2.2.2]; exact HK.out.2.2.2.2.2.2.2.2.1
end Go.Proofs.YtoonkkipnljflaaGreatDoor.CJ
