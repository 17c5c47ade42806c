/- Part 41. -/
import Derived.Conc.CompanyDraw
import Derived.Test.YtnemnkmojiljmaaF09
import Derived.Test.YtnemnkmojiljmaaF23
import Derived.Test.YtnemnkmojiljmaaF24
import Derived.Test.YtnemnkmojiljmaaF27
import Derived.Test.YtnemnkmojiljmaaF37
import Derived.Test.YtnemnkmojiljmaaF40
set_option maxRecDepth 100000
set_option maxHeartbeats 8000000
set_option linter.all false
section
namespace Go.Proofs.Try
open Go Go.Conc Go.ConcN Go.ConcM Go.RowKit Go.Conc.Lib Go.ConcR.Gen Par
attribute [local instance] noSh ig
section
variable {main:Bool} {Z:eG} {own:Nat->Prop} {Stop:(Nat->Prop)->Goroutine->World->Prop}
variable {b:Frame} {a:Act} {kk:List Item} {cs:List Frame} {W:World} {ops:Array Oper} {i:Nat} {rest:List Nat} {o:Oper} {x y:Operand} {ad:Addr}
theorem WW {v1 v2 v3 v4:Value} (ho:ops[i]?=some o) (hw:Region.wanted o (yielded ops a.tmps)=true) (hk:b.kind≠ .early) (hop:o.op= .box 43 x) (hx:a.eval x= .agg #[v1,v2,v3,v4]) (hnm:¬Z.mute) (hsy:∀b,Z.sy b->b<W.heap.size)
 (hn:∀W1,bZ Z own W W1->Gw Try.prog main Z Stop (λc=>own c∨c=W1.heap.size) (G (b.at (a.put o.dst (.pointer (some ⟨W1.heap.size,0,none⟩))) (.inRegion ops rest::kk)) cs) { W1 with heap:=W1.heap.push (.cells #[v1,v2,v3,v4] 43) }):
 Gw Try.prog main Z Stop own (G (b.at a (.inRegion ops (i::rest)::kk)) cs) W:=
 xW (f:= λW1=>.pointer (some ⟨W1.heap.size,0,none⟩)) ho hw hk hnm hsy (λW1 hr=>by
  refine ⟨?_,?_⟩
  ·unfold execOp;simp only [hop,hx];simp [go_sem]
  ·unfold execOp;simp only [hop,hx];simp [go_sem]) hn
theorem WX (ho:ops[i]?=some o) (hw:Region.wanted o (yielded ops a.tmps)=true) (hk:b.kind≠ .early) (hop:o.op= .alloc 25) (hnm:¬Z.mute) (hsy:∀b,Z.sy b->b<W.heap.size)
 (hn:∀W1,bZ Z own W W1->Gw Try.prog main Z Stop (λc=>own c∨c=W1.heap.size) (G (b.at (a.put o.dst (.pointer (some ⟨W1.heap.size,0,none⟩))) (.inRegion ops rest::kk)) cs) { W1 with heap:=W1.heap.push (.cells #[.slice none 0 0] 25) }):
 Gw Try.prog main Z Stop own (G (b.at a (.inRegion ops (i::rest)::kk)) cs) W:=
 xW (f:= λW1=>.pointer (some ⟨W1.heap.size,0,none⟩)) ho hw hk hnm hsy (λW1 hr=>by
  refine ⟨?_,?_⟩
  ·unfold execOp;simp only [hop];simp [go_sem]
  ·unfold execOp;simp only [hop];simp [go_sem]) hn
theorem Hz (ho:ops[i]?=some o) (hw:Region.wanted o (yielded ops a.tmps)=true) (hk:b.kind≠ .early) (hop:o.op= .alloc 4) (hnm:¬Z.mute) (hsy:∀b,Z.sy b->b<W.heap.size)
 (hn:∀W1,bZ Z own W W1->Gw Try.prog main Z Stop (λc=>own c∨c=W1.heap.size) (G (b.at (a.put o.dst (.pointer (some ⟨W1.heap.size,0,none⟩))) (.inRegion ops rest::kk)) cs) { W1 with heap:=W1.heap.push (.cells #[.bool false] 4) }):
 Gw Try.prog main Z Stop own (G (b.at a (.inRegion ops (i::rest)::kk)) cs) W:=
 xW (f:= λW1=>.pointer (some ⟨W1.heap.size,0,none⟩)) ho hw hk hnm hsy (λW1 hr=>by
  refine ⟨?_,?_⟩
  ·unfold execOp;simp only [hop];simp [go_sem]
  ·unfold execOp;simp only [hop];simp [go_sem]) hn
theorem Uq (ho:ops[i]?=some o) (hw:Region.wanted o (yielded ops a.tmps)=true) (hk:b.kind≠ .early) (hop:o.op= .alloc 72) (hnm:¬Z.mute) (hsy:∀b,Z.sy b->b<W.heap.size)
 (hn:∀W1,bZ Z own W W1->Gw Try.prog main Z Stop (λc=>own c∨c=W1.heap.size) (G (b.at (a.put o.dst (.pointer (some ⟨W1.heap.size,0,none⟩))) (.inRegion ops rest::kk)) cs) { W1 with heap:=W1.heap.push (.cells #[.pointer none] 72) }):
 Gw Try.prog main Z Stop own (G (b.at a (.inRegion ops (i::rest)::kk)) cs) W:=
 xW (f:= λW1=>.pointer (some ⟨W1.heap.size,0,none⟩)) ho hw hk hnm hsy (λW1 hr=>by
  refine ⟨?_,?_⟩
  ·unfold execOp;simp only [hop];simp [go_sem]
  ·unfold execOp;simp only [hop];simp [go_sem]) hn
theorem WY (ho:ops[i]?=some o) (hw:Region.wanted o (yielded ops a.tmps)=true) (hk:b.kind≠ .early) (hop:o.op= .alloc 80) (hnm:¬Z.mute) (hsy:∀b,Z.sy b->b<W.heap.size)
 (hn:∀W1,bZ Z own W W1->Gw Try.prog main Z Stop (λc=>own c∨c=W1.heap.size) (G (b.at (a.put o.dst (.pointer (some ⟨W1.heap.size,0,none⟩))) (.inRegion ops rest::kk)) cs) { W1 with heap:=W1.heap.push (.cells #[.int .i32 0,.int .u32 0] 80) }):
 Gw Try.prog main Z Stop own (G (b.at a (.inRegion ops (i::rest)::kk)) cs) W:=
 xW (f:= λW1=>.pointer (some ⟨W1.heap.size,0,none⟩)) ho hw hk hnm hsy (λW1 hr=>by
  refine ⟨?_,?_⟩
  ·unfold execOp;simp only [hop];simp [go_sem]
  ·unfold execOp;simp only [hop];simp [go_sem]) hn
theorem WZ (ho:ops[i]?=some o) (hw:Region.wanted o (yielded ops a.tmps)=true) (hk:b.kind≠ .early) (hop:o.op= .alloc 87) (hnm:¬Z.mute) (hsy:∀b,Z.sy b->b<W.heap.size)
 (hn:∀W1,bZ Z own W W1->Gw Try.prog main Z Stop (λc=>own c∨c=W1.heap.size) (G (b.at (a.put o.dst (.pointer (some ⟨W1.heap.size,0,none⟩))) (.inRegion ops rest::kk)) cs) { W1 with heap:=W1.heap.push (.cells #[.int .u64 0,.int .u32 0] 87) }):
 Gw Try.prog main Z Stop own (G (b.at a (.inRegion ops (i::rest)::kk)) cs) W:=
 xW (f:= λW1=>.pointer (some ⟨W1.heap.size,0,none⟩)) ho hw hk hnm hsy (λW1 hr=>by
  refine ⟨?_,?_⟩
  ·unfold execOp;simp only [hop];simp [go_sem]
  ·unfold execOp;simp only [hop];simp [go_sem]) hn
theorem Ur (ho:ops[i]?=some o) (hw:Region.wanted o (yielded ops a.tmps)=true) (hk:b.kind≠ .early) (hop:o.op= .alloc 90) (hnm:¬Z.mute) (hsy:∀b,Z.sy b->b<W.heap.size)
 (hn:∀W1,bZ Z own W W1->Gw Try.prog main Z Stop (λc=>own c∨c=W1.heap.size) (G (b.at (a.put o.dst (.pointer (some ⟨W1.heap.size,0,none⟩))) (.inRegion ops rest::kk)) cs) { W1 with heap:=W1.heap.push (.cells #[.nilFunc] 90) }):
 Gw Try.prog main Z Stop own (G (b.at a (.inRegion ops (i::rest)::kk)) cs) W:=
 xW (f:= λW1=>.pointer (some ⟨W1.heap.size,0,none⟩)) ho hw hk hnm hsy (λW1 hr=>by
  refine ⟨?_,?_⟩
  ·unfold execOp;simp only [hop];simp [go_sem]
  ·unfold execOp;simp only [hop];simp [go_sem]) hn
theorem aa1 (ho:ops[i]?=some o) (hw:Region.wanted o (yielded ops a.tmps)=true) (hk:b.kind≠ .early) (hop:o.op= .buildSlice 91 2 #[(0,.const (.bool false)),(1,.const (.bool true))]) (hnm:¬Z.mute) (hsy:∀b,Z.sy b->b<W.heap.size)
 (hn:∀W1,bZ Z own W W1->Gw Try.prog main Z Stop (λc=>own c∨c=W1.heap.size) (G (b.at (a.put o.dst (.slice (some ⟨W1.heap.size,0,none⟩) 2 2)) (.inRegion ops rest::kk)) cs) { W1 with heap:=W1.heap.push (.cells #[.bool false,.bool true] 4) }):
 Gw Try.prog main Z Stop own (G (b.at a (.inRegion ops (i::rest)::kk)) cs) W:=
 xW (f:= λW1=>.slice (some ⟨W1.heap.size,0,none⟩) 2 2) ho hw hk hnm hsy (λW1 hr=>by
  refine ⟨?_,?_⟩
  ·unfold execOp;simp only [hop];simp [go_sem]
  ·unfold execOp;simp only [hop];simp [go_sem]) hn
theorem Ut {v1 v2 v3 v4:Value} {e:TypeId} {fr:Nat×Nat} {bb:Nat} (ho:ops[i]?=some o) (hw:Region.wanted o (yielded ops a.tmps)=true) (hk:b.kind≠ .early) (hop:o.op= .load 43 x) (hx:a.eval x= .pointer (some ⟨bb,0,none⟩)) (hnm:¬Z.mute)
 (hz:own bb∨Z.ro bb) (hc:W.heap[bb]?=some (.cells #[v1,v2,v3,v4] e fr))
 (hn:∀W1,bZ Z own W W1->Gw Try.prog main Z Stop own (G (b.at (a.put o.dst (.agg #[v1,v2,v3,v4])) (.inRegion ops rest::kk)) cs) W1):
 Gw Try.prog main Z Stop own (G (b.at a (.inRegion ops (i::rest)::kk)) cs) W:=by
 refine Bh ho hw hk λW1 hr=>?_
 have hb:W1.heap[bb]?=some (.cells #[v1,v2,v3,v4] e fr):=(hz.elim (hr.own _) (hr.ro _)).trans hc
 have c0:W1.cell? ⟨bb,0,none⟩=some v1:=by unfold World.cell?;simp only [hb];rfl
 have c1:W1.cell? ⟨bb,1,none⟩=some v2:=by unfold World.cell?;simp only [hb];rfl
 have c2:W1.cell? ⟨bb,2,none⟩=some v3:=by unfold World.cell?;simp only [hb];rfl
 have c3:W1.cell? ⟨bb,3,none⟩=some v4:=by unfold World.cell?;simp only [hb];rfl
 refine ⟨.agg #[v1,v2,v3,v4],W1,by unfold execOp;simp only [hop,hx];simp [go_sem,c0,c1,c2,c3],uC.refl _, λev he=>?_,by rw [jT];exact hn W1 hr⟩;rw [jT]
 have :∃k:Nat,ev=⟨.cell ⟨bb,k,none⟩,false,false⟩:=by
  unfold execOp at he;simp only [hop,hx] at he;simp [go_sem,c0,c1,c2,c3] at he;rcases he with rfl|rfl|rfl|rfl<;>exact ⟨_,rfl⟩
 obtain ⟨k,rfl⟩:=this;exact ⟨hnm,rfl,hz.elim .inl λz=>.inr (.inl ⟨z,rfl⟩)⟩
theorem Uu {p:Option Addr} {v0:Value} (ho:ops[i]?=some o) (hw:Region.wanted o (yielded ops a.tmps)=true) (hk:b.kind≠ .early) (hop:o.op= .store 72 x y) (hx:a.eval x= .pointer (some ad)) (hy:a.eval y= .pointer p) (hnm:¬Z.mute)
 (hz:own ad.block) (hns:¬Z.sy ad.block) (hc:W.cell? ad=some v0) (hf:W.frozen? ad=false)
 (hn:∀W1,bZ Z own W W1->Gw Try.prog main Z Stop own (G (b.at (a.put o.dst undef) (.inRegion ops rest::kk)) cs) (W1.setCell ad (.pointer p))):
 Gw Try.prog main Z Stop own (G (b.at a (.inRegion ops (i::rest)::kk)) cs) W:=
 Bj ho hw hk hnm hz hns (λW1 hr=>by
  have hb:=hr.own _ hz;have hc1:W1.cell? ad=some v0:=by rw [<-hc];unfold World.cell?;rw [hb]
  have hf1:W1.frozen? ad=false:=by rw [<-hf];unfold World.frozen?;rw [hb]
  exact ⟨by unfold execOp;simp only [hop,hx,hy];simp [go_sem,hc1,hf1],by unfold execOp;simp only [hop,hx,hy];simp [go_sem,hc1,hf1];rw [Go.events_store _ _ _ _ _ _ rfl];simp [hc1,hf1]⟩) hn
theorem Uv {fn:Fn} {f1 f2:Array Value} {v0:Value} (ho:ops[i]?=some o) (hw:Region.wanted o (yielded ops a.tmps)=true) (hk:b.kind≠ .early) (hop:o.op= .store 90 x y) (hx:a.eval x= .pointer (some ad)) (hy:a.eval y= .func fn f1 f2) (hnm:¬Z.mute)
 (hz:own ad.block) (hns:¬Z.sy ad.block) (hc:W.cell? ad=some v0) (hf:W.frozen? ad=false)
 (hn:∀W1,bZ Z own W W1->Gw Try.prog main Z Stop own (G (b.at (a.put o.dst undef) (.inRegion ops rest::kk)) cs) (W1.setCell ad (.func fn f1 f2))):
 Gw Try.prog main Z Stop own (G (b.at a (.inRegion ops (i::rest)::kk)) cs) W:=
 Bj ho hw hk hnm hz hns (λW1 hr=>by
  have hb:=hr.own _ hz;have hc1:W1.cell? ad=some v0:=by rw [<-hc];unfold World.cell?;rw [hb]
  have hf1:W1.frozen? ad=false:=by rw [<-hf];unfold World.frozen?;rw [hb]
  exact ⟨by unfold execOp;simp only [hop,hx,hy];simp [go_sem,hc1,hf1];rw [Go.run_store _ _ _ _ _ rfl];simp [go_sem,hc1,hf1],by unfold execOp;simp only [hop,hx,hy];simp [go_sem,hc1,hf1];rw [Go.events_store _ _ _ _ _ _ rfl];simp [hc1,hf1]⟩) hn
end
end Go.Proofs.Try
end
section
namespace Go.Proofs.Try
open Go Go.Conc Go.ConcN Go.ConcM Go.RowKit Go.Conc.Lib Go.ConcR.Gen Par
attribute [local instance] noSh ig
def l2:List FuncId:=[26,28,29,45,49,50,52,53,79,80,93,94,95,104]
def S2 (g:FuncId):Bool:=l2.contains g
theorem al3:l2.all (He Try.prog S2 S2)=true:=by kernel_rfl
theorem Uw (A:Nat->Bool):lY Try.prog (FA S2 S2 (dM Try.prog S2 S2) A):=
 Ou (λg hg=>aV.1 al3 g (by simpa [S2] using hg)) (λ_ h=>h) A
structure vK (As own:Nat->Prop) (W:World) (b:dz) (v:iQ):Prop where
 at_:eT W W.heap.size b v
 own:∀a,As a->own a
 blk:∀a,As a->∃c e fr,W.heap[a]?=some (.cells c e fr)∧∀x∈c,dJ x=true∨∃p l cp,x= .slice p l cp∧∀q,p=some q->As q.block
 top:∀q,v.ah=some q∨v.ap=some q∨v.jU=some q∨v.ac=some q->As q.block
 deep:∀i s,b.steps[i]?=some s->∀q,(v.sv i).a1=some q∨(v.sv i).a2=some q->As q.block
section
variable {As own:Nat->Prop} {W:World} {b:dz} {v:iQ}
theorem vK.good (h:vK As own W b v) (hlt:∀a,own a->a<W.heap.size):(∀a o,As a->W.heap[a]?=some o->∃c e fr,o= .cells c e fr∧OnA Try.prog S2 As W.heap.size c)∧
 (∀p l c,(∀q,p=some q->As q.block)->vs (FA S2 S2 (dM Try.prog S2 S2) (Bd (iU As W.heap.size) W.heap.size)) (.slice p l c)=true):=by
 classical
 have on:∀b,As b->Bd (iU As W.heap.size) W.heap.size b=true:= λb hb=>fB.2 ⟨by unfold iU;exact decide_eq_true (.inl hb),hlt b (h.own b hb)⟩
 have sl:∀p l c,(∀q,p=some q->As q.block)->vs (FA S2 S2 (dM Try.prog S2 S2) (Bd (iU As W.heap.size) W.heap.size)) (.slice p l c)=true:= λp l c hp=>by
  cases hA:p with
  |none=>simp
  |some a=>rw [qM,lW];exact on a.block (hp a hA)
 refine ⟨λa o ha ho=>?_,sl⟩;obtain ⟨c,e,fr,h1,h2⟩:=h.blk a ha;rw [h1] at ho;cases ho;refine ⟨_,_,_,rfl, λx hx=>?_⟩;rcases h2 x hx with h3|⟨p,l,cp,rfl,h3⟩
 ·exact (jd (f:= λb=>b) h3).2
 ·exact sl _ _ _ h3
theorem vK.val (h:vK As own W b v) (hlt:∀a,own a->a<W.heap.size):vs (FA S2 S2 (dM Try.prog S2 S2) (Bd (iU As W.heap.size) W.heap.size)) (dN b v)=true:=by
 obtain ⟨_,sl⟩:=h.good hlt;unfold dN;rw [qm];intro x hx;simp only [List.mem_toArray,aT,List.not_mem_nil,or_false] at hx;rcases hx with rfl|rfl|rfl|rfl
 ·exact sl _ _ _ λq hq=>h.top q (.inl hq)
 ·exact sl _ _ _ λq hq=>h.top q (.inr (.inl hq))
 ·exact sl _ _ _ λq hq=>h.top q (.inr (.inr (.inl hq)))
 ·exact sl _ _ _ λq hq=>h.top q (.inr (.inr (.inr hq)))
end
theorem yA {w w':World} {B B' k n:Nat} {A:Option Addr} {f:Nat->Nat->Value} {As:Nat->Prop} (h:Rd w B k A n f) (hA:∀q,A=some q->As q.block) (hc:∀b,As b->w'.heap[b]?=w.heap[b]?) (hB:B<=B'):Rd w' B' k A n f:= λhn=>by
 obtain ⟨bb,off,e,h1,h2⟩:=h hn;exact ⟨bb,off,e,ak h1 hB, λi j hi hj=>(dW (hc _ (hA _ e)) _).trans (h2 i j hi hj)⟩
section
variable {main:Bool} {As own:Nat->Prop} {W:World} {b:dz} {v:iQ} {Stop:(Nat->Prop)->Goroutine->World->Prop} {eF:Frame} {K':List Frame}
theorem vK.kept {own':Nat->Prop} {Z:eG} {W':World} (h:vK As own W b v) (hlt:∀a,own a->a<W.heap.size) (hk:Kept Z own W own' W'):vK As own' W' b v:=by
 obtain ⟨h1,h2,h3,h4,h5⟩:=h;have hc:∀b,As b->W'.heap[b]?=W.heap[b]?:= λb hb=>hk.rely.own _ (h2 b hb)
 refine ⟨⟨yA h1.hands (λq e=>h4 q (.inl e)) hc hk.rely.size,yA h1.bP (λq e=>h4 q (.inr (.inl e))) hc hk.rely.size,yA h1.steps (λq e=>h4 q (.inr (.inr (.inl e)))) hc hk.rely.size, λi s e=>yA (h1.ins i s e) (λq e'=>h5 i s e q (.inl e')) hc hk.rely.size,
  λi s e=>yA (h1.outs i s e) (λq e'=>h5 i s e q (.inr e')) hc hk.rely.size,yA h1.bT (λq e=>h4 q (.inr (.inr (.inr e)))) hc hk.rely.size,h1.lh,h1.lp,h1.ls,h1.lc⟩, λa ha=>hk.sub _ (h2 a ha), λa ha=>?_,h4,h5⟩
 ·obtain ⟨c,e,fr,q1,q2⟩:=h3 a ha;exact ⟨c,e,fr,(hk.rely.own _ (h2 a ha)).trans q1,q2⟩
theorem aa2 (hb:vK As own W b v) (hlt:∀a,own a->a<W.heap.size) (jy:Try.prog.globals.size<W.heap.size) (hs:b.small)
 (hret:∀own' W',Kept Z0 own W own' W'->Gw Try.prog main Z0 Stop own' (G (eF.finish (.int .i64 (eX b))) K') W'):
 Gw Try.prog main Z0 Stop own (G (Frame.enter Try.prog 26 #[dN b v] .normal) (eF::K')) W:=by
 obtain ⟨g1,_⟩:=hb.good hlt;refine vF (S:=S2) (As:=As) (R:= λv _=>v= .int .i64 (eX b)) Uw zeros jy (λa ha=>.inl (hb.own a ha)) g1 (λa ha=>⟨hlt a ha, λh=>h, λh=>h⟩) (λ_ h=>False.elim h) (λ_ h=>False.elim h) (λ_ _ h=>False.elim h) (λh=>h) (g:=26) rfl ?_ (λw hsz hcell=>?_) λv w' f' own' W' hR hk _=>?_
 ·intro x hx;simp only [List.mem_toArray,aT,List.not_mem_nil,or_false] at hx;subst hx;exact hb.val hlt
 ·have :=@Lo.yI ig w W.heap.size b v (hb.at_.keep λb o _=>hcell b o) (Nat.le_of_eq hsz.symm) hs;rw [Bl] at this;exact this.mono λe w' h=>⟨_,h.1,rfl⟩
 ·subst hR;rw [iG];exact hret own' W' hk
structure as1 (own:Nat->Prop) (W:World) (bw:Nat) (ss:List dL) (n nd:Nat) (A:Option Addr) (cap:Nat):Prop where
 ow:own bw
 blk:∃e fr,W.heap[bw]?=some (.cells #[.slice A ss.length cap,.int .i64 (n:Int),.int .i64 (nd:Int)] e fr)
 at_:jX W W.heap.size bw ss n nd A cap
 str:∀a,A=some a->own a.block∧∃cur e fr,W.heap[a.block]?=some (.cells cur e fr)∧∀x∈cur,dJ x=true
theorem as2 (hb:vK As own W b v) (hlt:∀a,own a->a<W.heap.size) (jy:Try.prog.globals.size<W.heap.size) (hg:b.good) {hand:Int} (hh: -1<=hand∧hand<=64)
 (hret:∀own' W' bw A cap,Kept Z0 own W own' W'->as1 own' W' bw (dP b hand) b.steps.length (dw b hand) A cap->W.heap.size<=bw->(∀a,A=some a->W.heap.size<=a.block)->Gw Try.prog main Z0 Stop own' (G (eF.finish (.pointer (some ⟨bw,0,none⟩))) K') W'):
 Gw Try.prog main Z0 Stop own (G (Frame.enter Try.prog 29 #[dN b v,.int .i64 hand] .normal) (eF::K')) W:=by
 obtain ⟨g1,_⟩:=hb.good hlt;refine vF (S:=S2) (As:=As) (R:= λx w'=>∃bw y,x= .pointer (some ⟨bw,0,none⟩)∧W.heap.size<=bw∧bw<w'.heap.size∧eB w' bw W.heap.size b.steps.length (dw b hand) (dP b hand) y) Uw zeros jy (λa ha=>.inl (hb.own a ha)) g1 (λa ha=>⟨hlt a ha, λh=>h, λh=>h⟩) (λ_ h=>False.elim h) (λ_ h=>False.elim h) (λ_ _ h=>False.elim h) (λh=>h) (g:=29) rfl ?_ (λw hsz hcell=>?_) λx w' f' own' W' hR hk hm=>?_
 ·intro x hx;simp only [List.mem_toArray,aT,List.not_mem_nil,or_false] at hx;rcases hx with rfl|rfl
  ·exact hb.val hlt
  ·simp
 ·have :=@Lo.Gg ig w W.heap.size b v (hb.at_.keep λb o _=>hcell b o) (Nat.le_of_eq hsz.symm) hg hand hh;rw [Bl] at this;refine this.mono λe w' h=>?_
  obtain ⟨bw,y,h1,h2,h3,h4,_⟩:=h;rw [hsz] at h2 h4;exact ⟨_,h1,bw,y,rfl,h2,h3,h4⟩
 ·obtain ⟨bw,y,rfl,h1,h2,h3⟩:=hR;obtain ⟨A,cap,rfl,hat⟩:=h3.at (NJ b hand hg) (NP b hand hg);obtain ⟨q1,q2,q3⟩:=hm.ge bw h1 h2;have e0:rv f' (.pointer (some ⟨bw,0,none⟩))= .pointer (some ⟨f' bw,0,none⟩):=by rw [dm];rfl
  rw [e0];obtain ⟨fr',b1⟩:=hm.blk _ _ _ _ h1 h3.blk;have b2:W'.heap[f' bw]?=some (.cells #[.slice (A.map (ra f')) (dP b hand).length cap,.int .i64 (b.steps.length:Int),.int .i64 (dw b hand:Int)] 96 fr'):=by rw [b1];simp
  have hge:∀a,A=some a->W.heap.size<=a.block∧a.block<w'.heap.size∧∃cur e,w'.heap[a.block]?=some (.cells cur e)∧∀x∈cur,dJ x=true:= λa ha=>by
   have hp:=h3.pl;have hr:=h3.row;rw [ha] at hp hr;obtain ⟨l1,l2⟩:=hr.lt a.block rfl;exact ⟨l1,l2,hp a.block rfl⟩
  refine hret own' W' (f' bw) (A.map (ra f')) cap hk ⟨q3,⟨_,_,b2⟩,⟨q2,?_,?_,?_, λhn=>?_,hat.ok,hat.len⟩, λa ha=>?_⟩ q1 λa ha=>?_
  ·rw [hm.cell _ _ _ h1 hat.c0];simp
  ·rw [hm.cell _ _ _ h1 hat.c1];simp
  ·rw [hm.cell _ _ _ h1 hat.c2];simp
  ·obtain ⟨bb,off,e,p1,p2⟩:=hat.rd hn;subst e;obtain ⟨k1,k2,_⟩:=hge _ rfl;refine ⟨f' bb,off,rfl,(hm.ge _ k1 k2).2.1, λi j hi hj=>?_⟩;rw [hm.cell _ _ _ k1 (p2 i j hi hj)];unfold vP
   match j,hj with
   |0,_=>rw [show ((((dP b hand)[i]?).getD ⟨0,0,0,0⟩).cells 0)= .int .i64 (((dP b hand)[i]?).getD ⟨0,0,0,0⟩).lo from rfl,iG]
   |1,_=>rw [show ((((dP b hand)[i]?).getD ⟨0,0,0,0⟩).cells 1)= .int .i64 (((dP b hand)[i]?).getD ⟨0,0,0,0⟩).hi from rfl,iG]
   |2,_=>rw [show ((((dP b hand)[i]?).getD ⟨0,0,0,0⟩).cells 2)= .int .i64 ((((dP b hand)[i]?).getD ⟨0,0,0,0⟩).fr:Int) from rfl,iG]
   |3,_=>rw [show ((((dP b hand)[i]?).getD ⟨0,0,0,0⟩).cells 3)= .int .i64 ((((dP b hand)[i]?).getD ⟨0,0,0,0⟩).to:Int) from rfl,iG]
  ·cases hA:A with
   |none=>rw [hA] at ha;cases ha
   |some a0=>
    rw [hA] at ha;have ha:some (ra f' a0)=some a:=ha;cases ha;obtain ⟨l1,l2,cur,e,c1,c2⟩:=hge a0 hA;obtain ⟨fr',c3⟩:=hm.blk _ _ _ _ l1 c1;rw [Hf c2] at c3;exact ⟨(hm.ge _ l1 l2).2.2,cur,e,fr',c3,c2⟩
  ·cases hA:A with
   |none=>rw [hA] at ha;cases ha
   |some a0=>
    rw [hA] at ha;have ha:some (ra f' a0)=some a:=ha;cases ha;obtain ⟨l1,l2,_⟩:=hge a0 hA;exact (hm.ge _ l1 l2).1
end
end Go.Proofs.Try
end
section
namespace Go.Proofs.Try
open Go Go.RowKit Par
attribute [local instance] noSh
theorem OC {P:Program} {q:FuncId} {fn:Func} (h:P.funcs[q]?=some fn) (c:Code):(P.stub q c).funcs[q]?=some { fn with body:=some c }:=by
 show (P.funcs.modify q _)[q]?=_
 rw [aQ,if_pos rfl,h];rfl
theorem vL (P:Program) {q g:FuncId} (c:Code) (h:g≠q):(P.stub q c).funcs[g]?=P.funcs[g]?:=by
 show (P.funcs.modify q _)[g]?=_
 rw [aQ,if_neg (λx=>h x.symm)]
theorem Fz (P:Program) (q:FuncId) (c:Code) (h:iF P=true):iF (P.stub q c)=true:=h
@[reducible] noncomputable def OD:Lo.St:=⟨Try.f5.body.getD .skip,.refuse ""⟩
noncomputable def jH:Program:=Try.prog.stub 16 (.refuse "")
theorem Ux: @Lo.prog OD=jH:=by
 rw [@Lo.iD OD];have h5:Try.prog.stub 5 (Try.f5.body.getD .skip)=Try.prog:=rV Try.func5 (by unfold Try.f5;rfl);show (Try.prog.stub 5 (Try.f5.body.getD .skip)).stub 16 (.refuse "")=jH;rw [h5];rfl
noncomputable def aa3:Func:={ Try.f16 with body:=some (.refuse "") }
theorem OE:jH.funcs[16]?=some aa3:=by unfold jH aa3;exact OC Try.func16 _
theorem Ia (P:Program) (q:FuncId) (c c':Code):(P.stub q c).stub q c'=P.stub q c':=by
 unfold Program.stub;congr 1;apply Array.ext_getElem?;intro i;rw [aQ,aQ,aQ]
 by_cases h:q=i
 ·rw [if_pos h,if_pos h,if_pos h];cases P.funcs[i]?<;>rfl
 ·rw [if_neg h,if_neg h,if_neg h]
theorem Uy:Par.Alike jH Try.prog:=by
 refine .inr ⟨16,Try.f16.body.getD .skip,.refuse "",aa3,OE,rfl,?_⟩;unfold jH;rw [Ia];exact (rV Try.func16 (by unfold Try.f16;rfl)).symm
theorem al4 (g:FuncId) (h:Try.prog.funcs[g]?≠jH.funcs[g]?):g=16:=by
 by_cases e:g=16
 ·exact e
 ·exfalso;refine h ?_
  unfold jH;exact (vL Try.prog _ e).symm
theorem Uz (S:FuncId->Bool):CS jH Try.prog S:=I9 (why:= "") OE rfl λg _ hne=>al4 g hne
theorem UA:iF jH=true:=by
 unfold jH;exact Fz _ _ _ zeros
end Go.Proofs.Try
end
section
namespace Go.Proofs.Try
open Go Go.Conc Go.ConcN Go.ConcM Go.RowKit Go.Conc.Lib Go.ConcR.Gen Par
attribute [local instance] noSh ig
noncomputable def LP:Code:=(bO mQ).getD .skip
theorem KX:Try.f16.body=some mQ:=by unfold mQ Try.f16;rfl
theorem UB:(Try.f26.name== "runtime.NumGoroutine")=false:=by kernel_rfl
theorem aa4:(Try.f29.name== "runtime.NumGoroutine")=false:=by kernel_rfl
theorem UC:Try.f26.body=some (Try.f26.body.getD .skip):=by unfold Try.f26;rfl
theorem aa5:Try.f29.body=some (Try.f29.body.getD .skip):=by unfold Try.f29;rfl
structure Sn (cK:Nat->Prop) (W0:World) (L:List (Nat×Obj)) (own:Nat->Prop) (W:World):Prop where
 kept:Kept Z0 cK W0 own W
 lt:∀b,own b->b<W.heap.size
 has:∀p∈L,own p.1∧W0.heap.size<=p.1∧W.heap[p.1]?=some p.2
 nd:(L.map Prod.fst).Nodup
section
variable {cK own own':Nat->Prop} {W0 W W1:World} {L:List (Nat×Obj)}
theorem Sn.start (h:∀b,cK b->b<W0.heap.size):Sn cK W0 [] cK W0:=⟨⟨bZ.refl _, λ_ h=>h, λ_ h=>.inl h⟩,h, λ_ h=>(by cases h),List.nodup_nil⟩
theorem Sn.rely (h:Sn cK W0 L own W) (hr:bZ Z0 own W W1):Sn cK W0 L own W1:=
 ⟨⟨h.kept.rely.trans ⟨hr.tape,hr.out,hr.os,hr.size, λb hb=>hr.own b (h.kept.sub b hb),hr.ro,hr.sy,hr.cl⟩,h.kept.sub, λb hb=>(h.kept.new b hb).imp id λx=>⟨x.1,ak x.2 hr.size⟩⟩,
  λb hb=>ak (h.lt b hb) hr.size, λp hp=>⟨(h.has p hp).1,(h.has p hp).2.1,(hr.own _ (h.has p hp).1).trans (h.has p hp).2.2⟩,h.nd⟩
theorem Sn.push (h:Sn cK W0 L own W) (o:Obj):Sn cK W0 ((W.heap.size,o)::L) (λc=>own c∨c=W.heap.size) { W with heap:=W.heap.push o }:=by
 have hold:∀c,c<W.heap.size->(W.heap.push o)[c]?=W.heap[c]?:= λc hc=>by rw [Array.getElem?_push_lt hc,aH hc]
 have hs:=h.kept.rely.size;refine ⟨⟨h.kept.rely.trans ⟨rfl,rfl,OsLater.refl _,by simp, λb hb=>hold b (h.lt b (h.kept.sub b hb)), λ_ x=>False.elim x, λ_ x=>False.elim x, λ_ _ x=>False.elim x⟩, λb hb=>.inl (h.kept.sub b hb), λb hb=>?_⟩, λb hb=>?_, λp hp=>?_,?_⟩
 ·rcases hb with hb|rfl
  ·exact (h.kept.new b hb).imp id λx=>⟨x.1,by simp;omega⟩
  ·exact .inr ⟨hs,by simp⟩
 ·simp only [Array.size_push];rcases hb with hb|rfl
  ·have :=h.lt b hb;omega
  ·omega
 ·rcases aT.1 hp with rfl|hp
  ·exact ⟨.inr rfl,hs,by simp⟩
  ·obtain ⟨a,b,c⟩:=h.has p hp;exact ⟨.inl a,b,(hold _ (h.lt _ a)).trans c⟩
 ·simp only [List.map_cons,List.nodup_cons];refine ⟨λhx=>?_,h.nd⟩;obtain ⟨p,hp,e⟩:=List.mem_map.1 hx;have :=h.lt _ (h.has p hp).1;omega
theorem Sn.call (h:Sn cK W0 L own W) (hk:Kept Z0 own W own' W1):Sn cK W0 L own' W1:=
 ⟨⟨h.kept.rely.trans ⟨hk.rely.tape,hk.rely.out,hk.rely.os,hk.rely.size, λb hb=>hk.rely.own b (h.kept.sub b hb),hk.rely.ro,hk.rely.sy,hk.rely.cl⟩, λb hb=>hk.sub b (h.kept.sub b hb), λb hb=>by
   have :=h.kept.rely.size;rcases hk.new b hb with x|x
   ·exact (h.kept.new b x).imp id λy=>⟨y.1,ak y.2 hk.rely.size⟩
   ·exact .inr ⟨by omega,x.2⟩⟩,
  λb hb=>by
   rcases hk.new b hb with x|x
   ·exact ak (h.lt b x) hk.rely.size
   ·exact x.2, λp hp=>⟨hk.sub _ (h.has p hp).1,(h.has p hp).2.1,(hk.rely.own _ (h.has p hp).1).trans (h.has p hp).2.2⟩,h.nd⟩
theorem Sn.add (h:Sn cK W0 L own W) {b:Nat} {o:Obj} (h1:own b) (h2:W0.heap.size<=b) (h3:W.heap[b]?=some o) (h4:∀p∈L,p.1≠b):Sn cK W0 ((b,o)::L) own W:=
 ⟨h.kept,h.lt, λp hp=>by
   rcases aT.1 hp with rfl|hp
   ·exact ⟨h1,h2,h3⟩
   ·exact h.has p hp,by
   simp only [List.map_cons,List.nodup_cons];refine ⟨λhx=>?_,h.nd⟩;obtain ⟨p,hp,e⟩:=List.mem_map.1 hx;exact h4 p hp e⟩
theorem Sn.set {b:Nat} {v0:Value} {e:TypeId} (h:Sn cK W0 ((b,.cells #[v0] e)::L) own W) (hb0:∀x,cK x->x<W0.heap.size) (v:Value):Sn cK W0 ((b,.cells #[v] e)::L) own (W.setCell ⟨b,0,none⟩ v):=by
 have hb:=h.has _ (az ..);have ha:=Go.Conc.aside_setCell W ⟨b,0,none⟩ v;refine ⟨⟨h.kept.rely.trans ⟨ha.tape,ha.output,by rw [ha.os];exact OsLater.refl _,Nat.le_of_eq ha.size.symm, λx hx=>ha.block x λe=>?_, λ_ x=>False.elim x, λ_ x=>False.elim x, λ_ _ x=>False.elim x⟩,h.kept.sub, λx hx=>(h.kept.new x hx).imp id λy=>⟨y.1,by rw [ha.size];exact y.2⟩⟩, λx hx=>by rw [ha.size];exact h.lt x hx, λp hp=>?_,h.nd⟩
 ·have :=hb0 x hx;have :=hb.2.1;have e:x=b:=e;omega
 ·rcases aT.1 hp with rfl|hp'
  ·refine ⟨hb.1,hb.2.1,?_⟩;show (W.setCell ⟨b,0,none⟩ v).heap[b]?=_
   rw [heap_setCell_same W b 0 _ e v hb.2.2];rfl
  ·obtain ⟨a,c,d⟩:=h.has p (aA _ hp');refine ⟨a,c,(ha.block _ λe=>?_).trans d⟩;have hn:=h.nd;simp only [List.map_cons,List.nodup_cons] at hn;have e:p.1=b:=e;exact hn.1 (e ▸ List.mem_map_of_mem hp')
theorem Sn.mine (h:Sn cK W0 L own W) {b:Nat} {o:Obj} (hm:(b,o)∈L):own b:=(h.has _ hm).1
theorem Sn.cell (h:Sn cK W0 L own W) {b:Nat} {v:Value} {e:TypeId} (hm:(b,Obj.cells #[v] e)∈L):W.cell? ⟨b,0,none⟩=some v:=C1.cell ⟨e,(h.has _ hm).2.2⟩
theorem Sn.free (h:Sn cK W0 L own W) {b:Nat} {v:Value} {e:TypeId} (hm:(b,Obj.cells #[v] e)∈L):W.frozen? ⟨b,0,none⟩=false:=C1.free ⟨e,(h.has _ hm).2.2⟩
end
section
variable {main:Bool} {cK own:Nat->Prop} {W0:World} {L:List (Nat×Obj)} {Stop:(Nat->Prop)->Goroutine->World->Prop}
variable {b:Frame} {a:Act} {kk:List Item} {cs:List Frame} {W:World} {ops:Array Oper} {i:Nat} {rest:List Nat} {o:Oper} {x y:Operand} {ad:Addr}
theorem Xa {v1 v2 v3 v4:Value} (S:Sn cK W0 L own W) (ho:ops[i]?=some o) (hw:Region.wanted o (yielded ops a.tmps)=true) (hk:b.kind≠ .early) (hop:o.op= .box 43 x) (hx:a.eval x= .agg #[v1,v2,v3,v4])
 (hn:∀n own' W',Sn cK W0 ((n,.cells #[v1,v2,v3,v4] 43)::L) own' W'->Gw Try.prog main Z0 Stop own' (G (b.at (a.put o.dst (.pointer (some ⟨n,0,none⟩))) (.inRegion ops rest::kk)) cs) W'):
 Gw Try.prog main Z0 Stop own (G (b.at a (.inRegion ops (i::rest)::kk)) cs) W:=
 WW ho hw hk hop hx (λh=>h) (λ_ h=>False.elim h) λ_ hr=>hn _ _ _ ((S.rely hr).push _)
theorem Xb (S:Sn cK W0 L own W) (ho:ops[i]?=some o) (hw:Region.wanted o (yielded ops a.tmps)=true) (hk:b.kind≠ .early) (hop:o.op= .alloc 25)
 (hn:∀n own' W',Sn cK W0 ((n,.cells #[.slice none 0 0] 25)::L) own' W'->Gw Try.prog main Z0 Stop own' (G (b.at (a.put o.dst (.pointer (some ⟨n,0,none⟩))) (.inRegion ops rest::kk)) cs) W'):
 Gw Try.prog main Z0 Stop own (G (b.at a (.inRegion ops (i::rest)::kk)) cs) W:=
 WX ho hw hk hop (λh=>h) (λ_ h=>False.elim h) λ_ hr=>hn _ _ _ ((S.rely hr).push _)
theorem Ib (S:Sn cK W0 L own W) (ho:ops[i]?=some o) (hw:Region.wanted o (yielded ops a.tmps)=true) (hk:b.kind≠ .early) (hop:o.op= .alloc 4)
 (hn:∀n own' W',Sn cK W0 ((n,.cells #[.bool false] 4)::L) own' W'->Gw Try.prog main Z0 Stop own' (G (b.at (a.put o.dst (.pointer (some ⟨n,0,none⟩))) (.inRegion ops rest::kk)) cs) W'):
 Gw Try.prog main Z0 Stop own (G (b.at a (.inRegion ops (i::rest)::kk)) cs) W:=
 Hz ho hw hk hop (λh=>h) (λ_ h=>False.elim h) λ_ hr=>hn _ _ _ ((S.rely hr).push _)
theorem UD (S:Sn cK W0 L own W) (ho:ops[i]?=some o) (hw:Region.wanted o (yielded ops a.tmps)=true) (hk:b.kind≠ .early) (hop:o.op= .alloc 72)
 (hn:∀n own' W',Sn cK W0 ((n,.cells #[.pointer none] 72)::L) own' W'->Gw Try.prog main Z0 Stop own' (G (b.at (a.put o.dst (.pointer (some ⟨n,0,none⟩))) (.inRegion ops rest::kk)) cs) W'):
 Gw Try.prog main Z0 Stop own (G (b.at a (.inRegion ops (i::rest)::kk)) cs) W:=
 Uq ho hw hk hop (λh=>h) (λ_ h=>False.elim h) λ_ hr=>hn _ _ _ ((S.rely hr).push _)
theorem Xc (S:Sn cK W0 L own W) (ho:ops[i]?=some o) (hw:Region.wanted o (yielded ops a.tmps)=true) (hk:b.kind≠ .early) (hop:o.op= .alloc 80)
 (hn:∀n own' W',Sn cK W0 ((n,.cells #[.int .i32 0,.int .u32 0] 80)::L) own' W'->Gw Try.prog main Z0 Stop own' (G (b.at (a.put o.dst (.pointer (some ⟨n,0,none⟩))) (.inRegion ops rest::kk)) cs) W'):
 Gw Try.prog main Z0 Stop own (G (b.at a (.inRegion ops (i::rest)::kk)) cs) W:=
 WY ho hw hk hop (λh=>h) (λ_ h=>False.elim h) λ_ hr=>hn _ _ _ ((S.rely hr).push _)
theorem Xd (S:Sn cK W0 L own W) (ho:ops[i]?=some o) (hw:Region.wanted o (yielded ops a.tmps)=true) (hk:b.kind≠ .early) (hop:o.op= .alloc 87)
 (hn:∀n own' W',Sn cK W0 ((n,.cells #[.int .u64 0,.int .u32 0] 87)::L) own' W'->Gw Try.prog main Z0 Stop own' (G (b.at (a.put o.dst (.pointer (some ⟨n,0,none⟩))) (.inRegion ops rest::kk)) cs) W'):
 Gw Try.prog main Z0 Stop own (G (b.at a (.inRegion ops (i::rest)::kk)) cs) W:=
 WZ ho hw hk hop (λh=>h) (λ_ h=>False.elim h) λ_ hr=>hn _ _ _ ((S.rely hr).push _)
theorem UE (S:Sn cK W0 L own W) (ho:ops[i]?=some o) (hw:Region.wanted o (yielded ops a.tmps)=true) (hk:b.kind≠ .early) (hop:o.op= .alloc 90)
 (hn:∀n own' W',Sn cK W0 ((n,.cells #[.nilFunc] 90)::L) own' W'->Gw Try.prog main Z0 Stop own' (G (b.at (a.put o.dst (.pointer (some ⟨n,0,none⟩))) (.inRegion ops rest::kk)) cs) W'):
 Gw Try.prog main Z0 Stop own (G (b.at a (.inRegion ops (i::rest)::kk)) cs) W:=
 Ur ho hw hk hop (λh=>h) (λ_ h=>False.elim h) λ_ hr=>hn _ _ _ ((S.rely hr).push _)
theorem aa6 (S:Sn cK W0 L own W) (ho:ops[i]?=some o) (hw:Region.wanted o (yielded ops a.tmps)=true) (hk:b.kind≠ .early) (hop:o.op= .buildSlice 91 2 #[(0,.const (.bool false)),(1,.const (.bool true))])
 (hn:∀n own' W',Sn cK W0 ((n,.cells #[.bool false,.bool true] 4)::L) own' W'->Gw Try.prog main Z0 Stop own' (G (b.at (a.put o.dst (.slice (some ⟨n,0,none⟩) 2 2)) (.inRegion ops rest::kk)) cs) W'):
 Gw Try.prog main Z0 Stop own (G (b.at a (.inRegion ops (i::rest)::kk)) cs) W:=
 aa1 ho hw hk hop (λh=>h) (λ_ h=>False.elim h) λ_ hr=>hn _ _ _ ((S.rely hr).push _)
theorem UF {v1 v2 v3 v4:Value} {e:TypeId} {bb:Nat} (S:Sn cK W0 L own W) (ho:ops[i]?=some o) (hw:Region.wanted o (yielded ops a.tmps)=true) (hk:b.kind≠ .early) (hop:o.op= .load 43 x) (hx:a.eval x= .pointer (some ⟨bb,0,none⟩)) (hm:(bb,Obj.cells #[v1,v2,v3,v4] e)∈L)
 (hn:∀W',Sn cK W0 L own W'->Gw Try.prog main Z0 Stop own (G (b.at (a.put o.dst (.agg #[v1,v2,v3,v4])) (.inRegion ops rest::kk)) cs) W'):
 Gw Try.prog main Z0 Stop own (G (b.at a (.inRegion ops (i::rest)::kk)) cs) W:=
 Ut ho hw hk hop hx (λh=>h) (.inl (S.mine hm)) (S.has _ hm).2.2 λ_ hr=>hn _ (S.rely hr)
theorem UG {p:Option Addr} {v0:Value} {e:TypeId} {bb:Nat} (S:Sn cK W0 ((bb,.cells #[v0] e)::L) own W) (hb0:∀x,cK x->x<W0.heap.size) (ho:ops[i]?=some o) (hw:Region.wanted o (yielded ops a.tmps)=true) (hk:b.kind≠ .early) (hop:o.op= .store 72 x y) (hx:a.eval x= .pointer (some ⟨bb,0,none⟩)) (hy:a.eval y= .pointer p)
 (hn:∀W',Sn cK W0 ((bb,.cells #[.pointer p] e)::L) own W'->Gw Try.prog main Z0 Stop own (G (b.at (a.put o.dst undef) (.inRegion ops rest::kk)) cs) W'):
 Gw Try.prog main Z0 Stop own (G (b.at a (.inRegion ops (i::rest)::kk)) cs) W:=
 Uu ho hw hk hop hx hy (λh=>h) (S.mine (az ..)) (λh=>h) (S.cell (az ..)) (S.free (az ..)) λ_ hr=>hn _ ((S.rely hr).set hb0 _)
theorem UH {fn:Fn} {f1 f2:Array Value} {v0:Value} {e:TypeId} {bb:Nat} (S:Sn cK W0 ((bb,.cells #[v0] e)::L) own W) (hb0:∀x,cK x->x<W0.heap.size) (ho:ops[i]?=some o) (hw:Region.wanted o (yielded ops a.tmps)=true) (hk:b.kind≠ .early) (hop:o.op= .store 90 x y) (hx:a.eval x= .pointer (some ⟨bb,0,none⟩)) (hy:a.eval y= .func fn f1 f2)
 (hn:∀W',Sn cK W0 ((bb,.cells #[.func fn f1 f2] e)::L) own W'->Gw Try.prog main Z0 Stop own (G (b.at (a.put o.dst undef) (.inRegion ops rest::kk)) cs) W'):
 Gw Try.prog main Z0 Stop own (G (b.at a (.inRegion ops (i::rest)::kk)) cs) W:=
 Uv ho hw hk hop hx hy (λh=>h) (S.mine (az ..)) (λh=>h) (S.cell (az ..)) (S.free (az ..)) λ_ hr=>hn _ ((S.rely hr).set hb0 _)
theorem OG {f:FuncId} {fn:Func} {c0:Code} {args:Array Operand} {ats:Array TypeId} (S:Sn cK W0 L own W) (ho:ops[i]?=some o) (hw:Region.wanted o (yielded ops a.tmps)=true) (hk:b.kind≠ .early) (hop:o.op= .call { callee:=.value (.func f),args,argTypes:=ats })
 (hf:Try.prog.funcs[f]?=some fn) (hname:(fn.name== "runtime.NumGoroutine")=false) (hb:fn.body=some c0)
 (hn:∀W',Sn cK W0 L own W'->Gw Try.prog main Z0 Stop own (G (Frame.enter Try.prog f (args.map a.eval) .normal) (b.at a (.inRegion ops (i::rest)::kk)::cs)) W'):
 Gw Try.prog main Z0 Stop own (G (b.at a (.inRegion ops (i::rest)::kk)) cs) W:=
 qK ho hw hk hop hf hname hb λ_ hr=>hn _ (S.rely hr)
end
section
variable {As cK own:Nat->Prop} {W0 W:World} {b:dz} {v:iQ} {Stop:(Nat->Prop)->Goroutine->World->Prop} {eF:Frame} {K':List Frame}
noncomputable def RP:Code:=(bR 14 mQ).getD .skip
noncomputable def KY (eF:Frame) (K':List Frame) (bs bm bf cw Mu Wg cb sb j:Nat) (j0 j1 j6 j11 j12 j13 lU lV kz kC kD kE kF kG kH kJ kK kL kM kN kP kQ kR:Value):Goroutine:=
 G ((base 16).at ⟨#[j0,j1,.pointer (some ⟨bs,0,none⟩),.pointer (some ⟨bm,0,none⟩),.pointer (some ⟨bf,0,none⟩),.int .i64 0,j6,.pointer (some ⟨cw,0,none⟩),.pointer (some ⟨Mu,0,none⟩),.pointer (some ⟨Wg,0,none⟩),.pointer (some ⟨cb,0,none⟩),j11,j12,j13,lU,lV,kz,kC,kD,kE,kF,.slice (some ⟨sb,0,none⟩) 2 2,.int .i64 2,.int .i64 (j:Int),kG,kH,kJ,kK,kL,kM,kN,kP,kQ,kR],[]⟩ [.code LP,.inLoop LP,.inBlock 0,.code RP]) (eF::K')
def zS (eF:Frame) (K':List Frame) (bs bm bf cw Mu Wg cb sb j:Nat) (Q:Goroutine->Prop):Prop:=
 ∀j0 j1 j6 j11 j12 j13 lU lV kz kC kD kE kF kG kH kJ kK kL kM kN kP kQ kR,Q (KY eF K' bs bm bf cw Mu Wg cb sb j j0 j1 j6 j11 j12 j13 lU lV kz kC kD kE kF kG kH kJ kK kL kM kN kP kQ kR)
def l9 (b:dz) (v:iQ) (bx bs bm bf cw Mu Wg cb sb bw:Nat) (A:Option Addr) (cap:Nat) (e:TypeId) (fr:Nat×Nat) (sL:List (Nat×Obj)):List (Nat×Obj):=
 [(sb,.cells #[.bool false,.bool true] 4),(cb,.cells #[.func (.func 31) #[] #[.pointer (some ⟨bs,0,none⟩),.pointer (some ⟨bf,0,none⟩),.pointer (some ⟨bm,0,none⟩)]] 90),(Wg,.cells #[.int .u64 0,.int .u32 0] 87),(Mu,.cells #[.int .i32 0,.int .u32 0] 80),(cw,.cells #[.pointer (some ⟨bw,0,none⟩)] 72),
   (bw,.cells #[.slice A (dP b (-1)).length cap,.int .i64 (b.steps.length:Int),.int .i64 (dw b (-1):Int)] e fr)]++sL++ [(bf,.cells #[.bool false] 4),(bm,.cells #[.bool false] 4),(bs,.cells #[.slice none 0 0] 25),(bx,.cells #[.slice v.ah b.hands.length v.ch,.slice v.ap b.bP.length v.cp,.slice v.jU b.steps.length v.cs,.slice v.ac b.bT.length v.cc] 43)]
theorem as3 (hb:vK As cK W0 b v) (hlt:∀a,cK a->a<W0.heap.size) (jy:Try.prog.globals.size<W0.heap.size) (hs:b.small) (hc0:eX b=0)
 (hnext:∀bx bs bm bf cw Mu Wg cb sb bw A cap e fr sL own W,Sn cK W0 (l9 b v bx bs bm bf cw Mu Wg cb sb bw A cap e fr sL) own W->jX W W.heap.size bw (dP b (-1)) b.steps.length (dw b (-1)) A cap->(∀a,A=some a->∃cur e fr,(a.block,.cells cur e fr)∈sL∧∀x∈cur,dJ x=true)->
   ∀w,bZ Z0 own W w->zS eF K' bs bm bf cw Mu Wg cb sb 0 λg=>Gw Try.prog true Z0 Stop own g w):
 Gw Try.prog true Z0 Stop cK (G (Frame.enter Try.prog 16 #[dN b v] .normal) (eF::K')) W0:=by
 have S:Sn cK W0 [] cK W0:=Sn.start hlt;have HN:=Lib.hid hnext;clear hnext;have hg:=mH hs hc0;have HB:=Lib.hid (au hb (au hlt (au jy (au hs hc0))));clear hb hs hc0 jy;rw [enter_at _ Try.func16 KX];unfold dN
 walk_nrmf Try.f16
 simp only [mQ,Try.f16,Option.getD_some];have hF:bZ Z0 cK W0 W0:=bZ.refl _;refine bL (n:=60) ?_
 repeat w_nl dB
 refine Goes.stop λw₁ h₁=>?_
 replace S:=S.rely (dB hF h₁);clear hF h₁;refine Xa (v1:=.slice v.ah b.hands.length v.ch) (v2:=.slice v.ap b.bP.length v.cp) (v3:=.slice v.jU b.steps.length v.cs) (v4:=.slice v.ac b.bT.length v.cc) (o:=?_) (x:=?_) S ?_ ?_ ?_ ?_ ?_ ?_
 rotate_left 2
 iterate 2 rfl
 ·k_ne
 iterate 2 rfl
 clear S;intro bx nG W1 S;walk_nrm;refine Xb (o:=?_) S ?_ ?_ ?_ ?_ ?_
 rotate_left 1
 iterate 2 rfl
 ·k_ne
 iterate 1 rfl
 clear S;intro bs nG W1 S;walk_nrm;refine Ib (o:=?_) S ?_ ?_ ?_ ?_ ?_
 rotate_left 1
 iterate 2 rfl
 ·k_ne
 iterate 1 rfl
 clear S;intro bm nG W1 S;walk_nrm;refine Ib (o:=?_) S ?_ ?_ ?_ ?_ ?_
 rotate_left 1
 iterate 2 rfl
 ·k_ne
 iterate 1 rfl
 clear S;intro bf nG W1 S;walk_nrm;have hF:bZ Z0 nG W1 W1:=bZ.refl _;refine bL (n:=60) ?_
 repeat w_nl dB
 refine Goes.stop λw₁ h₁=>?_
 replace S:=S.rely (dB hF h₁);clear hF h₁;refine UF (v1:=.slice v.ah b.hands.length v.ch) (v2:=.slice v.ap b.bP.length v.cp) (v3:=.slice v.jU b.steps.length v.cs) (v4:=.slice v.ac b.bT.length v.cc) (o:=?_) (x:=?_) (bb:=bx) (e:=43) S ?_ ?_ ?_ ?_ ?_ (by simp) ?_
 rotate_left 2
 iterate 2 rfl
 ·k_ne
 iterate 2 rfl
 clear S;intro W1 S;walk_nrm;refine OG (o:=?_) (args:=?_) (ats:=?_) S ?_ ?_ ?_ ?_ Try.func26 UB UC ?_
 rotate_left 3
 iterate 2 rfl
 ·k_ne
 ·rfl
 clear S;intro W1 S;walk_nrm;refine aa2 (HB.out.1.kept HB.out.2.1 S.kept) S.lt (ak HB.out.2.2.1 S.kept.rely.size) HB.out.2.2.2.1 λzP W2 hk=>?_
 replace S:=S.call hk;clear hk nG W1;rw [HB.out.2.2.2.2,Frame.finish_at];revert zP W2;intro nG W1 S;have hF:bZ Z0 nG W1 W1:=bZ.refl _;refine bL (n:=60) ?_
 walk_nrm
 repeat w_nl dB
 refine Goes.stop λw₁ h₁=>?_
 replace S:=S.rely (dB hF h₁);clear hF h₁;refine UF (v1:=.slice v.ah b.hands.length v.ch) (v2:=.slice v.ap b.bP.length v.cp) (v3:=.slice v.jU b.steps.length v.cs) (v4:=.slice v.ac b.bT.length v.cc) (o:=?_) (x:=?_) (bb:=bx) (e:=43) S ?_ ?_ ?_ ?_ ?_ (by simp) ?_
 rotate_left 2
 iterate 2 rfl
 ·k_ne
 iterate 2 rfl
 clear S;intro W1 S;walk_nrm;refine OG (o:=?_) (args:=?_) (ats:=?_) S ?_ ?_ ?_ ?_ Try.func29 aa4 aa5 ?_
 rotate_left 3
 iterate 2 rfl
 ·k_ne
 ·rfl
 clear S;intro W1 S;walk_nrm;refine as2 (HB.out.1.kept HB.out.2.1 S.kept) S.lt (ak HB.out.2.2.1 S.kept.rely.size) hg (by omega) λzP W2 bw A cap hk uw as4 VQ=>?_
 have hsz:=S.kept.rely.size;have al5:=S.lt;have Yi:=S.has;replace S:=S.call hk;obtain ⟨e,fr,hwb⟩:=uw.blk
 obtain ⟨sL,Wr,S',hat,hsL⟩:∃sL Wr,Sn cK W0 ([(bw,.cells #[.slice A (dP b (-1)).length cap,.int .i64 (b.steps.length:Int),.int .i64 (dw b (-1):Int)] e fr)]++sL++ [(bf,.cells #[.bool false] 4),(bm,.cells #[.bool false] 4),(bs,.cells #[.slice none 0 0] 25),(bx,.cells #[.slice v.ah b.hands.length v.ch,.slice v.ap b.bP.length v.cp,.slice v.jU b.steps.length v.cs,.slice v.ac b.bT.length v.cc] 43)]) zP W2∧
  (jX Wr Wr.heap.size bw (dP b (-1)) b.steps.length (dw b (-1)) A cap∧Wr.heap[bw]?=some (.cells #[.slice A (dP b (-1)).length cap,.int .i64 (b.steps.length:Int),.int .i64 (dw b (-1):Int)] e fr))∧(∀a,A=some a->∃cur e fr,(a.block,.cells cur e fr)∈sL∧Wr.heap[a.block]?=some (.cells cur e fr)∧∀x∈cur,dJ x=true):=by
  have hne1:∀p∈ [(bf,Obj.cells #[.bool false] 4),(bm,.cells #[.bool false] 4),(bs,.cells #[.slice none 0 0] 25),(bx,.cells #[.slice v.ah b.hands.length v.ch,.slice v.ap b.bP.length v.cp,.slice v.jU b.steps.length v.cs,.slice v.ac b.bT.length v.cc] 43)],p.1<W1.heap.size:= λp hp=>al5 _ (Yi p hp).1
  cases hA:A with
  |none=>
   subst hA;refine ⟨[],W2,S.add uw.ow (by omega) hwb λp hp e=>?_,⟨uw.at_,hwb⟩, λa h=>by cases h⟩;have :=hne1 p hp;omega
  |some a=>
   subst hA;obtain ⟨k1,cur,e',fr',k2,k3⟩:=uw.str a rfl;have k4:=VQ a rfl;refine ⟨[(a.block,.cells cur e' fr')],W2,Sn.add (L:=(a.block,.cells cur e' fr')::_) (S.add k1 (by omega) k2 λp hp e=>?_) uw.ow (by omega) hwb λp hp e=>?_,⟨uw.at_,hwb⟩, λa' h=>?_⟩
   ·have :=hne1 p hp;omega
   ·rcases aT.1 hp with rfl|hp
    ·have e:a.block=bw:=e;rw [e,hwb] at k2;cases k2;have :=k3 (.slice (some a) (dP b (-1)).length cap) (by simp);simp [dJ] at this
    ·have :=hne1 p hp;omega
   ·cases h;exact ⟨cur,e',fr',by simp,k2,k3⟩
 clear S;have S:=S';clear S';clear hk nG W1 uw hwb as4 VQ hsz al5 Yi;rw [Frame.finish_at];have HW:=Lib.hid (au hat hsL);clear hat hsL;simp only [List.cons_append,List.nil_append] at S;revert zP W2;intro nG W1 S;have hF:bZ Z0 nG W1 W1:=bZ.refl _;refine bL (n:=60) ?_
 walk_nrm
 repeat w_nl dB
 refine Goes.stop λw₁ h₁=>?_
 replace S:=S.rely (dB hF h₁);clear hF h₁;refine UD (o:=?_) S ?_ ?_ ?_ ?_ ?_
 rotate_left 1
 iterate 2 rfl
 ·k_ne
 iterate 1 rfl
 clear S;intro cw nG W1 S;walk_nrm;refine UG (p:=some ⟨bw,0,none⟩) (o:=?_) (x:=?_) (y:=?_) S hlt ?_ ?_ ?_ ?_ ?_ ?_ ?_
 rotate_left 3
 iterate 2 rfl
 ·k_ne
 iterate 3 rfl
 clear S;intro W1 S;walk_nrm;have hF:bZ Z0 nG W1 W1:=bZ.refl _;refine bL (n:=60) ?_
 repeat w_nl dB
 refine Goes.stop λw₁ h₁=>?_
 replace S:=S.rely (dB hF h₁);clear hF h₁;refine Xc (o:=?_) S ?_ ?_ ?_ ?_ ?_
 rotate_left 1
 iterate 2 rfl
 ·k_ne
 iterate 1 rfl
 clear S;intro Mu nG W1 S;walk_nrm;have hF:bZ Z0 nG W1 W1:=bZ.refl _;refine bL (n:=60) ?_
 repeat w_nl dB
 refine Goes.stop λw₁ h₁=>?_
 replace S:=S.rely (dB hF h₁);clear hF h₁;refine Xd (o:=?_) S ?_ ?_ ?_ ?_ ?_
 rotate_left 1
 iterate 2 rfl
 ·k_ne
 iterate 1 rfl
 clear S;intro Wg nG W1 S;walk_nrm;have hF:bZ Z0 nG W1 W1:=bZ.refl _;refine bL (n:=60) ?_
 repeat w_nl dB
 refine Goes.stop λw₁ h₁=>?_
 replace S:=S.rely (dB hF h₁);clear hF h₁;refine UE (o:=?_) S ?_ ?_ ?_ ?_ ?_
 rotate_left 1
 iterate 2 rfl
 ·k_ne
 iterate 1 rfl
 clear S;intro cb nG W1 S;walk_nrm;refine UH (fn:=.func 31) (f1:= #[]) (f2:= #[.pointer (some ⟨bs,0,none⟩),.pointer (some ⟨bf,0,none⟩),.pointer (some ⟨bm,0,none⟩)]) (o:=?_) (x:=?_) (y:=?_) S hlt ?_ ?_ ?_ ?_ ?_ ?_ ?_
 rotate_left 3
 iterate 2 rfl
 ·k_ne
 iterate 3 rfl
 clear S;intro W1 S;walk_nrm;have hF:bZ Z0 nG W1 W1:=bZ.refl _;refine bL (n:=60) ?_
 repeat w_nl dB
 refine Goes.stop λw₁ h₁=>?_
 replace S:=S.rely (dB hF h₁);clear hF h₁;refine aa6 (o:=?_) S ?_ ?_ ?_ ?_ ?_
 rotate_left 1
 iterate 2 rfl
 ·k_ne
 iterate 1 rfl
 clear S;intro sb nG W1 S;walk_nrm;have hF:bZ Z0 nG W1 W1:=bZ.refl _;refine bL (n:=60) ?_
 repeat w_but "code.loop" dB
 u_c stepG_loop dB hF
 have hS:=S;have m1:=S.has (bw,.cells #[.slice A (dP b (-1)).length cap,.int .i64 (b.steps.length:Int),.int .i64 (dw b (-1):Int)] e fr) (by simp);obtain ⟨⟨hat,hbw⟩,hsL⟩:=HW.out;have hce:∀c,W1.heap[c]?=Wr.heap[c]?->∀o,W1.cell? ⟨c,o,none⟩=Wr.cell? ⟨c,o,none⟩:= λc h o=>dW h o
 have hW:jX W1 W1.heap.size bw (dP b (-1)) b.steps.length (dw b (-1)) A cap:=
  ⟨S.lt _ m1.1,(hce _ (m1.2.2.trans hbw.symm) _).trans hat.c0,(hce _ (m1.2.2.trans hbw.symm) _).trans hat.c1,(hce _ (m1.2.2.trans hbw.symm) _).trans hat.c2, λhn=>by
    obtain ⟨bb,off,e',h1,h2⟩:=hat.rd hn;obtain ⟨cur,e2,S9,k1,k2,_⟩:=hsL _ e';have m2:=S.has (bb,.cells cur e2 S9) (by simp [k1]);exact ⟨bb,off,e',S.lt _ m2.1, λi j hi hj=>(hce _ (m2.2.2.trans k2.symm) _).trans (h2 i j hi hj)⟩,hat.ok,hat.len⟩
 have hnx:=HN.out bx bs bm bf cw Mu Wg cb sb bw A cap e fr sL nG W1 (by unfold l9;simpa using S) hW λa ha=>by
  obtain ⟨cur,e2,S9,k1,k2,k3⟩:=hsL a ha;exact ⟨cur,e2,S9,k1,k3⟩
 clear HN hat hbw hsL hce hW m1 hS S HW;unfold zS KY at hnx;simp only [LP,RP,mQ,bO,bR,cB,Try.f16,Option.getD_some,Nat.reduceEqDiff,if_true,if_false,reduceIte] at hnx;exact Goes.stop λw₃ h₃=>hnx w₃ (dB hF h₃) _ _ _ _ _ _ _ _ _ _ _ _ _ _ _ _ _ _ _ _ _ _ _
end
end Go.Proofs.Try
end
section
namespace Go.Proofs.Try
open Go Go.Conc Go.ConcN Go.ConcM Go.RowKit Go.Conc.Lib Go.ConcR.Gen Par
attribute [local instance] noSh ig
theorem nm_add:((addFn Try.link).name== "runtime.NumGoroutine")=false:=by kernel_rfl
theorem nm_wait:((waitFn Try.link).name== "runtime.NumGoroutine")=false:=by kernel_rfl
theorem UI:(addFn Try.link).body=some (body_add Try.link):=by unfold body_add addFn;rfl
theorem OH:(waitFn Try.link).body=some (body_wait Try.link):=by unfold body_wait waitFn;rfl
theorem QN (x y:Value):Frame.enter Try.prog 35 #[x,y] .normal=(base Try.link.add).at ⟨#[x,y]++(List.replicate 115 undef).toArray,[]⟩ [.code (body_add Try.link)]:=by
 have h:=enter_at (P:=Try.prog) (f:=35) #[x,y] Try.iB.f_add UI;rw [h];have e:Array.replicate ((addFn Try.link).ntmps - (#[x,y]:Array Value).size) undef=(List.replicate 115 undef).toArray:=by rw [List.toArray_replicate];rfl
 rw [e]
theorem Nh (x:Value):Frame.enter Try.prog 42 #[x] .normal=(base Try.link.wait).at ⟨#[x]++(List.replicate 83 undef).toArray,[]⟩ [.code (body_wait Try.link)]:=by
 have h:=enter_at (P:=Try.prog) (f:=42) #[x] Try.iB.f_wait OH;rw [h];have e:Array.replicate ((waitFn Try.link).ntmps - (#[x]:Array Value).size) undef=(List.replicate 83 undef).toArray:=by rw [List.toArray_replicate];rfl
 rw [e]
structure Bs (iV:Nat->Prop) (zU:World) (own:Nat->Prop) (W:World):Prop where
 tape:W.tape=zU.tape
 out:W.output=zU.output
 os:OsLater zU.os W.os
 size:zU.heap.size<=W.heap.size
 kept:∀b,iV b->W.heap[b]?=zU.heap[b]?
 sub:∀b,iV b->own b
theorem Bs.rely {iV own:Nat->Prop} {zU W W1:World} {Z:eG} (h:Bs iV zU own W) (hr:bZ Z own W W1):Bs iV zU own W1:=
 ⟨hr.tape.trans h.tape,hr.out.trans h.out,h.os.trans hr.os,aC h.size hr.size, λb hb=>(hr.own b (h.sub b hb)).trans (h.kept b hb),h.sub⟩
structure HP (iV:Nat->Prop) (zU:World) (Mu Wg cw cb bs bm bf bw sb:Nat) (ss:List dL) (n:Nat) (own ro:Nat->Prop) (W:World):Prop where
 WH:ro cw
 ZY:ro cb
 Yf:ro bw
 Ul:W.cell? ⟨cw,0,none⟩=some (.pointer (some ⟨bw,0,none⟩))
 WJ:W.cell? ⟨cb,0,none⟩=some (.func (.func 31) #[] #[.pointer (some ⟨bs,0,none⟩),.pointer (some ⟨bf,0,none⟩),.pointer (some ⟨bm,0,none⟩)])
 Yg:∃A cap e fr,W.heap[bw]?=some (.cells #[.slice A ss.length cap,.int .i64 (n:Int),.int .i64 ((n+1:Nat):Int)] e fr)∧jX W W.heap.size bw ss n (n+1) A cap∧
  ∀a,A=some a->ro a.block∧∃cur e fr,W.heap[a.block]?=some (.cells cur e fr)∧∀x∈cur,dJ x=true
 osb:own sb
 vsb:∀j,j<2->W.cell? ⟨sb,j,none⟩=some (.bool (decide (j=1)))
 env:Env Mu Wg own ro W
 mu:zH 80 Mu W
 base:Bs iV zU own W
section
variable {iV:Nat->Prop} {zU:World} {Mu Wg cw cb bs bm bf bw sb:Nat} {ss:List dL} {n:Nat} {own ro:Nat->Prop} {W W1:World} {Z:eG}
theorem HP.rely (h:HP iV zU Mu Wg cw cb bs bm bf bw sb ss n own ro W) (hz:Z.ro=ro) (hs:Z.sy= λb=>b=Mu∨b=Wg) (hr:bZ Z own W W1):HP iV zU Mu Wg cw cb bs bm bf bw sb ss n own ro W1:=by
 have hro:∀b,ro b->W1.heap[b]?=W.heap[b]?:= λb hb=>hr.ro b (by rw [hz];exact hb)
 obtain ⟨a1,a2,a3,a5,a6,⟨A,cap,e,fr,a8,a9,Um⟩,a7,b1,b2,b3,b4⟩:=h;refine ⟨a1,a2,a3,(dW (hro _ a1) _).trans a5,(dW (hro _ a2) _).trans a6,⟨A,cap,e,fr,(hro _ a3).trans a8,vJ a9 (hro _ a3) (λa e _=>hro _ (Um a e).1) hr.size, λa ha=>?_⟩,a7, λj hj=>(dW (hr.own _ a7) _).trans (b1 j hj),b2.rel (by rw [hs];exact .inr rfl) hr,zI b3 (hr.sy _ (by rw [hs];exact .inl rfl)),b4.rely hr⟩;obtain ⟨h1,cur,e',fr',h2,h3⟩:=Um a ha;exact ⟨h1,cur,e',fr',(hro _ h1).trans h2,h3⟩
theorem HP.grow {own':Nat->Prop} (h:HP iV zU Mu Wg cw cb bs bm bf bw sb ss n own ro W) (hsz:W.heap.size<=W1.heap.size) (ho:∀b,own b->own' b) (hn:∀b,own' b->own b∨(W.heap.size<=b∧b<W1.heap.size)) (ht:W1.tape=W.tape∧W1.output=W.output∧W1.os=W.os) {x:Nat} (hx:x≠sb∧¬ro x∧x≠Mu∧x≠Wg∧¬iV x) (hk:∀b,b<W.heap.size->b≠x->W1.heap[b]?=W.heap[b]?):HP iV zU Mu Wg cw cb bs bm bf bw sb ss n own' ro W1:=by
 obtain ⟨a1,a2,a3,a5,a6,⟨A,cap,e,fr,a8,a9,Um⟩,a7,b1,b2,b3,b4⟩:=h;have hro:∀b,ro b->W1.heap[b]?=W.heap[b]?:= λb hb=>hk b (b2.ro b hb) λe=>hx.2.1 (e ▸ hb)
 refine ⟨a1,a2,a3,(dW (hro _ a1) _).trans a5,(dW (hro _ a2) _).trans a6,⟨A,cap,e,fr,(hro _ a3).trans a8,vJ a9 (hro _ a3) (λa e _=>hro _ (Um a e).1) hsz, λa ha=>?_⟩,ho _ a7, λj hj=>(dW (hk _ (b2.own _ a7).1 λe=>hx.1 e.symm) _).trans (b1 j hj),
  ⟨b2.rs, λb hb=>?_, λb hb=>ak (b2.ro b hb) hsz,ak b2.mu hsz,ak b2.wg hsz,ak b2.jy hsz,?_⟩,?_,⟨ht.1.trans b4.tape,ht.2.1.trans b4.out,by rw [ht.2.2];exact b4.os,aC b4.size hsz, λb hb=>(hk b (b2.own b (b4.sub b hb)).1 λe=>hx.2.2.2.2 (e ▸ hb)).trans (b4.kept b hb), λb hb=>ho b (b4.sub b hb)⟩⟩
 ·obtain ⟨h1,cur,e',fr',h2,h3⟩:=Um a ha;exact ⟨h1,cur,e',fr',(hro _ h1).trans h2,h3⟩
 ·rcases hn b hb with h|⟨h1,h2⟩
  ·exact ⟨ak (b2.own b h).1 hsz,(b2.own b h).2⟩
  ·exact ⟨h2, λe=>by have :=b2.mu;omega, λe=>by have :=b2.wg;omega, λe=>by have :=b2.ro b e;omega⟩
 ·obtain ⟨p,q,h⟩:=b2.wl;exact ⟨p,q,(hk _ b2.wg λe=>hx.2.2.2.1 e.symm).trans h⟩
 ·obtain ⟨p,q,h⟩:=b3;exact ⟨p,q,(hk _ b2.mu λe=>hx.2.2.1 e.symm).trans h⟩
theorem HP.less {own':Nat->Prop} (h:HP iV zU Mu Wg cw cb bs bm bf bw sb ss n own ro W) (ho:∀b,own' b->own b) (hs:own' sb) (h0:∀b,iV b->own' b):HP iV zU Mu Wg cw cb bs bm bf bw sb ss n own' ro W:=
 ⟨h.WH,h.ZY,h.Yf,h.Ul,h.WJ,h.Yg,hs,h.vsb,⟨h.env.rs, λb hb=>h.env.own b (ho b hb),h.env.ro,h.env.mu,h.env.wg,h.env.jy,h.env.wl⟩,h.mu,⟨h.base.tape,h.base.out,h.base.os,h.base.size,h.base.kept,h0⟩⟩
theorem HP.wk {cm:Nat} {m:Bool} {qE:Nat->Prop} (h:HP iV zU Mu Wg cw cb bs bm bf bw sb ss n own ro W) (hc:qE cm) (hv:W.cell? ⟨cm,0,none⟩=some (.bool m)):WK cw cm cb bs bm bf bw ss n m qE ro W:=
 ⟨h.WH,h.ZY,h.Yf,hc,h.Ul,h.WJ,hv,h.Yg⟩
end
section
variable {Mu Wg cw cb bs bm bf bw sb:Nat} {N:Nat->Nat} {J:Nat->Nat->(Nat->Prop)->World->Prop} {ro:Nat->Prop} {Anch:(Nat->Prop)->Goroutine->World->Prop}
variable {iV:Nat->Prop} {zU:World} {own:Nat->Prop} {W:World} {j n:Nat} {ss:List dL} {eF:Frame} {K':List Frame}
theorem tC:((cfg Mu Wg 87 N J ro Anch).Zs j).sy= λb=>b=Mu∨b=Wg:=by
 funext b;apply propext;exact ⟨λh=>h.elim id λh=>False.elim h,.inl⟩
theorem lI {own:Nat->Prop} {w0 w w1:World} {Z:eG} (h:bZ Z own w0 w) (hr:bZ Z own w w1):bZ Z own w0 w1:=h.trans hr
section
variable {b:Frame} {a:Act} {kk:List Item} {cs:List Frame} {w:World} {ops:Array Oper} {i:Nat} {rest:List Nat} {o:Oper} {x:Operand} {cm:Nat} {own' qE:Nat->Prop}
theorem goW (ho:ops[i]?=some o) (hw:Region.wanted o (yielded ops a.tmps)=true) (hk:b.kind≠ .early) (hop:o.op= .go { callee:=.value x,args:= #[],argTypes:= #[] })
 (hx:a.eval x= .func (.func 36) #[] #[.pointer (some ⟨Wg,0,none⟩),.pointer (some ⟨cw,0,none⟩),.pointer (some ⟨cm,0,none⟩),.pointer (some ⟨Mu,0,none⟩),.pointer (some ⟨cb,0,none⟩),.pointer (some ⟨bs,0,none⟩),.pointer (some ⟨bm,0,none⟩),.pointer (some ⟨bf,0,none⟩)]):
 stepG Try.prog true (G (b.at a (.inRegion ops (i::rest)::kk)) cs) w= .spawn (G (b.at (a.put o.dst undef) (.inRegion ops rest::kk)) cs) (born Try.prog (Fy Wg cw cm Mu cb bs bm bf)) w #[]:=by
 have hl:listed Try.prog b.fn a o w= #[]:=by
  have :(execOp a.eval o).events Try.prog w #[]= #[]:=by
   unfold execOp;simp [hop,hx,resolve,Deferred.ofValue]
  unfold listed;rw [this];exact seen_none Try.prog _
 have :=stepG_spawn (P:=Try.prog) (main:=true) (w:=w) (w':=w) (cs:=cs) (k:=kk) (rest:=rest) (d:=Fy Wg cw cm Mu cb bs bm bf) ho hw hk (by
  unfold execOp Fy;simp [hop,hx,resolve,Deferred.ofValue]) rfl
 rw [this,hl]
theorem al6 (ho:ops[i]?=some o) (hw:Region.wanted o (yielded ops a.tmps)=true) (hk:b.kind≠ .early) (hop:o.op= .go { callee:=.value x,args:= #[],argTypes:= #[] })
 (hx:a.eval x= .func (.func 36) #[] #[.pointer (some ⟨Wg,0,none⟩),.pointer (some ⟨cw,0,none⟩),.pointer (some ⟨cm,0,none⟩),.pointer (some ⟨Mu,0,none⟩),.pointer (some ⟨cb,0,none⟩),.pointer (some ⟨bs,0,none⟩),.pointer (some ⟨bm,0,none⟩),.pointer (some ⟨bf,0,none⟩)])
 (h2:∀b,own b↔own' b∨qE b) (h3:∀b,own' b->¬qE b)
 (h4:Gw Try.prog true ((cfg Mu Wg 87 N J ro Anch).Zs (j+1)) (At Try.prog (cfg Mu Wg 87 N J ro Anch).sys 0 (.st (eO (cfg Mu Wg 87 N J ro Anch) (j+1)) (j+1))) own' (G (b.at (a.put o.dst undef) (.inRegion ops rest::kk)) cs) w)
 (h5:∀k,k≠0->Gw Try.prog false ((cfg Mu Wg 87 N J ro Anch).Zw j) (At Try.prog (cfg Mu Wg 87 N J ro Anch).sys k (tZ N j 0 0)) qE (born Try.prog (Fy Wg cw cm Mu cb bs bm bf)) w):
 rC Try.prog (cfg Mu Wg 87 N J ro Anch).sys (At Try.prog (cfg Mu Wg 87 N J ro Anch).sys) 0 (.st .EW j) own (G (b.at a (.inRegion ops (i::rest)::kk)) cs) w:=
 ZQ rfl rfl (goW ho hw hk hop hx) h2 h3 h4 h5
end
theorem UJ (hne:Mu≠Wg) (xR:bs≠bm∧bs≠bf∧bm≠bf) (hJ:J=JW Mu Wg bs bm bf ro ss n) (hj:j<2) (hN:∀k,k<2->N k=(iP ss n (decide (k=1))).length) (hn:n<=15)
 (hnext:∀own W,HP iV zU Mu Wg cw cb bs bm bf bw sb ss n own ro W->zS eF K' bs bm bf cw Mu Wg cb sb (j+1) λg=>Gw Try.prog true ((cfg Mu Wg 87 N J ro Anch).Zs (j+1)) (At Try.prog (cfg Mu Wg 87 N J ro Anch).sys 0 (.st (eO (cfg Mu Wg 87 N J ro Anch) (j+1)) (j+1))) own g W)
 (hp:HP iV zU Mu Wg cw cb bs bm bf bw sb ss n own ro W):
 zS eF K' bs bm bf cw Mu Wg cb sb j λg=>Gw Try.prog true ((cfg Mu Wg 87 N J ro Anch).Zs j) (At Try.prog (cfg Mu Wg 87 N J ro Anch).sys 0 (.st (eO (cfg Mu Wg 87 N J ro Anch) j) j)) own g W:=by
 intro j0 j1 j6 j11 j12 j13 lU lV kz kC kD kE kF kG kH kJ kK kL kM kN kP kQ kR;have hnp:eO (cfg Mu Wg 87 N J ro Anch) j= .P9:=if_pos hj;rw [hnp];have hnm:¬((cfg Mu Wg 87 N J ro Anch).Zs j).mute:= λh=>h
 have HN:=Lib.hid hnext;clear hnext;unfold KY;have hj2:(j:Int)<2:=by omega
 have d0:decide ((j:Int)<2)=true:=decide_eq_true (by omega);simp only [LP,RP,mQ,bO,bR,cB,Try.f16,Option.getD_some,Nat.reduceEqDiff,if_true,if_false,reduceIte];have hF:bZ ((cfg Mu Wg 87 N J ro Anch).Zs j) own W W:=bZ.refl _;refine bL (n:=60) ?_
 repeat w_nl lI
 refine Goes.stop λw₁ h₁=>?_
 replace hp:=hp.rely rfl tC (lI hF h₁);clear hF h₁;refine qG (o:=?_) (x:=?_) (ad:=⟨sb,j,none⟩) ?_ ?_ ?_ ?_ ?_ hnm (.inl hp.osb) (hp.vsb j hj) ?_
 rotate_left 2
 iterate 2 rfl
 ·k_ne
 iterate 2 rfl
 intro w₂ h₂;replace hp:=hp.rely rfl tC h₂;clear h₂;walk_nrm;refine Hz (o:=?_) ?_ ?_ ?_ ?_ hnm (λb hb=>by rw [tC] at hb;rcases hb with rfl|rfl;exact hp.env.mu;exact hp.env.wg) ?_
 rotate_left 1
 iterate 2 rfl
 ·k_ne
 ·rfl
 intro w₃ h₃;replace hp:=hp.rely rfl tC h₃;clear h₃;have hold:∀c,c<w₃.heap.size->(w₃.heap.push (.cells #[.bool false] 4))[c]?=w₃.heap[c]?:= λc hc=>by rw [Array.getElem?_push_lt hc,aH hc]
 have hcm0:C1 ({ w₃ with heap:=w₃.heap.push (.cells #[.bool false] 4) }:World) w₃.heap.size (.bool false):=⟨4,by simp⟩;obtain ⟨yG,Ic⟩:∃yG:Nat->Prop,yG=own:=⟨_,rfl⟩;have hlt:∀b,yG b->b<w₃.heap.size:= λb hb=>(hp.env.own b (Ic ▸ hb)).1
 have hx:w₃.heap.size≠sb∧¬ro w₃.heap.size∧w₃.heap.size≠Mu∧w₃.heap.size≠Wg∧¬iV w₃.heap.size:=
  ⟨λe=>by have :=(hp.env.own _ hp.osb).1;omega, λe=>by have :=hp.env.ro _ e;omega, λe=>by have :=hp.env.mu;omega, λe=>by have :=hp.env.wg;omega, λe=>by have :=(hp.env.own _ (hp.base.sub _ e)).1;omega⟩
 have h00:∀b,iV b->yG b:= λb hb=>by rw [Ic];exact hp.base.sub b hb
 replace hp:=hp.grow (W1:={ w₃ with heap:=w₃.heap.push (.cells #[.bool false] 4) }) (own':= λc=>own c∨c=w₃.heap.size) (x:=w₃.heap.size) (by simp) (λb hb=>.inl hb) (λb hb=>hb.imp id λe=>⟨by omega,by simp;omega⟩) ⟨rfl,rfl,rfl⟩ hx (λb hb _=>hold b hb);have al7:∀b,yG b->b≠w₃.heap.size:= λb hb e=>by have :=hlt b hb;omega
 have hown2:(λc=>own c∨c=w₃.heap.size)= λc=>yG c∨c=w₃.heap.size:=by rw [Ic]
 rw [hown2] at hp ⊢;have as5:yG sb:=by rw [Ic];(have :=hp.osb;rw [Ic] at this;exact this.resolve_right λe=>hx.1 e.symm)
 clear hold hlt hown2;clear Ic;generalize w₃.heap.size=cm at hp hx al7 hcm0 ⊢;generalize ({ w₃ with heap:=w₃.heap.push (.cells #[.bool false] 4) }:World)=w₄ at hp hcm0 ⊢;clear w₃ w₂ w₁;walk_nrm;have Ni:yG cm∨cm=cm:=.inr rfl;refine vH (n:=decide (j=1)) (o:=?_) (x:=?_) (y:=?_) (ad:=⟨cm,0,none⟩) ?_ ?_ ?_ ?_ ?_ ?_ hnm Ni (λh=>by rw [tC] at h;rcases h with h|h;exact hx.2.2.1 h;exact hx.2.2.2.1 h) hcm0.cell hcm0.free ?_
 rotate_left 3
 iterate 2 rfl
 ·k_ne
 iterate 3 rfl
 intro w₅ h₅;replace hp:=hp.rely rfl tC h₅;replace hcm0:=(hcm0.same (h₅.own _ Ni)).set (.bool (decide (j=1)));have ha:=Go.Conc.aside_setCell w₅ ⟨cm,0,none⟩ (.bool (decide (j=1)));replace hp:=hp.grow (W1:=w₅.setCell ⟨cm,0,none⟩ (.bool (decide (j=1)))) (own':= λc=>yG c∨c=cm) (x:=cm) (Nat.le_of_eq ha.size.symm) (λb hb=>hb) (λb hb=>.inl hb) ⟨ha.tape,ha.output,ha.os⟩ hx (λb _ hb=>ha.block b λe=>hb (by rw [e]));clear ha h₅;generalize (w₅.setCell ⟨cm,0,none⟩ (.bool (decide (j=1))))=w₆ at hp hcm0 ⊢;clear w₅ w₄;walk_nrm;have hF:bZ ((cfg Mu Wg 87 N J ro Anch).Zs j) (λc=>yG c∨c=cm) w₆ w₆:=bZ.refl _;refine bL (n:=60) ?_
 repeat w_nl lI
 refine Goes.stop λw₁ h₁=>?_
 replace hp:=hp.rely rfl tC (lI hF h₁);replace hcm0:=hcm0.same ((lI hF h₁).own _ Ni);clear hF h₁;refine qK (o:=?_) (args:=?_) (ats:=?_) ?_ ?_ ?_ ?_ Try.iB.f_add nm_add UI ?_
 rotate_left 3
 iterate 2 rfl
 ·k_ne
 ·rfl
 intro w₂ h₂;replace hp:=hp.rely rfl tC h₂;replace hcm0:=hcm0.same (h₂.own _ Ni);clear h₂;walk_nrm;rw [QN]
 have QL:Beside (cfg Mu Wg 87 N J ro Anch) ((cfg Mu Wg 87 N J ro Anch).Zs j) (λc=>yG c∨c=cm):=
  ⟨λb hb h=>h.elim (hp.env.own b hb).2.1 (hp.env.own b hb).2.2.1, λb hb h=>h.elim (hp.env.rs b hb).1 (hp.env.rs b hb).2, λb i h=>by obtain ⟨_,_,_,h⟩:=h;exact False.elim h⟩
 refine bL (n:=100) ?_
 refine aq1 (P:=Try.prog) (L:=Try.link) (C:=cfg Mu Wg 87 N J ro Anch) (W0:=w₂) Try.iB rfl (I7 hne) QL (λw hw=>?_) w₂ ⟨bZ.refl _,hp.env.wl⟩;replace hp:=hp.rely rfl tC hw.1;replace hcm0:=hcm0.same (hw.1.own _ Ni);clear hw;have hF:bZ ((cfg Mu Wg 87 N J ro Anch).Zs j) (λc=>yG c∨c=cm) w w:=bZ.refl _;refine bL (n:=60) ?_
 walk_nrm
 repeat w_nl lI
 refine Goes.stop λw₁ h₁=>?_
 replace hp:=hp.rely rfl tC (lI hF h₁);replace hcm0:=hcm0.same ((lI hF h₁).own _ Ni);clear hF h₁ w w₂ w₆;refine Gw.stop λw₂ h₂=>At.of_law ?_
 replace hp:=hp.rely rfl tC h₂;replace hcm0:=hcm0.same (h₂.own _ Ni);clear h₂ w₁;refine al6 (cw:=cw) (cb:=cb) (bs:=bs) (bm:=bm) (bf:=bf) (cm:=cm) (own':=yG) (qE:= λc=>c=cm) (o:=?_) (x:=?_) ?_ ?_ ?_ ?_ ?_ (λb=>Iff.rfl) al7 ?_ (λk hk=>?_)
 rotate_left 2
 iterate 2 rfl
 ·k_ne
 iterate 2 rfl
 ·replace hp:=hp.less (own':=yG) (λb hb=>.inl hb) as5 h00;have hnx:= λw h=>HN.out yG w (hp.rely (Z:=(cfg Mu Wg 87 N J ro Anch).Zs (j+1)) rfl tC h)
  clear HN hcm0 hnm;have hwr:IntKind.i64.wrap ((j:Int)+1)=((j+1:Nat):Int):=by rw [IntKind.wrap_i64];omega
  have hF:bZ ((cfg Mu Wg 87 N J ro Anch).Zs (j+1)) yG w₂ w₂:=bZ.refl _;unfold zS KY at hnx;simp only [LP,RP,mQ,bO,bR,cB,Try.f16,Option.getD_some,Nat.reduceEqDiff,if_true,if_false,reduceIte] at hnx;refine bL (n:=60) ?_
  walk_nrm
  repeat w_nl lI
  u_c stepG_inLoop lI hF
  exact Goes.stop λw₃ h₃=>hnx w₃ (lI hF h₃) _ _ _ _ _ _ _ _ _ _ _ _ _ _ _ _ _ _ _ _ _ _ _
 ·refine WV hne hk xR hJ hj hN hn (hp.wk rfl hcm0.cell) ⟨hp.env.rs, λb hb=>hp.env.own b (.inr hb),hp.env.ro,hp.env.mu,hp.env.wg,hp.env.jy,hp.env.wl⟩ hp.mu
end
end Go.Proofs.Try
end
section
namespace Go.Proofs.Try
open Go Go.Conc Go.ConcN Go.ConcM Go.RowKit Go.Conc.Lib Go.ConcR.Gen Par
attribute [local instance] noSh ig
noncomputable def kr:Array Oper:=((bW 15 mQ).getD (#[],.skip)).1
theorem aa7:RP2= .seq (.region 15 kr true) .ret:=by
 simp only [RP2,kr,mQ,bR,bW,cB,Try.f16,Option.getD_some,Nat.reduceEqDiff,if_true,if_false,reduceIte]
theorem FB:kr.size=7:=by kernel_rfl
theorem aa8:∃o,kr[0]?=some o∧o.op= .load 25 (.tmp 2)∧o.dst=some 31∧o.guard=none:=⟨_,by unfold kr mQ Try.f16;rfl,rfl,rfl,rfl⟩
theorem aa9:∃o,kr[1]?=some o∧o.op= .load 4 (.tmp 3)∧o.dst=some 32∧o.guard=none:=⟨_,by unfold kr mQ Try.f16;rfl,rfl,rfl,rfl⟩
theorem ab0:∃o,kr[2]?=some o∧o.op= .load 4 (.tmp 4)∧o.dst=some 33∧o.guard=none:=⟨_,by unfold kr mQ Try.f16;rfl,rfl,rfl,rfl⟩
theorem ab1:∃o,kr[3]?=some o∧o.op= .store 25 (.tmp 2) (.tmp 31)∧o.dst=none∧o.guard=none∧(o.after.any λe=>e.on==0&&Region.binds .any e)=true:=
 ⟨_,by unfold kr mQ Try.f16;rfl,rfl,rfl,rfl,by kernel_rfl⟩
theorem ab2:∃o,kr[4]?=some o∧o.op= .store 4 (.tmp 3) (.tmp 32)∧o.dst=none∧o.guard=none∧(o.after.any λe=>e.on==1&&Region.binds .any e)=true:=
 ⟨_,by unfold kr mQ Try.f16;rfl,rfl,rfl,rfl,by kernel_rfl⟩
theorem ab3:∃o,kr[5]?=some o∧o.op= .store 4 (.tmp 4) (.tmp 33)∧o.dst=none∧o.guard=none∧(o.after.any λe=>e.on==2&&Region.binds .any e)=true:=
 ⟨_,by unfold kr mQ Try.f16;rfl,rfl,rfl,rfl,by kernel_rfl⟩
theorem ab4:∃o,kr[6]?=some o∧o.op= .assign (.const (.int .i64 0))∧o.dst=some 5∧o.guard=none:=⟨_,by unfold kr mQ Try.f16;rfl,rfl,rfl,rfl⟩
theorem Jc {o:Oper} {k:Nat} (h:(o.after.any λe=>e.on==k&&Region.binds .any e)=true) {l:Array Bool} (ha:(o.after.all λe=>!Region.binds .any e||l.getD e.on false)=true):l.getD k false=true:=by
 rw [Array.any_eq_true] at h;obtain ⟨i,hi,h1⟩:=h;rw [Array.all_eq_true] at ha;have h2:=ha i hi;simp only [aR,beq_iff_eq] at h1;rw [h1.2,h1.1] at h2;simpa using h2
structure TQ (bs bm bf:Nat) (A:Option Addr) (cap:Nat) (st:List Int) (much found:Bool) (T:Array Value) (l:Array Bool):Prop where
 t2:T[2]?=some (.pointer (some ⟨bs,0,none⟩))
 t3:T[3]?=some (.pointer (some ⟨bm,0,none⟩))
 t4:T[4]?=some (.pointer (some ⟨bf,0,none⟩))
 t5:T[5]?=some (.int .i64 0)
 sz:T.size=34
 l0:l.getD 0 false=true->T[31]?=some (.slice A st.length cap)
 l1:l.getD 1 false=true->T[32]?=some (.bool much)
 l2:l.getD 2 false=true->T[33]?=some (.bool found)
structure F3 (bs bm bf:Nat) (A:Option Addr) (cap:Nat) (st:List Int) (much found:Bool) (own:Nat->Prop) (W:World):Prop where
 gs:own bs
 gm:own bm
 gf:own bf
 vs:∃e,W.heap[bs]?=some (.cells #[.slice A st.length cap] e)
 vm:∃e,W.heap[bm]?=some (.cells #[.bool much] e)
 vf:∃e,W.heap[bf]?=some (.cells #[.bool found] e)
structure Sm (own:Nat->Prop) (W W':World):Prop where
 tape:W'.tape=W.tape
 out:W'.output=W.output
 os:OsLater W.os W'.os
 size:W.heap.size<=W'.heap.size
 kept:∀b,own b->W'.heap[b]?=W.heap[b]?
theorem Sm.refl (own:Nat->Prop) (W:World):Sm own W W:=⟨rfl,rfl,OsLater.refl _,aj _, λ_ _=>rfl⟩
theorem Sm.rely {own:Nat->Prop} {W W1 W2:World} (h:Sm own W W1) (hr:bZ Z0 own W1 W2):Sm own W W2:=
 ⟨hr.tape.trans h.tape,hr.out.trans h.out,h.os.trans hr.os,aC h.size hr.size, λb hb=>(hr.own b hb).trans (h.kept b hb)⟩
theorem Sm.trans {own:Nat->Prop} {W W1 W2:World} (h:Sm own W W1) (hr:Sm own W1 W2):Sm own W W2:=
 ⟨hr.tape.trans h.tape,hr.out.trans h.out,h.os.trans hr.os,aC h.size hr.size, λb hb=>(hr.kept b hb).trans (h.kept b hb)⟩
theorem Sm.set {own:Nat->Prop} {W:World} {b:Nat} {v:Value} {e:TypeId} (h:W.heap[b]?=some (.cells #[v] e)):Sm own W (W.setCell ⟨b,0,none⟩ v):=by
 have ha:=Go.Conc.aside_setCell W ⟨b,0,none⟩ v;refine ⟨ha.tape,ha.output,by rw [ha.os];exact OsLater.refl _,Nat.le_of_eq ha.size.symm, λc _=>?_⟩
 by_cases e:c=b
 ·subst e;rw [heap_setCell_same W c 0 _ _ v h,h];rfl
 ·exact ha.block c e
theorem F3.sm {bs bm bf:Nat} {A:Option Addr} {cap:Nat} {st:List Int} {much found:Bool} {own:Nat->Prop} {W W':World} (h:F3 bs bm bf A cap st much found own W) (hs:Sm own W W'):F3 bs bm bf A cap st much found own W':=by
 obtain ⟨g1,g2,g3,⟨e1,v1⟩,⟨e2,v2⟩,⟨e3,v3⟩⟩:=h;exact ⟨g1,g2,g3,⟨e1,(hs.kept _ g1).trans v1⟩,⟨e2,(hs.kept _ g2).trans v2⟩,⟨e3,(hs.kept _ g3).trans v3⟩⟩
theorem nH {W:World} {b:Nat} {v:Value} (h:∃e,W.heap[b]?=some (.cells #[v] e)):W.cell? ⟨b,0,none⟩=some v:=by
 obtain ⟨e,h⟩:=h;unfold World.cell?;simp only [h];rfl
theorem FC {W:World} {b:Nat} {v:Value} (h:∃e,W.heap[b]?=some (.cells #[v] e)):W.frozen? ⟨b,0,none⟩=false:=by
 obtain ⟨e,h⟩:=h;unfold World.frozen?;simp only [h];rfl
theorem Nj {own:Nat->Prop} {W:World} {b:Nat} {v:Value} (h:∃e,W.heap[b]?=some (.cells #[v] e)):Sm own W (W.setCell ⟨b,0,none⟩ v):=by
 obtain ⟨e,h⟩:=h;exact Sm.set h
theorem iW {l:Array Bool} {i k:Nat} (h:(l.setIfInBounds i true).getD k false=true):k=i∨l.getD k false=true:=by
 by_cases e:k=i
 ·exact .inl e
 ·right;rw [Array.getD_eq_getD_getElem?,Array.getElem?_setIfInBounds_ne (Ne.symm e)] at h
  rwa [Array.getD_eq_getD_getElem?]
end Go.Proofs.Try
end
section
namespace Go.Proofs.Try
open Go Go.Conc Go.ConcN Go.ConcM Go.RowKit Go.Conc.Lib Go.ConcR.Gen Par
attribute [local instance] noSh ig
section
variable {bs bm bf:Nat} {A:Option Addr} {cap:Nat} {st:List Int} {much found:Bool} {own:Nat->Prop} {W:World} {cs:List Frame} {kk:List Item} {Stop:(Nat->Prop)->Goroutine->World->Prop}
theorem nI {T:Array Value} {k:Nat} {v:Value} (h:T[k]?=some v):(⟨T,[]⟩:Act).eval (.tmp k)=v:=by
 simp [Act.eval,h]
theorem lu {o:Oper} (h:o.guard=none) (f:Nat->Option Bool):Region.wanted o f=true:=by
 unfold Region.wanted;rw [h]
theorem Bn (T:Array Value) (d:Tmp) (v:Value):(⟨T,[]⟩:Act).put (some d) v=⟨T.setIfInBounds d v,[]⟩:=rfl
theorem FD (T:Array Value) (v:Value):(⟨T,[]⟩:Act).put none v=⟨T,[]⟩:=rfl
theorem ab5 {main:Bool} {Z:eG} {b:Frame} {a:Act} {ops:Array Oper} {i:Nat} {rest:List Nat} {o:Oper} {x:Operand} (ho:ops[i]?=some o) (hw:Region.wanted o (yielded ops a.tmps)=true) (hk:b.kind≠ .early) (hop:o.op= .assign x)
 (hn:∀W1,bZ Z own W W1->Gw Try.prog main Z Stop own (G (b.at (a.put o.dst (a.eval x)) (.inRegion ops rest::kk)) cs) W1):
 Gw Try.prog main Z Stop own (G (b.at a (.inRegion ops (i::rest)::kk)) cs) W:=
 Bh ho hw hk λW1 hr=>⟨_,W1,by unfold execOp;simp only [hop];rfl,uC.refl _, λe he=>by
  unfold execOp at he;simp only [hop] at he;simp at he,by rw [jT];exact hn W1 hr⟩
theorem al8:∀(fuel t:Nat) (l:Array Bool) (T:Array Value) (W:World),TQ bs bm bf A cap st much found T l->l.size=7->F3 bs bm bf A cap st much found own W->
 (∀T' l' W',TQ bs bm bf A cap st much found T' l'->Sm own W W'->Gw Try.prog true Z0 Stop own (G ((base 16).at ⟨T',[]⟩ (.inRegion kr []::kk)) cs) W')->
 Gw Try.prog true Z0 Stop own (G ((base 16).at ⟨T,[]⟩ (.inRegion kr (Region.linearise.go .any kr fuel t l [])::kk)) cs) W:=by
 intro fuel;have hnm:¬Z0.mute:= λh=>h
 have hk:(base 16).kind≠ .early:=base_kind _
 induction fuel with
 |zero=>intro t l T W hT hl hF hK;exact hK T l W hT (Sm.refl _ _)
 |succ fuel ih=>
  intro t l T W hT hl hF hK;simp only [Region.linearise.go];split
  ·rename_i i hi;rw [linearise_go_acc,List.reverse_singleton,List.singleton_append];have hm:=List.mem_of_getElem? hi;simp only [List.mem_filter,List.mem_range,aR,FB] at hm;obtain ⟨h7,_,h2⟩:=hm;clear hi;have hl':(l.setIfInBounds i true).size=7:=by simpa using hl
   have keep:∀(T':Array Value) (W':World),TQ bs bm bf A cap st much found T' (l.setIfInBounds i true)->Sm own W W'->
    Gw Try.prog true Z0 Stop own (G ((base 16).at ⟨T',[]⟩ (.inRegion kr (Region.linearise.go .any kr fuel (t / ((List.range kr.size).filter λi=>!l.getD i true&&((kr[i]?).map (·.after.all λe=>!Region.binds .any e||l.getD e.on false)).getD false).length) (l.setIfInBounds i true) [])::kk)) cs) W':=
    λT' W' h1 h2=>ih _ _ T' W' h1 hl' (hF.sm h2) λT'' l'' W'' h3 h4=>hK T'' l'' W'' h3 (h2.trans h4)
   have hset:∀d v,d≠2->d≠3->d≠4->d≠5->(∀k,k≠d->(T.setIfInBounds d v)[k]?=T[k]?):= λd v _ _ _ _ k hk=>by rw [Array.getElem?_setIfInBounds_ne (Ne.symm hk)]
   have hin:∀d v,d<34->(T.setIfInBounds d v)[d]?=some v:= λd v hd=>by rw [Array.getElem?_setIfInBounds_self_of_lt (by rw [hT.sz];exact hd)]
   obtain rfl|rfl|rfl|rfl|rfl|rfl|rfl:i=0∨i=1∨i=2∨i=3∨i=4∨i=5∨i=6:=by omega
   ·obtain ⟨o,ho,e1,e2,e3⟩:=aa8;refine WC (ad:=⟨bs,0,none⟩) (p:=A) (l:=st.length) (c:=cap) ho (lu e3 _) hk e1 (nI hT.t2) hnm (.inl hF.gs) (nH hF.vs) λW1 hr=>?_
    rw [e2,Bn];refine keep _ _ ⟨?_,?_,?_,?_,by simpa using hT.sz, λ_=>hin 31 _ (by omega), λh=>?_, λh=>?_⟩ ((Sm.refl _ _).rely hr)
    ·rw [hset 31 _ (by omega) (by omega) (by omega) (by omega) 2 (by omega)];exact hT.t2
    ·rw [hset 31 _ (by omega) (by omega) (by omega) (by omega) 3 (by omega)];exact hT.t3
    ·rw [hset 31 _ (by omega) (by omega) (by omega) (by omega) 4 (by omega)];exact hT.t4
    ·rw [hset 31 _ (by omega) (by omega) (by omega) (by omega) 5 (by omega)];exact hT.t5
    ·rw [hset 31 _ (by omega) (by omega) (by omega) (by omega) 32 (by omega)];exact hT.l1 ((iW h).resolve_left (by omega))
    ·rw [hset 31 _ (by omega) (by omega) (by omega) (by omega) 33 (by omega)];exact hT.l2 ((iW h).resolve_left (by omega))
   ·obtain ⟨o,ho,e1,e2,e3⟩:=aa9;refine qG (ad:=⟨bm,0,none⟩) (n:=much) ho (lu e3 _) hk e1 (nI hT.t3) hnm (.inl hF.gm) (nH hF.vm) λW1 hr=>?_
    rw [e2,Bn];refine keep _ _ ⟨?_,?_,?_,?_,by simpa using hT.sz, λh=>?_, λ_=>hin 32 _ (by omega), λh=>?_⟩ ((Sm.refl _ _).rely hr)
    ·rw [hset 32 _ (by omega) (by omega) (by omega) (by omega) 2 (by omega)];exact hT.t2
    ·rw [hset 32 _ (by omega) (by omega) (by omega) (by omega) 3 (by omega)];exact hT.t3
    ·rw [hset 32 _ (by omega) (by omega) (by omega) (by omega) 4 (by omega)];exact hT.t4
    ·rw [hset 32 _ (by omega) (by omega) (by omega) (by omega) 5 (by omega)];exact hT.t5
    ·rw [hset 32 _ (by omega) (by omega) (by omega) (by omega) 31 (by omega)];exact hT.l0 ((iW h).resolve_left (by omega))
    ·rw [hset 32 _ (by omega) (by omega) (by omega) (by omega) 33 (by omega)];exact hT.l2 ((iW h).resolve_left (by omega))
   ·obtain ⟨o,ho,e1,e2,e3⟩:=ab0;refine qG (ad:=⟨bf,0,none⟩) (n:=found) ho (lu e3 _) hk e1 (nI hT.t4) hnm (.inl hF.gf) (nH hF.vf) λW1 hr=>?_
    rw [e2,Bn];refine keep _ _ ⟨?_,?_,?_,?_,by simpa using hT.sz, λh=>?_, λh=>?_, λ_=>hin 33 _ (by omega)⟩ ((Sm.refl _ _).rely hr)
    ·rw [hset 33 _ (by omega) (by omega) (by omega) (by omega) 2 (by omega)];exact hT.t2
    ·rw [hset 33 _ (by omega) (by omega) (by omega) (by omega) 3 (by omega)];exact hT.t3
    ·rw [hset 33 _ (by omega) (by omega) (by omega) (by omega) 4 (by omega)];exact hT.t4
    ·rw [hset 33 _ (by omega) (by omega) (by omega) (by omega) 5 (by omega)];exact hT.t5
    ·rw [hset 33 _ (by omega) (by omega) (by omega) (by omega) 31 (by omega)];exact hT.l0 ((iW h).resolve_left (by omega))
    ·rw [hset 33 _ (by omega) (by omega) (by omega) (by omega) 32 (by omega)];exact hT.l1 ((iW h).resolve_left (by omega))
   ·obtain ⟨o,ho,e1,e2,e3,e4⟩:=ab1;have hd:=Jc e4 (l:=l) (by rw [ho] at h2;simpa using h2);refine Ox (ad:=⟨bs,0,none⟩) (p:=A) (l:=st.length) (c:=cap) ho (lu e3 _) hk e1 (nI hT.t2) (nI (hT.l0 hd)) hnm hF.gs (λh=>h) (nH hF.vs) (FC hF.vs) λW1 hr=>?_
    rw [e2,FD];refine keep _ _ ⟨hT.t2,hT.t3,hT.t4,hT.t5,hT.sz, λh=>hT.l0 hd, λh=>hT.l1 ((iW h).resolve_left (by omega)), λh=>hT.l2 ((iW h).resolve_left (by omega))⟩ (((Sm.refl own W).rely hr).trans (Nj (hF.sm ((Sm.refl own W).rely hr)).vs))
   ·obtain ⟨o,ho,e1,e2,e3,e4⟩:=ab2;have hd:=Jc e4 (l:=l) (by rw [ho] at h2;simpa using h2);refine vH (ad:=⟨bm,0,none⟩) (n:=much) ho (lu e3 _) hk e1 (nI hT.t3) (nI (hT.l1 hd)) hnm hF.gm (λh=>h) (nH hF.vm) (FC hF.vm) λW1 hr=>?_
    rw [e2,FD];refine keep _ _ ⟨hT.t2,hT.t3,hT.t4,hT.t5,hT.sz, λh=>hT.l0 ((iW h).resolve_left (by omega)), λh=>hT.l1 hd, λh=>hT.l2 ((iW h).resolve_left (by omega))⟩ (((Sm.refl own W).rely hr).trans (Nj (hF.sm ((Sm.refl own W).rely hr)).vm))
   ·obtain ⟨o,ho,e1,e2,e3,e4⟩:=ab3;have hd:=Jc e4 (l:=l) (by rw [ho] at h2;simpa using h2);refine vH (ad:=⟨bf,0,none⟩) (n:=found) ho (lu e3 _) hk e1 (nI hT.t4) (nI (hT.l2 hd)) hnm hF.gf (λh=>h) (nH hF.vf) (FC hF.vf) λW1 hr=>?_
    rw [e2,FD];refine keep _ _ ⟨hT.t2,hT.t3,hT.t4,hT.t5,hT.sz, λh=>hT.l0 ((iW h).resolve_left (by omega)), λh=>hT.l1 ((iW h).resolve_left (by omega)), λh=>hT.l2 hd⟩ (((Sm.refl own W).rely hr).trans (Nj (hF.sm ((Sm.refl own W).rely hr)).vf))
   ·obtain ⟨o,ho,e1,e2,e3⟩:=ab4;refine ab5 ho (lu e3 _) hk e1 λW1 hr=>?_
    rw [e2,Bn];have hs5:∀k,k≠5->(T.setIfInBounds 5 (.int .i64 0))[k]?=T[k]?:= λk hk=>by rw [Array.getElem?_setIfInBounds_ne (Ne.symm hk)]
    refine keep _ _ ⟨?_,?_,?_,hin 5 _ (by omega),by simpa using hT.sz, λh=>?_, λh=>?_, λh=>?_⟩ ((Sm.refl _ _).rely hr)
    ·exact (hs5 2 (by omega)).trans hT.t2
    ·exact (hs5 3 (by omega)).trans hT.t3
    ·exact (hs5 4 (by omega)).trans hT.t4
    ·exact (hs5 31 (by omega)).trans (hT.l0 ((iW h).resolve_left (by omega)))
    ·exact (hs5 32 (by omega)).trans (hT.l1 ((iW h).resolve_left (by omega)))
    ·exact (hs5 33 (by omega)).trans (hT.l2 ((iW h).resolve_left (by omega)))
  ·exact hK T l W hT (Sm.refl _ _)
end
end Go.Proofs.Try
end
section
namespace Go.Proofs.Try
open Go Go.Conc Go.ConcN Go.ConcM Go.RowKit Go.Conc.Lib Go.ConcR.Gen Par
attribute [local instance] noSh ig
section
variable {bs bm bf:Nat} {A:Option Addr} {cap:Nat} {st:List Int} {much found:Bool} {own:Nat->Prop} {W:World} {c:Frame} {cs:List Frame} {kk:List Item} {Stop:(Nat->Prop)->Goroutine->World->Prop}
theorem Jd {P:Program} {main:Bool} {b:Frame} {a:Act} {w:World} {fn:Func} {todo:List Item} {c:Frame} {v:Value} {es:Array Event} (hn:b.kind= .normal) (hd:a.defers= []) (hf:P.funcs[b.fn]?=some fn)
 (hr:(results fn a.tmps).run P w= .ok v w) (he:(results fn a.tmps).events P w #[]=es):
 stepG P main (G { b.at a todo with mode:=.returning } (c::cs)) w= .go (G (c.finish v) cs) w (seen P b.fn es):=by
 subst he;simp [G,stepG,unwind,doReturn,Frame.at,hn,hd,hf,hr,GStep.after]
theorem ab6:Try.prog.follows .mixedOrders=true:=by kernel_rfl
theorem ab7 {T:Array Value} {l:Array Bool} {W:World} (hT:TQ bs bm bf A cap st much found T l) (h1:W.cell? ⟨bs,0,none⟩=some (.slice A st.length cap)) (h2:W.cell? ⟨bm,0,none⟩=some (.bool much)) (h3:W.cell? ⟨bf,0,none⟩=some (.bool found)):
 (results Try.f16 T).run Try.prog W= .ok (.tuple #[.slice A st.length cap,.bool much,.bool found,.int .i64 0]) W∧∀e∈(results Try.f16 T).events Try.prog W #[],∃b,(b=bs∨b=bm∨b=bf)∧e.loc= .cell ⟨b,0,none⟩∧e.sync=false∧e.write=false:=by
 have g2:T.getD 2 undef= .pointer (some ⟨bs,0,none⟩):=by rw [Array.getD_eq_getD_getElem?,hT.t2];rfl
 have g3:T.getD 3 undef= .pointer (some ⟨bm,0,none⟩):=by rw [Array.getD_eq_getD_getElem?,hT.t3];rfl
 have g4:T.getD 4 undef= .pointer (some ⟨bf,0,none⟩):=by rw [Array.getD_eq_getD_getElem?,hT.t4];rfl
 have g5:T.getD 5 undef= .int .i64 0:=by rw [Array.getD_eq_getD_getElem?,hT.t5];rfl
 have t2:=hT.t2;have t3:=hT.t3;have t4:=hT.t4;have t5:=hT.t5;have hres:Try.f16.results= #[ResultVar.cell 2 25,ResultVar.cell 3 4,ResultVar.cell 4 4,ResultVar.tmp 5]:=by unfold Try.f16;rfl
 unfold results;rw [hres];refine ⟨by simp [go_sem,t2,t3,t4,t5,h1,h2,h3], λe he=>?_⟩;simp [go_sem,t2,t3,t4,t5,h1,h2,h3] at he;rcases he with rfl|rfl|rfl
 ·exact ⟨bs,.inl rfl,rfl,rfl,rfl⟩
 ·exact ⟨bm,.inr (.inl rfl),rfl,rfl,rfl⟩
 ·exact ⟨bf,.inr (.inr rfl),rfl,rfl,rfl⟩
theorem Gw.drawn {P:Program} {main:Bool} {Z:eG} {b:Frame} {a:Act} {id:Nat} {ops:Array Oper} (hm:P.follows .mixedOrders=true)
 (h:∀W1 t,bZ Z own W W1->Gw P main Z Stop own (G (b.at a (.inRegion ops (Region.linearise.go .any ops ops.size t (Array.replicate ops.size false) [])::kk)) cs) { W1 with drawn:=W1.drawn+1 }):
 Gw P main Z Stop own (G (b.at a (.code (.region id ops true)::kk)) cs) W:=by
 refine Gw.AL rfl λW1 hr=>⟨_,_,#[],stepG_region_draw,⟨rfl,rfl,rfl,aj _, λ_ _ _ _=>rfl, λb _=>⟨xe.refl _, λ_ _=>rfl⟩⟩, λe he=>by simp at he,?_⟩
 have hg:grow own W1 { W1 with drawn:=W1.drawn+1 }=own:=by
  funext x;apply propext;unfold grow
  exact ⟨λh=>h.elim (λx=>x) λ⟨h1,h2⟩=>by
   have h2:x<W1.heap.size:=h2;omega,.inl⟩
 rw [hg];have :=h W1 (W1.tape W1.drawn (.order b.fn id)) hr;simp only [Region.schedule,hm,Bool.true_or,if_true,Region.linearise];exact this
theorem as6 {T:Array Value} {own:Nat->Prop} {W:World} (h2:T[2]?=some (.pointer (some ⟨bs,0,none⟩))) (h3:T[3]?=some (.pointer (some ⟨bm,0,none⟩))) (h4:T[4]?=some (.pointer (some ⟨bf,0,none⟩))) (h5:T[5]?=some (.int .i64 0)) (hsz:T.size=34) (hF3:F3 bs bm bf A cap st much found own W)
 (hret:∀W',Sm own W W'->Gw Try.prog true Z0 Stop own (G (c.finish (.tuple #[.slice A st.length cap,.bool much,.bool found,.int .i64 0])) cs) W'):
 Gw Try.prog true Z0 Stop own (G ((base 16).at ⟨T,[]⟩ [.code RP2]) (c::cs)) W:=by
 have hF:bZ Z0 own W W:=bZ.refl _;rw [aa7];refine bL (n:=20) ?_
 u_c stepG_seq dB hF
 refine Goes.stop λW1 hr=>?_
 replace hF:=dB hF hr;clear hr;have S1:Sm own W W1:=(Sm.refl own W).rely hF;clear hF;refine Gw.drawn ab6 λW2 t hr=>?_
 replace S1:=S1.rely hr;clear hr;have S2:Sm own W { W2 with drawn:=W2.drawn+1 }:=S1.trans ⟨rfl,rfl,OsLater.refl _,aj _, λ_ _=>rfl⟩;rw [FB];refine al8 7 t _ T _ ⟨h2,h3,h4,h5,hsz, λh=>?_, λh=>?_, λh=>?_⟩ (by simp) (hF3.sm S2) λT' l' W3 hT' hs=>?_
 ·simp at h
 ·simp at h
 ·simp at h
 replace S2:=S2.trans hs;clear hs S1;have hF:bZ Z0 own W3 W3:=bZ.refl _;refine bL (n:=20) ?_
 u_c stepG_region_end dB hF
 u_c stepG_ret' dB hF
 refine Goes.stop λW4 hr=>?_
 replace S2:=S2.rely (dB hF hr);clear hF hr;refine Gw.AL rfl λW5 hr=>?_
 replace S2:=S2.rely hr;have hf:=hF3.sm S2;obtain ⟨r1,r2⟩:=ab7 hT' (nH hf.vs) (nH hf.vm) (nH hf.vf);refine ⟨_,W5,_,Jd (fn:=Try.f16) (b:=base 16) (a:=⟨T',[]⟩) rfl rfl Try.func16 r1 rfl,uC.refl _, λe he=>?_,by rw [jT];exact hret W5 S2⟩;rw [jT];obtain ⟨b,hb,e1,e2,e3⟩:=r2 e (mem_seen he);obtain ⟨loc,wr,sy⟩:=e;dsimp only at e1 e2 e3;subst e1 e2 e3;refine ⟨λh=>h,rfl,.inl ?_⟩;rcases hb with rfl|rfl|rfl
 ·exact hF3.gs
 ·exact hF3.gm
 ·exact hF3.gf
end
end Go.Proofs.Try
end
section
namespace Go.Proofs.Try
open Go Go.Conc Go.ConcN Go.ConcM Go.RowKit Go.Conc.Lib Go.ConcR.Gen Par
attribute [local instance] noSh ig
def Yj (eF:Frame) (K':List Frame) (bs bm bf:Nat) (g:Goroutine):Prop:=
 ∃T:Array Value,T[2]?=some (.pointer (some ⟨bs,0,none⟩))∧T[3]?=some (.pointer (some ⟨bm,0,none⟩))∧T[4]?=some (.pointer (some ⟨bf,0,none⟩))∧T[5]?=some (.int .i64 0)∧T.size=34∧g=G ((base 16).at ⟨T,[]⟩ [.code RP2]) (eF::K')
def FE (eF:Frame) (K':List Frame) (bs bm bf:Nat) (ss:List dL) (n:Nat) (iV:Nat->Prop) (zU:World) (own:Nat->Prop) (g:Goroutine) (W:World):Prop:=
 (∃A cap st much found,Fd bs bm bf A cap st much found own W∧mE (eH ss n (iP ss n false).length (iP ss n true).length) st much found)∧Bs iV zU own W∧Yj eF K' bs bm bf g
theorem Fd.sub {bs bm bf:Nat} {A:Option Addr} {cap:Nat} {st:List Int} {much found:Bool} {Gu Gu':Nat->Prop} {W:World} (h:Fd bs bm bf A cap st much found Gu W) (hs:∀b,Gu b->Gu' b):Fd bs bm bf A cap st much found Gu' W:=
 ⟨hs _ h.gs,hs _ h.gm,hs _ h.gf,h.vs,h.vm,h.vf,h.sl.sub hs,h.len⟩
section
variable {Mu Wg cw cb bs bm bf bw sb:Nat} {N:Nat->Nat} {J:Nat->Nat->(Nat->Prop)->World->Prop} {ro:Nat->Prop} {Anch:(Nat->Prop)->Goroutine->World->Prop}
variable {iV:Nat->Prop} {zU:World} {own:Nat->Prop} {W:World} {n:Nat} {ss:List dL} {eF:Frame} {K':List Frame}
theorem al9 (hne:Mu≠Wg) (hJ:J=JW Mu Wg bs bm bf ro ss n) (hN:∀k,k<2->N k=(iP ss n (decide (k=1))).length) (hA:Anch=FE eF K' bs bm bf ss n iV zU)
 (hp:HP iV zU Mu Wg cw cb bs bm bf bw sb ss n own ro W):
 zS eF K' bs bm bf cw Mu Wg cb sb 2 λg=>Gw Try.prog true ((cfg Mu Wg 87 N J ro Anch).Zs 2) (At Try.prog (cfg Mu Wg 87 N J ro Anch).sys 0 (.st (eO (cfg Mu Wg 87 N J ro Anch) 2) 2)) own g W:=by
 intro j0 j1 j6 j11 j12 j13 lU lV kz kC kD kE kF kG kH kJ kK kL kM kN kP kQ kR;have hnp:eO (cfg Mu Wg 87 N J ro Anch) 2= .kd:=if_neg (Nat.lt_irrefl 2);rw [hnp];have hnm:¬((cfg Mu Wg 87 N J ro Anch).Zs 2).mute:= λh=>h
 unfold KY;simp only [LP,RP,mQ,bO,bR,cB,Try.f16,Option.getD_some,Nat.reduceEqDiff,if_true,if_false,reduceIte];have hF:bZ ((cfg Mu Wg 87 N J ro Anch).Zs 2) own W W:=bZ.refl _;refine bL (n:=60) ?_
 repeat w_nl lI
 refine Goes.stop λw₁ h₁=>?_
 replace hp:=hp.rely rfl tC (lI hF h₁);clear hF h₁;refine qK (o:=?_) (args:=?_) (ats:=?_) ?_ ?_ ?_ ?_ Try.iB.f_wait nm_wait OH ?_
 rotate_left 3
 iterate 2 rfl
 ·k_ne
 ·rfl
 intro w₂ h₂;replace hp:=hp.rely rfl tC h₂;clear h₂;walk_nrm;rw [Nh]
 have QL:Beside (cfg Mu Wg 87 N J ro Anch) ((cfg Mu Wg 87 N J ro Anch).Zs 2) own:=
  ⟨λb hb h=>h.elim (hp.env.own b hb).2.1 (hp.env.own b hb).2.2.1, λb hb h=>h.elim (hp.env.rs b hb).1 (hp.env.rs b hb).2, λb i h=>by obtain ⟨_,_,_,h⟩:=h;exact False.elim h⟩
 refine ai4 (P:=Try.prog) (L:=Try.link) (C:=cfg Mu Wg 87 N J ro Anch) (W0:=w₂) Try.iB rfl (I7 hne) QL (λs Gl D Dc own' W w hw hjn hr=>?_) w₂ ⟨bZ.refl _,hp.env.wl⟩;replace hp:=hp.rely rfl tC hw.1
 have hjw:JW Mu Wg bs bm bf ro ss n (N 0) (N 1) Gl W:=by
  have h1:J s.b.c0 s.b.c1 Gl W:=hjn.J;have h2:s.b.c0=N 0∧s.b.c1=N 1:=hjn.fin;rw [h2.1,h2.2,hJ] at h1;exact h1
 have hbs:Bs iV zU own' W:=⟨hp.base.tape,hp.base.out,hp.base.os,hp.base.size,hp.base.kept, λb hb=>hjn.sub b (hp.base.sub b hb)⟩
 have Vi:∃A cap st much found,Fd bs bm bf A cap st much found own' W∧mE (eH ss n (iP ss n false).length (iP ss n true).length) st much found:=by
  obtain ⟨_,A,cap,st,much,found,h1,h2⟩:=hjw;rw [hN 0 (by omega),hN 1 (by omega)] at h2;exact ⟨A,cap,st,much,found,h1.sub hjn.aq2,h2⟩
 clear hjw hjn hp hw;have hF:bZ Z0 own' w w:=bZ.refl _;replace hbs:=hbs.rely hr
 replace Vi:∃A cap st much found,Fd bs bm bf A cap st much found own' w∧mE (eH ss n (iP ss n false).length (iP ss n true).length) st much found:=by
  obtain ⟨A,cap,st,much,found,h1,h2⟩:=Vi;exact ⟨A,cap,st,much,found,h1.keep hr.own,h2⟩
 clear hr;refine bL (n:=60) ?_
 walk_nrm
 u_c stepG_region_end dB hF
 refine Goes.stop λw₃ h₃=>?_
 replace hF:=dB hF h₃;clear h₃;refine Gw.stop λw₄ h₄=>At.of_law ⟨rfl, λ_=>rfl, λs hs hf=>?_⟩
 replace hF:=dB hF h₄;rw [if_pos (by rfl)];show Anch _ _ _;rw [hA];refine ⟨?_,hbs.rely hF,?_⟩
 ·obtain ⟨A,cap,st,much,found,h1,h2⟩:=Vi;exact ⟨A,cap,st,much,found,h1.keep hF.own,h2⟩
 ·unfold Yj;simp only [RP2,mQ,bR,cB,Try.f16,Option.getD_some,Nat.reduceEqDiff,if_true,if_false,reduceIte];exact ⟨_,rfl,rfl,rfl,rfl,rfl,rfl⟩
end
end Go.Proofs.Try
end
