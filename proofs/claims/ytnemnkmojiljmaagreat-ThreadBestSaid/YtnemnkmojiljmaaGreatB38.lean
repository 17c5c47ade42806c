/- Part 38. -/
import Derived.Conc.CompanyDraw
import Derived.Test.YtnemnkmojiljmaaGreatB09
import Derived.Test.YtnemnkmojiljmaaGreatB20
import Derived.Test.YtnemnkmojiljmaaGreatB21
import Derived.Test.YtnemnkmojiljmaaGreatB24
import Derived.Test.YtnemnkmojiljmaaGreatB34
import Derived.Test.YtnemnkmojiljmaaGreatB37
set_option maxRecDepth 100000
set_option maxHeartbeats 0
set_option linter.all false
namespace Go.Proofs.Tryz
open Go Go.Conc Go.ConcN Go.ConcM Go.RowKit Go.Conc.Lib Go.ConcR.Gen Par
section
attribute [local instance] noSh jm
section
variable {main:Bool} {Z:gB} {own:Nat->Prop} {Stop:(Nat->Prop)->Goroutine->World->Prop}
variable {b:Frame} {a:Act} {kk:List Item} {cs:List Frame} {W:World} {ops:Array Oper} {i:Nat} {rest:List Nat} {o:Oper} {x y:Operand} {ad:Addr}
theorem X0 {v1 v2 v3 v4:Value} (ho:ops[i]?=some o) (hw:Region.wanted o (yielded ops a.tmps)=true) (hk:b.kind≠ .early) (hop:o.op= .box 26 x) (hx:a.eval x= .agg #[v1,v2,v3,v4]) (hnm:¬Z.mute) (hsy:∀b,Z.sy b->b<W.heap.size)
 (hn:∀W1,dZ Z own W W1->Gw Tryz.prog main Z Stop (λc=>own c∨c=W1.heap.size) (G (b.at (a.put o.dst (.pointer (some ⟨W1.heap.size,0,none⟩))) (.inRegion ops rest::kk)) cs) { W1 with heap:=W1.heap.push (.cells #[v1,v2,v3,v4] 26) }):
 Gw Tryz.prog main Z Stop own (G (b.at a (.inRegion ops (i::rest)::kk)) cs) W:=
 zn (f:= λW1=>.pointer (some ⟨W1.heap.size,0,none⟩)) ho hw hk hnm hsy (λW1 hr=>by
  refine ⟨?_,?_⟩
  ·unfold execOp;simp only [hop,hx];simp [go_sem]
  ·unfold execOp;simp only [hop,hx];simp [go_sem]) hn
theorem X7 (ho:ops[i]?=some o) (hw:Region.wanted o (yielded ops a.tmps)=true) (hk:b.kind≠ .early) (hop:o.op= .alloc 44) (hnm:¬Z.mute) (hsy:∀b,Z.sy b->b<W.heap.size)
 (hn:∀W1,dZ Z own W W1->Gw Tryz.prog main Z Stop (λc=>own c∨c=W1.heap.size) (G (b.at (a.put o.dst (.pointer (some ⟨W1.heap.size,0,none⟩))) (.inRegion ops rest::kk)) cs) { W1 with heap:=W1.heap.push (.cells #[.slice none 0 0] 44) }):
 Gw Tryz.prog main Z Stop own (G (b.at a (.inRegion ops (i::rest)::kk)) cs) W:=
 zn (f:= λW1=>.pointer (some ⟨W1.heap.size,0,none⟩)) ho hw hk hnm hsy (λW1 hr=>by
  refine ⟨?_,?_⟩
  ·unfold execOp;simp only [hop];simp [go_sem]
  ·unfold execOp;simp only [hop];simp [go_sem]) hn
theorem Jq (ho:ops[i]?=some o) (hw:Region.wanted o (yielded ops a.tmps)=true) (hk:b.kind≠ .early) (hop:o.op= .alloc 4) (hnm:¬Z.mute) (hsy:∀b,Z.sy b->b<W.heap.size)
 (hn:∀W1,dZ Z own W W1->Gw Tryz.prog main Z Stop (λc=>own c∨c=W1.heap.size) (G (b.at (a.put o.dst (.pointer (some ⟨W1.heap.size,0,none⟩))) (.inRegion ops rest::kk)) cs) { W1 with heap:=W1.heap.push (.cells #[.bool false] 4) }):
 Gw Tryz.prog main Z Stop own (G (b.at a (.inRegion ops (i::rest)::kk)) cs) W:=
 zn (f:= λW1=>.pointer (some ⟨W1.heap.size,0,none⟩)) ho hw hk hnm hsy (λW1 hr=>by
  refine ⟨?_,?_⟩
  ·unfold execOp;simp only [hop];simp [go_sem]
  ·unfold execOp;simp only [hop];simp [go_sem]) hn
theorem Vf (ho:ops[i]?=some o) (hw:Region.wanted o (yielded ops a.tmps)=true) (hk:b.kind≠ .early) (hop:o.op= .alloc 89) (hnm:¬Z.mute) (hsy:∀b,Z.sy b->b<W.heap.size)
 (hn:∀W1,dZ Z own W W1->Gw Tryz.prog main Z Stop (λc=>own c∨c=W1.heap.size) (G (b.at (a.put o.dst (.pointer (some ⟨W1.heap.size,0,none⟩))) (.inRegion ops rest::kk)) cs) { W1 with heap:=W1.heap.push (.cells #[.pointer none] 89) }):
 Gw Tryz.prog main Z Stop own (G (b.at a (.inRegion ops (i::rest)::kk)) cs) W:=
 zn (f:= λW1=>.pointer (some ⟨W1.heap.size,0,none⟩)) ho hw hk hnm hsy (λW1 hr=>by
  refine ⟨?_,?_⟩
  ·unfold execOp;simp only [hop];simp [go_sem]
  ·unfold execOp;simp only [hop];simp [go_sem]) hn
theorem Ya (ho:ops[i]?=some o) (hw:Region.wanted o (yielded ops a.tmps)=true) (hk:b.kind≠ .early) (hop:o.op= .alloc 97) (hnm:¬Z.mute) (hsy:∀b,Z.sy b->b<W.heap.size)
 (hn:∀W1,dZ Z own W W1->Gw Tryz.prog main Z Stop (λc=>own c∨c=W1.heap.size) (G (b.at (a.put o.dst (.pointer (some ⟨W1.heap.size,0,none⟩))) (.inRegion ops rest::kk)) cs) { W1 with heap:=W1.heap.push (.cells #[.int .i32 0,.int .u32 0] 97) }):
 Gw Tryz.prog main Z Stop own (G (b.at a (.inRegion ops (i::rest)::kk)) cs) W:=
 zn (f:= λW1=>.pointer (some ⟨W1.heap.size,0,none⟩)) ho hw hk hnm hsy (λW1 hr=>by
  refine ⟨?_,?_⟩
  ·unfold execOp;simp only [hop];simp [go_sem]
  ·unfold execOp;simp only [hop];simp [go_sem]) hn
theorem Yb (ho:ops[i]?=some o) (hw:Region.wanted o (yielded ops a.tmps)=true) (hk:b.kind≠ .early) (hop:o.op= .alloc 104) (hnm:¬Z.mute) (hsy:∀b,Z.sy b->b<W.heap.size)
 (hn:∀W1,dZ Z own W W1->Gw Tryz.prog main Z Stop (λc=>own c∨c=W1.heap.size) (G (b.at (a.put o.dst (.pointer (some ⟨W1.heap.size,0,none⟩))) (.inRegion ops rest::kk)) cs) { W1 with heap:=W1.heap.push (.cells #[.int .u64 0,.int .u32 0] 104) }):
 Gw Tryz.prog main Z Stop own (G (b.at a (.inRegion ops (i::rest)::kk)) cs) W:=
 zn (f:= λW1=>.pointer (some ⟨W1.heap.size,0,none⟩)) ho hw hk hnm hsy (λW1 hr=>by
  refine ⟨?_,?_⟩
  ·unfold execOp;simp only [hop];simp [go_sem]
  ·unfold execOp;simp only [hop];simp [go_sem]) hn
theorem Vg (ho:ops[i]?=some o) (hw:Region.wanted o (yielded ops a.tmps)=true) (hk:b.kind≠ .early) (hop:o.op= .alloc 108) (hnm:¬Z.mute) (hsy:∀b,Z.sy b->b<W.heap.size)
 (hn:∀W1,dZ Z own W W1->Gw Tryz.prog main Z Stop (λc=>own c∨c=W1.heap.size) (G (b.at (a.put o.dst (.pointer (some ⟨W1.heap.size,0,none⟩))) (.inRegion ops rest::kk)) cs) { W1 with heap:=W1.heap.push (.cells #[.nilFunc] 108) }):
 Gw Tryz.prog main Z Stop own (G (b.at a (.inRegion ops (i::rest)::kk)) cs) W:=
 zn (f:= λW1=>.pointer (some ⟨W1.heap.size,0,none⟩)) ho hw hk hnm hsy (λW1 hr=>by
  refine ⟨?_,?_⟩
  ·unfold execOp;simp only [hop];simp [go_sem]
  ·unfold execOp;simp only [hop];simp [go_sem]) hn
theorem ae9 (ho:ops[i]?=some o) (hw:Region.wanted o (yielded ops a.tmps)=true) (hk:b.kind≠ .early) (hop:o.op= .buildSlice 109 2 #[(0,.const (.bool false)),(1,.const (.bool true))]) (hnm:¬Z.mute) (hsy:∀b,Z.sy b->b<W.heap.size)
 (hn:∀W1,dZ Z own W W1->Gw Tryz.prog main Z Stop (λc=>own c∨c=W1.heap.size) (G (b.at (a.put o.dst (.slice (some ⟨W1.heap.size,0,none⟩) 2 2)) (.inRegion ops rest::kk)) cs) { W1 with heap:=W1.heap.push (.cells #[.bool false,.bool true] 4) }):
 Gw Tryz.prog main Z Stop own (G (b.at a (.inRegion ops (i::rest)::kk)) cs) W:=
 zn (f:= λW1=>.slice (some ⟨W1.heap.size,0,none⟩) 2 2) ho hw hk hnm hsy (λW1 hr=>by
  refine ⟨?_,?_⟩
  ·unfold execOp;simp only [hop];simp [go_sem]
  ·unfold execOp;simp only [hop];simp [go_sem]) hn
theorem Vh {v1 v2 v3 v4:Value} {e:TypeId} {fr:Nat×Nat} {bb:Nat} (ho:ops[i]?=some o) (hw:Region.wanted o (yielded ops a.tmps)=true) (hk:b.kind≠ .early) (hop:o.op= .load 26 x) (hx:a.eval x= .pointer (some ⟨bb,0,none⟩)) (hnm:¬Z.mute)
 (hz:own bb∨Z.ro bb) (hc:W.heap[bb]?=some (.cells #[v1,v2,v3,v4] e fr))
 (hn:∀W1,dZ Z own W W1->Gw Tryz.prog main Z Stop own (G (b.at (a.put o.dst (.agg #[v1,v2,v3,v4])) (.inRegion ops rest::kk)) cs) W1):
 Gw Tryz.prog main Z Stop own (G (b.at a (.inRegion ops (i::rest)::kk)) cs) W:=by
 refine CB ho hw hk λW1 hr=>?_
 have hb:W1.heap[bb]?=some (.cells #[v1,v2,v3,v4] e fr):=(hz.elim (hr.own _) (hr.ro _)).trans hc
 have c0:W1.cell? ⟨bb,0,none⟩=some v1:=by unfold World.cell?;simp only [hb];rfl
 have c1:W1.cell? ⟨bb,1,none⟩=some v2:=by unfold World.cell?;simp only [hb];rfl
 have c2:W1.cell? ⟨bb,2,none⟩=some v3:=by unfold World.cell?;simp only [hb];rfl
 have c3:W1.cell? ⟨bb,3,none⟩=some v4:=by unfold World.cell?;simp only [hb];rfl
 refine ⟨.agg #[v1,v2,v3,v4],W1,by unfold execOp;simp only [hop,hx];simp [go_sem,c0,c1,c2,c3],vX.refl _, λev he=>?_,by rw [lS];exact hn W1 hr⟩;rw [lS]
 have :∃k:Nat,ev=⟨.cell ⟨bb,k,none⟩,false,false⟩:=by
  unfold execOp at he;simp only [hop,hx] at he;simp [go_sem,c0,c1,c2,c3] at he;rcases he with rfl|rfl|rfl|rfl<;>exact ⟨_,rfl⟩
 obtain ⟨k,rfl⟩:=this;exact ⟨hnm,rfl,hz.elim .inl λz=>.inr (.inl ⟨z,rfl⟩)⟩
theorem Vi {p:Option Addr} {v0:Value} (ho:ops[i]?=some o) (hw:Region.wanted o (yielded ops a.tmps)=true) (hk:b.kind≠ .early) (hop:o.op= .store 89 x y) (hx:a.eval x= .pointer (some ad)) (hy:a.eval y= .pointer p) (hnm:¬Z.mute)
 (hz:own ad.block) (hns:¬Z.sy ad.block) (hc:W.cell? ad=some v0) (hf:W.frozen? ad=false)
 (hn:∀W1,dZ Z own W W1->Gw Tryz.prog main Z Stop own (G (b.at (a.put o.dst undef) (.inRegion ops rest::kk)) cs) (W1.setCell ad (.pointer p))):
 Gw Tryz.prog main Z Stop own (G (b.at a (.inRegion ops (i::rest)::kk)) cs) W:=
 CF ho hw hk hnm hz hns (λW1 hr=>by
  have hb:=hr.own _ hz;have hc1:W1.cell? ad=some v0:=by rw [<-hc];unfold World.cell?;rw [hb]
  have hf1:W1.frozen? ad=false:=by rw [<-hf];unfold World.frozen?;rw [hb]
  exact ⟨by unfold execOp;simp only [hop,hx,hy];simp [go_sem,hc1,hf1],by unfold execOp;simp only [hop,hx,hy];simp [go_sem,hc1,hf1];rw [Go.events_store _ _ _ _ _ _ rfl];simp [hc1,hf1]⟩) hn
theorem Vj {fn:Fn} {f1 f2:Array Value} {v0:Value} (ho:ops[i]?=some o) (hw:Region.wanted o (yielded ops a.tmps)=true) (hk:b.kind≠ .early) (hop:o.op= .store 108 x y) (hx:a.eval x= .pointer (some ad)) (hy:a.eval y= .func fn f1 f2) (hnm:¬Z.mute)
 (hz:own ad.block) (hns:¬Z.sy ad.block) (hc:W.cell? ad=some v0) (hf:W.frozen? ad=false)
 (hn:∀W1,dZ Z own W W1->Gw Tryz.prog main Z Stop own (G (b.at (a.put o.dst undef) (.inRegion ops rest::kk)) cs) (W1.setCell ad (.func fn f1 f2))):
 Gw Tryz.prog main Z Stop own (G (b.at a (.inRegion ops (i::rest)::kk)) cs) W:=
 CF ho hw hk hnm hz hns (λW1 hr=>by
  have hb:=hr.own _ hz;have hc1:W1.cell? ad=some v0:=by rw [<-hc];unfold World.cell?;rw [hb]
  have hf1:W1.frozen? ad=false:=by rw [<-hf];unfold World.frozen?;rw [hb]
  exact ⟨by unfold execOp;simp only [hop,hx,hy];simp [go_sem,hc1,hf1];rw [Go.run_store _ _ _ _ _ rfl];simp [go_sem,hc1,hf1],by unfold execOp;simp only [hop,hx,hy];simp [go_sem,hc1,hf1];rw [Go.events_store _ _ _ _ _ _ rfl];simp [hc1,hf1]⟩) hn
end
end
section
attribute [local instance] noSh jm
def l2:List FuncId:=[17,49,56,50,47,48,87,88,83,84,118,119,120,134]
def S2 (g:FuncId):Bool:=l2.contains g
theorem ap5:l2.all (Jf Tryz.prog S2 S2)=true:=by kernel_rfl
theorem Vk (A:Nat->Bool):nM Tryz.prog (FA S2 S2 (fH Tryz.prog S2 S2) A):=
 Pq (λg hg=>bG.1 ap5 g (by simpa [S2] using hg)) (λ_ h=>h) A
structure xw (As own:Nat->Prop) (W:World) (b:fe) (v:jR):Prop where
 at_:gH W W.heap.size b v
 own:∀a,As a->own a
 blk:∀a,As a->∃c e fr,W.heap[a]?=some (.cells c e fr)∧∀x∈c,fA x=true∨∃p l cp,x= .slice p l cp∧∀q,p=some q->As q.block
 top:∀q,v.ah=some q∨v.ap=some q∨v.lT=some q∨v.ac=some q->As q.block
 deep:∀i s,b.steps[i]?=some s->∀q,(v.sv i).a1=some q∨(v.sv i).a2=some q->As q.block
section
variable {As own:Nat->Prop} {W:World} {b:fe} {v:jR}
theorem xw.good (h:xw As own W b v) (hlt:∀a,own a->a<W.heap.size):(∀a o,As a->W.heap[a]?=some o->∃c e fr,o= .cells c e fr∧OnA Tryz.prog S2 As W.heap.size c)∧
 (∀p l c,(∀q,p=some q->As q.block)->vs (FA S2 S2 (fH Tryz.prog S2 S2) (Bd (jX As W.heap.size) W.heap.size)) (.slice p l c)=true):=by
 classical
 have on:∀b,As b->Bd (jX As W.heap.size) W.heap.size b=true:= λb hb=>gN.2 ⟨by unfold jX;exact decide_eq_true (.inl hb),hlt b (h.own b hb)⟩
 have sl:∀p l c,(∀q,p=some q->As q.block)->vs (FA S2 S2 (fH Tryz.prog S2 S2) (Bd (jX As W.heap.size) W.heap.size)) (.slice p l c)=true:= λp l c hp=>by
  cases hA:p with
  |none=>simp
  |some a=>rw [jo,yK];exact on a.block (hp a hA)
 refine ⟨λa o ha ho=>?_,sl⟩;obtain ⟨c,e,fr,h1,h2⟩:=h.blk a ha;rw [h1] at ho;cases ho;refine ⟨_,_,_,rfl, λx hx=>?_⟩;rcases h2 x hx with h3|⟨p,l,cp,rfl,h3⟩
 ·exact (kE (f:= λb=>b) h3).2
 ·exact sl _ _ _ h3
theorem xw.val (h:xw As own W b v) (hlt:∀a,own a->a<W.heap.size):vs (FA S2 S2 (fH Tryz.prog S2 S2) (Bd (jX As W.heap.size) W.heap.size)) (fJ b v)=true:=by
 obtain ⟨_,sl⟩:=h.good hlt;unfold fJ;rw [rV];intro x hx;simp only [aB,bE,ax,or_false] at hx;rcases hx with rfl|rfl|rfl|rfl
 ·exact sl _ _ _ λq hq=>h.top q (.inl hq)
 ·exact sl _ _ _ λq hq=>h.top q (.inr (.inl hq))
 ·exact sl _ _ _ λq hq=>h.top q (.inr (.inr (.inl hq)))
 ·exact sl _ _ _ λq hq=>h.top q (.inr (.inr (.inr hq)))
end
theorem zM {w w':World} {B B' k n:Nat} {A:Option Addr} {f:Nat->Nat->Value} {As:Nat->Prop} (h:Rd w B k A n f) (hA:∀q,A=some q->As q.block) (hc:∀b,As b->w'.heap[b]?=w.heap[b]?) (hB:B<=B'):Rd w' B' k A n f:= λhn=>by
 obtain ⟨bb,off,e,h1,h2⟩:=h hn;exact ⟨bb,off,e,aK h1 hB, λi j hi hj=>(fV (hc _ (hA _ e)) _).trans (h2 i j hi hj)⟩
section
variable {main:Bool} {As own:Nat->Prop} {W:World} {b:fe} {v:jR} {Stop:(Nat->Prop)->Goroutine->World->Prop} {gz:Frame} {K':List Frame}
theorem xw.kept {dL:Nat->Prop} {Z:gB} {W':World} (h:xw As own W b v) (hlt:∀a,own a->a<W.heap.size) (hk:Kept Z own W dL W'):xw As dL W' b v:=by
 obtain ⟨h1,h2,h3,h4,h5⟩:=h;have hc:∀b,As b->W'.heap[b]?=W.heap[b]?:= λb hb=>hk.rely.own _ (h2 b hb)
 refine ⟨⟨zM h1.eO (λq e=>h4 q (.inl e)) hc hk.rely.size,zM h1.dO (λq e=>h4 q (.inr (.inl e))) hc hk.rely.size,zM h1.steps (λq e=>h4 q (.inr (.inr (.inl e)))) hc hk.rely.size, λi s e=>zM (h1.ins i s e) (λq e'=>h5 i s e q (.inl e')) hc hk.rely.size,
  λi s e=>zM (h1.outs i s e) (λq e'=>h5 i s e q (.inr e')) hc hk.rely.size,zM h1.dR (λq e=>h4 q (.inr (.inr (.inr e)))) hc hk.rely.size,h1.lh,h1.lp,h1.ls,h1.lc⟩, λa ha=>hk.sub _ (h2 a ha), λa ha=>?_,h4,h5⟩
 ·obtain ⟨c,e,fr,q1,q2⟩:=h3 a ha;exact ⟨c,e,fr,(hk.rely.own _ (h2 a ha)).trans q1,q2⟩
theorem af0 (hb:xw As own W b v) (hlt:∀a,own a->a<W.heap.size) (kU:Tryz.prog.globals.size<W.heap.size) (hs:b.small)
 (oO:∀dL W',Kept Z0 own W dL W'->Gw Tryz.prog main Z0 Stop dL (G (gz.finish (.int .i64 (gL b))) K') W'):
 Gw Tryz.prog main Z0 Stop own (G (Frame.enter Tryz.prog 17 #[fJ b v] .normal) (gz::K')) W:=by
 obtain ⟨g1,_⟩:=hb.good hlt;refine xk (S:=S2) (As:=As) (R:= λv _=>v= .int .i64 (gL b)) Vk gK kU (λa ha=>.inl (hb.own a ha)) g1 (λa ha=>⟨hlt a ha, λh=>h, λh=>h⟩) (λ_ h=>az h) (λ_ h=>az h) (λ_ _ h=>az h) (λh=>h) (g:=17) rfl ?_ (λw hsz hcell=>?_) λv w' f' dL W' hR hk _=>?_
 ·intro x hx;simp only [aB,bE,ax,or_false] at hx;subst hx;exact hb.val hlt
 ·have :=@Lo.zV jm w W.heap.size b v (hb.at_.keep λb o _=>hcell b o) (Nat.le_of_eq hsz.symm) hs;rw [CG] at this;exact this.mono λe w' h=>⟨_,h.1,rfl⟩
 ·subst hR;rw [jE];exact oO dL W' hk
structure aw6 (own:Nat->Prop) (W:World) (bw:Nat) (ss:List fI) (n nd:Nat) (A:Option Addr) (cap:Nat):Prop where
 ow:own bw
 blk:∃e fr,W.heap[bw]?=some (.cells #[.slice A ss.length cap,.int .i64 (n:Int),.int .i64 (nd:Int)] e fr)
 at_:lV W W.heap.size bw ss n nd A cap
 str:∀a,A=some a->own a.block∧∃cur e fr,W.heap[a.block]?=some (.cells cur e fr)∧∀x∈cur,fA x=true
theorem aw7 (hb:xw As own W b v) (hlt:∀a,own a->a<W.heap.size) (kU:Tryz.prog.globals.size<W.heap.size) (hg:b.good) {hand:Int} (hh: -1<=hand∧hand<=64)
 (oO:∀dL W' bw A cap,Kept Z0 own W dL W'->aw6 dL W' bw (fM b hand) b.steps.length (eY b hand) A cap->W.heap.size<=bw->(∀a,A=some a->W.heap.size<=a.block)->Gw Tryz.prog main Z0 Stop dL (G (gz.finish (.pointer (some ⟨bw,0,none⟩))) K') W'):
 Gw Tryz.prog main Z0 Stop own (G (Frame.enter Tryz.prog 56 #[fJ b v,.int .i64 hand] .normal) (gz::K')) W:=by
 obtain ⟨g1,_⟩:=hb.good hlt;refine xk (S:=S2) (As:=As) (R:= λx w'=>∃bw y,x= .pointer (some ⟨bw,0,none⟩)∧W.heap.size<=bw∧bw<w'.heap.size∧gy w' bw W.heap.size b.steps.length (eY b hand) (fM b hand) y) Vk gK kU (λa ha=>.inl (hb.own a ha)) g1 (λa ha=>⟨hlt a ha, λh=>h, λh=>h⟩) (λ_ h=>az h) (λ_ h=>az h) (λ_ _ h=>az h) (λh=>h) (g:=56) rfl ?_ (λw hsz hcell=>?_) λx w' f' dL W' hR hk hm=>?_
 ·intro x hx;simp only [aB,bE,ax,or_false] at hx;rcases hx with rfl|rfl
  ·exact hb.val hlt
  ·simp
 ·have :=@Lo.Iy jm w W.heap.size b v (hb.at_.keep λb o _=>hcell b o) (Nat.le_of_eq hsz.symm) hg hand hh;rw [CG] at this;refine this.mono λe w' h=>?_
  obtain ⟨bw,y,h1,h2,h3,h4,_⟩:=h;rw [hsz] at h2 h4;exact ⟨_,h1,bw,y,rfl,h2,h3,h4⟩
 ·obtain ⟨bw,y,rfl,h1,h2,h3⟩:=hR;obtain ⟨A,cap,rfl,hat⟩:=h3.at (OO b hand hg) (OV b hand hg);obtain ⟨q1,q2,q3⟩:=hm.ge bw h1 h2;have e0:rv f' (.pointer (some ⟨bw,0,none⟩))= .pointer (some ⟨f' bw,0,none⟩):=by rw [eX];rfl
  rw [e0];obtain ⟨fr',b1⟩:=hm.blk _ _ _ _ h1 h3.blk;have b2:W'.heap[f' bw]?=some (.cells #[.slice (A.map (ra f')) (fM b hand).length cap,.int .i64 (b.steps.length:Int),.int .i64 (eY b hand:Int)] 114 fr'):=by rw [b1];simp
  have hge:∀a,A=some a->W.heap.size<=a.block∧a.block<w'.heap.size∧∃cur e,w'.heap[a.block]?=some (.cells cur e)∧∀x∈cur,fA x=true:= λa ha=>by
   have hp:=h3.pl;have hr:=h3.row;rw [ha] at hp hr;obtain ⟨l1,l2⟩:=hr.lt a.block rfl;exact ⟨l1,l2,hp a.block rfl⟩
  refine oO dL W' (f' bw) (A.map (ra f')) cap hk ⟨q3,⟨_,_,b2⟩,⟨q2,?_,?_,?_, λhn=>?_,hat.ok,hat.len⟩, λa ha=>?_⟩ q1 λa ha=>?_
  ·rw [hm.cell _ _ _ h1 hat.c0];simp
  ·rw [hm.cell _ _ _ h1 hat.c1];simp
  ·rw [hm.cell _ _ _ h1 hat.c2];simp
  ·obtain ⟨bb,off,e,p1,p2⟩:=hat.rd hn;subst e;obtain ⟨k1,k2,_⟩:=hge _ rfl;refine ⟨f' bb,off,rfl,(hm.ge _ k1 k2).2.1, λi j hi hj=>?_⟩;rw [hm.cell _ _ _ k1 (p2 i j hi hj)];unfold xA
   match j,hj with
   |0,_=>rw [show ((((fM b hand)[i]?).getD ⟨0,0,0,0⟩).cells 0)= .int .i64 (((fM b hand)[i]?).getD ⟨0,0,0,0⟩).lo from rfl,jE]
   |1,_=>rw [show ((((fM b hand)[i]?).getD ⟨0,0,0,0⟩).cells 1)= .int .i64 (((fM b hand)[i]?).getD ⟨0,0,0,0⟩).hi from rfl,jE]
   |2,_=>rw [show ((((fM b hand)[i]?).getD ⟨0,0,0,0⟩).cells 2)= .int .i64 ((((fM b hand)[i]?).getD ⟨0,0,0,0⟩).fr:Int) from rfl,jE]
   |3,_=>rw [show ((((fM b hand)[i]?).getD ⟨0,0,0,0⟩).cells 3)= .int .i64 ((((fM b hand)[i]?).getD ⟨0,0,0,0⟩).to:Int) from rfl,jE]
  ·cases hA:A with
   |none=>rw [hA] at ha;cases ha
   |some a0=>
    rw [hA] at ha;have ha:some (ra f' a0)=some a:=ha;cases ha;obtain ⟨l1,l2,cur,e,c1,c2⟩:=hge a0 hA;obtain ⟨fr',c3⟩:=hm.blk _ _ _ _ l1 c1;rw [Jg c2] at c3;exact ⟨(hm.ge _ l1 l2).2.2,cur,e,fr',c3,c2⟩
  ·cases hA:A with
   |none=>rw [hA] at ha;cases ha
   |some a0=>
    rw [hA] at ha;have ha:some (ra f' a0)=some a:=ha;cases ha;obtain ⟨l1,l2,_⟩:=hge a0 hA;exact (hm.ge _ l1 l2).1
end
end
end Go.Proofs.Tryz
namespace Go.Proofs.Tryz
open Go Go.RowKit Par
section
attribute [local instance] noSh
theorem PG {P:Program} {q:FuncId} {fn:Func} (h:P.funcs[q]?=some fn) (c:Code):(P.stub q c).funcs[q]?=some { fn with body:=some c }:=by
 show (P.funcs.modify q _)[q]?=_
 rw [bB,aj rfl,h];rfl
theorem zo (P:Program) {q g:FuncId} (c:Code) (h:g≠q):(P.stub q c).funcs[g]?=P.funcs[g]?:=by
 show (P.funcs.modify q _)[g]?=_
 rw [bB,aa (λx=>h x.symm)]
theorem GR (P:Program) (q:FuncId) (c:Code) (h:jD P=true):jD (P.stub q c)=true:=h
@[reducible] noncomputable def PI:Lo.St:=⟨Tryz.f14.body.getD .skip,.refuse ""⟩
noncomputable def lC:Program:=Tryz.prog.stub 28 (.refuse "")
theorem Vl: @Lo.prog PI=lC:=by
 rw [@Lo.jB PI];have h5:Tryz.prog.stub 14 (Tryz.f14.body.getD .skip)=Tryz.prog:=uq Tryz.func14 (by unfold Tryz.f14;rfl);show (Tryz.prog.stub 14 (Tryz.f14.body.getD .skip)).stub 28 (.refuse "")=lC;rw [h5];rfl
noncomputable def af1:Func:={ Tryz.f28 with body:=some (.refuse "") }
theorem PK:lC.funcs[28]?=some af1:=by unfold lC af1;exact PG Tryz.func28 _
theorem Jr (P:Program) (q:FuncId) (c c':Code):(P.stub q c).stub q c'=P.stub q c':=by
 unfold Program.stub;congr 1;apply Array.ext_getElem?;intro i;rw [bB,bB,bB]
 by_cases h:q=i
 ·rw [aj h,aj h,aj h];cases P.funcs[i]?<;>rfl
 ·rw [aa h,aa h,aa h]
theorem Vm:Par.Alike lC Tryz.prog:=by
 refine .inr ⟨28,Tryz.f28.body.getD .skip,.refuse "",af1,PK,rfl,?_⟩;unfold lC;rw [Jr];exact (uq Tryz.func28 (by unfold Tryz.f28;rfl)).symm
theorem ap6 (g:FuncId) (h:Tryz.prog.funcs[g]?≠lC.funcs[g]?):g=28:=by
 by_cases e:g=28
 ·exact e
 ·exfalso;refine h ?_
  unfold lC;exact (zo Tryz.prog _ e).symm
theorem Vn (S:FuncId->Bool):En lC Tryz.prog S:=Kb (why:= "") PK rfl λg _ hne=>ap6 g hne
theorem Vo:jD lC=true:=by
 unfold lC;exact GR _ _ _ gK
end
end Go.Proofs.Tryz
namespace Go.Proofs.Tryz
open Go Go.Conc Go.ConcN Go.ConcM Go.RowKit Go.Conc.Lib Go.ConcR.Gen Par
section
attribute [local instance] noSh jm
noncomputable def LP:Code:=(dM oH).getD .skip
theorem Mq:Tryz.f28.body=some oH:=by unfold oH Tryz.f28;rfl
theorem Vp:(Tryz.f17.name== "runtime.NumGoroutine")=false:=by kernel_rfl
theorem af2:(Tryz.f56.name== "runtime.NumGoroutine")=false:=by kernel_rfl
theorem Vq:Tryz.f17.body=some (Tryz.f17.body.getD .skip):=by unfold Tryz.f17;rfl
theorem af3:Tryz.f56.body=some (Tryz.f56.body.getD .skip):=by unfold Tryz.f56;rfl
structure Sn (eG:Nat->Prop) (W0:World) (L:List (Nat×Obj)) (own:Nat->Prop) (W:World):Prop where
 kept:Kept Z0 eG W0 own W
 lt:∀b,own b->b<W.heap.size
 has:∀p∈L,own p.1∧W0.heap.size<=p.1∧W.heap[p.1]?=some p.2
 nd:(L.map Prod.fst).Nodup
section
variable {eG own dL:Nat->Prop} {W0 W W1:World} {L:List (Nat×Obj)}
theorem Sn.start (h:∀b,eG b->b<W0.heap.size):Sn eG W0 [] eG W0:=⟨⟨dZ.refl _, λ_ h=>h, λ_ h=>.inl h⟩,h, λ_ h=>(by cases h),List.nodup_nil⟩
theorem Sn.rely (h:Sn eG W0 L own W) (hr:dZ Z0 own W W1):Sn eG W0 L own W1:=
 ⟨⟨h.kept.rely.trans ⟨hr.tape,hr.out,hr.os,hr.size, λb hb=>hr.own b (h.kept.sub b hb),hr.ro,hr.sy,hr.cl⟩,h.kept.sub, λb hb=>(h.kept.new b hb).imp id λx=>⟨x.1,aK x.2 hr.size⟩⟩,
  λb hb=>aK (h.lt b hb) hr.size, λp hp=>⟨(h.has p hp).1,(h.has p hp).2.1,(hr.own _ (h.has p hp).1).trans (h.has p hp).2.2⟩,h.nd⟩
theorem Sn.push (h:Sn eG W0 L own W) (o:Obj):Sn eG W0 ((W.heap.size,o)::L) (λc=>own c∨c=W.heap.size) { W with heap:=W.heap.push o }:=by
 have hold:∀c,c<W.heap.size->(W.heap.push o)[c]?=W.heap[c]?:= λc hc=>by rw [Array.getElem?_push_lt hc,aX hc]
 have hs:=h.kept.rely.size;refine ⟨⟨h.kept.rely.trans ⟨rfl,rfl,OsLater.refl _,by simp, λb hb=>hold b (h.lt b (h.kept.sub b hb)), λ_ x=>az x, λ_ x=>az x, λ_ _ x=>az x⟩, λb hb=>.inl (h.kept.sub b hb), λb hb=>?_⟩, λb hb=>?_, λp hp=>?_,?_⟩
 ·rcases hb with hb|rfl
  ·exact (h.kept.new b hb).imp id λx=>⟨x.1,by simp;omega⟩
  ·exact .inr ⟨hs,by simp⟩
 ·simp only [Array.size_push];rcases hb with hb|rfl
  ·have :=h.lt b hb;omega
  ·omega
 ·rcases bE.1 hp with rfl|hp
  ·exact ⟨.inr rfl,hs,by simp⟩
  ·obtain ⟨a,b,c⟩:=h.has p hp;exact ⟨.inl a,b,(hold _ (h.lt _ a)).trans c⟩
 ·simp only [aC,List.nodup_cons];refine ⟨λhx=>?_,h.nd⟩;obtain ⟨p,hp,e⟩:=List.mem_map.1 hx;have :=h.lt _ (h.has p hp).1;omega
theorem Sn.call (h:Sn eG W0 L own W) (hk:Kept Z0 own W dL W1):Sn eG W0 L dL W1:=
 ⟨⟨h.kept.rely.trans ⟨hk.rely.tape,hk.rely.out,hk.rely.os,hk.rely.size, λb hb=>hk.rely.own b (h.kept.sub b hb),hk.rely.ro,hk.rely.sy,hk.rely.cl⟩, λb hb=>hk.sub b (h.kept.sub b hb), λb hb=>by
   have :=h.kept.rely.size;rcases hk.new b hb with x|x
   ·exact (h.kept.new b x).imp id λy=>⟨y.1,aK y.2 hk.rely.size⟩
   ·exact .inr ⟨by omega,x.2⟩⟩,
  λb hb=>by
   rcases hk.new b hb with x|x
   ·exact aK (h.lt b x) hk.rely.size
   ·exact x.2, λp hp=>⟨hk.sub _ (h.has p hp).1,(h.has p hp).2.1,(hk.rely.own _ (h.has p hp).1).trans (h.has p hp).2.2⟩,h.nd⟩
theorem Sn.add (h:Sn eG W0 L own W) {b:Nat} {o:Obj} (h1:own b) (h2:W0.heap.size<=b) (h3:W.heap[b]?=some o) (h4:∀p∈L,p.1≠b):Sn eG W0 ((b,o)::L) own W:=
 ⟨h.kept,h.lt, λp hp=>by
   rcases bE.1 hp with rfl|hp
   ·exact ⟨h1,h2,h3⟩
   ·exact h.has p hp,by
   simp only [aC,List.nodup_cons];refine ⟨λhx=>?_,h.nd⟩;obtain ⟨p,hp,e⟩:=List.mem_map.1 hx;exact h4 p hp e⟩
theorem Sn.set {b:Nat} {v0:Value} {e:TypeId} (h:Sn eG W0 ((b,.cells #[v0] e)::L) own W) (hb0:∀x,eG x->x<W0.heap.size) (v:Value):Sn eG W0 ((b,.cells #[v] e)::L) own (W.setCell ⟨b,0,none⟩ v):=by
 have hb:=h.has _ (aQ ..);have ha:=Go.Conc.aside_setCell W ⟨b,0,none⟩ v;refine ⟨⟨h.kept.rely.trans ⟨ha.tape,ha.output,by rw [ha.os];exact OsLater.refl _,Nat.le_of_eq ha.size.symm, λx hx=>ha.block x λe=>?_, λ_ x=>az x, λ_ x=>az x, λ_ _ x=>az x⟩,h.kept.sub, λx hx=>(h.kept.new x hx).imp id λy=>⟨y.1,by rw [ha.size];exact y.2⟩⟩, λx hx=>by rw [ha.size];exact h.lt x hx, λp hp=>?_,h.nd⟩
 ·have :=hb0 x hx;have :=hb.2.1;have e:x=b:=e;omega
 ·rcases bE.1 hp with rfl|hp'
  ·refine ⟨hb.1,hb.2.1,?_⟩;show (W.setCell ⟨b,0,none⟩ v).heap[b]?=_
   rw [heap_setCell_same W b 0 _ e v hb.2.2];rfl
  ·obtain ⟨a,c,d⟩:=h.has p (aR _ hp');refine ⟨a,c,(ha.block _ λe=>?_).trans d⟩;have hn:=h.nd;simp only [aC,List.nodup_cons] at hn;have e:p.1=b:=e;exact hn.1 (e ▸ List.mem_map_of_mem hp')
theorem Sn.mine (h:Sn eG W0 L own W) {b:Nat} {o:Obj} (hm:(b,o)∈L):own b:=(h.has _ hm).1
theorem Sn.cell (h:Sn eG W0 L own W) {b:Nat} {v:Value} {e:TypeId} (hm:(b,Obj.cells #[v] e)∈L):W.cell? ⟨b,0,none⟩=some v:=C1.cell ⟨e,(h.has _ hm).2.2⟩
theorem Sn.free (h:Sn eG W0 L own W) {b:Nat} {v:Value} {e:TypeId} (hm:(b,Obj.cells #[v] e)∈L):W.frozen? ⟨b,0,none⟩=false:=C1.free ⟨e,(h.has _ hm).2.2⟩
end
section
variable {main:Bool} {eG own:Nat->Prop} {W0:World} {L:List (Nat×Obj)} {Stop:(Nat->Prop)->Goroutine->World->Prop}
variable {b:Frame} {a:Act} {kk:List Item} {cs:List Frame} {W:World} {ops:Array Oper} {i:Nat} {rest:List Nat} {o:Oper} {x y:Operand} {ad:Addr}
theorem Yc {v1 v2 v3 v4:Value} (S:Sn eG W0 L own W) (ho:ops[i]?=some o) (hw:Region.wanted o (yielded ops a.tmps)=true) (hk:b.kind≠ .early) (hop:o.op= .box 26 x) (hx:a.eval x= .agg #[v1,v2,v3,v4])
 (hn:∀n dL W',Sn eG W0 ((n,.cells #[v1,v2,v3,v4] 26)::L) dL W'->Gw Tryz.prog main Z0 Stop dL (G (b.at (a.put o.dst (.pointer (some ⟨n,0,none⟩))) (.inRegion ops rest::kk)) cs) W'):
 Gw Tryz.prog main Z0 Stop own (G (b.at a (.inRegion ops (i::rest)::kk)) cs) W:=
 X0 ho hw hk hop hx (λh=>h) (λ_ h=>az h) λ_ hr=>hn _ _ _ ((S.rely hr).push _)
theorem Yd (S:Sn eG W0 L own W) (ho:ops[i]?=some o) (hw:Region.wanted o (yielded ops a.tmps)=true) (hk:b.kind≠ .early) (hop:o.op= .alloc 44)
 (hn:∀n dL W',Sn eG W0 ((n,.cells #[.slice none 0 0] 44)::L) dL W'->Gw Tryz.prog main Z0 Stop dL (G (b.at (a.put o.dst (.pointer (some ⟨n,0,none⟩))) (.inRegion ops rest::kk)) cs) W'):
 Gw Tryz.prog main Z0 Stop own (G (b.at a (.inRegion ops (i::rest)::kk)) cs) W:=
 X7 ho hw hk hop (λh=>h) (λ_ h=>az h) λ_ hr=>hn _ _ _ ((S.rely hr).push _)
theorem Js (S:Sn eG W0 L own W) (ho:ops[i]?=some o) (hw:Region.wanted o (yielded ops a.tmps)=true) (hk:b.kind≠ .early) (hop:o.op= .alloc 4)
 (hn:∀n dL W',Sn eG W0 ((n,.cells #[.bool false] 4)::L) dL W'->Gw Tryz.prog main Z0 Stop dL (G (b.at (a.put o.dst (.pointer (some ⟨n,0,none⟩))) (.inRegion ops rest::kk)) cs) W'):
 Gw Tryz.prog main Z0 Stop own (G (b.at a (.inRegion ops (i::rest)::kk)) cs) W:=
 Jq ho hw hk hop (λh=>h) (λ_ h=>az h) λ_ hr=>hn _ _ _ ((S.rely hr).push _)
theorem Vr (S:Sn eG W0 L own W) (ho:ops[i]?=some o) (hw:Region.wanted o (yielded ops a.tmps)=true) (hk:b.kind≠ .early) (hop:o.op= .alloc 89)
 (hn:∀n dL W',Sn eG W0 ((n,.cells #[.pointer none] 89)::L) dL W'->Gw Tryz.prog main Z0 Stop dL (G (b.at (a.put o.dst (.pointer (some ⟨n,0,none⟩))) (.inRegion ops rest::kk)) cs) W'):
 Gw Tryz.prog main Z0 Stop own (G (b.at a (.inRegion ops (i::rest)::kk)) cs) W:=
 Vf ho hw hk hop (λh=>h) (λ_ h=>az h) λ_ hr=>hn _ _ _ ((S.rely hr).push _)
theorem Ye (S:Sn eG W0 L own W) (ho:ops[i]?=some o) (hw:Region.wanted o (yielded ops a.tmps)=true) (hk:b.kind≠ .early) (hop:o.op= .alloc 97)
 (hn:∀n dL W',Sn eG W0 ((n,.cells #[.int .i32 0,.int .u32 0] 97)::L) dL W'->Gw Tryz.prog main Z0 Stop dL (G (b.at (a.put o.dst (.pointer (some ⟨n,0,none⟩))) (.inRegion ops rest::kk)) cs) W'):
 Gw Tryz.prog main Z0 Stop own (G (b.at a (.inRegion ops (i::rest)::kk)) cs) W:=
 Ya ho hw hk hop (λh=>h) (λ_ h=>az h) λ_ hr=>hn _ _ _ ((S.rely hr).push _)
theorem Yf (S:Sn eG W0 L own W) (ho:ops[i]?=some o) (hw:Region.wanted o (yielded ops a.tmps)=true) (hk:b.kind≠ .early) (hop:o.op= .alloc 104)
 (hn:∀n dL W',Sn eG W0 ((n,.cells #[.int .u64 0,.int .u32 0] 104)::L) dL W'->Gw Tryz.prog main Z0 Stop dL (G (b.at (a.put o.dst (.pointer (some ⟨n,0,none⟩))) (.inRegion ops rest::kk)) cs) W'):
 Gw Tryz.prog main Z0 Stop own (G (b.at a (.inRegion ops (i::rest)::kk)) cs) W:=
 Yb ho hw hk hop (λh=>h) (λ_ h=>az h) λ_ hr=>hn _ _ _ ((S.rely hr).push _)
theorem Vs (S:Sn eG W0 L own W) (ho:ops[i]?=some o) (hw:Region.wanted o (yielded ops a.tmps)=true) (hk:b.kind≠ .early) (hop:o.op= .alloc 108)
 (hn:∀n dL W',Sn eG W0 ((n,.cells #[.nilFunc] 108)::L) dL W'->Gw Tryz.prog main Z0 Stop dL (G (b.at (a.put o.dst (.pointer (some ⟨n,0,none⟩))) (.inRegion ops rest::kk)) cs) W'):
 Gw Tryz.prog main Z0 Stop own (G (b.at a (.inRegion ops (i::rest)::kk)) cs) W:=
 Vg ho hw hk hop (λh=>h) (λ_ h=>az h) λ_ hr=>hn _ _ _ ((S.rely hr).push _)
theorem af4 (S:Sn eG W0 L own W) (ho:ops[i]?=some o) (hw:Region.wanted o (yielded ops a.tmps)=true) (hk:b.kind≠ .early) (hop:o.op= .buildSlice 109 2 #[(0,.const (.bool false)),(1,.const (.bool true))])
 (hn:∀n dL W',Sn eG W0 ((n,.cells #[.bool false,.bool true] 4)::L) dL W'->Gw Tryz.prog main Z0 Stop dL (G (b.at (a.put o.dst (.slice (some ⟨n,0,none⟩) 2 2)) (.inRegion ops rest::kk)) cs) W'):
 Gw Tryz.prog main Z0 Stop own (G (b.at a (.inRegion ops (i::rest)::kk)) cs) W:=
 ae9 ho hw hk hop (λh=>h) (λ_ h=>az h) λ_ hr=>hn _ _ _ ((S.rely hr).push _)
theorem Vt {v1 v2 v3 v4:Value} {e:TypeId} {bb:Nat} (S:Sn eG W0 L own W) (ho:ops[i]?=some o) (hw:Region.wanted o (yielded ops a.tmps)=true) (hk:b.kind≠ .early) (hop:o.op= .load 26 x) (hx:a.eval x= .pointer (some ⟨bb,0,none⟩)) (hm:(bb,Obj.cells #[v1,v2,v3,v4] e)∈L)
 (hn:∀W',Sn eG W0 L own W'->Gw Tryz.prog main Z0 Stop own (G (b.at (a.put o.dst (.agg #[v1,v2,v3,v4])) (.inRegion ops rest::kk)) cs) W'):
 Gw Tryz.prog main Z0 Stop own (G (b.at a (.inRegion ops (i::rest)::kk)) cs) W:=
 Vh ho hw hk hop hx (λh=>h) (.inl (S.mine hm)) (S.has _ hm).2.2 λ_ hr=>hn _ (S.rely hr)
theorem Vu {p:Option Addr} {v0:Value} {e:TypeId} {bb:Nat} (S:Sn eG W0 ((bb,.cells #[v0] e)::L) own W) (hb0:∀x,eG x->x<W0.heap.size) (ho:ops[i]?=some o) (hw:Region.wanted o (yielded ops a.tmps)=true) (hk:b.kind≠ .early) (hop:o.op= .store 89 x y) (hx:a.eval x= .pointer (some ⟨bb,0,none⟩)) (hy:a.eval y= .pointer p)
 (hn:∀W',Sn eG W0 ((bb,.cells #[.pointer p] e)::L) own W'->Gw Tryz.prog main Z0 Stop own (G (b.at (a.put o.dst undef) (.inRegion ops rest::kk)) cs) W'):
 Gw Tryz.prog main Z0 Stop own (G (b.at a (.inRegion ops (i::rest)::kk)) cs) W:=
 Vi ho hw hk hop hx hy (λh=>h) (S.mine (aQ ..)) (λh=>h) (S.cell (aQ ..)) (S.free (aQ ..)) λ_ hr=>hn _ ((S.rely hr).set hb0 _)
theorem Vv {fn:Fn} {f1 f2:Array Value} {v0:Value} {e:TypeId} {bb:Nat} (S:Sn eG W0 ((bb,.cells #[v0] e)::L) own W) (hb0:∀x,eG x->x<W0.heap.size) (ho:ops[i]?=some o) (hw:Region.wanted o (yielded ops a.tmps)=true) (hk:b.kind≠ .early) (hop:o.op= .store 108 x y) (hx:a.eval x= .pointer (some ⟨bb,0,none⟩)) (hy:a.eval y= .func fn f1 f2)
 (hn:∀W',Sn eG W0 ((bb,.cells #[.func fn f1 f2] e)::L) own W'->Gw Tryz.prog main Z0 Stop own (G (b.at (a.put o.dst undef) (.inRegion ops rest::kk)) cs) W'):
 Gw Tryz.prog main Z0 Stop own (G (b.at a (.inRegion ops (i::rest)::kk)) cs) W:=
 Vj ho hw hk hop hx hy (λh=>h) (S.mine (aQ ..)) (λh=>h) (S.cell (aQ ..)) (S.free (aQ ..)) λ_ hr=>hn _ ((S.rely hr).set hb0 _)
theorem PL {f:FuncId} {fn:Func} {c0:Code} {args:Array Operand} {ats:Array TypeId} (S:Sn eG W0 L own W) (ho:ops[i]?=some o) (hw:Region.wanted o (yielded ops a.tmps)=true) (hk:b.kind≠ .early) (hop:o.op= .call { callee:=.value (.func f),args,argTypes:=ats })
 (hf:Tryz.prog.funcs[f]?=some fn) (hname:(fn.name== "runtime.NumGoroutine")=false) (hb:fn.body=some c0)
 (hn:∀W',Sn eG W0 L own W'->Gw Tryz.prog main Z0 Stop own (G (Frame.enter Tryz.prog f (args.map a.eval) .normal) (b.at a (.inRegion ops (i::rest)::kk)::cs)) W'):
 Gw Tryz.prog main Z0 Stop own (G (b.at a (.inRegion ops (i::rest)::kk)) cs) W:=
 sJ ho hw hk hop hf hname hb λ_ hr=>hn _ (S.rely hr)
end
section
variable {As eG own:Nat->Prop} {W0 W:World} {b:fe} {v:jR} {Stop:(Nat->Prop)->Goroutine->World->Prop} {gz:Frame} {K':List Frame}
noncomputable def RP:Code:=(dP 14 oH).getD .skip
noncomputable def Mr (gz:Frame) (K':List Frame) (bs bm bf cw Mu Wg cb sb j:Nat) (j0 j1 j6 j11 j12 j13 nJ nK l6 l7 l8 l9 mg mh mo mq mD mE mF mG mH mJ mK:Value):Goroutine:=
 G ((base 28).at ⟨#[j0,j1,.pointer (some ⟨bs,0,none⟩),.pointer (some ⟨bm,0,none⟩),.pointer (some ⟨bf,0,none⟩),.int .i64 0,j6,.pointer (some ⟨cw,0,none⟩),.pointer (some ⟨Mu,0,none⟩),.pointer (some ⟨Wg,0,none⟩),.pointer (some ⟨cb,0,none⟩),j11,j12,j13,nJ,nK,l6,l7,l8,l9,mg,.slice (some ⟨sb,0,none⟩) 2 2,.int .i64 2,.int .i64 (j:Int),mh,mo,mq,mD,mE,mF,mG,mH,mJ,mK],[]⟩ [.code LP,.inLoop LP,.inBlock 0,.code RP]) (gz::K')
def Bu (gz:Frame) (K':List Frame) (bs bm bf cw Mu Wg cb sb j:Nat) (Q:Goroutine->Prop):Prop:=
 ∀j0 j1 j6 j11 j12 j13 nJ nK l6 l7 l8 l9 mg mh mo mq mD mE mF mG mH mJ mK,Q (Mr gz K' bs bm bf cw Mu Wg cb sb j j0 j1 j6 j11 j12 j13 nJ nK l6 l7 l8 l9 mg mh mo mq mD mE mF mG mH mJ mK)
def nR (b:fe) (v:jR) (bx bs bm bf cw Mu Wg cb sb bw:Nat) (A:Option Addr) (cap:Nat) (e:TypeId) (fr:Nat×Nat) (sL:List (Nat×Obj)):List (Nat×Obj):=
 [(sb,.cells #[.bool false,.bool true] 4),(cb,.cells #[.func (.func 58) #[] #[.pointer (some ⟨bs,0,none⟩),.pointer (some ⟨bf,0,none⟩),.pointer (some ⟨bm,0,none⟩)]] 108),(Wg,.cells #[.int .u64 0,.int .u32 0] 104),(Mu,.cells #[.int .i32 0,.int .u32 0] 97),(cw,.cells #[.pointer (some ⟨bw,0,none⟩)] 89),
   (bw,.cells #[.slice A (fM b (-1)).length cap,.int .i64 (b.steps.length:Int),.int .i64 (eY b (-1):Int)] e fr)]++sL++ [(bf,.cells #[.bool false] 4),(bm,.cells #[.bool false] 4),(bs,.cells #[.slice none 0 0] 44),(bx,.cells #[.slice v.ah b.eO.length v.ch,.slice v.ap b.dO.length v.cp,.slice v.lT b.steps.length v.cs,.slice v.ac b.dR.length v.cc] 26)]
theorem aw8 (hb:xw As eG W0 b v) (hlt:∀a,eG a->a<W0.heap.size) (kU:Tryz.prog.globals.size<W0.heap.size) (hs:b.small) (hc0:gL b=0)
 (hnext:∀bx bs bm bf cw Mu Wg cb sb bw A cap e fr sL own W,Sn eG W0 (nR b v bx bs bm bf cw Mu Wg cb sb bw A cap e fr sL) own W->lV W W.heap.size bw (fM b (-1)) b.steps.length (eY b (-1)) A cap->(∀a,A=some a->∃cur e fr,(a.block,.cells cur e fr)∈sL∧∀x∈cur,fA x=true)->
   ∀w,dZ Z0 own W w->Bu gz K' bs bm bf cw Mu Wg cb sb 0 λg=>Gw Tryz.prog true Z0 Stop own g w):
 Gw Tryz.prog true Z0 Stop eG (G (Frame.enter Tryz.prog 28 #[fJ b v] .normal) (gz::K')) W0:=by
 have S:Sn eG W0 [] eG W0:=Sn.start hlt;have HN:=dw hnext;clear hnext;have hg:=oz hs hc0;have HB:=dw (aM hb (aM hlt (aM kU (aM hs hc0))));clear hb hs hc0 kU;rw [enter_at _ Tryz.func28 Mq];unfold fJ
 walk_nrmf Tryz.f28
 simp only [oH,Tryz.f28,ak];have hF:dZ Z0 eG W0 W0:=dZ.refl _;refine dH (n:=60) ?_
 repeat w_nl fq
 refine cz λw₁ h₁=>?_
 replace S:=S.rely (fq hF h₁);clear hF h₁;refine Yc (v1:=.slice v.ah b.eO.length v.ch) (v2:=.slice v.ap b.dO.length v.cp) (v3:=.slice v.lT b.steps.length v.cs) (v4:=.slice v.ac b.dR.length v.cc) (o:=?_) (x:=?_) S ?_ ?_ ?_ ?_ ?_ ?_
 rotate_left 2
 iterate 2 rfl
 ·k_ne
 iterate 2 rfl
 clear S;intro bx pI W1 S;walk_nrm;refine Yd (o:=?_) S ?_ ?_ ?_ ?_ ?_
 rotate_left 1
 iterate 2 rfl
 ·k_ne
 iterate 1 rfl
 clear S;intro bs pI W1 S;walk_nrm;refine Js (o:=?_) S ?_ ?_ ?_ ?_ ?_
 rotate_left 1
 iterate 2 rfl
 ·k_ne
 iterate 1 rfl
 clear S;intro bm pI W1 S;walk_nrm;refine Js (o:=?_) S ?_ ?_ ?_ ?_ ?_
 rotate_left 1
 iterate 2 rfl
 ·k_ne
 iterate 1 rfl
 clear S;intro bf pI W1 S;walk_nrm;have hF:dZ Z0 pI W1 W1:=dZ.refl _;refine dH (n:=60) ?_
 repeat w_nl fq
 refine cz λw₁ h₁=>?_
 replace S:=S.rely (fq hF h₁);clear hF h₁;refine Vt (v1:=.slice v.ah b.eO.length v.ch) (v2:=.slice v.ap b.dO.length v.cp) (v3:=.slice v.lT b.steps.length v.cs) (v4:=.slice v.ac b.dR.length v.cc) (o:=?_) (x:=?_) (bb:=bx) (e:=26) S ?_ ?_ ?_ ?_ ?_ (by simp) ?_
 rotate_left 2
 iterate 2 rfl
 ·k_ne
 iterate 2 rfl
 clear S;intro W1 S;walk_nrm;refine PL (o:=?_) (args:=?_) (ats:=?_) S ?_ ?_ ?_ ?_ Tryz.func17 Vp Vq ?_
 rotate_left 3
 iterate 2 rfl
 ·k_ne
 ·rfl
 clear S;intro W1 S;walk_nrm;refine af0 (HB.out.1.kept HB.out.2.1 S.kept) S.lt (aK HB.out.2.2.1 S.kept.rely.size) HB.out.2.2.2.1 λBq W2 hk=>?_
 replace S:=S.call hk;clear hk pI W1;rw [HB.out.2.2.2.2,Frame.finish_at];revert Bq W2;intro pI W1 S;have hF:dZ Z0 pI W1 W1:=dZ.refl _;refine dH (n:=60) ?_
 walk_nrm
 repeat w_nl fq
 refine cz λw₁ h₁=>?_
 replace S:=S.rely (fq hF h₁);clear hF h₁;refine Vt (v1:=.slice v.ah b.eO.length v.ch) (v2:=.slice v.ap b.dO.length v.cp) (v3:=.slice v.lT b.steps.length v.cs) (v4:=.slice v.ac b.dR.length v.cc) (o:=?_) (x:=?_) (bb:=bx) (e:=26) S ?_ ?_ ?_ ?_ ?_ (by simp) ?_
 rotate_left 2
 iterate 2 rfl
 ·k_ne
 iterate 2 rfl
 clear S;intro W1 S;walk_nrm;refine PL (o:=?_) (args:=?_) (ats:=?_) S ?_ ?_ ?_ ?_ Tryz.func56 af2 af3 ?_
 rotate_left 3
 iterate 2 rfl
 ·k_ne
 ·rfl
 clear S;intro W1 S;walk_nrm;refine aw7 (HB.out.1.kept HB.out.2.1 S.kept) S.lt (aK HB.out.2.2.1 S.kept.rely.size) hg (by omega) λBq W2 bw A cap hk vS aw9 Xf=>?_
 have hsz:=S.kept.rely.size;have ap7:=S.lt;have Zj:=S.has;replace S:=S.call hk;obtain ⟨e,fr,hwb⟩:=vS.blk
 obtain ⟨sL,Wr,S',hat,hsL⟩:∃sL Wr,Sn eG W0 ([(bw,.cells #[.slice A (fM b (-1)).length cap,.int .i64 (b.steps.length:Int),.int .i64 (eY b (-1):Int)] e fr)]++sL++ [(bf,.cells #[.bool false] 4),(bm,.cells #[.bool false] 4),(bs,.cells #[.slice none 0 0] 44),(bx,.cells #[.slice v.ah b.eO.length v.ch,.slice v.ap b.dO.length v.cp,.slice v.lT b.steps.length v.cs,.slice v.ac b.dR.length v.cc] 26)]) Bq W2∧
  (lV Wr Wr.heap.size bw (fM b (-1)) b.steps.length (eY b (-1)) A cap∧Wr.heap[bw]?=some (.cells #[.slice A (fM b (-1)).length cap,.int .i64 (b.steps.length:Int),.int .i64 (eY b (-1):Int)] e fr))∧(∀a,A=some a->∃cur e fr,(a.block,.cells cur e fr)∈sL∧Wr.heap[a.block]?=some (.cells cur e fr)∧∀x∈cur,fA x=true):=by
  have hne1:∀p∈ [(bf,Obj.cells #[.bool false] 4),(bm,.cells #[.bool false] 4),(bs,.cells #[.slice none 0 0] 44),(bx,.cells #[.slice v.ah b.eO.length v.ch,.slice v.ap b.dO.length v.cp,.slice v.lT b.steps.length v.cs,.slice v.ac b.dR.length v.cc] 26)],p.1<W1.heap.size:= λp hp=>ap7 _ (Zj p hp).1
  cases hA:A with
  |none=>
   subst hA;refine ⟨[],W2,S.add vS.ow (by omega) hwb λp hp e=>?_,⟨vS.at_,hwb⟩, λa h=>by cases h⟩;have :=hne1 p hp;omega
  |some a=>
   subst hA;obtain ⟨k1,cur,e',fr',k2,k3⟩:=vS.str a rfl;have k4:=Xf a rfl;refine ⟨[(a.block,.cells cur e' fr')],W2,Sn.add (L:=(a.block,.cells cur e' fr')::_) (S.add k1 (by omega) k2 λp hp e=>?_) vS.ow (by omega) hwb λp hp e=>?_,⟨vS.at_,hwb⟩, λa' h=>?_⟩
   ·have :=hne1 p hp;omega
   ·rcases bE.1 hp with rfl|hp
    ·have e:a.block=bw:=e;rw [e,hwb] at k2;cases k2;have :=k3 (.slice (some a) (fM b (-1)).length cap) (by simp);simp [fA] at this
    ·have :=hne1 p hp;omega
   ·cases h;exact ⟨cur,e',fr',by simp,k2,k3⟩
 clear S;have S:=S';clear S';clear hk pI W1 vS hwb aw9 Xf hsz ap7 Zj;rw [Frame.finish_at];have HW:=dw (aM hat hsL);clear hat hsL;simp only [List.cons_append,List.nil_append] at S;revert Bq W2;intro pI W1 S;have hF:dZ Z0 pI W1 W1:=dZ.refl _;refine dH (n:=60) ?_
 walk_nrm
 repeat w_nl fq
 refine cz λw₁ h₁=>?_
 replace S:=S.rely (fq hF h₁);clear hF h₁;refine Vr (o:=?_) S ?_ ?_ ?_ ?_ ?_
 rotate_left 1
 iterate 2 rfl
 ·k_ne
 iterate 1 rfl
 clear S;intro cw pI W1 S;walk_nrm;refine Vu (p:=some ⟨bw,0,none⟩) (o:=?_) (x:=?_) (y:=?_) S hlt ?_ ?_ ?_ ?_ ?_ ?_ ?_
 rotate_left 3
 iterate 2 rfl
 ·k_ne
 iterate 3 rfl
 clear S;intro W1 S;walk_nrm;have hF:dZ Z0 pI W1 W1:=dZ.refl _;refine dH (n:=60) ?_
 repeat w_nl fq
 refine cz λw₁ h₁=>?_
 replace S:=S.rely (fq hF h₁);clear hF h₁;refine Ye (o:=?_) S ?_ ?_ ?_ ?_ ?_
 rotate_left 1
 iterate 2 rfl
 ·k_ne
 iterate 1 rfl
 clear S;intro Mu pI W1 S;walk_nrm;have hF:dZ Z0 pI W1 W1:=dZ.refl _;refine dH (n:=60) ?_
 repeat w_nl fq
 refine cz λw₁ h₁=>?_
 replace S:=S.rely (fq hF h₁);clear hF h₁;refine Yf (o:=?_) S ?_ ?_ ?_ ?_ ?_
 rotate_left 1
 iterate 2 rfl
 ·k_ne
 iterate 1 rfl
 clear S;intro Wg pI W1 S;walk_nrm;have hF:dZ Z0 pI W1 W1:=dZ.refl _;refine dH (n:=60) ?_
 repeat w_nl fq
 refine cz λw₁ h₁=>?_
 replace S:=S.rely (fq hF h₁);clear hF h₁;refine Vs (o:=?_) S ?_ ?_ ?_ ?_ ?_
 rotate_left 1
 iterate 2 rfl
 ·k_ne
 iterate 1 rfl
 clear S;intro cb pI W1 S;walk_nrm;refine Vv (fn:=.func 58) (f1:= #[]) (f2:= #[.pointer (some ⟨bs,0,none⟩),.pointer (some ⟨bf,0,none⟩),.pointer (some ⟨bm,0,none⟩)]) (o:=?_) (x:=?_) (y:=?_) S hlt ?_ ?_ ?_ ?_ ?_ ?_ ?_
 rotate_left 3
 iterate 2 rfl
 ·k_ne
 iterate 3 rfl
 clear S;intro W1 S;walk_nrm;have hF:dZ Z0 pI W1 W1:=dZ.refl _;refine dH (n:=60) ?_
 repeat w_nl fq
 refine cz λw₁ h₁=>?_
 replace S:=S.rely (fq hF h₁);clear hF h₁;refine af4 (o:=?_) S ?_ ?_ ?_ ?_ ?_
 rotate_left 1
 iterate 2 rfl
 ·k_ne
 iterate 1 rfl
 clear S;intro sb pI W1 S;walk_nrm;have hF:dZ Z0 pI W1 W1:=dZ.refl _;refine dH (n:=60) ?_
 repeat w_but "code.loop" fq
 u_c stepG_loop fq hF
 have hS:=S;have m1:=S.has (bw,.cells #[.slice A (fM b (-1)).length cap,.int .i64 (b.steps.length:Int),.int .i64 (eY b (-1):Int)] e fr) (by simp);obtain ⟨⟨hat,hbw⟩,hsL⟩:=HW.out;have hce:∀c,W1.heap[c]?=Wr.heap[c]?->∀o,W1.cell? ⟨c,o,none⟩=Wr.cell? ⟨c,o,none⟩:= λc h o=>fV h o
 have hW:lV W1 W1.heap.size bw (fM b (-1)) b.steps.length (eY b (-1)) A cap:=
  ⟨S.lt _ m1.1,(hce _ (m1.2.2.trans hbw.symm) _).trans hat.c0,(hce _ (m1.2.2.trans hbw.symm) _).trans hat.c1,(hce _ (m1.2.2.trans hbw.symm) _).trans hat.c2, λhn=>by
    obtain ⟨bb,off,e',h1,h2⟩:=hat.rd hn;obtain ⟨cur,e2,Ub,k1,k2,_⟩:=hsL _ e';have m2:=S.has (bb,.cells cur e2 Ub) (by simp [k1]);exact ⟨bb,off,e',S.lt _ m2.1, λi j hi hj=>(hce _ (m2.2.2.trans k2.symm) _).trans (h2 i j hi hj)⟩,hat.ok,hat.len⟩
 have hnx:=HN.out bx bs bm bf cw Mu Wg cb sb bw A cap e fr sL pI W1 (by unfold nR;simpa using S) hW λa ha=>by
  obtain ⟨cur,e2,Ub,k1,k2,k3⟩:=hsL a ha;exact ⟨cur,e2,Ub,k1,k3⟩
 clear HN hat hbw hsL hce hW m1 hS S HW;unfold Bu Mr at hnx;simp only [LP,RP,oH,dM,dP,eF,Tryz.f28,ak,Nat.reduceEqDiff,if_true,if_false,reduceIte] at hnx;exact cz λw₃ h₃=>hnx w₃ (fq hF h₃) _ _ _ _ _ _ _ _ _ _ _ _ _ _ _ _ _ _ _ _ _ _ _
end
end
section
attribute [local instance] noSh jm
theorem nm_add:((addFn Tryz.link).name== "runtime.NumGoroutine")=false:=by kernel_rfl
theorem nm_wait:((waitFn Tryz.link).name== "runtime.NumGoroutine")=false:=by kernel_rfl
theorem Vw:(addFn Tryz.link).body=some (body_add Tryz.link):=by unfold body_add addFn;rfl
theorem PM:(waitFn Tryz.link).body=some (body_wait Tryz.link):=by unfold body_wait waitFn;rfl
theorem RF (x y:Value):Frame.enter Tryz.prog 62 #[x,y] .normal=(base Tryz.link.add).at ⟨#[x,y]++(List.replicate 115 undef).toArray,[]⟩ [.code (body_add Tryz.link)]:=by
 have h:=enter_at (P:=Tryz.prog) (f:=62) #[x,y] Tryz.jy.f_add Vw;rw [h];have e:Array.replicate ((addFn Tryz.link).ntmps - (#[x,y]:Array Value).size) undef=(List.replicate 115 undef).toArray:=by rw [List.toArray_replicate];rfl
 rw [e]
theorem Oi (x:Value):Frame.enter Tryz.prog 69 #[x] .normal=(base Tryz.link.wait).at ⟨#[x]++(List.replicate 83 undef).toArray,[]⟩ [.code (body_wait Tryz.link)]:=by
 have h:=enter_at (P:=Tryz.prog) (f:=69) #[x] Tryz.jy.f_wait PM;rw [h];have e:Array.replicate ((waitFn Tryz.link).ntmps - (#[x]:Array Value).size) undef=(List.replicate 83 undef).toArray:=by rw [List.toArray_replicate];rfl
 rw [e]
structure Bs (jY:Nat->Prop) (Bz:World) (own:Nat->Prop) (W:World):Prop where
 tape:W.tape=Bz.tape
 out:W.output=Bz.output
 os:OsLater Bz.os W.os
 size:Bz.heap.size<=W.heap.size
 kept:∀b,jY b->W.heap[b]?=Bz.heap[b]?
 sub:∀b,jY b->own b
theorem Bs.rely {jY own:Nat->Prop} {Bz W W1:World} {Z:gB} (h:Bs jY Bz own W) (hr:dZ Z own W W1):Bs jY Bz own W1:=
 ⟨hr.tape.trans h.tape,hr.out.trans h.out,h.os.trans hr.os,aT h.size hr.size, λb hb=>(hr.own b (h.sub b hb)).trans (h.kept b hb),h.sub⟩
structure HP (jY:Nat->Prop) (Bz:World) (Mu Wg cw cb bs bm bf bw sb:Nat) (ss:List fI) (n:Nat) (own ro:Nat->Prop) (W:World):Prop where
 XN:ro cw
 rcb:ro cb
 Zg:ro bw
 Va:W.cell? ⟨cw,0,none⟩=some (.pointer (some ⟨bw,0,none⟩))
 XP:W.cell? ⟨cb,0,none⟩=some (.func (.func 58) #[] #[.pointer (some ⟨bs,0,none⟩),.pointer (some ⟨bf,0,none⟩),.pointer (some ⟨bm,0,none⟩)])
 Zh:∃A cap e fr,W.heap[bw]?=some (.cells #[.slice A ss.length cap,.int .i64 (n:Int),.int .i64 ((n+1:Nat):Int)] e fr)∧lV W W.heap.size bw ss n (n+1) A cap∧
  ∀a,A=some a->ro a.block∧∃cur e fr,W.heap[a.block]?=some (.cells cur e fr)∧∀x∈cur,fA x=true
 osb:own sb
 vsb:∀j,j<2->W.cell? ⟨sb,j,none⟩=some (.bool (decide (j=1)))
 env:Env Mu Wg own ro W
 mu:Bg 97 Mu W
 base:Bs jY Bz own W
section
variable {jY:Nat->Prop} {Bz:World} {Mu Wg cw cb bs bm bf bw sb:Nat} {ss:List fI} {n:Nat} {own ro:Nat->Prop} {W W1:World} {Z:gB}
theorem HP.rely (h:HP jY Bz Mu Wg cw cb bs bm bf bw sb ss n own ro W) (hz:Z.ro=ro) (hs:Z.sy= λb=>b=Mu∨b=Wg) (hr:dZ Z own W W1):HP jY Bz Mu Wg cw cb bs bm bf bw sb ss n own ro W1:=by
 have hro:∀b,ro b->W1.heap[b]?=W.heap[b]?:= λb hb=>hr.ro b (by rw [hz];exact hb)
 obtain ⟨a1,a2,a3,a5,a6,⟨A,cap,e,fr,a8,a9,Vb⟩,a7,b1,b2,b3,b4⟩:=h;refine ⟨a1,a2,a3,(fV (hro _ a1) _).trans a5,(fV (hro _ a2) _).trans a6,⟨A,cap,e,fr,(hro _ a3).trans a8,xu a9 (hro _ a3) (λa e _=>hro _ (Vb a e).1) hr.size, λa ha=>?_⟩,a7, λj hj=>(fV (hr.own _ a7) _).trans (b1 j hj),b2.rel (by rw [hs];exact .inr rfl) hr,Bh b3 (hr.sy _ (by rw [hs];exact .inl rfl)),b4.rely hr⟩;obtain ⟨h1,cur,e',fr',h2,h3⟩:=Vb a ha;exact ⟨h1,cur,e',fr',(hro _ h1).trans h2,h3⟩
theorem HP.grow {dL:Nat->Prop} (h:HP jY Bz Mu Wg cw cb bs bm bf bw sb ss n own ro W) (hsz:W.heap.size<=W1.heap.size) (ho:∀b,own b->dL b) (hn:∀b,dL b->own b∨(W.heap.size<=b∧b<W1.heap.size)) (ht:W1.tape=W.tape∧W1.output=W.output∧W1.os=W.os) {x:Nat} (hx:x≠sb∧¬ro x∧x≠Mu∧x≠Wg∧¬jY x) (hk:∀b,b<W.heap.size->b≠x->W1.heap[b]?=W.heap[b]?):HP jY Bz Mu Wg cw cb bs bm bf bw sb ss n dL ro W1:=by
 obtain ⟨a1,a2,a3,a5,a6,⟨A,cap,e,fr,a8,a9,Vb⟩,a7,b1,b2,b3,b4⟩:=h;have hro:∀b,ro b->W1.heap[b]?=W.heap[b]?:= λb hb=>hk b (b2.ro b hb) λe=>hx.2.1 (e ▸ hb)
 refine ⟨a1,a2,a3,(fV (hro _ a1) _).trans a5,(fV (hro _ a2) _).trans a6,⟨A,cap,e,fr,(hro _ a3).trans a8,xu a9 (hro _ a3) (λa e _=>hro _ (Vb a e).1) hsz, λa ha=>?_⟩,ho _ a7, λj hj=>(fV (hk _ (b2.own _ a7).1 λe=>hx.1 e.symm) _).trans (b1 j hj),
  ⟨b2.rs, λb hb=>?_, λb hb=>aK (b2.ro b hb) hsz,aK b2.mu hsz,aK b2.wg hsz,aK b2.kU hsz,?_⟩,?_,⟨ht.1.trans b4.tape,ht.2.1.trans b4.out,by rw [ht.2.2];exact b4.os,aT b4.size hsz, λb hb=>(hk b (b2.own b (b4.sub b hb)).1 λe=>hx.2.2.2.2 (e ▸ hb)).trans (b4.kept b hb), λb hb=>ho b (b4.sub b hb)⟩⟩
 ·obtain ⟨h1,cur,e',fr',h2,h3⟩:=Vb a ha;exact ⟨h1,cur,e',fr',(hro _ h1).trans h2,h3⟩
 ·rcases hn b hb with h|⟨h1,h2⟩
  ·exact ⟨aK (b2.own b h).1 hsz,(b2.own b h).2⟩
  ·exact ⟨h2, λe=>by have :=b2.mu;omega, λe=>by have :=b2.wg;omega, λe=>by have :=b2.ro b e;omega⟩
 ·obtain ⟨p,q,h⟩:=b2.wl;exact ⟨p,q,(hk _ b2.wg λe=>hx.2.2.2.1 e.symm).trans h⟩
 ·obtain ⟨p,q,h⟩:=b3;exact ⟨p,q,(hk _ b2.mu λe=>hx.2.2.1 e.symm).trans h⟩
theorem HP.less {dL:Nat->Prop} (h:HP jY Bz Mu Wg cw cb bs bm bf bw sb ss n own ro W) (ho:∀b,dL b->own b) (hs:dL sb) (h0:∀b,jY b->dL b):HP jY Bz Mu Wg cw cb bs bm bf bw sb ss n dL ro W:=
 ⟨h.XN,h.rcb,h.Zg,h.Va,h.XP,h.Zh,hs,h.vsb,⟨h.env.rs, λb hb=>h.env.own b (ho b hb),h.env.ro,h.env.mu,h.env.wg,h.env.kU,h.env.wl⟩,h.mu,⟨h.base.tape,h.base.out,h.base.os,h.base.size,h.base.kept,h0⟩⟩
theorem HP.wk {cm:Nat} {m:Bool} {sw:Nat->Prop} (h:HP jY Bz Mu Wg cw cb bs bm bf bw sb ss n own ro W) (hc:sw cm) (hv:W.cell? ⟨cm,0,none⟩=some (.bool m)):WK cw cm cb bs bm bf bw ss n m sw ro W:=
 ⟨h.XN,h.rcb,h.Zg,hc,h.Va,h.XP,hv,h.Zh⟩
end
section
variable {Mu Wg cw cb bs bm bf bw sb:Nat} {N:Nat->Nat} {J:Nat->Nat->(Nat->Prop)->World->Prop} {ro:Nat->Prop} {Anch:(Nat->Prop)->Goroutine->World->Prop}
variable {jY:Nat->Prop} {Bz:World} {own:Nat->Prop} {W:World} {j n:Nat} {ss:List fI} {gz:Frame} {K':List Frame}
theorem uY:((cfg Mu Wg 104 N J ro Anch).Zs j).sy= λb=>b=Mu∨b=Wg:=by
 funext b;apply propext;exact ⟨λh=>h.elim id λh=>az h,.inl⟩
theorem nA {own:Nat->Prop} {w0 w w1:World} {Z:gB} (h:dZ Z own w0 w) (hr:dZ Z own w w1):dZ Z own w0 w1:=h.trans hr
section
variable {b:Frame} {a:Act} {kk:List Item} {cs:List Frame} {w:World} {ops:Array Oper} {i:Nat} {rest:List Nat} {o:Oper} {x:Operand} {cm:Nat} {dL sw:Nat->Prop}
theorem goW (ho:ops[i]?=some o) (hw:Region.wanted o (yielded ops a.tmps)=true) (hk:b.kind≠ .early) (hop:o.op= .go { callee:=.value x,args:= #[],argTypes:= #[] })
 (hx:a.eval x= .func (.func 63) #[] #[.pointer (some ⟨Wg,0,none⟩),.pointer (some ⟨cw,0,none⟩),.pointer (some ⟨cm,0,none⟩),.pointer (some ⟨Mu,0,none⟩),.pointer (some ⟨cb,0,none⟩),.pointer (some ⟨bs,0,none⟩),.pointer (some ⟨bm,0,none⟩),.pointer (some ⟨bf,0,none⟩)]):
 stepG Tryz.prog true (G (b.at a (.inRegion ops (i::rest)::kk)) cs) w= .spawn (G (b.at (a.put o.dst undef) (.inRegion ops rest::kk)) cs) (born Tryz.prog (GQ Wg cw cm Mu cb bs bm bf)) w #[]:=by
 have hl:listed Tryz.prog b.fn a o w= #[]:=by
  have :(execOp a.eval o).events Tryz.prog w #[]= #[]:=by
   unfold execOp;simp [hop,hx,resolve,Deferred.ofValue]
  unfold listed;rw [this];exact seen_none Tryz.prog _
 have :=stepG_spawn (P:=Tryz.prog) (main:=true) (w:=w) (w':=w) (cs:=cs) (k:=kk) (rest:=rest) (d:=GQ Wg cw cm Mu cb bs bm bf) ho hw hk (by
  unfold execOp GQ;simp [hop,hx,resolve,Deferred.ofValue]) rfl
 rw [this,hl]
theorem ap8 (ho:ops[i]?=some o) (hw:Region.wanted o (yielded ops a.tmps)=true) (hk:b.kind≠ .early) (hop:o.op= .go { callee:=.value x,args:= #[],argTypes:= #[] })
 (hx:a.eval x= .func (.func 63) #[] #[.pointer (some ⟨Wg,0,none⟩),.pointer (some ⟨cw,0,none⟩),.pointer (some ⟨cm,0,none⟩),.pointer (some ⟨Mu,0,none⟩),.pointer (some ⟨cb,0,none⟩),.pointer (some ⟨bs,0,none⟩),.pointer (some ⟨bm,0,none⟩),.pointer (some ⟨bf,0,none⟩)])
 (h2:∀b,own b↔dL b∨sw b) (h3:∀b,dL b->¬sw b)
 (h4:Gw Tryz.prog true ((cfg Mu Wg 104 N J ro Anch).Zs (j+1)) (At Tryz.prog (cfg Mu Wg 104 N J ro Anch).sys 0 (.st (gF (cfg Mu Wg 104 N J ro Anch) (j+1)) (j+1))) dL (G (b.at (a.put o.dst undef) (.inRegion ops rest::kk)) cs) w)
 (h5:∀k,k≠0->Gw Tryz.prog false ((cfg Mu Wg 104 N J ro Anch).Zw j) (At Tryz.prog (cfg Mu Wg 104 N J ro Anch).sys k (vG N j 0 0)) sw (born Tryz.prog (GQ Wg cw cm Mu cb bs bm bf)) w):
 tL Tryz.prog (cfg Mu Wg 104 N J ro Anch).sys (At Tryz.prog (cfg Mu Wg 104 N J ro Anch).sys) 0 (.st .Gp j) own (G (b.at a (.inRegion ops (i::rest)::kk)) cs) w:=
 ad6 rfl rfl (goW ho hw hk hop hx) h2 h3 h4 h5
end
theorem Vx (hne:Mu≠Wg) (zi:bs≠bm∧bs≠bf∧bm≠bf) (hJ:J=JW Mu Wg bs bm bf ro ss n) (hj:j<2) (hN:∀k,k<2->N k=(jP ss n (decide (k=1))).length) (hn:n<=15)
 (hnext:∀own W,HP jY Bz Mu Wg cw cb bs bm bf bw sb ss n own ro W->Bu gz K' bs bm bf cw Mu Wg cb sb (j+1) λg=>Gw Tryz.prog true ((cfg Mu Wg 104 N J ro Anch).Zs (j+1)) (At Tryz.prog (cfg Mu Wg 104 N J ro Anch).sys 0 (.st (gF (cfg Mu Wg 104 N J ro Anch) (j+1)) (j+1))) own g W)
 (hp:HP jY Bz Mu Wg cw cb bs bm bf bw sb ss n own ro W):
 Bu gz K' bs bm bf cw Mu Wg cb sb j λg=>Gw Tryz.prog true ((cfg Mu Wg 104 N J ro Anch).Zs j) (At Tryz.prog (cfg Mu Wg 104 N J ro Anch).sys 0 (.st (gF (cfg Mu Wg 104 N J ro Anch) j) j)) own g W:=by
 intro j0 j1 j6 j11 j12 j13 nJ nK l6 l7 l8 l9 mg mh mo mq mD mE mF mG mH mJ mK;have hnp:gF (cfg Mu Wg 104 N J ro Anch) j= .QX:=aj hj;rw [hnp];have hnm:¬((cfg Mu Wg 104 N J ro Anch).Zs j).mute:= λh=>h
 have HN:=dw hnext;clear hnext;unfold Mr;have hj2:(j:Int)<2:=by omega
 have d0:decide ((j:Int)<2)=true:=decide_eq_true (by omega);simp only [LP,RP,oH,dM,dP,eF,Tryz.f28,ak,Nat.reduceEqDiff,if_true,if_false,reduceIte];have hF:dZ ((cfg Mu Wg 104 N J ro Anch).Zs j) own W W:=dZ.refl _;refine dH (n:=60) ?_
 repeat w_nl nA
 refine cz λw₁ h₁=>?_
 replace hp:=hp.rely rfl uY (nA hF h₁);clear hF h₁;refine sF (o:=?_) (x:=?_) (ad:=⟨sb,j,none⟩) ?_ ?_ ?_ ?_ ?_ hnm (.inl hp.osb) (hp.vsb j hj) ?_
 rotate_left 2
 iterate 2 rfl
 ·k_ne
 iterate 2 rfl
 intro w₂ h₂;replace hp:=hp.rely rfl uY h₂;clear h₂;walk_nrm;refine Jq (o:=?_) ?_ ?_ ?_ ?_ hnm (λb hb=>by rw [uY] at hb;rcases hb with rfl|rfl;exact hp.env.mu;exact hp.env.wg) ?_
 rotate_left 1
 iterate 2 rfl
 ·k_ne
 ·rfl
 intro w₃ h₃;replace hp:=hp.rely rfl uY h₃;clear h₃;have hold:∀c,c<w₃.heap.size->(w₃.heap.push (.cells #[.bool false] 4))[c]?=w₃.heap[c]?:= λc hc=>by rw [Array.getElem?_push_lt hc,aX hc]
 have hcm0:C1 ({ w₃ with heap:=w₃.heap.push (.cells #[.bool false] 4) }:World) w₃.heap.size (.bool false):=⟨4,by simp⟩;obtain ⟨zS,Jt⟩:∃zS:Nat->Prop,zS=own:=⟨_,rfl⟩;have hlt:∀b,zS b->b<w₃.heap.size:= λb hb=>(hp.env.own b (Jt ▸ hb)).1
 have hx:w₃.heap.size≠sb∧¬ro w₃.heap.size∧w₃.heap.size≠Mu∧w₃.heap.size≠Wg∧¬jY w₃.heap.size:=
  ⟨λe=>by have :=(hp.env.own _ hp.osb).1;omega, λe=>by have :=hp.env.ro _ e;omega, λe=>by have :=hp.env.mu;omega, λe=>by have :=hp.env.wg;omega, λe=>by have :=(hp.env.own _ (hp.base.sub _ e)).1;omega⟩
 have h00:∀b,jY b->zS b:= λb hb=>by rw [Jt];exact hp.base.sub b hb
 replace hp:=hp.grow (W1:={ w₃ with heap:=w₃.heap.push (.cells #[.bool false] 4) }) (dL:= λc=>own c∨c=w₃.heap.size) (x:=w₃.heap.size) (by simp) (λb hb=>.inl hb) (λb hb=>hb.imp id λe=>⟨by omega,by simp;omega⟩) ⟨rfl,rfl,rfl⟩ hx (λb hb _=>hold b hb);have ap9:∀b,zS b->b≠w₃.heap.size:= λb hb e=>by have :=hlt b hb;omega
 have hown2:(λc=>own c∨c=w₃.heap.size)= λc=>zS c∨c=w₃.heap.size:=by rw [Jt]
 rw [hown2] at hp ⊢;have ax0:zS sb:=by rw [Jt];(have :=hp.osb;rw [Jt] at this;exact this.resolve_right λe=>hx.1 e.symm)
 clear hold hlt hown2;clear Jt;generalize w₃.heap.size=cm at hp hx ap9 hcm0 ⊢;generalize ({ w₃ with heap:=w₃.heap.push (.cells #[.bool false] 4) }:World)=w₄ at hp hcm0 ⊢;clear w₃ w₂ w₁;walk_nrm;have Oj:zS cm∨cm=cm:=.inr rfl;refine xq (n:=decide (j=1)) (o:=?_) (x:=?_) (y:=?_) (ad:=⟨cm,0,none⟩) ?_ ?_ ?_ ?_ ?_ ?_ hnm Oj (λh=>by rw [uY] at h;rcases h with h|h;exact hx.2.2.1 h;exact hx.2.2.2.1 h) hcm0.cell hcm0.free ?_
 rotate_left 3
 iterate 2 rfl
 ·k_ne
 iterate 3 rfl
 intro w₅ h₅;replace hp:=hp.rely rfl uY h₅;replace hcm0:=(hcm0.same (h₅.own _ Oj)).set (.bool (decide (j=1)));have ha:=Go.Conc.aside_setCell w₅ ⟨cm,0,none⟩ (.bool (decide (j=1)));replace hp:=hp.grow (W1:=w₅.setCell ⟨cm,0,none⟩ (.bool (decide (j=1)))) (dL:= λc=>zS c∨c=cm) (x:=cm) (Nat.le_of_eq ha.size.symm) (λb hb=>hb) (λb hb=>.inl hb) ⟨ha.tape,ha.output,ha.os⟩ hx (λb _ hb=>ha.block b λe=>hb (by rw [e]));clear ha h₅;generalize (w₅.setCell ⟨cm,0,none⟩ (.bool (decide (j=1))))=w₆ at hp hcm0 ⊢;clear w₅ w₄;walk_nrm;have hF:dZ ((cfg Mu Wg 104 N J ro Anch).Zs j) (λc=>zS c∨c=cm) w₆ w₆:=dZ.refl _;refine dH (n:=60) ?_
 repeat w_nl nA
 refine cz λw₁ h₁=>?_
 replace hp:=hp.rely rfl uY (nA hF h₁);replace hcm0:=hcm0.same ((nA hF h₁).own _ Oj);clear hF h₁;refine sJ (o:=?_) (args:=?_) (ats:=?_) ?_ ?_ ?_ ?_ Tryz.jy.f_add nm_add Vw ?_
 rotate_left 3
 iterate 2 rfl
 ·k_ne
 ·rfl
 intro w₂ h₂;replace hp:=hp.rely rfl uY h₂;replace hcm0:=hcm0.same (h₂.own _ Oj);clear h₂;walk_nrm;rw [RF]
 have RB:Beside (cfg Mu Wg 104 N J ro Anch) ((cfg Mu Wg 104 N J ro Anch).Zs j) (λc=>zS c∨c=cm):=
  ⟨λb hb h=>h.elim (hp.env.own b hb).2.1 (hp.env.own b hb).2.2.1, λb hb h=>h.elim (hp.env.rs b hb).1 (hp.env.rs b hb).2, λb i h=>by obtain ⟨_,_,_,h⟩:=h;exact az h⟩
 refine dH (n:=100) ?_
 refine av0 (P:=Tryz.prog) (L:=Tryz.link) (C:=cfg Mu Wg 104 N J ro Anch) (W0:=w₂) Tryz.jy rfl (Ka hne) RB (λw hw=>?_) w₂ ⟨dZ.refl _,hp.env.wl⟩;replace hp:=hp.rely rfl uY hw.1;replace hcm0:=hcm0.same (hw.1.own _ Oj);clear hw;have hF:dZ ((cfg Mu Wg 104 N J ro Anch).Zs j) (λc=>zS c∨c=cm) w w:=dZ.refl _;refine dH (n:=60) ?_
 walk_nrm
 repeat w_nl nA
 refine cz λw₁ h₁=>?_
 replace hp:=hp.rely rfl uY (nA hF h₁);replace hcm0:=hcm0.same ((nA hF h₁).own _ Oj);clear hF h₁ w w₂ w₆;refine Gw.stop λw₂ h₂=>At.of_law ?_
 replace hp:=hp.rely rfl uY h₂;replace hcm0:=hcm0.same (h₂.own _ Oj);clear h₂ w₁;refine ap8 (cw:=cw) (cb:=cb) (bs:=bs) (bm:=bm) (bf:=bf) (cm:=cm) (dL:=zS) (sw:= λc=>c=cm) (o:=?_) (x:=?_) ?_ ?_ ?_ ?_ ?_ (λb=>Iff.rfl) ap9 ?_ (λk hk=>?_)
 rotate_left 2
 iterate 2 rfl
 ·k_ne
 iterate 2 rfl
 ·replace hp:=hp.less (dL:=zS) (λb hb=>.inl hb) ax0 h00;have hnx:= λw h=>HN.out zS w (hp.rely (Z:=(cfg Mu Wg 104 N J ro Anch).Zs (j+1)) rfl uY h)
  clear HN hcm0 hnm;have hwr:IntKind.i64.wrap ((j:Int)+1)=((j+1:Nat):Int):=by rw [cB];omega
  have hF:dZ ((cfg Mu Wg 104 N J ro Anch).Zs (j+1)) zS w₂ w₂:=dZ.refl _;unfold Bu Mr at hnx;simp only [LP,RP,oH,dM,dP,eF,Tryz.f28,ak,Nat.reduceEqDiff,if_true,if_false,reduceIte] at hnx;refine dH (n:=60) ?_
  walk_nrm
  repeat w_nl nA
  u_c stepG_inLoop nA hF
  exact cz λw₃ h₃=>hnx w₃ (nA hF h₃) _ _ _ _ _ _ _ _ _ _ _ _ _ _ _ _ _ _ _ _ _ _ _
 ·refine XZ hne hk zi hJ hj hN hn (hp.wk rfl hcm0.cell) ⟨hp.env.rs, λb hb=>hp.env.own b (.inr hb),hp.env.ro,hp.env.mu,hp.env.wg,hp.env.kU,hp.env.wl⟩ hp.mu
end
end
section
attribute [local instance] noSh jm
noncomputable def lY:Array Oper:=((dV 15 oH).getD (#[],.skip)).1
theorem af5:RP2= .seq (.region 15 lY true) .ret:=by
 simp only [RP2,lY,oH,dP,dV,eF,Tryz.f28,ak,Nat.reduceEqDiff,if_true,if_false,reduceIte]
theorem GV:lY.size=7:=by kernel_rfl
theorem af6:∃o,lY[0]?=some o∧o.op= .load 44 (.tmp 2)∧o.dst=some 31∧o.guard=none:=⟨_,by unfold lY oH Tryz.f28;rfl,rfl,rfl,rfl⟩
theorem af7:∃o,lY[1]?=some o∧o.op= .load 4 (.tmp 3)∧o.dst=some 32∧o.guard=none:=⟨_,by unfold lY oH Tryz.f28;rfl,rfl,rfl,rfl⟩
theorem af8:∃o,lY[2]?=some o∧o.op= .load 4 (.tmp 4)∧o.dst=some 33∧o.guard=none:=⟨_,by unfold lY oH Tryz.f28;rfl,rfl,rfl,rfl⟩
theorem af9:∃o,lY[3]?=some o∧o.op= .store 44 (.tmp 2) (.tmp 31)∧o.dst=none∧o.guard=none∧(o.after.any λe=>e.on==0&&Region.binds .any e)=true:=
 ⟨_,by unfold lY oH Tryz.f28;rfl,rfl,rfl,rfl,by kernel_rfl⟩
theorem ag1:∃o,lY[4]?=some o∧o.op= .store 4 (.tmp 3) (.tmp 32)∧o.dst=none∧o.guard=none∧(o.after.any λe=>e.on==1&&Region.binds .any e)=true:=
 ⟨_,by unfold lY oH Tryz.f28;rfl,rfl,rfl,rfl,by kernel_rfl⟩
theorem ag2:∃o,lY[5]?=some o∧o.op= .store 4 (.tmp 4) (.tmp 33)∧o.dst=none∧o.guard=none∧(o.after.any λe=>e.on==2&&Region.binds .any e)=true:=
 ⟨_,by unfold lY oH Tryz.f28;rfl,rfl,rfl,rfl,by kernel_rfl⟩
theorem ag3:∃o,lY[6]?=some o∧o.op= .assign (.const (.int .i64 0))∧o.dst=some 5∧o.guard=none:=⟨_,by unfold lY oH Tryz.f28;rfl,rfl,rfl,rfl⟩
theorem Kg {o:Oper} {k:Nat} (h:(o.after.any λe=>e.on==k&&Region.binds .any e)=true) {l:Array Bool} (ha:(o.after.all λe=>!Region.binds .any e||l.getD e.on false)=true):l.getD k false=true:=by
 rw [Array.any_eq_true] at h;obtain ⟨i,hi,h1⟩:=h;rw [Array.all_eq_true] at ha;have h2:=ha i hi;simp only [bC,beq_iff_eq] at h1;rw [h1.2,h1.1] at h2;simpa using h2
structure TQ (bs bm bf:Nat) (A:Option Addr) (cap:Nat) (st:List Int) (fu found:Bool) (T:Array Value) (l:Array Bool):Prop where
 t2:T[2]?=some (.pointer (some ⟨bs,0,none⟩))
 t3:T[3]?=some (.pointer (some ⟨bm,0,none⟩))
 t4:T[4]?=some (.pointer (some ⟨bf,0,none⟩))
 t5:T[5]?=some (.int .i64 0)
 sz:T.size=34
 l0:l.getD 0 false=true->T[31]?=some (.slice A st.length cap)
 l1:l.getD 1 false=true->T[32]?=some (.bool fu)
 l2:l.getD 2 false=true->T[33]?=some (.bool found)
structure F3 (bs bm bf:Nat) (A:Option Addr) (cap:Nat) (st:List Int) (fu found:Bool) (own:Nat->Prop) (W:World):Prop where
 gs:own bs
 gm:own bm
 gf:own bf
 vs:∃e,W.heap[bs]?=some (.cells #[.slice A st.length cap] e)
 vm:∃e,W.heap[bm]?=some (.cells #[.bool fu] e)
 vf:∃e,W.heap[bf]?=some (.cells #[.bool found] e)
structure Sm (own:Nat->Prop) (W W':World):Prop where
 tape:W'.tape=W.tape
 out:W'.output=W.output
 os:OsLater W.os W'.os
 size:W.heap.size<=W'.heap.size
 kept:∀b,own b->W'.heap[b]?=W.heap[b]?
theorem Sm.refl (own:Nat->Prop) (W:World):Sm own W W:=⟨rfl,rfl,OsLater.refl _,aJ _, λ_ _=>rfl⟩
theorem Sm.rely {own:Nat->Prop} {W W1 W2:World} (h:Sm own W W1) (hr:dZ Z0 own W1 W2):Sm own W W2:=
 ⟨hr.tape.trans h.tape,hr.out.trans h.out,h.os.trans hr.os,aT h.size hr.size, λb hb=>(hr.own b hb).trans (h.kept b hb)⟩
theorem Sm.trans {own:Nat->Prop} {W W1 W2:World} (h:Sm own W W1) (hr:Sm own W1 W2):Sm own W W2:=
 ⟨hr.tape.trans h.tape,hr.out.trans h.out,h.os.trans hr.os,aT h.size hr.size, λb hb=>(hr.kept b hb).trans (h.kept b hb)⟩
theorem Sm.set {own:Nat->Prop} {W:World} {b:Nat} {v:Value} {e:TypeId} (h:W.heap[b]?=some (.cells #[v] e)):Sm own W (W.setCell ⟨b,0,none⟩ v):=by
 have ha:=Go.Conc.aside_setCell W ⟨b,0,none⟩ v;refine ⟨ha.tape,ha.output,by rw [ha.os];exact OsLater.refl _,Nat.le_of_eq ha.size.symm, λc _=>?_⟩
 by_cases e:c=b
 ·subst e;rw [heap_setCell_same W c 0 _ _ v h,h];rfl
 ·exact ha.block c e
theorem F3.sm {bs bm bf:Nat} {A:Option Addr} {cap:Nat} {st:List Int} {fu found:Bool} {own:Nat->Prop} {W W':World} (h:F3 bs bm bf A cap st fu found own W) (hs:Sm own W W'):F3 bs bm bf A cap st fu found own W':=by
 obtain ⟨g1,g2,g3,⟨e1,v1⟩,⟨e2,v2⟩,⟨e3,v3⟩⟩:=h;exact ⟨g1,g2,g3,⟨e1,(hs.kept _ g1).trans v1⟩,⟨e2,(hs.kept _ g2).trans v2⟩,⟨e3,(hs.kept _ g3).trans v3⟩⟩
theorem pJ {W:World} {b:Nat} {v:Value} (h:∃e,W.heap[b]?=some (.cells #[v] e)):W.cell? ⟨b,0,none⟩=some v:=by
 obtain ⟨e,h⟩:=h;unfold World.cell?;simp only [h];rfl
theorem GX {W:World} {b:Nat} {v:Value} (h:∃e,W.heap[b]?=some (.cells #[v] e)):W.frozen? ⟨b,0,none⟩=false:=by
 obtain ⟨e,h⟩:=h;unfold World.frozen?;simp only [h];rfl
theorem Ol {own:Nat->Prop} {W:World} {b:Nat} {v:Value} (h:∃e,W.heap[b]?=some (.cells #[v] e)):Sm own W (W.setCell ⟨b,0,none⟩ v):=by
 obtain ⟨e,h⟩:=h;exact Sm.set h
theorem jZ {l:Array Bool} {i k:Nat} (h:(l.setIfInBounds i true).getD k false=true):k=i∨l.getD k false=true:=by
 by_cases e:k=i
 ·exact .inl e
 ·right;rw [aA,au (Ne.symm e)] at h
  rwa [aA]
end
section
attribute [local instance] noSh jm
section
variable {bs bm bf:Nat} {A:Option Addr} {cap:Nat} {st:List Int} {fu found:Bool} {own:Nat->Prop} {W:World} {cs:List Frame} {kk:List Item} {Stop:(Nat->Prop)->Goroutine->World->Prop}
theorem pK {T:Array Value} {k:Nat} {v:Value} (h:T[k]?=some v):(⟨T,[]⟩:Act).eval (.tmp k)=v:=by
 simp [Act.eval,h]
theorem mY {o:Oper} (h:o.guard=none) (f:Nat->Option Bool):Region.wanted o f=true:=by
 unfold Region.wanted;rw [h]
theorem CJ (T:Array Value) (d:Tmp) (v:Value):(⟨T,[]⟩:Act).put (some d) v=⟨T.setIfInBounds d v,[]⟩:=rfl
theorem GY (T:Array Value) (v:Value):(⟨T,[]⟩:Act).put none v=⟨T,[]⟩:=rfl
theorem ag4 {main:Bool} {Z:gB} {b:Frame} {a:Act} {ops:Array Oper} {i:Nat} {rest:List Nat} {o:Oper} {x:Operand} (ho:ops[i]?=some o) (hw:Region.wanted o (yielded ops a.tmps)=true) (hk:b.kind≠ .early) (hop:o.op= .assign x)
 (hn:∀W1,dZ Z own W W1->Gw Tryz.prog main Z Stop own (G (b.at (a.put o.dst (a.eval x)) (.inRegion ops rest::kk)) cs) W1):
 Gw Tryz.prog main Z Stop own (G (b.at a (.inRegion ops (i::rest)::kk)) cs) W:=
 CB ho hw hk λW1 hr=>⟨_,W1,by unfold execOp;simp only [hop];rfl,vX.refl _, λe he=>by
  unfold execOp at he;simp only [hop] at he;simp at he,by rw [lS];exact hn W1 hr⟩
theorem aq0:∀(fuel t:Nat) (l:Array Bool) (T:Array Value) (W:World),TQ bs bm bf A cap st fu found T l->l.size=7->F3 bs bm bf A cap st fu found own W->
 (∀T' l' W',TQ bs bm bf A cap st fu found T' l'->Sm own W W'->Gw Tryz.prog true Z0 Stop own (G ((base 28).at ⟨T',[]⟩ (.inRegion lY []::kk)) cs) W')->
 Gw Tryz.prog true Z0 Stop own (G ((base 28).at ⟨T,[]⟩ (.inRegion lY (Region.linearise.go .any lY fuel t l [])::kk)) cs) W:=by
 intro fuel;have hnm:¬Z0.mute:= λh=>h
 have hk:(base 28).kind≠ .early:=base_kind _
 induction fuel with
 |zero=>intro t l T W hT hl hF hK;exact hK T l W hT (Sm.refl _ _)
 |succ fuel ih=>
  intro t l T W hT hl hF hK;simp only [Region.linearise.go];split
  ·rename_i i hi;rw [linearise_go_acc,List.reverse_singleton,List.singleton_append];have hm:=List.mem_of_getElem? hi;simp only [List.mem_filter,List.mem_range,bC,GV] at hm;obtain ⟨h7,_,h2⟩:=hm;clear hi;have hl':(l.setIfInBounds i true).size=7:=by simpa using hl
   have keep:∀(T':Array Value) (W':World),TQ bs bm bf A cap st fu found T' (l.setIfInBounds i true)->Sm own W W'->
    Gw Tryz.prog true Z0 Stop own (G ((base 28).at ⟨T',[]⟩ (.inRegion lY (Region.linearise.go .any lY fuel (t / ((List.range lY.size).filter λi=>!l.getD i true&&((lY[i]?).map (·.after.all λe=>!Region.binds .any e||l.getD e.on false)).getD false).length) (l.setIfInBounds i true) [])::kk)) cs) W':=
    λT' W' h1 h2=>ih _ _ T' W' h1 hl' (hF.sm h2) λT'' l'' W'' h3 h4=>hK T'' l'' W'' h3 (h2.trans h4)
   have oh:∀d v,d≠2->d≠3->d≠4->d≠5->(∀k,k≠d->(T.setIfInBounds d v)[k]?=T[k]?):= λd v _ _ _ _ k hk=>by rw [au (Ne.symm hk)]
   have hin:∀d v,d<34->(T.setIfInBounds d v)[d]?=some v:= λd v hd=>by rw [aD (by rw [hT.sz];exact hd)]
   obtain rfl|rfl|rfl|rfl|rfl|rfl|rfl:i=0∨i=1∨i=2∨i=3∨i=4∨i=5∨i=6:=by omega
   ·obtain ⟨o,ho,e1,e2,e3⟩:=af6;refine XK (ad:=⟨bs,0,none⟩) (p:=A) (l:=st.length) (c:=cap) ho (mY e3 _) hk e1 (pK hT.t2) hnm (.inl hF.gs) (pJ hF.vs) λW1 hr=>?_
    rw [e2,CJ];refine keep _ _ ⟨?_,?_,?_,?_,by simpa using hT.sz, λ_=>hin 31 _ (by omega), λh=>?_, λh=>?_⟩ ((Sm.refl _ _).rely hr)
    ·rw [oh 31 _ (by omega) (by omega) (by omega) (by omega) 2 (by omega)];exact hT.t2
    ·rw [oh 31 _ (by omega) (by omega) (by omega) (by omega) 3 (by omega)];exact hT.t3
    ·rw [oh 31 _ (by omega) (by omega) (by omega) (by omega) 4 (by omega)];exact hT.t4
    ·rw [oh 31 _ (by omega) (by omega) (by omega) (by omega) 5 (by omega)];exact hT.t5
    ·rw [oh 31 _ (by omega) (by omega) (by omega) (by omega) 32 (by omega)];exact hT.l1 ((jZ h).resolve_left (by omega))
    ·rw [oh 31 _ (by omega) (by omega) (by omega) (by omega) 33 (by omega)];exact hT.l2 ((jZ h).resolve_left (by omega))
   ·obtain ⟨o,ho,e1,e2,e3⟩:=af7;refine sF (ad:=⟨bm,0,none⟩) (n:=fu) ho (mY e3 _) hk e1 (pK hT.t3) hnm (.inl hF.gm) (pJ hF.vm) λW1 hr=>?_
    rw [e2,CJ];refine keep _ _ ⟨?_,?_,?_,?_,by simpa using hT.sz, λh=>?_, λ_=>hin 32 _ (by omega), λh=>?_⟩ ((Sm.refl _ _).rely hr)
    ·rw [oh 32 _ (by omega) (by omega) (by omega) (by omega) 2 (by omega)];exact hT.t2
    ·rw [oh 32 _ (by omega) (by omega) (by omega) (by omega) 3 (by omega)];exact hT.t3
    ·rw [oh 32 _ (by omega) (by omega) (by omega) (by omega) 4 (by omega)];exact hT.t4
    ·rw [oh 32 _ (by omega) (by omega) (by omega) (by omega) 5 (by omega)];exact hT.t5
    ·rw [oh 32 _ (by omega) (by omega) (by omega) (by omega) 31 (by omega)];exact hT.l0 ((jZ h).resolve_left (by omega))
    ·rw [oh 32 _ (by omega) (by omega) (by omega) (by omega) 33 (by omega)];exact hT.l2 ((jZ h).resolve_left (by omega))
   ·obtain ⟨o,ho,e1,e2,e3⟩:=af8;refine sF (ad:=⟨bf,0,none⟩) (n:=found) ho (mY e3 _) hk e1 (pK hT.t4) hnm (.inl hF.gf) (pJ hF.vf) λW1 hr=>?_
    rw [e2,CJ];refine keep _ _ ⟨?_,?_,?_,?_,by simpa using hT.sz, λh=>?_, λh=>?_, λ_=>hin 33 _ (by omega)⟩ ((Sm.refl _ _).rely hr)
    ·rw [oh 33 _ (by omega) (by omega) (by omega) (by omega) 2 (by omega)];exact hT.t2
    ·rw [oh 33 _ (by omega) (by omega) (by omega) (by omega) 3 (by omega)];exact hT.t3
    ·rw [oh 33 _ (by omega) (by omega) (by omega) (by omega) 4 (by omega)];exact hT.t4
    ·rw [oh 33 _ (by omega) (by omega) (by omega) (by omega) 5 (by omega)];exact hT.t5
    ·rw [oh 33 _ (by omega) (by omega) (by omega) (by omega) 31 (by omega)];exact hT.l0 ((jZ h).resolve_left (by omega))
    ·rw [oh 33 _ (by omega) (by omega) (by omega) (by omega) 32 (by omega)];exact hT.l1 ((jZ h).resolve_left (by omega))
   ·obtain ⟨o,ho,e1,e2,e3,e4⟩:=af9;have hd:=Kg e4 (l:=l) (by rw [ho] at h2;simpa using h2);refine Px (ad:=⟨bs,0,none⟩) (p:=A) (l:=st.length) (c:=cap) ho (mY e3 _) hk e1 (pK hT.t2) (pK (hT.l0 hd)) hnm hF.gs (λh=>h) (pJ hF.vs) (GX hF.vs) λW1 hr=>?_
    rw [e2,GY];refine keep _ _ ⟨hT.t2,hT.t3,hT.t4,hT.t5,hT.sz, λh=>hT.l0 hd, λh=>hT.l1 ((jZ h).resolve_left (by omega)), λh=>hT.l2 ((jZ h).resolve_left (by omega))⟩ (((Sm.refl own W).rely hr).trans (Ol (hF.sm ((Sm.refl own W).rely hr)).vs))
   ·obtain ⟨o,ho,e1,e2,e3,e4⟩:=ag1;have hd:=Kg e4 (l:=l) (by rw [ho] at h2;simpa using h2);refine xq (ad:=⟨bm,0,none⟩) (n:=fu) ho (mY e3 _) hk e1 (pK hT.t3) (pK (hT.l1 hd)) hnm hF.gm (λh=>h) (pJ hF.vm) (GX hF.vm) λW1 hr=>?_
    rw [e2,GY];refine keep _ _ ⟨hT.t2,hT.t3,hT.t4,hT.t5,hT.sz, λh=>hT.l0 ((jZ h).resolve_left (by omega)), λh=>hT.l1 hd, λh=>hT.l2 ((jZ h).resolve_left (by omega))⟩ (((Sm.refl own W).rely hr).trans (Ol (hF.sm ((Sm.refl own W).rely hr)).vm))
   ·obtain ⟨o,ho,e1,e2,e3,e4⟩:=ag2;have hd:=Kg e4 (l:=l) (by rw [ho] at h2;simpa using h2);refine xq (ad:=⟨bf,0,none⟩) (n:=found) ho (mY e3 _) hk e1 (pK hT.t4) (pK (hT.l2 hd)) hnm hF.gf (λh=>h) (pJ hF.vf) (GX hF.vf) λW1 hr=>?_
    rw [e2,GY];refine keep _ _ ⟨hT.t2,hT.t3,hT.t4,hT.t5,hT.sz, λh=>hT.l0 ((jZ h).resolve_left (by omega)), λh=>hT.l1 ((jZ h).resolve_left (by omega)), λh=>hT.l2 hd⟩ (((Sm.refl own W).rely hr).trans (Ol (hF.sm ((Sm.refl own W).rely hr)).vf))
   ·obtain ⟨o,ho,e1,e2,e3⟩:=ag3;refine ag4 ho (mY e3 _) hk e1 λW1 hr=>?_
    rw [e2,CJ];have hs5:∀k,k≠5->(T.setIfInBounds 5 (.int .i64 0))[k]?=T[k]?:= λk hk=>by rw [au (Ne.symm hk)]
    refine keep _ _ ⟨?_,?_,?_,hin 5 _ (by omega),by simpa using hT.sz, λh=>?_, λh=>?_, λh=>?_⟩ ((Sm.refl _ _).rely hr)
    ·exact (hs5 2 (by omega)).trans hT.t2
    ·exact (hs5 3 (by omega)).trans hT.t3
    ·exact (hs5 4 (by omega)).trans hT.t4
    ·exact (hs5 31 (by omega)).trans (hT.l0 ((jZ h).resolve_left (by omega)))
    ·exact (hs5 32 (by omega)).trans (hT.l1 ((jZ h).resolve_left (by omega)))
    ·exact (hs5 33 (by omega)).trans (hT.l2 ((jZ h).resolve_left (by omega)))
  ·exact hK T l W hT (Sm.refl _ _)
end
end
section
attribute [local instance] noSh jm
section
variable {bs bm bf:Nat} {A:Option Addr} {cap:Nat} {st:List Int} {fu found:Bool} {own:Nat->Prop} {W:World} {c:Frame} {cs:List Frame} {kk:List Item} {Stop:(Nat->Prop)->Goroutine->World->Prop}
theorem Kh {P:Program} {main:Bool} {b:Frame} {a:Act} {w:World} {fn:Func} {todo:List Item} {c:Frame} {v:Value} {es:Array Event} (hn:b.kind= .normal) (hd:a.defers= []) (hf:P.funcs[b.fn]?=some fn)
 (hr:(results fn a.tmps).run P w= .ok v w) (he:(results fn a.tmps).events P w #[]=es):
 stepG P main (G { b.at a todo with mode:=.returning } (c::cs)) w= .go (G (c.finish v) cs) w (seen P b.fn es):=by
 subst he;simp [G,stepG,unwind,doReturn,Frame.at,hn,hd,hf,hr,GStep.after]
theorem ag5:Tryz.prog.follows .mixedOrders=true:=by kernel_rfl
theorem ag6 {T:Array Value} {l:Array Bool} {W:World} (hT:TQ bs bm bf A cap st fu found T l) (h1:W.cell? ⟨bs,0,none⟩=some (.slice A st.length cap)) (h2:W.cell? ⟨bm,0,none⟩=some (.bool fu)) (h3:W.cell? ⟨bf,0,none⟩=some (.bool found)):
 (results Tryz.f28 T).run Tryz.prog W= .ok (.tuple #[.slice A st.length cap,.bool fu,.bool found,.int .i64 0]) W∧∀e∈(results Tryz.f28 T).events Tryz.prog W #[],∃b,(b=bs∨b=bm∨b=bf)∧e.loc= .cell ⟨b,0,none⟩∧e.sync=false∧e.write=false:=by
 have g2:T.getD 2 undef= .pointer (some ⟨bs,0,none⟩):=by rw [aA,hT.t2];rfl
 have g3:T.getD 3 undef= .pointer (some ⟨bm,0,none⟩):=by rw [aA,hT.t3];rfl
 have g4:T.getD 4 undef= .pointer (some ⟨bf,0,none⟩):=by rw [aA,hT.t4];rfl
 have g5:T.getD 5 undef= .int .i64 0:=by rw [aA,hT.t5];rfl
 have t2:=hT.t2;have t3:=hT.t3;have t4:=hT.t4;have t5:=hT.t5;have hres:Tryz.f28.results= #[ResultVar.cell 2 44,ResultVar.cell 3 4,ResultVar.cell 4 4,ResultVar.tmp 5]:=by unfold Tryz.f28;rfl
 unfold results;rw [hres];refine ⟨by simp [go_sem,t2,t3,t4,t5,h1,h2,h3], λe he=>?_⟩;simp [go_sem,t2,t3,t4,t5,h1,h2,h3] at he;rcases he with rfl|rfl|rfl
 ·exact ⟨bs,.inl rfl,rfl,rfl,rfl⟩
 ·exact ⟨bm,.inr (.inl rfl),rfl,rfl,rfl⟩
 ·exact ⟨bf,.inr (.inr rfl),rfl,rfl,rfl⟩
theorem Gw.drawn {P:Program} {main:Bool} {Z:gB} {b:Frame} {a:Act} {id:Nat} {ops:Array Oper} (hm:P.follows .mixedOrders=true)
 (h:∀W1 t,dZ Z own W W1->Gw P main Z Stop own (G (b.at a (.inRegion ops (Region.linearise.go .any ops ops.size t (Array.replicate ops.size false) [])::kk)) cs) { W1 with drawn:=W1.drawn+1 }):
 Gw P main Z Stop own (G (b.at a (.code (.region id ops true)::kk)) cs) W:=by
 refine Gw.Cj rfl λW1 hr=>⟨_,_,#[],stepG_region_draw,⟨rfl,rfl,rfl,aJ _, λ_ _ _ _=>rfl, λb _=>⟨yE.refl _, λ_ _=>rfl⟩⟩, λe he=>by simp at he,?_⟩
 have hg:grow own W1 { W1 with drawn:=W1.drawn+1 }=own:=by
  funext x;apply propext;unfold grow
  exact ⟨λh=>h.elim (λx=>x) λ⟨h1,h2⟩=>by
   have h2:x<W1.heap.size:=h2;omega,.inl⟩
 rw [hg];have :=h W1 (W1.tape W1.drawn (.order b.fn id)) hr;simp only [Region.schedule,hm,Bool.true_or,if_true,Region.linearise];exact this
theorem ax1 {T:Array Value} {own:Nat->Prop} {W:World} (h2:T[2]?=some (.pointer (some ⟨bs,0,none⟩))) (h3:T[3]?=some (.pointer (some ⟨bm,0,none⟩))) (h4:T[4]?=some (.pointer (some ⟨bf,0,none⟩))) (h5:T[5]?=some (.int .i64 0)) (hsz:T.size=34) (hF3:F3 bs bm bf A cap st fu found own W)
 (oO:∀W',Sm own W W'->Gw Tryz.prog true Z0 Stop own (G (c.finish (.tuple #[.slice A st.length cap,.bool fu,.bool found,.int .i64 0])) cs) W'):
 Gw Tryz.prog true Z0 Stop own (G ((base 28).at ⟨T,[]⟩ [.code RP2]) (c::cs)) W:=by
 have hF:dZ Z0 own W W:=dZ.refl _;rw [af5];refine dH (n:=20) ?_
 u_c stepG_seq fq hF
 refine cz λW1 hr=>?_
 replace hF:=fq hF hr;clear hr;have S1:Sm own W W1:=(Sm.refl own W).rely hF;clear hF;refine Gw.drawn ag5 λW2 t hr=>?_
 replace S1:=S1.rely hr;clear hr;have S2:Sm own W { W2 with drawn:=W2.drawn+1 }:=S1.trans ⟨rfl,rfl,OsLater.refl _,aJ _, λ_ _=>rfl⟩;rw [GV];refine aq0 7 t _ T _ ⟨h2,h3,h4,h5,hsz, λh=>?_, λh=>?_, λh=>?_⟩ (by simp) (hF3.sm S2) λT' l' W3 hT' hs=>?_
 ·simp at h
 ·simp at h
 ·simp at h
 replace S2:=S2.trans hs;clear hs S1;have hF:dZ Z0 own W3 W3:=dZ.refl _;refine dH (n:=20) ?_
 u_c stepG_region_end fq hF
 u_c stepG_ret' fq hF
 refine cz λW4 hr=>?_
 replace S2:=S2.rely (fq hF hr);clear hF hr;refine Gw.Cj rfl λW5 hr=>?_
 replace S2:=S2.rely hr;have hf:=hF3.sm S2;obtain ⟨r1,r2⟩:=ag6 hT' (pJ hf.vs) (pJ hf.vm) (pJ hf.vf);refine ⟨_,W5,_,Kh (fn:=Tryz.f28) (b:=base 28) (a:=⟨T',[]⟩) rfl rfl Tryz.func28 r1 rfl,vX.refl _, λe he=>?_,by rw [lS];exact oO W5 S2⟩;rw [lS];obtain ⟨b,hb,e1,e2,e3⟩:=r2 e (mem_seen he);obtain ⟨loc,wr,sy⟩:=e;dsimp only at e1 e2 e3;subst e1 e2 e3;refine ⟨λh=>h,rfl,.inl ?_⟩;rcases hb with rfl|rfl|rfl
 ·exact hF3.gs
 ·exact hF3.gm
 ·exact hF3.gf
end
end
section
attribute [local instance] noSh jm
def Zk (gz:Frame) (K':List Frame) (bs bm bf:Nat) (g:Goroutine):Prop:=
 ∃T:Array Value,T[2]?=some (.pointer (some ⟨bs,0,none⟩))∧T[3]?=some (.pointer (some ⟨bm,0,none⟩))∧T[4]?=some (.pointer (some ⟨bf,0,none⟩))∧T[5]?=some (.int .i64 0)∧T.size=34∧g=G ((base 28).at ⟨T,[]⟩ [.code RP2]) (gz::K')
def GZ (gz:Frame) (K':List Frame) (bs bm bf:Nat) (ss:List fI) (n:Nat) (jY:Nat->Prop) (Bz:World) (own:Nat->Prop) (g:Goroutine) (W:World):Prop:=
 (∃A cap st fu found,Fd bs bm bf A cap st fu found own W∧nZ (gD ss n (jP ss n false).length (jP ss n true).length) st fu found)∧Bs jY Bz own W∧Zk gz K' bs bm bf g
theorem Fd.sub {bs bm bf:Nat} {A:Option Addr} {cap:Nat} {st:List Int} {fu found:Bool} {Gu Gu':Nat->Prop} {W:World} (h:Fd bs bm bf A cap st fu found Gu W) (hs:∀b,Gu b->Gu' b):Fd bs bm bf A cap st fu found Gu' W:=
 ⟨hs _ h.gs,hs _ h.gm,hs _ h.gf,h.vs,h.vm,h.vf,h.sl.sub hs,h.len⟩
section
variable {Mu Wg cw cb bs bm bf bw sb:Nat} {N:Nat->Nat} {J:Nat->Nat->(Nat->Prop)->World->Prop} {ro:Nat->Prop} {Anch:(Nat->Prop)->Goroutine->World->Prop}
variable {jY:Nat->Prop} {Bz:World} {own:Nat->Prop} {W:World} {n:Nat} {ss:List fI} {gz:Frame} {K':List Frame}
theorem aq1 (hne:Mu≠Wg) (hJ:J=JW Mu Wg bs bm bf ro ss n) (hN:∀k,k<2->N k=(jP ss n (decide (k=1))).length) (hA:Anch=GZ gz K' bs bm bf ss n jY Bz)
 (hp:HP jY Bz Mu Wg cw cb bs bm bf bw sb ss n own ro W):
 Bu gz K' bs bm bf cw Mu Wg cb sb 2 λg=>Gw Tryz.prog true ((cfg Mu Wg 104 N J ro Anch).Zs 2) (At Tryz.prog (cfg Mu Wg 104 N J ro Anch).sys 0 (.st (gF (cfg Mu Wg 104 N J ro Anch) 2) 2)) own g W:=by
 intro j0 j1 j6 j11 j12 j13 nJ nK l6 l7 l8 l9 mg mh mo mq mD mE mF mG mH mJ mK;have hnp:gF (cfg Mu Wg 104 N J ro Anch) 2= .kd:=aa (Nat.lt_irrefl 2);rw [hnp];have hnm:¬((cfg Mu Wg 104 N J ro Anch).Zs 2).mute:= λh=>h
 unfold Mr;simp only [LP,RP,oH,dM,dP,eF,Tryz.f28,ak,Nat.reduceEqDiff,if_true,if_false,reduceIte];have hF:dZ ((cfg Mu Wg 104 N J ro Anch).Zs 2) own W W:=dZ.refl _;refine dH (n:=60) ?_
 repeat w_nl nA
 refine cz λw₁ h₁=>?_
 replace hp:=hp.rely rfl uY (nA hF h₁);clear hF h₁;refine sJ (o:=?_) (args:=?_) (ats:=?_) ?_ ?_ ?_ ?_ Tryz.jy.f_wait nm_wait PM ?_
 rotate_left 3
 iterate 2 rfl
 ·k_ne
 ·rfl
 intro w₂ h₂;replace hp:=hp.rely rfl uY h₂;clear h₂;walk_nrm;rw [Oi]
 have RB:Beside (cfg Mu Wg 104 N J ro Anch) ((cfg Mu Wg 104 N J ro Anch).Zs 2) own:=
  ⟨λb hb h=>h.elim (hp.env.own b hb).2.1 (hp.env.own b hb).2.2.1, λb hb h=>h.elim (hp.env.rs b hb).1 (hp.env.rs b hb).2, λb i h=>by obtain ⟨_,_,_,h⟩:=h;exact az h⟩
 refine an3 (P:=Tryz.prog) (L:=Tryz.link) (C:=cfg Mu Wg 104 N J ro Anch) (W0:=w₂) Tryz.jy rfl (Ka hne) RB (λs Gl D Dc dL W w hw hjn hr=>?_) w₂ ⟨dZ.refl _,hp.env.wl⟩;replace hp:=hp.rely rfl uY hw.1
 have hjw:JW Mu Wg bs bm bf ro ss n (N 0) (N 1) Gl W:=by
  have h1:J s.b.c0 s.b.c1 Gl W:=hjn.J;have h2:s.b.c0=N 0∧s.b.c1=N 1:=hjn.fin;rw [h2.1,h2.2,hJ] at h1;exact h1
 have hbs:Bs jY Bz dL W:=⟨hp.base.tape,hp.base.out,hp.base.os,hp.base.size,hp.base.kept, λb hb=>hjn.sub b (hp.base.sub b hb)⟩
 have Ws:∃A cap st fu found,Fd bs bm bf A cap st fu found dL W∧nZ (gD ss n (jP ss n false).length (jP ss n true).length) st fu found:=by
  obtain ⟨_,A,cap,st,fu,found,h1,h2⟩:=hjw;rw [hN 0 (by omega),hN 1 (by omega)] at h2;exact ⟨A,cap,st,fu,found,h1.sub hjn.av1,h2⟩
 clear hjw hjn hp hw;have hF:dZ Z0 dL w w:=dZ.refl _;replace hbs:=hbs.rely hr
 replace Ws:∃A cap st fu found,Fd bs bm bf A cap st fu found dL w∧nZ (gD ss n (jP ss n false).length (jP ss n true).length) st fu found:=by
  obtain ⟨A,cap,st,fu,found,h1,h2⟩:=Ws;exact ⟨A,cap,st,fu,found,h1.keep hr.own,h2⟩
 clear hr;refine dH (n:=60) ?_
 walk_nrm
 u_c stepG_region_end fq hF
 refine cz λw₃ h₃=>?_
 replace hF:=fq hF h₃;clear h₃;refine Gw.stop λw₄ h₄=>At.of_law ⟨rfl, λ_=>rfl, λs hs hf=>?_⟩
 replace hF:=fq hF h₄;rw [aj (by rfl)];show Anch _ _ _;rw [hA];refine ⟨?_,hbs.rely hF,?_⟩
 ·obtain ⟨A,cap,st,fu,found,h1,h2⟩:=Ws;exact ⟨A,cap,st,fu,found,h1.keep hF.own,h2⟩
 ·unfold Zk;simp only [RP2,oH,dP,eF,Tryz.f28,ak,Nat.reduceEqDiff,if_true,if_false,reduceIte];exact ⟨_,rfl,rfl,rfl,rfl,rfl,rfl⟩
end
end
end Go.Proofs.Tryz
