/- Part 32. -/
import Derived.Conc.CompanyDraw
import Derived.Test.YtmhmpoeoapkbaaaGreatH28
import Derived.Test.YtmhmpoeoapkbaaaGreatH30
set_option maxRecDepth 100000
set_option maxHeartbeats 0
set_option linter.all false
namespace Go.Proofs.Tryz
open Go Go.Conc Go.ConcN Go.ConcM Go.RowKit Go.Conc.Lib Go.ConcR.Gen Par
section
attribute [local instance] noSh gX
section
variable {main:Bool} {Z:fO} {own:Nat->Prop} {Stop:(Nat->Prop)->Goroutine->World->Prop}
variable {b:Frame} {a:Act} {kk:List Item} {cs:List Frame} {W:World} {ops:Array Oper} {i:Nat} {rest:List Nat} {o:Oper} {x y:Operand} {ad:Addr}
theorem VU{v1 v2 v3 v4:Value}(ho:ops[i]?=some o)(hw:Region.wanted o (yielded ops a.tmps)=true)(hk:b.kind≠ .early)(hop:o.op=.box 26 x)(hx:a.eval x=.agg #[v1,v2,v3,v4])(hnm:¬Z.mute)(hsy:∀b,Z.sy b->b<W.heap.size)
 (hn:∀W1,dM Z own W W1->Gw Tryz.prog main Z Stop (λc=>own c∨c=W1.heap.size) (G (b.at (a.put o.dst (.pointer (some ⟨W1.heap.size,0,none⟩))) (.inRegion ops rest::kk)) cs) { W1 with heap:=W1.heap.push (.cells #[v1,v2,v3,v4] 26) }):
 Gw Tryz.prog main Z Stop own (G (b.at a (.inRegion ops (i::rest)::kk)) cs) W:=
 uH (f:= λW1=>.pointer (some ⟨W1.heap.size,0,none⟩)) ho hw hk hnm hsy (λW1 hr=>by
  refine⟨?_,?_⟩
  .unfold execOp;simp only[hop,hx];simp[go_sem]
  .unfold execOp;simp only[hop,hx];simp[go_sem]) hn
theorem VV(ho:ops[i]?=some o)(hw:Region.wanted o (yielded ops a.tmps)=true)(hk:b.kind≠ .early)(hop:o.op=.alloc 33)(hnm:¬Z.mute)(hsy:∀b,Z.sy b->b<W.heap.size)
 (hn:∀W1,dM Z own W W1->Gw Tryz.prog main Z Stop (λc=>own c∨c=W1.heap.size) (G (b.at (a.put o.dst (.pointer (some ⟨W1.heap.size,0,none⟩))) (.inRegion ops rest::kk)) cs) { W1 with heap:=W1.heap.push (.cells #[.slice none 0 0] 33) }):
 Gw Tryz.prog main Z Stop own (G (b.at a (.inRegion ops (i::rest)::kk)) cs) W:=
 uH (f:= λW1=>.pointer (some ⟨W1.heap.size,0,none⟩)) ho hw hk hnm hsy (λW1 hr=>by
  refine⟨?_,?_⟩
  .unfold execOp;simp only[hop];simp[go_sem]
  .unfold execOp;simp only[hop];simp[go_sem]) hn
theorem Fg(ho:ops[i]?=some o)(hw:Region.wanted o (yielded ops a.tmps)=true)(hk:b.kind≠ .early)(hop:o.op=.alloc 4)(hnm:¬Z.mute)(hsy:∀b,Z.sy b->b<W.heap.size)
 (hn:∀W1,dM Z own W W1->Gw Tryz.prog main Z Stop (λc=>own c∨c=W1.heap.size) (G (b.at (a.put o.dst (.pointer (some ⟨W1.heap.size,0,none⟩))) (.inRegion ops rest::kk)) cs) { W1 with heap:=W1.heap.push (.cells #[.bool false] 4) }):
 Gw Tryz.prog main Z Stop own (G (b.at a (.inRegion ops (i::rest)::kk)) cs) W:=
 uH (f:= λW1=>.pointer (some ⟨W1.heap.size,0,none⟩)) ho hw hk hnm hsy (λW1 hr=>by
  refine⟨?_,?_⟩
  .unfold execOp;simp only[hop];simp[go_sem]
  .unfold execOp;simp only[hop];simp[go_sem]) hn
theorem Ti(ho:ops[i]?=some o)(hw:Region.wanted o (yielded ops a.tmps)=true)(hk:b.kind≠ .early)(hop:o.op=.alloc 71)(hnm:¬Z.mute)(hsy:∀b,Z.sy b->b<W.heap.size)
 (hn:∀W1,dM Z own W W1->Gw Tryz.prog main Z Stop (λc=>own c∨c=W1.heap.size) (G (b.at (a.put o.dst (.pointer (some ⟨W1.heap.size,0,none⟩))) (.inRegion ops rest::kk)) cs) { W1 with heap:=W1.heap.push (.cells #[.pointer none] 71) }):
 Gw Tryz.prog main Z Stop own (G (b.at a (.inRegion ops (i::rest)::kk)) cs) W:=
 uH (f:= λW1=>.pointer (some ⟨W1.heap.size,0,none⟩)) ho hw hk hnm hsy (λW1 hr=>by
  refine⟨?_,?_⟩
  .unfold execOp;simp only[hop];simp[go_sem]
  .unfold execOp;simp only[hop];simp[go_sem]) hn
theorem VW(ho:ops[i]?=some o)(hw:Region.wanted o (yielded ops a.tmps)=true)(hk:b.kind≠ .early)(hop:o.op=.alloc 79)(hnm:¬Z.mute)(hsy:∀b,Z.sy b->b<W.heap.size)
 (hn:∀W1,dM Z own W W1->Gw Tryz.prog main Z Stop (λc=>own c∨c=W1.heap.size) (G (b.at (a.put o.dst (.pointer (some ⟨W1.heap.size,0,none⟩))) (.inRegion ops rest::kk)) cs) { W1 with heap:=W1.heap.push (.cells #[.int .i32 0,.int .u32 0] 79) }):
 Gw Tryz.prog main Z Stop own (G (b.at a (.inRegion ops (i::rest)::kk)) cs) W:=
 uH (f:= λW1=>.pointer (some ⟨W1.heap.size,0,none⟩)) ho hw hk hnm hsy (λW1 hr=>by
  refine⟨?_,?_⟩
  .unfold execOp;simp only[hop];simp[go_sem]
  .unfold execOp;simp only[hop];simp[go_sem]) hn
theorem VX(ho:ops[i]?=some o)(hw:Region.wanted o (yielded ops a.tmps)=true)(hk:b.kind≠ .early)(hop:o.op=.alloc 86)(hnm:¬Z.mute)(hsy:∀b,Z.sy b->b<W.heap.size)
 (hn:∀W1,dM Z own W W1->Gw Tryz.prog main Z Stop (λc=>own c∨c=W1.heap.size) (G (b.at (a.put o.dst (.pointer (some ⟨W1.heap.size,0,none⟩))) (.inRegion ops rest::kk)) cs) { W1 with heap:=W1.heap.push (.cells #[.int .u64 0,.int .u32 0] 86) }):
 Gw Tryz.prog main Z Stop own (G (b.at a (.inRegion ops (i::rest)::kk)) cs) W:=
 uH (f:= λW1=>.pointer (some ⟨W1.heap.size,0,none⟩)) ho hw hk hnm hsy (λW1 hr=>by
  refine⟨?_,?_⟩
  .unfold execOp;simp only[hop];simp[go_sem]
  .unfold execOp;simp only[hop];simp[go_sem]) hn
theorem Tk(ho:ops[i]?=some o)(hw:Region.wanted o (yielded ops a.tmps)=true)(hk:b.kind≠ .early)(hop:o.op=.alloc 90)(hnm:¬Z.mute)(hsy:∀b,Z.sy b->b<W.heap.size)
 (hn:∀W1,dM Z own W W1->Gw Tryz.prog main Z Stop (λc=>own c∨c=W1.heap.size) (G (b.at (a.put o.dst (.pointer (some ⟨W1.heap.size,0,none⟩))) (.inRegion ops rest::kk)) cs) { W1 with heap:=W1.heap.push (.cells #[.nilFunc] 90) }):
 Gw Tryz.prog main Z Stop own (G (b.at a (.inRegion ops (i::rest)::kk)) cs) W:=
 uH (f:= λW1=>.pointer (some ⟨W1.heap.size,0,none⟩)) ho hw hk hnm hsy (λW1 hr=>by
  refine⟨?_,?_⟩
  .unfold execOp;simp only[hop];simp[go_sem]
  .unfold execOp;simp only[hop];simp[go_sem]) hn
theorem Zc(ho:ops[i]?=some o)(hw:Region.wanted o (yielded ops a.tmps)=true)(hk:b.kind≠ .early)(hop:o.op=.buildSlice 91 2 #[(0,.const (.bool false)),(1,.const (.bool true))])(hnm:¬Z.mute)(hsy:∀b,Z.sy b->b<W.heap.size)
 (hn:∀W1,dM Z own W W1->Gw Tryz.prog main Z Stop (λc=>own c∨c=W1.heap.size) (G (b.at (a.put o.dst (.slice (some ⟨W1.heap.size,0,none⟩) 2 2)) (.inRegion ops rest::kk)) cs) { W1 with heap:=W1.heap.push (.cells #[.bool false,.bool true] 4) }):
 Gw Tryz.prog main Z Stop own (G (b.at a (.inRegion ops (i::rest)::kk)) cs) W:=
 uH (f:= λW1=>.slice (some ⟨W1.heap.size,0,none⟩) 2 2) ho hw hk hnm hsy (λW1 hr=>by
  refine⟨?_,?_⟩
  .unfold execOp;simp only[hop];simp[go_sem]
  .unfold execOp;simp only[hop];simp[go_sem]) hn
theorem Tm{v1 v2 v3 v4:Value}{e:TypeId}{fr:Nat×Nat}{bb:Nat}(ho:ops[i]?=some o)(hw:Region.wanted o (yielded ops a.tmps)=true)(hk:b.kind≠ .early)(hop:o.op=.load 26 x)(hx:a.eval x=.pointer (some ⟨bb,0,none⟩))(hnm:¬Z.mute)
 (hz:own bb∨Z.ro bb) (hc:W.heap[bb]?=some (.cells #[v1,v2,v3,v4] e fr))
 (hn:∀W1,dM Z own W W1->Gw Tryz.prog main Z Stop own (G (b.at (a.put o.dst (.agg #[v1,v2,v3,v4])) (.inRegion ops rest::kk)) cs) W1):
 Gw Tryz.prog main Z Stop own (G (b.at a (.inRegion ops (i::rest)::kk)) cs) W:=by
 refine yA ho hw hk λW1 hr=>?_
 have hb:W1.heap[bb]?=some (.cells #[v1,v2,v3,v4] e fr):=(hz.elim (hr.own _) (hr.ro _)).trans hc
 have c0:W1.cell? ⟨bb,0,none⟩=some v1:=by unfold World.cell?;simp only[hb];rfl
 have c1:W1.cell? ⟨bb,1,none⟩=some v2:=by unfold World.cell?;simp only[hb];rfl
 have c2:W1.cell? ⟨bb,2,none⟩=some v3:=by unfold World.cell?;simp only[hb];rfl
 have c3:W1.cell? ⟨bb,3,none⟩=some v4:=by unfold World.cell?;simp only[hb];rfl
 refine⟨.agg #[v1,v2,v3,v4],W1,by unfold execOp;simp only[hop,hx];simp[go_sem,c0,c1,c2,c3],qK.refl _, λev he=>?_,by rw[jB];exact hn W1 hr⟩;rw[jB]
 have:∃k:Nat,ev=⟨.cell ⟨bb,k,none⟩,false,false⟩:=by
  unfold execOp at he;simp only[hop,hx]at he;simp[go_sem,c0,c1,c2,c3]at he;rcases he with rfl|rfl|rfl|rfl<;>exact⟨_,rfl⟩
 obtain⟨k,rfl⟩:=this;exact⟨hnm,rfl,hz.elim .inl λz=>.inr (.inl ⟨z,rfl⟩)⟩
theorem Tn{p:Option Addr}{v0:Value}(ho:ops[i]?=some o)(hw:Region.wanted o (yielded ops a.tmps)=true)(hk:b.kind≠ .early)(hop:o.op=.store 71 x y)(hx:a.eval x=.pointer (some ad))(hy:a.eval y=.pointer p)(hnm:¬Z.mute)
 (hz:own ad.block) (hns:¬Z.sy ad.block) (hc:W.cell? ad=some v0) (hf:W.frozen? ad=false)
 (hn:∀W1,dM Z own W W1->Gw Tryz.prog main Z Stop own (G (b.at (a.put o.dst undef) (.inRegion ops rest::kk)) cs) (W1.setCell ad (.pointer p))):
 Gw Tryz.prog main Z Stop own (G (b.at a (.inRegion ops (i::rest)::kk)) cs) W:=
 yC ho hw hk hnm hz hns (λW1 hr=>by
  have hb:=hr.own _ hz;have hc1:W1.cell? ad=some v0:=by rw[<-hc];unfold World.cell?;rw[hb]
  have hf1:W1.frozen? ad=false:=by rw[<-hf];unfold World.frozen?;rw[hb]
  exact⟨by unfold execOp;simp only[hop,hx,hy];simp[go_sem,hc1,hf1],by unfold execOp;simp only[hop,hx,hy];simp[go_sem,hc1,hf1];rw[Go.events_store _ _ _ _ _ _ rfl];simp[hc1,hf1]⟩) hn
theorem Tp{fn:Fn}{f1 f2:Array Value}{v0:Value}(ho:ops[i]?=some o)(hw:Region.wanted o (yielded ops a.tmps)=true)(hk:b.kind≠ .early)(hop:o.op=.store 90 x y)(hx:a.eval x=.pointer (some ad))(hy:a.eval y=.func fn f1 f2)(hnm:¬Z.mute)
 (hz:own ad.block) (hns:¬Z.sy ad.block) (hc:W.cell? ad=some v0) (hf:W.frozen? ad=false)
 (hn:∀W1,dM Z own W W1->Gw Tryz.prog main Z Stop own (G (b.at (a.put o.dst undef) (.inRegion ops rest::kk)) cs) (W1.setCell ad (.func fn f1 f2))):
 Gw Tryz.prog main Z Stop own (G (b.at a (.inRegion ops (i::rest)::kk)) cs) W:=
 yC ho hw hk hnm hz hns (λW1 hr=>by
  have hb:=hr.own _ hz;have hc1:W1.cell? ad=some v0:=by rw[<-hc];unfold World.cell?;rw[hb]
  have hf1:W1.frozen? ad=false:=by rw[<-hf];unfold World.frozen?;rw[hb]
  exact⟨by unfold execOp;simp only[hop,hx,hy];simp[go_sem,hc1,hf1];rw[Go.run_store _ _ _ _ _ rfl];simp[go_sem,hc1,hf1],by unfold execOp;simp only[hop,hx,hy];simp[go_sem,hc1,hf1];rw[Go.events_store _ _ _ _ _ _ rfl];simp[hc1,hf1]⟩) hn
end
end
section
attribute [local instance] noSh gX
def l2:List FuncId:=[25,27,28,53,51,52,55,56,85,86,101,102,103,112]
def S2(g:FuncId):Bool:=l2.contains g
theorem aj6:l2.all (EK Tryz.prog S2 S2)=true:=by kernel_rfl
theorem Tq(A:Nat->Bool):kL Tryz.prog (FA S2 S2 (fe Tryz.prog S2 S2) A):=
 Mr (λg hg=>bF.1 aj6 g (by simpa[S2]using hg)) (λ_ h=>h) A
structure sj(As own:Nat->Prop)(W:World)(b:dO)(v:gJ):Prop where
 at_:fC W W.heap.size b v
 own:∀a,As a->own a
 blk:∀a,As a->∃c e fr,W.heap[a]?=some (.cells c e fr)∧∀x∈c,eF x=true∨∃p l cp,x=.slice p l cp∧∀q,p=some q->As q.block
 top:∀q,v.ah=some q∨v.ap=some q∨v.iT=some q∨v.ac=some q->As q.block
 deep:∀i s,b.steps[i]?=some s->∀q,(v.sv i).a1=some q∨(v.sv i).a2=some q->As q.block
section
variable {As own:Nat->Prop} {W:World} {b:dO} {v:gJ}
theorem sj.good(h:sj As own W b v)(hlt:∀a,own a->a<W.heap.size):(∀a o,As a->W.heap[a]?=some o->∃c e fr,o=.cells c e fr∧Z4 Tryz.prog S2 As W.heap.size c)∧
 (∀p l c,(∀q,p=some q->As q.block)->vs (FA S2 S2 (fe Tryz.prog S2 S2) (Bd (iL As W.heap.size) W.heap.size)) (.slice p l c)=true):=by
 classical
 have on:∀b,As b->Bd (iL As W.heap.size) W.heap.size b=true:= λb hb=>gH.2 ⟨by unfold iL;exact decide_eq_true (.inl hb),hlt b (h.own b hb)⟩
 have sl:∀p l c,(∀q,p=some q->As q.block)->vs (FA S2 S2 (fe Tryz.prog S2 S2) (Bd (iL As W.heap.size) W.heap.size)) (.slice p l c)=true:= λp l c hp=>by
  cases hA:p with
  |none=>simp
  |some a=>rw[gY,um];exact on a.block (hp a hA)
 refine⟨λa o ha ho=>?_,sl⟩;obtain⟨c,e,fr,h1,h2⟩:=h.blk a ha;rw[h1]at ho;cases ho;refine⟨_,_,_,rfl, λx hx=>?_⟩;rcases h2 x hx with h3|⟨p,l,cp,rfl,h3⟩
 .exact(iP (f:= λb=>b) h3).2
 .exact sl _ _ _ h3
theorem sj.val(h:sj As own W b v)(hlt:∀a,own a->a<W.heap.size):vs (FA S2 S2 (fe Tryz.prog S2 S2) (Bd (iL As W.heap.size) W.heap.size)) (dY b v)=true:=by
 obtain⟨_,sl⟩:=h.good hlt;unfold dY;rw[lV];intro x hx;simp only[aB,bD,ax,or_false]at hx;rcases hx with rfl|rfl|rfl|rfl
 .exact sl _ _ _ λq hq=>h.top q (.inl hq)
 .exact sl _ _ _ λq hq=>h.top q (.inr (.inl hq))
 .exact sl _ _ _ λq hq=>h.top q (.inr (.inr (.inl hq)))
 .exact sl _ _ _ λq hq=>h.top q (.inr (.inr (.inr hq)))
end
theorem vO{w w':World}{B B' k n:Nat}{A:Option Addr}{f:Nat->Nat->Value}{As:Nat->Prop}(h:Rd w B k A n f)(hA:∀q,A=some q->As q.block)(hc:∀b,As b->w'.heap[b]?=w.heap[b]?)(hB:B<=B'):Rd w' B' k A n f:= λhn=>by
 obtain⟨bb,off,e,h1,h2⟩:=h hn;exact⟨bb,off,e,aK h1 hB, λi j hi hj=>(fJ (hc _ (hA _ e)) _).trans (h2 i j hi hj)⟩
section
variable {main:Bool} {As own:Nat->Prop} {W:World} {b:dO} {v:gJ} {Stop:(Nat->Prop)->Goroutine->World->Prop} {fT:Frame} {K':List Frame}
theorem sj.kept{dD:Nat->Prop}{Z:fO}{W':World}(h:sj As own W b v)(hlt:∀a,own a->a<W.heap.size)(hk:Kept Z own W dD W'):sj As dD W' b v:=by
 obtain⟨h1,h2,h3,h4,h5⟩:=h;have hc:∀b,As b->W'.heap[b]?=W.heap[b]?:= λb hb=>hk.rely.own _ (h2 b hb)
 refine⟨⟨vO h1.dJ (λq e=>h4 q (.inl e)) hc hk.rely.size,vO h1.dz (λq e=>h4 q (.inr (.inl e))) hc hk.rely.size,vO h1.steps (λq e=>h4 q (.inr (.inr (.inl e)))) hc hk.rely.size, λi s e=>vO (h1.ins i s e) (λq e'=>h5 i s e q (.inl e')) hc hk.rely.size,
  λi s e=>vO (h1.outs i s e) (λq e'=>h5 i s e q (.inr e')) hc hk.rely.size,vO h1.dA (λq e=>h4 q (.inr (.inr (.inr e)))) hc hk.rely.size,h1.lh,h1.lp,h1.ls,h1.lc⟩, λa ha=>hk.sub _ (h2 a ha), λa ha=>?_,h4,h5⟩
 .obtain⟨c,e,fr,q1,q2⟩:=h3 a ha;exact⟨c,e,fr,(hk.rely.own _ (h2 a ha)).trans q1,q2⟩
theorem Zd(hb:sj As own W b v)(hlt:∀a,own a->a<W.heap.size)(ja:Tryz.prog.globals.size<W.heap.size)(hs:b.small)
 (lU:∀dD W',Kept Z0 own W dD W'->Gw Tryz.prog main Z0 Stop dD (G (fT.finish (.int .i64 (fG b))) K') W'):
 Gw Tryz.prog main Z0 Stop own (G (Frame.enter Tryz.prog 25 #[dY b v] .normal) (fT::K')) W:=by
 obtain⟨g1,_⟩:=hb.good hlt;refine rJ (S:=S2) (As:=As) (R:= λv _=>v=.int .i64 (fG b)) Tq gD ja (λa ha=>.inl (hb.own a ha)) g1 (λa ha=>⟨hlt a ha, λh=>h, λh=>h⟩) (λ_ h=>az h) (λ_ h=>az h) (λ_ _ h=>az h) (λh=>h) (g:=25) rfl ?_ (λw hsz hcell=>?_) λv w' f' dD W' hR hk _=>?_
 .intro x hx;simp only[aB,bD,ax,or_false]at hx;subst hx;exact hb.val hlt
 .have :=@Lo.wE gX w W.heap.size b v (hb.at_.keep λb o _=>hcell b o) (Nat.le_of_eq hsz.symm) hs;rw[zf]at this;exact this.mono λe w' h=>⟨_,h.1,rfl⟩
 .subst hR;rw[iC];exact lU dD W' hk
structure aq6(own:Nat->Prop)(W:World)(bw:Nat)(ss:List eX)(n nd:Nat)(A:Option Addr)(cap:Nat):Prop where
 ow:own bw
 blk:∃e fr,W.heap[bw]?=some (.cells #[.slice A ss.length cap,.int .i64 (n:Int),.int .i64 (nd:Int)] e fr)
 at_:jG W W.heap.size bw ss n nd A cap
 str:∀a,A=some a->own a.block∧∃cur e fr,W.heap[a.block]?=some (.cells cur e fr)∧∀x∈cur,eF x=true
theorem aq7(hb:sj As own W b v)(hlt:∀a,own a->a<W.heap.size)(ja:Tryz.prog.globals.size<W.heap.size)(hg:b.good){hand:Int}(hh: -1<=hand∧hand<=64)
 (lU:∀dD W' bw A cap,Kept Z0 own W dD W'->aq6 dD W' bw (fA b hand) b.steps.length (dZ b hand) A cap->W.heap.size<=bw->(∀a,A=some a->W.heap.size<=a.block)->Gw Tryz.prog main Z0 Stop dD (G (fT.finish (.pointer (some ⟨bw,0,none⟩))) K') W'):
 Gw Tryz.prog main Z0 Stop own (G (Frame.enter Tryz.prog 28 #[dY b v,.int .i64 hand] .normal) (fT::K')) W:=by
 obtain⟨g1,_⟩:=hb.good hlt;refine rJ (S:=S2) (As:=As) (R:= λx w'=>∃bw y,x=.pointer (some ⟨bw,0,none⟩)∧W.heap.size<=bw∧bw<w'.heap.size∧fQ w' bw W.heap.size b.steps.length (dZ b hand) (fA b hand) y) Tq gD ja (λa ha=>.inl (hb.own a ha)) g1 (λa ha=>⟨hlt a ha, λh=>h, λh=>h⟩) (λ_ h=>az h) (λ_ h=>az h) (λ_ _ h=>az h) (λh=>h) (g:=28) rfl ?_ (λw hsz hcell=>?_) λx w' f' dD W' hR hk hm=>?_
 .intro x hx;simp only[aB,bD,ax,or_false]at hx;rcases hx with rfl|rfl
  .exact hb.val hlt
  .simp
 .have :=@Lo.ER gX w W.heap.size b v (hb.at_.keep λb o _=>hcell b o) (Nat.le_of_eq hsz.symm) hg hand hh;rw[zf]at this;refine this.mono λe w' h=>?_
  obtain⟨bw,y,h1,h2,h3,h4,_⟩:=h;rw[hsz]at h2 h4;exact⟨_,h1,bw,y,rfl,h2,h3,h4⟩
 .obtain⟨bw,y,rfl,h1,h2,h3⟩:=hR;obtain⟨A,cap,rfl,hat⟩:=h3.at (MN b hand hg) (MR b hand hg);obtain⟨q1,q2,q3⟩:=hm.ge bw h1 h2;have e0:rv f' (.pointer (some ⟨bw,0,none⟩))=.pointer (some ⟨f' bw,0,none⟩):=by rw[dX];rfl
  rw[e0];obtain⟨fr',b1⟩:=hm.blk _ _ _ _ h1 h3.blk;have b2:W'.heap[f' bw]?=some (.cells #[.slice (A.map (ra f')) (fA b hand).length cap,.int .i64 (b.steps.length:Int),.int .i64 (dZ b hand:Int)] 96 fr'):=by rw[b1];simp
  have hge:∀a,A=some a->W.heap.size<=a.block∧a.block<w'.heap.size∧∃cur e,w'.heap[a.block]?=some (.cells cur e)∧∀x∈cur,eF x=true:= λa ha=>by
   have hp:=h3.pl;have hr:=h3.row;rw[ha]at hp hr;obtain⟨l1,l2⟩:=hr.lt a.block rfl;exact⟨l1,l2,hp a.block rfl⟩
  refine lU dD W' (f' bw) (A.map (ra f')) cap hk ⟨q3,⟨_,_,b2⟩,⟨q2,?_,?_,?_, λhn=>?_,hat.ok,hat.len⟩, λa ha=>?_⟩ q1 λa ha=>?_
  .rw[hm.cell _ _ _ h1 hat.c0];simp
  .rw[hm.cell _ _ _ h1 hat.c1];simp
  .rw[hm.cell _ _ _ h1 hat.c2];simp
  .obtain⟨bb,off,e,p1,p2⟩:=hat.rd hn;subst e;obtain⟨k1,k2,_⟩:=hge _ rfl;refine⟨f' bb,off,rfl,(hm.ge _ k1 k2).2.1, λi j hi hj=>?_⟩;rw[hm.cell _ _ _ k1 (p2 i j hi hj)];unfold sU
   match j,hj with
   |0,_=>rw[show((((fA b hand)[i]?).getD ⟨0,0,0,0⟩).cells 0)=.int .i64 (((fA b hand)[i]?).getD ⟨0,0,0,0⟩).lo from rfl,iC]
   |1,_=>rw[show((((fA b hand)[i]?).getD ⟨0,0,0,0⟩).cells 1)=.int .i64 (((fA b hand)[i]?).getD ⟨0,0,0,0⟩).hi from rfl,iC]
   |2,_=>rw[show((((fA b hand)[i]?).getD ⟨0,0,0,0⟩).cells 2)=.int .i64 ((((fA b hand)[i]?).getD ⟨0,0,0,0⟩).fr:Int)from rfl,iC]
   |3,_=>rw[show((((fA b hand)[i]?).getD ⟨0,0,0,0⟩).cells 3)=.int .i64 ((((fA b hand)[i]?).getD ⟨0,0,0,0⟩).to:Int)from rfl,iC]
  .cases hA:A with
   |none=>rw[hA]at ha;cases ha
   |some a0=>
    rw[hA]at ha;have ha:some (ra f' a0)=some a:=ha;cases ha;obtain⟨l1,l2,cur,e,c1,c2⟩:=hge a0 hA;obtain⟨fr',c3⟩:=hm.blk _ _ _ _ l1 c1;rw[EL c2]at c3;exact⟨(hm.ge _ l1 l2).2.2,cur,e,fr',c3,c2⟩
  .cases hA:A with
   |none=>rw[hA]at ha;cases ha
   |some a0=>
    rw[hA]at ha;have ha:some (ra f' a0)=some a:=ha;cases ha;obtain⟨l1,l2,_⟩:=hge a0 hA;exact(hm.ge _ l1 l2).1
end
end
end Go.Proofs.Tryz
namespace Go.Proofs.Tryz
open Go Go.RowKit Par
section
attribute [local instance] noSh
theorem Nt{P:Program}{q:FuncId}{fn:Func}(h:P.funcs[q]?=some fn)(c:Code):(P.stub q c).funcs[q]?=some { fn with body:=some c }:=by
 show(P.funcs.modify q _)[q]?=_
 rw[bz,aj rfl,h];rfl
theorem zg(P:Program){q g:FuncId}(c:Code)(h:g≠q):(P.stub q c).funcs[g]?=P.funcs[g]?:=by
 show(P.funcs.modify q _)[g]?=_
 rw[bz,aa (λx=>h x.symm)]
theorem DN(P:Program)(q:FuncId)(c:Code)(h:iA P=true):iA (P.stub q c)=true:=h
@[reducible] noncomputable def Nu:Lo.St:=⟨Tryz.f6.body.getD .skip,.refuse ""⟩
noncomputable def ji:Program:=Tryz.prog.stub 13 (.refuse "")
theorem Tu: @Lo.prog Nu=ji:=by
 rw[@Lo.iB Nu];have h5:Tryz.prog.stub 6 (Tryz.f6.body.getD .skip)=Tryz.prog:=oO Tryz.func6 (by unfold Tryz.f6;rfl);show(Tryz.prog.stub 6 (Tryz.f6.body.getD .skip)).stub 13 (.refuse "")=ji;rw[h5];rfl
noncomputable def Ze:Func:={ Tryz.f13 with body:=some (.refuse "") }
theorem Nv:ji.funcs[13]?=some Ze:=by unfold ji Ze;exact Nt Tryz.func13 _
theorem Fh(P:Program)(q:FuncId)(c c':Code):(P.stub q c).stub q c'=P.stub q c':=by
 unfold Program.stub;congr 1;apply Array.ext_getElem?;intro i;rw[bz,bz,bz]
 by_cases h:q=i
 .rw[aj h,aj h,aj h];cases P.funcs[i]?<;>rfl
 .rw[aa h,aa h,aa h]
theorem Tv:Par.Alike ji Tryz.prog:=by
 have e:Tryz.prog=ji.stub 13 (Tryz.f13.body.getD .skip):=by unfold ji;rw[Fh];exact(oO Tryz.func13 (by unfold Tryz.f13;rfl)).symm
 rw[e];exact Par.Alike.stub _ _ _
theorem aj7(g:FuncId)(h:Tryz.prog.funcs[g]?≠ji.funcs[g]?):g=13:=by
 by_cases e:g=13
 .exact e
 .exfalso;refine h ?_
  unfold ji;exact(zg Tryz.prog _ e).symm
theorem Tw(S:FuncId->Bool):Ar ji Tryz.prog S:=FX (why:= "") Nv rfl λg _ hne=>aj7 g hne
theorem Tx:iA ji=true:=by
 unfold ji;exact DN _ _ _ gD
end
end Go.Proofs.Tryz
namespace Go.Proofs.Tryz
open Go Go.Conc Go.ConcN Go.ConcM Go.RowKit Go.Conc.Lib Go.ConcR.Gen Par
section
attribute [local instance] noSh gX
noncomputable def LP:Code:=(fH lQ).getD .skip
theorem JC:Tryz.f13.body=some lQ:=by unfold lQ Tryz.f13;rfl
theorem Ty:(Tryz.f25.name== "runtime.NumGoroutine")=false:=by kernel_rfl
theorem Zf:(Tryz.f28.name== "runtime.NumGoroutine")=false:=by kernel_rfl
theorem Tz:Tryz.f25.body=some (Tryz.f25.body.getD .skip):=by unfold Tryz.f25;rfl
theorem Zg:Tryz.f28.body=some (Tryz.f28.body.getD .skip):=by unfold Tryz.f28;rfl
structure Sn(dR:Nat->Prop)(W0:World)(L:List (Nat×Obj))(own:Nat->Prop)(W:World):Prop where
 kept:Kept Z0 dR W0 own W
 lt:∀b,own b->b<W.heap.size
 has:∀p∈L,own p.1∧W0.heap.size<=p.1∧W.heap[p.1]?=some p.2
 nd:(L.map Prod.fst).Nodup
section
variable {dR own dD:Nat->Prop} {W0 W W1:World} {L:List (Nat×Obj)}
theorem Sn.start(h:∀b,dR b->b<W0.heap.size):Sn dR W0 [] dR W0:=⟨⟨dM.refl _, λ_ h=>h, λ_ h=>.inl h⟩,h, λ_ h=>(by cases h),List.nodup_nil⟩
theorem Sn.rely(h:Sn dR W0 L own W)(hr:dM Z0 own W W1):Sn dR W0 L own W1:=
 ⟨⟨h.kept.rely.trans ⟨hr.tape,hr.out,hr.os,hr.size, λb hb=>hr.own b (h.kept.sub b hb),hr.ro,hr.sy,hr.cl⟩,h.kept.sub, λb hb=>(h.kept.new b hb).imp id λx=>⟨x.1,aK x.2 hr.size⟩⟩,
  λb hb=>aK (h.lt b hb) hr.size, λp hp=>⟨(h.has p hp).1,(h.has p hp).2.1,(hr.own _ (h.has p hp).1).trans (h.has p hp).2.2⟩,h.nd⟩
theorem Sn.push(h:Sn dR W0 L own W)(o:Obj):Sn dR W0 ((W.heap.size,o)::L) (λc=>own c∨c=W.heap.size) { W with heap:=W.heap.push o }:=by
 have hold:∀c,c<W.heap.size->(W.heap.push o)[c]?=W.heap[c]?:= λc hc=>by rw[Array.getElem?_push_lt hc,aW hc]
 have hs:=h.kept.rely.size;refine⟨⟨h.kept.rely.trans ⟨rfl,rfl,OsLater.refl _,by simp, λb hb=>hold b (h.lt b (h.kept.sub b hb)), λ_ x=>az x, λ_ x=>az x, λ_ _ x=>az x⟩, λb hb=>.inl (h.kept.sub b hb), λb hb=>?_⟩, λb hb=>?_, λp hp=>?_,?_⟩
 .rcases hb with hb|rfl
  .exact(h.kept.new b hb).imp id λx=>⟨x.1,by simp;omega⟩
  .exact .inr ⟨hs,by simp⟩
 .simp only[Array.size_push];rcases hb with hb|rfl
  .have :=h.lt b hb;omega
  .omega
 .rcases bD.1 hp with rfl|hp
  .exact⟨.inr rfl,hs,by simp⟩
  .obtain⟨a,b,c⟩:=h.has p hp;exact⟨.inl a,b,(hold _ (h.lt _ a)).trans c⟩
 .simp only[aC,List.nodup_cons];refine⟨λhx=>?_,h.nd⟩;obtain⟨p,hp,e⟩:=List.mem_map.1 hx;have :=h.lt _ (h.has p hp).1;omega
theorem Sn.call(h:Sn dR W0 L own W)(hk:Kept Z0 own W dD W1):Sn dR W0 L dD W1:=
 ⟨⟨h.kept.rely.trans ⟨hk.rely.tape,hk.rely.out,hk.rely.os,hk.rely.size, λb hb=>hk.rely.own b (h.kept.sub b hb),hk.rely.ro,hk.rely.sy,hk.rely.cl⟩, λb hb=>hk.sub b (h.kept.sub b hb), λb hb=>by
   have :=h.kept.rely.size;rcases hk.new b hb with x|x
   .exact(h.kept.new b x).imp id λy=>⟨y.1,aK y.2 hk.rely.size⟩
   .exact .inr ⟨by omega,x.2⟩⟩,
  λb hb=>by
   rcases hk.new b hb with x|x
   .exact aK (h.lt b x) hk.rely.size
   .exact x.2, λp hp=>⟨hk.sub _ (h.has p hp).1,(h.has p hp).2.1,(hk.rely.own _ (h.has p hp).1).trans (h.has p hp).2.2⟩,h.nd⟩
theorem Sn.add(h:Sn dR W0 L own W){b:Nat}{o:Obj}(h1:own b)(h2:W0.heap.size<=b)(h3:W.heap[b]?=some o)(h4:∀p∈L,p.1≠b):Sn dR W0 ((b,o)::L) own W:=
 ⟨h.kept,h.lt, λp hp=>by
   rcases bD.1 hp with rfl|hp
   .exact⟨h1,h2,h3⟩
   .exact h.has p hp,by
   simp only[aC,List.nodup_cons];refine⟨λhx=>?_,h.nd⟩;obtain⟨p,hp,e⟩:=List.mem_map.1 hx;exact h4 p hp e⟩
theorem Sn.set{b:Nat}{v0:Value}{e:TypeId}(h:Sn dR W0 ((b,.cells #[v0] e)::L) own W)(hb0:∀x,dR x->x<W0.heap.size)(v:Value):Sn dR W0 ((b,.cells #[v] e)::L) own (W.setCell ⟨b,0,none⟩ v):=by
 have hb:=h.has _ (aP ..);have ha:=Go.Conc.aside_setCell W ⟨b,0,none⟩ v;refine⟨⟨h.kept.rely.trans ⟨ha.tape,ha.output,by rw[ha.os];exact OsLater.refl _,Nat.le_of_eq ha.size.symm, λx hx=>ha.block x λe=>?_, λ_ x=>az x, λ_ x=>az x, λ_ _ x=>az x⟩,h.kept.sub, λx hx=>(h.kept.new x hx).imp id λy=>⟨y.1,by rw[ha.size];exact y.2⟩⟩, λx hx=>by rw[ha.size];exact h.lt x hx, λp hp=>?_,h.nd⟩
 .have :=hb0 x hx;have :=hb.2.1;have e:x=b:=e;omega
 .rcases bD.1 hp with rfl|hp'
  .refine⟨hb.1,hb.2.1,?_⟩;show(W.setCell ⟨b,0,none⟩ v).heap[b]?=_
   rw[heap_setCell_same W b 0 _ e v hb.2.2];rfl
  .obtain⟨a,c,d⟩:=h.has p (aQ _ hp');refine⟨a,c,(ha.block _ λe=>?_).trans d⟩;have hn:=h.nd;simp only[aC,List.nodup_cons]at hn;have e:p.1=b:=e;exact hn.1 (e ▸ List.mem_map_of_mem hp')
theorem Sn.mine(h:Sn dR W0 L own W){b:Nat}{o:Obj}(hm:(b,o)∈L):own b:=(h.has _ hm).1
theorem Sn.cell(h:Sn dR W0 L own W){b:Nat}{v:Value}{e:TypeId}(hm:(b,Obj.cells #[v] e)∈L):W.cell? ⟨b,0,none⟩=some v:=C1.cell ⟨e,(h.has _ hm).2.2⟩
theorem Sn.free(h:Sn dR W0 L own W){b:Nat}{v:Value}{e:TypeId}(hm:(b,Obj.cells #[v] e)∈L):W.frozen? ⟨b,0,none⟩=false:=C1.free ⟨e,(h.has _ hm).2.2⟩
end
section
variable {main:Bool} {dR own:Nat->Prop} {W0:World} {L:List (Nat×Obj)} {Stop:(Nat->Prop)->Goroutine->World->Prop}
variable {b:Frame} {a:Act} {kk:List Item} {cs:List Frame} {W:World} {ops:Array Oper} {i:Nat} {rest:List Nat} {o:Oper} {x y:Operand} {ad:Addr}
theorem VY{v1 v2 v3 v4:Value}(S:Sn dR W0 L own W)(ho:ops[i]?=some o)(hw:Region.wanted o (yielded ops a.tmps)=true)(hk:b.kind≠ .early)(hop:o.op=.box 26 x)(hx:a.eval x=.agg #[v1,v2,v3,v4])
 (hn:∀n dD W',Sn dR W0 ((n,.cells #[v1,v2,v3,v4] 26)::L) dD W'->Gw Tryz.prog main Z0 Stop dD (G (b.at (a.put o.dst (.pointer (some ⟨n,0,none⟩))) (.inRegion ops rest::kk)) cs) W'):
 Gw Tryz.prog main Z0 Stop own (G (b.at a (.inRegion ops (i::rest)::kk)) cs) W:=
 VU ho hw hk hop hx (λh=>h) (λ_ h=>az h) λ_ hr=>hn _ _ _ ((S.rely hr).push _)
theorem VZ(S:Sn dR W0 L own W)(ho:ops[i]?=some o)(hw:Region.wanted o (yielded ops a.tmps)=true)(hk:b.kind≠ .early)(hop:o.op=.alloc 33)
 (hn:∀n dD W',Sn dR W0 ((n,.cells #[.slice none 0 0] 33)::L) dD W'->Gw Tryz.prog main Z0 Stop dD (G (b.at (a.put o.dst (.pointer (some ⟨n,0,none⟩))) (.inRegion ops rest::kk)) cs) W'):
 Gw Tryz.prog main Z0 Stop own (G (b.at a (.inRegion ops (i::rest)::kk)) cs) W:=
 VV ho hw hk hop (λh=>h) (λ_ h=>az h) λ_ hr=>hn _ _ _ ((S.rely hr).push _)
theorem Fj(S:Sn dR W0 L own W)(ho:ops[i]?=some o)(hw:Region.wanted o (yielded ops a.tmps)=true)(hk:b.kind≠ .early)(hop:o.op=.alloc 4)
 (hn:∀n dD W',Sn dR W0 ((n,.cells #[.bool false] 4)::L) dD W'->Gw Tryz.prog main Z0 Stop dD (G (b.at (a.put o.dst (.pointer (some ⟨n,0,none⟩))) (.inRegion ops rest::kk)) cs) W'):
 Gw Tryz.prog main Z0 Stop own (G (b.at a (.inRegion ops (i::rest)::kk)) cs) W:=
 Fg ho hw hk hop (λh=>h) (λ_ h=>az h) λ_ hr=>hn _ _ _ ((S.rely hr).push _)
theorem TA(S:Sn dR W0 L own W)(ho:ops[i]?=some o)(hw:Region.wanted o (yielded ops a.tmps)=true)(hk:b.kind≠ .early)(hop:o.op=.alloc 71)
 (hn:∀n dD W',Sn dR W0 ((n,.cells #[.pointer none] 71)::L) dD W'->Gw Tryz.prog main Z0 Stop dD (G (b.at (a.put o.dst (.pointer (some ⟨n,0,none⟩))) (.inRegion ops rest::kk)) cs) W'):
 Gw Tryz.prog main Z0 Stop own (G (b.at a (.inRegion ops (i::rest)::kk)) cs) W:=
 Ti ho hw hk hop (λh=>h) (λ_ h=>az h) λ_ hr=>hn _ _ _ ((S.rely hr).push _)
theorem V3(S:Sn dR W0 L own W)(ho:ops[i]?=some o)(hw:Region.wanted o (yielded ops a.tmps)=true)(hk:b.kind≠ .early)(hop:o.op=.alloc 79)
 (hn:∀n dD W',Sn dR W0 ((n,.cells #[.int .i32 0,.int .u32 0] 79)::L) dD W'->Gw Tryz.prog main Z0 Stop dD (G (b.at (a.put o.dst (.pointer (some ⟨n,0,none⟩))) (.inRegion ops rest::kk)) cs) W'):
 Gw Tryz.prog main Z0 Stop own (G (b.at a (.inRegion ops (i::rest)::kk)) cs) W:=
 VW ho hw hk hop (λh=>h) (λ_ h=>az h) λ_ hr=>hn _ _ _ ((S.rely hr).push _)
theorem V4(S:Sn dR W0 L own W)(ho:ops[i]?=some o)(hw:Region.wanted o (yielded ops a.tmps)=true)(hk:b.kind≠ .early)(hop:o.op=.alloc 86)
 (hn:∀n dD W',Sn dR W0 ((n,.cells #[.int .u64 0,.int .u32 0] 86)::L) dD W'->Gw Tryz.prog main Z0 Stop dD (G (b.at (a.put o.dst (.pointer (some ⟨n,0,none⟩))) (.inRegion ops rest::kk)) cs) W'):
 Gw Tryz.prog main Z0 Stop own (G (b.at a (.inRegion ops (i::rest)::kk)) cs) W:=
 VX ho hw hk hop (λh=>h) (λ_ h=>az h) λ_ hr=>hn _ _ _ ((S.rely hr).push _)
theorem TB(S:Sn dR W0 L own W)(ho:ops[i]?=some o)(hw:Region.wanted o (yielded ops a.tmps)=true)(hk:b.kind≠ .early)(hop:o.op=.alloc 90)
 (hn:∀n dD W',Sn dR W0 ((n,.cells #[.nilFunc] 90)::L) dD W'->Gw Tryz.prog main Z0 Stop dD (G (b.at (a.put o.dst (.pointer (some ⟨n,0,none⟩))) (.inRegion ops rest::kk)) cs) W'):
 Gw Tryz.prog main Z0 Stop own (G (b.at a (.inRegion ops (i::rest)::kk)) cs) W:=
 Tk ho hw hk hop (λh=>h) (λ_ h=>az h) λ_ hr=>hn _ _ _ ((S.rely hr).push _)
theorem Zh(S:Sn dR W0 L own W)(ho:ops[i]?=some o)(hw:Region.wanted o (yielded ops a.tmps)=true)(hk:b.kind≠ .early)(hop:o.op=.buildSlice 91 2 #[(0,.const (.bool false)),(1,.const (.bool true))])
 (hn:∀n dD W',Sn dR W0 ((n,.cells #[.bool false,.bool true] 4)::L) dD W'->Gw Tryz.prog main Z0 Stop dD (G (b.at (a.put o.dst (.slice (some ⟨n,0,none⟩) 2 2)) (.inRegion ops rest::kk)) cs) W'):
 Gw Tryz.prog main Z0 Stop own (G (b.at a (.inRegion ops (i::rest)::kk)) cs) W:=
 Zc ho hw hk hop (λh=>h) (λ_ h=>az h) λ_ hr=>hn _ _ _ ((S.rely hr).push _)
theorem TC{v1 v2 v3 v4:Value}{e:TypeId}{bb:Nat}(S:Sn dR W0 L own W)(ho:ops[i]?=some o)(hw:Region.wanted o (yielded ops a.tmps)=true)(hk:b.kind≠ .early)(hop:o.op=.load 26 x)(hx:a.eval x=.pointer (some ⟨bb,0,none⟩))(hm:(bb,Obj.cells #[v1,v2,v3,v4] e)∈L)
 (hn:∀W',Sn dR W0 L own W'->Gw Tryz.prog main Z0 Stop own (G (b.at (a.put o.dst (.agg #[v1,v2,v3,v4])) (.inRegion ops rest::kk)) cs) W'):
 Gw Tryz.prog main Z0 Stop own (G (b.at a (.inRegion ops (i::rest)::kk)) cs) W:=
 Tm ho hw hk hop hx (λh=>h) (.inl (S.mine hm)) (S.has _ hm).2.2 λ_ hr=>hn _ (S.rely hr)
theorem TD{p:Option Addr}{v0:Value}{e:TypeId}{bb:Nat}(S:Sn dR W0 ((bb,.cells #[v0] e)::L) own W)(hb0:∀x,dR x->x<W0.heap.size)(ho:ops[i]?=some o)(hw:Region.wanted o (yielded ops a.tmps)=true)(hk:b.kind≠ .early)(hop:o.op=.store 71 x y)(hx:a.eval x=.pointer (some ⟨bb,0,none⟩))(hy:a.eval y=.pointer p)
 (hn:∀W',Sn dR W0 ((bb,.cells #[.pointer p] e)::L) own W'->Gw Tryz.prog main Z0 Stop own (G (b.at (a.put o.dst undef) (.inRegion ops rest::kk)) cs) W'):
 Gw Tryz.prog main Z0 Stop own (G (b.at a (.inRegion ops (i::rest)::kk)) cs) W:=
 Tn ho hw hk hop hx hy (λh=>h) (S.mine (aP ..)) (λh=>h) (S.cell (aP ..)) (S.free (aP ..)) λ_ hr=>hn _ ((S.rely hr).set hb0 _)
theorem TE{fn:Fn}{f1 f2:Array Value}{v0:Value}{e:TypeId}{bb:Nat}(S:Sn dR W0 ((bb,.cells #[v0] e)::L) own W)(hb0:∀x,dR x->x<W0.heap.size)(ho:ops[i]?=some o)(hw:Region.wanted o (yielded ops a.tmps)=true)(hk:b.kind≠ .early)(hop:o.op=.store 90 x y)(hx:a.eval x=.pointer (some ⟨bb,0,none⟩))(hy:a.eval y=.func fn f1 f2)
 (hn:∀W',Sn dR W0 ((bb,.cells #[.func fn f1 f2] e)::L) own W'->Gw Tryz.prog main Z0 Stop own (G (b.at (a.put o.dst undef) (.inRegion ops rest::kk)) cs) W'):
 Gw Tryz.prog main Z0 Stop own (G (b.at a (.inRegion ops (i::rest)::kk)) cs) W:=
 Tp ho hw hk hop hx hy (λh=>h) (S.mine (aP ..)) (λh=>h) (S.cell (aP ..)) (S.free (aP ..)) λ_ hr=>hn _ ((S.rely hr).set hb0 _)
theorem Nw{f:FuncId}{fn:Func}{c0:Code}{args:Array Operand}{ats:Array TypeId}(S:Sn dR W0 L own W)(ho:ops[i]?=some o)(hw:Region.wanted o (yielded ops a.tmps)=true)(hk:b.kind≠ .early)(hop:o.op=.call { callee:=.value (.func f),args,argTypes:=ats })
 (hf:Tryz.prog.funcs[f]?=some fn) (hname:(fn.name== "runtime.NumGoroutine")=false) (hb:fn.body=some c0)
 (hn:∀W',Sn dR W0 L own W'->Gw Tryz.prog main Z0 Stop own (G (Frame.enter Tryz.prog f (args.map a.eval) .normal) (b.at a (.inRegion ops (i::rest)::kk)::cs)) W'):
 Gw Tryz.prog main Z0 Stop own (G (b.at a (.inRegion ops (i::rest)::kk)) cs) W:=
 nK ho hw hk hop hf hname hb λ_ hr=>hn _ (S.rely hr)
end
section
variable {As dR own:Nat->Prop} {W0 W:World} {b:dO} {v:gJ} {Stop:(Nat->Prop)->Goroutine->World->Prop} {fT:Frame} {K':List Frame}
noncomputable def RP:Code:=(fE 14 lQ).getD .skip
noncomputable def JD(fT:Frame)(K':List Frame)(bs bm bf cw Mu Wg cb sb j:Nat)(j0 j1 j6 j11 j12 j13 Zi Zj M9 Na Nb Nc Nf Ng Nh Ni Nj Nk Nl Nn Np Nq Nr:Value):Goroutine:=
 G ((base 13).at ⟨#[j0,j1,.pointer (some ⟨bs,0,none⟩),.pointer (some ⟨bm,0,none⟩),.pointer (some ⟨bf,0,none⟩),.int .i64 0,j6,.pointer (some ⟨cw,0,none⟩),.pointer (some ⟨Mu,0,none⟩),.pointer (some ⟨Wg,0,none⟩),.pointer (some ⟨cb,0,none⟩),j11,j12,j13,Zi,Zj,M9,Na,Nb,Nc,Nf,.slice (some ⟨sb,0,none⟩) 2 2,.int .i64 2,.int .i64 (j:Int),Ng,Nh,Ni,Nj,Nk,Nl,Nn,Np,Nq,Nr],[]⟩ [.code LP,.inLoop LP,.inBlock 0,.code RP]) (fT::K')
def xG(fT:Frame)(K':List Frame)(bs bm bf cw Mu Wg cb sb j:Nat)(Q:Goroutine->Prop):Prop:=
 ∀j0 j1 j6 j11 j12 j13 Zi Zj M9 Na Nb Nc Nf Ng Nh Ni Nj Nk Nl Nn Np Nq Nr,Q (JD fT K' bs bm bf cw Mu Wg cb sb j j0 j1 j6 j11 j12 j13 Zi Zj M9 Na Nb Nc Nf Ng Nh Ni Nj Nk Nl Nn Np Nq Nr)
def kR(b:dO)(v:gJ)(bx bs bm bf cw Mu Wg cb sb bw:Nat)(A:Option Addr)(cap:Nat)(e:TypeId)(fr:Nat×Nat)(sL:List (Nat×Obj)):List (Nat×Obj):=
 [(sb,.cells #[.bool false,.bool true] 4),(cb,.cells #[.func (.func 30) #[] #[.pointer (some ⟨bs,0,none⟩),.pointer (some ⟨bf,0,none⟩),.pointer (some ⟨bm,0,none⟩)]] 90),(Wg,.cells #[.int .u64 0,.int .u32 0] 86),(Mu,.cells #[.int .i32 0,.int .u32 0] 79),(cw,.cells #[.pointer (some ⟨bw,0,none⟩)] 71),
   (bw,.cells #[.slice A (fA b (-1)).length cap,.int .i64 (b.steps.length:Int),.int .i64 (dZ b (-1):Int)] e fr)]++sL++ [(bf,.cells #[.bool false] 4),(bm,.cells #[.bool false] 4),(bs,.cells #[.slice none 0 0] 33),(bx,.cells #[.slice v.ah b.dJ.length v.ch,.slice v.ap b.dz.length v.cp,.slice v.iT b.steps.length v.cs,.slice v.ac b.dA.length v.cc] 26)]
structure qcs(dR:Nat->Prop)(W0:World)(b:dO)(v:gJ):Prop where
 check:∀(own:Nat->Prop)(W:World)(Stop:(Nat->Prop)->Goroutine->World->Prop)(fT:Frame)(K':List Frame),Kept Z0 dR W0 own W->(∀a,own a->a<W.heap.size)->(∀dD W',Kept Z0 own W dD W'->Gw Tryz.prog true Z0 Stop dD (G (fT.finish (.int .i64 0)) K') W')->
  Gw Tryz.prog true Z0 Stop own (G (Frame.enter Tryz.prog 25 #[dY b v] .normal) (fT::K')) W
 web:∀(own:Nat->Prop)(W:World)(Stop:(Nat->Prop)->Goroutine->World->Prop)(fT:Frame)(K':List Frame),Kept Z0 dR W0 own W->(∀a,own a->a<W.heap.size)->
  (∀dD W' bw A cap,Kept Z0 own W dD W'->aq6 dD W' bw (fA b (-1)) b.steps.length (dZ b (-1)) A cap->W.heap.size<=bw->(∀a,A=some a->W.heap.size<=a.block)->Gw Tryz.prog true Z0 Stop dD (G (fT.finish (.pointer (some ⟨bw,0,none⟩))) K') W')->
  Gw Tryz.prog true Z0 Stop own (G (Frame.enter Tryz.prog 28 #[dY b v,.int .i64 (-1)] .normal) (fT::K')) W
theorem sj.p(hb:sj As dR W0 b v)(hlt:∀a,dR a->a<W0.heap.size)(ja:Tryz.prog.globals.size<W0.heap.size)(hs:b.small)(hc0:fG b=0):qcs dR W0 b v:=
 ⟨λown W Stop fT K' hk hl hr=>Zd (hb.kept hlt hk) hl (aK ja hk.rely.size) hs (by rw[hc0];exact hr), λown W Stop fT K' hk hl hr=>aq7 (hb.kept hlt hk) hl (aK ja hk.rely.size) (lM hs hc0) (by omega) hr⟩
theorem aq8(hb:qcs dR W0 b v)(hlt:∀a,dR a->a<W0.heap.size)
 (hnext:∀bx bs bm bf cw Mu Wg cb sb bw A cap e fr sL own W,Sn dR W0 (kR b v bx bs bm bf cw Mu Wg cb sb bw A cap e fr sL) own W->jG W W.heap.size bw (fA b (-1)) b.steps.length (dZ b (-1)) A cap->(∀a,A=some a->∃cur e fr,(a.block,.cells cur e fr)∈sL∧∀x∈cur,eF x=true)->
   ∀w,dM Z0 own W w->xG fT K' bs bm bf cw Mu Wg cb sb 0 λg=>Gw Tryz.prog true Z0 Stop own g w):
 Gw Tryz.prog true Z0 Stop dR (G (Frame.enter Tryz.prog 13 #[dY b v] .normal) (fT::K')) W0:=by
 have S:Sn dR W0 [] dR W0:=Sn.start hlt;have HN:=dw hnext;clear hnext;have HB:=dw hb;clear hb;rw[enter_at _ Tryz.func13 JC];unfold dY
 walk_nrmf Tryz.f13
 simp only[lQ,Tryz.f13,ak];have hF:dM Z0 dR W0 W0:=dM.refl _;refine dG (n:=60) ?_
 repeat w_nl eH
 refine cz λbJ bH=>?_
 replace S:=S.rely (eH hF bH);clear hF bH;refine VY (v1:=.slice v.ah b.dJ.length v.ch) (v2:=.slice v.ap b.dz.length v.cp) (v3:=.slice v.iT b.steps.length v.cs) (v4:=.slice v.ac b.dA.length v.cc) (o:=?_) (x:=?_) S ?_ ?_ ?_ ?_ ?_ ?_
 rotate_left 2
 iterate 2 rfl
 .k_ne
 iterate 2 rfl
 clear S;intro bx mD W1 S;walk_nrm;refine VZ (o:=?_) S ?_ ?_ ?_ ?_ ?_
 rotate_left 1
 iterate 2 rfl
 .k_ne
 iterate 1 rfl
 clear S;intro bs mD W1 S;walk_nrm;refine Fj (o:=?_) S ?_ ?_ ?_ ?_ ?_
 rotate_left 1
 iterate 2 rfl
 .k_ne
 iterate 1 rfl
 clear S;intro bm mD W1 S;walk_nrm;refine Fj (o:=?_) S ?_ ?_ ?_ ?_ ?_
 rotate_left 1
 iterate 2 rfl
 .k_ne
 iterate 1 rfl
 clear S;intro bf mD W1 S;walk_nrm;have hF:dM Z0 mD W1 W1:=dM.refl _;refine dG (n:=60) ?_
 repeat w_nl eH
 refine cz λbJ bH=>?_
 replace S:=S.rely (eH hF bH);clear hF bH;refine TC (v1:=.slice v.ah b.dJ.length v.ch) (v2:=.slice v.ap b.dz.length v.cp) (v3:=.slice v.iT b.steps.length v.cs) (v4:=.slice v.ac b.dA.length v.cc) (o:=?_) (x:=?_) (bb:=bx) (e:=26) S ?_ ?_ ?_ ?_ ?_ (by simp) ?_
 rotate_left 2
 iterate 2 rfl
 .k_ne
 iterate 2 rfl
 clear S;intro W1 S;walk_nrm;refine Nw (o:=?_) (args:=?_) (ats:=?_) S ?_ ?_ ?_ ?_ Tryz.func25 Ty Tz ?_
 rotate_left 3
 iterate 2 rfl
 .k_ne
 .rfl
 clear S;intro W1 S;walk_nrm;refine HB.out.check _ _ _ _ _ S.kept S.lt λxC W2 hk=>?_
 replace S:=S.call hk;clear hk mD W1;rw[Frame.finish_at];revert xC W2;intro mD W1 S;have hF:dM Z0 mD W1 W1:=dM.refl _;refine dG (n:=60) ?_
 walk_nrm
 repeat w_nl eH
 refine cz λbJ bH=>?_
 replace S:=S.rely (eH hF bH);clear hF bH;refine TC (v1:=.slice v.ah b.dJ.length v.ch) (v2:=.slice v.ap b.dz.length v.cp) (v3:=.slice v.iT b.steps.length v.cs) (v4:=.slice v.ac b.dA.length v.cc) (o:=?_) (x:=?_) (bb:=bx) (e:=26) S ?_ ?_ ?_ ?_ ?_ (by simp) ?_
 rotate_left 2
 iterate 2 rfl
 .k_ne
 iterate 2 rfl
 clear S;intro W1 S;walk_nrm;refine Nw (o:=?_) (args:=?_) (ats:=?_) S ?_ ?_ ?_ ?_ Tryz.func28 Zf Zg ?_
 rotate_left 3
 iterate 2 rfl
 .k_ne
 .rfl
 clear S;intro W1 S;walk_nrm;refine HB.out.web _ _ _ _ _ S.kept S.lt λxC W2 bw A cap hk qQ aq9 UB=>?_
 have hsz:=S.kept.rely.size;have aj8:=S.lt;have Xn:=S.has;replace S:=S.call hk;obtain⟨e,fr,hwb⟩:=qQ.blk
 obtain⟨sL,Wr,S',hat,hsL⟩:∃sL Wr,Sn dR W0 ([(bw,.cells #[.slice A (fA b (-1)).length cap,.int .i64 (b.steps.length:Int),.int .i64 (dZ b (-1):Int)] e fr)]++sL++ [(bf,.cells #[.bool false] 4),(bm,.cells #[.bool false] 4),(bs,.cells #[.slice none 0 0] 33),(bx,.cells #[.slice v.ah b.dJ.length v.ch,.slice v.ap b.dz.length v.cp,.slice v.iT b.steps.length v.cs,.slice v.ac b.dA.length v.cc] 26)]) xC W2∧
  (jG Wr Wr.heap.size bw (fA b (-1)) b.steps.length (dZ b (-1)) A cap∧Wr.heap[bw]?=some (.cells #[.slice A (fA b (-1)).length cap,.int .i64 (b.steps.length:Int),.int .i64 (dZ b (-1):Int)] e fr))∧(∀a,A=some a->∃cur e fr,(a.block,.cells cur e fr)∈sL∧Wr.heap[a.block]?=some (.cells cur e fr)∧∀x∈cur,eF x=true):=by
  have hne1:∀p∈ [(bf,Obj.cells #[.bool false] 4),(bm,.cells #[.bool false] 4),(bs,.cells #[.slice none 0 0] 33),(bx,.cells #[.slice v.ah b.dJ.length v.ch,.slice v.ap b.dz.length v.cp,.slice v.iT b.steps.length v.cs,.slice v.ac b.dA.length v.cc] 26)],p.1<W1.heap.size:= λp hp=>aj8 _ (Xn p hp).1
  cases hA:A with
  |none=>
   subst hA;refine⟨[],W2,S.add qQ.ow (by omega) hwb λp hp e=>?_,⟨qQ.at_,hwb⟩, λa h=>by cases h⟩;have :=hne1 p hp;omega
  |some a=>
   subst hA;obtain⟨k1,cur,e',fr',k2,k3⟩:=qQ.str a rfl;have k4:=UB a rfl;refine⟨[(a.block,.cells cur e' fr')],W2,Sn.add (L:=(a.block,.cells cur e' fr')::_) (S.add k1 (by omega) k2 λp hp e=>?_) qQ.ow (by omega) hwb λp hp e=>?_,⟨qQ.at_,hwb⟩, λa' h=>?_⟩
   .have :=hne1 p hp;omega
   .rcases bD.1 hp with rfl|hp
    .have e:a.block=bw:=e;rw[e,hwb]at k2;cases k2;have :=k3 (.slice (some a) (fA b (-1)).length cap) (by simp);simp[eF]at this
    .have :=hne1 p hp;omega
   .cases h;exact⟨cur,e',fr',by simp,k2,k3⟩
 clear S;have S:=S';clear S';clear hk mD W1 qQ hwb aq9 UB hsz aj8 Xn;rw[Frame.finish_at];have HW:=dw (aM hat hsL);clear hat hsL;simp only[List.cons_append,List.nil_append]at S;revert xC W2;intro mD W1 S;have hF:dM Z0 mD W1 W1:=dM.refl _;refine dG (n:=60) ?_
 walk_nrm
 repeat w_nl eH
 refine cz λbJ bH=>?_
 replace S:=S.rely (eH hF bH);clear hF bH;refine TA (o:=?_) S ?_ ?_ ?_ ?_ ?_
 rotate_left 1
 iterate 2 rfl
 .k_ne
 iterate 1 rfl
 clear S;intro cw mD W1 S;walk_nrm;refine TD (p:=some ⟨bw,0,none⟩) (o:=?_) (x:=?_) (y:=?_) S hlt ?_ ?_ ?_ ?_ ?_ ?_ ?_
 rotate_left 3
 iterate 2 rfl
 .k_ne
 iterate 3 rfl
 clear S;intro W1 S;walk_nrm;have hF:dM Z0 mD W1 W1:=dM.refl _;refine dG (n:=60) ?_
 repeat w_nl eH
 refine cz λbJ bH=>?_
 replace S:=S.rely (eH hF bH);clear hF bH;refine V3 (o:=?_) S ?_ ?_ ?_ ?_ ?_
 rotate_left 1
 iterate 2 rfl
 .k_ne
 iterate 1 rfl
 clear S;intro Mu mD W1 S;walk_nrm;have hF:dM Z0 mD W1 W1:=dM.refl _;refine dG (n:=60) ?_
 repeat w_nl eH
 refine cz λbJ bH=>?_
 replace S:=S.rely (eH hF bH);clear hF bH;refine V4 (o:=?_) S ?_ ?_ ?_ ?_ ?_
 rotate_left 1
 iterate 2 rfl
 .k_ne
 iterate 1 rfl
 clear S;intro Wg mD W1 S;walk_nrm;have hF:dM Z0 mD W1 W1:=dM.refl _;refine dG (n:=60) ?_
 repeat w_nl eH
 refine cz λbJ bH=>?_
 replace S:=S.rely (eH hF bH);clear hF bH;refine TB (o:=?_) S ?_ ?_ ?_ ?_ ?_
 rotate_left 1
 iterate 2 rfl
 .k_ne
 iterate 1 rfl
 clear S;intro cb mD W1 S;walk_nrm;refine TE (fn:=.func 30) (f1:= #[]) (f2:= #[.pointer (some ⟨bs,0,none⟩),.pointer (some ⟨bf,0,none⟩),.pointer (some ⟨bm,0,none⟩)]) (o:=?_) (x:=?_) (y:=?_) S hlt ?_ ?_ ?_ ?_ ?_ ?_ ?_
 rotate_left 3
 iterate 2 rfl
 .k_ne
 iterate 3 rfl
 clear S;intro W1 S;walk_nrm;have hF:dM Z0 mD W1 W1:=dM.refl _;refine dG (n:=60) ?_
 repeat w_nl eH
 refine cz λbJ bH=>?_
 replace S:=S.rely (eH hF bH);clear hF bH;refine Zh (o:=?_) S ?_ ?_ ?_ ?_ ?_
 rotate_left 1
 iterate 2 rfl
 .k_ne
 iterate 1 rfl
 clear S;intro sb mD W1 S;walk_nrm;have hF:dM Z0 mD W1 W1:=dM.refl _;refine dG (n:=60) ?_
 repeat w_but "code.loop" eH
 u_c stepG_loop eH hF
 have hS:=S;have m1:=S.has (bw,.cells #[.slice A (fA b (-1)).length cap,.int .i64 (b.steps.length:Int),.int .i64 (dZ b (-1):Int)] e fr) (by simp);obtain⟨⟨hat,hbw⟩,hsL⟩:=HW.out;have hce:∀c,W1.heap[c]?=Wr.heap[c]?->∀o,W1.cell? ⟨c,o,none⟩=Wr.cell? ⟨c,o,none⟩:= λc h o=>fJ h o
 have hW:jG W1 W1.heap.size bw (fA b (-1)) b.steps.length (dZ b (-1)) A cap:=
  ⟨S.lt _ m1.1,(hce _ (m1.2.2.trans hbw.symm) _).trans hat.c0,(hce _ (m1.2.2.trans hbw.symm) _).trans hat.c1,(hce _ (m1.2.2.trans hbw.symm) _).trans hat.c2, λhn=>by
    obtain⟨bb,off,e',h1,h2⟩:=hat.rd hn;obtain⟨cur,e2,Qv,k1,k2,_⟩:=hsL _ e';have m2:=S.has (bb,.cells cur e2 Qv) (by simp[k1]);exact⟨bb,off,e',S.lt _ m2.1, λi j hi hj=>(hce _ (m2.2.2.trans k2.symm) _).trans (h2 i j hi hj)⟩,hat.ok,hat.len⟩
 have hnx:=HN.out bx bs bm bf cw Mu Wg cb sb bw A cap e fr sL mD W1 (by unfold kR;simpa using S) hW λa ha=>by
  obtain⟨cur,e2,Qv,k1,k2,k3⟩:=hsL a ha;exact⟨cur,e2,Qv,k1,k3⟩
 clear HN hat hbw hsL hce hW m1 hS S HW;unfold xG JD at hnx;simp only[LP,RP,lQ,fH,fE,jF,Tryz.f13,ak,Nat.reduceEqDiff,if_true,if_false,reduceIte]at hnx;exact cz λbK bO=>hnx bK (eH hF bO) _ _ _ _ _ _ _ _ _ _ _ _ _ _ _ _ _ _ _ _ _ _ _
end
end
section
attribute [local instance] noSh gX
theorem nm_add:((addFn Tryz.link).name== "runtime.NumGoroutine")=false:=by kernel_rfl
theorem nm_wait:((waitFn Tryz.link).name== "runtime.NumGoroutine")=false:=by kernel_rfl
theorem TF:(addFn Tryz.link).body=some (body_add Tryz.link):=by unfold body_add addFn;rfl
theorem Ny:(waitFn Tryz.link).body=some (body_wait Tryz.link):=by unfold body_wait waitFn;rfl
theorem PD(x y:Value):Frame.enter Tryz.prog 34 #[x,y] .normal=(base Tryz.link.add).at ⟨#[x,y]++(List.replicate 115 undef).toArray,[]⟩ [.code (body_add Tryz.link)]:=by
 have h:=enter_at (P:=Tryz.prog) (f:=34) #[x,y] Tryz.mK.f_add TF;rw[h];have e:Array.replicate ((addFn Tryz.link).ntmps-(#[x,y]:Array Value).size) undef=(List.replicate 115 undef).toArray:=by rw[List.toArray_replicate];rfl
 rw[e]
theorem Lu(x:Value):Frame.enter Tryz.prog 41 #[x] .normal=(base Tryz.link.wait).at ⟨#[x]++(List.replicate 83 undef).toArray,[]⟩ [.code (body_wait Tryz.link)]:=by
 have h:=enter_at (P:=Tryz.prog) (f:=41) #[x] Tryz.mK.f_wait Ny;rw[h];have e:Array.replicate ((waitFn Tryz.link).ntmps-(#[x]:Array Value).size) undef=(List.replicate 83 undef).toArray:=by rw[List.toArray_replicate];rfl
 rw[e]
structure Bs(iM:Nat->Prop)(xK:World)(own:Nat->Prop)(W:World):Prop where
 tape:W.tape=xK.tape
 out:W.output=xK.output
 os:OsLater xK.os W.os
 size:xK.heap.size<=W.heap.size
 kept:∀b,iM b->W.heap[b]?=xK.heap[b]?
 sub:∀b,iM b->own b
theorem Bs.rely{iM own:Nat->Prop}{xK W W1:World}{Z:fO}(h:Bs iM xK own W)(hr:dM Z own W W1):Bs iM xK own W1:=
 ⟨hr.tape.trans h.tape,hr.out.trans h.out,h.os.trans hr.os,aS h.size hr.size, λb hb=>(hr.own b (h.sub b hb)).trans (h.kept b hb),h.sub⟩
structure HP(iM:Nat->Prop)(xK:World)(Mu Wg cw cb bs bm bf bw sb:Nat)(ss:List eX)(n:Nat)(own ro:Nat->Prop)(W:World):Prop where
 VG:ro cw
 Y3:ro cb
 Xk:ro bw
 Td:W.cell? ⟨cw,0,none⟩=some (.pointer (some ⟨bw,0,none⟩))
 VI:W.cell? ⟨cb,0,none⟩=some (.func (.func 30) #[] #[.pointer (some ⟨bs,0,none⟩),.pointer (some ⟨bf,0,none⟩),.pointer (some ⟨bm,0,none⟩)])
 Xl:∃A cap e fr,W.heap[bw]?=some (.cells #[.slice A ss.length cap,.int .i64 (n:Int),.int .i64 ((n+1:Nat):Int)] e fr)∧jG W W.heap.size bw ss n (n+1) A cap∧
  ∀a,A=some a->ro a.block∧∃cur e fr,W.heap[a.block]?=some (.cells cur e fr)∧∀x∈cur,eF x=true
 osb:own sb
 vsb:∀j,j<2->W.cell? ⟨sb,j,none⟩=some (.bool (decide (j=1)))
 env:Env Mu Wg own ro W
 mu:wY 79 Mu W
 base:Bs iM xK own W
section
variable {iM:Nat->Prop} {xK:World} {Mu Wg cw cb bs bm bf bw sb:Nat} {ss:List eX} {n:Nat} {own ro:Nat->Prop} {W W1:World} {Z:fO}
theorem HP.rely(h:HP iM xK Mu Wg cw cb bs bm bf bw sb ss n own ro W)(hz:Z.ro=ro)(hs:Z.sy= λb=>b=Mu∨b=Wg)(hr:dM Z own W W1):HP iM xK Mu Wg cw cb bs bm bf bw sb ss n own ro W1:=by
 have hro:∀b,ro b->W1.heap[b]?=W.heap[b]?:= λb hb=>hr.ro b (by rw[hz];exact hb)
 obtain⟨a1,a2,a3,a5,a6,⟨A,cap,e,fr,a8,a9,Te⟩,a7,b1,b2,b3,b4⟩:=h;refine⟨a1,a2,a3,(fJ (hro _ a1) _).trans a5,(fJ (hro _ a2) _).trans a6,⟨A,cap,e,fr,(hro _ a3).trans a8,si a9 (hro _ a3) (λa e _=>hro _ (Te a e).1) hr.size, λa ha=>?_⟩,a7, λj hj=>(fJ (hr.own _ a7) _).trans (b1 j hj),b2.rel (by rw[hs];exact .inr rfl) hr,wZ b3 (hr.sy _ (by rw[hs];exact .inl rfl)),b4.rely hr⟩;obtain⟨h1,cur,e',fr',h2,h3⟩:=Te a ha;exact⟨h1,cur,e',fr',(hro _ h1).trans h2,h3⟩
theorem HP.grow{dD:Nat->Prop}(h:HP iM xK Mu Wg cw cb bs bm bf bw sb ss n own ro W)(hsz:W.heap.size<=W1.heap.size)(ho:∀b,own b->dD b)(hn:∀b,dD b->own b∨(W.heap.size<=b∧b<W1.heap.size))(ht:W1.tape=W.tape∧W1.output=W.output∧W1.os=W.os){x:Nat}(hx:x≠sb∧¬ro x∧x≠Mu∧x≠Wg∧¬iM x)(hk:∀b,b<W.heap.size->b≠x->W1.heap[b]?=W.heap[b]?):HP iM xK Mu Wg cw cb bs bm bf bw sb ss n dD ro W1:=by
 obtain⟨a1,a2,a3,a5,a6,⟨A,cap,e,fr,a8,a9,Te⟩,a7,b1,b2,b3,b4⟩:=h;have hro:∀b,ro b->W1.heap[b]?=W.heap[b]?:= λb hb=>hk b (b2.ro b hb) λe=>hx.2.1 (e ▸ hb)
 refine⟨a1,a2,a3,(fJ (hro _ a1) _).trans a5,(fJ (hro _ a2) _).trans a6,⟨A,cap,e,fr,(hro _ a3).trans a8,si a9 (hro _ a3) (λa e _=>hro _ (Te a e).1) hsz, λa ha=>?_⟩,ho _ a7, λj hj=>(fJ (hk _ (b2.own _ a7).1 λe=>hx.1 e.symm) _).trans (b1 j hj),
  ⟨b2.rs, λb hb=>?_, λb hb=>aK (b2.ro b hb) hsz,aK b2.mu hsz,aK b2.wg hsz,aK b2.ja hsz,?_⟩,?_,⟨ht.1.trans b4.tape,ht.2.1.trans b4.out,by rw[ht.2.2];exact b4.os,aS b4.size hsz, λb hb=>(hk b (b2.own b (b4.sub b hb)).1 λe=>hx.2.2.2.2 (e ▸ hb)).trans (b4.kept b hb), λb hb=>ho b (b4.sub b hb)⟩⟩
 .obtain⟨h1,cur,e',fr',h2,h3⟩:=Te a ha;exact⟨h1,cur,e',fr',(hro _ h1).trans h2,h3⟩
 .rcases hn b hb with h|⟨h1,h2⟩
  .exact⟨aK (b2.own b h).1 hsz,(b2.own b h).2⟩
  .exact⟨h2, λe=>by have :=b2.mu;omega, λe=>by have :=b2.wg;omega, λe=>by have :=b2.ro b e;omega⟩
 .obtain⟨p,q,h⟩:=b2.wl;exact⟨p,q,(hk _ b2.wg λe=>hx.2.2.2.1 e.symm).trans h⟩
 .obtain⟨p,q,h⟩:=b3;exact⟨p,q,(hk _ b2.mu λe=>hx.2.2.1 e.symm).trans h⟩
theorem HP.less{dD:Nat->Prop}(h:HP iM xK Mu Wg cw cb bs bm bf bw sb ss n own ro W)(ho:∀b,dD b->own b)(hs:dD sb)(h0:∀b,iM b->dD b):HP iM xK Mu Wg cw cb bs bm bf bw sb ss n dD ro W:=
 ⟨h.VG,h.Y3,h.Xk,h.Td,h.VI,h.Xl,hs,h.vsb,⟨h.env.rs, λb hb=>h.env.own b (ho b hb),h.env.ro,h.env.mu,h.env.wg,h.env.ja,h.env.wl⟩,h.mu,⟨h.base.tape,h.base.out,h.base.os,h.base.size,h.base.kept,h0⟩⟩
theorem HP.wk{cm:Nat}{m:Bool}{mX:Nat->Prop}(h:HP iM xK Mu Wg cw cb bs bm bf bw sb ss n own ro W)(hc:mX cm)(hv:W.cell? ⟨cm,0,none⟩=some (.bool m)):WK cw cm cb bs bm bf bw ss n m mX ro W:=
 ⟨h.VG,h.Y3,h.Xk,hc,h.Td,h.VI,hv,h.Xl⟩
end
section
variable {Mu Wg cw cb bs bm bf bw sb:Nat} {N:Nat->Nat} {J:Nat->Nat->(Nat->Prop)->World->Prop} {ro:Nat->Prop} {Anch:(Nat->Prop)->Goroutine->World->Prop}
variable {iM:Nat->Prop} {xK:World} {own:Nat->Prop} {W:World} {j n:Nat} {ss:List eX} {fT:Frame} {K':List Frame}
theorem qf:((cfg Mu Wg 86 N J ro Anch).Zs j).sy= λb=>b=Mu∨b=Wg:=by
 funext b;apply propext;exact⟨λh=>h.elim id λh=>az h,.inl⟩
theorem kD{own:Nat->Prop}{w0 w w1:World}{Z:fO}(h:dM Z own w0 w)(hr:dM Z own w w1):dM Z own w0 w1:=h.trans hr
section
variable {b:Frame} {a:Act} {kk:List Item} {cs:List Frame} {w:World} {ops:Array Oper} {i:Nat} {rest:List Nat} {o:Oper} {x:Operand} {cm:Nat} {dD mX:Nat->Prop}
theorem goW(ho:ops[i]?=some o)(hw:Region.wanted o (yielded ops a.tmps)=true)(hk:b.kind≠ .early)(hop:o.op=.go { callee:=.value x,args:= #[],argTypes:= #[] })
 (hx:a.eval x=.func (.func 35) #[] #[.pointer (some ⟨Wg,0,none⟩),.pointer (some ⟨cw,0,none⟩),.pointer (some ⟨cm,0,none⟩),.pointer (some ⟨Mu,0,none⟩),.pointer (some ⟨cb,0,none⟩),.pointer (some ⟨bs,0,none⟩),.pointer (some ⟨bm,0,none⟩),.pointer (some ⟨bf,0,none⟩)]):
 stepG Tryz.prog true (G (b.at a (.inRegion ops (i::rest)::kk)) cs) w=.spawn (G (b.at (a.put o.dst undef) (.inRegion ops rest::kk)) cs) (born Tryz.prog (DL Wg cw cm Mu cb bs bm bf)) w #[]:=by
 have hl:listed Tryz.prog b.fn a o w= #[]:=by
  have:(execOp a.eval o).events Tryz.prog w #[]= #[]:=by
   unfold execOp;simp[hop,hx,resolve,Deferred.ofValue]
  unfold listed;rw[this];exact seen_none Tryz.prog _
 have :=stepG_spawn (P:=Tryz.prog) (main:=true) (w:=w) (w':=w) (cs:=cs) (k:=kk) (rest:=rest) (d:=DL Wg cw cm Mu cb bs bm bf) ho hw hk (by
  unfold execOp DL;simp[hop,hx,resolve,Deferred.ofValue]) rfl
 rw[this,hl]
theorem aj9(ho:ops[i]?=some o)(hw:Region.wanted o (yielded ops a.tmps)=true)(hk:b.kind≠ .early)(hop:o.op=.go { callee:=.value x,args:= #[],argTypes:= #[] })
 (hx:a.eval x=.func (.func 35) #[] #[.pointer (some ⟨Wg,0,none⟩),.pointer (some ⟨cw,0,none⟩),.pointer (some ⟨cm,0,none⟩),.pointer (some ⟨Mu,0,none⟩),.pointer (some ⟨cb,0,none⟩),.pointer (some ⟨bs,0,none⟩),.pointer (some ⟨bm,0,none⟩),.pointer (some ⟨bf,0,none⟩)])
 (h2:∀b,own b↔dD b∨mX b) (h3:∀b,dD b->¬mX b)
 (h4:Gw Tryz.prog true ((cfg Mu Wg 86 N J ro Anch).Zs (j+1)) (At Tryz.prog (cfg Mu Wg 86 N J ro Anch).sys 0 (.st (fV (cfg Mu Wg 86 N J ro Anch) (j+1)) (j+1))) dD (G (b.at (a.put o.dst undef) (.inRegion ops rest::kk)) cs) w)
 (h5:∀k,k≠0->Gw Tryz.prog false ((cfg Mu Wg 86 N J ro Anch).Zw j) (At Tryz.prog (cfg Mu Wg 86 N J ro Anch).sys k (qx N j 0 0)) mX (born Tryz.prog (DL Wg cw cm Mu cb bs bm bf)) w):
 xI Tryz.prog (cfg Mu Wg 86 N J ro Anch).sys (At Tryz.prog (cfg Mu Wg 86 N J ro Anch).sys) 0 (.st .Ct j) own (G (b.at a (.inRegion ops (i::rest)::kk)) cs) w:=
 Yl rfl rfl (goW ho hw hk hop hx) h2 h3 h4 h5
end
theorem TG(hne:Mu≠Wg)(uD:bs≠bm∧bs≠bf∧bm≠bf)(hJ:J=JW Mu Wg bs bm bf ro ss n)(hj:j<2)(hN:∀k,k<2->N k=(iI ss n (decide (k=1))).length)(hn:n<=15)
 (hnext:∀own W,HP iM xK Mu Wg cw cb bs bm bf bw sb ss n own ro W->xG fT K' bs bm bf cw Mu Wg cb sb (j+1) λg=>Gw Tryz.prog true ((cfg Mu Wg 86 N J ro Anch).Zs (j+1)) (At Tryz.prog (cfg Mu Wg 86 N J ro Anch).sys 0 (.st (fV (cfg Mu Wg 86 N J ro Anch) (j+1)) (j+1))) own g W)
 (hp:HP iM xK Mu Wg cw cb bs bm bf bw sb ss n own ro W):
 xG fT K' bs bm bf cw Mu Wg cb sb j λg=>Gw Tryz.prog true ((cfg Mu Wg 86 N J ro Anch).Zs j) (At Tryz.prog (cfg Mu Wg 86 N J ro Anch).sys 0 (.st (fV (cfg Mu Wg 86 N J ro Anch) j) j)) own g W:=by
 intro j0 j1 j6 j11 j12 j13 Zi Zj M9 Na Nb Nc Nf Ng Nh Ni Nj Nk Nl Nn Np Nq Nr;have hnp:fV (cfg Mu Wg 86 N J ro Anch) j=.Ot:=aj hj;rw[hnp];have hnm:¬((cfg Mu Wg 86 N J ro Anch).Zs j).mute:= λh=>h
 have HN:=dw hnext;clear hnext;unfold JD;have hj2:(j:Int)<2:=by omega
 have d0:decide ((j:Int)<2)=true:=decide_eq_true (by omega);simp only[LP,RP,lQ,fH,fE,jF,Tryz.f13,ak,Nat.reduceEqDiff,if_true,if_false,reduceIte];have hF:dM ((cfg Mu Wg 86 N J ro Anch).Zs j) own W W:=dM.refl _;refine dG (n:=60) ?_
 repeat w_nl kD
 refine cz λbJ bH=>?_
 replace hp:=hp.rely rfl qf (kD hF bH);clear hF bH;refine nD (o:=?_) (x:=?_) (ad:=⟨sb,j,none⟩) ?_ ?_ ?_ ?_ ?_ hnm (.inl hp.osb) (hp.vsb j hj) ?_
 rotate_left 2
 iterate 2 rfl
 .k_ne
 iterate 2 rfl
 intro bL bI;replace hp:=hp.rely rfl qf bI;clear bI;walk_nrm;refine Fg (o:=?_) ?_ ?_ ?_ ?_ hnm (λb hb=>by rw[qf]at hb;rcases hb with rfl|rfl;exact hp.env.mu;exact hp.env.wg) ?_
 rotate_left 1
 iterate 2 rfl
 .k_ne
 .rfl
 intro bK bO;replace hp:=hp.rely rfl qf bO;clear bO;have hold:∀c,c<bK.heap.size->(bK.heap.push (.cells #[.bool false] 4))[c]?=bK.heap[c]?:= λc hc=>by rw[Array.getElem?_push_lt hc,aW hc]
 have hcm0:C1 ({ bK with heap:=bK.heap.push (.cells #[.bool false] 4) }:World) bK.heap.size (.bool false):=⟨4,by simp⟩;obtain⟨vU,Fp⟩:∃vU:Nat->Prop,vU=own:=⟨_,rfl⟩;have hlt:∀b,vU b->b<bK.heap.size:= λb hb=>(hp.env.own b (Fp ▸ hb)).1
 have hx:bK.heap.size≠sb∧¬ro bK.heap.size∧bK.heap.size≠Mu∧bK.heap.size≠Wg∧¬iM bK.heap.size:=
  ⟨λe=>by have :=(hp.env.own _ hp.osb).1;omega, λe=>by have :=hp.env.ro _ e;omega, λe=>by have :=hp.env.mu;omega, λe=>by have :=hp.env.wg;omega, λe=>by have :=(hp.env.own _ (hp.base.sub _ e)).1;omega⟩
 have h00:∀b,iM b->vU b:= λb hb=>by rw[Fp];exact hp.base.sub b hb
 replace hp:=hp.grow (W1:={ bK with heap:=bK.heap.push (.cells #[.bool false] 4) }) (dD:= λc=>own c∨c=bK.heap.size) (x:=bK.heap.size) (by simp) (λb hb=>.inl hb) (λb hb=>hb.imp id λe=>⟨by omega,by simp;omega⟩) ⟨rfl,rfl,rfl⟩ hx (λb hb _=>hold b hb);have ak0:∀b,vU b->b≠bK.heap.size:= λb hb e=>by have :=hlt b hb;omega
 have hown2:(λc=>own c∨c=bK.heap.size)= λc=>vU c∨c=bK.heap.size:=by rw[Fp]
 rw[hown2]at hp⊢;have ar0:vU sb:=by rw[Fp];(have :=hp.osb;rw[Fp]at this;exact this.resolve_right λe=>hx.1 e.symm)
 clear hold hlt hown2;clear Fp;generalize bK.heap.size=cm at hp hx ak0 hcm0⊢;generalize({ bK with heap:=bK.heap.push (.cells #[.bool false] 4) }:World)=bP at hp hcm0⊢;clear bK bL bJ;walk_nrm;have Lv:vU cm∨cm=cm:=.inr rfl;refine r9 (n:=decide (j=1)) (o:=?_) (x:=?_) (y:=?_) (ad:=⟨cm,0,none⟩) ?_ ?_ ?_ ?_ ?_ ?_ hnm Lv (λh=>by rw[qf]at h;rcases h with h|h;exact hx.2.2.1 h;exact hx.2.2.2.1 h) hcm0.cell hcm0.free ?_
 rotate_left 3
 iterate 2 rfl
 .k_ne
 iterate 3 rfl
 intro bV d9;replace hp:=hp.rely rfl qf d9;replace hcm0:=(hcm0.same (d9.own _ Lv)).set (.bool (decide (j=1)));have ha:=Go.Conc.aside_setCell bV ⟨cm,0,none⟩ (.bool (decide (j=1)));replace hp:=hp.grow (W1:=bV.setCell ⟨cm,0,none⟩ (.bool (decide (j=1)))) (dD:= λc=>vU c∨c=cm) (x:=cm) (Nat.le_of_eq ha.size.symm) (λb hb=>hb) (λb hb=>.inl hb) ⟨ha.tape,ha.output,ha.os⟩ hx (λb _ hb=>ha.block b λe=>hb (by rw[e]));clear ha d9;generalize(bV.setCell ⟨cm,0,none⟩ (.bool (decide (j=1))))=kE at hp hcm0⊢;clear bV bP;walk_nrm;have hF:dM ((cfg Mu Wg 86 N J ro Anch).Zs j) (λc=>vU c∨c=cm) kE kE:=dM.refl _;refine dG (n:=60) ?_
 repeat w_nl kD
 refine cz λbJ bH=>?_
 replace hp:=hp.rely rfl qf (kD hF bH);replace hcm0:=hcm0.same ((kD hF bH).own _ Lv);clear hF bH;refine nK (o:=?_) (args:=?_) (ats:=?_) ?_ ?_ ?_ ?_ Tryz.mK.f_add nm_add TF ?_
 rotate_left 3
 iterate 2 rfl
 .k_ne
 .rfl
 intro bL bI;replace hp:=hp.rely rfl qf bI;replace hcm0:=hcm0.same (bI.own _ Lv);clear bI;walk_nrm;rw[PD]
 have Py:Beside (cfg Mu Wg 86 N J ro Anch) ((cfg Mu Wg 86 N J ro Anch).Zs j) (λc=>vU c∨c=cm):=
  ⟨λb hb h=>h.elim (hp.env.own b hb).2.1 (hp.env.own b hb).2.2.1, λb hb h=>h.elim (hp.env.rs b hb).1 (hp.env.rs b hb).2, λb i h=>by obtain⟨_,_,_,h⟩:=h;exact az h⟩
 refine dG (n:=100) ?_
 refine an4 (P:=Tryz.prog) (L:=Tryz.link) (C:=cfg Mu Wg 86 N J ro Anch) (W0:=bL) Tryz.mK rfl (FW hne) Py (λw hw=>?_) bL ⟨dM.refl _,hp.env.wl⟩;replace hp:=hp.rely rfl qf hw.1;replace hcm0:=hcm0.same (hw.1.own _ Lv);clear hw;have hF:dM ((cfg Mu Wg 86 N J ro Anch).Zs j) (λc=>vU c∨c=cm) w w:=dM.refl _;refine dG (n:=60) ?_
 walk_nrm
 repeat w_nl kD
 refine cz λbJ bH=>?_
 replace hp:=hp.rely rfl qf (kD hF bH);replace hcm0:=hcm0.same ((kD hF bH).own _ Lv);clear hF bH w bL kE;refine Gw.stop λbL bI=>At.of_law ?_
 replace hp:=hp.rely rfl qf bI;replace hcm0:=hcm0.same (bI.own _ Lv);clear bI bJ;refine aj9 (cw:=cw) (cb:=cb) (bs:=bs) (bm:=bm) (bf:=bf) (cm:=cm) (dD:=vU) (mX:= λc=>c=cm) (o:=?_) (x:=?_) ?_ ?_ ?_ ?_ ?_ (λb=>Iff.rfl) ak0 ?_ (λk hk=>?_)
 rotate_left 2
 iterate 2 rfl
 .k_ne
 iterate 2 rfl
 .replace hp:=hp.less (dD:=vU) (λb hb=>.inl hb) ar0 h00;have hnx:= λw h=>HN.out vU w (hp.rely (Z:=(cfg Mu Wg 86 N J ro Anch).Zs (j+1)) rfl qf h)
  clear HN hcm0 hnm;have hwr:IntKind.i64.wrap ((j:Int)+1)=((j+1:Nat):Int):=by rw[cB];omega
  have hF:dM ((cfg Mu Wg 86 N J ro Anch).Zs (j+1)) vU bL bL:=dM.refl _;unfold xG JD at hnx;simp only[LP,RP,lQ,fH,fE,jF,Tryz.f13,ak,Nat.reduceEqDiff,if_true,if_false,reduceIte]at hnx;refine dG (n:=60) ?_
  walk_nrm
  repeat w_nl kD
  u_c stepG_inLoop kD hF
  exact cz λbK bO=>hnx bK (kD hF bO) _ _ _ _ _ _ _ _ _ _ _ _ _ _ _ _ _ _ _ _ _ _ _
 .refine VT hne hk uD hJ hj hN hn (hp.wk rfl hcm0.cell) ⟨hp.env.rs, λb hb=>hp.env.own b (.inr hb),hp.env.ro,hp.env.mu,hp.env.wg,hp.env.ja,hp.env.wl⟩ hp.mu
end
end
section
attribute [local instance] noSh gX
noncomputable def jH:Array Oper:=((gG 15 lQ).getD (#[],.skip)).1
theorem Zk:RP2=.seq (.region 15 jH true) .ret:=by
 simp only[RP2,jH,lQ,fE,gG,jF,Tryz.f13,ak,Nat.reduceEqDiff,if_true,if_false,reduceIte]
theorem DR:jH.size=7:=by kernel_rfl
theorem Zl:∃o,jH[0]?=some o∧o.op=.load 33 (.tmp 2)∧o.dst=some 31∧o.guard=none:=⟨_,by unfold jH lQ Tryz.f13;rfl,rfl,rfl,rfl⟩
theorem Zm:∃o,jH[1]?=some o∧o.op=.load 4 (.tmp 3)∧o.dst=some 32∧o.guard=none:=⟨_,by unfold jH lQ Tryz.f13;rfl,rfl,rfl,rfl⟩
theorem Zn:∃o,jH[2]?=some o∧o.op=.load 4 (.tmp 4)∧o.dst=some 33∧o.guard=none:=⟨_,by unfold jH lQ Tryz.f13;rfl,rfl,rfl,rfl⟩
theorem Zo:∃o,jH[3]?=some o∧o.op=.store 33 (.tmp 2) (.tmp 31)∧o.dst=none∧o.guard=none∧(o.after.any λe=>e.on==0&&Region.binds .any e)=true:=
 ⟨_,by unfold jH lQ Tryz.f13;rfl,rfl,rfl,rfl,by kernel_rfl⟩
theorem Zq:∃o,jH[4]?=some o∧o.op=.store 4 (.tmp 3) (.tmp 32)∧o.dst=none∧o.guard=none∧(o.after.any λe=>e.on==1&&Region.binds .any e)=true:=
 ⟨_,by unfold jH lQ Tryz.f13;rfl,rfl,rfl,rfl,by kernel_rfl⟩
theorem Zr:∃o,jH[5]?=some o∧o.op=.store 4 (.tmp 4) (.tmp 33)∧o.dst=none∧o.guard=none∧(o.after.any λe=>e.on==2&&Region.binds .any e)=true:=
 ⟨_,by unfold jH lQ Tryz.f13;rfl,rfl,rfl,rfl,by kernel_rfl⟩
theorem Zt:∃o,jH[6]?=some o∧o.op=.assign (.const (.int .i64 0))∧o.dst=some 5∧o.guard=none:=⟨_,by unfold jH lQ Tryz.f13;rfl,rfl,rfl,rfl⟩
theorem GK{o:Oper}{k:Nat}(h:(o.after.any λe=>e.on==k&&Region.binds .any e)=true){l:Array Bool}(ha:(o.after.all λe=>!Region.binds .any e||l.getD e.on false)=true):l.getD k false=true:=by
 rw[Array.any_eq_true]at h;obtain⟨i,hi,h1⟩:=h;rw[Array.all_eq_true]at ha;have h2:=ha i hi;simp only[bB,beq_iff_eq]at h1;rw[h1.2,h1.1]at h2;simpa using h2
structure TQ(bs bm bf:Nat)(A:Option Addr)(cap:Nat)(st:List Int)(eO found:Bool)(T:Array Value)(l:Array Bool):Prop where
 t2:T[2]?=some (.pointer (some ⟨bs,0,none⟩))
 t3:T[3]?=some (.pointer (some ⟨bm,0,none⟩))
 t4:T[4]?=some (.pointer (some ⟨bf,0,none⟩))
 t5:T[5]?=some (.int .i64 0)
 sz:T.size=34
 l0:l.getD 0 false=true->T[31]?=some (.slice A st.length cap)
 l1:l.getD 1 false=true->T[32]?=some (.bool eO)
 l2:l.getD 2 false=true->T[33]?=some (.bool found)
structure F3(bs bm bf:Nat)(A:Option Addr)(cap:Nat)(st:List Int)(eO found:Bool)(own:Nat->Prop)(W:World):Prop where
 gs:own bs
 gm:own bm
 gf:own bf
 vs:∃e,W.heap[bs]?=some (.cells #[.slice A st.length cap] e)
 vm:∃e,W.heap[bm]?=some (.cells #[.bool eO] e)
 vf:∃e,W.heap[bf]?=some (.cells #[.bool found] e)
structure Sm(own:Nat->Prop)(W W':World):Prop where
 tape:W'.tape=W.tape
 out:W'.output=W.output
 os:OsLater W.os W'.os
 size:W.heap.size<=W'.heap.size
 kept:∀b,own b->W'.heap[b]?=W.heap[b]?
theorem Sm.refl(own:Nat->Prop)(W:World):Sm own W W:=⟨rfl,rfl,OsLater.refl _,aJ _, λ_ _=>rfl⟩
theorem Sm.rely{own:Nat->Prop}{W W1 W2:World}(h:Sm own W W1)(hr:dM Z0 own W1 W2):Sm own W W2:=
 ⟨hr.tape.trans h.tape,hr.out.trans h.out,h.os.trans hr.os,aS h.size hr.size, λb hb=>(hr.own b hb).trans (h.kept b hb)⟩
theorem Sm.trans{own:Nat->Prop}{W W1 W2:World}(h:Sm own W W1)(hr:Sm own W1 W2):Sm own W W2:=
 ⟨hr.tape.trans h.tape,hr.out.trans h.out,h.os.trans hr.os,aS h.size hr.size, λb hb=>(hr.kept b hb).trans (h.kept b hb)⟩
theorem Sm.set{own:Nat->Prop}{W:World}{b:Nat}{v:Value}{e:TypeId}(h:W.heap[b]?=some (.cells #[v] e)):Sm own W (W.setCell ⟨b,0,none⟩ v):=by
 have ha:=Go.Conc.aside_setCell W ⟨b,0,none⟩ v;refine⟨ha.tape,ha.output,by rw[ha.os];exact OsLater.refl _,Nat.le_of_eq ha.size.symm, λc _=>?_⟩
 by_cases e:c=b
 .subst e;rw[heap_setCell_same W c 0 _ _ v h,h];rfl
 .exact ha.block c e
theorem F3.sm{bs bm bf:Nat}{A:Option Addr}{cap:Nat}{st:List Int}{eO found:Bool}{own:Nat->Prop}{W W':World}(h:F3 bs bm bf A cap st eO found own W)(hs:Sm own W W'):F3 bs bm bf A cap st eO found own W':=by
 obtain⟨g1,g2,g3,⟨e1,v1⟩,⟨e2,v2⟩,⟨e3,v3⟩⟩:=h;exact⟨g1,g2,g3,⟨e1,(hs.kept _ g1).trans v1⟩,⟨e2,(hs.kept _ g2).trans v2⟩,⟨e3,(hs.kept _ g3).trans v3⟩⟩
theorem mE{W:World}{b:Nat}{v:Value}(h:∃e,W.heap[b]?=some (.cells #[v] e)):W.cell? ⟨b,0,none⟩=some v:=by
 obtain⟨e,h⟩:=h;unfold World.cell?;simp only[h];rfl
theorem DT{W:World}{b:Nat}{v:Value}(h:∃e,W.heap[b]?=some (.cells #[v] e)):W.frozen? ⟨b,0,none⟩=false:=by
 obtain⟨e,h⟩:=h;unfold World.frozen?;simp only[h];rfl
theorem Lx{own:Nat->Prop}{W:World}{b:Nat}{v:Value}(h:∃e,W.heap[b]?=some (.cells #[v] e)):Sm own W (W.setCell ⟨b,0,none⟩ v):=by
 obtain⟨e,h⟩:=h;exact Sm.set h
theorem iN{l:Array Bool}{i k:Nat}(h:(l.setIfInBounds i true).getD k false=true):k=i∨l.getD k false=true:=by
 by_cases e:k=i
 .exact .inl e
 .right;rw[aA,au (Ne.symm e)]at h
  rwa [aA]
end
section
attribute [local instance] noSh gX
section
variable {bs bm bf:Nat} {A:Option Addr} {cap:Nat} {st:List Int} {eO found:Bool} {own:Nat->Prop} {W:World} {cs:List Frame} {kk:List Item} {Stop:(Nat->Prop)->Goroutine->World->Prop}
theorem mF{T:Array Value}{k:Nat}{v:Value}(h:T[k]?=some v):(⟨T,[]⟩:Act).eval (.tmp k)=v:=by
 simp[Act.eval,h]
theorem jX{o:Oper}(h:o.guard=none)(f:Nat->Option Bool):Region.wanted o f=true:=by
 unfold Region.wanted;rw[h]
theorem zh(T:Array Value)(d:Tmp)(v:Value):(⟨T,[]⟩:Act).put (some d) v=⟨T.setIfInBounds d v,[]⟩:=rfl
theorem DU(T:Array Value)(v:Value):(⟨T,[]⟩:Act).put none v=⟨T,[]⟩:=rfl
theorem Zu{main:Bool}{Z:fO}{b:Frame}{a:Act}{ops:Array Oper}{i:Nat}{rest:List Nat}{o:Oper}{x:Operand}(ho:ops[i]?=some o)(hw:Region.wanted o (yielded ops a.tmps)=true)(hk:b.kind≠ .early)(hop:o.op=.assign x)
 (hn:∀W1,dM Z own W W1->Gw Tryz.prog main Z Stop own (G (b.at (a.put o.dst (a.eval x)) (.inRegion ops rest::kk)) cs) W1):
 Gw Tryz.prog main Z Stop own (G (b.at a (.inRegion ops (i::rest)::kk)) cs) W:=
 yA ho hw hk λW1 hr=>⟨_,W1,by unfold execOp;simp only[hop];rfl,qK.refl _, λe he=>by
  unfold execOp at he;simp only[hop]at he;simp at he,by rw[jB];exact hn W1 hr⟩
theorem ak1:∀(fuel t:Nat)(l:Array Bool)(T:Array Value)(W:World),TQ bs bm bf A cap st eO found T l->l.size=7->F3 bs bm bf A cap st eO found own W->
 (∀T' l' W',TQ bs bm bf A cap st eO found T' l'->Sm own W W'->Gw Tryz.prog true Z0 Stop own (G ((base 13).at ⟨T',[]⟩ (.inRegion jH []::kk)) cs) W')->
 Gw Tryz.prog true Z0 Stop own (G ((base 13).at ⟨T,[]⟩ (.inRegion jH (Region.linearise.go .any jH fuel t l [])::kk)) cs) W:=by
 intro fuel;have hnm:¬Z0.mute:= λh=>h
 have hk:(base 13).kind≠ .early:=base_kind _
 induction fuel with
 |zero=>intro t l T W hT hl hF hK;exact hK T l W hT (Sm.refl _ _)
 |succ fuel ih=>
  intro t l T W hT hl hF hK;simp only[Region.linearise.go];split
  .rename_i i hi;rw[linearise_go_acc,List.reverse_singleton,List.singleton_append];have hm:=List.mem_of_getElem? hi;simp only[List.mem_filter,List.mem_range,bB,DR]at hm;obtain⟨h7,_,h2⟩:=hm;clear hi;have hl':(l.setIfInBounds i true).size=7:=by simpa using hl
   have keep:∀(T':Array Value)(W':World),TQ bs bm bf A cap st eO found T' (l.setIfInBounds i true)->Sm own W W'->
    Gw Tryz.prog true Z0 Stop own (G ((base 13).at ⟨T',[]⟩ (.inRegion jH (Region.linearise.go .any jH fuel (t/ ((List.range jH.size).filter λi=>!l.getD i true&&((jH[i]?).map (·.after.all λe=>!Region.binds .any e||l.getD e.on false)).getD false).length) (l.setIfInBounds i true) [])::kk)) cs) W':=
    λT' W' h1 h2=>ih _ _ T' W' h1 hl' (hF.sm h2) λT'' l'' W'' h3 h4=>hK T'' l'' W'' h3 (h2.trans h4)
   have nE:∀d v,d≠2->d≠3->d≠4->d≠5->(∀k,k≠d->(T.setIfInBounds d v)[k]?=T[k]?):= λd v _ _ _ _ k hk=>by rw[au (Ne.symm hk)]
   have hin:∀d v,d<34->(T.setIfInBounds d v)[d]?=some v:= λd v hd=>by rw[aD (by rw[hT.sz];exact hd)]
   obtain rfl|rfl|rfl|rfl|rfl|rfl|rfl:i=0∨i=1∨i=2∨i=3∨i=4∨i=5∨i=6:=by omega
   .obtain⟨o,ho,e1,e2,e3⟩:=Zl;refine VF (ad:=⟨bs,0,none⟩) (p:=A) (l:=st.length) (c:=cap) ho (jX e3 _) hk e1 (mF hT.t2) hnm (.inl hF.gs) (mE hF.vs) λW1 hr=>?_
    rw[e2,zh];refine keep _ _ ⟨?_,?_,?_,?_,by simpa using hT.sz, λ_=>hin 31 _ (by omega), λh=>?_, λh=>?_⟩ ((Sm.refl _ _).rely hr)
    .rw[nE 31 _ (by omega) (by omega) (by omega) (by omega) 2 (by omega)];exact hT.t2
    .rw[nE 31 _ (by omega) (by omega) (by omega) (by omega) 3 (by omega)];exact hT.t3
    .rw[nE 31 _ (by omega) (by omega) (by omega) (by omega) 4 (by omega)];exact hT.t4
    .rw[nE 31 _ (by omega) (by omega) (by omega) (by omega) 5 (by omega)];exact hT.t5
    .rw[nE 31 _ (by omega) (by omega) (by omega) (by omega) 32 (by omega)];exact hT.l1 ((iN h).resolve_left (by omega))
    .rw[nE 31 _ (by omega) (by omega) (by omega) (by omega) 33 (by omega)];exact hT.l2 ((iN h).resolve_left (by omega))
   .obtain⟨o,ho,e1,e2,e3⟩:=Zm;refine nD (ad:=⟨bm,0,none⟩) (n:=eO) ho (jX e3 _) hk e1 (mF hT.t3) hnm (.inl hF.gm) (mE hF.vm) λW1 hr=>?_
    rw[e2,zh];refine keep _ _ ⟨?_,?_,?_,?_,by simpa using hT.sz, λh=>?_, λ_=>hin 32 _ (by omega), λh=>?_⟩ ((Sm.refl _ _).rely hr)
    .rw[nE 32 _ (by omega) (by omega) (by omega) (by omega) 2 (by omega)];exact hT.t2
    .rw[nE 32 _ (by omega) (by omega) (by omega) (by omega) 3 (by omega)];exact hT.t3
    .rw[nE 32 _ (by omega) (by omega) (by omega) (by omega) 4 (by omega)];exact hT.t4
    .rw[nE 32 _ (by omega) (by omega) (by omega) (by omega) 5 (by omega)];exact hT.t5
    .rw[nE 32 _ (by omega) (by omega) (by omega) (by omega) 31 (by omega)];exact hT.l0 ((iN h).resolve_left (by omega))
    .rw[nE 32 _ (by omega) (by omega) (by omega) (by omega) 33 (by omega)];exact hT.l2 ((iN h).resolve_left (by omega))
   .obtain⟨o,ho,e1,e2,e3⟩:=Zn;refine nD (ad:=⟨bf,0,none⟩) (n:=found) ho (jX e3 _) hk e1 (mF hT.t4) hnm (.inl hF.gf) (mE hF.vf) λW1 hr=>?_
    rw[e2,zh];refine keep _ _ ⟨?_,?_,?_,?_,by simpa using hT.sz, λh=>?_, λh=>?_, λ_=>hin 33 _ (by omega)⟩ ((Sm.refl _ _).rely hr)
    .rw[nE 33 _ (by omega) (by omega) (by omega) (by omega) 2 (by omega)];exact hT.t2
    .rw[nE 33 _ (by omega) (by omega) (by omega) (by omega) 3 (by omega)];exact hT.t3
    .rw[nE 33 _ (by omega) (by omega) (by omega) (by omega) 4 (by omega)];exact hT.t4
    .rw[nE 33 _ (by omega) (by omega) (by omega) (by omega) 5 (by omega)];exact hT.t5
    .rw[nE 33 _ (by omega) (by omega) (by omega) (by omega) 31 (by omega)];exact hT.l0 ((iN h).resolve_left (by omega))
    .rw[nE 33 _ (by omega) (by omega) (by omega) (by omega) 32 (by omega)];exact hT.l1 ((iN h).resolve_left (by omega))
   .obtain⟨o,ho,e1,e2,e3,e4⟩:=Zo;have hd:=GK e4 (l:=l) (by rw[ho]at h2;simpa using h2);refine M7 (ad:=⟨bs,0,none⟩) (p:=A) (l:=st.length) (c:=cap) ho (jX e3 _) hk e1 (mF hT.t2) (mF (hT.l0 hd)) hnm hF.gs (λh=>h) (mE hF.vs) (DT hF.vs) λW1 hr=>?_
    rw[e2,DU];refine keep _ _ ⟨hT.t2,hT.t3,hT.t4,hT.t5,hT.sz, λh=>hT.l0 hd, λh=>hT.l1 ((iN h).resolve_left (by omega)), λh=>hT.l2 ((iN h).resolve_left (by omega))⟩ (((Sm.refl own W).rely hr).trans (Lx (hF.sm ((Sm.refl own W).rely hr)).vs))
   .obtain⟨o,ho,e1,e2,e3,e4⟩:=Zq;have hd:=GK e4 (l:=l) (by rw[ho]at h2;simpa using h2);refine r9 (ad:=⟨bm,0,none⟩) (n:=eO) ho (jX e3 _) hk e1 (mF hT.t3) (mF (hT.l1 hd)) hnm hF.gm (λh=>h) (mE hF.vm) (DT hF.vm) λW1 hr=>?_
    rw[e2,DU];refine keep _ _ ⟨hT.t2,hT.t3,hT.t4,hT.t5,hT.sz, λh=>hT.l0 ((iN h).resolve_left (by omega)), λh=>hT.l1 hd, λh=>hT.l2 ((iN h).resolve_left (by omega))⟩ (((Sm.refl own W).rely hr).trans (Lx (hF.sm ((Sm.refl own W).rely hr)).vm))
   .obtain⟨o,ho,e1,e2,e3,e4⟩:=Zr;have hd:=GK e4 (l:=l) (by rw[ho]at h2;simpa using h2);refine r9 (ad:=⟨bf,0,none⟩) (n:=found) ho (jX e3 _) hk e1 (mF hT.t4) (mF (hT.l2 hd)) hnm hF.gf (λh=>h) (mE hF.vf) (DT hF.vf) λW1 hr=>?_
    rw[e2,DU];refine keep _ _ ⟨hT.t2,hT.t3,hT.t4,hT.t5,hT.sz, λh=>hT.l0 ((iN h).resolve_left (by omega)), λh=>hT.l1 ((iN h).resolve_left (by omega)), λh=>hT.l2 hd⟩ (((Sm.refl own W).rely hr).trans (Lx (hF.sm ((Sm.refl own W).rely hr)).vf))
   .obtain⟨o,ho,e1,e2,e3⟩:=Zt;refine Zu ho (jX e3 _) hk e1 λW1 hr=>?_
    rw[e2,zh];have hs5:∀k,k≠5->(T.setIfInBounds 5 (.int .i64 0))[k]?=T[k]?:= λk hk=>by rw[au (Ne.symm hk)]
    refine keep _ _ ⟨?_,?_,?_,hin 5 _ (by omega),by simpa using hT.sz, λh=>?_, λh=>?_, λh=>?_⟩ ((Sm.refl _ _).rely hr)
    .exact(hs5 2 (by omega)).trans hT.t2
    .exact(hs5 3 (by omega)).trans hT.t3
    .exact(hs5 4 (by omega)).trans hT.t4
    .exact(hs5 31 (by omega)).trans (hT.l0 ((iN h).resolve_left (by omega)))
    .exact(hs5 32 (by omega)).trans (hT.l1 ((iN h).resolve_left (by omega)))
    .exact(hs5 33 (by omega)).trans (hT.l2 ((iN h).resolve_left (by omega)))
  .exact hK T l W hT (Sm.refl _ _)
end
end
section
attribute [local instance] noSh gX
section
variable {bs bm bf:Nat} {A:Option Addr} {cap:Nat} {st:List Int} {eO found:Bool} {own:Nat->Prop} {W:World} {c:Frame} {cs:List Frame} {kk:List Item} {Stop:(Nat->Prop)->Goroutine->World->Prop}
theorem GM{P:Program}{main:Bool}{b:Frame}{a:Act}{w:World}{fn:Func}{todo:List Item}{c:Frame}{v:Value}{es:Array Event}(hn:b.kind=.normal)(hd:a.defers= [])(hf:P.funcs[b.fn]?=some fn)
 (hr:(results fn a.tmps).run P w=.ok v w) (he:(results fn a.tmps).events P w #[]=es):
 stepG P main (G { b.at a todo with mode:=.returning } (c::cs)) w=.go (G (c.finish v) cs) w (seen P b.fn es):=by
 subst he;simp[G,stepG,unwind,doReturn,Frame.at,hn,hd,hf,hr,GStep.after]
theorem Zv:Tryz.prog.follows .mixedOrders=true:=by kernel_rfl
theorem Zx{T:Array Value}{l:Array Bool}{W:World}(hT:TQ bs bm bf A cap st eO found T l)(h1:W.cell? ⟨bs,0,none⟩=some (.slice A st.length cap))(h2:W.cell? ⟨bm,0,none⟩=some (.bool eO))(h3:W.cell? ⟨bf,0,none⟩=some (.bool found)):
 (results Tryz.f13 T).run Tryz.prog W=.ok (.tuple #[.slice A st.length cap,.bool eO,.bool found,.int .i64 0]) W∧∀e∈(results Tryz.f13 T).events Tryz.prog W #[],∃b,(b=bs∨b=bm∨b=bf)∧e.loc=.cell ⟨b,0,none⟩∧e.sync=false∧e.write=false:=by
 have g2:T.getD 2 undef=.pointer (some ⟨bs,0,none⟩):=by rw[aA,hT.t2];rfl
 have g3:T.getD 3 undef=.pointer (some ⟨bm,0,none⟩):=by rw[aA,hT.t3];rfl
 have g4:T.getD 4 undef=.pointer (some ⟨bf,0,none⟩):=by rw[aA,hT.t4];rfl
 have g5:T.getD 5 undef=.int .i64 0:=by rw[aA,hT.t5];rfl
 have t2:=hT.t2;have t3:=hT.t3;have t4:=hT.t4;have t5:=hT.t5;have hres:Tryz.f13.results= #[ResultVar.cell 2 33,ResultVar.cell 3 4,ResultVar.cell 4 4,ResultVar.tmp 5]:=by unfold Tryz.f13;rfl
 unfold results;rw[hres];refine⟨by simp[go_sem,t2,t3,t4,t5,h1,h2,h3], λe he=>?_⟩;simp[go_sem,t2,t3,t4,t5,h1,h2,h3]at he;rcases he with rfl|rfl|rfl
 .exact⟨bs,.inl rfl,rfl,rfl,rfl⟩
 .exact⟨bm,.inr (.inl rfl),rfl,rfl,rfl⟩
 .exact⟨bf,.inr (.inr rfl),rfl,rfl,rfl⟩
theorem Gw.drawn{P:Program}{main:Bool}{Z:fO}{b:Frame}{a:Act}{id:Nat}{ops:Array Oper}(hm:P.follows .mixedOrders=true)
 (h:∀W1 t,dM Z own W W1->Gw P main Z Stop own (G (b.at a (.inRegion ops (Region.linearise.go .any ops ops.size t (Array.replicate ops.size false) [])::kk)) cs) { W1 with drawn:=W1.drawn+1 }):
 Gw P main Z Stop own (G (b.at a (.code (.region id ops true)::kk)) cs) W:=by
 refine Gw.xY rfl λW1 hr=>⟨_,_,#[],stepG_region_draw,⟨rfl,rfl,rfl,aJ _, λ_ _ _ _=>rfl, λb _=>⟨tV.refl _, λ_ _=>rfl⟩⟩, λe he=>by simp at he,?_⟩
 have hg:grow own W1 { W1 with drawn:=W1.drawn+1 }=own:=by
  funext x;apply propext;unfold grow
  exact⟨λh=>h.elim (λx=>x) λ⟨h1,h2⟩=>by
   have h2:x<W1.heap.size:=h2;omega,.inl⟩
 rw[hg];have :=h W1 (W1.tape W1.drawn (.order b.fn id)) hr;simp only[Region.schedule,hm,Bool.true_or,if_true,Region.linearise];exact this
theorem ar1{T:Array Value}{own:Nat->Prop}{W:World}(h2:T[2]?=some (.pointer (some ⟨bs,0,none⟩)))(h3:T[3]?=some (.pointer (some ⟨bm,0,none⟩)))(h4:T[4]?=some (.pointer (some ⟨bf,0,none⟩)))(h5:T[5]?=some (.int .i64 0))(hsz:T.size=34)(hF3:F3 bs bm bf A cap st eO found own W)
 (lU:∀W',Sm own W W'->Gw Tryz.prog true Z0 Stop own (G (c.finish (.tuple #[.slice A st.length cap,.bool eO,.bool found,.int .i64 0])) cs) W'):
 Gw Tryz.prog true Z0 Stop own (G ((base 13).at ⟨T,[]⟩ [.code RP2]) (c::cs)) W:=by
 have hF:dM Z0 own W W:=dM.refl _;rw[Zk];refine dG (n:=20) ?_
 u_c stepG_seq eH hF
 refine cz λW1 hr=>?_
 replace hF:=eH hF hr;clear hr;have S1:Sm own W W1:=(Sm.refl own W).rely hF;clear hF;refine Gw.drawn Zv λW2 t hr=>?_
 replace S1:=S1.rely hr;clear hr;have S2:Sm own W { W2 with drawn:=W2.drawn+1 }:=S1.trans ⟨rfl,rfl,OsLater.refl _,aJ _, λ_ _=>rfl⟩;rw[DR];refine ak1 7 t _ T _ ⟨h2,h3,h4,h5,hsz, λh=>?_, λh=>?_, λh=>?_⟩ (by simp) (hF3.sm S2) λT' l' W3 hT' hs=>?_
 .simp at h
 .simp at h
 .simp at h
 replace S2:=S2.trans hs;clear hs S1;have hF:dM Z0 own W3 W3:=dM.refl _;refine dG (n:=20) ?_
 u_c stepG_region_end eH hF
 u_c stepG_ret' eH hF
 refine cz λW4 hr=>?_
 replace S2:=S2.rely (eH hF hr);clear hF hr;refine Gw.xY rfl λW5 hr=>?_
 replace S2:=S2.rely hr;have hf:=hF3.sm S2;obtain⟨r1,r2⟩:=Zx hT' (mE hf.vs) (mE hf.vm) (mE hf.vf);refine⟨_,W5,_,GM (fn:=Tryz.f13) (b:=base 13) (a:=⟨T',[]⟩) rfl rfl Tryz.func13 r1 rfl,qK.refl _, λe he=>?_,by rw[jB];exact lU W5 S2⟩;rw[jB];obtain⟨b,hb,e1,e2,e3⟩:=r2 e (mem_seen he);obtain⟨loc,wr,sy⟩:=e;dsimp only at e1 e2 e3;subst e1 e2 e3;refine⟨λh=>h,rfl,.inl ?_⟩;rcases hb with rfl|rfl|rfl
 .exact hF3.gs
 .exact hF3.gm
 .exact hF3.gf
end
end
section
attribute [local instance] noSh gX
def Xo(fT:Frame)(K':List Frame)(bs bm bf:Nat)(g:Goroutine):Prop:=
 ∃T:Array Value,T[2]?=some (.pointer (some ⟨bs,0,none⟩))∧T[3]?=some (.pointer (some ⟨bm,0,none⟩))∧T[4]?=some (.pointer (some ⟨bf,0,none⟩))∧T[5]?=some (.int .i64 0)∧T.size=34∧g=G ((base 13).at ⟨T,[]⟩ [.code RP2]) (fT::K')
def DV(fT:Frame)(K':List Frame)(bs bm bf:Nat)(ss:List eX)(n:Nat)(iM:Nat->Prop)(xK:World)(own:Nat->Prop)(g:Goroutine)(W:World):Prop:=
 (∃A cap st eO found,Fd bs bm bf A cap st eO found own W∧(∀a,A=some a->¬iM a.block)∧lq (fU ss n (iI ss n false).length (iI ss n true).length) st eO found)∧Bs iM xK own W∧Xo fT K' bs bm bf g
theorem Fd.sub{bs bm bf:Nat}{A:Option Addr}{cap:Nat}{st:List Int}{eO found:Bool}{Gu Gu':Nat->Prop}{W:World}(h:Fd bs bm bf A cap st eO found Gu W)(hs:∀b,Gu b->Gu' b):Fd bs bm bf A cap st eO found Gu' W:=
 ⟨hs _ h.gs,hs _ h.gm,hs _ h.gf,h.vs,h.vm,h.vf,h.sl.sub hs,h.len⟩
section
variable {Mu Wg cw cb bs bm bf bw sb:Nat} {N:Nat->Nat} {J:Nat->Nat->(Nat->Prop)->World->Prop} {ro:Nat->Prop} {Anch:(Nat->Prop)->Goroutine->World->Prop}
variable {iM:Nat->Prop} {xK:World} {own:Nat->Prop} {W:World} {n:Nat} {ss:List eX} {fT:Frame} {K':List Frame}
theorem ak2(hne:Mu≠Wg)(hJ:J=JW Mu Wg bs bm bf ro ss n)(hN:∀k,k<2->N k=(iI ss n (decide (k=1))).length)(hA:Anch=DV fT K' bs bm bf ss n iM xK)
 (hp:HP iM xK Mu Wg cw cb bs bm bf bw sb ss n own ro W):
 xG fT K' bs bm bf cw Mu Wg cb sb 2 λg=>Gw Tryz.prog true ((cfg Mu Wg 86 N J ro Anch).Zs 2) (At Tryz.prog (cfg Mu Wg 86 N J ro Anch).sys 0 (.st (fV (cfg Mu Wg 86 N J ro Anch) 2) 2)) own g W:=by
 intro j0 j1 j6 j11 j12 j13 Zi Zj M9 Na Nb Nc Nf Ng Nh Ni Nj Nk Nl Nn Np Nq Nr;have hnp:fV (cfg Mu Wg 86 N J ro Anch) 2=.kd:=aa (Nat.lt_irrefl 2);rw[hnp];have hnm:¬((cfg Mu Wg 86 N J ro Anch).Zs 2).mute:= λh=>h
 unfold JD;simp only[LP,RP,lQ,fH,fE,jF,Tryz.f13,ak,Nat.reduceEqDiff,if_true,if_false,reduceIte];have hF:dM ((cfg Mu Wg 86 N J ro Anch).Zs 2) own W W:=dM.refl _;refine dG (n:=60) ?_
 repeat w_nl kD
 refine cz λbJ bH=>?_
 replace hp:=hp.rely rfl qf (kD hF bH);clear hF bH;refine nK (o:=?_) (args:=?_) (ats:=?_) ?_ ?_ ?_ ?_ Tryz.mK.f_wait nm_wait Ny ?_
 rotate_left 3
 iterate 2 rfl
 .k_ne
 .rfl
 intro bL bI;replace hp:=hp.rely rfl qf bI;clear bI;walk_nrm;rw[Lu]
 have Py:Beside (cfg Mu Wg 86 N J ro Anch) ((cfg Mu Wg 86 N J ro Anch).Zs 2) own:=
  ⟨λb hb h=>h.elim (hp.env.own b hb).2.1 (hp.env.own b hb).2.2.1, λb hb h=>h.elim (hp.env.rs b hb).1 (hp.env.rs b hb).2, λb i h=>by obtain⟨_,_,_,h⟩:=h;exact az h⟩
 refine ad9 (P:=Tryz.prog) (L:=Tryz.link) (C:=cfg Mu Wg 86 N J ro Anch) (W0:=bL) Tryz.mK rfl (FW hne) Py (λs Gl D Dc dD W w hw hjn hr=>?_) bL ⟨dM.refl _,hp.env.wl⟩;replace hp:=hp.rely rfl qf hw.1
 have hjw:JW Mu Wg bs bm bf ro ss n (N 0) (N 1) Gl W:=by
  have h1:J s.b.c0 s.b.c1 Gl W:=hjn.J;have h2:s.b.c0=N 0∧s.b.c1=N 1:=hjn.fin;rw[h2.1,h2.2,hJ]at h1;exact h1
 have hbs:Bs iM xK dD W:=⟨hp.base.tape,hp.base.out,hp.base.os,hp.base.size,hp.base.kept, λb hb=>hjn.sub b (hp.base.sub b hb)⟩
 have Sz:∃A cap st eO found,Fd bs bm bf A cap st eO found dD W∧(∀a,A=some a->¬iM a.block)∧lq (fU ss n (iI ss n false).length (iI ss n true).length) st eO found:=by
  obtain⟨_,A,cap,st,eO,found,h1,h2⟩:=hjw;rw[hN 0 (by omega),hN 1 (by omega)]at h2;exact⟨A,cap,st,eO,found,h1.sub hjn.an5, λa ha h=>hjn.dis _ (h1.sl.blk a ha).1 (hp.base.sub _ h),h2⟩
 clear hjw hjn hp hw;have hF:dM Z0 dD w w:=dM.refl _;replace hbs:=hbs.rely hr
 replace Sz:∃A cap st eO found,Fd bs bm bf A cap st eO found dD w∧(∀a,A=some a->¬iM a.block)∧lq (fU ss n (iI ss n false).length (iI ss n true).length) st eO found:=by
  obtain⟨A,cap,st,eO,found,h1,h2⟩:=Sz;exact⟨A,cap,st,eO,found,h1.keep hr.own,h2⟩
 clear hr;refine dG (n:=60) ?_
 walk_nrm
 u_c stepG_region_end eH hF
 refine cz λbK bO=>?_
 replace hF:=eH hF bO;clear bO;refine Gw.stop λbP bU=>At.of_law ⟨rfl, λ_=>rfl, λs hs hf=>?_⟩
 replace hF:=eH hF bU;rw[aj (by rfl)];show Anch _ _ _;rw[hA];refine⟨?_,hbs.rely hF,?_⟩
 .obtain⟨A,cap,st,eO,found,h1,h2⟩:=Sz;exact⟨A,cap,st,eO,found,h1.keep hF.own,h2⟩
 .unfold Xo;simp only[RP2,lQ,fE,jF,Tryz.f13,ak,Nat.reduceEqDiff,if_true,if_false,reduceIte];exact⟨_,rfl,rfl,rfl,rfl,rfl,rfl⟩
end
end
section
attribute [local instance] noSh gX
def LA(Post:Value->World->Prop)(b:dO)(dR:Nat->Prop)(W0:World)(fT:Frame)(K':List Frame):Prop:=
 ∀(mJ dD:Nat->Prop)(W':World)(A:Option Addr)(cap:Nat)(st:List Int)(eO found:Bool),lq (fU (fA b (-1)) b.steps.length (iI (fA b (-1)) b.steps.length false).length (iI (fA b (-1)) b.steps.length true).length) st eO found->Sl dD W' A st->(∀a,A=some a->W0.heap.size<=a.block)->st.length<=16->
  W'.tape=W0.tape->W'.output=W0.output->OsLater W0.os W'.os->W0.heap.size<=W'.heap.size->(∀b,dR b->W'.heap[b]?=W0.heap[b]?)->(∀b,dR b->dD b)->(∀b,dD b->dR b∨W0.heap.size<=b)->(∀b,dD b->b<W'.heap.size)->
   iF Tryz.prog Post mJ dD (G (fT.finish (.tuple #[.slice A st.length cap,.bool eO,.bool found,.int .i64 0])) K') W'
section
variable {dR own:Nat->Prop} {W0 W:World} {b:dO} {v:gJ} {fT:Frame} {K':List Frame} {Post:Value->World->Prop} {dead:Nat->Prop}
theorem TH{bs bm bf:Nat}{ss:List eX}{g:Goroutine}(hss:ss=fA b (-1))(hk:LA Post b dR W0 fT K')(hA:DV fT K' bs bm bf ss b.steps.length dR W0 own g W)(hlt:∀b,own b->b<W.heap.size)(hup:∀b,own b->dR b∨W0.heap.size<=b):iF Tryz.prog Post dead own g W:=by
 obtain⟨⟨A,cap,st,eO,found,hf,hfr,iq⟩,hbs,T,h2,h3,h4,h5,hsz,rfl⟩:=hA;subst hss;refine iF.walk (ar1 h2 h3 h4 h5 hsz ⟨hf.gs,hf.gm,hf.gf,hf.vs,hf.vm,hf.vf⟩ λW' hs=>.stop λW2 hr=>?_) rfl rfl;replace hs:=hs.rely hr;have hr':dM Z0 own W W2:=⟨hs.tape,hs.out,hs.os,hs.size,hs.kept, λ_ h=>az h, λ_ h=>az h, λ_ _ h=>az h⟩;exact hk dead own W2 A cap st eO found iq (hf.sl.rely hr') (λa ha=>(hup _ (hf.sl.blk a ha).1).resolve_left (hfr a ha)) hf.len (hs.tape.trans hbs.tape) (hs.out.trans hbs.out) (hbs.os.trans hs.os) (aS hbs.size hs.size) (λx hx=>(hs.kept x (hbs.sub x hx)).trans (hbs.kept x hx)) hbs.sub hup λx hx=>aK (hlt x hx) hs.size
theorem Zy{bx bs bm bf cw Mu Wg cb sb bw:Nat}{A:Option Addr}{cap:Nat}{e:TypeId}{fr:Nat×Nat}{sL:List (Nat×Obj)}(hlt:∀a,dR a->a<W0.heap.size)(ja:Tryz.prog.globals.size<W0.heap.size)(hn:b.steps.length<=15)(hnd:dZ b (-1)=b.steps.length+1)(hk:LA Post b dR W0 fT K')
 (S:Sn dR W0 (kR b v bx bs bm bf cw Mu Wg cb sb bw A cap e fr sL) own W) (hat:jG W W.heap.size bw (fA b (-1)) b.steps.length (dZ b (-1)) A cap) (hsL:∀a,A=some a->∃cur e fr,(a.block,.cells cur e fr)∈sL∧∀x∈cur,eF x=true) {w:World} (hw:dM Z0 own W w):
 xG fT K' bs bm bf cw Mu Wg cb sb 0 λg=>iF Tryz.prog Post dead own g w:=by
 intro j0 j1 j6 j11 j12 j13 Zi Zj M9 Na Nb Nc Nf Ng Nh Ni Nj Nk Nl Nn Np Nq Nr;obtain⟨ss,hss⟩:∃ss,ss=fA b (-1):=⟨_,rfl⟩;obtain⟨n,hnn⟩:∃n,n=b.steps.length:=⟨_,rfl⟩
 replace hat:jG w w.heap.size bw ss n (n+1) A cap:=by
  rw[hss,hnn, <-hnd];refine si hat (hw.own _ (S.has (bw,.cells #[.slice A (fA b (-1)).length cap,.int .i64 (b.steps.length:Int),.int .i64 (dZ b (-1):Int)] e fr) (by simp[kR])).1) (λa ha _=>?_) hw.size;obtain⟨cur,e2,Qv,k1,_⟩:=hsL a ha;exact hw.own _ (S.has (a.block,.cells cur e2 Qv) (by simp[kR,k1])).1
 replace S:=S.rely hw;clear hw
 have hne:Mu≠Wg:=by
  have :=S.nd;simp[kR]at this;omega
 obtain⟨ro,hro⟩:∃ro:Nat->Prop,ro= λx=>x=cw∨x=cb∨x=bw∨∃a,A=some a∧x=a.block:=⟨_,rfl⟩
 obtain⟨Gl,hGl⟩:∃Gl:Nat->Prop,Gl= λx=>x=bs∨x=bm∨x=bf:=⟨_,rfl⟩
 refine iF.phase (S:=(cfg Mu Wg 86 (λk=>(iI ss n (decide (k=1))).length) (JW Mu Wg bs bm bf ro ss n) ro (DV fT K' bs bm bf ss n dR W0)).sys) (an3 (FW hne) (Q0 (.inl rfl) λc0 c1 G w w' h hk=>JW.keep h hk)) (λh1 h2 h3 h4=>ad5 h1 h2 h3 h4) rfl rfl (λW1 hr hd ho=>?_)
 replace hat:jG W1 W1.heap.size bw ss n (n+1) A cap:=by
  refine si hat (hr.own _ (S.has (bw,.cells #[.slice A (fA b (-1)).length cap,.int .i64 (b.steps.length:Int),.int .i64 (dZ b (-1):Int)] e fr) (by simp[kR])).1) (λa ha _=>?_) hr.size;obtain⟨cur,e2,Qv,k1,_⟩:=hsL a ha;exact hr.own _ (S.has (a.block,.cells cur e2 Qv) (by simp[kR,k1])).1
 replace S:=S.rely hr;clear hr;have nd:=S.nd;simp[kR]at nd;obtain⟨⟨s1,s2,s3,s4,s5,s6,s7,s8,s9,s10⟩,⟨c1,c2,c3,c4,c5,c6,c7,c8,c9⟩,⟨g1,g2,g3,g4,g5,g6,g7,g8⟩,⟨u1,u2,u3,u4,u5,u6,u7⟩,⟨w1,w2,w3,w4,w5,w6⟩,⟨x1,x2,x3,x4,x5⟩,nd2⟩:=nd;rw[List.nodup_append]at nd2;obtain⟨_,n1,n2⟩:=nd2;simp at n1;have mSb:=S.has (sb,.cells #[.bool false,.bool true] 4) (by simp[kR]);have mCb:=S.has (cb,.cells #[.func (.func 30) #[] #[.pointer (some ⟨bs,0,none⟩),.pointer (some ⟨bf,0,none⟩),.pointer (some ⟨bm,0,none⟩)]] 90) (by simp[kR]);have mWg:=S.has (Wg,.cells #[.int .u64 0,.int .u32 0] 86) (by simp[kR]);have mMu:=S.has (Mu,.cells #[.int .i32 0,.int .u32 0] 79) (by simp[kR]);have mCw:=S.has (cw,.cells #[.pointer (some ⟨bw,0,none⟩)] 71) (by simp[kR]);have mBw:=S.has (bw,.cells #[.slice A (fA b (-1)).length cap,.int .i64 (b.steps.length:Int),.int .i64 (dZ b (-1):Int)] e fr) (by simp[kR]);have mBf:=S.has (bf,.cells #[.bool false] 4) (by simp[kR]);have mBm:=S.has (bm,.cells #[.bool false] 4) (by simp[kR]);have mBs:=S.has (bs,.cells #[.slice none 0 0] 33) (by simp[kR]);have Td:=S.cell (b:=cw) (v:=.pointer (some ⟨bw,0,none⟩)) (e:=71) (by simp[kR]);have VI:=S.cell (b:=cb) (v:=.func (.func 30) #[] #[.pointer (some ⟨bs,0,none⟩),.pointer (some ⟨bf,0,none⟩),.pointer (some ⟨bm,0,none⟩)]) (e:=90) (by simp[kR]);dsimp only at mSb mCb mWg mMu mCw mBw mBf mBm mBs
 have hA:∀a,A=some a->own a.block∧W0.heap.size<=a.block∧(∃cur e fr,W1.heap[a.block]?=some (.cells cur e fr)∧∀x∈cur,eF x=true)∧a.block≠Mu∧a.block≠Wg∧a.block≠bs∧a.block≠bm∧a.block≠bf∧a.block≠sb:= λa ha=>by
  obtain⟨cur,e2,Qv,k1,k2⟩:=hsL a ha;have m:=S.has (a.block,.cells cur e2 Qv) (by simp[kR,k1]);have k3:a.block∈List.map Prod.fst sL:=List.mem_map.2 ⟨_,k1,rfl⟩;exact⟨m.1,m.2.1,⟨cur,e2,Qv,m.2.2,k2⟩, λh=>u3 _ (h ▸ k1), λh=>g4 _ (h ▸ k1),n2 _ k3 bs (by simp),n2 _ k3 bm (by simp),n2 _ k3 bf (by simp), λh=>s6 _ (h ▸ k1)⟩
 have hroF:∀x,ro x->own x∧W0.heap.size<=x∧x≠Mu∧x≠Wg∧x≠bs∧x≠bm∧x≠bf∧x≠sb:= λx hx=>by
  rw[hro]at hx;rcases hx with rfl|rfl|rfl|⟨a,ha,rfl⟩
  .exact⟨mCw.1,mCw.2.1,Ne.symm u1,Ne.symm g2,w5,w4,w3,Ne.symm s4⟩
  .exact⟨mCb.1,mCb.2.1,c2,c1,c8,c7,c6,Ne.symm s1⟩
  .exact⟨mBw.1,mBw.2.1,Ne.symm u2,Ne.symm g3,x4,x3,x2,Ne.symm s5⟩
  .obtain⟨h1,h2,_,h3⟩:=hA a ha;exact⟨h1,h2,h3⟩
 have JE:∀x,Gl x->own x∧W0.heap.size<=x∧x≠Mu∧x≠Wg∧x≠sb:= λx hx=>by
  rw[hGl]at hx;rcases hx with rfl|rfl|rfl
  .exact⟨mBs.1,mBs.2.1,Ne.symm u6,Ne.symm g7,Ne.symm s9⟩
  .exact⟨mBm.1,mBm.2.1,Ne.symm u5,Ne.symm g6,Ne.symm s8⟩
  .exact⟨mBf.1,mBf.2.1,Ne.symm u4,Ne.symm g5,Ne.symm s7⟩
 have ak3:∀x,ro x->¬Gl x:= λx hx hg=>by
  obtain⟨_,_,_,_,h1,h2,h3,_⟩:=hroF x hx;rw[hGl]at hg;rcases hg with h|h|h
  .exact h1 h
  .exact h2 h
  .exact h3 h
 have hltW:=S.lt;have hup:=S.kept.new;obtain⟨mD,hown1⟩:∃mD:Nat->Prop,mD= λx=>own x∧¬(x=Mu∨x=Wg)∧¬ro x∧¬Gl x:=⟨_,rfl⟩
 have ho1:∀x,mD x->own x∧¬(x=Mu∨x=Wg)∧¬ro x∧¬Gl x:= λx hx=>by rw[hown1]at hx;exact hx
 have ho0:∀x,dR x->mD x:= λx hx=>by
  have hx':=hlt x hx;rw[hown1];refine⟨S.kept.sub x hx, λh=>?_, λh=>?_, λh=>?_⟩
  .rcases h with rfl|rfl
   .have :=mMu.2.1;omega
   .have :=mWg.2.1;omega
  .have :=(hroF x h).2.1;omega
  .have :=(JE x h).2.1;omega
 have ar2:mD sb:=by
  rw[hown1];exact⟨mSb.1, λh=>h.elim s3 s2, λh=>(hroF sb h).2.2.2.2.2.2.2 rfl, λh=>(JE sb h).2.2.2.2 rfl⟩
 have hp:HP dR W0 Mu Wg cw cb bs bm bf bw sb ss n mD ro W1:=by
  refine⟨by rw[hro];exact .inl rfl,by rw[hro];exact .inr (.inl rfl),by rw[hro];exact .inr (.inr (.inl rfl)),Td,VI,⟨A,cap,e,fr,?_,hat, λa ha=>⟨by rw[hro];exact .inr (.inr (.inr ⟨a,ha,rfl⟩)),(hA a ha).2.2.1⟩⟩,ar2, λj hj=>?_,
   ⟨λx hx=>⟨(hroF x hx).2.2.1,(hroF x hx).2.2.2.1⟩, λx hx=>?_, λx hx=>hltW x (hroF x hx).1,hltW _ mMu.1,hltW _ mWg.1,aK ja S.kept.rely.size,⟨0,0,mWg.2.2⟩⟩,⟨0,0,mMu.2.2⟩,⟨S.kept.rely.tape,S.kept.rely.out,S.kept.rely.os,S.kept.rely.size,S.kept.rely.own,ho0⟩⟩
  .rw[hss,hnn, <-hnd];exact mBw.2.2
  .have hc:∀j,W1.cell? ⟨sb,j,none⟩=(#[.bool false,.bool true]:Array Value)[j]?:= λj=>by
    unfold World.cell?;simp only[mSb.2.2];cases(#[.bool false,.bool true]:Array Value)[j]?<;>rfl
   rw[hc]
   match j,hj with
   |0,_=>rfl
   |1,_=>rfl
  .obtain⟨h1,h2,h3,_⟩:=ho1 x hx;exact⟨hltW x h1, λh=>h2 (.inl h), λh=>h2 (.inr h),h3⟩
 have uD:bs≠bm∧bs≠bf∧bm≠bf:=by
  refine⟨λh=>?_, λh=>?_, λh=>?_⟩<;>(subst h;simp at n1)
 have hn':n<=15:=hnn ▸ hn;clear n1 n2 s1 s2 s3 s4 s5 s6 s7 s8 s9 s10 c1 c2 c3 c4 c5 c6 c7 c8 c9 g1 g2 g3 g4 g5 g6 g7 g8 u1 u2 u3 u4 u5 u6 u7 w1 w2 w3 w4 w5 w6 x1 x2 x3 x4 x5;refine⟨mD,.st .Ot 0,⟨0,0,0,false, λ_=>false,⟨0,0,0,0,false⟩⟩,ro,Gl, λ_=>False, λx=>x<W1.heap.size∧¬(x=Mu∨x=Wg)∧¬own x,⟨λx hx=>?_, λx hx=>?_, λx hx=>?_, λx hx=>?_, λx hx=>?_, λx hx=>?_, λx hx=>az hx, λx hx=>hx, λx hx=>hx, λx k hx=>?_, λm hm=>U7 U8 (by show 0<2;omega) hm,rfl,rfl,⟨mWg.2.2,mMu.2.2⟩, λ_=>?_,.inr trivial, λh=>?_,?_⟩, λTt xC g W2 lU hanch hlt2=>?_⟩
 .by_cases h:x=Mu∨x=Wg
  .exact .inl h
  .exact .inr ⟨hd x hx,h, λh2=>(ho x h2).2 hx⟩
 .obtain⟨h1,h2,h3⟩:=hx;exact⟨h1,h2, λh=>h3 (ho1 x h).1, λh=>h3 (hroF x h).1, λh=>h3 (JE x h).1, λh=>h⟩
 .rcases hx with rfl|rfl
  .exact hltW _ mMu.1
  .exact hltW _ mWg.1
 .obtain⟨h1,h2,h3,h4⟩:=ho1 x hx;exact⟨hltW x h1,h2,h3,h4, λh=>h⟩
 .exact⟨hltW x (hroF x hx).1, λh=>h.elim (hroF x hx).2.2.1 (hroF x hx).2.2.2.1⟩
 .exact⟨hltW x (JE x hx).1, λh=>h.elim (JE x hx).2.2.1 (JE x hx).2.2.2.1, λh=>ak3 x h hx⟩
 .obtain⟨_,_,_,h⟩:=hx;exact az h
 .show JW Mu Wg bs bm bf ro ss n 0 0 Gl W1;refine⟨λx hx=>⟨?_,(JE x hx).2.2.1,(JE x hx).2.2.2.1, λh=>ak3 x h hx⟩,none,0,[],false,false,⟨by rw[hGl];exact .inl rfl,by rw[hGl];exact .inr (.inl rfl),by rw[hGl];exact .inr (.inr rfl),⟨33,mBs.2.2⟩,⟨4,mBm.2.2⟩,⟨4,mBf.2.2⟩,⟨λa h=>(by cases h), λh=>absurd h (by simp)⟩,by simp⟩,.inl ⟨rfl,rfl,rfl,rfl⟩⟩;rw[hGl]at hx;rcases hx with rfl|rfl|rfl
  .exact⟨_,mBs.2.2⟩
  .exact⟨_,mBm.2.2⟩
  .exact⟨_,mBf.2.2⟩
 .cases h
 .unfold On;rw[aa (by show¬(false=true);simp)];have h2:= λown W hp=>ak2 (fT:=fT) (K':=K') (iM:=dR) (xK:=W0) (own:=own) (W:=W) (Mu:=Mu) (Wg:=Wg) (cw:=cw) (cb:=cb) (bs:=bs) (bm:=bm) (bf:=bf) (bw:=bw) (sb:=sb) (N:= λk=>(iI ss n (decide (k=1))).length) (J:=JW Mu Wg bs bm bf ro ss n) (ro:=ro) (Anch:=DV fT K' bs bm bf ss n dR W0) hne rfl (λ_ _=>rfl) rfl hp
  have h1:= λown W hp=>TG (fT:=fT) (K':=K') (iM:=dR) (xK:=W0) (own:=own) (W:=W) (j:=1) (Mu:=Mu) (Wg:=Wg) (cw:=cw) (cb:=cb) (bs:=bs) (bm:=bm) (bf:=bf) (bw:=bw) (sb:=sb) (N:= λk=>(iI ss n (decide (k=1))).length) (J:=JW Mu Wg bs bm bf ro ss n) (ro:=ro) (Anch:=DV fT K' bs bm bf ss n dR W0) hne uD rfl (by omega) (λ_ _=>rfl) hn' h2 hp
  exact TG (fT:=fT) (K':=K') (iM:=dR) (xK:=W0) (j:=0) (Mu:=Mu) (Wg:=Wg) (cw:=cw) (cb:=cb) (bs:=bs) (bm:=bm) (bf:=bf) (bw:=bw) (sb:=sb) (N:= λk=>(iI ss n (decide (k=1))).length) (J:=JW Mu Wg bs bm bf ro ss n) (ro:=ro) (Anch:=DV fT K' bs bm bf ss n dR W0) hne uD rfl (by omega) (λ_ _=>rfl) hn' h1 hp _ _ _ _ _ _ _ _ _ _ _ _ _ _ _ _ _ _ _ _ _ _ _
 .have hanch:DV fT K' bs bm bf ss n dR W0 xC g W2:=hanch;subst hnn;refine TH hss hk hanch (λx hx=>(hlt2 x hx).1) λx hx=>?_
  obtain⟨h1,h2⟩:=hlt2 x hx
  by_cases h3:x<W1.heap.size
  .by_cases h4:own x
   .exact(hup x h4).imp (λh=>h) λh=>h.1
   .exact absurd (.inr ⟨h3, λh=>h2 (.inl h),h4⟩) h2
  .right;have :=S.kept.rely.size;omega
end
end
section
attribute [local instance] noSh gX
section
variable {As dR:Nat->Prop} {W0:World} {b:dO} {v:gJ} {fT:Frame} {K':List Frame} {Post:Value->World->Prop} {dead:Nat->Prop}
theorem qcN(hb:qcs dR W0 b v)(ja:Tryz.prog.globals.size<W0.heap.size)(hn:b.steps.length<=15)(hk:LA Post b dR W0 fT K'):
 iF Tryz.prog Post dead dR (G (Frame.enter Tryz.prog 13 #[dY b v] .normal) (fT::K')) W0:=by
 refine iF.lt rfl rfl λho=>iF.walk (aq8 hb (λa ha=>(ho a ha).1) ?_) rfl rfl
 intro bx bs bm bf cw Mu Wg cb sb bw A cap e fr sL own W S hat hsL w hw j0 j1 j6 j11 j12 j13 Zi Zj M9 Na Nb Nc Nf Ng Nh Ni Nj Nk Nl Nn Np Nq Nr;exact .stop λW1 hr=>Zy (λa ha=>(ho a ha).1) ja hn (aa (by omega)) hk S hat hsL (hw.trans hr) _ _ _ _ _ _ _ _ _ _ _ _ _ _ _ _ _ _ _ _ _ _ _
theorem Zz(hb:sj As dR W0 b v)(ja:Tryz.prog.globals.size<W0.heap.size)(hs:b.small)(hc0:fG b=0)(hk:LA Post b dR W0 fT K'):
 iF Tryz.prog Post dead dR (G (Frame.enter Tryz.prog 13 #[dY b v] .normal) (fT::K')) W0:=
 iF.lt rfl rfl λho=>qcN (hb.p (λa ha=>(ho a ha).1) ja hs hc0) ja (by have :=(lM hs hc0).n8;omega) hk
end
end
end Go.Proofs.Tryz
